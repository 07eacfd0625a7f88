/- SyntaxDeep: the walk (own work). -/
import Derived.Test.YtpbfelgcaelpoaaDoorSg
set_option linter.unusedVariables false
namespace Go.Proofs.YtpbfelgcaelpoaaDoor
open Go.AS Go.RowKit
theorem syntaxDeep_walk (a0 : Int) (a1 : Bool) (w0 : (Lit.int .i64 a0).wf = true) (W : World) (m : Int) (hm : W.cell? ⟨0, 0, none⟩ = some (.int .i64 m)) :
    Calls Tryd.prog 3 #[.int .i64 a0, .bool a1] W fun e w' => e = .returned (.bool true) ∧ Below W.heap.size W w' := by
  obtain ⟨n, hn, vn⟩ := resVS (φ := φM) (x := a0) (n := 60) (by omega)
  refine law_callsS sums2e Tryd.func3 rfl (by kernel_rfl) (deep_all m a1 n hn) ?_ hm
  exact ⟨_, _, rfl, vn, _, _, rfl, by simp [VR], rfl⟩
end Go.Proofs.YtpbfelgcaelpoaaDoor
