/- RenderValues: the walk (own work). -/
import Derived.Test.YtpbfelgcaelpoaaDoorRv
set_option linter.unusedSimpArgs false
set_option linter.unusedVariables false
namespace Go.Proofs.YtpbfelgcaelpoaaDoor
open Go.AS Go.RowKit
theorem renderValues_walk (a0 : Int) (a1 : Bool) (w0 : (Lit.int .i64 a0).wf = true) (W : World) (m : Int) (hm : W.cell? ⟨0, 0, none⟩ = some (.int .i64 m)) :
    Calls Tryd.prog 7 #[.int .i64 a0, .bool a1] W fun e w' => e = .returned (.bool true) ∧ Below W.heap.size W w' := by
  obtain ⟨k, hk, hv⟩ := resV (φ := φM) (x := a0) (n := 9) (by omega)
  refine law_calls sumsO Tryd.func7 rfl (by kernel_rfl) (rvals_all m a1 k hk) ?_ hm
  exact ⟨_, _, rfl, hv, _, _, rfl, by simp [VR], rfl⟩
end Go.Proofs.YtpbfelgcaelpoaaDoor
