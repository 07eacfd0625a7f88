/- RenderRules: the walk (own work). -/
import Derived.Test.YtpbfelgcaelpoaaDoorRs
set_option linter.unusedSimpArgs false
set_option linter.unusedVariables false
namespace Go.Proofs.YtpbfelgcaelpoaaDoor
open Go.AS Go.RowKit
theorem renderRules_walk (a0 a1 a2 : Int) (a3 : Bool) (w0 : (Lit.int .i64 a0).wf = true) (w1 : (Lit.int .i64 a1).wf = true) (w2 : (Lit.int .i64 a2).wf = true) (W : World) (m : Int) (hm : W.cell? ⟨0, 0, none⟩ = some (.int .i64 m)) :
    Calls Tryd.prog 8 #[.int .i64 a0, .int .i64 a1, .int .i64 a2, .bool a3] W fun e w' => e = .returned (.bool true) ∧ Below W.heap.size W w' := by
  obtain ⟨p, hp, vp⟩ := resV (φ := φM) (x := a0) (n := 5) (by omega)
  obtain ⟨o, ho, vo⟩ := resV (φ := φM) (x := a1) (n := 4) (by omega)
  obtain ⟨r, hr, vr⟩ := resV (φ := φM) (x := a2) (n := 4) (by omega)
  refine law_calls sumsO Tryd.func8 rfl (by kernel_rfl) (rrule_all m a3 p o r hp ho hr) ?_ hm
  exact ⟨_, _, rfl, vp, _, _, rfl, vo, _, _, rfl, vr, _, _, rfl, by simp [VR], rfl⟩
end Go.Proofs.YtpbfelgcaelpoaaDoor
