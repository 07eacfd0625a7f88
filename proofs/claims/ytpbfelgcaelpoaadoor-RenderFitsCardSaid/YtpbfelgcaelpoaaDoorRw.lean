/- RenderFits: the walk (own work). -/
import Derived.Test.YtpbfelgcaelpoaaDoorRh
set_option linter.unusedSimpArgs false
set_option linter.unusedVariables false
namespace Go.Proofs.YtpbfelgcaelpoaaDoor
open Go.AS Go.RowKit
theorem anyV {φ : Phi} {x : Int} (h : (Lit.int .i64 x).wf = true) : VR φ anyI (.int .i64 x) := by
  have h1 : -9223372036854775808 ≤ x := by
    simp [Lit.wf, IntKind.min, IntKind.max, IntKind.signed, IntKind.bits] at h
    omega
  simp only [anyI, VR]
  exact ⟨x, rfl, by simpa using h1⟩
theorem renderFits_walk (a0 a1 : Int) (w0 : (Lit.int .u8 a0).wf = true) (w1 : (Lit.int .i64 a1).wf = true) (W : World) (m : Int) (hm : W.cell? ⟨0, 0, none⟩ = some (.int .i64 m)) :
    Calls Tryd.prog 6 #[.int .u8 a0, .int .i64 a1] W fun e w' => e = .returned (.bool true) ∧ Below W.heap.size W w' := by
  have hb : 0 ≤ a0 ∧ a0 < 256 := by
    simp [Lit.wf, IntKind.min, IntKind.max, IntKind.signed, IntKind.bits] at w0
    omega
  obtain ⟨c, rfl⟩ : ∃ c : Nat, a0 = Int.ofNat c := ⟨a0.toNat, by simp; omega⟩
  have hc : c < 256 := by have := hb.2; simp at this; omega
  refine law_calls (sumsC c fun m => fitsC_all m c hc) Tryd.func6 rfl (by kernel_rfl) (rfits_all m c hc) ?_ hm
  exact ⟨_, _, rfl, by simp [VR], _, _, rfl, anyV w1, rfl⟩
end Go.Proofs.YtpbfelgcaelpoaaDoor
