/- RenderValues: each way (own work). -/
import Derived.Test.YtpbfelgcaelpoaaDoorRc
namespace Go.Proofs.YtpbfelgcaelpoaaDoor
open Go.AS
set_option maxRecDepth 100000 in
theorem rvals_true0 (m : Int) : upB (rvalsOk m true) 3 0 = true := by kernel_rfl
set_option maxRecDepth 100000 in
theorem rvals_true3 (m : Int) : upB (rvalsOk m true) 3 3 = true := by kernel_rfl
set_option maxRecDepth 100000 in
theorem rvals_true6 (m : Int) : upB (rvalsOk m true) 3 6 = true := by kernel_rfl
set_option maxRecDepth 100000 in
theorem rvals_false0 (m : Int) : upB (rvalsOk m false) 3 0 = true := by kernel_rfl
set_option maxRecDepth 100000 in
theorem rvals_false3 (m : Int) : upB (rvalsOk m false) 3 3 = true := by kernel_rfl
set_option maxRecDepth 100000 in
theorem rvals_false6 (m : Int) : upB (rvalsOk m false) 3 6 = true := by kernel_rfl
theorem rvals_all (m : Int) (b : Bool) (k : Nat) (hk : k < 9) : rvalsOk m b k = true := by
  rcases (by omega : (0 ≤ k ∧ k < 3) ∨ (3 ≤ k ∧ k < 6) ∨ (6 ≤ k ∧ k < 9)) with h | h | h
  · cases b
    · exact upB_all 3 0 (rvals_false0 m) k h.1 (by omega)
    · exact upB_all 3 0 (rvals_true0 m) k h.1 (by omega)
  · cases b
    · exact upB_all 3 3 (rvals_false3 m) k h.1 (by omega)
    · exact upB_all 3 3 (rvals_true3 m) k h.1 (by omega)
  · cases b
    · exact upB_all 3 6 (rvals_false6 m) k h.1 (by omega)
    · exact upB_all 3 6 (rvals_true6 m) k h.1 (by omega)
end Go.Proofs.YtpbfelgcaelpoaaDoor
