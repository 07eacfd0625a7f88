/- SyntaxCalls: function 0 (own work). -/
import Derived.Test.YtpbfelgcaelpoaaDoorSb
namespace Go.Proofs.YtpbfelgcaelpoaaDoor
open Go.AS
set_option maxRecDepth 100000 in
theorem scalls_true0_0 (m : Int) : upB (scallsOk m true 0) 4 0 = true := by kernel_rfl
set_option maxRecDepth 100000 in
theorem scalls_true0_4 (m : Int) : upB (scallsOk m true 0) 2 4 = true := by kernel_rfl
set_option maxRecDepth 100000 in
theorem scalls_true0_6 (m : Int) : upB (scallsOk m true 0) 2 6 = true := by kernel_rfl
set_option maxRecDepth 100000 in
theorem scalls_false0_0 (m : Int) : upB (scallsOk m false 0) 4 0 = true := by kernel_rfl
set_option maxRecDepth 100000 in
theorem scalls_false0_4 (m : Int) : upB (scallsOk m false 0) 2 4 = true := by kernel_rfl
set_option maxRecDepth 100000 in
theorem scalls_false0_6 (m : Int) : upB (scallsOk m false 0) 2 6 = true := by kernel_rfl
theorem scalls_0 (m : Int) (b : Bool) (n : Nat) (hn : n < 8) : scallsOk m b 0 n = true := by
  rcases (by omega : n < 4 ∨ (4 ≤ n ∧ n < 6) ∨ (6 ≤ n ∧ n < 8)) with h | h | h
  · cases b
    · exact upB_all 4 0 (scalls_false0_0 m) n (by omega) (by omega)
    · exact upB_all 4 0 (scalls_true0_0 m) n (by omega) (by omega)
  · cases b
    · exact upB_all 2 4 (scalls_false0_4 m) n (by omega) (by omega)
    · exact upB_all 2 4 (scalls_true0_4 m) n (by omega) (by omega)
  · cases b
    · exact upB_all 2 6 (scalls_false0_6 m) n (by omega) (by omega)
    · exact upB_all 2 6 (scalls_true0_6 m) n (by omega) (by omega)
end Go.Proofs.YtpbfelgcaelpoaaDoor
