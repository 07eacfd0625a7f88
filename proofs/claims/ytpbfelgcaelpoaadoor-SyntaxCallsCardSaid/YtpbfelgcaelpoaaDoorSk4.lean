/- SyntaxCalls: function 4 (own work). -/
import Derived.Test.YtpbfelgcaelpoaaDoorSb
namespace Go.Proofs.YtpbfelgcaelpoaaDoor
open Go.AS
set_option maxRecDepth 100000 in
theorem scalls_true4_0 (m : Int) : upB (scallsOk m true 4) 4 0 = true := by kernel_rfl
set_option maxRecDepth 100000 in
theorem scalls_true4_4 (m : Int) : upB (scallsOk m true 4) 2 4 = true := by kernel_rfl
set_option maxRecDepth 100000 in
theorem scalls_true4_6 (m : Int) : upB (scallsOk m true 4) 2 6 = true := by kernel_rfl
set_option maxRecDepth 100000 in
theorem scalls_false4_0 (m : Int) : upB (scallsOk m false 4) 4 0 = true := by kernel_rfl
set_option maxRecDepth 100000 in
theorem scalls_false4_4 (m : Int) : upB (scallsOk m false 4) 2 4 = true := by kernel_rfl
set_option maxRecDepth 100000 in
theorem scalls_false4_6 (m : Int) : upB (scallsOk m false 4) 2 6 = true := by kernel_rfl
theorem scalls_4 (m : Int) (b : Bool) (n : Nat) (hn : n < 8) : scallsOk m b 4 n = true := by
  rcases (by omega : n < 4 ∨ (4 ≤ n ∧ n < 6) ∨ (6 ≤ n ∧ n < 8)) with h | h | h
  · cases b
    · exact upB_all 4 0 (scalls_false4_0 m) n (by omega) (by omega)
    · exact upB_all 4 0 (scalls_true4_0 m) n (by omega) (by omega)
  · cases b
    · exact upB_all 2 4 (scalls_false4_4 m) n (by omega) (by omega)
    · exact upB_all 2 4 (scalls_true4_4 m) n (by omega) (by omega)
  · cases b
    · exact upB_all 2 6 (scalls_false4_6 m) n (by omega) (by omega)
    · exact upB_all 2 6 (scalls_true4_6 m) n (by omega) (by omega)
end Go.Proofs.YtpbfelgcaelpoaaDoor
