/- SyntaxCalls: function 1 (own work). -/
import Derived.Test.YtpbfelgcaelpoaaDoorSb
namespace Go.Proofs.YtpbfelgcaelpoaaDoor
open Go.AS
set_option maxRecDepth 100000 in
theorem scalls_true1_0 (m : Int) : upB (scallsOk m true 1) 4 0 = true := by kernel_rfl
set_option maxRecDepth 100000 in
theorem scalls_true1_4 (m : Int) : upB (scallsOk m true 1) 2 4 = true := by kernel_rfl
set_option maxRecDepth 100000 in
theorem scalls_true1_6 (m : Int) : upB (scallsOk m true 1) 2 6 = true := by kernel_rfl
set_option maxRecDepth 100000 in
theorem scalls_false1_0 (m : Int) : upB (scallsOk m false 1) 4 0 = true := by kernel_rfl
set_option maxRecDepth 100000 in
theorem scalls_false1_4 (m : Int) : upB (scallsOk m false 1) 2 4 = true := by kernel_rfl
set_option maxRecDepth 100000 in
theorem scalls_false1_6 (m : Int) : upB (scallsOk m false 1) 2 6 = true := by kernel_rfl
theorem scalls_1 (m : Int) (b : Bool) (n : Nat) (hn : n < 8) : scallsOk m b 1 n = true := by
  rcases (by omega : n < 4 ∨ (4 ≤ n ∧ n < 6) ∨ (6 ≤ n ∧ n < 8)) with h | h | h
  · cases b
    · exact upB_all 4 0 (scalls_false1_0 m) n (by omega) (by omega)
    · exact upB_all 4 0 (scalls_true1_0 m) n (by omega) (by omega)
  · cases b
    · exact upB_all 2 4 (scalls_false1_4 m) n (by omega) (by omega)
    · exact upB_all 2 4 (scalls_true1_4 m) n (by omega) (by omega)
  · cases b
    · exact upB_all 2 6 (scalls_false1_6 m) n (by omega) (by omega)
    · exact upB_all 2 6 (scalls_true1_6 m) n (by omega) (by omega)
end Go.Proofs.YtpbfelgcaelpoaaDoor
