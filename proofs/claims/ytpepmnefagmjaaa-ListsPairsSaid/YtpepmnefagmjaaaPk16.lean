/- ListsPairs: 16 of the first list, any number of the second (own work). -/
import Derived.Test.YtpepmnefagmjaaaPb
namespace Go.Proofs.Ytpepmnefagmjaaa
set_option maxRecDepth 100000 in
theorem pairs_row16_0 : pairsRow 16 5 0 = true := by kernel_rfl
set_option maxRecDepth 100000 in
theorem pairs_row16_1 : pairsRow 16 5 5 = true := by kernel_rfl
set_option maxRecDepth 100000 in
theorem pairs_row16_2 : pairsRow 16 5 10 = true := by kernel_rfl
set_option maxRecDepth 100000 in
theorem pairs_row16_3 : pairsRow 16 5 15 = true := by kernel_rfl
theorem pairs_row16 (j : Nat) (hj : j < 20) : pairsOk 16 j = true := by
  rcases (by omega : j < 5 ∨ (5 ≤ j ∧ j < 10) ∨ (10 ≤ j ∧ j < 15) ∨ (15 ≤ j ∧ j < 20)) with h | h | h | h
  · have := pairsRow_all 5 0 pairs_row16_0 j h
    rwa [Nat.zero_add] at this
  · have := pairsRow_all 5 5 pairs_row16_1 (j - 5) (by omega)
    rwa [show 5 + (j - 5) = j by omega] at this
  · have := pairsRow_all 5 10 pairs_row16_2 (j - 10) (by omega)
    rwa [show 10 + (j - 10) = j by omega] at this
  · have := pairsRow_all 5 15 pairs_row16_3 (j - 15) (by omega)
    rwa [show 15 + (j - 15) = j by omega] at this
end Go.Proofs.Ytpepmnefagmjaaa
