/- RenderRules: 2 prerequisites (own work). -/
import Derived.Test.YtpbfelgcaelpoaaDoorRc
namespace Go.Proofs.YtpbfelgcaelpoaaDoor
open Go.AS
set_option maxRecDepth 100000 in
theorem rrule_true20 (m : Int) : upB (rruleOk m true 2 0) 4 0 = true := by kernel_rfl
set_option maxRecDepth 100000 in
theorem rrule_true21 (m : Int) : upB (rruleOk m true 2 1) 4 0 = true := by kernel_rfl
set_option maxRecDepth 100000 in
theorem rrule_true22 (m : Int) : upB (rruleOk m true 2 2) 4 0 = true := by kernel_rfl
set_option maxRecDepth 100000 in
theorem rrule_true23 (m : Int) : upB (rruleOk m true 2 3) 4 0 = true := by kernel_rfl
set_option maxRecDepth 100000 in
theorem rrule_false20 (m : Int) : upB (rruleOk m false 2 0) 4 0 = true := by kernel_rfl
set_option maxRecDepth 100000 in
theorem rrule_false21 (m : Int) : upB (rruleOk m false 2 1) 4 0 = true := by kernel_rfl
set_option maxRecDepth 100000 in
theorem rrule_false22 (m : Int) : upB (rruleOk m false 2 2) 4 0 = true := by kernel_rfl
set_option maxRecDepth 100000 in
theorem rrule_false23 (m : Int) : upB (rruleOk m false 2 3) 4 0 = true := by kernel_rfl
theorem rrule_2 (m : Int) (b : Bool) (o r : Nat) (ho : o < 4) (hr : r < 4) : rruleOk m b 2 o r = true := by
  rcases (by omega : o = 0 ∨ o = 1 ∨ o = 2 ∨ o = 3) with rfl | rfl | rfl | rfl
  · cases b
    · exact upB_all 4 0 (rrule_false20 m) r (by omega) (by omega)
    · exact upB_all 4 0 (rrule_true20 m) r (by omega) (by omega)
  · cases b
    · exact upB_all 4 0 (rrule_false21 m) r (by omega) (by omega)
    · exact upB_all 4 0 (rrule_true21 m) r (by omega) (by omega)
  · cases b
    · exact upB_all 4 0 (rrule_false22 m) r (by omega) (by omega)
    · exact upB_all 4 0 (rrule_true22 m) r (by omega) (by omega)
  · cases b
    · exact upB_all 4 0 (rrule_false23 m) r (by omega) (by omega)
    · exact upB_all 4 0 (rrule_true23 m) r (by omega) (by omega)
end Go.Proofs.YtpbfelgcaelpoaaDoor
