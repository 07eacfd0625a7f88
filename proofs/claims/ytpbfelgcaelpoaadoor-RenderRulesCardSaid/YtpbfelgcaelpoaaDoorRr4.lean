/- RenderRules: 4 prerequisites (own work). -/
import Derived.Test.YtpbfelgcaelpoaaDoorRc
namespace Go.Proofs.YtpbfelgcaelpoaaDoor
open Go.AS
set_option maxRecDepth 100000 in
theorem rrule_true40 (m : Int) : upB (rruleOk m true 4 0) 4 0 = true := by kernel_rfl
set_option maxRecDepth 100000 in
theorem rrule_true41 (m : Int) : upB (rruleOk m true 4 1) 4 0 = true := by kernel_rfl
set_option maxRecDepth 100000 in
theorem rrule_true42 (m : Int) : upB (rruleOk m true 4 2) 4 0 = true := by kernel_rfl
set_option maxRecDepth 100000 in
theorem rrule_true43 (m : Int) : upB (rruleOk m true 4 3) 4 0 = true := by kernel_rfl
set_option maxRecDepth 100000 in
theorem rrule_false40 (m : Int) : upB (rruleOk m false 4 0) 4 0 = true := by kernel_rfl
set_option maxRecDepth 100000 in
theorem rrule_false41 (m : Int) : upB (rruleOk m false 4 1) 4 0 = true := by kernel_rfl
set_option maxRecDepth 100000 in
theorem rrule_false42 (m : Int) : upB (rruleOk m false 4 2) 4 0 = true := by kernel_rfl
set_option maxRecDepth 100000 in
theorem rrule_false43 (m : Int) : upB (rruleOk m false 4 3) 4 0 = true := by kernel_rfl
theorem rrule_4 (m : Int) (b : Bool) (o r : Nat) (ho : o < 4) (hr : r < 4) : rruleOk m b 4 o r = true := by
  rcases (by omega : o = 0 ∨ o = 1 ∨ o = 2 ∨ o = 3) with rfl | rfl | rfl | rfl
  · cases b
    · exact upB_all 4 0 (rrule_false40 m) r (by omega) (by omega)
    · exact upB_all 4 0 (rrule_true40 m) r (by omega) (by omega)
  · cases b
    · exact upB_all 4 0 (rrule_false41 m) r (by omega) (by omega)
    · exact upB_all 4 0 (rrule_true41 m) r (by omega) (by omega)
  · cases b
    · exact upB_all 4 0 (rrule_false42 m) r (by omega) (by omega)
    · exact upB_all 4 0 (rrule_true42 m) r (by omega) (by omega)
  · cases b
    · exact upB_all 4 0 (rrule_false43 m) r (by omega) (by omega)
    · exact upB_all 4 0 (rrule_true43 m) r (by omega) (by omega)
end Go.Proofs.YtpbfelgcaelpoaaDoor
