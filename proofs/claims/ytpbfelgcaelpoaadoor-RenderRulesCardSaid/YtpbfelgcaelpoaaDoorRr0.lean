/- RenderRules: 0 prerequisites (own work). -/
import Derived.Test.YtpbfelgcaelpoaaDoorRc
namespace Go.Proofs.YtpbfelgcaelpoaaDoor
open Go.AS
set_option maxRecDepth 100000 in
theorem rrule_true00 (m : Int) : upB (rruleOk m true 0 0) 4 0 = true := by kernel_rfl
set_option maxRecDepth 100000 in
theorem rrule_true01 (m : Int) : upB (rruleOk m true 0 1) 4 0 = true := by kernel_rfl
set_option maxRecDepth 100000 in
theorem rrule_true02 (m : Int) : upB (rruleOk m true 0 2) 4 0 = true := by kernel_rfl
set_option maxRecDepth 100000 in
theorem rrule_true03 (m : Int) : upB (rruleOk m true 0 3) 4 0 = true := by kernel_rfl
set_option maxRecDepth 100000 in
theorem rrule_false00 (m : Int) : upB (rruleOk m false 0 0) 4 0 = true := by kernel_rfl
set_option maxRecDepth 100000 in
theorem rrule_false01 (m : Int) : upB (rruleOk m false 0 1) 4 0 = true := by kernel_rfl
set_option maxRecDepth 100000 in
theorem rrule_false02 (m : Int) : upB (rruleOk m false 0 2) 4 0 = true := by kernel_rfl
set_option maxRecDepth 100000 in
theorem rrule_false03 (m : Int) : upB (rruleOk m false 0 3) 4 0 = true := by kernel_rfl
theorem rrule_0 (m : Int) (b : Bool) (o r : Nat) (ho : o < 4) (hr : r < 4) : rruleOk m b 0 o r = true := by
  rcases (by omega : o = 0 ∨ o = 1 ∨ o = 2 ∨ o = 3) with rfl | rfl | rfl | rfl
  · cases b
    · exact upB_all 4 0 (rrule_false00 m) r (by omega) (by omega)
    · exact upB_all 4 0 (rrule_true00 m) r (by omega) (by omega)
  · cases b
    · exact upB_all 4 0 (rrule_false01 m) r (by omega) (by omega)
    · exact upB_all 4 0 (rrule_true01 m) r (by omega) (by omega)
  · cases b
    · exact upB_all 4 0 (rrule_false02 m) r (by omega) (by omega)
    · exact upB_all 4 0 (rrule_true02 m) r (by omega) (by omega)
  · cases b
    · exact upB_all 4 0 (rrule_false03 m) r (by omega) (by omega)
    · exact upB_all 4 0 (rrule_true03 m) r (by omega) (by omega)
end Go.Proofs.YtpbfelgcaelpoaaDoor
