/- RenderRules: 1 prerequisites (own work). -/
import Derived.Test.YtpbfelgcaelpoaaDoorRc
namespace Go.Proofs.YtpbfelgcaelpoaaDoor
open Go.AS
set_option maxRecDepth 100000 in
theorem rrule_true10 (m : Int) : upB (rruleOk m true 1 0) 4 0 = true := by kernel_rfl
set_option maxRecDepth 100000 in
theorem rrule_true11 (m : Int) : upB (rruleOk m true 1 1) 4 0 = true := by kernel_rfl
set_option maxRecDepth 100000 in
theorem rrule_true12 (m : Int) : upB (rruleOk m true 1 2) 4 0 = true := by kernel_rfl
set_option maxRecDepth 100000 in
theorem rrule_true13 (m : Int) : upB (rruleOk m true 1 3) 4 0 = true := by kernel_rfl
set_option maxRecDepth 100000 in
theorem rrule_false10 (m : Int) : upB (rruleOk m false 1 0) 4 0 = true := by kernel_rfl
set_option maxRecDepth 100000 in
theorem rrule_false11 (m : Int) : upB (rruleOk m false 1 1) 4 0 = true := by kernel_rfl
set_option maxRecDepth 100000 in
theorem rrule_false12 (m : Int) : upB (rruleOk m false 1 2) 4 0 = true := by kernel_rfl
set_option maxRecDepth 100000 in
theorem rrule_false13 (m : Int) : upB (rruleOk m false 1 3) 4 0 = true := by kernel_rfl
theorem rrule_1 (m : Int) (b : Bool) (o r : Nat) (ho : o < 4) (hr : r < 4) : rruleOk m b 1 o r = true := by
  rcases (by omega : o = 0 ∨ o = 1 ∨ o = 2 ∨ o = 3) with rfl | rfl | rfl | rfl
  · cases b
    · exact upB_all 4 0 (rrule_false10 m) r (by omega) (by omega)
    · exact upB_all 4 0 (rrule_true10 m) r (by omega) (by omega)
  · cases b
    · exact upB_all 4 0 (rrule_false11 m) r (by omega) (by omega)
    · exact upB_all 4 0 (rrule_true11 m) r (by omega) (by omega)
  · cases b
    · exact upB_all 4 0 (rrule_false12 m) r (by omega) (by omega)
    · exact upB_all 4 0 (rrule_true12 m) r (by omega) (by omega)
  · cases b
    · exact upB_all 4 0 (rrule_false13 m) r (by omega) (by omega)
    · exact upB_all 4 0 (rrule_true13 m) r (by omega) (by omega)
end Go.Proofs.YtpbfelgcaelpoaaDoor
