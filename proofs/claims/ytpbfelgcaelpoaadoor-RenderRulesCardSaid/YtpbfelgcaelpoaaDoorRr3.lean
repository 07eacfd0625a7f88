/- RenderRules: 3 prerequisites (own work). -/
import Derived.Test.YtpbfelgcaelpoaaDoorRc
namespace Go.Proofs.YtpbfelgcaelpoaaDoor
open Go.AS
set_option maxRecDepth 100000 in
theorem rrule_true30 (m : Int) : upB (rruleOk m true 3 0) 4 0 = true := by kernel_rfl
set_option maxRecDepth 100000 in
theorem rrule_true31 (m : Int) : upB (rruleOk m true 3 1) 4 0 = true := by kernel_rfl
set_option maxRecDepth 100000 in
theorem rrule_true32 (m : Int) : upB (rruleOk m true 3 2) 4 0 = true := by kernel_rfl
set_option maxRecDepth 100000 in
theorem rrule_true33 (m : Int) : upB (rruleOk m true 3 3) 4 0 = true := by kernel_rfl
set_option maxRecDepth 100000 in
theorem rrule_false30 (m : Int) : upB (rruleOk m false 3 0) 4 0 = true := by kernel_rfl
set_option maxRecDepth 100000 in
theorem rrule_false31 (m : Int) : upB (rruleOk m false 3 1) 4 0 = true := by kernel_rfl
set_option maxRecDepth 100000 in
theorem rrule_false32 (m : Int) : upB (rruleOk m false 3 2) 4 0 = true := by kernel_rfl
set_option maxRecDepth 100000 in
theorem rrule_false33 (m : Int) : upB (rruleOk m false 3 3) 4 0 = true := by kernel_rfl
theorem rrule_3 (m : Int) (b : Bool) (o r : Nat) (ho : o < 4) (hr : r < 4) : rruleOk m b 3 o r = true := by
  rcases (by omega : o = 0 ∨ o = 1 ∨ o = 2 ∨ o = 3) with rfl | rfl | rfl | rfl
  · cases b
    · exact upB_all 4 0 (rrule_false30 m) r (by omega) (by omega)
    · exact upB_all 4 0 (rrule_true30 m) r (by omega) (by omega)
  · cases b
    · exact upB_all 4 0 (rrule_false31 m) r (by omega) (by omega)
    · exact upB_all 4 0 (rrule_true31 m) r (by omega) (by omega)
  · cases b
    · exact upB_all 4 0 (rrule_false32 m) r (by omega) (by omega)
    · exact upB_all 4 0 (rrule_true32 m) r (by omega) (by omega)
  · cases b
    · exact upB_all 4 0 (rrule_false33 m) r (by omega) (by omega)
    · exact upB_all 4 0 (rrule_true33 m) r (by omega) (by omega)
end Go.Proofs.YtpbfelgcaelpoaaDoor
