/- RenderRules: all (own work). -/
import Derived.Test.YtpbfelgcaelpoaaDoorRr0
import Derived.Test.YtpbfelgcaelpoaaDoorRr1
import Derived.Test.YtpbfelgcaelpoaaDoorRr2
import Derived.Test.YtpbfelgcaelpoaaDoorRr3
import Derived.Test.YtpbfelgcaelpoaaDoorRr4
namespace Go.Proofs.YtpbfelgcaelpoaaDoor
open Go.AS
theorem rrule_all (m : Int) (b : Bool) (p o r : Nat) (hp : p < 5) (ho : o < 4) (hr : r < 4) : rruleOk m b p o r = true := by
  rcases (by omega : p = 0 ∨ p = 1 ∨ p = 2 ∨ p = 3 ∨ p = 4) with rfl | rfl | rfl | rfl | rfl
  · exact rrule_0 m b o r ho hr
  · exact rrule_1 m b o r ho hr
  · exact rrule_2 m b o r ho hr
  · exact rrule_3 m b o r ho hr
  · exact rrule_4 m b o r ho hr
end Go.Proofs.YtpbfelgcaelpoaaDoor
