/- SyntaxDeep: runs, part 6 (own work). -/
import Derived.Test.YtpbfelgcaelpoaaDoorSe
namespace Go.Proofs.YtpbfelgcaelpoaaDoor
open Go.AS
set_option maxRecDepth 100000 in
theorem deep_false8 (m : Int) : upB (deepOk m false) 4 8 = true := by kernel_rfl
set_option maxRecDepth 100000 in
theorem deep_false12 (m : Int) : upB (deepOk m false) 3 12 = true := by kernel_rfl
set_option maxRecDepth 100000 in
theorem deep_false15 (m : Int) : upB (deepOk m false) 2 15 = true := by kernel_rfl
set_option maxRecDepth 100000 in
theorem deep_false17 (m : Int) : upB (deepOk m false) 2 17 = true := by kernel_rfl
set_option maxRecDepth 100000 in
theorem deep_false19 (m : Int) : upB (deepOk m false) 2 19 = true := by kernel_rfl
set_option maxRecDepth 100000 in
theorem deep_false21 (m : Int) : upB (deepOk m false) 1 21 = true := by kernel_rfl
set_option maxRecDepth 100000 in
theorem deep_false22 (m : Int) : upB (deepOk m false) 1 22 = true := by kernel_rfl
set_option maxRecDepth 100000 in
theorem deep_false23 (m : Int) : upB (deepOk m false) 1 23 = true := by kernel_rfl
end Go.Proofs.YtpbfelgcaelpoaaDoor
