/- SyntaxDeep: runs, part 11 (own work). -/
import Derived.Test.YtpbfelgcaelpoaaDoorSe
namespace Go.Proofs.YtpbfelgcaelpoaaDoor
open Go.AS
set_option maxRecDepth 100000 in
theorem deep_false54 (m : Int) : upB (deepOk m false) 1 54 = true := by kernel_rfl
set_option maxRecDepth 100000 in
theorem deep_false55 (m : Int) : upB (deepOk m false) 1 55 = true := by kernel_rfl
set_option maxRecDepth 100000 in
theorem deep_false56 (m : Int) : upB (deepOk m false) 1 56 = true := by kernel_rfl
set_option maxRecDepth 100000 in
theorem deep_false57 (m : Int) : upB (deepOk m false) 1 57 = true := by kernel_rfl
set_option maxRecDepth 100000 in
theorem deep_false58 (m : Int) : upB (deepOk m false) 1 58 = true := by kernel_rfl
set_option maxRecDepth 100000 in
theorem deep_false59 (m : Int) : upB (deepOk m false) 1 59 = true := by kernel_rfl
end Go.Proofs.YtpbfelgcaelpoaaDoor
