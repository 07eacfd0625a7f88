/- SyntaxDeep: runs, part 10 (own work). -/
import Derived.Test.YtpbfelgcaelpoaaDoorSe
namespace Go.Proofs.YtpbfelgcaelpoaaDoor
open Go.AS
set_option maxRecDepth 100000 in
theorem deep_false47 (m : Int) : upB (deepOk m false) 1 47 = true := by kernel_rfl
set_option maxRecDepth 100000 in
theorem deep_false48 (m : Int) : upB (deepOk m false) 1 48 = true := by kernel_rfl
set_option maxRecDepth 100000 in
theorem deep_false49 (m : Int) : upB (deepOk m false) 1 49 = true := by kernel_rfl
set_option maxRecDepth 100000 in
theorem deep_false50 (m : Int) : upB (deepOk m false) 1 50 = true := by kernel_rfl
set_option maxRecDepth 100000 in
theorem deep_false51 (m : Int) : upB (deepOk m false) 1 51 = true := by kernel_rfl
set_option maxRecDepth 100000 in
theorem deep_false52 (m : Int) : upB (deepOk m false) 1 52 = true := by kernel_rfl
set_option maxRecDepth 100000 in
theorem deep_false53 (m : Int) : upB (deepOk m false) 1 53 = true := by kernel_rfl
end Go.Proofs.YtpbfelgcaelpoaaDoor
