/- SyntaxDeep: runs, part 9 (own work). -/
import Derived.Test.YtpbfelgcaelpoaaDoorSe
namespace Go.Proofs.YtpbfelgcaelpoaaDoor
open Go.AS
set_option maxRecDepth 100000 in
theorem deep_false40 (m : Int) : upB (deepOk m false) 1 40 = true := by kernel_rfl
set_option maxRecDepth 100000 in
theorem deep_false41 (m : Int) : upB (deepOk m false) 1 41 = true := by kernel_rfl
set_option maxRecDepth 100000 in
theorem deep_false42 (m : Int) : upB (deepOk m false) 1 42 = true := by kernel_rfl
set_option maxRecDepth 100000 in
theorem deep_false43 (m : Int) : upB (deepOk m false) 1 43 = true := by kernel_rfl
set_option maxRecDepth 100000 in
theorem deep_false44 (m : Int) : upB (deepOk m false) 1 44 = true := by kernel_rfl
set_option maxRecDepth 100000 in
theorem deep_false45 (m : Int) : upB (deepOk m false) 1 45 = true := by kernel_rfl
set_option maxRecDepth 100000 in
theorem deep_false46 (m : Int) : upB (deepOk m false) 1 46 = true := by kernel_rfl
end Go.Proofs.YtpbfelgcaelpoaaDoor
