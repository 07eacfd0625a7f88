/- SyntaxDeep: runs, part 5 (own work). -/
import Derived.Test.YtpbfelgcaelpoaaDoorSe
namespace Go.Proofs.YtpbfelgcaelpoaaDoor
open Go.AS
set_option maxRecDepth 100000 in
theorem deep_true54 (m : Int) : upB (deepOk m true) 1 54 = true := by kernel_rfl
set_option maxRecDepth 100000 in
theorem deep_true55 (m : Int) : upB (deepOk m true) 1 55 = true := by kernel_rfl
set_option maxRecDepth 100000 in
theorem deep_true56 (m : Int) : upB (deepOk m true) 1 56 = true := by kernel_rfl
set_option maxRecDepth 100000 in
theorem deep_true57 (m : Int) : upB (deepOk m true) 1 57 = true := by kernel_rfl
set_option maxRecDepth 100000 in
theorem deep_true58 (m : Int) : upB (deepOk m true) 1 58 = true := by kernel_rfl
set_option maxRecDepth 100000 in
theorem deep_true59 (m : Int) : upB (deepOk m true) 1 59 = true := by kernel_rfl
set_option maxRecDepth 100000 in
theorem deep_false0 (m : Int) : upB (deepOk m false) 8 0 = true := by kernel_rfl
end Go.Proofs.YtpbfelgcaelpoaaDoor
