/- SyntaxDeep: runs, part 3 (own work). -/
import Derived.Test.YtpbfelgcaelpoaaDoorSe
namespace Go.Proofs.YtpbfelgcaelpoaaDoor
open Go.AS
set_option maxRecDepth 100000 in
theorem deep_true40 (m : Int) : upB (deepOk m true) 1 40 = true := by kernel_rfl
set_option maxRecDepth 100000 in
theorem deep_true41 (m : Int) : upB (deepOk m true) 1 41 = true := by kernel_rfl
set_option maxRecDepth 100000 in
theorem deep_true42 (m : Int) : upB (deepOk m true) 1 42 = true := by kernel_rfl
set_option maxRecDepth 100000 in
theorem deep_true43 (m : Int) : upB (deepOk m true) 1 43 = true := by kernel_rfl
set_option maxRecDepth 100000 in
theorem deep_true44 (m : Int) : upB (deepOk m true) 1 44 = true := by kernel_rfl
set_option maxRecDepth 100000 in
theorem deep_true45 (m : Int) : upB (deepOk m true) 1 45 = true := by kernel_rfl
set_option maxRecDepth 100000 in
theorem deep_true46 (m : Int) : upB (deepOk m true) 1 46 = true := by kernel_rfl
end Go.Proofs.YtpbfelgcaelpoaaDoor
