/- SyntaxDeep: runs, part 0 (own work). -/
import Derived.Test.YtpbfelgcaelpoaaDoorSe
namespace Go.Proofs.YtpbfelgcaelpoaaDoor
open Go.AS
set_option maxRecDepth 100000 in
theorem deep_true0 (m : Int) : upB (deepOk m true) 8 0 = true := by kernel_rfl
set_option maxRecDepth 100000 in
theorem deep_true8 (m : Int) : upB (deepOk m true) 4 8 = true := by kernel_rfl
set_option maxRecDepth 100000 in
theorem deep_true12 (m : Int) : upB (deepOk m true) 3 12 = true := by kernel_rfl
set_option maxRecDepth 100000 in
theorem deep_true15 (m : Int) : upB (deepOk m true) 2 15 = true := by kernel_rfl
set_option maxRecDepth 100000 in
theorem deep_true17 (m : Int) : upB (deepOk m true) 2 17 = true := by kernel_rfl
set_option maxRecDepth 100000 in
theorem deep_true19 (m : Int) : upB (deepOk m true) 2 19 = true := by kernel_rfl
set_option maxRecDepth 100000 in
theorem deep_true21 (m : Int) : upB (deepOk m true) 1 21 = true := by kernel_rfl
set_option maxRecDepth 100000 in
theorem deep_true22 (m : Int) : upB (deepOk m true) 1 22 = true := by kernel_rfl
end Go.Proofs.YtpbfelgcaelpoaaDoor
