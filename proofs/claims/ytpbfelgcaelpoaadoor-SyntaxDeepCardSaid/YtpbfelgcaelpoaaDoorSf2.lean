/- SyntaxDeep: runs, part 2 (own work). -/
import Derived.Test.YtpbfelgcaelpoaaDoorSe
namespace Go.Proofs.YtpbfelgcaelpoaaDoor
open Go.AS
set_option maxRecDepth 100000 in
theorem deep_true33 (m : Int) : upB (deepOk m true) 1 33 = true := by kernel_rfl
set_option maxRecDepth 100000 in
theorem deep_true34 (m : Int) : upB (deepOk m true) 1 34 = true := by kernel_rfl
set_option maxRecDepth 100000 in
theorem deep_true35 (m : Int) : upB (deepOk m true) 1 35 = true := by kernel_rfl
set_option maxRecDepth 100000 in
theorem deep_true36 (m : Int) : upB (deepOk m true) 1 36 = true := by kernel_rfl
set_option maxRecDepth 100000 in
theorem deep_true37 (m : Int) : upB (deepOk m true) 1 37 = true := by kernel_rfl
set_option maxRecDepth 100000 in
theorem deep_true38 (m : Int) : upB (deepOk m true) 1 38 = true := by kernel_rfl
set_option maxRecDepth 100000 in
theorem deep_true39 (m : Int) : upB (deepOk m true) 1 39 = true := by kernel_rfl
end Go.Proofs.YtpbfelgcaelpoaaDoor
