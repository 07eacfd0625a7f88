/- SyntaxDeep: runs, part 4 (own work). -/
import Derived.Test.YtpbfelgcaelpoaaDoorSe
namespace Go.Proofs.YtpbfelgcaelpoaaDoor
open Go.AS
set_option maxRecDepth 100000 in
theorem deep_true47 (m : Int) : upB (deepOk m true) 1 47 = true := by kernel_rfl
set_option maxRecDepth 100000 in
theorem deep_true48 (m : Int) : upB (deepOk m true) 1 48 = true := by kernel_rfl
set_option maxRecDepth 100000 in
theorem deep_true49 (m : Int) : upB (deepOk m true) 1 49 = true := by kernel_rfl
set_option maxRecDepth 100000 in
theorem deep_true50 (m : Int) : upB (deepOk m true) 1 50 = true := by kernel_rfl
set_option maxRecDepth 100000 in
theorem deep_true51 (m : Int) : upB (deepOk m true) 1 51 = true := by kernel_rfl
set_option maxRecDepth 100000 in
theorem deep_true52 (m : Int) : upB (deepOk m true) 1 52 = true := by kernel_rfl
set_option maxRecDepth 100000 in
theorem deep_true53 (m : Int) : upB (deepOk m true) 1 53 = true := by kernel_rfl
end Go.Proofs.YtpbfelgcaelpoaaDoor
