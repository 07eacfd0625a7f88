/- SyntaxDeep: runs, part 8 (own work). -/
import Derived.Test.YtpbfelgcaelpoaaDoorSe
namespace Go.Proofs.YtpbfelgcaelpoaaDoor
open Go.AS
set_option maxRecDepth 100000 in
theorem deep_false33 (m : Int) : upB (deepOk m false) 1 33 = true := by kernel_rfl
set_option maxRecDepth 100000 in
theorem deep_false34 (m : Int) : upB (deepOk m false) 1 34 = true := by kernel_rfl
set_option maxRecDepth 100000 in
theorem deep_false35 (m : Int) : upB (deepOk m false) 1 35 = true := by kernel_rfl
set_option maxRecDepth 100000 in
theorem deep_false36 (m : Int) : upB (deepOk m false) 1 36 = true := by kernel_rfl
set_option maxRecDepth 100000 in
theorem deep_false37 (m : Int) : upB (deepOk m false) 1 37 = true := by kernel_rfl
set_option maxRecDepth 100000 in
theorem deep_false38 (m : Int) : upB (deepOk m false) 1 38 = true := by kernel_rfl
set_option maxRecDepth 100000 in
theorem deep_false39 (m : Int) : upB (deepOk m false) 1 39 = true := by kernel_rfl
end Go.Proofs.YtpbfelgcaelpoaaDoor
