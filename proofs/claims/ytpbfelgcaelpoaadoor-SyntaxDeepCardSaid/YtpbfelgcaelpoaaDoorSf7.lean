/- SyntaxDeep: runs, part 7 (own work). -/
import Derived.Test.YtpbfelgcaelpoaaDoorSe
namespace Go.Proofs.YtpbfelgcaelpoaaDoor
open Go.AS
set_option maxRecDepth 100000 in
theorem deep_false24 (m : Int) : upB (deepOk m false) 1 24 = true := by kernel_rfl
set_option maxRecDepth 100000 in
theorem deep_false25 (m : Int) : upB (deepOk m false) 1 25 = true := by kernel_rfl
set_option maxRecDepth 100000 in
theorem deep_false26 (m : Int) : upB (deepOk m false) 1 26 = true := by kernel_rfl
set_option maxRecDepth 100000 in
theorem deep_false27 (m : Int) : upB (deepOk m false) 1 27 = true := by kernel_rfl
set_option maxRecDepth 100000 in
theorem deep_false28 (m : Int) : upB (deepOk m false) 1 28 = true := by kernel_rfl
set_option maxRecDepth 100000 in
theorem deep_false29 (m : Int) : upB (deepOk m false) 1 29 = true := by kernel_rfl
set_option maxRecDepth 100000 in
theorem deep_false30 (m : Int) : upB (deepOk m false) 1 30 = true := by kernel_rfl
set_option maxRecDepth 100000 in
theorem deep_false31 (m : Int) : upB (deepOk m false) 1 31 = true := by kernel_rfl
set_option maxRecDepth 100000 in
theorem deep_false32 (m : Int) : upB (deepOk m false) 1 32 = true := by kernel_rfl
end Go.Proofs.YtpbfelgcaelpoaaDoor
