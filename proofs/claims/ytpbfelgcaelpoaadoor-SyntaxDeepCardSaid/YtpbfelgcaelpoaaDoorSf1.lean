/- SyntaxDeep: runs, part 1 (own work). -/
import Derived.Test.YtpbfelgcaelpoaaDoorSe
namespace Go.Proofs.YtpbfelgcaelpoaaDoor
open Go.AS
set_option maxRecDepth 100000 in
theorem deep_true23 (m : Int) : upB (deepOk m true) 1 23 = true := by kernel_rfl
set_option maxRecDepth 100000 in
theorem deep_true24 (m : Int) : upB (deepOk m true) 1 24 = true := by kernel_rfl
set_option maxRecDepth 100000 in
theorem deep_true25 (m : Int) : upB (deepOk m true) 1 25 = true := by kernel_rfl
set_option maxRecDepth 100000 in
theorem deep_true26 (m : Int) : upB (deepOk m true) 1 26 = true := by kernel_rfl
set_option maxRecDepth 100000 in
theorem deep_true27 (m : Int) : upB (deepOk m true) 1 27 = true := by kernel_rfl
set_option maxRecDepth 100000 in
theorem deep_true28 (m : Int) : upB (deepOk m true) 1 28 = true := by kernel_rfl
set_option maxRecDepth 100000 in
theorem deep_true29 (m : Int) : upB (deepOk m true) 1 29 = true := by kernel_rfl
set_option maxRecDepth 100000 in
theorem deep_true30 (m : Int) : upB (deepOk m true) 1 30 = true := by kernel_rfl
set_option maxRecDepth 100000 in
theorem deep_true31 (m : Int) : upB (deepOk m true) 1 31 = true := by kernel_rfl
set_option maxRecDepth 100000 in
theorem deep_true32 (m : Int) : upB (deepOk m true) 1 32 = true := by kernel_rfl
end Go.Proofs.YtpbfelgcaelpoaaDoor
