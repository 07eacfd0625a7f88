/- RenderFits at the bytes from 192 on (own work). -/
import Derived.Test.YtpbfelgcaelpoaaDoorRc
namespace Go.Proofs.YtpbfelgcaelpoaaDoor
open Go.AS
set_option maxRecDepth 100000 in
theorem rfits_c192 (m : Int) : upB (rfitsOk m) 8 192 = true := by kernel_rfl
set_option maxRecDepth 100000 in
theorem rfits_c200 (m : Int) : upB (rfitsOk m) 8 200 = true := by kernel_rfl
set_option maxRecDepth 100000 in
theorem rfits_c208 (m : Int) : upB (rfitsOk m) 8 208 = true := by kernel_rfl
set_option maxRecDepth 100000 in
theorem rfits_c216 (m : Int) : upB (rfitsOk m) 8 216 = true := by kernel_rfl
end Go.Proofs.YtpbfelgcaelpoaaDoor
