/- RenderFits at the bytes from 224 on (own work). -/
import Derived.Test.YtpbfelgcaelpoaaDoorRc
namespace Go.Proofs.YtpbfelgcaelpoaaDoor
open Go.AS
set_option maxRecDepth 100000 in
theorem rfits_c224 (m : Int) : upB (rfitsOk m) 8 224 = true := by kernel_rfl
set_option maxRecDepth 100000 in
theorem rfits_c232 (m : Int) : upB (rfitsOk m) 8 232 = true := by kernel_rfl
set_option maxRecDepth 100000 in
theorem rfits_c240 (m : Int) : upB (rfitsOk m) 8 240 = true := by kernel_rfl
set_option maxRecDepth 100000 in
theorem rfits_c248 (m : Int) : upB (rfitsOk m) 8 248 = true := by kernel_rfl
end Go.Proofs.YtpbfelgcaelpoaaDoor
