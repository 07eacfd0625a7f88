/- RenderFits at the bytes from 32 on (own work). -/
import Derived.Test.YtpbfelgcaelpoaaDoorRc
namespace Go.Proofs.YtpbfelgcaelpoaaDoor
open Go.AS
set_option maxRecDepth 100000 in
theorem rfits_c32 (m : Int) : upB (rfitsOk m) 8 32 = true := by kernel_rfl
set_option maxRecDepth 100000 in
theorem rfits_c40 (m : Int) : upB (rfitsOk m) 8 40 = true := by kernel_rfl
set_option maxRecDepth 100000 in
theorem rfits_c48 (m : Int) : upB (rfitsOk m) 8 48 = true := by kernel_rfl
set_option maxRecDepth 100000 in
theorem rfits_c56 (m : Int) : upB (rfitsOk m) 8 56 = true := by kernel_rfl
end Go.Proofs.YtpbfelgcaelpoaaDoor
