/- RenderFits at the bytes from 128 on (own work). -/
import Derived.Test.YtpbfelgcaelpoaaDoorRc
namespace Go.Proofs.YtpbfelgcaelpoaaDoor
open Go.AS
set_option maxRecDepth 100000 in
theorem rfits_c128 (m : Int) : upB (rfitsOk m) 8 128 = true := by kernel_rfl
set_option maxRecDepth 100000 in
theorem rfits_c136 (m : Int) : upB (rfitsOk m) 8 136 = true := by kernel_rfl
set_option maxRecDepth 100000 in
theorem rfits_c144 (m : Int) : upB (rfitsOk m) 8 144 = true := by kernel_rfl
set_option maxRecDepth 100000 in
theorem rfits_c152 (m : Int) : upB (rfitsOk m) 8 152 = true := by kernel_rfl
end Go.Proofs.YtpbfelgcaelpoaaDoor
