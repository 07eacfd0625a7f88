/- RenderFits at the bytes from 64 on (own work). -/
import Derived.Test.YtpbfelgcaelpoaaDoorRc
namespace Go.Proofs.YtpbfelgcaelpoaaDoor
open Go.AS
set_option maxRecDepth 100000 in
theorem rfits_c64 (m : Int) : upB (rfitsOk m) 8 64 = true := by kernel_rfl
set_option maxRecDepth 100000 in
theorem rfits_c72 (m : Int) : upB (rfitsOk m) 8 72 = true := by kernel_rfl
set_option maxRecDepth 100000 in
theorem rfits_c80 (m : Int) : upB (rfitsOk m) 8 80 = true := by kernel_rfl
set_option maxRecDepth 100000 in
theorem rfits_c88 (m : Int) : upB (rfitsOk m) 8 88 = true := by kernel_rfl
end Go.Proofs.YtpbfelgcaelpoaaDoor
