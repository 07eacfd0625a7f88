/- RenderFits at the bytes from 0 on (own work). -/
import Derived.Test.YtpbfelgcaelpoaaDoorRc
namespace Go.Proofs.YtpbfelgcaelpoaaDoor
open Go.AS
set_option maxRecDepth 100000 in
theorem rfits_c0 (m : Int) : upB (rfitsOk m) 8 0 = true := by kernel_rfl
set_option maxRecDepth 100000 in
theorem rfits_c8 (m : Int) : upB (rfitsOk m) 8 8 = true := by kernel_rfl
set_option maxRecDepth 100000 in
theorem rfits_c16 (m : Int) : upB (rfitsOk m) 8 16 = true := by kernel_rfl
set_option maxRecDepth 100000 in
theorem rfits_c24 (m : Int) : upB (rfitsOk m) 8 24 = true := by kernel_rfl
end Go.Proofs.YtpbfelgcaelpoaaDoor
