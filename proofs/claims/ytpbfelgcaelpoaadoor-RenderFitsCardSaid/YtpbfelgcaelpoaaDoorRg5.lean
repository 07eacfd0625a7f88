/- RenderFits at the bytes from 160 on (own work). -/
import Derived.Test.YtpbfelgcaelpoaaDoorRc
namespace Go.Proofs.YtpbfelgcaelpoaaDoor
open Go.AS
set_option maxRecDepth 100000 in
theorem rfits_c160 (m : Int) : upB (rfitsOk m) 8 160 = true := by kernel_rfl
set_option maxRecDepth 100000 in
theorem rfits_c168 (m : Int) : upB (rfitsOk m) 8 168 = true := by kernel_rfl
set_option maxRecDepth 100000 in
theorem rfits_c176 (m : Int) : upB (rfitsOk m) 8 176 = true := by kernel_rfl
set_option maxRecDepth 100000 in
theorem rfits_c184 (m : Int) : upB (rfitsOk m) 8 184 = true := by kernel_rfl
end Go.Proofs.YtpbfelgcaelpoaaDoor
