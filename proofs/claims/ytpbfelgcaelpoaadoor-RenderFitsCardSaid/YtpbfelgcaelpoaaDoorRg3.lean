/- RenderFits at the bytes from 96 on (own work). -/
import Derived.Test.YtpbfelgcaelpoaaDoorRc
namespace Go.Proofs.YtpbfelgcaelpoaaDoor
open Go.AS
set_option maxRecDepth 100000 in
theorem rfits_c96 (m : Int) : upB (rfitsOk m) 8 96 = true := by kernel_rfl
set_option maxRecDepth 100000 in
theorem rfits_c104 (m : Int) : upB (rfitsOk m) 8 104 = true := by kernel_rfl
set_option maxRecDepth 100000 in
theorem rfits_c112 (m : Int) : upB (rfitsOk m) 8 112 = true := by kernel_rfl
set_option maxRecDepth 100000 in
theorem rfits_c120 (m : Int) : upB (rfitsOk m) 8 120 = true := by kernel_rfl
end Go.Proofs.YtpbfelgcaelpoaaDoor
