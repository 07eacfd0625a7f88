/- Fits at the bytes from 128 on (own work). -/
import Derived.Test.YtpbfelgcaelpoaaDoorRb
namespace Go.Proofs.YtpbfelgcaelpoaaDoor
open Go.AS
set_option maxRecDepth 100000 in
theorem fits_c128 (m : Int) : upB (fitsC m) 16 128 = true := by kernel_rfl
set_option maxRecDepth 100000 in
theorem fits_c144 (m : Int) : upB (fitsC m) 16 144 = true := by kernel_rfl
set_option maxRecDepth 100000 in
theorem fits_c160 (m : Int) : upB (fitsC m) 16 160 = true := by kernel_rfl
set_option maxRecDepth 100000 in
theorem fits_c176 (m : Int) : upB (fitsC m) 16 176 = true := by kernel_rfl
end Go.Proofs.YtpbfelgcaelpoaaDoor
