/- Fits at the bytes from 192 on (own work). -/
import Derived.Test.YtpbfelgcaelpoaaDoorRb
namespace Go.Proofs.YtpbfelgcaelpoaaDoor
open Go.AS
set_option maxRecDepth 100000 in
theorem fits_c192 (m : Int) : upB (fitsC m) 16 192 = true := by kernel_rfl
set_option maxRecDepth 100000 in
theorem fits_c208 (m : Int) : upB (fitsC m) 16 208 = true := by kernel_rfl
set_option maxRecDepth 100000 in
theorem fits_c224 (m : Int) : upB (fitsC m) 16 224 = true := by kernel_rfl
set_option maxRecDepth 100000 in
theorem fits_c240 (m : Int) : upB (fitsC m) 16 240 = true := by kernel_rfl
end Go.Proofs.YtpbfelgcaelpoaaDoor
