/- Fits at the bytes from 0 on (own work). -/
import Derived.Test.YtpbfelgcaelpoaaDoorRb
namespace Go.Proofs.YtpbfelgcaelpoaaDoor
open Go.AS
set_option maxRecDepth 100000 in
theorem fits_c0 (m : Int) : upB (fitsC m) 16 0 = true := by kernel_rfl
set_option maxRecDepth 100000 in
theorem fits_c16 (m : Int) : upB (fitsC m) 16 16 = true := by kernel_rfl
set_option maxRecDepth 100000 in
theorem fits_c32 (m : Int) : upB (fitsC m) 16 32 = true := by kernel_rfl
set_option maxRecDepth 100000 in
theorem fits_c48 (m : Int) : upB (fitsC m) 16 48 = true := by kernel_rfl
end Go.Proofs.YtpbfelgcaelpoaaDoor
