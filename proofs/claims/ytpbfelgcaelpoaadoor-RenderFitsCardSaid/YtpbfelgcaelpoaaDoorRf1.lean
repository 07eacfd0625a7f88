/- Fits at the bytes from 64 on (own work). -/
import Derived.Test.YtpbfelgcaelpoaaDoorRb
namespace Go.Proofs.YtpbfelgcaelpoaaDoor
open Go.AS
set_option maxRecDepth 100000 in
theorem fits_c64 (m : Int) : upB (fitsC m) 16 64 = true := by kernel_rfl
set_option maxRecDepth 100000 in
theorem fits_c80 (m : Int) : upB (fitsC m) 16 80 = true := by kernel_rfl
set_option maxRecDepth 100000 in
theorem fits_c96 (m : Int) : upB (fitsC m) 16 96 = true := by kernel_rfl
set_option maxRecDepth 100000 in
theorem fits_c112 (m : Int) : upB (fitsC m) 16 112 = true := by kernel_rfl
end Go.Proofs.YtpbfelgcaelpoaaDoor
