/- RenderFits at each byte (own work). -/
import Derived.Test.YtpbfelgcaelpoaaDoorRf0
import Derived.Test.YtpbfelgcaelpoaaDoorRf1
import Derived.Test.YtpbfelgcaelpoaaDoorRf2
import Derived.Test.YtpbfelgcaelpoaaDoorRf3
import Derived.Test.YtpbfelgcaelpoaaDoorRg0
import Derived.Test.YtpbfelgcaelpoaaDoorRg1
import Derived.Test.YtpbfelgcaelpoaaDoorRg2
import Derived.Test.YtpbfelgcaelpoaaDoorRg3
import Derived.Test.YtpbfelgcaelpoaaDoorRg4
import Derived.Test.YtpbfelgcaelpoaaDoorRg5
import Derived.Test.YtpbfelgcaelpoaaDoorRg6
import Derived.Test.YtpbfelgcaelpoaaDoorRg7
namespace Go.Proofs.YtpbfelgcaelpoaaDoor
open Go.AS
theorem fitsC_all (m : Int) (c : Nat) (hc : c < 256) : fitsC m c = true := by
  rcases (by omega : (0 ≤ c ∧ c < 16) ∨ (16 ≤ c ∧ c < 32) ∨ (32 ≤ c ∧ c < 48) ∨ (48 ≤ c ∧ c < 64) ∨ (64 ≤ c ∧ c < 80) ∨ (80 ≤ c ∧ c < 96) ∨ (96 ≤ c ∧ c < 112) ∨ (112 ≤ c ∧ c < 128) ∨ (128 ≤ c ∧ c < 144) ∨ (144 ≤ c ∧ c < 160) ∨ (160 ≤ c ∧ c < 176) ∨ (176 ≤ c ∧ c < 192) ∨ (192 ≤ c ∧ c < 208) ∨ (208 ≤ c ∧ c < 224) ∨ (224 ≤ c ∧ c < 240) ∨ (240 ≤ c ∧ c < 256)) with h | h | h | h | h | h | h | h | h | h | h | h | h | h | h | h
  · exact upB_all 16 0 (fits_c0 m) c h.1 (by omega)
  · exact upB_all 16 16 (fits_c16 m) c h.1 (by omega)
  · exact upB_all 16 32 (fits_c32 m) c h.1 (by omega)
  · exact upB_all 16 48 (fits_c48 m) c h.1 (by omega)
  · exact upB_all 16 64 (fits_c64 m) c h.1 (by omega)
  · exact upB_all 16 80 (fits_c80 m) c h.1 (by omega)
  · exact upB_all 16 96 (fits_c96 m) c h.1 (by omega)
  · exact upB_all 16 112 (fits_c112 m) c h.1 (by omega)
  · exact upB_all 16 128 (fits_c128 m) c h.1 (by omega)
  · exact upB_all 16 144 (fits_c144 m) c h.1 (by omega)
  · exact upB_all 16 160 (fits_c160 m) c h.1 (by omega)
  · exact upB_all 16 176 (fits_c176 m) c h.1 (by omega)
  · exact upB_all 16 192 (fits_c192 m) c h.1 (by omega)
  · exact upB_all 16 208 (fits_c208 m) c h.1 (by omega)
  · exact upB_all 16 224 (fits_c224 m) c h.1 (by omega)
  · exact upB_all 16 240 (fits_c240 m) c h.1 (by omega)
theorem rfits_all (m : Int) (c : Nat) (hc : c < 256) : rfitsOk m c = true := by
  rcases (by omega : (0 ≤ c ∧ c < 8) ∨ (8 ≤ c ∧ c < 16) ∨ (16 ≤ c ∧ c < 24) ∨ (24 ≤ c ∧ c < 32) ∨ (32 ≤ c ∧ c < 40) ∨ (40 ≤ c ∧ c < 48) ∨ (48 ≤ c ∧ c < 56) ∨ (56 ≤ c ∧ c < 64) ∨ (64 ≤ c ∧ c < 72) ∨ (72 ≤ c ∧ c < 80) ∨ (80 ≤ c ∧ c < 88) ∨ (88 ≤ c ∧ c < 96) ∨ (96 ≤ c ∧ c < 104) ∨ (104 ≤ c ∧ c < 112) ∨ (112 ≤ c ∧ c < 120) ∨ (120 ≤ c ∧ c < 128) ∨ (128 ≤ c ∧ c < 136) ∨ (136 ≤ c ∧ c < 144) ∨ (144 ≤ c ∧ c < 152) ∨ (152 ≤ c ∧ c < 160) ∨ (160 ≤ c ∧ c < 168) ∨ (168 ≤ c ∧ c < 176) ∨ (176 ≤ c ∧ c < 184) ∨ (184 ≤ c ∧ c < 192) ∨ (192 ≤ c ∧ c < 200) ∨ (200 ≤ c ∧ c < 208) ∨ (208 ≤ c ∧ c < 216) ∨ (216 ≤ c ∧ c < 224) ∨ (224 ≤ c ∧ c < 232) ∨ (232 ≤ c ∧ c < 240) ∨ (240 ≤ c ∧ c < 248) ∨ (248 ≤ c ∧ c < 256)) with h | h | h | h | h | h | h | h | h | h | h | h | h | h | h | h | h | h | h | h | h | h | h | h | h | h | h | h | h | h | h | h
  · exact upB_all 8 0 (rfits_c0 m) c h.1 (by omega)
  · exact upB_all 8 8 (rfits_c8 m) c h.1 (by omega)
  · exact upB_all 8 16 (rfits_c16 m) c h.1 (by omega)
  · exact upB_all 8 24 (rfits_c24 m) c h.1 (by omega)
  · exact upB_all 8 32 (rfits_c32 m) c h.1 (by omega)
  · exact upB_all 8 40 (rfits_c40 m) c h.1 (by omega)
  · exact upB_all 8 48 (rfits_c48 m) c h.1 (by omega)
  · exact upB_all 8 56 (rfits_c56 m) c h.1 (by omega)
  · exact upB_all 8 64 (rfits_c64 m) c h.1 (by omega)
  · exact upB_all 8 72 (rfits_c72 m) c h.1 (by omega)
  · exact upB_all 8 80 (rfits_c80 m) c h.1 (by omega)
  · exact upB_all 8 88 (rfits_c88 m) c h.1 (by omega)
  · exact upB_all 8 96 (rfits_c96 m) c h.1 (by omega)
  · exact upB_all 8 104 (rfits_c104 m) c h.1 (by omega)
  · exact upB_all 8 112 (rfits_c112 m) c h.1 (by omega)
  · exact upB_all 8 120 (rfits_c120 m) c h.1 (by omega)
  · exact upB_all 8 128 (rfits_c128 m) c h.1 (by omega)
  · exact upB_all 8 136 (rfits_c136 m) c h.1 (by omega)
  · exact upB_all 8 144 (rfits_c144 m) c h.1 (by omega)
  · exact upB_all 8 152 (rfits_c152 m) c h.1 (by omega)
  · exact upB_all 8 160 (rfits_c160 m) c h.1 (by omega)
  · exact upB_all 8 168 (rfits_c168 m) c h.1 (by omega)
  · exact upB_all 8 176 (rfits_c176 m) c h.1 (by omega)
  · exact upB_all 8 184 (rfits_c184 m) c h.1 (by omega)
  · exact upB_all 8 192 (rfits_c192 m) c h.1 (by omega)
  · exact upB_all 8 200 (rfits_c200 m) c h.1 (by omega)
  · exact upB_all 8 208 (rfits_c208 m) c h.1 (by omega)
  · exact upB_all 8 216 (rfits_c216 m) c h.1 (by omega)
  · exact upB_all 8 224 (rfits_c224 m) c h.1 (by omega)
  · exact upB_all 8 232 (rfits_c232 m) c h.1 (by omega)
  · exact upB_all 8 240 (rfits_c240 m) c h.1 (by omega)
  · exact upB_all 8 248 (rfits_c248 m) c h.1 (by omega)
end Go.Proofs.YtpbfelgcaelpoaaDoor
