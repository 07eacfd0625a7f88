/- The door's laws: the tables, what is run in the place of bodies (own work; lays219 is the plain print of the kit's lay-plain.mjs). -/
import Derived.Test.YtpbfelgcaelpoaaDoorAsX
import Derived.Test.YtpbfelgcaelpoaaDoorChecked
import Derived.WalkKit
import Derived.ProofKit
import Derived.Shelf.Strings.Search3
set_option linter.unusedSimpArgs false
set_option linter.unusedVariables false
namespace Go.Proofs.YtpbfelgcaelpoaaDoor
open Go.AS Go.RowKit Go.Shelf

theorem mixed : Tryd.prog.follows .mixedOrders = true := Tryd.checked.mixed
noncomputable abbrev F1 : Nat → Option RFun := compG Tryd.prog 1
def lays219_ren : Go.Shelf.Ren := ⟨fun | 219 => 70 | 217 => 49 | 225 => 79 | 224 => 78 | 267 => 81 | 266 => 67 | 314 => 86 | n => n, fun | 9 => 9 | 3 => 3 | 4 => 4 | 5 => 5 | 46 => 128 | 146 => 139 | 51 => 138 | n => n, fun | 1 => 0 | n => n⟩
theorem lays219 : Go.Proofs.Lays.n219 Tryd.prog lays219_ren := {
  mixed := by kernel_rfl
  f217 := Tryd.func49.trans (congrArg some (by kernel_rfl))
  f219 := Tryd.func70.trans (congrArg some (by kernel_rfl))
  f224 := Tryd.func78.trans (congrArg some (by kernel_rfl))
  f225 := Tryd.func79.trans (congrArg some (by kernel_rfl))
  f266 := Tryd.func67.trans (congrArg some (by kernel_rfl))
  f267 := Tryd.func81.trans (congrArg some (by kernel_rfl))
  f314 := Tryd.func86.trans (congrArg some (by kernel_rfl))
  t3 := Tryd.underlying3
  a3 := Tryd.isAgg3
  z3 := Tryd.sizeOf3
  v3 := Tryd.zeroValue3
  t4 := Tryd.underlying4
  a4 := Tryd.isAgg4
  z4 := Tryd.sizeOf4
  v4 := Tryd.zeroValue4
  t5 := Tryd.underlying5
  a5 := Tryd.isAgg5
  z5 := Tryd.sizeOf5
  v5 := Tryd.zeroValue5
  t9 := Tryd.underlying9
  a9 := Tryd.isAgg9
  z9 := Tryd.sizeOf9
  v9 := Tryd.zeroValue9
  t46 := Tryd.underlying128
  a46 := Tryd.isAgg128
  z46 := Tryd.sizeOf128
  v46 := Tryd.zeroValue128
  t51 := Tryd.underlying138
  a51 := Tryd.isAgg138
  z51 := Tryd.sizeOf138
  v51 := Tryd.zeroValue138
  t146 := Tryd.underlying139
  a146 := Tryd.isAgg139
  z146 := Tryd.sizeOf139
  v146 := Tryd.zeroValue139
  g1 := by kernel_rfl }
theorem index_calls (s sub : ByteArray) (m : Int) (w : World) (hs : s.size < 4294967281) (hm : w.cell? ⟨0, 0, none⟩ = some (.int .i64 m)) :
    Calls Tryd.prog 70 #[.string s, .string sub] w fun e w' => e = .returned (.int .i64 (Lib.index s.data.toList sub.data.toList)) ∧ w' = w := Any.stringslite_Index lays219 s sub m w hs hm
/-- Place: any number as one from 0 to n - 1. -/
theorem place_calls (v n : Int) (w : World) (hn : 0 < n) (hb : n ≤ 1000000) :
    Calls Tryd.prog 9 #[.int .i64 v, .int .i64 n] w fun e w' => e = .returned (.int .i64 (v % n)) ∧ w' = w := by
  have h0 : n ≠ 0 := by omega
  have hm := Int.tmod_eq_emod (a := v) (b := n)
  have hlt := Int.emod_lt_of_pos v hn
  have hge := Int.emod_nonneg v h0
  go_enter Tryd.func9, Tryd.ntmps9
  go_wp2
  all_goals go_ret
  · rename_i ha
    rw [if_pos h] at ha; omega
  · rename_i ha
    have e : v % n - ↑n.natAbs + n = v % n := by omega
    refine ⟨?_, rfl⟩
    show Ending.returned (.int .i64 (wrap64 (v % n - ↑n.natAbs + n))) = _
    have e2 : wrap64 (v % n) = v % n := by unfold wrap64; omega
    rw [e, e2]
  · exact ⟨rfl, rfl⟩
  · rename_i ha
    rw [if_neg h] at ha; omega
/-- What is run in the place of bodies: the functions without any; Index; Place. -/
noncomputable def S0 : Sums := fun f => if f = 67 then some gIndexByte else if f = 75 then some gSame else if f = 72 then some gCount else if f = 82 then some (gMake 5) else if f = 70 then some gIndex else if f = 9 then some gPlaceR else none
set_option maxRecDepth 100000 in
theorem sums0 (base : Nat) : SumS Tryd.prog 1 base S0 :=
  SumS.cons (indexByte_callS Tryd.func67 (by kernel_rfl) (by kernel_rfl) (by kernel_rfl) (by kernel_rfl))
    (SumS.cons (noEscape_callS Tryd.func75 (by kernel_rfl) (by kernel_rfl) (by kernel_rfl) (by kernel_rfl))
      (SumS.cons (count_callS Tryd.func72 (by kernel_rfl) (by kernel_rfl) (by kernel_rfl) (by kernel_rfl))
        (SumS.cons (make_callS (ps := #[3]) (t := 39) Tryd.func82 (by kernel_rfl) (by kernel_rfl) (by kernel_rfl) (by kernel_rfl) Tryd.underlying39)
          (SumS.cons (index_callS (by omega) Tryd.func70 rfl (by kernel_rfl) index_calls)
            (SumS.cons (placeR_callS Tryd.func9 rfl (by kernel_rfl) place_calls) SumS.nil)))))
theorem calls_of_sums {S : Sums} (h : ∀ base, SumS Tryd.prog 1 base S) (n : Nat) (base : Nat) : CallS Tryd.prog 1 base (runFK S F1 n) := by
  rw [runFK_eq]
  exact runF_sound mixed (h base) (fun _ _ h => h) n
end Go.Proofs.YtpbfelgcaelpoaaDoor
