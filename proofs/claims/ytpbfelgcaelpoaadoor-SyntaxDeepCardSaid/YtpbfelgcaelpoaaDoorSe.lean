/- Syntax: depth; what is run in the place of bodies (own work). -/
import Derived.Test.YtpbfelgcaelpoaaDoorSb
import Derived.Test.YtpbfelgcaelpoaaDoorSd
set_option linter.unusedSimpArgs false
set_option linter.unusedVariables false
namespace Go.Proofs.YtpbfelgcaelpoaaDoor
open Go.AS Go.RowKit
noncomputable def gEnd : List AV → Heap → Option (ARes × Heap) := fun args h => match args with
  | [.str s, .int .u8 (.ofNat a), .int .u8 (.ofNat b)] => match Nat.ble (lenL s) 4611686018427387904 with
    | true => some (.ret (.int .i64 (endK a b s 1 0)), h)
    | false => none
  | _ => none
theorem gEnd_callS (base : Nat) : CallS Tryd.prog 1 base (fun f' args h => if f' = 35 then gEnd args h else none) :=
  callS_of_C1 fun args h r h' hx => by
    unfold gEnd at hx
    split at hx
    · split at hx
      · rename_i s a b _ hl
        simp only [Option.some.injEq, Prod.mk.injEq] at hx
        obtain ⟨rfl, rfl⟩ := hx
        exact C1.of_CX (end_CX s a b h (by rw [← lenL_eq]; exact Nat.le_of_ble_eq_true hl))
      · cases hx
    · cases hx
noncomputable def gOut : List AV → Heap → Option (ARes × Heap) := fun args h => match args with
  | [.str s, .int .u8 (.ofNat c), .int .i64 (.ofNat fr)] => match Nat.ble (lenL s) 4611686018427387904 with
    | true => some (.ret (.int .i64 (outK c fr s 0 0)), h)
    | false => none
  | _ => none
theorem gOut_callS (base : Nat) : CallS Tryd.prog 1 base (fun f' args h => if f' = 53 then gOut args h else none) :=
  callS_of_C1 fun args h r h' hx => by
    unfold gOut at hx
    split at hx
    · split at hx
      · rename_i s c fr _ hl
        simp only [Option.some.injEq, Prod.mk.injEq] at hx
        obtain ⟨rfl, rfl⟩ := hx
        exact C1.of_CX (out_CX s c fr h (by rw [← lenL_eq]; exact Nat.le_of_ble_eq_true hl))
      · cases hx
    · cases hx
/-! ### Find at two names -/
noncomputable def retIs3 (v : AV) : Option (ARes × Heap) → Bool
  | some (.ret u, _) => eqAV 3 u v
  | _ => false
theorem retIs3_some {v : AV} {x : Option (ARes × Heap)} (h : retIs3 v x = true) : ∃ h', x = some (.ret v, h') := by
  unfold retIs3 at h
  split at h
  · rename_i u h'; rw [(eqAV_sound 3).1 _ _ h]; exact ⟨h', rfl⟩
  · cases h
noncomputable def noneF : AV := .tuple [.agg [.int .i64 (Int.ofNat 0), .int .i64 (Int.ofNat 0), .bool false, .bool false], .bool false]
noncomputable def gFind : List AV → Heap → Option (ARes × Heap) := fun args h => match args with
  | [.str l] => match h.cells 0 with
    | some [.int .i64 m] => match eqL l [] || eqL l [97] with
      | true => some (.ret noneF, h)
      | false => none
    | _ => none
  | _ => none
set_option maxRecDepth 100000 in
theorem find_runs (m : Int) : (retIs3 noneF (runFK S0 F1 1000 51 [.str []] (hM m)) && retIs3 noneF (runFK S0 F1 1000 51 [.str [97]] (hM m))) = true := by kernel_rfl
theorem gFind_callS (base : Nat) : CallS Tryd.prog 1 base (fun f' args h => if f' = 51 then gFind args h else none) :=
  closedV_callS (calls_of_sums sums0 1000) Tryd.func51 rfl (by kernel_rfl) fun args h r h' hx => by
    unfold gFind at hx
    split at hx
    · rename_i l
      split at hx
      · rename_i m hm
        split at hx
        · rename_i hl
          simp only [Option.some.injEq, Prod.mk.injEq] at hx
          obtain ⟨rfl, rfl⟩ := hx
          have hr := find_runs m
          rw [Bool.and_eq_true] at hr
          refine ⟨rfl, rfl, noneF, m, rfl, fun φ ψ x hv => by simpa only [noneF, VR, VRs] using hv, hm, ?_⟩
          rw [Bool.or_eq_true, eqL_eq, eqL_eq, decide_eq_true_eq, decide_eq_true_eq] at hl
          rcases hl with rfl | rfl
          · exact retIs3_some hr.1
          · exact retIs3_some hr.2
        · cases hx
      · cases hx
    · cases hx
noncomputable def S0e : Sums := fun f => if f = 35 then some gEnd else if f = 53 then some gOut else if f = 51 then some gFind else S0 f
theorem sums0e (base : Nat) : SumS Tryd.prog 1 base S0e := SumS.cons (gEnd_callS base) (SumS.cons (gOut_callS base) (SumS.cons (gFind_callS base) (sums0 base)))
noncomputable def callE : CallF := runFK S0e F1 5000
noncomputable def gParseE : List AV → Heap → Option (ARes × Heap) := gRec (runCL callE 5000) rf10 19 Tryd.f19.ntmps (compR Tryd.prog 1 Tryd.f19.ntmps rest19) 5 2
set_option maxRecDepth 100000 in
theorem parseE_callS (base : Nat) : CallS Tryd.prog 1 base (fun f' args h => if f' = 10 then gParseE args h else none) := by
  have hrun : runCL callE 5000 = runC callE 5000 := funext fun c => funext fun s => runCL_eq callE 5000 c s
  unfold gParseE
  rw [hrun]
  exact rec_callS (id := id19) (o0 := o19_0) (o1 := o19_1) mixed (calls_of_sums sums0e 5000 base) Tryd.func10 rfl (by kernel_rfl) ⟨rfl, rfl, by kernel_rfl⟩ Tryd.func19 (by kernel_rfl) (by kernel_rfl) (by kernel_rfl)
    (by kernel_rfl) (by kernel_rfl) (by kernel_rfl) (by kernel_rfl) (by kernel_rfl) (by kernel_rfl) (of_decide_eq_true (by kernel_rfl)) (of_decide_eq_true (by kernel_rfl))
noncomputable def S2e : Sums := fun f => if f = 10 then some gParseE else if f = 11 then some (gConstM (.bool true)) else S0e f
theorem sums2e (base : Nat) : SumS Tryd.prog 1 base S2e := SumS.cons (parseE_callS base) (SumS.cons (awake10_callS base) (sums0e base))
noncomputable def deepOk (m : Int) (b : Bool) (k : Nat) : Bool := retIs (.bool true) (runFK S2e F1 10000 3 [.res 60 k, .bool b] (hM m))
set_option maxRecDepth 100000 in
theorem deepT0 (m : Int) : deepOk m true 0 = true := by kernel_rfl
end Go.Proofs.YtpbfelgcaelpoaaDoor
