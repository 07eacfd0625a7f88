/- Syntax: the scanners, for every text (own work; the compiled code is a program's print). -/
import Derived.Test.YtpbfelgcaelpoaaDoorDa
import Derived.Test.YtpbfelgcaelpoaaDoorAsX
set_option linter.unusedSimpArgs false
set_option linter.unusedVariables false
namespace Go.Proofs.YtpbfelgcaelpoaaDoor
open Go.AS Go.RowKit
noncomputable def rf35_L1 : RC := (RC.region [OpI.mk (some 12) none (IX.bin BinOp.lss QK.no (Opd.tmp 11) (Opd.tmp 10))]).seq ((RC.cond (Opd.tmp 12) RC.skip (RC.exit 0)).seq ((RC.block 1 ((RC.region [OpI.mk (some 13) none (IX.mov (Opd.tmp 11)), OpI.mk (some 8) none (IX.mov (Opd.tmp 13))]).seq (((RC.region [OpI.mk (some 14) none (IX.mov (Opd.tmp 0)), OpI.mk (some 15) none (IX.mov (Opd.tmp 8)), OpI.mk (some 16) none (IX.idxStr (Opd.tmp 14) (Opd.tmp 15))]).seq (RC.block 2 ((RC.region [OpI.mk (some 18) none (IX.mov (Opd.tmp 1)), OpI.mk (some 19) none (IX.bin BinOp.eql QK.no (Opd.tmp 16) (Opd.tmp 18)), OpI.mk (some 17) none (IX.mov (Opd.tmp 19))]).seq (RC.cond (Opd.tmp 17) (RC.region [OpI.mk (some 20) none (IX.mov (Opd.tmp 7)), OpI.mk (some 21) none (IX.bin BinOp.add QK.no (Opd.tmp 20) (Opd.const (AV.int IntKind.i64 (Int.ofNat 1)))), OpI.mk (some 7) none (IX.mov (Opd.tmp 21))]) ((RC.region [OpI.mk (some 23) none (IX.mov (Opd.tmp 2)), OpI.mk (some 24) none (IX.bin BinOp.eql QK.no (Opd.tmp 16) (Opd.tmp 23)), OpI.mk (some 22) none (IX.mov (Opd.tmp 24))]).seq (RC.cond (Opd.tmp 22) (RC.region [OpI.mk (some 25) none (IX.mov (Opd.tmp 7)), OpI.mk (some 26) none (IX.bin BinOp.sub QK.no (Opd.tmp 25) (Opd.const (AV.int IntKind.i64 (Int.ofNat 1)))), OpI.mk (some 7) none (IX.mov (Opd.tmp 26))]) RC.skip)))))).seq ((RC.region [OpI.mk (some 27) none (IX.mov (Opd.tmp 7)), OpI.mk (some 28) none (IX.bin BinOp.eql QK.no (Opd.tmp 27) (Opd.const (AV.int IntKind.i64 (Int.ofNat 0))))]).seq (RC.cond (Opd.tmp 28) ((RC.region [OpI.mk (some 29) none (IX.mov (Opd.tmp 8)), OpI.mk (some 6) none (IX.mov (Opd.tmp 29))]).seq RC.ret) RC.skip))))).seq (RC.region [OpI.mk (some 30) none (IX.bin BinOp.add QK.no (Opd.tmp 11) (Opd.const (AV.int IntKind.i64 (Int.ofNat 1)))), OpI.mk (some 11) none (IX.mov (Opd.tmp 30))])))
noncomputable def rf35 : RFun := RFun.mk 31 ((RC.region [OpI.mk (some 6) none (IX.mov (Opd.const (AV.int IntKind.i64 (Int.ofNat 0))))]).seq ((RC.region [OpI.mk (some 7) none (IX.mov (Opd.const (AV.int IntKind.i64 (Int.ofNat 1))))]).seq (((RC.region [OpI.mk (some 9) none (IX.mov (Opd.tmp 0)), OpI.mk (some 10) none (IX.len LK.str (Opd.tmp 9)), OpI.mk (some 11) none (IX.mov (Opd.const (AV.int IntKind.i64 (Int.ofNat 0))))]).seq (RC.block 0 (RC.loop rf35_L1))).seq ((RC.region [OpI.mk (some 6) none (IX.mov (Opd.const (AV.int IntKind.i64 (Int.negSucc 0))))]).seq RC.ret)))) [IRes.tmp 6]
set_option maxRecDepth 100000 in
theorem comp35 : compG Go.Proofs.Tryd.prog 1 35 = some rf35 := by kernel_rfl
noncomputable def rf53_L1 : RC := (RC.region [OpI.mk (some 12) none (IX.bin BinOp.lss QK.no (Opd.tmp 11) (Opd.tmp 10))]).seq ((RC.cond (Opd.tmp 12) RC.skip (RC.exit 0)).seq ((RC.block 1 ((RC.region [OpI.mk (some 13) none (IX.mov (Opd.tmp 11)), OpI.mk (some 8) none (IX.mov (Opd.tmp 13))]).seq (((RC.region [OpI.mk (some 14) none (IX.mov (Opd.tmp 8)), OpI.mk (some 15) none (IX.mov (Opd.tmp 2)), OpI.mk (some 16) none (IX.bin BinOp.geq QK.no (Opd.tmp 14) (Opd.tmp 15)), OpI.mk (some 17) none (IX.mov (Opd.tmp 16)), OpI.mk (some 18) (some (some 17, true)) (IX.mov (Opd.tmp 0)), OpI.mk (some 19) (some (some 17, true)) (IX.mov (Opd.tmp 8)), OpI.mk (some 20) (some (some 17, true)) (IX.idxStr (Opd.tmp 18) (Opd.tmp 19)), OpI.mk (some 21) (some (some 17, true)) (IX.mov (Opd.tmp 1)), OpI.mk (some 22) (some (some 17, true)) (IX.bin BinOp.eql QK.no (Opd.tmp 20) (Opd.tmp 21)), OpI.mk (some 23) none (IX.pick (Opd.tmp 17) (Opd.tmp 22) (Opd.const (AV.bool false))), OpI.mk (some 24) none (IX.mov (Opd.tmp 23)), OpI.mk (some 25) (some (some 24, true)) (IX.mov (Opd.tmp 7)), OpI.mk (some 26) (some (some 24, true)) (IX.bin BinOp.eql QK.no (Opd.tmp 25) (Opd.const (AV.int IntKind.i64 (Int.ofNat 0)))), OpI.mk (some 27) none (IX.pick (Opd.tmp 24) (Opd.tmp 26) (Opd.const (AV.bool false)))]).seq (RC.cond (Opd.tmp 27) ((RC.region [OpI.mk (some 28) none (IX.mov (Opd.tmp 8)), OpI.mk (some 6) none (IX.mov (Opd.tmp 28))]).seq RC.ret) RC.skip)).seq ((RC.region [OpI.mk (some 29) none (IX.mov (Opd.tmp 0)), OpI.mk (some 30) none (IX.mov (Opd.tmp 8)), OpI.mk (some 31) none (IX.idxStr (Opd.tmp 29) (Opd.tmp 30))]).seq (RC.block 2 (((RC.region [OpI.mk (some 33) none (IX.bin BinOp.eql QK.no (Opd.tmp 31) (Opd.const (AV.int IntKind.u8 (Int.ofNat 40)))), OpI.mk (some 32) none (IX.mov (Opd.tmp 33))]).seq (RC.cond (Opd.tmp 32) RC.skip (RC.region [OpI.mk (some 34) none (IX.bin BinOp.eql QK.no (Opd.tmp 31) (Opd.const (AV.int IntKind.u8 (Int.ofNat 123)))), OpI.mk (some 32) none (IX.mov (Opd.tmp 34))]))).seq (RC.cond (Opd.tmp 32) (RC.region [OpI.mk (some 35) none (IX.mov (Opd.tmp 7)), OpI.mk (some 36) none (IX.bin BinOp.add QK.no (Opd.tmp 35) (Opd.const (AV.int IntKind.i64 (Int.ofNat 1)))), OpI.mk (some 7) none (IX.mov (Opd.tmp 36))]) (((RC.region [OpI.mk (some 38) none (IX.bin BinOp.eql QK.no (Opd.tmp 31) (Opd.const (AV.int IntKind.u8 (Int.ofNat 41)))), OpI.mk (some 37) none (IX.mov (Opd.tmp 38))]).seq (RC.cond (Opd.tmp 37) RC.skip (RC.region [OpI.mk (some 39) none (IX.bin BinOp.eql QK.no (Opd.tmp 31) (Opd.const (AV.int IntKind.u8 (Int.ofNat 125)))), OpI.mk (some 37) none (IX.mov (Opd.tmp 39))]))).seq (RC.cond (Opd.tmp 37) (RC.region [OpI.mk (some 40) none (IX.mov (Opd.tmp 7)), OpI.mk (some 41) none (IX.bin BinOp.sub QK.no (Opd.tmp 40) (Opd.const (AV.int IntKind.i64 (Int.ofNat 1)))), OpI.mk (some 42) none (IX.maxI (Opd.tmp 41) [Opd.const (AV.int IntKind.i64 (Int.ofNat 0))]), OpI.mk (some 7) none (IX.mov (Opd.tmp 42))]) RC.skip))))))))).seq (RC.region [OpI.mk (some 43) none (IX.bin BinOp.add QK.no (Opd.tmp 11) (Opd.const (AV.int IntKind.i64 (Int.ofNat 1)))), OpI.mk (some 11) none (IX.mov (Opd.tmp 43))])))
noncomputable def rf53 : RFun := RFun.mk 44 ((RC.region [OpI.mk (some 6) none (IX.mov (Opd.const (AV.int IntKind.i64 (Int.ofNat 0))))]).seq ((RC.region [OpI.mk (some 7) none (IX.mov (Opd.const (AV.int IntKind.i64 (Int.ofNat 0))))]).seq (((RC.region [OpI.mk (some 9) none (IX.mov (Opd.tmp 0)), OpI.mk (some 10) none (IX.len LK.str (Opd.tmp 9)), OpI.mk (some 11) none (IX.mov (Opd.const (AV.int IntKind.i64 (Int.ofNat 0))))]).seq (RC.block 0 (RC.loop rf53_L1))).seq ((RC.region [OpI.mk (some 6) none (IX.mov (Opd.const (AV.int IntKind.i64 (Int.negSucc 0))))]).seq RC.ret)))) [IRes.tmp 6]
set_option maxRecDepth 100000 in
theorem comp53 : compG Go.Proofs.Tryd.prog 1 53 = some rf53 := by kernel_rfl
/-! ### end -/
noncomputable def endK (op sh : Nat) (l : List Nat) : Nat → Nat → Int :=
  List.rec (fun _ _ => Int.negSucc 0) (fun c _ ih d i => Bool.rec (Bool.rec (ih d (Nat.succ i)) (Bool.rec (ih (Nat.pred d) (Nat.succ i)) (Int.ofNat i) (Nat.beq d 1)) (Nat.beq c sh)) (ih (Nat.succ d) (Nat.succ i)) (Nat.beq c op)) l
theorem endK_cons (op sh c : Nat) (l : List Nat) (d i : Nat) : endK op sh (c :: l) d i = if c = op then endK op sh l (d + 1) (i + 1) else if c = sh then (if d = 1 then (i : Int) else endK op sh l (d - 1) (i + 1)) else endK op sh l d (i + 1) := by
  have e : endK op sh (c :: l) d i = Bool.rec (Bool.rec (endK op sh l d (Nat.succ i)) (Bool.rec (endK op sh l (Nat.pred d) (Nat.succ i)) (Int.ofNat i) (Nat.beq d 1)) (Nat.beq c sh)) (endK op sh l (Nat.succ d) (Nat.succ i)) (Nat.beq c op) := rfl
  rw [e, rec_beq, rec_beq, rec_beq]
  rfl
set_option maxHeartbeats 1000000 in
theorem loop35 (s : List Nat) (op sh : Nat) (h : Heap) (R : AEx → St → Prop) (hlen : s.length ≤ 4611686018427387904) : ∀ (r pre : List Nat) (d : Nat), s = pre ++ r → 1 ≤ d → d ≤ pre.length + 1 →
    (endK op sh r d pre.length = -1 → ∀ tm', R (.exit 0) ⟨tm', [], h⟩) → (∀ k : Nat, endK op sh r d pre.length = (k : Int) → ∀ tm', Tm.val tm' 6 = .int .i64 (k : Int) → R .ret ⟨tm', [], h⟩) →
    AXL Tryd.prog 1 31 rf35_L1 ⟨tmL [(0, .str s), (1, .int .u8 (op : Int)), (2, .int .u8 (sh : Int)), (7, .int .i64 (d : Int)), (10, .int .i64 (s.length : Int)), (11, .int .i64 (pre.length : Int))], [], h⟩ R := by
  intro r
  induction r with
  | nil =>
    intro pre d hs h1 h2 hR1 hR2
    refine AXL.roundE mixed rf35_L1.eq_1 ?_
    have hp : pre.length = s.length := by rw [hs]; simp
    have t1 : ¬ ((pre.length : Int) < (s.length : Int)) := by omega
    (repeat' first
      | with_reducible refine wpR_seq ?_
      | with_reducible refine wpR_block ?_
      | with_reducible refine wpR_skip ?_
      | with_reducible refine wpR_exit ?_
      | with_reducible refine wpR_ret ?_
      | with_reducible refine andThen_normal ?_
      | with_reducible refine andThen_exit ?_
      | with_reducible refine andThen_ret ?_
      | with_reducible refine inBlk_normal ?_
      | with_reducible refine inBlk_ret ?_
      | with_reducible refine inBlk_hit ?_
      | with_reducible refine inBlk_pass rfl ?_
      | (refine wpR_region (by simp only [opsE, wantedA, ax, ev, abin, aint, ltI_eq, eqI_eq, addI_eq, subI_eq, tmL_put', tmL_cons, Option.map_some, reduceIte, Nat.reduceEqDiff, t1, decide_false]; rfl) ?_)
      | (refine wpR_cond (by simp only [ev, tmL_cons, reduceIte, Nat.reduceEqDiff, t1, decide_false]; rfl) ?_)
      | with_reducible refine condV_T ?_
      | with_reducible refine condV_F ?_
      | (with_reducible refine condV_D (fun q => ?_) (fun q => ?_)))
    exact hR1 rfl _
  | cons c r ih =>
    intro pre d hs h1 h2 hR1 hR2
    refine AXL.roundE mixed rf35_L1.eq_1 ?_
    have hsl : s.length = pre.length + r.length + 1 := by rw [hs]; simp; omega
    have t1 : ((pre.length : Int) < (s.length : Int)) := by omega
    have t2 : nth s (Int.toNat (pre.length : Int)) = some c := by rw [nth_eq, hs]; simp
    have t3 : (0 : Int) ≤ (pre.length : Int) := by omega
    have w1 : wrapF .i64 ((pre.length : Int) + Int.ofNat 1) = ((pre ++ [c]).length : Int) := by
      rw [wrapF_in (by simp; omega) (by simp; omega)]; simp
    have w2 : wrapF .i64 ((d : Int) + Int.ofNat 1) = ((d + 1 : Nat) : Int) := by
      rw [wrapF_in (by simp; omega) (by simp; omega)]; simp
    have w3 : wrapF .i64 ((d : Int) - Int.ofNat 1) = ((d - 1 : Nat) : Int) := by
      rw [wrapF_in (by simp; omega) (by simp; omega)]; simp; omega
    have e0 : (Int.ofNat c = (op : Int)) = (c = op) := propext ⟨fun e => by simp at e; omega, fun e => by rw [e]; rfl⟩
    have e1 : (Int.ofNat c = (sh : Int)) = (c = sh) := propext ⟨fun e => by simp at e; omega, fun e => by rw [e]; rfl⟩
    have e2 : (((d + 1 : Nat) : Int) = Int.ofNat 0) = False := eq_false (by simp; omega)
    have e4 : (((d : Nat) : Int) = Int.ofNat 0) = False := eq_false (by simp; omega)
    have e3 : (((d - 1 : Nat) : Int) = Int.ofNat 0) = (d = 1) := propext ⟨fun e => by simp at e; omega, fun e => by rw [e]; rfl⟩
    have hs' : s = (pre ++ [c]) ++ r := by rw [hs]; simp
    have hl' : (pre ++ [c]).length = pre.length + 1 := by simp
    rw [endK_cons] at hR1 hR2
    (repeat' first
      | with_reducible refine wpR_seq ?_
      | with_reducible refine wpR_block ?_
      | with_reducible refine wpR_skip ?_
      | with_reducible refine wpR_exit ?_
      | with_reducible refine wpR_ret ?_
      | with_reducible refine andThen_normal ?_
      | with_reducible refine andThen_exit ?_
      | with_reducible refine andThen_ret ?_
      | with_reducible refine inBlk_normal ?_
      | with_reducible refine inBlk_ret ?_
      | with_reducible refine inBlk_hit ?_
      | with_reducible refine inBlk_pass rfl ?_
      | (refine wpR_region (by simp only [opsE, wantedA, ax, ev, abin, aint, ltI_eq, eqI_eq, addI_eq, subI_eq, tmL_put', tmL_cons, Option.map_some, reduceIte, Nat.reduceEqDiff, t1, t2, t3, w1, w2, w3, e0, e1, e2, e3, e4, decide_true, decide_false]; rfl) ?_)
      | (refine wpR_cond (by simp only [ev, tmL_cons, reduceIte, Nat.reduceEqDiff, t1, t2, t3, w1, w2, w3, e0, e1, e2, e3, e4, decide_true, decide_false]; rfl) ?_)
      | with_reducible refine condV_T ?_
      | with_reducible refine condV_F ?_
      | (with_reducible refine condV_D (fun q => ?_) (fun q => ?_)))
    · rw [if_pos (by assumption)] at hR1
      simp only [if_pos (show c = op by assumption)] at hR2
      exact AXL.weakK (ih (pre ++ [c]) (d + 1) hs' (by omega) (by omega) (by rw [hl']; exact hR1) (by rw [hl']; exact hR2)) (by repeat' first | exact TmLe.nil | refine TmLe.cons rfl ?_)
    · rename_i q0 q1
      simp only [if_neg q0, if_pos q1, if_pos q] at hR2
      exact hR2 pre.length rfl _ rfl
    · rename_i q0 q1
      simp only [if_neg q0, if_pos q1, if_neg q] at hR1 hR2
      exact AXL.weakK (ih (pre ++ [c]) (d - 1) hs' (by omega) (by omega) (by rw [hl']; exact hR1) (by rw [hl']; exact hR2)) (by repeat' first | exact TmLe.nil | refine TmLe.cons rfl ?_)
    · rename_i q0
      simp only [if_neg q0, if_neg q] at hR1 hR2
      exact AXL.weakK (ih (pre ++ [c]) d hs' (by omega) (by omega) (by rw [hl']; exact hR1) (by rw [hl']; exact hR2)) (by repeat' first | exact TmLe.nil | refine TmLe.cons rfl ?_)

theorem end_CX (s : List Nat) (op sh : Nat) (h : Heap) (hlen : s.length ≤ 4611686018427387904) : CX Tryd.prog 1 35 [.str s, .int .u8 (op : Int), .int .u8 (sh : Int)] h fun r1 h1 => r1 = .ret (.int .i64 (endK op sh s 1 0)) ∧ h1 = h := by
  refine CX.of_body mixed comp35 rf35.eq_1 (Nat.le_of_ble_eq_true rfl) (l := [(0, .str s), (1, .int .u8 (op : Int)), (2, .int .u8 (sh : Int))]) (TmLe.cons rfl (TmLe.cons rfl (TmLe.cons rfl TmLe.nil))) ?_
  (repeat' first
      | with_reducible refine wpR_seq ?_
      | with_reducible refine wpR_block ?_
      | with_reducible refine wpR_loop ?_
      | with_reducible refine andThen_normal ?_
      | (refine wpR_region (by simp only [opsE, wantedA, ax, ev, lenL_eq, tmL_put', tmL_cons, reduceIte, Nat.reduceEqDiff]; rfl) ?_))
  refine AXL.weakK (loop35 s op sh h _ hlen s [] 1 rfl (Nat.le_refl 1) (Nat.le_refl 1) (fun e tm' => ?_) (fun k e tm' ht => ?_)) (by repeat' first | exact TmLe.nil | refine TmLe.cons rfl ?_)
  · (repeat' first
      | with_reducible refine wpR_seq ?_
      | with_reducible refine wpR_ret ?_
      | with_reducible refine andThen_normal ?_
      | with_reducible refine andThen_exit ?_
      | with_reducible refine andThen_ret ?_
      | with_reducible refine inBlk_hit ?_
      | (refine wpR_region (by simp only [opsE, wantedA, ax, ev, reduceIte]; rfl) ?_))
    refine retR_ret (by simp only [resA]; rfl) ⟨?_, rfl⟩
    rw [show endK op sh s 1 0 = -1 from e]; rfl
  · (repeat' first
      | with_reducible refine andThen_ret ?_
      | with_reducible refine inBlk_ret ?_)
    refine retR_ret (vs := [.int .i64 (k : Int)]) (by simp only [resA, ht, Option.map_some]) ⟨?_, rfl⟩
    rw [show endK op sh s 1 0 = (k : Int) from e]; rfl
end Go.Proofs.YtpbfelgcaelpoaaDoor
