/- Syntax: the scanner of brackets, for every text (own work; printed in part by gen_scan.py). -/
import Derived.Test.YtpbfelgcaelpoaaDoorSc
set_option linter.unusedSimpArgs false
set_option linter.unusedVariables false
namespace Go.Proofs.YtpbfelgcaelpoaaDoor
open Go.AS Go.RowKit
/-! ### outside -/
noncomputable def outK (c fr : Nat) (l : List Nat) : Nat → Nat → Int :=
  List.rec (fun _ _ => Int.negSucc 0) (fun x _ ih d i => Bool.rec
    (Bool.rec (Bool.rec (Bool.rec (Bool.rec (ih d (Nat.succ i)) (ih (Nat.pred d) (Nat.succ i)) (Nat.beq x 125)) (ih (Nat.pred d) (Nat.succ i)) (Nat.beq x 41)) (ih (Nat.succ d) (Nat.succ i)) (Nat.beq x 123)) (ih (Nat.succ d) (Nat.succ i)) (Nat.beq x 40))
    (Int.ofNat i) (Bool.rec false (Bool.rec false (Nat.beq d 0) (Nat.beq x c)) (Nat.ble fr i))) l
def nextD (x d : Nat) : Nat := if x = 40 then d + 1 else if x = 123 then d + 1 else if x = 41 then d - 1 else if x = 125 then d - 1 else d
theorem outK_cons (c fr x : Nat) (l : List Nat) (d i : Nat) : outK c fr (x :: l) d i = if fr ≤ i ∧ x = c ∧ d = 0 then (i : Int) else outK c fr l (nextD x d) (i + 1) := by
  have e : outK c fr (x :: l) d i = Bool.rec
    (Bool.rec (Bool.rec (Bool.rec (Bool.rec (outK c fr l d (Nat.succ i)) (outK c fr l (Nat.pred d) (Nat.succ i)) (Nat.beq x 125)) (outK c fr l (Nat.pred d) (Nat.succ i)) (Nat.beq x 41)) (outK c fr l (Nat.succ d) (Nat.succ i)) (Nat.beq x 123)) (outK c fr l (Nat.succ d) (Nat.succ i)) (Nat.beq x 40))
    (Int.ofNat i) (Bool.rec false (Bool.rec false (Nat.beq d 0) (Nat.beq x c)) (Nat.ble fr i)) := rfl
  have e2 : (@Bool.rec (fun _ => Bool) false (@Bool.rec (fun _ => Bool) false (Nat.beq d 0) (Nat.beq x c)) (Nat.ble fr i)) = decide (fr ≤ i ∧ x = c ∧ d = 0) := by
    by_cases h1 : fr ≤ i
    · rw [Nat.ble_eq_true_of_le h1]
      by_cases h2 : x = c
      · subst h2
        by_cases h3 : d = 0
        · subst h3; simp [h1]
        · have : Nat.beq d 0 = false := by rw [Bool.eq_false_iff]; exact fun hh => h3 (Nat.eq_of_beq_eq_true hh)
          simp [this, h3]
      · have : Nat.beq x c = false := by rw [Bool.eq_false_iff]; exact fun hh => h2 (Nat.eq_of_beq_eq_true hh)
        simp [this, h2]
    · have : Nat.ble fr i = false := by rw [Bool.eq_false_iff]; exact fun hh => h1 (Nat.le_of_ble_eq_true hh)
      simp [this, h1]
  rw [e, e2, rec_beq, rec_beq, rec_beq, rec_beq]
  unfold nextD
  by_cases h : fr ≤ i ∧ x = c ∧ d = 0
  · simp only [h, and_self, decide_true, if_true]
    rfl
  · rw [if_neg h, decide_eq_false h]
    simp only
    split
    · rfl
    · split
      · rfl
      · split
        · rfl
        · split <;> rfl
set_option maxHeartbeats 4000000 in
theorem loop53 (s : List Nat) (c fr : Nat) (h : Heap) (R : AEx → St → Prop) (hlen : s.length ≤ 4611686018427387904) : ∀ (r pre : List Nat) (d : Nat), s = pre ++ r → d ≤ pre.length →
    (outK c fr r d pre.length = -1 → ∀ tm', R (.exit 0) ⟨tm', [], h⟩) → (∀ k : Nat, outK c fr r d pre.length = (k : Int) → ∀ tm', Tm.val tm' 6 = .int .i64 (k : Int) → R .ret ⟨tm', [], h⟩) →
    AXL Tryd.prog 1 44 rf53_L1 ⟨tmL [(0, .str s), (1, .int .u8 (c : Int)), (2, .int .i64 (fr : Int)), (7, .int .i64 (d : Int)), (10, .int .i64 (s.length : Int)), (11, .int .i64 (pre.length : Int))], [], h⟩ R := by
  intro r
  induction r with
  | nil =>
    intro pre d hs h2 hR1 hR2
    refine AXL.roundE mixed rf53_L1.eq_1 ?_
    have hp : pre.length = s.length := by rw [hs]; simp
    have t1 : ¬ ((pre.length : Int) < (s.length : Int)) := by omega
    (repeat' first
      | with_reducible refine wpR_seq ?_
      | with_reducible refine wpR_block ?_
      | with_reducible refine wpR_skip ?_
      | with_reducible refine wpR_exit ?_
      | with_reducible refine wpR_ret ?_
      | with_reducible refine andThen_normal ?_
      | with_reducible refine andThen_exit ?_
      | with_reducible refine andThen_ret ?_
      | with_reducible refine inBlk_normal ?_
      | with_reducible refine inBlk_ret ?_
      | with_reducible refine inBlk_hit ?_
      | with_reducible refine inBlk_pass rfl ?_
      | (refine wpR_region (by simp only [opsE, wantedA, ax, ev, evs, abin, aint, lenL_eq, ltI_eq, leI_eq, eqI_eq, addI_eq, subI_eq, tmL_put', tmL_cons, Option.map_some, reduceIte, Nat.reduceEqDiff, List.map_cons, List.map_nil, t1, decide_false]; rfl) ?_)
      | (refine wpR_cond (by simp only [ev, tmL_cons, reduceIte, Nat.reduceEqDiff, t1, decide_false]; rfl) ?_)
      | with_reducible refine condV_T ?_
      | with_reducible refine condV_F ?_
      | (with_reducible refine condV_D (fun q => ?_) (fun q => ?_)))
    exact hR1 rfl _
  | cons x r ih =>
    intro pre d hs h2 hR1 hR2
    refine AXL.roundE mixed rf53_L1.eq_1 ?_
    have hsl : s.length = pre.length + r.length + 1 := by rw [hs]; simp; omega
    have t1 : ((pre.length : Int) < (s.length : Int)) := by omega
    have t2 : nth s (Int.toNat (pre.length : Int)) = some x := by rw [nth_eq, hs]; simp
    have t3 : (0 : Int) ≤ (pre.length : Int) := by omega
    have w1 : wrapF .i64 ((pre.length : Int) + Int.ofNat 1) = ((pre ++ [x]).length : Int) := by
      rw [wrapF_in (by simp; omega) (by simp; omega)]; simp
    have w2 : wrapF .i64 ((d : Int) + Int.ofNat 1) = ((d + 1 : Nat) : Int) := by
      rw [wrapF_in (by simp; omega) (by simp; omega)]; simp
    have w3 : wrapF .i64 ((d : Int) - Int.ofNat 1) = (d : Int) - 1 := by
      rw [wrapF_in (by simp; omega) (by simp; omega)]; simp
    have m3 : foldA maxA (.int .i64 ((d : Int) - 1)) [.int .i64 (Int.ofNat 0)] = some (.int .i64 ((d - 1 : Nat) : Int)) := by
      simp only [foldA, maxA, ltI_eq]
      by_cases hd : d = 0
      · subst hd; rfl
      · have : ¬ ((d : Int) - 1 < Int.ofNat 0) := by simp; omega
        rw [decide_eq_false this]
        simp; omega
    have e1 : (Int.ofNat x = (c : Int)) = (x = c) := propext ⟨fun e => by simp at e; omega, fun e => by rw [e]; rfl⟩
    have e2 : ((d : Int) = Int.ofNat 0) = (d = 0) := propext ⟨fun e => by simp at e; omega, fun e => by rw [e]; rfl⟩
    have e3 : ((fr : Int) ≤ (pre.length : Int)) = (fr ≤ pre.length) := propext ⟨fun e => by omega, fun e => by omega⟩
    have e4 : (Int.ofNat x = Int.ofNat 40) = (x = 40) := propext ⟨fun e => by simp at e; omega, fun e => by rw [e]⟩
    have e5 : (Int.ofNat x = Int.ofNat 123) = (x = 123) := propext ⟨fun e => by simp at e; omega, fun e => by rw [e]⟩
    have e6 : (Int.ofNat x = Int.ofNat 41) = (x = 41) := propext ⟨fun e => by simp at e; omega, fun e => by rw [e]⟩
    have e7 : (Int.ofNat x = Int.ofNat 125) = (x = 125) := propext ⟨fun e => by simp at e; omega, fun e => by rw [e]⟩
    have hs' : s = (pre ++ [x]) ++ r := by rw [hs]; simp
    have hl' : (pre ++ [x]).length = pre.length + 1 := by simp
    rw [outK_cons] at hR1 hR2
    rw [← hl'] at hR1 hR2
    have step : ∀ (d' : Nat) (tm : Tm), d' = nextD x d → d' ≤ pre.length + 1 → ¬ (fr ≤ pre.length ∧ x = c ∧ d = 0) → TmLe [(0, .str s), (1, .int .u8 (c : Int)), (2, .int .i64 (fr : Int)), (7, .int .i64 (d' : Int)), (10, .int .i64 (s.length : Int)), (11, .int .i64 ((pre ++ [x]).length : Int))] tm → AXL Tryd.prog 1 44 rf53_L1 ⟨tm, [], h⟩ R := by
      intro d' tm hd hd2 hn htm
      rw [if_neg hn, ← hd] at hR1
      simp only [if_neg hn, ← hd] at hR2
      exact AXL.weakK (ih (pre ++ [x]) d' hs' (by omega) hR1 hR2) htm
    unfold nextD at step
    by_cases c1 : fr ≤ pre.length
    · have c1' : (fr ≤ pre.length) = True := eq_true c1
      by_cases c2 : x = c
      · have c2' : (x = c) = True := eq_true c2
        by_cases c3 : d = 0
        · have c3' : (d = 0) = True := eq_true c3
          simp only [c1', c2', c3', and_self, if_true] at hR2
          (repeat' first
            | with_reducible refine wpR_seq ?_
            | with_reducible refine wpR_block ?_
            | with_reducible refine wpR_skip ?_
            | with_reducible refine wpR_exit ?_
            | with_reducible refine wpR_ret ?_
            | with_reducible refine andThen_normal ?_
            | with_reducible refine andThen_exit ?_
            | with_reducible refine andThen_ret ?_
            | with_reducible refine inBlk_normal ?_
            | with_reducible refine inBlk_ret ?_
            | with_reducible refine inBlk_hit ?_
            | with_reducible refine inBlk_pass rfl ?_
            | (refine wpR_region (by simp only [opsE, wantedA, ax, ev, evs, abin, aint, lenL_eq, ltI_eq, leI_eq, eqI_eq, addI_eq, subI_eq, tmL_put', tmL_cons, Option.map_some, reduceIte, Nat.reduceEqDiff, List.map_cons, List.map_nil, t1, t2, t3, w1, w2, w3, m3, e1, e2, e3, e4, e5, e6, e7, decide_true, decide_false, c1', c2', c3']; rfl) ?_)
            | (refine wpR_cond (by simp only [ev, tmL_cons, reduceIte, Nat.reduceEqDiff, t1, t2, t3, w1, w2, w3, m3, e1, e2, e3, e4, e5, e6, e7, decide_true, decide_false, c1', c2', c3']; rfl) ?_)
            | with_reducible refine condV_T ?_
            | with_reducible refine condV_F ?_
            | (with_reducible refine condV_D (fun q => ?_) (fun q => ?_)))
          exact hR2 pre.length rfl _ rfl
        · have c3' : (d = 0) = False := eq_false c3
          by_cases k0 : x = 40
          · have k0' : (x = 40) = True := eq_true k0
            (repeat' first
              | with_reducible refine wpR_seq ?_
              | with_reducible refine wpR_block ?_
              | with_reducible refine wpR_skip ?_
              | with_reducible refine wpR_exit ?_
              | with_reducible refine wpR_ret ?_
              | with_reducible refine andThen_normal ?_
              | with_reducible refine andThen_exit ?_
              | with_reducible refine andThen_ret ?_
              | with_reducible refine inBlk_normal ?_
              | with_reducible refine inBlk_ret ?_
              | with_reducible refine inBlk_hit ?_
              | with_reducible refine inBlk_pass rfl ?_
              | (refine wpR_region (by simp only [opsE, wantedA, ax, ev, evs, abin, aint, lenL_eq, ltI_eq, leI_eq, eqI_eq, addI_eq, subI_eq, tmL_put', tmL_cons, Option.map_some, reduceIte, Nat.reduceEqDiff, List.map_cons, List.map_nil, t1, t2, t3, w1, w2, w3, m3, e1, e2, e3, e4, e5, e6, e7, decide_true, decide_false, c1', c2', c3', k0']; rfl) ?_)
              | (refine wpR_cond (by simp only [ev, tmL_cons, reduceIte, Nat.reduceEqDiff, t1, t2, t3, w1, w2, w3, m3, e1, e2, e3, e4, e5, e6, e7, decide_true, decide_false, c1', c2', c3', k0']; rfl) ?_)
              | with_reducible refine condV_T ?_
              | with_reducible refine condV_F ?_
              | (with_reducible refine condV_D (fun q => ?_) (fun q => ?_)))
            exact step (d + 1) _ (by simp only [k0', if_true, if_false]) (by omega) (fun hh => c3 hh.2.2) (by repeat' first | exact TmLe.nil | refine TmLe.cons rfl ?_)
          · have k0' : (x = 40) = False := eq_false k0
            by_cases k1 : x = 123
            · have k1' : (x = 123) = True := eq_true k1
              (repeat' first
                | with_reducible refine wpR_seq ?_
                | with_reducible refine wpR_block ?_
                | with_reducible refine wpR_skip ?_
                | with_reducible refine wpR_exit ?_
                | with_reducible refine wpR_ret ?_
                | with_reducible refine andThen_normal ?_
                | with_reducible refine andThen_exit ?_
                | with_reducible refine andThen_ret ?_
                | with_reducible refine inBlk_normal ?_
                | with_reducible refine inBlk_ret ?_
                | with_reducible refine inBlk_hit ?_
                | with_reducible refine inBlk_pass rfl ?_
                | (refine wpR_region (by simp only [opsE, wantedA, ax, ev, evs, abin, aint, lenL_eq, ltI_eq, leI_eq, eqI_eq, addI_eq, subI_eq, tmL_put', tmL_cons, Option.map_some, reduceIte, Nat.reduceEqDiff, List.map_cons, List.map_nil, t1, t2, t3, w1, w2, w3, m3, e1, e2, e3, e4, e5, e6, e7, decide_true, decide_false, c1', c2', c3', k0', k1']; rfl) ?_)
                | (refine wpR_cond (by simp only [ev, tmL_cons, reduceIte, Nat.reduceEqDiff, t1, t2, t3, w1, w2, w3, m3, e1, e2, e3, e4, e5, e6, e7, decide_true, decide_false, c1', c2', c3', k0', k1']; rfl) ?_)
                | with_reducible refine condV_T ?_
                | with_reducible refine condV_F ?_
                | (with_reducible refine condV_D (fun q => ?_) (fun q => ?_)))
              exact step (d + 1) _ (by simp only [k0', k1', if_true, if_false]) (by omega) (fun hh => c3 hh.2.2) (by repeat' first | exact TmLe.nil | refine TmLe.cons rfl ?_)
            · have k1' : (x = 123) = False := eq_false k1
              by_cases k2 : x = 41
              · have k2' : (x = 41) = True := eq_true k2
                (repeat' first
                  | with_reducible refine wpR_seq ?_
                  | with_reducible refine wpR_block ?_
                  | with_reducible refine wpR_skip ?_
                  | with_reducible refine wpR_exit ?_
                  | with_reducible refine wpR_ret ?_
                  | with_reducible refine andThen_normal ?_
                  | with_reducible refine andThen_exit ?_
                  | with_reducible refine andThen_ret ?_
                  | with_reducible refine inBlk_normal ?_
                  | with_reducible refine inBlk_ret ?_
                  | with_reducible refine inBlk_hit ?_
                  | with_reducible refine inBlk_pass rfl ?_
                  | (refine wpR_region (by simp only [opsE, wantedA, ax, ev, evs, abin, aint, lenL_eq, ltI_eq, leI_eq, eqI_eq, addI_eq, subI_eq, tmL_put', tmL_cons, Option.map_some, reduceIte, Nat.reduceEqDiff, List.map_cons, List.map_nil, t1, t2, t3, w1, w2, w3, m3, e1, e2, e3, e4, e5, e6, e7, decide_true, decide_false, c1', c2', c3', k0', k1', k2']; rfl) ?_)
                  | (refine wpR_cond (by simp only [ev, tmL_cons, reduceIte, Nat.reduceEqDiff, t1, t2, t3, w1, w2, w3, m3, e1, e2, e3, e4, e5, e6, e7, decide_true, decide_false, c1', c2', c3', k0', k1', k2']; rfl) ?_)
                  | with_reducible refine condV_T ?_
                  | with_reducible refine condV_F ?_
                  | (with_reducible refine condV_D (fun q => ?_) (fun q => ?_)))
                exact step (d - 1) _ (by simp only [k0', k1', k2', if_true, if_false]) (by omega) (fun hh => c3 hh.2.2) (by repeat' first | exact TmLe.nil | refine TmLe.cons rfl ?_)
              · have k2' : (x = 41) = False := eq_false k2
                by_cases k3 : x = 125
                · have k3' : (x = 125) = True := eq_true k3
                  (repeat' first
                    | with_reducible refine wpR_seq ?_
                    | with_reducible refine wpR_block ?_
                    | with_reducible refine wpR_skip ?_
                    | with_reducible refine wpR_exit ?_
                    | with_reducible refine wpR_ret ?_
                    | with_reducible refine andThen_normal ?_
                    | with_reducible refine andThen_exit ?_
                    | with_reducible refine andThen_ret ?_
                    | with_reducible refine inBlk_normal ?_
                    | with_reducible refine inBlk_ret ?_
                    | with_reducible refine inBlk_hit ?_
                    | with_reducible refine inBlk_pass rfl ?_
                    | (refine wpR_region (by simp only [opsE, wantedA, ax, ev, evs, abin, aint, lenL_eq, ltI_eq, leI_eq, eqI_eq, addI_eq, subI_eq, tmL_put', tmL_cons, Option.map_some, reduceIte, Nat.reduceEqDiff, List.map_cons, List.map_nil, t1, t2, t3, w1, w2, w3, m3, e1, e2, e3, e4, e5, e6, e7, decide_true, decide_false, c1', c2', c3', k0', k1', k2', k3']; rfl) ?_)
                    | (refine wpR_cond (by simp only [ev, tmL_cons, reduceIte, Nat.reduceEqDiff, t1, t2, t3, w1, w2, w3, m3, e1, e2, e3, e4, e5, e6, e7, decide_true, decide_false, c1', c2', c3', k0', k1', k2', k3']; rfl) ?_)
                    | with_reducible refine condV_T ?_
                    | with_reducible refine condV_F ?_
                    | (with_reducible refine condV_D (fun q => ?_) (fun q => ?_)))
                  exact step (d - 1) _ (by simp only [k0', k1', k2', k3', if_true, if_false]) (by omega) (fun hh => c3 hh.2.2) (by repeat' first | exact TmLe.nil | refine TmLe.cons rfl ?_)
                · have k3' : (x = 125) = False := eq_false k3
                  (repeat' first
                    | with_reducible refine wpR_seq ?_
                    | with_reducible refine wpR_block ?_
                    | with_reducible refine wpR_skip ?_
                    | with_reducible refine wpR_exit ?_
                    | with_reducible refine wpR_ret ?_
                    | with_reducible refine andThen_normal ?_
                    | with_reducible refine andThen_exit ?_
                    | with_reducible refine andThen_ret ?_
                    | with_reducible refine inBlk_normal ?_
                    | with_reducible refine inBlk_ret ?_
                    | with_reducible refine inBlk_hit ?_
                    | with_reducible refine inBlk_pass rfl ?_
                    | (refine wpR_region (by simp only [opsE, wantedA, ax, ev, evs, abin, aint, lenL_eq, ltI_eq, leI_eq, eqI_eq, addI_eq, subI_eq, tmL_put', tmL_cons, Option.map_some, reduceIte, Nat.reduceEqDiff, List.map_cons, List.map_nil, t1, t2, t3, w1, w2, w3, m3, e1, e2, e3, e4, e5, e6, e7, decide_true, decide_false, c1', c2', c3', k0', k1', k2', k3']; rfl) ?_)
                    | (refine wpR_cond (by simp only [ev, tmL_cons, reduceIte, Nat.reduceEqDiff, t1, t2, t3, w1, w2, w3, m3, e1, e2, e3, e4, e5, e6, e7, decide_true, decide_false, c1', c2', c3', k0', k1', k2', k3']; rfl) ?_)
                    | with_reducible refine condV_T ?_
                    | with_reducible refine condV_F ?_
                    | (with_reducible refine condV_D (fun q => ?_) (fun q => ?_)))
                  exact step (d) _ (by simp only [k0', k1', k2', k3', if_true, if_false]) (by omega) (fun hh => c3 hh.2.2) (by repeat' first | exact TmLe.nil | refine TmLe.cons rfl ?_)
      · have c2' : (x = c) = False := eq_false c2
        by_cases k0 : x = 40
        · have k0' : (x = 40) = True := eq_true k0
          (repeat' first
            | with_reducible refine wpR_seq ?_
            | with_reducible refine wpR_block ?_
            | with_reducible refine wpR_skip ?_
            | with_reducible refine wpR_exit ?_
            | with_reducible refine wpR_ret ?_
            | with_reducible refine andThen_normal ?_
            | with_reducible refine andThen_exit ?_
            | with_reducible refine andThen_ret ?_
            | with_reducible refine inBlk_normal ?_
            | with_reducible refine inBlk_ret ?_
            | with_reducible refine inBlk_hit ?_
            | with_reducible refine inBlk_pass rfl ?_
            | (refine wpR_region (by simp only [opsE, wantedA, ax, ev, evs, abin, aint, lenL_eq, ltI_eq, leI_eq, eqI_eq, addI_eq, subI_eq, tmL_put', tmL_cons, Option.map_some, reduceIte, Nat.reduceEqDiff, List.map_cons, List.map_nil, t1, t2, t3, w1, w2, w3, m3, e1, e2, e3, e4, e5, e6, e7, decide_true, decide_false, c1', c2', k0']; rfl) ?_)
            | (refine wpR_cond (by simp only [ev, tmL_cons, reduceIte, Nat.reduceEqDiff, t1, t2, t3, w1, w2, w3, m3, e1, e2, e3, e4, e5, e6, e7, decide_true, decide_false, c1', c2', k0']; rfl) ?_)
            | with_reducible refine condV_T ?_
            | with_reducible refine condV_F ?_
            | (with_reducible refine condV_D (fun q => ?_) (fun q => ?_)))
          exact step (d + 1) _ (by simp only [k0', if_true, if_false]) (by omega) (fun hh => c2 hh.2.1) (by repeat' first | exact TmLe.nil | refine TmLe.cons rfl ?_)
        · have k0' : (x = 40) = False := eq_false k0
          by_cases k1 : x = 123
          · have k1' : (x = 123) = True := eq_true k1
            (repeat' first
              | with_reducible refine wpR_seq ?_
              | with_reducible refine wpR_block ?_
              | with_reducible refine wpR_skip ?_
              | with_reducible refine wpR_exit ?_
              | with_reducible refine wpR_ret ?_
              | with_reducible refine andThen_normal ?_
              | with_reducible refine andThen_exit ?_
              | with_reducible refine andThen_ret ?_
              | with_reducible refine inBlk_normal ?_
              | with_reducible refine inBlk_ret ?_
              | with_reducible refine inBlk_hit ?_
              | with_reducible refine inBlk_pass rfl ?_
              | (refine wpR_region (by simp only [opsE, wantedA, ax, ev, evs, abin, aint, lenL_eq, ltI_eq, leI_eq, eqI_eq, addI_eq, subI_eq, tmL_put', tmL_cons, Option.map_some, reduceIte, Nat.reduceEqDiff, List.map_cons, List.map_nil, t1, t2, t3, w1, w2, w3, m3, e1, e2, e3, e4, e5, e6, e7, decide_true, decide_false, c1', c2', k0', k1']; rfl) ?_)
              | (refine wpR_cond (by simp only [ev, tmL_cons, reduceIte, Nat.reduceEqDiff, t1, t2, t3, w1, w2, w3, m3, e1, e2, e3, e4, e5, e6, e7, decide_true, decide_false, c1', c2', k0', k1']; rfl) ?_)
              | with_reducible refine condV_T ?_
              | with_reducible refine condV_F ?_
              | (with_reducible refine condV_D (fun q => ?_) (fun q => ?_)))
            exact step (d + 1) _ (by simp only [k0', k1', if_true, if_false]) (by omega) (fun hh => c2 hh.2.1) (by repeat' first | exact TmLe.nil | refine TmLe.cons rfl ?_)
          · have k1' : (x = 123) = False := eq_false k1
            by_cases k2 : x = 41
            · have k2' : (x = 41) = True := eq_true k2
              (repeat' first
                | with_reducible refine wpR_seq ?_
                | with_reducible refine wpR_block ?_
                | with_reducible refine wpR_skip ?_
                | with_reducible refine wpR_exit ?_
                | with_reducible refine wpR_ret ?_
                | with_reducible refine andThen_normal ?_
                | with_reducible refine andThen_exit ?_
                | with_reducible refine andThen_ret ?_
                | with_reducible refine inBlk_normal ?_
                | with_reducible refine inBlk_ret ?_
                | with_reducible refine inBlk_hit ?_
                | with_reducible refine inBlk_pass rfl ?_
                | (refine wpR_region (by simp only [opsE, wantedA, ax, ev, evs, abin, aint, lenL_eq, ltI_eq, leI_eq, eqI_eq, addI_eq, subI_eq, tmL_put', tmL_cons, Option.map_some, reduceIte, Nat.reduceEqDiff, List.map_cons, List.map_nil, t1, t2, t3, w1, w2, w3, m3, e1, e2, e3, e4, e5, e6, e7, decide_true, decide_false, c1', c2', k0', k1', k2']; rfl) ?_)
                | (refine wpR_cond (by simp only [ev, tmL_cons, reduceIte, Nat.reduceEqDiff, t1, t2, t3, w1, w2, w3, m3, e1, e2, e3, e4, e5, e6, e7, decide_true, decide_false, c1', c2', k0', k1', k2']; rfl) ?_)
                | with_reducible refine condV_T ?_
                | with_reducible refine condV_F ?_
                | (with_reducible refine condV_D (fun q => ?_) (fun q => ?_)))
              exact step (d - 1) _ (by simp only [k0', k1', k2', if_true, if_false]) (by omega) (fun hh => c2 hh.2.1) (by repeat' first | exact TmLe.nil | refine TmLe.cons rfl ?_)
            · have k2' : (x = 41) = False := eq_false k2
              by_cases k3 : x = 125
              · have k3' : (x = 125) = True := eq_true k3
                (repeat' first
                  | with_reducible refine wpR_seq ?_
                  | with_reducible refine wpR_block ?_
                  | with_reducible refine wpR_skip ?_
                  | with_reducible refine wpR_exit ?_
                  | with_reducible refine wpR_ret ?_
                  | with_reducible refine andThen_normal ?_
                  | with_reducible refine andThen_exit ?_
                  | with_reducible refine andThen_ret ?_
                  | with_reducible refine inBlk_normal ?_
                  | with_reducible refine inBlk_ret ?_
                  | with_reducible refine inBlk_hit ?_
                  | with_reducible refine inBlk_pass rfl ?_
                  | (refine wpR_region (by simp only [opsE, wantedA, ax, ev, evs, abin, aint, lenL_eq, ltI_eq, leI_eq, eqI_eq, addI_eq, subI_eq, tmL_put', tmL_cons, Option.map_some, reduceIte, Nat.reduceEqDiff, List.map_cons, List.map_nil, t1, t2, t3, w1, w2, w3, m3, e1, e2, e3, e4, e5, e6, e7, decide_true, decide_false, c1', c2', k0', k1', k2', k3']; rfl) ?_)
                  | (refine wpR_cond (by simp only [ev, tmL_cons, reduceIte, Nat.reduceEqDiff, t1, t2, t3, w1, w2, w3, m3, e1, e2, e3, e4, e5, e6, e7, decide_true, decide_false, c1', c2', k0', k1', k2', k3']; rfl) ?_)
                  | with_reducible refine condV_T ?_
                  | with_reducible refine condV_F ?_
                  | (with_reducible refine condV_D (fun q => ?_) (fun q => ?_)))
                exact step (d - 1) _ (by simp only [k0', k1', k2', k3', if_true, if_false]) (by omega) (fun hh => c2 hh.2.1) (by repeat' first | exact TmLe.nil | refine TmLe.cons rfl ?_)
              · have k3' : (x = 125) = False := eq_false k3
                (repeat' first
                  | with_reducible refine wpR_seq ?_
                  | with_reducible refine wpR_block ?_
                  | with_reducible refine wpR_skip ?_
                  | with_reducible refine wpR_exit ?_
                  | with_reducible refine wpR_ret ?_
                  | with_reducible refine andThen_normal ?_
                  | with_reducible refine andThen_exit ?_
                  | with_reducible refine andThen_ret ?_
                  | with_reducible refine inBlk_normal ?_
                  | with_reducible refine inBlk_ret ?_
                  | with_reducible refine inBlk_hit ?_
                  | with_reducible refine inBlk_pass rfl ?_
                  | (refine wpR_region (by simp only [opsE, wantedA, ax, ev, evs, abin, aint, lenL_eq, ltI_eq, leI_eq, eqI_eq, addI_eq, subI_eq, tmL_put', tmL_cons, Option.map_some, reduceIte, Nat.reduceEqDiff, List.map_cons, List.map_nil, t1, t2, t3, w1, w2, w3, m3, e1, e2, e3, e4, e5, e6, e7, decide_true, decide_false, c1', c2', k0', k1', k2', k3']; rfl) ?_)
                  | (refine wpR_cond (by simp only [ev, tmL_cons, reduceIte, Nat.reduceEqDiff, t1, t2, t3, w1, w2, w3, m3, e1, e2, e3, e4, e5, e6, e7, decide_true, decide_false, c1', c2', k0', k1', k2', k3']; rfl) ?_)
                  | with_reducible refine condV_T ?_
                  | with_reducible refine condV_F ?_
                  | (with_reducible refine condV_D (fun q => ?_) (fun q => ?_)))
                exact step (d) _ (by simp only [k0', k1', k2', k3', if_true, if_false]) (by omega) (fun hh => c2 hh.2.1) (by repeat' first | exact TmLe.nil | refine TmLe.cons rfl ?_)
    · have c1' : (fr ≤ pre.length) = False := eq_false c1
      by_cases k0 : x = 40
      · have k0' : (x = 40) = True := eq_true k0
        (repeat' first
          | with_reducible refine wpR_seq ?_
          | with_reducible refine wpR_block ?_
          | with_reducible refine wpR_skip ?_
          | with_reducible refine wpR_exit ?_
          | with_reducible refine wpR_ret ?_
          | with_reducible refine andThen_normal ?_
          | with_reducible refine andThen_exit ?_
          | with_reducible refine andThen_ret ?_
          | with_reducible refine inBlk_normal ?_
          | with_reducible refine inBlk_ret ?_
          | with_reducible refine inBlk_hit ?_
          | with_reducible refine inBlk_pass rfl ?_
          | (refine wpR_region (by simp only [opsE, wantedA, ax, ev, evs, abin, aint, lenL_eq, ltI_eq, leI_eq, eqI_eq, addI_eq, subI_eq, tmL_put', tmL_cons, Option.map_some, reduceIte, Nat.reduceEqDiff, List.map_cons, List.map_nil, t1, t2, t3, w1, w2, w3, m3, e1, e2, e3, e4, e5, e6, e7, decide_true, decide_false, c1', k0']; rfl) ?_)
          | (refine wpR_cond (by simp only [ev, tmL_cons, reduceIte, Nat.reduceEqDiff, t1, t2, t3, w1, w2, w3, m3, e1, e2, e3, e4, e5, e6, e7, decide_true, decide_false, c1', k0']; rfl) ?_)
          | with_reducible refine condV_T ?_
          | with_reducible refine condV_F ?_
          | (with_reducible refine condV_D (fun q => ?_) (fun q => ?_)))
        exact step (d + 1) _ (by simp only [k0', if_true, if_false]) (by omega) (fun hh => c1 hh.1) (by repeat' first | exact TmLe.nil | refine TmLe.cons rfl ?_)
      · have k0' : (x = 40) = False := eq_false k0
        by_cases k1 : x = 123
        · have k1' : (x = 123) = True := eq_true k1
          (repeat' first
            | with_reducible refine wpR_seq ?_
            | with_reducible refine wpR_block ?_
            | with_reducible refine wpR_skip ?_
            | with_reducible refine wpR_exit ?_
            | with_reducible refine wpR_ret ?_
            | with_reducible refine andThen_normal ?_
            | with_reducible refine andThen_exit ?_
            | with_reducible refine andThen_ret ?_
            | with_reducible refine inBlk_normal ?_
            | with_reducible refine inBlk_ret ?_
            | with_reducible refine inBlk_hit ?_
            | with_reducible refine inBlk_pass rfl ?_
            | (refine wpR_region (by simp only [opsE, wantedA, ax, ev, evs, abin, aint, lenL_eq, ltI_eq, leI_eq, eqI_eq, addI_eq, subI_eq, tmL_put', tmL_cons, Option.map_some, reduceIte, Nat.reduceEqDiff, List.map_cons, List.map_nil, t1, t2, t3, w1, w2, w3, m3, e1, e2, e3, e4, e5, e6, e7, decide_true, decide_false, c1', k0', k1']; rfl) ?_)
            | (refine wpR_cond (by simp only [ev, tmL_cons, reduceIte, Nat.reduceEqDiff, t1, t2, t3, w1, w2, w3, m3, e1, e2, e3, e4, e5, e6, e7, decide_true, decide_false, c1', k0', k1']; rfl) ?_)
            | with_reducible refine condV_T ?_
            | with_reducible refine condV_F ?_
            | (with_reducible refine condV_D (fun q => ?_) (fun q => ?_)))
          exact step (d + 1) _ (by simp only [k0', k1', if_true, if_false]) (by omega) (fun hh => c1 hh.1) (by repeat' first | exact TmLe.nil | refine TmLe.cons rfl ?_)
        · have k1' : (x = 123) = False := eq_false k1
          by_cases k2 : x = 41
          · have k2' : (x = 41) = True := eq_true k2
            (repeat' first
              | with_reducible refine wpR_seq ?_
              | with_reducible refine wpR_block ?_
              | with_reducible refine wpR_skip ?_
              | with_reducible refine wpR_exit ?_
              | with_reducible refine wpR_ret ?_
              | with_reducible refine andThen_normal ?_
              | with_reducible refine andThen_exit ?_
              | with_reducible refine andThen_ret ?_
              | with_reducible refine inBlk_normal ?_
              | with_reducible refine inBlk_ret ?_
              | with_reducible refine inBlk_hit ?_
              | with_reducible refine inBlk_pass rfl ?_
              | (refine wpR_region (by simp only [opsE, wantedA, ax, ev, evs, abin, aint, lenL_eq, ltI_eq, leI_eq, eqI_eq, addI_eq, subI_eq, tmL_put', tmL_cons, Option.map_some, reduceIte, Nat.reduceEqDiff, List.map_cons, List.map_nil, t1, t2, t3, w1, w2, w3, m3, e1, e2, e3, e4, e5, e6, e7, decide_true, decide_false, c1', k0', k1', k2']; rfl) ?_)
              | (refine wpR_cond (by simp only [ev, tmL_cons, reduceIte, Nat.reduceEqDiff, t1, t2, t3, w1, w2, w3, m3, e1, e2, e3, e4, e5, e6, e7, decide_true, decide_false, c1', k0', k1', k2']; rfl) ?_)
              | with_reducible refine condV_T ?_
              | with_reducible refine condV_F ?_
              | (with_reducible refine condV_D (fun q => ?_) (fun q => ?_)))
            exact step (d - 1) _ (by simp only [k0', k1', k2', if_true, if_false]) (by omega) (fun hh => c1 hh.1) (by repeat' first | exact TmLe.nil | refine TmLe.cons rfl ?_)
          · have k2' : (x = 41) = False := eq_false k2
            by_cases k3 : x = 125
            · have k3' : (x = 125) = True := eq_true k3
              (repeat' first
                | with_reducible refine wpR_seq ?_
                | with_reducible refine wpR_block ?_
                | with_reducible refine wpR_skip ?_
                | with_reducible refine wpR_exit ?_
                | with_reducible refine wpR_ret ?_
                | with_reducible refine andThen_normal ?_
                | with_reducible refine andThen_exit ?_
                | with_reducible refine andThen_ret ?_
                | with_reducible refine inBlk_normal ?_
                | with_reducible refine inBlk_ret ?_
                | with_reducible refine inBlk_hit ?_
                | with_reducible refine inBlk_pass rfl ?_
                | (refine wpR_region (by simp only [opsE, wantedA, ax, ev, evs, abin, aint, lenL_eq, ltI_eq, leI_eq, eqI_eq, addI_eq, subI_eq, tmL_put', tmL_cons, Option.map_some, reduceIte, Nat.reduceEqDiff, List.map_cons, List.map_nil, t1, t2, t3, w1, w2, w3, m3, e1, e2, e3, e4, e5, e6, e7, decide_true, decide_false, c1', k0', k1', k2', k3']; rfl) ?_)
                | (refine wpR_cond (by simp only [ev, tmL_cons, reduceIte, Nat.reduceEqDiff, t1, t2, t3, w1, w2, w3, m3, e1, e2, e3, e4, e5, e6, e7, decide_true, decide_false, c1', k0', k1', k2', k3']; rfl) ?_)
                | with_reducible refine condV_T ?_
                | with_reducible refine condV_F ?_
                | (with_reducible refine condV_D (fun q => ?_) (fun q => ?_)))
              exact step (d - 1) _ (by simp only [k0', k1', k2', k3', if_true, if_false]) (by omega) (fun hh => c1 hh.1) (by repeat' first | exact TmLe.nil | refine TmLe.cons rfl ?_)
            · have k3' : (x = 125) = False := eq_false k3
              (repeat' first
                | with_reducible refine wpR_seq ?_
                | with_reducible refine wpR_block ?_
                | with_reducible refine wpR_skip ?_
                | with_reducible refine wpR_exit ?_
                | with_reducible refine wpR_ret ?_
                | with_reducible refine andThen_normal ?_
                | with_reducible refine andThen_exit ?_
                | with_reducible refine andThen_ret ?_
                | with_reducible refine inBlk_normal ?_
                | with_reducible refine inBlk_ret ?_
                | with_reducible refine inBlk_hit ?_
                | with_reducible refine inBlk_pass rfl ?_
                | (refine wpR_region (by simp only [opsE, wantedA, ax, ev, evs, abin, aint, lenL_eq, ltI_eq, leI_eq, eqI_eq, addI_eq, subI_eq, tmL_put', tmL_cons, Option.map_some, reduceIte, Nat.reduceEqDiff, List.map_cons, List.map_nil, t1, t2, t3, w1, w2, w3, m3, e1, e2, e3, e4, e5, e6, e7, decide_true, decide_false, c1', k0', k1', k2', k3']; rfl) ?_)
                | (refine wpR_cond (by simp only [ev, tmL_cons, reduceIte, Nat.reduceEqDiff, t1, t2, t3, w1, w2, w3, m3, e1, e2, e3, e4, e5, e6, e7, decide_true, decide_false, c1', k0', k1', k2', k3']; rfl) ?_)
                | with_reducible refine condV_T ?_
                | with_reducible refine condV_F ?_
                | (with_reducible refine condV_D (fun q => ?_) (fun q => ?_)))
              exact step (d) _ (by simp only [k0', k1', k2', k3', if_true, if_false]) (by omega) (fun hh => c1 hh.1) (by repeat' first | exact TmLe.nil | refine TmLe.cons rfl ?_)
theorem out_CX (s : List Nat) (c fr : Nat) (h : Heap) (hlen : s.length ≤ 4611686018427387904) : CX Tryd.prog 1 53 [.str s, .int .u8 (c : Int), .int .i64 (fr : Int)] h fun r1 h1 => r1 = .ret (.int .i64 (outK c fr s 0 0)) ∧ h1 = h := by
  refine CX.of_body mixed comp53 rf53.eq_1 (Nat.le_of_ble_eq_true rfl) (l := [(0, .str s), (1, .int .u8 (c : Int)), (2, .int .i64 (fr : Int))]) (TmLe.cons rfl (TmLe.cons rfl (TmLe.cons rfl TmLe.nil))) ?_
  (repeat' first
      | with_reducible refine wpR_seq ?_
      | with_reducible refine wpR_block ?_
      | with_reducible refine wpR_loop ?_
      | with_reducible refine andThen_normal ?_
      | (refine wpR_region (by simp only [opsE, wantedA, ax, ev, lenL_eq, tmL_put', tmL_cons, reduceIte, Nat.reduceEqDiff]; rfl) ?_))
  refine AXL.weakK (loop53 s c fr h _ hlen s [] 0 rfl (Nat.le_refl 0) (fun e tm' => ?_) (fun k e tm' ht => ?_)) (by repeat' first | exact TmLe.nil | refine TmLe.cons rfl ?_)
  · (repeat' first
      | with_reducible refine wpR_seq ?_
      | with_reducible refine wpR_ret ?_
      | with_reducible refine andThen_normal ?_
      | with_reducible refine andThen_exit ?_
      | with_reducible refine andThen_ret ?_
      | with_reducible refine inBlk_hit ?_
      | (refine wpR_region (by simp only [opsE, wantedA, ax, ev, reduceIte]; rfl) ?_))
    refine retR_ret (by simp only [resA]; rfl) ⟨?_, rfl⟩
    rw [show outK c fr s 0 0 = -1 from e]; rfl
  · (repeat' first
      | with_reducible refine andThen_ret ?_
      | with_reducible refine inBlk_ret ?_)
    refine retR_ret (vs := [.int .i64 (k : Int)]) (by simp only [resA, ht, Option.map_some]) ⟨?_, rfl⟩
    rw [show outK c fr s 0 0 = (k : Int) from e]; rfl
end Go.Proofs.YtpbfelgcaelpoaaDoor
