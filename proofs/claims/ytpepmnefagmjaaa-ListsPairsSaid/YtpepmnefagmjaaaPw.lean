/- ListsPairs returns true (own work). -/
import Derived.Test.YtpepmnefagmjaaaPk0
import Derived.Test.YtpepmnefagmjaaaPk1
import Derived.Test.YtpepmnefagmjaaaPk2
import Derived.Test.YtpepmnefagmjaaaPk3
import Derived.Test.YtpepmnefagmjaaaPk4
import Derived.Test.YtpepmnefagmjaaaPk5
import Derived.Test.YtpepmnefagmjaaaPk6
import Derived.Test.YtpepmnefagmjaaaPk7
import Derived.Test.YtpepmnefagmjaaaPk8
import Derived.Test.YtpepmnefagmjaaaPk9
import Derived.Test.YtpepmnefagmjaaaPk10
import Derived.Test.YtpepmnefagmjaaaPk11
import Derived.Test.YtpepmnefagmjaaaPk12
import Derived.Test.YtpepmnefagmjaaaPk13
import Derived.Test.YtpepmnefagmjaaaPk14
import Derived.Test.YtpepmnefagmjaaaPk15
import Derived.Test.YtpepmnefagmjaaaPk16
import Derived.Test.YtpepmnefagmjaaaPk17
import Derived.Test.YtpepmnefagmjaaaPk18
import Derived.Test.YtpepmnefagmjaaaPk19
import Derived.Test.YtpepmnefagmjaaaRows
import Derived.OpenShut
set_option linter.unusedSimpArgs false
set_option linter.unusedVariables false
namespace Go.Proofs.Ytpepmnefagmjaaa
open Go.AS Go.RowKit
theorem pairs_all (k j : Nat) (hk : k < 20) (hj : j < 20) : pairsOk k j = true := by
  match k, hk with
  | 0, _ => exact pairs_row0 j hj
  | 1, _ => exact pairs_row1 j hj
  | 2, _ => exact pairs_row2 j hj
  | 3, _ => exact pairs_row3 j hj
  | 4, _ => exact pairs_row4 j hj
  | 5, _ => exact pairs_row5 j hj
  | 6, _ => exact pairs_row6 j hj
  | 7, _ => exact pairs_row7 j hj
  | 8, _ => exact pairs_row8 j hj
  | 9, _ => exact pairs_row9 j hj
  | 10, _ => exact pairs_row10 j hj
  | 11, _ => exact pairs_row11 j hj
  | 12, _ => exact pairs_row12 j hj
  | 13, _ => exact pairs_row13 j hj
  | 14, _ => exact pairs_row14 j hj
  | 15, _ => exact pairs_row15 j hj
  | 16, _ => exact pairs_row16 j hj
  | 17, _ => exact pairs_row17 j hj
  | 18, _ => exact pairs_row18 j hj
  | 19, _ => exact pairs_row19 j hj
  | n + 20, h => exact absurd h (by omega)
set_option maxRecDepth 100000 in
theorem pairs_walk (a b : Int) (w : World) : Calls Try.prog 8 #[.int .i64 a, .int .i64 b] w fun e w' => e = .returned (.bool true) ∧ Below w.heap.size w w' := by
  refine calls_of_wp Try.func8 pairs_body ?_
  have hc := calls1 w.heap.size 10000
  have hv : VRs φ0 [.int .i64 a, .int .i64 b] (#[Value.int .i64 a, Value.int .i64 b] : Array Value).toList := by simp [VRs, VR]
  have sr0 := entry_SR (nt := 110) (h := h0) GL0 hv (by simp)
  have hA := isNorm_some (pairs_a a b)
  refine wp_seq_run mixed hc hA sr0 (WR0 w (Nat.le_refl _)) fun φ1 a1 w1 st1 sr1 => ?_
  have hB := isNorm_some (pairs_b a b)
  refine wp_seq_run mixed hc hB sr1 st1.wr fun φ2 a2 w2 st2 sr2 => ?_
  have st12 := st1.trans st2
  have hh : (stOf (runC call1 100 (compR Try.prog 0 110 pairsB) (stOf (runC call1 100 (compR Try.prog 0 110 pairsA) ⟨tmOf [.int .i64 a, .int .i64 b] 110, [], h0⟩)))).h = h0 := pairs_h a b
  rw [hh] at st12
  have ha := Int.emod_nonneg a (b := 20) (by omega)
  have ha2 := Int.emod_lt_of_pos a (b := 20) (by omega)
  have hb := Int.emod_nonneg b (b := 20) (by omega)
  have hb2 := Int.emod_lt_of_pos b (b := 20) (by omega)
  have t5 := sr2.t 5
  have t6 := sr2.t 6
  have e5 : Tm.val (stOf (runC call1 100 (compR Try.prog 0 110 pairsB) (stOf (runC call1 100 (compR Try.prog 0 110 pairsA) ⟨tmOf [.int .i64 a, .int .i64 b] 110, [], h0⟩)))).tm 5 = .int .i64 (a % 20) := pairs_k a b
  have e6 : Tm.val (stOf (runC call1 100 (compR Try.prog 0 110 pairsB) (stOf (runC call1 100 (compR Try.prog 0 110 pairsA) ⟨tmOf [.int .i64 a, .int .i64 b] 110, [], h0⟩)))).tm 6 = .int .i64 (b % 20) := pairs_j a b
  rw [e5] at t5
  rw [e6] at t6
  obtain ⟨k, hk⟩ : ∃ k : Nat, a % 20 = Int.ofNat k := ⟨(a % 20).toNat, by simp; omega⟩
  obtain ⟨j, hj⟩ : ∃ j : Nat, b % 20 = Int.ofNat j := ⟨(b % 20).toNat, by simp; omega⟩
  rw [hk] at t5
  rw [hj] at t6
  have hk2 : k < 20 := by simp at hk; omega
  have hj2 : j < 20 := by simp at hj; omega
  obtain ⟨s3, hR, hdf, hres⟩ := isRet_some (pairs_all k j hk2 hj2)
  have sr3 : SR 0 110 φ2 ⟨pairsTm k j, [], h0⟩ a2 := ⟨sr2.g, fun t => by
    unfold pairsTm
    rw [val_put, val_put]
    by_cases h6 : 6 = t
    · subst h6; simpa using t6
    · by_cases h5 : 5 = t
      · subst h5; simpa using t5
      · simp [h5, h6, val_leaf, VR], by
    have hd := sr2.d
    have e : (stOf (runC call1 100 (compR Try.prog 0 110 pairsB) (stOf (runC call1 100 (compR Try.prog 0 110 pairsA) ⟨tmOf [.int .i64 a, .int .i64 b] 110, [], h0⟩)))).df = [] := pairs_df a b
    rw [e] at hd; exact hd, sr2.n⟩
  refine (runC_sound mixed hc 10000).1 pairsR _ .ret s3 φ2 a2 w2 _ hR sr3 st12.wr ?_
  intro φ3 a3 w3 st3 sr4
  have hd := sr4.d
  rw [hdf] at hd
  have ht := sr4.t 4
  rw [hres] at ht
  simp only [VR] at ht
  refine ⟨hd, .bool true, ?_, rfl, (st12.trans st3).below⟩
  have hr : Try.f8.results = #[.tmp 4] := rfl
  simp only [results, hr]
  simp
  rw [← ht]
  simp
end Go.Proofs.Ytpepmnefagmjaaa
