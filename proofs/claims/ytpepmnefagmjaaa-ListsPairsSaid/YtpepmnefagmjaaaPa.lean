/- The function tables for the laws of lists; Place, awake (own work). -/
import Derived.Test.YtpepmnefagmjaaaAsW
import Derived.Test.YtpepmnefagmjaaaChecked
import Derived.WalkKit
import Derived.ProofKit
set_option linter.unusedSimpArgs false
set_option linter.unusedVariables false
namespace Go.Proofs.Ytpepmnefagmjaaa
open Go.AS Go.RowKit

theorem mixed : Try.prog.follows .mixedOrders = true := Try.checked.mixed
noncomputable abbrev F0 : Nat → Option RFun := compG Try.prog 0
/-- What is run in the place of bodies: first the two functions without any. -/
noncomputable def S0 : Sums := fun f => if f = 112 then some gIndexByte else if f = 113 then some gSame else none
set_option maxRecDepth 100000 in
theorem sums0 (base : Nat) : SumS Try.prog 0 base S0 := by
  intro f g hg
  unfold S0 at hg
  split at hg
  · rename_i e
    subst e
    simp only [Option.some.injEq] at hg; subst hg
    exact indexByte_callS Try.func112 (by kernel_rfl) (by kernel_rfl) (by kernel_rfl) (by kernel_rfl)
  · split at hg
    · rename_i e
      subst e
      simp only [Option.some.injEq] at hg; subst hg
      exact noEscape_callS Try.func113 (by kernel_rfl) (by kernel_rfl) (by kernel_rfl) (by kernel_rfl)
    · cases hg
set_option maxRecDepth 100000 in
theorem calls0 (base n : Nat) : CallS Try.prog 0 base (runF S0 F0 n) := runF_sound mixed (sums0 base) (fun _ _ h => h) n

/-- Place: any number as one from 0 to n - 1. -/
theorem place_calls (v n : Int) (hn : 0 < n) (hb : n ≤ 1000000) (w : World) :
    Calls Try.prog 12 #[.int .i64 v, .int .i64 n] w fun e w' => e = .returned (.int .i64 (v % n)) ∧ w' = w := by
  have h0 : n ≠ 0 := by omega
  have hm := Int.tmod_eq_emod (a := v) (b := n)
  have hlt := Int.emod_lt_of_pos v hn
  have hge := Int.emod_nonneg v h0
  go_enter Try.func12, Try.ntmps12
  go_wp2
  all_goals go_ret
  · rename_i ha
    rw [if_pos h] at ha; omega
  · rename_i ha
    have e : v % n - ↑n.natAbs + n = v % n := by omega
    refine ⟨?_, rfl⟩
    show Ending.returned (.int .i64 (wrap64 (v % n - ↑n.natAbs + n))) = _
    have e2 : wrap64 (v % n) = v % n := by unfold wrap64; omega
    rw [e, e2]
  · exact ⟨rfl, rfl⟩
  · rename_i ha
    rw [if_neg h] at ha; omega
/-- What Place gives. -/
noncomputable def gPlace : List AV → Heap → Option (ARes × Heap)
  | [.int .i64 v, .int .i64 (.ofNat n)], h => if Nat.ble 1 n && Nat.ble n 1000000 then some (.ret (.int .i64 (v % Int.ofNat n)), h) else none
  | _, _ => none
set_option maxRecDepth 100000 in
theorem place_callS (base : Nat) : CallS Try.prog 0 base (fun f' args h => if f' = 12 then gPlace args h else none) :=
  enter_callS Try.func12 rfl (by kernel_rfl) fun args h r h' φ w args' hx hv hr => by
    unfold gPlace at hx
    split at hx
    · rename_i v n
      split at hx
      · rename_i hc
        simp only [Option.some.injEq, Prod.mk.injEq] at hx
        obtain ⟨rfl, rfl⟩ := hx
        simp only [Bool.and_eq_true, Nat.ble_eq] at hc
        simp only [VRs, VR] at hv
        obtain ⟨x, xs, e1, rfl, y, ys, rfl, rfl, rfl⟩ := hv
        obtain rfl : args' = #[.int .i64 v, .int .i64 (Int.ofNat n)] := Array.ext' (by simpa using e1)
        refine ⟨_, rfl, (place_calls v (Int.ofNat n) (by have := hc.1; simp; omega) (by have := hc.2; simp; omega) w).mono fun e w' ⟨he, hw⟩ => ?_⟩
        subst hw
        exact ⟨φ, _, he, by simp [VR], Step.refl hr⟩
      · cases hx
    · cases hx
/-- The document's example: it holds. -/
noncomputable def isTrue : Option (ARes × Heap) → Bool
  | some (.ret (.bool b), _) => b
  | _ => false
theorem isTrue_some {x : Option (ARes × Heap)} (h : isTrue x = true) : ∃ h', x = some (.ret (.bool true), h') := by
  unfold isTrue at h
  split at h
  · rename_i b h'; subst h; exact ⟨h', rfl⟩
  · cases h
set_option maxRecDepth 100000 in
theorem awake_run : isTrue (runF S0 F0 1000 25 [] h0) = true := by kernel_rfl
set_option maxRecDepth 100000 in
theorem awake_callS (base : Nat) : CallS Try.prog 0 base (fun f' args h => if f' = 25 then gConst true args h else none) := by
  obtain ⟨h', e⟩ := isTrue_some awake_run
  exact const_callS (fun b => calls0 b 1000) Try.func25 rfl (by kernel_rfl) e
noncomputable def S1 : Sums := fun f => if f = 12 then some gPlace else if f = 25 then some (gConst true) else S0 f
set_option maxRecDepth 100000 in
theorem sums1 (base : Nat) : SumS Try.prog 0 base S1 := by
  intro f g hg
  unfold S1 at hg
  split at hg
  · rename_i e
    subst e
    simp only [Option.some.injEq] at hg; subst hg
    exact place_callS base
  · split at hg
    · rename_i e
      subst e
      simp only [Option.some.injEq] at hg; subst hg
      exact awake_callS base
    · exact sums0 base f g hg
set_option maxRecDepth 100000 in
theorem calls1 (base n : Nat) : CallS Try.prog 0 base (runF S1 F0 n) := runF_sound mixed (sums1 base) (fun _ _ h => h) n
end Go.Proofs.Ytpepmnefagmjaaa
