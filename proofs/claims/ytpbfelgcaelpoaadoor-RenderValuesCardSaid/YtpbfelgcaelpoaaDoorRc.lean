/- Render: the example of the document; what the laws' runs are (own work). -/
import Derived.Test.YtpbfelgcaelpoaaDoorRb
set_option linter.unusedSimpArgs false
set_option linter.unusedVariables false
namespace Go.Proofs.YtpbfelgcaelpoaaDoor
open Go.AS Go.RowKit
set_option maxRecDepth 100000 in
theorem awake27_run (m : Int) : retIs (.bool true) (runFK S0 F1 1000 17 [] (hM m)) = true := by kernel_rfl
noncomputable section
/-- The table where a byte is asked for besides. -/
def tabC (c : Nat) : List (List Nat × AV) := ([97, c, 98], .bool (fitC c)) :: wordTab
def Sc (c : Nat) : Sums := fun f => if f = 17 then some (gConstM (.bool true)) else if f = 16 then some (gTab (tabC c)) else S0 f
def So : Sums := fun f => if f = 17 then some (gConstM (.bool true)) else if f = 16 then some (gTab otherTab) else S0 f
/-- Any number. -/
def anyI : AV := .ge (Int.negSucc 9223372036854775807)
def rfitsOk (m : Int) (c : Nat) : Bool := retIs (.bool true) (runFK (Sc c) F1 10000 6 [.int .u8 (Int.ofNat c), anyI] (hM m))
def rvalsOk (m : Int) (b : Bool) (k : Nat) : Bool := retIs (.bool true) (runFK So F1 10000 7 [.res 9 k, .bool b] (hM m))
def rruleOk (m : Int) (b : Bool) (p o r : Nat) : Bool := retIs (.bool true) (runFK So F1 10000 8 [.res 5 p, .res 4 o, .res 4 r, .bool b] (hM m))
end
set_option maxRecDepth 100000 in
theorem awake27_callS (base : Nat) : CallS Tryd.prog 1 base (fun f' args h => if f' = 17 then gConstM (.bool true) args h else none) :=
  constM_callS (calls_of_sums sums0 1000) Tryd.func17 rfl (by kernel_rfl) rfl awake27_run
set_option maxRecDepth 100000 in
theorem fits_callS {l : List (List Nat × AV)} (hl : ∀ s v, (s, v) ∈ l → v.flat = true ∧ ∀ m, fitsRun m s v = true) (base : Nat) : CallS Tryd.prog 1 base (fun f' args h => if f' = 16 then gTab l args h else none) :=
  tab_callS (calls_of_sums sums0 1000) Tryd.func16 rfl (by kernel_rfl) hl
theorem flat_words : (wordTab.all fun e => e.2.flat) = true := by kernel_rfl
theorem flat_others : (otherTab.all fun e => e.2.flat) = true := by kernel_rfl
theorem words_ok (s : List Nat) (v : AV) (h : (s, v) ∈ wordTab) : v.flat = true ∧ ∀ m, fitsRun m s v = true :=
  ⟨List.all_eq_true.1 flat_words _ h, fun m => by have := allB_mem (fits_words m) _ h; simp only [fitsEnt] at this; exact this⟩
theorem others_ok (s : List Nat) (v : AV) (h : (s, v) ∈ otherTab) : v.flat = true ∧ ∀ m, fitsRun m s v = true :=
  ⟨List.all_eq_true.1 flat_others _ h, fun m => by have := allB_mem (fits_others m) _ h; simp only [fitsEnt] at this; exact this⟩
theorem sumsO (base : Nat) : SumS Tryd.prog 1 base So := SumS.cons (awake27_callS base) (SumS.cons (fits_callS others_ok base) (sums0 base))
theorem sumsC (c : Nat) (hc : ∀ m, fitsC m c = true) (base : Nat) : SumS Tryd.prog 1 base (Sc c) :=
  SumS.cons (awake27_callS base) (SumS.cons (fits_callS (fun s v h => by
    rcases List.mem_cons.1 h with h | h
    · simp only [Prod.mk.injEq] at h
      obtain ⟨rfl, rfl⟩ := h
      exact ⟨rfl, hc⟩
    · exact words_ok s v h) base) (sums0 base))
/-- A closed run told of a call. -/
theorem law_calls {S : Sums} (hS : ∀ base, SumS Tryd.prog 1 base S) {n f : Nat} {fn : Func} {c : Code} {args : List AV} {args' : Array Value} {m : Int} {W : World} (hf : Tryd.prog.funcs[f]? = some fn) (hb : fn.body = some c) (hname : (fn.name == "runtime.NumGoroutine") = false)
    (hx : retIs (.bool true) (runFK S F1 n f args (hM m)) = true) (hv : VRs φM args args'.toList) (hm : W.cell? ⟨0, 0, none⟩ = some (.int .i64 m)) :
    Calls Tryd.prog f args' W fun e w' => e = .returned (.bool true) ∧ Below W.heap.size W w' := by
  obtain ⟨h1, e⟩ := retIs_some hx
  refine (calls_of (calls_of_sums hS n W.heap.size) hf hb hname e GLM hv (WRM W hm (Nat.le_refl _))).mono fun e w' he => ?_
  obtain ⟨φ', v', rfl, k1, k2⟩ := he
  simp only [VR] at k1
  exact ⟨by rw [k1], Step.below' hM_ro k2⟩
theorem resV {φ : Phi} {x : Int} {n : Nat} (hn : 0 < n) : ∃ k, k < n ∧ VR φ (.res n k) (.int .i64 x) := by
  have h1 := Int.emod_nonneg x (b := (n : Int)) (by omega)
  have h2 := Int.emod_lt_of_pos x (b := (n : Int)) (by omega)
  refine ⟨(x % (n : Int)).toNat, by omega, ?_⟩
  simp only [VR]
  exact ⟨x, rfl, by rw [Int.toNat_of_nonneg h1]⟩
end Go.Proofs.YtpbfelgcaelpoaaDoor
