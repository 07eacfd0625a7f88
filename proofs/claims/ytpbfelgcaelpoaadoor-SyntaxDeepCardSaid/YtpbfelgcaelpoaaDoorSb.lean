/- Syntax: the example of the document; what the law's runs are (own work). -/
import Derived.Test.YtpbfelgcaelpoaaDoorSa
set_option linter.unusedSimpArgs false
set_option linter.unusedVariables false
namespace Go.Proofs.YtpbfelgcaelpoaaDoor
open Go.AS Go.RowKit
set_option maxRecDepth 100000 in
theorem awake10_run (m : Int) : retIs (.bool true) (runFK S1 F1 1000 11 [] (hM m)) = true := by kernel_rfl
set_option maxRecDepth 100000 in
theorem awake10_callS (base : Nat) : CallS Tryd.prog 1 base (fun f' args h => if f' = 11 then gConstM (.bool true) args h else none) :=
  constM_callS (calls_of_sums sums1 1000) Tryd.func11 rfl (by kernel_rfl) rfl awake10_run
noncomputable def S2 : Sums := fun f => if f = 11 then some (gConstM (.bool true)) else S1 f
theorem sums2 (base : Nat) : SumS Tryd.prog 1 base S2 := SumS.cons (awake10_callS base) (sums1 base)
noncomputable def scallsOk (m : Int) (b : Bool) (w : Nat) (k : Nat) : Bool := retIs (.bool true) (runFK S2 F1 10000 4 [.res 8 w, .res 8 k, .bool b] (hM m))
/-- A closed run told of a call. -/
theorem law_callsS {S : Sums} (hS : ∀ base, SumS Tryd.prog 1 base S) {n f : Nat} {fn : Func} {c : Code} {args : List AV} {args' : Array Value} {m : Int} {W : World} (hf : Tryd.prog.funcs[f]? = some fn) (hb : fn.body = some c) (hname : (fn.name == "runtime.NumGoroutine") = false)
    (hx : retIs (.bool true) (runFK S F1 n f args (hM m)) = true) (hv : VRs φM args args'.toList) (hm : W.cell? ⟨0, 0, none⟩ = some (.int .i64 m)) :
    Calls Tryd.prog f args' W fun e w' => e = .returned (.bool true) ∧ Below W.heap.size W w' := by
  obtain ⟨h1, e⟩ := retIs_some hx
  refine (calls_of (calls_of_sums hS n W.heap.size) hf hb hname e GLM hv (WRM W hm (Nat.le_refl _))).mono fun e w' he => ?_
  obtain ⟨φ', v', rfl, k1, k2⟩ := he
  simp only [VR] at k1
  exact ⟨by rw [k1], Step.below' hM_ro k2⟩
theorem resVS {φ : Phi} {x : Int} {n : Nat} (hn : 0 < n) : ∃ k, k < n ∧ VR φ (.res n k) (.int .i64 x) := by
  have h1 := Int.emod_nonneg x (b := (n : Int)) (by omega)
  have h2 := Int.emod_lt_of_pos x (b := (n : Int)) (by omega)
  refine ⟨(x % (n : Int)).toNat, by omega, ?_⟩
  simp only [VR]
  exact ⟨x, rfl, by rw [Int.toNat_of_nonneg h1]⟩
end Go.Proofs.YtpbfelgcaelpoaaDoor
