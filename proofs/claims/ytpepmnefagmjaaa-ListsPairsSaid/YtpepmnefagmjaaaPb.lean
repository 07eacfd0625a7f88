/- ListsPairs: its text in parts; what its rest is run on (own work). -/
import Derived.Test.YtpepmnefagmjaaaPa
set_option linter.unusedSimpArgs false
set_option linter.unusedVariables false
namespace Go.Proofs.Ytpepmnefagmjaaa
open Go.AS Go.RowKit

noncomputable def bodyOf (f : Func) : Code := f.body.getD .skip
noncomputable def hdOf : Code → Code
  | .seq a _ => a
  | c => c
noncomputable def tlOf : Code → Code
  | .seq _ b => b
  | c => c
noncomputable def stOf : Option (AEx × St) → St
  | some (_, s) => s
  | none => ⟨.leaf, [], h0⟩
noncomputable def isNorm : Option (AEx × St) → Bool
  | some (.normal, _) => true
  | _ => false
/-- It returns true, by the temp t. -/
noncomputable def isRet (t : Nat) : Option (AEx × St) → Bool
  | some (.ret, ⟨tm, [], _⟩) => match Tm.val tm t with
    | .bool b => b
    | _ => false
  | _ => false
noncomputable def call1 : CallF := runF S1 F0 10000
noncomputable def pairsA : Code := hdOf (bodyOf Try.f8)
noncomputable def pairsB : Code := hdOf (tlOf (bodyOf Try.f8))
noncomputable def pairsR : Code := tlOf (tlOf (bodyOf Try.f8))
noncomputable def pairsS (a b : Int) : St := stOf (runC call1 100 (compR Try.prog 0 110 pairsB) (stOf (runC call1 100 (compR Try.prog 0 110 pairsA) ⟨tmOf [.int .i64 a, .int .i64 b] 110, [], h0⟩)))
noncomputable def pairsTm (k j : Nat) : Tm := Tr.put (Tr.put .leaf 5 (some (.int .i64 (.ofNat k)))) 6 (some (.int .i64 (.ofNat j)))
noncomputable def pairsOk (k j : Nat) : Bool := isRet 4 (runC call1 10000 (compR Try.prog 0 110 pairsR) ⟨pairsTm k j, [], h0⟩)
/-- All from j on, n of them. -/
noncomputable def pairsRow (k : Nat) : Nat → Nat → Bool
  | 0, _ => true
  | n + 1, j => match pairsOk k j with
    | true => pairsRow k n (j + 1)
    | false => false
theorem isNorm_some {x : Option (AEx × St)} (h : isNorm x = true) : x = some (.normal, stOf x) := by
  unfold isNorm at h
  split at h
  · rfl
  · cases h
theorem isRet_some {t : Nat} {x : Option (AEx × St)} (h : isRet t x = true) : ∃ s, x = some (.ret, s) ∧ s.df = [] ∧ Tm.val s.tm t = .bool true := by
  unfold isRet at h
  split at h
  · rename_i tm hh
    split at h
    · rename_i b e
      subst h
      exact ⟨_, rfl, rfl, e⟩
    · cases h
  · cases h
theorem pairsRow_all {k : Nat} : ∀ (n j : Nat), pairsRow k n j = true → ∀ i, i < n → pairsOk k (j + i) = true
  | 0, _, _, i, hi => absurd hi (Nat.not_lt_zero i)
  | n + 1, j, h, i, hi => by
    simp only [pairsRow] at h
    split at h
    · rename_i e
      cases i with
      | zero => exact e
      | succ i =>
        have := pairsRow_all n (j + 1) h i (by omega)
        rwa [show j + 1 + i = j + (i + 1) by omega] at this
    · cases h
set_option maxRecDepth 100000 in
theorem pairs_body : Try.f8.body = some (.seq pairsA (.seq pairsB pairsR)) := by kernel_rfl
set_option maxRecDepth 100000 in
theorem pairs_a (a b : Int) : isNorm (runC call1 100 (compR Try.prog 0 110 pairsA) ⟨tmOf [.int .i64 a, .int .i64 b] 110, [], h0⟩) = true := by kernel_rfl
set_option maxRecDepth 100000 in
theorem pairs_b (a b : Int) : isNorm (runC call1 100 (compR Try.prog 0 110 pairsB) (stOf (runC call1 100 (compR Try.prog 0 110 pairsA) ⟨tmOf [.int .i64 a, .int .i64 b] 110, [], h0⟩))) = true := by kernel_rfl
set_option maxRecDepth 100000 in
theorem pairs_k (a b : Int) : Tm.val (pairsS a b).tm 5 = .int .i64 (a % 20) := by kernel_rfl
set_option maxRecDepth 100000 in
theorem pairs_j (a b : Int) : Tm.val (pairsS a b).tm 6 = .int .i64 (b % 20) := by kernel_rfl
set_option maxRecDepth 100000 in
theorem pairs_h (a b : Int) : (pairsS a b).h = h0 := by kernel_rfl
set_option maxRecDepth 100000 in
theorem pairs_df (a b : Int) : (pairsS a b).df = [] := by kernel_rfl
set_option maxRecDepth 100000 in
theorem pairs_ah (a b : Int) : (stOf (runC call1 100 (compR Try.prog 0 110 pairsA) ⟨tmOf [.int .i64 a, .int .i64 b] 110, [], h0⟩)).h = h0 := by kernel_rfl
end Go.Proofs.Ytpepmnefagmjaaa
