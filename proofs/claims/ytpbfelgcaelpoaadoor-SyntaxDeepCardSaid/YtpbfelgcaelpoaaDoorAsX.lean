/- The abstract semantics: externs, closed runs, the executor for the kernel, recover (own work). -/
import Derived.Test.YtpbfelgcaelpoaaDoorAsW
import Derived.Lib.MakeNoZero
import Derived.Lib.Index
import Derived.Recover
set_option linter.unusedSimpArgs false
set_option linter.unusedVariables false
set_option linter.unnecessarySimpa false
/- More functions without a body; a callee by a contract that asks for a variable's cell (own work). -/
set_option linter.unusedSimpArgs false
set_option linter.unusedVariables false
namespace Go.AS
open Go.RowKit
variable {P : Program} {G : Nat} {base : Nat}

/-- A callee by its contract, where the variables lie. -/
theorem enter_callSG {f : FuncId} {fn : Func} {c : Code} {g : List AV → Heap → Option (ARes × Heap)} (hf : P.funcs[f]? = some fn) (hb : fn.body = some c) (hname : (fn.name == "runtime.NumGoroutine") = false)
    (hg : ∀ args h r h' φ w (args' : Array Value), g args h = some (r, h') → GL G φ → VRs φ args args'.toList → WR base φ h w → ∃ v, r = .ret v ∧ Calls P f args' w fun e w' => ∃ φ' v', e = .returned v' ∧ VR φ' v v' ∧ Step base φ h w φ' h' w') :
    CallS P G base (fun f' args h => if f' = f then g args h else none) := by
  intro f' args h r h' φ w args' hx hgl hv hr o a next Q k
  simp only at hx
  split at hx
  · rename_i hff
    subst hff
    obtain ⟨v, rfl, hcalls⟩ := hg args h r h' φ w args' hx hgl hv hr
    have hcf : (callFunc f' args').run P w = .ok (.enter f' args') w := by
      have hname' : ¬ fn.name = "runtime.NumGoroutine" := by simpa using hname
      unfold callFunc
      simp [hf, hb, hname']
    rw [hcf, Oper.upon_enter]
    refine hcalls.mono fun e w' he => ?_
    obtain ⟨φ', v', rfl, k1, k2⟩ := he
    exact k φ' w' v' k2 k1
  · cases hx
noncomputable section
def countN (c : Nat) (l : List Nat) : Nat := List.rec 0 (fun x _ ih => Bool.rec ih (Nat.succ ih) (Nat.beq x c)) l
def gCount : List AV → Heap → Option (ARes × Heap)
  | [.str s, .int .u8 (.ofNat c)], h => if c < 256 then some (.ret (.int .i64 (Int.ofNat (countN c s))), h) else none
  | _, _ => none
def repL {α : Type} (x : α) (n : Nat) : List α := Nat.rec [] (fun _ ih => x :: ih) n
def gMake (e : Nat) : List AV → Heap → Option (ARes × Heap)
  | [.int .i64 (.ofNat n)], h => Bool.rec none (some (.ret (.slice h.nx 0 n n 1), h.pushE e (repL .unk n))) (Nat.ble n 1048576)
  | _, _ => none
def pfxN (a : List Nat) : List Nat → Bool := List.rec (fun _ => true) (fun x _ ih b => List.rec false (fun y r _ => Bool.rec false (ih r) (Nat.beq x y)) b) a
def indexN (sub : List Nat) (l : List Nat) : Int :=
  List.rec (List.rec (Int.ofNat 0) (fun _ _ _ => Int.negSucc 0) sub) (fun x l ih => Bool.rec (Int.rec (fun n => Int.ofNat (Nat.succ n)) (fun m => Int.negSucc m) ih) (Int.ofNat 0) (pfxN sub (x :: l))) l
def gIndex : List AV → Heap → Option (ARes × Heap)
  | [.str s, .str t], h => match h.cells 0 with
    | some [.int .i64 _] => Bool.rec none (some (.ret (.int .i64 (indexN t s)), h)) (Nat.ble (Nat.succ (lenL s)) 4294967281)
    | _ => none
  | _, _ => none
end
theorem countN_eq (c : UInt8) : ∀ l : List UInt8, countN c.toNat (l.map (·.toNat)) = l.count c
  | [] => rfl
  | x :: l => by
    have ih := countN_eq c l
    have e : countN c.toNat ((x :: l).map (·.toNat)) = Bool.rec (countN c.toNat (l.map (·.toNat))) (Nat.succ (countN c.toNat (l.map (·.toNat)))) (Nat.beq x.toNat c.toNat) := rfl
    rw [e, ih, List.count_cons]
    by_cases hx : x = c
    · subst hx; simp
    · have h1 : Nat.beq x.toNat c.toNat = false := by
        rw [Bool.eq_false_iff]; intro h; exact hx (UInt8.toNat_inj.1 (Nat.eq_of_beq_eq_true h))
      rw [h1]; simp [hx]
theorem count_callS {f : FuncId} {fn : Func} (hf : P.funcs[f]? = some fn) (hname : (fn.name == "runtime.NumGoroutine") = false)
    (hb : fn.body.isNone = true) (hn : Extern.findNext fn = none) (he : Extern.find fn = some Extern.BytealgCount.count) :
    CallS P G base (fun f' args h => if f' = f then gCount args h else none) :=
  ext_callS hf hname hb hn he fun args h r h' φ w args' hx hv hr => by
    unfold gCount at hx
    split at hx
    · rename_i s c
      split at hx
      · rename_i hc
        simp only [Option.some.injEq, Prod.mk.injEq] at hx
        obtain ⟨rfl, rfl⟩ := hx
        simp only [VRs, VR] at hv
        obtain ⟨x, xs, e1, ⟨b, rfl, rfl⟩, y, ys, rfl, rfl, rfl⟩ := hv
        obtain rfl : args' = #[.string b, .int .u8 (Int.ofNat c)] := Array.ext' (by simpa using e1)
        refine ⟨_, _, φ, w, rfl, Lib.run_countString b (Int.ofNat c) w, ?_, Step.refl hr⟩
        simp only [VR, Lib.countByte]
        have : (Int.ofNat c).toNat.toUInt8.toNat = c := by simp [Nat.toUInt8, Nat.mod_eq_of_lt hc]
        have h2 := countN_eq (Int.ofNat c).toNat.toUInt8 b.data.toList
        rw [this] at h2
        unfold bytesN
        rw [h2]; rfl
      · cases hx
    · cases hx
theorem repL_eq {α : Type} (x : α) (n : Nat) : repL x n = List.replicate n x := by
  induction n with
  | zero => rfl
  | succ n ih => show x :: repL x n = _; rw [ih]; rfl
theorem digits_mem : ∀ (n t : Nat) (acc : Array Value) (v : Value), v ∈ (Extern.BytealgMakeNoZero.digits n t acc).toList → v ∈ acc.toList ∨ ∃ k, v = .int .u8 k
  | 0, _, acc, v, h => .inl h
  | n + 1, t, acc, v, h => by
    rw [Extern.BytealgMakeNoZero.digits] at h
    rcases digits_mem n _ _ v h with h | h
    · simp only [Array.toList_push, List.mem_append, List.mem_singleton] at h
      rcases h with h | h
      · exact .inl h
      · exact .inr ⟨_, h⟩
    · exact .inr h
theorem run_mnz (ps : Array TypeId) (t e : TypeId) (ht : P.underlying t = some (.slice e)) (n : Nat) (hn : n ≤ 281474976710656) (w : World) :
    ∃ cs : Array Value, (Extern.BytealgMakeNoZero.makeNoZero ps #[t] #[.int .i64 n]).run P w = .ok (.slice (some ⟨w.heap.size, 0, none⟩) n cs.size) (w.drew.drew.alloc (.cells cs e)) ∧ n ≤ cs.size ∧ ∀ v ∈ cs.toList, ∃ k, v = .int .u8 k := by
  have hdef : Extern.BytealgMakeNoZero.makeNoZero ps #[t] #[.int .i64 n] =
      (do
        let .slice elem ← underlying t | stuck "bytealg.MakeNoZero: slice type expected"
        if (n : Int) < 0 || (n : Int) > 2 ^ 48 then runtimePanic (.error "makeslice: len out of range")
        let cap ← choose (.appendCap (n : Int).toNat 0 elem)
        askRoom cap
        let bytes ← choose (.extern "internal/bytealg.MakeNoZero.bytes" 0)
        let a ← newRow elem (Extern.BytealgMakeNoZero.digits cap bytes #[])
        pure (.slice (some a) (n : Int).toNat cap)) := rfl
  refine ⟨Extern.BytealgMakeNoZero.digits (grownCap w n 0 e) ((Question.extern "internal/bytealg.MakeNoZero.bytes" 0).cut (w.tape (w.drawn + 1) (.extern "internal/bytealg.MakeNoZero.bytes" 0))) #[], ?_, ?_, ?_⟩
  · rw [hdef]
    have h1 : ¬ (n : Int) < 0 := by omega
    have h2 : ¬ (281474976710656 : Int) < (n : Int) := by omega
    simp [run_underlying ht, h1, h2, Question.forced, newRow, Lib.size_digits, grownCap]
  · rw [Lib.size_digits]
    simpa using grownCap_ge w n 0 e
  · intro v hv
    rcases digits_mem _ _ _ v hv with h | h
    · simp at h
    · exact h
theorem make_callS {f : FuncId} {fn : Func} {ps : Array TypeId} {t e : TypeId} (hf : P.funcs[f]? = some fn) (hname : (fn.name == "runtime.NumGoroutine") = false)
    (hb : fn.body.isNone = true) (hn : Extern.findNext fn = none) (he : Extern.find fn = some (Extern.BytealgMakeNoZero.makeNoZero ps #[t])) (ht : P.underlying t = some (.slice e)) :
    CallS P G base (fun f' args h => if f' = f then gMake e args h else none) :=
  ext_callS hf hname hb hn he fun args h r h' φ w args' hx hv hr => by
    unfold gMake at hx
    split at hx
    · rename_i n
      cases hle : Nat.ble n 1048576 with
      | false => rw [hle] at hx; cases hx
      | true =>
        rw [hle] at hx
        have hle' := Nat.le_of_ble_eq_true hle
        simp only [Option.some.injEq, Prod.mk.injEq] at hx
        obtain ⟨rfl, rfl⟩ := hx
        simp only [VRs, VR] at hv
        obtain ⟨x, xs, e1, rfl, rfl⟩ := hv
        obtain rfl : args' = #[.int .i64 (Int.ofNat n)] := Array.ext' (by simpa using e1)
        obtain ⟨cs, k1, k2, k3⟩ := run_mnz (P := P) ps t e ht n (by omega) w
        have hlen : cs.toList.length = cs.size := by simp
        have hone : ∀ v ∈ cs.toList, v.oneCell' = true := fun v hv => by obtain ⟨k, rfl⟩ := k3 v hv; rfl
        have hvr : VRs φ (repL .unk n) (cs.toList.take n) := by
          rw [repL_eq]
          refine VRs.of_get _ _ (by simp; omega) fun i x hx => ?_
          rw [List.getElem?_replicate] at hx
          split at hx
          · rename_i hi
            simp only [Option.some.injEq] at hx; subst hx
            have hi2 : i < cs.toList.length := by rw [hlen]; omega
            refine ⟨cs.toList[i], by rw [List.getElem?_take_of_lt hi, List.getElem?_eq_getElem hi2], ?_⟩
            simp only [VR]
            exact hone _ (List.getElem_mem hi2)
          · cases hx
        have st := alloc_cells (w' := w.drew.drew.alloc (.cells cs e)) hr (vs := cs.toList.take n) (rest := cs.toList.drop n) (ty := e) (fz := (0, 0)) (cs.size - n) 1 (by simp) hvr (by rw [repL_eq]; simp [allOne, AV.one]) (by simp) (.inr rfl) rfl rfl rfl rfl
        refine ⟨_, _, _, _, rfl, k1, ?_, Step.tag st (m := ⟨w.heap.size, 0, cs.size - n, 1, (repL AV.unk n).length⟩) (n := cs.size) (by simp) rfl ?_ (fun h => absurd rfl h)⟩
        · simp only [VR]
          refine ⟨⟨w.heap.size, 0, cs.size - n, 1, (repL AV.unk n).length⟩, 0, cs.size, by simp, Nat.le_refl _, fun _ => ⟨rfl, by rw [repL_eq]; simp⟩, by simp; omega, .inr rfl, rfl⟩
        · have := shape_alloc w.drew.drew cs e
          exact this
    · cases hx
theorem pfxN_eq : ∀ (a b : List UInt8), pfxN (a.map (·.toNat)) (b.map (·.toNat)) = a.isPrefixOf b
  | [], b => by simp [pfxN]
  | x :: a, [] => rfl
  | x :: a, y :: b => by
    have ih := pfxN_eq a b
    have e : pfxN ((x :: a).map (·.toNat)) ((y :: b).map (·.toNat)) = Bool.rec false (pfxN (a.map (·.toNat)) (b.map (·.toNat))) (Nat.beq x.toNat y.toNat) := rfl
    rw [e, ih, List.isPrefixOf]
    have e2 : Nat.beq x.toNat y.toNat = (x == y) := by
      rw [Bool.eq_iff_iff]; simp [Nat.beq_eq, UInt8.toNat_inj]
    rw [e2]
    cases (x == y) <;> rfl
theorem indexN_eq (sub : List UInt8) : ∀ (l : List UInt8), indexN (sub.map (·.toNat)) (l.map (·.toNat)) = Lib.index l sub
  | [] => by cases sub <;> rfl
  | x :: l => by
    have ih := indexN_eq sub l
    have e : indexN (sub.map (·.toNat)) ((x :: l).map (·.toNat)) = Bool.rec (Int.rec (fun n => Int.ofNat (Nat.succ n)) (fun m => Int.negSucc m) (indexN (sub.map (·.toNat)) (l.map (·.toNat)))) (Int.ofNat 0) (pfxN (sub.map (·.toNat)) ((x :: l).map (·.toNat))) := rfl
    rw [e, pfxN_eq, ih, Lib.index]
    have hge := Lib.index_ge l sub
    cases sub.isPrefixOf (x :: l) with
    | true => rfl
    | false =>
      simp only [Bool.false_eq_true, if_false]
      cases hi : Lib.index l sub with
      | ofNat n =>
        have : ¬ ((Int.ofNat n == -1) = true) := by simp
        rw [if_neg this]; rfl
      | negSucc m =>
        rw [hi] at hge
        have : m = 0 := by rw [Int.negSucc_eq] at hge; omega
        subst this
        rfl
theorem index_callS {f : FuncId} {fn : Func} {c : Code} (hG : 0 < G) (hf : P.funcs[f]? = some fn) (hb : fn.body = some c) (hname : (fn.name == "runtime.NumGoroutine") = false)
    (hc : ∀ (s sub : ByteArray) (m : Int) (w : World), s.size < 4294967281 → w.cell? ⟨0, 0, none⟩ = some (.int .i64 m) → Calls P f #[.string s, .string sub] w fun e w' => e = .returned (.int .i64 (Lib.index s.data.toList sub.data.toList)) ∧ w' = w) :
    CallS P G base (fun f' args h => if f' = f then gIndex args h else none) :=
  enter_callSG hf hb hname fun args h r h' φ w args' hx hgl hv hr => by
    unfold gIndex at hx
    split at hx
    · rename_i s t
      split at hx
      · rename_i m hm
        cases hle : Nat.ble (Nat.succ (lenL s)) 4294967281 with
        | false => rw [hle] at hx; cases hx
        | true =>
          rw [hle] at hx
          have hle' := Nat.le_of_ble_eq_true hle
          simp only [Option.some.injEq, Prod.mk.injEq] at hx
          obtain ⟨rfl, rfl⟩ := hx
          simp only [VRs, VR] at hv
          obtain ⟨x, xs, e1, ⟨b, rfl, rfl⟩, y, ys, rfl, ⟨b2, rfl, rfl⟩, rfl⟩ := hv
          obtain rfl : args' = #[.string b, .string b2] := Array.ext' (by simpa using e1)
          obtain ⟨m0, g1, g2, g3⟩ := hgl 0 hG
          obtain ⟨ro, hget⟩ := Heap.cells_get hm
          have hcr := hr.cellsR hget g1
          obtain ⟨v, c1, c2, _⟩ := hcr.2.1 0 (.int .i64 m) rfl
          rw [g2, g3] at c1
          simp only [VR] at c2; subst c2
          refine ⟨_, rfl, (hc b b2 m w (by rw [lenL_eq, bytesN_length] at hle'; omega) c1).mono fun e w' ⟨he, hw⟩ => ?_⟩
          subst hw
          refine ⟨φ, _, he, ?_, Step.refl hr⟩
          simp only [VR, bytesN]
          rw [indexN_eq]
      · cases hx
    · cases hx
end Go.AS

/- Closed runs where package variables lie: their answers serve everywhere (own work). -/
set_option linter.unusedSimpArgs false
set_option linter.unusedVariables false
namespace Go.AS
open Go.RowKit
variable {P : Program} {G : Nat} {base nt : Nat}

/-- One variable, a number: what it holds. -/
noncomputable def hM (m : Int) : Heap := ⟨1, Tr.put .leaf 0 (some (.cells true [.int .i64 m])), .leaf⟩
def φM : Phi := fun b => if b = 0 then some ⟨0, 0, 0, 1, 1⟩ else none
theorem hM_get (m : Int) (b : Nat) : (hM m).get b = if 0 = b then some (.cells true [.int .i64 m]) else none := by
  simp only [hM, Heap.get, Tr.get_put, Tr.get_leaf]
theorem φM_some {b : Nat} {m : BM} (e : φM b = some m) : b = 0 ∧ m = ⟨0, 0, 0, 1, 1⟩ := by
  unfold φM at e
  split at e
  · rename_i h; exact ⟨h, (Option.some.inj e).symm⟩
  · cases e
theorem GLM : GL 1 φM := fun g hg => ⟨⟨0, 0, 0, 1, 1⟩, by simp [φM]; omega, by simp; omega, rfl⟩
theorem WRM {m : Int} (w : World) (hm : w.cell? ⟨0, 0, none⟩ = some (.int .i64 m)) (hb : base ≤ w.heap.size) : WR base φM (hM m) w := {
  dom := fun b n e => by
    obtain ⟨rfl, rfl⟩ := φM_some e
    exact ⟨by simp [hM], World.block_lt_of_cell? w ⟨0, 0, none⟩ hm⟩
  live := fun b o e => by
    rw [hM_get] at e
    split at e
    · rename_i h; subst h
      simp only [Option.some.injEq] at e; subst e
      refine ⟨⟨0, 0, 0, 1, 1⟩, rfl, ⟨rfl, fun j a e2 => ?_, fun h => (by cases h), fun j a e2 => ?_⟩, fun h => (by cases h)⟩
      · cases j with
        | zero => simp only [List.getElem?_cons_zero, Option.some.injEq] at e2; subst e2; exact ⟨_, hm, by simp [VR], rfl⟩
        | succ j => simp at e2
      · cases j with
        | zero => simp only [List.getElem?_cons_zero, Option.some.injEq] at e2; subst e2; rfl
        | succ j => simp at e2
    · cases e
  sep := fun b b' o o' n n' e e' hne hw => by
    rw [hM_get] at e
    split at e
    · simp only [Option.some.injEq] at e; subst e; cases hw
    · cases e
  low := hb
  tags := fun b t c e => by simp [hM, Tr.get_leaf] at e }
/-- What a run writes that owns nothing at its begin. -/
theorem Step.below' {w w' : World} {φ φ' : Phi} {h h' : Heap} (hro : ∀ b o, h.get b = some o → o.wr = false) (s : Step base φ h w φ' h' w') : Below w.heap.size w w' :=
  ⟨s.os, s.tape, s.output, s.size, fun k hk => s.kept k hk fun b o m e hw => by rw [hro b o e] at hw; cases hw⟩
theorem hM_ro {m : Int} : ∀ b o, (hM m).get b = some o → o.wr = false := fun b o e => by
  rw [hM_get] at e
  split at e
  · simp only [Option.some.injEq] at e; subst e; rfl
  · cases e
theorem Below.frame' {base' : Nat} {w w' : World} {φ : Phi} {h : Heap} (r : WR base' φ h w) (hb : Below w.heap.size w w') : Step base' φ h w φ h w' := by
  have hk : ∀ k, k < w.heap.size → w'.heap[k]? = w.heap[k]? := fun k hk => hb.block k hk
  have hs : ∀ k, k < w.heap.size → w'.shape? k = w.shape? k := fun k h => shape_of_heap (hk k h)
  exact ⟨φ.le_refl, ⟨fun b m e => ⟨(r.dom b m e).1, Nat.lt_of_lt_of_le (r.dom b m e).2 hb.size⟩, fun b o e => by
    obtain ⟨m, h1, h2, h3⟩ := r.live b o e
    exact ⟨m, h1, h2.keep φ.le_refl (hk _ (r.dom b m h1).2), h3⟩, r.sep, Nat.le_trans r.low hb.size, fun b t c e => TagsKeep φ.le_refl (fun b m e => hs _ (r.dom b m e).2) (r.tags b t c e)⟩,
    hb.size, hb.tape, hb.os, hb.output, fun k h _ => hk k h, hs, fun b o m e hw hm _ => ⟨b, o, m, e, hw, hm, rfl⟩, fun b m e => .inl ⟨b, m, e, rfl⟩⟩
/-- The variable's cell, as it is known. -/
theorem cellM {φ : Phi} {h : Heap} {w : World} {m : Int} (hgl : GL 1 φ) (hm : h.cells 0 = some [.int .i64 m]) (hr : WR base φ h w) : w.cell? ⟨0, 0, none⟩ = some (.int .i64 m) := by
  obtain ⟨m0, g1, g2, g3⟩ := hgl 0 (by omega)
  obtain ⟨ro, hget⟩ := Heap.cells_get hm
  have hcr := hr.cellsR hget g1
  obtain ⟨v, c1, c2, _⟩ := hcr.2.1 0 (.int .i64 m) rfl
  rw [g2, g3] at c1
  simp only [VR] at c2; subst c2
  exact c1
/-- Values that point nowhere. -/
def AV.flat : AV → Bool
  | .bool _ | .int .. | .str _ | .nilPtr | .nilSlice | .nilMap | .nilFunc | .nilIface | .unk | .strNot _ | .res .. | .ge _ | .le _ | .rng _ | .strIn _ => true
  | _ => false
theorem VR.flat {φ ψ : Phi} {a : AV} {v : Value} (h : a.flat = true) (r : VR φ a v) : VR ψ a v := by
  cases a <;> simp [AV.flat] at h <;> simpa [VR] using r
theorem VRs.flat {φ ψ : Phi} : ∀ {a : List AV} {v : List Value}, a.all AV.flat = true → VRs φ a v → VRs ψ a v
  | [], v, _, r => by simpa [VRs] using r
  | a :: as, v, h, r => by
    simp only [List.all_cons, Bool.and_eq_true] at h
    simp only [VRs] at r ⊢
    obtain ⟨y, ys, rfl, h1, h2⟩ := r
    exact ⟨y, ys, rfl, VR.flat h.1 h1, VRs.flat h.2 h2⟩
def ARes.flatR : ARes → Bool
  | .ret v => v.flat
  | .pan _ => false
/-- A table of calls that were run by themselves: arguments, answer. -/
noncomputable def lookN : List (List Nat × AV) → List Nat → Option AV
  | [], _ => none
  | e :: r, s => match eqL e.1 s with
    | true => some e.2
    | false => lookN r s
theorem lookN_mem : ∀ {l : List (List Nat × AV)} {s : List Nat} {v : AV}, lookN l s = some v → (s, v) ∈ l
  | [], _, _, h => by simp [lookN] at h
  | e :: r, s, v, h => by
    simp only [lookN] at h
    split at h
    · rename_i he
      rw [eqL_eq, decide_eq_true_eq] at he
      simp only [Option.some.injEq] at h
      subst h; subst he
      exact List.mem_cons_self ..
    · exact List.mem_cons_of_mem _ (lookN_mem h)
/-- Of one text: the answer out of a table; of one of some: the answer that all of them have. -/
noncomputable def gTab (l : List (List Nat × AV)) : List AV → Heap → Option (ARes × Heap)
  | [.str s], h => match h.cells 0 with
    | some [.int .i64 _] => (lookN l s).map fun v => (.ret v, h)
    | _ => none
  | [.strIn (s :: ss)], h => match h.cells 0 with
    | some [.int .i64 _] => match lookN l s with
      | some v => match ss.all (fun u => match lookN l u with
          | some v' => eqAV 2 v' v
          | none => false) with
        | true => some (.ret v, h)
        | false => none
      | none => none
    | _ => none
  | _, _ => none
/-- Without an argument: an answer. -/
noncomputable def gConstM (v : AV) : List AV → Heap → Option (ARes × Heap)
  | [], h => match h.cells 0 with
    | some [.int .i64 _] => some (.ret v, h)
    | _ => none
  | _, _ => none
noncomputable def retIs (v : AV) : Option (ARes × Heap) → Bool
  | some (.ret u, _) => eqAV 2 u v
  | _ => false
theorem retIs_some {v : AV} {x : Option (ARes × Heap)} (h : retIs v x = true) : ∃ h', x = some (.ret v, h') := by
  unfold retIs at h
  split at h
  · rename_i u h'; rw [(eqAV_sound 2).1 _ _ h]; exact ⟨h', rfl⟩
  · cases h
theorem closed_callS {call : CallF} {f : FuncId} {fn : Func} {c : Code} {g : List AV → Heap → Option (ARes × Heap)} (hc : ∀ base, CallS P 1 base call) (hf : P.funcs[f]? = some fn) (hb : fn.body = some c) (hname : (fn.name == "runtime.NumGoroutine") = false)
    (hg : ∀ args h r h', g args h = some (r, h') → h' = h ∧ ∃ v m, r = .ret v ∧ v.flat = true ∧ h.cells 0 = some [.int .i64 m] ∧ ∀ (φ : Phi) (vs : List Value), VRs φ args vs → ∃ args2, args2.all AV.flat = true ∧ VRs φ args2 vs ∧ ∃ h1, call f args2 (hM m) = some (.ret v, h1)) :
    CallS P 1 base (fun f' args h => if f' = f then g args h else none) :=
  enter_callSG hf hb hname fun args h r h' φ w args' hx hgl hv hr => by
    obtain ⟨rfl, v, m, rfl, hvf, hm, hall⟩ := hg args h r h' hx
    obtain ⟨args2, hfl, hv2, h1, hcall⟩ := hall φ _ hv
    have hcell := cellM hgl hm hr
    refine ⟨v, rfl, (calls_of (hc w.heap.size) hf hb hname hcall GLM (VRs.flat hfl hv2) (WRM w hcell (Nat.le_refl _))).mono fun e w' he => ?_⟩
    obtain ⟨φ', v', rfl, k1, k2⟩ := he
    exact ⟨φ, v', rfl, VR.flat hvf k1, Below.frame' hr (Step.below' hM_ro k2)⟩
theorem tab_callS {call : CallF} {f : FuncId} {fn : Func} {c : Code} {l : List (List Nat × AV)} (hc : ∀ base, CallS P 1 base call) (hf : P.funcs[f]? = some fn) (hb : fn.body = some c) (hname : (fn.name == "runtime.NumGoroutine") = false)
    (hl : ∀ s v, (s, v) ∈ l → v.flat = true ∧ ∀ m, retIs v (call f [.str s] (hM m)) = true) : CallS P 1 base (fun f' args h => if f' = f then gTab l args h else none) :=
  closed_callS hc hf hb hname fun args h r h' hx => by
    unfold gTab at hx
    split at hx
    · rename_i s
      split at hx
      · rename_i m hm
        obtain ⟨v, k1, k2⟩ := map_some hx
        simp only [Prod.mk.injEq] at k2
        obtain ⟨rfl, rfl⟩ := k2
        obtain ⟨h1, h2⟩ := hl s v (lookN_mem k1)
        exact ⟨rfl, v, m, rfl, h1, hm, fun φ vs hv => ⟨_, rfl, hv, retIs_some (h2 m)⟩⟩
      · cases hx
    · rename_i s ss
      split at hx
      · rename_i m hm
        split at hx
        · rename_i v hs
          split at hx
          · rename_i hall
            simp only [Option.some.injEq, Prod.mk.injEq] at hx
            obtain ⟨rfl, rfl⟩ := hx
            refine ⟨rfl, v, m, rfl, (hl s v (lookN_mem hs)).1, hm, fun φ vs hv => ?_⟩
            simp only [VRs, VR] at hv
            obtain ⟨x, xs, rfl, ⟨bs, rfl, hbs⟩, rfl⟩ := hv
            have hlk : lookN l (bytesN bs) = some v := by
              rcases List.mem_cons.1 hbs with h | h
              · rw [h]; exact hs
              · have := List.all_eq_true.1 hall _ h
                split at this
                · rename_i v' e; rw [e, (eqAV_sound 2).1 _ _ this]
                · cases this
            exact ⟨[.str (bytesN bs)], rfl, by simp [VRs, VR], retIs_some ((hl _ v (lookN_mem hlk)).2 m)⟩
          · cases hx
        · cases hx
      · cases hx
    · cases hx
theorem constM_callS {call : CallF} {f : FuncId} {fn : Func} {c : Code} {v : AV} (hc : ∀ base, CallS P 1 base call) (hf : P.funcs[f]? = some fn) (hb : fn.body = some c) (hname : (fn.name == "runtime.NumGoroutine") = false) (hvf : v.flat = true)
    (hl : ∀ m, retIs v (call f [] (hM m)) = true) : CallS P 1 base (fun f' args h => if f' = f then gConstM v args h else none) :=
  closed_callS hc hf hb hname fun args h r h' hx => by
    unfold gConstM at hx
    split at hx
    · split at hx
      · rename_i m hm
        simp only [Option.some.injEq, Prod.mk.injEq] at hx
        obtain ⟨rfl, rfl⟩ := hx
        exact ⟨rfl, v, m, rfl, hvf, hm, fun φ vs hv => ⟨_, rfl, hv, retIs_some (hl m)⟩⟩
      · cases hx
    · cases hx
/-- Summaries, one more. -/
theorem SumS.cons {S : Sums} {f : Nat} {g : List AV → Heap → Option (ARes × Heap)} (h1 : CallS P G base (fun f' args h => if f' = f then g args h else none)) (h2 : SumS P G base S) : SumS P G base (fun f' => if f' = f then some g else S f') := by
  intro f' g' hg
  simp only at hg
  split at hg
  · rename_i e; subst e
    simp only [Option.some.injEq] at hg; subst hg
    exact h1
  · exact h2 f' g' hg
theorem SumS.nil : SumS P G base (fun _ => none) := fun f g h => by cases h
/-- Place: any number as one from 0 to n - 1, by what is left. -/
noncomputable def gPlaceR : List AV → Heap → Option (ARes × Heap)
  | [.res n k, .int .i64 (.ofNat m)], h => match Nat.beq n m && Nat.ble 1 n && Nat.ble n 1000000 with
    | true => some (.ret (.int .i64 (Int.ofNat k)), h)
    | false => none
  | [.ge _, .int .i64 (.ofNat n)], h => match Nat.ble 1 n && Nat.ble n 1000000 with
    | true => some (.ret (.rng n), h)
    | false => none
  | [.int .i64 v, .int .i64 (.ofNat n)], h => match Nat.ble 1 n && Nat.ble n 1000000 with
    | true => some (.ret (.int .i64 (v % Int.ofNat n)), h)
    | false => none
  | _, _ => none
theorem placeR_callS {f : FuncId} {fn : Func} {c : Code} (hf : P.funcs[f]? = some fn) (hb : fn.body = some c) (hname : (fn.name == "runtime.NumGoroutine") = false)
    (hc : ∀ (v n : Int) (w : World), 0 < n → n ≤ 1000000 → Calls P f #[.int .i64 v, .int .i64 n] w fun e w' => e = .returned (.int .i64 (v % n)) ∧ w' = w) : CallS P G base (fun f' args h => if f' = f then gPlaceR args h else none) :=
  enter_callSG hf hb hname fun args h r h' φ w args' hx _ hv hr => by
    unfold gPlaceR at hx
    split at hx
    · rename_i n k m
      split at hx
      · rename_i hcond
        simp only [Option.some.injEq, Prod.mk.injEq] at hx
        obtain ⟨rfl, rfl⟩ := hx
        simp only [Bool.and_eq_true, Nat.ble_eq, Nat.beq_eq] at hcond
        simp only [VRs, VR] at hv
        obtain ⟨x, xs, e1, ⟨v, rfl, hvk⟩, y, ys, rfl, rfl, rfl⟩ := hv
        obtain rfl : args' = #[.int .i64 v, .int .i64 (Int.ofNat m)] := Array.ext' (by simpa using e1)
        refine ⟨_, rfl, (hc v (Int.ofNat m) w (by have := hcond.1; simp; omega) (by have := hcond.1; have := hcond.2; simp; omega)).mono fun e w' ⟨he, hw⟩ => ?_⟩
        subst hw
        refine ⟨φ, _, he, ?_, Step.refl hr⟩
        simp only [VR, Value.int.injEq, true_and]
        rw [← hcond.1.1]; exact hvk
      · cases hx
    · rename_i a0 n
      split at hx
      · rename_i hcond
        simp only [Option.some.injEq, Prod.mk.injEq] at hx
        obtain ⟨rfl, rfl⟩ := hx
        simp only [Bool.and_eq_true, Nat.ble_eq] at hcond
        simp only [VRs, VR] at hv
        obtain ⟨x, xs, e1, ⟨v, rfl, _⟩, y, ys, rfl, rfl, rfl⟩ := hv
        obtain rfl : args' = #[.int .i64 v, .int .i64 (Int.ofNat n)] := Array.ext' (by simpa using e1)
        have h0 : (0 : Int) < Int.ofNat n := by have := hcond.1; simp; omega
        refine ⟨_, rfl, (hc v (Int.ofNat n) w h0 (by have := hcond.2; simp; omega)).mono fun e w' ⟨he, hw⟩ => ?_⟩
        subst hw
        refine ⟨φ, _, he, ?_, Step.refl hr⟩
        have h1 := Int.emod_nonneg v (b := Int.ofNat n) (by omega)
        have h2 := Int.emod_lt_of_pos v h0
        simp only [VR]
        refine ⟨(v % Int.ofNat n).toNat, ?_, ?_⟩
        · rw [Int.toNat_of_nonneg h1]
        · have : ((v % Int.ofNat n).toNat : Int) < (n : Int) := by rw [Int.toNat_of_nonneg h1]; exact h2
          omega
      · cases hx
    · rename_i v n
      split at hx
      · rename_i hcond
        simp only [Option.some.injEq, Prod.mk.injEq] at hx
        obtain ⟨rfl, rfl⟩ := hx
        simp only [Bool.and_eq_true, Nat.ble_eq] at hcond
        simp only [VRs, VR] at hv
        obtain ⟨x, xs, e1, rfl, y, ys, rfl, rfl, rfl⟩ := hv
        obtain rfl : args' = #[.int .i64 v, .int .i64 (Int.ofNat n)] := Array.ext' (by simpa using e1)
        refine ⟨_, rfl, (hc v (Int.ofNat n) w (by have := hcond.1; simp; omega) (by have := hcond.2; simp; omega)).mono fun e w' ⟨he, hw⟩ => ?_⟩
        subst hw
        exact ⟨φ, _, he, by simp [VR], Step.refl hr⟩
      · cases hx
    · cases hx
/-! ### All of some, told by the kernel -/
noncomputable def allB {α : Type} (p : α → Bool) (l : List α) : Bool := List.rec true (fun e _ ih => Bool.rec false ih (p e)) l
theorem allB_mem {α : Type} {p : α → Bool} : ∀ {l : List α}, allB p l = true → ∀ e ∈ l, p e = true
  | [], _, e, h => by cases h
  | x :: l, h, e, he => by
    have h' : @Bool.rec (fun _ => Bool) false (allB p l) (p x) = true := h
    cases hx : p x with
    | false => rw [hx] at h'; cases h'
    | true =>
      rw [hx] at h'
      rcases List.mem_cons.1 he with rfl | he
      · exact hx
      · exact allB_mem h' e he
/-- All from c on, n of them. -/
noncomputable def upB (p : Nat → Bool) (n : Nat) : Nat → Bool := Nat.rec (fun _ => true) (fun _ ih c => Bool.rec false (ih (Nat.succ c)) (p c)) n
theorem upB_all {p : Nat → Bool} : ∀ (n c : Nat), upB p n c = true → ∀ i, c ≤ i → i < c + n → p i = true
  | 0, _, _, i, h1, h2 => by omega
  | n + 1, c, h, i, h1, h2 => by
    have h' : @Bool.rec (fun _ => Bool) false (upB p n (c + 1)) (p c) = true := h
    cases hx : p c with
    | false => rw [hx] at h'; cases h'
    | true =>
      rw [hx] at h'
      rcases Nat.lt_or_eq_of_le h1 with h3 | h3
      · exact upB_all n (c + 1) h' i h3 (by omega)
      · exact h3 ▸ hx
end Go.AS

/- Each instruction's effect as a constant of its own: for the kernel (printed by genk.py; own work). -/
set_option linter.unusedVariables false
namespace Go.AS
noncomputable section
def axk_mov (tm : Tm) (h : Heap) (x : Opd) : Option OR := some (.val (ev tm x) h)
def axk_pick (tm : Tm) (h : Heap) (c : Opd) (a : Opd) (b : Opd) : Option OR := match ev tm c with
    | .bool true => some (.val (ev tm a) h)
    | .bool false => some (.val (ev tm b) h)
    | _ => none
def axk_newz (tm : Tm) (h : Heap) (ty : Nat) (z : List AV) : Option OR := some (.val (.ptr h.nx 0) ((h.push (.cells false z)).tag h.nx ty z.length))
def axk_box (tm : Tm) (h : Heap) (ty : Nat) (x : Opd) : Option OR := if allOne (ev tm x).cells = true then some (.val (.ptr h.nx 0) ((h.push (.cells false (ev tm x).cells)).tag h.nx ty (lenL (ev tm x).cells))) else none
def axk_build (tm : Tm) (h : Heap) (z : List AV) (parts : List (Nat × Nat × Opd)) : Option OR := (fillA (evParts tm parts) z).map fun cs => .val (.agg cs) h
def axk_mkSlice (tm : Tm) (h : Heap) (esz : Nat) (len : Nat) (z : List AV) (parts : List (Nat × Nat × Opd)) : Option OR := if z.length = esz ∧ len * esz ≤ 16777216 then (fillA (evParts tm parts) (zerosA z len)).map fun cs => .val (.slice h.nx 0 len len 0) (h.push (.cells false cs)) else none
def axk_load (tm : Tm) (h : Heap) (agg : Bool) (n : Nat) (a : Opd) : Option OR := (loadA h agg n (ev tm a)).map fun v => .val v h
def axk_store (tm : Tm) (h : Heap) (n : Nat) (a : Opd) (x : Opd) : Option OR := (storeA h n (ev tm a) (ev tm x)).map fun h' => .val (.tuple []) h'
def axk_nilCheck (tm : Tm) (h : Heap) (x : Opd) : Option OR := match ev tm x with
    | .ptr b o => some (.val (.ptr b o) h)
    | .func (.func f) a c => some (.val (.func (.func f) a c) h)
    | .iface t v => some (.val (.iface t v) h)
    | _ => none
def axk_bin (tm : Tm) (h : Heap) (op : BinOp) (q : QK) (x : Opd) (y : Opd) : Option OR := (abin op q (ev tm x) (ev tm y)).map fun v => .val v h
def axk_un (tm : Tm) (h : Heap) (op : UnOp) (x : Opd) : Option OR := (aun op (ev tm x)).map fun v => .val v h
def axk_conv (tm : Tm) (h : Heap) (c : CK) (x : Opd) : Option OR := match c, ev tm x with
    | .same, .str s => some (.val (.str s) h)
    | .toInt k, .int _ n => some (.val (.int k (wrapF k n)) h)
    | .toU, .nilPtr => some (.val .nilPtr h)
    | .toU, .ptr b o => match h.cells b with
      | some cs => if o < cs.length then some (.val (.ptr b o) h) else none
      | none => none
    | .fromU _, .nilPtr => some (.val .nilPtr h)
    | .fromU chk, .ptr b o => match h.tg.get b with
      | some (t, c) => if chk t c o && !Nat.beq c 0 then some (.val (.ptr b o) h) else none
      | none => none
    | .s2b, .str s => some (.val (.slice h.nx 0 s.length s.length 1) (h.push (.cells false (s.map fun b => .int .u8 (Int.ofNat b)))))
    | .b2s, .nilSlice => some (.val (.str []) h)
    | .b2s, .slice b o len _ _ => if len = 0 then some (.val (.str []) h) else match h.cells b with
      | some cs => match part cs o len with
        | some l => (l.mapM byteOf).map fun s => .val (.str s) h
        | none => none
      | none => none
    | _, _ => none
def axk_mkIface (tm : Tm) (h : Heap) (t : Nat) (x : Opd) : Option OR := some (.val (.iface t (ev tm x)) h)
def axk_mkFunc (tm : Tm) (h : Heap) (fn : Fn) (first : List Opd) (captured : List Opd) : Option OR := some (.val (.func fn (evs tm first) (evs tm captured)) h)
def axk_mkMap (tm : Tm) (h : Heap) : Option OR := some (.val (.map h.nx) (h.push (.map [] 0)))
def axk_mkSl (tm : Tm) (h : Heap) (esz : Nat) (bytes : Nat) (z : List AV) (l : Opd) (c : Opd) : Option OR := match ev tm l, ev tm c with
    | .int _ l, .int _ c => if z.length = esz ∧ 0 ≤ l ∧ l ≤ c ∧ c ≤ 1048576 ∧ bytes ≤ 1048576 then some (.val (.slice h.nx 0 l.toNat c.toNat 0) (h.push (.cells false (zerosA z c.toNat)))) else none
    | _, _ => none
def axk_slStr (tm : Tm) (h : Heap) (x : Opd) (lo : Option Opd) (hi : Option Opd) : Option OR := match ev tm x with
    | .str s => (bounds s.length s.length (lo.map (ev tm)) (hi.map (ev tm)) none).map fun (l, k, _) => .val (.str (dropL l (takeL k s))) h
    | _ => none
def axk_slSl (tm : Tm) (h : Heap) (esz : Nat) (x : Opd) (lo : Option Opd) (hi : Option Opd) (mx : Option Opd) : Option OR := match ev tm x with
    | .nilSlice => (bounds 0 0 (lo.map (ev tm)) (hi.map (ev tm)) (mx.map (ev tm))).map fun _ => .val .nilSlice h
    | .slice b o len cap g => if g = 0 ∨ g = esz then (bounds len cap (lo.map (ev tm)) (hi.map (ev tm)) (mx.map (ev tm))).map fun (l, k, m) => .val (.slice b (o + l * esz) (k - l) (m - l) (if mx.isSome then 0 else g)) h else none
    | _ => none
def axk_slArr (tm : Tm) (h : Heap) (n : Nat) (esz : Nat) (x : Opd) (lo : Option Opd) (hi : Option Opd) (mx : Option Opd) : Option OR := match ev tm x with
    | .ptr b o => (bounds n n (lo.map (ev tm)) (hi.map (ev tm)) (mx.map (ev tm))).map fun (l, k, m) => .val (.slice b (o + l * esz) (k - l) (m - l) 0) h
    | _ => none
def axk_fieldAddr (tm : Tm) (h : Heap) (x : Opd) (off : Nat) : Option OR := match ev tm x with
    | .ptr b o => some (.val (.ptr b (o + off)) h)
    | _ => none
def axk_field (tm : Tm) (h : Heap) (agg : Bool) (off : Nat) (n : Nat) (x : Opd) : Option OR := match ev tm x with
    | .agg cs => match agg with
      | true => (part cs off n).map fun l => .val (.agg l) h
      | false => (nth cs off).map fun v => .val v h
    | _ => none
def axk_idxAddrA (tm : Tm) (h : Heap) (len : Nat) (esz : Nat) (x : Opd) (i : Opd) : Option OR := match ev tm x, ev tm i with
    | .ptr b o, .int _ n => if 0 ≤ n ∧ n < len then some (.val (.ptr b (o + n.toNat * esz)) h) else none
    | _, _ => none
def axk_idxAddrS (tm : Tm) (h : Heap) (esz : Nat) (x : Opd) (i : Opd) : Option OR := match ev tm x, ev tm i with
    | .slice b o len _ _, .int _ n => if 0 ≤ n ∧ n < len then some (.val (.ptr b (o + n.toNat * esz)) h) else none
    | _, _ => none
def axk_idxA (tm : Tm) (h : Heap) (len : Nat) (agg : Bool) (esz : Nat) (x : Opd) (i : Opd) : Option OR := match ev tm x, ev tm i with
    | .agg cs, .int _ n => if 0 ≤ n ∧ n < len then match agg with
      | true => (part cs (n.toNat * esz) esz).map fun l => .val (.agg l) h
      | false => (nth cs (n.toNat * esz)).map fun v => .val v h
      else none
    | .agg cs, .rng n => match !agg && Nat.ble n len && Nat.beq esz 1 && Nat.ble n (lenL cs) with
      | true => (strsL (takeL n cs)).map fun l => .val (.strIn l) h
      | false => none
    | _, _ => none
def axk_idxStr (tm : Tm) (h : Heap) (x : Opd) (i : Opd) : Option OR := match ev tm x, ev tm i with
    | .str s, .int _ n => if 0 ≤ n then (nth s n.toNat).map fun b => .val (.int .u8 (Int.ofNat b)) h else none
    | _, _ => none
def axk_lookup (tm : Tm) (h : Heap) (kk : KK) (z : AV) (x : Opd) (i : Opd) (ok : Bool) : Option OR := match ev tm x with
    | .nilMap => some (.val (if ok then .tuple [z, .bool false] else z) h)
    | .map r => match h.get r with
      | some (.map es _) => match findA kk (ev tm i) es 0 with
        | some (some (_, v)) => some (.val (if ok then .tuple [v, .bool true] else v) h)
        | some none => some (.val (if ok then .tuple [z, .bool false] else z) h)
        | none => none
      | _ => none
    | _ => none
def axk_mapSet (tm : Tm) (h : Heap) (kk : KK) (m : Opd) (k : Opd) (v : Opd) : Option OR := match ev tm m with
    | .map r => match h.get r with
      | some (.map es clock) => match findA kk (ev tm k) es 0 with
        | some (some (i, _)) => some (.val (.tuple []) (h.set r (.map (es.modify i fun e => (ev tm k, ev tm v, e.2.2)) clock)))
        | some none => some (.val (.tuple []) (h.set r (.map (es ++ [(ev tm k, ev tm v, clock)]) (clock + 1))))
        | none => none
      | _ => none
    | _ => none
def axk_assertC (tm : Tm) (h : Heap) (t : Nat) (z : AV) (x : Opd) (ok : Bool) : Option OR := match ev tm x with
    | .nilIface => if ok then some (.val (.tuple [z, .bool false]) h) else none
    | .iface u v => if u = t then some (.val (if ok then .tuple [v, .bool true] else v) h) else if ok then some (.val (.tuple [z, .bool false]) h) else none
    | _ => none
def axk_extract (tm : Tm) (h : Heap) (x : Opd) (i : Nat) : Option OR := match ev tm x with
    | .tuple vs => (nth vs i).map fun v => .val v h
    | _ => none
def axk_call (tm : Tm) (h : Heap) (f : Opd) (args : List Opd) : Option OR := match ev tm f with
    | .func (.func g) first captured => some (.call g (appL first (appL (evs tm args) captured)))
    | _ => none
def axk_append (tm : Tm) (h : Heap) (esz : Nat) (bytes : Nat) (ety : Nat) (s : Opd) (x : Opd) : Option OR := (appendA h esz bytes ety (ev tm s) (ev tm x)).map fun (v, h') => .val v h'
def axk_sdata (tm : Tm) (h : Heap) (x : Opd) : Option OR := match ev tm x with
    | .nilSlice => some (.val .nilPtr h)
    | .slice b o _ cap _ => if cap = 0 then none else some (.val (.ptr b o) h)
    | _ => none
def axk_ustr (tm : Tm) (h : Heap) (ety : Nat) (p : Opd) (n : Opd) : Option OR := (ustrA h ety (ev tm p) (ev tm n)).map fun (v, h') => .val v h'
def axk_clear (tm : Tm) (h : Heap) (esz : Nat) (z : List AV) (x : Opd) : Option OR := (clearA h esz z (ev tm x)).map fun h' => .val (.tuple []) h'
def axk_copy (tm : Tm) (h : Heap) (esz : Nat) (d : Opd) (s : Opd) : Option OR := (copyA h esz (ev tm d) (ev tm s)).map fun (v, h') => .val v h'
def axk_len (tm : Tm) (h : Heap) (q : LK) (x : Opd) : Option OR := match q, ev tm x with
    | .str, .str s => some (.val (.int .i64 (Int.ofNat (lenL s))) h)
    | .slice, .nilSlice => some (.val (.int .i64 0) h)
    | .slice, .slice _ _ n _ _ => some (.val (.int .i64 (Int.ofNat n)) h)
    | .map, .nilMap => some (.val (.int .i64 0) h)
    | .map, .map r => match h.get r with
      | some (.map es _) => some (.val (.int .i64 (Int.ofNat es.length)) h)
      | _ => none
    | _, _ => none
def axk_cap (tm : Tm) (h : Heap) (x : Opd) : Option OR := match ev tm x with
    | .nilSlice => some (.val (.int .i64 0) h)
    | .slice _ _ _ n 0 => some (.val (.int .i64 (Int.ofNat n)) h)
    | _ => none
def axk_lenArr (tm : Tm) (h : Heap) (n : Nat) : Option OR := some (.val (.int .i64 (Int.ofNat n)) h)
def axk_maxI (tm : Tm) (h : Heap) (x : Opd) (xs : List Opd) : Option OR := (foldA maxA (ev tm x) (evs tm xs)).map fun v => .val v h
def axk_minI (tm : Tm) (h : Heap) (x : Opd) (xs : List Opd) : Option OR := (foldA minA (ev tm x) (evs tm xs)).map fun v => .val v h
def axk_delete (tm : Tm) (h : Heap) (kk : KK) (m : Opd) (k : Opd) : Option OR := match ev tm m with
    | .nilMap => some (.val (.tuple []) h)
    | .map r => match h.get r with
      | some (.map es clock) => match findA kk (ev tm k) es 0 with
        | some (some (i, _)) => some (.val (.tuple []) (h.set r (.map (es.eraseIdx i) clock)))
        | some none => some (.val (.tuple []) h)
        | none => none
      | _ => none
    | _ => none
def axk_defer (tm : Tm) (h : Heap) (f : Opd) (args : List Opd) : Option OR := match ev tm f with
    | .func fn first captured => some (.dfr ⟨fn, captured, appL first (evs tm args)⟩)
    | _ => none
def axk_panic (tm : Tm) (h : Heap) (x : Opd) : Option OR := match ev tm x with
    | .iface t v => some (.pan (.iface t v))
    | _ => none
def axk_siter (tm : Tm) (h : Heap) (x : Opd) : Option OR := match ev tm x with
    | .str s => some (.val (.ptr h.nx 0) (h.push (.siter s 0)))
    | _ => none
def axk_snext (tm : Tm) (h : Heap) (x : Opd) : Option OR := match ev tm x with
    | .ptr b o => match h.get b with
      | some (.siter s i) => match o with
        | 0 => some (Bool.rec (.val (.tuple [.bool false]) h) (.val (.tuple [.bool true, .int .i64 (Int.ofNat i), .int .i32 (Int.ofNat (decN (lenL s) (dropL i s)).1)]) (h.set b (.siter s (Nat.add i (decN (lenL s) (dropL i s)).2)))) (Nat.ble (Nat.succ i) (lenL s)))
        | _ => none
      | _ => none
    | _ => none
def axk_bad (tm : Tm) (h : Heap) : Option OR := none
def axF (tm : Tm) (h : Heap) (ix : IX) : Option OR := IX.rec (motive := fun _ => Option OR) (axk_mov tm h) (axk_pick tm h) (axk_newz tm h) (axk_box tm h) (axk_build tm h) (axk_mkSlice tm h) (axk_load tm h) (axk_store tm h) (axk_nilCheck tm h) (axk_bin tm h) (axk_un tm h) (axk_conv tm h) (axk_mkIface tm h) (axk_mkFunc tm h) (axk_mkMap tm h) (axk_mkSl tm h) (axk_slStr tm h) (axk_slSl tm h) (axk_slArr tm h) (axk_fieldAddr tm h) (axk_field tm h) (axk_idxAddrA tm h) (axk_idxAddrS tm h) (axk_idxA tm h) (axk_idxStr tm h) (axk_lookup tm h) (axk_mapSet tm h) (axk_assertC tm h) (axk_extract tm h) (axk_call tm h) (axk_append tm h) (axk_sdata tm h) (axk_ustr tm h) (axk_clear tm h) (axk_copy tm h) (axk_len tm h) (axk_cap tm h) (axk_lenArr tm h) (axk_maxI tm h) (axk_minI tm h) (axk_delete tm h) (axk_defer tm h) (axk_panic tm h) (axk_siter tm h) (axk_snext tm h) (axk_bad tm h) ix
end
theorem axF_eq (tm : Tm) (h : Heap) (ix : IX) : axF tm h ix = ax tm h ix := by cases ix <;> rfl
/-! ### The executor, written for the kernel -/
noncomputable section
def bindV (k : AV → Heap → Option (AEx × St)) (p : AV → Heap → Option (AEx × St)) (d : ADef → Option (AEx × St)) (call : CallF) (h : Heap) (x : Option OR) : Option (AEx × St) :=
  Option.rec none (fun r => OR.rec k d (fun f args => Option.rec none (fun q => Prod.rec (fun r h' => ARes.rec (fun v => k v h') (fun v => p v h') r) q) (call f args h)) (fun v => p v h) r) x
def opsK (call : CallF) (l : List OpI) : Tm → List ADef → Heap → Option (AEx × St) :=
  List.rec (fun tm df h => some (.normal, ⟨tm, df, h⟩))
    (fun o _ ih tm df h => Option.rec none (fun b => Bool.rec (ih (Tm.put' tm o.dst (.tuple [])) df h)
      (bindV (fun v h' => ih (Tm.put' tm o.dst v) df h') (fun v h' => some (.pan v, ⟨tm, df, h'⟩)) (fun d => ih (Tm.put' tm o.dst (.tuple [])) (d :: df) h) call h (axF tm h o.ix)) b) (wantedA tm o.guard)) l
def kSeq (ih : RC → St → Option (AEx × St)) (a b : RC) (s : St) : Option (AEx × St) :=
  Option.rec none (fun p => Prod.rec (fun x s' => AEx.rec (ih b s') (fun id => some (.exit id, s')) (some (.ret, s')) (fun v => some (.pan v, s')) x) p) (ih a s)
def kCond (ih : RC → St → Option (AEx × St)) (c : Opd) (a b : RC) (s : St) : Option (AEx × St) :=
  match ev s.tm c with
  | .bool v => Bool.rec (ih b s) (ih a s) v
  | _ => none
def kBlock (ih : RC → St → Option (AEx × St)) (id : Nat) (b : RC) (s : St) : Option (AEx × St) :=
  Option.rec none (fun p => Prod.rec (fun x s' => AEx.rec (some (.normal, s')) (fun j => Bool.rec (some (.exit j, s')) (some (.normal, s')) (Nat.beq j id)) (some (.ret, s')) (fun v => some (.pan v, s')) x) p) (ih b s)
def kLoop (ih : RC → St → Option (AEx × St)) (b : RC) (s : St) : Option (AEx × St) :=
  Option.rec none (fun p => Prod.rec (fun x s' => AEx.rec (ih (.loop b) s') (fun j => some (.exit j, s')) (some (.ret, s')) (fun v => some (.pan v, s')) x) p) (ih b s)
def kRegion (call : CallF) (ops : List OpI) (s : St) : Option (AEx × St) := St.rec (fun tm df h => opsK call ops tm df h) s
def stepK (call : CallF) (ih : RC → St → Option (AEx × St)) (c : RC) : St → Option (AEx × St) :=
  RC.casesOn c (fun s => some (.normal, s)) (kRegion call) (runD call) (kSeq ih) (kCond ih) (kBlock ih) (kLoop ih) (fun id s => some (.exit id, s)) (fun s => some (.ret, s)) (fun _ => none)
def runCK (call : CallF) (n : Nat) : RC → St → Option (AEx × St) := Nat.rec (fun _ _ => none) (fun _ ih => stepK call ih) n
end
theorem opsK_eq (call : CallF) : ∀ (l : List OpI) (tm : Tm) (df : List ADef) (h : Heap), opsK call l tm df h = runOps call l ⟨tm, df, h⟩
  | [], tm, df, h => rfl
  | o :: l, tm, df, h => by
    have ih := opsK_eq call l
    have e : opsK call (o :: l) tm df h = Option.rec none (fun b => Bool.rec (opsK call l (Tm.put' tm o.dst (.tuple [])) df h)
      (bindV (fun v h' => opsK call l (Tm.put' tm o.dst v) df h') (fun v h' => some (.pan v, ⟨tm, df, h'⟩)) (fun d => opsK call l (Tm.put' tm o.dst (.tuple [])) (d :: df) h) call h (axF tm h o.ix)) b) (wantedA tm o.guard) := rfl
    rw [e]
    simp only [runOps]
    cases wantedA tm o.guard with
    | none => rfl
    | some b =>
      cases b with
      | false => exact ih _ _ _
      | true =>
        simp only [opX, axF_eq, bindV]
        cases ax tm h o.ix with
        | none => rfl
        | some r =>
          cases r with
          | val v h' => exact ih _ _ _
          | dfr d => exact ih _ _ _
          | pan v => rfl
          | call f args =>
            simp only
            cases call f args h with
            | none => rfl
            | some q =>
              obtain ⟨r, h'⟩ := q
              cases r with
              | ret v => exact ih _ _ _
              | pan v => rfl
theorem runCK_eq (call : CallF) : ∀ (n : Nat) (c : RC) (s : St), runCK call n c s = runC call n c s
  | 0, c, s => rfl
  | n + 1, c, s => by
    have ih := runCK_eq call n
    have e : runCK call (n + 1) c s = stepK call (runCK call n) c s := rfl
    have ihf : runCK call n = runC call n := funext fun c => funext fun s => ih c s
    rw [e, ihf]
    cases c with
    | region ops => exact opsK_eq call ops s.tm s.df s.h
    | seq a b =>
      simp only [stepK, kSeq, runC]
      cases runC call n a s with
      | none => rfl
      | some p => obtain ⟨x, s'⟩ := p; cases x <;> rfl
    | cond c a b =>
      simp only [stepK, kCond, runC]
      cases ev s.tm c with
      | bool v => cases v <;> rfl
      | _ => rfl
    | block id b =>
      simp only [stepK, kBlock, runC]
      cases runC call n b s with
      | none => rfl
      | some p =>
        obtain ⟨x, s'⟩ := p
        cases x with
        | exit j =>
          simp only
          by_cases hj : j = id
          · subst hj; simp
          · have : Nat.beq j id = false := by rw [Bool.eq_false_iff]; exact fun h => hj (Nat.eq_of_beq_eq_true h)
            rw [this, if_neg hj]
        | _ => rfl
    | loop b =>
      simp only [stepK, kLoop, runC]
      cases runC call n b s with
      | none => rfl
      | some p => obtain ⟨x, s'⟩ := p; cases x <;> rfl
    | _ => rfl
end Go.AS

/- The executor of functions, written for the kernel (own work). -/
set_option linter.unusedVariables false
namespace Go.AS
noncomputable section
def finK (h0 : Heap) (fn : RFun) (x : AEx) (s : St) : Option (ARes × Heap) :=
  match s.df with
  | [] => match x with
    | .pan v => some (.pan v, s.h)
    | .exit _ => none
    | _ => (resA s.tm s.h fn.res).map fun l => (.ret (oneOf l), s.h)
  | _ => none
def bodyK (run : RC → St → Option (AEx × St)) (fn : RFun) (args : List AV) (h : Heap) : Option (ARes × Heap) :=
  Bool.rec none (Option.rec none (fun p => Prod.rec (fun x s => finK h fn x s) p) (run fn.body ⟨tmOf args fn.nt, [], h⟩)) (Nat.ble (lenL args) fn.nt)
def anyVal (call : CallF) (ih : Tm → Heap → Option (List Rc × AEnd)) (d : DO) (tm : Tm) (h : Heap) : Option (List Rc × AEnd) :=
  match opX call tm h d.o.ix with
  | some (.val v h') => consR ⟨tm, h, v, h', true⟩ (ih (Tm.put' tm d.o.dst v) h')
  | some (.pan v h') => if d.pk then some ([], .pan tm h v h') else none
  | _ => none
def opK (call : CallF) (tm : Tm) (h : Heap) (ix : IX) : Option ORes :=
  Option.rec none (fun r => OR.rec (fun v h' => some (.val v h')) (fun d => some (.dfr d)) (fun f args => Option.rec none (fun q => Prod.rec (fun r h' => ARes.rec (fun v => some (.val v h')) (fun v => some (.pan v h')) r) q) (call f args h)) (fun v => some (.pan v h)) r) (axF tm h ix)
def anyValK (call : CallF) (ih : Tm → Heap → Option (List Rc × AEnd)) (d : DO) (tm : Tm) (h : Heap) : Option (List Rc × AEnd) :=
  Option.rec none (fun r => ORes.rec (fun v h' => consR ⟨tm, h, v, h', true⟩ (ih (Tm.put' tm d.o.dst v) h')) (fun _ => none) (fun v h' => Bool.rec none (some ([], .pan tm h v h')) d.pk) r) (opK call tm h d.o.ix)
def anyK (call : CallF) (l : List DO) : Tm → Heap → Option (List Rc × AEnd) :=
  List.rec (fun tm h => some ([], .done tm h))
    (fun d _ ih tm h => Option.rec none (fun b => Bool.rec (consR ⟨tm, h, .tuple [], h, false⟩ (ih (Tm.put' tm d.o.dst (.tuple [])) h)) (anyValK call ih d tm h) b) (wantedA tm d.o.guard)) l
def runDK (call : CallF) (ds : List DO) (s : St) : Option (AEx × St) :=
  Option.rec none (fun p => Prod.rec (fun rs e => Bool.rec none (AEnd.rec (fun tm h => some (.normal, ⟨tm, s.df, h⟩)) (fun _ _ v h => some (.pan v, ⟨.leaf, s.df, h⟩)) e) (chkAll rs 0 ds rs && chkS ds rs)) p) (anyK call ds s.tm s.h)
def stepL (call : CallF) (ih : RC → St → Option (AEx × St)) (c : RC) : St → Option (AEx × St) :=
  RC.casesOn c (fun s => some (.normal, s)) (kRegion call) (runDK call) (kSeq ih) (kCond ih) (kBlock ih) (kLoop ih) (fun id s => some (.exit id, s)) (fun s => some (.ret, s)) (fun _ => none)
def runCL (call : CallF) (n : Nat) : RC → St → Option (AEx × St) := Nat.rec (fun _ _ => none) (fun _ ih => stepL call ih) n
def runFK (S : Sums) (F : Nat → Option RFun) (n : Nat) : CallF :=
  Nat.rec (fun _ _ _ => none) (fun n ih f args h => Option.rec (Option.rec none (fun fn => bodyK (runCL ih n) fn args h) (F f)) (fun g => g args h) (S f)) n
end
theorem opK_eq (call : CallF) (tm : Tm) (h : Heap) (ix : IX) : opK call tm h ix = opX call tm h ix := by
  simp only [opK, opX, axF_eq]
  cases ax tm h ix with
  | none => rfl
  | some r =>
    cases r with
    | call f args =>
      simp only
      cases call f args h with
      | none => rfl
      | some q => obtain ⟨r, h'⟩ := q; cases r <;> rfl
    | _ => rfl
theorem anyValK_eq (call : CallF) (ih : Tm → Heap → Option (List Rc × AEnd)) (d : DO) (tm : Tm) (h : Heap) : anyValK call ih d tm h = anyVal call ih d tm h := by
  simp only [anyValK, anyVal, opK_eq]
  cases opX call tm h d.o.ix with
  | none => rfl
  | some r =>
    cases r with
    | val v h' => rfl
    | dfr d => rfl
    | pan v h' => simp only; cases d.pk <;> rfl
theorem anyK_eq (call : CallF) : ∀ (l : List DO) (tm : Tm) (h : Heap), anyK call l tm h = runAny call l tm h
  | [], tm, h => rfl
  | d :: l, tm, h => by
    have ih := anyK_eq call l
    have ihf : anyK call l = runAny call l := funext fun a => funext fun b => ih a b
    have e : anyK call (d :: l) tm h = Option.rec none (fun b => Bool.rec (consR ⟨tm, h, .tuple [], h, false⟩ (anyK call l (Tm.put' tm d.o.dst (.tuple [])) h)) (anyValK call (anyK call l) d tm h) b) (wantedA tm d.o.guard) := rfl
    rw [e, ihf]
    simp only [runAny, anyValK_eq, anyVal]
    cases wantedA tm d.o.guard with
    | none => rfl
    | some b => cases b <;> rfl
theorem runDK_eq (call : CallF) (ds : List DO) (s : St) : runDK call ds s = runD call ds s := by
  simp only [runDK, runD, anyK_eq]
  cases runAny call ds s.tm s.h with
  | none => rfl
  | some p =>
    obtain ⟨rs, e⟩ := p
    simp only
    cases (chkAll rs 0 ds rs && chkS ds rs)
    · rfl
    · cases e <;> rfl
theorem stepL_eq (call : CallF) (ih : RC → St → Option (AEx × St)) (c : RC) (s : St) : stepL call ih c s = stepK call ih c s := by
  cases c with
  | any ds => exact runDK_eq call ds s
  | _ => rfl
theorem runCL_eq (call : CallF) : ∀ (n : Nat) (c : RC) (s : St), runCL call n c s = runC call n c s := by
  intro n
  have : ∀ n, runCL call n = runCK call n := by
    intro n
    induction n with
    | zero => rfl
    | succ n ih =>
      funext c s
      show stepL call (runCL call n) c s = stepK call (runCK call n) c s
      rw [ih, stepL_eq]
  intro c s
  rw [this, runCK_eq]
theorem runFK_eq (S : Sums) (F : Nat → Option RFun) : ∀ (n : Nat), runFK S F n = runF S F n := by
  intro n
  induction n with
  | zero => rfl
  | succ n ih =>
    funext f args h
    have e : runFK S F (n + 1) f args h = Option.rec (Option.rec none (fun fn => bodyK (runCL (runFK S F n) n) fn args h) (F f)) (fun g => g args h) (S f) := rfl
    rw [e, ih]
    simp only [runF]
    cases S f with
    | some g => rfl
    | none =>
      simp only
      cases F f with
      | none => rfl
      | some fn =>
        simp only [bodyK, runCL_eq, lenL_eq]
        by_cases hl : args.length ≤ fn.nt
        · have hb : Nat.ble args.length fn.nt = true := by rw [Nat.ble_eq]; exact hl
          rw [hb, if_pos hl]
          simp only
          cases runC (runF S F n) n fn.body ⟨tmOf args fn.nt, [], h⟩ with
          | none => rfl
          | some p => obtain ⟨x, s⟩ := p; rfl
        · have hb : Nat.ble args.length fn.nt = false := by
            rw [Bool.eq_false_iff]
            intro h2
            exact hl (Nat.le_of_ble_eq_true h2)
          rw [hb, if_neg hl]
end Go.AS

/- A function that defers a closure which recovers (own work). -/
set_option linter.unusedSimpArgs false
set_option linter.unusedVariables false
namespace Go.AS
open Go.RowKit
variable {P : Program} {G : Nat} {base : Nat}
noncomputable section
/-- What is left when the deferred closure has run: v is what recover gives. -/
def finRec (run : RC → St → Option (AEx × St)) (res : List IRes) (gnt : Nat) (rest : RC) (tr t2 : Nat) (s : St) (d : ADef) (v : AV) : Option (ARes × Heap) :=
  match run rest ⟨Tr.put (Tr.put (tmOf (appL d.args d.captured) gnt) tr (some v)) t2 (some v), [], s.h⟩ with
  | some (x2, s2) => match s2.df with
    | [] => match x2 with
      | .normal => (resA s.tm s2.h res).map fun l => (.ret (oneOf l), s2.h)
      | .ret => (resA s.tm s2.h res).map fun l => (.ret (oneOf l), s2.h)
      | _ => none
    | _ => none
  | none => none
def isFn (g : Nat) : Fn → Bool
  | .func f => Nat.beq f g
  | _ => false
def gRec (run : RC → St → Option (AEx × St)) (rf : RFun) (gf gnt : Nat) (rest : RC) (tr t2 : Nat) : List AV → Heap → Option (ARes × Heap) := fun args h =>
  match Nat.ble (lenL args) rf.nt with
  | true => match run rf.body ⟨tmOf args rf.nt, [], h⟩ with
    | some (x, s) => match s.df with
      | [d] => match isFn gf d.fn && Nat.ble (lenL (appL d.args d.captured)) gnt with
        | true => match x with
          | .normal => finRec run rf.res gnt rest tr t2 s d .nilIface
          | .ret => finRec run rf.res gnt rest tr t2 s d .nilIface
          | .pan v => finRec run rf.res gnt rest tr t2 s d v
          | .exit _ => none
        | false => none
      | _ => none
    | none => none
  | false => none
end
theorem getD_put2 {a : Act} {t u : Nat} {v : Value} (hd : t < a.tmps.size) : (a.put (some t) v).tmps.getD u undef = if t = u then v else a.tmps.getD u undef := getD_put hd
/-- The closure, whatever recover gives. -/
theorem closure_sound {call : CallF} {n gf gnt : Nat} {gn : Func} {id : Nat} {o0 o1 : Oper} {rest : Code} {tr t2 : Nat} {s s2 : St} {d : ADef} {v : AV} {x2 : AEx} {φ : Phi} {w : World} {args2 : Array Value}
    (hm : P.follows .mixedOrders = true) (hcall : CallS P G base call) (hg : P.funcs[gf]? = some gn) (hgb : gn.body = some (.seq (.region id #[o0, o1] false) rest)) (hgr : gn.results = #[]) (hgn : gn.ntmps = gnt)
    (h0 : o0.op = .call { callee := .builtin .recover, args := #[], argTypes := #[] }) (h0g : o0.guard = none) (h0d : o0.dst = some tr) (h1 : o1.op = .assign (.tmp tr)) (h1g : o1.guard = none) (h1d : o1.dst = some t2) (htr : tr < gnt) (ht2 : t2 < gnt)
    (hx : runC call n (compR P G gnt rest) ⟨Tr.put (Tr.put (tmOf (appL d.args d.captured) gnt) tr (some v)) t2 (some v), [], s.h⟩ = some (x2, s2)) (hx2 : x2 = .normal ∨ x2 = .ret) (hdf : s2.df = [])
    (hl : (appL d.args d.captured).length ≤ gnt) (g : GL G φ) (hv : VRs φ (appL d.args d.captured) args2.toList) (r : WR base φ s.h w) (u u' : FrameMode) (v' : Value) (hvv : VR φ v v')
    (hu : ∀ (c₀ : Frame) (cs : List Frame), c₀.mode = u → (match recoverD (c₀ :: cs) with | some (y, cs') => y = v' ∧ cs' = { c₀ with mode := u' } :: cs | none => v' = .nilIface ∧ u' = u))
    {R : Ending → FrameMode → World → Prop} (hR : ∀ φ' w', Step base φ s.h w φ' s2.h w' → ∀ y, R (.returned y) u' w') : CallsD P gf args2 u w R := by
  subst hgn
  refine callsD_of_wpS hg hgb fun c₀ cs hc => ?_
  have hsz : args2.size = (appL d.args d.captured).length := by simpa using hv.length
  have hrec := hu c₀ cs hc
  apply wpS_seq
  apply wpS_region
  have hran : List.range (#[o0, o1] : Array Oper).size = [0, 1] := rfl
  rw [hran]
  have hw0 : ∀ y : Nat → Option Bool, Region.wanted o0 y = true := fun y => by unfold Region.wanted; rw [h0g]
  have hw1 : ∀ y : Nat → Option Bool, Region.wanted o1 y = true := fun y => by unfold Region.wanted; rw [h1g]
  have e0 : ∀ (a : Act) w, (execOp a.eval o0).run P w = .ok .recover w := fun a w => by
    simp [execOp, h0, resolve, invoke, builtin]
  have key : ∀ (cs' : List Frame), cs' = { c₀ with mode := u' } :: cs →
      wpOpsS P #[o0, o1] (Exit.thenS (rest.wpS P (bodyPostS P gn c₀ cs R)) (bodyPostS P gn c₀ cs R)) [1] (({ tmps := args2 ++ Array.replicate (gn.ntmps - args2.size) undef, defers := [] } : Act).put o0.dst v') cs' w := by
    intro cs' hcs'
    have k1 : (#[o0, o1] : Array Oper)[1]? = some o1 := rfl
    simp only [wpOpsS, k1, hw1, if_true]
    have e1 : ∀ (a : Act) w, (execOp a.eval o1).run P w = .ok (.value (a.eval (.tmp tr))) w := fun a w => by simp [execOp, h1]
    rw [e1]
    simp only
    rw [Oper.upon_value]
    simp only [Exit.thenS]
    refine wpS_of_wp ?_
    generalize ha1 : ({ tmps := args2 ++ Array.replicate (gn.ntmps - args2.size) undef, defers := [] } : Act) = a0
    have hn0 : a0.tmps.size = gn.ntmps := by rw [← ha1]; simp; omega
    have hT0 : TR φ (tmOf (appL d.args d.captured) gn.ntmps) a0.tmps := by rw [← ha1]; exact tmOf_TR hv hl
    have hev : (a0.put o0.dst v').eval (.tmp tr) = v' := by
      rw [h0d]
      show (a0.put (some tr) v').tmps.getD tr undef = v'
      rw [getD_put (by rw [hn0]; exact htr), if_pos rfl]
    rw [hev]
    have hT : TR φ (Tr.put (Tr.put (tmOf (appL d.args d.captured) gn.ntmps) tr (some v)) t2 (some v)) ((a0.put o0.dst v').put o1.dst v').tmps := by
      intro t
      rw [h0d, h1d, val_put, val_put, getD_put (by rw [size_put, hn0]; exact ht2), getD_put (by rw [hn0]; exact htr)]
      by_cases q1 : t2 = t
      · simp [q1, hvv]
      · by_cases q2 : tr = t
        · simp [q1, q2, hvv]
        · rw [if_neg q1, if_neg q2, if_neg q1, if_neg q2]; exact hT0 t
    refine (runC_sound hm hcall n).1 rest _ x2 s2 φ _ w _ hx ⟨g, hT, ?_, by simp [hn0]⟩ r ?_
    · simp only [defers_put]; rw [← ha1]; rfl
    · intro φ' a' w' st sr'
      have hdn : a'.defers = [] := by have := sr'.d; rw [hdf] at this; exact this
      have hres : (results gn a'.tmps).run P w' = .ok (.tuple #[]) w' := by simp [results, hgr]
      rcases hx2 with rfl | rfl
      · exact ⟨hdn, u', hcs', _, hres, hR φ' w' st _⟩
      · exact ⟨hdn, u', hcs', _, hres, hR φ' w' st _⟩
  have k0 : (#[o0, o1] : Array Oper)[0]? = some o0 := rfl
  rw [wpOpsS]
  simp only [k0, hw0, if_true, e0]
  split at hrec
  · rename_i y cs' hr
    obtain ⟨rfl, rfl⟩ := hrec
    rw [hr]
    exact key _ rfl
  · rename_i hr
    obtain ⟨rfl, rfl⟩ := hrec
    rw [hr]
    have hself : ({ c₀ with mode := u' } : Frame) = c₀ := by subst hc; rfl
    exact key (c₀ :: cs) (by rw [hself])
theorem rec_callS {call : CallF} {n f gf : Nat} {fn gn : Func} {c : Code} {rf : RFun} {id : Nat} {o0 o1 : Oper} {rest : Code} {tr t2 : Nat}
    (hm : P.follows .mixedOrders = true) (hcall : CallS P G base call) (hf : P.funcs[f]? = some fn) (hb : fn.body = some c) (hname : (fn.name == "runtime.NumGoroutine") = false)
    (hrf : rf.body = compR P G fn.ntmps c ∧ rf.nt = fn.ntmps ∧ compRes P fn.results.toList = some rf.res)
    (hg : P.funcs[gf]? = some gn) (hgb : gn.body = some (.seq (.region id #[o0, o1] false) rest)) (hgr : gn.results = #[]) (hgname : (gn.name == "runtime.NumGoroutine") = false)
    (h0 : o0.op = .call { callee := .builtin .recover, args := #[], argTypes := #[] }) (h0g : o0.guard = none) (h0d : o0.dst = some tr) (h1 : o1.op = .assign (.tmp tr)) (h1g : o1.guard = none) (h1d : o1.dst = some t2) (htr : tr < gn.ntmps) (ht2 : t2 < gn.ntmps) :
    CallS P G base (fun f' args h => if f' = f then gRec (runC call n) rf gf gn.ntmps (compR P G gn.ntmps rest) tr t2 args h else none) := by
  intro f' args h r h' φ w args' hx hgl hv hr o a next Q k
  simp only at hx
  split at hx
  case isFalse => cases hx
  rename_i hff
  subst hff
  obtain ⟨hrb, hrn, hrr⟩ := hrf
  have hcf : (callFunc f' args').run P w = .ok (.enter f' args') w := by
    have hname' : ¬ fn.name = "runtime.NumGoroutine" := by simpa using hname
    unfold callFunc
    simp [hf, hb, hname']
  have hcg : ∀ (as : Array Value) (w : World), (callFunc gf as).run P w = .ok (.enter gf as) w := fun as w => by
    have hname' : ¬ gn.name = "runtime.NumGoroutine" := by simpa using hgname
    unfold callFunc
    simp [hg, hgb, hname']
  rw [hcf, Oper.upon_enter]
  unfold gRec at hx
  split at hx
  case h_2 => cases hx
  rename_i hle
  rw [Nat.ble_eq, lenL_eq] at hle
  split at hx
  case h_2 => cases hx
  rename_i x s hrun
  split at hx
  case h_2 => cases hx
  rename_i d hd
  split at hx
  case h_2 => cases hx
  rename_i hcond
  simp only [Bool.and_eq_true, Nat.ble_eq, lenL_eq] at hcond
  obtain ⟨hfn, hlen⟩ := hcond
  have hdfn : d.fn = .func gf := by
    unfold isFn at hfn
    split at hfn
    · rename_i f0 e; rw [e, Nat.eq_of_beq_eq_true hfn]
    · cases hfn
  rw [hrb, hrn] at hrun
  rw [hrn] at hle
  have hl : args'.size = args.length := by simpa using hv.length
  refine calls_of_wp_defers hf hb ((runC_sound hm hcall n).1 c _ x s φ _ w _ hrun ⟨hgl, tmOf_TR hv hle, rfl, by simp; omega⟩ hr ?_)
  intro φ1 a1 w1 st1 sr1
  have hds := sr1.d
  rw [hd] at hds
  simp only [DRs] at hds
  obtain ⟨d', xs, hdd, ⟨_, cap, hd1, hd2, hd3⟩, hxs⟩ := hds
  subst hxs
  -- the deferred call
  have fin : ∀ (u u' : FrameMode) (v : AV) (v' : Value), u ≠ .run → VR φ1 v v' → settle u' = .returning →
      (∀ (c₀ : Frame) (cs : List Frame), c₀.mode = u → (match recoverD (c₀ :: cs) with | some (y, cs') => y = v' ∧ cs' = { c₀ with mode := u' } :: cs | none => v' = .nilIface ∧ u' = u)) →
      finRec (runC call n) rf.res gn.ntmps (compR P G gn.ntmps rest) tr t2 s d v = some (r, h') →
      Leaves P fn a1.tmps (fun | .returned v, w' => next (a.put o.dst v) w' | .panicked chain, w' => Q (.panic chain) a w' | .outgrown, _ => ∃ a₀ w₀, Q .outgrown a₀ w₀) a1.defers u w1 := by
    intro u u' v v' hu hvv hset hrec hfin
    rw [hdd]
    unfold finRec at hfin
    split at hfin
    case h_2 => cases hfin
    rename_i x2 s2 hrun2
    split at hfin
    case h_2 => cases hfin
    rename_i hdf2
    have hfin2 : (x2 = .normal ∨ x2 = .ret) ∧ (resA s.tm s2.h rf.res).map (fun l => (ARes.ret (oneOf l), s2.h)) = some (r, h') := by
      split at hfin
      · exact ⟨.inl rfl, hfin⟩
      · exact ⟨.inr rfl, hfin⟩
      · cases hfin
    obtain ⟨hx2, hfin2⟩ := hfin2
    obtain ⟨vs, k1, k2⟩ := map_some hfin2
    simp only [Prod.mk.injEq] at k2
    obtain ⟨rfl, rfl⟩ := k2
    obtain ⟨tgt, dargs⟩ := d'
    simp only at hd1 hd3
    subst hd1
    rw [hdfn]
    have hva : VRs φ1 (appL d.args d.captured) (dargs ++ cap).toList := by
      rw [appL_eq]; simpa using hd3.append hd2
    refine leaves_cons (f := gf) (args := dargs ++ cap) hu (by simp [invoke, hcg]) ?_
    refine closure_sound hm hcall hg hgb hgr rfl h0 h0g h0d h1 h1g h1d htr ht2 hrun2 hx2 hdf2 hlen sr1.g hva st1.wr u u' v' hvv hrec ?_
    intro φ' w' st' y
    simp only
    rw [hset]
    obtain ⟨v2, e1, e2⟩ := results_sound (P := P) (fn := fn) (sr1.t.mono st'.le) st'.wr hrr k1
    exact ⟨v2, e1, k φ' w' v2 (st1.trans st') e2⟩
  cases x with
  | normal =>
    exact fin .returning .returning .nilIface .nilIface (by simp) (by simp [VR]) rfl (fun c₀ cs hc => by simp [recoverD, hc]) hx
  | ret =>
    exact fin .returning .returning .nilIface .nilIface (by simp) (by simp [VR]) rfl (fun c₀ cs hc => by simp [recoverD, hc]) hx
  | exit id => cases hx
  | pan v =>
    intro v' hv'
    exact fin (.panicking [{ v := v', recovered := false }]) (.panicking [{ v := v', recovered := true }]) v v' (by simp) hv' rfl (fun c₀ cs hc => by simp [recoverD, hc]) hx
end Go.AS

/- A calculus of abstract runs: what code comes to, by relations; calls by what is known of each (own work). -/
set_option linter.unusedSimpArgs false
set_option linter.unusedVariables false
namespace Go.AS
variable {P : Program} {G nt : Nat}

/-! ### One call that is known -/
def C1 (P : Program) (G : Nat) (f : Nat) (args : List AV) (h : Heap) (r : ARes) (h' : Heap) : Prop :=
  ∀ (base : Nat) (φ : Phi) (w : World) (args' : Array Value), GL G φ → VRs φ args args'.toList → WR base φ h w →
    ∀ (o : Oper) (a : Act) (next : Act → World → Prop) (Q : Exit → Act → World → Prop),
      (match r with
        | .ret v => ∀ φ' w' v', Step base φ h w φ' h' w' → VR φ' v v' → next (a.put o.dst v') w'
        | .pan v => ∀ φ' w' v', Step base φ h w φ' h' w' → VR φ' v v' → Q (.panic [{ v := v', recovered := false }]) a w') →
      o.upon P a next Q ((callFunc f args').run P w)
theorem C1.of_callS {call : CallF} {f : Nat} {args : List AV} {h h' : Heap} {r : ARes} (hc : ∀ base, CallS P G base call) (hx : call f args h = some (r, h')) : C1 P G f args h r h' :=
  fun base φ w args' g hv hr => hc base f args h r h' φ w args' hx g hv hr
/-- A call function out of calls that are known. -/
noncomputable def callOf (l : List (Nat × List AV × Heap × ARes × Heap)) : CallF := fun f args h => by
  classical exact (l.find? fun e => decide (e.1 = f ∧ e.2.1 = args ∧ e.2.2.1 = h)).map fun e => e.2.2.2
theorem callOf_sound {l : List (Nat × List AV × Heap × ARes × Heap)} (hl : ∀ e ∈ l, C1 P G e.1 e.2.1 e.2.2.1 e.2.2.2.1 e.2.2.2.2) (base : Nat) : CallS P G base (callOf l) := by
  classical
  intro f args h r h' φ w args' hx
  unfold callOf at hx
  obtain ⟨⟨f1, a1, g1, r1, g2⟩, k1, k2⟩ := map_some hx
  have h1 := List.find?_some k1
  have h2 := List.mem_of_find?_eq_some k1
  simp only [decide_eq_true_eq] at h1
  obtain ⟨rfl, rfl, rfl⟩ := h1
  simp only [Prod.mk.injEq] at k2
  obtain ⟨rfl, rfl⟩ := k2
  exact hl _ h2 base φ w args'
/-- Known calls: what is told of the answer. -/
def CX (P : Program) (G : Nat) (f : Nat) (args : List AV) (h : Heap) (R : ARes → Heap → Prop) : Prop := ∃ r h', C1 P G f args h r h' ∧ R r h'
theorem CX.mono {f : Nat} {args : List AV} {h : Heap} {R R' : ARes → Heap → Prop} (c : CX P G f args h R) (k : ∀ r h', R r h' → R' r h') : CX P G f args h R' :=
  let ⟨r, h', a, b⟩ := c; ⟨r, h', a, k r h' b⟩
theorem CX.of_run {call : CallF} {f : Nat} {args : List AV} {h h' : Heap} {r : ARes} {R : ARes → Heap → Prop} (hc : ∀ base, CallS P G base call) (hx : call f args h = some (r, h')) (k : R r h') : CX P G f args h R :=
  ⟨r, h', C1.of_callS hc hx, k⟩

/-! ### Code -/
def AD (P : Program) (G nt : Nat) (rc : RC) (s : St) (x : AEx) (s' : St) : Prop :=
  ∀ code, compR P G nt code = rc → ∀ (base : Nat) (φ : Phi) (a : Act) (w : World) (Q : Exit → Act → World → Prop), SR G nt φ s a → WR base φ s.h w → Post G base nt φ s.h w x s' Q → code.wp P Q a w
def AX (P : Program) (G nt : Nat) (rc : RC) (s : St) (R : AEx → St → Prop) : Prop := ∃ x s', AD P G nt rc s x s' ∧ R x s'
def andThen (N : St → Prop) (R : AEx → St → Prop) : AEx → St → Prop
  | .normal, s => N s
  | x, s => R x s
def inBlk (id : Nat) (R : AEx → St → Prop) : AEx → St → Prop
  | .exit j, s => if j = id then R .normal s else R (.exit j) s
  | x, s => R x s
theorem AX.mono {rc : RC} {s : St} {R R' : AEx → St → Prop} (a : AX P G nt rc s R) (k : ∀ x s', R x s' → R' x s') : AX P G nt rc s R' :=
  let ⟨x, s', h1, h2⟩ := a; ⟨x, s', h1, k x s' h2⟩
theorem comp_seq {code : Code} {r1 r2 : RC} (e : compR P G nt code = .seq r1 r2) : ∃ c1 c2, code = .seq c1 c2 ∧ compR P G nt c1 = r1 ∧ compR P G nt c2 = r2 := by
  cases code with
  | seq a b => simp only [compR, RC.seq.injEq] at e; exact ⟨a, b, rfl, e.1, e.2⟩
  | region id ops draw =>
    cases draw
    · simp [compR] at e
    · simp only [compR, compD, if_true] at e; split at e <;> cases e
  | cond c a b => simp only [compR] at e; split at e <;> cases e
  | _ => simp [compR] at e
theorem comp_cond {code : Code} {c : Opd} {r1 r2 : RC} (e : compR P G nt code = .cond c r1 r2) : ∃ c0 c1 c2, code = .cond c0 c1 c2 ∧ opd G c0 = some c ∧ compR P G nt c1 = r1 ∧ compR P G nt c2 = r2 := by
  cases code with
  | cond c0 a b =>
    simp only [compR] at e
    split at e
    · rename_i c' hc
      simp only [RC.cond.injEq] at e
      obtain ⟨rfl, h1, h2⟩ := e
      exact ⟨c0, a, b, rfl, hc, h1, h2⟩
    · cases e
  | region id ops draw =>
    cases draw
    · simp [compR] at e
    · simp only [compR, compD, if_true] at e; split at e <;> cases e
  | _ => simp [compR] at e
theorem comp_block {code : Code} {id : Nat} {r : RC} (e : compR P G nt code = .block id r) : ∃ c, code = .block id c ∧ compR P G nt c = r := by
  cases code with
  | block i c => simp only [compR, RC.block.injEq] at e; obtain ⟨rfl, h⟩ := e; exact ⟨c, rfl, h⟩
  | region id ops draw =>
    cases draw
    · simp [compR] at e
    · simp only [compR, compD, if_true] at e; split at e <;> cases e
  | cond c a b => simp only [compR] at e; split at e <;> cases e
  | _ => simp [compR] at e
theorem comp_loop {code : Code} {r : RC} (e : compR P G nt code = .loop r) : ∃ c, code = .loop c ∧ compR P G nt c = r := by
  cases code with
  | loop c => simp only [compR, RC.loop.injEq] at e; exact ⟨c, rfl, e⟩
  | region id ops draw =>
    cases draw
    · simp [compR] at e
    · simp only [compR, compD, if_true] at e; split at e <;> cases e
  | cond c a b => simp only [compR] at e; split at e <;> cases e
  | _ => simp [compR] at e
theorem comp_region {code : Code} {l : List OpI} (e : compR P G nt code = .region l) : ∃ id ops, code = .region id ops false ∧ compOps P G nt ops ops.toList = l := by
  cases code with
  | region id ops draw =>
    cases draw
    · simp only [compR, Bool.false_eq_true, if_false, RC.region.injEq] at e; exact ⟨id, ops, rfl, e⟩
    · simp only [compR, compD, if_true] at e; split at e <;> cases e
  | cond c a b => simp only [compR] at e; split at e <;> cases e
  | _ => simp [compR] at e
theorem AX.run (hm : P.follows .mixedOrders = true) {call : CallF} (hc : ∀ base, CallS P G base call) {n : Nat} {rc : RC} {s : St} {x : AEx} {s' : St} {R : AEx → St → Prop} (hx : runC call n rc s = some (x, s')) (k : R x s') : AX P G nt rc s R :=
  ⟨x, s', fun code e base φ a w Q sr r p => (runC_sound hm (hc base) n).1 code s x s' φ a w Q (by rw [e]; exact hx) sr r p, k⟩
theorem AX.skip {s : St} {R : AEx → St → Prop} (hm : P.follows .mixedOrders = true) (k : R .normal s) : AX P G nt .skip s R :=
  AX.run hm (call := fun _ _ _ => none) (n := 1) (fun base f args h r h' φ w args' hx => by cases hx) (by simp [runC]) k
theorem AX.exit {s : St} {id : Nat} {R : AEx → St → Prop} (hm : P.follows .mixedOrders = true) (k : R (.exit id) s) : AX P G nt (.exit id) s R :=
  AX.run hm (call := fun _ _ _ => none) (n := 1) (fun base f args h r h' φ w args' hx => by cases hx) (by simp [runC]) k
theorem AX.ret {s : St} {R : AEx → St → Prop} (hm : P.follows .mixedOrders = true) (k : R .ret s) : AX P G nt .ret s R :=
  AX.run hm (call := fun _ _ _ => none) (n := 1) (fun base f args h r h' φ w args' hx => by cases hx) (by simp [runC]) k
theorem AX.seq {r1 r2 : RC} {s : St} {R : AEx → St → Prop} (a : AX P G nt r1 s (andThen (fun s1 => AX P G nt r2 s1 R) R)) : AX P G nt (.seq r1 r2) s R := by
  obtain ⟨x, s1, h1, h2⟩ := a
  by_cases hx : x = .normal
  · subst hx
    obtain ⟨y, s2, h3, h4⟩ := h2
    refine ⟨y, s2, ?_, h4⟩
    intro code e base φ a w Q sr r p
    obtain ⟨c1, c2, rfl, e1, e2⟩ := comp_seq e
    apply wp_seq
    exact h1 c1 e1 base φ a w _ sr r fun φ' a' w' st sr' => h3 c2 e2 base φ' a' w' Q sr' st.wr (p.after st)
  · have h2' : R x s1 := by cases x <;> first | exact absurd rfl hx | exact h2
    refine ⟨x, s1, ?_, h2'⟩
    intro code e base φ a w Q sr r p
    obtain ⟨c1, c2, rfl, e1, e2⟩ := comp_seq e
    apply wp_seq
    refine h1 c1 e1 base φ a w _ sr r fun φ' a' w' st sr' => ?_
    have := p φ' a' w' st sr'
    cases x with
    | normal => exact absurd rfl hx
    | exit id => exact this
    | ret => exact this
    | pan v => exact this
theorem AX.cond {c : Opd} {r1 r2 : RC} {s : St} {R : AEx → St → Prop} {b : Bool} (hb : ev s.tm c = .bool b) (a : AX P G nt (if b = true then r1 else r2) s R) : AX P G nt (.cond c r1 r2) s R := by
  obtain ⟨x, s', h1, h2⟩ := a
  refine ⟨x, s', ?_, h2⟩
  intro code e base φ a w Q sr r p
  obtain ⟨c0, c1, c2, rfl, e0, e1, e2⟩ := comp_cond e
  have hv := opd_sound e0 sr.g sr.t
  rw [hb] at hv; simp only [VR] at hv
  cases b with
  | true => exact wp_cond_true hv (h1 c1 e1 base φ a w Q sr r p)
  | false => exact wp_cond_false hv (h1 c2 e2 base φ a w Q sr r p)
theorem AX.block {id : Nat} {r1 : RC} {s : St} {R : AEx → St → Prop} (a : AX P G nt r1 s (inBlk id R)) : AX P G nt (.block id r1) s R := by
  obtain ⟨x, s1, h1, h2⟩ := a
  refine ⟨(match x with | .exit j => if j = id then .normal else .exit j | x => x), s1, ?_, ?_⟩
  · intro code e base φ a w Q sr r p
    obtain ⟨c, rfl, e1⟩ := comp_block e
    apply wp_block
    refine h1 c e1 base φ a w _ sr r fun φ' a' w' st sr' => ?_
    have := p φ' a' w' st sr'
    cases x with
    | normal => exact this
    | ret => exact this
    | pan v => exact this
    | exit j =>
      simp only at this
      simp only [ExR, Exit.inBlock]
      by_cases hj : j = id
      · rw [if_pos hj] at this ⊢; exact this
      · rw [if_neg hj] at this ⊢; exact this
  · cases x with
    | normal => exact h2
    | ret => exact h2
    | pan v => exact h2
    | exit j =>
      simp only [inBlk] at h2 ⊢
      by_cases hj : j = id
      · rw [if_pos hj] at h2 ⊢; exact h2
      · rw [if_neg hj] at h2 ⊢; exact h2
/-- So many rounds. -/
def AXn (P : Program) (G nt : Nat) (body : RC) (R : AEx → St → Prop) : Nat → St → Prop
  | 0, _ => False
  | n + 1, s => AX P G nt body s (andThen (AXn P G nt body R n) R)
def AXL (P : Program) (G nt : Nat) (body : RC) (s : St) (R : AEx → St → Prop) : Prop := ∃ n, AXn P G nt body R n s
theorem AXL.step {body : RC} {s : St} {R : AEx → St → Prop} (a : AX P G nt body s (andThen (fun s1 => AXL P G nt body s1 R) R)) : AXL P G nt body s R := by
  obtain ⟨x, s1, h1, h2⟩ := a
  by_cases hx : x = .normal
  · subst hx
    obtain ⟨n, hn⟩ := h2
    exact ⟨n + 1, .normal, s1, h1, hn⟩
  · refine ⟨1, x, s1, h1, ?_⟩
    cases x <;> first | exact absurd rfl hx | exact h2
theorem AX.loop {body : RC} {s : St} {R : AEx → St → Prop} (a : AXL P G nt body s R) : AX P G nt (.loop body) s R := by
  obtain ⟨n, hn⟩ := a
  have key : ∀ n s, AXn P G nt body R n s → ∃ x s', R x s' ∧ ∀ code, compR P G nt code = body → ∀ (base : Nat) (φ : Phi) (a : Act) (w : World) (Q : Exit → Act → World → Prop), SR G nt φ s a → WR base φ s.h w →
      Post G base nt φ s.h w x s' Q → Code.rounds P code Q n a w := by
    intro n
    induction n with
    | zero => intro s h; exact h.elim
    | succ n ih =>
      intro s h
      obtain ⟨x, s1, h1, h2⟩ := h
      by_cases hx : x = .normal
      · subst hx
        obtain ⟨y, s2, h3, h4⟩ := ih s1 h2
        refine ⟨y, s2, h3, fun code e base φ a w Q sr r p => ?_⟩
        rw [rounds_succ]
        exact h1 code e base φ a w _ sr r fun φ' a' w' st sr' => h4 code e base φ' a' w' Q sr' st.wr (p.after st)
      · refine ⟨x, s1, ?_, fun code e base φ a w Q sr r p => ?_⟩
        · cases x <;> first | exact absurd rfl hx | exact h2
        · rw [rounds_succ]
          refine h1 code e base φ a w _ sr r fun φ' a' w' st sr' => ?_
          have := p φ' a' w' st sr'
          cases x with
          | normal => exact absurd rfl hx
          | exit id => exact this
          | ret => exact this
          | pan v => exact this
  obtain ⟨x, s', h1, h2⟩ := key n s hn
  refine ⟨x, s', ?_, h1⟩
  intro code e base φ a w Q sr r p
  obtain ⟨c, rfl, e1⟩ := comp_loop e
  exact wp_loop_rounds n (h2 c e1 base φ a w Q sr r p)

/-! ### Regions -/
def OpsX (P : Program) (G : Nat) : List OpI → St → (AEx → St → Prop) → Prop
  | [], s, R => R .normal s
  | o :: l, s, R => match wantedA s.tm o.guard with
    | none => False
    | some false => OpsX P G l ⟨Tm.put' s.tm o.dst (.tuple []), s.df, s.h⟩ R
    | some true => match ax s.tm s.h o.ix with
      | some (.val v h) => OpsX P G l ⟨Tm.put' s.tm o.dst v, s.df, h⟩ R
      | some (.dfr d) => OpsX P G l ⟨Tm.put' s.tm o.dst (.tuple []), d :: s.df, s.h⟩ R
      | some (.pan v) => R (.pan v) ⟨s.tm, s.df, s.h⟩
      | some (.call f args) => CX P G f args s.h fun r h' => match r with
        | .ret v => OpsX P G l ⟨Tm.put' s.tm o.dst v, s.df, h'⟩ R
        | .pan v => R (.pan v) ⟨s.tm, s.df, h'⟩
      | none => False
theorem opsX_sound {R : AEx → St → Prop} : ∀ (li : List OpI) (s : St), OpsX P G li s R →
    ∃ x s', R x s' ∧ ∀ (ops : Array Oper) (l : List Oper) (k : Nat), compOps P G nt ops l = li → ops.toList.drop k = l →
      ∀ (base : Nat) (φ : Phi) (w : World) (a : Act) (Q : Exit → Act → World → Prop), SR G nt φ s a → WR base φ s.h w → Post G base nt φ s.h w x s' Q → wpOps P ops Q (List.range' k l.length) a w := by
  intro li
  induction li with
  | nil =>
    intro s hr
    refine ⟨.normal, s, hr, fun ops l k hc hl base φ w a Q sr r p => ?_⟩
    cases l with
    | nil => exact p φ a w (Step.refl r) sr
    | cons o l => cases hc
  | cons oi li ih =>
    intro s hr
    -- what the code is
    have hcode : ∀ (ops : Array Oper) (l : List Oper) (k : Nat), compOps P G nt ops l = oi :: li → ops.toList.drop k = l →
        ∃ o l1, l = o :: l1 ∧ ops[k]? = some o ∧ ops.toList.drop (k + 1) = l1 ∧ compOps P G nt ops l1 = li ∧ compIO P G nt ops o = oi := by
      intro ops l k hc hl
      cases l with
      | nil => cases hc
      | cons o l1 =>
        have hcons : compOps P G nt ops (o :: l1) = compIO P G nt ops o :: compOps P G nt ops l1 := rfl
        rw [hcons] at hc
        simp only [List.cons.injEq] at hc
        refine ⟨o, l1, rfl, ?_, ?_, hc.2, hc.1⟩
        · have : (ops.toList.drop k)[0]? = some o := by rw [hl]; rfl
          simpa using this
        · rw [← List.drop_drop, hl]; rfl
    simp only [OpsX] at hr
    split at hr
    · exact hr.elim
    · rename_i hw
      obtain ⟨x, s', h1, h2⟩ := ih _ hr
      refine ⟨x, s', h1, fun ops l k hc hl base φ w a Q sr r p => ?_⟩
      obtain ⟨o, l1, rfl, hk, hl', hc1, hio⟩ := hcode ops l k hc hl
      simp only [List.length_cons, List.range'_succ, wpOps, hk]
      rcases compIO_spec (P := P) (G := G) (nt := nt) ops o with hb | ⟨ix, gd, hix, hdst, hgd, hio'⟩
      · rw [hb] at hio; subst hio; simp [wantedA] at hw
      · rw [hio'] at hio; subst hio
        rw [wanted_sound hgd sr.t sr.n hw]
        simp only [Bool.false_eq_true, if_false]
        exact h2 ops l1 (k + 1) hc1 hl' base φ w (a.put o.dst undef) Q (sr.put (h' := s.h) hdst φ.le_refl undefR) r p
    · rename_i hw
      split at hr
      · rename_i v h' e
        obtain ⟨x, s', h1, h2⟩ := ih _ hr
        refine ⟨x, s', h1, fun ops l k hc hl base φ w a Q sr r p => ?_⟩
        obtain ⟨o, l1, rfl, hk, hl', hc1, hio⟩ := hcode ops l k hc hl
        simp only [List.length_cons, List.range'_succ, wpOps, hk]
        rcases compIO_spec (P := P) (G := G) (nt := nt) ops o with hb | ⟨ix, gd, hix, hdst, hgd, hio'⟩
        · rw [hb] at hio; subst hio; simp [ax] at e
        · rw [hio'] at hio; subst hio
          rw [wanted_sound hgd sr.t sr.n hw]
          simp only [if_true]
          left
          unfold Oper.wp
          obtain ⟨φ', v', w', e1, e2, e3⟩ := ax_sound hix e sr.g sr.t r
          rcases e1 with e1 | ⟨e1, rfl⟩
          · rw [e1, Oper.upon_value]; exact h2 ops l1 (k + 1) hc1 hl' base φ' w' (a.put o.dst v') Q (sr.put hdst e3.le e2) e3.wr (p.after e3)
          · rw [e1, Oper.upon_skip]; exact h2 ops l1 (k + 1) hc1 hl' base φ' w' (a.put o.dst undef) Q (sr.put hdst e3.le e2) e3.wr (p.after e3)
      · rename_i d e
        obtain ⟨x, s', h1, h2⟩ := ih _ hr
        refine ⟨x, s', h1, fun ops l k hc hl base φ w a Q sr r p => ?_⟩
        obtain ⟨o, l1, rfl, hk, hl', hc1, hio⟩ := hcode ops l k hc hl
        simp only [List.length_cons, List.range'_succ, wpOps, hk]
        rcases compIO_spec (P := P) (G := G) (nt := nt) ops o with hb | ⟨ix, gd, hix, hdst, hgd, hio'⟩
        · rw [hb] at hio; subst hio; simp [ax] at e
        · rw [hio'] at hio; subst hio
          rw [wanted_sound hgd sr.t sr.n hw]
          simp only [if_true]
          left
          unfold Oper.wp
          obtain ⟨d', e1, hd⟩ := ax_sound hix e sr.g sr.t r
          rw [e1, Oper.upon_defer]
          refine h2 ops l1 (k + 1) hc1 hl' base φ w _ Q ⟨sr.g, ?_, ?_, ?_⟩ r p
          · exact TR.put (a := { a with defers := d' :: a.defers }) sr.t hdst sr.n undefR
          · simp only [defers_put, DRs]
            exact ⟨d', a.defers, rfl, hd, sr.d⟩
          · simp [sr.n]
      · rename_i v e
        refine ⟨.pan v, _, hr, fun ops l k hc hl base φ w a Q sr r p => ?_⟩
        obtain ⟨o, l1, rfl, hk, hl', hc1, hio⟩ := hcode ops l k hc hl
        simp only [List.length_cons, List.range'_succ, wpOps, hk]
        rcases compIO_spec (P := P) (G := G) (nt := nt) ops o with hb | ⟨ix, gd, hix, hdst, hgd, hio'⟩
        · rw [hb] at hio; subst hio; simp [ax] at e
        · rw [hio'] at hio; subst hio
          rw [wanted_sound hgd sr.t sr.n hw]
          simp only [if_true]
          left
          unfold Oper.wp
          obtain ⟨v', e1, e2⟩ := ax_sound hix e sr.g sr.t r
          rw [e1, Oper.upon_panic]
          exact p φ a w (Step.refl r) ⟨sr.g, sr.t, sr.d, sr.n⟩ v' e2
      · rename_i f args e
        obtain ⟨rr, h', hcl, hR⟩ := hr
        cases rr with
        | ret v =>
          obtain ⟨x, s', h1, h2⟩ := ih _ hR
          refine ⟨x, s', h1, fun ops l k hc hl base φ w a Q sr r p => ?_⟩
          obtain ⟨o, l1, rfl, hk, hl', hc1, hio⟩ := hcode ops l k hc hl
          simp only [List.length_cons, List.range'_succ, wpOps, hk]
          rcases compIO_spec (P := P) (G := G) (nt := nt) ops o with hb | ⟨ix, gd, hix, hdst, hgd, hio'⟩
          · rw [hb] at hio; subst hio; simp [ax] at e
          · rw [hio'] at hio; subst hio
            rw [wanted_sound hgd sr.t sr.n hw]
            simp only [if_true]
            left
            unfold Oper.wp
            obtain ⟨args', e1, e2⟩ := ax_sound hix e sr.g sr.t r
            rw [e2]
            exact hcl base φ w args' sr.g e1 r o a _ Q fun φ' w' v' st hv => h2 ops l1 (k + 1) hc1 hl' base φ' w' (a.put o.dst v') Q (sr.put hdst st.le hv) st.wr (p.after st)
        | pan v =>
          refine ⟨.pan v, _, hR, fun ops l k hc hl base φ w a Q sr r p => ?_⟩
          obtain ⟨o, l1, rfl, hk, hl', hc1, hio⟩ := hcode ops l k hc hl
          simp only [List.length_cons, List.range'_succ, wpOps, hk]
          rcases compIO_spec (P := P) (G := G) (nt := nt) ops o with hb | ⟨ix, gd, hix, hdst, hgd, hio'⟩
          · rw [hb] at hio; subst hio; simp [ax] at e
          · rw [hio'] at hio; subst hio
            rw [wanted_sound hgd sr.t sr.n hw]
            simp only [if_true]
            left
            unfold Oper.wp
            obtain ⟨args', e1, e2⟩ := ax_sound hix e sr.g sr.t r
            rw [e2]
            exact hcl base φ w args' sr.g e1 r o a _ Q fun φ' w' v' st hv => p φ' a w' st ⟨sr.g.mono st.le, sr.t.mono st.le, sr.d.mono st.le, sr.n⟩ v' hv
      · exact hr.elim
theorem AX.region {l : List OpI} {s : St} {R : AEx → St → Prop} (a : OpsX P G l s R) : AX P G nt (.region l) s R := by
  obtain ⟨x, s', h1, h2⟩ := opsX_sound (nt := nt) l s a
  refine ⟨x, s', ?_, h1⟩
  intro code e base φ a w Q sr r p
  obtain ⟨id, ops, rfl, e1⟩ := comp_region e
  apply wp_region
  have := h2 ops ops.toList 0 e1 (by simp) base φ w a Q sr r p
  rw [List.range_eq_range']
  simpa using this
/-! ### A state that tells less -/
theorem AX.weak {rc : RC} {s s2 : St} {R : AEx → St → Prop} (ht : ∀ t, Tm.val s2.tm t = .top ∨ Tm.val s2.tm t = Tm.val s.tm t) (hd : s2.df = s.df) (hh : s2.h = s.h) (a : AX P G nt rc s2 R) : AX P G nt rc s R := by
  obtain ⟨x, s', h1, h2⟩ := a
  refine ⟨x, s', ?_, h2⟩
  intro code e base φ a w Q sr r p
  rw [← hh] at r p
  refine h1 code e base φ a w Q ⟨sr.g, fun t => ?_, by rw [hd]; exact sr.d, sr.n⟩ r p
  rcases ht t with h | h
  · rw [h]; simp [VR]
  · rw [h]; exact sr.t t
/-! ### Functions -/
theorem CX.of_AX {f : Nat} {fn : RFun} {args : List AV} {h : Heap} {R : ARes → Heap → Prop} (hf : compG P G f = some fn) (hn : args.length ≤ fn.nt)
    (a : AX P G fn.nt fn.body ⟨tmOf args fn.nt, [], h⟩ fun x s' => s'.df = [] ∧ match x with
      | .pan v => R (.pan v) s'.h
      | .exit _ => False
      | _ => ∃ vs, resA s'.tm s'.h fn.res = some vs ∧ R (.ret (oneOf vs)) s'.h) : CX P G f args h R := by
  unfold compG at hf
  split at hf
  · rename_i mf hmf
    split at hf
    · rename_i c il hb hil hname
      simp only [Option.some.injEq] at hf
      subst hf
      simp only at a hn
      obtain ⟨x, s', h1, hdf, h2⟩ := a
      have main : ∀ (r : ARes), (match x with
          | .pan v => r = .pan v
          | .exit _ => False
          | _ => ∃ vs, resA s'.tm s'.h il = some vs ∧ r = .ret (oneOf vs)) → C1 P G f args h r s'.h := by
        intro rr hrr base φ w args' g hv hr o a next Q k
        have hcf : (callFunc f args').run P w = .ok (.enter f args') w := by
          have hname' : ¬ mf.name = "runtime.NumGoroutine" := by simpa using hname
          unfold callFunc
          simp [hmf, hb, hname']
        rw [hcf, Oper.upon_enter]
        have hl : args'.size = args.length := by simpa using hv.length
        refine calls_of_wp hmf hb (h1 c rfl base φ _ w _ ⟨g, tmOf_TR hv hn, rfl, by simp; omega⟩ hr ?_)
        intro φ' a' w' st sr'
        have hdn : a'.defers = [] := by
          have := sr'.d
          rw [hdf] at this; exact this
        cases x with
        | pan v =>
          simp only at hrr; subst hrr
          intro v' hv'
          exact ⟨hdn, k φ' w' v' st hv'⟩
        | exit id => exact hrr.elim
        | normal =>
          obtain ⟨vs, k1, rfl⟩ := hrr
          obtain ⟨v', e1, e2⟩ := results_sound (P := P) sr'.t st.wr hil k1
          exact ⟨hdn, v', e1, k φ' w' v' st e2⟩
        | ret =>
          obtain ⟨vs, k1, rfl⟩ := hrr
          obtain ⟨v', e1, e2⟩ := results_sound (P := P) sr'.t st.wr hil k1
          exact ⟨hdn, v', e1, k φ' w' v' st e2⟩
      cases x with
      | pan v => exact ⟨.pan v, s'.h, main _ rfl, h2⟩
      | exit id => exact h2.elim
      | normal => obtain ⟨vs, k1, k2⟩ := h2; exact ⟨_, s'.h, main (.ret (oneOf vs)) ⟨vs, k1, rfl⟩, k2⟩
      | ret => obtain ⟨vs, k1, k2⟩ := h2; exact ⟨_, s'.h, main (.ret (oneOf vs)) ⟨vs, k1, rfl⟩, k2⟩
    · cases hf
  · cases hf
end Go.AS

/- What code comes to, as one proposition (own work). -/
set_option linter.unusedSimpArgs false
set_option linter.unusedVariables false
namespace Go.AS
variable {P : Program} {G nt : Nat}

/-- Temps by a list; the first one counts. -/
noncomputable def tmL : List (Nat × AV) → Tm
  | [] => .leaf
  | p :: l => Tr.put (tmL l) p.1 (some p.2)
theorem tmL_put (l : List (Nat × AV)) (d : Nat) (v : AV) : Tr.put (tmL l) d (some v) = tmL ((d, v) :: l) := rfl
theorem tmL_put' (l : List (Nat × AV)) (d : Nat) (v : AV) : Tm.put' (tmL l) (some d) v = tmL ((d, v) :: l) := rfl
theorem tmL_putN (l : List (Nat × AV)) (v : AV) : Tm.put' (tmL l) none v = tmL l := rfl
theorem tmL_cons (l : List (Nat × AV)) (d : Nat) (v : AV) (t : Nat) : Tm.val (tmL ((d, v) :: l)) t = if d = t then v else Tm.val (tmL l) t := by
  rw [← tmL_put, val_put]
theorem tmL_nil (t : Nat) : Tm.val (tmL []) t = .top := val_leaf t

/-- Regions whose order is drawn, without calls or with known ones. -/
def AnyX (P : Program) (G : Nat) (ds : List DO) (s : St) (R : AEx → St → Prop) : Prop :=
  ∃ l : List (Nat × List AV × Heap × ARes × Heap), (∀ e ∈ l, C1 P G e.1 e.2.1 e.2.2.1 e.2.2.2.1 e.2.2.2.2) ∧ ∃ x s', runD (callOf l) ds s = some (x, s') ∧ R x s'
def wpR (P : Program) (G nt : Nat) : RC → St → (AEx → St → Prop) → Prop
  | .skip, s, R => R .normal s
  | .region ops, s, R => OpsX P G ops s R
  | .any ds, s, R => AnyX P G ds s R
  | .seq a b, s, R => wpR P G nt a s (andThen (fun s1 => wpR P G nt b s1 R) R)
  | .cond c a b, s, R => ∃ t, ev s.tm c = .bool t ∧ (t = true → wpR P G nt a s R) ∧ (t = false → wpR P G nt b s R)
  | .block id r, s, R => wpR P G nt r s (inBlk id R)
  | .loop r, s, R => AXL P G nt r s R
  | .exit id, s, R => R (.exit id) s
  | .ret, s, R => R .ret s
  | .bad, _, _ => False
theorem wpR_sound (hm : P.follows .mixedOrders = true) : ∀ (rc : RC) (s : St) (R : AEx → St → Prop), wpR P G nt rc s R → AX P G nt rc s R
  | .skip, s, R, h => AX.skip hm h
  | .region ops, s, R, h => AX.region h
  | .any ds, s, R, h => by
    obtain ⟨l, hl, x, s', h1, h2⟩ := h
    exact AX.run hm (n := 1) (callOf_sound hl) (by simpa only [runC] using h1) h2
  | .seq a b, s, R, h => by
    refine AX.seq ((wpR_sound hm a s _ h).mono fun x s' hx => ?_)
    cases x with
    | normal => exact wpR_sound hm b s' R hx
    | exit id => exact hx
    | ret => exact hx
    | pan v => exact hx
  | .cond c a b, s, R, h => by
    obtain ⟨t, h1, h2, h3⟩ := h
    refine AX.cond h1 ?_
    cases t with
    | true => exact wpR_sound hm a s R (h2 rfl)
    | false => exact wpR_sound hm b s R (h3 rfl)
  | .block id r, s, R, h => AX.block (wpR_sound hm r s _ h)
  | .loop r, s, R, h => AX.loop h
  | .exit id, s, R, h => AX.exit hm h
  | .ret, s, R, h => AX.ret hm h
  | .bad, s, R, h => h.elim
/-- One round. -/
theorem AXL.round (hm : P.follows .mixedOrders = true) {body : RC} {s : St} {R : AEx → St → Prop} (a : wpR P G nt body s (andThen (fun s1 => AXL P G nt body s1 R) R)) : AXL P G nt body s R := AXL.step (wpR_sound hm _ _ _ a)
theorem AXL.roundE (hm : P.follows .mixedOrders = true) {body b' : RC} (hb : body = b') {s : St} {R : AEx → St → Prop} (a : wpR P G nt b' s (andThen (fun s1 => AXL P G nt body s1 R) R)) : AXL P G nt body s R := by
  subst hb; exact AXL.round hm a
/-- A state that tells less, at the head of a loop. -/
theorem AXL.weak {body : RC} {s s2 : St} {R : AEx → St → Prop} (ht : ∀ t, Tm.val s2.tm t = .top ∨ Tm.val s2.tm t = Tm.val s.tm t) (hd : s2.df = s.df) (hh : s2.h = s.h) (a : AXL P G nt body s2 R) : AXL P G nt body s R := by
  obtain ⟨n, hn⟩ := a
  cases n with
  | zero => exact hn.elim
  | succ n => exact ⟨n + 1, AX.weak ht hd hh hn⟩
def TmLe (l : List (Nat × AV)) (tm : Tm) : Prop := ∀ p ∈ l, Tm.val tm p.1 = p.2
theorem TmLe.vals {l : List (Nat × AV)} {tm : Tm} (h : TmLe l tm) (t : Nat) : Tm.val (tmL l) t = .top ∨ Tm.val (tmL l) t = Tm.val tm t := by
  induction l with
  | nil => exact .inl (tmL_nil t)
  | cons p l ih =>
    obtain ⟨d, v⟩ := p
    rw [tmL_cons]
    by_cases hd : d = t
    · subst hd; rw [if_pos rfl]; exact .inr (h _ (List.mem_cons_self ..)).symm
    · rw [if_neg hd]; exact ih fun p hp => h p (List.mem_cons_of_mem _ hp)
theorem TmLe.nil {tm : Tm} : TmLe [] tm := fun p hp => by cases hp
theorem TmLe.cons {d : Nat} {v : AV} {l : List (Nat × AV)} {tm : Tm} (h1 : Tm.val tm d = v) (h2 : TmLe l tm) : TmLe ((d, v) :: l) tm := fun p hp => by
  rcases List.mem_cons.1 hp with rfl | hp
  · exact h1
  · exact h2 p hp
theorem AXL.weakL {body : RC} {l : List (Nat × AV)} {tm : Tm} {df : List ADef} {h : Heap} {R : AEx → St → Prop} (hl : TmLe l tm) (a : AXL P G nt body ⟨tmL l, df, h⟩ R) : AXL P G nt body ⟨tm, df, h⟩ R := AXL.weak (s2 := ⟨tmL l, df, h⟩) hl.vals rfl rfl a
/-- A function, by its arguments' temps alone. -/
theorem CX.of_wpR (hm : P.follows .mixedOrders = true) {f : Nat} {fn : RFun} {args : List AV} {l : List (Nat × AV)} {h : Heap} {R : ARes → Heap → Prop} (hf : compG P G f = some fn) (hn : args.length ≤ fn.nt) (hl : TmLe l (tmOf args fn.nt))
    (a : wpR P G fn.nt fn.body ⟨tmL l, [], h⟩ fun x s' => s'.df = [] ∧ match x with
      | .pan v => R (.pan v) s'.h
      | .exit _ => False
      | _ => ∃ vs, resA s'.tm s'.h fn.res = some vs ∧ R (.ret (oneOf vs)) s'.h) : CX P G f args h R :=
  CX.of_AX hf hn (AX.weak (s2 := ⟨tmL l, [], h⟩) hl.vals rfl rfl (wpR_sound hm _ _ _ a))
/-- The arguments' temps. -/
theorem tmOf_val {args : List AV} {nt t : Nat} {v : AV} (h : args[t]? = some v) : Tm.val (tmOf args nt) t = v := by
  have hlt := (List.getElem?_eq_some_iff.1 h).1
  unfold tmOf
  rw [val_go]
  have := (List.getElem?_eq_some_iff.1 h).2
  simpa [hlt] using this
/-- A closed run's answer that points nowhere serves everywhere. -/
theorem closedV_callS {base : Nat} {call : CallF} {f : FuncId} {fn : Func} {c : Code} {g : List AV → Heap → Option (ARes × Heap)} (hc : ∀ base, CallS P 1 base call) (hf : P.funcs[f]? = some fn) (hb : fn.body = some c) (hname : (fn.name == "runtime.NumGoroutine") = false)
    (hg : ∀ args h r h', g args h = some (r, h') → h' = h ∧ args.all AV.flat = true ∧ ∃ v m, r = .ret v ∧ (∀ (φ ψ : Phi) (x : Value), VR φ v x → VR ψ v x) ∧ h.cells 0 = some [.int .i64 m] ∧ ∃ h1, call f args (hM m) = some (.ret v, h1)) :
    CallS P 1 base (fun f' args h => if f' = f then g args h else none) :=
  enter_callSG hf hb hname fun args h r h' φ w args' hx hgl hv hr => by
    obtain ⟨rfl, hfl, v, m, rfl, hvf, hm, h1, hcall⟩ := hg args h r h' hx
    have hcell := cellM hgl hm hr
    refine ⟨v, rfl, (calls_of (hc w.heap.size) hf hb hname hcall GLM (VRs.flat hfl hv) (WRM w hcell (Nat.le_refl _))).mono fun e w' he => ?_⟩
    obtain ⟨φ', v', rfl, k1, k2⟩ := he
    exact ⟨φ, v', rfl, hvf _ _ _ k1, Below.frame' hr (Step.below' hM_ro k2)⟩
theorem callS_of_C1 {base f : Nat} {g : List AV → Heap → Option (ARes × Heap)} (hg : ∀ args h r h', g args h = some (r, h') → C1 P G f args h r h') : CallS P G base (fun f' args h => if f' = f then g args h else none) := by
  intro f' args h r h' φ w args' hx
  simp only at hx
  split at hx
  · rename_i hff; subst hff
    exact hg args h r h' hx base φ w args'
  · cases hx
theorem C1.of_CX {f : Nat} {args : List AV} {h h' : Heap} {r : ARes} (c : CX P G f args h fun r1 h1 => r1 = r ∧ h1 = h') : C1 P G f args h r h' := by
  obtain ⟨r1, h1, a, rfl, rfl⟩ := c
  exact a
theorem wrapF_in {n : Int} (h1 : -9223372036854775808 ≤ n) (h2 : n ≤ 9223372036854775807) : wrapF .i64 n = n := by
  rw [wrapF_eq]
  simp [IntKind.wrap, IntKind.bits, IntKind.signed]
  omega
theorem rec_beq {α : Type} (x y : Nat) (p q : α) : @Bool.rec (fun _ => α) p q (Nat.beq x y) = if x = y then q else p := by
  by_cases h : x = y
  · subst h; simp
  · have : Nat.beq x y = false := by rw [Bool.eq_false_iff]; exact fun hh => h (Nat.eq_of_beq_eq_true hh)
    rw [this, if_neg h]
end Go.AS

/- Walking code step by step (own work). -/
set_option linter.unusedSimpArgs false
set_option linter.unusedVariables false
namespace Go.AS
variable {P : Program} {G nt : Nat}
theorem wpR_skip {s : St} {R : AEx → St → Prop} (h : R .normal s) : wpR P G nt .skip s R := h
theorem wpR_seq {a b : RC} {s : St} {R : AEx → St → Prop} (h : wpR P G nt a s (andThen (fun s1 => wpR P G nt b s1 R) R)) : wpR P G nt (.seq a b) s R := h
theorem wpR_block {i : Nat} {r : RC} {s : St} {R : AEx → St → Prop} (h : wpR P G nt r s (inBlk i R)) : wpR P G nt (.block i r) s R := h
theorem wpR_loop {r : RC} {s : St} {R : AEx → St → Prop} (h : AXL P G nt r s R) : wpR P G nt (.loop r) s R := h
theorem wpR_exit {i : Nat} {s : St} {R : AEx → St → Prop} (h : R (.exit i) s) : wpR P G nt (.exit i) s R := h
theorem wpR_ret {s : St} {R : AEx → St → Prop} (h : R .ret s) : wpR P G nt .ret s R := h
theorem wpR_condT {c : Opd} {a b : RC} {s : St} {R : AEx → St → Prop} (hc : ev s.tm c = .bool true) (h : wpR P G nt a s R) : wpR P G nt (.cond c a b) s R := ⟨true, hc, fun _ => h, (fun e => nomatch e)⟩
theorem wpR_condF {c : Opd} {a b : RC} {s : St} {R : AEx → St → Prop} (hc : ev s.tm c = .bool false) (h : wpR P G nt b s R) : wpR P G nt (.cond c a b) s R := ⟨false, hc, (fun e => nomatch e), fun _ => h⟩
theorem wpR_condB {c : Opd} {a b : RC} {s : St} {R : AEx → St → Prop} {t : Bool} (hc : ev s.tm c = .bool t) (h1 : t = true → wpR P G nt a s R) (h2 : t = false → wpR P G nt b s R) : wpR P G nt (.cond c a b) s R := ⟨t, hc, h1, h2⟩
theorem wpR_condD {c : Opd} {a b : RC} {s : St} {R : AEx → St → Prop} {p : Prop} {i : Decidable p} (hc : ev s.tm c = .bool (@decide p i)) (h1 : p → wpR P G nt a s R) (h2 : ¬ p → wpR P G nt b s R) : wpR P G nt (.cond c a b) s R :=
  ⟨decide p, hc, fun e => h1 (by simpa using e), fun e => h2 (by simpa using e)⟩
def condV (v : AV) (A B : Prop) : Prop := ∃ t, v = .bool t ∧ (t = true → A) ∧ (t = false → B)
theorem condV_T {A B : Prop} (h : A) : condV (.bool true) A B := ⟨true, rfl, fun _ => h, (fun e => nomatch e)⟩
theorem condV_F {A B : Prop} (h : B) : condV (.bool false) A B := ⟨false, rfl, (fun e => nomatch e), fun _ => h⟩
theorem condV_D {A B : Prop} {p : Prop} {i : Decidable p} (h1 : p → A) (h2 : ¬ p → B) : condV (.bool (@decide p i)) A B := ⟨decide p, rfl, fun e => h1 (by simpa using e), fun e => h2 (by simpa using e)⟩
theorem condV_B {A B : Prop} {t : Bool} (h1 : t = true → A) (h2 : t = false → B) : condV (.bool t) A B := ⟨t, rfl, h1, h2⟩
theorem wpR_cond {c : Opd} {a b : RC} {s : St} {v : AV} {R : AEx → St → Prop} (hc : ev s.tm c = v) (h : condV v (wpR P G nt a s R) (wpR P G nt b s R)) : wpR P G nt (.cond c a b) s R := by
  subst hc; obtain ⟨t, h1, h2, h3⟩ := h; exact ⟨t, h1, h2, h3⟩
theorem andThen_normal {N : St → Prop} {R : AEx → St → Prop} {s : St} (h : N s) : andThen N R .normal s := h
theorem andThen_exit {N : St → Prop} {R : AEx → St → Prop} {i : Nat} {s : St} (h : R (.exit i) s) : andThen N R (.exit i) s := h
theorem andThen_ret {N : St → Prop} {R : AEx → St → Prop} {s : St} (h : R .ret s) : andThen N R .ret s := h
theorem andThen_pan {N : St → Prop} {R : AEx → St → Prop} {v : AV} {s : St} (h : R (.pan v) s) : andThen N R (.pan v) s := h
theorem inBlk_normal {i : Nat} {R : AEx → St → Prop} {s : St} (h : R .normal s) : inBlk i R .normal s := h
theorem inBlk_ret {i : Nat} {R : AEx → St → Prop} {s : St} (h : R .ret s) : inBlk i R .ret s := h
theorem inBlk_pan {i : Nat} {R : AEx → St → Prop} {v : AV} {s : St} (h : R (.pan v) s) : inBlk i R (.pan v) s := h
theorem inBlk_hit {i : Nat} {R : AEx → St → Prop} {s : St} (h : R .normal s) : inBlk i R (.exit i) s := by simp only [inBlk, if_true]; exact h
theorem inBlk_pass {i j : Nat} {R : AEx → St → Prop} {s : St} (hij : Nat.beq j i = false) (h : R (.exit j) s) : inBlk i R (.exit j) s := by
  have : ¬ j = i := fun e => by subst e; rw [Nat.beq_refl] at hij; cases hij
  simp only [inBlk, if_neg this]; exact h
/-- How far a region's operations come by themselves. -/
inductive OStop where
  | done (x : AEx) (s : St)
  | call (f : Nat) (args : List AV) (dst : Option Nat) (rest : List OpI) (s : St)
noncomputable def opsE : List OpI → St → Option OStop
  | [], s => some (.done .normal s)
  | o :: l, s => match wantedA s.tm o.guard with
    | none => none
    | some false => opsE l ⟨Tm.put' s.tm o.dst (.tuple []), s.df, s.h⟩
    | some true => match ax s.tm s.h o.ix with
      | some (.val v h) => opsE l ⟨Tm.put' s.tm o.dst v, s.df, h⟩
      | some (.dfr d) => opsE l ⟨Tm.put' s.tm o.dst (.tuple []), d :: s.df, s.h⟩
      | some (.pan v) => some (.done (.pan v) ⟨s.tm, s.df, s.h⟩)
      | some (.call f args) => some (.call f args o.dst l s)
      | none => none
theorem opsE_done : ∀ {ops : List OpI} {s : St} {x : AEx} {s' : St} {R : AEx → St → Prop}, opsE ops s = some (.done x s') → R x s' → OpsX P G ops s R
  | [], s, x, s', R, e, k => by
    simp only [opsE, Option.some.injEq, OStop.done.injEq] at e
    obtain ⟨rfl, rfl⟩ := e; exact k
  | o :: l, s, x, s', R, e, k => by
    simp only [opsE] at e
    simp only [OpsX]
    split at e
    · cases e
    · rename_i hw
      try rw [hw]
      exact opsE_done e k
    · rename_i hw
      try rw [hw]
      try simp only
      split at e
      · rename_i h1
        try rw [h1]
        exact opsE_done e k
      · rename_i h1
        try rw [h1]
        exact opsE_done e k
      · rename_i h1
        try rw [h1]
        simp only [Option.some.injEq, OStop.done.injEq] at e
        obtain ⟨rfl, rfl⟩ := e; exact k
      · cases e
      · cases e
def callK (P : Program) (G : Nat) (dst : Option Nat) (rest : List OpI) (s : St) (R : AEx → St → Prop) : ARes → Heap → Prop := fun r h' => match r with
  | .ret v => OpsX P G rest ⟨Tm.put' s.tm dst v, s.df, h'⟩ R
  | .pan v => R (.pan v) ⟨s.tm, s.df, h'⟩
theorem opsE_call : ∀ {ops : List OpI} {s : St} {f : Nat} {args : List AV} {dst : Option Nat} {rest : List OpI} {s' : St} {R : AEx → St → Prop}, opsE ops s = some (.call f args dst rest s') → CX P G f args s'.h (callK P G dst rest s' R) → OpsX P G ops s R
  | [], s, f, args, dst, rest, s', R, e, k => by simp only [opsE, Option.some.injEq, reduceCtorEq] at e
  | o :: l, s, f, args, dst, rest, s', R, e, k => by
    simp only [opsE] at e
    simp only [OpsX]
    split at e
    · cases e
    · rename_i hw
      try rw [hw]
      exact opsE_call e k
    · rename_i hw
      try rw [hw]
      try simp only
      split at e
      · rename_i h1
        try rw [h1]
        exact opsE_call e k
      · rename_i h1
        try rw [h1]
        exact opsE_call e k
      · simp only [Option.some.injEq, reduceCtorEq] at e
      · rename_i h1
        try rw [h1]
        simp only [Option.some.injEq, OStop.call.injEq] at e
        obtain ⟨rfl, rfl, rfl, rfl, rfl⟩ := e
        exact k
      · cases e
theorem wpR_region {ops : List OpI} {s : St} {x : AEx} {s' : St} {R : AEx → St → Prop} (e : opsE ops s = some (.done x s')) (k : R x s') : wpR P G nt (.region ops) s R := opsE_done e k
theorem wpR_regionC {ops : List OpI} {s : St} {f : Nat} {args : List AV} {dst : Option Nat} {rest : List OpI} {s' : St} {R : AEx → St → Prop} (e : opsE ops s = some (.call f args dst rest s')) (k : CX P G f args s'.h (callK P G dst rest s' R)) : wpR P G nt (.region ops) s R := opsE_call e k
/-- A round of a loop; the head tells only a list of temps. -/
theorem AXL.weakK {body : RC} {l : List (Nat × AV)} {tm : Tm} {df : List ADef} {h : Heap} {R : AEx → St → Prop} (a : AXL P G nt body ⟨tmL l, df, h⟩ R) (hl : TmLe l tm) : AXL P G nt body ⟨tm, df, h⟩ R := AXL.weakL hl a
/-- A function's end. -/
def retR (res : List IRes) (R : ARes → Heap → Prop) (x : AEx) (s : St) : Prop := s.df = [] ∧ match x with
  | .pan v => R (.pan v) s.h
  | .exit _ => False
  | _ => ∃ vs, resA s.tm s.h res = some vs ∧ R (.ret (oneOf vs)) s.h
theorem retR_ret {res : List IRes} {R : ARes → Heap → Prop} {tm : Tm} {h : Heap} {vs : List AV} (e : resA tm h res = some vs) (k : R (.ret (oneOf vs)) h) : retR res R .ret ⟨tm, [], h⟩ := ⟨rfl, vs, e, k⟩
theorem retR_normal {res : List IRes} {R : ARes → Heap → Prop} {tm : Tm} {h : Heap} {vs : List AV} (e : resA tm h res = some vs) (k : R (.ret (oneOf vs)) h) : retR res R .normal ⟨tm, [], h⟩ := ⟨rfl, vs, e, k⟩
theorem retR_pan {res : List IRes} {R : ARes → Heap → Prop} {tm : Tm} {h : Heap} {v : AV} (k : R (.pan v) h) : retR res R (.pan v) ⟨tm, [], h⟩ := ⟨rfl, k⟩
theorem CX.of_body (hm : P.follows .mixedOrders = true) {f nt : Nat} {body : RC} {res : List IRes} {fn : RFun} {args : List AV} {l : List (Nat × AV)} {h : Heap} {R : ARes → Heap → Prop} (hf : compG P G f = some fn) (he : fn = ⟨nt, body, res⟩) (hn : args.length ≤ nt) (hl : TmLe l (tmOf args nt))
    (a : wpR P G nt body ⟨tmL l, [], h⟩ (retR res R)) : CX P G f args h R := by
  subst he
  exact CX.of_wpR hm hf hn hl a
end Go.AS
