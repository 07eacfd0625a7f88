/- The abstract semantics: regions, code, functions are sound; laws out of runs (own work). -/
import Derived.Test.YtpbfelgcaelpoaaDoorAsV
import Derived.Laws.World
import Derived.LoopN
import Derived.Laws.Externs
import Derived.Below
import Derived.ChangeSame
set_option linter.unusedSimpArgs false
set_option linter.unusedVariables false
set_option linter.unnecessarySimpa false
/- Regions, code and functions: what they do (own work). -/
set_option linter.unusedSimpArgs false
set_option linter.unusedVariables false
namespace Go.AS
noncomputable section

/-! ### Which temps an instruction reads; what it may touch -/
def IX.opds : IX → List Opd
  | .mov x | .box _ x | .nilCheck x | .un _ x | .conv _ x | .mkIface _ x | .fieldAddr x _ | .field _ _ _ x | .extract x _ | .len _ x | .cap x | .panic x | .siter x | .snext x | .assertC _ _ x _ | .load _ _ x | .sdata x | .clear _ _ x => [x]
  | .pick c a b => [c, a, b]
  | .newz _ _ | .mkMap | .lenArr _ | .bad => []
  | .build _ parts | .mkSlice _ _ _ parts => parts.map fun p => p.2.2
  | .store _ a x | .bin _ _ a x | .idxAddrA _ _ a x | .idxAddrS _ a x | .idxA _ _ _ a x | .idxStr a x | .append _ _ _ a x | .ustr _ a x | .copy _ a x | .delete _ a x | .mkSl _ _ _ a x => [a, x]
  | .lookup _ _ x i _ => [x, i]
  | .mapSet _ m k v => [m, k, v]
  | .mkFunc _ f c => f ++ c
  | .slStr x lo hi => x :: (lo.toList ++ hi.toList)
  | .slSl _ x lo hi mx | .slArr _ _ x lo hi mx => x :: (lo.toList ++ hi.toList ++ mx.toList)
  | .call f args | .defer f args => f :: args
  | .maxI x xs | .minI x xs => x :: xs
/-- It looks at no memory, changes none. -/
def IX.pure : IX → Bool
  | .mov _ | .pick .. | .build .. | .nilCheck _ | .bin .. | .un .. | .mkIface .. | .mkFunc .. | .slStr .. | .slSl .. | .slArr .. | .fieldAddr .. | .field .. | .idxAddrA .. | .idxAddrS ..
  | .idxA .. | .idxStr .. | .cap _ | .assertC .. | .extract .. | .lenArr _ | .maxI .. | .minI .. | .sdata _ => true
  | .conv .same _ | .conv (.toInt _) _ => true
  | .len .str _ | .len .slice _ => true
  | _ => false
/-- It looks at memory, changes none. -/
def IX.look : IX → Bool
  | .load .. | .lookup .. | .len .map _ | .conv .b2s _ | .conv .toU _ | .conv (.fromU _) _ => true
  | _ => false
def tmpsOf (l : List Opd) : List Nat := l.flatMap fun | .tmp t => [t] | .const _ => []
def guardT : Option (Option Nat × Bool) → List Nat
  | some (some t, _) => [t]
  | _ => []

/-! ### Equal values, told by a walk of a few levels -/
def eqLs (f : AV → AV → Bool) : List AV → List AV → Bool
  | [], [] => true
  | x :: l, y :: l' => f x y && eqLs f l l'
  | _, _ => false
def eqAV : Nat → AV → AV → Bool
  | 0, _, _ => false
  | n + 1, x, y => match x, y with
    | .bool a, .bool b => a == b
    | .int k a, .int k' b => decide (k = k') && eqI a b
    | .str a, .str b => eqL a b
    | .nilPtr, .nilPtr | .nilSlice, .nilSlice | .nilMap, .nilMap | .nilFunc, .nilFunc | .nilIface, .nilIface => true
    | .ptr b o, .ptr b' o' => Nat.beq b b' && Nat.beq o o'
    | .slice b o l c g, .slice b' o' l' c' g' => Nat.beq b b' && Nat.beq o o' && Nat.beq l l' && Nat.beq c c' && Nat.beq g g'
    | .map r, .map r' => Nat.beq r r'
    | .iface t v, .iface t' v' => Nat.beq t t' && eqAV n v v'
    | .agg l, .agg l' | .tuple l, .tuple l' => eqLs (eqAV n) l l'
    | _, _ => false

/-! ### An operation; a region -/
inductive ORes where
  | val (v : AV) (h : Heap)
  | dfr (d : ADef)
  | pan (v : AV) (h : Heap)
def opX (call : CallF) (tm : Tm) (h : Heap) (ix : IX) : Option ORes :=
  match ax tm h ix with
  | some (.val v h') => some (.val v h')
  | some (.dfr d) => some (.dfr d)
  | some (.pan v) => some (.pan v h)
  | some (.call f args) => match call f args h with
    | some (.ret v, h') => some (.val v h')
    | some (.pan v, h') => some (.pan v h')
    | none => none
  | none => none
def runOps (call : CallF) : List OpI → St → Option (AEx × St)
  | [], s => some (.normal, s)
  | o :: r, s => match wantedA s.tm o.guard with
    | none => none
    | some false => runOps call r { s with tm := Tm.put' s.tm o.dst (.tuple []) }
    | some true => match opX call s.tm s.h o.ix with
      | none => none
      | some (.val v h) => runOps call r { s with tm := Tm.put' s.tm o.dst v, h := h }
      | some (.dfr d) => runOps call r { s with tm := Tm.put' s.tm o.dst (.tuple []), df := d :: s.df }
      | some (.pan v h) => some (.pan v, ⟨s.tm, s.df, h⟩)
/-- An operation of a region whose order is drawn: the temps it reads, what is always done ahead of it, has it an effect, does it look at memory, the effects that may come before or after it, may it panic. -/
structure DO where
  o : OpI
  rd : List Nat
  pre : Nat
  eff : Bool
  lk : Bool
  chk : List Nat
  pk : Bool
  /-- 0: in its place; 1: new memory that may be laid early; 2: a store that may be done early. -/
  late : Nat
structure Rc where
  tm : Tm
  h : Heap
  v : AV
  h' : Heap
  w : Bool
inductive AEnd where
  | done (tm : Tm) (h : Heap)
  | pan (tm : Tm) (h : Heap) (v : AV) (h' : Heap)
def consR (r : Rc) : Option (List Rc × AEnd) → Option (List Rc × AEnd)
  | some (l, e) => some (r :: l, e)
  | none => none
def runAny (call : CallF) : List DO → Tm → Heap → Option (List Rc × AEnd)
  | [], tm, h => some ([], .done tm h)
  | d :: r, tm, h => match wantedA tm d.o.guard with
    | none => none
    | some false => consR ⟨tm, h, .tuple [], h, false⟩ (runAny call r (Tm.put' tm d.o.dst (.tuple [])) h)
    | some true => match opX call tm h d.o.ix with
      | some (.val v h') => consR ⟨tm, h, v, h', true⟩ (runAny call r (Tm.put' tm d.o.dst v) h')
      | some (.pan v h') => if d.pk then some ([], .pan tm h v h') else none
      | _ => none
def sameAt (tm : Tm) (h : Heap) (ix : IX) (v : AV) : Bool := match ax tm h ix with
  | some (.val v' _) => eqAV 6 v' v
  | _ => false
def chkOne (rs : List Rc) (i : Nat) (d : DO) (r : Rc) (j : Nat) : Bool := match rs[j]? with
  | some c => sameAt r.tm (Bool.rec c.h' c.h (Nat.ble (Nat.succ j) i)) d.o.ix r.v
  | none => true
def chkAll (all : List Rc) : Nat → List DO → List Rc → Bool
  | i, d :: ds, r :: rs => (!d.lk || !r.w || d.chk.all (chkOne all i d r)) && chkAll all (i + 1) ds rs
  | _, _, _ => true
/-- The block that a store writes. -/
def addrB (tm : Tm) (ix : IX) : Option Nat := match ix with
  | .store _ a _ => match ev tm a with
    | .ptr b _ => some b
    | _ => none
  | _ => none
def apartB (x y : Option Nat) : Bool := match x, y with
  | some b, some c => !Nat.beq b c
  | _, _ => false
/-- A store that may be done early writes another block than those that it may pass. -/
def chkS (ds : List DO) (rs : List Rc) : Bool := (List.range rs.length).all fun i => match ds[i]?, rs[i]? with
  | some d, some r => !Nat.beq d.late 2 || (List.range i).all fun j => match ds[j]?, rs[j]? with
    | some c, some q => !c.eff || d.pre.testBit j || (q.w && apartB (addrB r.tm d.o.ix) (addrB q.tm c.o.ix))
    | _, _ => true
  | _, _ => true
def runD (call : CallF) (ds : List DO) (s : St) : Option (AEx × St) := match runAny call ds s.tm s.h with
  | some (rs, e) => if chkAll rs 0 ds rs && chkS ds rs then match e with
      | .done tm h => some (.normal, ⟨tm, s.df, h⟩)
      | .pan _ _ v h => some (.pan v, ⟨.leaf, s.df, h⟩)
    else none
  | none => none

/-! ### Code -/
inductive RC where
  | skip
  | region (ops : List OpI)
  | any (ops : List DO)
  | seq (a b : RC)
  | cond (c : Opd) (thn els : RC)
  | block (id : Nat) (body : RC)
  | loop (body : RC)
  | exit (id : Nat)
  | ret
  | bad
structure RFun where
  nt : Nat
  body : RC
  res : List IRes
def runC (call : CallF) : Nat → RC → St → Option (AEx × St)
  | 0, _, _ => none
  | n + 1, c, s => match c with
    | .skip => some (.normal, s)
    | .region ops => runOps call ops s
    | .any ops => runD call ops s
    | .seq a b => match runC call n a s with
      | some (.normal, s') => runC call n b s'
      | r => r
    | .cond c a b => match ev s.tm c with
      | .bool true => runC call n a s
      | .bool false => runC call n b s
      | _ => none
    | .block id b => match runC call n b s with
      | some (.exit j, s') => if j = id then some (.normal, s') else some (.exit j, s')
      | r => r
    | .loop b => match runC call n b s with
      | some (.normal, s') => runC call n (.loop b) s'
      | r => r
    | .exit id => some (.exit id, s)
    | .ret => some (.ret, s)
    | .bad => none
abbrev Sums := Nat → Option (List AV → Heap → Option (ARes × Heap))
def runF (S : Sums) (F : Nat → Option RFun) : Nat → CallF
  | 0, _, _, _ => none
  | n + 1, f, args, h => match S f with
    | some g => g args h
    | none => match F f with
      | none => none
      | some fn => if args.length ≤ fn.nt then
          match runC (runF S F n) n fn.body ⟨tmOf args fn.nt, [], h⟩ with
          | some (x, s) => match s.df with
            | [] => match x with
              | .pan v => some (.pan v, s.h)
              | .exit _ => none
              | _ => (resA s.tm s.h fn.res).map fun l => (.ret (oneOf l), s.h)
            | _ => none
          | none => none
        else none

/-! ### From the model's code -/
variable (P : Program) (G : Nat)
def preM (acc : List Nat) (l : List Edge) : Nat := l.foldr (fun e s => if Region.binds .any e then Nat.lor (Nat.lor s (2 ^ e.on)) (acc.getD e.on 0) else s) 0
def preAll : List Oper → List Nat → List Nat
  | [], acc => acc
  | o :: r, acc => preAll r (acc ++ [preM acc o.after.toList])
def IX.isStore : IX → Bool
  | .store .. => true
  | _ => false
def mkDO (pres : List Nat) (ios : List OpI) (i : Nat) : DO :=
  match ios[i]? with
  | some o => 
    let eff := fun j => match ios[j]? with
      | some o => !(o.ix.pure || o.ix.look)
      | none => true
    let late := fun k => match ios[k]? with
      | some o => match (List.range k).any fun j => eff j && !(pres.getD k 0).testBit j with
        | true => match o.guard, o.dst, o.ix with
          | none, some _, .newz _ _ => 1
          | none, none, .store _ _ _ => 2
          | _, _, _ => 0
        | false => 0
      | none => 0
    ⟨o, tmpsOf o.ix.opds ++ guardT o.guard, pres.getD i 0, eff i, o.ix.look,
      if o.ix.look then (List.range ios.length).filter fun j => !Nat.beq i j && eff j && !(pres.getD i 0).testBit j && !(pres.getD j 0).testBit i else [],
      (List.range ios.length).all fun j => Nat.ble j i || (pres.getD j 0).testBit i || Nat.beq (late j) 1, late i⟩
  | none => ⟨⟨none, none, .bad⟩, [], 0, true, false, [], false, 0⟩
def notIn (d : Option Nat) (l : List Nat) : Bool := match d with
  | some t => !l.any (Nat.beq t)
  | none => true
def notEq (d e : Option Nat) : Bool := match d, e with
  | some t, some u => !Nat.beq t u
  | _, _ => true
def noDst : Option Nat → Bool
  | none => true
  | _ => false
/-- Two operations, c ahead of d: bound, or apart. -/
def pairOK (j i : Nat) (c d : DO) : Bool :=
  d.pre.testBit j || (notIn c.o.dst d.rd && notIn d.o.dst c.rd && notEq c.o.dst d.o.dst && (!(c.eff && d.eff) || Nat.beq d.late 1 || (Nat.beq d.late 2 && c.o.ix.isStore && Nat.beq c.late 0 && noDst c.o.dst)) && (!c.eff || !d.lk || d.chk.any (Nat.beq j)) && (!c.lk || !d.eff || c.chk.any (Nat.beq i)) && (!c.pk || Nat.beq d.late 1))
def pairsOK : Nat → DO → Nat → List DO → Bool
  | j, c, i, d :: ds => pairOK j i c d && pairsOK j c (i + 1) ds
  | _, _, _, [] => true
def allPairs : Nat → List DO → Bool
  | j, c :: ds => pairsOK j c (j + 1) ds && allPairs (j + 1) ds
  | _, [] => true
def edgesOK : Nat → List Oper → List DO → List Nat → Bool
  | i, o :: os, d :: ds, acc => o.after.toList.all (fun e => !Region.binds .any e || Nat.ble (Nat.succ e.on) i) && Nat.beq d.pre (preM acc o.after.toList) && edgesOK (i + 1) os ds (acc ++ [d.pre])
  | _, [], [], _ => true
  | _, _, _, _ => false
/-- What early effects ask of the others. -/
def lateOne (ds : List DO) (i : Nat) (d : DO) : Bool := match d.late with
  | 0 => true
  | 1 => match d.o.dst with
    | some t => (match d.o.ix with
      | .newz _ _ => true
      | _ => false) && (List.range ds.length).all fun k => match ds[k]? with
      | some c => (Nat.beq k i || notEq (some t) c.o.dst) && (notIn (some t) c.rd || (List.range i).all fun j => match ds[j]? with
        | some q => !q.eff || c.pre.testBit j
        | none => true)
      | none => true
    | none => false
  | _ => Nat.beq d.late 2 && (match d.o.dst with
      | none => d.o.ix.isStore
      | some _ => false) && (List.range ds.length).all fun k => match ds[k]? with
    | some c => (Nat.beq k i || Nat.beq c.late 0) && (!(Nat.ble (Nat.succ k) i && c.eff) || d.pre.testBit k || ((List.range i).all fun m => match ds[m]? with
      | some p => Nat.ble m k || !p.eff
      | none => true)) && (!c.lk || d.pre.testBit k || (List.range i).all fun m => match ds[m]? with
      | some p => !p.eff || d.pre.testBit m || c.pre.testBit m
      | none => true)
    | none => true
def lateAll (ds : List DO) : Bool := (List.range ds.length).all fun i => match ds[i]? with
  | some d => (Nat.beq d.late 0 || (d.eff && match d.o.guard with
    | none => true
    | _ => false)) && lateOne ds i d
  | none => true
def compD (nt : Nat) (ops : Array Oper) : RC :=
  let ios := compOps P G nt ops ops.toList
  let pres := preAll ops.toList []
  let ds := (List.range ios.length).map (mkDO pres ios)
  if edgesOK 0 ops.toList ds [] && allPairs 0 ds && lateAll ds && Nat.beq ds.length ops.size then .any ds else .bad
def compR (nt : Nat) : Code → RC
  | .skip => .skip
  | .region _ ops draw => if draw then compD P G nt ops else .region (compOps P G nt ops ops.toList)
  | .seq a b => .seq (compR nt a) (compR nt b)
  | .cond c a b => match opd G c with
    | some c => .cond c (compR nt a) (compR nt b)
    | none => .bad
  | .block id b => .block id (compR nt b)
  | .loop b => .loop (compR nt b)
  | .exit id => .exit id
  | .label _ => .skip
  | .ret => .ret
  | _ => .bad
def compG (f : Nat) : Option RFun := match P.funcs[f]? with
  | some fn => match fn.body, compRes P fn.results.toList, fn.name == "runtime.NumGoroutine" with
    | some c, some r, false => some ⟨fn.ntmps, compR P G fn.ntmps c, r⟩
    | _, _, _ => none
  | none => none
end
end Go.AS

/- One operation is sound; which temps matter (own work). -/
set_option linter.unusedSimpArgs false
set_option linter.unusedVariables false
namespace Go.AS
variable {P : Program} {G : Nat} {base : Nat} {φ : Phi} {h : Heap} {w : World}

theorem evs_congr {tm tm2 : Tm} {l : List Opd} (e : ∀ x ∈ l, ev tm x = ev tm2 x) : evs tm l = evs tm2 l := List.map_congr_left e
theorem evParts_congr {tm tm2 : Tm} {l : List (Nat × Nat × Opd)} (e : ∀ x ∈ l.map (fun p => p.2.2), ev tm x = ev tm2 x) : evParts tm l = evParts tm2 l :=
  List.map_congr_left fun ⟨o, n, x⟩ hm => by
    have := e x (List.mem_map.2 ⟨_, hm, rfl⟩)
    simp only [this]
theorem oev_congr {tm tm2 : Tm} {x : Option Opd} (e : ∀ y ∈ x.toList, ev tm y = ev tm2 y) : x.map (ev tm) = x.map (ev tm2) := by
  cases x with
  | none => rfl
  | some y => simp [e y (by simp)]
theorem ax_congr {tm tm2 : Tm} {ix : IX} (e : ∀ x ∈ ix.opds, ev tm x = ev tm2 x) : ax tm h ix = ax tm2 h ix := by
  cases ix
  case mov x => simp only [ax, e x (by simp [IX.opds])]
  case pick c a b => simp only [ax, e c (by simp [IX.opds]), e a (by simp [IX.opds]), e b (by simp [IX.opds])]
  case newz => rfl
  case box _ x => simp only [ax, e x (by simp [IX.opds])]
  case build z p => simp only [ax, evParts_congr e]
  case mkSlice _ _ z p => simp only [ax, evParts_congr e]
  case load _ _ x => simp only [ax, e x (by simp [IX.opds])]
  case store _ a x => simp only [ax, e a (by simp [IX.opds]), e x (by simp [IX.opds])]
  case nilCheck x => simp only [ax, e x (by simp [IX.opds])]
  case bin _ _ a x => simp only [ax, e a (by simp [IX.opds]), e x (by simp [IX.opds])]
  case un _ x => simp only [ax, e x (by simp [IX.opds])]
  case conv _ x => simp only [ax, e x (by simp [IX.opds])]
  case mkIface _ x => simp only [ax, e x (by simp [IX.opds])]
  case mkFunc f a b => simp only [ax, evs_congr (l := a) fun x hx => e x (by simp [IX.opds, hx]), evs_congr (l := b) fun x hx => e x (by simp [IX.opds, hx])]
  case mkMap => rfl
  case mkSl _ _ _ a x => simp only [ax, e a (by simp [IX.opds]), e x (by simp [IX.opds])]
  case slStr x lo hi => simp only [ax, e x (by simp [IX.opds]), oev_congr (x := lo) fun y hy => e y (by simp only [IX.opds, List.mem_cons, List.mem_append]; exact .inr (.inl hy)), oev_congr (x := hi) fun y hy => e y (by simp only [IX.opds, List.mem_cons, List.mem_append]; exact .inr (.inr hy))]
  case slSl _ x lo hi mx => simp only [ax, e x (by simp [IX.opds]), oev_congr (x := lo) fun y hy => e y (by simp only [IX.opds, List.mem_cons, List.mem_append]; exact .inr (.inl (.inl hy))), oev_congr (x := hi) fun y hy => e y (by simp only [IX.opds, List.mem_cons, List.mem_append]; exact .inr (.inl (.inr hy))), oev_congr (x := mx) fun y hy => e y (by simp only [IX.opds, List.mem_cons, List.mem_append]; exact .inr (.inr hy))]
  case slArr _ _ x lo hi mx => simp only [ax, e x (by simp [IX.opds]), oev_congr (x := lo) fun y hy => e y (by simp only [IX.opds, List.mem_cons, List.mem_append]; exact .inr (.inl (.inl hy))), oev_congr (x := hi) fun y hy => e y (by simp only [IX.opds, List.mem_cons, List.mem_append]; exact .inr (.inl (.inr hy))), oev_congr (x := mx) fun y hy => e y (by simp only [IX.opds, List.mem_cons, List.mem_append]; exact .inr (.inr hy))]
  case fieldAddr x _ => simp only [ax, e x (by simp [IX.opds])]
  case field _ _ _ x => simp only [ax, e x (by simp [IX.opds])]
  case idxAddrA _ _ a x => simp only [ax, e a (by simp [IX.opds]), e x (by simp [IX.opds])]
  case idxAddrS _ a x => simp only [ax, e a (by simp [IX.opds]), e x (by simp [IX.opds])]
  case idxA _ _ _ a x => simp only [ax, e a (by simp [IX.opds]), e x (by simp [IX.opds])]
  case idxStr a x => simp only [ax, e a (by simp [IX.opds]), e x (by simp [IX.opds])]
  case lookup _ _ x i _ => simp only [ax, e i (by simp [IX.opds]), e x (by simp [IX.opds])]
  case mapSet _ m k v => simp only [ax, e m (by simp [IX.opds]), e k (by simp [IX.opds]), e v (by simp [IX.opds])]
  case assertC _ _ x _ => simp only [ax, e x (by simp [IX.opds])]
  case extract x _ => simp only [ax, e x (by simp [IX.opds])]
  case call f args => simp only [ax, e f (by simp [IX.opds]), evs_congr (l := args) fun x hx => e x (by simp [IX.opds, hx])]
  case append _ _ _ a x => simp only [ax, e a (by simp [IX.opds]), e x (by simp [IX.opds])]
  case copy _ a x => simp only [ax, e a (by simp [IX.opds]), e x (by simp [IX.opds])]
  case sdata x => simp only [ax, e x (by simp [IX.opds])]
  case clear _ _ x => simp only [ax, e x (by simp [IX.opds])]
  case ustr _ a x => simp only [ax, e a (by simp [IX.opds]), e x (by simp [IX.opds])]
  case len _ x => simp only [ax, e x (by simp [IX.opds])]
  case cap x => simp only [ax, e x (by simp [IX.opds])]
  case lenArr => rfl
  case maxI x xs => simp only [ax, e x (by simp [IX.opds]), evs_congr (l := xs) fun x hx => e x (by simp [IX.opds, hx])]
  case minI x xs => simp only [ax, e x (by simp [IX.opds]), evs_congr (l := xs) fun x hx => e x (by simp [IX.opds, hx])]
  case delete _ m k => simp only [ax, e m (by simp [IX.opds]), e k (by simp [IX.opds])]
  case defer f args => simp only [ax, e f (by simp [IX.opds]), evs_congr (l := args) fun x hx => e x (by simp [IX.opds, hx])]
  case panic x => simp only [ax, e x (by simp [IX.opds])]
  case siter x => simp only [ax, e x (by simp [IX.opds])]
  case snext x => simp only [ax, e x (by simp [IX.opds])]
  case bad => rfl

theorem mem_tmpsOf {l : List Opd} {t : Nat} (hm : Opd.tmp t ∈ l) : t ∈ tmpsOf l := by
  simp only [tmpsOf, List.mem_flatMap]
  exact ⟨_, hm, by simp⟩
/-- Temps that agree on what an instruction reads. -/
theorem ax_agree {tm tm2 : Tm} {ix : IX} (e : ∀ t ∈ tmpsOf ix.opds, Tm.val tm t = Tm.val tm2 t) : ax tm h ix = ax tm2 h ix :=
  ax_congr fun x hx => by
    cases x with
    | tmp t => exact e t (mem_tmpsOf hx)
    | const v => rfl
theorem opX_agree {call : CallF} {tm tm2 : Tm} {ix : IX} (e : ∀ t ∈ tmpsOf ix.opds, Tm.val tm t = Tm.val tm2 t) : opX call tm h ix = opX call tm2 h ix := by
  simp only [opX, ax_agree e]
theorem wanted_agree {tm tm2 : Tm} {g : Option (Option Nat × Bool)} (e : ∀ t ∈ guardT g, Tm.val tm t = Tm.val tm2 t) : wantedA tm g = wantedA tm2 g := by
  cases g with
  | none => rfl
  | some p =>
    obtain ⟨t, b⟩ := p
    cases t with
    | none => rfl
    | some t => simp only [wantedA, e t (by simp [guardT])]

noncomputable def mask (l : List Nat) (tm : Tm) : Tm := l.foldr (fun t m => Tr.put m t (some (Tm.val tm t))) .leaf
theorem val_leaf (t : Nat) : Tm.val .leaf t = .top := by simp [Tm.val, Tr.get_leaf]
theorem val_put (tm : Tm) (d : Nat) (v : AV) (t : Nat) : Tm.val (Tr.put tm d (some v)) t = if d = t then v else Tm.val tm t := by
  unfold Tm.val
  rw [Tr.get_put]
  by_cases e : d = t <;> simp [e]
theorem val_put' (tm : Tm) (d : Option Nat) (v : AV) (t : Nat) : Tm.val (Tm.put' tm d v) t = if d = some t then v else Tm.val tm t := by
  cases d with
  | none => simp [Tm.put']
  | some d => simp [Tm.put', val_put]
theorem val_mask (tm : Tm) (t : Nat) : ∀ l : List Nat, Tm.val (mask l tm) t = if t ∈ l then Tm.val tm t else .top
  | [] => by simp [mask, val_leaf]
  | u :: l => by
    have ih := val_mask tm t l
    simp only [mask, List.foldr_cons] at ih ⊢
    rw [val_put]
    by_cases e : u = t
    · simp [e]
    · have : t ≠ u := fun x => e x.symm
      simp [e, this, ih]
theorem val_mask_in {tm : Tm} {t : Nat} {l : List Nat} (hm : t ∈ l) : Tm.val (mask l tm) t = Tm.val tm t := by rw [val_mask, if_pos hm]
theorem TR.mask {φ : Phi} {tm : Tm} {tmps : Array Value} {l : List Nat} (hl : ∀ t ∈ l, VR φ (Tm.val tm t) (tmps.getD t undef)) : TR φ (mask l tm) tmps := by
  intro t
  rw [val_mask]
  by_cases e : t ∈ l
  · rw [if_pos e]; exact hl t e
  · rw [if_neg e]; simp [VR]
theorem TR.leaf {φ : Phi} {tmps : Array Value} : TR φ .leaf tmps := fun t => by rw [val_leaf]; simp [VR]

/-! ### What pure instructions and looks leave -/
theorem pure_spec {tm : Tm} {ix : IX} {r : OR} (hp : ix.pure = true) (hx : ax tm h ix = some r) : ∃ v, r = .val v h ∧ ∀ h2, ax tm h2 ix = some (.val v h2) := by
  cases ix <;> (try (simp [IX.pure] at hp; done))
  all_goals first
    | (simp only [ax, Option.some.injEq] at hx; subst hx; exact ⟨_, rfl, fun _ => rfl⟩)
    | (simp only [ax] at hx; obtain ⟨v, k, rfl⟩ := map_some hx; exact ⟨_, rfl, fun h2 => by simp only [ax, k, Option.map_some]⟩)
    | skip
  case pick c a b =>
    simp only [ax] at hx ⊢
    split at hx
    · rename_i e; simp only [Option.some.injEq] at hx; subst hx; exact ⟨_, rfl, fun _ => by simp only [e]⟩
    · rename_i e; simp only [Option.some.injEq] at hx; subst hx; exact ⟨_, rfl, fun _ => by simp only [e]⟩
    · cases hx
  case nilCheck x =>
    simp only [ax] at hx ⊢
    split at hx
    · rename_i e; simp only [Option.some.injEq] at hx; subst hx; exact ⟨_, rfl, fun _ => by simp only [e]⟩
    · rename_i e; simp only [Option.some.injEq] at hx; subst hx; exact ⟨_, rfl, fun _ => by simp only [e]⟩
    · rename_i e; simp only [Option.some.injEq] at hx; subst hx; exact ⟨_, rfl, fun _ => by simp only [e]⟩
    · cases hx
  case conv c x =>
    simp only [ax] at hx ⊢
    split at hx
    · rename_i e; simp only [Option.some.injEq] at hx; subst hx; exact ⟨_, rfl, fun _ => by simp only [e]⟩
    · rename_i e; simp only [Option.some.injEq] at hx; subst hx; exact ⟨_, rfl, fun _ => by simp only [e]⟩
    all_goals first | (simp [IX.pure] at hp; done) | cases hx
  case sdata x =>
    simp only [ax] at hx ⊢
    split at hx
    · rename_i e; simp only [Option.some.injEq] at hx; subst hx; exact ⟨_, rfl, fun _ => by simp only [e]⟩
    · rename_i e
      split at hx
      · cases hx
      · rename_i h0
        simp only [Option.some.injEq] at hx; subst hx; exact ⟨_, rfl, fun _ => by simp only [e, if_neg h0]⟩
    · cases hx
  case slStr x lo hi =>
    simp only [ax] at hx ⊢
    split at hx
    · rename_i e; obtain ⟨v, k, rfl⟩ := map_some hx; exact ⟨_, rfl, fun _ => by simp only [e, k, Option.map_some]⟩
    · cases hx
  case slSl _ x lo hi mx =>
    simp only [ax] at hx ⊢
    split at hx
    · rename_i e; obtain ⟨v, k, rfl⟩ := map_some hx; exact ⟨_, rfl, fun _ => by simp only [e, k, Option.map_some]⟩
    · rename_i e
      split at hx
      · rename_i e2; obtain ⟨v, k, rfl⟩ := map_some hx; exact ⟨_, rfl, fun _ => by simp only [e, k, Option.map_some, if_pos e2]⟩
      · cases hx
    · cases hx
  case slArr _ _ x lo hi mx =>
    simp only [ax] at hx ⊢
    split at hx
    · rename_i e; obtain ⟨v, k, rfl⟩ := map_some hx; exact ⟨_, rfl, fun _ => by simp only [e, k, Option.map_some]⟩
    · cases hx
  case fieldAddr x _ =>
    simp only [ax] at hx ⊢
    split at hx
    · rename_i e; simp only [Option.some.injEq] at hx; subst hx; exact ⟨_, rfl, fun _ => by simp only [e]⟩
    · cases hx
  case field agg _ _ x =>
    simp only [ax] at hx ⊢
    split at hx
    · rename_i e
      cases agg
      · obtain ⟨v, k, rfl⟩ := map_some hx; exact ⟨_, rfl, fun _ => by simp only [e, k, Option.map_some]⟩
      · obtain ⟨v, k, rfl⟩ := map_some hx; exact ⟨_, rfl, fun _ => by simp only [e, k, Option.map_some]⟩
    · cases hx
  case idxAddrA _ _ x i =>
    simp only [ax] at hx ⊢
    split at hx
    · rename_i e e'
      split at hx
      · rename_i e2; simp only [Option.some.injEq] at hx; subst hx; exact ⟨_, rfl, fun _ => by simp only [e, e', if_pos e2]⟩
      · cases hx
    · cases hx
  case idxAddrS _ x i =>
    simp only [ax] at hx ⊢
    split at hx
    · rename_i e e'
      split at hx
      · rename_i e2; simp only [Option.some.injEq] at hx; subst hx; exact ⟨_, rfl, fun _ => by simp only [e, e', if_pos e2]⟩
      · cases hx
    · cases hx
  case idxA _ agg _ x i =>
    simp only [ax] at hx ⊢
    split at hx
    · rename_i e e'
      split at hx
      · rename_i e2
        cases agg
        · obtain ⟨v, k, rfl⟩ := map_some hx; exact ⟨_, rfl, fun _ => by simp only [e, e', k, Option.map_some, if_pos e2]⟩
        · obtain ⟨v, k, rfl⟩ := map_some hx; exact ⟨_, rfl, fun _ => by simp only [e, e', k, Option.map_some, if_pos e2]⟩
      · cases hx
    · rename_i e e'
      split at hx
      · rename_i e2; obtain ⟨v, k, rfl⟩ := map_some hx; exact ⟨_, rfl, fun _ => by simp only [e, e', e2, k, Option.map_some]⟩
      · cases hx
    · cases hx
  case idxStr x i =>
    simp only [ax] at hx ⊢
    split at hx
    · rename_i e e'
      split at hx
      · rename_i e2; obtain ⟨v, k, rfl⟩ := map_some hx; exact ⟨_, rfl, fun _ => by simp only [e, e', k, Option.map_some, if_pos e2]⟩
      · cases hx
    · cases hx
  case assertC t z x ok =>
    simp only [ax] at hx ⊢
    split at hx
    · rename_i e
      split at hx
      · rename_i e2; simp only [Option.some.injEq] at hx; subst hx; exact ⟨_, rfl, fun _ => by simp only [e, if_pos e2]⟩
      · cases hx
    · rename_i e
      split at hx
      · rename_i e2; simp only [Option.some.injEq] at hx; subst hx; exact ⟨_, rfl, fun _ => by simp only [e, if_pos e2]⟩
      · rename_i e2
        split at hx
        · rename_i e3; simp only [Option.some.injEq] at hx; subst hx; exact ⟨_, rfl, fun _ => by simp only [e, if_neg e2, if_pos e3]⟩
        · cases hx
    · cases hx
  case extract x i =>
    simp only [ax] at hx ⊢
    split at hx
    · rename_i e; obtain ⟨v, k, rfl⟩ := map_some hx; exact ⟨_, rfl, fun _ => by simp only [e, k, Option.map_some]⟩
    · cases hx
  case cap x =>
    simp only [ax] at hx ⊢
    split at hx
    · rename_i e; simp only [Option.some.injEq] at hx; subst hx; exact ⟨_, rfl, fun _ => by simp only [e]⟩
    · rename_i e; simp only [Option.some.injEq] at hx; subst hx; exact ⟨_, rfl, fun _ => by simp only [e]⟩
    · cases hx
  case len q x =>
    simp only [ax] at hx ⊢
    split at hx
    · rename_i e; simp only [Option.some.injEq] at hx; subst hx; exact ⟨_, rfl, fun _ => by simp only [e]⟩
    · rename_i e; simp only [Option.some.injEq] at hx; subst hx; exact ⟨_, rfl, fun _ => by simp only [e]⟩
    · rename_i e; simp only [Option.some.injEq] at hx; subst hx; exact ⟨_, rfl, fun _ => by simp only [e]⟩
    · simp [IX.pure] at hp
    · simp [IX.pure] at hp
    · cases hx
theorem look_spec {tm : Tm} {ix : IX} {r : OR} (hp : ix.look = true) (hx : ax tm h ix = some r) : ∃ v, r = .val v h := by
  cases ix <;> (try (simp [IX.look] at hp; done))
  case load => simp only [ax] at hx; obtain ⟨v, k, rfl⟩ := map_some hx; exact ⟨_, rfl⟩
  case conv c x =>
    simp only [ax] at hx
    split at hx
    · simp [IX.look] at hp
    · simp [IX.look] at hp
    · simp only [Option.some.injEq] at hx; subst hx; exact ⟨_, rfl⟩
    · split at hx
      · split at hx
        · simp only [Option.some.injEq] at hx; subst hx; exact ⟨_, rfl⟩
        · cases hx
      · cases hx
    · simp only [Option.some.injEq] at hx; subst hx; exact ⟨_, rfl⟩
    · split at hx
      · split at hx
        · simp only [Option.some.injEq] at hx; subst hx; exact ⟨_, rfl⟩
        · cases hx
      · cases hx
    · simp [IX.look] at hp
    · simp only [Option.some.injEq] at hx; subst hx; exact ⟨_, rfl⟩
    · split at hx
      · simp only [Option.some.injEq] at hx; subst hx; exact ⟨_, rfl⟩
      · split at hx
        · split at hx
          · obtain ⟨v, k, rfl⟩ := map_some hx; exact ⟨_, rfl⟩
          · cases hx
        · cases hx
    · cases hx
  case lookup =>
    simp only [ax] at hx
    split at hx
    · simp only [Option.some.injEq] at hx; subst hx; exact ⟨_, rfl⟩
    · split at hx
      · split at hx
        · simp only [Option.some.injEq] at hx; subst hx; exact ⟨_, rfl⟩
        · simp only [Option.some.injEq] at hx; subst hx; exact ⟨_, rfl⟩
        · cases hx
      · cases hx
    · cases hx
  case len q x =>
    simp only [ax] at hx
    split at hx
    · simp [IX.look] at hp
    · simp [IX.look] at hp
    · simp [IX.look] at hp
    · simp only [Option.some.injEq] at hx; subst hx; exact ⟨_, rfl⟩
    · split at hx
      · simp only [Option.some.injEq] at hx; subst hx; exact ⟨_, rfl⟩
      · cases hx
    · cases hx

/-! ### Equal values -/
theorem eqAV_sound : ∀ (n : Nat), (∀ x y, eqAV n x y = true → x = y) ∧ (∀ l l', eqLs (eqAV n) l l' = true → l = l') := by
  have goS : ∀ n, (∀ x y, eqAV n x y = true → x = y) → ∀ l l', eqLs (eqAV n) l l' = true → l = l' := by
    intro n hn l
    induction l with
    | nil => intro l' e; cases l' with
      | nil => rfl
      | cons y l' => simp [eqLs] at e
    | cons x l ih => intro l' e; cases l' with
      | nil => simp [eqLs] at e
      | cons y l' =>
        simp only [eqLs, Bool.and_eq_true] at e
        rw [hn _ _ e.1, ih _ e.2]
  intro n
  induction n with
  | zero => exact ⟨fun x y e => by simp [eqAV] at e, goS 0 (fun x y e => by simp [eqAV] at e)⟩
  | succ n ih =>
    have h1 : ∀ x y, eqAV (n + 1) x y = true → x = y := by
      intro x y e
      unfold eqAV at e
      split at e
      all_goals first
        | rfl
        | (simp only [beq_iff_eq] at e; rw [e])
        | (simp only [Bool.and_eq_true, decide_eq_true_eq, eqI_eq] at e; rw [e.1, e.2])
        | (simp only [eqL_eq, decide_eq_true_eq, beq_iff_eq] at e; rw [e])
        | (simp only [Bool.and_eq_true, Nat.beq_eq] at e; obtain ⟨⟨⟨⟨rfl, rfl⟩, rfl⟩, rfl⟩, rfl⟩ := e; rfl)
        | (simp only [Bool.and_eq_true, Nat.beq_eq] at e; obtain ⟨rfl, rfl⟩ := e; rfl)
        | (simp only [Nat.beq_eq] at e; subst e; rfl)
        | (simp only [Bool.and_eq_true, Nat.beq_eq] at e; rw [e.1, ih.1 _ _ e.2])
        | (rw [ih.2 _ _ e])
        | cases e
    exact ⟨h1, goS _ h1⟩
theorem sameAt_sound {tm : Tm} {ix : IX} {v : AV} (hs : sameAt tm h ix v = true) (hl : ix.look = true) : ax tm h ix = some (.val v h) := by
  unfold sameAt at hs
  split at hs
  · rename_i v' h' e
    obtain ⟨v2, e2⟩ := look_spec hl e
    cases e2
    rw [e, (eqAV_sound 6).1 _ _ hs]
  · cases hs

/-! ### One operation -/
/-- What is known of calls. -/
def CallS (P : Program) (G base : Nat) (call : CallF) : Prop :=
  ∀ f args h r h' φ w (args' : Array Value), call f args h = some (r, h') → GL G φ → VRs φ args args'.toList → WR base φ h w →
    ∀ (o : Oper) (a : Act) (next : Act → World → Prop) (Q : Exit → Act → World → Prop),
      (match r with
        | .ret v => ∀ φ' w' v', Step base φ h w φ' h' w' → VR φ' v v' → next (a.put o.dst v') w'
        | .pan v => ∀ φ' w' v', Step base φ h w φ' h' w' → VR φ' v v' → Q (.panic [{ v := v', recovered := false }]) a w') →
      o.upon P a next Q ((callFunc f args').run P w)
theorem opX_sound {call : CallF} {o : Oper} {ix : IX} {tm : Tm} {a : Act} {res : ORes} {next : Act → World → Prop} {Q : Exit → Act → World → Prop}
    (hcall : CallS P G base call) (hc : compIX P G o = some ix) (hx : opX call tm h ix = some res) (g : GL G φ) (t : TR φ tm a.tmps) (r : WR base φ h w)
    (k : match res with
      | .val v h' => ∀ φ' w' v', Step base φ h w φ' h' w' → VR φ' v v' → next (a.put o.dst v') w'
      | .dfr d => ∀ d', DR φ d d' → next ({ a with defers := d' :: a.defers }.put o.dst undef) w
      | .pan v h' => ∀ φ' w' v', Step base φ h w φ' h' w' → VR φ' v v' → Q (.panic [{ v := v', recovered := false }]) a w') :
    o.wp P a w next Q := by
  unfold Oper.wp
  unfold opX at hx
  split at hx
  · rename_i v h' e
    cases hx
    obtain ⟨φ', v', w', e1, e2, e3⟩ := ax_sound hc e g t r
    rcases e1 with e1 | ⟨e1, rfl⟩
    · rw [e1, Oper.upon_value]; exact k φ' w' v' e3 e2
    · rw [e1, Oper.upon_skip]; exact k φ' w' undef e3 e2
  · rename_i d e
    cases hx
    obtain ⟨d', e1, e2⟩ := ax_sound hc e g t r
    rw [e1, Oper.upon_defer]; exact k d' e2
  · rename_i v e
    cases hx
    obtain ⟨v', e1, e2⟩ := ax_sound hc e g t r
    rw [e1, Oper.upon_panic]; exact k φ w v' (Step.refl r) e2
  · rename_i f args e
    obtain ⟨args', e1, e2⟩ := ax_sound hc e g t r
    rw [e2]
    split at hx
    · rename_i v h' ec
      cases hx
      exact hcall f args h _ h' φ w args' ec g e1 r o a next Q k
    · rename_i v h' ec
      cases hx
      exact hcall f args h _ h' φ w args' ec g e1 r o a next Q k
    · cases hx
  · cases hx
end Go.AS

/- Regions in the order of the text are sound (own work). -/
set_option linter.unusedSimpArgs false
set_option linter.unusedVariables false
namespace Go.AS
variable {P : Program} {G : Nat} {base nt : Nat} {φ : Phi} {h : Heap} {w : World}

def DRs (φ : Phi) : List ADef → List Deferred → Prop
  | [], l => l = []
  | d :: ds, l => ∃ x xs, l = x :: xs ∧ DR φ d x ∧ DRs φ ds xs
theorem DR.mono {φ ψ : Phi} (hle : φ.le ψ) {d : ADef} {d' : Deferred} (r : DR φ d d') : DR ψ d d' := by
  obtain ⟨h1, cap, h2, h3, h4⟩ := r
  exact ⟨h1, cap, h2, h3.mono hle, h4.mono hle⟩
theorem DRs.mono {φ ψ : Phi} (hle : φ.le ψ) : ∀ {ds : List ADef} {l : List Deferred}, DRs φ ds l → DRs ψ ds l
  | [], l, r => r
  | d :: ds, l, r => by
    obtain ⟨x, xs, rfl, h1, h2⟩ := r
    exact ⟨x, xs, rfl, h1.mono hle, DRs.mono hle h2⟩
/-- The state of a function's run stands for the model's. -/
structure SR (G nt : Nat) (φ : Phi) (s : St) (a : Act) : Prop where
  g : GL G φ
  t : TR φ s.tm a.tmps
  d : DRs φ s.df a.defers
  n : a.tmps.size = nt
def ExR (φ : Phi) (x : AEx) (a : Act) (w : World) (Q : Exit → Act → World → Prop) : Prop :=
  match x with
  | .normal => Q .normal a w
  | .exit id => Q (.exit id) a w
  | .ret => Q .ret a w
  | .pan v => ∀ v', VR φ v v' → Q (.panic [{ v := v', recovered := false }]) a w
def Post (G base nt : Nat) (φ : Phi) (h : Heap) (w : World) (x : AEx) (s' : St) (Q : Exit → Act → World → Prop) : Prop :=
  ∀ φ' a' w', Step base φ h w φ' s'.h w' → SR G nt φ' s' a' → ExR φ' x a' w' Q
theorem Post.after {φ1 : Phi} {h1 : Heap} {w1 : World} {x : AEx} {s' : St} {Q : Exit → Act → World → Prop} (p : Post G base nt φ h w x s' Q) (st : Step base φ h w φ1 h1 w1) : Post G base nt φ1 h1 w1 x s' Q :=
  fun φ' a' w' k1 k2 => p φ' a' w' (st.trans k1) k2

theorem getD_put {a : Act} {d t : Nat} {v : Value} (hd : d < a.tmps.size) : (a.put (some d) v).tmps.getD t undef = if d = t then v else a.tmps.getD t undef := by
  simp only [Act.put, Array.getD_eq_getD_getElem?, Array.getElem?_setIfInBounds]
  by_cases e : d = t
  · subst e; simp [hd]
  · simp [e]
theorem okDst_lt {d : Nat} (e : okDst nt (some d) = true) : d < nt := Nat.le_of_ble_eq_true e
theorem TR.put {tm : Tm} {a : Act} {dst : Option Nat} {v : AV} {v' : Value} (t : TR φ tm a.tmps) (hd : okDst nt dst = true) (hn : a.tmps.size = nt) (hv : VR φ v v') : TR φ (Tm.put' tm dst v) (a.put dst v').tmps := by
  cases dst with
  | none => exact t
  | some d =>
    intro u
    rw [val_put', getD_put (by rw [hn]; exact okDst_lt hd)]
    by_cases e : d = u
    · simp [e, hv]
    · rw [if_neg (by simpa using e), if_neg e]; exact t u
@[simp] theorem size_put (a : Act) (dst : Option Nat) (v : Value) : (a.put dst v).tmps.size = a.tmps.size := by cases dst <;> simp [Act.put]
@[simp] theorem defers_put (a : Act) (dst : Option Nat) (v : Value) : (a.put dst v).defers = a.defers := by cases dst <;> rfl
theorem SR.put {s : St} {a : Act} {dst : Option Nat} {v : AV} {v' : Value} {φ' : Phi} {h' : Heap} (k : SR G nt φ s a) (hd : okDst nt dst = true) (hle : φ.le φ') (hv : VR φ' v v') :
    SR G nt φ' { s with tm := Tm.put' s.tm dst v, h := h' } (a.put dst v') :=
  ⟨k.g.mono hle, (k.t.mono hle).put hd k.n hv, by simpa using k.d.mono hle, by simp [k.n]⟩
theorem undefR : VR φ (.tuple []) undef := by simp [VR, VRs, undef]

theorem compIO_spec (ops : Array Oper) (o : Oper) : compIO P G nt ops o = ⟨none, none, .bad⟩ ∨
    ∃ ix gd, compIX P G o = some ix ∧ okDst nt o.dst = true ∧ guardP nt ops o.guard = some gd ∧ compIO P G nt ops o = ⟨o.dst, gd, ix⟩ := by
  unfold compIO
  split
  · rename_i ix gd h1 h2 h3
    exact .inr ⟨ix, gd, h1, h2, h3, rfl⟩
  · exact .inl rfl
theorem wanted_sound {ops : Array Oper} {o : Oper} {gd : Option (Option Nat × Bool)} {tm : Tm} {tmps : Array Value} {b : Bool} (hg : guardP nt ops o.guard = some gd) (t : TR φ tm tmps) (hn : tmps.size = nt)
    (hw : wantedA tm gd = some b) : Region.wanted o (yielded ops tmps) = b := by
  unfold Region.wanted
  cases e : o.guard with
  | none =>
    rw [e] at hg
    simp only [guardP, Option.some.injEq] at hg; subst hg
    simp only [wantedA, Option.some.injEq] at hw
    exact hw
  | some p =>
    obtain ⟨j, want⟩ := p
    rw [e] at hg
    simp only [guardP] at hg
    split at hg
    · rename_i hd
      simp only [Option.some.injEq] at hg; subst hg
      simp only [yielded]
      cases ed : (ops[j]?).bind (·.dst) with
      | none =>
        rw [ed] at hw
        simp only [wantedA, Option.some.injEq] at hw
        simp [← hw]
      | some u =>
        rw [ed] at hw hd
        have hu : u < tmps.size := by rw [hn]; exact okDst_lt hd
        have hv := t u
        have he : tmps[u]? = some (tmps.getD u undef) := by simp [Array.getD_eq_getD_getElem?, hu]
        simp only [Option.bind_some, he]
        simp only [wantedA] at hw
        split at hw
        · rename_i c hc
          rw [hc] at hv; simp only [VR] at hv
          simp only [Option.some.injEq] at hw
          rw [hv]
          subst hw
          cases c <;> cases want <;> rfl
        · cases hw
        · cases hw
        · rename_i h1 h2 h3
          simp only [Option.some.injEq] at hw; subst hw
          have hnb : ∀ c, tmps.getD u undef ≠ .bool c := by
            intro c hc
            rw [hc] at hv
            revert hv h1 h2 h3
            cases Tm.val tm u <;> intro hv h1 h2 h3 <;> simp_all [VR]
          split
          · rename_i b hb
            exact absurd (Option.some.inj hb) (hnb b)
          · rfl
    · cases hg

theorem runOps_sound {call : CallF} {ops : Array Oper} {Q : Exit → Act → World → Prop} (hcall : CallS P G base call) : ∀ (l : List Oper) (k : Nat) (φ : Phi) (w : World) (s : St) (a : Act) (x : AEx) (s' : St),
    ops.toList.drop k = l → runOps call (compOps P G nt ops l) s = some (x, s') → SR G nt φ s a → WR base φ s.h w → Post G base nt φ s.h w x s' Q → wpOps P ops Q (List.range' k l.length) a w := by
  intro l
  induction l with
  | nil =>
    intro k φ w s a x s' hl hr sr r p
    simp only [compOps, runOps, Option.some.injEq, Prod.mk.injEq] at hr
    obtain ⟨rfl, rfl⟩ := hr
    simp only [List.length_nil, List.range'_zero, wpOps]
    exact p φ a w (Step.refl r) sr
  | cons o l ih =>
    intro k φ w s a x s' hl hr sr r p
    have hk : ops[k]? = some o := by
      have : (ops.toList.drop k)[0]? = some o := by rw [hl]; rfl
      simpa using this
    have hl' : ops.toList.drop (k + 1) = l := by
      rw [← List.drop_drop, hl]; rfl
    have hcons : compOps P G nt ops (o :: l) = compIO P G nt ops o :: compOps P G nt ops l := rfl
    rw [hcons] at hr
    simp only [List.length_cons, List.range'_succ, wpOps, hk]
    rcases compIO_spec (P := P) (G := G) (nt := nt) ops o with hb | ⟨ix, gd, hix, hdst, hgd, hio⟩
    · rw [hb] at hr
      simp [runOps, wantedA, opX, ax] at hr
    · rw [hio] at hr
      simp only [runOps] at hr
      split at hr
      · cases hr
      · rename_i hw
        rw [wanted_sound hgd sr.t sr.n hw]
        simp only [Bool.false_eq_true, if_false]
        exact ih (k + 1) φ w { s with tm := Tm.put' s.tm o.dst (.tuple []) } (a.put o.dst undef) x s' hl' hr (sr.put (h' := s.h) hdst φ.le_refl undefR) r p
      · rename_i hw
        rw [wanted_sound hgd sr.t sr.n hw]
        simp only [if_true]
        left
        split at hr
        · cases hr
        · rename_i v h' e
          refine opX_sound hcall hix e sr.g sr.t r ?_
          intro φ' w' v' st hv
          exact ih (k + 1) φ' w' { s with tm := Tm.put' s.tm o.dst v, h := h' } (a.put o.dst v') x s' hl' hr (sr.put hdst st.le hv) st.wr (p.after st)
        · rename_i d e
          refine opX_sound hcall hix e sr.g sr.t r ?_
          intro d' hd
          refine ih (k + 1) φ w { s with tm := Tm.put' s.tm o.dst (.tuple []), df := d :: s.df } _ x s' hl' hr ⟨sr.g, ?_, ?_, ?_⟩ r p
          · exact TR.put (a := { a with defers := d' :: a.defers }) sr.t hdst sr.n undefR
          · simp only [defers_put, DRs]
            exact ⟨d', a.defers, rfl, hd, sr.d⟩
          · simp [sr.n]
        · rename_i v h' e
          simp only [Option.some.injEq, Prod.mk.injEq] at hr
          obtain ⟨rfl, rfl⟩ := hr
          refine opX_sound hcall hix e sr.g sr.t r ?_
          intro φ' w' v' st hv
          exact p φ' a w' st ⟨sr.g.mono st.le, sr.t.mono st.le, sr.d.mono st.le, sr.n⟩ v' hv
theorem region_sound {call : CallF} {id : Nat} {ops : Array Oper} {Q : Exit → Act → World → Prop} (hcall : CallS P G base call) {φ : Phi} {w : World} {s : St} {a : Act} {x : AEx} {s' : St}
    (hr : runOps call (compOps P G nt ops ops.toList) s = some (x, s')) (sr : SR G nt φ s a) (r : WR base φ s.h w) (p : Post G base nt φ s.h w x s' Q) : (Code.region id ops false).wp P Q a w := by
  apply wp_region
  have := runOps_sound (Q := Q) (nt := nt) hcall ops.toList 0 φ w s a x s' (by simp) hr sr r p
  rw [List.range_eq_range']
  simpa using this
end Go.AS

/- Regions whose order is drawn are sound (own work). -/
set_option linter.unusedSimpArgs false
set_option linter.unusedVariables false
namespace Go.AS
variable {P : Program} {G : Nat} {base nt : Nat}

/-! ### The last one of a kind -/
def LastOf (L p : Nat → Prop) (R : Nat → Prop) (R0 : Prop) : Prop := (∃ j, L j ∧ p j ∧ R j ∧ ∀ k, L k → j < k → ¬ p k) ∨ ((∀ k, L k → ¬ p k) ∧ R0)
theorem LastOf.meet {L L' p R S : Nat → Prop} {R0 S0 : Prop} (a : LastOf L p R R0) (b : LastOf L' p S S0) (e : ∀ k, p k → (L k ↔ L' k)) : (∃ j, L j ∧ p j ∧ R j ∧ S j) ∨ (R0 ∧ S0) := by
  rcases a with ⟨j, a1, a2, a3, a4⟩ | ⟨a1, a2⟩
  · rcases b with ⟨i, b1, b2, b3, b4⟩ | ⟨b1, b2⟩
    · left
      rcases Nat.lt_trichotomy j i with hlt | rfl | hlt
      · exact absurd b2 (a4 i ((e i b2).2 b1) hlt)
      · exact ⟨j, a1, a2, a3, b3⟩
      · exact absurd a2 (b4 j ((e j a2).1 a1) hlt)
    · exact absurd a2 (b1 j ((e j a2).1 a1))
  · rcases b with ⟨i, b1, b2, b3, b4⟩ | ⟨b1, b2⟩
    · exact absurd b2 (a1 i ((e i b2).2 b1))
    · exact .inr ⟨a2, b2⟩
theorem LastOf.addYes {L p R : Nat → Prop} {R0 : Prop} {i : Nat} (h1 : p i) (h2 : R i) (h3 : ∀ k, L k → i < k → ¬ p k) : LastOf (fun k => L k ∨ k = i) p R R0 :=
  .inl ⟨i, .inr rfl, h1, h2, fun k hk hlt => by
    rcases hk with hk | rfl
    · exact h3 k hk hlt
    · omega⟩
theorem LastOf.addNo {L p R : Nat → Prop} {R0 : Prop} {i : Nat} (h1 : ¬ p i) (a : LastOf L p R R0) : LastOf (fun k => L k ∨ k = i) p R R0 := by
  rcases a with ⟨j, a1, a2, a3, a4⟩ | ⟨a1, a2⟩
  · refine .inl ⟨j, .inl a1, a2, a3, fun k hk hlt => ?_⟩
    rcases hk with hk | rfl
    · exact a4 k hk hlt
    · exact h1
  · refine .inr ⟨fun k hk => ?_, a2⟩
    rcases hk with hk | rfl
    · exact a1 k hk
    · exact h1
theorem LastOf.mono {L p R R' : Nat → Prop} {R0 R0' : Prop} (a : LastOf L p R R0) (h1 : ∀ j, L j → R j → R' j) (h2 : R0 → R0') : LastOf L p R' R0' := by
  rcases a with ⟨j, a1, a2, a3, a4⟩ | ⟨a1, a2⟩
  · exact .inl ⟨j, a1, a2, h1 j a1 a3, a4⟩
  · exact .inr ⟨a1, h2 a2⟩
theorem LastOf.congr {L L' p R : Nat → Prop} {R0 : Prop} (a : LastOf L p R R0) (h : ∀ k, L k ↔ L' k) : LastOf L' p R R0 := by
  have : L = L' := funext fun k => propext (h k)
  exact this ▸ a
theorem least {p : Nat → Prop} : ∀ n, p n → ∃ k, k ≤ n ∧ p k ∧ ∀ j, j < k → ¬ p j := by
  intro n
  induction n using Nat.strongRecOn with
  | _ n ih =>
    intro hn
    by_cases h : ∃ j, j < n ∧ p j
    · obtain ⟨j, h1, h2⟩ := h
      obtain ⟨k, k1, k2, k3⟩ := ih j h1 h2
      exact ⟨k, by omega, k2, k3⟩
    · exact ⟨n, Nat.le_refl _, hn, fun j hj hp => h ⟨j, hj, hp⟩⟩

/-! ### What the compiled operations are -/
structure DsOK (P : Program) (G nt : Nat) (ops : Array Oper) (ds : List DO) : Prop where
  len : ds.length = ops.size
  io : ∀ (i : Nat) (d : DO), ds[i]? = some d → ∃ o, ops[i]? = some o ∧ d.o = compIO P G nt ops o
  rd : ∀ (i : Nat) (d : DO), ds[i]? = some d → d.rd = tmpsOf d.o.ix.opds ++ guardT d.o.guard
  kind : ∀ (i : Nat) (d : DO), ds[i]? = some d → d.eff = !(d.o.ix.pure || d.o.ix.look) ∧ d.lk = d.o.ix.look
  edge : ∀ (i : Nat) (o : Oper) (e : Edge), ops[i]? = some o → e ∈ o.after.toList → Region.binds .any e = true → e.on < i
  pre : ∀ (i : Nat) (d : DO) (j : Nat), ds[i]? = some d → d.pre.testBit j = true → ∃ (o : Oper) (e : Edge), ops[i]? = some o ∧ e ∈ o.after.toList ∧ Region.binds .any e = true ∧ (e.on = j ∨ ∃ d' : DO, ds[e.on]? = some d' ∧ d'.pre.testBit j = true)
  pair : ∀ (j i : Nat) (c d : DO), j < i → ds[j]? = some c → ds[i]? = some d → pairOK j i c d = true
  lt : ∀ (i : Nat) (d : DO), ds[i]? = some d → d.late ≠ 0 → d.eff = true ∧ d.o.guard = none
  l1 : ∀ (i : Nat) (d : DO), ds[i]? = some d → d.late = 1 → ∃ t ty z, d.o.dst = some t ∧ d.o.ix = .newz ty z ∧ ∀ (k : Nat) (c : DO), ds[k]? = some c → (k ≠ i → c.o.dst ≠ some t) ∧ (t ∈ c.rd → ∀ (j : Nat) (q : DO), j < i → ds[j]? = some q → q.eff = true → c.pre.testBit j = true)
  l2 : ∀ (i : Nat) (d : DO), ds[i]? = some d → d.late = 2 → d.o.dst = none ∧ d.o.ix.isStore = true ∧ ∀ (k : Nat) (c : DO), ds[k]? = some c → (k ≠ i → c.late = 0) ∧
    (k < i → c.eff = true → d.pre.testBit k = false → ∀ (m : Nat) (p : DO), k < m → m < i → ds[m]? = some p → p.eff = false) ∧
    (c.lk = true → d.pre.testBit k = true ∨ ∀ (m : Nat) (p : DO), m < i → ds[m]? = some p → p.eff = true → d.pre.testBit m = false → c.pre.testBit m = true)
  l3 : ∀ (i : Nat) (d : DO), ds[i]? = some d → d.late = 0 ∨ d.late = 1 ∨ d.late = 2
theorem compOps_eq (ops : Array Oper) : ∀ l : List Oper, compOps P G nt ops l = l.map (compIO P G nt ops)
  | [] => rfl
  | o :: l => by
    have := compOps_eq ops l
    simp only [List.map_cons, ← this]
    rfl
theorem preM_bit (acc : List Nat) (j : Nat) : ∀ l : List Edge, (preM acc l).testBit j = true → ∃ e ∈ l, Region.binds .any e = true ∧ (e.on = j ∨ (acc.getD e.on 0).testBit j = true)
  | [], h => by simp [preM] at h
  | e :: l, h => by
    simp only [preM, List.foldr_cons] at h
    split at h
    · rename_i hb
      have hl : Nat.lor (Nat.lor (preM acc l) (2 ^ e.on)) (acc.getD e.on 0) = (preM acc l) ||| 2 ^ e.on ||| acc.getD e.on 0 := rfl
      change (Nat.lor (Nat.lor (preM acc l) (2 ^ e.on)) (acc.getD e.on 0)).testBit j = true at h
      rw [hl, Nat.testBit_or, Nat.testBit_or, Bool.or_eq_true, Bool.or_eq_true, Nat.testBit_two_pow, decide_eq_true_eq] at h
      rcases h with (h | h) | h
      · obtain ⟨x, k1, k2, k3⟩ := preM_bit acc j l h
        exact ⟨x, by simp [k1], k2, k3⟩
      · exact ⟨e, by simp, hb, .inl h⟩
      · exact ⟨e, by simp, hb, .inr h⟩
    · obtain ⟨x, k1, k2, k3⟩ := preM_bit acc j l h
      exact ⟨x, by simp [k1], k2, k3⟩
theorem edgesOK_spec : ∀ (os : List Oper) (ds : List DO) (i : Nat) (acc : List Nat), edgesOK i os ds acc = true → ∀ (k : Nat) o d, os[k]? = some o → ds[k]? = some d →
    (∀ e ∈ o.after.toList, Region.binds .any e = true → e.on < i + k) ∧ d.pre = preM (acc ++ (ds.take k).map (·.pre)) o.after.toList := by
  intro os
  induction os with
  | nil => intro ds i acc _ k o d h; simp at h
  | cons o os ih =>
    intro ds i acc h k o' d' ho hd
    cases ds with
    | nil => simp at hd
    | cons d ds =>
      simp only [edgesOK, Bool.and_eq_true, List.all_eq_true, Bool.or_eq_true, Bool.not_eq_true'] at h
      obtain ⟨⟨h1, h2⟩, h3⟩ := h
      cases k with
      | zero =>
        simp only [List.getElem?_cons_zero, Option.some.injEq] at ho hd
        subst ho; subst hd
        refine ⟨fun e he hb => ?_, by simpa using h2⟩
        rcases h1 e he with hc | hc
        · rw [hb] at hc; cases hc
        · have := Nat.le_of_ble_eq_true hc
          omega
      | succ k =>
        simp only [List.getElem?_cons_succ] at ho hd
        obtain ⟨k1, k2⟩ := ih ds (i + 1) (acc ++ [d.pre]) h3 k o' d' ho hd
        refine ⟨fun e he hb => by have := k1 e he hb; omega, ?_⟩
        rw [k2]
        simp [List.take_succ_cons]
theorem pairsOK_spec : ∀ (ds : List DO) (j : Nat) (c : DO) (i : Nat), pairsOK j c i ds = true → ∀ (k : Nat) d, ds[k]? = some d → pairOK j (i + k) c d = true := by
  intro ds
  induction ds with
  | nil => intro j c i _ k d h; simp at h
  | cons x ds ih =>
    intro j c i h k d hd
    simp only [pairsOK, Bool.and_eq_true] at h
    cases k with
    | zero =>
      simp only [List.getElem?_cons_zero, Option.some.injEq] at hd
      subst hd
      exact h.1
    | succ k =>
      have := ih j c (i + 1) h.2 k d (by simpa using hd)
      rwa [show i + 1 + k = i + (k + 1) by omega] at this
theorem allPairs_spec : ∀ (ds : List DO) (b : Nat), allPairs b ds = true → ∀ (j i : Nat) c d, j < i → ds[j]? = some c → ds[i]? = some d → pairOK (b + j) (b + i) c d = true := by
  intro ds
  induction ds with
  | nil => intro b _ j i c d _ h; simp at h
  | cons x ds ih =>
    intro b h j i c d hlt hc hd
    simp only [allPairs, Bool.and_eq_true] at h
    cases i with
    | zero => omega
    | succ i =>
      cases j with
      | zero =>
        simp only [List.getElem?_cons_zero, Option.some.injEq, List.getElem?_cons_succ] at hc hd
        subst hc
        have := pairsOK_spec ds b x (b + 1) h.1 i d hd
        rwa [show b + 1 + i = b + (i + 1) by omega] at this
      | succ j =>
        have := ih (b + 1) h.2 j i c d (by omega) (by simpa using hc) (by simpa using hd)
        rwa [show b + 1 + j = b + (j + 1) by omega, show b + 1 + i = b + (i + 1) by omega] at this
theorem lateAll_spec {ds : List DO} (h : lateAll ds = true) : (∀ (i : Nat) (d : DO), ds[i]? = some d → d.late ≠ 0 → d.eff = true ∧ d.o.guard = none) ∧ ∀ (i : Nat) (d : DO), ds[i]? = some d → lateOne ds i d = true := by
  unfold lateAll at h
  rw [List.all_eq_true] at h
  have key : ∀ (i : Nat) (d : DO), ds[i]? = some d → (d.late = 0 ∨ (d.eff = true ∧ d.o.guard = none)) ∧ lateOne ds i d = true := by
    intro i d hd
    have hi := (List.getElem?_eq_some_iff.1 hd).1
    have := h i (List.mem_range.2 hi)
    rw [hd] at this
    simp only [Bool.and_eq_true, Bool.or_eq_true, Nat.beq_eq] at this
    refine ⟨?_, this.2⟩
    rcases this.1 with h1 | ⟨h1, h2⟩
    · exact .inl h1
    · refine .inr ⟨h1, ?_⟩
      cases hg : d.o.guard with
      | none => rfl
      | some p => rw [hg] at h2; cases h2
  exact ⟨fun i d hd hl => (key i d hd).1.resolve_left hl, fun i d hd => (key i d hd).2⟩
theorem range_all {n : Nat} {p : Nat → Bool} (h : (List.range n).all p = true) : ∀ k, k < n → p k = true := fun k hk => List.all_eq_true.1 h k (List.mem_range.2 hk)
theorem lateOne_1 {ds : List DO} {i : Nat} {d : DO} (h : lateOne ds i d = true) (h1 : d.late = 1) : ∃ t ty z, d.o.dst = some t ∧ d.o.ix = .newz ty z ∧ ∀ (k : Nat) (c : DO), ds[k]? = some c → (k ≠ i → c.o.dst ≠ some t) ∧ (t ∈ c.rd → ∀ (j : Nat) (q : DO), j < i → ds[j]? = some q → q.eff = true → c.pre.testBit j = true) := by
  unfold lateOne at h
  rw [h1] at h
  simp only at h
  cases hd : d.o.dst with
  | none => rw [hd] at h; cases h
  | some t =>
    rw [hd] at h
    simp only [Bool.and_eq_true] at h
    obtain ⟨hx, h⟩ := h
    have hix : ∃ ty z, d.o.ix = .newz ty z := by
      cases he : d.o.ix with
      | newz ty z => exact ⟨ty, z, rfl⟩
      | _ => rw [he] at hx; cases hx
    obtain ⟨ty, z, hix⟩ := hix
    refine ⟨t, ty, z, rfl, hix, fun k c hc => ?_⟩
    have hk := (List.getElem?_eq_some_iff.1 hc).1
    have := range_all h k hk
    rw [hc] at this
    simp only [Bool.and_eq_true, Bool.or_eq_true, Nat.beq_eq] at this
    refine ⟨fun hne e => ?_, fun ht j q hj hq he => ?_⟩
    · rcases this.1 with h2 | h2
      · exact hne h2
      · rw [e] at h2; simp [notEq] at h2
    · rcases this.2 with h2 | h2
      · simp only [notIn, Bool.not_eq_true', List.any_eq_false] at h2
        exact absurd (by simp) (h2 t ht)
      · have := range_all h2 j hj
        rw [hq] at this
        simp only [Bool.or_eq_true, Bool.not_eq_true'] at this
        rcases this with h3 | h3
        · rw [he] at h3; cases h3
        · exact h3
theorem lateOne_2 {ds : List DO} {i : Nat} {d : DO} (h : lateOne ds i d = true) (h0 : d.late ≠ 0) (h1 : d.late ≠ 1) : d.late = 2 ∧ d.o.dst = none ∧ d.o.ix.isStore = true ∧ ∀ (k : Nat) (c : DO), ds[k]? = some c → (k ≠ i → c.late = 0) ∧
    (k < i → c.eff = true → d.pre.testBit k = false → ∀ (m : Nat) (p : DO), k < m → m < i → ds[m]? = some p → p.eff = false) ∧
    (c.lk = true → d.pre.testBit k = true ∨ ∀ (m : Nat) (p : DO), m < i → ds[m]? = some p → p.eff = true → d.pre.testBit m = false → c.pre.testBit m = true) := by
  unfold lateOne at h
  split at h
  · rename_i e; exact absurd e h0
  · rename_i e; exact absurd e h1
  · simp only [Bool.and_eq_true, Nat.beq_eq] at h
    obtain ⟨⟨h2, h3⟩, h4⟩ := h
    have hdst : d.o.dst = none ∧ d.o.ix.isStore = true := by
      cases hd : d.o.dst with
      | none => rw [hd] at h3; exact ⟨rfl, h3⟩
      | some t => rw [hd] at h3; cases h3
    refine ⟨h2, hdst.1, hdst.2, fun k c hc => ?_⟩
    have hk := (List.getElem?_eq_some_iff.1 hc).1
    have := range_all h4 k hk
    rw [hc] at this
    simp only [Bool.and_eq_true, Bool.or_eq_true, Nat.beq_eq, Bool.not_eq_true'] at this
    obtain ⟨⟨q1, q2⟩, q3⟩ := this
    refine ⟨fun hne => q1.resolve_left hne, fun hlt he hb m p hm1 hm2 hp => ?_, fun hl => ?_⟩
    · rcases q2 with (q2 | q2) | q2
      · have : Nat.ble (Nat.succ k) i = true := by rw [Nat.ble_eq]; omega
        rw [this, he] at q2; cases q2
      · rw [hb] at q2; cases q2
      · have := range_all q2 m hm2
        rw [hp] at this
        simp only [Bool.or_eq_true, Bool.not_eq_true'] at this
        rcases this with h5 | h5
        · have := Nat.le_of_ble_eq_true h5; omega
        · exact h5
    · rcases q3 with (q3 | q3) | q3
      · rw [hl] at q3; cases q3
      · exact .inl q3
      · refine .inr fun m p hm hp he hb => ?_
        have := range_all q3 m hm
        rw [hp] at this
        simp only [Bool.or_eq_true, Bool.not_eq_true'] at this
        rcases this with (h5 | h5) | h5
        · rw [he] at h5; cases h5
        · rw [hb] at h5; cases h5
        · exact h5
theorem compD_spec {ops : Array Oper} {ds : List DO} (h : compD P G nt ops = .any ds) : DsOK P G nt ops ds := by
  unfold compD at h
  simp only at h
  split at h
  · rename_i hc
    simp only [Bool.and_eq_true, Nat.beq_eq] at hc
    obtain ⟨⟨⟨h1, h2⟩, h4⟩, h3⟩ := hc
    injection h with hds
    have hget : ∀ i d, ds[i]? = some d → i < ops.size ∧ d = mkDO (preAll ops.toList []) (compOps P G nt ops ops.toList) i := by
      intro i d hd
      rw [← hds] at hd
      simp only [List.getElem?_map, Option.map_eq_some_iff] at hd
      obtain ⟨k, k1, k2⟩ := hd
      have hk := List.getElem?_eq_some_iff.1 k1
      obtain ⟨hk1, hk2⟩ := hk
      simp only [List.getElem_range] at hk2
      subst hk2
      rw [List.length_range, compOps_eq, List.length_map] at hk1
      exact ⟨by simpa using hk1, k2.symm⟩
    have hio : ∀ i, i < ops.size → ∃ o, ops[i]? = some o ∧ (compOps P G nt ops ops.toList)[i]? = some (compIO P G nt ops o) := by
      intro i hi
      refine ⟨ops[i], by simp [hi], ?_⟩
      rw [compOps_eq]
      simp [hi]
    rw [hds] at h1 h2 h3 h4
    obtain ⟨h5, h6⟩ := lateAll_spec h4
    refine ⟨h3, ?_, ?_, ?_, ?_, ?_, ?_, h5, fun i d hd hl => lateOne_1 (h6 i d hd) hl, fun i d hd hl => (lateOne_2 (h6 i d hd) (by omega) (by omega)).2, fun i d hd => by
      by_cases e0 : d.late = 0
      · exact .inl e0
      · by_cases e1 : d.late = 1
        · exact .inr (.inl e1)
        · exact .inr (.inr (lateOne_2 (h6 i d hd) e0 e1).1)⟩
    · intro i d hd
      obtain ⟨hi, rfl⟩ := hget i d hd
      obtain ⟨o, e1, e2⟩ := hio i hi
      exact ⟨o, e1, by simp [mkDO, e2]⟩
    · intro i d hd
      obtain ⟨hi, rfl⟩ := hget i d hd
      obtain ⟨o, e1, e2⟩ := hio i hi
      simp [mkDO, e2]
    · intro i d hd
      obtain ⟨hi, rfl⟩ := hget i d hd
      obtain ⟨o, e1, e2⟩ := hio i hi
      simp [mkDO, e2]
    · intro i o e ho he hb
      have hlt : i < ops.size := (Array.getElem?_eq_some_iff.1 ho).1
      have := (edgesOK_spec ops.toList ds 0 [] h1 i o ds[i] (by simpa using ho) (by simp [h3, hlt])).1 e he hb
      simpa using this
    · intro i d j hd hb
      obtain ⟨hi, _⟩ := hget i d hd
      have ho : ops[i]? = some ops[i] := by simp [hi]
      obtain ⟨k1, k2⟩ := edgesOK_spec ops.toList ds 0 [] h1 i ops[i] d (by simpa using ho) hd
      rw [k2] at hb
      obtain ⟨e, e1, e2, e3⟩ := preM_bit _ j _ hb
      refine ⟨ops[i], e, ho, e1, e2, ?_⟩
      rcases e3 with e3 | e3
      · exact .inl e3
      · right
        have hlt := k1 e e1 e2
        have hlen : e.on < ds.length := by omega
        refine ⟨ds[e.on], by simp [hlen], ?_⟩
        rw [List.getD_eq_getElem?_getD] at e3
        simp only [List.nil_append, List.getElem?_map, List.getElem?_take] at e3
        rw [if_pos (by omega)] at e3
        simpa [hlen] using e3
    · intro j i c d hlt hc hd
      have := allPairs_spec ds 0 h2 j i c d hlt hc hd
      simpa using this
  · cases h
end Go.AS

/- Regions whose order is drawn: the run, all its orders (own work). -/
set_option linter.unusedSimpArgs false
set_option linter.unusedVariables false
namespace Go.AS
variable {P : Program} {G : Nat} {base nt : Nat}

/-! ### The run in the order of the text -/
def AEnd.tm : AEnd → Tm
  | .done tm _ => tm
  | .pan tm _ _ _ => tm
def AEnd.h : AEnd → Heap
  | .done _ h => h
  | .pan _ h _ _ => h
def stT (rs : List Rc) (e : AEnd) (i : Nat) : Tm := match rs[i]? with
  | some r => r.tm
  | none => e.tm
def stH (rs : List Rc) (e : AEnd) (i : Nat) : Heap := match rs[i]? with
  | some r => r.h
  | none => e.h
def dstAt (ds : List DO) (k : Nat) : Option Nat := (ds[k]?).bind (·.o.dst)
def effAt (ds : List DO) (k : Nat) : Bool := match ds[k]? with
  | some d => d.eff
  | none => false
def StepR (call : CallF) (d : DO) (r : Rc) : Prop :=
  (r.w = false ∧ wantedA r.tm d.o.guard = some false ∧ r.v = .tuple [] ∧ r.h' = r.h) ∨ (r.w = true ∧ wantedA r.tm d.o.guard = some true ∧ opX call r.tm r.h d.o.ix = some (.val r.v r.h'))
structure Trc (call : CallF) (ds : List DO) (tm0 : Tm) (h0 : Heap) (rs : List Rc) (e : AEnd) : Prop where
  fin : match e with
    | .done .. => rs.length = ds.length
    | .pan tm h v h' => ∃ d : DO, ds[rs.length]? = some d ∧ d.pk = true ∧ wantedA tm d.o.guard = some true ∧ opX call tm h d.o.ix = some (.pan v h')
  step : ∀ (i : Nat) (r : Rc), rs[i]? = some r → ∃ d : DO, ds[i]? = some d ∧ StepR call d r
  temps : ∀ i t, i ≤ rs.length → LastOf (· < i) (fun k => dstAt ds k = some t) (fun j => ∃ r : Rc, rs[j]? = some r ∧ Tm.val (stT rs e i) t = r.v) (Tm.val (stT rs e i) t = Tm.val tm0 t)
  heaps : ∀ i, i ≤ rs.length → LastOf (· < i) (fun k => effAt ds k = true) (fun j => ∃ r : Rc, rs[j]? = some r ∧ stH rs e i = r.h') (stH rs e i = h0)
theorem quiet_heap {call : CallF} {tm : Tm} {h h' : Heap} {ix : IX} {v : AV} (hq : ix.pure = true ∨ ix.look = true) (e : opX call tm h ix = some (.val v h')) : h' = h ∧ ax tm h ix = some (.val v h) := by
  unfold opX at e
  split at e
  · rename_i v1 h1 e1
    rcases hq with hq | hq
    · obtain ⟨v2, k, _⟩ := pure_spec hq e1
      cases k; cases e; exact ⟨rfl, e1⟩
    · obtain ⟨v2, k⟩ := look_spec hq e1
      cases k; cases e; exact ⟨rfl, e1⟩
  · cases e
  · cases e
  · rename_i f args e1
    rcases hq with hq | hq
    · obtain ⟨v2, k, _⟩ := pure_spec hq e1; cases k
    · obtain ⟨v2, k⟩ := look_spec hq e1; cases k
  · cases e
theorem quiet_nopan {call : CallF} {tm : Tm} {h h' : Heap} {ix : IX} {v : AV} (hq : ix.pure = true ∨ ix.look = true) (e : opX call tm h ix = some (.pan v h')) : False := by
  unfold opX at e
  split at e
  · cases e
  · cases e
  · rename_i v1 e1
    rcases hq with hq | hq
    · obtain ⟨v2, k, _⟩ := pure_spec hq e1; cases k
    · obtain ⟨v2, k⟩ := look_spec hq e1; cases k
  · rename_i f args e1
    rcases hq with hq | hq
    · obtain ⟨v2, k, _⟩ := pure_spec hq e1; cases k
    · obtain ⟨v2, k⟩ := look_spec hq e1; cases k
  · cases e
theorem Trc.cons {call : CallF} {d : DO} {ds : List DO} {r : Rc} {rs : List Rc} {e : AEnd} (hs : StepR call d r) (hk : d.eff = false → d.o.ix.pure = true ∨ d.o.ix.look = true)
    (t : Trc call ds (Tm.put' r.tm d.o.dst r.v) r.h' rs e) : Trc call (d :: ds) r.tm r.h (r :: rs) e := {
  fin := by
    have := t.fin
    cases e with
    | done => simpa using this
    | pan => simpa using this
  step := fun i x hx => by
    cases i with
    | zero => simp only [List.getElem?_cons_zero, Option.some.injEq] at hx; subst hx; exact ⟨d, rfl, hs⟩
    | succ i => exact t.step i x (by simpa using hx)
  temps := fun i u hi => by
    cases i with
    | zero => exact .inr ⟨fun k hk => absurd hk (Nat.not_lt_zero k), by simp [stT]⟩
    | succ i =>
      have he : stT (r :: rs) e (i + 1) = stT rs e i := by simp [stT]
      have hd : ∀ k, dstAt (d :: ds) (k + 1) = dstAt ds k := fun k => by simp [dstAt]
      rw [he]
      rcases t.temps i u (by simpa using hi) with ⟨j, j1, j2, ⟨x, j3, j5⟩, j4⟩ | ⟨k1, k2⟩
      · refine .inl ⟨j + 1, Nat.succ_lt_succ j1, by simp only [hd]; exact j2, ⟨x, by simpa using j3, j5⟩, fun k hk hlt => ?_⟩
        cases k with
        | zero => omega
        | succ k => simp only [hd]; exact j4 k (Nat.lt_of_succ_lt_succ hk) (Nat.lt_of_succ_lt_succ hlt)
      · rw [val_put'] at k2
        by_cases hu : d.o.dst = some u
        · rw [if_pos hu] at k2
          refine .inl ⟨0, Nat.succ_pos i, by simpa [dstAt] using hu, ⟨r, rfl, k2⟩, fun k hk hlt => ?_⟩
          cases k with
          | zero => omega
          | succ k => simp only [hd]; exact k1 k (Nat.lt_of_succ_lt_succ hk)
        · rw [if_neg hu] at k2
          refine .inr ⟨fun k hk => ?_, k2⟩
          cases k with
          | zero => simpa [dstAt] using hu
          | succ k => simp only [hd]; exact k1 k (Nat.lt_of_succ_lt_succ hk)
  heaps := fun i hi => by
    cases i with
    | zero => exact .inr ⟨fun k hk => absurd hk (Nat.not_lt_zero k), by simp [stH]⟩
    | succ i =>
      have he : stH (r :: rs) e (i + 1) = stH rs e i := by simp [stH]
      have hd : ∀ k, effAt (d :: ds) (k + 1) = effAt ds k := fun k => by simp [effAt]
      rw [he]
      rcases t.heaps i (by simpa using hi) with ⟨j, j1, j2, ⟨x, j3, j5⟩, j4⟩ | ⟨k1, k2⟩
      · refine .inl ⟨j + 1, Nat.succ_lt_succ j1, by simp only [hd]; exact j2, ⟨x, by simpa using j3, j5⟩, fun k hk hlt => ?_⟩
        cases k with
        | zero => omega
        | succ k => simp only [hd]; exact j4 k (Nat.lt_of_succ_lt_succ hk) (Nat.lt_of_succ_lt_succ hlt)
      · by_cases hu : d.eff = true
        · refine .inl ⟨0, Nat.succ_pos i, by simpa [effAt] using hu, ⟨r, rfl, k2⟩, fun k hk hlt => ?_⟩
          cases k with
          | zero => omega
          | succ k => simp only [hd]; exact k1 k (Nat.lt_of_succ_lt_succ hk)
        · refine .inr ⟨fun k hk => ?_, ?_⟩
          · cases k with
            | zero => simpa [effAt] using hu
            | succ k => simp only [hd]; exact k1 k (Nat.lt_of_succ_lt_succ hk)
          · rw [k2]
            rcases hs with ⟨_, _, _, hh⟩ | ⟨_, _, hh⟩
            · exact hh
            · exact (quiet_heap (hk (by simpa using hu)) hh).1 }
theorem consR_some {r : Rc} {x : Option (List Rc × AEnd)} {rs : List Rc} {e : AEnd} (h : consR r x = some (rs, e)) : ∃ rs', x = some (rs', e) ∧ rs = r :: rs' := by
  cases x with
  | none => simp [consR] at h
  | some p =>
    obtain ⟨l, e'⟩ := p
    simp only [consR, Option.some.injEq, Prod.mk.injEq] at h
    obtain ⟨rfl, rfl⟩ := h
    exact ⟨l, rfl, rfl⟩
theorem runAny_trc {call : CallF} : ∀ (ds : List DO) (tm : Tm) (h : Heap) (rs : List Rc) (e : AEnd), (∀ d ∈ ds, d.eff = false → d.o.ix.pure = true ∨ d.o.ix.look = true) →
    runAny call ds tm h = some (rs, e) → Trc call ds tm h rs e := by
  intro ds
  induction ds with
  | nil =>
    intro tm h rs e _ hr
    simp only [runAny, Option.some.injEq, Prod.mk.injEq] at hr
    obtain ⟨rfl, rfl⟩ := hr
    exact ⟨rfl, fun i r hr => by simp at hr, fun i t hi => .inr ⟨fun k hk => by simp at hi; omega, by simp [stT, AEnd.tm]⟩, fun i hi => .inr ⟨fun k hk => by simp at hi; omega, by simp [stH, AEnd.h]⟩⟩
  | cons d ds ih =>
    intro tm h rs e hk hr
    have hk' : ∀ d ∈ ds, d.eff = false → d.o.ix.pure = true ∨ d.o.ix.look = true := fun x hx => hk x (by simp [hx])
    simp only [runAny] at hr
    split at hr
    · cases hr
    · rename_i hw
      obtain ⟨rs', h1, rfl⟩ := consR_some hr
      exact Trc.cons (r := ⟨tm, h, .tuple [], h, false⟩) (.inl ⟨rfl, hw, rfl, rfl⟩) (hk d (by simp)) (ih _ _ _ _ hk' h1)
    · rename_i hw
      split at hr
      · rename_i v h' ho
        obtain ⟨rs', h1, rfl⟩ := consR_some hr
        exact Trc.cons (r := ⟨tm, h, v, h', true⟩) (.inr ⟨rfl, hw, ho⟩) (hk d (by simp)) (ih _ _ _ _ hk' h1)
      · rename_i v h' ho
        split at hr
        · rename_i hp
          simp only [Option.some.injEq, Prod.mk.injEq] at hr
          obtain ⟨rfl, rfl⟩ := hr
          exact ⟨⟨d, rfl, hp, hw, ho⟩, fun i r hr => by simp at hr, fun i t hi => .inr ⟨fun k hk => by simp at hi; omega, by simp [stT, AEnd.tm]⟩, fun i hi => .inr ⟨fun k hk => by simp at hi; omega, by simp [stH, AEnd.h]⟩⟩
        · cases hr
      · cases hr
theorem chkAll_spec (all : List Rc) : ∀ (ds : List DO) (rs : List Rc) (b : Nat), chkAll all b ds rs = true → ∀ (i : Nat) (d : DO) (r : Rc), ds[i]? = some d → rs[i]? = some r → d.lk = true → r.w = true →
    ∀ j ∈ d.chk, ∀ c : Rc, all[j]? = some c → sameAt r.tm (Bool.rec c.h' c.h (Nat.ble (Nat.succ j) (b + i))) d.o.ix r.v = true := by
  intro ds
  induction ds with
  | nil => intro rs b _ i d r h; simp at h
  | cons x ds ih =>
    intro rs b h i d r hd hr hl hw j hj c hc
    cases rs with
    | nil => simp at hr
    | cons y rs =>
      simp only [chkAll, Bool.and_eq_true, Bool.or_eq_true, Bool.not_eq_true', List.all_eq_true] at h
      cases i with
      | zero =>
        simp only [List.getElem?_cons_zero, Option.some.injEq] at hd hr
        subst hd; subst hr
        rcases h.1 with (k | k) | k
        · rw [hl] at k; cases k
        · rw [hw] at k; cases k
        · have := k j hj
          simp only [chkOne, hc] at this
          exact this
      | succ i =>
        have := ih rs (b + 1) h.2 i d r (by simpa using hd) (by simpa using hr) hl hw j hj c hc
        rwa [show b + 1 + i = b + (i + 1) by omega] at this
end Go.AS

/- Regions whose order is drawn: every order leaves what the text's order leaves; what may be done early (own work). -/
set_option linter.unusedSimpArgs false
set_option linter.unusedVariables false
namespace Go.AS
variable {P : Program} {G : Nat} {base nt : Nat}

/-! ### Stores to different blocks change places -/
theorem setP_comm {α : Type} (u v : Option α) : ∀ (p q : List Bool) (t : Tr α), p ≠ q → Tr.setP q (Tr.setP p t u) v = Tr.setP p (Tr.setP q t v) u := by
  intro p
  induction p with
  | nil =>
    intro q t hne
    cases q with
    | nil => exact absurd rfl hne
    | cons b q => cases b <;> simp [Tr.setP, Tr.top, Tr.lft, Tr.rgt]
  | cons b p ih =>
    intro q t hne
    have s1 : ∀ (b : Bool) (p : List Bool) (t : Tr α) (v : Option α), Tr.setP (b :: p) t v = Bool.rec (.node t.top t.lft (Tr.setP p t.rgt v)) (.node t.top (Tr.setP p t.lft v) t.rgt) b := fun _ _ _ _ => rfl
    cases q with
    | nil => cases b <;> simp [Tr.setP, Tr.top, Tr.lft, Tr.rgt]
    | cons c q =>
      rw [s1, s1, s1, s1]
      cases b <;> cases c
      · have : p ≠ q := fun e => hne (by rw [e])
        simp [Tr.top, Tr.lft, Tr.rgt, ih q _ this]
      · simp [Tr.top, Tr.lft, Tr.rgt]
      · simp [Tr.top, Tr.lft, Tr.rgt]
      · have : p ≠ q := fun e => hne (by rw [e])
        simp [Tr.top, Tr.lft, Tr.rgt, ih q _ this]
theorem Heap.set_comm (h : Heap) {b c : Nat} (x y : AObj) (hne : b ≠ c) : (h.set b x).set c y = (h.set c y).set b x := by
  have hp : path b b ≠ path c c := fun e => hne (path_inj b b c c (Nat.le_refl _) (Nat.le_refl _) e)
  simp only [Heap.set, Tr.put]
  rw [setP_comm _ _ _ _ _ hp]
theorem storeA_get {h h' : Heap} {n : Nat} {p v : AV} (e : storeA h n p v = some h') : ∃ b o cs, p = .ptr b o ∧ h.wcells b = some cs ∧ (lenL v.cells = n ∧ o + n ≤ cs.length ∧ allOne v.cells = true) ∧ h' = h.set b (.cells false (putCells cs o v.cells)) := by
  unfold storeA at e
  split at e
  · rename_i b o
    split at e
    · rename_i cs hc
      split at e
      · rename_i hh
        simp only [Option.some.injEq] at e
        exact ⟨b, o, cs, rfl, hc, hh, e.symm⟩
      · cases e
    · cases e
  · cases e
theorem wcells_set {h : Heap} {b c : Nat} {x : AObj} (hne : b ≠ c) : (h.set b x).wcells c = h.wcells c := by
  simp only [Heap.wcells, Heap.get_set, hne, if_false]
theorem store_comm {h h' h2 : Heap} {n n2 b b2 o o2 : Nat} {v v2 : AV} (hne : b ≠ b2) (e1 : storeA h n (.ptr b o) v = some h') (e2 : storeA h' n2 (.ptr b2 o2) v2 = some h2) :
    ∃ h1, storeA h n2 (.ptr b2 o2) v2 = some h1 ∧ storeA h1 n (.ptr b o) v = some h2 := by
  obtain ⟨_, _, cs, p1, k1, k2, rfl⟩ := storeA_get e1
  cases p1
  obtain ⟨_, _, cs2, p2, m1, m2, rfl⟩ := storeA_get e2
  cases p2
  rw [wcells_set hne] at m1
  refine ⟨h.set b2 (.cells false (putCells cs2 o2 v2.cells)), by simp only [storeA, m1, if_pos m2], ?_⟩
  have : (h.set b2 (.cells false (putCells cs2 o2 v2.cells))).wcells b = some cs := by rw [wcells_set (Ne.symm hne)]; exact k1
  simp only [storeA, this, if_pos k2]
  rw [Heap.set_comm h _ _ (Ne.symm hne)]
theorem opX_store {call : CallF} {tm : Tm} {h h' : Heap} {ix : IX} {v : AV} (hs : ix.isStore = true) (e : opX call tm h ix = some (.val v h')) : ∃ n a x, ix = .store n a x ∧ v = .tuple [] ∧ storeA h n (ev tm a) (ev tm x) = some h' := by
  cases ix <;> simp [IX.isStore] at hs
  rename_i n a x
  refine ⟨n, a, x, rfl, ?_⟩
  simp only [opX, ax] at e
  cases hh : storeA h n (ev tm a) (ev tm x) with
  | none => simp [hh] at e
  | some h1 => simp only [hh, Option.map_some, Option.some.injEq, ORes.val.injEq] at e; exact ⟨e.1.symm, by rw [e.2]⟩
theorem opX_store_mk {call : CallF} {tm : Tm} {h h' : Heap} {n : Nat} {a x : Opd} (e : storeA h n (ev tm a) (ev tm x) = some h') : opX call tm h (.store n a x) = some (.val (.tuple []) h') := by
  simp only [opX, ax, e, Option.map_some]
/-- Two stores that write different blocks. -/
theorem opX_comm {call : CallF} {tm tm2 : Tm} {h h' h2 : Heap} {ix ix2 : IX} {v v2 : AV} (hs : ix.isStore = true) (hs2 : ix2.isStore = true) (ha : apartB (addrB tm2 ix2) (addrB tm ix) = true)
    (e1 : opX call tm h ix = some (.val v h')) (e2 : opX call tm2 h' ix2 = some (.val v2 h2)) : ∃ h1, opX call tm2 h ix2 = some (.val v2 h1) ∧ opX call tm h1 ix = some (.val v h2) := by
  obtain ⟨n, a, x, rfl, rfl, k1⟩ := opX_store hs e1
  obtain ⟨n2, a2, x2, rfl, rfl, k2⟩ := opX_store hs2 e2
  obtain ⟨b, o, cs, p1, _⟩ := storeA_get k1
  obtain ⟨b2, o2, cs2, p2, _⟩ := storeA_get k2
  simp only [addrB, p1, p2, apartB, Bool.not_eq_true'] at ha
  have hne : b ≠ b2 := fun e => by rw [e] at ha; simp at ha
  rw [p1] at k1; rw [p2] at k2
  obtain ⟨h1, q1, q2⟩ := store_comm hne k1 k2
  exact ⟨h1, opX_store_mk (by rw [p2]; exact q1), opX_store_mk (by rw [p1]; exact q2)⟩

/-! ### New memory that nothing tells of; that is told of later -/
theorem Step.garbage {φ : Phi} {h : Heap} {w w' : World} {obj : Obj} (r : WR base φ h w) (hh : w'.heap = w.heap.push obj) (ht : w'.tape = w.tape) (ho : w'.os = w.os) (hp : w'.output = w.output) : Step base φ h w φ h w' := by
  have hold : ∀ k, k < w.heap.size → w'.heap[k]? = w.heap[k]? := fun k hk => by
    rw [hh, Array.getElem?_push]; rw [if_neg (by omega)]
  have hsz : w.heap.size ≤ w'.heap.size := by rw [hh]; simp
  exact ⟨φ.le_refl, ⟨fun b m e => ⟨(r.dom b m e).1, Nat.lt_of_lt_of_le (r.dom b m e).2 hsz⟩, fun b o e => by
    obtain ⟨m, h1, h2, h3⟩ := r.live b o e
    exact ⟨m, h1, h2.keep φ.le_refl (hold _ (r.dom b m h1).2), h3⟩, r.sep, Nat.le_trans r.low hsz, fun b t c e => TagsKeep φ.le_refl (fun b m e => shape_of_heap (hold _ (r.dom b m e).2)) (r.tags b t c e)⟩,
    hsz, ht, ho, hp, fun k hk _ => hold k hk, fun k hk => shape_of_heap (hold k hk), fun b o m e hw hm _ => ⟨b, o, m, e, hw, hm, rfl⟩, fun b m e => .inl ⟨b, m, e, rfl⟩⟩
theorem Step.adopt {φ0 φ : Phi} {h0 h : Heap} {w0 w : World} {ty B : Nat} {z : List AV} {arr : Array Value} (st : Step base φ0 h0 w0 φ h w) (hB : w.heap[B]? = some (.cells arr ty (0, 0))) (hv : ∀ ψ : Phi, VRs ψ z arr.toList) (h1 : allOne z = true)
    (hlo : w0.heap.size ≤ B) (hbase : base ≤ w0.heap.size) (hno : ∀ b m, φ b = some m → m.cb ≠ B) : Step base φ0 h0 w0 (φ.upd h.nx ⟨B, 0, 0, 0, z.length⟩) ((h.push (.cells false z)).tag h.nx ty z.length) w := by
  have r := st.wr
  have hle := Phi.le_upd (m := (⟨B, 0, 0, 0, z.length⟩ : BM)) r.fresh.2
  have hBs : B < w.heap.size := (Array.getElem?_eq_some_iff.1 hB).1
  have hlen : arr.size = z.length := by simpa using (hv φ).length
  have hcell : ∀ j, w.cell? ⟨B, j, none⟩ = arr[j]? := fun j => by simp [World.cell?, hB]
  have hfr : ∀ j, w.frozen? ⟨B, j, none⟩ = false := fun j => by simp [World.frozen?, hB]
  have hsh : w.shape? B = some (ty, arr.size) := by simp only [World.shape?, hB]
  refine ⟨Phi.le_trans st.le hle, ⟨?_, ?_, ?_, r.low, ?_⟩, st.size, st.tape, st.os, st.output, st.kept, st.shape, ?_, ?_⟩
  · intro b n e
    unfold Phi.upd at e
    by_cases hb : b = h.nx
    · simp only [hb, if_true, Option.some.injEq] at e; subst e
      simp only [Heap.tag, Heap.nx_push]; exact ⟨by omega, hBs⟩
    · simp only [hb, if_false] at e
      have := r.dom b n e
      simp only [Heap.tag, Heap.nx_push]; omega
  · intro b p e
    have e' : (h.push (.cells false z)).get b = some p := e
    rw [Heap.get_push] at e'
    by_cases hb : h.nx = b
    · simp only [hb, if_true, Option.some.injEq] at e'; subst e'
      subst hb
      refine ⟨⟨B, 0, 0, 0, z.length⟩, by simp, ⟨rfl, fun j a e2 => ?_, fun _ j hj => ?_, fun j a e2 => allOne_mem h1 a (List.mem_of_getElem? e2)⟩, fun _ => Nat.le_trans hbase hlo⟩
      · obtain ⟨v, e3, e4⟩ := (hv (φ.upd h.nx ⟨B, 0, 0, 0, z.length⟩)).get _ _ e2
        refine ⟨v, ?_, e4, e4.oneCell (allOne_mem h1 a (List.mem_of_getElem? e2))⟩
        simp only [Nat.zero_add, hcell]
        rw [← Array.getElem?_toList]; exact e3
      · simp only at hj
        simp only [Nat.zero_add]
        exact ⟨by rw [hcell]; simp; omega, hfr j⟩
    · simp only [hb, if_false] at e'
      obtain ⟨n, k1, k2, k3⟩ := r.live b p e'
      exact ⟨n, hle _ _ k1, k2.keep hle rfl, k3⟩
  · intro b b' p p' n n' e e' hne hw f f'
    have e1 : (h.push (.cells false z)).get b = some p := e
    have e2 : (h.push (.cells false z)).get b' = some p' := e'
    rw [Heap.get_push] at e1 e2
    unfold Phi.upd at f f'
    by_cases hb : h.nx = b
    · subst hb
      have hb2 : ¬ b' = h.nx := fun e => hne e.symm
      simp only [if_true, Option.some.injEq] at f; subst f
      simp only [hb2, if_false] at f'
      exact fun e => hno b' n' f' e.symm
    · have hb1 : ¬ b = h.nx := fun e => hb e.symm
      simp only [hb, if_false] at e1
      simp only [hb1, if_false] at f
      by_cases hb' : h.nx = b'
      · subst hb'
        simp only [if_true, Option.some.injEq] at f'; subst f'
        exact hno b n f
      · have hb2 : ¬ b' = h.nx := fun e => hb' e.symm
        simp only [hb', if_false] at e2
        simp only [hb2, if_false] at f'
        exact r.sep b b' p p' n n' e1 e2 hne hw f f'
  · intro b t c e
    simp only [Heap.tag, Tr.get_put] at e
    by_cases hb : h.nx = b
    · subst hb
      simp only [if_true, Option.some.injEq, Prod.mk.injEq] at e
      obtain ⟨rfl, rfl⟩ := e
      exact ⟨⟨B, 0, 0, 0, z.length⟩, arr.size, by simp, rfl, hsh, fun _ => hlen.symm⟩
    · simp only [hb, if_false] at e
      exact TagsKeep hle (fun _ _ _ => rfl) (r.tags b t c e)
  · intro b p n e hw f hlt
    have e1 : (h.push (.cells false z)).get b = some p := e
    rw [Heap.get_push] at e1
    unfold Phi.upd at f
    by_cases hb : h.nx = b
    · subst hb
      simp only [if_true, Option.some.injEq] at f; subst f
      simp only at hlt; omega
    · have hb1 : ¬ b = h.nx := fun e => hb e.symm
      simp only [hb, if_false] at e1
      simp only [hb1, if_false] at f
      exact st.own b p n e1 hw f hlt
  · intro b n e
    unfold Phi.upd at e
    by_cases hb : b = h.nx
    · simp only [hb, if_true, Option.some.injEq] at e; subst e; exact .inr hlo
    · simp only [hb, if_false] at e; exact st.img b n e

/-! ### What is known along the way -/
def PendB (φ : Phi) (w0 w : World) (a : Act) (t ty : Nat) (z : List AV) (B : Nat) : Prop :=
  a.tmps.getD t undef = .pointer (some ⟨B, 0, none⟩) ∧ (∃ arr : Array Value, w.heap[B]? = some (.cells arr ty (0, 0)) ∧ (∀ ψ : Phi, VRs ψ z arr.toList) ∧ allOne z = true) ∧ w0.heap.size ≤ B ∧ ∀ b m, φ b = some m → m.cb ≠ B
theorem PendB.keep {φ φ' : Phi} {w0 w w' : World} {a a' : Act} {t ty : Nat} {z : List AV} {B : Nat} {H H' : Heap} (p : PendB φ w0 w a t ty z B) (st : Step base φ H w φ' H' w') (ht : a'.tmps.getD t undef = a.tmps.getD t undef) : PendB φ' w0 w' a' t ty z B := by
  obtain ⟨p1, ⟨arr, p2, p3, p4⟩, p5, p6⟩ := p
  have hBs : B < w.heap.size := (Array.getElem?_eq_some_iff.1 p2).1
  refine ⟨by rw [ht]; exact p1, ⟨arr, by rw [st.kept B hBs fun b o m _ _ e => p6 b m e]; exact p2, p3, p4⟩, p5, fun b m e h => ?_⟩
  rcases st.img b m e with ⟨b0, m0, k1, k2⟩ | hlt
  · exact p6 b0 m0 k1 (k2.trans h)
  · omega
def PSt (base : Nat) (call : CallF) (ds : List DO) (rs : List Rc) (e : AEnd) (s : St) (φ0 : Phi) (w0 : World) (L A : Nat → Prop) (φ : Phi) (w : World) : Prop :=
  ∃ (i : Nat) (d : DO) (r : Rc) (j : Nat) (H1 : Heap), L i ∧ ¬ A i ∧ ds[i]? = some d ∧ d.late = 2 ∧ rs[i]? = some r ∧ j < i ∧ effAt ds j = true ∧ d.pre.testBit j = false ∧ ¬ L j ∧ (∀ k, k < j → effAt ds k = true → A k) ∧
    opX call r.tm (stH rs e j) d.o.ix = some (.val r.v H1) ∧ Step base φ0 s.h w0 φ H1 w
def Nrm (base : Nat) (ds : List DO) (rs : List Rc) (s : St) (φ0 : Phi) (w0 : World) (L A : Nat → Prop) (φ : Phi) (w : World) : Prop :=
  (∀ (i : Nat) (d : DO), L i → ¬ A i → ds[i]? = some d → d.late ≠ 2) ∧ LastOf A (fun k => effAt ds k = true) (fun j => ∃ r : Rc, rs[j]? = some r ∧ Step base φ0 s.h w0 φ r.h' w) (Step base φ0 s.h w0 φ s.h w)
structure Inv (G base nt : Nat) (call : CallF) (ops : Array Oper) (ds : List DO) (rs : List Rc) (e : AEnd) (s : St) (φ0 : Phi) (w0 : World) (L A : Nat → Prop) (φ : Phi) (a : Act) (w : World) : Prop where
  g : GL G φ
  n : a.tmps.size = nt
  d : DRs φ s.df a.defers
  closed : ∀ (i : Nat) (o : Oper) (e : Edge), L i → ops[i]? = some o → e ∈ o.after.toList → Region.binds .any e = true → L e.on
  dom : ∀ i, L i → i < ds.length
  sub : ∀ i, A i → L i
  lt : ∀ i, A i → i < rs.length
  late : ∀ (i : Nat) (d : DO), L i → ¬ A i → ds[i]? = some d → d.late ≠ 0
  pfx : ∀ i, A i → effAt ds i = true → ∀ j, j < i → effAt ds j = true → A j
  temps : ∀ t, (∀ (i : Nat) (d : DO), L i → ¬ A i → ds[i]? = some d → d.o.dst ≠ some t) → LastOf A (fun k => dstAt ds k = some t) (fun j => ∃ r : Rc, rs[j]? = some r ∧ VR φ r.v (a.tmps.getD t undef)) (VR φ (Tm.val s.tm t) (a.tmps.getD t undef))
  heaps : Nrm base ds rs s φ0 w0 L A φ w ∨ PSt base call ds rs e s φ0 w0 L A φ w
  pend : ∃ Bl : Nat → Nat, (∀ (i : Nat) (d : DO) (t ty : Nat) (z : List AV), L i → ¬ A i → ds[i]? = some d → d.late = 1 → d.o.dst = some t → d.o.ix = .newz ty z → PendB φ w0 w a t ty z (Bl i)) ∧
    ∀ (i k : Nat) (d c : DO), L i → ¬ A i → ds[i]? = some d → d.late = 1 → L k → ¬ A k → ds[k]? = some c → c.late = 1 → Bl i = Bl k → i = k

section
variable {ops : Array Oper} {ds : List DO} {rs : List Rc} {s : St} {φ0 φ : Phi} {w0 w : World} {L A : Nat → Prop} {a : Act} {e : AEnd} {call : CallF}

/-- What is always done ahead of an operation is done when its own edges are. -/
theorem closed_pre (hd : DsOK P G nt ops ds) (hL : ∀ (i : Nat) (o : Oper) (e : Edge), L i → ops[i]? = some o → e ∈ o.after.toList → Region.binds .any e = true → L e.on) :
    ∀ (i : Nat) (o : Oper) (d : DO), ops[i]? = some o → ds[i]? = some d → (∀ e ∈ o.after.toList, Region.binds .any e = true → L e.on) → ∀ j, d.pre.testBit j = true → L j := by
  intro i
  induction i using Nat.strongRecOn with
  | _ i ih =>
    intro o d ho hdi he j hj
    obtain ⟨o', x, h1, h2, h3, h4⟩ := hd.pre i d j hdi hj
    rw [ho] at h1; cases h1
    have hx := he x h2 h3
    rcases h4 with rfl | ⟨d', h5, h6⟩
    · exact hx
    · have hlt := hd.edge i o x ho h2 h3
      have hs : x.on < ops.size := by
        have := (Array.getElem?_eq_some_iff.1 ho).1
        omega
      have ho' : ops[x.on]? = some ops[x.on] := by simp [hs]
      exact ih x.on hlt ops[x.on] d' ho' h5 (fun e he hb => hL x.on _ e hx ho' he hb) j h6
/-- What is always done ahead of what is done. -/
theorem Inv.done_pre (hd : DsOK P G nt ops ds) (v : Inv G base nt call ops ds rs e s φ0 w0 L A φ a w) {k j : Nat} {c : DO} (hc : ds[k]? = some c) (hl : L k) (hb : c.pre.testBit j = true) : L j := by
  have hs : k < ops.size := by
    have := (List.getElem?_eq_some_iff.1 hc).1
    rw [hd.len] at this; exact this
  have ho : ops[k]? = some ops[k] := by simp [hs]
  exact closed_pre hd v.closed k ops[k] c ho hc (fun e he hb => v.closed k _ e hl ho he hb) j hb
structure Rdy (ops : Array Oper) (L : Nat → Prop) (i : Nat) (o : Oper) : Prop where
  op : ops[i]? = some o
  un : ¬ L i
  edges : ∀ e ∈ o.after.toList, Region.binds .any e = true → L e.on
theorem pair_of {j i : Nat} {c d : DO} (hd : DsOK P G nt ops ds) (hlt : j < i) (hj : ds[j]? = some c) (hi : ds[i]? = some d) (hb : d.pre.testBit j = false) :
    (notIn c.o.dst d.rd = true ∧ notIn d.o.dst c.rd = true ∧ notEq c.o.dst d.o.dst = true) ∧ (c.eff = true → d.eff = true → d.late = 1 ∨ (d.late = 2 ∧ c.o.ix.isStore = true ∧ c.late = 0 ∧ c.o.dst = none)) ∧
    (c.eff = true → d.lk = true → j ∈ d.chk) ∧ (c.lk = true → d.eff = true → i ∈ c.chk) ∧ (c.pk = true → d.late = 1) := by
  have := hd.pair j i c d hlt hj hi
  unfold pairOK at this
  rw [hb, Bool.false_or] at this
  simp only [Bool.and_eq_true, Bool.or_eq_true, Bool.not_eq_true', Nat.beq_eq, List.any_eq_true, Bool.and_eq_false_iff] at this
  obtain ⟨⟨⟨⟨⟨⟨h1, h2⟩, h3⟩, h4⟩, h5⟩, h6⟩, h7⟩ := this
  refine ⟨⟨h1, h2, h3⟩, fun e1 e2 => ?_, fun e1 e2 => ?_, fun e1 e2 => ?_, fun e1 => ?_⟩
  · rcases h4 with (h4 | h4) | h4
    · rcases h4 with h4 | h4
      · rw [e1] at h4; cases h4
      · rw [e2] at h4; cases h4
    · exact .inl h4
    · refine .inr ⟨h4.1.1.1, h4.1.1.2, h4.1.2, ?_⟩
      have := h4.2
      cases hd : c.o.dst with
      | none => rfl
      | some t => rw [hd] at this; cases this
  · rcases h5 with (h5 | h5) | ⟨x, x1, x2⟩
    · rw [e1] at h5; cases h5
    · rw [e2] at h5; cases h5
    · subst x2; exact x1
  · rcases h6 with (h6 | h6) | ⟨x, x1, x2⟩
    · rw [e1] at h6; cases h6
    · rw [e2] at h6; cases h6
    · subst x2; exact x1
  · rcases h7 with h7 | h7
    · rw [e1] at h7; cases h7
    · exact h7
theorem notIn_spec {t : Nat} {l : List Nat} {x : Option Nat} (h : notIn x l = true) (hx : x = some t) : t ∉ l := by
  subst hx
  intro hm
  simp only [notIn, Bool.not_eq_true', List.any_eq_false] at h
  exact h t hm (by simp)
theorem notEq_spec {t : Nat} {x y : Option Nat} (h : notEq x y = true) (hx : x = some t) (hy : y = some t) : False := by
  subst hx; subst hy
  simp [notEq] at h
theorem dstAt_some {k t : Nat} (h : dstAt ds k = some t) : ∃ c : DO, ds[k]? = some c ∧ c.o.dst = some t := by
  unfold dstAt at h
  cases e : ds[k]? with
  | none => simp [e] at h
  | some c => exact ⟨c, rfl, by simpa [e] using h⟩
theorem effAt_some {k : Nat} (h : effAt ds k = true) : ∃ c : DO, ds[k]? = some c ∧ c.eff = true := by
  unfold effAt at h
  cases e : ds[k]? with
  | none => simp [e] at h
  | some c => exact ⟨c, rfl, by simpa [e] using h⟩
theorem effAt_mk {k : Nat} {c : DO} (hc : ds[k]? = some c) (h : c.eff = true) : effAt ds k = true := by simp [effAt, hc, h]

/-- Nothing is left behind: what isn't taken up waits for an effect ahead of it. -/
def Canon (ds : List DO) (rs : List Rc) (L A : Nat → Prop) : Prop := ∀ i, i < rs.length → L i → ¬ A i → ∃ j, j < i ∧ effAt ds j = true ∧ ¬ A j
theorem Inv.allA (cn : Canon ds rs L A) {i : Nat} (hi : i ≤ rs.length) (h : ∀ k, k < i → effAt ds k = true → L k) : ∀ k, k < i → effAt ds k = true → A k := by
  intro k
  induction k using Nat.strongRecOn with
  | _ k ih =>
    intro hk he
    rcases Classical.em (A k) with hA | hA
    · exact hA
    · obtain ⟨j, j1, j2, j3⟩ := cn k (by omega) (h k hk he) hA
      exact absurd (ih j j1 (by omega) j2) j3
/-- The first effect that isn't taken up isn't done. -/
theorem Inv.firstUn (cn : Canon ds rs L A) {f : Nat} (hf : f < rs.length) (hA : ¬ A f) (hm : ∀ k, k < f → effAt ds k = true → A k) : ¬ L f := by
  intro hL
  obtain ⟨j, j1, j2, j3⟩ := cn f hf hL hA
  exact j3 (hm j j1 j2)
/-- The place of the operation that panics isn't done. -/
theorem Inv.panNot (hd : DsOK P G nt ops ds) (v : Inv G base nt call ops ds rs e s φ0 w0 L A φ a w) (tr : Trc call ds s.tm s.h rs e) (hlt : rs.length < ds.length) : ¬ L rs.length ∧ effAt ds rs.length = true ∧ ∃ d : DO, ds[rs.length]? = some d ∧ d.pk = true ∧ d.late = 0 := by
  have hfin := tr.fin
  cases e with
  | done tm h => simp only at hfin; omega
  | pan tm h x h' =>
    obtain ⟨d, d1, d2, d3, d4⟩ := hfin
    have hl0 : d.late = 0 := by
      rcases hd.l3 _ d d1 with h0 | h0 | h0
      · exact h0
      · obtain ⟨t, ty, z, _, k, _⟩ := hd.l1 _ d d1 h0
        rw [k] at d4; simp [opX, ax] at d4
      · obtain ⟨_, k, _⟩ := hd.l2 _ d d1 h0
        exfalso
        cases hix : d.o.ix <;> rw [hix] at k <;> simp [IX.isStore] at k
        rw [hix] at d4
        simp only [opX, ax] at d4
        revert d4
        cases storeA h _ _ _ <;> simp
    have he : d.eff = true := by
      cases hef : d.eff
      · exfalso
        have hk := (hd.kind _ d d1).1
        rw [hef] at hk
        refine quiet_nopan (?_ : d.o.ix.pure = true ∨ d.o.ix.look = true) d4
        cases h1 : d.o.ix.pure
        · cases h2 : d.o.ix.look
          · simp [h1, h2] at hk
          · exact .inr rfl
        · exact .inl rfl
      · rfl
    refine ⟨fun hL => ?_, effAt_mk d1 he, d, d1, d2, hl0⟩
    rcases Classical.em (A rs.length) with hA | hA
    · have := v.lt _ hA; omega
    · exact v.late _ d hL hA d1 hl0
theorem Inv.len (hd : DsOK P G nt ops ds) (v : Inv G base nt call ops ds rs e s φ0 w0 L A φ a w) (tr : Trc call ds s.tm s.h rs e) {k : Nat} (hL : L k) (h : ∀ j, j < k → effAt ds j = true → L j) : k < rs.length := by
  rcases Nat.lt_or_ge k rs.length with hk | hk
  · exact hk
  · exfalso
    have hdl := v.dom k hL
    obtain ⟨p1, p2, _⟩ := v.panNot hd tr (by omega)
    rcases Nat.lt_or_eq_of_le hk with h1 | h1
    · exact p1 (h _ h1 p2)
    · rw [h1] at p1; exact p1 hL

/-- New memory that was laid early is taken up. -/
theorem Inv.adopt (hd : DsOK P G nt ops ds) (hb0 : base ≤ w0.heap.size) (v : Inv G base nt call ops ds rs e s φ0 w0 L A φ a w) (tr : Trc call ds s.tm s.h rs e) {k : Nat} {d : DO} (hdk : ds[k]? = some d) (hl : d.late = 1) (hL : L k) (hA : ¬ A k) (hk : k < rs.length)
    (hm : ∀ j, j < k → effAt ds j = true → A j) : ∃ φ', Inv G base nt call ops ds rs e s φ0 w0 L (fun j => A j ∨ j = k) φ' a w := by
  obtain ⟨t, ty, z, hdst, hix, hone⟩ := hd.l1 k d hdk hl
  have hrk : rs[k]? = some rs[k] := by simp [hk]
  generalize hrr : rs[k] = r at hrk
  have hef := (hd.lt k d hdk (by omega)).1
  have hgu := (hd.lt k d hdk (by omega)).2
  obtain ⟨d2, e1, hstep⟩ := tr.step k r hrk
  rw [hdk] at e1; cases e1
  have hop : opX call r.tm r.h d.o.ix = some (.val r.v r.h') := by
    rcases hstep with ⟨_, s2, _⟩ | ⟨_, _, s3⟩
    · rw [hgu] at s2; simp [wantedA] at s2
    · exact s3
  rw [hix] at hop
  simp only [opX, ax, Option.some.injEq, ORes.val.injEq] at hop
  obtain ⟨hv, hh'⟩ := hop
  have hnrm : Nrm base ds rs s φ0 w0 L A φ w := by
    rcases v.heaps with h | ⟨i, c, _, _, _, q1, q2, q3, q4, _⟩
    · exact h
    · have := ((hd.l2 i c q3 q4).2.2 k d hdk).1
      by_cases hki : k = i
      · subst hki; rw [hdk] at q3; cases q3; omega
      · have := this hki; omega
  have hafter : ∀ m, A m → effAt ds m = true → m < k := by
    intro m hAm hem
    rcases Nat.lt_trichotomy m k with h | h | h
    · exact h
    · subst h; exact absurd hAm hA
    · exact absurd (v.pfx m hAm hem k h (effAt_mk hdk hef)) hA
  have hst : Step base φ0 s.h w0 φ r.h w := by
    have hm2 := hnrm.2.meet (tr.heaps k (by omega)) (fun m hem => ⟨fun h => hafter m h hem, fun h => hm m h hem⟩)
    have hsk : stH rs e k = r.h := by simp [stH, hrk]
    rw [hsk] at hm2
    rcases hm2 with ⟨j, _, _, ⟨x, r1, r2⟩, ⟨x', r3, r4⟩⟩ | ⟨k1, k2⟩
    · rw [r1] at r3; cases r3
      rw [r4]; exact r2
    · rw [k2]; exact k1
  obtain ⟨Bl, hp1, hp2⟩ := v.pend
  obtain ⟨b1, ⟨arr, b2, b3, b4⟩, b5, b6⟩ := hp1 k d t ty z hL hA hdk hl hdst hix
  have hst' := Step.adopt hst b2 b3 b4 b5 hb0 b6
  have hle := Phi.le_upd (m := (⟨Bl k, 0, 0, 0, z.length⟩ : BM)) hst.wr.fresh.2
  refine ⟨φ.upd r.h.nx ⟨Bl k, 0, 0, 0, z.length⟩, ?_⟩
  exact {
    g := v.g.mono hle
    n := v.n
    d := v.d.mono hle
    closed := v.closed
    dom := v.dom
    sub := fun i hi => by
      rcases hi with hi | rfl
      · exact v.sub i hi
      · exact hL
    lt := fun i hi => by
      rcases hi with hi | rfl
      · exact v.lt i hi
      · exact hk
    late := fun i c h1 h2 h3 => v.late i c h1 (fun h => h2 (.inl h)) h3
    pfx := fun i hi he j hj hej => by
      rcases hi with hi | rfl
      · exact .inl (v.pfx i hi he j hj hej)
      · exact .inl (hm j hj hej)
    temps := fun t' ht' => by
      have hdat : dstAt ds k = some t := by simp [dstAt, hdk, hdst]
      by_cases htt : t' = t
      · subst htt
        refine .addYes hdat ⟨r, hrk, ?_⟩ (fun m hAm hlt hmt => ?_)
        · rw [← hv, b1]
          simp only [VR]
          exact ⟨⟨Bl k, 0, 0, 0, z.length⟩, by simp, by simp⟩
        · obtain ⟨c, hc, hct⟩ := dstAt_some hmt
          exact (hone m c hc).1 (by omega) hct
      · refine .addNo (by rw [hdat]; simpa using fun h => htt h.symm) ((v.temps t' fun i c h1 h2 h3 h4 => ?_).mono (fun j _ hj => ?_) (fun hj => hj.mono hle))
        · by_cases hik : i = k
          · subst hik
            rw [hdk] at h3; cases h3
            rw [hdst] at h4; cases h4; exact htt rfl
          · exact ht' i c h1 (fun h => h.elim h2 hik) h3 h4
        · obtain ⟨y, y1, y2⟩ := hj
          exact ⟨y, y1, y2.mono hle⟩
    heaps := .inl ⟨fun i c h1 h2 h3 => hnrm.1 i c h1 (fun h => h2 (.inl h)) h3, .addYes (effAt_mk hdk hef) ⟨r, hrk, by rw [← hh']; exact hst'⟩ (fun m hAm hlt hem => by have := hafter m hAm hem; omega)⟩
    pend := ⟨Bl, fun i c t' ty' z' h1 h2 h3 h4 h5 h6 => by
        have hne : i ≠ k := fun h => h2 (.inr h)
        obtain ⟨c1, c2, c3, c4⟩ := hp1 i c t' ty' z' h1 (fun h => h2 (.inl h)) h3 h4 h5 h6
        refine ⟨c1, c2, c3, fun b m em hm => ?_⟩
        unfold Phi.upd at em
        by_cases hb : b = r.h.nx
        · simp only [hb, if_true, Option.some.injEq] at em; subst em
          exact hne (hp2 k i d c hL hA hdk hl h1 (fun h => h2 (.inl h)) h3 h4 hm).symm
        · simp only [hb, if_false] at em
          exact c4 b m em hm,
      fun i k' c c' h1 h2 h3 h4 h5 h6 h7 h8 => hp2 i k' c c' h1 (fun h => h2 (.inl h)) h3 h4 h5 (fun h => h6 (.inl h)) h7 h8⟩ }
/-- All that may be taken up is taken up. -/
theorem Inv.norm (hd : DsOK P G nt ops ds) (hb0 : base ≤ w0.heap.size) (v : Inv G base nt call ops ds rs e s φ0 w0 L A φ a w) (tr : Trc call ds s.tm s.h rs e) : ∃ A' φ', Inv G base nt call ops ds rs e s φ0 w0 L A' φ' a w ∧ Canon ds rs L A' := by
  have key : ∀ n, n ≤ rs.length → ∃ A' φ', Inv G base nt call ops ds rs e s φ0 w0 L A' φ' a w ∧ ∀ i, i < n → L i → ¬ A' i → ∃ j, j < i ∧ effAt ds j = true ∧ ¬ A' j := by
    intro n
    induction n with
    | zero => intro _; exact ⟨A, φ, v, fun i hi => absurd hi (Nat.not_lt_zero i)⟩
    | succ n ih =>
      intro hn
      obtain ⟨A1, φ1, v1, c1⟩ := ih (by omega)
      rcases Classical.em (L n ∧ ¬ A1 n ∧ ∀ j, j < n → effAt ds j = true → A1 j) with ⟨h1, h2, h3⟩ | hno
      · have hdl := v1.dom n h1
        have hdn : ds[n]? = some ds[n] := by simp [hdl]
        have hl1 : ds[n].late = 1 := by
          rcases hd.l3 n _ hdn with h | h | h
          · exact absurd h (v1.late n _ h1 h2 hdn)
          · exact h
          · exfalso
            rcases v1.heaps with hq | ⟨i, d, r, j, H1, q1, q2, q3, q4, q5, q6, q7, q8, q9, _⟩
            · exact hq.1 n _ h1 h2 hdn h
            · by_cases hin : i = n
              · subst hin
                exact q9 (v1.sub j (h3 j q6 q7))
              · have := ((hd.l2 i d q3 q4).2.2 n _ hdn).1 (fun h => hin h.symm)
                omega
        obtain ⟨φ2, v2⟩ := v1.adopt hd hb0 tr hdn hl1 h1 h2 (by omega) h3
        refine ⟨_, φ2, v2, fun i hi hL hA => ?_⟩
        have hin : i ≠ n := fun h => hA (.inr h)
        obtain ⟨j, j1, j2, j3⟩ := c1 i (by omega) hL (fun h => hA (.inl h))
        exact ⟨j, j1, j2, fun h => h.elim j3 (fun h => by omega)⟩
      · refine ⟨A1, φ1, v1, fun i hi hL hA => ?_⟩
        by_cases hin : i = n
        · subst hin
          rcases Classical.em (∃ j, j < i ∧ effAt ds j = true ∧ ¬ A1 j) with h | h
          · exact h
          · exact absurd ⟨hL, hA, fun j hj he => Classical.byContradiction fun hn => h ⟨j, hj, he, hn⟩⟩ hno
        · exact c1 i (by omega) hL hA
  obtain ⟨A', φ', h1, h2⟩ := key rs.length (Nat.le_refl _)
  exact ⟨A', φ', h1, h2⟩

/-- The temps that a ready operation reads hold what they hold in the text's order. -/
theorem Inv.reads (hd : DsOK P G nt ops ds) (v : Inv G base nt call ops ds rs e s φ0 w0 L A φ a w) (cn : Canon ds rs L A) (tr : Trc call ds s.tm s.h rs e) {i : Nat} {o : Oper} {d : DO} (rd : Rdy ops L i o) (hdi : ds[i]? = some d) (hi : i ≤ rs.length)
    (t : Nat) (ht : t ∈ d.rd) : VR φ (Tm.val (stT rs e i) t) (a.tmps.getD t undef) := by
  have hpre := closed_pre hd v.closed i o d rd.op hdi rd.edges
  have hnp : ∀ (k : Nat) (c : DO), L k → ¬ A k → ds[k]? = some c → c.o.dst ≠ some t := by
    intro k c h1 h2 h3 h4
    rcases hd.l3 k c h3 with h | h | h
    · exact v.late k c h1 h2 h3 h
    · obtain ⟨t', ty, z, k1, k2, k3⟩ := hd.l1 k c h3 h
      rw [h4] at k1; cases k1
      have hall : ∀ j, j < k → effAt ds j = true → L j := fun j hj he => by
        obtain ⟨q, q1, q2⟩ := effAt_some he
        exact hpre j ((k3 i d hdi).2 ht j q hj q1 q2)
      have hk := v.len hd tr h1 hall
      obtain ⟨j, j1, j2, j3⟩ := cn k hk h1 h2
      exact j3 (Inv.allA cn (Nat.le_of_lt hk) hall j j1 j2)
    · rw [(hd.l2 k c h3 h).1] at h4; cases h4
  have hm := (v.temps t hnp).meet (tr.temps i t hi) (fun k hk => ?_)
  · rcases hm with ⟨j, _, _, ⟨r, r1, r2⟩, ⟨r', r3, r4⟩⟩ | ⟨k1, k2⟩
    · rw [r1] at r3; cases r3
      rw [r4]; exact r2
    · rw [k2]; exact k1
  · obtain ⟨c, hc, hct⟩ := dstAt_some hk
    rcases Nat.lt_trichotomy k i with hlt | heq | hgt
    · refine ⟨fun _ => hlt, fun _ => ?_⟩
      cases hb : d.pre.testBit k
      · exact absurd ht (notIn_spec (pair_of hd hlt hc hdi hb).1.1 hct)
      · rcases Classical.em (A k) with h | h
        · exact h
        · exact absurd hct (hnp k c (hpre k hb) h hc)
    · subst heq
      exact ⟨fun h => absurd (v.sub _ h) rd.un, fun h => by omega⟩
    · refine ⟨fun hA => ?_, fun h => by omega⟩
      cases hb : c.pre.testBit i
      · exact absurd ht (notIn_spec (pair_of hd hgt hdi hc hb).1.2.1 hct)
      · exact absurd (v.done_pre hd hc (v.sub k hA) hb) rd.un
/-- The memory at hand when all effects ahead of a place are taken up, none behind it. -/
theorem Inv.atHeap (v : Inv G base nt call ops ds rs e s φ0 w0 L A φ a w) (hn : Nrm base ds rs s φ0 w0 L A φ w) (tr : Trc call ds s.tm s.h rs e) {i : Nat} (hi : i ≤ rs.length) (h1 : ∀ k, k < i → effAt ds k = true → A k) (h2 : ∀ k, i ≤ k → effAt ds k = true → ¬ A k) :
    Step base φ0 s.h w0 φ (stH rs e i) w := by
  have hm := hn.2.meet (tr.heaps i hi) (fun k hk => ⟨fun h => by
    rcases Nat.lt_or_ge k i with hh | hh
    · exact hh
    · exact absurd h (h2 k hh hk), fun h => h1 k h hk⟩)
  rcases hm with ⟨j, _, _, ⟨r, r1, r2⟩, ⟨r', r3, r4⟩⟩ | ⟨k1, k2⟩
  · rw [r1] at r3; cases r3
    rw [r4]; exact r2
  · rw [k2]; exact k1
/-- A ready effect that stands in its place finds all effects ahead of it done. -/
theorem Inv.effPre (hd : DsOK P G nt ops ds) (v : Inv G base nt call ops ds rs e s φ0 w0 L A φ a w) {i : Nat} {o : Oper} {d : DO} (rd : Rdy ops L i o) (hdi : ds[i]? = some d) (he : d.eff = true) (hl : d.late = 0) : ∀ k, k < i → effAt ds k = true → L k := by
  intro k hk hek
  obtain ⟨c, hc, hce⟩ := effAt_some hek
  cases hb : d.pre.testBit k
  · rcases (pair_of hd hk hc hdi hb).2.1 hce he with h | ⟨h, _⟩ <;> omega
  · exact closed_pre hd v.closed i o d rd.op hdi rd.edges k hb
/-- A ready look yields in the memory at hand what it yields in the text's order. -/
theorem Inv.atLook (hd : DsOK P G nt ops ds) (v : Inv G base nt call ops ds rs e s φ0 w0 L A φ a w) (hn : Nrm base ds rs s φ0 w0 L A φ w) (cn : Canon ds rs L A) (tr : Trc call ds s.tm s.h rs e) (ck : chkAll rs 0 ds rs = true) {i : Nat} {o : Oper} {d : DO} {r : Rc} (rd : Rdy ops L i o) (hdi : ds[i]? = some d) (hri : rs[i]? = some r)
    (hl : d.lk = true) (hw : r.w = true) (hx : ax r.tm r.h d.o.ix = some (.val r.v r.h)) :
    LastOf A (fun k => effAt ds k = true) (fun j => ∃ x : Rc, rs[j]? = some x ∧ Step base φ0 s.h w0 φ x.h' w ∧ ax r.tm x.h' d.o.ix = some (.val r.v x.h')) (Step base φ0 s.h w0 φ s.h w ∧ ax r.tm s.h d.o.ix = some (.val r.v s.h)) := by
  have hlook : d.o.ix.look = true := (hd.kind i d hdi).2 ▸ hl
  have hir : i < rs.length := (List.getElem?_eq_some_iff.1 hri).1
  have hst : stH rs e i = r.h := by simp [stH, hri]
  have hpre := closed_pre hd v.closed i o d rd.op hdi rd.edges
  -- a look at the memory ahead of an effect that is not yet done
  have hah : ∀ f, effAt ds f = true → f < i → ¬ L f → ax r.tm (stH rs e f) d.o.ix = some (.val r.v (stH rs e f)) := by
    intro f hf hlt hnf
    obtain ⟨c, hc, hce⟩ := effAt_some hf
    have hfr : f < rs.length := by omega
    have hcr : rs[f]? = some rs[f] := by simp [hfr]
    cases hb : d.pre.testBit f
    · have hin := (pair_of hd hlt hc hdi hb).2.2.1 hce hl
      have hs := chkAll_spec rs ds rs 0 ck i d r hdi hri hl hw f hin rs[f] hcr
      have hbl : Nat.ble (Nat.succ f) (0 + i) = true := by rw [Nat.ble_eq]; omega
      rw [hbl] at hs
      have := sameAt_sound hs hlook
      simp only [stH, hcr]
      exact this
    · exact absurd (hpre f hb) hnf
  rcases hn.2 with ⟨j, j1, j2, ⟨x, j3, j4⟩, j5⟩ | ⟨k1, k2⟩
  · refine .inl ⟨j, j1, j2, ⟨x, j3, j4, ?_⟩, j5⟩
    obtain ⟨c, hc, hce⟩ := effAt_some j2
    have hji : j ≠ i := fun e => rd.un (v.sub _ (e ▸ j1))
    rcases Nat.lt_or_gt_of_ne hji with hlt | hgt
    · by_cases hex : ∃ f, j < f ∧ f < i ∧ effAt ds f = true
      · obtain ⟨f0, hf0⟩ := hex
        obtain ⟨f, f1, ⟨f2, f3, f4⟩, f5⟩ := least (p := fun f => j < f ∧ f < i ∧ effAt ds f = true) f0 hf0
        have hnA : ¬ A f := fun hA => j5 f hA f2 f4
        have hnf : ¬ L f := Inv.firstUn cn (by omega) hnA (fun k hk hek => by
          rcases Nat.lt_trichotomy k j with h | h | h
          · exact v.pfx j j1 j2 k h hek
          · rw [h]; exact j1
          · exact absurd ⟨h, by omega, hek⟩ (f5 k hk))
        have hh := hah f f4 f3 hnf
        rcases tr.heaps f (by omega) with ⟨q, q1, q2, ⟨y, q3, q4⟩, q5⟩ | ⟨q1, q2⟩
        · have : q = j := by
            rcases Nat.lt_trichotomy q j with h | h | h
            · exact absurd j2 (q5 j f2 h)
            · exact h
            · exact absurd ⟨h, by omega, q2⟩ (f5 q q1)
          subst this
          rw [j3] at q3; cases q3
          rw [q4] at hh; exact hh
        · exact absurd j2 (q1 j f2)
      · rcases tr.heaps i (by omega) with ⟨q, q1, q2, ⟨y, q3, q4⟩, q5⟩ | ⟨q1, q2⟩
        · have : q = j := by
            rcases Nat.lt_trichotomy q j with h | h | h
            · exact absurd j2 (q5 j hlt h)
            · exact h
            · exact absurd ⟨q, h, q1, q2⟩ hex
          subst this
          rw [j3] at q3; cases q3
          rw [hst] at q4; rw [← q4]; exact hx
        · exact absurd j2 (q1 j hlt)
    · have hb : c.pre.testBit i = false := by
        cases hb : c.pre.testBit i
        · rfl
        · exact absurd (v.done_pre hd hc (v.sub j j1) hb) rd.un
      have hin := (pair_of hd hgt hdi hc hb).2.2.2.1 hl hce
      have hs := chkAll_spec rs ds rs 0 ck i d r hdi hri hl hw j hin x j3
      have hbl : Nat.ble (Nat.succ j) (0 + i) = false := by
        cases hq : Nat.ble (Nat.succ j) (0 + i)
        · rfl
        · have := Nat.le_of_ble_eq_true hq
          omega
      rw [hbl] at hs
      exact sameAt_sound hs hlook
  · refine .inr ⟨k1, k2, ?_⟩
    by_cases hex : ∃ f, f < i ∧ effAt ds f = true
    · obtain ⟨f0, hf0⟩ := hex
      obtain ⟨f, f1, ⟨f3, f4⟩, f5⟩ := least (p := fun f => f < i ∧ effAt ds f = true) f0 hf0
      have hh := hah f f4 f3 (Inv.firstUn cn (by omega) (fun hA => k1 f hA f4) (fun k hk hek => absurd ⟨by omega, hek⟩ (f5 k hk)))
      rcases tr.heaps f (by omega) with ⟨q, q1, q2, ⟨y, q3, q4⟩, q5⟩ | ⟨q1, q2⟩
      · exact absurd ⟨by omega, q2⟩ (f5 q q1)
      · rw [q2] at hh; exact hh
    · rcases tr.heaps i (by omega) with ⟨q, q1, q2, ⟨y, q3, q4⟩, q5⟩ | ⟨q1, q2⟩
      · exact absurd ⟨q, q1, q2⟩ hex
      · rw [hst] at q2; rw [← q2]; exact hx
end
end Go.AS

/- Regions whose order is drawn are sound (own work). -/
set_option linter.unusedSimpArgs false
set_option linter.unusedVariables false
namespace Go.AS
variable {P : Program} {G : Nat} {base nt : Nat}

/-- New memory is laid, whatever is known. -/
theorem compCall_newz {c : Call} {ty : Nat} {z : List AV} (hc : compCall P G c = some (.newz ty z)) : False := by
  unfold compCall at hc
  (repeat' split at hc) <;> first | (cases hc; done) | (simp at hc; done)
theorem newz_exec {o : Oper} {ty : Nat} {z : List AV} (hc : compIX P G o = some (.newz ty z)) (a : Act) (w : World) :
    ∃ arr : Array Value, (execOp a.eval o).run P w = .ok (.value (.pointer (some ⟨w.heap.size, 0, none⟩))) (w.alloc (.cells arr ty)) ∧ (∀ ψ : Phi, VRs ψ z arr.toList) ∧ allOne z = true := by
  unfold compIX at hc
  split at hc
  case h_4 e ho =>
    split at hc
    · rename_i z1 zs hz
      split at hc
      · rename_i hone
        simp only [Option.some.injEq, IX.newz.injEq] at hc
        obtain ⟨rfl, rfl⟩ := hc
        obtain ⟨v, k1, k2⟩ := zerosP_run (P := P) hz w
        exact ⟨v.cells, by simp [execOp, ho, Instr.alloc, k1, newVar, newRow], k2, hone⟩
      · cases hc
    · cases hc
  case h_29 c ho => exact (compCall_newz hc).elim
  all_goals ((repeat' split at hc) <;> first | (cases hc; done) | (simp at hc; done))

section
variable {ops : Array Oper} {ds : List DO} {rs : List Rc} {s : St} {φ0 φ : Phi} {w0 w : World} {L A : Nat → Prop} {a : Act} {e : AEnd} {call : CallF}

theorem put_other {dst : Option Nat} {x : Value} {t : Nat} (hdst : okDst nt dst = true) (hn : a.tmps.size = nt) (h : dst ≠ some t) : (a.put dst x).tmps.getD t undef = a.tmps.getD t undef := by
  cases hdd : dst with
  | none => rfl
  | some u =>
    rw [hdd] at hdst h
    rw [getD_put (by rw [hn]; exact okDst_lt hdst), if_neg (by simpa using h)]
/-- What waits keeps. -/
theorem Inv.pendKeep (hd : DsOK P G nt ops ds) (v : Inv G base nt call ops ds rs e s φ0 w0 L A φ a w) {i : Nat} {d : DO} (hdi : ds[i]? = some d) (un : ¬ L i) (hdst : okDst nt d.o.dst = true) {φ' : Phi} {H H' : Heap} {w' : World} {x : Value} (st : Step base φ H w φ' H' w') {A' : Nat → Prop} (hA : ∀ k, (L k ∨ k = i) → ¬ A' k → L k ∧ ¬ A k) :
    ∃ Bl : Nat → Nat, (∀ (k : Nat) (c : DO) (t ty : Nat) (z : List AV), (L k ∨ k = i) → ¬ A' k → ds[k]? = some c → c.late = 1 → c.o.dst = some t → c.o.ix = .newz ty z → PendB φ' w0 w' (a.put d.o.dst x) t ty z (Bl k)) ∧
      ∀ (k m : Nat) (c b : DO), (L k ∨ k = i) → ¬ A' k → ds[k]? = some c → c.late = 1 → (L m ∨ m = i) → ¬ A' m → ds[m]? = some b → b.late = 1 → Bl k = Bl m → k = m := by
  obtain ⟨Bl, p1, p2⟩ := v.pend
  refine ⟨Bl, fun k c t ty z h1 h2 h3 h4 h5 h6 => ?_, fun k m c b h1 h2 h3 h4 h5 h6 h7 h8 h9 => p2 k m c b (hA k h1 h2).1 (hA k h1 h2).2 h3 h4 (hA m h5 h6).1 (hA m h5 h6).2 h7 h8 h9⟩
  obtain ⟨q1, q2⟩ := hA k h1 h2
  refine (p1 k c t ty z q1 q2 h3 h4 h5 h6).keep st (put_other hdst v.n ?_)
  obtain ⟨t', _, _, k1, _, k3⟩ := hd.l1 k c h3 h4
  rw [h5] at k1; cases k1
  exact (k3 i d hdi).1 (fun h => un (h ▸ q1))

/-- After an operation that stands in its place. -/
theorem Inv.next (hd : DsOK P G nt ops ds) (v : Inv G base nt call ops ds rs e s φ0 w0 L A φ a w) {i : Nat} {o : Oper} {d : DO} {r : Rc} (rd : Rdy ops L i o) (hdi : ds[i]? = some d) (hri : rs[i]? = some r)
    (hdst : okDst nt d.o.dst = true) {φ' : Phi} {w' : World} {x : Value} {H H' : Heap} (st : Step base φ H w φ' H' w') (hx : VR φ' r.v x) (hpf : d.eff = true → ∀ j, j < i → effAt ds j = true → A j)
    (hh : Nrm base ds rs s φ0 w0 (fun k => L k ∨ k = i) (fun k => A k ∨ k = i) φ' w' ∨ PSt base call ds rs e s φ0 w0 (fun k => L k ∨ k = i) (fun k => A k ∨ k = i) φ' w') :
    Inv G base nt call ops ds rs e s φ0 w0 (fun k => L k ∨ k = i) (fun k => A k ∨ k = i) φ' (a.put d.o.dst x) w' := {
  g := v.g.mono st.le
  n := by simp [v.n]
  d := by simpa using v.d.mono st.le
  closed := fun k o' e' hk ho he hb => by
    rcases hk with hk | rfl
    · exact .inl (v.closed k o' e' hk ho he hb)
    · rw [rd.op] at ho; cases ho
      exact .inl (rd.edges e' he hb)
  dom := fun k hk => by
    rcases hk with hk | rfl
    · exact v.dom k hk
    · exact (List.getElem?_eq_some_iff.1 hdi).1
  sub := fun k hk => hk.imp (v.sub k) id
  lt := fun k hk => by
    rcases hk with hk | rfl
    · exact v.lt k hk
    · exact (List.getElem?_eq_some_iff.1 hri).1
  late := fun k c h1 h2 h3 => v.late k c (h1.resolve_right fun h => h2 (.inr h)) (fun h => h2 (.inl h)) h3
  pfx := fun k hk he j hj hej => by
    rcases hk with hk | rfl
    · exact .inl (v.pfx k hk he j hj hej)
    · have : d.eff = true := by simpa [effAt, hdi] using he
      exact .inl (hpf this j hj hej)
  temps := fun t ht => by
    have hdat : dstAt ds i = d.o.dst := by simp [dstAt, hdi]
    by_cases htd : d.o.dst = some t
    · refine .addYes (by rw [hdat]; exact htd) ⟨r, hri, ?_⟩ (fun k hk hlt hkt => ?_)
      · rw [htd] at hdst ⊢
        rw [getD_put (by rw [v.n]; exact okDst_lt hdst), if_pos rfl]; exact hx
      · obtain ⟨c, hc, hct⟩ := dstAt_some hkt
        cases hb : c.pre.testBit i
        · exact notEq_spec (pair_of hd hlt hdi hc hb).1.2.2 htd hct
        · exact rd.un (v.done_pre hd hc (v.sub k hk) hb)
    · have hsame := put_other (a := a) (x := x) hdst v.n htd
      refine .addNo (by rw [hdat]; exact htd) ((v.temps t fun k c h1 h2 h3 => ht k c (.inl h1) (fun h => h.elim h2 fun h => rd.un (h ▸ h1)) h3).mono (fun j _ hj => ?_) (fun hj => ?_))
      · obtain ⟨y, y1, y2⟩ := hj
        exact ⟨y, y1, by rw [hsame]; exact y2.mono st.le⟩
      · rw [hsame]; exact hj.mono st.le
  heaps := hh
  pend := v.pendKeep hd hdi rd.un hdst st fun k h1 h2 => ⟨h1.resolve_right fun h => h2 (.inr h), fun h => h2 (.inl h)⟩ }
/-- The memory at hand, and how what is known of it goes on. -/
theorem Nrm.now (hn : Nrm base ds rs s φ0 w0 L A φ w) {Z : Heap → Prop}
    (z : LastOf A (fun k => effAt ds k = true) (fun j => ∃ x : Rc, rs[j]? = some x ∧ Step base φ0 s.h w0 φ x.h' w ∧ Z x.h') (Step base φ0 s.h w0 φ s.h w ∧ Z s.h)) :
    ∃ hL, Step base φ0 s.h w0 φ hL w ∧ Z hL ∧ ∀ φ' w', Step base φ hL w φ' hL w' → LastOf A (fun k => effAt ds k = true) (fun j => ∃ r : Rc, rs[j]? = some r ∧ Step base φ0 s.h w0 φ' r.h' w') (Step base φ0 s.h w0 φ' s.h w') := by
  rcases z with ⟨j, j1, j2, ⟨x, j3, j4, j5⟩, j6⟩ | ⟨k1, k2, k3⟩
  · exact ⟨x.h', j4, j5, fun φ' w' st => .inl ⟨j, j1, j2, ⟨x, j3, j4.trans st⟩, j6⟩⟩
  · exact ⟨s.h, k2, k3, fun φ' w' st => .inr ⟨k1, k2.trans st⟩⟩

theorem count_set {n i : Nat} {listed : Array Bool} (hi : i < n) (hl : listed.getD i true = false) :
    (List.range n).countP (fun k => !(listed.setIfInBounds i true).getD k true) + 1 = (List.range n).countP (fun k => !listed.getD k true) := by
  have his : i < listed.size := by
    rcases Nat.lt_or_ge i listed.size with h | h
    · exact h
    · simp [Array.getD_eq_getD_getElem?, Array.getElem?_eq_none h] at hl
  have key : ∀ l : List Nat, l.Nodup → (i ∈ l → l.countP (fun k => !(listed.setIfInBounds i true).getD k true) + 1 = l.countP (fun k => !listed.getD k true)) ∧ (i ∉ l → l.countP (fun k => !(listed.setIfInBounds i true).getD k true) = l.countP (fun k => !listed.getD k true)) := by
    intro l
    induction l with
    | nil => intro _; simp
    | cons k l ih =>
      intro hnd
      rw [List.nodup_cons] at hnd
      obtain ⟨i1, i2⟩ := ih hnd.2
      by_cases hki : k = i
      · subst hki
        have h1 : (listed.setIfInBounds k true).getD k true = true := by simp [Array.getD_eq_getD_getElem?, his]
        refine ⟨fun _ => ?_, fun h => absurd (List.mem_cons_self ..) h⟩
        rw [List.countP_cons, List.countP_cons, h1, hl, i2 hnd.1]; simp
      · have h1 : (listed.setIfInBounds i true).getD k true = listed.getD k true := by
          simp [Array.getD_eq_getD_getElem?, Array.getElem?_setIfInBounds_ne (Ne.symm hki)]
        refine ⟨fun h => ?_, fun h => ?_⟩
        · have hm : i ∈ l := by
            rcases List.mem_cons.1 h with h | h
            · exact absurd h.symm hki
            · exact h
          rw [List.countP_cons, List.countP_cons, h1, ← i1 hm]; omega
        · have hm : i ∉ l := fun x => h (List.mem_cons_of_mem _ x)
          rw [List.countP_cons, List.countP_cons, h1, i2 hm]
  exact (key (List.range n) List.nodup_range).1 (List.mem_range.2 hi)

def resOf (s : St) : AEnd → AEx × St
  | .done tm h => (.normal, ⟨tm, s.df, h⟩)
  | .pan _ _ v h => (.pan v, ⟨.leaf, s.df, h⟩)

/-- When nothing is left. -/
theorem Inv.finish (hd : DsOK P G nt ops ds) (hb0 : base ≤ w0.heap.size) (tr : Trc call ds s.tm s.h rs e) {Q : Exit → Act → World → Prop} (p : Post G base nt φ0 s.h w0 (resOf s e).1 (resOf s e).2 Q)
    (v0 : Inv G base nt call ops ds rs e s φ0 w0 L A φ a w) (hall : ∀ i, i < ops.size → L i) : Q .normal a w := by
  obtain ⟨A1, φ1, v, cn⟩ := v0.norm hd hb0 tr
  have hfin := tr.fin
  cases e with
  | pan tm h x h' =>
    obtain ⟨d, d1, _⟩ := hfin
    have hlt := (List.getElem?_eq_some_iff.1 d1).1
    exact absurd (hall _ (by rw [← hd.len]; exact hlt)) (v.panNot hd tr hlt).1
  | done tm h =>
    simp only at hfin
    have hn : rs.length = ops.size := hfin.trans hd.len
    have hA : ∀ i, i < ops.size → A1 i := by
      intro i hi
      rcases Classical.em (A1 i) with h | h
      · exact h
      · obtain ⟨j, j1, j2, j3⟩ := cn i (by omega) (hall i hi) h
        exact absurd (Inv.allA cn (i := i) (by omega) (fun k hk _ => hall k (by omega)) j j1 j2) j3
    have htm : stT rs (.done tm h) rs.length = tm := by simp [stT, AEnd.tm]
    have hhh : stH rs (.done tm h) rs.length = h := by simp [stH, AEnd.h]
    have hin : ∀ {k : Nat} {c : DO}, ds[k]? = some c → k < ops.size := fun hc => by
      have := (List.getElem?_eq_some_iff.1 hc).1
      rw [hd.len] at this; exact this
    have ht : ∀ t, VR φ1 (Tm.val tm t) (a.tmps.getD t undef) := by
      intro t
      have hm := (v.temps t fun i c h1 h2 h3 => absurd (hA i (hin h3)) h2).meet (tr.temps rs.length t (Nat.le_refl _)) (fun k hk => by
        obtain ⟨c, hc, _⟩ := dstAt_some hk
        have := hin hc
        exact ⟨fun _ => by omega, fun _ => hA k this⟩)
      rw [htm] at hm
      rcases hm with ⟨j, _, _, ⟨r, r1, r2⟩, ⟨r', r3, r4⟩⟩ | ⟨k1, k2⟩
      · rw [r1] at r3; cases r3
        rw [r4]; exact r2
      · rw [k2]; exact k1
    have hnr : Nrm base ds rs s φ0 w0 L A1 φ1 w := by
      rcases v.heaps with h | ⟨i, c, _, _, _, q1, q2, q3, _⟩
      · exact h
      · exact absurd (hA i (hin q3)) q2
    have hs : Step base φ0 s.h w0 φ1 h w := by
      have := v.atHeap hnr tr (Nat.le_refl _) (fun k hk _ => hA k (by omega)) (fun k hk he hAk => by have := v.lt k hAk; omega)
      rw [hhh] at this; exact this
    exact p φ1 a w hs ⟨v.g, ht, v.d, v.n⟩

theorem chkS_spec (h : chkS ds rs = true) : ∀ (i : Nat) (d : DO) (r : Rc), ds[i]? = some d → rs[i]? = some r → d.late = 2 → ∀ (j : Nat) (c : DO) (q : Rc), j < i → ds[j]? = some c → rs[j]? = some q → c.eff = true → d.pre.testBit j = false →
    q.w = true ∧ apartB (addrB r.tm d.o.ix) (addrB q.tm c.o.ix) = true := by
  intro i d r hd hr hl j c q hj hc hq he hb
  have h1 := range_all h i (List.getElem?_eq_some_iff.1 hr).1
  rw [hd, hr] at h1
  simp only [Bool.or_eq_true, Bool.not_eq_true'] at h1
  rcases h1 with h1 | h1
  · rw [hl] at h1; simp at h1
  · have h2 := range_all h1 j hj
    rw [hc, hq] at h2
    simp only [Bool.or_eq_true, Bool.not_eq_true', Bool.and_eq_true] at h2
    rcases h2 with (h2 | h2) | h2
    · rw [he] at h2; cases h2
    · rw [hb] at h2; cases h2
    · exact h2

/-- New memory is laid early. -/
theorem Inv.lateNew (hd : DsOK P G nt ops ds) (hb0 : base ≤ w0.heap.size) (v : Inv G base nt call ops ds rs e s φ0 w0 L A φ a w) {i : Nat} {o : Oper} {d : DO} (rd : Rdy ops L i o) (hdi : ds[i]? = some d) (hl : d.late = 1) {t ty : Nat} {z : List AV} (hdt : d.o.dst = some t) (hix : d.o.ix = .newz ty z) (hdst : okDst nt d.o.dst = true)
    {arr : Array Value} (h1 : ∀ ψ : Phi, VRs ψ z arr.toList) (h2 : allOne z = true) :
    Inv G base nt call ops ds rs e s φ0 w0 (fun k => L k ∨ k = i) A φ (a.put d.o.dst (.pointer (some ⟨w.heap.size, 0, none⟩))) (w.alloc (.cells arr ty)) := by
  have hAi : ¬ A i := fun h => rd.un (v.sub i h)
  have hcur : ∃ H, Step base φ0 s.h w0 φ H w := by
    rcases v.heaps with h | ⟨_, _, _, _, H1, _, _, _, _, _, _, _, _, _, _, _, h⟩
    · rcases h.2 with ⟨j, _, _, ⟨x, _, j4⟩, _⟩ | ⟨_, k2⟩
      · exact ⟨_, j4⟩
      · exact ⟨_, k2⟩
    · exact ⟨_, h⟩
  obtain ⟨H, hH⟩ := hcur
  have garb : ∀ H, Step base φ0 s.h w0 φ H w → Step base φ0 s.h w0 φ H (w.alloc (.cells arr ty)) := fun H st => st.trans (Step.garbage (obj := .cells arr ty) st.wr rfl rfl rfl rfl)
  have hg1 := Step.garbage (obj := .cells arr ty) (w' := w.alloc (.cells arr ty)) hH.wr rfl rfl rfl rfl
  have hnew : (w.alloc (.cells arr ty)).heap[w.heap.size]? = some (.cells arr ty (0, 0)) := by simp [World.alloc, -World.alloc_eq]
  exact {
    g := v.g
    n := by simp [v.n]
    d := by simpa using v.d
    closed := fun k o' e' hk ho he hb => by
      rcases hk with hk | rfl
      · exact .inl (v.closed k o' e' hk ho he hb)
      · rw [rd.op] at ho; cases ho
        exact .inl (rd.edges e' he hb)
    dom := fun k hk => by
      rcases hk with hk | rfl
      · exact v.dom k hk
      · exact (List.getElem?_eq_some_iff.1 hdi).1
    sub := fun k hk => .inl (v.sub k hk)
    lt := v.lt
    late := fun k c q1 q2 q3 => by
      rcases q1 with q1 | rfl
      · exact v.late k c q1 q2 q3
      · rw [hdi] at q3; cases q3; omega
    pfx := v.pfx
    temps := fun t' ht' => by
      have hne : d.o.dst ≠ some t' := ht' i d (.inr rfl) hAi hdi
      have hsame := put_other (a := a) (x := .pointer (some ⟨w.heap.size, 0, none⟩)) hdst v.n hne
      refine (v.temps t' fun k c q1 q2 q3 => ht' k c (.inl q1) q2 q3).mono (fun j _ hj => ?_) (fun hj => ?_)
      · obtain ⟨y, y1, y2⟩ := hj
        exact ⟨y, y1, by rw [hsame]; exact y2⟩
      · rw [hsame]; exact hj
    heaps := by
      rcases v.heaps with h | ⟨k, c, r, j, H1, q1, q2, q3, q4, q5⟩
      · refine .inl ⟨fun k c q1 q2 q3 => ?_, h.2.mono (fun j _ hj => ?_) (fun hj => garb _ hj)⟩
        · rcases q1 with q1 | rfl
          · exact h.1 k c q1 q2 q3
          · rw [hdi] at q3; cases q3; omega
        · obtain ⟨y, y1, y2⟩ := hj
          exact ⟨y, y1, garb _ y2⟩
      · have := ((hd.l2 k c q3 q4).2.2 i d hdi).1 (fun h => by subst h; rw [hdi] at q3; cases q3; omega)
        omega
    pend := by
      obtain ⟨Bl, p1, p2⟩ := v.pend
      have hold : ∀ (k : Nat) (c : DO), L k → ¬ A k → ds[k]? = some c → c.late = 1 → Bl k ≠ w.heap.size := fun k c q1 q2 q3 q4 hB => by
        obtain ⟨t', ty', z', k1, k2, _⟩ := hd.l1 k c q3 q4
        obtain ⟨_, ⟨_, b2, _⟩, _⟩ := p1 k c t' ty' z' q1 q2 q3 q4 k1 k2
        have := (Array.getElem?_eq_some_iff.1 b2).1
        omega
      refine ⟨fun k => if k = i then w.heap.size else Bl k, fun k c t' ty' z' q1 q2 q3 q4 q5 q6 => ?_, fun k m c b q1 q2 q3 q4 q5 q6 q7 q8 q9 => ?_⟩
      · by_cases hki : k = i
        · subst hki
          rw [hdi] at q3; cases q3
          rw [hdt] at q5; cases q5
          rw [hix] at q6; cases q6
          simp only [if_true]
          refine ⟨?_, ⟨arr, hnew, h1, h2⟩, hH.size, fun b m em hm => ?_⟩
          · rw [hdt] at hdst ⊢
            rw [getD_put (by rw [v.n]; exact okDst_lt hdst), if_pos rfl]
          · have := (hH.wr.dom b m em).2
            omega
        · have q1' : L k := q1.resolve_right hki
          simp only [hki, if_false]
          refine (p1 k c t' ty' z' q1' q2 q3 q4 q5 q6).keep hg1 (put_other hdst v.n ?_)
          obtain ⟨t2, _, _, k1, _, k3⟩ := hd.l1 k c q3 q4
          rw [q5] at k1; cases k1
          exact (k3 i d hdi).1 (fun h => hki h.symm)
      · by_cases hki : k = i
        · by_cases hmi : m = i
          · rw [hki, hmi]
          · simp only [hki, hmi, if_true, if_false] at q9
            exact absurd q9.symm (hold m b (q5.resolve_right hmi) q6 q7 q8)
        · by_cases hmi : m = i
          · simp only [hki, hmi, if_true, if_false] at q9
            exact absurd q9 (hold k c (q1.resolve_right hki) q2 q3 q4)
          · simp only [hki, hmi, if_false] at q9
            exact p2 k m c b (q1.resolve_right hki) q2 q3 q4 (q5.resolve_right hmi) q6 q7 q8 q9 }
/-- A store is done ahead of another one. -/
theorem Inv.lateStore (hd : DsOK P G nt ops ds) (v : Inv G base nt call ops ds rs e s φ0 w0 L A φ a w) (cn : Canon ds rs L A) (tr : Trc call ds s.tm s.h rs e) (hck : chkS ds rs = true) (hn : Nrm base ds rs s φ0 w0 L A φ w) {i : Nat} {o : Oper} {d : DO} {r : Rc} (rd : Rdy ops L i o) (hdi : ds[i]? = some d) (hri : rs[i]? = some r) (hl : d.late = 2)
    (hop : opX call r.tm r.h d.o.ix = some (.val r.v r.h')) {f : Nat} (hfi : f < i) (hfe : effAt ds f = true) (hfA : ¬ A f) (hfm : ∀ k, k < f → effAt ds k = true → A k) :
    ∃ H1, opX call r.tm (stH rs e f) d.o.ix = some (.val r.v H1) ∧ Step base φ0 s.h w0 φ (stH rs e f) w ∧ d.pre.testBit f = false ∧ ¬ L f ∧
      ∃ (q : Rc) (c : DO), rs[f]? = some q ∧ ds[f]? = some c ∧ q.h = stH rs e f ∧ opX call q.tm H1 c.o.ix = some (.val q.v r.h') := by
  have hir := (List.getElem?_eq_some_iff.1 hri).1
  have hnL : ¬ L f := Inv.firstUn cn (by omega) hfA hfm
  have hb : d.pre.testBit f = false := by
    cases hb : d.pre.testBit f
    · rfl
    · exact absurd (closed_pre hd v.closed i o d rd.op hdi rd.edges f hb) hnL
  obtain ⟨c, hc, hce⟩ := effAt_some hfe
  have hrf : rs[f]? = some rs[f] := by simp [show f < rs.length by omega]
  generalize hqq : rs[f]'(by omega) = q at hrf
  have hsf : stH rs e f = q.h := by simp [stH, hrf]
  have hsi : stH rs e i = r.h := by simp [stH, hri]
  have hef := (hd.lt i d hdi (by omega)).1
  have hpair := (pair_of hd hfi hc hdi hb).2.1 hce hef
  have hst : c.o.ix.isStore = true := by
    rcases hpair with h | ⟨_, h, _⟩
    · omega
    · exact h
  obtain ⟨_, hds, hk⟩ := hd.l2 i d hdi hl
  have hgap := ((hk f c hc).2.1 hfi hce hb)
  have hgapE : ∀ m, f < m → m < i → effAt ds m = true → False := fun m h1 h2 h3 => by
    obtain ⟨p, p1, p2⟩ := effAt_some h3
    have := hgap m p h1 h2 p1
    rw [p2] at this; cases this
  -- what stands behind the other store
  have hri2 : r.h = q.h' := by
    rcases tr.heaps i (by omega) with ⟨m, m1, m2, ⟨y, m3, m4⟩, m5⟩ | ⟨m1, m2⟩
    · have hmf : m = f := by
        rcases Nat.lt_trichotomy m f with h | h | h
        · exact absurd hfe (m5 f hfi h)
        · exact h
        · exact (hgapE m h m1 m2).elim
      subst hmf
      rw [hrf] at m3; cases m3
      rw [hsi] at m4; exact m4
    · exact absurd hfe (m1 f hfi)
  obtain ⟨hw, hap⟩ := chkS_spec hck i d r hdi hri hl f c q hfi hc hrf hce hb
  obtain ⟨c2, e1, hstep⟩ := tr.step f q hrf
  rw [hc] at e1; cases e1
  have hopc : opX call q.tm q.h c.o.ix = some (.val q.v q.h') := by
    rcases hstep with ⟨s1, _⟩ | ⟨_, _, s3⟩
    · rw [hw] at s1; cases s1
    · exact s3
  rw [hri2] at hop
  obtain ⟨H1, k1, k2⟩ := opX_comm hst hds hap hopc hop
  rw [hsf]
  refine ⟨H1, k1, ?_, hb, hnL, q, c, hrf, hc, rfl, k2⟩
  have := v.atHeap hn tr (i := f) (by omega) hfm (fun k hk hek hAk => by
    rcases Nat.lt_or_eq_of_le hk with h | h
    · exact hfA (v.pfx k hAk hek f h hfe)
    · subst h; exact hfA hAk)
  rw [hsf] at this; exact this

theorem any_sound (hcall : CallS P G base call) (hd : DsOK P G nt ops ds) (hb0 : base ≤ w0.heap.size) (tr : Trc call ds s.tm s.h rs e) (ck : chkAll rs 0 ds rs = true) (hckS : chkS ds rs = true) {Q : Exit → Act → World → Prop} (p : Post G base nt φ0 s.h w0 (resOf s e).1 (resOf s e).2 Q) :
    ∀ (fuel : Nat) (listed : Array Bool) (A : Nat → Prop) (φ : Phi) (a : Act) (w : World), listed.size = ops.size → (List.range ops.size).countP (fun k => !listed.getD k true) ≤ fuel →
      Inv G base nt call ops ds rs e s φ0 w0 (fun i => listed.getD i false = true) A φ a w → wpAny P .any ops Q fuel listed a w := by
  have hL : ∀ (listed : Array Bool), listed.size = ops.size → ∀ k, k < ops.size → (listed.getD k true = false ↔ ¬ listed.getD k false = true) := by
    intro listed hsz k hk
    have hk' : k < listed.size := by omega
    simp [Array.getD_eq_getD_getElem?, hk']
  have hall : ∀ (listed : Array Bool), listed.size = ops.size → (∀ i ∈ Region.ready .any ops listed, False) → ∀ i, i < ops.size → listed.getD i false = true := by
    intro listed hsz hr i
    induction i using Nat.strongRecOn with
    | _ i ih =>
      intro hi
      cases hl : listed.getD i false with
      | true => rfl
      | false =>
        have ho : ops[i]? = some ops[i] := by simp [hi]
        refine (hr i (mem_ready.2 ⟨(hL listed hsz i hi).2 (by simp [hl]), ops[i], ho, fun e he hb => ?_⟩)).elim
        have hlt := hd.edge i _ e ho (by simpa using he) hb
        exact ih e.on hlt (by omega)
  intro fuel
  induction fuel with
  | zero =>
    intro listed A φ a w hsz hc v
    have hno : ∀ i ∈ Region.ready .any ops listed, False := by
      intro i hi
      obtain ⟨h0, o, ho, _⟩ := mem_ready.1 hi
      have hlt := (Array.getElem?_eq_some_iff.1 ho).1
      have : 0 < (List.range ops.size).countP (fun k => !listed.getD k true) := List.countP_pos_iff.2 ⟨i, List.mem_range.2 hlt, by simp [h0]⟩
      omega
    exact ⟨List.eq_nil_iff_forall_not_mem.2 hno, v.finish hd hb0 tr p (hall listed hsz hno)⟩
  | succ fuel ih =>
    intro listed A0 φ0' a w hsz hc v0
    refine ⟨fun hr => v0.finish hd hb0 tr p (hall listed hsz (by rw [hr]; simp)), fun i hi => ?_⟩
    obtain ⟨A, φ, v, cn⟩ := v0.norm hd hb0 tr
    clear v0
    obtain ⟨h0, o, ho, hedg⟩ := mem_ready.1 hi
    have hlt := (Array.getElem?_eq_some_iff.1 ho).1
    have rd : Rdy ops (fun i => listed.getD i false = true) i o := ⟨ho, (hL listed hsz i hlt).1 h0, fun e he hb => hedg e (by simpa using he) hb⟩
    have hpre : ∀ d, ds[i]? = some d → ∀ j, d.pre.testBit j = true → listed.getD j false = true := fun d hdi => closed_pre hd v.closed i o d rd.op hdi rd.edges
    have hdl : i < ds.length := by rw [hd.len]; exact hlt
    have hdi : ds[i]? = some ds[i] := by simp [hdl]
    generalize hdd : ds[i] = d at hdi
    have hpre := hpre d hdi
    obtain ⟨o', ho', hio⟩ := hd.io i d hdi
    rw [ho] at ho'; cases ho'
    have hAi : ¬ A i := fun h => rd.un (v.sub i h)
    -- the new list
    have hset : ∀ k, ((listed.setIfInBounds i true).getD k false = true) ↔ (listed.getD k false = true ∨ k = i) := by
      intro k
      have his : i < listed.size := by omega
      by_cases hki : k = i
      · subst hki; simp [Array.getD_eq_getD_getElem?, his]
      · simp [Array.getD_eq_getD_getElem?, Array.getElem?_setIfInBounds_ne (Ne.symm hki), hki]
    have hgo : ∀ A' φ' a' w', Inv G base nt call ops ds rs e s φ0 w0 (fun k => listed.getD k false = true ∨ k = i) A' φ' a' w' → wpAny P .any ops Q fuel (listed.setIfInBounds i true) a' w' := by
      intro A' φ' a' w' v'
      have hcs := count_set hlt h0
      refine ih (listed.setIfInBounds i true) A' φ' a' w' (by simpa using hsz) (by omega) ?_
      have : (fun k => listed.getD k false = true ∨ k = i) = (fun k => (listed.setIfInBounds i true).getD k false = true) := funext fun k => propext (hset k).symm
      rw [← this]; exact v'
    unfold wpOp
    simp only [ho]
    -- new memory, early or not
    by_cases hl1 : d.late = 1
    · obtain ⟨t, ty, z, hdt, hix, _⟩ := hd.l1 i d hdi hl1
      have hgu := (hd.lt i d hdi (by omega)).2
      rcases compIO_spec (P := P) (G := G) (nt := nt) ops o with hb | ⟨ix, gd, c1, c2, c3, c4⟩
      · rw [hio, hb] at hix; cases hix
      · have hcx := hio.trans c4
        have hix2 : ix = .newz ty z := by rw [hcx] at hix; exact hix
        have hdst : d.o.dst = o.dst := by rw [hcx]
        have hgd : gd = none := by rw [hcx] at hgu; exact hgu
        have hw : Region.wanted o (yielded ops a.tmps) = true := by
          refine wanted_sound (φ := φ) (tm := .leaf) c3 TR.leaf v.n ?_
          rw [hgd]; rfl
        rw [hw]
        simp only [if_true]
        left
        rw [hix2] at c1
        obtain ⟨arr, k1, k2, k3⟩ := newz_exec (P := P) c1 a w
        unfold Oper.wp
        rw [k1, Oper.upon_value, ← hdst]
        exact hgo A φ _ _ (v.lateNew hd hb0 rd hdi hl1 hdt hix (by rw [hdst]; exact c2) k2 k3)
    -- it stands in the run
    have hir : i ≤ rs.length := by
      rcases Nat.lt_or_ge rs.length i with hgt | hle
      · exfalso
        obtain ⟨p1, _, dm, d1, d2, _⟩ := v.panNot hd tr (by omega)
        cases hb : d.pre.testBit rs.length
        · exact hl1 ((pair_of hd hgt d1 hdi hb).2.2.2.2 d2)
        · exact p1 (hpre _ hb)
      · exact hle
    have hTR : TR φ (mask d.rd (stT rs e i)) a.tmps := TR.mask (v.reads hd cn tr rd hdi hir)
    have hrdm : d.rd = tmpsOf d.o.ix.opds ++ guardT d.o.guard := hd.rd i d hdi
    have hag1 : ∀ t ∈ tmpsOf d.o.ix.opds, Tm.val (mask d.rd (stT rs e i)) t = Tm.val (stT rs e i) t := fun t ht => val_mask_in (by rw [hrdm]; exact List.mem_append_left _ ht)
    have hag2 : ∀ t ∈ guardT d.o.guard, Tm.val (mask d.rd (stT rs e i)) t = Tm.val (stT rs e i) t := fun t ht => val_mask_in (by rw [hrdm]; exact List.mem_append_right _ ht)
    have hkind := hd.kind i d hdi
    -- it compiled
    have hcomp : ∀ (tm : Tm) (h : Heap), (∃ b, wantedA tm d.o.guard = some b ∧ (b = true → ∃ x, opX call tm h d.o.ix = some x)) → ∃ ix gd, compIX P G o = some ix ∧ okDst nt o.dst = true ∧ guardP nt ops o.guard = some gd ∧ d.o = ⟨o.dst, gd, ix⟩ := by
      intro tm h ⟨b, b1, b2⟩
      rcases compIO_spec (P := P) (G := G) (nt := nt) ops o with hb | ⟨ix, gd, h1, h2, h3, h4⟩
      · rw [hio, hb] at b1 b2
        simp only [wantedA, Option.some.injEq] at b1
        subst b1
        obtain ⟨x, hx⟩ := b2 rfl
        simp [opX, ax] at hx
      · exact ⟨ix, gd, h1, h2, h3, hio.trans h4⟩
    rcases Nat.lt_or_ge i rs.length with hil | hge
    · -- done in the text's order
      have hri : rs[i]? = some rs[i] := by simp [hil]
      generalize hrr : rs[i] = r at hri
      have hst : stT rs e i = r.tm := by simp [stT, hri]
      have hsh : stH rs e i = r.h := by simp [stH, hri]
      rw [hst] at hTR hag1 hag2
      obtain ⟨d2, e1, hstep⟩ := tr.step i r hri
      rw [hdi] at e1; cases e1
      obtain ⟨ix, gd, c1, c2, c3, c4⟩ : ∃ ix gd, compIX P G o = some ix ∧ okDst nt o.dst = true ∧ guardP nt ops o.guard = some gd ∧ d.o = ⟨o.dst, gd, ix⟩ := by
        rcases hstep with ⟨_, s2, _⟩ | ⟨_, s2, s3⟩
        · exact hcomp r.tm r.h ⟨false, s2, fun h => by cases h⟩
        · exact hcomp r.tm r.h ⟨true, s2, fun _ => ⟨_, s3⟩⟩
      have hdst : d.o.dst = o.dst := by rw [c4]
      have hix : d.o.ix = ix := by rw [c4]
      have hgd : gd = d.o.guard := by rw [c4]
      have hwant : ∀ b, wantedA r.tm d.o.guard = some b → Region.wanted o (yielded ops a.tmps) = b := fun b hb => by
        refine wanted_sound c3 hTR v.n ?_
        rw [hgd, wanted_agree hag2]; exact hb
      have hokd : okDst nt d.o.dst = true := by rw [hdst]; exact c2
      -- an operation that leaves memory as it is, where nothing waits for a store
      have hAeff : ∀ (x : Nat → Prop), True := fun _ => trivial
      by_cases he : d.eff = true
      · -- an effect
        by_cases hl2 : d.late = 2 ∧ ∃ f, f < i ∧ effAt ds f = true ∧ ¬ A f
        · -- a store ahead of another one
          obtain ⟨hl2, f0, hf0⟩ := hl2
          obtain ⟨f, _, ⟨hfi, hfe, hfA⟩, hfm0⟩ := least (p := fun f => f < i ∧ effAt ds f = true ∧ ¬ A f) f0 hf0
          have hfm : ∀ k, k < f → effAt ds k = true → A k := fun k hk hek => Classical.byContradiction fun hn => hfm0 k hk ⟨by omega, hek, hn⟩
          have hgu := (hd.lt i d hdi (by omega)).2
          have s3 : opX call r.tm r.h d.o.ix = some (.val r.v r.h') := by
            rcases hstep with ⟨_, s2, _⟩ | ⟨_, _, s3⟩
            · rw [hgu] at s2; simp [wantedA] at s2
            · exact s3
          have hn : Nrm base ds rs s φ0 w0 (fun i => listed.getD i false = true) A φ w := by
            rcases v.heaps with h | ⟨k, c, _, _, _, q1, q2, q3, q4, _⟩
            · exact h
            · have := ((hd.l2 k c q3 q4).2.2 i d hdi).1 (fun h => by subst h; exact rd.un q1)
              omega
          obtain ⟨H1, k1, k2, k3, k4, _⟩ := v.lateStore hd cn tr hckS hn rd hdi hri hl2 s3 hfi hfe hfA hfm
          rw [hwant true (by rw [hgu]; rfl)]
          simp only [if_true]
          left
          refine opX_sound hcall c1 (tm := mask d.rd r.tm) (h := stH rs e f) (res := .val r.v H1) ?_ v.g hTR k2.wr ?_
          · rw [← hix, opX_agree hag1]; exact k1
          · intro φ' w' v' st hv
            rw [← hdst]
            have hdn := (hd.l2 i d hdi hl2).1
            refine hgo A φ' _ w' ?_
            have hcl : ∀ k, (listed.getD k false = true ∨ k = i) → ¬ A k → ∀ c, ds[k]? = some c → c.late = 1 → False := fun k q1 q2 c q3 q4 => by
              by_cases hki : k = i
              · subst hki; rw [hdi] at q3; cases q3; omega
              · have := ((hd.l2 i d hdi hl2).2.2 k c q3).1 hki
                omega
            exact {
              g := v.g.mono st.le
              n := by simp [v.n]
              d := by simpa using v.d.mono st.le
              closed := fun k o' e' hk hoo hee hbb => by
                rcases hk with hk | rfl
                · exact .inl (v.closed k o' e' hk hoo hee hbb)
                · rw [rd.op] at hoo; cases hoo
                  exact .inl (rd.edges e' hee hbb)
              dom := fun k hk => by
                rcases hk with hk | rfl
                · exact v.dom k hk
                · exact hdl
              sub := fun k hk => .inl (v.sub k hk)
              lt := v.lt
              late := fun k c q1 q2 q3 => by
                rcases q1 with q1 | rfl
                · exact v.late k c q1 q2 q3
                · rw [hdi] at q3; cases q3; omega
              pfx := v.pfx
              temps := fun t ht => by
                rw [hdn]
                refine (v.temps t fun k c q1 q2 q3 => ht k c (.inl q1) q2 q3).mono (fun j _ hj => ?_) (fun hj => hj.mono st.le)
                obtain ⟨y, y1, y2⟩ := hj
                exact ⟨y, y1, y2.mono st.le⟩
              heaps := .inr ⟨i, d, r, f, H1, .inr rfl, hAi, hdi, hl2, hri, hfi, hfe, k3, fun h => h.elim k4 (fun h => by omega), hfm, k1, k2.trans st⟩
              pend := ⟨fun _ => 0, fun k c t ty z q1 q2 q3 q4 => (hcl k q1 q2 c q3 q4).elim, fun k m c b q1 q2 q3 q4 => (hcl k q1 q2 c q3 q4).elim⟩ }
        · -- in its place
          have hallL : ∀ k, k < i → effAt ds k = true → A k := by
            rcases hd.l3 i d hdi with h | h | h
            · exact Inv.allA cn hir (v.effPre hd rd hdi he h)
            · exact absurd h hl1
            · exact fun k hk hek => Classical.byContradiction fun hn => hl2 ⟨h, k, hk, hek, hn⟩
          have hnone : ∀ k, i ≤ k → effAt ds k = true → ¬ A k := fun k hk hek hAk => by
            rcases Nat.lt_or_eq_of_le hk with h | h
            · exact hAi (v.pfx k hAk hek i h (effAt_mk hdi he))
            · subst h; exact hAi hAk
          rcases v.heaps with hn | hP
          · have hst0 := v.atHeap hn tr hir hallL hnone
            rw [hsh] at hst0
            have hnrm : ∀ φ' w', Step base φ0 s.h w0 φ' r.h' w' → Nrm base ds rs s φ0 w0 (fun k => listed.getD k false = true ∨ k = i) (fun k => A k ∨ k = i) φ' w' := fun φ' w' st =>
              ⟨fun k c q1 q2 q3 => hn.1 k c (q1.resolve_right fun h => q2 (.inr h)) (fun h => q2 (.inl h)) q3, .addYes (effAt_mk hdi he) ⟨r, hri, st⟩ (fun k hk hlt hek => hnone k (Nat.le_of_lt hlt) hek hk)⟩
            rcases hstep with ⟨s1, s2, s3, s4⟩ | ⟨s1, s2, s3⟩
            · rw [hwant false s2]
              simp only [Bool.false_eq_true, if_false]
              rw [← hdst]
              refine hgo _ φ _ w (v.next hd rd hdi hri hokd (Step.refl hst0.wr) (by rw [s3]; exact undefR) (fun _ => hallL) (.inl (hnrm φ w ?_)))
              rw [s4]; exact hst0
            · rw [hwant true s2]
              simp only [if_true]
              left
              refine opX_sound hcall c1 (tm := mask d.rd r.tm) (h := r.h) (res := .val r.v r.h') ?_ v.g hTR hst0.wr ?_
              · rw [← hix, opX_agree hag1]; exact s3
              · intro φ' w' v' st hv
                rw [← hdst]
                exact hgo _ φ' _ w' (v.next hd rd hdi hri hokd st hv (fun _ => hallL) (.inl (hnrm φ' w' (hst0.trans st))))
          · -- the store that another one has passed
            obtain ⟨k, c, x, j, H1, q1, q2, q3, q4, q5, q6, q7, q8, q9, q10, q11, q12⟩ := hP
            have hik : i ≠ k := fun h => by subst h; exact rd.un q1
            obtain ⟨_, hstk, hkk⟩ := hd.l2 k c q3 q4
            have hd0 : d.late = 0 := (hkk i d hdi).1 hik
            have hij : i = j := by
              rcases Nat.lt_trichotomy i j with h | h | h
              · exfalso
                cases hb : c.pre.testBit i
                · have := (hkk i d hdi).2.1 (by omega) he hb
                  obtain ⟨y, y1, y2⟩ := effAt_some q7
                  have := this j y h q6 y1
                  rw [y2] at this; cases this
                · exact rd.un (v.done_pre hd q3 q1 hb)
              · exact h
              · exfalso
                exact q9 (v.sub j (hallL j h q7))
            subst hij
            obtain ⟨hw, hap⟩ := chkS_spec hckS k c x q3 q5 q4 i d r q6 hdi hri he q8
            have s3 : opX call r.tm r.h d.o.ix = some (.val r.v r.h') := by
              rcases hstep with ⟨s1, _⟩ | ⟨_, _, s3⟩
              · rw [hw] at s1; cases s1
              · exact s3
            have s2 : wantedA r.tm d.o.guard = some true := by
              rcases hstep with ⟨s1, _⟩ | ⟨_, s2, _⟩
              · rw [hw] at s1; cases s1
              · exact s2
            have hkr := (List.getElem?_eq_some_iff.1 q5).1
            -- the other one in the text's order
            obtain ⟨c2, f1, fstep⟩ := tr.step k x q5
            rw [q3] at f1; cases f1
            have hgk := (hd.lt k c q3 (by omega)).2
            have f3 : opX call x.tm x.h c.o.ix = some (.val x.v x.h') := by
              rcases fstep with ⟨_, f2, _⟩ | ⟨_, _, f3⟩
              · rw [hgk] at f2; simp [wantedA] at f2
              · exact f3
            have hck := (hd.lt k c q3 (by omega)).1
            have hstd : d.o.ix.isStore = true := by
              rcases (pair_of hd q6 hdi q3 q8).2.1 he hck with h | ⟨_, h, _⟩
              · omega
              · exact h
            have hgap := (hkk i d hdi).2.1 q6 he q8
            have hxh : x.h = r.h' := by
              have hsk : stH rs e k = x.h := by simp [stH, q5]
              rcases tr.heaps k (by omega) with ⟨m, m1, m2, ⟨y, m3, m4⟩, m5⟩ | ⟨m1, m2⟩
              · have hmf : m = i := by
                  rcases Nat.lt_trichotomy m i with h | h | h
                  · exact absurd (effAt_mk hdi he) (m5 i q6 h)
                  · exact h
                  · obtain ⟨p', p1, p2⟩ := effAt_some m2
                    have := hgap m p' h m1 p1
                    rw [p2] at this; cases this
                subst hmf
                rw [hri] at m3; cases m3
                rw [hsk] at m4; exact m4
              · exact absurd (effAt_mk hdi he) (m1 i q6)
            rw [hxh] at f3
            obtain ⟨H2, g1, g2⟩ := opX_comm hstd hstk hap s3 f3
            rw [hsh] at q11
            rw [q11] at g1
            simp only [Option.some.injEq, ORes.val.injEq, true_and] at g1
            subst g1
            rw [hwant true s2]
            simp only [if_true]
            left
            refine opX_sound hcall c1 (tm := mask d.rd r.tm) (h := H1) (res := .val r.v x.h') ?_ v.g hTR q12.wr ?_
            · rw [← hix, opX_agree hag1]; exact g2
            · intro φ' w' v' st hv
              rw [← hdst]
              -- first the one, then the other is taken up
              have hnx : Inv G base nt call ops ds rs e s φ0 w0 (fun m => listed.getD m false = true ∨ m = i) (fun m => (A m ∨ m = i) ∨ m = k) φ' (a.put d.o.dst v') w' := by
                have hcl : ∀ m, (listed.getD m false = true ∨ m = i) → ¬ ((A m ∨ m = i) ∨ m = k) → ∀ b, ds[m]? = some b → False := fun m r1 r2 b r3 => by
                  have hmk : m ≠ k := fun h => r2 (.inr h)
                  have hmi : m ≠ i := fun h => r2 (.inl (.inr h))
                  exact v.late m b (r1.resolve_right hmi) (fun h => r2 (.inl (.inl h))) r3 ((hkk m b r3).1 hmk)
                exact {
                  g := v.g.mono st.le
                  n := by simp [v.n]
                  d := by simpa using v.d.mono st.le
                  closed := fun m o' e' hk hoo hee hbb => by
                    rcases hk with hk | rfl
                    · exact .inl (v.closed m o' e' hk hoo hee hbb)
                    · rw [rd.op] at hoo; cases hoo
                      exact .inl (rd.edges e' hee hbb)
                  dom := fun m hm => by
                    rcases hm with hm | rfl
                    · exact v.dom m hm
                    · exact hdl
                  sub := fun m hm => by
                    rcases hm with (hm | hm) | hm
                    · exact .inl (v.sub m hm)
                    · exact .inr hm
                    · subst hm; exact .inl q1
                  lt := fun m hm => by
                    rcases hm with (hm | rfl) | rfl
                    · exact v.lt m hm
                    · exact hil
                    · exact hkr
                  late := fun m b r1 r2 r3 => (hcl m r1 r2 b r3).elim
                  pfx := fun m hm hem j hj hej => by
                    rcases hm with (hm | rfl) | rfl
                    · exact .inl (.inl (v.pfx m hm hem j hj hej))
                    · exact .inl (.inl (hallL j hj hej))
                    · rcases Nat.lt_trichotomy j i with h | h | h
                      · exact .inl (.inl (hallL j h hej))
                      · exact .inl (.inr h)
                      · obtain ⟨p', p1, p2⟩ := effAt_some hej
                        have := hgap j p' h hj p1
                        rw [p2] at this; cases this
                  temps := fun t ht => by
                    have hdk : dstAt ds k = none := by simp [dstAt, q3, (hd.l2 k c q3 q4).1]
                    have hdi0 : d.o.dst = none := by
                      rcases (pair_of hd q6 hdi q3 q8).2.1 he hck with h | ⟨_, _, _, h⟩
                      · omega
                      · exact h
                    rw [hdi0]
                    refine LastOf.addNo (by rw [hdk]; simp) (LastOf.addNo (by simp [dstAt, hdi, hdi0]) ((v.temps t fun m b r1 r2 r3 hb => ?_).mono (fun j _ hj => ?_) (fun hj => hj.mono st.le)))
                    · by_cases hmk : m = k
                      · subst hmk; rw [q3] at r3; cases r3; rw [(hd.l2 _ _ q3 q4).1] at hb; cases hb
                      · exact v.late m b r1 r2 r3 ((hkk m b r3).1 hmk)
                    · obtain ⟨y, y1, y2⟩ := hj
                      exact ⟨y, y1, y2.mono st.le⟩
                  heaps := .inl ⟨fun m b r1 r2 r3 => (hcl m r1 r2 b r3).elim, .addYes (effAt_mk q3 hck) ⟨x, q5, q12.trans st⟩ (fun m hm hlt hem => by
                    rcases hm with hm | hm
                    · exact absurd (v.pfx m hm hem k hlt (effAt_mk q3 hck)) q2
                    · omega)⟩
                  pend := ⟨fun _ => 0, fun m b t ty z r1 r2 r3 r4 => (hcl m r1 r2 b r3).elim, fun m n b b' r1 r2 r3 r4 => (hcl m r1 r2 b r3).elim⟩ }
              exact hgo _ φ' _ w' hnx
      · -- no effect
        have he' : effAt ds i = false := by simp only [effAt, hdi]; simpa using he
        have hq : d.o.ix.pure = true ∨ d.o.ix.look = true := by
          have := hkind.1
          cases h1 : d.o.ix.pure
          · cases h2 : d.o.ix.look
            · simp [h1, h2] at this; exact absurd this he
            · exact .inr rfl
          · exact .inl rfl
        have hpf : d.eff = true → ∀ j, j < i → effAt ds j = true → A j := fun h => absurd h he
        have hPst : ∀ φ' w', (∀ H, Step base φ0 s.h w0 φ H w → Step base φ0 s.h w0 φ' H w') → PSt base call ds rs e s φ0 w0 (fun i => listed.getD i false = true) A φ w → PSt base call ds rs e s φ0 w0 (fun k => listed.getD k false = true ∨ k = i) (fun k => A k ∨ k = i) φ' w' := by
          intro φ' w' hs ⟨k, c, x, j, H1, q1, q2, q3, q4, q5, q6, q7, q8, q9, q10, q11, q12⟩
          have hik : i ≠ k := fun h => by subst h; exact rd.un q1
          refine ⟨k, c, x, j, H1, .inl q1, fun h => h.elim q2 (fun h => hik h.symm), q3, q4, q5, q6, q7, q8, fun h => h.elim q9 (fun h => ?_), fun m hm hem => .inl (q10 m hm hem), q11, hs _ q12⟩
          rw [h] at q7; rw [q7] at he'; cases he'
        rcases hstep with ⟨s1, s2, s3, s4⟩ | ⟨s1, s2, s3⟩
        · -- it isn't wanted
          rw [hwant false s2]
          simp only [Bool.false_eq_true, if_false]
          rw [← hdst]
          rcases v.heaps with hn | hP
          · obtain ⟨hN, n1, n2, n3⟩ := hn.now (Z := fun _ => True) (hn.2.mono (fun j _ ⟨x, x1, x2⟩ => ⟨x, x1, x2, trivial⟩) (fun x => ⟨x, trivial⟩))
            refine hgo _ φ _ w (v.next hd rd hdi hri hokd (Step.refl n1.wr) (by rw [s3]; exact undefR) hpf (.inl ⟨fun k c q1 q2 q3 => hn.1 k c (q1.resolve_right fun h => q2 (.inr h)) (fun h => q2 (.inl h)) q3, .addNo (by rw [he']; simp) hn.2⟩))
          · have hP2 := hPst φ w (fun _ h => h) hP
            obtain ⟨_, _, _, _, H1, _, _, _, _, _, _, _, _, _, _, _, q12⟩ := hP
            exact hgo _ φ _ w (v.next hd rd hdi hri hokd (Step.refl q12.wr) (by rw [s3]; exact undefR) hpf (.inr hP2))
        · -- it is wanted
          rw [hwant true s2]
          simp only [if_true]
          left
          have hax := (quiet_heap hq s3).2
          rcases v.heaps with hn | hP
          · have hz : LastOf A (fun k => effAt ds k = true) (fun j => ∃ x : Rc, rs[j]? = some x ∧ Step base φ0 s.h w0 φ x.h' w ∧ ax r.tm x.h' d.o.ix = some (.val r.v x.h')) (Step base φ0 s.h w0 φ s.h w ∧ ax r.tm s.h d.o.ix = some (.val r.v s.h)) := by
              cases hlk : d.lk
              · have hp : d.o.ix.pure = true := hq.resolve_right (by rw [← hkind.2, hlk]; simp)
                obtain ⟨v2, k1, k2⟩ := pure_spec hp hax
                cases k1
                exact hn.2.mono (fun j _ ⟨x, x1, x2⟩ => ⟨x, x1, x2, k2 x.h'⟩) (fun x => ⟨x, k2 s.h⟩)
              · exact v.atLook hd hn cn tr ck rd hdi hri hlk s1 hax
            obtain ⟨hN, n1, n2, n3⟩ := hn.now (Z := fun H => ax r.tm H d.o.ix = some (.val r.v H)) hz
            refine opX_sound hcall c1 (tm := mask d.rd r.tm) (h := hN) (res := .val r.v hN) ?_ v.g hTR n1.wr ?_
            · rw [← hix, opX_agree hag1]; simp only [opX, n2]
            · intro φ' w' v' st hv
              rw [← hdst]
              exact hgo _ φ' _ w' (v.next hd rd hdi hri hokd st hv hpf (.inl ⟨fun k c q1 q2 q3 => hn.1 k c (q1.resolve_right fun h => q2 (.inr h)) (fun h => q2 (.inl h)) q3, .addNo (by rw [he']; simp) (n3 φ' w' st)⟩))
          · have hP0 := hP
            obtain ⟨k, c, x, j, H1, q1, q2, q3, q4, q5, q6, q7, q8, q9, q10, q11, q12⟩ := hP
            have hp : d.o.ix.pure = true := by
              rcases hq with h | h
              · exact h
              · exfalso
                have hlk : d.lk = true := by rw [hkind.2]; exact h
                rcases ((hd.l2 k c q3 q4).2.2 i d hdi).2.2 hlk with h1 | h1
                · exact rd.un (v.done_pre hd q3 q1 h1)
                · obtain ⟨y, y1, y2⟩ := effAt_some q7
                  exact q9 (hpre j (h1 j y q6 y1 y2 q8))
            obtain ⟨v2, k1, k2⟩ := pure_spec hp hax
            cases k1
            refine opX_sound hcall c1 (tm := mask d.rd r.tm) (h := H1) (res := .val r.v H1) ?_ v.g hTR q12.wr ?_
            · rw [← hix, opX_agree hag1]; simp only [opX, k2 H1]
            · intro φ' w' v' st hv
              rw [← hdst]
              refine hgo _ φ' _ w' (v.next hd rd hdi hri hokd st hv hpf (.inr ?_))
              have hik : i ≠ k := fun h => by subst h; exact rd.un q1
              refine ⟨k, c, x, j, H1, .inl q1, fun h => h.elim q2 (fun h => hik h.symm), q3, q4, q5, q6, q7, q8, fun h => h.elim q9 (fun h => ?_), fun m hm hem => .inl (q10 m hm hem), q11, q12.trans st⟩
              rw [h] at q7; rw [q7] at he'; cases he'
    · -- the one that panics
      have hi' : i = rs.length := by omega
      have hfin := tr.fin
      cases e with
      | done tm h => simp only at hfin; omega
      | pan tm h x h' =>
        obtain ⟨dm, d1, d2, d3, d4⟩ := hfin
        rw [← hi', hdi] at d1; cases d1
        have hst : stT rs (.pan tm h x h') i = tm := by simp [stT, hi', AEnd.tm]
        have hsh : stH rs (.pan tm h x h') i = h := by simp [stH, hi', AEnd.h]
        rw [hst] at hTR hag1 hag2
        obtain ⟨ix, gd, c1, c2, c3, c4⟩ := hcomp tm h ⟨true, d3, fun _ => ⟨_, d4⟩⟩
        obtain ⟨p1, p2, dq, dq1, _, p4⟩ := v.panNot hd tr (by omega)
        rw [← hi', hdi] at dq1; cases dq1
        have hw : Region.wanted o (yielded ops a.tmps) = true := by
          refine wanted_sound c3 hTR v.n ?_
          have : gd = d.o.guard := by rw [c4]
          rw [this, wanted_agree hag2]; exact d3
        rw [hw]
        simp only [if_true]
        left
        have hix : d.o.ix = ix := by rw [c4]
        have he : d.eff = true := by
          rw [← hi'] at p2
          simpa [effAt, hdi] using p2
        have hallA : ∀ k, k < i → effAt ds k = true → A k := Inv.allA cn hir (v.effPre hd rd hdi he p4)
        have hnone : ∀ k, i ≤ k → effAt ds k = true → ¬ A k := fun k hk hek hAk => by have := v.lt k hAk; omega
        have hn : Nrm base ds rs s φ0 w0 (fun i => listed.getD i false = true) A φ w := by
          rcases v.heaps with hh | ⟨k, c, y, j, H1, q1, q2, q3, q4, q5, q6, q7, q8, q9, _⟩
          · exact hh
          · exfalso
            have hkr := (List.getElem?_eq_some_iff.1 q5).1
            exact q9 (v.sub j (hallA j (by omega) q7))
        have hst0 := v.atHeap hn tr hir hallA hnone
        rw [hsh] at hst0
        refine opX_sound hcall c1 (tm := mask d.rd tm) (h := h) (res := .pan x h') ?_ v.g hTR hst0.wr ?_
        · rw [← hix, opX_agree hag1]; exact d4
        · intro φ' w' v' st hv
          exact p φ' a w' (hst0.trans st) ⟨v.g.mono st.le, TR.leaf, v.d.mono st.le, v.n⟩ v' hv
end
theorem drawn_sound {call : CallF} {id : Nat} {ops : Array Oper} {ds : List DO} {Q : Exit → Act → World → Prop} (hm : P.follows .mixedOrders = true) (hcall : CallS P G base call) (hds : compD P G nt ops = .any ds) {φ : Phi} {w : World} {s : St} {a : Act} {x : AEx} {s' : St}
    (hr : runD call ds s = some (x, s')) (sr : SR G nt φ s a) (r : WR base φ s.h w) (p : Post G base nt φ s.h w x s' Q) : (Code.region id ops true).wp P Q a w := by
  apply wp_region_any hm
  have hd := compD_spec hds
  unfold runD at hr
  split at hr
  · rename_i rs e he
    split at hr
    · rename_i hck0
      rw [Bool.and_eq_true] at hck0
      obtain ⟨hck, hckS⟩ := hck0
      have hk : ∀ d ∈ ds, d.eff = false → d.o.ix.pure = true ∨ d.o.ix.look = true := by
        intro d hm hef
        obtain ⟨i, hi⟩ := List.getElem?_of_mem hm
        have := (hd.kind i d hi).1
        rw [hef] at this
        cases h1 : d.o.ix.pure
        · cases h2 : d.o.ix.look
          · simp [h1, h2] at this
          · exact .inr rfl
        · exact .inl rfl
      have tr := runAny_trc ds s.tm s.h rs e hk he
      have hres : resOf s e = (x, s') := by
        cases e <;> simpa [resOf] using hr
      have st := Step.drew r
      refine any_sound (φ0 := φ) (w0 := w) (s := s) hcall hd r.low tr hck hckS (by rw [hres]; exact p) ops.size _ (fun _ => False) φ a w.drew (by simp) ?_ ?_
      · exact Nat.le_trans List.countP_le_length (by simp)
      · have hnone : ∀ k, (Array.replicate ops.size false).getD k false = false := by
          intro k
          simp only [Array.getD_eq_getD_getElem?, Array.getElem?_replicate]
          split <;> rfl
        have hno : ∀ k, ¬ (Array.replicate ops.size false).getD k false = true := fun k h => by rw [hnone k] at h; cases h
        exact {
          g := sr.g
          n := sr.n
          d := sr.d
          closed := fun i o e h => absurd h (hno i)
          dom := fun i h => absurd h (hno i)
          sub := fun i h => h.elim
          lt := fun i h => h.elim
          late := fun i d h => absurd h (hno i)
          pfx := fun i h => h.elim
          temps := fun t _ => .inr ⟨fun k h => h.elim, sr.t t⟩
          heaps := .inl ⟨fun i d h => absurd h (hno i), .inr ⟨fun k h => h.elim, st⟩⟩
          pend := ⟨fun _ => 0, fun i d t ty z h => absurd h (hno i), fun i k d c h => absurd h (hno i)⟩ }
    · cases hr
  · cases hr
end Go.AS

/- Code and functions are sound (own work). -/
set_option linter.unusedSimpArgs false
set_option linter.unusedVariables false
namespace Go.AS
variable {P : Program} {G : Nat} {base nt : Nat}

theorem runC_sound {call : CallF} (hm : P.follows .mixedOrders = true) (hcall : CallS P G base call) : ∀ n : Nat,
    (∀ (code : Code) (s : St) (x : AEx) (s' : St) (φ : Phi) (a : Act) (w : World) (Q : Exit → Act → World → Prop),
      runC call n (compR P G nt code) s = some (x, s') → SR G nt φ s a → WR base φ s.h w → Post G base nt φ s.h w x s' Q → code.wp P Q a w) ∧
    (∀ (code : Code) (s : St) (x : AEx) (s' : St) (φ : Phi) (a : Act) (w : World) (Q : Exit → Act → World → Prop),
      runC call n (.loop (compR P G nt code)) s = some (x, s') → SR G nt φ s a → WR base φ s.h w → Post G base nt φ s.h w x s' Q → Code.rounds P code Q n a w) := by
  intro n
  induction n with
  | zero => exact ⟨fun code s x s' φ a w Q h => by simp [runC] at h, fun code s x s' φ a w Q h => by simp [runC] at h⟩
  | succ n ih =>
    have hB : ∀ (code : Code) (s : St) (x : AEx) (s' : St) (φ : Phi) (a : Act) (w : World) (Q : Exit → Act → World → Prop),
        runC call (n + 1) (.loop (compR P G nt code)) s = some (x, s') → SR G nt φ s a → WR base φ s.h w → Post G base nt φ s.h w x s' Q → Code.rounds P code Q (n + 1) a w := by
      intro code s x s' φ a w Q h sr r p
      simp only [runC] at h
      rw [rounds_succ]
      split at h
      · rename_i s1 h1
        exact ih.1 code s _ s1 φ a w _ h1 sr r (fun φ' a' w' st sr' => ih.2 code s1 x s' φ' a' w' Q h sr' st.wr (p.after st))
      · rename_i hne
        refine ih.1 code s x s' φ a w _ h sr r (fun φ' a' w' st sr' => ?_)
        have := p φ' a' w' st sr'
        cases x with
        | normal => exact absurd h (hne s')
        | exit id => exact this
        | ret => exact this
        | pan v => exact this
    refine ⟨?_, hB⟩
    intro code s x s' φ a w Q h sr r p
    have nocase : ∀ {q : Prop}, runC call (n + 1) .bad s = some (x, s') → q := fun h => by simp [runC] at h
    cases code with
    | skip =>
      simp only [compR, runC, Option.some.injEq, Prod.mk.injEq] at h
      obtain ⟨rfl, rfl⟩ := h
      exact wp_skip (p φ a w (Step.refl r) sr)
    | region id ops draw =>
      cases draw with
      | false =>
        simp only [compR, Bool.false_eq_true, if_false, runC] at h
        exact region_sound hcall h sr r p
      | true =>
        simp only [compR, if_true] at h
        by_cases hd : ∃ ds, compD P G nt ops = .any ds
        · obtain ⟨ds, hd⟩ := hd
          rw [hd] at h
          simp only [runC] at h
          exact drawn_sound hm hcall hd h sr r p
        · have : compD P G nt ops = .bad := by
            unfold compD at hd ⊢
            simp only at hd ⊢
            split
            · rename_i hc
              exact absurd ⟨_, if_pos hc⟩ hd
            · rfl
          rw [this] at h
          exact nocase h
    | seq c1 c2 =>
      simp only [compR, runC] at h
      apply wp_seq
      split at h
      · rename_i s1 h1
        exact ih.1 c1 s _ s1 φ a w _ h1 sr r (fun φ' a' w' st sr' => ih.1 c2 s1 x s' φ' a' w' Q h sr' st.wr (p.after st))
      · rename_i hne
        refine ih.1 c1 s x s' φ a w _ h sr r (fun φ' a' w' st sr' => ?_)
        have := p φ' a' w' st sr'
        cases x with
        | normal => exact absurd h (hne s')
        | exit id => exact this
        | ret => exact this
        | pan v => exact this
    | cond c c1 c2 =>
      simp only [compR] at h
      split at h
      · rename_i y hy
        have hv := opd_sound hy sr.g sr.t
        simp only [runC] at h
        split at h
        · rename_i e
          rw [e] at hv; simp only [VR] at hv
          exact wp_cond_true hv (ih.1 c1 s x s' φ a w Q h sr r p)
        · rename_i e
          rw [e] at hv; simp only [VR] at hv
          exact wp_cond_false hv (ih.1 c2 s x s' φ a w Q h sr r p)
        · cases h
      · exact nocase h
    | block id c1 =>
      simp only [compR, runC] at h
      apply wp_block
      split at h
      · rename_i j s1 h1
        refine ih.1 c1 s _ s1 φ a w _ h1 sr r (fun φ' a' w' st sr' => ?_)
        simp only [ExR, Exit.inBlock]
        split at h
        · rename_i e
          simp only [Option.some.injEq, Prod.mk.injEq] at h
          obtain ⟨rfl, rfl⟩ := h
          rw [if_pos e]
          exact p φ' a' w' st sr'
        · rename_i e
          simp only [Option.some.injEq, Prod.mk.injEq] at h
          obtain ⟨rfl, rfl⟩ := h
          rw [if_neg e]
          exact p φ' a' w' st sr'
      · rename_i hne
        refine ih.1 c1 s x s' φ a w _ h sr r (fun φ' a' w' st sr' => ?_)
        have := p φ' a' w' st sr'
        cases x with
        | normal => exact this
        | exit id => exact absurd h (hne id s')
        | ret => exact this
        | pan v => exact this
    | loop c1 =>
      exact wp_loop_rounds (n + 1) (hB c1 s x s' φ a w Q h sr r p)
    | exit id =>
      simp only [compR, runC, Option.some.injEq, Prod.mk.injEq] at h
      obtain ⟨rfl, rfl⟩ := h
      exact wp_exit (p φ a w (Step.refl r) sr)
    | label l =>
      simp only [compR, runC, Option.some.injEq, Prod.mk.injEq] at h
      obtain ⟨rfl, rfl⟩ := h
      exact wp_label (p φ a w (Step.refl r) sr)
    | ret =>
      simp only [compR, runC, Option.some.injEq, Prod.mk.injEq] at h
      obtain ⟨rfl, rfl⟩ := h
      exact wp_ret (p φ a w (Step.refl r) sr)
    | _ => exact nocase h

/-! ### Functions -/
theorem val_undefs (t : Nat) : ∀ (n : Nat) (tm : Tm), Tm.val (tmUndefs n tm) t = if t < n then .tuple [] else Tm.val tm t
  | 0, tm => by simp [tmUndefs]
  | n + 1, tm => by
    rw [tmUndefs, val_undefs t n, val_put]
    by_cases h1 : t < n
    · simp [h1, Nat.lt_succ_of_lt h1]
    · by_cases h2 : n = t
      · subst h2; simp
      · have : ¬ t < n + 1 := by omega
        simp [h1, h2, this]
theorem val_go (t : Nat) : ∀ (l : List AV) (i : Nat) (tm : Tm), Tm.val (tmGo l i tm) t = if i ≤ t ∧ t < i + l.length then (l[t - i]?).getD .top else Tm.val tm t
  | [], i, tm => by
    have : ¬ (i ≤ t ∧ t < i + 0) := by omega
    simp [tmGo]
    omega
  | x :: l, i, tm => by
    rw [tmGo, val_go t l (i + 1), val_put]
    by_cases h1 : i + 1 ≤ t ∧ t < i + 1 + l.length
    · have h2 : i ≤ t ∧ t < i + (x :: l).length := by simp only [List.length_cons]; omega
      rw [if_pos h1, if_pos h2]
      obtain ⟨k, rfl⟩ : ∃ k, t = i + 1 + k := ⟨t - (i + 1), by omega⟩
      rw [show i + 1 + k - (i + 1) = k by omega, show i + 1 + k - i = k + 1 by omega]
      simp
    · rw [if_neg h1]
      by_cases h2 : i = t
      · subst h2; simp
      · have h3 : ¬ (i ≤ t ∧ t < i + (x :: l).length) := by simp only [List.length_cons]; omega
        rw [if_neg h2, if_neg h3]
theorem tmOf_TR {φ : Phi} {args : List AV} {args' : Array Value} (h : VRs φ args args'.toList) (hn : args.length ≤ nt) : TR φ (tmOf args nt) (args' ++ Array.replicate (nt - args'.size) undef) := by
  intro t
  have hl : args'.size = args.length := by simpa using h.length
  unfold tmOf
  rw [val_go, val_undefs]
  simp only [Nat.zero_le, true_and, Nat.zero_add, Nat.sub_zero]
  by_cases h1 : t < args.length
  · rw [if_pos h1]
    obtain ⟨y, e, hy⟩ := h.get t args[t] (by simp [h1])
    have e2 : (args' ++ Array.replicate (nt - args'.size) undef).getD t undef = y := by
      have h1' : t < args'.size := by omega
      simp only [Array.getD_eq_getD_getElem?, Array.getElem?_append, h1', if_true]
      simp only [Array.getElem?_toList] at e
      rw [e]; rfl
    rw [e2]; simpa [h1] using hy
  · rw [if_neg h1]
    by_cases h2 : t < nt
    · rw [if_pos h2]
      have e2 : (args' ++ Array.replicate (nt - args'.size) undef).getD t undef = undef := by
        have h1' : ¬ t < args'.size := by omega
        have h3 : t - args'.size < nt - args'.size := by omega
        simp [Array.getD_eq_getD_getElem?, Array.getElem?_append, h1', h3]
      rw [e2]; exact undefR
    · rw [if_neg h2, val_leaf]; simp [VR]

theorem loadVar_sound {φ : Phi} {h : Heap} {w : World} {t : TypeId} {g : Bool} {n : Nat} {p v : AV} {p' : Value} (hg : aggP P t = some g) (hn : sizeP P t = some n) (hl : loadA h g n p = some v) (hp : VR φ p p') (r : WR base φ h w) :
    ∃ v' a, (asAddr p').run P w = .ok a w ∧ (loadVar t a).run P w = .ok v' w ∧ VR φ v v' := by
  unfold loadA at hl
  split at hl
  · rename_i b o
    simp only [VR] at hp
    obtain ⟨m, hm, rfl⟩ := hp
    split at hl
    · rename_i cs hc
      obtain ⟨ro, hget⟩ := Heap.cells_get hc
      have hr := r.cellsR hget hm
      have h1 := aggP_run hg w
      have h2 := sizeP_run hn w
      cases g with
      | true =>
        simp only at hl
        cases hp : part cs o n with
        | none => simp [hp] at hl
        | some l =>
          simp only [hp, Option.map_some, Option.some.injEq] at hl; subst hl
          obtain ⟨vs, k1, k2, k3, _⟩ := hr.list hp
          have h3 := run_loadCells_list (P := P) w ⟨m.cb, m.shift + o, none⟩ vs (fun j v e => by rw [addr_add]; exact k3 j v e)
          rw [k2] at h3
          refine ⟨.agg vs.toArray, ⟨m.cb, m.shift + o, none⟩, by simp [asAddr], ?_, ?_⟩
          · simp [loadVar, h1, h2, h3]
          · simp only [VR]; exact ⟨_, rfl, by simpa using k1⟩
      | false =>
        simp only [nth_eq] at hl
        obtain ⟨v', k1, k2, _⟩ := hr.2.1 o v hl
        refine ⟨v', ⟨m.cb, m.shift + o, none⟩, by simp [asAddr], ?_, k2⟩
        simp [loadVar, h1, k1]
    · cases hl
  · cases hl
theorem compRes_cons (r : ResultVar) (l : List ResultVar) : compRes P (r :: l) = match r, compRes P l with
    | .tmp t, some l => some (.tmp t :: l)
    | .cell a t, some l => match aggP P t, sizeP P t with
      | some g, some n => some (.cell a g n :: l)
      | _, _ => none
    | _, _ => none := rfl
theorem res_list {φ : Phi} {h : Heap} {w : World} {tm : Tm} {tmps : Array Value} (t : TR φ tm tmps) (r : WR base φ h w) : ∀ (l : List ResultVar) (il : List IRes) (vs : List AV), compRes P l = some il → resA tm h il = some vs →
    ∃ vs', (l.mapM (m := Sem) fun | .tmp t => pure (tmps.getD t undef) | .cell a t => do loadVar t (← asAddr (tmps.getD a undef))).run P w = .ok vs' w ∧ VRs φ vs vs'
  | [], il, vs, hc, hr => by
    cases hc
    simp only [resA, Option.some.injEq] at hr; subst hr
    exact ⟨[], by simp, by simp [VRs]⟩
  | .tmp u :: l, il, vs, hc, hr => by
    rw [compRes_cons] at hc
    cases hl : compRes P l with
    | none => simp [hl] at hc
    | some il' =>
      simp only [hl, Option.some.injEq] at hc; subst hc
      simp only [resA] at hr
      obtain ⟨vs1, k1, rfl⟩ := map_some hr
      obtain ⟨vs', e1, e2⟩ := res_list t r l il' vs1 hl k1
      refine ⟨tmps.getD u undef :: vs', by rw [List.mapM_cons]; simp only [Sem.run_bind, Sem.run_pure, Result.andThen_ok, e1], ?_⟩
      simp only [VRs]
      exact ⟨_, _, rfl, t u, e2⟩
  | .cell u ty :: l, il, vs, hc, hr => by
    rw [compRes_cons] at hc
    cases hl : compRes P l with
    | none => simp [hl] at hc
    | some il' =>
      simp only [hl] at hc
      split at hc
      · rename_i g n hg hn
        simp only [Option.some.injEq] at hc; subst hc
        simp only [resA] at hr
        split at hr
        · rename_i v hv
          obtain ⟨vs1, k1, rfl⟩ := map_some hr
          obtain ⟨vs', e1, e2⟩ := res_list t r l il' vs1 hl k1
          obtain ⟨v', ad, e3, e4, e5⟩ := loadVar_sound (P := P) hg hn hv (t u) r
          refine ⟨v' :: vs', by rw [List.mapM_cons]; simp only [Sem.run_bind, Sem.run_pure, Result.andThen_ok, e3, e4, e1], ?_⟩
          simp only [VRs]
          exact ⟨_, _, rfl, e5, e2⟩
        · cases hr
      · cases hc
theorem results_sound {φ : Phi} {h : Heap} {w : World} {tm : Tm} {fn : Func} {tmps : Array Value} (t : TR φ tm tmps) (r : WR base φ h w) {il : List IRes} {vs : List AV} (hc : compRes P fn.results.toList = some il) (hr : resA tm h il = some vs) :
    ∃ v', (results fn tmps).run P w = .ok v' w ∧ VR φ (oneOf vs) v' := by
  obtain ⟨vs', e1, e2⟩ := res_list t r fn.results.toList il vs hc hr
  have hlen := e2.length
  unfold results
  rw [Array.mapM_eq_mapM_toList]
  simp only [map_eq_pure_bind, Sem.run_bind, Sem.run_pure]
  have e0 := congrArg (fun z : Result (List Value) => (Result.andThen (Result.andThen z fun a w' => Result.ok a.toArray w') fun a w' => Result.ok (if h : a.size = 1 then a[0] else Value.tuple a) w')) e1
  suffices hs : ∃ v', (Result.andThen (Result.andThen (Result.ok vs' w) fun a w' => Result.ok a.toArray w') fun a w' => Result.ok (if h : a.size = 1 then a[0] else Value.tuple a) w') = .ok v' w ∧ VR φ (oneOf vs) v' by
    obtain ⟨v', s1, s2⟩ := hs
    exact ⟨v', e0.trans s1, s2⟩
  clear e0 e1
  simp only [Result.andThen_ok]
  match vs, vs', hlen, e2 with
  | [v], [v'], _, e2 =>
    simp only [VRs] at e2
    obtain ⟨x, xs, e3, e4, _⟩ := e2
    simp only [List.cons.injEq] at e3
    refine ⟨v', by simp, ?_⟩
    simp only [oneOf, e3.1]; exact e4
  | [], vs', hlen, e2 =>
    have : vs' = [] := by cases vs' <;> simp_all
    subst this
    exact ⟨.tuple #[], by simp, by simp [oneOf, VR, VRs]⟩
  | a :: b :: l, vs', hlen, e2 =>
    have hne : ¬ vs'.toArray.size = 1 := by simp [hlen]
    refine ⟨.tuple vs'.toArray, by rw [dif_neg hne], ?_⟩
    simp only [oneOf, VR]
    exact ⟨_, rfl, by simpa using e2⟩

/-- What is known of the summaries. -/
def SumS (P : Program) (G base : Nat) (S : Sums) : Prop :=
  ∀ f g, S f = some g → CallS P G base (fun f' args h => if f' = f then g args h else none)
theorem runF_sound {S : Sums} {F : Nat → Option RFun} (hm : P.follows .mixedOrders = true) (hS : SumS P G base S) (hF : ∀ f fn, F f = some fn → compG P G f = some fn) : ∀ n, CallS P G base (runF S F n) := by
  intro n
  induction n with
  | zero => intro f args h r h' φ w args' hx; simp [runF] at hx
  | succ n ih =>
    intro f args h r h' φ w args' hx g hv hr o a next Q k
    simp only [runF] at hx
    split at hx
    · rename_i gg hg
      exact hS f gg hg f args h r h' φ w args' (by simpa using hx) g hv hr o a next Q k
    · split at hx
      · cases hx
      · rename_i fn hfn
        have hc := hF f fn hfn
        unfold compG at hc
        split at hc
        · rename_i mf hmf
          split at hc
          · rename_i c il hb hil hname
            simp only [Option.some.injEq] at hc
            split at hx
            · rename_i hle
              have hnt : fn.nt = mf.ntmps := by rw [← hc]
              have hbody : fn.body = compR P G mf.ntmps c := by rw [← hc]
              have hres : fn.res = il := by rw [← hc]
              have hcf : (callFunc f args').run P w = .ok (.enter f args') w := by
                have hname' : ¬ mf.name = "runtime.NumGoroutine" := by simpa using hname
                unfold callFunc
                simp [hmf, hb, hname']
              rw [hcf, Oper.upon_enter]
              split at hx
              · rename_i x s hrun
                rw [hbody, hnt] at hrun
                rw [hnt] at hle
                have hl : args'.size = args.length := by simpa using hv.length
                refine calls_of_wp hmf hb ((runC_sound hm ih n).1 c _ x s φ _ w _ hrun ⟨g, tmOf_TR hv hle, rfl, ?_⟩ hr ?_)
                · simp; omega
                · intro φ' a' w' st sr'
                  split at hx
                  · rename_i hdf
                    have hdn : a'.defers = [] := by
                      have := sr'.d
                      rw [hdf] at this; exact this
                    cases x with
                    | pan v =>
                      simp only [Option.some.injEq, Prod.mk.injEq] at hx
                      obtain ⟨rfl, rfl⟩ := hx
                      intro v' hv'
                      exact ⟨hdn, k φ' w' v' st hv'⟩
                    | exit id => simp at hx
                    | normal =>
                      simp only at hx
                      obtain ⟨vs, k1, k2⟩ := map_some hx
                      simp only [Prod.mk.injEq] at k2
                      obtain ⟨rfl, rfl⟩ := k2
                      rw [hres] at k1
                      obtain ⟨v', e1, e2⟩ := results_sound (P := P) sr'.t st.wr hil k1
                      exact ⟨hdn, v', e1, k φ' w' v' st e2⟩
                    | ret =>
                      simp only at hx
                      obtain ⟨vs, k1, k2⟩ := map_some hx
                      simp only [Prod.mk.injEq] at k2
                      obtain ⟨rfl, rfl⟩ := k2
                      rw [hres] at k1
                      obtain ⟨v', e1, e2⟩ := results_sound (P := P) sr'.t st.wr hil k1
                      exact ⟨hdn, v', e1, k φ' w' v' st e2⟩
                  · cases hx
              · cases hx
            · cases hx
          · cases hc
        · cases hc
end Go.AS

/- Functions without a body: what is known of them (own work). -/
set_option linter.unusedSimpArgs false
set_option linter.unusedVariables false
namespace Go.AS
variable {P : Program} {G : Nat} {base : Nat}
noncomputable section
/-- The first place of a byte. -/
def idxN (c : Nat) (l : List Nat) : Nat → Int := List.rec (fun _ => Int.negSucc 0) (fun x _ ih i => Bool.rec (ih (Nat.succ i)) (Int.ofNat i) (Nat.beq x c)) l
def gIndexByte : List AV → Heap → Option (ARes × Heap)
  | [.str s, .int .u8 (.ofNat c)], h => if c < 256 then some (.ret (.int .i64 (idxN c s 0)), h) else none
  | _, _ => none
def gSame : List AV → Heap → Option (ARes × Heap)
  | [x], h => some (.ret x, h)
  | _, _ => none
end

theorem ext_callS {f : FuncId} {fn : Func} {e : Array Value → Sem Value} {g : List AV → Heap → Option (ARes × Heap)} (hf : P.funcs[f]? = some fn) (hname : (fn.name == "runtime.NumGoroutine") = false)
    (hb : fn.body.isNone = true) (hn : Extern.findNext fn = none) (he : Extern.find fn = some e)
    (hg : ∀ args h r h' φ w (args' : Array Value), g args h = some (r, h') → VRs φ args args'.toList → WR base φ h w → ∃ v v' φ' w', r = .ret v ∧ (e args').run P w = .ok v' w' ∧ VR φ' v v' ∧ Step base φ h w φ' h' w') :
    CallS P G base (fun f' args h => if f' = f then g args h else none) := by
  intro f' args h r h' φ w args' hx hgl hv hr o a next Q k
  simp only at hx
  split at hx
  · rename_i hff
    subst hff
    obtain ⟨v, v', φ', w', rfl, e1, e2, e3⟩ := hg args h r h' φ w args' hx hv hr
    rw [run_callFunc_extern hf hname hb hn he, e1]
    simp only [Result.andThen_ok]
    rw [Oper.upon_value]
    exact k φ' w' v' e3 e2
  · cases hx

theorem find_idx (c : UInt8) : ∀ (l : List UInt8) (i0 : Nat), (match (List.range l.length).find? fun i => l[i]! == c with | some i => ((i + i0 : Nat) : Int) | none => -1) = idxN c.toNat (l.map (·.toNat)) i0
  | [], i0 => rfl
  | x :: l, i0 => by
    have ih := find_idx c l (i0 + 1)
    simp only [List.length_cons, List.range_succ_eq_map, List.find?_cons, List.map_cons]
    have hz : (x :: l)[0]! = x := rfl
    rw [hz]
    have hstep : idxN c.toNat (x.toNat :: l.map (·.toNat)) i0 = Bool.rec (idxN c.toNat (l.map (·.toNat)) (i0 + 1)) (Int.ofNat i0) (Nat.beq x.toNat c.toNat) := rfl
    rw [hstep]
    by_cases hx : x = c
    · subst hx
      simp
    · have h1 : (x == c) = false := by simpa using hx
      have h2 : Nat.beq x.toNat c.toNat = false := by
        rw [Bool.eq_false_iff]
        intro h
        exact hx (UInt8.toNat_inj.1 (Nat.eq_of_beq_eq_true h))
      rw [h1, h2]
      simp only
      rw [← ih, List.find?_map]
      have hfun : ((fun i => (x :: l)[i]! == c) ∘ Nat.succ) = fun i => l[i]! == c := by
        funext i
        simp [Function.comp]
      rw [hfun]
      cases (List.range l.length).find? fun i => l[i]! == c with
      | none => rfl
      | some i => simp only [Option.map_some, Nat.succ_eq_add_one]; congr 1; omega
theorem firstIdx_idx (s : ByteArray) (c : UInt8) : firstIdx s c = idxN c.toNat (bytesN s) 0 := by
  have := find_idx c s.data.toList 0
  unfold firstIdx bytesN
  rw [← this]
  have hfun : (fun i : Nat => s[i]! == c) = fun i : Nat => s.data.toList[i]! == c := by
    funext i
    congr 1
    rcases Nat.lt_or_ge i s.size with hi | hi
    · have h2 : i < s.data.toList.length := by simpa using hi
      rw [getElem!_pos s i hi, getElem!_pos s.data.toList i h2]
      rfl
    · have h2 : ¬ i < s.data.toList.length := by simpa using hi
      rw [getElem!_neg s i (by omega), getElem!_neg s.data.toList i h2]
  have hl : s.size = s.data.toList.length := by simp
  rw [hfun, hl]
  cases List.find? (fun i => s.data.toList[i]! == c) (List.range s.data.toList.length) with
  | none => rfl
  | some i => simp
theorem indexByte_callS {f : FuncId} {fn : Func} (hf : P.funcs[f]? = some fn) (hname : (fn.name == "runtime.NumGoroutine") = false)
    (hb : fn.body.isNone = true) (hn : Extern.findNext fn = none) (he : Extern.find fn = some Extern.BytealgIndexByte.indexByte) :
    CallS P G base (fun f' args h => if f' = f then gIndexByte args h else none) :=
  ext_callS hf hname hb hn he fun args h r h' φ w args' hx hv hr => by
    unfold gIndexByte at hx
    split at hx
    · rename_i s c
      split at hx
      · rename_i hc
        simp only [Option.some.injEq, Prod.mk.injEq] at hx
        obtain ⟨rfl, rfl⟩ := hx
        simp only [VRs, VR] at hv
        obtain ⟨x, xs, e1, ⟨b, rfl, rfl⟩, y, ys, rfl, rfl, rfl⟩ := hv
        obtain rfl : args' = #[.string b, .int .u8 (Int.ofNat c)] := Array.ext' (by simpa using e1)
        refine ⟨_, _, φ, w, rfl, run_indexByte_string b (Int.ofNat c) w, ?_, Step.refl hr⟩
        simp only [VR]
        rw [firstIdx_idx]
        have : (Int.ofNat c).toNat.toUInt8.toNat = c := by simp [Nat.toUInt8, Nat.mod_eq_of_lt hc]
        rw [this]
      · cases hx
    · cases hx
theorem noEscape_callS {f : FuncId} {fn : Func} (hf : P.funcs[f]? = some fn) (hname : (fn.name == "runtime.NumGoroutine") = false)
    (hb : fn.body.isNone = true) (hn : Extern.findNext fn = none) (he : Extern.find fn = some Extern.AbiNoEscape.same) :
    CallS P G base (fun f' args h => if f' = f then gSame args h else none) :=
  ext_callS hf hname hb hn he fun args h r h' φ w args' hx hv hr => by
    unfold gSame at hx
    split at hx
    · rename_i x
      simp only [Option.some.injEq, Prod.mk.injEq] at hx
      obtain ⟨rfl, rfl⟩ := hx
      simp only [VRs] at hv
      obtain ⟨x', xs, e1, hx', rfl⟩ := hv
      obtain rfl : args' = #[x'] := Array.ext' (by simpa using e1)
      exact ⟨_, _, φ, w, rfl, rfl, hx', Step.refl hr⟩
    · cases hx
end Go.AS

/- From the abstract run to the model's call (own work). -/
set_option linter.unusedSimpArgs false
set_option linter.unusedVariables false
namespace Go.AS
open Go.RowKit
variable {P : Program} {G : Nat} {base nt : Nat}

noncomputable def h0 : Heap := ⟨0, .leaf, .leaf⟩
def φ0 : Phi := fun _ => none
theorem GL0 : GL 0 φ0 := fun g hg => absurd hg (Nat.not_lt_zero g)
theorem h0_get (b : Nat) : h0.get b = none := Tr.get_leaf b
theorem WR0 (w : World) (hb : base ≤ w.heap.size) : WR base φ0 h0 w := {
  dom := fun b m e => by cases e
  live := fun b o e => by rw [h0_get] at e; cases e
  sep := fun b b' o o' m m' e => by rw [h0_get] at e; cases e
  low := hb
  tags := fun b t c e => by simp [h0, Tr.get_leaf] at e }
theorem Step.below {w w' : World} {φ : Phi} {h : Heap} (s : Step base φ0 h0 w φ h w') : Below w.heap.size w w' :=
  ⟨s.os, s.tape, s.output, s.size, fun k hk => s.kept k hk fun b o m e => by rw [h0_get] at e; cases e⟩
/-- What a call leaves on memory of its own is nothing to others. -/
theorem Step.frame {base' : Nat} {w w' : World} {φ φ' : Phi} {h h' : Heap} (r : WR base' φ h w) (s : Step w.heap.size φ0 h0 w φ' h' w') : Step base' φ h w φ h w' := by
  have hb := s.below
  have hk : ∀ k, k < w.heap.size → w'.heap[k]? = w.heap[k]? := fun k hk => hb.block k hk
  have hs : ∀ k, k < w.heap.size → w'.shape? k = w.shape? k := fun k h => shape_of_heap (hk k h)
  exact ⟨φ.le_refl, ⟨fun b m e => ⟨(r.dom b m e).1, Nat.lt_of_lt_of_le (r.dom b m e).2 s.size⟩, fun b o e => by
    obtain ⟨m, h1, h2, h3⟩ := r.live b o e
    exact ⟨m, h1, h2.keep φ.le_refl (hk _ (r.dom b m h1).2), h3⟩, r.sep, Nat.le_trans r.low s.size, fun b t c e => TagsKeep φ.le_refl (fun b m e => hs _ (r.dom b m e).2) (r.tags b t c e)⟩,
    s.size, s.tape, s.os, s.output, fun k h _ => hk k h, hs, fun b o m e hw hm _ => ⟨b, o, m, e, hw, hm, rfl⟩, fun b m e => .inl ⟨b, m, e, rfl⟩⟩

/-- A call's contract out of what is known of calls. -/
theorem calls_of {call : CallF} {f : FuncId} {fn : Func} {c : Code} {args : List AV} {args' : Array Value} {v : AV} {h h' : Heap} {φ : Phi} {w : World} (hc : CallS P G base call) (hf : P.funcs[f]? = some fn) (hb : fn.body = some c)
    (hname : (fn.name == "runtime.NumGoroutine") = false) (hx : call f args h = some (.ret v, h')) (g : GL G φ) (hv : VRs φ args args'.toList) (r : WR base φ h w) :
    Calls P f args' w fun e w' => ∃ φ' v', e = .returned v' ∧ VR φ' v v' ∧ Step base φ h w φ' h' w' := by
  have hcf : (callFunc f args').run P w = .ok (.enter f args') w := by
    have hname' : ¬ fn.name = "runtime.NumGoroutine" := by simpa using hname
    unfold callFunc
    simp [hf, hb, hname']
  have := hc f args h _ h' φ w args' hx g hv r { dst := some 0, op := .move (.tmp 0), type := 0, pos := "", after := #[], guard := none } { tmps := #[undef], defers := [] }
    (fun a w' => ∃ φ', VR φ' v (a.tmps.getD 0 undef) ∧ Step base φ h w φ' h' w') (fun _ _ _ => False) (fun φ' w' v' st hv' => ⟨φ', by simpa [Act.put] using hv', st⟩)
  rw [hcf, Oper.upon_enter] at this
  refine this.mono fun e w' he => ?_
  cases e with
  | returned v' =>
    obtain ⟨φ', k1, k2⟩ := he
    exact ⟨φ', v', rfl, by simpa [Act.put] using k1, k2⟩
  | panicked ch => exact he.elim
  | outgrown => obtain ⟨_, _, hh⟩ := he; exact hh.elim
/-- A callee by its contract. -/
theorem enter_callS {f : FuncId} {fn : Func} {c : Code} {g : List AV → Heap → Option (ARes × Heap)} (hf : P.funcs[f]? = some fn) (hb : fn.body = some c) (hname : (fn.name == "runtime.NumGoroutine") = false)
    (hg : ∀ args h r h' φ w (args' : Array Value), g args h = some (r, h') → VRs φ args args'.toList → WR base φ h w → ∃ v, r = .ret v ∧ Calls P f args' w fun e w' => ∃ φ' v', e = .returned v' ∧ VR φ' v v' ∧ Step base φ h w φ' h' w') :
    CallS P G base (fun f' args h => if f' = f then g args h else none) := by
  intro f' args h r h' φ w args' hx hgl hv hr o a next Q k
  simp only at hx
  split at hx
  · rename_i hff
    subst hff
    obtain ⟨v, rfl, hcalls⟩ := hg args h r h' φ w args' hx hv hr
    have hcf : (callFunc f' args').run P w = .ok (.enter f' args') w := by
      have hname' : ¬ fn.name = "runtime.NumGoroutine" := by simpa using hname
      unfold callFunc
      simp [hf, hb, hname']
    rw [hcf, Oper.upon_enter]
    refine hcalls.mono fun e w' he => ?_
    obtain ⟨φ', v', rfl, k1, k2⟩ := he
    exact k φ' w' v' k2 k1
  · cases hx
/-- A call without arguments that was run on no memory: its answer, whatever the memory. -/
def gConst (b : Bool) : List AV → Heap → Option (ARes × Heap)
  | [], h => some (.ret (.bool b), h)
  | _, _ => none
theorem const_callS {call : CallF} {f : FuncId} {fn : Func} {c : Code} {b : Bool} {h' : Heap} (hc : ∀ base, CallS P 0 base call) (hf : P.funcs[f]? = some fn) (hb : fn.body = some c) (hname : (fn.name == "runtime.NumGoroutine") = false)
    (hx : call f [] h0 = some (.ret (.bool b), h')) : CallS P G base (fun f' args h => if f' = f then gConst b args h else none) :=
  enter_callS hf hb hname fun args h r h1 φ w args' hg hv hr => by
    unfold gConst at hg
    split at hg
    · simp only [Option.some.injEq, Prod.mk.injEq] at hg
      obtain ⟨rfl, rfl⟩ := hg
      refine ⟨_, rfl, (calls_of (hc w.heap.size) hf hb hname hx GL0 hv (WR0 w (Nat.le_refl _))).mono fun e w' he => ?_⟩
      obtain ⟨φ', v', rfl, k1, k2⟩ := he
      exact ⟨φ, v', rfl, by simpa [VR] using k1, Step.frame hr k2⟩
    · cases hg
/-- Code that is run by two abstract runs: between the two what is known may be told otherwise. -/
theorem wp_seq_run {call : CallF} (hm : P.follows .mixedOrders = true) (hcall : CallS P G base call) {n : Nat} {c1 c2 : Code} {s s1 : St} {φ : Phi} {a : Act} {w : World} {Q : Exit → Act → World → Prop}
    (h : runC call n (compR P G nt c1) s = some (.normal, s1)) (sr : SR G nt φ s a) (r : WR base φ s.h w) (k : ∀ φ' a' w', Step base φ s.h w φ' s1.h w' → SR G nt φ' s1 a' → c2.wp P Q a' w') : (Code.seq c1 c2).wp P Q a w := by
  apply wp_seq
  exact (runC_sound hm hcall n).1 c1 s .normal s1 φ a w _ h sr r (fun φ' a' w' st sr' => k φ' a' w' st sr')
theorem entry_SR {φ : Phi} {args : List AV} {args' : Array Value} {h : Heap} (g : GL G φ) (hv : VRs φ args args'.toList) (hn : args.length ≤ nt) : SR G nt φ ⟨tmOf args nt, [], h⟩ { tmps := args' ++ Array.replicate (nt - args'.size) undef, defers := [] } :=
  ⟨g, tmOf_TR hv hn, rfl, by
    have hl : args'.size = args.length := by simpa using hv.length
    simp; omega⟩

/-- The law's end, where the new memory may be frozen in part. -/
theorem post_of_below {H : Type} {enc : TypeId × Value → H} {f : Func} {s : ChangeSpec} {apart fresh handsOn : Bool} {W W' : World} {args : Array Value} {v : Value} {ds gs : List (DataW H)} {before pa pv : List MemPlace}
    (hW : DataW.Whole enc P f.params.toList s.vars apart W args.toList ds gs before)
    (hres : ∀ (b : Nat) (sp : Nat → Bool) (hd : Bool), DataW.TrodAll enc P W' b sp hd f.resultTypes.toList (v.resultList f.resultTypes.size) (s.fn H (ds ++ gs)).results [])
    (hargs : ∀ sp : Nat → Bool, (∀ p ∈ before, sp p.block = true) → DataW.TrodAll enc P W' 0 sp true f.params.toList args.toList (s.fn H (ds ++ gs)).args pa)
    (hvars : ∀ sp : Nat → Bool, (∀ p ∈ before, sp p.block = true) → DataW.TrodVars enc P W' sp s.vars (s.fn H (ds ++ gs)).vars pv)
    (hps : before = pa ++ pv) (hk : Below W.heap.size W W') :
    s.post enc P f apart fresh handsOn false W args v W' := by
  have hold : ∀ p ∈ before, (fun b => decide (b < W.heap.size)) p.block = true := fun p hp => by simpa using hW.lt p hp
  refine ⟨ds, gs, before, [], pa, pv, hW, hres _ _ _, hargs _ hold, hvars _ hold, World.keptBut_mono (fun p hp => ⟨hp, ?_⟩) (hk.frame (· ∈ before)), fun h => by cases h⟩
  rw [hps, List.mem_append] at hp
  exact Or.inr hp
end Go.AS
