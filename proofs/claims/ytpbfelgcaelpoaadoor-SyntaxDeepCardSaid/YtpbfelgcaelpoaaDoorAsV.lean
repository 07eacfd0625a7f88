/- The abstract semantics: each instruction is sound, part two (own work). -/
import Derived.Test.YtpbfelgcaelpoaaDoorAsU
import Derived.Lib.Builder
import Derived.Lib.UnsafeStr
import Derived.Laws.LoneSync
import Derived.Laws.RangeString
set_option linter.unusedSimpArgs false
set_option linter.unusedVariables false
set_option linter.unnecessarySimpa false
/- Each instruction is sound: append, copy, len, max, min (own work). -/
set_option linter.unusedSimpArgs false
set_option linter.unusedVariables false
namespace Go.AS
variable {P : Program} {G : Nat} {base : Nat} {φ : Phi} {h : Heap} {w : World}

theorem elems_sound {esz : Nat} {x : AV} {x' : Value} {news : List AV} {n : Nat} (he : elemsA h esz x = some (news, n)) (hx : VR φ x x') (r : WR base φ h w) :
    (Builtin.lenOf x').run P w = .ok n w ∧ ∃ vs, VRs φ news vs ∧ news.length = n * esz ∧
      ∀ w', (∀ (a : Addr) v, w.cell? a = some v → w'.cell? a = some v) → ∀ k l, (k = n ∧ l = news) → (Builtin.firstCells esz k x').run P w' = .ok vs.toArray w' := by
  unfold elemsA at he
  cases x with
  | nilSlice =>
    simp only [Option.some.injEq, Prod.mk.injEq] at he
    obtain ⟨rfl, rfl⟩ := he
    simp only [VR] at hx; subst hx
    exact ⟨by simp [Builtin.lenOf], [], rfl, by simp, fun w' _ k l hk => by simp [Builtin.firstCells]⟩
  | slice b o len cap g =>
    simp only at he
    have hx0 := hx
    simp only [VR] at hx
    obtain ⟨m, off, cap', hm, hlc, _, hcap, hoff, rfl⟩ := hx
    split at he
    · rename_i h0
      simp only [Option.some.injEq, Prod.mk.injEq] at he
      obtain ⟨rfl, rfl⟩ := he
      subst h0
      exact ⟨by simp [Builtin.lenOf], [], rfl, by simp, fun w' _ k l hk => by rw [hk.1]; simp [Builtin.firstCells, loadCells, loadCellsFrom]⟩
    · rename_i h0
      split at he
      · rename_i cs hc
        cases hp : part cs o (len * esz) with
        | none => simp [hp] at he
        | some l =>
          simp only [hp, Option.map_some, Option.some.injEq, Prod.mk.injEq] at he
          obtain ⟨rfl, rfl⟩ := he
          have hcc : cap ≤ cap' := by rw [hcap]; split <;> omega
          obtain rfl : off = m.shift + o := hoff.resolve_left (by omega)
          obtain ⟨ro, hget⟩ := Heap.cells_get hc
          obtain ⟨vs, k1, k2, k3, _⟩ := (r.cellsR hget hm).list hp
          refine ⟨by simp [Builtin.lenOf], vs, k1, by rw [← k1.length, k2], fun w' hk' k l' hk => ?_⟩
          rw [hk.1]
          exact run_firstCells_some (P := P) w' esz len ⟨m.cb, m.shift + o, none⟩ len cap' vs k2 (fun j v e => by rw [addr_add]; exact hk' _ _ (k3 j v e))
      · cases he
  | str s =>
    simp only at he
    split at he
    · rename_i h1
      subst h1
      simp only [Option.some.injEq, Prod.mk.injEq] at he
      obtain ⟨rfl, rfl⟩ := he
      simp only [VR] at hx
      obtain ⟨s, rfl, rfl⟩ := hx
      have hvr : VRs φ ((bytesN s).map fun b => AV.int .u8 (Int.ofNat b)) (s.data.map fun b => Value.int .u8 b.toNat).toList := by
        refine VRs.of_get _ _ (by simp [bytesN]) fun i x e => ?_
        simp only [List.getElem?_map, bytesN] at e
        cases hi : s.data.toList[i]? with
        | none => simp [hi] at e
        | some u =>
          simp only [hi, Option.map_some, Option.some.injEq] at e; subst e
          rw [Array.getElem?_toList] at hi
          exact ⟨.int .u8 u.toNat, by simp [hi], by simp [VR]⟩
      refine ⟨by simp [Builtin.lenOf, bytesN_length], _, hvr, by simp, fun w' _ k l hk => ?_⟩
      rw [hk.1, bytesN_length]
      have hs : (s.extract 0 s.size) = s := by
        have : (s.extract 0 s.size).data = s.data := by
          rw [ByteArray.data_extract]
          show s.data.extract 0 s.data.size = s.data
          simp
        cases s; cases h2 : ByteArray.extract _ _ _; simp_all
      simp only [Builtin.firstCells, hs, Sem.run_pure]
    · cases he
  | _ => cases he
theorem elems_one {esz : Nat} {x : AV} {news : List AV} {n : Nat} (he : elemsA h esz x = some (news, n)) (hn : n = 0) (hes : 0 < esz) : news = [] := by
  unfold elemsA at he
  cases x with
  | nilSlice => simp only [Option.some.injEq, Prod.mk.injEq] at he; exact he.1.symm
  | slice b o len cap g =>
    simp only at he
    split at he
    · simp only [Option.some.injEq, Prod.mk.injEq] at he; exact he.1.symm
    · split at he
      · cases hp : part ‹_› o (len * esz) with
        | none => simp [hp] at he
        | some l =>
          simp only [hp, Option.map_some, Option.some.injEq, Prod.mk.injEq] at he
          omega
      · cases he
  | str s =>
    simp only at he
    split at he
    · simp only [Option.some.injEq, Prod.mk.injEq] at he
      obtain ⟨rfl, rfl⟩ := he
      rw [List.eq_nil_of_length_eq_zero hn]; rfl
    · cases he
  | _ => cases he

/-- A block is let go. -/
theorem Step.kill (r : WR base φ h w) (c : Nat) : Step base φ h w φ (h.kill c) w := by
  have hg : ∀ b o, (h.kill c).get b = some o → h.get b = some o := fun b o e => by
    rw [Heap.get_kill] at e
    by_cases hc : c = b
    · simp [hc] at e
    · simpa [hc] using e
  exact ⟨φ.le_refl, ⟨r.dom, fun b o e => r.live b o (hg b o e), fun b b' o o' m m' e e' => r.sep b b' o o' m m' (hg b o e) (hg b' o' e'), r.low, fun b t c e => r.tags b t c e⟩, Nat.le_refl _, rfl, rfl, rfl, fun _ _ _ => rfl, fun _ _ => rfl,
    fun b o m e hw hm _ => ⟨b, o, m, hg b o e, hw, hm, rfl⟩, fun b m e => .inl ⟨b, m, e, rfl⟩⟩
theorem grownCap_sub (w : World) (need old : Nat) (e : TypeId) : need ≤ grownCap w need old e := grownCap_ge w need old e

/-- What append needs to know of its types. -/
structure AppT (P : Program) (ts tx e : TypeId) (i : TypeInfo) (esz bytes : Nat) : Prop where
  hs : P.underlying ts = some (.slice e)
  hx : ∃ d, P.underlying tx = some d ∧ (∀ k, d ≠ .int k)
  hi : P.info? e = some i
  hz : ∃ z, i.zero = some z
  size : i.size = esz
  zsz : ∀ z, i.zero = some z → esz ≤ z.cells.size
  bytes : i.bytes = bytes
  pos : 0 < esz

theorem cell_alloc_keep {w w' : World} {o : Obj} (hh : w'.heap = w.heap.push o) {a : Addr} {v : Value} (e : w.cell? a = some v) : w'.cell? a = some v := by
  have hlt := World.block_lt_of_cell? w a e
  rw [← e]
  simp only [World.cell?, hh, Array.getElem?_push]
  rw [if_neg (by omega)]
theorem cell_drew {a : Addr} {v : Value} (e : w.cell? a = some v) : w.drew.cell? a = some v := e

/-- Cells in memory are single. -/
theorem hone_of (r : WR base φ h w) {b : Nat} {ro : Bool} {cs l : List AV} {m : BM} {o n : Nat} (e : h.get b = some (.cells ro cs)) (hm : φ b = some m) (hp : part cs o n = some l) : allOne l = true := by
  refine List.all_eq_true.2 fun a ha => ?_
  have hmem : a ∈ cs := by
    unfold part at hp
    split at hp
    · simp only [Option.some.injEq] at hp; subst hp
      exact List.mem_of_mem_drop (List.mem_of_mem_take ha)
    · cases hp
  obtain ⟨j, hj⟩ := List.getElem?_of_mem hmem
  exact (r.cellsR e hm).2.2.2 j a hj
/-- What is behind a grown row. -/
theorem realloc_sound {ts tx e ty : TypeId} {i : TypeInfo} {esz bytes : Nat} (T : AppT P ts tx e i esz bytes) {s' x' : Value} {old news : List AV} {n len cap' : Nat} {base' : Option Addr} {olds vs : List Value}
    (hs' : s' = .slice base' len cap') (hl : (Builtin.lenOf x').run P w = .ok n w) (ho1 : VRs φ old olds) (ho2 : (Builtin.firstCells esz len s').run P w.drew = .ok olds.toArray w.drew) (hv1 : VRs φ news vs) (hv2 : (Builtin.firstCells esz n x').run P w.drew = .ok vs.toArray w.drew)
    (hlo : old.length = len * esz) (hln : news.length = n * esz) (hone : allOne old = true) (hnew : allOne news = true) (hg : cap' < len + n) (hb : (len + n) * bytes ≤ 70368744177664) (h63 : len + n ≤ 70368744177664)
    {h1 : Heap} (hk : Step base φ h w φ h1 w) (tg : Bool) :
    OkV base φ h w ((Builtin.append_ #[ts, tx] ty #[s', x']).run P w) (.slice h1.nx 0 (len + n) (len + n) esz) (Bool.rec (h1.push (.cells false (old ++ news))) (h1.pushE e (old ++ news)) tg) := by
  obtain ⟨z, hz⟩ := T.hz
  obtain ⟨d, hd, hdi⟩ := T.hx
  subst hs'
  have hge := grownCap_ge w (len + n) cap' e
  have hn : ¬ (len + n ≤ cap') := by omega
  have h63' : ¬ (9223372036854775807 < ((len : Int) + (n : Int))) := by omega
  have hfit := growslice_fits (bytes := bytes) hg (by omega)
  have h48' : ¬ (281474976710656 < Builtin.nextslicecap (len + n) cap' * bytes) := by omega
  have hnk : ∀ k, d = .int k → False := fun k e => hdi k e
  have hm : (match d with | .int _ => true | _ => false) = false := by
    cases d <;> first | rfl | exact (hnk _ rfl).elim
  have run : (Builtin.append_ #[ts, tx] ty #[.slice base' len cap', x']).run P w =
      .ok (.slice (some ⟨w.heap.size, 0, none⟩) (len + n) (grownCap w (len + n) cap' e))
        (w.drew.alloc (.cells (olds.toArray ++ vs.toArray ++ Builtin.zeroCells z.cells (grownCap w (len + n) cap' e - (len + n))) e)) := by
    have hi' := T.hi
    have e1 := T.size
    have e2 := T.bytes
    simp only [Builtin.append_]
    simp [run_underlying T.hs, run_underlying hd, sizeOf, typeInfo, zeroValue, hi', hz, e1, e2, hm, hl, hn, h63', h48', Question.forced, ho2, hv2, newRow, grownCap]
    congr 2
    apply Array.ext'
    simp [List.append_assoc]
  have r1 := hk.wr
  have hlen : (old ++ news).length = (len + n) * esz := by rw [List.length_append, hlo, hln, Nat.add_mul]
  have hall : allOne (old ++ news) = true := List.all_eq_true.2 fun x hx => (List.mem_append.1 hx).elim (allOne_mem hone x) (allOne_mem hnew x)
  have hzs : z.cells.size = esz ∨ True := .inr trivial
  by_cases hz0 : esz ≤ z.cells.size
  · have hst := alloc_cells r1 (w' := w.drew.alloc (.cells (olds.toArray ++ vs.toArray ++ Builtin.zeroCells z.cells (grownCap w (len + n) cap' e - (len + n))) e))
      (arr := olds.toArray ++ vs.toArray ++ Builtin.zeroCells z.cells (grownCap w (len + n) cap' e - (len + n))) (ty := e) (fz := (0, 0)) (vs := olds ++ vs) (rest := (Builtin.zeroCells z.cells (grownCap w (len + n) cap' e - (len + n))).toList)
      (grownCap w (len + n) cap' e - (len + n)) esz (by simp) (ho1.append hv1) hall (by
        rw [Array.length_toList, size_zeroCells]; exact Nat.mul_le_mul_left _ hz0) (.inr rfl) rfl rfl rfl rfl
    have hst2 : Step base φ h1 w (φ.upd h1.nx ⟨w.heap.size, 0, grownCap w (len + n) cap' e - (len + n), esz, (old ++ news).length⟩) (Bool.rec (h1.push (.cells false (old ++ news))) (h1.pushE e (old ++ news)) tg) (w.drew.alloc (.cells (olds.toArray ++ vs.toArray ++ Builtin.zeroCells z.cells (grownCap w (len + n) cap' e - (len + n))) e)) := by
      cases tg
      · exact hst
      · exact hst.tag (Phi.upd_same _ _ _) rfl (shape_alloc w.drew _ e) (fun h => absurd rfl h)
    refine ⟨_, _, _, run, ?_, hk.trans hst2⟩
    simp only [VR]
    exact ⟨_, 0, grownCap w (len + n) cap' e, Phi.upd_same _ _ _, Nat.le_refl _, fun _ => ⟨rfl, by simp only [Nat.zero_add]; exact hlen.symm⟩, by have := T.pos; rw [if_neg (by omega)]; simp only; omega, .inr rfl, rfl⟩
  · exact absurd (T.zsz z hz) hz0

theorem run_append_zero {ts tx e ty : TypeId} {i : TypeInfo} {esz bytes : Nat} (T : AppT P ts tx e i esz bytes) {x' : Value} {len cap' : Nat} {base' : Option Addr} {vs : List Value} (hl : (Builtin.lenOf x').run P w = .ok 0 w) (hv2 : (Builtin.firstCells esz 0 x').run P w = .ok #[] w) (hc : len ≤ cap') :
    (Builtin.append_ #[ts, tx] ty #[.slice base' len cap', x']).run P w = .ok (.slice base' len cap') w := by
  obtain ⟨z, hz⟩ := T.hz
  obtain ⟨d, hd, hdi⟩ := T.hx
  have hnk : ∀ k, d = .int k → False := fun k e => hdi k e
  have hi' := T.hi
  have e1 := T.size
  have e2 := T.bytes
  have hm : (match d with | .int _ => true | _ => false) = false := by
    cases d <;> first | rfl | exact (hnk _ rfl).elim
  simp only [Builtin.append_]
  cases base' <;> simp [run_underlying T.hs, run_underlying hd, sizeOf, typeInfo, hi', e1, hm, hl, hc, hv2, storeCells]

theorem run_append_place {ts tx e ty : TypeId} {i : TypeInfo} {esz bytes : Nat} (T : AppT P ts tx e i esz bytes) {x' : Value} {n len cap' cb off : Nat} {vs : List Value} (hl : (Builtin.lenOf x').run P w = .ok n w) (hv2 : (Builtin.firstCells esz n x').run P w = .ok vs.toArray w)
    (hc : len + n ≤ cap') {w' : World} (hst : (storeCells ⟨cb, off + len * esz, none⟩ vs).run P w = .ok () w') :
    (Builtin.append_ #[ts, tx] ty #[.slice (some ⟨cb, off, none⟩) len cap', x']).run P w = .ok (.slice (some ⟨cb, off, none⟩) (len + n) cap') w' := by
  obtain ⟨d, hd, hdi⟩ := T.hx
  have hnk : ∀ k, d = .int k → False := fun k e => hdi k e
  have hi' := T.hi
  have e1 := T.size
  have hm : (match d with | .int _ => true | _ => false) = false := by
    cases d <;> first | rfl | exact (hnk _ rfl).elim
  simp only [Builtin.append_]
  simp [run_underlying T.hs, run_underlying hd, sizeOf, typeInfo, hi', e1, hm, hl, hc, hv2, addr_add, hst]

theorem append_sound {ts tx e ty : TypeId} {i : TypeInfo} {esz bytes : Nat} (T : AppT P ts tx e i esz bytes) {s x v : AV} {s' x' : Value} {h' : Heap} (hv : appendA h esz bytes e s x = some (v, h')) (hs : VR φ s s') (hx : VR φ x x') (r : WR base φ h w) :
    OkV base φ h w ((Builtin.append_ #[ts, tx] ty #[s', x']).run P w) v h' := by
  unfold appendA at hv
  split at hv
  · cases hv
  · rename_i news n he
    obtain ⟨hl, vs, k1, k2, k3⟩ := elems_sound he hx r
    have hvw := k3 w (fun _ _ e => e) n news ⟨rfl, rfl⟩
    have hvd := k3 w.drew (fun _ _ e => e) n news ⟨rfl, rfl⟩
    have hzero : n = 0 → vs = [] := fun h0 => by
      have := k1.length
      rw [k2, h0, Nat.zero_mul] at this
      exact List.eq_nil_of_length_eq_zero this
    cases s with
    | nilSlice =>
      simp only at hv
      have hs0 := hs
      simp only [VR] at hs; subst hs
      split at hv
      · rename_i h0
        simp only [Option.some.injEq, Prod.mk.injEq] at hv
        obtain ⟨rfl, rfl⟩ := hv
        subst h0
        rw [hzero rfl] at hvw
        exact OkV.same r (run_append_zero T (vs := []) hl hvw (Nat.le_refl _)) hs0
      · rename_i h0
        split at hv
        · rename_i hh
          simp only [Option.some.injEq, Prod.mk.injEq] at hv
          obtain ⟨rfl, rfl⟩ := hv
          have := realloc_sound (ty := ty) T (old := []) (olds := []) (len := 0) (cap' := 0) (base' := none) rfl hl rfl (by simp [Builtin.firstCells]) k1 hvd (by simp) k2 rfl hh.2.2 (by omega) (by simpa using hh.1) (by omega) (Step.refl r) true
          simpa using this
        · cases hv
    | slice b o len cap g =>
      simp only at hv
      have hs0 := hs
      simp only [VR] at hs
      obtain ⟨m, off, cap', hm, hlc, hgg, hcap, hoff, rfl⟩ := hs
      have hcc : cap ≤ cap' := by rw [hcap]; split <;> omega
      split at hv
      · rename_i h0
        simp only [Option.some.injEq, Prod.mk.injEq] at hv
        obtain ⟨rfl, rfl⟩ := hv
        subst h0
        rw [hzero rfl] at hvw
        exact OkV.same r (run_append_zero T (vs := []) hl hvw (by omega)) hs0
      · rename_i h0
        split at hv
        · rename_i hfit
          obtain rfl : off = m.shift + o := hoff.resolve_left (by omega)
          split at hv
          · rename_i cs hc
            split at hv
            · rename_i hh
              simp only [Option.some.injEq, Prod.mk.injEq] at hv
              obtain ⟨rfl, rfl⟩ := hv
              have hget := Heap.wcells_get hc
              have hfit2 : o + len * esz + news.length ≤ cs.length := by
                rw [k2, Nat.add_assoc, ← Nat.add_mul]; exact hh.1
              obtain ⟨hst, hex, hfz⟩ := write_cells (o := o + len * esz) r hget hm k1 hh.2 hfit2
              have hrun := run_storeCells_cells (P := P) m.cb (m.shift + (o + len * esz)) vs 0 w (by simpa using hex) (by simpa using hfz) (k1.oneCells hh.2)
              rw [Nat.add_zero, show m.shift + (o + len * esz) = m.shift + o + len * esz by omega] at hrun
              refine ⟨φ, _, _, run_append_place T hl hvw (by omega) hrun, ?_, by rwa [show m.shift + (o + len * esz) = m.shift + o + len * esz by omega] at hst⟩
              simp only [VR]
              exact ⟨m, m.shift + o, cap', hm, hfit, hgg, hcap, .inr rfl, rfl⟩
            · cases hv
          · cases hv
        · rename_i hfit
          split at hv
          · rename_i hh
            split at hv
            · rename_i hg0
              have hce : cap' = cap := by rw [hcap]; simp
              split at hv
              · rename_i hl0
                subst hl0
                simp only [Option.some.injEq, Prod.mk.injEq] at hv
                obtain ⟨rfl, rfl⟩ := hv
                have := realloc_sound (ty := ty) T (old := []) (olds := []) (len := 0) (cap' := cap') (base' := some ⟨m.cb, off, none⟩) rfl hl rfl (by simp [Builtin.firstCells, loadCells, loadCellsFrom]) k1 hvd (by simp) k2 rfl hh.2.2 (by omega) hh.1 hh.2.1 (Step.refl r) true
                simpa using this
              · rename_i hl0
                obtain rfl : off = m.shift + o := hoff.resolve_left (by omega)
                split at hv
                · rename_i cs hc
                  cases hp : Go.AS.part cs o (len * esz) with
                  | none => simp [hp] at hv
                  | some old =>
                    simp only [hp, Option.map_some, Option.some.injEq, Prod.mk.injEq] at hv
                    obtain ⟨rfl, rfl⟩ := hv
                    obtain ⟨ro, hget⟩ := Heap.cells_get hc
                    obtain ⟨olds, q1, q2, q3, q4⟩ := (r.cellsR hget hm).list hp
                    rw [appL_eq]
                    exact realloc_sound (ty := ty) T rfl hl q1 (run_firstCells_some (P := P) w.drew esz len _ len cap' olds q2 (fun j v e => by rw [addr_add]; exact q3 j v e)) k1 hvd (by rw [← q1.length, q2]) k2 (hone_of r hget hm hp) hh.2.2 (by omega) hh.1 hh.2.1 (Step.refl r) true
                · cases hv
            · rename_i hg0
              split at hv
              · rename_i hge
                subst hge
                split at hv
                · rename_i cs hc
                  cases hp : Go.AS.part cs o (len * g) with
                  | none => simp [hp] at hv
                  | some old =>
                    simp only [hp, Option.map_some, Option.some.injEq, Prod.mk.injEq] at hv
                    obtain ⟨rfl, rfl⟩ := hv
                    have hget := Heap.wcells_get hc
                    have hgp : g ≠ 0 := by have := T.pos; omega
                    obtain ⟨e1, e2⟩ := hgg hgp
                    have hcr := r.cellsR hget hm
                    obtain ⟨olds, q1, q2, q3, q4⟩ := hcr.list hp
                    have hol : old.length = len * g := by rw [← q1.length, q2]
                    rw [if_neg hgp] at hcap
                    rw [appL_eq]
                    by_cases hroom : len + n ≤ cap'
                    · obtain rfl : off = m.shift + o := hoff.resolve_left (by omega)
                      have hlenc : m.len = cs.length := hcr.1
                      have hx2 : o + len * g + news.length + (cap' - (len + n)) * g = cs.length + m.extra * m.esz := by
                        have h5 : (cap + m.extra) * g = len * g + n * g + (cap' - (len + n)) * g := by
                          rw [← Nat.add_mul, ← Nat.add_mul]; congr 1; omega
                        rw [e1, k2, ← hlenc, ← e2]
                        rw [Nat.add_mul] at h5
                        omega
                      obtain ⟨hst, hex, hfz⟩ := grow_cells (extra := cap' - (len + n)) (esz := g) r hget hm k1 hh.2.2 hp (by omega)
                      have hrun := run_storeCells_cells (P := P) m.cb (m.shift + o + len * g) vs 0 w (by simpa using hex) (by simpa using hfz) (k1.oneCells hh.2.2)
                      rw [Nat.add_zero] at hrun
                      have hst2 : Step base φ h w (φ.upd h.nx ⟨m.cb, m.shift + o, cap' - (len + n), g, (old ++ news).length⟩) (Bool.rec ((h.kill b).push (.cells false (old ++ news))) ((h.kill b).pushE e (old ++ news)) (Nat.beq o 0 && h.tagIs b e)) (w.setCells m.cb (m.shift + o + len * g) vs) := by
                        cases htg : (Nat.beq o 0 && h.tagIs b e)
                        · exact hst
                        · simp only [Bool.and_eq_true, Nat.beq_eq] at htg
                          obtain ⟨ho0, ht⟩ := htg
                          unfold Heap.tagIs at ht
                          split at ht
                          · rename_i t' c' hte
                            rw [Nat.beq_eq] at ht; subst ht
                            obtain ⟨m2, n2, u1, u2, u3, u4⟩ := r.tags b _ _ hte
                            rw [hm] at u1; cases u1
                            exact hst.tag (Phi.upd_same _ _ _) (by simp only; omega) (by rw [shape_setCells]; exact u3) (fun h => absurd rfl h)
                          · cases ht
                      refine ⟨_, _, _, run_append_place T hl hvw hroom hrun, ?_, hst2⟩
                      simp only [VR]
                      exact ⟨_, m.shift + o, cap', Phi.upd_same _ _ _, Nat.le_refl _, fun _ => ⟨rfl, by simp only [Nat.zero_add, List.length_append]; rw [hol, k2, Nat.add_mul]⟩, by rw [if_neg hgp]; simp only; omega, .inr rfl, rfl⟩
                    · by_cases hl0 : len = 0
                      · subst hl0
                        have hold : old = [] := List.eq_nil_of_length_eq_zero (by rw [hol]; simp)
                        subst hold
                        exact realloc_sound (ty := ty) T (old := []) (olds := []) (base' := some ⟨m.cb, off, none⟩) rfl hl rfl (by simp [Builtin.firstCells, loadCells, loadCellsFrom]) k1 hvd (by simp) k2 rfl hh.2.2 (by omega) hh.1 hh.2.1 (Step.kill r b) (Nat.beq o 0 && h.tagIs b e)
                      · obtain rfl : off = m.shift + o := hoff.resolve_left (by omega)
                        exact realloc_sound (ty := ty) T rfl hl q1 (run_firstCells_some (P := P) w.drew g len _ len cap' olds q2 (fun j v e => by rw [addr_add]; exact q3 j v e)) k1 hvd hol k2 (hone_of r hget hm hp) hh.2.2 (by omega) hh.1 hh.2.1 (Step.kill r b) (Nat.beq o 0 && h.tagIs b e)
                · cases hv
              · cases hv
          · cases hv
    | _ => cases hv
theorem run_copy {td ts e ty : TypeId} {esz n len cb off cap' : Nat} {s' : Value} {vs : List Value} (hu : P.underlying td = some (.slice e)) (hsz : sizeP P e = some esz) (hl : (Builtin.lenOf s').run P w = .ok n w)
    (hv : (Builtin.firstCells esz (min n len) s').run P w = .ok vs.toArray w) {w' : World} (hst : (storeCells ⟨cb, off, none⟩ vs).run P w = .ok () w') :
    (Builtin.copy_ #[td, ts] ty #[.slice (some ⟨cb, off, none⟩) len cap', s']).run P w = .ok (.int .i64 (Int.ofNat (min n len))) w' := by
  have hs := sizeP_run hsz w
  simp only [Builtin.copy_]
  have hmin : Nat.min n len = min n len := rfl
  simp [run_underlying hu, hl, hs, hv, hst, hmin, goInt]
theorem run_copy_none {td ts e ty : TypeId} {esz n len cap' : Nat} {s' : Value} {vs : Array Value} (hu : P.underlying td = some (.slice e)) (hsz : sizeP P e = some esz) (hl : (Builtin.lenOf s').run P w = .ok n w)
    (hv : (Builtin.firstCells esz (min n len) s').run P w = .ok vs w) :
    (Builtin.copy_ #[td, ts] ty #[.slice none len cap', s']).run P w = .ok (.int .i64 (Int.ofNat (min n len))) w := by
  have hs := sizeP_run hsz w
  simp only [Builtin.copy_]
  have hmin : Nat.min n len = min n len := rfl
  simp [run_underlying hu, hl, hs, hv, hmin, goInt]
theorem elems_first {esz : Nat} {x : AV} {x' : Value} {news : List AV} {n : Nat} (he : elemsA h esz x = some (news, n)) (hx : VR φ x x') (r : WR base φ h w) (k : Nat) (hk : k ≤ n) :
    ∃ vs, VRs φ (news.take (k * esz)) vs ∧ (Builtin.firstCells esz k x').run P w = .ok vs.toArray w ∧ vs.length = k * esz := by
  unfold elemsA at he
  cases x with
  | nilSlice =>
    simp only [Option.some.injEq, Prod.mk.injEq] at he
    obtain ⟨rfl, rfl⟩ := he
    simp only [VR] at hx; subst hx
    obtain rfl : k = 0 := by omega
    exact ⟨[], by simp [VRs], by simp [Builtin.firstCells], by simp⟩
  | slice b o len cap g =>
    simp only at he
    simp only [VR] at hx
    obtain ⟨m, off, cap', hm, hlc, _, hcap, hoff, rfl⟩ := hx
    split at he
    · rename_i h0
      simp only [Option.some.injEq, Prod.mk.injEq] at he
      obtain ⟨rfl, rfl⟩ := he
      obtain rfl : k = 0 := by omega
      exact ⟨[], by simp [VRs], by simp [Builtin.firstCells, loadCells, loadCellsFrom], by simp⟩
    · rename_i h0
      split at he
      · rename_i cs hc
        cases hp : part cs o (len * esz) with
        | none => simp [hp] at he
        | some l =>
          simp only [hp, Option.map_some, Option.some.injEq, Prod.mk.injEq] at he
          obtain ⟨rfl, rfl⟩ := he
          have hcc : cap ≤ cap' := by rw [hcap]; split <;> omega
          obtain rfl : off = m.shift + o := hoff.resolve_left (by omega)
          obtain ⟨ro, hget⟩ := Heap.cells_get hc
          obtain ⟨vs, k1, k2, k3, _⟩ := (r.cellsR hget hm).list hp
          have hle : k * esz ≤ len * esz := Nat.mul_le_mul_right _ hk
          refine ⟨vs.take (k * esz), k1.take _, ?_, by simp; omega⟩
          refine run_firstCells_some (P := P) w esz k ⟨m.cb, m.shift + o, none⟩ len cap' _ (by simp; omega) (fun j v e => ?_)
          rw [addr_add]
          have hj : j < k * esz := by
            have := (List.getElem?_eq_some_iff.1 e).1
            simp at this; omega
          rw [List.getElem?_take_of_lt hj] at e
          exact k3 j v e
      · cases he
  | str s =>
    simp only at he
    split at he
    · rename_i h1
      subst h1
      simp only [Option.some.injEq, Prod.mk.injEq] at he
      obtain ⟨rfl, rfl⟩ := he
      simp only [VR] at hx
      obtain ⟨s, rfl, rfl⟩ := hx
      rw [bytesN_length] at hk
      have hvr : VRs φ ((bytesN s).map fun b => AV.int .u8 (Int.ofNat b)) (s.data.map fun b => Value.int .u8 b.toNat).toList := by
        refine VRs.of_get _ _ (by simp [bytesN]) fun i x e => ?_
        simp only [List.getElem?_map, bytesN] at e
        cases hi : s.data.toList[i]? with
        | none => simp [hi] at e
        | some u =>
          simp only [hi, Option.map_some, Option.some.injEq] at e; subst e
          rw [Array.getElem?_toList] at hi
          exact ⟨.int .u8 u.toNat, by simp [hi], by simp [VR]⟩
      refine ⟨_, hvr.take (k * 1), ?_, by simp; omega⟩
      have hd : (s.extract 0 k).data = s.data.extract 0 k := ByteArray.data_extract
      simp only [Builtin.firstCells, hd]
      rw [Sem.run_pure]
      congr 1
      apply Array.ext'
      simp [List.extract, List.map_take]
    · cases he
  | _ => cases he
theorem copy_sound {td ts e ty : TypeId} {esz : Nat} {d s v : AV} {d' s' : Value} {h' : Heap} (hu : P.underlying td = some (.slice e)) (hsz : sizeP P e = some esz) (hv : copyA h esz d s = some (v, h')) (hd : VR φ d d') (hs : VR φ s s') (r : WR base φ h w) :
    OkV base φ h w ((Builtin.copy_ #[td, ts] ty #[d', s']).run P w) v h' := by
  unfold copyA at hv
  split at hv
  · cases hv
  · rename_i news n he
    obtain ⟨hl, vs0, k1, k2, _⟩ := elems_sound (P := P) he hs r
    cases d with
    | nilSlice =>
      simp only [Option.some.injEq, Prod.mk.injEq] at hv
      obtain ⟨rfl, rfl⟩ := hv
      simp only [VR] at hd; subst hd
      obtain ⟨vs, q1, q2, q3⟩ := elems_first (P := P) he hs r 0 (Nat.zero_le _)
      have := run_copy_none (len := 0) (cap' := 0) (ts := ts) (ty := ty) hu hsz hl (by rw [Nat.min_zero]; exact q2)
      rw [Nat.min_zero] at this
      exact OkV.same r this (by simp [VR])
    | slice b o len cap g =>
      simp only at hv
      simp only [VR] at hd
      obtain ⟨m, off, cap', hm, hlc, _, hcap, hoff, rfl⟩ := hd
      have hcc : cap ≤ cap' := by rw [hcap]; split <;> omega
      obtain ⟨vs, q1, q2, q3⟩ := elems_first (P := P) he hs r (min n len) (Nat.min_le_left _ _)
      split at hv
      · rename_i h0
        simp only [Option.some.injEq, Prod.mk.injEq] at hv
        obtain ⟨rfl, rfl⟩ := hv
        rw [h0, Nat.zero_mul] at q3
        obtain rfl : vs = [] := List.eq_nil_of_length_eq_zero q3
        have := run_copy (ts := ts) (ty := ty) (cb := m.cb) (off := off) (cap' := cap') hu hsz hl q2 (w' := w) (by rfl)
        rw [h0] at this
        exact OkV.same r this (by simp [VR])
      · rename_i h0
        obtain rfl : off = m.shift + o := hoff.resolve_left (by omega)
        split at hv
        · rename_i cs hc
          split at hv
          · rename_i hh
            simp only [Option.some.injEq, Prod.mk.injEq] at hv
            obtain ⟨rfl, rfl⟩ := hv
            have hget := Heap.wcells_get hc
            have hone : allOne (news.take (min n len * esz)) = true := List.all_eq_true.2 fun x hx => allOne_mem hh.2 x (List.mem_of_mem_take hx)
            have hln : (news.take (min n len * esz)).length = min n len * esz := by rw [← q1.length, q3]
            obtain ⟨hst, hex, hfz⟩ := write_cells (o := o) r hget hm q1 hone (by omega)
            have hrun := run_storeCells_cells (P := P) m.cb (m.shift + o) vs 0 w (by simpa using hex) (by simpa using hfz) (q1.oneCells hone)
            rw [Nat.add_zero] at hrun
            exact ⟨φ, _, _, run_copy hu hsz hl q2 hrun, by simp [VR], hst⟩
          · cases hv
        · cases hv
    | _ => cases hv
theorem fold_sound {f : AV → AV → Option AV} {g : Value → Value → Sem Value} (hfg : ∀ {x y z : AV} {x' y' : Value}, f x y = some z → VR φ x x' → VR φ y y' → ∃ z', (g x' y').run P w = .ok z' w ∧ VR φ z z') :
    ∀ {l : List AV} {l' : List Value} {x v : AV} {x' : Value}, foldA f x l = some v → VR φ x x' → VRs φ l l' → ∃ v', (l'.foldlM g x').run P w = .ok v' w ∧ VR φ v v'
  | [], l', x, v, x', hv, hx, hl => by
    simp only [VRs] at hl; subst hl
    simp only [foldA, Option.some.injEq] at hv; subst hv
    exact ⟨x', rfl, hx⟩
  | y :: l, l', x, v, x', hv, hx, hl => by
    simp only [VRs] at hl
    obtain ⟨y', l', rfl, h1, h2⟩ := hl
    simp only [foldA] at hv
    split at hv
    · rename_i z hz
      obtain ⟨z', k1, k2⟩ := hfg hz hx h1
      obtain ⟨v', q1, q2⟩ := fold_sound hfg hv k2 h2
      exact ⟨v', by simp [List.foldlM_cons, k1, q1], q2⟩
    · cases hv
theorem max2_sound {x y z : AV} {x' y' : Value} (hz : maxA x y = some z) (hx : VR φ x x') (hy : VR φ y y') : ∃ z', (Builtin.max2 x' y').run P w = .ok z' w ∧ VR φ z z' := by
  unfold maxA at hz
  split at hz
  · split at hz
    · rename_i a b _ hl
      rw [leI_eq, decide_eq_true_eq] at hl
      simp only [Option.some.injEq] at hz; subst hz
      simp only [VR] at hx hy; subst hy
      obtain ⟨n, rfl, hn⟩ := hx
      refine ⟨.int .i64 (if b > n then b else n), by simp [Builtin.max2], ?_⟩
      simp only [VR]
      exact ⟨_, rfl, by split <;> omega⟩
    · cases hz
  · split at hz
    · rename_i a b _ hl
      rw [leI_eq, decide_eq_true_eq] at hl
      simp only [Option.some.injEq] at hz; subst hz
      simp only [VR] at hx hy; subst hy
      obtain ⟨n, rfl, hn⟩ := hx
      refine ⟨.int .i64 (if b > n then b else n), by simp [Builtin.max2], ?_⟩
      simp only [VR]
      exact congrArg _ (by split <;> omega)
    · cases hz
  · rename_i k a k' b
    simp only [VR] at hx hy; subst hx; subst hy
    simp only [Option.some.injEq] at hz; subst hz
    refine ⟨.int k (if b > a then b else a), by simp [Builtin.max2], ?_⟩
    simp only [VR, ltI_eq, Value.int.injEq, true_and]
    by_cases hb : a < b <;> simp [hb]
  · cases hz
theorem min2_sound {x y z : AV} {x' y' : Value} (hz : minA x y = some z) (hx : VR φ x x') (hy : VR φ y y') : ∃ z', (Builtin.min2 x' y').run P w = .ok z' w ∧ VR φ z z' := by
  unfold minA at hz
  split at hz
  · split at hz
    · rename_i a b _ hl
      rw [leI_eq, decide_eq_true_eq] at hl
      simp only [Option.some.injEq] at hz; subst hz
      simp only [VR] at hx hy; subst hy
      obtain ⟨n, rfl, hn⟩ := hx
      refine ⟨.int .i64 (if b < n then b else n), by simp [Builtin.min2], ?_⟩
      simp only [VR]
      exact congrArg _ (by split <;> omega)
    · cases hz
  · split at hz
    · rename_i a b _ hl
      rw [leI_eq, decide_eq_true_eq] at hl
      simp only [Option.some.injEq] at hz; subst hz
      simp only [VR] at hx hy; subst hy
      obtain ⟨n, rfl, hn⟩ := hx
      refine ⟨.int .i64 (if b < n then b else n), by simp [Builtin.min2], ?_⟩
      simp only [VR]
      exact ⟨_, rfl, by split <;> omega⟩
    · cases hz
  · rename_i k a k' b
    simp only [VR] at hx hy; subst hx; subst hy
    simp only [Option.some.injEq] at hz; subst hz
    refine ⟨.int k (if b < a then b else a), by simp [Builtin.min2], ?_⟩
    simp only [VR, ltI_eq, Value.int.injEq, true_and]
    by_cases hb : b < a <;> simp [hb]
  · cases hz
end Go.AS

/- Bytes taken as a string, slices cleared, pointers that go through unsafe.Pointer (own work). -/
set_option linter.unusedSimpArgs false
set_option linter.unusedVariables false
namespace Go.AS
variable {P : Program} {G : Nat} {base : Nat} {φ : Phi} {h : Heap} {w : World}

theorem map_some {α β : Type} {x : Option α} {f : α → β} {y : β} (e : x.map f = some y) : ∃ z, x = some z ∧ f z = y := by
  cases x with
  | none => simp at e
  | some z => exact ⟨z, rfl, by simpa using e⟩

theorem cell_freeze (w : World) (p : Addr) (n : Nat) (a : Addr) : (w.freeze p n).cell? a = w.cell? a := by
  unfold World.freeze
  split
  · rfl
  · simp only [World.cell?, Array.getElem?_modify]
    by_cases e : p.block = a.block
    · simp only [e, if_true]
      cases w.heap[a.block]? with
      | none => rfl
      | some o => cases o <;> rfl
    · simp only [e, if_false]
theorem shape_freeze (w : World) (p : Addr) (n : Nat) (k : Nat) : (w.freeze p n).shape? k = w.shape? k := by
  unfold World.freeze
  split
  · rfl
  · simp only [World.shape?, Array.getElem?_modify]
    by_cases e : p.block = k
    · simp only [e, if_true]
      cases w.heap[k]? with
      | none => rfl
      | some o => cases o <;> rfl
    · simp only [e, if_false]
theorem heap_freeze (w : World) (p : Addr) (n : Nat) (k : Nat) (hk : k ≠ p.block) : (w.freeze p n).heap[k]? = w.heap[k]? := by
  unfold World.freeze
  split
  · rfl
  · simp only [Array.getElem?_modify]
    rw [if_neg (fun e => hk e.symm)]
theorem rest_freeze (w : World) (p : Addr) (n : Nat) : (w.freeze p n).heap.size = w.heap.size ∧ (w.freeze p n).tape = w.tape ∧ (w.freeze p n).os = w.os ∧ (w.freeze p n).output = w.output := by
  unfold World.freeze
  split
  · exact ⟨rfl, rfl, rfl, rfl⟩
  · exact ⟨by simp, rfl, rfl, rfl⟩
/-- A block of its own is frozen: it is read from then on. -/
theorem freeze_cells (r : WR base φ h w) {b : Nat} {cs : List AV} {m : BM} (hb : h.get b = some (.cells false cs)) (hm : φ b = some m) (o n : Nat) :
    Step base φ h w φ (h.set b (.cells true cs)) (w.freeze ⟨m.cb, o, none⟩ n) := by
  obtain ⟨k1, k2, k3, k4⟩ := rest_freeze w ⟨m.cb, o, none⟩ n
  refine Step.write r hb rfl hm k1 k2 k3 k4 (fun k hk => heap_freeze _ _ _ _ hk) (shape_freeze _ _ _ _) ?_
  obtain ⟨c1, c2, c3, c4⟩ := r.cellsR hb hm
  refine ⟨c1, fun j a e => ?_, fun hw => (by cases hw), c4⟩
  obtain ⟨v, e1, e2, e3⟩ := c2 j a e
  exact ⟨v, by rw [cell_freeze]; exact e1, e2, e3⟩

theorem ustr_sound {pt it ty e : TypeId} {p n v : AV} {p' n' : Value} {h' : Heap} (hp : P.underlying pt = some (.pointer e)) (hc : P.cellsOf e = 1) (hv : ustrA h e p n = some (v, h')) (hpv : VR φ p p') (hnv : VR φ n n') (r : WR base φ h w) :
    OkV base φ h w ((Builtin.unsafeString_ #[pt, it] ty #[p', n']).run P w) v h' := by
  have zero : ∀ (q : Option Addr), (Builtin.unsafeString_ #[pt, it] ty #[.pointer q, .int .i64 0]).run P w = .ok (.string .empty) w := fun q => Lib.run_unsafeString_none (P := P) (w := w) pt it ty q
  unfold ustrA at hv
  split at hv
  · simp only [VR] at hnv; subst hnv
    split at hv
    · simp only [Option.some.injEq, Prod.mk.injEq] at hv
      obtain ⟨rfl, rfl⟩ := hv
      simp only [VR] at hpv; subst hpv
      exact OkV.same r (zero none) (by simp only [VR]; exact ⟨_, rfl, rfl⟩)
    · simp only [Option.some.injEq, Prod.mk.injEq] at hv
      obtain ⟨rfl, rfl⟩ := hv
      simp only [VR] at hpv; obtain ⟨m, _, rfl⟩ := hpv
      exact OkV.same r (zero _) (by simp only [VR]; exact ⟨_, rfl, rfl⟩)
    · cases hv
  · rename_i k hk0
    simp only [VR] at hnv; subst hnv
    split at hv
    · rename_i b
      simp only [VR] at hpv; obtain ⟨m, hm, rfl⟩ := hpv
      split at hv
      · rename_i cs hcs
        have hget := Heap.wcells_get hcs
        split at hv
        · rename_i hcond
          obtain ⟨hk, hk63, htg⟩ := hcond
          split at hv
          · rename_i l hl
            obtain ⟨s, hs, hres⟩ := map_some hv
            simp only [Prod.mk.injEq] at hres
            obtain ⟨rfl, rfl⟩ := hres
            unfold Heap.tagIs at htg
            split at htg
            · rename_i t' c' hte
              rw [Nat.beq_eq] at htg; subst htg
              obtain ⟨m2, n2, u1, u2, u3, u4⟩ := r.tags b _ _ hte
              rw [hm] at u1; cases u1
              obtain ⟨vs, q1, q2, q3, q4⟩ := (r.cellsR hget hm).list hl
              obtain ⟨ns, rfl, rfl, k4⟩ := mapM_bytes hs q1
              have hlen : (ns.map fun n => UInt8.ofNat n.toNat).length = k.toNat := by simpa using q2
              have hkl : (k : Int) = ((ns.map fun n => UInt8.ofNat n.toNat).length : Nat) := by rw [hlen]; omega
              have hbyte : ∀ n ∈ ns, (UInt8.ofNat n.toNat).toNat = n.toNat := fun n hn => by
                have := k4 n hn
                rw [UInt8.toNat_ofNat']; omega
              have hcell : ∀ (j : Nat) (x : UInt8), (ns.map fun n => UInt8.ofNat n.toNat)[j]? = some x → w.cell? ((⟨m.cb, 0, none⟩ : Addr).add j) = some (.int .u8 x.toNat) := by
                intro j x hx
                simp only [List.getElem?_map, Option.map_eq_some_iff] at hx
                obtain ⟨n, hn, rfl⟩ := hx
                have := q3 j (.int .u8 n) (by simp [hn])
                rw [u2] at this
                rw [hbyte n (List.mem_of_getElem? hn)]
                have h5 := (k4 n (List.mem_of_getElem? hn)).1
                rw [show ((n.toNat : Nat) : Int) = n by omega]
                simpa [addr_add] using this
              have hle : (ns.map fun n => UInt8.ofNat n.toNat).length ≤ n2 := by
                rcases Nat.eq_zero_or_pos ns.length with h0 | h0
                · rw [hlen]; have : k.toNat = ns.length := by simpa using q2.symm
                  omega
                · have hlast : (ns.length - 1) < ns.length := by omega
                  have hx := hcell (ns.length - 1) _ (by simp only [List.getElem?_map, List.getElem?_eq_getElem hlast]; rfl)
                  obtain ⟨e5, n5, f1, f2, _⟩ := World.shape?_of_cell? hx
                  simp only [addr_add] at f1 f2
                  rw [u3] at f1; cases f1
                  simp only [List.length_map]; omega
              have hrun := Lib.run_unsafeString_row (P := P) w pt it ty _ hp hc m.cb n2 u3 (ns.map fun n => UInt8.ofNat n.toNat) (by
                intro e0
                rw [e0] at hlen; simp at hlen; omega) hle (by omega) hcell
              rw [← hkl] at hrun
              refine ⟨φ, _, _, by rw [u2]; exact hrun, ?_, freeze_cells r hget hm _ _⟩
              simp only [VR]
              refine ⟨_, rfl, ?_⟩
              simp only [bytesN, List.map_map]
              exact (List.map_congr_left fun n hn => (hbyte n hn)).symm
            · cases htg
          · cases hv
        · cases hv
      · cases hv
    · cases hv
  · cases hv
theorem clear_sound {t ty e : TypeId} {esz : Nat} {z : List AV} {x : AV} {x' : Value} {h' : Heap} (hu : P.underlying t = some (.slice e)) (hz : zerosP P e = some z) (hpos : 0 < esz) (hv : clearA h esz z x = some h') (hx : VR φ x x') (r : WR base φ h w) :
    OkV base φ h w ((Builtin.clear_ #[t] ty #[x']).run P w) (.tuple []) h' := by
  have hvt : VR φ (.tuple []) (.tuple #[]) := by simp [VR, VRs]
  cases x with
  | nilSlice =>
    simp only [clearA, Option.some.injEq] at hv; subst hv
    simp only [VR] at hx; subst hx
    exact OkV.same r (by simp [Builtin.clear_, run_underlying hu]) hvt
  | slice b o len cap g =>
    simp only [clearA] at hv
    simp only [VR] at hx
    obtain ⟨m, off, cap', hm, hlc, _, hcap, hoff, rfl⟩ := hx
    split at hv
    · rename_i h0
      simp only [Option.some.injEq] at hv; subst hv; subst h0
      exact OkV.same r (by simp [Builtin.clear_, run_underlying hu]) hvt
    · rename_i h0
      split at hv
      · rename_i cs hc
        split at hv
        · rename_i hh
          simp only [Option.some.injEq] at hv; subst hv
          have hcc : cap ≤ cap' := by rw [hcap]; split <;> omega
          obtain rfl : off = m.shift + o := hoff.resolve_left (by omega)
          obtain ⟨zv, z1, z2⟩ := zerosP_run hz w
          have hz3 := z2 φ
          have hzl : zv.cells.size = z.length := by rw [← Array.length_toList]; exact hz3.length
          have hzs := zeros_sound hz3 len (.inl (by omega))
          have heq : Builtin.zeroCells zv.cells len = (Array.range (len * z.length)).map (zv.cells[· % zv.cells.size]!) := by simp only [Builtin.zeroCells, hzl]
          rw [← heq] at hzs
          have hll : (zerosA z len).length = len * esz := by simp [zerosA, hh.1]
          obtain ⟨hst, hex, hfz⟩ := write_cells (o := o) r (Heap.wcells_get hc) hm hzs hh.2.2 (by rw [hll]; exact hh.2.1)
          have hrun := run_storeCells_cells (P := P) m.cb (m.shift + o) _ 0 w (by simpa using hex) (by simpa using hfz) (hzs.oneCells hh.2.2)
          rw [Nat.add_zero] at hrun
          refine ⟨φ, _, _, ?_, hvt, hst⟩
          obtain ⟨k, rfl⟩ : ∃ k, len = k + 1 := ⟨len - 1, by omega⟩
          simp [Builtin.clear_, run_underlying hu, z1, hrun]
        · cases hv
      · cases hv
  | _ => cases hv
theorem sdata_nil {ts : Array TypeId} {ty : TypeId} {x' : Value} (hx : VR φ .nilSlice x') : (Builtin.unsafeSliceData_ ts ty #[x']).run P w = .ok (.pointer none) w := by
  simp only [VR] at hx; subst hx
  rfl
theorem sdata_sound {ts : Array TypeId} {ty : TypeId} {b o len cap g : Nat} {x' : Value} (hx : VR φ (.slice b o len cap g) x') (hc : cap ≠ 0) :
    ∃ v', (Builtin.unsafeSliceData_ ts ty #[x']).run P w = .ok v' w ∧ VR φ (.ptr b o) v' := by
  simp only [VR] at hx
  obtain ⟨m, off, cap', hm, hlc, _, hcap, hoff, rfl⟩ := hx
  have hcc : cap ≤ cap' := by rw [hcap]; split <;> omega
  obtain rfl : off = m.shift + o := hoff.resolve_left (by omega)
  exact ⟨_, Lib.run_unsafeSliceData_row _ _ _ _ _ _ (by omega), by simp only [VR]; exact ⟨m, hm, rfl⟩⟩
theorem toU_nil {src dst t : TypeId} {x' : Value} (hs : P.underlying src = some (.pointer t)) (hd : P.underlying dst = some .unsafePointer) (hx : VR φ .nilPtr x') : (convert src dst x').run P w = .ok (.pointer none) w := by
  simp only [VR] at hx; subst hx
  simp [convert, run_underlying hs, run_underlying hd, Conv.unsafePointer]
theorem fromU_nil {src dst t : TypeId} {x' : Value} (hs : P.underlying src = some .unsafePointer) (hd : P.underlying dst = some (.pointer t)) (hx : VR φ .nilPtr x') : (convert src dst x').run P w = .ok (.pointer none) w := by
  simp only [VR] at hx; subst hx
  simp [convert, run_underlying hs, run_underlying hd, Conv.unsafePointer]
theorem sizeP_info {t : TypeId} {n : Nat} (h : sizeP P t = some n) : ∃ j, P.info? t = some j ∧ j.size = n := by
  unfold sizeP at h
  cases e : P.info? t with
  | none => simp [e] at h
  | some j => exact ⟨j, rfl, by simpa [e] using h⟩
theorem toU_sound {src dst t : TypeId} {n b o : Nat} {cs : List AV} {x' : Value} (hs : P.underlying src = some (.pointer t)) (hd : P.underlying dst = some .unsafePointer) (hn : sizeP P t = some (n + 1)) (hx : VR φ (.ptr b o) x') (hc : h.cells b = some cs) (ho : o < cs.length) (r : WR base φ h w) :
    (convert src dst x').run P w = .ok x' w := by
  simp only [VR] at hx
  obtain ⟨m, hm, rfl⟩ := hx
  obtain ⟨j, hj, hj2⟩ := sizeP_info hn
  obtain ⟨ro, hget⟩ := Heap.cells_get hc
  obtain ⟨v, e1, _⟩ := (r.cellsR hget hm).2.1 o cs[o] (by simp [ho])
  obtain ⟨e, c, f1, f2, _⟩ := World.shape?_of_cell? e1
  exact Lib.run_to_unsafe w _ hs hd hj (by omega) f1 f2
theorem fromU_sound {src dst u : TypeId} {n b o t c : Nat} {x' : Value} (hs : P.underlying src = some .unsafePointer) (hd : P.underlying dst = some (.pointer u)) (hn : sizeP P u = some n) (hx : VR φ (.ptr b o) x') (ht : h.tg.get b = some (t, c)) (h0 : c ≠ 0)
    (hl : liesAt P P.depth t (c / P.cellsOf t) o u 1 = true) (r : WR base φ h w) : (convert src dst x').run P w = .ok x' w := by
  simp only [VR] at hx
  obtain ⟨m, hm, rfl⟩ := hx
  obtain ⟨j, hj, _⟩ := sizeP_info hn
  obtain ⟨m2, n2, u1, u2, u3, u4⟩ := r.tags b t c ht
  rw [hm] at u1; cases u1
  have := u4 h0; subst this
  refine Lib.run_from_unsafe w _ hs hd hj u3 ?_
  rw [u2]; simpa using hl
end Go.AS

/- Each instruction is sound: all of them (own work). -/
set_option linter.unusedSimpArgs false
set_option linter.unusedVariables false
namespace Go.AS
variable {P : Program} {G : Nat} {base : Nat} {φ : Phi} {h : Heap} {w : World}

def DR (φ : Phi) (d : ADef) (d' : Deferred) : Prop := plainFn d.fn = true ∧ ∃ cap, d'.target = .fn d.fn cap ∧ VRs φ d.captured cap.toList ∧ VRs φ d.args d'.args.toList
/-- What an operation's run has to be. -/
def AxR (P : Program) (base : Nat) (φ : Phi) (h : Heap) (w : World) (res : Result Next) : OR → Prop
  | .val v h' => ∃ φ' v' w', (res = .ok (.value v') w' ∨ (res = .ok .skip w' ∧ v' = undef)) ∧ VR φ' v v' ∧ Step base φ h w φ' h' w'
  | .dfr d => ∃ d', res = .ok (.defer d') w ∧ DR φ d d'
  | .call f args => ∃ args', VRs φ args args'.toList ∧ res = (callFunc f args').run P w
  | .pan v => ∃ v', res = .halt (.panic v') w ∧ VR φ v v'
theorem AxR.of_ok (r : WR base φ h w) {res : Result Next} {v : AV} {v' : Value} (e : res = .ok (.value v') w) (hv : VR φ v v') : AxR P base φ h w res (.val v h) :=
  ⟨φ, v', w, .inl e, hv, Step.refl r⟩
theorem AxR.of_okV {s : Sem Value} {v : AV} {h' : Heap} (hk : OkV base φ h w (s.run P w) v h') : AxR P base φ h w ((do pure (Next.value (← s)) : Sem Next).run P w) (.val v h') := by
  obtain ⟨φ', v', w', e, k1, k2⟩ := hk
  exact ⟨φ', v', w', .inl (by simp [e]), k1, k2⟩
theorem AxR.of_run {s : Sem Value} {v : AV} {v' : Value} (r : WR base φ h w) (e : s.run P w = .ok v' w) (hv : VR φ v v') : AxR P base φ h w ((do pure (Next.value (← s)) : Sem Next).run P w) (.val v h) :=
  AxR.of_okV (OkV.same r e hv)
theorem AxR.of_okU {s : Sem Unit} {h' : Heap} (hk : OkU base φ h w (s.run P w) h') : AxR P base φ h w ((do s; pure Next.skip : Sem Next).run P w) (.val (.tuple []) h') := by
  obtain ⟨φ', w', e, k2⟩ := hk
  exact ⟨φ', undef, w', .inr ⟨by simp [e], rfl⟩, by simp [VR, VRs, undef], k2⟩
theorem oopd_sound {tm : Tm} {a : Act} (g : GL G φ) (t : TR φ tm a.tmps) {x : Option Operand} {y : Option Opd} (e : oopd G x = some y) : OVR φ (y.map (ev tm)) (x.map a.eval) := by
  cases x with
  | none => simp only [oopd, Option.some.injEq] at e; subst e; rfl
  | some x =>
    simp only [oopd] at e
    cases ho : opd G x with
    | none => simp [ho] at e
    | some z =>
      simp only [ho, Option.map_some, Option.some.injEq] at e; subst e
      exact ⟨_, rfl, opd_sound ho g t⟩
/-- A text's iterator is made. -/
theorem siter_sound {t : TypeId} {bs : ByteArray} (hu : P.underlying t = some .string) (r : WR base φ h w) : OkV base φ h w ((Instr.range t (.string bs)).run P w) (.ptr h.nx 0) (h.push (.siter (bytesN bs) 0)) := by
  refine ⟨φ.upd h.nx ⟨w.heap.size, 0, 0, 1, 0⟩, _, _, run_range_string w t bs hu, ?_, ?_⟩
  · simp [VR]
  · exact Step.alloc r (.stringIter bs 0) (.siter (bytesN bs) 0) ⟨w.heap.size, 0, 0, 1, 0⟩ rfl rfl rfl rfl rfl ⟨rfl, bs, World.iter_heap w bs 0, rfl⟩
theorem decN_eq (bs : ByteArray) (i : Nat) (hi : i < bs.size) : decN (lenL (bytesN bs)) (dropL i (bytesN bs)) = Utf8.decode bs i := by
  have hat : ∀ k, (nth (dropL i (bytesN bs)) k).getD 0 = (bs.get! (i + k)).toNat := by
    intro k
    rw [nth_eq, dropL_eq, List.getElem?_drop]
    unfold bytesN
    rw [List.getElem?_map]
    by_cases hk : i + k < bs.size
    · have h1 : (bs.data.toList)[i + k]? = some bs[i + k] := by
        rw [List.getElem?_eq_getElem (by simpa using hk)]; rfl
      have h2 : bs.get! (i + k) = bs[i + k] := by
        simp [ByteArray.get!, getElem!_pos, hk]
        rfl
      rw [h1, h2]; rfl
    · have h1 : (bs.data.toList)[i + k]? = none := by simpa using hk
      have h2 : bs.get! (i + k) = 0 := by
        simp [ByteArray.get!, getElem!_neg, hk]
        rfl
      rw [h1, h2]; rfl
  have hlen : lenL (dropL i (bytesN bs)) = bs.size - i := by rw [lenL_eq, dropL_eq, List.length_drop, bytesN_length]
  have hcont : ∀ k, Nat.ble (Nat.succ k) (bs.size - i) = decide (i + k < bs.size) := fun k => by
    rw [Bool.eq_iff_iff]; simp only [Nat.ble_eq, decide_eq_true_eq]; omega
  unfold decN Utf8.decode
  simp only [hat, hlen, hcont]
  have b2 : ∀ a b : Nat, Nat.beq a b = (a == b) := fun a b => by rw [Bool.eq_iff_iff]; simp
  have hrec : ∀ {α : Type} (b : Bool) (x y : α), @Bool.rec (fun _ => α) y x b = if b = true then x else y := fun b x y => by cases b <;> rfl
  have hlt : ∀ a, Nat.ble (Nat.succ a) 128 = decide (a < 128) := fun a => by rw [Bool.eq_iff_iff]; simp only [Nat.ble_eq, decide_eq_true_eq]; omega
  simp only [hrec, hlt, b2, Utf8.runeError, decide_eq_true_eq]
theorem snext_sound {bs : List Nat} {b i : Nat} {v : Value} {ty : TypeId} (hv : VR φ (.ptr b 0) v) (hg : h.get b = some (.siter bs i)) (r : WR base φ h w) :
    AxR P base φ h w ((do pure (Next.value (← Instr.next v true ty)) : Sem Next).run P w)
      (Bool.rec (.val (.tuple [.bool false]) h) (.val (.tuple [.bool true, .int .i64 (Int.ofNat i), .int .i32 (Int.ofNat (decN (lenL bs) (dropL i bs)).1)]) (h.set b (.siter bs (Nat.add i (decN (lenL bs) (dropL i bs)).2)))) (Nat.ble (Nat.succ i) (lenL bs))) := by
  simp only [VR] at hv
  obtain ⟨m, hm, rfl⟩ := hv
  obtain ⟨m', h1, h2, h3⟩ := r.live _ _ hg
  rw [hm] at h1; cases h1
  obtain ⟨h0, s, h4, rfl⟩ := h2
  rw [h0]
  have hgo : (getObj m.cb).run P w = .ok (.stringIter s i) w := by simp [getObj, Sem.run, h4]
  have hlt := (r.dom _ _ hm).2
  by_cases hi : i < s.size
  · have hb : Nat.ble (Nat.succ i) (lenL (bytesN s)) = true := by rw [lenL_eq, bytesN_length, Nat.ble_eq]; omega
    rw [hb]
    have hd := decN_eq s i hi
    refine AxR.of_okV ⟨φ, .tuple #[.bool true, .int .i64 (Int.ofNat i), .int .i32 (Int.ofNat (decN (lenL (bytesN s)) (dropL i (bytesN s))).1)], { w with heap := w.heap.setIfInBounds m.cb (.stringIter s (i + (Utf8.decode s i).2)) }, ?_, ?_, ?_⟩
    · rw [hd]
      simp [Instr.next, hgo, hi, goInt, setObj, Sem.run, h4]
    · simp [VR, VRs]
    · rw [hd]
      refine Step.write r hg rfl hm (by simp) rfl rfl rfl (fun k hk => by simp [Array.getElem?_setIfInBounds_ne (Ne.symm hk)]) (by simp only [World.shape?, h4, Array.getElem?_setIfInBounds_self_of_lt hlt]) ⟨h0, s, by simp [hlt], rfl⟩
  · have hb : Nat.ble (Nat.succ i) (lenL (bytesN s)) = false := by
      rw [lenL_eq, bytesN_length, Bool.eq_false_iff]
      intro hh
      have := Nat.le_of_ble_eq_true hh
      omega
    rw [hb]
    exact AxR.of_run r (v' := .tuple #[.bool false]) (by simp [Instr.next, hgo, hi]) (by simp [VR, VRs])
theorem strsL_cons (v : AV) (l : List AV) : strsL (v :: l) = match v, strsL l with
  | .str s, some r => some (s :: r)
  | _, _ => none := rfl
theorem strsL_get {cs : List AV} : ∀ {n : Nat} {l : List (List Nat)}, strsL (cs.take n) = some l → n ≤ cs.length → ∀ {j : Nat}, j < n → ∃ u, cs[j]? = some (.str u) ∧ u ∈ l := by
  have key : ∀ {cs : List AV} {l : List (List Nat)}, strsL cs = some l → ∀ {j : Nat}, j < cs.length → ∃ u, cs[j]? = some (.str u) ∧ u ∈ l := by
    intro cs
    induction cs with
    | nil => intro l _ j hj; simp at hj
    | cons v cs ih =>
      intro l h j hj
      rw [strsL_cons] at h
      split at h
      · rename_i s r e1
        simp only [Option.some.injEq] at h; subst h
        cases j with
        | zero => exact ⟨s, rfl, List.mem_cons_self ..⟩
        | succ j =>
          obtain ⟨u, u1, u2⟩ := ih e1 (j := j) (by simpa using hj)
          exact ⟨u, by simpa using u1, List.mem_cons_of_mem _ u2⟩
      · cases h
  intro n l h hcs j hj
  obtain ⟨u, u1, u2⟩ := key h (j := j) (by simp; omega)
  rw [List.getElem?_take_of_lt hj] at u1
  exact ⟨u, u1, u2⟩
theorem ax_pure {o : Oper} {ix : IX} {tm : Tm} {a : Act} {res : OR} (hc : compIX P G o = some ix) (hx : ax tm h ix = some res) (g : GL G φ) (t : TR φ tm a.tmps) (r : WR base φ h w)
    (hn : ∀ c, o.op ≠ .call c) : AxR P base φ h w ((execOp a.eval o).run P w) res := by
  unfold compIX at hc
  unfold execOp
  split at hc
  case h_1 x ho =>
    obtain ⟨y, k1, rfl⟩ := map_some hc
    simp only [ax, Option.some.injEq] at hx; subst hx
    simp only [ho]
    exact AxR.of_ok r rfl (opd_sound k1 g t)
  case h_2 x ho =>
    obtain ⟨y, k1, rfl⟩ := map_some hc
    simp only [ax, Option.some.injEq] at hx; subst hx
    simp only [ho]
    exact AxR.of_ok r rfl (opd_sound k1 g t)
  case h_3 c x y ho =>
    simp only [ho]
    split at hc
    · rename_i c' x' y' k1 k2 k3
      simp only [Option.some.injEq] at hc; subst hc
      have hcv := opd_sound k1 g t
      simp only [ax] at hx
      split at hx
      · rename_i hb
        simp only [Option.some.injEq] at hx; subst hx
        rw [hb] at hcv; simp only [VR] at hcv
        exact AxR.of_ok r (by simp [hcv, asBool]) (opd_sound k2 g t)
      · rename_i hb
        simp only [Option.some.injEq] at hx; subst hx
        rw [hb] at hcv; simp only [VR] at hcv
        exact AxR.of_ok r (by simp [hcv, asBool]) (opd_sound k3 g t)
      · cases hx
    · cases hc
  case h_4 e ho =>
    simp only [ho]
    split at hc
    · rename_i z zs hz
      split at hc
      · rename_i hone
        simp only [Option.some.injEq] at hc; subst hc
        simp only [ax, Option.some.injEq] at hx; subst hx
        obtain ⟨v, k1, k2⟩ := zerosP_run (P := P) hz w
        refine AxR.of_okV ?_
        have := new_soundT (P := P) (e := e) (k2 φ) hone r
        simpa [Instr.alloc, k1, newVar] using this
      · cases hc
    · cases hc
  case h_5 e x ho =>
    simp only [ho]
    obtain ⟨y, k1, rfl⟩ := map_some hc
    simp only [ax] at hx
    split at hx
    · rename_i hone
      simp only [Option.some.injEq] at hx; subst hx
      refine AxR.of_okV ?_
      have := new_soundT (P := P) (e := e) (cells_of (opd_sound k1 g t) hone) hone r
      rw [lenL_eq]
      simpa [Instr.box, newVar] using this
    · cases hx
  case h_6 ty parts ho =>
    simp only [ho]
    split at hc
    · rename_i fields z hu hz
      split at hc
      · rename_i hh
        obtain ⟨l', k1, rfl⟩ := map_some hc
        simp only [ax] at hx
        obtain ⟨cs, k2, rfl⟩ := map_some hx
        simp only [Bool.and_eq_true] at hh
        obtain ⟨v', q1, q2⟩ := build_struct (P := P) (w := w) g t hu hz hh.1 k1 k2
        exact AxR.of_run r q1 q2
      · cases hc
    · rename_i len e z hu hz
      split at hc
      · rename_i n hn
        split at hc
        · obtain ⟨l', k1, rfl⟩ := map_some hc
          simp only [ax] at hx
          obtain ⟨cs, k2, rfl⟩ := map_some hx
          obtain ⟨v', q1, q2⟩ := build_array (P := P) (w := w) g t hu hz hn k1 k2
          exact AxR.of_run r q1 q2
        · cases hc
      · cases hc
    · cases hc
  case h_7 ty len parts ho =>
    simp only [ho]
    split at hc
    · rename_i e hu
      split at hc
      · rename_i n z hn hz
        split at hc
        · rename_i hone
          obtain ⟨l', k1, rfl⟩ := map_some hc
          simp only [ax] at hx
          split at hx
          · rename_i hh
            obtain ⟨cs, k2, rfl⟩ := map_some hx
            exact AxR.of_okV (mkSlice_sound (P := P) g t hu hz hn k1 (by omega) hh.1 hone hh.2 k2 r)
          · cases hx
        · cases hc
      · cases hc
    · cases hc
  case h_8 ty x ho =>
    simp only [ho]
    split at hc
    · rename_i gg n y k1 k2 k3
      simp only [Option.some.injEq] at hc; subst hc
      simp only [ax] at hx
      obtain ⟨v, k4, rfl⟩ := map_some hx
      obtain ⟨v', q1, q2⟩ := load_sound (P := P) k1 k2 k4 (opd_sound k3 g t) r
      exact AxR.of_run r q1 q2
    · cases hc
  case h_9 ty x y ho =>
    simp only [ho]
    split at hc
    · rename_i n x' y' k1 k2 k3
      simp only [Option.some.injEq] at hc; subst hc
      simp only [ax] at hx
      obtain ⟨h', k4, rfl⟩ := map_some hx
      exact AxR.of_okU (store_sound (P := P) k1 k4 (opd_sound k2 g t) (opd_sound k3 g t) r)
    · cases hc
  case h_10 x ho =>
    simp only [ho]
    obtain ⟨y, k1, rfl⟩ := map_some hc
    have hv := opd_sound k1 g t
    simp only [ax] at hx
    split at hx
    · rename_i b o hb
      simp only [Option.some.injEq] at hx; subst hx
      rw [hb] at hv
      have hv0 := hv
      simp only [VR] at hv; obtain ⟨m, _, e⟩ := hv
      rw [e]; exact AxR.of_ok r rfl (e ▸ hv0)
    · rename_i f x1 x2 hb
      simp only [Option.some.injEq] at hx; subst hx
      rw [hb] at hv
      have hv0 := hv
      simp only [VR] at hv; obtain ⟨_, m, _, e, _⟩ := hv
      rw [e]; exact AxR.of_ok r rfl (e ▸ hv0)
    · rename_i f x1 hb
      simp only [Option.some.injEq] at hx; subst hx
      rw [hb] at hv
      have hv0 := hv
      simp only [VR] at hv; obtain ⟨m, e, _⟩ := hv
      rw [e]; exact AxR.of_ok r rfl (e ▸ hv0)
    · cases hx
  case h_11 op ty x y ty2 ho =>
    simp only [ho]
    split at hc
    · rename_i x' y' k1 k2
      simp only [Option.some.injEq] at hc; subst hc
      simp only [ax] at hx
      obtain ⟨v, k4, rfl⟩ := map_some hx
      obtain ⟨v', q1, q2⟩ := abin_sound (P := P) (w := w) k4 (opd_sound k1 g t) (opd_sound k2 g t)
      exact AxR.of_run r q1 q2
    · cases hc
  case h_12 op ty x ho =>
    simp only [ho]
    obtain ⟨y, k1, rfl⟩ := map_some hc
    simp only [ax] at hx
    obtain ⟨v, k4, rfl⟩ := map_some hx
    obtain ⟨v', q1, q2⟩ := aun_sound (P := P) (w := w) k4 (opd_sound k1 g t)
    exact AxR.of_run r q1 q2
  case h_13 src dst x ho =>
    simp only [ho]
    split at hc
    · rename_i d k y hs hd k1
      simp only [Option.some.injEq] at hc; subst hc
      have hv := opd_sound k1 g t
      simp only [ax] at hx
      split at hx
      case h_2 kk k0 n e hb =>
        simp only [CK.toInt.injEq] at e; subst e
        simp only [Option.some.injEq] at hx; subst hx
        rw [hb] at hv; simp only [VR] at hv; rw [hv]
        exact AxR.of_run r (toInt_sound (P := P) hs hd) (by simp [VR])
      all_goals first | (rename_i e _; cases e; done) | cases hx
    · rename_i y hs hd k1
      simp only [Option.some.injEq] at hc; subst hc
      have hv := opd_sound k1 g t
      simp only [ax] at hx
      split at hx
      case h_1 s e hb =>
        simp only [Option.some.injEq] at hx; subst hx
        rw [hb] at hv
        have hv0 := hv
        simp only [VR] at hv; obtain ⟨s, e1, e2⟩ := hv; rw [e1]
        exact AxR.of_run r (same_sound (P := P) hs hd) (by rw [← e1]; exact hv0)
      all_goals first | (rename_i e _; cases e; done) | cases hx
    · rename_i el y hs hd k1
      split at hc
      · rename_i he hn
        simp only [Option.some.injEq] at hc; subst hc
        have hv := opd_sound k1 g t
        simp only [ax] at hx
        split at hx
        case h_7 s e hb =>
          simp only [Option.some.injEq] at hx; subst hx
          rw [hb] at hv
          simp only [VR] at hv; obtain ⟨s, e1, rfl⟩ := hv; rw [e1]
          exact AxR.of_okV (s2b_sound (P := P) hs hd he r)
        all_goals first | (rename_i e _; cases e; done) | cases hx
      · cases hc
    · rename_i el y hs hd k1
      split at hc
      · rename_i he
        simp only [Option.some.injEq] at hc; subst hc
        have hv := opd_sound k1 g t
        simp only [ax] at hx
        split at hx
        case h_8 e hb =>
          simp only [Option.some.injEq] at hx; subst hx
          rw [hb] at hv; simp only [VR] at hv; rw [hv]
          obtain ⟨v', q1, q2⟩ := b2sNil_sound (P := P) (φ := φ) (w := w) hs hd he
          exact AxR.of_run r q1 q2
        case h_9 b o len cap gg e hb =>
          rw [hb] at hv
          split at hx
          · rename_i h0
            simp only [Option.some.injEq] at hx; subst hx
            obtain ⟨v', q1, q2⟩ := b2s_sound (P := P) (cs := []) (l := []) hs hd he hv (.inl ⟨h0, rfl⟩) r
            exact AxR.of_run r q1 q2
          · rename_i h0
            split at hx
            · rename_i cs hcs
              split at hx
              · rename_i l hp
                obtain ⟨s, k4, rfl⟩ := map_some hx
                obtain ⟨v', q1, q2⟩ := b2s_sound (P := P) hs hd he hv (.inr ⟨h0, hcs, hp, k4⟩) r
                exact AxR.of_run r q1 q2
              · cases hx
            · cases hx
        all_goals first | (rename_i e _; cases e; done) | cases hx
      · cases hc
    · rename_i t1 y hs hd k1
      split at hc
      · rename_i n hn
        simp only [Option.some.injEq] at hc; subst hc
        have hv := opd_sound k1 g t
        simp only [ax] at hx
        split at hx
        case h_3 e hb =>
          simp only [Option.some.injEq] at hx; subst hx
          rw [hb] at hv
          exact AxR.of_run r (toU_nil (P := P) hs hd hv) (by simp [VR])
        case h_4 b o e hb =>
          split at hx
          · rename_i cs hcs
            split at hx
            · rename_i ho
              simp only [Option.some.injEq] at hx; subst hx
              rw [hb] at hv
              exact AxR.of_run r (toU_sound (P := P) hs hd hn hv hcs ho r) hv
            · cases hx
          · cases hx
        all_goals first | (rename_i e _; cases e; done) | cases hx
      · cases hc
    · rename_i u y hs hd k1
      split at hc
      · rename_i n hn
        simp only [Option.some.injEq] at hc; subst hc
        have hv := opd_sound k1 g t
        simp only [ax] at hx
        split at hx
        case h_5 chk e hb =>
          simp only [Option.some.injEq] at hx; subst hx
          rw [hb] at hv
          exact AxR.of_run r (fromU_nil (P := P) hs hd hv) (by simp [VR])
        case h_6 chk b o e hb =>
          simp only [CK.fromU.injEq] at e; subst e
          split at hx
          · rename_i tt c htg
            split at hx
            · rename_i hcond
              simp only [Option.some.injEq] at hx; subst hx
              rw [hb] at hv
              simp only [Bool.and_eq_true, Bool.not_eq_true'] at hcond
              exact AxR.of_run r (fromU_sound (P := P) hs hd hn hv htg (fun e0 => by rw [e0] at hcond; simp at hcond) hcond.1 r) hv
            · cases hx
          · cases hx
        all_goals first | (rename_i e _; cases e; done) | cases hx
      · cases hc
    · cases hc
  case h_14 ty x ho =>
    simp only [ho]
    split at hc
    · cases hc
    · rename_i d hni hu
      obtain ⟨y, k1, rfl⟩ := map_some hc
      simp only [ax, Option.some.injEq] at hx; subst hx
      refine AxR.of_run r (v' := .iface ty (a.eval x)) ?_ (by simp only [VR]; exact ⟨_, rfl, opd_sound k1 g t⟩)
      have : ∀ d, P.underlying ty = some d → (∀ ms, d ≠ .interface ms) → (Instr.makeInterface ty (a.eval x)).run P w = .ok (.iface ty (a.eval x)) w := fun d hd hn => by
        simp only [Instr.makeInterface, Sem.run_bind, run_underlying hd, Result.andThen_ok]
        cases d <;> first | rfl | exact absurd rfl (hn _)
      exact this d hu (fun ms e => hni ms e)
    · cases hc
  case h_15 fn first captured ho =>
    simp only [ho]
    split at hc
    · rename_i l1 l2 k0 k1 k2
      simp only [Option.some.injEq] at hc; subst hc
      simp only [ax, Option.some.injEq] at hx; subst hx
      refine AxR.of_run r (v' := .func fn (first.map a.eval) (captured.map a.eval)) rfl ?_
      simp only [VR]
      exact ⟨k0, _, _, rfl, by simpa using opds_sound g t k1, by simpa using opds_sound g t k2⟩
    · cases hc
  case h_16 ty ho =>
    simp only [ho]
    simp only [Option.some.injEq] at hc; subst hc
    simp only [ax, Option.some.injEq] at hx; subst hx
    refine AxR.of_okV ⟨_, .map (some w.heap.size), w.alloc (.map #[] 0), by simp [Instr.makeMap], ?_, Step.alloc r (.map #[] 0) (.map [] 0) ⟨w.heap.size, 0, 0, 0, 0⟩ rfl rfl rfl rfl rfl ⟨#[], by simp [World.alloc, -World.alloc_eq], rfl⟩⟩
    simp [VR]
  case h_17 ty k n ho =>
    simp only [ho]
    split at hc
    · rename_i hu
      simp only [Option.some.injEq] at hc; subst hc
      simp only [ax, Option.some.injEq] at hx; subst hx
      refine AxR.of_okV ⟨_, .map (some w.heap.size), w.alloc (.map #[] 0), by simp [Instr.makeMap, run_underlying hu, asInt, asIntOf, Act.eval], ?_, Step.alloc r (.map #[] 0) (.map [] 0) ⟨w.heap.size, 0, 0, 0, 0⟩ rfl rfl rfl rfl rfl ⟨#[], by simp [World.alloc, -World.alloc_eq], rfl⟩⟩
      simp [VR]
    · cases hc
  case h_18 ty l c ho =>
    simp only [ho]
    split at hc
    · rename_i e hu
      split at hc
      · rename_i i z l' c' hi hz k1 k2
        split at hc
        · rename_i n hsz
          split at hc
          · rename_i hone
            simp only [Option.some.injEq] at hc; subst hc
            have hl := opd_sound k1 g t
            have hcc := opd_sound k2 g t
            simp only [ax] at hx
            split at hx
            · rename_i kl li kc ci e1 e2
              rw [e1] at hl; rw [e2] at hcc
              simp only [VR] at hl hcc
              rw [hl, hcc]
              split at hx
              · rename_i hh
                simp only [Option.some.injEq] at hx; subst hx
                have := makeSlice_sound (P := P) (k1 := kl) (k2 := kc) hu hi hz (by omega) (by rw [hsz]; exact hh.1) hone hh.2.1 hh.2.2.1 hh.2.2.2.1 hh.2.2.2.2 r
                exact AxR.of_okV this
              · cases hx
            · cases hx
          · cases hc
        · cases hc
      · cases hc
    · cases hc
  case h_19 ty x lo hi mx ho =>
    simp only [ho]
    split at hc
    · rename_i n e x' lo' hi' mx' hu k1 k2 k3 k4
      obtain ⟨k, k5, rfl⟩ := map_some hc
      have hv := opd_sound k1 g t
      simp only [ax] at hx
      split at hx
      · rename_i b o hb
        rw [hb] at hv
        obtain ⟨⟨l, kk, m⟩, k6, rfl⟩ := map_some hx
        have o4 := oopd_sound g t k4
        obtain ⟨v', q1, q2⟩ := slArr_sound (P := P) (w := w) hu k5 k6 hv (oopd_sound g t k2) (oopd_sound g t k3) o4
        exact AxR.of_run r q1 q2
      · cases hx
    · rename_i e x' lo' hi' mx' hu k1 k2 k3 k4
      split at hc
      · rename_i k hk
        simp only [Option.some.injEq] at hc; subst hc
        have hv := opd_sound k1 g t
        simp only [ax] at hx
        split at hx
        · rename_i hb
          rw [hb] at hv
          obtain ⟨rr, k6, rfl⟩ := map_some hx
          have hv0 := hv
          simp only [VR] at hv; rw [hv]
          exact AxR.of_run r (slNil_sound (P := P) hu hk k6 (oopd_sound g t k2) (oopd_sound g t k3) (oopd_sound g t k4)) (by simp [VR])
        · rename_i b o len cap gg hb
          rw [hb] at hv
          split at hx
          · rename_i hg
            obtain ⟨⟨l, kk, m⟩, k6, rfl⟩ := map_some hx
            obtain ⟨v', q1, q2⟩ := slSl_sound (P := P) (w := w) hu hk hg k6 hv (oopd_sound g t k2) (oopd_sound g t k3) (oopd_sound g t k4)
            have hms : (mx'.map (ev tm)).isSome = mx'.isSome := by cases mx' <;> rfl
            rw [hms] at q2
            exact AxR.of_run r q1 q2
          · cases hx
        · cases hx
      · cases hc
    · rename_i x' lo' hi' hu k1 k2 k3 k4
      simp only [Option.some.injEq] at hc; subst hc
      have hv := opd_sound k1 g t
      have hmx : mx = none := by
        cases mx with
        | none => rfl
        | some y =>
          simp only [oopd] at k4
          cases hy : opd G y <;> simp [hy] at k4
      subst hmx
      simp only [ax] at hx
      split at hx
      · rename_i s hb
        rw [hb] at hv
        obtain ⟨⟨l, kk, m⟩, k6, rfl⟩ := map_some hx
        simp only [VR] at hv
        obtain ⟨bs, e1, rfl⟩ := hv
        rw [e1]
        obtain ⟨v', q1, q2⟩ := slStr_sound (P := P) (w := w) hu k6 (oopd_sound g t k2) (oopd_sound g t k3)
        exact AxR.of_run r q1 q2
      · cases hx
    · rename_i ar x' lo' hi' mx' hu k1 k2 k3 k4
      split at hc
      · rename_i n e hua
        obtain ⟨k, k5, rfl⟩ := map_some hc
        have hv := opd_sound k1 g t
        simp only [ax] at hx
        split at hx
        · rename_i b o hb
          rw [hb] at hv
          obtain ⟨⟨l, kk, m⟩, k6, rfl⟩ := map_some hx
          obtain ⟨v', q1, q2⟩ := slPArr_sound (P := P) (w := w) hu hua k5 k6 hv (oopd_sound g t k2) (oopd_sound g t k3) (oopd_sound g t k4)
          exact AxR.of_run r q1 q2
        · cases hx
      · cases hc
    · cases hc
  case h_20 s x f ho =>
    simp only [ho]
    split at hc
    · rename_i fields y hu k1
      split at hc
      · rename_i fd hf
        split at hc
        · rename_i n hn
          simp only [Option.some.injEq] at hc; subst hc
          have hv := opd_sound k1 g t
          simp only [ax] at hx
          split at hx
          · rename_i b o hb
            rw [hb] at hv
            simp only [Option.some.injEq] at hx; subst hx
            obtain ⟨v', q1, q2⟩ := fieldAddr_sound (P := P) (w := w) hu hf hn hv
            exact AxR.of_run r q1 q2
          · cases hx
        · cases hc
      · cases hc
    · cases hc
  case h_21 ty x f ho =>
    simp only [ho]
    split at hc
    · rename_i fields y hu k1
      split at hc
      · rename_i fd hf
        split at hc
        · rename_i gg n hg hn
          simp only [Option.some.injEq] at hc; subst hc
          have hv := opd_sound k1 g t
          simp only [ax] at hx
          split at hx
          · rename_i cs hb
            rw [hb] at hv
            cases gg with
            | true =>
              simp only at hx
              obtain ⟨l, k2, rfl⟩ := map_some hx
              obtain ⟨v', q1, q2⟩ := field_sound (P := P) (w := w) (v := .agg l) hu hf hg hn (by simp [k2]) hv
              exact AxR.of_run r q1 q2
            | false =>
              simp only at hx
              obtain ⟨l, k2, rfl⟩ := map_some hx
              obtain ⟨v', q1, q2⟩ := field_sound (P := P) (w := w) (v := l) hu hf hg hn (by simp [k2]) hv
              exact AxR.of_run r q1 q2
          · cases hx
        · cases hc
      · cases hc
    · cases hc
  case h_22 ty x i ho =>
    simp only [ho]
    split at hc
    · rename_i len e x' i' hu k1 k2
      obtain ⟨n, hn, rfl⟩ := map_some hc
      have hv := opd_sound k1 g t
      have hiv := opd_sound k2 g t
      simp only [ax] at hx
      split at hx
      · rename_i b o k n0 e1 e2
        rw [e1] at hv; rw [e2] at hiv
        simp only [VR] at hiv; rw [hiv]
        split at hx
        · rename_i hh
          simp only [Option.some.injEq] at hx; subst hx
          obtain ⟨v', q1, q2⟩ := idxAddrA_sound (P := P) (w := w) (k := k) hu hn hv hh.1 hh.2
          exact AxR.of_run r q1 q2
        · cases hx
      · cases hx
    · rename_i e x' i' hu k1 k2
      obtain ⟨n, hn, rfl⟩ := map_some hc
      have hv := opd_sound k1 g t
      have hiv := opd_sound k2 g t
      simp only [ax] at hx
      split at hx
      · rename_i b o len cap gg k n0 e1 e2
        rw [e1] at hv; rw [e2] at hiv
        simp only [VR] at hiv; rw [hiv]
        split at hx
        · rename_i hh
          simp only [Option.some.injEq] at hx; subst hx
          obtain ⟨v', q1, q2⟩ := idxAddrS_sound (P := P) (w := w) (k := k) hu hn hv hh.1 hh.2
          exact AxR.of_run r q1 q2
        · cases hx
      · cases hx
    · cases hc
  case h_23 ty x i ho =>
    simp only [ho]
    split at hc
    · rename_i len e x' i' hu k1 k2
      split at hc
      · rename_i gg n hg hn
        simp only [Option.some.injEq] at hc; subst hc
        have hv := opd_sound k1 g t
        have hiv := opd_sound k2 g t
        simp only [ax] at hx
        split at hx
        · rename_i cs k n0 e1 e2
          rw [e1] at hv; rw [e2] at hiv
          simp only [VR] at hiv; rw [hiv]
          split at hx
          · rename_i hh
            cases gg with
            | true =>
              simp only at hx
              obtain ⟨l, k3, rfl⟩ := map_some hx
              obtain ⟨v', q1, q2⟩ := idxA_sound (P := P) (w := w) (k := k) (v := .agg l) hu hg hn (by simp [k3]) hv hh.1 hh.2
              exact AxR.of_run r q1 q2
            | false =>
              simp only at hx
              obtain ⟨l, k3, rfl⟩ := map_some hx
              obtain ⟨v', q1, q2⟩ := idxA_sound (P := P) (w := w) (k := k) (v := l) hu hg hn (by simp [k3]) hv hh.1 hh.2
              exact AxR.of_run r q1 q2
          · cases hx
        · rename_i cs n0 e1 e2
          rw [e1] at hv; rw [e2] at hiv
          simp only [VR] at hiv
          obtain ⟨j, ej, hj⟩ := hiv
          rw [ej]
          split at hx
          · rename_i hcond
            simp only [Bool.and_eq_true, Bool.not_eq_true', Nat.ble_eq, Nat.beq_eq] at hcond
            obtain ⟨⟨⟨hgg, hlen⟩, hn1⟩, hcs⟩ := hcond
            rw [lenL_eq] at hcs
            obtain ⟨l, k3, rfl⟩ := map_some hx
            subst hgg; subst hn1
            rw [takeL_eq] at k3
            obtain ⟨u, u1, u2⟩ := strsL_get k3 hcs (by omega : j < n0)
            obtain ⟨v', q1, q2⟩ := idxA_sound (P := P) (w := w) (k := .i64) (i := (j : Int)) (v := .str u) hu hg hn (by simp only [Int.toNat_natCast, Nat.mul_one, nth_eq]; exact u1) hv (by omega) (by omega)
            refine AxR.of_run r q1 ?_
            simp only [VR] at q2 ⊢
            obtain ⟨s, rfl, rfl⟩ := q2
            exact ⟨s, rfl, u2⟩
          · cases hx
        · cases hx
      · cases hc
    · rename_i x' i' hu k1 k2
      simp only [Option.some.injEq] at hc; subst hc
      have hv := opd_sound k1 g t
      have hiv := opd_sound k2 g t
      simp only [ax] at hx
      split at hx
      · rename_i s k n0 e1 e2
        rw [e1] at hv; rw [e2] at hiv
        simp only [VR] at hiv hv; rw [hiv]
        obtain ⟨bs, e3, rfl⟩ := hv
        rw [e3]
        split at hx
        · rename_i hh
          obtain ⟨b, k3, rfl⟩ := map_some hx
          exact AxR.of_run r (idxStr_sound (P := P) hu hh k3) (by simp [VR])
        · cases hx
      · cases hx
    · cases hc
  case h_24 ty x i ok ho =>
    simp only [ho]
    split at hc
    · rename_i key e x' i' hu k1 k2
      split at hc
      · rename_i kk z hk hz
        simp only [Option.some.injEq] at hc; subst hc
        have hv := opd_sound k1 g t
        have hiv := opd_sound k2 g t
        simp only [ax] at hx
        split at hx
        · rename_i e1
          simp only [Option.some.injEq] at hx; subst hx
          obtain ⟨v', q1, q2⟩ := lookup_sound (P := P) (ok := ok) (v := if ok then AV.tuple [z, .bool false] else z) hu hk hz (e1 ▸ hv) hiv r rfl
          exact AxR.of_run r q1 q2
        · rename_i c e1
          split at hx
          · rename_i es clock hg
            split at hx
            · rename_i n v hf
              simp only [Option.some.injEq] at hx; subst hx
              obtain ⟨v', q1, q2⟩ := lookup_sound (P := P) (ok := ok) (v := if ok then AV.tuple [v, .bool true] else v) hu hk hz (e1 ▸ hv) hiv r (by simp [hg, hf])
              exact AxR.of_run r q1 q2
            · rename_i hf
              simp only [Option.some.injEq] at hx; subst hx
              obtain ⟨v', q1, q2⟩ := lookup_sound (P := P) (ok := ok) (v := if ok then AV.tuple [z, .bool false] else z) hu hk hz (e1 ▸ hv) hiv r (by simp [hg, hf])
              exact AxR.of_run r q1 q2
            · cases hx
          · cases hx
        · cases hx
      · cases hc
    · cases hc
  case h_25 ty m k v ho =>
    simp only [ho]
    split at hc
    · rename_i key e m' k' v' hu k1 k2 k3
      obtain ⟨kk, hk, rfl⟩ := map_some hc
      have hv := opd_sound k1 g t
      simp only [ax] at hx
      split at hx
      · rename_i c e1
        split at hx
        · rename_i es clock hg
          split at hx
          · rename_i i u hf
            simp only [Option.some.injEq] at hx; subst hx
            exact AxR.of_okU (mapSet_sound (P := P) hu hk (e1 ▸ hv) (opd_sound k2 g t) (opd_sound k3 g t) r hg (by simp [hf]))
          · rename_i hf
            simp only [Option.some.injEq] at hx; subst hx
            exact AxR.of_okU (mapSet_sound (P := P) hu hk (e1 ▸ hv) (opd_sound k2 g t) (opd_sound k3 g t) r hg (by simp [hf]))
          · cases hx
        · cases hx
      · cases hx
    · cases hc
  case h_26 ty m k v ho =>
    simp only [ho]
    split at hc
    · rename_i key e m' k' v' hu k1 k2 k3
      obtain ⟨kk, hk, rfl⟩ := map_some hc
      have hv := opd_sound k1 g t
      simp only [ax] at hx
      split at hx
      · rename_i c e1
        split at hx
        · rename_i es clock hg
          split at hx
          · rename_i i u hf
            simp only [Option.some.injEq] at hx; subst hx
            exact AxR.of_okU (mapSet_sound (P := P) hu hk (e1 ▸ hv) (opd_sound k2 g t) (opd_sound k3 g t) r hg (by simp [hf]))
          · rename_i hf
            simp only [Option.some.injEq] at hx; subst hx
            exact AxR.of_okU (mapSet_sound (P := P) hu hk (e1 ▸ hv) (opd_sound k2 g t) (opd_sound k3 g t) r hg (by simp [hf]))
          · cases hx
        · cases hx
      · cases hx
    · cases hc
  case h_27 x xt asserted ok ho =>
    simp only [ho]
    split at hc
    · cases hc
    · rename_i d x' hni hu k1
      split at hc
      · rename_i z hz
        simp only [Option.some.injEq] at hc; subst hc
        have hv := opd_sound k1 g t
        obtain ⟨zv, z1, z2⟩ := zeroP_run (P := P) hz w
        have hzr := avOf_sound (φ := φ) z2
        have hd : ∀ ms, d ≠ .interface ms := fun ms e => hni ms e
        simp only [ax] at hx
        split at hx
        · rename_i e1
          rw [e1] at hv; simp only [VR] at hv; rw [hv]
          split at hx
          · rename_i hok
            simp only [Option.some.injEq] at hx; subst hx
            refine AxR.of_run r (v' := .tuple #[zv, .bool false]) ?_ (by simp [VR, VRs, hzr])
            simp only [Instr.typeAssert, Sem.run_bind, run_underlying hu, Result.andThen_ok]
            cases d <;> first | exact absurd rfl (hd _) | simp [hok, z1]
          · cases hx
        · rename_i u v e1
          rw [e1] at hv; simp only [VR] at hv
          obtain ⟨y, e2, hy⟩ := hv
          rw [e2]
          split at hx
          · rename_i hut
            simp only [Option.some.injEq] at hx; subst hx
            subst hut
            refine AxR.of_run r (v' := if ok then .tuple #[y, .bool true] else y) ?_ (by cases ok <;> simp [VR, VRs, hy])
            simp only [Instr.typeAssert, Sem.run_bind, run_underlying hu, Result.andThen_ok]
            cases d <;> first | exact absurd rfl (hd _) | simp
          · rename_i hut
            split at hx
            · rename_i hok
              simp only [Option.some.injEq] at hx; subst hx
              refine AxR.of_run r (v' := .tuple #[zv, .bool false]) ?_ (by simp [VR, VRs, hzr])
              simp only [Instr.typeAssert, Sem.run_bind, run_underlying hu, Result.andThen_ok]
              cases d <;> first | exact absurd rfl (hd _) | simp [hok, z1, hut]
            · cases hx
        · cases hx
      · cases hc
    · cases hc
  case h_28 x i ho =>
    simp only [ho]
    obtain ⟨y, k1, rfl⟩ := map_some hc
    have hv := opd_sound k1 g t
    simp only [ax] at hx
    split at hx
    · rename_i vs e1
      rw [e1] at hv; simp only [VR] at hv
      obtain ⟨c, e2, hcs⟩ := hv
      rw [e2]
      obtain ⟨v, k2, rfl⟩ := map_some hx
      rw [nth_eq] at k2
      obtain ⟨y', q1, q2⟩ := hcs.get _ _ k2
      rw [Array.getElem?_toList] at q1
      exact AxR.of_run r (by simp only [Instr.extract, q1]; rfl) q2
    · cases hx
  case h_29 c ho => exact absurd ho (hn c)
  case h_30 c ho =>
    simp only [ho]
    split at hc
    · rename_i f hcal
      split at hc
      · rename_i f' l' k1 k2
        simp only [Option.some.injEq] at hc; subst hc
        have hv := opd_sound k1 g t
        simp only [ax] at hx
        split at hx
        · rename_i fn first captured e1
          simp only [Option.some.injEq] at hx; subst hx
          rw [e1] at hv; simp only [VR] at hv
          obtain ⟨hp, f1, c1, e2, h1, h2⟩ := hv
          refine ⟨{ target := .fn fn c1, args := f1 ++ c.args.map a.eval }, ?_, hp, c1, rfl, h2, ?_⟩
          · simp [resolve, hcal, e2, Deferred.ofValue]
          · rw [appL_eq]; simp only [Array.toList_append, Array.toList_map]
            exact h1.append (opds_sound g t k2)
        · cases hx
      · cases hc
    · cases hc
  case h_31 x ho =>
    simp only [ho]
    obtain ⟨y, k1, rfl⟩ := map_some hc
    have hv := opd_sound k1 g t
    simp only [ax] at hx
    split at hx
    · rename_i ty v e1
      simp only [Option.some.injEq] at hx; subst hx
      rw [e1] at hv
      have hv0 := hv
      simp only [VR] at hv
      obtain ⟨y', e2, hy⟩ := hv
      exact ⟨.iface ty y', by rw [e2]; simp [Instr.panic], by rw [← e2]; exact hv0⟩
    · cases hx
  case h_32 ty x ho =>
    simp only [ho]
    split at hc
    · rename_i hu
      obtain ⟨y, k1, rfl⟩ := map_some hc
      have hv := opd_sound k1 g t
      simp only [ax] at hx
      split at hx
      · rename_i s e1
        simp only [Option.some.injEq] at hx; subst hx
        rw [e1] at hv; simp only [VR] at hv
        obtain ⟨bs, e2, rfl⟩ := hv
        rw [e2]
        exact AxR.of_okV (siter_sound hu r)
      · cases hx
    · cases hc
  case h_33 it ho =>
    simp only [ho]
    obtain ⟨y, k1, rfl⟩ := map_some hc
    have hv := opd_sound k1 g t
    simp only [ax] at hx
    split at hx
    · rename_i b o e1
      split at hx
      · rename_i s i hg
        split at hx
        · simp only [Option.some.injEq] at hx; subst hx
          rw [e1] at hv
          exact snext_sound hv hg r
        · cases hx
      · cases hx
    · cases hx
  case h_34 => cases hc
end Go.AS

/- Calls and built-ins are sound; then code and functions (own work). -/
set_option linter.unusedSimpArgs false
set_option linter.unusedVariables false
namespace Go.AS
variable {P : Program} {G : Nat} {base : Nat} {φ : Phi} {h : Heap} {w : World}

theorem list2 {α : Type} {a : Array α} {x y : α} (e : a.toList = [x, y]) : a = #[x, y] := by apply Array.ext'; simpa using e
theorem list1 {α : Type} {a : Array α} {x : α} (e : a.toList = [x]) : a = #[x] := by apply Array.ext'; simpa using e
theorem run_builtin {a : Act} {o : Oper} {c : Call} {b : Builtin} (ho : o.op = .call c) (hc : c.callee = .builtin b) :
    (execOp a.eval o).run P w = (builtin b c.argTypes o.type (c.args.map fun | .const _ => true | _ => false) (c.args.map a.eval)).run P w := by
  simp only [execOp, ho, resolve, hc, Sem.run_bind, Sem.run_pure, Result.andThen_ok, invoke]
  rfl
theorem append_types {ts tx e : TypeId} {i : TypeInfo} {n : Nat} {z : Value} (hs : P.underlying ts = some (.slice e)) (hx : ∃ d, P.underlying tx = some d ∧ (∀ k, d ≠ .int k)) (hi : P.info? e = some i) (hsz : i.size = n + 1) (hz : i.zero = some z) (hle : Nat.ble (n + 1) z.cells.size = true) :
    AppT P ts tx e i (n + 1) i.bytes :=
  ⟨hs, hx, hi, ⟨z, hz⟩, hsz, fun z' hz' => by rw [hz] at hz'; cases hz'; exact Nat.le_of_ble_eq_true hle, rfl, by omega⟩
theorem ax_append {o : Oper} {c : Call} {s x : Operand} {ts tx e : TypeId} {i : TypeInfo} {n : Nat} {z : Value} {y1 y2 : Opd} {tm : Tm} {a : Act} {res : OR} (ho : o.op = .call c) (hcal : c.callee = .builtin .append) (hargs : c.args.toList = [s, x]) (htys : c.argTypes.toList = [ts, tx])
    (hs : P.underlying ts = some (.slice e)) (hx : ∃ d, P.underlying tx = some d ∧ (∀ k, d ≠ .int k)) (hi : P.info? e = some i) (hsz : i.size = n + 1) (hz : i.zero = some z) (hle : Nat.ble (n + 1) z.cells.size = true)
    (k1 : opd G s = some y1) (k2 : opd G x = some y2) (hax : ax tm h (.append (n + 1) i.bytes e y1 y2) = some res) (g : GL G φ) (t : TR φ tm a.tmps) (r : WR base φ h w) : AxR P base φ h w ((execOp a.eval o).run P w) res := by
  rw [run_builtin ho hcal, list2 hargs, list2 htys]
  simp only [ax] at hax
  obtain ⟨⟨v, h'⟩, k3, rfl⟩ := map_some hax
  simp only [List.map_toArray, List.map_cons, List.map_nil]
  exact AxR.of_okV (append_sound (P := P) (append_types hs hx hi hsz hz hle) k3 (opd_sound k1 g t) (opd_sound k2 g t) r)
theorem ax_call {o : Oper} {c : Call} {ix : IX} {tm : Tm} {a : Act} {res : OR} (ho : o.op = .call c) (hc : compCall P G c = some ix) (hx : ax tm h ix = some res) (g : GL G φ) (t : TR φ tm a.tmps) (r : WR base φ h w) :
    AxR P base φ h w ((execOp a.eval o).run P w) res := by
  unfold compCall at hc
  split at hc
  · rename_i f hcal
    split at hc
    · rename_i f' l' k1 k2
      simp only [Option.some.injEq] at hc; subst hc
      have hv := opd_sound k1 g t
      simp only [ax] at hx
      split at hx
      · rename_i fn first captured e1
        simp only [Option.some.injEq] at hx; subst hx
        rw [e1] at hv; simp only [VR] at hv
        obtain ⟨_, f1, c1, e2, h1, h2⟩ := hv
        refine ⟨f1 ++ c.args.map a.eval ++ c1, ?_, ?_⟩
        · rw [appL_eq, appL_eq, ← List.append_assoc]
          simp only [Array.toList_append, Array.toList_map]
          exact (h1.append (opds_sound g t k2)).append h2
        · simp [execOp, ho, resolve, hcal, e2, Deferred.ofValue, invoke]
      · cases hx
    · cases hc
  · cases hc
  · rename_i b hcal
    split at hc
    · rename_i s x ts tx hargs htys
      split at hc
      · rename_i e e2 y1 y2 hs htx k1 k2
        split at hc
        · rename_i i hi
          split at hc
          · rename_i n hsz
            split at hc
            · rename_i z hz
              split at hc
              · rename_i hle
                simp only [Option.some.injEq] at hc; subst hc
                exact ax_append ho hcal hargs htys hs ⟨_, htx, fun k e => by cases e⟩ hi hsz hz hle k1 k2 hx g t r
              · cases hc
            · cases hc
          · cases hc
        · cases hc
      · rename_i e y1 y2 hs htx k1 k2
        split at hc
        · rename_i i hi
          split at hc
          · rename_i n hsz
            split at hc
            · rename_i z hz
              split at hc
              · rename_i hle
                simp only [Option.some.injEq] at hc; subst hc
                exact ax_append ho hcal hargs htys hs ⟨_, htx, fun k e => by cases e⟩ hi hsz hz hle k1 k2 hx g t r
              · cases hc
            · cases hc
          · cases hc
        · cases hc
      · cases hc
    · rename_i d s td ts hargs htys
      split at hc
      · rename_i e y1 y2 hu k1 k2
        split at hc
        · rename_i n hn
          simp only [Option.some.injEq] at hc; subst hc
          rw [run_builtin ho hcal, list2 hargs, list2 htys]
          simp only [ax] at hx
          obtain ⟨⟨v, h'⟩, k3, rfl⟩ := map_some hx
          simp only [List.map_toArray, List.map_cons, List.map_nil]
          exact AxR.of_okV (copy_sound (P := P) hu hn k3 (opd_sound k1 g t) (opd_sound k2 g t) r)
        · cases hc
      · cases hc
    · rename_i x ty hargs htys
      rw [run_builtin ho hcal, list1 hargs, list1 htys]
      split at hc
      · rename_i hu
        obtain ⟨y, k1, rfl⟩ := map_some hc
        have hv := opd_sound k1 g t
        simp only [ax] at hx
        split at hx
        · rename_i s e1 e2
          simp only [Option.some.injEq] at hx; subst hx
          rw [e2] at hv; simp only [VR] at hv
          obtain ⟨bs, e3, rfl⟩ := hv
          refine AxR.of_run r (v' := .int .i64 (Int.ofNat (lenL (bytesN bs)))) ?_ (by simp [VR])
          simp only [List.map_toArray, List.map_cons, List.map_nil, e3]
          simp [Builtin.len_, run_underlying hu, goInt, lenL_eq, bytesN_length]
        all_goals first | (rename_i e1 _; cases e1) | (rename_i e1; cases e1) | cases hx
      · rename_i e hu
        obtain ⟨y, k1, rfl⟩ := map_some hc
        have hv := opd_sound k1 g t
        simp only [ax] at hx
        split at hx
        · rename_i e1 _; cases e1
        · rename_i e1 e2
          simp only [Option.some.injEq] at hx; subst hx
          rw [e2] at hv; simp only [VR] at hv
          refine AxR.of_run r (v' := .int .i64 0) ?_ (by simp [VR])
          simp only [List.map_toArray, List.map_cons, List.map_nil, hv]
          simp [Builtin.len_, run_underlying hu, goInt]
        · rename_i b o n cp gg e1 e2
          simp only [Option.some.injEq] at hx; subst hx
          rw [e2] at hv; simp only [VR] at hv
          obtain ⟨_, _, _, _, _, _, _, _, e3⟩ := hv
          refine AxR.of_run r (v' := .int .i64 (Int.ofNat n)) ?_ (by simp [VR])
          simp only [List.map_toArray, List.map_cons, List.map_nil, e3]
          simp [Builtin.len_, run_underlying hu, goInt]
        · rename_i e1 _; cases e1
        · rename_i e1 _; cases e1
        · cases hx
      · rename_i k e hu
        obtain ⟨y, k1, rfl⟩ := map_some hc
        have hv := opd_sound k1 g t
        simp only [ax] at hx
        split at hx
        · rename_i e1 _; cases e1
        · rename_i e1 _; cases e1
        · rename_i e1 _; cases e1
        · rename_i e1 e2
          simp only [Option.some.injEq] at hx; subst hx
          rw [e2] at hv; simp only [VR] at hv
          refine AxR.of_run r (v' := .int .i64 0) ?_ (by simp [VR])
          simp only [List.map_toArray, List.map_cons, List.map_nil, hv]
          simp [Builtin.len_, run_underlying hu, goInt]
        · rename_i c0 e1 e2
          rw [e2] at hv; simp only [VR] at hv
          obtain ⟨m, hm, e3⟩ := hv
          split at hx
          · rename_i es clock hg
            simp only [Option.some.injEq] at hx; subst hx
            obtain ⟨xs, q1, q2⟩ := r.mapR hg hm
            have hgo := run_getObj_map (P := P) q1
            have hl := q2.length
            refine AxR.of_run r (v' := .int .i64 (Int.ofNat es.length)) ?_ (by simp [VR])
            simp only [List.map_toArray, List.map_cons, List.map_nil, e3]
            simp [Builtin.len_, run_underlying hu, goInt, hgo, ← hl]
          · cases hx
        · cases hx
      · rename_i n e hu
        simp only [Option.some.injEq] at hc; subst hc
        simp only [ax, Option.some.injEq] at hx; subst hx
        refine AxR.of_run r (v' := .int .i64 (Int.ofNat n)) ?_ (by simp [VR])
        simp [Builtin.len_, run_underlying hu, goInt]
      · rename_i ar hu
        split at hc
        · rename_i n e hua
          simp only [Option.some.injEq] at hc; subst hc
          simp only [ax, Option.some.injEq] at hx; subst hx
          refine AxR.of_run r (v' := .int .i64 (Int.ofNat n)) ?_ (by simp [VR])
          simp [Builtin.len_, run_underlying hu, run_underlying hua, goInt]
        · cases hc
      · cases hc
    · rename_i x xs tys hargs
      split at hc
      · rename_i y ys k1 k2
        simp only [Option.some.injEq] at hc; subst hc
        simp only [ax] at hx
        obtain ⟨v, k3, rfl⟩ := map_some hx
        obtain ⟨v', q1, q2⟩ := fold_sound (P := P) (w := w) (fun hz hx hy => max2_sound (P := P) (w := w) hz hx hy) k3 (opd_sound k1 g t) (opds_sound g t k2)
        rw [run_builtin ho hcal]
        refine AxR.of_run r (v' := v') ?_ q2
        simp only [Builtin.max_, Array.toList_map, hargs, List.map_cons]
        exact q1
      · cases hc
    · rename_i x xs tys hargs
      split at hc
      · rename_i y ys k1 k2
        simp only [Option.some.injEq] at hc; subst hc
        simp only [ax] at hx
        obtain ⟨v, k3, rfl⟩ := map_some hx
        obtain ⟨v', q1, q2⟩ := fold_sound (P := P) (w := w) (fun hz hx hy => min2_sound (P := P) (w := w) hz hx hy) k3 (opd_sound k1 g t) (opds_sound g t k2)
        rw [run_builtin ho hcal]
        refine AxR.of_run r (v' := v') ?_ q2
        simp only [Builtin.min_, Array.toList_map, hargs, List.map_cons]
        exact q1
      · cases hc
    · rename_i m k ty t2 hargs htys
      split at hc
      · rename_i key e m' k' hu k1 k2
        obtain ⟨kk, hk, rfl⟩ := map_some hc
        have hv := opd_sound k1 g t
        rw [run_builtin ho hcal, list2 hargs, list2 htys]
        simp only [ax] at hx
        split at hx
        · rename_i e1
          simp only [Option.some.injEq] at hx; subst hx
          rw [e1] at hv; simp only [VR] at hv
          refine AxR.of_run r (v' := .tuple #[]) ?_ (by simp [VR, VRs])
          simp only [List.map_toArray, List.map_cons, List.map_nil, hv]
          exact deleteNil_sound (P := P) hu hk
        · rename_i c0 e1
          split at hx
          · rename_i es clock hg
            split at hx
            · rename_i i u hf
              simp only [Option.some.injEq] at hx; subst hx
              simp only [List.map_toArray, List.map_cons, List.map_nil]
              exact AxR.of_okV (delete_sound (P := P) (h' := h.set c0 (.map (es.eraseIdx i) clock)) hu hk (e1 ▸ hv) (opd_sound k2 g t) r hg (by simp [hf]))
            · rename_i hf
              simp only [Option.some.injEq] at hx; subst hx
              simp only [List.map_toArray, List.map_cons, List.map_nil]
              exact AxR.of_okV (delete_sound (P := P) (h' := h) hu hk (e1 ▸ hv) (opd_sound k2 g t) r hg (by simp [hf]))
            · cases hx
          · cases hx
        · cases hx
      · cases hc
    · rename_i x tys hargs
      obtain ⟨y, k1, rfl⟩ := map_some hc
      have hv := opd_sound k1 g t
      rw [run_builtin ho hcal, list1 hargs]
      simp only [ax] at hx
      split at hx
      · rename_i ty v e1
        simp only [Option.some.injEq] at hx; subst hx
        rw [e1] at hv
        have hv0 := hv
        simp only [VR] at hv
        obtain ⟨y', e2, hy⟩ := hv
        refine ⟨.iface ty y', ?_, by rw [← e2]; exact hv0⟩
        simp only [List.map_toArray, List.map_cons, List.map_nil, e2]
        simp [builtin, Instr.panic]
      · cases hx
    · rename_i x tys hargs
      obtain ⟨y, k1, rfl⟩ := map_some hc
      have hv := opd_sound k1 g t
      rw [run_builtin ho hcal, list1 hargs]
      simp only [List.map_toArray, List.map_cons, List.map_nil]
      simp only [ax] at hx
      split at hx
      · rename_i e1
        simp only [Option.some.injEq] at hx; subst hx
        rw [e1] at hv
        exact AxR.of_run r (v' := .pointer none) (sdata_nil hv) (by simp [VR])
      · rename_i b off len cap gg e1
        rw [e1] at hv
        split at hx
        · cases hx
        · rename_i hcap
          simp only [Option.some.injEq] at hx; subst hx
          obtain ⟨v', q1, q2⟩ := sdata_sound (P := P) (w := w) (ts := c.argTypes) (ty := o.type) hv hcap
          exact AxR.of_run r q1 q2
      · cases hx
    · rename_i p n tp ti hargs htys
      split at hc
      · rename_i e p' n' hu k1 k2
        split at hc
        · rename_i hce
          simp only [Option.some.injEq] at hc; subst hc
          rw [run_builtin ho hcal, list2 hargs, list2 htys]
          simp only [List.map_toArray, List.map_cons, List.map_nil]
          simp only [ax] at hx
          obtain ⟨⟨v, h'⟩, k3, rfl⟩ := map_some hx
          exact AxR.of_okV (ustr_sound (P := P) hu hce k3 (opd_sound k1 g t) (opd_sound k2 g t) r)
        · cases hc
      · cases hc
    · rename_i x ty hargs htys
      split at hc
      · rename_i e y hu k1
        split at hc
        · rename_i n z hn hz
          simp only [Option.some.injEq] at hc; subst hc
          rw [run_builtin ho hcal, list1 hargs, list1 htys]
          simp only [List.map_toArray, List.map_cons, List.map_nil]
          simp only [ax] at hx
          obtain ⟨h', k3, rfl⟩ := map_some hx
          exact AxR.of_okV (clear_sound (P := P) hu hz (Nat.succ_pos n) k3 (opd_sound k1 g t) r)
        · cases hc
      · cases hc
    · rename_i x ty hargs htys
      split at hc
      · rename_i e y hu k1
        simp only [Option.some.injEq] at hc; subst hc
        have hv := opd_sound k1 g t
        rw [run_builtin ho hcal, list1 hargs, list1 htys]
        simp only [List.map_toArray, List.map_cons, List.map_nil]
        simp only [ax] at hx
        split at hx
        · rename_i e1
          simp only [Option.some.injEq] at hx; subst hx
          rw [e1] at hv; simp only [VR] at hv
          refine AxR.of_run r (v' := .int .i64 0) ?_ (by simp [VR])
          rw [hv]
          simp [Builtin.cap_, run_underlying hu, goInt]
        · rename_i b off len nn e1
          simp only [Option.some.injEq] at hx; subst hx
          rw [e1] at hv; simp only [VR] at hv
          obtain ⟨m, off', c', _, _, _, hc', _, e3⟩ := hv
          simp only [if_true] at hc'
          subst hc'
          refine AxR.of_run r (v' := .int .i64 (Int.ofNat c')) ?_ (by simp [VR])
          rw [e3]
          simp [Builtin.cap_, run_underlying hu, goInt]
        · cases hx
      · cases hc
    · cases hc
theorem ax_sound {o : Oper} {ix : IX} {tm : Tm} {a : Act} {res : OR} (hc : compIX P G o = some ix) (hx : ax tm h ix = some res) (g : GL G φ) (t : TR φ tm a.tmps) (r : WR base φ h w) :
    AxR P base φ h w ((execOp a.eval o).run P w) res := by
  by_cases hcall : ∃ c, o.op = .call c
  · obtain ⟨c, ho⟩ := hcall
    refine ax_call ho ?_ hx g t r
    unfold compIX at hc
    rw [ho] at hc
    exact hc
  · exact ax_pure hc hx g t r (fun c e => hcall ⟨c, e⟩)
end Go.AS
