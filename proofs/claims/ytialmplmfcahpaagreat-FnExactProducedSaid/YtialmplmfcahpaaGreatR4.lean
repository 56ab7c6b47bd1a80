/- Addresses, loads, lengths, cuts of slices. -/
import Derived.Test.YtialmplmfcahpaaGreatR1
set_option linter.unusedVariables false
set_option linter.unusedSimpArgs false
namespace Go.Sx
open Go.RowKit
def Tag.ro' : Tag → Tag
  | .free => .free
  | .own t => .ro t
  | .ro t => .ro t
theorem Tag.ro'_R {t : Tag} {q q' : List (Nat × Nat)} {o : Owner} (h : t.R q o) : t.ro'.R q' o := by
  cases t with
  | free => exact h
  | own s => exact .inr ⟨q, h⟩
  | ro s => exact h
theorem Tag.ro'_hdr {t : Tag} {τ : Nat → Nat × Value} {y : Nat × Value} : t.ro'.hdr τ y := by cases t <;> exact trivial
def D.leaf (t : Tag) : D → Leaf
  | .v (.bool c) => .sb c
  | .v x => .v x
  | .sl k es => .sl t.ro' k es
  | .ptr ds => match t with | .free => .rp ds 0 | _ => .und
  | .cl g caps => match t with | .free => .fd (.cl g caps) | _ => .und
theorem D.leaf_sat {w : World} {ω : Own} {τ : Nat → Nat × Value} {t : Tag} {p : Nat × Nat} {d : D} {u : Value} (h : Rep w ω (fun q => t.R (p :: q)) d u) : Sat w ω τ (d.leaf t) u := by
  cases d with
  | v x =>
    have e : u = x := by cases h; rfl
    subst e
    unfold D.leaf
    split
    · rename_i h; cases h; exact rfl
    · rename_i h; cases h; exact rfl
    · rename_i h; cases h
    · rename_i h; cases h
    · rename_i h; cases h
  | sl k es => exact ⟨h.frame fun b q hb hq => ⟨Tag.ro'_R hq, rfl⟩, Tag.ro'_hdr⟩
  | ptr ds =>
    cases t with
    | free =>
      have h2 : Rep w ω Tag.free.R (.ptr ds) u := h
      have h3 := h2
      cases h3 with
      | ptr R ds b arr ty fr us hb hR hs hu hd => exact ⟨b, rfl, h2⟩
    | own s => exact trivial
    | ro s => exact trivial
  | cl g caps =>
    cases t with
    | free => exact h
    | own s => exact trivial
    | ro s => exact trivial
def D.leafSub (t i j : Nat) : D → Leaf
  | .sl k es => .sn t i j k es .here
  | d => d.leaf (.own t)
def qcY (t i : Nat) : Nat → List D → List Leaf
  | _, [] => []
  | j, d :: ds => d.leafSub t i j :: qcY t i (j + 1) ds
theorem qj1 (t i : Nat) : ∀ (ds : List D) (j x : Nat), (qcY t i j ds)[x]? = (ds[x]?).map (D.leafSub t i (j + x))
  | [], _, _ => by simp [qcY]
  | d :: ds, j, 0 => by simp [qcY]
  | d :: ds, j, x + 1 => by
    simp only [qcY, List.getElem?_cons_succ, qj1 t i ds (j + 1) x]
    rw [show j + 1 + x = j + (x + 1) by omega]
theorem qj2 (t i : Nat) : ∀ (ds : List D) (j : Nat), (qcY t i j ds).length = ds.length
  | [], _ => rfl
  | d :: ds, j => by simp [qcY, qj2 t i ds (j + 1)]
def qhe (P : Program) (s : TypeId) (f : Nat) : Option Nat :=
  match P.underlying s with
  | some (.struct fs) =>
    match fs[f]? with
    | some fd =>
      match P.info? fd.type with
      | some i => if i.size = 0 then none else some fd.offset
      | none => none
    | none => none
  | _ => none
theorem qb4 (b off n : Nat) : (⟨b, off, none⟩ : Addr).add n = ⟨b, off + n, none⟩ := by
  unfold Addr.add
  split
  · rename_i h; simp [h]
  · rfl
theorem qfz {P : Program} {s : TypeId} {f off : Nat} (h : qhe P s f = some off) (w : World) (b o : Nat) :
    (Instr.fieldAt s (.pointer (some ⟨b, o, none⟩)) f).run P w = .ok (.pointer (some ⟨b, o + off, none⟩)) w := by
  unfold qhe at h
  split at h
  · rename_i fs hu
    split at h
    · rename_i fd hf
      split at h
      · rename_i i hi
        split at h
        · cases h
        · rename_i hz
          simp only [Option.some.injEq] at h
          subst h
          simp [Instr.fieldAt, run_underlying hu, hf, Instr.sureAddr, fieldPlace, sizeOf, typeInfo, hi, hz, qb4]
      · cases h
    · cases h
  · cases h
def qhf (P : Program) (s : TypeId) (p : PV) (f : Nat) (ans : List Ans) : Got :=
  match qhe P s f, p.leaf with
  | some off, some (.ptr id o) => some (.one (.ptr id (o + off)), ans, [])
  | some off, some (.ep t k es i j) => some (.one (.ep t k es i (j + off)), ans, [])
  | some off, some (.rp ds o) => some (.one (.rp ds (o + off)), ans, [])
  | some off, some (.sn t i j k es (.at_ x y)) => some (.one (.sn t i j k es (.at_ x (y + off))), ans, [])
  | _, _ => none
theorem qnv {P : Program} {w : World} {ω : Own} {τ : Nat → Nat × Value} {s : TypeId} {p r : PV} {f : Nat} {v : Value} {ans ans' : List Ans} {obs : List Prop}
    (hp : SatP (Sat w ω τ) p v) (h : qhf P s p f ans = some (r, ans', obs)) :
    ∃ z, (Instr.fieldAt s v f).run P w = .ok z w ∧ SatP (Sat w ω τ) r z := by
  unfold qhf at h
  split at h
  · rename_i off id o e1 e2
    simp only [Option.some.injEq, Prod.mk.injEq] at h
    obtain ⟨rfl, _, rfl⟩ := h
    obtain ⟨b, hb, rfl⟩ := PV.leaf_sat e2 hp
    exact ⟨_, qfz e1 w b o, b, hb, rfl⟩
  · rename_i off t k es i j e1 e2
    simp only [Option.some.injEq, Prod.mk.injEq] at h
    obtain ⟨rfl, _, rfl⟩ := h
    obtain ⟨b, o, cap, rfl, hi, hr, hh⟩ := PV.leaf_sat e2 hp
    exact ⟨_, qfz e1 w b _, b, o, cap, by rw [Nat.add_assoc], hi, hr, hh⟩
  · rename_i off ds o e1 e2
    simp only [Option.some.injEq, Prod.mk.injEq] at h
    obtain ⟨rfl, _, rfl⟩ := h
    obtain ⟨b, rfl, hr⟩ := PV.leaf_sat e2 hp
    exact ⟨_, qfz e1 w b o, b, rfl, hr⟩
  · rename_i off t i j k es x y e1 e2
    simp only [Option.some.injEq, Prod.mk.injEq] at h
    obtain ⟨rfl, _, rfl⟩ := h
    obtain ⟨u, ⟨b, o, cap, rfl, rfl, hx⟩, hr, hm⟩ := PV.leaf_sat e2 hp
    exact ⟨_, qfz e1 w b _, _, ⟨b, o, cap, rfl, by rw [Nat.add_assoc], hx⟩, hr, fun _ => hm rfl⟩
  · cases h
def qcL (P : Program) (t : TypeId) : Option (TypeId × Nat) :=
  match P.underlying t with
  | some (.slice e) => (P.info? e).map fun i => (e, i.size)
  | _ => none
theorem qeq {P : Program} {t e : TypeId} {k : Nat} (h : qcL P t = some (e, k)) : P.underlying t = some (.slice e) ∧ ∃ i, P.info? e = some i ∧ i.size = k := by
  unfold qcL at h
  split at h
  · rename_i e' hu
    rw [Option.map_eq_some_iff] at h
    obtain ⟨i, hi, h⟩ := h
    simp only [Prod.mk.injEq] at h
    obtain ⟨rfl, rfl⟩ := h
    exact ⟨hu, i, hi, rfl⟩
  · cases h
def qhg (P : Program) (t : TypeId) (p q : PV) (ans : List Ans) : Got :=
  match qcL P t, p.leaf, q.int with
  | some (_, k), some (.sl tag k' es), some (_, n) => if k = k' then some (.one (.ep tag k' es n.toNat 0), ans, [0 ≤ n, n < (es.length : Int)]) else none
  | some (_, k), some (.sn s i j k' es .here), some (_, n) => if k = k' then some (.one (.sn s i j k' es (.at_ n.toNat 0)), ans, [0 ≤ n, n < (es.length : Int)]) else none
  | _, _, _ => none
theorem qnw {P : Program} {w : World} {ω : Own} {τ : Nat → Nat × Value} {t : TypeId} {p q r : PV} {u v : Value} {ans ans' : List Ans} {obs : List Prop}
    (hp : SatP (Sat w ω τ) p u) (hq : SatP (Sat w ω τ) q v) (h : qhg P t p q ans = some (r, ans', obs)) (ho : Obs obs) :
    ∃ z, (Instr.indexAt t u v).run P w = .ok z w ∧ SatP (Sat w ω τ) r z := by
  unfold qhg at h
  split at h
  · rename_i e k tag k' es kk n e1 e2 e3
    split at h
    · rename_i hk
      subst hk
      simp only [Option.some.injEq, Prod.mk.injEq] at h
      obtain ⟨rfl, _, rfl⟩ := h
      obtain ⟨hu, i, hi, hz⟩ := qeq e1
      obtain ⟨hr, hh⟩ := PV.leaf_sat e2 hp
      rw [PV.int_sat e3 hq]
      have h0 : 0 ≤ n := ho.1
      have h1 : n < (es.length : Int) := ho.2.1
      cases hr with
      | nil => simp at h1; omega
      | row R k es b off cap arr ty fr us hb hR hc hs hk hu' hd =>
        refine ⟨.pointer (some ⟨b, off + n.toNat * k + 0, none⟩), ?_, b, off, cap, rfl, by omega, .row _ k es b off cap arr ty fr us hb hR hc hs hk hu' hd, hh⟩
        simp [Instr.indexAt, run_underlying hu, asIntOf, h0, h1, sizeOf, typeInfo, hi, hz, qb4]
    · cases h
  · rename_i e k s si sj k' es kk n e1 e2 e3
    split at h
    · rename_i hk
      subst hk
      simp only [Option.some.injEq, Prod.mk.injEq] at h
      obtain ⟨rfl, _, rfl⟩ := h
      obtain ⟨hu, i, hi, hz⟩ := qeq e1
      obtain ⟨u0, rfl, hr, hm⟩ := PV.leaf_sat e2 hp
      rw [PV.int_sat e3 hq]
      have h0 : 0 ≤ n := ho.1
      have h1 : n < (es.length : Int) := ho.2.1
      cases hr with
      | nil => simp at h1; omega
      | row R k es b off cap arr ty fr us hb hR hc hs hk hu' hd =>
        refine ⟨.pointer (some ⟨b, off + n.toNat * k + 0, none⟩), ?_, _, ⟨b, off, cap, rfl, rfl, by omega⟩, .row _ k es b off cap arr ty fr us hb hR hc hs hk hu' hd, hm⟩
        simp [Instr.indexAt, run_underlying hu, asIntOf, h0, h1, sizeOf, typeInfo, hi, hz, qb4]
    · cases h
  · cases h
theorem qnx {P : Program} {w : World} {b off n : Nat} {arr : Array Value} {ty : TypeId} {fr : Nat × Nat} (hb : w.heap[b]? = some (.cells arr ty fr)) (hn : off + n ≤ arr.size) :
    (loadCells ⟨b, off, none⟩ n).run P w = .ok (arr.extract off (off + n)) w := by
  have hl : ((arr.extract off (off + n)).toList).length = n := by simp; omega
  have := run_loadCells_list (P := P) w ⟨b, off, none⟩ (arr.extract off (off + n)).toList (fun j v hv => by
    rw [qb4, cell_of_row w b (off + j) arr ty fr hb]
    rw [Array.getElem?_toList, Array.getElem?_extract] at hv
    split at hv
    · exact hv
    · cases hv)
  rw [hl, Array.toArray_toList] at this
  exact this
def qb5 (agg : Bool) (n : Nat) (ls : List Leaf) (off : Nat) : Option PV :=
  if agg then (if off + n ≤ ls.length then some (.agg ((ls.drop off).take n)) else none)
  else (ls[off]?).map fun l => .one l
theorem qer {P : Program} {w : World} {ω : Own} {τ : Nat → Nat × Value} {t : TypeId} {agg : Bool} {i : TypeInfo} {ls : List Leaf} {off : Nat} {p : PV} (ha : qdk P t = some agg) (hi : P.info? t = some i)
    (h : qb5 agg i.size ls off = some p) {b base : Nat} {arr : Array Value} {ty : TypeId} {fr : Nat × Nat} (hb : w.heap[b]? = some (.cells arr ty fr)) (hsz : base + ls.length ≤ arr.size)
    (hs : ∀ (j : Nat) (l : Leaf), ls[j]? = some l → ∃ u, arr[base + j]? = some u ∧ Sat w ω τ l u) :
    ∃ z, (loadVar t ⟨b, base + off, none⟩).run P w = .ok z w ∧ SatP (Sat w ω τ) p z := by
  unfold qb5 at h
  cases agg with
  | true =>
    simp only [if_true] at h
    split at h
    · rename_i hle
      simp only [Option.some.injEq] at h
      subst h
      refine ⟨.agg (arr.extract (base + off) (base + off + i.size)), ?_, ?_⟩
      · simp [loadVar, qep ha, sizeOf, typeInfo, hi, qnx (P := P) hb (show base + off + i.size ≤ arr.size by omega)]
      · refine ⟨_, rfl, by simp; omega, fun j l hl => ?_⟩
        rw [List.getElem?_take] at hl
        split at hl
        · rw [List.getElem?_drop] at hl
          obtain ⟨u, h1, h2⟩ := hs _ l hl
          refine ⟨u, ?_, h2⟩
          rw [Array.getElem?_extract, if_pos (by omega), ← h1]
          congr 1
          omega
        · cases hl
    · cases h
  | false =>
    simp only [Bool.false_eq_true, if_false, Option.map_eq_some_iff] at h
    obtain ⟨l, hl, rfl⟩ := h
    obtain ⟨u, h1, h2⟩ := hs _ l hl
    refine ⟨u, ?_, h2⟩
    simp [loadVar, qep ha, cell_of_row w b (base + off) arr ty fr hb, h1]
def qfA (P : Program) (st : St) (t : TypeId) (p : PV) (ans : List Ans) : Got :=
  match qdk P t, P.info? t, p.leaf with
  | some agg, some i, some (.ptr id off) =>
    match qaz id st.boxes with
    | some ls => (qb5 agg i.size ls off).map fun r => (r, ans, [])
    | none => none
  | some agg, some i, some (.ep tag k es x j) =>
    match ans with
    | .el ds :: r => if ds.length = k then (qb5 agg i.size (ds.map (D.leaf tag)) j).map fun v => (v, r, [es[x]? = some ds]) else none
    | .sub :: .el ds :: r =>
      match tag with
      | .own t => if ds.length = k then (qb5 agg i.size (qcY t x 0 ds) j).map fun v => (v, r, [es[x]? = some ds]) else none
      | _ => none
    | _ => none
  | some agg, some i, some (.rp ds off) => (qb5 agg i.size (ds.map (D.leaf .free)) off).map fun r => (r, ans, [])
  | some agg, some i, some (.sn s _ _ k es (.at_ x y)) =>
    match ans with
    | .el ds :: r => if ds.length = k then (qb5 agg i.size (ds.map (D.leaf (.ro s))) y).map fun v => (v, r, [es[x]? = some ds]) else none
    | _ => none
  | _, _, _ => none
theorem qny {P : Program} {w0 : Base} {w : World} {a : Act} {st : St} {ω : Own} {τ : Nat → Nat × Value} {t : TypeId} {p r : PV} {v : Value} {ans ans' : List Ans} {obs : List Prop}
    (hrel : RelAt w0 st a w ω τ) (hp : SatP (Sat w ω τ) p v) (h : qfA P st t p ans = some (r, ans', obs)) (ho : Obs obs) :
    ∃ z, (Instr.loadAt t v).run P w = .ok z w ∧ SatP (Sat w ω τ) r z := by
  unfold qfA at h
  split at h
  · rename_i agg i id off e1 e2 e3
    split at h
    · rename_i ls hbx
      rw [Option.map_eq_some_iff] at h
      obtain ⟨r', h1, h⟩ := h
      simp only [Prod.mk.injEq] at h
      obtain ⟨rfl, rfl, rfl⟩ := h
      obtain ⟨b, hb, rfl⟩ := PV.leaf_sat e3 hp
      obtain ⟨b', arr, ty, hb', huniq, hheap, hsz, hsat⟩ := hrel.boxes id ls hbx
      have := huniq b hb
      subst this
      have := qer (P := P) e1 e2 h1 hheap (base := 0) (by omega) (fun j l hl => by simpa using hsat j l hl)
      simpa [Instr.loadAt, Instr.sureAddr] using this
    · cases h
  · rename_i agg i tag k es x j e1 e2 e3
    split at h
    · rename_i ds rr
      split at h
      · rename_i hlen
        rw [Option.map_eq_some_iff] at h
        obtain ⟨r', h1, h⟩ := h
        simp only [Prod.mk.injEq] at h
        obtain ⟨rfl, rfl, rfl⟩ := h
        have hds : es[x]? = some ds := ho.1
        obtain ⟨b, off, cap, rfl, hi, hr, hh⟩ := PV.leaf_sat e3 hp
        cases hr with
        | nil => simp at hi
        | row R k es b off cap arr ty fr us hb hR hc hs hk hu hd =>
          have hkx : x * k + k ≤ cap * k := by
            have : (x + 1) * k ≤ cap * k := Nat.mul_le_mul_right k (by omega)
            rw [Nat.add_mul] at this; omega
          have := qer (P := P) (τ := τ) (ω := ω) e1 e2 h1 hb (base := off + x * k) (by simp [hlen]; omega) (fun jj l hl => by
            rw [List.getElem?_map, Option.map_eq_some_iff] at hl
            obtain ⟨d, h2, rfl⟩ := hl
            have hc : qao es x jj = some d := by simp [qao, hds, h2]
            exact ⟨us x jj, hu x jj d hc, D.leaf_sat (hd x jj d hc)⟩)
          simpa [Instr.loadAt, Instr.sureAddr] using this
      · cases h
    · rename_i ds rr
      split at h
      · rename_i t
        split at h
        · rename_i hlen
          rw [Option.map_eq_some_iff] at h
          obtain ⟨r', h1, h⟩ := h
          simp only [Prod.mk.injEq] at h
          obtain ⟨rfl, rfl, rfl⟩ := h
          have hds : es[x]? = some ds := ho.1
          obtain ⟨b, off, cap, rfl, hi, hr, hh⟩ := PV.leaf_sat e3 hp
          cases hr with
          | nil => simp at hi
          | row R k es b off cap arr ty fr us hb hR hc hs hk hu hd =>
            have hkx : x * k + k ≤ cap * k := by
              have : (x + 1) * k ≤ cap * k := Nat.mul_le_mul_right k (by omega)
              rw [Nat.add_mul] at this; omega
            have := qer (P := P) (τ := τ) (ω := ω) e1 e2 h1 hb (base := off + x * k) (by simp [qj2, hlen]; omega) (fun jj l hl => by
              rw [qj1, Option.map_eq_some_iff] at hl
              obtain ⟨d, h2, rfl⟩ := hl
              rw [Nat.zero_add]
              have hc : qao es x jj = some d := by simp [qao, hds, h2]
              have hdd := hd x jj d hc
              refine ⟨us x jj, hu x jj d hc, ?_⟩
              cases d with
              | sl k2 es2 => exact ⟨_, rfl, hdd, fun _ => ⟨k, b, off, es.length, cap, arr, ty, fr, hh, hR, hb, hu x jj _ hc⟩⟩
              | v z => exact D.leaf_sat (t := .own t) (p := (x, jj)) hdd
              | ptr ds => exact D.leaf_sat (t := .own t) (p := (x, jj)) hdd
              | cl g cs => exact D.leaf_sat (t := .own t) (p := (x, jj)) hdd)
            simpa [Instr.loadAt, Instr.sureAddr] using this
        · cases h
      · cases h
    · cases h
  · rename_i agg i ds off e1 e2 e3
    rw [Option.map_eq_some_iff] at h
    obtain ⟨r', h1, h⟩ := h
    simp only [Prod.mk.injEq] at h
    obtain ⟨rfl, rfl, rfl⟩ := h
    obtain ⟨b, rfl, hr⟩ := PV.leaf_sat e3 hp
    have hr' : Rep w ω Tag.free.R (.ptr ds) (.pointer (some ⟨b, 0, none⟩)) := hr
    cases hr' with
    | ptr R ds b arr ty fr us hb hR hs hu hd =>
      have := qer (P := P) (τ := τ) (ω := ω) e1 e2 h1 hb (base := 0) (by simp; omega) (fun jj l hl => by
        rw [List.getElem?_map, Option.map_eq_some_iff] at hl
        obtain ⟨d, h2, rfl⟩ := hl
        exact ⟨us jj, by simpa using hu jj d h2, D.leaf_sat (p := (0, jj)) (hd jj d h2)⟩)
      simpa [Instr.loadAt, Instr.sureAddr] using this
  · rename_i agg i s si sj k es x y e1 e2 e3
    split at h
    · rename_i ds rr
      split at h
      · rename_i hlen
        rw [Option.map_eq_some_iff] at h
        obtain ⟨r', h1, h⟩ := h
        simp only [Prod.mk.injEq] at h
        obtain ⟨rfl, rfl, rfl⟩ := h
        have hds : es[x]? = some ds := ho.1
        obtain ⟨u0, ⟨b, off, cap, rfl, rfl, hi⟩, hr, hm⟩ := PV.leaf_sat e3 hp
        cases hr with
        | nil => simp at hi
        | row R k es b off cap arr ty fr us hb hR hc hs hk hu hd =>
          have hkx : x * k + k ≤ cap * k := by
            have : (x + 1) * k ≤ cap * k := Nat.mul_le_mul_right k (by omega)
            rw [Nat.add_mul] at this; omega
          have := qer (P := P) (τ := τ) (ω := ω) e1 e2 h1 hb (base := off + x * k) (by simp [hlen]; omega) (fun jj l hl => by
            rw [List.getElem?_map, Option.map_eq_some_iff] at hl
            obtain ⟨d, h2, rfl⟩ := hl
            have hc : qao es x jj = some d := by simp [qao, hds, h2]
            refine ⟨us x jj, hu x jj d hc, D.leaf_sat (t := .ro s) (p := (x, jj)) ((hd x jj d hc).frame fun b q _ hq => ⟨.inr ⟨_, hq⟩, rfl⟩)⟩)
          simpa [Instr.loadAt, Instr.sureAddr] using this
      · cases h
    · cases h
  · cases h
def qhh (P : Program) (t : TypeId) (p : PV) (ans : List Ans) : Got :=
  match P.underlying t, p.leaf with
  | some (.slice _), some (.sl _ _ es) => some (.one (.v (.int .i64 es.length)), ans, [])
  | some (.slice _), some (.v (.slice _ n _)) => some (.one (.v (.int .i64 n)), ans, [])
  | some (.slice _), some (.sn _ _ _ _ es .here) => some (.one (.v (.int .i64 es.length)), ans, [])
  | some (.slice _), some (.sn _ _ _ _ es .away) => some (.one (.v (.int .i64 es.length)), ans, [])
  | some .string, some (.v (.string s)) => some (.one (.v (.int .i64 s.size)), ans, [])
  | _, _ => none
theorem Rep.len {w : World} {ω : Own} {R : List (Nat × Nat) → Owner → Prop} {k : Nat} {es : List (List D)} {y : Value} (h : Rep w ω R (.sl k es) y) : ∃ b c, y = .slice b es.length c := by
  cases h with
  | nil => exact ⟨_, _, rfl⟩
  | row R k es b off cap arr ty fr us hb hR hc hs hk hu hd => exact ⟨_, _, rfl⟩
theorem qnz {P : Program} {w : World} {ω : Own} {τ : Nat → Nat × Value} {t ty : TypeId} {p r : PV} {v : Value} {ans ans' : List Ans} {obs : List Prop}
    (hp : SatP (Sat w ω τ) p v) (h : qhh P t p ans = some (r, ans', obs)) :
    ∃ z, (Builtin.len_ #[t] ty #[v]).run P w = .ok z w ∧ SatP (Sat w ω τ) r z := by
  unfold qhh at h
  split at h
  · rename_i e tg k es e1 e2
    simp only [Option.some.injEq, Prod.mk.injEq] at h
    obtain ⟨rfl, _, rfl⟩ := h
    obtain ⟨hr, _⟩ := PV.leaf_sat e2 hp
    obtain ⟨b, c, rfl⟩ := hr.len
    exact ⟨_, by simp [Builtin.len_, run_underlying e1]; rfl, rfl⟩
  · rename_i e b n c e1 e2
    simp only [Option.some.injEq, Prod.mk.injEq] at h
    obtain ⟨rfl, _, rfl⟩ := h
    have : v = .slice b n c := PV.leaf_sat e2 hp
    subst this
    exact ⟨_, by simp [Builtin.len_, run_underlying e1]; rfl, rfl⟩
  · rename_i e s si sj k es e1 e2
    simp only [Option.some.injEq, Prod.mk.injEq] at h
    obtain ⟨rfl, _, rfl⟩ := h
    obtain ⟨u0, rfl, hr, _⟩ := PV.leaf_sat e2 hp
    obtain ⟨b, c, rfl⟩ := hr.len
    exact ⟨_, by simp [Builtin.len_, run_underlying e1]; rfl, rfl⟩
  · rename_i e s si sj k es e1 e2
    simp only [Option.some.injEq, Prod.mk.injEq] at h
    obtain ⟨rfl, _, rfl⟩ := h
    obtain ⟨u0, rfl, hr, _⟩ := PV.leaf_sat e2 hp
    obtain ⟨b, c, rfl⟩ := hr.len
    exact ⟨_, by simp [Builtin.len_, run_underlying e1]; rfl, rfl⟩
  · rename_i s e1 e2
    simp only [Option.some.injEq, Prod.mk.injEq] at h
    obtain ⟨rfl, _, rfl⟩ := h
    have : v = .string s := PV.leaf_sat e2 hp
    subst this
    exact ⟨_, by simp [Builtin.len_, run_underlying e1]; rfl, rfl⟩
  · cases h
theorem qj3 {es : List (List D)} {l n i j : Nat} {d : D} (h : qao ((es.drop l).take n) i j = some d) : i < n ∧ qao es (l + i) j = some d := by
  unfold qao at h ⊢
  rw [List.getElem?_take] at h
  split at h
  · rw [List.getElem?_drop] at h
    exact ⟨by omega, h⟩
  · simp at h
theorem Rep.sub {w : World} {ω : Own} {R R' : List (Nat × Nat) → Owner → Prop} {k : Nat} {es : List (List D)} {b off cap : Nat} (h : Rep w ω R (.sl k es) (.slice (some ⟨b, off, none⟩) es.length cap))
    {l m : Nat} (hl : l ≤ m) (hm : m ≤ es.length) (hR0 : ∀ o, R [] o → R' [] o) (hR1 : ∀ i j q o, l ≤ i → R ((i, j) :: q) o → R' ((i - l, j) :: q) o) :
    Rep w ω R' (.sl k ((es.drop l).take (m - l))) (sliced (some ⟨b, off, none⟩) l m cap k) := by
  cases h with
  | nil =>
    have e1 : l = 0 := by simp at hm; omega
    have e2 : m = 0 := by simp at hm; omega
    subst e1 e2
    simpa [sliced] using Rep.nil R' k _
  | row R k es b off cap arr ty fr us hb hR hc hs hk hu hd =>
    have hlen : ((es.drop l).take (m - l)).length = m - l := by simp; omega
    have hmul : l * k + (cap - l) * k = cap * k := by rw [← Nat.add_mul]; congr 1; omega
    have key : ∀ o' : Nat, (cap = l ∨ o' = off + l * k) → o' + (cap - l) * k ≤ arr.size →
        Rep w ω R' (.sl k ((es.drop l).take (m - l))) (.slice (some ⟨b, o', none⟩) (m - l) (cap - l)) := by
      intro o' ho hsz
      have hz : cap = l → m - l = 0 := fun e => by omega
      have hr := Rep.row (w := w) (ω := ω) R' k ((es.drop l).take (m - l)) b o' (cap - l) arr ty fr (fun i j => us (l + i) j) hb (hR0 _ hR) (by omega) hsz
        (fun e he => hk e (List.mem_of_mem_drop (List.mem_of_mem_take he)))
        (fun i j d hc' => by
          obtain ⟨hi, hc''⟩ := qj3 hc'
          rcases ho with ho | rfl
          · have := hz ho; omega
          · rw [← hu (l + i) j d hc'']
            congr 1
            rw [Nat.add_mul]; omega)
        (fun i j d hc' => by
          obtain ⟨hi, hc''⟩ := qj3 hc'
          refine (hd (l + i) j d hc'').frame fun b q _ hq => ⟨?_, rfl⟩
          have := hR1 _ _ _ _ (Nat.le_add_right l i) hq
          rwa [show l + i - l = i by omega] at this)
      rw [hlen] at hr
      exact hr
    unfold sliced
    split
    · rename_i hcl
      exact key off (.inl hcl) (by have : cap - l = 0 := by omega
                                   rw [this]; simp; omega)
    · simp only [Option.map_some, qb4]
      exact key _ (.inr rfl) (by omega)
def Leaf.view : Leaf → Leaf
  | .sn t _ _ k es .here => .sl (.ro t) k es
  | .sn t _ _ k es .away => .sl (.ro t) k es
  | l => l
theorem Leaf.view_sat {w : World} {ω : Own} {τ : Nat → Nat × Value} {l : Leaf} {y : Value} (hs : Sat w ω τ l y) : Sat w ω τ l.view y := by
  unfold Leaf.view
  split
  · obtain ⟨u0, rfl, hr, _⟩ := hs
    exact ⟨hr.frame fun b q _ hq => ⟨.inr ⟨_, hq⟩, rfl⟩, trivial⟩
  · obtain ⟨u0, rfl, hr, _⟩ := hs
    exact ⟨hr.frame fun b q _ hq => ⟨.inr ⟨_, hq⟩, rfl⟩, trivial⟩
  · exact hs
theorem PV.view_sat {w : World} {ω : Own} {τ : Nat → Nat × Value} {p : PV} {l : Leaf} {y : Value} (h : p.leaf.map Leaf.view = some l) (hs : SatP (Sat w ω τ) p y) : Sat w ω τ l y := by
  rw [Option.map_eq_some_iff] at h
  obtain ⟨l0, h0, rfl⟩ := h
  exact Leaf.view_sat (PV.leaf_sat h0 hs)
def qbj (st : St) : Option Operand → Option (Option Int)
  | none => some none
  | some x => ((st.ev x).int).map fun p => some p.2
def qfB (P : Program) (st : St) (t : TypeId) (p : PV) (lo hi mx : Option Operand) (ans : List Ans) : Got :=
  match qcL P t, p.leaf.map Leaf.view, mx with
  | some (_, k), some (.sl tag k' es), none =>
    if k = k' then
      match qbj st lo, qbj st hi with
      | some l, some h => some (.one (.sl tag.ro' k ((es.drop (l.getD 0).toNat).take ((h.getD es.length).toNat - (l.getD 0).toNat))), ans, [0 ≤ l.getD 0, l.getD 0 ≤ h.getD es.length, h.getD es.length ≤ es.length])
      | _, _ => none
    else none
  | _, _, _ => none
theorem qe1 {P : Program} {w : World} {len cap : Nat} {lo hi : Option Value} {l h : Int} (hl : lo = none ∧ l = 0 ∨ ∃ k, lo = some (.int k l)) (hh : hi = none ∧ h = len ∨ ∃ k, hi = some (.int k h))
    (h0 : 0 ≤ l) (h1 : l ≤ h) (h2 : h ≤ cap) : (Instr.sliceBounds true len cap lo hi none).run P w = .ok (l.toNat, h.toNat, cap) w := by
  have eh : (h.toNat : Int) = h := Int.toNat_of_nonneg (by omega)
  have h3 : 0 ≤ h := by omega
  rcases hl with ⟨rfl, rfl⟩ | ⟨k, rfl⟩ <;> rcases hh with ⟨rfl, rfl⟩ | ⟨k', rfl⟩ <;>
    simp_all [Instr.sliceBounds, run_sliceBound]
theorem qe2 {w0 : Base} {w : World} {a : Act} {st : St} {ω : Own} {τ : Nat → Nat × Value} (hrel : RelAt w0 st a w ω τ) {x : Option Operand} {r : Option Int} (h : qbj st x = some r) :
    (x.map a.eval = none ∧ r = none) ∨ ∃ k n, x.map a.eval = some (.int k n) ∧ r = some n := by
  cases x with
  | none => simp [qbj] at h; exact .inl ⟨rfl, h.symm⟩
  | some x =>
    simp only [qbj, Option.map_eq_some_iff] at h
    obtain ⟨⟨k, n⟩, h1, h2⟩ := h
    exact .inr ⟨k, n, by simp [PV.int_sat h1 (hrel.ev x)], h2.symm⟩
theorem qnA {P : Program} {w0 : Base} {w : World} {a : Act} {st : St} {ω : Own} {τ : Nat → Nat × Value} {t : TypeId} {p r : PV} {v : Value} {lo hi mx : Option Operand} {ans ans' : List Ans} {obs : List Prop}
    (hrel : RelAt w0 st a w ω τ) (hp : SatP (Sat w ω τ) p v) (h : qfB P st t p lo hi mx ans = some (r, ans', obs)) (ho : Obs obs) :
    ∃ z, (Instr.sliceAt t v (lo.map a.eval) (hi.map a.eval) (mx.map a.eval)).run P w = .ok z w ∧ SatP (Sat w ω τ) r z := by
  unfold qfB at h
  split at h
  · rename_i e k tag k' es e1 e2
    split at h
    · rename_i hk
      subst hk
      split at h
      · rename_i l hh e3 e4
        simp only [Option.some.injEq, Prod.mk.injEq] at h
        obtain ⟨rfl, _, rfl⟩ := h
        obtain ⟨hu, i, hi', hz⟩ := qeq e1
        obtain ⟨hr, _⟩ := PV.view_sat e2 hp
        obtain ⟨o1, o2, o3, _⟩ := ho
        have h3 := qe2 hrel e3
        have h4 := qe2 hrel e4
        have hl' : (lo.map a.eval = none ∧ l.getD 0 = 0) ∨ ∃ k, lo.map a.eval = some (.int k (l.getD 0)) := by
          rcases h3 with ⟨h, rfl⟩ | ⟨k, n, h, rfl⟩
          · exact .inl ⟨h, rfl⟩
          · exact .inr ⟨k, h⟩
        have hh' : (hi.map a.eval = none ∧ hh.getD es.length = es.length) ∨ ∃ k, hi.map a.eval = some (.int k (hh.getD es.length)) := by
          rcases h4 with ⟨h, rfl⟩ | ⟨k, n, h, rfl⟩
          · exact .inl ⟨h, rfl⟩
          · exact .inr ⟨k, h⟩
        cases hr with
        | nil _ _ a0 =>
          simp only [List.length_nil] at *
          have e0 : l.getD 0 = 0 := by omega
          have e0' : hh.getD ((0 : Nat) : Int) = 0 := by omega
          refine ⟨.slice a0 0 0, ?_, ?_⟩
          · simp only [Instr.sliceAt, Sem.run_bind, run_underlying hu, Result.andThen_ok, Instr.slice, Option.map_none]
            rw [qe1 hl' hh' o1 o2 o3]
            have e0'' : hh.getD 0 = 0 := by simpa using e0'
            simp [sizeOf, typeInfo, hi', e0, e0'']
          · refine ⟨?_, Tag.ro'_hdr⟩
            simp only [List.drop_nil, List.take_nil]
            exact .nil _ _ _
        | row R k es b off cap arr ty fr us hb hR hc hs hk hu' hd =>
          refine ⟨sliced (some ⟨b, off, none⟩) (l.getD 0).toNat (hh.getD es.length).toNat cap k, ?_, ?_, Tag.ro'_hdr⟩
          · simp only [Instr.sliceAt, Sem.run_bind, run_underlying hu, Result.andThen_ok, Instr.slice, Option.map_none]
            rw [qe1 hl' hh' o1 o2 (by omega)]
            simp [sizeOf, typeInfo, hi', hz, sliced]
          · exact Rep.sub (.row _ k es b off cap arr ty fr us hb hR hc hs hk hu' hd) (by omega) (by omega) (fun o h => Tag.ro'_R h) (fun i j q o _ h => Tag.ro'_R h)
      · cases h
    · cases h
  · cases h
end Go.Sx
namespace Go.Sx
open Go.RowKit
def Leaf.ok : Leaf → Bool
  | .und => false
  | .v x => x.oneCell'
  | _ => true
theorem Rep.oneCell {w : World} {ω : Own} {R : List (Nat × Nat) → Owner → Prop} {d : D} {y : Value} (h : Rep w ω R d y) : y.oneCell' = true := by
  cases h with
  | v R x h1 => exact h1
  | nil => rfl
  | row => rfl
  | ptr => rfl
  | cl => rfl
theorem Leaf.ok_cell {w : World} {ω : Own} {τ : Nat → Nat × Value} {l : Leaf} {y : Value} (h : l.ok = true) (hs : Sat w ω τ l y) : y.oneCell' = true := by
  cases l with
  | und => cases h
  | v x => have : y = x := hs; subst this; exact h
  | sb c => have : y = .bool c := hs; subst this; rfl
  | sl t k es => exact hs.1.oneCell
  | ptr id off => obtain ⟨b, _, rfl⟩ := hs; rfl
  | ep t k es i j => obtain ⟨b, off, cap, rfl, _⟩ := hs; rfl
  | rp ds off => obtain ⟨b, rfl, _⟩ := hs; rfl
  | fd d => exact Rep.oneCell hs
  | clo g ids => obtain ⟨bs, rfl, _⟩ := hs; rfl
  | sn t i j k es m =>
    obtain ⟨u, hu, hr, _⟩ := hs
    cases m with
    | at_ x y => obtain ⟨b, off, cap, _, rfl, _⟩ := hu; rfl
    | here => have : y = u := hu; subst this; exact hr.oneCell
    | away => have : y = u := hu; subst this; exact hr.oneCell
  | np t vs => obtain ⟨b, ty, arr, rfl, _⟩ := hs; rfl
theorem qfC {y : Value} (h : y.oneCell' = true) : y.cells = #[y] := by
  cases y <;> first | rfl | (simp [Value.oneCell'] at h)
def PV.leaves : PV → Option (List Leaf)
  | .al (.one l) => if l.ok then some [l] else none
  | .al (.agg ls) => if ls.all Leaf.ok then some ls else none
  | _ => none
theorem PV.leaves_sat {w : World} {ω : Own} {τ : Nat → Nat × Value} {p : PV} {ls : List Leaf} {y : Value} (h : p.leaves = some ls) (hs : SatP (Sat w ω τ) p y) :
    SatL (Sat w ω τ) ls y.cells ∧ ∀ u ∈ y.cells.toList, u.oneCell' = true := by
  unfold PV.leaves at h
  split at h
  · rename_i l
    split at h
    · rename_i hok
      simp only [Option.some.injEq] at h
      subst h
      have h1 := Leaf.ok_cell hok hs
      rw [qfC h1]
      refine ⟨⟨rfl, fun i l' hl => ?_⟩, by simpa using h1⟩
      cases i with
      | zero => simp at hl; subst hl; exact ⟨y, rfl, hs⟩
      | succ i => simp at hl
    · cases h
  · rename_i ls'
    split at h
    · rename_i hok
      simp only [Option.some.injEq] at h
      subst h
      obtain ⟨vs, rfl, hn, hv⟩ := hs
      refine ⟨⟨hn, hv⟩, fun u hu => ?_⟩
      obtain ⟨i, hi⟩ := List.mem_iff_getElem?.1 hu
      have hlt : i < ls'.length := by
        have := (List.getElem?_eq_some_iff.1 hi).1
        simp [Value.cells] at this
        omega
      obtain ⟨u', h1, h2⟩ := hv i ls'[i] (by simp)
      have e : u = u' := by
        have : (Value.agg vs).cells.toList[i]? = vs[i]? := by simp [Value.cells]
        rw [this, h1] at hi
        exact (Option.some.inj hi).symm
      subst e
      exact Leaf.ok_cell (List.all_eq_true.1 hok _ (List.getElem_mem hlt)) h2
    · cases h
  · cases h
theorem qj4 (off : Nat) : ∀ (vs : List Value) (k : Nat) (cells : Array Value) (i : Nat), off + k + vs.length ≤ cells.size →
    ((vs.zipIdx k).foldl (fun cs (x : Value × Nat) => cs.setIfInBounds (off + x.2) x.1) cells)[i]? = if off + k ≤ i ∧ i < off + k + vs.length then vs[i - (off + k)]? else cells[i]?
  | [], k, cells, i, _ => by simp; intro h1 h2; omega
  | v :: vs, k, cells, i, h => by
    simp only [List.zipIdx_cons, List.foldl_cons, List.length_cons] at h ⊢
    rw [qj4 off vs (k + 1) _ i (by simp; omega), Array.getElem?_setIfInBounds]
    by_cases h1 : off + k = i
    · subst h1
      rw [if_neg (by omega), if_pos rfl, if_pos (by omega), if_pos (by omega)]
      simp
    · by_cases h2 : off + (k + 1) ≤ i ∧ i < off + (k + 1) + vs.length
      · rw [if_pos h2, if_pos (by omega)]
        obtain ⟨j, hj⟩ : ∃ j, i - (off + k) = j + 1 := ⟨i - (off + k) - 1, by omega⟩
        rw [hj, List.getElem?_cons_succ]
        congr 1
        omega
      · rw [if_neg h2, if_neg h1, if_neg (by omega)]
theorem qj5 (off : Nat) : ∀ (l : List (Value × Nat)) (cells : Array Value), (l.foldl (fun cs (x : Value × Nat) => cs.setIfInBounds (off + x.2) x.1) cells).size = cells.size
  | [], _ => rfl
  | x :: l, cells => by simp only [List.foldl_cons]; rw [qj5 off l]; simp
def blit (ls : List Leaf) (off : Nat) (xs : List Leaf) : List Leaf := ls.take off ++ (xs ++ ls.drop (off + xs.length))
theorem qj6 {ls xs : List Leaf} {off i : Nat} (h : off + xs.length ≤ ls.length) : (blit ls off xs)[i]? = if off ≤ i ∧ i < off + xs.length then xs[i - off]? else ls[i]? := by
  unfold blit
  rw [List.getElem?_append, List.length_take, Nat.min_eq_left (by omega)]
  by_cases h1 : i < off
  · rw [if_pos h1, if_neg (by omega), List.getElem?_take, if_pos h1]
  · rw [if_neg h1, List.getElem?_append]
    by_cases h2 : i - off < xs.length
    · rw [if_pos h2, if_pos (by omega)]
    · rw [if_neg h2, if_neg (by omega), List.getElem?_drop]
      congr 1
      omega
theorem qhi {ls xs : List Leaf} {off : Nat} (h : off + xs.length ≤ ls.length) : (blit ls off xs).length = ls.length := by
  simp [blit]; omega
def fillL (place : Nat → Option (Nat × Nat)) (ls : List Leaf) : List (Nat × PV) → Option (List Leaf)
  | [] => some ls
  | (i, p) :: rest =>
    match place i, p.leaves with
    | some (off, size), some xs => if xs.length = size ∧ off + size ≤ ls.length then fillL place (blit ls off xs) rest else none
    | _, _ => none
theorem qhj {w : World} {ω : Own} {τ : Nat → Nat × Value} {place : Nat → Option (Nat × Nat)} : ∀ {parts : List (Nat × PV)} {vals : List (Nat × Value)} {ls r : List Leaf} {cells : Array Value},
    parts.length = vals.length → (∀ (j : Nat) i p, parts[j]? = some (i, p) → ∃ v, vals[j]? = some (i, v) ∧ SatP (Sat w ω τ) p v) → fillL place ls parts = some r → SatL (Sat w ω τ) ls cells →
    ∃ out, Instr.fill place cells vals = some out ∧ SatL (Sat w ω τ) r out
  | [], vals, ls, r, cells, hn, _, h, hs => by
    have : vals = [] := List.eq_nil_of_length_eq_zero (by simpa using hn.symm)
    subst this
    simp only [fillL, Option.some.injEq] at h
    subst h
    exact ⟨cells, rfl, hs⟩
  | (i, p) :: parts, vals, ls, r, cells, hn, hp, h, hs => by
    obtain ⟨v, hv, hsat⟩ := hp 0 i p rfl
    cases vals with
    | nil => simp at hv
    | cons x vals =>
      simp only [List.getElem?_cons_zero, Option.some.injEq] at hv
      subst hv
      simp only [fillL] at h
      split at h
      · rename_i off size xs e1 e2
        split at h
        · rename_i hc
          obtain ⟨hc1, hc2⟩ := hc
          obtain ⟨⟨hsz, hxs⟩, _⟩ := PV.leaves_sat e2 hsat
          have hsz' : v.cells.size = size := by omega
          have hcs : off + v.cells.size ≤ cells.size := by have := hs.1; omega
          have hnew : SatL (Sat w ω τ) (blit ls off xs) (v.cells.zipIdx.foldl (fun cs (c, j) => cs.setIfInBounds (off + j) c) cells) := by
            have e : v.cells.zipIdx.foldl (fun cs (c, j) => cs.setIfInBounds (off + j) c) cells = (v.cells.toList.zipIdx 0).foldl (fun cs (x : Value × Nat) => cs.setIfInBounds (off + x.2) x.1) cells := by
              rw [← Array.foldl_toList]
              simp
            rw [e]
            refine ⟨by rw [qj5, qhi (by omega)]; exact hs.1, fun j l hl => ?_⟩
            rw [qj6 (by omega)] at hl
            rw [qj4 off _ 0 _ _ (by simp; omega)]
            simp only [Array.length_toList, Nat.add_zero]
            by_cases hj : off ≤ j ∧ j < off + xs.length
            · rw [if_pos hj] at hl
              rw [if_pos (by omega)]
              obtain ⟨u, h1, h2⟩ := hxs _ _ hl
              exact ⟨u, by simpa using h1, h2⟩
            · rw [if_neg hj] at hl
              rw [if_neg (by omega)]
              exact hs.2 _ _ hl
          obtain ⟨out, h1, h2⟩ := qhj (parts := parts) (vals := vals) (by simpa using hn) (fun j i' p' hj => by have := hp (j + 1) i' p' (by simpa using hj); simpa using this) h hnew
          refine ⟨out, ?_, h2⟩
          simp only [Instr.fill, e1]
          rw [if_neg (by simp; omega)]
          exact h1
        · cases h
      · cases h
def qhk (P : Program) (t : TypeId) (f : Nat) : Option (Nat × Nat) :=
  match P.underlying t with
  | some (.struct fs) =>
    match fs[f]? with
    | some fd => (P.info? fd.type).map fun i => (fd.offset, i.size)
    | none => none
  | _ => none
def qfD (P : Program) (st : St) (t : TypeId) (parts : List (Nat × Operand)) (ans : List Ans) : Got :=
  match P.underlying t, P.info? t with
  | some (.struct fs), some i =>
    match i.zero with
    | some z =>
      if fs.toList.all fun f => (P.info? f.type).isSome then
        (fillL (qhk P t) (z.cells.toList.map .v) (parts.map fun x => (x.1, st.ev x.2))).map fun ls => (.agg ls, ans, [])
      else none
    | none => none
  | _, _ => none
theorem qj7 {P : Program} (w : World) : ∀ (fs : List Field), (∀ f ∈ fs, (P.info? f.type).isSome = true) →
    (fs.mapM fun f => (do pure (f.offset, ← sizeOf f.type) : Sem (Nat × Nat))).run P w = .ok (fs.map fun f => (f.offset, ((P.info? f.type).map (·.size)).getD 0)) w
  | [], _ => by simp
  | f :: fs, h => by
    obtain ⟨i, hi⟩ := Option.isSome_iff_exists.1 (h f (by simp))
    have ih := qj7 (P := P) w fs (fun g hg => h g (by simp [hg]))
    simp only [List.mapM_cons, Sem.run_bind, sizeOf, typeInfo, run_program, Result.andThen_ok, hi, Sem.run_pure, List.map_cons, Option.map_some, Option.getD_some]
    simp only [Sem.run_bind, sizeOf, typeInfo, Sem.run_pure] at ih
    rw [ih]
    simp
theorem qhl {P : Program} {α β : Type} (f : α → Sem β) (xs : Array α) (w : World) (r : List β) (h : (xs.toList.mapM f).run P w = .ok r w) : (xs.mapM f).run P w = .ok r.toArray w := by
  rw [← Array.toArray_toList (xs := xs), List.mapM_toArray]
  rw [← bind_pure_comp, Sem.run_bind, h]
  rfl
theorem qnB {P : Program} {w0 : Base} {w : World} {a : Act} {st : St} {ω : Own} {τ : Nat → Nat × Value} {t : TypeId} {parts : Array (Nat × Operand)} {r : PV} {ans ans' : List Ans} {obs : List Prop}
    (hrel : RelAt w0 st a w ω τ) (h : qfD P st t parts.toList ans = some (r, ans', obs)) :
    ∃ z, (Instr.build t (parts.map fun (i, x) => (i, a.eval x))).run P w = .ok z w ∧ SatP (Sat w ω τ) r z := by
  unfold qfD at h
  split at h
  · rename_i fs i hu hi
    split at h
    · rename_i z hz
      split at h
      · rename_i hall
        rw [Option.map_eq_some_iff] at h
        obtain ⟨ls, h1, h⟩ := h
        simp only [Prod.mk.injEq] at h
        obtain ⟨rfl, _, _⟩ := h
        have hzs : SatL (Sat w ω τ) (z.cells.toList.map .v) z.cells := by
          refine ⟨by simp, fun j l hl => ?_⟩
          rw [List.getElem?_map, Option.map_eq_some_iff] at hl
          obtain ⟨u, hu, rfl⟩ := hl
          exact ⟨u, by simpa using hu, rfl⟩
        obtain ⟨out, h2, h3⟩ := qhj (vals := parts.toList.map fun x => (x.1, a.eval x.2)) (by simp) (fun j i' p hj => by
          rw [List.getElem?_map, Option.map_eq_some_iff] at hj
          obtain ⟨⟨i2, x⟩, hx, e⟩ := hj
          simp only [Prod.mk.injEq] at e
          obtain ⟨rfl, rfl⟩ := e
          exact ⟨a.eval x, by simp only [List.getElem?_map, hx, Option.map_some], hrel.ev x⟩) h1 hzs
        have hm := qhl (P := P) (fun f : Field => (do pure (f.offset, ← sizeOf f.type) : Sem (Nat × Nat))) fs w _ (qj7 (P := P) w fs.toList (fun f hf => List.all_eq_true.1 hall f hf))
        have hplace : (fun x => (fs.toList.map fun f => (f.offset, ((P.info? f.type).map (·.size)).getD 0)).toArray[x]?) = qhk P t := by
          funext x
          simp only [List.getElem?_toArray, List.getElem?_map, Array.getElem?_toList, qhk, hu]
          cases hx : fs[x]? with
          | none => rfl
          | some fd =>
            have : (P.info? fd.type).isSome = true := List.all_eq_true.1 hall fd (by simpa using Array.mem_of_getElem? hx)
            obtain ⟨i', hi'⟩ := Option.isSome_iff_exists.1 this
            simp [hi']
        refine ⟨.agg out, ?_, out, rfl, h3⟩
        simp only [Instr.build, Sem.run_bind, zeroValue, typeInfo, run_program, Result.andThen_ok, hi, Sem.run_pure, hz, run_underlying hu, hm, hplace]
        have e : (Array.map (fun (x : Nat × Operand) => (x.1, a.eval x.2)) parts).toList = parts.toList.map fun x => (x.1, a.eval x.2) := by simp
        simp only [e, h2, Sem.run_pure]
      · cases h
    · cases h
  · cases h
def qhm (p : PV) (ix : Nat) (ans : List Ans) : Got :=
  match p with
  | .tup as => (as[ix]?).map fun a => (.al a, ans, [])
  | _ => none
theorem qnC {P : Program} {w : World} {ω : Own} {τ : Nat → Nat × Value} {p r : PV} {ix : Nat} {v : Value} {ans ans' : List Ans} {obs : List Prop}
    (hp : SatP (Sat w ω τ) p v) (h : qhm p ix ans = some (r, ans', obs)) : ∃ z, (Instr.extract v ix).run P w = .ok z w ∧ SatP (Sat w ω τ) r z := by
  unfold qhm at h
  split at h
  · rename_i as
    rw [Option.map_eq_some_iff] at h
    obtain ⟨al, h1, h⟩ := h
    simp only [Prod.mk.injEq] at h
    obtain ⟨rfl, _, _⟩ := h
    obtain ⟨vs, rfl, hn, hv⟩ := hp
    obtain ⟨u, h2, h3⟩ := hv _ _ h1
    exact ⟨u, by simp [Instr.extract, h2], h3⟩
  · cases h
def qhn (P : Program) (t : TypeId) (p : PV) (f : Nat) (ans : List Ans) : Got :=
  match P.underlying t with
  | some (.struct fs) =>
    match fs[f]? with
    | some fd =>
      match qdk P fd.type, P.info? fd.type, p with
      | some agg, some i, .al (.agg ls) => (qb5 agg i.size ls fd.offset).map fun r => (r, ans, [])
      | _, _, _ => none
    | none => none
  | _ => none
theorem qnD {P : Program} {w : World} {ω : Own} {τ : Nat → Nat × Value} {t : TypeId} {p r : PV} {f : Nat} {v : Value} {ans ans' : List Ans} {obs : List Prop}
    (hp : SatP (Sat w ω τ) p v) (h : qhn P t p f ans = some (r, ans', obs)) : ∃ z, (Instr.field t v f).run P w = .ok z w ∧ SatP (Sat w ω τ) r z := by
  unfold qhn at h
  split at h
  · rename_i fs hu
    split at h
    · rename_i fd hf
      split at h
      · rename_i agg i ls e1 e2
        rw [Option.map_eq_some_iff] at h
        obtain ⟨r', h1, h⟩ := h
        simp only [Prod.mk.injEq] at h
        obtain ⟨rfl, _, _⟩ := h
        obtain ⟨vs, rfl, hn, hv⟩ := hp
        unfold qb5 at h1
        cases agg with
        | true =>
          simp only [if_true] at h1
          split at h1
          · rename_i hle
            simp only [Option.some.injEq] at h1
            subst h1
            refine ⟨.agg (vs.extract fd.offset (fd.offset + i.size)), by simp [Instr.field, run_underlying hu, hf, asAgg, part, qep e1, sizeOf, typeInfo, e2], _, rfl, by simp; omega, fun j l hl => ?_⟩
            rw [List.getElem?_take] at hl
            split at hl
            · rw [List.getElem?_drop] at hl
              obtain ⟨u, h1, h2⟩ := hv _ l hl
              refine ⟨u, ?_, h2⟩
              rw [Array.getElem?_extract, if_pos (by omega), ← h1]
            · cases hl
          · cases h1
        | false =>
          simp only [Bool.false_eq_true, if_false, Option.map_eq_some_iff] at h1
          obtain ⟨l, hl, rfl⟩ := h1
          obtain ⟨u, h1, h2⟩ := hv _ l hl
          exact ⟨u, by simp [Instr.field, run_underlying hu, hf, asAgg, part, qep e1, h1], h2⟩
      · cases h
    · cases h
  · cases h
def qho (op : UnOp) (p : PV) (ans : List Ans) : Got :=
  match op, p.leaf with
  | .not, some (.sb c) => some (.one (.sb (!c)), ans, [])
  | .not, some (.v (.bool c)) => some (.one (.v (.bool (!c))), ans, [])
  | .neg, some (.v (.int k n)) => arith k (0 - n) ans
  | _, _ => none
theorem qnE {P : Program} {w : World} {ω : Own} {τ : Nat → Nat × Value} {op : UnOp} {p r : PV} {v : Value} {ans ans' : List Ans} {obs : List Prop}
    (hp : SatP (Sat w ω τ) p v) (h : qho op p ans = some (r, ans', obs)) (ho : Obs obs) : ∃ z, (Op.unary op v).run P w = .ok z w ∧ SatP (Sat w ω τ) r z := by
  unfold qho at h
  split at h
  · rename_i c e
    simp only [Option.some.injEq, Prod.mk.injEq] at h
    obtain ⟨rfl, _, _⟩ := h
    have : v = .bool c := PV.leaf_sat e hp
    subst this
    exact ⟨_, rfl, rfl⟩
  · rename_i c e
    simp only [Option.some.injEq, Prod.mk.injEq] at h
    obtain ⟨rfl, _, _⟩ := h
    have : v = .bool c := PV.leaf_sat e hp
    subst this
    exact ⟨_, rfl, rfl⟩
  · rename_i k n e
    have : v = .int k n := PV.leaf_sat e hp
    subst this
    exact ⟨_, rfl, qeo h ho⟩
  · cases h
def qhp (c a b : PV) (ans : List Ans) : Got :=
  match c.leaf with
  | some (.v (.bool true)) => some (a, ans, [])
  | some (.v (.bool false)) => some (b, ans, [])
  | some (.sb c) =>
    match ans with
    | .br true :: r => some (a, r, [c = true])
    | .br false :: r => some (b, r, [c = false])
    | _ => none
  | _ => none
theorem qnF {P : Program} {w : World} {ω : Own} {τ : Nat → Nat × Value} {c a b r : PV} {u x y : Value} {ans ans' : List Ans} {obs : List Prop}
    (hc : SatP (Sat w ω τ) c u) (ha : SatP (Sat w ω τ) a x) (hb : SatP (Sat w ω τ) b y) (h : qhp c a b ans = some (r, ans', obs)) (ho : Obs obs) :
    ∃ z, (do pure (.value (if ← asBool u then x else y)) : Sem Next).run P w = .ok (.value z) w ∧ SatP (Sat w ω τ) r z := by
  unfold qhp at h
  split at h
  · rename_i e
    simp only [Option.some.injEq, Prod.mk.injEq] at h
    obtain ⟨rfl, _, _⟩ := h
    have : u = .bool true := PV.leaf_sat e hc
    subst this
    exact ⟨x, rfl, ha⟩
  · rename_i e
    simp only [Option.some.injEq, Prod.mk.injEq] at h
    obtain ⟨rfl, _, _⟩ := h
    have : u = .bool false := PV.leaf_sat e hc
    subst this
    exact ⟨y, rfl, hb⟩
  · rename_i c' e
    have : u = .bool c' := PV.leaf_sat e hc
    subst this
    split at h
    · simp only [Option.some.injEq, Prod.mk.injEq] at h
      obtain ⟨rfl, _, rfl⟩ := h
      have hc' : c' = true := ho.1
      subst hc'
      exact ⟨x, rfl, ha⟩
    · simp only [Option.some.injEq, Prod.mk.injEq] at h
      obtain ⟨rfl, _, rfl⟩ := h
      have hc' : c' = false := ho.1
      subst hc'
      exact ⟨y, rfl, hb⟩
    · cases h
  · cases h
def qhq (P : Program) (src dst : TypeId) (p : PV) (ans : List Ans) : Got :=
  match P.underlying src, P.underlying dst, p.int with
  | some _, some (.int k), some (_, n) => arith k n ans
  | _, _, _ => none
theorem qnG {P : Program} {w : World} {ω : Own} {τ : Nat → Nat × Value} {src dst : TypeId} {p r : PV} {v : Value} {ans ans' : List Ans} {obs : List Prop}
    (hp : SatP (Sat w ω τ) p v) (h : qhq P src dst p ans = some (r, ans', obs)) (ho : Obs obs) : ∃ z, (convert src dst v).run P w = .ok z w ∧ SatP (Sat w ω τ) r z := by
  unfold qhq at h
  split at h
  · rename_i d k kk n e1 e2 e3
    rw [PV.int_sat e3 hp]
    exact ⟨_, by simp [convert, run_underlying e1, run_underlying e2, Conv.intToInt], qeo h ho⟩
  · cases h
def qhr (P : Program) (t : TypeId) (p q : PV) (ans : List Ans) : Got :=
  match P.underlying t, p.leaf, q.int with
  | some .string, some (.v (.string s)), some (_, n) =>
    match ans with
    | .num m :: r => some (.one (.v (.int .u8 m)), r, [0 ≤ n, (s[n.toNat]?).map (fun b => ((b.toNat : Nat) : Int)) = some m])
    | _ => none
  | _, _, _ => none
theorem qnH {P : Program} {w : World} {ω : Own} {τ : Nat → Nat × Value} {t : TypeId} {p q r : PV} {u v : Value} {ans ans' : List Ans} {obs : List Prop}
    (hp : SatP (Sat w ω τ) p u) (hq : SatP (Sat w ω τ) q v) (h : qhr P t p q ans = some (r, ans', obs)) (ho : Obs obs) : ∃ z, (Instr.index t u v).run P w = .ok z w ∧ SatP (Sat w ω τ) r z := by
  unfold qhr at h
  split at h
  · rename_i s kk n e1 e2 e3
    split at h
    · rename_i m rr
      simp only [Option.some.injEq, Prod.mk.injEq] at h
      obtain ⟨rfl, _, rfl⟩ := h
      obtain ⟨h0, h1, _⟩ := ho
      have : u = .string s := PV.leaf_sat e2 hp
      subst this
      rw [PV.int_sat e3 hq]
      rw [Option.map_eq_some_iff] at h1
      obtain ⟨b, hb, hm⟩ := h1
      exact ⟨.int .u8 m, by simp [Instr.index, asIntOf, run_underlying e1, h0, hb, hm], rfl⟩
    · cases h
  · cases h
def qhs (p q : PV) (ans : List Ans) : Got :=
  match p.int, q.int with
  | some (k, a), some (_, b) => some (.one (.v (.int k (if b < a then b else a))), ans, [])
  | _, _ => none
def qht (p q : PV) (ans : List Ans) : Got :=
  match p.int, q.int with
  | some (k, a), some (_, b) => some (.one (.v (.int k (if b > a then b else a))), ans, [])
  | _, _ => none
theorem qnI {P : Program} {w : World} {ω : Own} {τ : Nat → Nat × Value} {ts : Array TypeId} {ty : TypeId} {p q r : PV} {u v : Value} {ans ans' : List Ans} {obs : List Prop}
    (hp : SatP (Sat w ω τ) p u) (hq : SatP (Sat w ω τ) q v) (h : qhs p q ans = some (r, ans', obs)) : ∃ z, (Builtin.min_ ts ty #[u, v]).run P w = .ok z w ∧ SatP (Sat w ω τ) r z := by
  unfold qhs at h
  split at h
  · rename_i k a kk b e1 e2
    simp only [Option.some.injEq, Prod.mk.injEq] at h
    obtain ⟨rfl, _, _⟩ := h
    rw [PV.int_sat e1 hp, PV.int_sat e2 hq]
    exact ⟨_, by simp [Builtin.min_, Builtin.min2], rfl⟩
  · cases h
theorem qnJ {P : Program} {w : World} {ω : Own} {τ : Nat → Nat × Value} {ts : Array TypeId} {ty : TypeId} {p q r : PV} {u v : Value} {ans ans' : List Ans} {obs : List Prop}
    (hp : SatP (Sat w ω τ) p u) (hq : SatP (Sat w ω τ) q v) (h : qht p q ans = some (r, ans', obs)) : ∃ z, (Builtin.max_ ts ty #[u, v]).run P w = .ok z w ∧ SatP (Sat w ω τ) r z := by
  unfold qht at h
  split at h
  · rename_i k a kk b e1 e2
    simp only [Option.some.injEq, Prod.mk.injEq] at h
    obtain ⟨rfl, _, _⟩ := h
    rw [PV.int_sat e1 hp, PV.int_sat e2 hq]
    exact ⟨_, by simp [Builtin.max_, Builtin.max2], rfl⟩
  · cases h
def qj8 (p : PV) (ans : List Ans) : Got :=
  match p.leaf with
  | some (.ptr id off) => some (.one (.ptr id off), ans, [])
  | some (.ep t k es i j) => some (.one (.ep t k es i j), ans, [])
  | some (.rp ds off) => some (.one (.rp ds off), ans, [])
  | some (.sn t i j k es (.at_ x y)) => some (.one (.sn t i j k es (.at_ x y)), ans, [])
  | _ => none
def ptrId (p : PV) : Option Nat :=
  match p.leaf with
  | some (.ptr id 0) => some id
  | _ => none
def capD (p : PV) : Option D :=
  match p.leaf with
  | some (.rp ds 0) => some (.ptr ds)
  | some (.v x) => if x.oneCell' then some (.v x) else none
  | _ => none
def qfE (st : St) (fn : Fn) (first captured : List Operand) (ans : List Ans) : Got :=
  match fn, first with
  | .func g, [] =>
    match (captured.map st.ev).mapM ptrId with
    | some ids => some (.one (.clo g ids), ans, [])
    | none =>
      match (captured.map st.ev).mapM capD with
      | some ds => some (.one (.fd (.cl g ds)), ans, [])
      | none => none
  | _, _ => none
theorem qhu {α β : Type} {f : α → Option β} : ∀ {xs : List α} {ys : List β}, xs.mapM f = some ys → ys.length = xs.length ∧ ∀ (i : Nat) (y : β), ys[i]? = some y → ∃ x, xs[i]? = some x ∧ f x = some y
  | [], ys, h => by simp at h; subst h; simp
  | x :: xs, ys, h => by
    rw [List.mapM_cons] at h
    cases e : f x with
    | none => simp [e] at h
    | some y =>
      cases e2 : xs.mapM f with
      | none => simp [e, e2] at h
      | some zs =>
        simp [e, e2] at h
        subst h
        obtain ⟨h1, h2⟩ := qhu e2
        refine ⟨by simp [h1], fun i y' hi => ?_⟩
        cases i with
        | zero => simp at hi; subst hi; exact ⟨x, rfl, e⟩
        | succ i => simpa using h2 i y' (by simpa using hi)
theorem qnK {P : Program} {w0 : Base} {w : World} {a : Act} {st : St} {ω : Own} {τ : Nat → Nat × Value} {fn : Fn} {first captured : Array Operand} {r : PV} {ans ans' : List Ans} {obs : List Prop}
    (hrel : RelAt w0 st a w ω τ) (h : qfE st fn first.toList captured.toList ans = some (r, ans', obs)) :
    ∃ z, (Instr.makeFunc fn (first.map a.eval) (captured.map a.eval)).run P w = .ok z w ∧ SatP (Sat w ω τ) r z := by
  unfold qfE at h
  split at h
  · rename_i g hfirst
    have hf : first = #[] := by
      rcases first with ⟨l⟩
      simpa using hfirst
    subst hf
    refine ⟨.func (.func g) #[] (captured.map a.eval), by simp [Instr.makeFunc], ?_⟩
    have hev : ∀ (i : Nat) (x : PV), (captured.toList.map st.ev)[i]? = some x → ∃ v, (captured.map a.eval)[i]? = some v ∧ SatP (Sat w ω τ) x v := by
      intro i x hx
      rw [List.getElem?_map, Option.map_eq_some_iff] at hx
      obtain ⟨o, ho, rfl⟩ := hx
      refine ⟨a.eval o, ?_, hrel.ev o⟩
      rw [Array.getElem?_map]
      rw [Array.getElem?_toList] at ho
      rw [ho]; rfl
    split at h
    · rename_i ids hids
      simp only [Option.some.injEq, Prod.mk.injEq] at h
      obtain ⟨rfl, _, _⟩ := h
      obtain ⟨hn, hg⟩ := qhu hids
      have hex : ∀ i, i < ids.length → ∃ b id, ids[i]? = some id ∧ (captured.map a.eval)[i]? = some (ptrTo b) ∧ ω b = .box id := by
        intro i hi
        obtain ⟨x, hx, hx2⟩ := hg i ids[i] (by simp [hi])
        obtain ⟨v, hv, hs⟩ := hev i x hx
        unfold ptrId at hx2
        split at hx2
        · rename_i id hl
          simp only [Option.some.injEq] at hx2
          obtain ⟨b, hb, rfl⟩ := PV.leaf_sat hl hs
          exact ⟨b, id, by simp [hi, hx2], hv, hb⟩
        · cases hx2
      have hsz : (captured.map a.eval).size = ids.length := by simp at hn; simp [hn]
      let bs := (List.range ids.length).map fun i => (match (captured.map a.eval)[i]? with | some (.pointer (some p)) => p.block | _ => 0)
      refine ⟨bs, ?_, by simp [bs], fun i id hid => ?_⟩
      · congr 1
        apply Array.ext
        · simp [bs, hsz]
        · intro i h1 h2
          obtain ⟨b, id, _, hv, _⟩ := hex i (by rw [← hsz]; exact h1)
          have hv' := hv
          rw [Array.getElem?_eq_getElem h1, Option.some.injEq] at hv'
          rw [hv']
          have e : bs[i]'(by simpa using h2) = b := by simp only [bs, List.getElem_map, List.getElem_range, hv, ptrTo]
          simp [e]
      · have hi := (List.getElem?_eq_some_iff.1 hid).1
        obtain ⟨b, id', hid', hv, hb⟩ := hex i hi
        rw [hid] at hid'
        have := Option.some.inj hid'
        subst this
        refine ⟨b, ?_, hb⟩
        simp only [bs, List.getElem?_map, List.getElem?_range hi, Option.map_some, hv, ptrTo]
    · split at h
      · rename_i ds hds
        simp only [Option.some.injEq, Prod.mk.injEq] at h
        obtain ⟨rfl, _, _⟩ := h
        obtain ⟨hn, hg⟩ := qhu hds
        refine Rep.cl _ g ds (captured.map a.eval) (fun j => (captured.map a.eval).getD j undef) (by simp at hn; simp [hn]) (fun j d hd => ?_) (fun j d hd => ?_)
        · obtain ⟨x, hx, _⟩ := hg j d hd
          obtain ⟨v, hv, _⟩ := hev j x hx
          rw [hv]; simp only [Array.getD_eq_getD_getElem?, hv, Option.getD_some]
        · obtain ⟨x, hx, hx2⟩ := hg j d hd
          obtain ⟨v, hv, hs⟩ := hev j x hx
          have e : (captured.map a.eval).getD j undef = v := by simp only [Array.getD_eq_getD_getElem?, hv, Option.getD_some]
          rw [e]
          unfold capD at hx2
          split at hx2
          · rename_i ds' hl
            simp only [Option.some.injEq] at hx2
            subst hx2
            obtain ⟨b, rfl, hr⟩ := PV.leaf_sat hl hs
            exact hr.frame fun b q hb hq => ⟨hq, rfl⟩
          · rename_i y hl
            split at hx2
            · rename_i hoc
              simp only [Option.some.injEq] at hx2
              subst hx2
              have : v = y := PV.leaf_sat hl hs
              subst this
              exact .v _ _ hoc
            · cases hx2
          · cases hx2
      · cases h
  · cases h
def qfF (P : Program) (st : St) (b : Builtin) (args : List Operand) (ts : List TypeId) (ans : List Ans) : Got :=
  match b, args, ts with
  | .len, [x], [t] => qhh P t (st.ev x) ans
  | .min, [x, y], _ => qhs (st.ev x) (st.ev y) ans
  | .max, [x, y], _ => qht (st.ev x) (st.ev y) ans
  | _, _, _ => none
def qbJ (P : Program) (st : St) (op : Op) (ans : List Ans) : Got :=
  match op with
  | .move x | .assign x => some (st.ev x, ans, [])
  | .pick c a b => qhp (st.ev c) (st.ev a) (st.ev b) ans
  | .load t x => qfA P st t (st.ev x) ans
  | .nilCheck x => qj8 (st.ev x) ans
  | .binOp op t x y _ => qhd P op t x y (st.ev x) (st.ev y) ans
  | .unOp op _ x => qho op (st.ev x) ans
  | .convert s d x => qhq P s d (st.ev x) ans
  | .slice t x lo hi mx => qfB P st t (st.ev x) lo hi mx ans
  | .fieldAddr s x f => qhf P s (st.ev x) f ans
  | .field t x f => qhn P t (st.ev x) f ans
  | .indexAddr t x i => qhg P t (st.ev x) (st.ev i) ans
  | .index t x i => qhr P t (st.ev x) (st.ev i) ans
  | .extract x i => qhm (st.ev x) i ans
  | .build t parts => qfD P st t parts.toList ans
  | .call ⟨.builtin b, args, ts⟩ => qfF P st b args.toList ts.toList ans
  | .makeFunc fn first captured => qfE st fn first.toList captured.toList ans
  | _ => none
theorem run_v {P : Program} {w w' : World} {s : Sem Value} {z : Value} (h : s.run P w = .ok z w') : (do pure (.value (← s)) : Sem Next).run P w = .ok (.value z) w' := by
  rw [Sem.run_bind, h]; rfl
theorem qnL {P : Program} {w0 : Base} {w : World} {a : Act} {st : St} {ω : Own} {τ : Nat → Nat × Value} {b : Builtin} {args : Array Operand} {ts : Array TypeId} {ty : TypeId} {consts : Array Bool} {r : PV} {ans ans' : List Ans} {obs : List Prop}
    (hrel : RelAt w0 st a w ω τ) (h : qfF P st b args.toList ts.toList ans = some (r, ans', obs)) :
    ∃ z, (builtin b ts ty consts (args.map a.eval)).run P w = .ok (.value z) w ∧ SatP (Sat w ω τ) r z := by
  obtain ⟨args⟩ := args
  obtain ⟨ts⟩ := ts
  unfold qfF at h
  split at h
  · rename_i x t e1 e2
    simp only at e1 e2
    subst e1 e2
    obtain ⟨z, h1, h2⟩ := qnz (ty := ty) (hrel.ev x) h
    refine ⟨z, run_v (s := Builtin.len_ #[t] ty (Array.map a.eval #[x])) ?_, h2⟩
    simpa using h1
  · rename_i x y e1
    simp only at e1
    subst e1
    obtain ⟨z, h1, h2⟩ := qnI (P := P) (ts := ⟨ts⟩) (ty := ty) (hrel.ev x) (hrel.ev y) h
    refine ⟨z, run_v (s := Builtin.min_ ⟨ts⟩ ty (Array.map a.eval #[x, y])) ?_, h2⟩
    simpa using h1
  · rename_i x y e1
    simp only at e1
    subst e1
    obtain ⟨z, h1, h2⟩ := qnJ (P := P) (ts := ⟨ts⟩) (ty := ty) (hrel.ev x) (hrel.ev y) h
    refine ⟨z, run_v (s := Builtin.max_ ⟨ts⟩ ty (Array.map a.eval #[x, y])) ?_, h2⟩
    simpa using h1
  · cases h
theorem qhv {P : Program} {w0 : Base} {w : World} {a : Act} {st : St} {ω : Own} {τ : Nat → Nat × Value} {o : Oper} {r : PV} {ans ans' : List Ans} {obs : List Prop}
    (hrel : RelAt w0 st a w ω τ) (h : qbJ P st o.op ans = some (r, ans', obs)) (ho : Obs obs) :
    ∃ z, (execOp a.eval o).run P w = .ok (.value z) w ∧ SatP (Sat w ω τ) r z := by
  obtain ⟨dst, op, type, pos, after, guard⟩ := o
  simp only at h
  unfold qbJ at h
  split at h
  · rename_i x
    simp only [Option.some.injEq, Prod.mk.injEq] at h
    obtain ⟨rfl, _, _⟩ := h
    exact ⟨a.eval x, rfl, hrel.ev x⟩
  · rename_i x
    simp only [Option.some.injEq, Prod.mk.injEq] at h
    obtain ⟨rfl, _, _⟩ := h
    exact ⟨a.eval x, rfl, hrel.ev x⟩
  · rename_i c x y
    exact qnF (hrel.ev c) (hrel.ev x) (hrel.ev y) h ho
  · rename_i t x
    obtain ⟨z, h1, h2⟩ := qny hrel (hrel.ev x) h ho
    exact ⟨z, run_v h1, h2⟩
  · rename_i x
    unfold qj8 at h
    split at h
    · rename_i id off e
      simp only [Option.some.injEq, Prod.mk.injEq] at h
      obtain ⟨rfl, _, _⟩ := h
      have hs := PV.leaf_sat e (hrel.ev x)
      obtain ⟨b, hb, hx⟩ := hs
      exact ⟨_, by simp only [execOp, hx]; rfl, b, hb, rfl⟩
    · rename_i t k es i j e
      simp only [Option.some.injEq, Prod.mk.injEq] at h
      obtain ⟨rfl, _, _⟩ := h
      have hs := PV.leaf_sat e (hrel.ev x)
      have hs' := hs
      obtain ⟨b, off, cap, hx, h1⟩ := hs
      refine ⟨_, by simp only [execOp, hx]; rfl, ?_⟩
      rw [← hx]
      exact hs'
    · rename_i ds off e
      simp only [Option.some.injEq, Prod.mk.injEq] at h
      obtain ⟨rfl, _, _⟩ := h
      have hs := PV.leaf_sat e (hrel.ev x)
      have hs' := hs
      obtain ⟨b, hx, h1⟩ := hs
      refine ⟨_, by simp only [execOp, hx]; rfl, ?_⟩
      rw [← hx]
      exact hs'
    · rename_i t i j k es xx yy e
      simp only [Option.some.injEq, Prod.mk.injEq] at h
      obtain ⟨rfl, _, _⟩ := h
      have hs := PV.leaf_sat e (hrel.ev x)
      have hs' := hs
      obtain ⟨u0, ⟨b, off, cap, _, hx, _⟩, _⟩ := hs
      refine ⟨_, by simp only [execOp, hx]; rfl, ?_⟩
      rw [← hx]
      exact hs'
    · cases h
  · rename_i op' t x y ty'
    obtain ⟨z, h1, h2⟩ := qnu (hrel.ev x) (hrel.ev y) h ho
    exact ⟨z, run_v h1, h2⟩
  · rename_i op' t x
    obtain ⟨z, h1, h2⟩ := qnE (hrel.ev x) h ho
    exact ⟨z, run_v h1, h2⟩
  · rename_i s d x
    obtain ⟨z, h1, h2⟩ := qnG (hrel.ev x) h ho
    exact ⟨z, run_v h1, h2⟩
  · rename_i t x lo hi mx
    obtain ⟨z, h1, h2⟩ := qnA hrel (hrel.ev x) h ho
    exact ⟨z, run_v h1, h2⟩
  · rename_i s x f
    obtain ⟨z, h1, h2⟩ := qnv (hrel.ev x) h
    exact ⟨z, run_v h1, h2⟩
  · rename_i t x f
    obtain ⟨z, h1, h2⟩ := qnD (hrel.ev x) h
    exact ⟨z, run_v h1, h2⟩
  · rename_i t x i
    obtain ⟨z, h1, h2⟩ := qnw (hrel.ev x) (hrel.ev i) h ho
    exact ⟨z, run_v h1, h2⟩
  · rename_i t x i
    obtain ⟨z, h1, h2⟩ := qnH (hrel.ev x) (hrel.ev i) h ho
    exact ⟨z, run_v h1, h2⟩
  · rename_i x i
    obtain ⟨z, h1, h2⟩ := qnC (P := P) (hrel.ev x) h
    exact ⟨z, run_v h1, h2⟩
  · rename_i t parts
    obtain ⟨z, h1, h2⟩ := qnB hrel h
    exact ⟨z, run_v h1, h2⟩
  · rename_i b args ts
    obtain ⟨z, h1, h2⟩ := qnL (ty := type) (consts := args.map fun | .const _ => true | _ => false) hrel h
    exact ⟨z, by simp only [execOp, resolve, Sem.run_bind, Sem.run_pure, Result.andThen_ok, invoke]; exact h1, h2⟩
  · rename_i fn first captured
    obtain ⟨z, h1, h2⟩ := qnK (P := P) hrel h
    exact ⟨z, run_v h1, h2⟩
  · cases h
end Go.Sx
