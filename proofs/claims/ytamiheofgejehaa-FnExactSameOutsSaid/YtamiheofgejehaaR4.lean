/- Addresses, loads, lengths, cuts of slices. -/
import Derived.Test.YtamiheofgejehaaR3
set_option linter.unusedVariables false
set_option linter.unusedSimpArgs false
namespace Go.Sx
open Go.RowKit

def Tag.ro' : Tag → Tag
  | .free => .free
  | .own t => .ro t
  | .ro t => .ro t

theorem Tag.ro'_R {t : Tag} {q q' : List (Nat × Nat)} {o : Owner} (h : t.R q o) : t.ro'.R q' o := by
  cases t with
  | free => exact h
  | own s => exact .inr ⟨q, h⟩
  | ro s => exact h

theorem Tag.ro'_hdr {t : Tag} {τ : Nat → Nat × Value} {y : Nat × Value} : t.ro'.hdr τ y := by cases t <;> exact trivial

def D.leaf (t : Tag) : D → Leaf
  | .v (.bool c) => .sb c
  | .v x => .v x
  | .sl k es => .sl t.ro' k es

theorem D.leaf_sat {w : World} {ω : Own} {τ : Nat → Nat × Value} {t : Tag} {p : Nat × Nat} {d : D} {u : Value} (h : Rep w ω (fun q => t.R (p :: q)) d u) : Sat w ω τ (d.leaf t) u := by
  cases d with
  | v x =>
    have e : u = x := by cases h; rfl
    subst e
    unfold D.leaf
    split
    · rename_i h; cases h; exact rfl
    · rename_i h; cases h; exact rfl
    · rename_i h; cases h
  | sl k es => exact ⟨h.frame fun b q hb hq => ⟨Tag.ro'_R hq, rfl⟩, Tag.ro'_hdr⟩

def fieldOf (P : Program) (s : TypeId) (f : Nat) : Option Nat :=
  match P.underlying s with
  | some (.struct fs) =>
    match fs[f]? with
    | some fd =>
      match P.info? fd.type with
      | some i => if i.size = 0 then none else some fd.offset
      | none => none
    | none => none
  | _ => none

theorem add_off (b off n : Nat) : (⟨b, off, none⟩ : Addr).add n = ⟨b, off + n, none⟩ := by
  unfold Addr.add
  split
  · rename_i h; simp [h]
  · rfl

theorem run_fieldAt {P : Program} {s : TypeId} {f off : Nat} (h : fieldOf P s f = some off) (w : World) (b o : Nat) :
    (Instr.fieldAt s (.pointer (some ⟨b, o, none⟩)) f).run P w = .ok (.pointer (some ⟨b, o + off, none⟩)) w := by
  unfold fieldOf at h
  split at h
  · rename_i fs hu
    split at h
    · rename_i fd hf
      split at h
      · rename_i i hi
        split at h
        · cases h
        · rename_i hz
          simp only [Option.some.injEq] at h
          subst h
          simp [Instr.fieldAt, run_underlying hu, hf, Instr.sureAddr, fieldPlace, sizeOf, typeInfo, hi, hz, add_off]
      · cases h
    · cases h
  · cases h

def stepField (P : Program) (s : TypeId) (p : PV) (f : Nat) (ans : List Ans) : Got :=
  match fieldOf P s f, p.leaf with
  | some off, some (.ptr id o) => some (.one (.ptr id (o + off)), ans, [])
  | some off, some (.ep t k es i j) => some (.one (.ep t k es i (j + off)), ans, [])
  | _, _ => none

theorem stepField_ok {P : Program} {w : World} {ω : Own} {τ : Nat → Nat × Value} {s : TypeId} {p r : PV} {f : Nat} {v : Value} {ans ans' : List Ans} {obs : List Prop}
    (hp : SatP (Sat w ω τ) p v) (h : stepField P s p f ans = some (r, ans', obs)) :
    ∃ z, (Instr.fieldAt s v f).run P w = .ok z w ∧ SatP (Sat w ω τ) r z := by
  unfold stepField at h
  split at h
  · rename_i off id o e1 e2
    simp only [Option.some.injEq, Prod.mk.injEq] at h
    obtain ⟨rfl, _, rfl⟩ := h
    obtain ⟨b, hb, rfl⟩ := PV.leaf_sat e2 hp
    exact ⟨_, run_fieldAt e1 w b o, b, hb, rfl⟩
  · rename_i off t k es i j e1 e2
    simp only [Option.some.injEq, Prod.mk.injEq] at h
    obtain ⟨rfl, _, rfl⟩ := h
    obtain ⟨b, o, cap, rfl, hi, hr, hh⟩ := PV.leaf_sat e2 hp
    exact ⟨_, run_fieldAt e1 w b _, b, o, cap, by rw [Nat.add_assoc], hi, hr, hh⟩
  · cases h

/-- The elements' type of a slice type, and how many cells an element has. -/
def elemOf (P : Program) (t : TypeId) : Option (TypeId × Nat) :=
  match P.underlying t with
  | some (.slice e) => (P.info? e).map fun i => (e, i.size)
  | _ => none

theorem elemOf_spec {P : Program} {t e : TypeId} {k : Nat} (h : elemOf P t = some (e, k)) : P.underlying t = some (.slice e) ∧ ∃ i, P.info? e = some i ∧ i.size = k := by
  unfold elemOf at h
  split at h
  · rename_i e' hu
    rw [Option.map_eq_some_iff] at h
    obtain ⟨i, hi, h⟩ := h
    simp only [Prod.mk.injEq] at h
    obtain ⟨rfl, rfl⟩ := h
    exact ⟨hu, i, hi, rfl⟩
  · cases h

def stepIndexAddr (P : Program) (t : TypeId) (p q : PV) (ans : List Ans) : Got :=
  match elemOf P t, p.leaf, q.int with
  | some (_, k), some (.sl tag k' es), some (_, n) => if k = k' then some (.one (.ep tag k' es n.toNat 0), ans, [0 ≤ n, n < (es.length : Int)]) else none
  | _, _, _ => none

theorem stepIndexAddr_ok {P : Program} {w : World} {ω : Own} {τ : Nat → Nat × Value} {t : TypeId} {p q r : PV} {u v : Value} {ans ans' : List Ans} {obs : List Prop}
    (hp : SatP (Sat w ω τ) p u) (hq : SatP (Sat w ω τ) q v) (h : stepIndexAddr P t p q ans = some (r, ans', obs)) (ho : Obs obs) :
    ∃ z, (Instr.indexAt t u v).run P w = .ok z w ∧ SatP (Sat w ω τ) r z := by
  unfold stepIndexAddr at h
  split at h
  · rename_i e k tag k' es kk n e1 e2 e3
    split at h
    · rename_i hk
      subst hk
      simp only [Option.some.injEq, Prod.mk.injEq] at h
      obtain ⟨rfl, _, rfl⟩ := h
      obtain ⟨hu, i, hi, hz⟩ := elemOf_spec e1
      obtain ⟨hr, hh⟩ := PV.leaf_sat e2 hp
      rw [PV.int_sat e3 hq]
      have h0 : 0 ≤ n := ho.1
      have h1 : n < (es.length : Int) := ho.2.1
      cases hr with
      | nil => simp at h1; omega
      | row R k es b off cap arr ty fr us hb hR hc hs hk hu' hd =>
        refine ⟨.pointer (some ⟨b, off + n.toNat * k + 0, none⟩), ?_, b, off, cap, rfl, by omega, .row _ k es b off cap arr ty fr us hb hR hc hs hk hu' hd, hh⟩
        simp [Instr.indexAt, run_underlying hu, asIntOf, h0, h1, sizeOf, typeInfo, hi, hz, add_off]
    · cases h
  · cases h

theorem run_loadCells_block {P : Program} {w : World} {b off n : Nat} {arr : Array Value} {ty : TypeId} {fr : Nat × Nat} (hb : w.heap[b]? = some (.cells arr ty fr)) (hn : off + n ≤ arr.size) :
    (loadCells ⟨b, off, none⟩ n).run P w = .ok (arr.extract off (off + n)) w := by
  have hl : ((arr.extract off (off + n)).toList).length = n := by simp; omega
  have := run_loadCells_list (P := P) w ⟨b, off, none⟩ (arr.extract off (off + n)).toList (fun j v hv => by
    rw [add_off, cell_of_row w b (off + j) arr ty fr hb]
    rw [Array.getElem?_toList, Array.getElem?_extract] at hv
    split at hv
    · exact hv
    · cases hv)
  rw [hl, Array.toArray_toList] at this
  exact this

/-- What a load of n cells gives, given the leaves. -/
def loaded (agg : Bool) (n : Nat) (ls : List Leaf) (off : Nat) : Option PV :=
  if agg then (if off + n ≤ ls.length then some (.agg ((ls.drop off).take n)) else none)
  else (ls[off]?).map fun l => .one l

theorem loaded_ok {P : Program} {w : World} {ω : Own} {τ : Nat → Nat × Value} {t : TypeId} {agg : Bool} {i : TypeInfo} {ls : List Leaf} {off : Nat} {p : PV} (ha : isAggT P t = some agg) (hi : P.info? t = some i)
    (h : loaded agg i.size ls off = some p) {b base : Nat} {arr : Array Value} {ty : TypeId} {fr : Nat × Nat} (hb : w.heap[b]? = some (.cells arr ty fr)) (hsz : base + ls.length ≤ arr.size)
    (hs : ∀ (j : Nat) (l : Leaf), ls[j]? = some l → ∃ u, arr[base + j]? = some u ∧ Sat w ω τ l u) :
    ∃ z, (loadVar t ⟨b, base + off, none⟩).run P w = .ok z w ∧ SatP (Sat w ω τ) p z := by
  unfold loaded at h
  cases agg with
  | true =>
    simp only [if_true] at h
    split at h
    · rename_i hle
      simp only [Option.some.injEq] at h
      subst h
      refine ⟨.agg (arr.extract (base + off) (base + off + i.size)), ?_, ?_⟩
      · simp [loadVar, isAggT_run ha, sizeOf, typeInfo, hi, run_loadCells_block (P := P) hb (show base + off + i.size ≤ arr.size by omega)]
      · refine ⟨_, rfl, by simp; omega, fun j l hl => ?_⟩
        rw [List.getElem?_take] at hl
        split at hl
        · rw [List.getElem?_drop] at hl
          obtain ⟨u, h1, h2⟩ := hs _ l hl
          refine ⟨u, ?_, h2⟩
          rw [Array.getElem?_extract, if_pos (by omega), ← h1]
          congr 1
          omega
        · cases hl
    · cases h
  | false =>
    simp only [Bool.false_eq_true, if_false, Option.map_eq_some_iff] at h
    obtain ⟨l, hl, rfl⟩ := h
    obtain ⟨u, h1, h2⟩ := hs _ l hl
    refine ⟨u, ?_, h2⟩
    simp [loadVar, isAggT_run ha, cell_of_row w b (base + off) arr ty fr hb, h1]

def stepLoad (P : Program) (st : St) (t : TypeId) (p : PV) (ans : List Ans) : Got :=
  match isAggT P t, P.info? t, p.leaf with
  | some agg, some i, some (.ptr id off) =>
    match getBox id st.boxes with
    | some ls => (loaded agg i.size ls off).map fun r => (r, ans, [])
    | none => none
  | some agg, some i, some (.ep tag k es x j) =>
    match ans with
    | .el ds :: r => if ds.length = k then (loaded agg i.size (ds.map (D.leaf tag)) j).map fun v => (v, r, [es[x]? = some ds]) else none
    | _ => none
  | _, _, _ => none

theorem stepLoad_ok {P : Program} {w0 w : World} {a : Act} {st : St} {ω : Own} {τ : Nat → Nat × Value} {t : TypeId} {p r : PV} {v : Value} {ans ans' : List Ans} {obs : List Prop}
    (hrel : RelAt w0 st a w ω τ) (hp : SatP (Sat w ω τ) p v) (h : stepLoad P st t p ans = some (r, ans', obs)) (ho : Obs obs) :
    ∃ z, (Instr.loadAt t v).run P w = .ok z w ∧ SatP (Sat w ω τ) r z := by
  unfold stepLoad at h
  split at h
  · rename_i agg i id off e1 e2 e3
    split at h
    · rename_i ls hbx
      rw [Option.map_eq_some_iff] at h
      obtain ⟨r', h1, h⟩ := h
      simp only [Prod.mk.injEq] at h
      obtain ⟨rfl, rfl, rfl⟩ := h
      obtain ⟨b, hb, rfl⟩ := PV.leaf_sat e3 hp
      obtain ⟨b', arr, ty, hb', huniq, hheap, hsz, hsat⟩ := hrel.boxes id ls hbx
      have := huniq b hb
      subst this
      have := loaded_ok (P := P) e1 e2 h1 hheap (base := 0) (by omega) (fun j l hl => by simpa using hsat j l hl)
      simpa [Instr.loadAt, Instr.sureAddr] using this
    · cases h
  · rename_i agg i tag k es x j e1 e2 e3
    split at h
    · rename_i ds rr
      split at h
      · rename_i hlen
        rw [Option.map_eq_some_iff] at h
        obtain ⟨r', h1, h⟩ := h
        simp only [Prod.mk.injEq] at h
        obtain ⟨rfl, rfl, rfl⟩ := h
        have hds : es[x]? = some ds := ho.1
        obtain ⟨b, off, cap, rfl, hi, hr, hh⟩ := PV.leaf_sat e3 hp
        cases hr with
        | nil => simp at hi
        | row R k es b off cap arr ty fr us hb hR hc hs hk hu hd =>
          have hkx : x * k + k ≤ cap * k := by
            have : (x + 1) * k ≤ cap * k := Nat.mul_le_mul_right k (by omega)
            rw [Nat.add_mul] at this; omega
          have := loaded_ok (P := P) (τ := τ) (ω := ω) e1 e2 h1 hb (base := off + x * k) (by simp [hlen]; omega) (fun jj l hl => by
            rw [List.getElem?_map, Option.map_eq_some_iff] at hl
            obtain ⟨d, h2, rfl⟩ := hl
            have hc : cellAt es x jj = some d := by simp [cellAt, hds, h2]
            exact ⟨us x jj, hu x jj d hc, D.leaf_sat (hd x jj d hc)⟩)
          simpa [Instr.loadAt, Instr.sureAddr] using this
      · cases h
    · cases h
  · cases h

def stepLen (P : Program) (t : TypeId) (p : PV) (ans : List Ans) : Got :=
  match P.underlying t, p.leaf with
  | some (.slice _), some (.sl _ _ es) => some (.one (.v (.int .i64 es.length)), ans, [])
  | some (.slice _), some (.v (.slice _ n _)) => some (.one (.v (.int .i64 n)), ans, [])
  | some .string, some (.v (.string s)) => some (.one (.v (.int .i64 s.size)), ans, [])
  | _, _ => none

theorem Rep.len {w : World} {ω : Own} {R : List (Nat × Nat) → Owner → Prop} {k : Nat} {es : List (List D)} {y : Value} (h : Rep w ω R (.sl k es) y) : ∃ b c, y = .slice b es.length c := by
  cases h with
  | nil => exact ⟨_, _, rfl⟩
  | row R k es b off cap arr ty fr us hb hR hc hs hk hu hd => exact ⟨_, _, rfl⟩

theorem stepLen_ok {P : Program} {w : World} {ω : Own} {τ : Nat → Nat × Value} {t ty : TypeId} {p r : PV} {v : Value} {ans ans' : List Ans} {obs : List Prop}
    (hp : SatP (Sat w ω τ) p v) (h : stepLen P t p ans = some (r, ans', obs)) :
    ∃ z, (Builtin.len_ #[t] ty #[v]).run P w = .ok z w ∧ SatP (Sat w ω τ) r z := by
  unfold stepLen at h
  split at h
  · rename_i e tg k es e1 e2
    simp only [Option.some.injEq, Prod.mk.injEq] at h
    obtain ⟨rfl, _, rfl⟩ := h
    obtain ⟨hr, _⟩ := PV.leaf_sat e2 hp
    obtain ⟨b, c, rfl⟩ := hr.len
    exact ⟨_, by simp [Builtin.len_, run_underlying e1]; rfl, rfl⟩
  · rename_i e b n c e1 e2
    simp only [Option.some.injEq, Prod.mk.injEq] at h
    obtain ⟨rfl, _, rfl⟩ := h
    have : v = .slice b n c := PV.leaf_sat e2 hp
    subst this
    exact ⟨_, by simp [Builtin.len_, run_underlying e1]; rfl, rfl⟩
  · rename_i s e1 e2
    simp only [Option.some.injEq, Prod.mk.injEq] at h
    obtain ⟨rfl, _, rfl⟩ := h
    have : v = .string s := PV.leaf_sat e2 hp
    subst this
    exact ⟨_, by simp [Builtin.len_, run_underlying e1]; rfl, rfl⟩
  · cases h

theorem cellAt_sub {es : List (List D)} {l n i j : Nat} {d : D} (h : cellAt ((es.drop l).take n) i j = some d) : i < n ∧ cellAt es (l + i) j = some d := by
  unfold cellAt at h ⊢
  rw [List.getElem?_take] at h
  split at h
  · rw [List.getElem?_drop] at h
    exact ⟨by omega, h⟩
  · simp at h

/-- A cut of a slice reads as the cut of its elements. -/
theorem Rep.sub {w : World} {ω : Own} {R R' : List (Nat × Nat) → Owner → Prop} {k : Nat} {es : List (List D)} {b off cap : Nat} (h : Rep w ω R (.sl k es) (.slice (some ⟨b, off, none⟩) es.length cap))
    {l m : Nat} (hl : l ≤ m) (hm : m ≤ es.length) (hR0 : ∀ o, R [] o → R' [] o) (hR1 : ∀ i j q o, R ((i, j) :: q) o → R' ((i - l, j) :: q) o) :
    Rep w ω R' (.sl k ((es.drop l).take (m - l))) (sliced (some ⟨b, off, none⟩) l m cap k) := by
  cases h with
  | nil =>
    have e1 : l = 0 := by simp at hm; omega
    have e2 : m = 0 := by simp at hm; omega
    subst e1 e2
    simpa [sliced] using Rep.nil R' k _
  | row R k es b off cap arr ty fr us hb hR hc hs hk hu hd =>
    have hlen : ((es.drop l).take (m - l)).length = m - l := by simp; omega
    have hmul : l * k + (cap - l) * k = cap * k := by rw [← Nat.add_mul]; congr 1; omega
    have key : ∀ o' : Nat, (cap = l ∨ o' = off + l * k) → o' + (cap - l) * k ≤ arr.size →
        Rep w ω R' (.sl k ((es.drop l).take (m - l))) (.slice (some ⟨b, o', none⟩) (m - l) (cap - l)) := by
      intro o' ho hsz
      have hz : cap = l → m - l = 0 := fun e => by omega
      have hr := Rep.row (w := w) (ω := ω) R' k ((es.drop l).take (m - l)) b o' (cap - l) arr ty fr (fun i j => us (l + i) j) hb (hR0 _ hR) (by omega) hsz
        (fun e he => hk e (List.mem_of_mem_drop (List.mem_of_mem_take he)))
        (fun i j d hc' => by
          obtain ⟨hi, hc''⟩ := cellAt_sub hc'
          rcases ho with ho | rfl
          · have := hz ho; omega
          · rw [← hu (l + i) j d hc'']
            congr 1
            rw [Nat.add_mul]; omega)
        (fun i j d hc' => by
          obtain ⟨hi, hc''⟩ := cellAt_sub hc'
          refine (hd (l + i) j d hc'').frame fun b q _ hq => ⟨?_, rfl⟩
          have := hR1 _ _ _ _ hq
          rwa [show l + i - l = i by omega] at this)
      rw [hlen] at hr
      exact hr
    unfold sliced
    split
    · rename_i hcl
      exact key off (.inl hcl) (by have : cap - l = 0 := by omega
                                   rw [this]; simp; omega)
    · simp only [Option.map_some, add_off]
      exact key _ (.inr rfl) (by omega)

def optInt (st : St) : Option Operand → Option (Option Int)
  | none => some none
  | some x => ((st.ev x).int).map fun p => some p.2

def stepSlice (P : Program) (st : St) (t : TypeId) (p : PV) (lo hi mx : Option Operand) (ans : List Ans) : Got :=
  match elemOf P t, p.leaf, mx with
  | some (_, k), some (.sl tag k' es), none =>
    if k = k' then
      match optInt st lo, optInt st hi with
      | some l, some h => some (.one (.sl tag.ro' k ((es.drop (l.getD 0).toNat).take ((h.getD es.length).toNat - (l.getD 0).toNat))), ans, [0 ≤ l.getD 0, l.getD 0 ≤ h.getD es.length, h.getD es.length ≤ es.length])
      | _, _ => none
    else none
  | _, _, _ => none

theorem run_sliceBounds {P : Program} {w : World} {len cap : Nat} {lo hi : Option Value} {l h : Int} (hl : lo = none ∧ l = 0 ∨ ∃ k, lo = some (.int k l)) (hh : hi = none ∧ h = len ∨ ∃ k, hi = some (.int k h))
    (h0 : 0 ≤ l) (h1 : l ≤ h) (h2 : h ≤ cap) : (Instr.sliceBounds true len cap lo hi none).run P w = .ok (l.toNat, h.toNat, cap) w := by
  have eh : (h.toNat : Int) = h := Int.toNat_of_nonneg (by omega)
  have h3 : 0 ≤ h := by omega
  rcases hl with ⟨rfl, rfl⟩ | ⟨k, rfl⟩ <;> rcases hh with ⟨rfl, rfl⟩ | ⟨k', rfl⟩ <;>
    simp_all [Instr.sliceBounds, run_sliceBound]

theorem optInt_sat {w0 w : World} {a : Act} {st : St} {ω : Own} {τ : Nat → Nat × Value} (hrel : RelAt w0 st a w ω τ) {x : Option Operand} {r : Option Int} (h : optInt st x = some r) :
    (x.map a.eval = none ∧ r = none) ∨ ∃ k n, x.map a.eval = some (.int k n) ∧ r = some n := by
  cases x with
  | none => simp [optInt] at h; exact .inl ⟨rfl, h.symm⟩
  | some x =>
    simp only [optInt, Option.map_eq_some_iff] at h
    obtain ⟨⟨k, n⟩, h1, h2⟩ := h
    exact .inr ⟨k, n, by simp [PV.int_sat h1 (hrel.ev x)], h2.symm⟩

theorem stepSlice_ok {P : Program} {w0 w : World} {a : Act} {st : St} {ω : Own} {τ : Nat → Nat × Value} {t : TypeId} {p r : PV} {v : Value} {lo hi mx : Option Operand} {ans ans' : List Ans} {obs : List Prop}
    (hrel : RelAt w0 st a w ω τ) (hp : SatP (Sat w ω τ) p v) (h : stepSlice P st t p lo hi mx ans = some (r, ans', obs)) (ho : Obs obs) :
    ∃ z, (Instr.sliceAt t v (lo.map a.eval) (hi.map a.eval) (mx.map a.eval)).run P w = .ok z w ∧ SatP (Sat w ω τ) r z := by
  unfold stepSlice at h
  split at h
  · rename_i e k tag k' es e1 e2
    split at h
    · rename_i hk
      subst hk
      split at h
      · rename_i l hh e3 e4
        simp only [Option.some.injEq, Prod.mk.injEq] at h
        obtain ⟨rfl, _, rfl⟩ := h
        obtain ⟨hu, i, hi', hz⟩ := elemOf_spec e1
        obtain ⟨hr, _⟩ := PV.leaf_sat e2 hp
        obtain ⟨o1, o2, o3, _⟩ := ho
        have h3 := optInt_sat hrel e3
        have h4 := optInt_sat hrel e4
        have hl' : (lo.map a.eval = none ∧ l.getD 0 = 0) ∨ ∃ k, lo.map a.eval = some (.int k (l.getD 0)) := by
          rcases h3 with ⟨h, rfl⟩ | ⟨k, n, h, rfl⟩
          · exact .inl ⟨h, rfl⟩
          · exact .inr ⟨k, h⟩
        have hh' : (hi.map a.eval = none ∧ hh.getD es.length = es.length) ∨ ∃ k, hi.map a.eval = some (.int k (hh.getD es.length)) := by
          rcases h4 with ⟨h, rfl⟩ | ⟨k, n, h, rfl⟩
          · exact .inl ⟨h, rfl⟩
          · exact .inr ⟨k, h⟩
        cases hr with
        | nil _ _ a0 =>
          simp only [List.length_nil] at *
          have e0 : l.getD 0 = 0 := by omega
          have e0' : hh.getD ((0 : Nat) : Int) = 0 := by omega
          refine ⟨.slice a0 0 0, ?_, ?_⟩
          · simp only [Instr.sliceAt, Sem.run_bind, run_underlying hu, Result.andThen_ok, Instr.slice, Option.map_none]
            rw [run_sliceBounds hl' hh' o1 o2 o3]
            have e0'' : hh.getD 0 = 0 := by simpa using e0'
            simp [sizeOf, typeInfo, hi', e0, e0'']
          · refine ⟨?_, Tag.ro'_hdr⟩
            simp only [List.drop_nil, List.take_nil]
            exact .nil _ _ _
        | row R k es b off cap arr ty fr us hb hR hc hs hk hu' hd =>
          refine ⟨sliced (some ⟨b, off, none⟩) (l.getD 0).toNat (hh.getD es.length).toNat cap k, ?_, ?_, Tag.ro'_hdr⟩
          · simp only [Instr.sliceAt, Sem.run_bind, run_underlying hu, Result.andThen_ok, Instr.slice, Option.map_none]
            rw [run_sliceBounds hl' hh' o1 o2 (by omega)]
            simp [sizeOf, typeInfo, hi', hz, sliced]
          · exact Rep.sub (.row _ k es b off cap arr ty fr us hb hR hc hs hk hu' hd) (by omega) (by omega) (fun o h => Tag.ro'_R h) (fun i j q o h => Tag.ro'_R h)
      · cases h
    · cases h
  · cases h
end Go.Sx
