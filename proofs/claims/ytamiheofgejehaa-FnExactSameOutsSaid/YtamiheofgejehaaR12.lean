/- A contract of a function, and a call under it. -/
import Derived.Test.YtamiheofgejehaaR11
set_option linter.unusedVariables false
set_option linter.unusedSimpArgs false
namespace Go.Sx
open Go.RowKit

def FreeRep (w : World) (d : D) (y : Value) : Prop := Rep w (fun _ => .imm) Tag.free.R d y

def ArgOk (w : World) : AD → Value → Prop
  | .one d, y => FreeRep w d y
  | .agg ds, y => ∃ vs : Array Value, y = .agg vs ∧ vs.size = ds.length ∧ ∀ (i : Nat) (d : D), ds[i]? = some d → ∃ u, vs[i]? = some u ∧ FreeRep w d u

def ArgsOk (w : World) (ads : List AD) (vs : Array Value) : Prop := vs.size = ads.length ∧ ∀ (i : Nat) (ad : AD), ads[i]? = some ad → ∃ v, vs[i]? = some v ∧ ArgOk w ad v

def CellRes (w : World) (ω : Own) (r : Nat) : AD → Value → Prop
  | .one d, y => Rep w ω (Tag.own (100 * r)).R d y
  | .agg ds, y => ∃ vs : Array Value, y = .agg vs ∧ vs.size = ds.length ∧ ∀ (j : Nat) (d : D), ds[j]? = some d → ∃ u, vs[j]? = some u ∧ Rep w ω (Tag.own (100 * r + j)).R d u

def ResAll (w : World) (ω : Own) (rs : List AD) (v : Value) : Prop :=
  match rs with
  | [ad] => CellRes w ω 0 ad v
  | rs => ∃ vs : Array Value, v = .tuple vs ∧ vs.size = rs.length ∧ ∀ (r : Nat) (ad : AD), rs[r]? = some ad → ∃ y, vs[r]? = some y ∧ CellRes w ω r ad y

/-- What a function hands back: new memory, no two slices of it in one place. -/
def ResOk (w0 w : World) (rs : List AD) (v : Value) : Prop :=
  ∃ ω : Own, (∀ b, b < w0.heap.size → ω b = .imm) ∧ (∀ b, ω b ≠ .imm → (∃ t q, ω b = .tok t q) ∧ ∃ arr ty, w.heap[b]? = some (.cells arr ty (0, 0))) ∧ ResAll w ω rs v

/-- THE CONTRACT: from these arguments the function returns these results, in new memory; no old memory is turned. -/
def Ret (P : Program) (f : FuncId) (args rs : List AD) : Prop :=
  ∀ (w : World) (vs : Array Value), ArgsOk w args vs → Calls P f vs w fun e w' => ∃ v, e = .returned v ∧ Below w.heap.size w w' ∧ ResOk w w' rs v

def Leaf.argD : Leaf → Option D
  | .v x => if x.oneCell' then some (.v x) else none
  | .sb c => some (.v (.bool c))
  | .sl _ k es => some (.sl k es)
  | _ => none

def AL.argD : AL → Option AD
  | .one l => l.argD.map .one
  | .agg ls => (ls.mapM Leaf.argD).map .agg

def PV.argD : PV → Option AD
  | .al a => a.argD
  | _ => none

theorem Rep.free {w : World} {ω : Own} {R : List (Nat × Nat) → Owner → Prop} {d : D} {y : Value} (h : Rep w ω R d y) : FreeRep w d y :=
  h.frame fun _ _ _ _ => ⟨rfl, rfl⟩

theorem Leaf.argD_sat {w : World} {ω : Own} {τ : Nat → Nat × Value} {l : Leaf} {d : D} {y : Value} (h : l.argD = some d) (hs : Sat w ω τ l y) : FreeRep w d y := by
  cases l with
  | und => cases h
  | v x =>
    simp only [Leaf.argD] at h
    split at h
    · simp only [Option.some.injEq] at h; subst h
      have : y = x := hs
      subst this
      exact .v _ _ ‹_›
    · cases h
  | sb c =>
    simp only [Leaf.argD, Option.some.injEq] at h; subst h
    have : y = .bool c := hs
    subst this
    exact .v _ _ rfl
  | sl t k es => simp only [Leaf.argD, Option.some.injEq] at h; subst h; exact hs.1.free
  | ptr => cases h
  | ep => cases h

theorem PV.argD_sat {w : World} {ω : Own} {τ : Nat → Nat × Value} {p : PV} {ad : AD} {y : Value} (h : p.argD = some ad) (hs : SatP (Sat w ω τ) p y) : ArgOk w ad y := by
  cases p with
  | tup as => cases h
  | al a =>
    cases a with
    | one l =>
      simp only [PV.argD, AL.argD, Option.map_eq_some_iff] at h
      obtain ⟨d, h1, rfl⟩ := h
      exact Leaf.argD_sat h1 hs
    | agg ls =>
      simp only [PV.argD, AL.argD, Option.map_eq_some_iff] at h
      obtain ⟨ds, h1, rfl⟩ := h
      obtain ⟨h2, h3⟩ := mapM_get h1
      obtain ⟨vs, rfl, hn, hv⟩ := hs
      refine ⟨vs, rfl, by omega, fun i d hd => ?_⟩
      obtain ⟨l, hl, hl2⟩ := h3 i d hd
      obtain ⟨u, hu, hu2⟩ := hv i l hl
      exact ⟨u, hu, Leaf.argD_sat hl2 hu2⟩

def D.resLeaf (t : Nat) : D → Leaf
  | .v (.bool c) => .sb c
  | .v x => .v x
  | .sl k es => .sl (.own t) k es

def resLeaves (t : Nat) : Nat → List D → List Leaf
  | _, [] => []
  | j, d :: ds => d.resLeaf (t + j) :: resLeaves t (j + 1) ds

theorem resLeaves_get (t : Nat) : ∀ (ds : List D) (j i : Nat), (resLeaves t j ds)[i]? = (ds[i]?).map (D.resLeaf (t + (j + i)))
  | [], _, _ => by simp [resLeaves]
  | d :: ds, j, 0 => by simp [resLeaves]
  | d :: ds, j, i + 1 => by
    simp only [resLeaves, List.getElem?_cons_succ, resLeaves_get t ds (j + 1) i]
    rw [show j + 1 + i = j + (i + 1) by omega]

theorem resLeaves_length (t : Nat) : ∀ (ds : List D) (j : Nat), (resLeaves t j ds).length = ds.length
  | [], _ => rfl
  | d :: ds, j => by simp [resLeaves, resLeaves_length t ds (j + 1)]

def AD.res (t : Nat) : AD → AL
  | .one d => .one (d.resLeaf t)
  | .agg ds => .agg (resLeaves t 0 ds)

def resAls (t : Nat) : Nat → List AD → List AL
  | _, [] => []
  | r, a :: as => a.res (t + 100 * r) :: resAls t (r + 1) as

theorem resAls_get (t : Nat) : ∀ (as : List AD) (r i : Nat), (resAls t r as)[i]? = (as[i]?).map (AD.res (t + 100 * (r + i)))
  | [], _, _ => by simp [resAls]
  | d :: ds, j, 0 => by simp [resAls]
  | d :: ds, j, i + 1 => by
    simp only [resAls, List.getElem?_cons_succ, resAls_get t ds (j + 1) i]
    rw [show j + 1 + i = j + (i + 1) by omega]

theorem resAls_length (t : Nat) : ∀ (as : List AD) (r : Nat), (resAls t r as).length = as.length
  | [], _ => rfl
  | d :: ds, j => by simp [resAls, resAls_length t ds (j + 1)]

def resPV (t : Nat) : List AD → PV
  | [a] => .al (a.res t)
  | as => .tup (resAls t 0 as)

def resFits (rs : List AD) : Bool := rs.length < 100 && rs.all fun | .one _ => true | .agg ds => ds.length < 100

def calTag (t : Nat) : Tag → Option Tag
  | .free => some .free
  | .own s => if t ≤ s ∧ s < t + 10000 then some .free else some (.own s)
  | .ro s => if t ≤ s ∧ s < t + 10000 then some .free else some (.ro s)

def calOld (t : Nat) : Owner → Owner
  | .tok s q => if t ≤ s ∧ s < t + 10000 then .imm else .tok s q
  | o => o
def calNew (t : Nat) : Owner → Owner
  | .tok s q => .tok (t + s) q
  | _ => .imm

def AD.cell (j : Nat) : AD → Option D
  | .one d => if j = 0 then some d else none
  | .agg ds => ds[j]?

def hdrK (rs : List AD) (n : Nat) : Nat :=
  match (rs[n / 100]?).bind (AD.cell (n % 100)) with
  | some (.sl k _) => k
  | _ => 0

def hdrV (rs : List AD) (v : Value) (n : Nat) : Value :=
  match rs with
  | [_] => v.cells.getD (n % 100) undef
  | _ => match v with
    | .tuple vs => (vs.getD (n / 100) undef).cells.getD (n % 100) undef
    | _ => undef

def St.cal (st : St) (t : Nat) : St := st.map (Leaf.re (calTag t) fun _ => true)

theorem RelAt.called {w0 : World} {st : St} {a : Act} {w w' : World} {ω : Own} {τ : Nat → Nat × Value} (hrel : RelAt w0 st a w ω τ) (t : Nat) {rs : List AD} {v : Value}
    (hfit : resFits rs = true) (hb : Below w.heap.size w w') (hres : ResOk w w' rs v) :
    ∃ ω' τ', RelAt w0 (st.cal t) a w' ω' τ' ∧ SatP (Sat w' ω' τ') (resPV t rs) v := by
  obtain ⟨ωc, hc1, hc2, hc3⟩ := hres
  let ω' : Own := fun b => if b < w.heap.size then calOld t (ω b) else calNew t (ωc b)
  let τ' : Nat → Nat × Value := fun s => if t ≤ s ∧ s < t + 10000 then (hdrK rs (s - t), hdrV rs v (s - t)) else τ s
  have hold : ∀ b, b < w.heap.size → ω' b = calOld t (ω b) := fun b hb => by simp only [ω']; rw [if_pos hb]
  have hnew : ∀ b, ¬ b < w.heap.size → ω' b = calNew t (ωc b) := fun b hb => by simp only [ω']; rw [if_neg hb]
  have ev : Evolve w ω τ w' ω' τ' (calTag t) (fun _ => true) := by
    refine ⟨?_, ?_, ?_⟩
    · intro g g' b q hg hlt hq
      refine ⟨?_, hb.block b hlt⟩
      rw [hold b hlt]
      cases g with
      | free => simp only [calTag, Option.some.injEq] at hg; subst hg; simp only [Tag.R] at hq ⊢; rw [hq]; rfl
      | own s =>
        simp only [Tag.R] at hq
        simp only [calTag] at hg
        rw [hq]
        simp only [calOld]
        split at hg
        · simp only [Option.some.injEq] at hg; subst hg; rw [if_pos ‹_›]; rfl
        · simp only [Option.some.injEq] at hg; subst hg; rw [if_neg ‹_›]; rfl
      | ro s =>
        simp only [Tag.R] at hq
        simp only [calTag] at hg
        split at hg
        · simp only [Option.some.injEq] at hg; subst hg
          rcases hq with h | ⟨q', h⟩
          · rw [h]; rfl
          · rw [h]; simp only [calOld]; rw [if_pos ‹_›]; rfl
        · simp only [Option.some.injEq] at hg; subst hg
          rcases hq with h | ⟨q', h⟩
          · rw [h]; exact .inl rfl
          · rw [h]; simp only [calOld]; rw [if_neg ‹_›]; exact .inr ⟨q', rfl⟩
    · intro g g' y hg hy
      cases g with
      | free => simp only [calTag, Option.some.injEq] at hg; subst hg; exact trivial
      | own s =>
        simp only [calTag] at hg
        split at hg
        · simp only [Option.some.injEq] at hg; subst hg; exact trivial
        · simp only [Option.some.injEq] at hg; subst hg
          simp only [Tag.hdr, τ'] at hy ⊢
          rw [if_neg ‹_›]; exact hy
      | ro s =>
        simp only [calTag] at hg
        split at hg
        · simp only [Option.some.injEq] at hg; subst hg; exact trivial
        · simp only [Option.some.injEq] at hg; subst hg; exact trivial
    · intro id b _ hbx
      have hlt := hrel.owned.lt (b := b) (by simp [hbx])
      rw [hold b hlt, hbx]; rfl
  have cell : ∀ (n : Nat) (d : D) (u : Value), n < 10000 → hdrV rs v n = u → (∀ k es, d = .sl k es → hdrK rs n = k) → Rep w' ωc (Tag.own n).R d u → Sat w' ω' τ' (d.resLeaf (t + n)) u := by
    intro n d u hn hv hk hr
    cases d with
    | v x =>
      have e : u = x := by cases hr; rfl
      subst e
      unfold D.resLeaf
      split
      · rename_i h; cases h; exact rfl
      · rename_i h; cases h; exact rfl
      · rename_i h; cases h
    | sl k es =>
      refine ⟨hr.frame fun b q hlt hq => ⟨?_, rfl⟩, ?_⟩
      · simp only [Tag.R] at hq ⊢
        have : ¬ b < w.heap.size := fun h => by have := hc1 b h; rw [this] at hq; cases hq
        rw [hnew b this, hq]; rfl
      · simp only [Tag.hdr, τ']
        rw [if_pos (by omega), show t + n - t = n by omega, hv, hk k es rfl]
  have cellA : ∀ (r : Nat) (ad : AD) (y : Value), r < 100 → (∀ ds, ad = .agg ds → ds.length < 100) → rs[r]? = some ad → (∀ j, j < 100 → hdrV rs v (100 * r + j) = y.cells.getD j undef) → CellRes w' ωc r ad y → SatA (Sat w' ω' τ') (ad.res (t + 100 * r)) y := by
    intro r ad y hr hds hrs hv hcr
    have hkk : ∀ j, j < 100 → hdrK rs (100 * r + j) = (match AD.cell j ad with | some (.sl k _) => k | _ => 0) := by
      intro j hj
      unfold hdrK
      rw [show (100 * r + j) / 100 = r by omega, show (100 * r + j) % 100 = j by omega, hrs]
      rfl
    cases ad with
    | one d =>
      have h1 := hcr.oneCell
      have h2 := hv 0 (by omega)
      rw [oneCell_cells h1] at h2
      have := cell (100 * r) d y (by omega) (by simpa using h2) (fun k es e => by
        have := hkk 0 (by omega)
        rw [Nat.add_zero] at this
        rw [this, e]; rfl) hcr
      exact this
    | agg ds =>
      obtain ⟨vs, rfl, hn, hj⟩ := hcr
      refine ⟨vs, rfl, by rw [resLeaves_length]; exact hn, fun j l hl => ?_⟩
      rw [resLeaves_get, Option.map_eq_some_iff] at hl
      obtain ⟨d, hd, rfl⟩ := hl
      obtain ⟨u, hu, hru⟩ := hj j d hd
      have hjl : j < 100 := by
        have := (List.getElem?_eq_some_iff.1 hd).1
        have := hds ds rfl
        omega
      refine ⟨u, hu, ?_⟩
      have := cell (100 * r + j) d u (by omega) (by rw [hv j hjl]; simp [Value.cells, Array.getD_eq_getD_getElem?, hu]) (fun k es e => by
        rw [hkk j hjl]
        simp only [AD.cell, hd, e]) hru
      rw [show t + 100 * r + (0 + j) = t + (100 * r + j) by omega]
      exact this
  simp only [resFits, Bool.and_eq_true, decide_eq_true_eq] at hfit
  have hds : ∀ (r : Nat) (ad : AD), rs[r]? = some ad → ∀ ds, ad = .agg ds → ds.length < 100 := by
    intro r ad hr ds e
    have := List.all_eq_true.1 hfit.2 ad (List.mem_of_getElem? hr)
    subst e
    simpa using this
  refine ⟨ω', τ', hrel.turn _ ev.sat (hrel.below.trans (hb.mono hrel.below.size)) ?_ ?_ ?_, ?_⟩
  · intro b hbi
    by_cases hlt : b < w.heap.size
    · rw [hold b hlt] at hbi
      have h2 : ω b ≠ .imm := fun e => by rw [e] at hbi; exact hbi rfl
      obtain ⟨h3, arr, ty, h4⟩ := hrel.owned b h2
      exact ⟨h3, arr, ty, (hb.block b hlt).trans h4⟩
    · rw [hnew b hlt] at hbi
      have h2 : ωc b ≠ .imm := fun e => by rw [e] at hbi; exact hbi rfl
      obtain ⟨_, arr, ty, h4⟩ := hc2 b h2
      exact ⟨by have := hrel.below.size; omega, arr, ty, h4⟩
  · intro id b hbx
    have hlt := hrel.owned.lt (b := b) (by simp [hbx])
    exact ⟨ev.box id b rfl hbx, hb.block b hlt⟩
  · intro id b hbx
    by_cases hlt : b < w.heap.size
    · rw [hold b hlt] at hbx
      cases e : ω b with
      | imm => rw [e] at hbx; cases hbx
      | box i => rw [e] at hbx; exact hbx
      | tok s q => rw [e] at hbx; simp only [calOld] at hbx; split at hbx <;> cases hbx
    · rw [hnew b hlt] at hbx
      cases e : ωc b <;> (rw [e] at hbx; cases hbx)
  · cases rs with
    | nil =>
      obtain ⟨vs, rfl, hn, _⟩ := hc3
      exact ⟨vs, rfl, hn, fun i a ha => by simp [resAls] at ha⟩
    | cons ad rest =>
      cases rest with
      | nil =>
        have := cellA 0 ad v (by omega) (hds 0 ad rfl) rfl (fun j hj => by
          unfold hdrV
          simp only [Nat.mul_zero, Nat.zero_add]
          rw [Nat.mod_eq_of_lt hj]) hc3
        exact this
      | cons ad2 rest =>
        obtain ⟨vs, rfl, hn, hv⟩ := hc3
        refine ⟨vs, rfl, by rw [resAls_length]; exact hn, fun i a ha => ?_⟩
        rw [resAls_get, Option.map_eq_some_iff] at ha
        obtain ⟨ad', h1, rfl⟩ := ha
        obtain ⟨y, hy, hcy⟩ := hv i ad' h1
        have hil : i < 100 := by
          have := (List.getElem?_eq_some_iff.1 h1).1
          omega
        refine ⟨y, hy, ?_⟩
        have := cellA i ad' y hil (hds i ad' h1) h1 (fun j hj => by
          unfold hdrV
          simp only
          rw [show (100 * i + j) / 100 = i by omega, show (100 * i + j) % 100 = j by omega]
          simp [Array.getD_eq_getD_getElem?, hy]) hcy
        rw [Nat.zero_add]
        exact this
end Go.Sx
