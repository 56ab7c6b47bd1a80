/- A call with arguments handed over, as a step. -/
import Derived.Test.YtbbjajmimckabaaGreatR24
set_option linter.unusedVariables false
set_option linter.unusedSimpArgs false
namespace Go.Sx
open Go.RowKit

theorem mentH0_argD0 {w : World} {ω : Own} {τ : Nat → Nat × Value} {hs : List HL} {l : Leaf} {d : D} {y : Value} (h : l.argD0 = some d) (hm : l.mentH0 hs = false) (hs' : Sat w ω τ l y) : Rep w (handOwn hs ω) Tag.free.R d y := by
  have himm : ∀ b, ω b = .imm → handOwn hs ω b = .imm := fun b h => by simp only [handOwn, h]
  have htok : ∀ b s q, ω b = .tok s q → tokH hs s = false → handOwn hs ω b = .imm := fun b s q h h2 => by simp only [handOwn, h, findH_no h2]
  have tag : ∀ (g : Tag) (b : Nat) (q : List (Nat × Nat)), g.mentH hs = false → g.R q (ω b) → handOwn hs ω b = .imm := by
    intro g b q hg hq
    cases g with
    | free => exact himm b hq
    | own s => exact htok b s q hq hg
    | ro s =>
      rcases hq with h | ⟨q', h⟩
      · exact himm b h
      · exact htok b s q' h hg
  cases l with
  | und => cases h
  | v x =>
    simp only [Leaf.argD0] at h
    split at h
    · simp only [Option.some.injEq] at h; subst h
      have : y = x := hs'
      subst this
      exact .v _ _ ‹_›
    · cases h
  | sb c =>
    simp only [Leaf.argD0, Option.some.injEq] at h; subst h
    have : y = .bool c := hs'
    subst this
    exact .v _ _ rfl
  | sl t k es => simp only [Leaf.argD0, Option.some.injEq] at h; subst h; exact hs'.1.frame fun b q _ hq => ⟨tag t b q hm hq, rfl⟩
  | ptr => cases h
  | ep => cases h
  | clo => cases h
  | np => cases h
  | rp ds off =>
    simp only [Leaf.argD0] at h
    split at h
    · rename_i ho
      subst ho
      simp only [Option.some.injEq] at h; subst h
      obtain ⟨b, rfl, hr⟩ := hs'
      exact hr.frame fun b q _ hq => ⟨himm b hq, rfl⟩
    · cases h
  | fd d' => simp only [Leaf.argD0, Option.some.injEq] at h; subst h; exact Rep.frame hs' fun b q _ hq => ⟨himm b hq, rfl⟩
  | sn t i j k es => simp only [Leaf.argD0, Option.some.injEq] at h; subst h; exact hs'.1.frame fun b q _ hq => ⟨htok b t _ hq hm, rfl⟩

theorem mentH_box {w : World} {ω : Own} {τ : Nat → Nat × Value} {bs : Boxes} {hs : List HL} (hb : BoxesOk w ω τ bs) {id b : Nat} {d : D} (h : boxD bs id = some d) (hm : (match getBox id bs with | some ls => ls.any (Leaf.mentH0 hs) | none => true) = false) (ho : ω b = .box id) :
    Rep w (handOwn hs ω) Tag.free.R d (ptrTo b) := by
  unfold boxD at h
  cases e : getBox id bs with
  | none => simp [e] at h
  | some ls =>
    rw [e] at hm
    simp only [List.any_eq_false, Bool.not_eq_true] at hm
    simp only [e, Option.bind_some, Option.map_eq_some_iff] at h
    obtain ⟨ds, h1, rfl⟩ := h
    obtain ⟨b', arr, ty, hb', hu, hh, hs'⟩ := hb id ls e
    have := hu b ho
    subst this
    obtain ⟨h2, h3⟩ := mapM_get h1
    have cell : ∀ j d, ds[j]? = some d → arr[j]? = some (arr.getD j undef) ∧ Rep w (handOwn hs ω) Tag.free.R d (arr.getD j undef) := by
      intro j d hd
      obtain ⟨l, hl, hl2⟩ := h3 j d hd
      obtain ⟨u, hu1, hu2⟩ := hs'.2 j l hl
      have e2 : arr.getD j undef = u := by simp [Array.getD_eq_getD_getElem?, hu1]
      rw [e2]
      exact ⟨hu1, mentH0_argD0 hl2 (hm l (List.mem_of_getElem? hl)) hu2⟩
    exact Rep.ptr _ ds b arr ty (0, 0) (fun j => arr.getD j undef) hh (by show handOwn hs ω b = .imm; simp only [handOwn, ho]) (by have := hs'.1; omega) (fun j d hd => (cell j d hd).1) (fun j d hd => (cell j d hd).2.frame fun _ _ _ h => ⟨h, rfl⟩)

theorem mentH_argD {w : World} {ω : Own} {τ : Nat → Nat × Value} {bs : Boxes} {hs : List HL} (hb : BoxesOk w ω τ bs) {l : Leaf} {d : D} {y : Value} (h : l.argD bs = some d) (hm : l.mentH bs hs = false) (hs' : Sat w ω τ l y) :
    Rep w (handOwn hs ω) Tag.free.R d y := by
  unfold Leaf.argD at h
  split at h
  · rename_i id off
    split at h
    · rename_i ho
      subst ho
      obtain ⟨b, h1, rfl⟩ := hs'
      exact mentH_box hb h hm h1
    · cases h
  · rename_i g ids
    rw [Option.map_eq_some_iff] at h
    obtain ⟨ds, h1, rfl⟩ := h
    obtain ⟨bl, rfl, hn, hi⟩ := hs'
    obtain ⟨h2, h3⟩ := mapM_get h1
    simp only [Leaf.mentH, List.any_eq_false, Bool.not_eq_true] at hm
    have cell : ∀ j d, ds[j]? = some d → (bl.map ptrTo).toArray[j]? = some ((bl.map ptrTo).toArray.getD j undef) ∧ Rep w (handOwn hs ω) Tag.free.R d ((bl.map ptrTo).toArray.getD j undef) := by
      intro j d hd
      obtain ⟨id, hid, hd2⟩ := h3 j d hd
      obtain ⟨b, hb1, hb2⟩ := hi j id hid
      have e1 : (bl.map ptrTo).toArray[j]? = some (ptrTo b) := by simp [hb1]
      have e2 : (bl.map ptrTo).toArray.getD j undef = ptrTo b := by rw [Array.getD_eq_getD_getElem?, e1]; rfl
      rw [e2]
      exact ⟨e1, mentH_box hb hd2 (hm id (List.mem_of_getElem? hid)) hb2⟩
    exact Rep.cl _ g ds _ (fun j => (bl.map ptrTo).toArray.getD j undef) (by simp; omega) (fun j d hd => (cell j d hd).1) (fun j d hd => (cell j d hd).2.frame fun _ _ _ h => ⟨h, rfl⟩)
  · rename_i hn1 hn2
    have hm0 : l.mentH0 hs = false := by
      unfold Leaf.mentH at hm
      split at hm
      · exact absurd rfl (hn1 _ _)
      · exact absurd rfl (hn2 _ _)
      · exact hm
    exact mentH0_argD0 h hm0 hs'

structure CellH (w : World) (ω : Own) (τ : Nat → Nat × Value) (hs : List HL) (i j : Nat) (c : GC) (hx : List HL) (y : Value) : Prop where
  gc : GcOk w (handOwn hs ω) (gTok i j) c y
  at_ : ∀ h ∈ hx, h.i = i ∧ h.j = j ∧ HandAt w ω τ h y ∧ c = .gv h.k h.es h.post
  one : y.oneCell' = true

theorem cellG_ok {w : World} {ω : Own} {τ : Nat → Nat × Value} {bs : Boxes} {hs : List HL} (hok : handsOk hs = true) (hb : BoxesOk w ω τ bs) {i j : Nat} {m : Mk} {l : Leaf} {c : GC} {hx : List HL} {rx : List Leaf} {y : Value}
    (h : cellG bs i j m l = some (c, hx, rx)) (hsub : ∀ x ∈ hx, x ∈ hs) (hro : ∀ x ∈ rx, x.mentH bs hs = false) (hs' : Sat w ω τ l y) : CellH w ω τ hs i j c hx y := by
  unfold cellG at h
  split at h
  · rw [Option.map_eq_some_iff] at h
    obtain ⟨d, h1, h⟩ := h
    simp only [Prod.mk.injEq] at h
    obtain ⟨rfl, rfl, rfl⟩ := h
    have := mentH_argD hb h1 (hro _ (by simp)) hs'
    exact ⟨this, fun x hx => by simp at hx, this.oneCell⟩
  · rename_i post t k es
    simp only [Option.some.injEq, Prod.mk.injEq] at h
    obtain ⟨rfl, rfl, rfl⟩ := h
    have hmem := hsub _ (List.mem_cons_self)
    refine ⟨hs'.1.frame fun b q _ hq => ⟨?_, rfl⟩, fun x hx => ?_, hs'.1.oneCell⟩
    · simp only [Tag.R] at hq ⊢
      simp only [handOwn, hq]
      have := findH_of (t := t) (q := q) (q' := q) hok hmem (fit_self ⟨i, j, t, none, k, es, post⟩ q)
      simp only [this]
    · simp only [List.mem_singleton] at hx
      subst hx
      exact ⟨rfl, rfl, ⟨hs'.1.frame fun b q _ hq => ⟨hq, rfl⟩, fun _ => hs'.2, fun a b e => by cases e⟩, rfl⟩
  · rename_i post t a b k es
    simp only [Option.some.injEq, Prod.mk.injEq] at h
    obtain ⟨rfl, rfl, rfl⟩ := h
    have hmem := hsub _ (List.mem_cons_self)
    refine ⟨hs'.1.frame fun c q _ hq => ⟨?_, rfl⟩, fun x hx => ?_, hs'.1.oneCell⟩
    · simp only [Tag.R] at hq ⊢
      simp only [handOwn, hq]
      have := findH_of (t := t) (q := (a, b) :: q) (q' := q) hok hmem (fit_self ⟨i, j, t, some (a, b), k, es, post⟩ q)
      simp only [this]
    · simp only [List.mem_singleton] at hx
      subst hx
      refine ⟨rfl, rfl, ⟨hs'.1.frame fun b q _ hq => ⟨hq, rfl⟩, fun e => (by cases e), fun a' b' e => ?_⟩, rfl⟩
      simp only [Option.some.injEq, Prod.mk.injEq] at e
      obtain ⟨rfl, rfl⟩ := e
      exact hs'.2
  · cases h

theorem cellsG_len {bs : Boxes} {i : Nat} : ∀ {ms : List Mk} {ls : List Leaf} {j : Nat} {cs : List GC} {hx : List HL} {rx : List Leaf}, cellsG bs i j ms ls = some (cs, hx, rx) → cs.length = ls.length
  | [], [], j, cs, hx, rx, h => by simp only [cellsG, Option.some.injEq, Prod.mk.injEq] at h; obtain ⟨rfl, _, _⟩ := h; rfl
  | m :: ms, l :: ls, j, cs, hx, rx, h => by
    simp only [cellsG] at h
    split at h
    · rename_i c h1 r1 cs1 hs1 rs1 e1 e2
      simp only [Option.some.injEq, Prod.mk.injEq] at h
      obtain ⟨rfl, _, _⟩ := h
      simp [cellsG_len e2]
    · cases h
  | [], _ :: _, j, cs, hx, rx, h => by simp [cellsG] at h
  | _ :: _, [], j, cs, hx, rx, h => by simp [cellsG] at h

theorem cellsG_ok {bs : Boxes} {i : Nat} : ∀ {ms : List Mk} {ls : List Leaf} {j : Nat} {cs : List GC} {hx : List HL} {rx : List Leaf}, cellsG bs i j ms ls = some (cs, hx, rx) →
    (∀ (x : Nat) (c : GC), cs[x]? = some c → ∃ l m h1 r1, ls[x]? = some l ∧ cellG bs i (j + x) m l = some (c, h1, r1) ∧ (∀ z ∈ h1, z ∈ hx) ∧ (∀ z ∈ r1, z ∈ rx)) ∧
    (∀ h ∈ hx, ∃ (x : Nat) (c : GC) (l : Leaf) (m : Mk) (h1 : List HL) (r1 : List Leaf), cs[x]? = some c ∧ ls[x]? = some l ∧ cellG bs i (j + x) m l = some (c, h1, r1) ∧ h ∈ h1 ∧ (∀ z ∈ h1, z ∈ hx) ∧ (∀ z ∈ r1, z ∈ rx))
  | [], [], j, cs, hx, rx, h => by
    simp only [cellsG, Option.some.injEq, Prod.mk.injEq] at h
    obtain ⟨rfl, rfl, rfl⟩ := h
    exact ⟨fun x c hc => by simp at hc, fun h hh => by simp at hh⟩
  | m :: ms, l :: ls, j, cs, hx, rx, h => by
    simp only [cellsG] at h
    split at h
    · rename_i c h1 r1 cs1 hs1 rs1 e1 e2
      simp only [Option.some.injEq, Prod.mk.injEq] at h
      obtain ⟨rfl, rfl, rfl⟩ := h
      obtain ⟨k1, k2⟩ := cellsG_ok e2
      refine ⟨fun x c' hc => ?_, fun z hz => ?_⟩
      · cases x with
        | zero =>
          simp only [List.getElem?_cons_zero, Option.some.injEq] at hc
          subst hc
          exact ⟨l, m, h1, r1, rfl, e1, fun z hz => List.mem_append_left _ hz, fun z hz => List.mem_append_left _ hz⟩
        | succ x =>
          obtain ⟨l', m', h2, r2, g1, g2, g3, g4⟩ := k1 x c' (by simpa using hc)
          exact ⟨l', m', h2, r2, by simpa using g1, by rw [show j + (x + 1) = j + 1 + x by omega]; exact g2, fun z hz => List.mem_append_right _ (g3 z hz), fun z hz => List.mem_append_right _ (g4 z hz)⟩
      · rcases List.mem_append.1 hz with hz | hz
        · exact ⟨0, c, l, m, h1, r1, rfl, rfl, e1, hz, fun z hz => List.mem_append_left _ hz, fun z hz => List.mem_append_left _ hz⟩
        · obtain ⟨x, c', l', m', h2, r2, g0, g1, g2, g5, g3, g4⟩ := k2 z hz
          exact ⟨x + 1, c', l', m', h2, r2, by simpa using g0, by simpa using g1, by rw [show j + (x + 1) = j + 1 + x by omega]; exact g2, g5, fun z hz => List.mem_append_right _ (g3 z hz), fun z hz => List.mem_append_right _ (g4 z hz)⟩
    · cases h
  | [], _ :: _, j, cs, hx, rx, h => by simp [cellsG] at h
  | _ :: _, [], j, cs, hx, rx, h => by simp [cellsG] at h

structure ArgH (w : World) (ω : Own) (τ : Nat → Nat × Value) (hs : List HL) (i : Nat) (ga : GA) (hx : List HL) (y : Value) : Prop where
  gaok : GaOk w (handOwn hs ω) i ga y
  at_ : ∀ h ∈ hx, h.i = i ∧ HandAt w ω τ h (cellOf y h.j) ∧ ga.cell h.j = some (.gv h.k h.es h.post)

theorem argG_ok {w : World} {ω : Own} {τ : Nat → Nat × Value} {bs : Boxes} {hs : List HL} (hok : handsOk hs = true) (hb : BoxesOk w ω τ bs) {i : Nat} {ms : List Mk} {p : PV} {ga : GA} {hx : List HL} {rx : List Leaf} {y : Value}
    (h : argG bs i ms p = some (ga, hx, rx)) (hsub : ∀ x ∈ hx, x ∈ hs) (hro : ∀ x ∈ rx, x.mentH bs hs = false) (hs' : SatP (Sat w ω τ) p y) : ArgH w ω τ hs i ga hx y := by
  unfold argG at h
  split at h
  · rename_i l
    split at h
    · rename_i m
      rw [Option.map_eq_some_iff] at h
      obtain ⟨⟨c, h1, r1⟩, e, h⟩ := h
      simp only [Prod.mk.injEq] at h
      obtain ⟨rfl, rfl, rfl⟩ := h
      have := cellG_ok hok hb e hsub hro hs'
      refine ⟨this.gc, fun x hx => ?_⟩
      obtain ⟨e1, e2, e3, e4⟩ := this.at_ x hx
      have ey : cellOf y x.j = y := by rw [e2, cellOf, oneCell_cells this.one]; rfl
      rw [ey]
      exact ⟨e1, e3, by simp [GA.cell, e2, e4]⟩
    · cases h
  · rename_i ls
    rw [Option.map_eq_some_iff] at h
    obtain ⟨⟨cs, h1, r1⟩, e, h⟩ := h
    simp only [Prod.mk.injEq] at h
    obtain ⟨rfl, rfl, rfl⟩ := h
    obtain ⟨us, rfl, hn, hu⟩ := hs'
    obtain ⟨k1, k2⟩ := cellsG_ok e
    refine ⟨⟨us, rfl, by rw [cellsG_len e]; exact hn, fun x c hc => ?_⟩, fun z hz => ?_⟩
    · obtain ⟨l, m, h2, r2, g1, g2, g3, g4⟩ := k1 x c hc
      obtain ⟨u, hu1, hu2⟩ := hu x l g1
      rw [Nat.zero_add] at g2
      exact ⟨u, hu1, (cellG_ok hok hb g2 (fun z hz => hsub z (g3 z hz)) (fun z hz => hro z (g4 z hz)) hu2).gc⟩
    · obtain ⟨x, c, l, m, h2, r2, g0, g1, g2, g5, g3, g4⟩ := k2 z hz
      obtain ⟨u, hu1, hu2⟩ := hu x l g1
      rw [Nat.zero_add] at g2
      obtain ⟨e1, e2, e3, e4⟩ := (cellG_ok hok hb g2 (fun z hz => hsub z (g3 z hz)) (fun z hz => hro z (g4 z hz)) hu2).at_ z g5
      refine ⟨e1, ?_, by simp only [GA.cell, e2, g0, e4]⟩
      have : cellOf (.agg us) z.j = u := by simp [cellOf, Value.cells, e2, Array.getD_eq_getD_getElem?, hu1]
      rw [this]
      exact e3
  · cases h

theorem argsG_ok {bs : Boxes} : ∀ {mss : List (List Mk)} {ps : List PV} {i : Nat} {gs : List GA} {hx : List HL} {rx : List Leaf}, argsG bs i mss ps = some (gs, hx, rx) → gs.length = ps.length ∧
    (∀ (x : Nat) (ga : GA), gs[x]? = some ga → ∃ p ms h1 r1, ps[x]? = some p ∧ argG bs (i + x) ms p = some (ga, h1, r1) ∧ (∀ z ∈ h1, z ∈ hx) ∧ (∀ z ∈ r1, z ∈ rx)) ∧
    (∀ h ∈ hx, ∃ (x : Nat) (ga : GA) (p : PV) (ms : List Mk) (h1 : List HL) (r1 : List Leaf), gs[x]? = some ga ∧ ps[x]? = some p ∧ argG bs (i + x) ms p = some (ga, h1, r1) ∧ h ∈ h1 ∧ (∀ z ∈ h1, z ∈ hx) ∧ (∀ z ∈ r1, z ∈ rx))
  | [], [], i, gs, hx, rx, h => by
    simp only [argsG, Option.some.injEq, Prod.mk.injEq] at h
    obtain ⟨rfl, rfl, rfl⟩ := h
    exact ⟨rfl, fun x c hc => by simp at hc, fun h hh => by simp at hh⟩
  | m :: ms, l :: ls, i, gs, hx, rx, h => by
    simp only [argsG] at h
    split at h
    · rename_i c h1 r1 cs1 hs1 rs1 e1 e2
      simp only [Option.some.injEq, Prod.mk.injEq] at h
      obtain ⟨rfl, rfl, rfl⟩ := h
      obtain ⟨k0, k1, k2⟩ := argsG_ok e2
      refine ⟨by simp [k0], fun x c' hc => ?_, fun z hz => ?_⟩
      · cases x with
        | zero =>
          simp only [List.getElem?_cons_zero, Option.some.injEq] at hc
          subst hc
          exact ⟨l, m, h1, r1, rfl, e1, fun z hz => List.mem_append_left _ hz, fun z hz => List.mem_append_left _ hz⟩
        | succ x =>
          obtain ⟨l', m', h2, r2, g1, g2, g3, g4⟩ := k1 x c' (by simpa using hc)
          exact ⟨l', m', h2, r2, by simpa using g1, by rw [show i + (x + 1) = i + 1 + x by omega]; exact g2, fun z hz => List.mem_append_right _ (g3 z hz), fun z hz => List.mem_append_right _ (g4 z hz)⟩
      · rcases List.mem_append.1 hz with hz | hz
        · exact ⟨0, c, l, m, h1, r1, rfl, rfl, e1, hz, fun z hz => List.mem_append_left _ hz, fun z hz => List.mem_append_left _ hz⟩
        · obtain ⟨x, c', l', m', h2, r2, g0, g1, g2, g5, g3, g4⟩ := k2 z hz
          exact ⟨x + 1, c', l', m', h2, r2, by simpa using g0, by simpa using g1, by rw [show i + (x + 1) = i + 1 + x by omega]; exact g2, g5, fun z hz => List.mem_append_right _ (g3 z hz), fun z hz => List.mem_append_right _ (g4 z hz)⟩
    · cases h
  | [], _ :: _, i, gs, hx, rx, h => by simp [argsG] at h
  | _ :: _, [], i, gs, hx, rx, h => by simp [argsG] at h

/-- The first part of a tree that is handed over. -/
def firstSub : List HL → Option (Nat × Nat)
  | [] => none
  | h :: r => match h.p with | some p => some (h.t, p.1) | none => firstSub r

theorem firstSub_none : ∀ {hs : List HL}, firstSub hs = none → ∀ h ∈ hs, h.p = none
  | [], _, h, hh => by cases hh
  | x :: r, e, h, hh => by
    simp only [firstSub] at e
    split at e
    · cases e
    · rename_i hp
      rcases List.mem_cons.1 hh with rfl | hh
      · exact hp
      · exact firstSub_none e h hh

def subObs (a : Nat) : List HL → List Prop
  | [] => []
  | h :: r => match h.p with | some p => (p.1 = a) :: subObs a r | none => subObs a r

theorem subObs_ok {a : Nat} : ∀ {hs : List HL}, Obs (subObs a hs) → ∀ h ∈ hs, ∀ p, h.p = some p → p.1 = a
  | [], _, h, hh, _, _ => by cases hh
  | x :: r, ho, h, hh, p, hp => by
    simp only [subObs] at ho
    split at ho
    · rename_i q hq
      rcases List.mem_cons.1 hh with rfl | hh
      · rw [hp] at hq
        rw [Option.some.inj hq]
        exact ho.1
      · exact subObs_ok ho.2 h hh p hp
    · rename_i hq
      rcases List.mem_cons.1 hh with rfl | hh
      · rw [hp] at hq; cases hq
      · exact subObs_ok ho h hh p hp

/-- What stands behind the call of the tree of which parts are handed over: token, cells, elements; what is owed for that. -/
def subWhat (st : St) (hs : List HL) (src : Nat) (ds : List D) : Option (Nat × Nat × List (List D) × List Prop) :=
  match firstSub hs with
  | none => some (0, 0, [], [])
  | some (t, a) =>
    match (st.env.getD src .und).leaf with
    | some (.sl (.own s) k es) =>
      if s = t ∧ ds.length = k ∧ hs.all (fun h => match h.p with | some _ => h.t == t && h.post.isSome | none => true) = true then
        some (t, k, es.set a (subRow hs ds), (es[a]? = some ds) :: subObs a hs)
      else none
    | _ => none

theorem subWhat_ok {w0 : Base} {st : St} {a : Act} {w : World} {ω : Own} {τ : Nat → Nat × Value} (hrel : RelAt w0 st a w ω τ) {hs : List HL} {src : Nat} {ds : List D} {t k : Nat} {es : List (List D)} {obs : List Prop}
    (h : subWhat st hs src ds = some (t, k, es, obs)) (ho : Obs obs) : SubAt w ω τ hs t k es := by
  unfold subWhat at h
  split at h
  · rename_i hn
    exact ⟨fun x hx p hp _ => by rw [firstSub_none hn x hx] at hp; cases hp⟩
  · rename_i t' a' hf
    split at h
    · rename_i s k' es' hl
      split at h
      · rename_i hc
        obtain ⟨rfl, hdl, hall⟩ := hc
        simp only [Option.some.injEq, Prod.mk.injEq] at h
        obtain ⟨rfl, rfl, rfl, rfl⟩ := h
        rw [List.all_eq_true] at hall
        refine ⟨fun x hx p hp _ => ?_⟩
        have hsl : ∃ y, Sat w ω τ (.sl (.own s) k' es') y := by
          rw [List.getD_eq_getElem?_getD] at hl
          cases e : st.env[src]? with
          | none => rw [e] at hl; simp [PV.leaf] at hl
          | some p =>
            rw [e] at hl
            obtain ⟨v, _, h2⟩ := hrel.env src p e
            exact ⟨v, PV.leaf_sat hl h2⟩
        obtain ⟨y, hy⟩ := hsl
        refine ⟨es', y, ds, a', hy, ho.1, hdl, rfl, fun z hz q hq => ?_⟩
        have h1 := hall z hz
        simp only [hq, Bool.and_eq_true, beq_iff_eq, Option.isSome_iff_exists] at h1
        exact ⟨h1.1, subObs_ok ho.2 z hz q hq, h1.2⟩
      · cases h
    · cases h

def gFits' (args : List GA) : Bool := args.all fun | .one _ => true | .agg cs => decide (cs.length ≤ 100)

def stepCallG (P : Program) (st : St) (d : Option Nat) (f : FuncId) (args : List Operand) (ans : List Ans) : Option (St × List Ans × List Prop) :=
  match ans with
  | .resG pat src ds rs :: r =>
    match argsG st.boxes 0 pat (args.map st.ev) with
    | some (gs, hs, ros) =>
      match subWhat st hs src ds with
      | some (tS, kS, esS, obs) =>
        let t0 := 10000 * (d.getD 0 + 1)
        if canCall P f = true ∧ resFits rs = true ∧ t0 + 10000 ≤ giv ∧ handsOk hs = true ∧ ros.all (fun l => !(l.mentH st.boxes hs)) = true ∧ hs.all (fun h => !(decide (t0 ≤ h.t) && decide (h.t < t0 + 10000))) = true then
          let st' := st.map (callLeaf hs t0 tS kS esS)
          match d with
          | some d => some (⟨st'.env.set d (resPV t0 rs), st'.boxes⟩, r, RetG P f gs rs :: obs)
          | none => some (st', r, RetG P f gs rs :: obs)
        else none
      | none => none
    | none => none
  | _ => none

theorem stepCallG_ok {P : Program} {w0 : Base} {st st' : St} {a : Act} {w : World} {ω : Own} {τ : Nat → Nat × Value} {dst : Option Nat} {f : FuncId} {args : Array Operand} {ts : Array TypeId} {type : TypeId} {pos : String} {after : Array Edge} {guard : Option (Nat × Bool)} {ans ans' : List Ans} {obs : List Prop}
    (hrel : RelAt w0 st a w ω τ) (h : stepCallG P st dst f args.toList ans = some (st', ans', obs)) (ho : Obs obs) {K : Act → World → Prop} {Q : Exit → Act → World → Prop} (hK : ∀ a' w', Rel w0 st' a' w' → K a' w') :
    Oper.wp P ⟨dst, .call ⟨.value (.func f), args, ts⟩, type, pos, after, guard⟩ a w K Q := by
  unfold stepCallG at h
  split at h
  · rename_i pat src ds rs r
    split at h
    · rename_i gs hs ros hargs
      split at h
      · rename_i tS kS esS obs1 hsub
        simp only at h
        split at h
        · rename_i hc
          obtain ⟨hcan, hfit, htg, hok, hros, hrng⟩ := hc
          rw [List.all_eq_true] at hros hrng
          have hros' : ∀ l ∈ ros, l.mentH st.boxes hs = false := fun l hl => by simpa using hros l hl
          have hrng' : ∀ h ∈ hs, ¬ (10000 * (dst.getD 0 + 1) ≤ h.t ∧ h.t < 10000 * (dst.getD 0 + 1) + 10000) := fun h hh => by
            have := hrng h hh
            simp only [Bool.not_eq_true', Bool.and_eq_false_iff, decide_eq_false_iff_not] at this
            omega
          obtain ⟨hlen, k1, k2⟩ := argsG_ok hargs
          have hval : ∀ (x : Nat) (p : PV), (args.toList.map st.ev)[x]? = some p → ∃ v, (args.map a.eval)[x]? = some v ∧ SatP (Sat w ω τ) p v := by
            intro x p hp
            rw [List.getElem?_map, Option.map_eq_some_iff] at hp
            obtain ⟨o, h1, rfl⟩ := hp
            refine ⟨a.eval o, ?_, hrel.ev o⟩
            rw [Array.getElem?_map]
            rw [Array.getElem?_toList] at h1
            rw [h1]; rfl
          have hgas : GasOk w (handOwn hs ω) gs (args.map a.eval) := by
            refine ⟨fun b hb => ?_, by simp [hlen], fun x ga hx => ?_⟩
            · have hω : ω b ≠ .imm := fun e => hb (by simp only [handOwn, e])
              obtain ⟨_, arr, ty, h4⟩ := hrel.owned b hω
              refine ⟨?_, arr, ty, h4⟩
              simp only [handOwn] at hb ⊢
              cases e : ω b with
              | imm => simp [e] at hb
              | box id => simp [e] at hb
              | tok t q =>
                simp only [e] at hb ⊢
                cases e2 : findH t q hs with
                | none => simp [e2] at hb
                | some z =>
                  obtain ⟨g, q'⟩ := z
                  obtain ⟨y, _, _, rfl⟩ := findH_some e2
                  exact ⟨_, q', rfl, by simp [gTok]⟩
            · obtain ⟨p, ms, h1, r1, g1, g2, g3, g4⟩ := k1 x ga hx
              obtain ⟨v, hv, hs2⟩ := hval x p g1
              rw [Nat.zero_add] at g2
              exact ⟨v, hv, (argG_ok hok hrel.boxes g2 g3 (fun z hz => hros' z (g4 z hz)) hs2).gaok⟩
          have hat : ∀ h ∈ hs, HandAt w ω τ h (cellOf ((args.map a.eval).getD h.i undef) h.j) ∧ ∃ ga, gs[h.i]? = some ga ∧ ga.cell h.j = some (.gv h.k h.es h.post) := by
            intro h hh
            obtain ⟨x, ga, p, ms, h1, r1, g0, g1, g2, g5, g3, g4⟩ := k2 h hh
            obtain ⟨v, hv, hs2⟩ := hval x p g1
            rw [Nat.zero_add] at g2
            obtain ⟨e1, e2, e3⟩ := (argG_ok hok hrel.boxes g2 g3 (fun z hz => hros' z (g4 z hz)) hs2).at_ h g5
            have ev : (args.map a.eval).getD h.i undef = v := by rw [e1, Array.getD_eq_getD_getElem?, hv]; rfl
            rw [ev]
            exact ⟨e2, ga, by rw [e1]; exact g0, e3⟩
          have hrun : (execOp a.eval ⟨dst, .call ⟨.value (.func f), args, ts⟩, type, pos, after, guard⟩).run P w = .ok (.enter f (args.map a.eval)) w := by
            unfold canCall at hcan
            split at hcan
            · rename_i fn hfn
              simp only [Bool.and_eq_true, Bool.not_eq_true', beq_eq_false_iff_ne, ne_eq] at hcan
              have hc2' : fn.body ≠ none := by intro e; rw [e] at hcan; simp at hcan
              simp [execOp, resolve, Act.eval, Deferred.ofValue, invoke, callFunc, hfn, hcan.1, hc2']
            · cases hcan
          have key : RetG P f gs rs → Obs obs1 → (∀ v w' ω' τ', RelAt w0 (st.map (callLeaf hs (10000 * (dst.getD 0 + 1)) tS kS esS)) a w' ω' τ' → SatP (Sat w' ω' τ') (resPV (10000 * (dst.getD 0 + 1)) rs) v → K (a.put dst v) w') →
              Oper.wp P ⟨dst, .call ⟨.value (.func f), args, ts⟩, type, pos, after, guard⟩ a w K Q := by
            intro hret ho1 hK'
            unfold Oper.wp
            rw [hrun]
            simp only [Oper.upon]
            refine (hret w _ _ hgas).mono ?_
            rintro e w' ⟨v, rfl, hbel, ωc, c1, c2, c3, c4⟩
            obtain ⟨ω', τ', h1, h2⟩ := hrel.calledG (10000 * (dst.getD 0 + 1)) hok hfit htg hrng' hbel ωc c1 c2 c4 (fun h => cellOf ((args.map a.eval).getD h.i undef) h.j)
              (fun h hh es' he => by
                obtain ⟨_, ga, g1, g2⟩ := hat h hh
                rw [he] at g2
                exact c3 h.i h.j ga h.k h.es es' g1 g2)
              (fun h hh => (hat h hh).1) (subWhat_ok hrel hsub ho1)
            exact hK' v w' ω' τ' h1 h2
          cases dst with
          | none =>
            simp only [Option.some.injEq, Prod.mk.injEq] at h
            obtain ⟨rfl, _, rfl⟩ := h
            exact key ho.1 ho.2 fun v w' ω' τ' h1 _ => hK _ _ ⟨ω', τ', h1⟩
          | some d =>
            simp only [Option.some.injEq, Prod.mk.injEq] at h
            obtain ⟨rfl, _, rfl⟩ := h
            exact key ho.1 ho.2 fun v w' ω' τ' h1 h2 => hK _ _ ⟨ω', τ', h1.put h2⟩
        · cases h
      · cases h
    · cases h
  · cases h
end Go.Sx
