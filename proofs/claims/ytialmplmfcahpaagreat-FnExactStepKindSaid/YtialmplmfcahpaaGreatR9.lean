/- append, onto a tree of the call's own. -/
import Derived.Test.YtialmplmfcahpaaGreatR6
set_option linter.unusedVariables false
set_option linter.unusedSimpArgs false
namespace Go.Sx
open Go.RowKit
theorem Rep.retop {w w' : World} {ω ω' : Own} {R R' : List (Nat × Nat) → Owner → Prop} {k b off n cap : Nat} {es : List (List D)} (h : Rep w ω R (.sl k es) (.slice (some ⟨b, off, none⟩) n cap))
    {arr arr' : Array Value} {ty : TypeId} {fr : Nat × Nat} (hb : w.heap[b]? = some (.cells arr ty fr)) (hb' : w'.heap[b]? = some (.cells arr' ty fr)) (hsz : arr'.size = arr.size)
    (hag : ∀ x, x < off + n * k → arr'[x]? = arr[x]?) (hR0 : ∀ o, o = ω b → R [] o → R' [] (ω' b)) (hlow : ∀ c p q, c < w.heap.size → R (p :: q) (ω c) → R' (p :: q) (ω' c) ∧ w'.heap[c]? = w.heap[c]?) :
    Rep w' ω' R' (.sl k es) (.slice (some ⟨b, off, none⟩) n cap) := by
  generalize hy : Value.slice (some ⟨b, off, none⟩) n cap = y at h
  cases h with
  | nil => cases hy; exact .nil _ _ _
  | row R k es b2 off2 cap2 arr2 ty2 fr2 us hb2 hR hc hs hk hu hd =>
    simp only [Value.slice.injEq, Option.some.injEq, Addr.mk.injEq] at hy
    obtain ⟨⟨rfl, rfl, _⟩, rfl, rfl⟩ := hy
    rw [hb] at hb2
    simp only [Option.some.injEq, Obj.cells.injEq] at hb2
    obtain ⟨rfl, rfl, rfl⟩ := hb2
    refine .row R' k es b off cap arr' ty fr us hb' (hR0 _ rfl hR) hc (by omega) hk (fun i j d hd' => ?_) (fun i j d hd' => (hd i j d hd').frame fun c q hcl hq => hlow c _ _ hcl hq)
    rw [hag, hu i j d hd']
    have hij : i < es.length ∧ j < k := by
      unfold qao at hd'
      cases hx : es[i]? with
      | none => simp [hx] at hd'
      | some e =>
        rw [hx, Option.bind_some] at hd'
        have h1 := (List.getElem?_eq_some_iff.1 hx).1
        have h2 := (List.getElem?_eq_some_iff.1 hd').1
        rw [hk e (List.mem_of_getElem? hx)] at h2
        exact ⟨h1, h2⟩
    have : (i + 1) * k ≤ es.length * k := Nat.mul_le_mul_right _ hij.1
    rw [Nat.add_mul] at this
    omega
theorem qe4 {es : List (List D)} {k i j : Nat} {d : D} (hk : ∀ e ∈ es, e.length = k) (h : qao es i j = some d) : i < es.length ∧ j < k := by
  unfold qao at h
  cases hx : es[i]? with
  | none => simp [hx] at h
  | some e =>
    rw [hx, Option.bind_some] at h
    have h1 := (List.getElem?_eq_some_iff.1 hx).1
    have h2 := (List.getElem?_eq_some_iff.1 h).1
    rw [hk e (List.mem_of_getElem? hx)] at h2
    exact ⟨h1, h2⟩
theorem qhD {es es2 : List (List D)} {i j : Nat} : qao (es ++ es2) i j = if i < es.length then qao es i j else qao es2 (i - es.length) j := by
  unfold qao
  rw [List.getElem?_append]
  split <;> rfl
theorem qnR {es : List (List D)} {k i j : Nat} (hk : ∀ e ∈ es, e.length = k) (hi : i < es.length) (hj : j < k) : ∃ d, qao es i j = some d := by
  have h1 : es[i].length = k := hk _ (List.getElem_mem hi)
  exact ⟨es[i][j], by simp [qao, hi, h1, hj]⟩
def qa1 (t : Nat) (mv : Option Nat) (n : Nat) : Owner → Owner
  | .tok s q => if mv = some s then (match q with | [] => .imm | p :: q' => .tok t ((n + p.1, p.2) :: q')) else .tok s q
  | o => o
def apTag (t : Nat) (mv : Option Nat) : Tag → Option Tag
  | .free => some .free
  | .own s => if s = t then some (.ro t) else if mv = some s then none else some (.own s)
  | .ro s => if s = t then none else if mv = some s then none else some (.ro s)
structure Src (P : Program) (w : World) (ω : Own) (k : Nat) (es2 : List (List D)) (mv : Option Nat) (y : Value) (news : List Value) : Prop where
  len : news.length = es2.length * k
  rows : ∀ e ∈ es2, e.length = k
  one : ∀ u ∈ news, u.oneCell' = true
  cell : ∀ i j d, qao es2 i j = some d → ∃ u, news[i * k + j]? = some u ∧ ((∃ x, d = .v x ∧ u = x) ∨ ∃ s, mv = some s ∧ Rep w ω (fun q => (Tag.own s).R ((i, j) :: q)) d u)
  shape : ((∃ a, y = .slice a 0 0) ∧ es2 = []) ∨ ∃ b o c, y = .slice (some ⟨b, o, none⟩) es2.length c ∧ ∀ j v, news[j]? = some v → w.cell? ((⟨b, o, none⟩ : Addr).add j) = some v
theorem qhE {t n : Nat} {mv : Option Nat} {o : Owner} {id : Nat} : qa1 t mv n o = .box id ↔ o = .box id := by
  cases o with
  | imm => simp [qa1]
  | box i => simp [qa1]
  | tok s q =>
    simp only [qa1]
    split
    · cases q <;> simp
    · simp
theorem qdm {t n : Nat} {mv : Option Nat} {s : Nat} {q : List (Nat × Nat)} (h : mv ≠ some s) : qa1 t mv n (.tok s q) = .tok s q := by simp [qa1, h]
theorem qcZ {w w' : World} {ω ω' : Own} {t n : Nat} {mv : Option Nat} {g g' : Tag} (hmv : mv ≠ some t) (hg : apTag t mv g = some g') (hne : g ≠ .own t)
    (hω : ∀ c, c < w.heap.size → ω c ≠ .tok t [] → ω' c = qa1 t mv n (ω c) ∧ w'.heap[c]? = w.heap[c]?) :
    ∀ c q, c < w.heap.size → g.R q (ω c) → g'.R q (ω' c) ∧ w'.heap[c]? = w.heap[c]? := by
  intro c q hc hr
  cases g with
  | free =>
    simp only [apTag, Option.some.injEq] at hg; subst hg
    simp only [Tag.R] at hr
    obtain ⟨h1, h2⟩ := hω c hc (by rw [hr]; simp)
    rw [h1, hr]; exact ⟨rfl, h2⟩
  | own s =>
    simp only [apTag] at hg
    have hs : s ≠ t := fun e => hne (by rw [e])
    rw [if_neg hs] at hg
    split at hg
    · cases hg
    · rename_i hm
      simp only [Option.some.injEq] at hg; subst hg
      simp only [Tag.R] at hr
      obtain ⟨h1, h2⟩ := hω c hc (by rw [hr]; simp [hs])
      rw [h1, hr, qdm hm]; exact ⟨rfl, h2⟩
  | ro s =>
    simp only [apTag] at hg
    split at hg
    · cases hg
    · rename_i hs
      split at hg
      · cases hg
      · rename_i hm
        simp only [Option.some.injEq] at hg; subst hg
        simp only [Tag.R] at hr
        rcases hr with hr | ⟨q', hr⟩
        · obtain ⟨h1, h2⟩ := hω c hc (by rw [hr]; simp)
          rw [h1, hr]; exact ⟨.inl rfl, h2⟩
        · obtain ⟨h1, h2⟩ := hω c hc (by rw [hr]; simp [hs])
          rw [h1, hr, qdm hm]; exact ⟨.inr ⟨q', rfl⟩, h2⟩
def qaU (τ : Nat → Nat × Value) (t k : Nat) (z : Value) : Nat → Nat × Value := fun s => if s = t then (k, z) else τ s
theorem qfI {τ : Nat → Nat × Value} {t k : Nat} {z : Value} {mv : Option Nat} {g g' : Tag} {y : Nat × Value} (hg : apTag t mv g = some g') (hy : g.hdr τ y) : g'.hdr (qaU τ t k z) y := by
  cases g with
  | free => simp only [apTag, Option.some.injEq] at hg; subst hg; exact trivial
  | own s =>
    simp only [apTag] at hg
    split at hg
    · simp only [Option.some.injEq] at hg; subst hg; exact trivial
    · split at hg
      · cases hg
      · simp only [Option.some.injEq] at hg; subst hg
        simp only [Tag.hdr, qaU] at hy ⊢
        rw [if_neg ‹_›]; exact hy
  | ro s =>
    simp only [apTag] at hg
    split at hg
    · cases hg
    · split at hg
      · cases hg
      · simp only [Option.some.injEq] at hg; subst hg; exact trivial
theorem apSat {w w' : World} {ω ω' : Own} {τ : Nat → Nat × Value} {t k n : Nat} {z : Value} {mv : Option Nat} (hmv : mv ≠ some t)
    (hω : ∀ c, c < w.heap.size → ω c ≠ .tok t [] → ω' c = qa1 t mv n (ω c) ∧ w'.heap[c]? = w.heap[c]?)
    (hbox : ∀ id b, ω b = .box id → ω' b = .box id)
    (hown : ∀ es y, Rep w ω (Tag.own t).R (.sl (τ t).1 es) y → y = (τ t).2 → Rep w' ω' (Tag.ro t).R (.sl (τ t).1 es) y) :
    ∀ l v, Sat w ω τ l v → Sat w' ω' (qaU τ t k z) (l.re (apTag t mv) fun _ => true) v := by
  intro l v hs
  cases l with
  | und => exact trivial
  | v x => exact hs
  | sb c => exact hs
  | ptr id off =>
    simp only [Leaf.re, if_true]
    obtain ⟨b, hb, e⟩ := hs
    exact ⟨b, hbox id b hb, e⟩
  | np s vs =>
    simp only [Leaf.re]
    split
    · rename_i s' hg
      split
      · rename_i hss
        subst hss
        have hne : Tag.own s' ≠ .own t := by
          intro e
          simp only [Tag.own.injEq] at e
          subst e
          simp [apTag] at hg
        obtain ⟨b, ty, arr, e, h5, h3, hn, hv⟩ := hs
        have hlt : b < w.heap.size := (Array.getElem?_eq_some_iff.1 h3).1
        have hk := qcZ (w := w) (w' := w') hmv hg hne hω b [] hlt h5
        refine ⟨b, ty, arr, e, hk.1, hk.2.trans h3, qha (fun c u hc => ?_) hn hv⟩
        cases c with
        | und => exact trivial
        | v x => exact hc
        | sl g k' es =>
          simp only [NC.re]
          cases hg : apTag t mv g with
          | none => exact trivial
          | some g' =>
            by_cases hne : g = .own t
            · subst hne
              simp only [apTag, if_true, Option.some.injEq] at hg; subst hg
              obtain ⟨h1, h2⟩ := hc
              simp only [Tag.hdr] at h2
              have e1 : (τ t).1 = k' := by rw [h2]
              have e2 : (τ t).2 = u := by rw [h2]
              exact ⟨by rw [← e1]; exact hown es u (by rw [e1]; exact h1) e2.symm, trivial⟩
            · exact ⟨hc.1.frame fun c q hc hq => qcZ hmv hg hne hω c q hc hq, qfI hg hc.2⟩
      · exact trivial
    · exact trivial
  | sn s i j k2 es m =>
    simp only [Leaf.re]
    split
    · rename_i s' hg
      split
      · rename_i hss
        subst hss
        have hne : Tag.own s' ≠ .own t := by
          intro e
          simp only [Tag.own.injEq] at e
          subst e
          simp [apTag] at hg
        obtain ⟨u, hu, h1, hm⟩ := hs
        refine ⟨u, hu, h1.frame fun c q hc hq => qcZ hmv hg hne hω c _ hc hq, fun hh => ?_⟩
        obtain ⟨kT, b, off, len, cap, arr, ty, fr, h2, h5, h3, h4⟩ := hm hh
        have hlt : b < w.heap.size := (Array.getElem?_eq_some_iff.1 h3).1
        have hk := qcZ (w := w) (w' := w') hmv hg hne hω b [] hlt h5
        exact ⟨kT, b, off, len, cap, arr, ty, fr, qfI (k := k) (z := z) hg h2, hk.1, hk.2.trans h3, h4⟩
      · exact trivial
    · exact trivial
  | clo f ids =>
    simp only [Leaf.re]
    split
    · obtain ⟨bs, e, hn, hi⟩ := hs
      refine ⟨bs, e, hn, fun i id hid => ?_⟩
      obtain ⟨b, h1, h2⟩ := hi i id hid
      exact ⟨b, h1, hbox id b h2⟩
    · exact trivial
  | rp ds off =>
    obtain ⟨b, e, hr⟩ := hs
    exact ⟨b, e, hr.frame fun c q hc hq => qcZ (g := .free) (g' := .free) hmv rfl (by simp) hω c q hc hq⟩
  | fd d => exact Rep.frame hs fun c q hc hq => qcZ (g := .free) (g' := .free) hmv rfl (by simp) hω c q hc hq
  | sl g k' es =>
    simp only [Leaf.re]
    cases hg : apTag t mv g with
    | none => exact trivial
    | some g' =>
      by_cases hne : g = .own t
      · subst hne
        simp only [apTag, if_true, Option.some.injEq] at hg; subst hg
        obtain ⟨h1, h2⟩ := hs
        simp only [Tag.hdr] at h2
        have e1 : (τ t).1 = k' := by rw [h2]
        have e2 : (τ t).2 = v := by rw [h2]
        exact ⟨by rw [← e1]; exact hown es v (by rw [e1]; exact h1) e2.symm, trivial⟩
      · exact ⟨hs.1.frame fun c q hc hq => qcZ hmv hg hne hω c q hc hq, qfI hg hs.2⟩
  | ep g k' es i j =>
    simp only [Leaf.re]
    cases hg : apTag t mv g with
    | none => exact trivial
    | some g' =>
      obtain ⟨b, off, cap, e, hi, hr, hh⟩ := hs
      by_cases hne : g = .own t
      · subst hne
        simp only [apTag, if_true, Option.some.injEq] at hg; subst hg
        simp only [Tag.hdr] at hh
        have e1 : (τ t).1 = k' := by rw [hh]
        have e2 : (τ t).2 = Value.slice (some ⟨b, off, none⟩) es.length cap := by rw [hh]
        exact ⟨b, off, cap, e, hi, by rw [← e1]; exact hown es _ (by rw [e1]; exact hr) e2.symm, trivial⟩
      · exact ⟨b, off, cap, e, hi, hr.frame fun c q hc hq => qcZ hmv hg hne hω c q hc hq, qfI hg hh⟩
def St.ap (st : St) (t : Nat) (mv : Option Nat) : St := st.map (Leaf.re (apTag t mv) fun _ => true)
theorem qnS {P : Program} {t ty e : TypeId} {i : TypeInfo} (ht : P.underlying t = some (.slice e)) (hi : P.info? e = some i) (w : World) {y y2 : Value}
    (hy : ∃ a n c, y = .slice a n c ∧ n ≤ c) (hy2 : ∃ a c, y2 = .slice a 0 c) :
    (Builtin.append_ #[t, t] ty #[y, y2]).run P w = .ok y w := by
  obtain ⟨a, n, c, rfl, hn⟩ := hy
  obtain ⟨a2, c2, rfl⟩ := hy2
  cases a <;> cases a2 <;>
    simp [Builtin.append_, run_underlying ht, sizeOf, typeInfo, hi, Builtin.lenOf, Builtin.firstCells, loadCells, loadCellsFrom, storeCells, *]
theorem qhF {P : Program} {t ty e : TypeId} {i : TypeInfo} (ht : P.underlying t = some (.slice e)) (hi : P.info? e = some i) (w : World)
    (b off n cap : Nat) (arr : Array Value) (tyb : TypeId) (hg : w.heap[b]? = some (.cells arr tyb (0, 0)))
    (ad : Addr) (m c : Nat) (news : List Value) (hl : news.length = m * i.size) (hnews : ∀ j u, news[j]? = some u → w.cell? (ad.add j) = some u) (h1 : ∀ u ∈ news, u.oneCell' = true)
    (hroom : n + m ≤ cap) (hfit : off + n * i.size + news.length ≤ arr.size) :
    (Builtin.append_ #[t, t] ty #[.slice (some ⟨b, off, none⟩) n cap, .slice (some ad) m c]).run P w =
      .ok (.slice (some ⟨b, off, none⟩) (n + m) cap) (w.setRow b (arr.toList.take (off + n * i.size) ++ news ++ arr.toList.drop (off + n * i.size + news.length)).toArray) := by
  have hf := run_firstCells_some (P := P) w i.size m ad m c news hl hnews
  have hst := run_storeCells_at P b (off + n * i.size) tyb news 0 arr w hg (by simpa using hfit) h1
  simp only [Nat.add_zero] at hst
  simp [Builtin.append_, run_underlying ht, sizeOf, typeInfo, hi, Builtin.lenOf, hroom, hf, qb4, hst]
theorem Src.cell_rep {P : Program} {w w' : World} {ω ω' : Own} {t k n : Nat} {es2 : List (List D)} {mv : Option Nat} {y : Value} {news : List Value} (h : Src P w ω k es2 mv y news) (hmv : mv ≠ some t)
    (hω : ∀ c, c < w.heap.size → ω c ≠ .tok t [] → ω' c = qa1 t mv n (ω c) ∧ w'.heap[c]? = w.heap[c]?) {i j : Nat} {d : D} (hd : qao es2 i j = some d) :
    ∃ u, news[i * k + j]? = some u ∧ Rep w' ω' (fun q => (Tag.own t).R ((n + i, j) :: q)) d u := by
  obtain ⟨u, h1, h2⟩ := h.cell i j d hd
  refine ⟨u, h1, ?_⟩
  rcases h2 with ⟨x, rfl, rfl⟩ | ⟨s, hs, hr⟩
  · exact .v _ _ (h.one _ (List.mem_of_getElem? h1))
  · refine hr.frame fun c q hc hq => ?_
    simp only [Tag.R] at hq ⊢
    have hst : s ≠ t := fun e => hmv (by rw [hs, e])
    obtain ⟨h3, h4⟩ := hω c hc (by rw [hq]; simp [hst])
    rw [h3, hq]
    exact ⟨by simp [qa1, hs], h4⟩
theorem RelAt.append {P : Program} {w0 : Base} {st : St} {a : Act} {w : World} {ω : Own} {τ : Nat → Nat × Value} (hrel : RelAt w0 st a w ω τ) {t k : Nat} {es es2 : List (List D)} {mv : Option Nat} {y y2 : Value} {news : List Value}
    (hp : Sat w ω τ (.sl (.own t) k es) y) (hsrc : Src P w ω k es2 mv y2 news) (hmv : mv ≠ some t) {ty tys e : TypeId} {i : TypeInfo} {z : Value}
    (ht : P.underlying tys = some (.slice e)) (hi : P.info? e = some i) (hz : i.zero = some z) (hk : i.size = k) (hzk : z.cells.size = k)
    (hb1 : (es.length + es2.length) * i.bytes ≤ 140737488355328) (hb2 : es.length + es2.length ≤ 9223372036854775807) (htg : t < giv) :
    ∃ r w' ω', (Builtin.append_ #[tys, tys] ty #[y, y2]).run P w = .ok r w' ∧ RelAt w0 (st.ap t mv) a w' ω' (qaU τ t k r) ∧ Sat w' ω' (qaU τ t k r) (.sl (.own t) k (es ++ es2)) r := by
  subst hk
  obtain ⟨hr, hh⟩ := hp
  simp only [Tag.hdr] at hh
  have e1 : (τ t).1 = i.size := by rw [hh]
  have e2 : (τ t).2 = y := by rw [hh]
  have hfixr : ∀ r : Value, ∀ s, giv ≤ s → qaU τ t i.size r s = τ s := fun r s hs => by simp only [qaU]; rw [if_neg (by omega)]
  have hhdr : (Tag.own t).hdr (qaU τ t i.size y) (i.size, y) := by simp [Tag.hdr, qaU]
  by_cases hm : es2.length = 0
  · -- nothing is appended
    have hes2 : es2 = [] := List.eq_nil_of_length_eq_zero hm
    subst hes2
    let ω' : Own := fun c => qa1 t mv es.length (ω c)
    have hω : ∀ c, c < w.heap.size → ω c ≠ .tok t [] → ω' c = qa1 t mv es.length (ω c) ∧ w.heap[c]? = w.heap[c]? := fun c _ _ => ⟨rfl, rfl⟩
    have hrun : (Builtin.append_ #[tys, tys] ty #[y, y2]).run P w = .ok y w := by
      refine qnS ht hi w ?_ ?_
      · cases hr with
        | nil _ _ a0 => exact ⟨a0, 0, 0, rfl, Nat.le_refl _⟩
        | row R k es b off cap arr ty fr us hb hR hc hs hk hu hd => exact ⟨some ⟨b, off, none⟩, _, cap, rfl, hc⟩
      · rcases hsrc.shape with ⟨⟨a, h⟩, _⟩ | ⟨b, o, c, h, _⟩
        · exact ⟨a, 0, h⟩
        · exact ⟨some ⟨b, o, none⟩, c, h⟩
    refine ⟨y, w, ω', hrun, hrel.turn _ (apSat hmv hω (fun id b hb => by simp [ω', hb, qa1]) ?_) hrel.below ?_ ?_ ?_ (hfixr _), ?_, hhdr⟩
    · intro es' y' hr' _
      refine hr'.frame fun c q hc hq => ⟨?_, rfl⟩
      simp only [Tag.R] at hq ⊢
      simp only [ω', hq]
      exact .inr ⟨q, qdm hmv⟩
    · intro b hb
      have : ω b ≠ .imm := fun e => by simp [ω', e, qa1] at hb
      exact hrel.owned b this
    · intro id b hb; exact ⟨by simp [ω', hb, qa1], rfl⟩
    · intro id b hb; exact qhE.1 hb
    · rw [List.append_nil]
      refine hr.frame fun c q hc hq => ⟨?_, rfl⟩
      simp only [Tag.R] at hq ⊢
      simp only [ω', hq]
      exact qdm hmv
  · have hm0 : 0 < es2.length := by omega
    rcases hsrc.shape with ⟨_, h⟩ | ⟨sb, so, sc, rfl, hnews⟩
    · rw [h] at hm0; simp at hm0
    have grown : ∀ (w1 : World) (arr' : Array Value) (r : Value) (cap' : Nat), Blw w.heap.size w w1 → w1.heap[w.heap.size]? = some (.cells arr' e (0, 0)) → r = .slice (some ⟨w.heap.size, 0, none⟩) (es.length + es2.length) cap' →
        es.length + es2.length ≤ cap' → cap' * i.size ≤ arr'.size → (∀ i' j d, qao es i' j = some d → ∃ u, arr'[i' * i.size + j]? = some u ∧ ∃ R : List (Nat × Nat) → Owner → Prop, (∀ q o, R q o → o = .tok t ((i', j) :: q)) ∧ Rep w ω R d u) →
        (∀ x u, news[x]? = some u → arr'[es.length * i.size + x]? = some u) → (∀ e ∈ es, e.length = i.size) →
        ∃ ω', RelAt w0 (st.ap t mv) a w1 ω' (qaU τ t i.size r) ∧ Sat w1 ω' (qaU τ t i.size r) (.sl (.own t) i.size (es ++ es2)) r := by
      intro w1 arr' r cap' hbel hnew hreq hcap hsz hold hnw hrow
      subst hreq
      let ω' : Own := fun c => if c = w.heap.size then .tok t [] else @ite _ (ω c = .tok t []) (Classical.propDecidable _) .imm (qa1 t mv es.length (ω c))
      have hfr : ω w.heap.size = .imm := hrel.owned.fresh (Nat.le_refl _)
      have hω : ∀ c, c < w.heap.size → ω c ≠ .tok t [] → ω' c = qa1 t mv es.length (ω c) ∧ w1.heap[c]? = w.heap[c]? := by
        intro c hc hne
        refine ⟨?_, hbel.block c hc⟩
        simp only [ω']
        rw [if_neg (by omega), if_neg hne]
      have hself : ω' w.heap.size = .tok t [] := by simp [ω']
      have hlow : ∀ c p q, c < w.heap.size → ω c = .tok t (p :: q) → ω' c = .tok t (p :: q) := by
        intro c p q hc hq
        rw [(hω c hc (by rw [hq]; simp)).1, hq, qdm hmv]
      refine ⟨ω', hrel.turn _ (apSat hmv hω ?_ ?_) (hrel.below.next hbel) ?_ ?_ ?_ (hfixr _), ?_, by simp [Tag.hdr, qaU]⟩
      · intro id b hb
        have hlt := hrel.owned.lt (b := b) (by simp [hb])
        rw [(hω b hlt (by rw [hb]; simp)).1, hb]; rfl
      · intro es' y' hr' _
        refine hr'.frame fun c q hc hq => ⟨?_, hbel.block c hc⟩
        simp only [Tag.R] at hq ⊢
        cases q with
        | nil => left; simp only [ω']; rw [if_neg (by omega), if_pos hq]
        | cons p q => right; exact ⟨_, hlow c p q hc hq⟩
      · intro b hb
        by_cases hbn : b = w.heap.size
        · subst hbn; exact ⟨.inl hrel.below.size, arr', e, hnew⟩
        · have : ω b ≠ .imm := by
            intro e'
            simp only [ω'] at hb
            rw [if_neg hbn, e'] at hb
            simp [qa1] at hb
          obtain ⟨h3, arr2, ty2, h4⟩ := hrel.owned b this
          exact ⟨h3, arr2, ty2, (hbel.block b (hrel.owned.lt this)).trans h4⟩
      · intro id b hb
        have hlt := hrel.owned.lt (b := b) (by simp [hb])
        obtain ⟨h1, h2⟩ := hω b hlt (by rw [hb]; simp)
        exact ⟨by rw [h1, hb]; rfl, h2⟩
      · intro id b hb
        by_cases hbn : b = w.heap.size
        · subst hbn; rw [hself] at hb; cases hb
        · simp only [ω'] at hb
          rw [if_neg hbn] at hb
          split at hb
          · cases hb
          · exact qhE.1 hb
      · have hcell : ∀ x j d, qao (es ++ es2) x j = some d → ∃ u, arr'[x * i.size + j]? = some u ∧ Rep w1 ω' (fun q => (Tag.own t).R ((x, j) :: q)) d u := by
          intro x j d hd
          rw [qhD] at hd
          split at hd
          · obtain ⟨u, h1, R, hR, h2⟩ := hold x j d hd
            refine ⟨u, h1, h2.frame fun c q hc hq => ⟨?_, hbel.block c hc⟩⟩
            exact hlow c _ _ hc (hR q _ hq)
          · rename_i hx
            obtain ⟨u, h1, h2⟩ := hsrc.cell_rep (w' := w1) (ω' := ω') (n := es.length) hmv hω hd
            refine ⟨u, ?_, ?_⟩
            · rw [← hnw _ u h1]
              congr 1
              have : x = es.length + (x - es.length) := by omega
              rw [this, Nat.add_mul]
              simp only [Nat.add_sub_cancel_left]
              omega
            · rwa [show es.length + (x - es.length) = x by omega] at h2
        have hlen : (es ++ es2).length = es.length + es2.length := List.length_append
        have hrow2 : ∀ e ∈ es ++ es2, e.length = i.size := by
          intro e' he
          rcases List.mem_append.1 he with h | h
          · exact hrow e' h
          · exact hsrc.rows e' h
        have := Rep.row (w := w1) (ω := ω') (Tag.own t).R i.size (es ++ es2) w.heap.size 0 cap' arr' e (0, 0) (fun x j => arr'.getD (x * i.size + j) undef) hnew hself (by omega) (by omega) hrow2
          (fun x j d hd => by obtain ⟨u, h1, _⟩ := hcell x j d hd; rw [Nat.zero_add, h1]; simp [Array.getD_eq_getD_getElem?, h1])
          (fun x j d hd => by obtain ⟨u, h1, h2⟩ := hcell x j d hd; have : arr'.getD (x * i.size + j) undef = u := by simp [Array.getD_eq_getD_getElem?, h1]
                              rw [this]; exact h2)
        rw [hlen] at this
        exact this
    generalize hyy : y = y0 at hr
    cases hr with
    | nil _ _ a0 =>
      subst hyy
      simp only [List.length_nil, Nat.zero_add] at hb1 hb2
      have hrun : (Builtin.append_ #[tys, tys] ty #[.slice a0 0 0, .slice (some ⟨sb, so, none⟩) es2.length sc]).run P w =
          .ok (.slice (some ⟨w.heap.size, 0, none⟩) es2.length (grownCap w es2.length 0 e)) (w.drew.alloc (.cells (news.toArray ++ Builtin.zeroCells z.cells (grownCap w es2.length 0 e - es2.length)) e)) := by
        cases a0 with
        | none => exact run_append_nil (P := P) w tys ty e i z ht hi hz ⟨sb, so, none⟩ es2.length sc news hsrc.len hnews hm0 (by omega) (by omega)
        | some b0 =>
          have := run_append_grow (P := P) w tys ty e i z ht hi hz b0 0 0 [] (by simp) (fun j v hv => by simp at hv) ⟨sb, so, none⟩ es2.length sc news hsrc.len hnews (by omega) (by omega) (growslice_fits (by omega) (by simpa using hb1))
          simpa using this
      have hge := grownCap_ge w es2.length 0 e
      obtain ⟨ω', h1, h2⟩ := grown _ (news.toArray ++ Builtin.zeroCells z.cells (grownCap w es2.length 0 e - es2.length)) (.slice (some ⟨w.heap.size, 0, none⟩) es2.length (grownCap w es2.length 0 e)) (grownCap w es2.length 0 e)
        (((Blw.refl _ _).drew).alloc (Nat.le_refl _) _) (qbH _ _) (by simp) (by simpa using hge) (by
          simp only [Array.size_append, List.size_toArray, size_zeroCells, hsrc.len, hzk, ← Nat.add_mul]
          exact Nat.mul_le_mul_right _ (by omega))
        (fun i' j d hd => by simp [qao] at hd) (fun x u hx => by
          simp only [List.length_nil, Nat.zero_mul, Nat.zero_add]
          rw [Array.getElem?_append, if_pos (by have := (List.getElem?_eq_some_iff.1 hx).1; simpa using this)]
          simpa using hx) (fun e he => by cases he)
      exact ⟨_, _, ω', hrun, h1, h2⟩
    | row R k es b off cap arr tyb fr us hb hR hc hs hkk hu hd =>
      have hR' : ω b = .tok t [] := hR
      obtain ⟨hown1, arr0, ty0, hb0⟩ := hrel.owned b (by rw [hR']; simp)
      rw [hb] at hb0
      simp only [Option.some.injEq, Obj.cells.injEq] at hb0
      obtain ⟨rfl, rfl, rfl⟩ := hb0
      have hblt : b < w.heap.size := (Array.getElem?_eq_some_iff.1 hb).1
      by_cases hroom : es.length + es2.length ≤ cap
      · -- there is room
        have hmul : (es.length + es2.length) * i.size ≤ cap * i.size := Nat.mul_le_mul_right _ hroom
        rw [Nat.add_mul] at hmul
        have hnl := hsrc.len
        have hfit : off + es.length * i.size + news.length ≤ arr.size := by omega
        have hrun := qhF (P := P) (ty := ty) ht hi w b off es.length cap arr tyb hb ⟨sb, so, none⟩ es2.length sc news hsrc.len hnews hsrc.one hroom hfit
        generalize harr : (arr.toList.take (off + es.length * i.size) ++ news ++ arr.toList.drop (off + es.length * i.size + news.length)).toArray = arr' at hrun
        have hget : ∀ x : Nat, arr'[x]? = if off + es.length * i.size ≤ x ∧ x < off + es.length * i.size + news.length then news[x - (off + es.length * i.size)]? else arr[x]? := by
          intro x
          rw [← harr, List.getElem?_toArray, qhz (by simpa using hfit)]
          simp
        have hsz' : arr'.size = arr.size := by rw [← harr]; simp; omega
        have hhs := setRow_heap w b arr arr' tyb (0, 0) hb
        let ω' : Own := fun c => qa1 t mv es.length (ω c)
        have hω : ∀ c, c < w.heap.size → ω c ≠ .tok t [] → ω' c = qa1 t mv es.length (ω c) ∧ (w.setRow b arr').heap[c]? = w.heap[c]? := fun c _ hne =>
          ⟨rfl, setRow_other w b c arr' fun e => hne (by rw [e]; exact hR')⟩
        have hself : ω' b = .tok t [] := by simp only [ω', hR']; exact qdm hmv
        have hlow : ∀ c p q, c < w.heap.size → ω c = .tok t (p :: q) → ω' c = .tok t (p :: q) ∧ (w.setRow b arr').heap[c]? = w.heap[c]? := by
          intro c p q hc hq
          obtain ⟨h1, h2⟩ := hω c hc (by rw [hq]; simp)
          rw [h1, hq, qdm hmv]; exact ⟨rfl, h2⟩
        refine ⟨_, _, ω', hrun, hrel.turn _ (apSat hmv hω (fun id c hcb => by simp [ω', hcb, qa1]) ?_) ?_ ?_ ?_ ?_ (hfixr _), ?_, by simp [Tag.hdr, qaU]⟩
        · intro es' y' hr' he'
          rw [he', e2, hyy] at hr' ⊢
          rw [e1] at hr' ⊢
          have hl' : es.length = es'.length := by
            obtain ⟨_, _, h⟩ := hr'.len
            simp only [Value.slice.injEq] at h
            exact h.2.1
          refine Rep.retop hr' hb hhs hsz' (fun x hx => ?_) (fun o ho hro => ?_) (fun c p q hc hq => ?_)
          · rw [hget, if_neg (by omega)]
          · right; exact ⟨[], hself⟩
          · simp only [Tag.R] at hq ⊢
            obtain ⟨h1, h2⟩ := hlow c p q hc hq
            exact ⟨.inr ⟨_, h1⟩, h2⟩
        · exact hrel.below.setRow hown1 arr'
        · intro c hcb
          have : ω c ≠ .imm := fun e => by simp [ω', e, qa1] at hcb
          obtain ⟨h3, arr2, ty2, h4⟩ := hrel.owned c this
          by_cases hcb' : c = b
          · subst hcb'; exact ⟨h3, arr', tyb, hhs⟩
          · exact ⟨h3, arr2, ty2, (setRow_other w b c arr' hcb').trans h4⟩
        · intro id c hcb
          exact ⟨by simp [ω', hcb, qa1], setRow_other w b c arr' fun e => by rw [e, hR'] at hcb; cases hcb⟩
        · intro id c hcb; exact qhE.1 hcb
        · have hcell : ∀ x j d, qao (es ++ es2) x j = some d → ∃ u, arr'[off + x * i.size + j]? = some u ∧ Rep (w.setRow b arr') ω' (fun q => (Tag.own t).R ((x, j) :: q)) d u := by
            intro x j d hdx
            rw [qhD] at hdx
            split at hdx
            · rename_i hx
              have hjk := (qe4 hkk hdx).2
              refine ⟨us x j, ?_, (hd x j d hdx).frame fun c q hc hq => ?_⟩
              · have : (x + 1) * i.size ≤ es.length * i.size := Nat.mul_le_mul_right _ hx
                rw [Nat.add_mul] at this
                rw [hget, if_neg (by omega), hu x j d hdx]
              · exact hlow c _ _ hc hq
            · rename_i hx
              obtain ⟨u, h1, h2⟩ := hsrc.cell_rep (w' := w.setRow b arr') (ω' := ω') (n := es.length) hmv hω hdx
              have hxlt := (List.getElem?_eq_some_iff.1 h1).1
              have hxe : x * i.size = es.length * i.size + (x - es.length) * i.size := by rw [← Nat.add_mul]; congr 1; omega
              refine ⟨u, ?_, ?_⟩
              · rw [hget, if_pos (by omega), ← h1]
                congr 1
                omega
              · rwa [show es.length + (x - es.length) = x by omega] at h2
          have hlen : (es ++ es2).length = es.length + es2.length := List.length_append
          have hrow2 : ∀ e ∈ es ++ es2, e.length = i.size := by
            intro e' he
            rcases List.mem_append.1 he with h | h
            · exact hkk e' h
            · exact hsrc.rows e' h
          have := Rep.row (w := w.setRow b arr') (ω := ω') (Tag.own t).R i.size (es ++ es2) b off cap arr' tyb (0, 0) (fun x j => arr'.getD (off + x * i.size + j) undef) hhs hself (by omega) (by omega) hrow2
            (fun x j d hd => by obtain ⟨u, h1, _⟩ := hcell x j d hd; rw [h1]; simp [Array.getD_eq_getD_getElem?, h1])
            (fun x j d hd => by obtain ⟨u, h1, h2⟩ := hcell x j d hd; have : arr'.getD (off + x * i.size + j) undef = u := by simp [Array.getD_eq_getD_getElem?, h1]
                                rw [this]; exact h2)
          rw [hlen] at this
          exact this
      · -- it grows
        have hmul : es.length * i.size ≤ cap * i.size := Nat.mul_le_mul_right _ hc
        have holdl : ((arr.toList.drop off).take (es.length * i.size)).length = es.length * i.size := by simp; omega
        have hrun := run_append_grow (P := P) w tys ty e i z ht hi hz ⟨b, off, none⟩ es.length cap ((arr.toList.drop off).take (es.length * i.size)) holdl (fun j v hv => by
          rw [qb4, cell_of_row w b (off + j) arr tyb (0, 0) hb]
          rw [List.getElem?_take] at hv
          split at hv
          · rw [List.getElem?_drop] at hv; simpa using hv
          · cases hv) ⟨sb, so, none⟩ es2.length sc news hsrc.len hnews (by omega) (by omega) (growslice_fits (by omega) hb1)
        have hge := grownCap_ge w (es.length + es2.length) cap e
        obtain ⟨ω', h1, h2⟩ := grown _ (((arr.toList.drop off).take (es.length * i.size)).toArray ++ news.toArray ++ Builtin.zeroCells z.cells (grownCap w (es.length + es2.length) cap e - (es.length + es2.length))) _ (grownCap w (es.length + es2.length) cap e)
          (((Blw.refl _ _).drew).alloc (Nat.le_refl _) _) (qbH _ _) rfl hge (by
            simp only [Array.size_append, List.size_toArray, size_zeroCells, hsrc.len, hzk, holdl, ← Nat.add_mul]
            exact Nat.mul_le_mul_right _ (by omega))
          (fun i' j d hd' => by
            obtain ⟨hi1, hj1⟩ := qe4 hkk hd'
            have : (i' + 1) * i.size ≤ es.length * i.size := Nat.mul_le_mul_right _ hi1
            rw [Nat.add_mul] at this
            refine ⟨us i' j, ?_, fun q => (Tag.own t).R ((i', j) :: q), fun q o h => h, hd i' j d hd'⟩
            rw [Array.getElem?_append, if_pos (by simp only [Array.size_append, List.size_toArray, holdl]; omega), Array.getElem?_append, if_pos (by simp only [List.size_toArray, holdl]; omega)]
            rw [List.getElem?_toArray, List.getElem?_take, if_pos (by omega), List.getElem?_drop, ← hu i' j d hd']
            simp only [Array.getElem?_toList]
            congr 1
            omega)
          (fun x u hx => by
            have hxl := (List.getElem?_eq_some_iff.1 hx).1
            rw [Array.getElem?_append, if_pos (by simp only [Array.size_append, List.size_toArray, holdl]; omega), Array.getElem?_append, if_neg (by simp only [List.size_toArray, holdl]; omega)]
            simp only [List.size_toArray, holdl, List.getElem?_toArray]
            rw [← hx]
            congr 1
            omega) hkk
        exact ⟨_, _, ω', hrun, h1, h2⟩
end Go.Sx
namespace Go.Sx
open Go.RowKit
def Flat (es : List (List D)) : Prop := ∀ e ∈ es, ∀ d ∈ e, ∃ x, d = .v x
theorem qnT {es : List (List D)} {i j : Nat} {d : D} (h : qao es i j = some d) : ∃ e ∈ es, d ∈ e := by
  unfold qao at h
  cases hx : es[i]? with
  | none => simp [hx] at h
  | some e => rw [hx, Option.bind_some] at h; exact ⟨e, List.mem_of_getElem? hx, List.mem_of_getElem? h⟩
theorem Src.empty {P : Program} {w : World} {ω : Own} {k : Nat} {mv : Option Nat} (a : Option Addr) : Src P w ω k [] mv (.slice a 0 0) [] where
  len := by simp
  rows := fun _ h => (by cases h)
  one := fun _ h => (by cases h)
  cell := fun i j d hd => by simp [qao] at hd
  shape := .inl ⟨⟨a, rfl⟩, rfl⟩
theorem Src.of {P : Program} {w : World} {ω : Own} {R : List (Nat × Nat) → Owner → Prop} {k : Nat} {es2 : List (List D)} {mv : Option Nat} {y : Value} (h : Rep w ω R (.sl k es2) y) (hk0 : 0 < k)
    (hc : Flat es2 ∨ ∃ s, mv = some s ∧ R = (Tag.own s).R) : ∃ news, Src P w ω k es2 mv y news := by
  cases h with
  | nil => exact ⟨[], Src.empty _⟩
  | row R k es b off cap arr ty fr us hb hR hcap hs hkk hu hd =>
    have hmul : es2.length * k ≤ cap * k := Nat.mul_le_mul_right _ hcap
    have hget : ∀ x : Nat, ((arr.toList.drop off).take (es2.length * k))[x]? = if x < es2.length * k then arr[off + x]? else none := by
      intro x
      rw [List.getElem?_take]
      split
      · rw [List.getElem?_drop]; simp
      · rfl
    have hcell : ∀ i j d, qao es2 i j = some d → ((arr.toList.drop off).take (es2.length * k))[i * k + j]? = some (us i j) := by
      intro i j d hd'
      obtain ⟨hi, hj⟩ := qe4 hkk hd'
      have : (i + 1) * k ≤ es2.length * k := Nat.mul_le_mul_right _ hi
      rw [Nat.add_mul] at this
      rw [hget, if_pos (by omega), ← hu i j d hd', Nat.add_assoc]
    refine ⟨(arr.toList.drop off).take (es2.length * k), by simp; omega, hkk, ?_, ?_, .inr ⟨b, off, cap, rfl, ?_⟩⟩
    · intro u hu'
      obtain ⟨x, hx⟩ := List.mem_iff_getElem?.1 hu'
      have hlt : x < es2.length * k := by
        have := (List.getElem?_eq_some_iff.1 hx).1
        simp at this; omega
      have hxe : x = (x / k) * k + x % k := by rw [Nat.mul_comm]; exact (Nat.div_add_mod x k).symm
      have hq : x / k < es2.length := Nat.div_lt_of_lt_mul (by rw [Nat.mul_comm]; exact hlt)
      obtain ⟨d, hd'⟩ := qnR hkk hq (Nat.mod_lt x hk0)
      have h1 := hcell _ _ _ hd'
      rw [← hxe, hx] at h1
      rw [Option.some.inj h1]
      exact (hd _ _ _ hd').oneCell
    · intro i j d hd'
      refine ⟨us i j, hcell i j d hd', ?_⟩
      rcases hc with hf | ⟨s, hs1, hs2⟩
      · obtain ⟨e, he, hde⟩ := qnT hd'
        obtain ⟨x, rfl⟩ := hf e he d hde
        have := hd i j _ hd'
        cases h3 : us i j <;> (rw [h3] at this; cases this; exact .inl ⟨_, rfl, rfl⟩)
      · subst hs2
        exact .inr ⟨s, hs1, hd i j d hd'⟩
    · intro j v hv
      rw [qb4, cell_of_row w b (off + j) arr ty fr hb]
      rw [hget] at hv
      split at hv
      · exact hv
      · cases hv
theorem RelAt.nilTok {w0 : Base} {st : St} {a : Act} {w : World} {ω : Own} {τ : Nat → Nat × Value} (h : RelAt w0 st a w ω τ) (t k : Nat) (htg : t < giv) :
    ∃ ω', RelAt w0 (st.newTok t []) a w ω' (qaU τ t k (.slice none 0 0)) ∧ Sat w ω' (qaU τ t k (.slice none 0 0)) (.sl (.own t) k []) (.slice none 0 0) := by
  refine ⟨fun b => qbK t [] (ω b), h.turn _ (Evolve.sat (g := mvTag t []) (p := fun _ => true) ⟨?_, ?_, ?_, rfl⟩) h.below ?_ ?_ ?_ (fun s hs => by simp only [qaU]; rw [if_neg (by omega)]), .nil _ _ _, by simp [Tag.hdr, qaU]⟩
  · intro g g' b q hg _ hq
    exact ⟨qkb hg hq, rfl⟩
  · intro g g' y hg hy
    cases g with
    | free => simp only [mvTag, Option.some.injEq] at hg; subst hg; exact trivial
    | own s =>
      simp only [mvTag] at hg
      split at hg
      · simp only [Option.some.injEq] at hg; subst hg; exact trivial
      · split at hg
        · cases hg
        · simp only [Option.some.injEq] at hg; subst hg
          simp only [Tag.hdr, qaU] at hy ⊢
          rw [if_neg ‹_›]; exact hy
    | ro s =>
      simp only [mvTag] at hg
      split at hg
      · simp only [Option.some.injEq] at hg; subst hg; exact trivial
      · split at hg
        · cases hg
        · simp only [Option.some.injEq] at hg; subst hg; exact trivial
  · intro id b _ hb; exact qfG.2 hb
  · intro b hb
    exact h.owned b fun e => by simp only [e] at hb; exact hb rfl
  · intro id b hb; exact ⟨qfG.2 hb, rfl⟩
  · intro id b hb; exact qfG.1 hb
def apSrc (t k : Nat) (q : PV) (ans : List Ans) : Option (List (List D) × Option Nat × List Ans × List Prop) :=
  match q.leaf, ans with
  | some (.sl (.own s) k' es2), .own :: r => if k' = k ∧ s ≠ t then some (es2, some s, r, []) else none
  | some (.sl _ k' es2), ans => if k' = k then some (es2, none, ans, [Flat es2]) else none
  | some (.v (.slice none 0 0)), ans => some ([], none, ans, [])
  | some (.sn _ _ _ k' es2 .here), ans => if k' = k then some (es2, none, ans, [Flat es2]) else none
  | some (.sn _ _ _ k' es2 .away), ans => if k' = k then some (es2, none, ans, [Flat es2]) else none
  | _, _ => none
theorem qnU {P : Program} {w : World} {ω : Own} {τ : Nat → Nat × Value} {t k : Nat} {q : PV} {y : Value} {ans ans' : List Ans} {es2 : List (List D)} {mv : Option Nat} {obs : List Prop} (hk0 : 0 < k)
    (hq : SatP (Sat w ω τ) q y) (h : apSrc t k q ans = some (es2, mv, ans', obs)) (ho : Obs obs) : mv ≠ some t ∧ ∃ news, Src P w ω k es2 mv y news := by
  unfold apSrc at h
  split at h
  · rename_i s k' es r e
    split at h
    · rename_i hc
      obtain ⟨rfl, hne⟩ := hc
      simp only [Option.some.injEq, Prod.mk.injEq] at h
      obtain ⟨rfl, rfl, _, _⟩ := h
      exact ⟨by simpa using hne, Src.of (PV.leaf_sat e hq).1 hk0 (.inr ⟨s, rfl, rfl⟩)⟩
    · cases h
  · rename_i g k' es e _
    split at h
    · rename_i hc
      subst hc
      simp only [Option.some.injEq, Prod.mk.injEq] at h
      obtain ⟨rfl, rfl, _, rfl⟩ := h
      exact ⟨by simp, Src.of (PV.leaf_sat e hq).1 hk0 (.inl ho.1)⟩
    · cases h
  · rename_i e
    simp only [Option.some.injEq, Prod.mk.injEq] at h
    obtain ⟨rfl, rfl, _, _⟩ := h
    have : y = .slice none 0 0 := PV.leaf_sat e hq
    subst this
    exact ⟨by simp, [], Src.empty _⟩
  · rename_i s si sj k' es e
    split at h
    · rename_i hc
      subst hc
      simp only [Option.some.injEq, Prod.mk.injEq] at h
      obtain ⟨rfl, rfl, _, rfl⟩ := h
      obtain ⟨u0, rfl, hr, _⟩ := PV.leaf_sat e hq
      exact ⟨by simp, Src.of hr hk0 (.inl ho.1)⟩
    · cases h
  · rename_i s si sj k' es e
    split at h
    · rename_i hc
      subst hc
      simp only [Option.some.injEq, Prod.mk.injEq] at h
      obtain ⟨rfl, rfl, _, rfl⟩ := h
      obtain ⟨u0, rfl, hr, _⟩ := PV.leaf_sat e hq
      exact ⟨by simp, Src.of hr hk0 (.inl ho.1)⟩
    · cases h
  · cases h
def apTok (d : Nat) (st : St) (k : Nat) (p : PV) : Option (St × Nat × List (List D)) :=
  match p.leaf with
  | some (.sl (.own t) k' es) => if k' = k then some (st, t, es) else none
  | some (.v (.slice none 0 0)) => some (st.newTok d [], d, [])
  | _ => none
def stepAppend (P : Program) (st : St) (d : Nat) (t : TypeId) (x y : Operand) (ans : List Ans) : Stepped :=
  match qcL P t with
  | some (e, k) =>
    match P.info? e, apTok d st k (st.ev x) with
    | some i, some (st1, tk, es) =>
      match i.zero, apSrc tk k (st1.ev y) ans with
      | some z, some (es2, mv, ans', obs) =>
        if z.cells.size = k ∧ 0 < k ∧ tk < giv then
          some (⟨(st1.ap tk mv).env.set d (.one (.sl (.own tk) k (es ++ es2))), (st1.ap tk mv).boxes⟩, ans', ((es.length + es2.length) * i.bytes ≤ 140737488355328) :: (es.length + es2.length ≤ 9223372036854775807) :: obs)
        else none
      | _, _ => none
    | _, _ => none
  | none => none
theorem RelAt.stepAppend {P : Program} {w0 : Base} {st st' : St} {a : Act} {w : World} {ω : Own} {τ : Nat → Nat × Value} {d : Nat} {t ty : TypeId} {x y : Operand} {ans ans' : List Ans} {obs : List Prop}
    (hrel : RelAt w0 st a w ω τ) (h : Sx.stepAppend P st d t x y ans = some (st', ans', obs)) (ho : Obs obs) :
    ∃ z w', (Builtin.append_ #[t, t] ty #[a.eval x, a.eval y]).run P w = .ok z w' ∧ Rel w0 st' (a.put (some d) z) w' := by
  unfold Sx.stepAppend at h
  split at h
  · rename_i e k he
    obtain ⟨hu, i0, hi0, hs0⟩ := qeq he
    split at h
    · rename_i i st1 tk es hi htok
      rw [hi0] at hi
      have hie := Option.some.inj hi
      subst hie
      split at h
      · rename_i z es2 mv ans2 obs2 hz hsrc
        split at h
        · rename_i hc
          simp only [Option.some.injEq, Prod.mk.injEq] at h
          obtain ⟨rfl, rfl, rfl⟩ := h
          obtain ⟨o1, o2, o3⟩ := ho
          have : ∃ ω1 τ1, RelAt w0 st1 a w ω1 τ1 ∧ Sat w ω1 τ1 (.sl (.own tk) k es) (a.eval x) := by
            unfold apTok at htok
            split at htok
            · rename_i t' k' es' hl
              split at htok
              · rename_i hkk
                subst hkk
                simp only [Option.some.injEq, Prod.mk.injEq] at htok
                obtain ⟨rfl, rfl, rfl⟩ := htok
                exact ⟨ω, τ, hrel, PV.leaf_sat hl (hrel.ev x)⟩
              · cases htok
            · rename_i hl
              simp only [Option.some.injEq, Prod.mk.injEq] at htok
              obtain ⟨rfl, rfl, rfl⟩ := htok
              have : a.eval x = .slice none 0 0 := PV.leaf_sat hl (hrel.ev x)
              rw [this]
              obtain ⟨ω1, h1, h2⟩ := hrel.nilTok d k hc.2.2
              exact ⟨ω1, _, h1, h2⟩
            · cases htok
          obtain ⟨ω1, τ1, hr1, hx⟩ := this
          obtain ⟨hmv, news, hs⟩ := qnU (P := P) hc.2.1 (hr1.ev y) hsrc o3
          obtain ⟨r, w', ω', h1, h2, h3⟩ := hr1.append (P := P) (ty := ty) hx hs hmv hu hi0 hz hs0 hc.1 o1 o2 hc.2.2
          exact ⟨r, w', h1, ω', _, h2.put (p := .one (.sl (.own tk) k (es ++ es2))) h3⟩
        · cases h
      · cases h
    · cases h
  · cases h
end Go.Sx
