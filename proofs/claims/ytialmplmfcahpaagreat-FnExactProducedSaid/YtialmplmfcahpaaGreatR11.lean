/- A store into an element of a tree of the call's own; a cut of such a tree that takes its place. -/
import Derived.Test.YtialmplmfcahpaaGreatR9
set_option linter.unusedVariables false
set_option linter.unusedSimpArgs false
namespace Go.Sx
open Go.RowKit
def qeu (t : Nat) (ms : Moves) (k : Nat) (es' : List (List D)) : Leaf → Leaf
  | .sl (.own s) k' es => if s = t then .sl (.own t) k es' else if (ms.at s).isSome then .und else .sl (.own s) k' es
  | .ep (.own s) k' es i j => if s = t then .ep (.own t) k es' i j else if (ms.at s).isSome then .und else .ep (.own s) k' es i j
  | .sl (.ro s) k' es => if s = t then .und else if (ms.at s).isSome then .und else .sl (.ro s) k' es
  | .ep (.ro s) k' es i j => if s = t then .und else if (ms.at s).isSome then .und else .ep (.ro s) k' es i j
  | .sn _ _ _ _ _ _ => .und
  | .np _ _ => .und
  | l => l
def qbo (t : Nat) (ms : Moves) : Owner → Owner
  | .tok s q => if s = t then .tok s q else match ms.at s with | some p => .tok t (p :: q) | none => .tok s q
  | o => o
theorem qfJ {t : Nat} {ms : Moves} {o : Owner} {id : Nat} : qbo t ms o = .box id ↔ o = .box id := by
  cases o with
  | imm => simp [qbo]
  | box i => simp [qbo]
  | tok s q =>
    simp only [qbo]
    split
    · simp
    · split <;> simp
theorem qnV {t : Nat} {ms : Moves} {o : Owner} : qbo t ms o = .imm ↔ o = .imm := by
  cases o with
  | imm => simp [qbo]
  | box i => simp [qbo]
  | tok s q =>
    simp only [qbo]
    split
    · simp
    · split <;> simp
theorem qnW {es : List (List D)} {i : Nat} {ds : List D} {x j : Nat} (hi : i < es.length) : qao (es.set i ds) x j = if x = i then ds[j]? else qao es x j := by
  unfold qao
  rw [List.getElem?_set]
  by_cases h : i = x
  · subst h
    rw [if_pos rfl, if_pos hi, if_pos rfl]
    rfl
  · rw [if_neg h, if_neg (Ne.symm h)]
def blitD (ds : List D) (off : Nat) (xs : List D) : List D := ds.take off ++ (xs ++ ds.drop (off + xs.length))
theorem qnX {ds xs : List D} {off i : Nat} (h : off + xs.length ≤ ds.length) : (blitD ds off xs)[i]? = if off ≤ i ∧ i < off + xs.length then xs[i - off]? else ds[i]? := by
  unfold blitD
  rw [List.getElem?_append, List.length_take, Nat.min_eq_left (by omega)]
  by_cases h1 : i < off
  · rw [if_pos h1, if_neg (by omega), List.getElem?_take, if_pos h1]
  · rw [if_neg h1, List.getElem?_append]
    by_cases h2 : i - off < xs.length
    · rw [if_pos h2, if_pos (by omega)]
    · rw [if_neg h2, if_neg (by omega), List.getElem?_drop]
      congr 1
      omega
theorem qnY {ds xs : List D} {off : Nat} (h : off + xs.length ≤ ds.length) : (blitD ds off xs).length = ds.length := by
  simp [blitD]; omega
def qhG (t : Nat) (ms : Moves) : Bool := ms.all fun x => x.1 ≠ t && (match ms.at x.1 with | some p => p.1 == x.2.1 && p.2 == x.2.2 | none => false)
theorem qnZ {t : Nat} {ms : Moves} (h : qhG t ms = true) {s : Nat} {p : Nat × Nat} (hm : (s, p) ∈ ms) : s ≠ t ∧ ms.at s = some p := by
  have h1 := List.all_eq_true.1 h _ hm
  simp only [Bool.and_eq_true, decide_eq_true_eq] at h1
  refine ⟨h1.1, ?_⟩
  have h2 := h1.2
  split at h2
  · rename_i q e
    simp only [Bool.and_eq_true, beq_iff_eq] at h2
    rw [e, Option.some.injEq]
    exact Prod.ext h2.1 h2.2
  · cases h2
theorem qhH (i : Nat) : ∀ (xs : List Leaf) (j : Nat), qba i j xs = (qba 0 j xs).map fun x => (x.1, (i, x.2.2))
  | [], _ => rfl
  | l :: ls, j => by
    simp only [qba]
    split
    · simp only [List.map_cons, List.cons.injEq, true_and]; exact qhH i ls (j + 1)
    · exact qhH i ls (j + 1)
theorem qkg (i s : Nat) : ∀ ms : Moves, Moves.at s (ms.map fun x => (x.1, (i, x.2.2))) = (Moves.at s ms).map fun p => (i, p.2)
  | [] => rfl
  | (a, p) :: r => by
    simp only [List.map_cons, Moves.at]
    split
    · rfl
    · exact qkg i s r
theorem qhI (i0 : Nat) : ∀ (xs : List Leaf) (j s : Nat) (p : Nat × Nat), (s, p) ∈ qba i0 j xs → p.1 = i0
  | [], _, _, _, h => by simp [qba] at h
  | l :: ls, j, s, p, h => by
    simp only [qba] at h
    split at h
    · rcases List.mem_cons.1 h with h | h
      · simp only [Prod.mk.injEq] at h; rw [h.2]
      · exact qhI i0 ls (j + 1) s p h
    · exact qhI i0 ls (j + 1) s p h
theorem qkh {t i j : Nat} {xs : List Leaf} (h : qhG t (qba 0 j xs) = true) {s : Nat} {p : Nat × Nat} (hm : (s, p) ∈ qba i j xs) : s ≠ t ∧ (qba i j xs).at s = some p := by
  have hp := qhI i xs j s p hm
  rw [qhH] at hm ⊢
  obtain ⟨⟨s', p'⟩, h1, h2⟩ := List.mem_map.1 hm
  simp only [Prod.mk.injEq] at h2
  obtain ⟨rfl, h2⟩ := h2
  obtain ⟨h3, h4⟩ := qnZ h h1
  refine ⟨h3, ?_⟩
  rw [qkg, h4, ← h2]
  rfl
def SM.flat : SM → Bool
  | .at_ _ _ => false
  | _ => true
def qc0 (t : Nat) : Nat → List Leaf → Option (List D × List Nat)
  | _, [] => some ([], [])
  | j, .sn s a b k es m :: ls => if s = t ∧ b = j ∧ m.flat = true then (qc0 t (j + 1) ls).map fun r => (.sl k es :: r.1, a :: r.2) else none
  | j, l :: ls =>
    match l.toD, qc0 t (j + 1) ls with
    | some d, some r => some (d :: r.1, r.2)
    | _, _ => none
theorem qki {t : Nat} : ∀ {xs : List Leaf} {j : Nat} {ys : List D} {is : List Nat}, qc0 t j xs = some (ys, is) → ys.length = xs.length ∧
    ∀ (y : Nat) (d : D), ys[y]? = some d → ∃ l, xs[y]? = some l ∧ (l.toD = some d ∨ ∃ a k es m, l = .sn t a (j + y) k es m ∧ m.flat = true ∧ a ∈ is ∧ d = .sl k es)
  | [], j, ys, is, h => by
    simp only [qc0, Option.some.injEq, Prod.mk.injEq] at h
    obtain ⟨rfl, rfl⟩ := h
    exact ⟨rfl, fun y d hd => by simp at hd⟩
  | l :: ls, j, ys, is, h => by
    have fin : ∀ d0 ys0 is0 is1, ys = d0 :: ys0 → is = is1 → (∀ a ∈ is0, a ∈ is1) → qc0 t (j + 1) ls = some (ys0, is0) → (l.toD = some d0 ∨ ∃ a k es m, l = .sn t a j k es m ∧ m.flat = true ∧ a ∈ is1 ∧ d0 = .sl k es) → ys.length = (l :: ls).length ∧
        ∀ (y : Nat) (d : D), ys[y]? = some d → ∃ x, (l :: ls)[y]? = some x ∧ (x.toD = some d ∨ ∃ a k es m, x = .sn t a (j + y) k es m ∧ m.flat = true ∧ a ∈ is ∧ d = .sl k es) := by
      rintro d0 ys0 is0 is1 rfl rfl hsub hr h0
      obtain ⟨h1, h2⟩ := qki hr
      refine ⟨by simp [h1], fun y d hd => ?_⟩
      cases y with
      | zero =>
        simp only [List.getElem?_cons_zero, Option.some.injEq] at hd
        subst hd
        exact ⟨l, rfl, h0⟩
      | succ y =>
        obtain ⟨x, hx, h3⟩ := h2 y d (by simpa using hd)
        refine ⟨x, by simpa using hx, ?_⟩
        rcases h3 with h3 | ⟨a, k, es, m, h4, h5, h6, h7⟩
        · exact .inl h3
        · exact .inr ⟨a, k, es, m, by rw [h4, show j + 1 + y = j + (y + 1) by omega], h5, hsub a h6, h7⟩
    have plain : (match l.toD, qc0 t (j + 1) ls with | some d, some r => some (d :: r.1, r.2) | _, _ => none) = some (ys, is) → ys.length = (l :: ls).length ∧
        ∀ (y : Nat) (d : D), ys[y]? = some d → ∃ x, (l :: ls)[y]? = some x ∧ (x.toD = some d ∨ ∃ a k es m, x = .sn t a (j + y) k es m ∧ m.flat = true ∧ a ∈ is ∧ d = .sl k es) := by
      intro h
      split at h
      · rename_i d r e1 e2
        simp only [Option.some.injEq, Prod.mk.injEq] at h
        exact fin d r.1 r.2 r.2 h.1.symm h.2.symm (fun _ h => h) e2 (.inl e1)
      · cases h
    cases l with
    | sn s a b k es m =>
      simp only [qc0] at h
      split at h
      · rename_i hc
        obtain ⟨rfl, rfl, hm⟩ := hc
        rw [Option.map_eq_some_iff] at h
        obtain ⟨⟨r1, r2⟩, e2, h⟩ := h
        simp only [Prod.mk.injEq] at h
        exact fin _ r1 r2 (a :: r2) h.1.symm h.2.symm (fun _ h => List.mem_cons_of_mem _ h) e2 (.inr ⟨a, k, es, m, rfl, hm, List.mem_cons_self, rfl⟩)
      · cases h
    | _ => exact plain h
theorem qkj {i : Nat} : ∀ {l : List Nat}, Obs (l.map fun a => a = i) → ∀ a ∈ l, a = i
  | [], _, a, h => by cases h
  | x :: l, ho, a, h => by
    rcases List.mem_cons.1 h with rfl | h
    · exact ho.1
    · exact qkj ho.2 a h
def qhJ (P : Program) (st : St) (ty : TypeId) (t k : Nat) (es : List (List D)) (i j : Nat) (q : PV) (ans : List Ans) : Stepped :=
  match q.leaves, P.info? ty, ans with
  | some xs, some inf, .el ds :: r =>
    match qc0 t j xs with
    | some (ys, is) =>
      if xs.length = inf.size ∧ ds.length = k ∧ j + ys.length ≤ k ∧ qhG t (qba 0 j xs) = true then
        some (st.map (qeu t (qba i j xs) k (es.set i (blitD ds j ys))), r, (es[i]? = some ds) :: is.map fun a => a = i)
      else none
    | none => none
  | _, _, _ => none
theorem RelAt.storeElem {P : Program} {w0 : Base} {st st' : St} {a : Act} {w : World} {ω : Own} {τ : Nat → Nat × Value} {ty : TypeId} {t k i j : Nat} {es : List (List D)} {q : PV} {v y : Value} {ans ans' : List Ans} {obs : List Prop}
    (hrel : RelAt w0 st a w ω τ) (hp : Sat w ω τ (.ep (.own t) k es i j) y) (hq : SatP (Sat w ω τ) q v) (h : qhJ P st ty t k es i j q ans = some (st', ans', obs)) (ho : Obs obs) :
    ∃ w', (Instr.storeAt ty y v).run P w = .ok () w' ∧ Rel w0 st' a w' := by
  unfold qhJ at h
  split at h
  · rename_i xs inf ds r e1 e2
    split at h
    · rename_i ys is e3
      split at h
      · rename_i hc
        obtain ⟨hc1, hc2, hc3, hc4⟩ := hc
        simp only [Option.some.injEq, Prod.mk.injEq] at h
        obtain ⟨rfl, _, rfl⟩ := h
        have hds : es[i]? = some ds := ho.1
        obtain ⟨hs, hone⟩ := PV.leaves_sat e1 hq
        obtain ⟨hyl, hyg⟩ := qki e3
        have hisi := qkj ho.2
        obtain ⟨b, off, cap, rfl, hil, hr, hh⟩ := hp
        simp only [Tag.hdr] at hh
        cases hr with
        | nil => simp at hil
        | row R k es b off cap arr tyb fr us hb hR hcap hsz hkk hu hd =>
          have hR' : ω b = .tok t [] := hR
          obtain ⟨hown1, arr0, ty0, hb0⟩ := hrel.owned b (by rw [hR']; simp)
          rw [hb] at hb0
          simp only [Option.some.injEq, Obj.cells.injEq] at hb0
          obtain ⟨rfl, rfl, rfl⟩ := hb0
          have hblt : b < w.heap.size := (Array.getElem?_eq_some_iff.1 hb).1
          have hmul : (i + 1) * k ≤ cap * k := Nat.mul_le_mul_right _ (by omega)
          rw [Nat.add_mul] at hmul
          have hvs : v.cells.size = xs.length := hs.1
          have hfit : off + i * k + j + v.cells.toList.length ≤ arr.size := by simp; omega
          have hst := run_storeCells_at P b (off + i * k + j) tyb v.cells.toList 0 arr w hb (by simpa using hfit) hone
          simp only [Nat.add_zero] at hst
          generalize harr : (arr.toList.take (off + i * k + j) ++ v.cells.toList ++ arr.toList.drop (off + i * k + j + v.cells.toList.length)).toArray = arr' at hst
          have hget : ∀ x : Nat, arr'[x]? = if off + i * k + j ≤ x ∧ x < off + i * k + j + xs.length then v.cells[x - (off + i * k + j)]? else arr[x]? := by
            intro x
            rw [← harr, List.getElem?_toArray, qhz (by simpa using hfit)]
            simp [hvs]
          have hsz' : arr'.size = arr.size := by rw [← harr]; simp; simp at hfit; omega
          have hhs := setRow_heap w b arr arr' tyb (0, 0) hb
          let ms := qba i j xs
          let ω' : Own := fun c => qbo t ms (ω c)
          have hmst : ms.at t = none := by
            cases e : ms.at t with
            | none => rfl
            | some p =>
              have hmem : ∀ (ms : Moves) (p : Nat × Nat), ms.at t = some p → (t, p) ∈ ms := by
                intro ms
                induction ms with
                | nil => intro p h; cases h
                | cons x ms ih =>
                  intro p h
                  obtain ⟨s, p'⟩ := x
                  simp only [Moves.at] at h
                  split at h
                  · rename_i hst'; subst hst'; rw [Option.some.inj h]; exact List.mem_cons_self
                  · exact List.mem_cons_of_mem _ (ih p h)
              exact absurd rfl (qkh hc4 (hmem ms p e)).1
          have hω : ∀ c q, c < w.heap.size → ω c = .tok t q → ω' c = .tok t q := fun c q _ h => by simp [ω', h, qbo]
          have hlow : ∀ c p q, c < w.heap.size → ω c = .tok t (p :: q) → ω' c = .tok t (p :: q) ∧ (w.setRow b arr').heap[c]? = w.heap[c]? := by
            intro c p q hc hq'
            exact ⟨hω c _ hc hq', setRow_other w b c arr' fun e => by rw [e, hR'] at hq'; cases hq'⟩
          have hother : ∀ (g : Tag) c q, g ≠ .own t → g ≠ .ro t → (∀ s, g = .own s ∨ g = .ro s → ms.at s = none) → g.R q (ω c) → g.R q (ω' c) ∧ (w.setRow b arr').heap[c]? = w.heap[c]? := by
            intro g c q h1 h2 h3 hq'
            have hcb : c ≠ b := fun e => by
              rw [e, hR'] at hq'
              cases g with
              | free => cases hq'
              | own s => simp only [Tag.R, Owner.tok.injEq] at hq'; exact h1 (by rw [hq'.1])
              | ro s => rcases hq' with h | ⟨q', h⟩
                        · cases h
                        · simp only [Owner.tok.injEq] at h; exact h2 (by rw [h.1])
            refine ⟨?_, setRow_other w b c arr' hcb⟩
            cases g with
            | free => simp only [Tag.R] at hq' ⊢; simp [ω', hq', qbo]
            | own s =>
              simp only [Tag.R] at hq' ⊢
              simp only [ω', hq', qbo]
              split
              · rfl
              · rw [h3 s (.inl rfl)]
            | ro s =>
              simp only [Tag.R] at hq' ⊢
              rcases hq' with h | ⟨q', h⟩
              · left; simp [ω', h, qbo]
              · right; refine ⟨q', ?_⟩
                simp only [ω', h, qbo]
                split
                · rfl
                · rw [h3 s (.inr rfl)]
          have hnewrep : Rep (w.setRow b arr') ω' (Tag.own t).R (.sl k (es.set i (blitD ds j ys))) (.slice (some ⟨b, off, none⟩) es.length cap) := by
            have hlen : (es.set i (blitD ds j ys)).length = es.length := List.length_set
            have hkd : ds.length = k := hc2
            have hcell : ∀ x y d, qao (es.set i (blitD ds j ys)) x y = some d → ∃ u, arr'[off + x * k + y]? = some u ∧ Rep (w.setRow b arr') ω' (fun q => (Tag.own t).R ((x, y) :: q)) d u := by
              intro x y d hdx
              rw [qnW hil] at hdx
              by_cases hx : x = i
              · subst hx
                rw [if_pos rfl, qnX (by omega)] at hdx
                split at hdx
                · rename_i hy
                  obtain ⟨l, hl1, hl2⟩ := hyg _ _ hdx
                  obtain ⟨u, hu1, hu2⟩ := hs.2 _ _ hl1
                  rcases hl2 with hl2 | ⟨a, k2, es2, m, rfl, hm, hai, rfl⟩
                  case inr =>
                    have hax := hisi a hai
                    subst hax
                    obtain ⟨u0, hu0, hr0, _⟩ := hu2
                    have e0 : u = u0 := by
                      cases m with
                      | at_ x y => cases hm
                      | here => exact hu0
                      | away => exact hu0
                    subst e0
                    refine ⟨u, ?_, hr0.frame fun c q hc hq' => ?_⟩
                    · rw [hget, if_pos (by omega), ← hu1]
                      congr 1; omega
                    · rw [show j + (y - j) = y by omega] at hq'
                      exact hlow c _ _ hc hq'
                  refine ⟨u, ?_, ?_⟩
                  · rw [hget, if_pos (by omega), ← hu1]
                    congr 1; omega
                  · have hmem : ∀ s, l.tok = some s → ms.at s = some (x, y) ∧ s ≠ t := by
                      intro s hs'
                      have := qhC x xs j (y - j) l s hl1 hs'
                      rw [show j + (y - j) = y by omega] at this
                      obtain ⟨h1, h2⟩ := qkh hc4 this
                      exact ⟨h2, h1⟩
                    cases l with
                    | und => cases hl2
                    | v z =>
                      simp only [Leaf.toD] at hl2
                      split at hl2
                      · simp only [Option.some.injEq] at hl2; subst hl2
                        have : u = z := hu2
                        subst this
                        exact .v _ _ ‹_›
                      · cases hl2
                    | sb c =>
                      simp only [Leaf.toD, Option.some.injEq] at hl2; subst hl2
                      have : u = .bool c := hu2
                      subst this
                      exact .v _ _ rfl
                    | ptr => cases hl2
                    | ep => cases hl2
                    | rp => cases hl2
                    | fd => cases hl2
                    | clo => cases hl2
                    | sn => cases hl2
                    | np => cases hl2
                    | sl g k2 es2 =>
                      cases g with
                      | free => cases hl2
                      | ro s => cases hl2
                      | own s =>
                        simp only [Leaf.toD, Option.some.injEq] at hl2; subst hl2
                        obtain ⟨h1, h2⟩ := hmem s rfl
                        refine hu2.1.frame fun c q hc hq' => ?_
                        simp only [Tag.R] at hq' ⊢
                        refine ⟨?_, setRow_other w b c arr' fun e => ?_⟩
                        · simp only [ω', hq', qbo]
                          rw [if_neg h2, h1]
                        · rw [e, hR'] at hq'
                          simp only [Owner.tok.injEq] at hq'
                          exact h2 hq'.1.symm
                · rename_i hy
                  have hcd : qao es x y = some d := by simp [qao, hds, hdx]
                  refine ⟨us x y, ?_, (hd x y d hcd).frame fun c q hc hq' => hlow c _ _ hc hq'⟩
                  rw [hget, if_neg (by omega), hu x y d hcd]
              · rw [if_neg hx] at hdx
                obtain ⟨hxl, hyl'⟩ := qe4 hkk hdx
                refine ⟨us x y, ?_, (hd x y d hdx).frame fun c q hc hq' => hlow c _ _ hc hq'⟩
                rw [hget, if_neg ?_, hu x y d hdx]
                rcases Nat.lt_or_gt_of_ne hx with h | h
                · have : (x + 1) * k ≤ i * k := Nat.mul_le_mul_right _ h
                  rw [Nat.add_mul] at this; omega
                · have : (i + 1) * k ≤ x * k := Nat.mul_le_mul_right _ h
                  rw [Nat.add_mul] at this; omega
            have hrow2 : ∀ e ∈ es.set i (blitD ds j ys), e.length = k := by
              intro e he
              rcases List.mem_or_eq_of_mem_set he with h | rfl
              · exact hkk e h
              · rw [qnY (by omega)]; exact hkd
            have := Rep.row (w := w.setRow b arr') (ω := ω') (Tag.own t).R k (es.set i (blitD ds j ys)) b off cap arr' tyb (0, 0) (fun x y => arr'.getD (off + x * k + y) undef) hhs (hω b [] hblt hR') (by omega) (by omega) hrow2
              (fun x y d hd' => by obtain ⟨u, h1, _⟩ := hcell x y d hd'; rw [h1]; simp [Array.getD_eq_getD_getElem?, h1])
              (fun x y d hd' => by obtain ⟨u, h1, h2⟩ := hcell x y d hd'; have : arr'.getD (off + x * k + y) undef = u := by simp [Array.getD_eq_getD_getElem?, h1]
                                   rw [this]; exact h2)
            rw [hlen] at this
            exact this
          have hsat : ∀ l v, Sat w ω τ l v → Sat (w.setRow b arr') ω' τ (qeu t ms k (es.set i (blitD ds j ys)) l) v := by
            intro l v hs'
            have hms : ∀ s, ¬ (ms.at s).isSome = true → ms.at s = none := fun s h => by
              cases e : ms.at s with
              | none => rfl
              | some p => simp [e] at h
            cases l with
            | und => exact trivial
            | v x => exact hs'
            | sb c => exact hs'
            | ptr id o =>
              obtain ⟨c, hc, e⟩ := hs'
              exact ⟨c, qfJ.2 hc, e⟩
            | sn => exact trivial
            | np => exact trivial
            | clo f ids =>
              obtain ⟨bs, e, hn, hi⟩ := hs'
              refine ⟨bs, e, hn, fun i id hid => ?_⟩
              obtain ⟨b, h1, h2⟩ := hi i id hid
              exact ⟨b, h1, qfJ.2 h2⟩
            | rp ds' o =>
              obtain ⟨c, e, hr'⟩ := hs'
              exact ⟨c, e, hr'.frame fun c q _ hq' => hother .free c q (by simp) (by simp) (fun s h => by rcases h with h | h <;> cases h) hq'⟩
            | fd d =>
              exact Rep.frame hs' fun c q _ hq' => hother .free c q (by simp) (by simp) (fun s h => by rcases h with h | h <;> cases h) hq'
            | sl g k2 es2 =>
              cases g with
              | free => exact ⟨hs'.1.frame fun c q _ hq' => hother .free c q (by simp) (by simp) (fun s h => by rcases h with h | h <;> cases h) hq', trivial⟩
              | own s =>
                simp only [qeu]
                split
                · rename_i hst'
                  subst hst'
                  have h2 := hs'.2
                  simp only [Tag.hdr] at h2
                  rw [hh] at h2
                  simp only [Prod.mk.injEq] at h2
                  rw [← h2.2]
                  exact ⟨hnewrep, hh⟩
                · split
                  · exact trivial
                  · rename_i h1 h2
                    exact ⟨hs'.1.frame fun c q _ hq' => hother (.own s) c q (by simpa using h1) (by simp) (fun s' h => by
                      rcases h with h | h
                      · simp only [Tag.own.injEq] at h; subst h; exact hms _ h2
                      · cases h) hq', hs'.2⟩
              | ro s =>
                simp only [qeu]
                split
                · exact trivial
                · split
                  · exact trivial
                  · rename_i h1 h2
                    exact ⟨hs'.1.frame fun c q _ hq' => hother (.ro s) c q (by simp) (by simpa using h1) (fun s' h => by
                      rcases h with h | h
                      · cases h
                      · simp only [Tag.ro.injEq] at h; subst h; exact hms _ h2) hq', trivial⟩
            | ep g k2 es2 i2 j2 =>
              obtain ⟨b2, off2, cap2, e, hi2, hr2, hh2⟩ := hs'
              cases g with
              | free => exact ⟨b2, off2, cap2, e, hi2, hr2.frame fun c q _ hq' => hother .free c q (by simp) (by simp) (fun s h => by rcases h with h | h <;> cases h) hq', trivial⟩
              | own s =>
                simp only [qeu]
                split
                · rename_i hst'
                  subst hst'
                  simp only [Tag.hdr] at hh2
                  rw [hh] at hh2
                  simp only [Prod.mk.injEq, Value.slice.injEq, Option.some.injEq, Addr.mk.injEq] at hh2
                  obtain ⟨rfl, ⟨rfl, rfl, _⟩, hl2, rfl⟩ := hh2
                  refine ⟨b, off, cap, e, by simp; omega, ?_, ?_⟩
                  · rw [List.length_set]; exact hnewrep
                  · rw [List.length_set]; exact hh
                · split
                  · exact trivial
                  · rename_i h1 h2
                    exact ⟨b2, off2, cap2, e, hi2, hr2.frame fun c q _ hq' => hother (.own s) c q (by simpa using h1) (by simp) (fun s' h => by
                      rcases h with h | h
                      · simp only [Tag.own.injEq] at h; subst h; exact hms _ h2
                      · cases h) hq', hh2⟩
              | ro s =>
                simp only [qeu]
                split
                · exact trivial
                · split
                  · exact trivial
                  · rename_i h1 h2
                    exact ⟨b2, off2, cap2, e, hi2, hr2.frame fun c q _ hq' => hother (.ro s) c q (by simp) (by simpa using h1) (fun s' h => by
                      rcases h with h | h
                      · cases h
                      · simp only [Tag.ro.injEq] at h; subst h; exact hms _ h2) hq', trivial⟩
          refine ⟨w.setRow b arr', ?_, ω', τ, hrel.turn _ hsat ?_ ?_ ?_ ?_⟩
          · simp only [Instr.storeAt, Instr.sureAddr, Sem.run_bind, Sem.run_pure, Result.andThen_ok, storeVar, sizeOf, typeInfo, run_program, e2]
            have hsz2 : ¬ (v.cells.size ≠ inf.size) := by simp; omega
            rw [if_neg hsz2]
            exact hst
          · exact hrel.below.setRow hown1 arr'
          · intro c hcb
            have : ω c ≠ .imm := fun e => hcb (qnV.2 e)
            obtain ⟨h3, arr2, ty2, h4⟩ := hrel.owned c this
            by_cases hcb' : c = b
            · subst hcb'; exact ⟨h3, arr', tyb, hhs⟩
            · exact ⟨h3, arr2, ty2, (setRow_other w b c arr' hcb').trans h4⟩
          · intro id c hcb
            exact ⟨qfJ.2 hcb, setRow_other w b c arr' fun e => by rw [e, hR'] at hcb; cases hcb⟩
          · intro id c hcb; exact qfJ.1 hcb
      · cases h
    · cases h
  · cases h
end Go.Sx
namespace Go.Sx
open Go.RowKit
def qbg (w : World) (d : D) (y : Value) : Prop := Rep w (fun _ => .imm) Tag.free.R d y
def ArgOk (w : World) : AD → Value → Prop
  | .one d, y => qbg w d y
  | .agg ds, y => ∃ vs : Array Value, y = .agg vs ∧ vs.size = ds.length ∧ ∀ (i : Nat) (d : D), ds[i]? = some d → ∃ u, vs[i]? = some u ∧ qbg w d u
def qfK (w : World) (ads : List AD) (vs : Array Value) : Prop := vs.size = ads.length ∧ ∀ (i : Nat) (ad : AD), ads[i]? = some ad → ∃ v, vs[i]? = some v ∧ ArgOk w ad v
def qcM (w : World) (ω : Own) (r : Nat) : AD → Value → Prop
  | .one d, y => Rep w ω (Tag.own (100 * r)).R d y
  | .agg ds, y => ∃ vs : Array Value, y = .agg vs ∧ vs.size = ds.length ∧ ∀ (j : Nat) (d : D), ds[j]? = some d → ∃ u, vs[j]? = some u ∧ Rep w ω (Tag.own (100 * r + j)).R d u
def qb7 (w : World) (ω : Own) (rs : List AD) (v : Value) : Prop :=
  match rs with
  | [ad] => qcM w ω 0 ad v
  | rs => ∃ vs : Array Value, v = .tuple vs ∧ vs.size = rs.length ∧ ∀ (r : Nat) (ad : AD), rs[r]? = some ad → ∃ y, vs[r]? = some y ∧ qcM w ω r ad y
def ResOk (w0 w : World) (rs : List AD) (v : Value) : Prop :=
  ∃ ω : Own, (∀ b, b < w0.heap.size → ω b = .imm) ∧ (∀ b, ω b ≠ .imm → (∃ t q, ω b = .tok t q) ∧ ∃ arr ty, w.heap[b]? = some (.cells arr ty (0, 0))) ∧ qb7 w ω rs v
def Ret (P : Program) (f : FuncId) (args rs : List AD) : Prop :=
  ∀ (w : World) (vs : Array Value), qfK w args vs → Calls P f vs w fun e w' => ∃ v, e = .returned v ∧ Blw w.heap.size w w' ∧ ResOk w w' rs v
def Leaf.argD0 : Leaf → Option D
  | .v x => if x.oneCell' then some (.v x) else none
  | .sb c => some (.v (.bool c))
  | .sl _ k es => some (.sl k es)
  | .rp ds off => if off = 0 then some (.ptr ds) else none
  | .fd d => some d
  | .sn _ _ _ k es .here => some (.sl k es)
  | .sn _ _ _ k es .away => some (.sl k es)
  | _ => none
abbrev Boxes := List (Nat × List Leaf)
def boxD (bs : Boxes) (id : Nat) : Option D := (qaz id bs).bind fun ls => (ls.mapM Leaf.argD0).map .ptr
def Leaf.argD (bs : Boxes) : Leaf → Option D
  | .ptr id off => if off = 0 then boxD bs id else none
  | .clo g ids => (ids.mapM (boxD bs)).map (.cl g)
  | l => l.argD0
def AL.argD (bs : Boxes) : AL → Option AD
  | .one l => (l.argD bs).map .one
  | .agg ls => (ls.mapM (Leaf.argD bs)).map .agg
def PV.argD (bs : Boxes) : PV → Option AD
  | .al a => a.argD bs
  | _ => none
theorem Rep.free {w : World} {ω : Own} {R : List (Nat × Nat) → Owner → Prop} {d : D} {y : Value} (h : Rep w ω R d y) : qbg w d y :=
  h.frame fun _ _ _ _ => ⟨rfl, rfl⟩
theorem Leaf.argD0_sat {w : World} {ω : Own} {τ : Nat → Nat × Value} {l : Leaf} {d : D} {y : Value} (h : l.argD0 = some d) (hs : Sat w ω τ l y) : qbg w d y := by
  cases l with
  | und => cases h
  | v x =>
    simp only [Leaf.argD0] at h
    split at h
    · simp only [Option.some.injEq] at h; subst h
      have : y = x := hs
      subst this
      exact .v _ _ ‹_›
    · cases h
  | sb c =>
    simp only [Leaf.argD0, Option.some.injEq] at h; subst h
    have : y = .bool c := hs
    subst this
    exact .v _ _ rfl
  | sl t k es => simp only [Leaf.argD0, Option.some.injEq] at h; subst h; exact hs.1.free
  | ptr => cases h
  | ep => cases h
  | clo => cases h
  | np => cases h
  | rp ds off =>
    simp only [Leaf.argD0] at h
    split at h
    · rename_i ho
      subst ho
      simp only [Option.some.injEq] at h; subst h
      obtain ⟨b, rfl, hr⟩ := hs
      exact hr.free
    · cases h
  | fd d' => simp only [Leaf.argD0, Option.some.injEq] at h; subst h; exact Rep.free hs
  | sn t i j k es m =>
    obtain ⟨u, hu, hr, _⟩ := hs
    cases m with
    | at_ x z => cases h
    | here => simp only [Leaf.argD0, Option.some.injEq] at h; subst h; have : y = u := hu; subst this; exact hr.free
    | away => simp only [Leaf.argD0, Option.some.injEq] at h; subst h; have : y = u := hu; subst this; exact hr.free
def qdn (w : World) (ω : Own) (τ : Nat → Nat × Value) (bs : Boxes) : Prop := ∀ id ls, qaz id bs = some ls → BoxOk w ω τ id ls
theorem qkk {w : World} {ω : Own} {τ : Nat → Nat × Value} {bs : Boxes} (hb : qdn w ω τ bs) {id b : Nat} {d : D} (h : boxD bs id = some d) (ho : ω b = .box id) : qbg w d (ptrTo b) := by
  unfold boxD at h
  cases e : qaz id bs with
  | none => simp [e] at h
  | some ls =>
    simp only [e, Option.bind_some, Option.map_eq_some_iff] at h
    obtain ⟨ds, h1, rfl⟩ := h
    obtain ⟨b', arr, ty, hb', hu, hh, hs⟩ := hb id ls e
    have := hu b ho
    subst this
    obtain ⟨h2, h3⟩ := qbW h1
    have cell : ∀ j d, ds[j]? = some d → arr[j]? = some (arr.getD j undef) ∧ qbg w d (arr.getD j undef) := by
      intro j d hd
      obtain ⟨l, hl, hl2⟩ := h3 j d hd
      obtain ⟨u, hu1, hu2⟩ := hs.2 j l hl
      have e2 : arr.getD j undef = u := by simp [Array.getD_eq_getD_getElem?, hu1]
      rw [e2]
      exact ⟨hu1, Leaf.argD0_sat hl2 hu2⟩
    exact Rep.ptr _ ds b arr ty (0, 0) (fun j => arr.getD j undef) hh rfl (by have := hs.1; omega) (fun j d hd => (cell j d hd).1) (fun j d hd => (cell j d hd).2.frame fun _ _ _ _ => ⟨rfl, rfl⟩)
theorem Leaf.argD_sat {w : World} {ω : Own} {τ : Nat → Nat × Value} {bs : Boxes} (hb : qdn w ω τ bs) {l : Leaf} {d : D} {y : Value} (h : l.argD bs = some d) (hs : Sat w ω τ l y) : qbg w d y := by
  unfold Leaf.argD at h
  split at h
  · rename_i id off
    split at h
    · rename_i ho
      subst ho
      obtain ⟨b, h1, rfl⟩ := hs
      exact qkk hb h h1
    · cases h
  · rename_i g ids
    rw [Option.map_eq_some_iff] at h
    obtain ⟨ds, h1, rfl⟩ := h
    obtain ⟨bl, rfl, hn, hi⟩ := hs
    obtain ⟨h2, h3⟩ := qbW h1
    have cell : ∀ j d, ds[j]? = some d → (bl.map ptrTo).toArray[j]? = some ((bl.map ptrTo).toArray.getD j undef) ∧ qbg w d ((bl.map ptrTo).toArray.getD j undef) := by
      intro j d hd
      obtain ⟨id, hid, hd2⟩ := h3 j d hd
      obtain ⟨b, hb1, hb2⟩ := hi j id hid
      have e1 : (bl.map ptrTo).toArray[j]? = some (ptrTo b) := by simp [hb1]
      have e2 : (bl.map ptrTo).toArray.getD j undef = ptrTo b := by rw [Array.getD_eq_getD_getElem?, e1]; rfl
      rw [e2]
      exact ⟨e1, qkk hb hd2 hb2⟩
    exact Rep.cl _ g ds _ (fun j => (bl.map ptrTo).toArray.getD j undef) (by simp; omega) (fun j d hd => (cell j d hd).1) (fun j d hd => (cell j d hd).2.frame fun _ _ _ _ => ⟨rfl, rfl⟩)
  · exact Leaf.argD0_sat h hs
theorem PV.argD_sat {w : World} {ω : Own} {τ : Nat → Nat × Value} {bs : Boxes} (hb : qdn w ω τ bs) {p : PV} {ad : AD} {y : Value} (h : p.argD bs = some ad) (hs : SatP (Sat w ω τ) p y) : ArgOk w ad y := by
  cases p with
  | tup as => cases h
  | al a =>
    cases a with
    | one l =>
      simp only [PV.argD, AL.argD, Option.map_eq_some_iff] at h
      obtain ⟨d, h1, rfl⟩ := h
      exact Leaf.argD_sat hb h1 hs
    | agg ls =>
      simp only [PV.argD, AL.argD, Option.map_eq_some_iff] at h
      obtain ⟨ds, h1, rfl⟩ := h
      obtain ⟨h2, h3⟩ := qbW h1
      obtain ⟨vs, rfl, hn, hv⟩ := hs
      refine ⟨vs, rfl, by omega, fun i d hd => ?_⟩
      obtain ⟨l, hl, hl2⟩ := h3 i d hd
      obtain ⟨u, hu, hu2⟩ := hv i l hl
      exact ⟨u, hu, Leaf.argD_sat hb hl2 hu2⟩
def qbk (P : Program) (g : FuncId) : Bool :=
  match P.funcs[g]? with
  | some fn => !(fn.name == "runtime.NumGoroutine") && !fn.body.isNone
  | none => false
def D.resLeaf (t : Nat) : D → Leaf
  | .v (.bool c) => .sb c
  | .v x => .v x
  | .sl k es => .sl (.own t) k es
  | .ptr _ => .und
  | .cl _ _ => .und
def qc1 (t : Nat) : Nat → List D → List Leaf
  | _, [] => []
  | j, d :: ds => d.resLeaf (t + j) :: qc1 t (j + 1) ds
theorem qhK (t : Nat) : ∀ (ds : List D) (j i : Nat), (qc1 t j ds)[i]? = (ds[i]?).map (D.resLeaf (t + (j + i)))
  | [], _, _ => by simp [qc1]
  | d :: ds, j, 0 => by simp [qc1]
  | d :: ds, j, i + 1 => by
    simp only [qc1, List.getElem?_cons_succ, qhK t ds (j + 1) i]
    rw [show j + 1 + i = j + (i + 1) by omega]
theorem qhL (t : Nat) : ∀ (ds : List D) (j : Nat), (qc1 t j ds).length = ds.length
  | [], _ => rfl
  | d :: ds, j => by simp [qc1, qhL t ds (j + 1)]
def AD.res (t : Nat) : AD → AL
  | .one d => .one (d.resLeaf t)
  | .agg ds => .agg (qc1 t 0 ds)
def qb8 (t : Nat) : Nat → List AD → List AL
  | _, [] => []
  | r, a :: as => a.res (t + 100 * r) :: qb8 t (r + 1) as
theorem qhM (t : Nat) : ∀ (as : List AD) (r i : Nat), (qb8 t r as)[i]? = (as[i]?).map (AD.res (t + 100 * (r + i)))
  | [], _, _ => by simp [qb8]
  | d :: ds, j, 0 => by simp [qb8]
  | d :: ds, j, i + 1 => by
    simp only [qb8, List.getElem?_cons_succ, qhM t ds (j + 1) i]
    rw [show j + 1 + i = j + (i + 1) by omega]
theorem qhN (t : Nat) : ∀ (as : List AD) (r : Nat), (qb8 t r as).length = as.length
  | [], _ => rfl
  | d :: ds, j => by simp [qb8, qhN t ds (j + 1)]
def resPV (t : Nat) : List AD → PV
  | [a] => .al (a.res t)
  | as => .tup (qb8 t 0 as)
def qc2 (rs : List AD) : Bool := rs.length < 100 && rs.all fun | .one _ => true | .agg ds => ds.length < 100
def qaY (t : Nat) : Tag → Option Tag
  | .free => some .free
  | .own s => if t ≤ s ∧ s < t + 10000 then some .free else some (.own s)
  | .ro s => if t ≤ s ∧ s < t + 10000 then some .free else some (.ro s)
def qbx (t : Nat) : Owner → Owner
  | .tok s q => if t ≤ s ∧ s < t + 10000 then .imm else .tok s q
  | o => o
def qkl (t : Nat) : Owner → Owner
  | .tok s q => .tok (t + s) q
  | _ => .imm
def AD.cell (j : Nat) : AD → Option D
  | .one d => if j = 0 then some d else none
  | .agg ds => ds[j]?
def hdrK (rs : List AD) (n : Nat) : Nat :=
  match (rs[n / 100]?).bind (AD.cell (n % 100)) with
  | some (.sl k _) => k
  | _ => 0
def hdrV (rs : List AD) (v : Value) (n : Nat) : Value :=
  match rs with
  | [_] => v.cells.getD (n % 100) undef
  | _ => match v with
    | .tuple vs => (vs.getD (n / 100) undef).cells.getD (n % 100) undef
    | _ => undef
def St.cal (st : St) (t : Nat) : St := st.map (Leaf.re (qaY t) fun _ => true)
theorem RelAt.called {w0 : Base} {st : St} {a : Act} {w w' : World} {ω : Own} {τ : Nat → Nat × Value} (hrel : RelAt w0 st a w ω τ) (t : Nat) {rs : List AD} {v : Value}
    (hfit : qc2 rs = true) (htg : t + 10000 ≤ giv) (hb : Blw w.heap.size w w') (hres : ResOk w w' rs v) :
    ∃ ω' τ', RelAt w0 (st.cal t) a w' ω' τ' ∧ SatP (Sat w' ω' τ') (resPV t rs) v := by
  obtain ⟨ωc, hc1, hc2, hc3⟩ := hres
  let ω' : Own := fun b => if b < w.heap.size then qbx t (ω b) else qkl t (ωc b)
  let τ' : Nat → Nat × Value := fun s => if t ≤ s ∧ s < t + 10000 then (hdrK rs (s - t), hdrV rs v (s - t)) else τ s
  have hold : ∀ b, b < w.heap.size → ω' b = qbx t (ω b) := fun b hb => by simp only [ω']; rw [if_pos hb]
  have hnew : ∀ b, ¬ b < w.heap.size → ω' b = qkl t (ωc b) := fun b hb => by simp only [ω']; rw [if_neg hb]
  have ev : Evolve w ω τ w' ω' τ' (qaY t) (fun _ => true) := by
    refine ⟨?_, ?_, ?_, rfl⟩
    · intro g g' b q hg hlt hq
      refine ⟨?_, hb.block b hlt⟩
      rw [hold b hlt]
      cases g with
      | free => simp only [qaY, Option.some.injEq] at hg; subst hg; simp only [Tag.R] at hq ⊢; rw [hq]; rfl
      | own s =>
        simp only [Tag.R] at hq
        simp only [qaY] at hg
        rw [hq]
        simp only [qbx]
        split at hg
        · simp only [Option.some.injEq] at hg; subst hg; rw [if_pos ‹_›]; rfl
        · simp only [Option.some.injEq] at hg; subst hg; rw [if_neg ‹_›]; rfl
      | ro s =>
        simp only [Tag.R] at hq
        simp only [qaY] at hg
        split at hg
        · simp only [Option.some.injEq] at hg; subst hg
          rcases hq with h | ⟨q', h⟩
          · rw [h]; rfl
          · rw [h]; simp only [qbx]; rw [if_pos ‹_›]; rfl
        · simp only [Option.some.injEq] at hg; subst hg
          rcases hq with h | ⟨q', h⟩
          · rw [h]; exact .inl rfl
          · rw [h]; simp only [qbx]; rw [if_neg ‹_›]; exact .inr ⟨q', rfl⟩
    · intro g g' y hg hy
      cases g with
      | free => simp only [qaY, Option.some.injEq] at hg; subst hg; exact trivial
      | own s =>
        simp only [qaY] at hg
        split at hg
        · simp only [Option.some.injEq] at hg; subst hg; exact trivial
        · simp only [Option.some.injEq] at hg; subst hg
          simp only [Tag.hdr, τ'] at hy ⊢
          rw [if_neg ‹_›]; exact hy
      | ro s =>
        simp only [qaY] at hg
        split at hg
        · simp only [Option.some.injEq] at hg; subst hg; exact trivial
        · simp only [Option.some.injEq] at hg; subst hg; exact trivial
    · intro id b _ hbx
      have hlt := hrel.owned.lt (b := b) (by simp [hbx])
      rw [hold b hlt, hbx]; rfl
  have cell : ∀ (n : Nat) (d : D) (u : Value), n < 10000 → hdrV rs v n = u → (∀ k es, d = .sl k es → hdrK rs n = k) → Rep w' ωc (Tag.own n).R d u → Sat w' ω' τ' (d.resLeaf (t + n)) u := by
    intro n d u hn hv hk hr
    cases d with
    | v x =>
      have e : u = x := by cases hr; rfl
      subst e
      unfold D.resLeaf
      split
      · rename_i h; cases h; exact rfl
      · rename_i h; cases h; exact rfl
      · rename_i h; cases h
      · exact trivial
      · exact trivial
    | ptr ds => exact trivial
    | cl g caps => exact trivial
    | sl k es =>
      refine ⟨hr.frame fun b q hlt hq => ⟨?_, rfl⟩, ?_⟩
      · simp only [Tag.R] at hq ⊢
        have : ¬ b < w.heap.size := fun h => by have := hc1 b h; rw [this] at hq; cases hq
        rw [hnew b this, hq]; rfl
      · simp only [Tag.hdr, τ']
        rw [if_pos (by omega), show t + n - t = n by omega, hv, hk k es rfl]
  have cellA : ∀ (r : Nat) (ad : AD) (y : Value), r < 100 → (∀ ds, ad = .agg ds → ds.length < 100) → rs[r]? = some ad → (∀ j, j < 100 → hdrV rs v (100 * r + j) = y.cells.getD j undef) → qcM w' ωc r ad y → SatA (Sat w' ω' τ') (ad.res (t + 100 * r)) y := by
    intro r ad y hr hds hrs hv hcr
    have hkk : ∀ j, j < 100 → hdrK rs (100 * r + j) = (match AD.cell j ad with | some (.sl k _) => k | _ => 0) := by
      intro j hj
      unfold hdrK
      rw [show (100 * r + j) / 100 = r by omega, show (100 * r + j) % 100 = j by omega, hrs]
      rfl
    cases ad with
    | one d =>
      have h1 := hcr.oneCell
      have h2 := hv 0 (by omega)
      rw [qfC h1] at h2
      have := cell (100 * r) d y (by omega) (by simpa using h2) (fun k es e => by
        have := hkk 0 (by omega)
        rw [Nat.add_zero] at this
        rw [this, e]; rfl) hcr
      exact this
    | agg ds =>
      obtain ⟨vs, rfl, hn, hj⟩ := hcr
      refine ⟨vs, rfl, by rw [qhL]; exact hn, fun j l hl => ?_⟩
      rw [qhK, Option.map_eq_some_iff] at hl
      obtain ⟨d, hd, rfl⟩ := hl
      obtain ⟨u, hu, hru⟩ := hj j d hd
      have hjl : j < 100 := by
        have := (List.getElem?_eq_some_iff.1 hd).1
        have := hds ds rfl
        omega
      refine ⟨u, hu, ?_⟩
      have := cell (100 * r + j) d u (by omega) (by rw [hv j hjl]; simp [Value.cells, Array.getD_eq_getD_getElem?, hu]) (fun k es e => by
        rw [hkk j hjl]
        simp only [AD.cell, hd, e]) hru
      rw [show t + 100 * r + (0 + j) = t + (100 * r + j) by omega]
      exact this
  simp only [qc2, Bool.and_eq_true, decide_eq_true_eq] at hfit
  have hds : ∀ (r : Nat) (ad : AD), rs[r]? = some ad → ∀ ds, ad = .agg ds → ds.length < 100 := by
    intro r ad hr ds e
    have := List.all_eq_true.1 hfit.2 ad (List.mem_of_getElem? hr)
    subst e
    simpa using this
  refine ⟨ω', τ', hrel.turn _ ev.sat (hrel.below.next hb) ?_ ?_ ?_ (fun s hs => by simp only [τ']; rw [if_neg (by omega)]), ?_⟩
  · intro b hbi
    by_cases hlt : b < w.heap.size
    · rw [hold b hlt] at hbi
      have h2 : ω b ≠ .imm := fun e => by rw [e] at hbi; exact hbi rfl
      obtain ⟨h3, arr, ty, h4⟩ := hrel.owned b h2
      exact ⟨h3, arr, ty, (hb.block b hlt).trans h4⟩
    · rw [hnew b hlt] at hbi
      have h2 : ωc b ≠ .imm := fun e => by rw [e] at hbi; exact hbi rfl
      obtain ⟨_, arr, ty, h4⟩ := hc2 b h2
      exact ⟨.inl (by have := hrel.below.size; omega), arr, ty, h4⟩
  · intro id b hbx
    have hlt := hrel.owned.lt (b := b) (by simp [hbx])
    exact ⟨ev.box id b rfl hbx, hb.block b hlt⟩
  · intro id b hbx
    by_cases hlt : b < w.heap.size
    · rw [hold b hlt] at hbx
      cases e : ω b with
      | imm => rw [e] at hbx; cases hbx
      | box i => rw [e] at hbx; exact hbx
      | tok s q => rw [e] at hbx; simp only [qbx] at hbx; split at hbx <;> cases hbx
    · rw [hnew b hlt] at hbx
      cases e : ωc b <;> (rw [e] at hbx; cases hbx)
  · cases rs with
    | nil =>
      obtain ⟨vs, rfl, hn, _⟩ := hc3
      exact ⟨vs, rfl, hn, fun i a ha => by simp [qb8] at ha⟩
    | cons ad rest =>
      cases rest with
      | nil =>
        have := cellA 0 ad v (by omega) (hds 0 ad rfl) rfl (fun j hj => by
          unfold hdrV
          simp only [Nat.mul_zero, Nat.zero_add]
          rw [Nat.mod_eq_of_lt hj]) hc3
        exact this
      | cons ad2 rest =>
        obtain ⟨vs, rfl, hn, hv⟩ := hc3
        refine ⟨vs, rfl, by rw [qhN]; exact hn, fun i a ha => ?_⟩
        rw [qhM, Option.map_eq_some_iff] at ha
        obtain ⟨ad', h1, rfl⟩ := ha
        obtain ⟨y, hy, hcy⟩ := hv i ad' h1
        have hil : i < 100 := by
          have := (List.getElem?_eq_some_iff.1 h1).1
          omega
        refine ⟨y, hy, ?_⟩
        have := cellA i ad' y hil (hds i ad' h1) h1 (fun j hj => by
          unfold hdrV
          simp only
          rw [show (100 * i + j) / 100 = i by omega, show (100 * i + j) % 100 = j by omega]
          simp [Array.getD_eq_getD_getElem?, hy]) hcy
        rw [Nat.zero_add]
        exact this
end Go.Sx
