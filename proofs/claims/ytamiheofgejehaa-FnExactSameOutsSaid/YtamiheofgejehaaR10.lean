/- append and stores into elements, as steps. -/
import Derived.Test.YtamiheofgejehaaR9
set_option linter.unusedVariables false
set_option linter.unusedSimpArgs false
namespace Go.Sx
open Go.RowKit

def Flat (es : List (List D)) : Prop := ∀ e ∈ es, ∀ d ∈ e, ∃ x, d = .v x

theorem mem_of_cellAt {es : List (List D)} {i j : Nat} {d : D} (h : cellAt es i j = some d) : ∃ e ∈ es, d ∈ e := by
  unfold cellAt at h
  cases hx : es[i]? with
  | none => simp [hx] at h
  | some e => rw [hx, Option.bind_some] at h; exact ⟨e, List.mem_of_getElem? hx, List.mem_of_getElem? h⟩

theorem Src.empty {P : Program} {w : World} {ω : Own} {k : Nat} {mv : Option Nat} (a : Option Addr) : Src P w ω k [] mv (.slice a 0 0) [] where
  len := by simp
  rows := fun _ h => (by cases h)
  one := fun _ h => (by cases h)
  cell := fun i j d hd => by simp [cellAt] at hd
  shape := .inl ⟨⟨a, rfl⟩, rfl⟩

theorem Src.of {P : Program} {w : World} {ω : Own} {R : List (Nat × Nat) → Owner → Prop} {k : Nat} {es2 : List (List D)} {mv : Option Nat} {y : Value} (h : Rep w ω R (.sl k es2) y) (hk0 : 0 < k)
    (hc : Flat es2 ∨ ∃ s, mv = some s ∧ R = (Tag.own s).R) : ∃ news, Src P w ω k es2 mv y news := by
  cases h with
  | nil => exact ⟨[], Src.empty _⟩
  | row R k es b off cap arr ty fr us hb hR hcap hs hkk hu hd =>
    have hmul : es2.length * k ≤ cap * k := Nat.mul_le_mul_right _ hcap
    have hget : ∀ x : Nat, ((arr.toList.drop off).take (es2.length * k))[x]? = if x < es2.length * k then arr[off + x]? else none := by
      intro x
      rw [List.getElem?_take]
      split
      · rw [List.getElem?_drop]; simp
      · rfl
    have hcell : ∀ i j d, cellAt es2 i j = some d → ((arr.toList.drop off).take (es2.length * k))[i * k + j]? = some (us i j) := by
      intro i j d hd'
      obtain ⟨hi, hj⟩ := cellAt_lt hkk hd'
      have : (i + 1) * k ≤ es2.length * k := Nat.mul_le_mul_right _ hi
      rw [Nat.add_mul] at this
      rw [hget, if_pos (by omega), ← hu i j d hd', Nat.add_assoc]
    refine ⟨(arr.toList.drop off).take (es2.length * k), by simp; omega, hkk, ?_, ?_, .inr ⟨b, off, cap, rfl, ?_⟩⟩
    · intro u hu'
      obtain ⟨x, hx⟩ := List.mem_iff_getElem?.1 hu'
      have hlt : x < es2.length * k := by
        have := (List.getElem?_eq_some_iff.1 hx).1
        simp at this; omega
      have hxe : x = (x / k) * k + x % k := by rw [Nat.mul_comm]; exact (Nat.div_add_mod x k).symm
      have hq : x / k < es2.length := Nat.div_lt_of_lt_mul (by rw [Nat.mul_comm]; exact hlt)
      obtain ⟨d, hd'⟩ := cellAt_of_lt hkk hq (Nat.mod_lt x hk0)
      have h1 := hcell _ _ _ hd'
      rw [← hxe, hx] at h1
      rw [Option.some.inj h1]
      exact (hd _ _ _ hd').oneCell
    · intro i j d hd'
      refine ⟨us i j, hcell i j d hd', ?_⟩
      rcases hc with hf | ⟨s, hs1, hs2⟩
      · obtain ⟨e, he, hde⟩ := mem_of_cellAt hd'
        obtain ⟨x, rfl⟩ := hf e he d hde
        have := hd i j _ hd'
        cases h3 : us i j <;> (rw [h3] at this; cases this; exact .inl ⟨_, rfl, rfl⟩)
      · subst hs2
        exact .inr ⟨s, hs1, hd i j d hd'⟩
    · intro j v hv
      rw [add_off, cell_of_row w b (off + j) arr ty fr hb]
      rw [hget] at hv
      split at hv
      · exact hv
      · cases hv

/-- A nil slice is a tree of its own. -/
theorem RelAt.nilTok {w0 : World} {st : St} {a : Act} {w : World} {ω : Own} {τ : Nat → Nat × Value} (h : RelAt w0 st a w ω τ) (t k : Nat) :
    ∃ ω', RelAt w0 (st.newTok t []) a w ω' (setHdr τ t k (.slice none 0 0)) ∧ Sat w ω' (setHdr τ t k (.slice none 0 0)) (.sl (.own t) k []) (.slice none 0 0) := by
  refine ⟨fun b => mvOwner t [] (ω b), h.turn _ (Evolve.sat (g := mvTag t []) (p := fun _ => true) ⟨?_, ?_, ?_⟩) h.below ?_ ?_ ?_, .nil _ _ _, by simp [Tag.hdr, setHdr]⟩
  · intro g g' b q hg _ hq
    exact ⟨mvTag_R hg hq, rfl⟩
  · intro g g' y hg hy
    cases g with
    | free => simp only [mvTag, Option.some.injEq] at hg; subst hg; exact trivial
    | own s =>
      simp only [mvTag] at hg
      split at hg
      · simp only [Option.some.injEq] at hg; subst hg; exact trivial
      · split at hg
        · cases hg
        · simp only [Option.some.injEq] at hg; subst hg
          simp only [Tag.hdr, setHdr] at hy ⊢
          rw [if_neg ‹_›]; exact hy
    | ro s =>
      simp only [mvTag] at hg
      split at hg
      · simp only [Option.some.injEq] at hg; subst hg; exact trivial
      · split at hg
        · cases hg
        · simp only [Option.some.injEq] at hg; subst hg; exact trivial
  · intro id b _ hb; exact mvOwner_box.2 hb
  · intro b hb
    exact h.owned b fun e => by simp only [e] at hb; exact hb rfl
  · intro id b hb; exact ⟨mvOwner_box.2 hb, rfl⟩
  · intro id b hb; exact mvOwner_box.1 hb

/-- What is appended. -/
def apSrc (t k : Nat) (q : PV) (ans : List Ans) : Option (List (List D) × Option Nat × List Ans × List Prop) :=
  match q.leaf, ans with
  | some (.sl (.own s) k' es2), .own :: r => if k' = k ∧ s ≠ t then some (es2, some s, r, []) else none
  | some (.sl _ k' es2), ans => if k' = k then some (es2, none, ans, [Flat es2]) else none
  | some (.v (.slice none 0 0)), ans => some ([], none, ans, [])
  | _, _ => none

theorem apSrc_ok {P : Program} {w : World} {ω : Own} {τ : Nat → Nat × Value} {t k : Nat} {q : PV} {y : Value} {ans ans' : List Ans} {es2 : List (List D)} {mv : Option Nat} {obs : List Prop} (hk0 : 0 < k)
    (hq : SatP (Sat w ω τ) q y) (h : apSrc t k q ans = some (es2, mv, ans', obs)) (ho : Obs obs) : mv ≠ some t ∧ ∃ news, Src P w ω k es2 mv y news := by
  unfold apSrc at h
  split at h
  · rename_i s k' es r e
    split at h
    · rename_i hc
      obtain ⟨rfl, hne⟩ := hc
      simp only [Option.some.injEq, Prod.mk.injEq] at h
      obtain ⟨rfl, rfl, _, _⟩ := h
      exact ⟨by simpa using hne, Src.of (PV.leaf_sat e hq).1 hk0 (.inr ⟨s, rfl, rfl⟩)⟩
    · cases h
  · rename_i g k' es e _
    split at h
    · rename_i hc
      subst hc
      simp only [Option.some.injEq, Prod.mk.injEq] at h
      obtain ⟨rfl, rfl, _, rfl⟩ := h
      exact ⟨by simp, Src.of (PV.leaf_sat e hq).1 hk0 (.inl ho.1)⟩
    · cases h
  · rename_i e
    simp only [Option.some.injEq, Prod.mk.injEq] at h
    obtain ⟨rfl, rfl, _, _⟩ := h
    have : y = .slice none 0 0 := PV.leaf_sat e hq
    subst this
    exact ⟨by simp, [], Src.empty _⟩
  · cases h

def apTok (d : Nat) (st : St) (k : Nat) (p : PV) : Option (St × Nat × List (List D)) :=
  match p.leaf with
  | some (.sl (.own t) k' es) => if k' = k then some (st, t, es) else none
  | some (.v (.slice none 0 0)) => some (st.newTok d [], d, [])
  | _ => none

def stepAppend (P : Program) (st : St) (d : Nat) (t : TypeId) (x y : Operand) (ans : List Ans) : Stepped :=
  match elemOf P t with
  | some (e, k) =>
    match P.info? e, apTok d st k (st.ev x) with
    | some i, some (st1, tk, es) =>
      match i.zero, apSrc tk k (st1.ev y) ans with
      | some z, some (es2, mv, ans', obs) =>
        if z.cells.size = k ∧ 0 < k then
          some (⟨(st1.ap tk mv).env.set d (.one (.sl (.own tk) k (es ++ es2))), (st1.ap tk mv).boxes⟩, ans', ((es.length + es2.length) * i.bytes ≤ 140737488355328) :: (es.length + es2.length ≤ 9223372036854775807) :: obs)
        else none
      | _, _ => none
    | _, _ => none
  | none => none

theorem RelAt.stepAppend {P : Program} {w0 : World} {st st' : St} {a : Act} {w : World} {ω : Own} {τ : Nat → Nat × Value} {d : Nat} {t ty : TypeId} {x y : Operand} {ans ans' : List Ans} {obs : List Prop}
    (hrel : RelAt w0 st a w ω τ) (h : Sx.stepAppend P st d t x y ans = some (st', ans', obs)) (ho : Obs obs) :
    ∃ z w', (Builtin.append_ #[t, t] ty #[a.eval x, a.eval y]).run P w = .ok z w' ∧ Rel w0 st' (a.put (some d) z) w' := by
  unfold Sx.stepAppend at h
  split at h
  · rename_i e k he
    obtain ⟨hu, i0, hi0, hs0⟩ := elemOf_spec he
    split at h
    · rename_i i st1 tk es hi htok
      rw [hi0] at hi
      have hie := Option.some.inj hi
      subst hie
      split at h
      · rename_i z es2 mv ans2 obs2 hz hsrc
        split at h
        · rename_i hc
          simp only [Option.some.injEq, Prod.mk.injEq] at h
          obtain ⟨rfl, rfl, rfl⟩ := h
          obtain ⟨o1, o2, o3⟩ := ho
          have : ∃ ω1 τ1, RelAt w0 st1 a w ω1 τ1 ∧ Sat w ω1 τ1 (.sl (.own tk) k es) (a.eval x) := by
            unfold apTok at htok
            split at htok
            · rename_i t' k' es' hl
              split at htok
              · rename_i hkk
                subst hkk
                simp only [Option.some.injEq, Prod.mk.injEq] at htok
                obtain ⟨rfl, rfl, rfl⟩ := htok
                exact ⟨ω, τ, hrel, PV.leaf_sat hl (hrel.ev x)⟩
              · cases htok
            · rename_i hl
              simp only [Option.some.injEq, Prod.mk.injEq] at htok
              obtain ⟨rfl, rfl, rfl⟩ := htok
              have : a.eval x = .slice none 0 0 := PV.leaf_sat hl (hrel.ev x)
              rw [this]
              obtain ⟨ω1, h1, h2⟩ := hrel.nilTok d k
              exact ⟨ω1, _, h1, h2⟩
            · cases htok
          obtain ⟨ω1, τ1, hr1, hx⟩ := this
          obtain ⟨hmv, news, hs⟩ := apSrc_ok (P := P) hc.2 (hr1.ev y) hsrc o3
          obtain ⟨r, w', ω', h1, h2, h3⟩ := hr1.append (P := P) (ty := ty) hx hs hmv hu hi0 hz hs0 hc.1 o1 o2
          exact ⟨r, w', h1, ω', _, h2.put (p := .one (.sl (.own tk) k (es ++ es2))) h3⟩
        · cases h
      · cases h
    · cases h
  · cases h
end Go.Sx
