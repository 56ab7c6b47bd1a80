/- The qeT ends: what is remembered grows qaF with each cell that it takes (plain laws). -/
import Derived.Test.YtialmplmfcahpaaGreatP18
import Derived.Test.YtialmplmfcahpaaGreatC6
set_option linter.unusedVariables false
set_option linter.unusedSimpArgs false
namespace Go.Proofs.YtialmplmfcahpaaGreat
open Go.Sx Go.RowKit
def qeS (op ep key : Int) (a : Cell) : Bool := decide (a.op = op ∧ a.epoch = ep ∧ a.key = key)
theorem qmz (op ep key : Int) : ∀ (xs : List Cell) (s : Int × Bool),
    ((s.2 = true → (xs.foldl (qay op ep key) s).2 = true ∧ (xs.foldl (qay op ep key) s).1 ≤ s.1)) ∧
    (∀ a ∈ xs, qeS op ep key a = true → (xs.foldl (qay op ep key) s).2 = true ∧ (xs.foldl (qay op ep key) s).1 ≤ a.val)
  | [], s => ⟨fun h => ⟨h, Int.le_refl _⟩, by simp⟩
  | x :: xs, s => by
    obtain ⟨h1, h2⟩ := qmz op ep key xs (qay op ep key s x)
    rw [List.foldl_cons]
    have hs : s.2 = true → (qay op ep key s x).2 = true ∧ (qay op ep key s x).1 ≤ s.1 := by
      intro h
      unfold qay
      split
      · rename_i hc
        obtain ⟨_, _, _, hc⟩ := hc
        refine ⟨rfl, ?_⟩
        rcases hc with hc | hc
        · rw [h] at hc; cases hc
        · show x.val ≤ s.1; omega
      · exact ⟨h, Int.le_refl _⟩
    have hx : qeS op ep key x = true → (qay op ep key s x).2 = true ∧ (qay op ep key s x).1 ≤ x.val := by
      intro h
      simp only [qeS, decide_eq_true_eq] at h
      unfold qay
      split
      · exact ⟨rfl, Int.le_refl _⟩
      · rename_i hc
        have h3 : ¬(s.2 = false ∨ x.val < s.1) := fun h4 => hc ⟨h.1, h.2.1, h.2.2, h4⟩
        have h4 : s.2 = true := by
          cases e : s.2 with
          | true => rfl
          | false => exact absurd (.inl e) h3
        exact ⟨h4, by have : ¬ x.val < s.1 := fun h5 => h3 (.inr h5); omega⟩
    refine ⟨fun h => ?_, fun a ha hsl => ?_⟩
    · obtain ⟨h3, h4⟩ := hs h
      obtain ⟨h5, h6⟩ := h1 h3
      exact ⟨h5, Int.le_trans h6 h4⟩
    · rcases List.mem_cons.1 ha with rfl | ha
      · obtain ⟨h3, h4⟩ := hx hsl
        obtain ⟨h5, h6⟩ := h1 h3
        exact ⟨h5, Int.le_trans h6 h4⟩
      · exact h2 a ha hsl
theorem qBH {xs : List Cell} {op ep key : Int} {a : Cell} (ha : a ∈ xs) (h : qeS op ep key a = true) : (qbu xs op ep key).2 = true ∧ (qbu xs op ep key).1 ≤ a.val :=
  (qmz op ep key xs (0, false)).2 a ha h
def qeh (e : Int) (a : Cell) : Prop := a.epoch = e ∧ 0 ≤ a.op ∧ a.op < 8 ∧ 0 ≤ a.key ∧ a.key ≤ 99 ∧ 0 ≤ a.val ∧ a.val ≤ 999
def qcG (a : Cell) : Nat := a.op.toNat * 100 + a.key.toNat
def worth (a : Cell) : Nat := (1000 - a.val).toNat
def qa8 (xs : List Cell) : Nat := (xs.map worth).sum
structure BestOk (e : Int) (xs : List Cell) : Prop where
  bound : ∀ a ∈ xs, qeh e a
  apart : (xs.map qcG).Nodup
theorem qjA : ∀ (n : Nat) (l : List Nat), l.Nodup → (∀ x ∈ l, x < n) → l.length ≤ n
  | 0, l, _, h => by
    cases l with
    | nil => simp
    | cons a l => exact absurd (h a (by simp)) (by omega)
  | n + 1, l, hd, h => by
    have h1 := qjA n (l.filter fun x => x != n) (hd.filter _) (by
      intro x hx
      rw [List.mem_filter] at hx
      have := h x hx.1
      simp only [bne_iff_ne, ne_eq] at hx
      omega)
    have h2 : l.length ≤ (l.filter fun x => x != n).length + 1 := by
      clear h h1
      induction l with
      | nil => simp
      | cons a l ih =>
        rw [List.nodup_cons] at hd
        rw [List.filter_cons]
        split
        · have := ih hd.2
          simp only [List.length_cons]; omega
        · rename_i ha
          have ha2 : a = n := by simpa using ha
          have : l.filter (fun x => x != n) = l := by
            rw [List.filter_eq_self]
            intro x hx
            simp only [bne_iff_ne, ne_eq]
            rintro rfl
            exact hd.1 (ha2 ▸ hx)
          rw [this, List.length_cons]; omega
    omega
theorem qmA {e : Int} {xs : List Cell} (h : BestOk e xs) : qa8 xs ≤ 800000 := by
  have h1 : xs.length ≤ 800 := by
    have := qjA 800 (xs.map qcG) h.apart (by
      intro x hx
      obtain ⟨a, ha, rfl⟩ := List.mem_map.1 hx
      obtain ⟨_, h1, h2, h3, h4, _, _⟩ := h.bound a ha
      unfold qcG; omega)
    simpa using this
  have h2 : ∀ ys : List Cell, (∀ a ∈ ys, qeh e a) → qa8 ys ≤ 1000 * ys.length := by
    intro ys
    induction ys with
    | nil => intro _; simp [qa8]
    | cons a ys ih =>
      intro hb
      have h3 := ih fun b hb2 => hb b (by simp [hb2])
      obtain ⟨_, _, _, _, _, h4, h5⟩ := hb a (by simp)
      have hw : worth a ≤ 1000 := by unfold worth; omega
      simp only [qa8, List.map_cons, List.sum_cons, List.length_cons] at h3 ⊢
      omega
  have := h2 xs h.bound
  omega
theorem qmB (p : Cell → Bool) : ∀ xs : List Cell, qa8 xs = qa8 (xs.filter p) + qa8 (xs.filter fun a => !p a)
  | [] => by simp [qa8]
  | a :: xs => by
    have := qmB p xs
    simp only [qa8, List.filter_cons, List.map_cons, List.sum_cons] at this ⊢
    cases p a <;> simp <;> omega
theorem qBI (xs : List Cell) (x : Cell) : qbq xs x = true ↔ x ∈ xs := by
  simp only [qbq, List.any_eq_true, decide_eq_true_eq]
  constructor
  · rintro ⟨a, ha, rfl⟩; exact ha
  · exact fun h => ⟨x, h, rfl⟩
theorem qBJ {xs : List Cell} {x : Cell} (h : ¬ x ∈ xs) : (qa3 xs x).Perm (x :: xs) := by
  unfold qa3
  rw [if_neg (by rw [qBI]; exact h)]
  refine List.perm_middle.trans ?_
  rw [List.take_append_drop]
theorem qBK {xs ys : List Cell} (h : xs.Perm ys) : qa8 xs = qa8 ys := (h.map worth).sum_nat
theorem qjB {e : Int} {a x : Cell} (ha : qeh e a) (hx : qeh e x) : qas x a = true ↔ qcG a = qcG x := by
  obtain ⟨h1, h2, h3, h4, h5, _, _⟩ := ha
  obtain ⟨g1, g2, g3, g4, g5, _, _⟩ := hx
  simp only [qas, qcG, Bool.and_eq_true, beq_iff_eq]
  constructor
  · rintro ⟨⟨h6, _⟩, h7⟩; rw [h6, h7]
  · intro h
    refine ⟨⟨?_, ?_⟩, ?_⟩ <;> omega
theorem qmC {e : Int} {x : Cell} (hx : qeh e x) : ∀ {xs : List Cell}, BestOk e xs → (xs.filter fun a => qas x a).length ≤ 1
  | [], _ => by simp
  | a :: xs, h => by
    have hb : BestOk e xs := ⟨fun b hb => h.bound b (by simp [hb]), by have := h.apart; rw [List.map_cons, List.nodup_cons] at this; exact this.2⟩
    have ih := qmC hx hb
    rw [List.filter_cons]
    split
    · rename_i ha
      have hn := h.apart
      rw [List.map_cons, List.nodup_cons] at hn
      have e1 : xs.filter (fun a => qas x a) = [] := by
        rw [List.filter_eq_nil_iff]
        intro b hb2 hs
        have h1 := (qjB (h.bound a (by simp)) hx).1 ha
        have h2 := (qjB (h.bound b (by simp [hb2])) hx).1 hs
        exact hn.1 (List.mem_map.2 ⟨b, hb2, by rw [h2, h1]⟩)
      rw [e1]; simp
    · exact ih
theorem qBL {e : Int} {xs : List Cell} {x : Cell} (h : BestOk e xs) (hx : qeh e x) (hb : (qaF xs x).2 = true) : BestOk e (qaF xs x).1 ∧ qa8 xs + 1 ≤ qa8 (qaF xs x).1 := by
  unfold qaF at hb ⊢
  split at hb
  · cases hb
  · rename_i hc
    rw [if_neg hc]
    have hno : ¬ x ∈ xs.filter fun a => !qas x a := by
      rw [List.mem_filter]
      rintro ⟨_, h2⟩
      simp [qas] at h2
    have hp := qBJ hno
    have hsub : ∀ a ∈ xs.filter (fun a => !qas x a), a ∈ xs ∧ qas x a = false := fun a ha => by
      rw [List.mem_filter] at ha
      exact ⟨ha.1, by simpa using ha.2⟩
    refine ⟨⟨fun a ha => ?_, ?_⟩, ?_⟩
    · rcases List.mem_cons.1 (hp.mem_iff.1 ha) with rfl | ha
      · exact hx
      · exact h.bound a (hsub a ha).1
    · have := (hp.map qcG).nodup_iff
      rw [this, List.map_cons, List.nodup_cons]
      refine ⟨fun hm => ?_, ?_⟩
      · obtain ⟨a, ha, hs⟩ := List.mem_map.1 hm
        have h1 := (qjB (h.bound a (hsub a ha).1) hx).2 hs
        rw [(hsub a ha).2] at h1; cases h1
      · exact h.apart.sublist ((List.filter_sublist (l := xs)).map qcG)
    · rw [qBK hp]
      have h1 := qmB (fun a => qas x a) xs
      have h2 : qa8 (xs.filter fun a => qas x a) + 1 ≤ worth x := by
        have hl := qmC hx h
        have hv : ∀ a ∈ xs.filter (fun a => qas x a), worth a + 1 ≤ worth x := by
          intro a ha
          rw [List.mem_filter] at ha
          have hs : qeS x.op x.epoch x.key a = true := by
            have := ha.2
            simp only [qas, Bool.and_eq_true, beq_iff_eq] at this
            simp only [qeS, decide_eq_true_eq]
            exact ⟨this.1.1.symm, this.1.2.symm, this.2.symm⟩
          obtain ⟨h3, h4⟩ := qBH ha.1 hs
          rw [h3] at hc
          have h5 : ¬ (qbu xs x.op x.epoch x.key).1 ≤ x.val := by simpa using hc
          obtain ⟨_, _, _, _, _, h6, h7⟩ := h.bound a ha.1
          obtain ⟨_, _, _, _, _, h8, h9⟩ := hx
          unfold worth; omega
        obtain ⟨_, _, _, _, _, h8, h9⟩ := hx
        revert hl hv
        cases xs.filter (fun a => qas x a) with
        | nil => intro _ _; simp only [qa8, List.map_nil, List.sum_nil, worth]; omega
        | cons a l =>
          intro hl hv
          have : l = [] := List.eq_nil_of_length_eq_zero (by simp at hl; simp [hl])
          subst this
          have := hv a (by simp)
          simpa [qa8] using this
      simp only [qa8, List.map_cons, List.sum_cons] at h1 h2 ⊢
      omega
theorem qmD {xs : List Cell} {x : Cell} (hb : (qaF xs x).2 = false) : (qaF xs x).1 = xs := by
  unfold qaF at hb ⊢
  split
  · rfl
  · rename_i hc
    rw [if_neg hc] at hb
    cases hb
theorem qjC {e : Int} {xs : List Cell} (h : BestOk e xs) : xs.length ≤ 800 := by
  have := qjA 800 (xs.map qcG) h.apart (by
    intro x hx
    obtain ⟨a, ha, rfl⟩ := List.mem_map.1 hx
    obtain ⟨_, h1, h2, h3, h4, _, _⟩ := h.bound a ha
    unfold qcG; omega)
  simpa using this
theorem qjD (e : Int) : BestOk e [] := ⟨by simp, by simp⟩
def sendC (n : Node) (x : Cell) (k v : Int) : List Cell := n.outs.map fun o => ⟨o, x.epoch, k, v⟩
def qa6 (g : Graph) (best : List Cell) (x : Cell) : List Cell × List Cell :=
  match qaS g x.op with
  | none => (best, [])
  | some n =>
    if qaE g && inR x.epoch 0 3 && qaw x.key x.val then
      ((qaF best x).1, if (qaF best x).2 && (qai n x.key x.val).2.2 then sendC n x (qai n x.key x.val).1 (qai n x.key x.val).2.1 else [])
    else (best, [])
theorem qgR {g : Graph} {e : Int} {best : List Cell} {x : Cell} (h : BestOk e best) (hx : x.epoch = e) :
    BestOk e (qa6 g best x).1 ∧ (∀ a ∈ (qa6 g best x).2, a.epoch = e) ∧ 3 * qa8 best + (qa6 g best x).2.length ≤ 3 * qa8 (qa6 g best x).1 ∧ (qa6 g best x).2.length ≤ 2 := by
  unfold qa6
  split
  · exact ⟨h, by simp, by simp, by simp⟩
  · rename_i n hn
    split
    · rename_i hc
      simp only [Bool.and_eq_true] at hc
      obtain ⟨⟨hg, hxe⟩, hi⟩ := hc
      have ho := qmy (qmx hg hn)
      have hin : qeh e x := by
        have h1 := qeb hn
        have h2 : g.nodes.length ≤ 8 := by
          simp only [qaE, Bool.and_eq_true, inR, decide_eq_true_eq] at hg
          omega
        simp only [qaw, inR, Bool.and_eq_true, decide_eq_true_eq, List.length_map] at hi h1
        exact ⟨hx, by omega, by omega, by omega, by omega, by omega, by omega⟩
      cases hb : (qaF best x).2 with
      | false =>
        rw [qmD hb]
        exact ⟨h, by simp, by simp, by simp⟩
      | true =>
        obtain ⟨h1, h2⟩ := qBL h hin hb
        refine ⟨h1, ?_, ?_, ?_⟩
        · intro a ha
          simp only [Bool.true_and] at ha
          split at ha
          · obtain ⟨o, _, rfl⟩ := List.mem_map.1 ha
            exact hx
          · cases ha
        · simp only [Bool.true_and]
          split
          · simp only [sendC, List.length_map]; omega
          · simp only [List.length_nil]; omega
        · simp only [Bool.true_and]
          split
          · simpa [sendC] using ho
          · simp
    · exact ⟨h, by simp, by simp, by simp⟩
def fixGo (g : Graph) : Nat → List Cell → List Cell → List Cell
  | 0, best, _ => best
  | _ + 1, best, [] => best
  | k + 1, best, x :: l => fixGo g k (qa6 g best x).1 (l ++ (qa6 g best x).2)
theorem qmE {g : Graph} {e : Int} : ∀ (k : Nat) (best l : List Cell), BestOk e best → (∀ a ∈ l, a.epoch = e) → BestOk e (fixGo g k best l)
  | 0, _, _, h, _ => h
  | _ + 1, _, [], h, _ => h
  | k + 1, best, x :: l, h, hl => by
    obtain ⟨h1, h2, _, _⟩ := qgR (g := g) h (hl x (by simp))
    refine qmE k _ _ h1 fun a ha => ?_
    rcases List.mem_append.1 ha with ha | ha
    · exact hl a (by simp [ha])
    · exact h2 a ha
def toDo (best l : List Cell) : Nat := 3 * (800000 - qa8 best) + l.length
theorem qmF {g : Graph} {e : Int} {best l : List Cell} {x : Cell} (h : BestOk e best) (hx : x.epoch = e) : toDo (qa6 g best x).1 (l ++ (qa6 g best x).2) + 1 ≤ toDo best (x :: l) := by
  obtain ⟨h1, _, h3, _⟩ := qgR (g := g) h hx
  have w1 := qmA h
  have w2 := qmA h1
  simp only [toDo, List.length_append, List.length_cons]
  omega
def cellsOf (e : Int) (r : Record) : Cell := ⟨0, e, r.key, r.val⟩
def qcH (e : Int) (xs : List Record) : List Cell := ((qfr e xs).filter qaR).map (cellsOf e)
theorem qmG (e : Int) (xs : List Record) : (qcH e xs).length ≤ xs.length := by
  simp only [qcH, List.length_map]
  exact Nat.le_trans (List.length_filter_le ..) (List.length_filter_le ..)
theorem qjE {e : Int} {xs : List Record} : ∀ a ∈ qcH e xs, a.epoch = e := by
  intro a ha
  obtain ⟨r, _, rfl⟩ := List.mem_map.1 ha
  rfl
def rounds (n : Nat) : Nat := 2400000 + n
def qeT (g : Graph) (e : Int) (xs : List Record) : List Cell := fixGo g (rounds (qcH e xs).length) [] (qcH e xs)
theorem qmH (l : List Cell) : toDo [] l = rounds l.length := rfl
theorem qBM (g : Graph) (e : Int) (xs : List Record) : BestOk e (qeT g e xs) := qmE _ _ _ (qjD e) qjE
end Go.Proofs.YtialmplmfcahpaaGreat
