/- Small functions that many others call, and lemmas for loops. -/
import Derived.Test.YtdanpadojemjeaaGreatT2
import Derived.Test.YtdanpadojemjeaaGreatGN
import Derived.Test.YtdanpadojemjeaaGreatGP
import Derived.Sort.Statements
import Derived.Shelf.SlSortCmp.Insertion
set_option linter.unusedVariables false
set_option linter.unusedSimpArgs false
namespace Go.Proofs.YtdanpadojemjeaaGreat
open Go.Sx Go.RowKit
def inR (n lo hi : Int) : Bool := decide (lo ≤ n ∧ n ≤ hi)
theorem qa0 (n lo hi : Int) : Rt 137 [.one (I n), .one (I lo), .one (I hi)] [.one (B (inR n lo hi))] := by
  by_cases h : lo ≤ n
  · have e : inR n lo hi = decide (n ≤ hi) := by simp [inR, h]
    rw [e]; exact qs5 ⟨by simp only [decide_eq_true_eq]; omega, trivial⟩
  · rw [show inR n lo hi = false by simp [inR, h]]; exact qs6 ⟨by simp only [decide_eq_false_iff_not]; omega, trivial⟩
theorem qaT (n lo hi : Int) (r : Bool) (h : inR n lo hi = r) : Rt 137 [.one (I n), .one (I lo), .one (I hi)] [.one (B r)] := h ▸ qa0 n lo hi
theorem qa4 (n lo hi : Int) : Rt 81 [.one (I n), .one (I lo), .one (I hi)] [.one (B (inR n lo hi))] := by
  by_cases h : lo ≤ n
  · have e : inR n lo hi = decide (n ≤ hi) := by simp [inR, h]
    rw [e]; exact qs3 ⟨by simp only [decide_eq_true_eq]; omega, trivial⟩
  · rw [show inR n lo hi = false by simp [inR, h]]; exact qs4 ⟨by simp only [decide_eq_false_iff_not]; omega, trivial⟩
theorem qaM (n lo hi : Int) (r : Bool) (h : inR n lo hi = r) : Rt 81 [.one (I n), .one (I lo), .one (I hi)] [.one (B r)] := h ▸ qa4 n lo hi
theorem Record.flat (r : Record) : ∀ d ∈ r.e, ∃ x, d = .v x := by
  intro d hd
  simp only [Record.e, List.mem_cons, List.not_mem_nil, or_false] at hd
  rcases hd with rfl | rfl | rfl | rfl | rfl <;> exact ⟨_, rfl⟩
theorem Cell.flat (r : Cell) : ∀ d ∈ r.e, ∃ x, d = .v x := by
  intro d hd
  simp only [Cell.e, List.mem_cons, List.not_mem_nil, or_false] at hd
  rcases hd with rfl | rfl | rfl | rfl <;> exact ⟨_, rfl⟩
theorem Pick.flat (r : Pick) : ∀ d ∈ r.e, ∃ x, d = .v x := by
  intro d hd
  simp only [Pick.e, List.mem_cons, List.not_mem_nil, or_false] at hd
  rcases hd with rfl | rfl | rfl <;> exact ⟨_, rfl⟩
theorem Stamp.flat (r : Stamp) : ∀ d ∈ r.e, ∃ x, d = .v x := by
  intro d hd
  simp only [Stamp.e, List.mem_cons, List.not_mem_nil, or_false] at hd
  rcases hd with rfl | rfl <;> exact ⟨_, rfl⟩
theorem qlP {α : Type} (p : α → Bool) (xs : List α) (i : Nat) : ((xs.take i).filter p).length ≤ i :=
  Nat.le_trans (List.length_filter_le ..) (by simp; omega)
theorem tr_to {P : Program} {c : Code} {st : St} {e : Ex} {α : Type} (f : α → St) {l l' : α} (h : Tr P c st e (f l)) (hl : l = l') : Tr P c st e (f l') := hl ▸ h
theorem dT {p : Prop} [Decidable p] (h : p) : decide p = true := decide_eq_true h
theorem dF {p : Prop} [Decidable p] (h : ¬ p) : decide p = false := decide_eq_false h
end Go.Proofs.YtdanpadojemjeaaGreat
namespace Go.Proofs.YtdanpadojemjeaaGreat
open Go.Sx Go.RowKit
def ord3 (a b : Int) : Int := if a < b then -1 else if b < a then 1 else 0
def lexN (l : List Int) : Int := (l.find? (· != 0)).getD 0
theorem qgz (a b : Int) : Rt 250 [.one (I a), .one (I b)] [.one (I (ord3 a b))] := by
  unfold ord3
  by_cases h : a < b
  · rw [if_pos h]; exact qs7 ⟨dT h, trivial⟩
  · rw [if_neg h]
    by_cases h2 : b < a
    · rw [if_pos h2]; exact qs8 ⟨dF h, dT h2, trivial⟩
    · rw [if_neg h2]; exact qs9 ⟨dF h, dF h2, trivial⟩
theorem qlQ (a : Int) : Rt 264 [.one (I a)] [.one (B false)] := by
  have := qta a trivial
  simpa using this
theorem qlR (a b : Int) : Rt 261 [.one (I a), .one (I b)] [.one (I (ord3 a b))] := by
  have x := qlQ a
  have y := qlQ b
  unfold ord3
  by_cases h : a < b
  · rw [if_pos h]; exact qtb ⟨x, y, rfl, rfl, dT h, trivial⟩
  · rw [if_neg h]
    by_cases h2 : b < a
    · rw [if_pos h2]; exact qtc ⟨x, y, rfl, rfl, dF h, dT h2, trivial⟩
    · rw [if_neg h2]; exact qtd ⟨x, y, rfl, rfl, dF h, dF h2, trivial⟩
theorem qlS {xs ys : List Int} {i : Nat} {d : Int} (h : (List.zipWith ord3 xs ys)[i]? = some d) : ∃ a b, xs[i]? = some a ∧ ys[i]? = some b ∧ ord3 a b = d := by
  rw [List.getElem?_zipWith] at h
  cases h1 : xs[i]? with
  | none => simp [h1] at h
  | some a =>
    cases h2 : ys[i]? with
    | none => simp [h1, h2] at h
    | some b => exact ⟨a, b, rfl, rfl, by simpa [h1, h2] using h⟩
theorem qtM (xs ys : List Int) (hl : xs.length = ys.length) (hm : xs.length ≤ 8388608) : Rt 254 [.one (.sl 1 (xs.map eI)), .one (.sl 1 (ys.map eI))] [.one (I (lexN (List.zipWith ord3 xs ys)))] := by
  have hz : (List.zipWith ord3 xs ys).length = xs.length := by simp [hl]
  have l := qaV (P := Tryz.prog) (c := (qaa Tryz.f254 0)) (List.zipWith ord3 xs ys) (fun d => d != 0) (fun i => qdP (xs.map eI) (ys.map eI) i) (X := fun _ d => qiD d) qao (qaf 0)
    (fun i d hd h => by
      obtain ⟨a, b, ha, hb, rfl⟩ := qlS hd
      exact qtf ⟨lt1 (lt_of ha), lt0, lt2 (lt_of ha), qac eI ha, dF (by have := lt_of hb; simp; omega), lt0, lt2 (lt_of hb), qac eI hb, qlR a b, h, up1 (lt_of ha) hm, trivial⟩)
    (fun i d hd h => by
      obtain ⟨a, b, ha, hb, rfl⟩ := qlS hd
      exact qte ⟨lt1 (lt_of ha), lt0, lt2 (lt_of ha), qac eI ha, dF (by have := lt_of hb; simp; omega), lt0, lt2 (lt_of hb), qac eI hb, qlR a b, h, trivial⟩)
    (by rw [hz]; exact qtg ⟨ge1, trivial⟩)
  unfold lexN
  rcases l with ⟨h1, _, _, h2⟩ | ⟨i, a, _, _, h1, _, _, h2⟩
  · rw [h1]; exact qti ⟨h2, by simp [hl], trivial⟩
  · rw [h1]; exact qth ⟨h2, trivial⟩
theorem qtN (xs ys : List Int) (hl : xs.length = ys.length) (hm : xs.length ≤ 8388608) : Rt 246 [.one (.sl 1 (xs.map eI)), .one (.sl 1 (ys.map eI))] [.one (I (lexN (List.zipWith ord3 xs ys)))] :=
  qtj ⟨qtM xs ys hl hm, trivial⟩
def qeP (a b : Cell) : Int := lexN [ord3 a.epoch b.epoch, ord3 a.op b.op, ord3 a.key b.key, ord3 a.val b.val]
theorem qlT (a b : Cell) : Rt 230 [.agg a.e, .agg b.e] [.one (I (qeP a b))] :=
  qtT ⟨qtN [a.epoch, a.op, a.key, a.val] [b.epoch, b.op, b.key, b.val] rfl (by simp), trivial⟩
theorem qlU (a b : Cell) : Rt 243 [.agg a.e, .agg b.e] [.one (I (qeP a b))] := by
  have o1 := qgz a.epoch b.epoch
  have o2 := qgz a.op b.op
  have o3 := qgz a.key b.key
  have o4 := qgz a.val b.val
  unfold qeP
  generalize ord3 a.epoch b.epoch = x1 at *
  generalize ord3 a.op b.op = x2 at *
  generalize ord3 a.key b.key = x3 at *
  generalize ord3 a.val b.val = x4 at *
  have l := qaV (P := Tryz.prog) (c := (qaa Tryz.f243 0)) [x1, x2, x3, x4] (fun d => d != 0) (fun i => qdV x1 x2 x3 x4 i) (X := fun _ d => qiH d) qao (qaf 0)
    (fun i d hd h => qtV ⟨dT (by have := lt_of hd; simp at this; omega), lt0, by have := lt_of hd; simp at this ⊢; omega, qac eI hd, h, ⟨by omega, by have := lt_of hd; simp at this; omega⟩, trivial⟩)
    (fun i d hd h => qtU ⟨dT (by have := lt_of hd; simp at this; omega), lt0, by have := lt_of hd; simp at this ⊢; omega, qac eI hd, h, lt0, by have := lt_of hd; simp at this ⊢; omega, qac eI hd, trivial⟩)
    (qtW ⟨rfl, trivial⟩)
  unfold lexN
  rcases l with ⟨h1, _, _, h2⟩ | ⟨i, a, _, _, h1, _, _, h2⟩
  · rw [h1]; exact qtY ⟨o1, o2, o3, o4, h2, trivial⟩
  · rw [h1]; exact qtX ⟨o1, o2, o3, o4, h2, trivial⟩
end Go.Proofs.YtdanpadojemjeaaGreat
namespace Go.Proofs.YtdanpadojemjeaaGreat
open Go.Sx Go.RowKit Go.Sort
section
variable {α : Type}
abbrev SortedL (lt : α → α → Bool) (S : List α) : Prop := S.Pairwise fun a b => (!lt b a) = true
end
end Go.Proofs.YtdanpadojemjeaaGreat
namespace Go.Proofs.YtdanpadojemjeaaGreat
open Go.Sx Go.RowKit
def qbP (e : Int) (xs : List Record) : List Record := xs.filter fun r => r.stamp.epoch == e
theorem qlV (xs : List Record) (e : Int) (hl : xs.length ≤ 8388608) : Rt 233 [.one (.sl 5 (xs.map Record.e)), .one (I e)] [.one (.sl 5 ((qbP e xs).map Record.e))] := by
  let p := fun r : Record => r.stamp.epoch == e
  have l := qaj (P := Tryz.prog) (c := (qaa Tryz.f233 0)) (qaf 0) xs.length (fun i : Nat => qdQ (xs.map Record.e) e i (((xs.take i).filter p).map Record.e)) (fun i hi => by
    obtain ⟨a, ha⟩ := qae hi
    have hf := qlP p xs i
    have hs := qkL p ha
    by_cases hp : p a = true
    · rw [if_pos hp] at hs
      rw [hs, List.map_append]
      exact qtk ⟨lt1 hi, lt0, lt2 hi, qac Record.e ha, hp, lt0, lt2 hi, qac Record.e ha, by simp; omega, by simp; omega, qc5 a.flat, up1 hi hl, trivial⟩
    · rw [if_neg hp, List.append_nil] at hs
      rw [hs]
      exact qtl ⟨lt1 hi, lt0, lt2 hi, qac Record.e ha, Bool.eq_false_iff.2 hp, up1 hi hl, trivial⟩) (qtm ⟨ge1, trivial⟩)
  rw [List.take_length] at l
  exact qtn ⟨l, trivial⟩
theorem qlW (xs : List Record) (e : Int) (hl : xs.length ≤ 8388608) : Rt 174 [.one (.sl 5 (xs.map Record.e)), .one (I e)] [.one (.sl 5 ((qbP e xs).map Record.e))] := by
  let p := fun r : Record => r.stamp.epoch == e
  have l := qaj (P := Tryz.prog) (c := (qaa Tryz.f174 0)) (qaf 0) xs.length (fun i : Nat => qdR (xs.map Record.e) e i (((xs.take i).filter p).map Record.e)) (fun i hi => by
    obtain ⟨a, ha⟩ := qae hi
    have hf := qlP p xs i
    have hs := qkL p ha
    by_cases hp : p a = true
    · rw [if_pos hp] at hs
      rw [hs, List.map_append]
      exact qto ⟨lt1 hi, lt0, lt2 hi, qac Record.e ha, hp, by simp; omega, by simp; omega, qc5 a.flat, up1 hi hl, trivial⟩
    · rw [if_neg hp, List.append_nil] at hs
      rw [hs]
      exact qtp ⟨lt1 hi, lt0, lt2 hi, qac Record.e ha, Bool.eq_false_iff.2 hp, up1 hi hl, trivial⟩) (qtq ⟨ge1, trivial⟩)
  rw [List.take_length] at l
  exact qtr ⟨l, trivial⟩
end Go.Proofs.YtdanpadojemjeaaGreat
namespace Go.Proofs.YtdanpadojemjeaaGreat
open Go.Sx Go.RowKit
def idxI {α : Type} (p : α → Bool) (xs : List α) : Int := match xs.findIdx? p with | some i => i | none => -1
theorem qlX {α : Type} (p : α → Bool) (xs : List α) : decide (idxI p xs ≥ 0) = xs.any p := by
  unfold idxI
  cases h : xs.findIdx? p with
  | none =>
    have : xs.any p = false := by
      rw [List.any_eq_false]
      rw [List.findIdx?_eq_none_iff] at h
      exact fun a ha => by simp [h a ha]
    rw [this]; rfl
  | some i =>
    rw [List.findIdx?_eq_some_iff_getElem] at h
    obtain ⟨hi, h2, _⟩ := h
    have : xs.any p = true := List.any_eq_true.2 ⟨_, List.getElem_mem hi, h2⟩
    rw [this]; simp
theorem qtO (xs : List Record) (p : Record → Bool) (g : Nat) (caps : List D) (hl : xs.length ≤ 8388608) (hc : qbb Tryz.prog g = true) (hp : ∀ x ∈ xs, Rt g ([.agg x.e] ++ caps.map .one) [.one (B (p x))]) :
    Rt 234 [.one (.sl 5 (xs.map Record.e)), .one (.cl g caps)] [.one (I (idxI p xs))] := by
  have hp' : ∀ x ∈ xs, ∀ r, p x = r → Rt g ([.agg x.e] ++ caps.map .one) [.one (B r)] := fun x hx r h => h ▸ hp x hx
  have l := qaV (P := Tryz.prog) (c := (qaa Tryz.f234 0)) xs p (fun i => qdT (xs.map Record.e) g caps i) (X := fun i _ => qiF i) qao (qaf 0)
    (fun i a ha h => qtB _ _ _ _ _ _ _ _ _ _ ⟨lt1 (lt_of ha), lt0, lt2 (lt_of ha), qac Record.e ha, hc, hp' a (qap ha) false h, rfl, up1 (lt_of ha) hl, trivial⟩)
    (fun i a ha h => qtA _ _ _ _ _ _ _ _ _ _ ⟨lt1 (lt_of ha), lt0, lt2 (lt_of ha), qac Record.e ha, hc, hp' a (qap ha) true h, rfl, trivial⟩)
    (qtC _ _ _ _ ⟨ge1, trivial⟩)
  rcases l with ⟨_, h1, _, h2⟩ | ⟨i, a, _, _, _, h1, _, h2⟩
  · simp only [idxI, h1]
    exact qtE _ _ _ ⟨h2, trivial⟩
  · simp only [idxI, h1]
    exact qtD _ _ _ _ ⟨h2, trivial⟩
theorem qtP (xs : List Record) (p : Record → Bool) (g : Nat) (caps : List D) (hl : xs.length ≤ 8388608) (hc : qbb Tryz.prog g = true) (hp : ∀ x ∈ xs, Rt g ([.agg x.e] ++ caps.map .one) [.one (B (p x))]) :
    Rt 207 [.one (.sl 5 (xs.map Record.e)), .one (.cl g caps)] [.one (B (xs.any p))] := by
  rw [← qlX]
  exact qtK _ _ _ _ ⟨qtO xs p g caps hl hc hp, trivial⟩
theorem qtQ (xs : List Done) (p : Done → Bool) (g : Nat) (caps : List D) (hl : xs.length ≤ 8388608) (hc : qbb Tryz.prog g = true) (hp : ∀ x ∈ xs, Rt g ([.agg x.e] ++ caps.map .one) [.one (B (p x))]) :
    Rt 231 [.one (.sl 2 (xs.map Done.e)), .one (.cl g caps)] [.one (I (idxI p xs))] := by
  have hp' : ∀ x ∈ xs, ∀ r, p x = r → Rt g ([.agg x.e] ++ caps.map .one) [.one (B r)] := fun x hx r h => h ▸ hp x hx
  have l := qaV (P := Tryz.prog) (c := (qaa Tryz.f231 0)) xs p (fun i => qdU (xs.map Done.e) g caps i) (X := fun i _ => qiG i) qao (qaf 0)
    (fun i a ha h => qtG _ _ _ _ _ _ _ ⟨lt1 (lt_of ha), lt0, lt2 (lt_of ha), qac Done.e ha, hc, hp' a (qap ha) false h, rfl, up1 (lt_of ha) hl, trivial⟩)
    (fun i a ha h => qtF _ _ _ _ _ _ _ ⟨lt1 (lt_of ha), lt0, lt2 (lt_of ha), qac Done.e ha, hc, hp' a (qap ha) true h, rfl, trivial⟩)
    (qtH _ _ _ _ ⟨ge1, trivial⟩)
  rcases l with ⟨_, h1, _, h2⟩ | ⟨i, a, _, _, _, h1, _, h2⟩
  · simp only [idxI, h1]
    exact qtJ _ _ _ ⟨h2, trivial⟩
  · simp only [idxI, h1]
    exact qtI _ _ _ _ ⟨h2, trivial⟩
theorem qtR (xs : List Done) (p : Done → Bool) (g : Nat) (caps : List D) (hl : xs.length ≤ 8388608) (hc : qbb Tryz.prog g = true) (hp : ∀ x ∈ xs, Rt g ([.agg x.e] ++ caps.map .one) [.one (B (p x))]) :
    Rt 201 [.one (.sl 2 (xs.map Done.e)), .one (.cl g caps)] [.one (B (xs.any p))] := by
  rw [← qlX]
  exact qtL _ _ _ _ ⟨qtQ xs p g caps hl hc hp, trivial⟩
end Go.Proofs.YtdanpadojemjeaaGreat
