/- Orders: numbers one after the other, the first that differ decide. -/
import Derived.Test.YtialmplmfcahpaaGreatC0
import Derived.Test.YtialmplmfcahpaaGreatGP
set_option linter.unusedVariables false
set_option linter.unusedSimpArgs false
namespace Go.Proofs.YtialmplmfcahpaaGreat
open Go.Sx Go.RowKit
def ord3 (a b : Int) : Int := if a < b then -1 else if b < a then 1 else 0
def lexN (l : List Int) : Int := (l.find? (· != 0)).getD 0
theorem qcV (a b : Int) : Ret Tryz.prog 305 [.one (I a), .one (I b)] [.one (I (ord3 a b))] := by
  unfold ord3
  by_cases h : a < b
  · rw [if_pos h]; exact qtn _ _ ⟨dT h, trivial⟩
  · rw [if_neg h]
    by_cases h2 : b < a
    · rw [if_pos h2]; exact qto _ _ ⟨dF h, dT h2, trivial⟩
    · rw [if_neg h2]; exact qtp _ _ ⟨dF h, dF h2, trivial⟩
theorem qlI (a : Int) : Ret Tryz.prog 336 [.one (I a)] [.one (B false)] := by
  have := qtq a trivial
  simpa using this
theorem qlJ (a b : Int) : Ret Tryz.prog 333 [.one (I a), .one (I b)] [.one (I (ord3 a b))] := by
  have x := qlI a
  have y := qlI b
  unfold ord3
  by_cases h : a < b
  · rw [if_pos h]; exact qtr _ _ _ _ ⟨x, y, rfl, rfl, dT h, trivial⟩
  · rw [if_neg h]
    by_cases h2 : b < a
    · rw [if_pos h2]; exact qts _ _ _ _ ⟨x, y, rfl, rfl, dF h, dT h2, trivial⟩
    · rw [if_neg h2]; exact qtt _ _ _ _ ⟨x, y, rfl, rfl, dF h, dF h2, trivial⟩
theorem qlK {xs ys : List Int} {i : Nat} {d : Int} (h : (List.zipWith ord3 xs ys)[i]? = some d) : ∃ a b, xs[i]? = some a ∧ ys[i]? = some b ∧ ord3 a b = d := by
  rw [List.getElem?_zipWith] at h
  cases h1 : xs[i]? with
  | none => simp [h1] at h
  | some a =>
    cases h2 : ys[i]? with
    | none => simp [h1, h2] at h
    | some b => exact ⟨a, b, rfl, rfl, by simpa [h1, h2] using h⟩
theorem qvT (xs ys : List Int) (hl : xs.length = ys.length) (hm : xs.length ≤ 1048576) : Ret Tryz.prog 326 [.one (.sl 1 (xs.map eI)), .one (.sl 1 (ys.map eI))] [.one (I (lexN (List.zipWith ord3 xs ys)))] := by
  have hz : (List.zipWith ord3 xs ys).length = xs.length := by simp [hl]
  have l := qbB (P := Tryz.prog) (c := (qaa Tryz.f326 0)) (List.zipWith ord3 xs ys) (fun d => d != 0) (fun i => qdL (xs.map eI) (ys.map eI) i) (X := fun _ d => qgn d) qaD (qah 0)
    (fun i d hd h => by
      obtain ⟨a, b, ha, hb, rfl⟩ := qlK hd
      exact qtv _ _ _ _ _ _ ⟨lt1 (lt_of ha), lt0, lt2 (lt_of ha), qae eI ha, dF (by have := lt_of hb; simp; omega), lt0, lt2 (lt_of hb), qae eI hb, qlJ a b, h, up1 (lt_of ha) hm, trivial⟩)
    (fun i d hd h => by
      obtain ⟨a, b, ha, hb, rfl⟩ := qlK hd
      exact qtu _ _ _ _ _ _ ⟨lt1 (lt_of ha), lt0, lt2 (lt_of ha), qae eI ha, dF (by have := lt_of hb; simp; omega), lt0, lt2 (lt_of hb), qae eI hb, qlJ a b, h, trivial⟩)
    (by rw [hz]; exact qtw _ _ _ ⟨ge1, trivial⟩)
  unfold lexN
  rcases l with ⟨h1, _, _, h2⟩ | ⟨i, a, _, _, h1, _, _, h2⟩
  · rw [h1]; exact qty _ _ ⟨h2, by simp [hl], trivial⟩
  · rw [h1]; exact qtx _ _ _ ⟨h2, trivial⟩
theorem qjg (xs ys : List Int) (hl : xs.length = ys.length) (hm : xs.length ≤ 1048576) : Ret Tryz.prog 309 [.one (.sl 1 (xs.map eI)), .one (.sl 1 (ys.map eI))] [.one (I (lexN (List.zipWith ord3 xs ys)))] :=
  qtz _ _ _ ⟨qvT xs ys hl hm, trivial⟩
def qdX (a b : Cell) : Int := lexN [ord3 a.epoch b.epoch, ord3 a.op b.op, ord3 a.key b.key, ord3 a.val b.val]
theorem qlL (a b : Cell) : Ret Tryz.prog 299 [.agg a.e, .agg b.e] [.one (I (qdX a b))] :=
  quc _ _ _ _ _ _ _ _ _ ⟨qjg [a.epoch, a.op, a.key, a.val] [b.epoch, b.op, b.key, b.val] rfl (by simp), trivial⟩
theorem qlM (a b : Cell) : Ret Tryz.prog 292 [.agg a.e, .agg b.e] [.one (I (qdX a b))] := by
  have o1 := qcV a.epoch b.epoch
  have o2 := qcV a.op b.op
  have o3 := qcV a.key b.key
  have o4 := qcV a.val b.val
  unfold qdX
  generalize ord3 a.epoch b.epoch = x1 at *
  generalize ord3 a.op b.op = x2 at *
  generalize ord3 a.key b.key = x3 at *
  generalize ord3 a.val b.val = x4 at *
  have l := qbB (P := Tryz.prog) (c := (qaa Tryz.f292 0)) [x1, x2, x3, x4] (fun d => d != 0) (fun i => qdT x1 x2 x3 x4 i) (X := fun _ d => qgv d) qaD (qah 0)
    (fun i d hd h => qu0 _ _ _ _ _ _ ⟨dT (by have := lt_of hd; simp at this; omega), lt0, by have := lt_of hd; simp at this ⊢; omega, qae eI hd, h, ⟨by omega, by have := lt_of hd; simp at this; omega⟩, trivial⟩)
    (fun i d hd h => quZ _ _ _ _ _ _ _ ⟨dT (by have := lt_of hd; simp at this; omega), lt0, by have := lt_of hd; simp at this ⊢; omega, qae eI hd, h, lt0, by have := lt_of hd; simp at this ⊢; omega, qae eI hd, trivial⟩)
    (qu1 _ _ _ _ _ ⟨rfl, trivial⟩)
  unfold lexN
  rcases l with ⟨h1, _, _, h2⟩ | ⟨i, a, _, _, h1, _, _, h2⟩
  · rw [h1]; exact qu3 _ _ _ _ _ _ _ _ _ _ _ _ ⟨o1, o2, o3, o4, h2, trivial⟩
  · rw [h1]; exact qu2 _ _ _ _ _ _ _ _ _ _ _ _ _ ⟨o1, o2, o3, o4, h2, trivial⟩
end Go.Proofs.YtialmplmfcahpaaGreat
