/- Orders: numbers one after the other, the first that differ decide. -/
import Derived.Test.YtbbjajmimckabaaGreatC0
import Derived.Test.YtbbjajmimckabaaGreatGP
set_option linter.unusedVariables false
set_option linter.unusedSimpArgs false
namespace Go.Proofs.YtbbjajmimckabaaGreat
open Go.Sx Go.RowKit

def ord3 (a b : Int) : Int := if a < b then -1 else if b < a then 1 else 0
def lexN (l : List Int) : Int := (l.find? (· != 0)).getD 0

theorem spec_l02Order_ret (a b : Int) : Ret Tryz.prog 100 [.one (I a), .one (I b)] [.one (I (ord3 a b))] := by
  unfold ord3
  by_cases h : a < b
  · rw [if_pos h]; exact spec_l02Order_p0 _ _ ⟨dT h, trivial⟩
  · rw [if_neg h]
    by_cases h2 : b < a
    · rw [if_pos h2]; exact spec_l02Order_p1 _ _ ⟨dF h, dT h2, trivial⟩
    · rw [if_neg h2]; exact spec_l02Order_p2 _ _ ⟨dF h, dF h2, trivial⟩

theorem cmp_isNaN_int_ret (a : Int) : Ret Tryz.prog 156 [.one (I a)] [.one (B false)] := by
  have := cmp_isNaN_int_p0 a trivial
  simpa using this

theorem cmp_Compare_int_ret (a b : Int) : Ret Tryz.prog 151 [.one (I a), .one (I b)] [.one (I (ord3 a b))] := by
  have x := cmp_isNaN_int_ret a
  have y := cmp_isNaN_int_ret b
  unfold ord3
  by_cases h : a < b
  · rw [if_pos h]; exact cmp_Compare_int_p3 _ _ _ _ ⟨x, y, rfl, rfl, dT h, trivial⟩
  · rw [if_neg h]
    by_cases h2 : b < a
    · rw [if_pos h2]; exact cmp_Compare_int_p4 _ _ _ _ ⟨x, y, rfl, rfl, dF h, dT h2, trivial⟩
    · rw [if_neg h2]; exact cmp_Compare_int_p5 _ _ _ _ ⟨x, y, rfl, rfl, dF h, dF h2, trivial⟩

theorem zip_get {xs ys : List Int} {i : Nat} {d : Int} (h : (List.zipWith ord3 xs ys)[i]? = some d) : ∃ a b, xs[i]? = some a ∧ ys[i]? = some b ∧ ord3 a b = d := by
  rw [List.getElem?_zipWith] at h
  cases h1 : xs[i]? with
  | none => simp [h1] at h
  | some a =>
    cases h2 : ys[i]? with
    | none => simp [h1, h2] at h
    | some b => exact ⟨a, b, rfl, rfl, by simpa [h1, h2] using h⟩

theorem slices_Compare_int_ret (xs ys : List Int) (hl : xs.length = ys.length) (hm : xs.length ≤ 1048576) : Ret Tryz.prog 133 [.one (.sl 1 (xs.map eI)), .one (.sl 1 (ys.map eI))] [.one (I (lexN (List.zipWith ord3 xs ys)))] := by
  have hz : (List.zipWith ord3 xs ys).length = xs.length := by simp [hl]
  have l := loop_scan (P := Tryz.prog) (c := (loopOf Tryz.f133 0)) (List.zipWith ord3 xs ys) (fun d => d != 0) (fun i => slices_Compare_int_L0 (xs.map eI) (ys.map eI) i) (X := fun _ d => slices_Compare_int_X0 d) ret_ne (exit_ne 0)
    (fun i d hd h => by
      obtain ⟨a, b, ha, hb, rfl⟩ := zip_get hd
      exact slices_Compare_int_L0_s2 _ _ _ _ _ _ ⟨lt1 (lt_of ha), lt0, lt2 (lt_of ha), at_map eI ha, dF (by have := lt_of hb; simp; omega), lt0, lt2 (lt_of hb), at_map eI hb, cmp_Compare_int_ret a b, h, up1 (lt_of ha) hm, trivial⟩)
    (fun i d hd h => by
      obtain ⟨a, b, ha, hb, rfl⟩ := zip_get hd
      exact slices_Compare_int_L0_x1 _ _ _ _ _ _ ⟨lt1 (lt_of ha), lt0, lt2 (lt_of ha), at_map eI ha, dF (by have := lt_of hb; simp; omega), lt0, lt2 (lt_of hb), at_map eI hb, cmp_Compare_int_ret a b, h, trivial⟩)
    (by rw [hz]; exact slices_Compare_int_L0_x3 _ _ _ ⟨ge1, trivial⟩)
  unfold lexN
  rcases l with ⟨h1, _, _, h2⟩ | ⟨i, a, _, _, h1, _, _, h2⟩
  · rw [h1]; exact slices_Compare_int_p2 _ _ ⟨h2, by simp [hl], trivial⟩
  · rw [h1]; exact slices_Compare_int_p0 _ _ _ ⟨h2, trivial⟩

theorem impl_orderOf_ret (xs ys : List Int) (hl : xs.length = ys.length) (hm : xs.length ≤ 1048576) : Ret Tryz.prog 109 [.one (.sl 1 (xs.map eI)), .one (.sl 1 (ys.map eI))] [.one (I (lexN (List.zipWith ord3 xs ys)))] :=
  impl_orderOf_p0 _ _ _ ⟨slices_Compare_int_ret xs ys hl hm, trivial⟩



