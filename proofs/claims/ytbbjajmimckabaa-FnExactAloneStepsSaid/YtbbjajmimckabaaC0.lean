/- Small functions that many others call, and lemmas for loops. -/
import Derived.Test.YtbbjajmimckabaaT2
import Derived.Test.YtbbjajmimckabaaT3
import Derived.Test.YtbbjajmimckabaaT4
import Derived.Test.YtbbjajmimckabaaGN
import Derived.Test.YtbbjajmimckabaaGP
set_option linter.unusedVariables false
set_option linter.unusedSimpArgs false
namespace Go.Proofs.Ytbbjajmimckabaa
open Go.Sx Go.RowKit

def inR (n lo hi : Int) : Bool := decide (lo ≤ n ∧ n ≤ hi)

theorem spec_l01In_ret (n lo hi : Int) : Ret Try.prog 57 [.one (I n), .one (I lo), .one (I hi)] [.one (B (inR n lo hi))] := by
  by_cases h : lo ≤ n
  · have e : inR n lo hi = decide (n ≤ hi) := by simp [inR, h]
    rw [e]; exact spec_l01In_p0 _ _ _ ⟨by simp only [decide_eq_true_eq]; omega, trivial⟩
  · rw [show inR n lo hi = false by simp [inR, h]]; exact spec_l01In_p1 _ _ _ ⟨by simp only [decide_eq_false_iff_not]; omega, trivial⟩
theorem spec_l01In_ret' (n lo hi : Int) (r : Bool) (h : inR n lo hi = r) : Ret Try.prog 57 [.one (I n), .one (I lo), .one (I hi)] [.one (B r)] := h ▸ spec_l01In_ret n lo hi

theorem impl_within_ret (n lo hi : Int) : Ret Try.prog 62 [.one (I n), .one (I lo), .one (I hi)] [.one (B (inR n lo hi))] := by
  by_cases h : lo ≤ n
  · have e : inR n lo hi = decide (n ≤ hi) := by simp [inR, h]
    rw [e]; exact impl_within_p0 _ _ _ ⟨by simp only [decide_eq_true_eq]; omega, trivial⟩
  · rw [show inR n lo hi = false by simp [inR, h]]; exact impl_within_p1 _ _ _ ⟨by simp only [decide_eq_false_iff_not]; omega, trivial⟩
theorem impl_within_ret' (n lo hi : Int) (r : Bool) (h : inR n lo hi = r) : Ret Try.prog 62 [.one (I n), .one (I lo), .one (I hi)] [.one (B r)] := h ▸ impl_within_ret n lo hi

theorem Record.flat (r : Record) : ∀ d ∈ r.e, ∃ x, d = .v x := by
  intro d hd
  simp only [Record.e, List.mem_cons, List.not_mem_nil, or_false] at hd
  rcases hd with rfl | rfl | rfl | rfl | rfl <;> exact ⟨_, rfl⟩

theorem Cell.flat (r : Cell) : ∀ d ∈ r.e, ∃ x, d = .v x := by
  intro d hd
  simp only [Cell.e, List.mem_cons, List.not_mem_nil, or_false] at hd
  rcases hd with rfl | rfl | rfl | rfl <;> exact ⟨_, rfl⟩

theorem Pick.flat (r : Pick) : ∀ d ∈ r.e, ∃ x, d = .v x := by
  intro d hd
  simp only [Pick.e, List.mem_cons, List.not_mem_nil, or_false] at hd
  rcases hd with rfl | rfl | rfl <;> exact ⟨_, rfl⟩

theorem Stamp.flat (r : Stamp) : ∀ d ∈ r.e, ∃ x, d = .v x := by
  intro d hd
  simp only [Stamp.e, List.mem_cons, List.not_mem_nil, or_false] at hd
  rcases hd with rfl | rfl <;> exact ⟨_, rfl⟩

theorem filt_len {α : Type} (p : α → Bool) (xs : List α) (i : Nat) : ((xs.take i).filter p).length ≤ i :=
  Nat.le_trans (List.length_filter_le ..) (by simp; omega)

theorem cellEq (a r : Cell) : (a.op == r.op && (a.epoch == r.epoch && (a.key == r.key && a.val == r.val))) = decide (a = r) := by
  obtain ⟨o, e, k, v⟩ := a
  obtain ⟨o', e', k', v'⟩ := r
  rw [Bool.eq_iff_iff]
  simp only [Bool.and_eq_true, beq_iff_eq, decide_eq_true_eq, Cell.mk.injEq]

theorem cellEq' (a r : Cell) : (r.op == a.op && (r.epoch == a.epoch && (r.key == a.key && r.val == a.val))) = decide (a = r) := by
  rw [cellEq r a]
  exact decide_eq_decide.2 ⟨Eq.symm, Eq.symm⟩

theorem tr_to {P : Program} {c : Code} {st : St} {e : Ex} {α : Type} (f : α → St) {l l' : α} (h : Tr P c st e (f l)) (hl : l = l') : Tr P c st e (f l') := hl ▸ h

theorem ret_to {P : Program} {f : Nat} {args : List AD} {k : Nat} {l l' : List (List D)} (h : Ret P f args [.one (.sl k l)]) (hl : l = l') : Ret P f args [.one (.sl k l')] := hl ▸ h

theorem dT {p : Prop} [Decidable p] (h : p) : decide p = true := decide_eq_true h
theorem dF {p : Prop} [Decidable p] (h : ¬ p) : decide p = false := decide_eq_false h
end Go.Proofs.Ytbbjajmimckabaa

namespace Go.Proofs.Ytbbjajmimckabaa
open Go.Sx Go.RowKit

def ord3 (a b : Int) : Int := if a < b then -1 else if b < a then 1 else 0
def lexN (l : List Int) : Int := (l.find? (· != 0)).getD 0

theorem spec_l02Order_ret (a b : Int) : Ret Try.prog 130 [.one (I a), .one (I b)] [.one (I (ord3 a b))] := by
  unfold ord3
  by_cases h : a < b
  · rw [if_pos h]; exact spec_l02Order_p0 _ _ ⟨dT h, trivial⟩
  · rw [if_neg h]
    by_cases h2 : b < a
    · rw [if_pos h2]; exact spec_l02Order_p1 _ _ ⟨dF h, dT h2, trivial⟩
    · rw [if_neg h2]; exact spec_l02Order_p2 _ _ ⟨dF h, dF h2, trivial⟩

theorem cmp_isNaN_int_ret (a : Int) : Ret Try.prog 162 [.one (I a)] [.one (B false)] := by
  have := cmp_isNaN_int_p0 a trivial
  simpa using this

theorem cmp_Compare_int_ret (a b : Int) : Ret Try.prog 156 [.one (I a), .one (I b)] [.one (I (ord3 a b))] := by
  have x := cmp_isNaN_int_ret a
  have y := cmp_isNaN_int_ret b
  unfold ord3
  by_cases h : a < b
  · rw [if_pos h]; exact cmp_Compare_int_p3 _ _ _ _ ⟨x, y, rfl, rfl, dT h, trivial⟩
  · rw [if_neg h]
    by_cases h2 : b < a
    · rw [if_pos h2]; exact cmp_Compare_int_p4 _ _ _ _ ⟨x, y, rfl, rfl, dF h, dT h2, trivial⟩
    · rw [if_neg h2]; exact cmp_Compare_int_p5 _ _ _ _ ⟨x, y, rfl, rfl, dF h, dF h2, trivial⟩

theorem zip_get {xs ys : List Int} {i : Nat} {d : Int} (h : (List.zipWith ord3 xs ys)[i]? = some d) : ∃ a b, xs[i]? = some a ∧ ys[i]? = some b ∧ ord3 a b = d := by
  rw [List.getElem?_zipWith] at h
  cases h1 : xs[i]? with
  | none => simp [h1] at h
  | some a =>
    cases h2 : ys[i]? with
    | none => simp [h1, h2] at h
    | some b => exact ⟨a, b, rfl, rfl, by simpa [h1, h2] using h⟩

theorem slices_Compare_int_ret (xs ys : List Int) (hl : xs.length = ys.length) (hm : xs.length ≤ 1048576) : Ret Try.prog 151 [.one (.sl 1 (xs.map eI)), .one (.sl 1 (ys.map eI))] [.one (I (lexN (List.zipWith ord3 xs ys)))] := by
  have hz : (List.zipWith ord3 xs ys).length = xs.length := by simp [hl]
  have l := loop_scan (P := Try.prog) (c := (loopOf Try.f151 0)) (List.zipWith ord3 xs ys) (fun d => d != 0) (fun i => slices_Compare_int_L0 (xs.map eI) (ys.map eI) i) (X := fun _ d => slices_Compare_int_X0 d) ret_ne (exit_ne 0)
    (fun i d hd h => by
      obtain ⟨a, b, ha, hb, rfl⟩ := zip_get hd
      exact slices_Compare_int_L0_s2 _ _ _ _ _ _ ⟨lt1 (lt_of ha), lt0, lt2 (lt_of ha), at_map eI ha, dF (by have := lt_of hb; simp; omega), lt0, lt2 (lt_of hb), at_map eI hb, cmp_Compare_int_ret a b, h, up1 (lt_of ha) hm, trivial⟩)
    (fun i d hd h => by
      obtain ⟨a, b, ha, hb, rfl⟩ := zip_get hd
      exact slices_Compare_int_L0_x1 _ _ _ _ _ _ ⟨lt1 (lt_of ha), lt0, lt2 (lt_of ha), at_map eI ha, dF (by have := lt_of hb; simp; omega), lt0, lt2 (lt_of hb), at_map eI hb, cmp_Compare_int_ret a b, h, trivial⟩)
    (by rw [hz]; exact slices_Compare_int_L0_x3 _ _ _ ⟨ge1, trivial⟩)
  unfold lexN
  rcases l with ⟨h1, _, _, h2⟩ | ⟨i, a, _, _, h1, _, _, h2⟩
  · rw [h1]; exact slices_Compare_int_p2 _ _ ⟨h2, by simp [hl], trivial⟩
  · rw [h1]; exact slices_Compare_int_p0 _ _ _ ⟨h2, trivial⟩

theorem impl_orderOf_ret (xs ys : List Int) (hl : xs.length = ys.length) (hm : xs.length ≤ 1048576) : Ret Try.prog 132 [.one (.sl 1 (xs.map eI)), .one (.sl 1 (ys.map eI))] [.one (I (lexN (List.zipWith ord3 xs ys)))] :=
  impl_orderOf_p0 _ _ _ ⟨slices_Compare_int_ret xs ys hl hm, trivial⟩

def cellOrd (a b : Cell) : Int := lexN [ord3 a.epoch b.epoch, ord3 a.op b.op, ord3 a.key b.key, ord3 a.val b.val]

theorem impl_CellOrder_ret (a b : Cell) : Ret Try.prog 104 [.agg a.e, .agg b.e] [.one (I (cellOrd a b))] :=
  impl_CellOrder_p0 _ _ _ _ _ _ _ _ _ ⟨impl_orderOf_ret [a.epoch, a.op, a.key, a.val] [b.epoch, b.op, b.key, b.val] rfl (by simp), trivial⟩

theorem spec_CellOrder_ret (a b : Cell) : Ret Try.prog 101 [.agg a.e, .agg b.e] [.one (I (cellOrd a b))] := by
  have o1 := spec_l02Order_ret a.epoch b.epoch
  have o2 := spec_l02Order_ret a.op b.op
  have o3 := spec_l02Order_ret a.key b.key
  have o4 := spec_l02Order_ret a.val b.val
  unfold cellOrd
  generalize ord3 a.epoch b.epoch = x1 at *
  generalize ord3 a.op b.op = x2 at *
  generalize ord3 a.key b.key = x3 at *
  generalize ord3 a.val b.val = x4 at *
  have l := loop_scan (P := Try.prog) (c := (loopOf Try.f101 0)) [x1, x2, x3, x4] (fun d => d != 0) (fun i => spec_CellOrder_L0 x1 x2 x3 x4 i) (X := fun _ d => spec_CellOrder_X0 d) ret_ne (exit_ne 0)
    (fun i d hd h => spec_CellOrder_L0_s1 _ _ _ _ _ _ ⟨dT (by have := lt_of hd; simp at this; omega), lt0, by have := lt_of hd; simp at this ⊢; omega, at_map eI hd, h, ⟨by omega, by have := lt_of hd; simp at this; omega⟩, trivial⟩)
    (fun i d hd h => spec_CellOrder_L0_x0 _ _ _ _ _ _ _ ⟨dT (by have := lt_of hd; simp at this; omega), lt0, by have := lt_of hd; simp at this ⊢; omega, at_map eI hd, h, lt0, by have := lt_of hd; simp at this ⊢; omega, at_map eI hd, trivial⟩)
    (spec_CellOrder_L0_x2 _ _ _ _ _ ⟨rfl, trivial⟩)
  unfold lexN
  rcases l with ⟨h1, _, _, h2⟩ | ⟨i, a, _, _, h1, _, _, h2⟩
  · rw [h1]; exact spec_CellOrder_p1 _ _ _ _ _ _ _ _ _ _ _ _ ⟨o1, o2, o3, o4, h2, trivial⟩
  · rw [h1]; exact spec_CellOrder_p0 _ _ _ _ _ _ _ _ _ _ _ _ _ ⟨o1, o2, o3, o4, h2, trivial⟩
end Go.Proofs.Ytbbjajmimckabaa
