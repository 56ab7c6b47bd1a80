/- FnOneLess: the law's function returns true. -/
import Derived.Test.YtenekpkjlgddnaaP63
import Derived.Test.YtenekpkjlgddnaaP7
import Derived.Test.YtenekpkjlgddnaaC5
import Derived.Test.YtenekpkjlgddnaaGH
import Derived.Test.YtenekpkjlgddnaaGO
set_option linter.unusedVariables false
set_option linter.unusedSimpArgs false
namespace Go.Proofs.Ytenekpkjlgddnaa
open Go.Sx Go.RowKit Go.Sort

/-- Nil slices are empty lists. -/
theorem ret_nil2 {P : Program} {f : FuncId} {k1 k2 : Nat} {rs : List AD} (h : Ret P f [.one (.sl k1 []), .one (.sl k2 [])] rs) : Ret P f [.one (.v (.slice none 0 0)), .one (.v (.slice none 0 0))] rs := by
  intro w vs hv
  refine h w vs ⟨hv.1, fun i ad hi => ?_⟩
  have go : ∀ (k : Nat) (v : Value), ArgOk w (.one (.v (.slice none 0 0))) v → ArgOk w (.one (.sl k [])) v := by
    intro k v hv
    have e : v = .slice none 0 0 := by cases hv; rfl
    subst e
    exact .nil _ _ _
  match i with
  | 0 =>
    obtain ⟨v, h1, h2⟩ := hv.2 0 _ rfl
    simp at hi; subst hi
    exact ⟨v, h1, go _ _ h2⟩
  | 1 =>
    obtain ⟨v, h1, h2⟩ := hv.2 1 _ rfl
    simp at hi; subst hi
    exact ⟨v, h1, go _ _ h2⟩
  | i + 2 => simp at hi

theorem sortR_perm {xs ys : List Record} (h : xs.Perm ys) : sortI (ltOf recOrd) xs = sortI (ltOf recOrd) ys := by
  obtain ⟨h1, h2⟩ := sortI_go recO xs [] List.Pairwise.nil
  obtain ⟨h3, h4⟩ := sortI_go recO ys [] List.Pairwise.nil
  refine List.Perm.eq_of_pairwise (le := fun x y => (!ltOf recOrd y x) = true) ?_ h1 h3 ((show (sortI (ltOf recOrd) xs).Perm xs from h2).trans (h.trans (show (sortI (ltOf recOrd) ys).Perm ys from h4).symm))
  intro a b _ _ h5 h6
  simp only [Bool.not_eq_true'] at h5 h6
  exact recT a b h6 h5

theorem sameBag_ret (xs ys : List Record) (h : xs.Perm ys) (hl : xs.length ≤ 8388608) : Ret Try.prog 17 [.one (.sl 5 (xs.map Record.e)), .one (.sl 5 (ys.map Record.e))] [.one (B true)] := by
  have e : decide (sortI (ltOf recOrd) xs = sortI (ltOf recOrd) ys) = true := decide_eq_true (sortR_perm h)
  have := impl_SameBag_p0 _ _ _ _ _ ⟨impl_SortRecords_ret xs hl, impl_SortRecords_ret ys (by rw [← h.length_eq]; exact hl), slices_Equal_Record_ret _ _ (by rw [sortR_length]; exact hl), trivial⟩
  rw [e] at this
  exact this

theorem oneLess_loop (xs ys : List Record) (r : Record) (hl : xs.length ≤ 8388608) : LoopOk Try.prog (loopOf Try.f4 0) (laws_FnOneLess_L0 (xs.map Record.e) r.op r.stamp.epoch r.stamp.turn r.key r.val (ys.map Record.e) 0 0) (.exit 0)
    (laws_FnOneLess_X0 (xs.map Record.e) r.op r.stamp.epoch r.stamp.turn r.key r.val (ys.map Record.e) (if xs.any (fun a => decide (a = r)) then 1 else 0)) := by
  have key := loop_upto (P := Try.prog) (c := (loopOf Try.f4 0)) (e := .exit 0) (exit_ne 0) xs.length (fun i => laws_FnOneLess_L0 (xs.map Record.e) r.op r.stamp.epoch r.stamp.turn r.key r.val (ys.map Record.e) i (if (xs.take i).any (fun a => decide (a = r)) then 1 else 0))
    (stE := laws_FnOneLess_X0 (xs.map Record.e) r.op r.stamp.epoch r.stamp.turn r.key r.val (ys.map Record.e) (if xs.any (fun a => decide (a = r)) then 1 else 0)) (fun i hi => ?_) (by
      rw [List.take_length]
      exact laws_FnOneLess_L0_x2 _ _ _ _ _ _ _ _ _ ⟨ge1, trivial⟩)
  · simpa using key
  · obtain ⟨a, ha⟩ := get_of hi
    have e : (xs.take (i + 1)).any (fun a => decide (a = r)) = ((xs.take i).any (fun a => decide (a = r)) || decide (a = r)) := by
      rw [List.take_add_one, ha, List.any_append]; simp
    cases h : decide (a = r) with
    | true =>
      rw [e, h, Bool.or_true, if_pos rfl]
      exact laws_FnOneLess_L0_s0 _ _ _ _ _ _ _ _ _ _ _ _ _ _ ⟨lt1 hi, lt0, lt2 hi, at_map Record.e ha, (recEq a r).trans h, up1 hi hl, trivial⟩
    | false =>
      rw [e, h, Bool.or_false]
      exact laws_FnOneLess_L0_s1 _ _ _ _ _ _ _ _ _ _ _ _ _ _ ⟨lt1 hi, lt0, lt2 hi, at_map Record.e ha, (recEq a r).trans h, up1 hi hl, trivial⟩

theorem law_OneLess (b : List Int) (hb : ∀ a ∈ b, (fun n => 0 ≤ n ∧ n ≤ 255) a) : Ret Try.prog 4 [.one (.sl 1 (b.map eU))] [.one (B true)] := by
  by_cases hbig : (b.length : Int) > 1048576
  · have := laws_big_p0 (b.map eU) trivial
    rw [decide_eq_true (by simpa using hbig)] at this
    exact laws_FnOneLess_p0 _ _ ⟨this, rfl, trivial⟩
  have big := laws_big_p0 (b.map eU) trivial
  rw [decide_eq_false (by simpa using hbig)] at big
  obtain ⟨xs, r, x1, x2, hr, draw⟩ := spec_DrawWithoutOne_ret b ⟨by omega, hb⟩
  have wo := impl_WithoutOne_ret xs r (by omega)
  have l := oneLess_loop xs (withoutOne xs r) r (by omega)
  have wo1 : Ret Try.prog 16 [.one (.sl 5 [[I 0, I 0, I 0, I 1, I 0]]), .agg [I 0, I 0, I 0, I 1, I 0]] [.one (.sl 5 [])] := impl_WithoutOne_ret [⟨0, ⟨0, 0⟩, 1, 0⟩] ⟨0, ⟨0, 0⟩, 1, 0⟩ (by simp)
  have bag0 := ret_nil2 (sameBag_ret [] [] (.refl _) (by simp))
  have hw := withoutOne_le xs r
  cases hany : xs.any (fun a => decide (a = r)) with
  | true =>
    rw [hany, if_pos rfl] at l
    obtain ⟨i, hi1, hi2⟩ : ∃ i, withoutOne xs r = xs.take i ++ xs.drop (i + 1) ∧ xs[i]? = some r := by
      unfold withoutOne
      cases h : xs.findIdx? (fun a => decide (a = r)) with
      | none =>
        rw [List.findIdx?_eq_none_iff] at h
        obtain ⟨a, ha, e⟩ := List.any_eq_true.1 hany
        rw [h a ha] at e; cases e
      | some i =>
        rw [List.findIdx?_eq_some_iff_getElem] at h
        obtain ⟨h1, h2, _⟩ := h
        exact ⟨i, rfl, by rw [List.getElem?_eq_getElem h1, of_decide_eq_true h2]⟩
    have hil := lt_of hi2
    have hlen : (withoutOne xs r).length = xs.length - 1 := by
      rw [hi1]; simp; omega
    have hp : (withoutOne xs r ++ [r]).Perm xs := by
      rw [hi1]
      have e : xs.drop i = r :: xs.drop (i + 1) := by
        rw [List.drop_eq_getElem_cons hil]
        rw [List.getElem?_eq_getElem hil] at hi2
        rw [Option.some.inj hi2]
      have e2 : xs.take i ++ r :: xs.drop (i + 1) = xs := by rw [← e, List.take_append_drop]
      rw [List.append_assoc]
      have e3 : (xs.take i ++ (xs.drop (i + 1) ++ [r])).Perm (xs.take i ++ r :: xs.drop (i + 1)) := List.Perm.append_left _ List.perm_append_comm
      rwa [e2] at e3
    have bag := sameBag_ret _ _ hp (by simp; omega)
    rw [List.map_append] at bag
    exact laws_FnOneLess_p6 _ _ _ _ _ _ _ _ _ _ _ _ _ ⟨big, rfl, draw, wo, l, ⟨by simp; omega, by simp; omega⟩, by simp [hlen]; omega, rfl, by simp; omega, by simp; omega, flatRs _, by simp; omega, by simp; omega, flatR r, bag, rfl, rfl, wo1, rfl, bag0, trivial⟩
  | false =>
    rw [hany, if_neg (by simp)] at l
    have hn : withoutOne xs r = xs := by
      unfold withoutOne
      cases h : xs.findIdx? (fun a => decide (a = r)) with
      | none => rfl
      | some i =>
        rw [List.findIdx?_eq_some_iff_getElem] at h
        have : xs.any (fun a => decide (a = r)) = true := List.any_eq_true.2 ⟨_, List.getElem_mem h.1, h.2.1⟩
        rw [hany] at this; cases this
    rw [hn] at wo l
    have same := laws_sameRecords_ret' xs xs true (by simp) (by omega)
    exact laws_FnOneLess_p3 _ _ _ _ _ _ _ _ _ _ _ _ _ ⟨big, rfl, draw, wo, l, ⟨by simp <;> omega, by simp <;> omega⟩, by simp, rfl, rfl, same, rfl, wo1, rfl, bag0, trivial⟩
end Go.Proofs.Ytenekpkjlgddnaa
