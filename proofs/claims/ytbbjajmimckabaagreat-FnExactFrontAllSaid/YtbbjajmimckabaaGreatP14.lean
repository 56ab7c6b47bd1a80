/- Minimal, FrontAll: what program and reference compute; the law FrontAll answers true. -/
import Derived.Test.YtbbjajmimckabaaGreatP12
import Derived.Test.YtbbjajmimckabaaGreatC4
import Derived.Test.YtbbjajmimckabaaGreatT7
import Derived.Test.YtbbjajmimckabaaGreatGO
set_option linter.unusedVariables false
set_option linter.unusedSimpArgs false
namespace Go.Proofs.YtbbjajmimckabaaGreat
open Go.Sx Go.RowKit Go.Sort

def leqS (a b : Stamp) : Bool := if a.epoch ≤ b.epoch then decide (a.turn ≤ b.turn) else false

theorem spec_StampLeq_ret (a b : Stamp) : Ret Tryz.prog 83 [.agg a.e, .agg b.e] [.one (B (leqS a b))] := by
  unfold leqS
  by_cases h : a.epoch ≤ b.epoch
  · rw [if_pos h]; exact spec_StampLeq_p0 _ _ _ _ ⟨dT h, trivial⟩
  · rw [if_neg h]; exact spec_StampLeq_p1 _ _ _ _ ⟨dF h, trivial⟩

theorem impl_StampLeq_ret (a b : Stamp) : Ret Tryz.prog 87 [.agg a.e, .agg b.e] [.one (B (leqS a b))] := by
  unfold leqS
  by_cases h : a.epoch ≤ b.epoch
  · rw [if_pos h]; exact impl_StampLeq_p0 _ _ _ _ ⟨dT h, trivial⟩
  · rw [if_neg h]; exact impl_StampLeq_p1 _ _ _ _ ⟨dF h, trivial⟩

theorem stampEq (a x : Stamp) : (a.epoch == x.epoch && a.turn == x.turn) = decide (a = x) := by
  cases a; cases x
  simp only [Stamp.mk.injEq]
  rw [Bool.eq_iff_iff]
  simp

theorem stampEq' (a x : Stamp) : (x.epoch == a.epoch && x.turn == a.turn) = decide (a = x) := by
  rw [stampEq x a]
  exact decide_eq_decide.2 ⟨Eq.symm, Eq.symm⟩

/-- One that is strictly below x. -/
def under (x y : Stamp) : Bool := !decide (y = x) && leqS y x
def least (xs : List Stamp) (x : Stamp) : Bool := !(xs.any (under x))
def hasS (xs : List Stamp) (x : Stamp) : Bool := xs.any fun a => decide (a = x)
def minStep (xs : List Stamp) (out : List Stamp) (x : Stamp) : List Stamp := if least xs x && !hasS out x then out ++ [x] else out
def minTo (xs : List Stamp) (i : Nat) : List Stamp := foldTo (minStep xs) [] xs i
def minimal (xs : List Stamp) : List Stamp := sortI (ltOf stampOrd) (minTo xs xs.length)

theorem hasS_mem (xs : List Stamp) (x : Stamp) : hasS xs x = true ↔ x ∈ xs := by
  simp only [hasS, List.any_eq_true, decide_eq_true_eq]
  constructor
  · rintro ⟨a, ha, rfl⟩; exact ha
  · exact fun h => ⟨x, h, rfl⟩

theorem minTo_le (xs : List Stamp) : ∀ i, i ≤ xs.length → (minTo xs i).length ≤ i
  | 0, _ => by simp [minTo, foldTo]
  | i + 1, h => by
    obtain ⟨a, ha⟩ := get_of (xs := xs) (i := i) (by omega)
    have := minTo_le xs i (by omega)
    have e : minTo xs (i + 1) = minStep xs (minTo xs i) a := foldTo_succ ha
    rw [e]
    unfold minStep
    split
    · rw [List.length_append]; simp; omega
    · omega

theorem sortS_length (xs : List Stamp) : (sortI (ltOf stampOrd) xs).length = xs.length := by simp [sortI, sortI_length]
theorem minimal_le {xs : List Stamp} : (minimal xs).length ≤ xs.length := by
  rw [minimal, sortS_length]; exact minTo_le xs _ (Nat.le_refl _)

theorem under_ret (a x : Stamp) : Ret Tryz.prog 86 [.agg a.e, .one (.ptr x.e)] [.one (B (under x a))] := by
  unfold under
  by_cases h : a = x
  · rw [show decide (a = x) = true from dT h]
    exact impl_Minimal_1_p1 _ _ _ _ ⟨by rw [stampEq, dT h]; rfl, trivial⟩
  · rw [show decide (a = x) = false from dF h, Bool.not_false, Bool.true_and]
    exact impl_Minimal_1_p0 _ _ _ _ _ ⟨by rw [stampEq, dF h]; rfl, impl_StampLeq_ret a x, trivial⟩

theorem slices_Index_Stamp_ret (xs : List Stamp) (x : Stamp) (hl : xs.length ≤ 1048576) : Ret Tryz.prog 116 [.one (.sl 2 (xs.map Stamp.e)), .agg x.e] [.one (I (idxI (fun a => decide (a = x)) xs))] := by
  have l := loop_scan (P := Tryz.prog) (c := (loopOf Tryz.f116 0)) xs (fun a => decide (a = x)) (fun i => slices_Index_Stamp_L0 (xs.map Stamp.e) x.epoch x.turn i) (X := fun i _ => slices_Index_Stamp_X0 i) ret_ne (exit_ne 0)
    (fun i a ha h => slices_Index_Stamp_L0_s1 _ _ _ _ _ _ ⟨lt1 (lt_of ha), lt0, lt2 (lt_of ha), at_map Stamp.e ha, (stampEq' a x).trans h, up1 (lt_of ha) hl, trivial⟩)
    (fun i a ha h => slices_Index_Stamp_L0_x0 _ _ _ _ _ _ ⟨lt1 (lt_of ha), lt0, lt2 (lt_of ha), at_map Stamp.e ha, (stampEq' a x).trans h, trivial⟩)
    (slices_Index_Stamp_L0_x2 _ _ _ _ ⟨ge1, trivial⟩)
  unfold idxI
  rcases l with ⟨_, h1, _, h2⟩ | ⟨i, a, _, _, _, h1, _, h2⟩
  · simp only [h1]; exact slices_Index_Stamp_p1 _ _ _ ⟨h2, trivial⟩
  · simp only [h1]; exact slices_Index_Stamp_p0 _ _ _ _ ⟨h2, trivial⟩

theorem slices_Contains_Stamp_ret' (xs : List Stamp) (x : Stamp) (r : Bool) (h : hasS xs x = r) (hl : xs.length ≤ 1048576) : Ret Tryz.prog 88 [.one (.sl 2 (xs.map Stamp.e)), .agg x.e] [.one (B r)] := by
  rw [← h, hasS, ← idxI_ge]
  exact slices_Contains_Stamp_p0 _ _ _ _ ⟨slices_Index_Stamp_ret xs x hl, trivial⟩

theorem contains_under' (xs : List Stamp) (x : Stamp) (r : Bool) (h : xs.any (under x) = r) (hl : xs.length ≤ 1048576) : Ret Tryz.prog 85 [.one (.sl 2 (xs.map Stamp.e)), .one (.cl 86 [D.ptr x.e])] [.one (B r)] :=
  h ▸ slices_ContainsFunc_Stamp_ret xs (under x) 86 [D.ptr x.e] hl (by kernel_rfl) (fun a _ => under_ret a x)

theorem impl_Minimal_ret (xs : List Stamp) (hl : xs.length ≤ 1048576) : Ret Tryz.prog 51 [.one (.sl 2 (xs.map Stamp.e))] [.one (.sl 2 ((minimal xs).map Stamp.e))] := by
  have l := loop_upto (P := Tryz.prog) (c := (loopOf Tryz.f51 0)) (exit_ne 0) xs.length (fun i : Nat => impl_Minimal_L0 (xs.map Stamp.e) i ((minTo xs i).map Stamp.e)) (fun i hi => by
    obtain ⟨a, ha⟩ := get_of hi
    have hm := minTo_le xs i (by omega)
    have e : minTo xs (i + 1) = minStep xs (minTo xs i) a := foldTo_succ ha
    rw [e]
    unfold minStep least
    cases h1 : xs.any (under a) with
    | true =>
      simp only [Bool.not_true, Bool.false_and, Bool.false_eq_true, if_false]
      exact impl_Minimal_L0_s2 _ _ _ _ _ _ ⟨lt1 hi, lt0, lt2 hi, at_map Stamp.e ha, contains_under' xs a true h1 hl, rfl, up1 hi hl, trivial⟩
    | false =>
      cases h2 : hasS (minTo xs i) a with
      | true =>
        simp only [Bool.not_false, Bool.not_true, Bool.true_and, Bool.false_eq_true, if_false]
        exact impl_Minimal_L0_s1 _ _ _ _ _ _ _ ⟨lt1 hi, lt0, lt2 hi, at_map Stamp.e ha, contains_under' xs a false h1 hl, rfl, slices_Contains_Stamp_ret' _ a true h2 (by omega), rfl, up1 hi hl, trivial⟩
      | false =>
        simp only [Bool.not_false, Bool.true_and, if_true, List.map_append]
        exact impl_Minimal_L0_s0 _ _ _ _ _ _ _ ⟨lt1 hi, lt0, lt2 hi, at_map Stamp.e ha, contains_under' xs a false h1 hl, rfl, slices_Contains_Stamp_ret' _ a false h2 (by omega), rfl, by simp; omega, by simp; omega, flat_one a.flat, up1 hi hl, trivial⟩) (impl_Minimal_L0_x3 _ _ _ ⟨ge1, trivial⟩)
  have hm := minTo_le xs xs.length (Nat.le_refl _)
  have s := slices_SortFunc_Stamp_ret (minTo xs xs.length) stampOrd stampO stampT 90 (call_enter (by kernel_rfl)) impl_StampOrder_ret (by omega)
  rw [minimal, sortI_eq stampO stampT]
  exact impl_Minimal_p0 _ _ _ ⟨l, s, trivial⟩

theorem all_take {α : Type} (p : α → Bool) {xs : List α} {i : Nat} {a : α} (h : xs[i]? = some a) : (xs.take (i + 1)).all p = ((xs.take i).all p && p a) := by
  simp [List.take_add_one, h, List.all_append]

theorem spec_Minimal_ret (xs : List Stamp) (hl : xs.length ≤ 1048576) : Ret Tryz.prog 50 [.one (.sl 2 (xs.map Stamp.e))] [.one (.sl 2 ((minimal xs).map Stamp.e))] := by
  have inner : ∀ (i : Nat) (x : Stamp) (S : List Stamp), xs[i]? = some x → LoopOk Tryz.prog (loopOf Tryz.f50 1) (spec_Minimal_L1 (xs.map Stamp.e) i (S.map Stamp.e) 0 true) (.exit 2) (spec_Minimal_X1 (xs.map Stamp.e) i (S.map Stamp.e) (least xs x)) := by
    intro i x S hx
    let p := fun y : Stamp => !under x y
    have l := loop_upto (P := Tryz.prog) (c := (loopOf Tryz.f50 1)) (exit_ne 2) xs.length (fun j : Nat => spec_Minimal_L1 (xs.map Stamp.e) i (S.map Stamp.e) j ((xs.take j).all p)) (fun j hj => by
      obtain ⟨y, hy⟩ := get_of hj
      rw [all_take p hy]
      cases hb : (xs.take j).all p with
      | false =>
        rw [Bool.false_and]
        exact spec_Minimal_L1_s2 _ _ _ _ _ ⟨lt1 hj, rfl, up1 hj hl, trivial⟩
      | true =>
        rw [Bool.true_and]
        by_cases he : y = x
        · have hp : p y = true := by simp [p, under, he]
          rw [hp]
          exact spec_Minimal_L1_s0 _ _ _ _ _ _ _ _ _ ⟨lt1 hj, rfl, lt0, lt2 hj, at_map Stamp.e hy, lt0, lt2 (lt_of hx), at_map Stamp.e hx, by rw [stampEq, dT he], up1 hj hl, trivial⟩
        · have hp : p y = !leqS y x := by simp [p, under, he]
          rw [hp]
          exact spec_Minimal_L1_s1 _ _ _ _ _ _ _ _ _ _ _ _ _ _ ⟨lt1 hj, rfl, lt0, lt2 hj, at_map Stamp.e hy, lt0, lt2 (lt_of hx), at_map Stamp.e hx, by rw [stampEq, dF he], lt0, lt2 hj, at_map Stamp.e hy, lt0, lt2 (lt_of hx), at_map Stamp.e hx, spec_StampLeq_ret y x, up1 hj hl, trivial⟩) (spec_Minimal_L1_x3 _ _ _ _ _ ⟨ge1, trivial⟩)
    rw [List.take_length] at l
    have e : xs.all p = least xs x := by unfold least; rw [List.not_any_eq_all_not]
    rw [e] at l
    exact l
  have place : ∀ (i : Nat) (x : Stamp) (S : List Stamp), xs[i]? = some x → S.length ≤ 1048576 → LoopOk Tryz.prog (loopOf Tryz.f50 2) (spec_Minimal_L2 (xs.map Stamp.e) i (S.map Stamp.e) 0) (.exit 4) (spec_Minimal_X2 (xs.map Stamp.e) i (S.map Stamp.e) (plS (ltOf stampOrd) S x : Nat)) := by
    intro i x S hx hS
    have l := loop_scan (P := Tryz.prog) (c := (loopOf Tryz.f50 2)) S (fun a => !ltOf stampOrd a x) (fun j => spec_Minimal_L2 (xs.map Stamp.e) i (S.map Stamp.e) j) (X := fun j _ => spec_Minimal_X2 (xs.map Stamp.e) i (S.map Stamp.e) j) (exit_ne 4) (exit_ne 4)
      (fun j a ha h => spec_Minimal_L2_s0 _ _ _ _ _ _ _ _ _ ⟨lt1 (lt_of ha), lt0, lt2 (lt_of ha), at_map Stamp.e ha, lt0, lt2 (lt_of hx), at_map Stamp.e hx, spec_StampOrder_ret a x, by simpa [ltOf] using h, up1 (lt_of ha) hS, trivial⟩)
      (fun j a ha h => spec_Minimal_L2_x1 _ _ _ _ _ _ _ _ _ ⟨lt1 (lt_of ha), lt0, lt2 (lt_of ha), at_map Stamp.e ha, lt0, lt2 (lt_of hx), at_map Stamp.e hx, spec_StampOrder_ret a x, by simpa [ltOf] using h, trivial⟩)
      (spec_Minimal_L2_x2 _ _ _ _ ⟨ge1, trivial⟩)
    unfold plS
    rcases l with ⟨_, h1, _, h2⟩ | ⟨j, a, _, _, _, h1, _, h2⟩
    · rw [h1]; exact h2
    · rw [h1]; exact h2
  have l := loop_upto (P := Tryz.prog) (c := (loopOf Tryz.f50 0)) (exit_ne 0) xs.length (fun i : Nat => spec_Minimal_L0 (xs.map Stamp.e) i ((sortI (ltOf stampOrd) (minTo xs i)).map Stamp.e)) (fun i hi => by
    obtain ⟨a, ha⟩ := get_of hi
    have hm := minTo_le xs i (by omega)
    have e : minTo xs (i + 1) = minStep xs (minTo xs i) a := foldTo_succ ha
    rw [e]
    have hi1 := inner i a (sortI (ltOf stampOrd) (minTo xs i)) ha
    have hlen := sortS_length (minTo xs i)
    unfold minStep
    cases h1 : least xs a with
    | false =>
      rw [h1] at hi1
      simp only [Bool.false_and, Bool.false_eq_true, if_false]
      exact spec_Minimal_L0_s0 _ _ _ _ ⟨lt1 hi, hi1, rfl, up1 hi hl, trivial⟩
    | true =>
      rw [h1] at hi1
      have hpl := place i a (sortI (ltOf stampOrd) (minTo xs i)) ha (by omega)
      have hmem := hasS_mem (minTo xs i) a
      rw [← sortI_mem stampO] at hmem
      have hsn := sortI_snoc (ltOf stampOrd) (minTo xs i) a
      have hso := sortI_sorted stampO (minTo xs i)
      cases h2 : hasS (minTo xs i) a with
      | true =>
        have hat := plS_mem stampO stampT hso (hmem.1 h2)
        simp only [Bool.true_and, Bool.not_true, Bool.false_eq_true, if_false]
        generalize sortI (ltOf stampOrd) (minTo xs i) = S at *
        generalize plS (ltOf stampOrd) S a = p at *
        exact spec_Minimal_L0_s1 _ _ _ _ _ _ _ _ _ ⟨lt1 hi, hi1, rfl, hpl, lt1 (lt_of hat), lt0, lt2 (lt_of hat), at_map Stamp.e hat, lt0, lt2 hi, at_map Stamp.e ha, by rw [stampEq]; exact dT rfl, up1 hi hl, trivial⟩
      | false =>
        have hno : ¬ a ∈ sortI (ltOf stampOrd) (minTo xs i) := by rw [← hmem, h2]; simp
        have hpc := plc_eq stampO stampT hso hno
        have hple := plS_le (ltOf stampOrd) (sortI (ltOf stampOrd) (minTo xs i)) a
        simp only [Bool.true_and, Bool.not_false, if_true]
        rw [hsn, insR, hpc]
        generalize sortI (ltOf stampOrd) (minTo xs i) = S at *
        generalize plS (ltOf stampOrd) S a = p at *
        have fin : ∀ q : List (List D), q = (S.take p ++ a :: S.drop p).map Stamp.e → q = (S.take p ++ a :: S.drop p).map Stamp.e := fun _ h => h
        rcases Nat.lt_or_ge p S.length with hp | hp
        · obtain ⟨z, hz⟩ := get_of hp
          have hza : ¬ z = a := fun h => hno (h ▸ mem_of hz)
          refine tr_to (spec_Minimal_L0 _ _) (spec_Minimal_L0_s2 _ _ _ _ _ _ _ _ _ _ _ ⟨lt1 hi, hi1, rfl, hpl, lt1 hp, lt0, lt2 hp, at_map Stamp.e hz, lt0, lt2 hi, at_map Stamp.e ha, by rw [stampEq]; exact dF hza, by simp, by simp, by simp; omega, by simp; omega, by simp; omega, ?_, lt0, lt2 hi, at_map Stamp.e ha, by simp; omega, by simp; omega, flat_one a.flat, by simp, by simp; omega, by simp, by simp; omega, by simp; omega, ?_, up1 hi hl, trivial⟩) ?_
          · simp only [Option.getD_some, Int.toNat_natCast, Nat.sub_zero, List.drop_zero, ← List.map_take]
            exact flat_map _ Stamp.flat _
          · simp only [Option.getD_some, Int.toNat_natCast, ← List.map_take, ← List.map_drop]
            exact flat_map _ Stamp.flat _
          · simp only [Option.getD_some, Int.toNat_natCast, Nat.sub_zero, List.drop_zero, List.nil_append, ← List.map_take, ← List.map_drop, List.map_append, List.map_cons, List.append_assoc]
            congr 1
            rw [List.take_of_length_le (by simp)]
            rfl
        · refine tr_to (spec_Minimal_L0 _ _) (spec_Minimal_L0_s3 _ _ _ _ _ _ _ ⟨lt1 hi, hi1, rfl, hpl, dF (by simp; omega), by simp, by simp, by simp; omega, by simp; omega, by simp; omega, ?_, lt0, lt2 hi, at_map Stamp.e ha, by simp; omega, by simp; omega, flat_one a.flat, by simp, by simp; omega, by simp, by simp; omega, by simp; omega, ?_, up1 hi hl, trivial⟩) ?_
          · simp only [Option.getD_some, Int.toNat_natCast, Nat.sub_zero, List.drop_zero, ← List.map_take]
            exact flat_map _ Stamp.flat _
          · simp only [Option.getD_some, Int.toNat_natCast, ← List.map_take, ← List.map_drop]
            exact flat_map _ Stamp.flat _
          · simp only [Option.getD_some, Int.toNat_natCast, Nat.sub_zero, List.drop_zero, List.nil_append, ← List.map_take, ← List.map_drop, List.map_append, List.map_cons, List.append_assoc]
            congr 1
            rw [List.take_of_length_le (by simp)]
            rfl) (spec_Minimal_L0_x4 _ _ _ ⟨ge1, trivial⟩)
  exact spec_Minimal_p0 _ _ ⟨l, trivial⟩

/-! ### FrontAll -/
def frontRaw (c : Cluster) : List Record := pendAll c ++ c.workers.flatMap Worker.inputs
def frontAll (c : Cluster) : List Stamp := minimal ((frontRaw c).map Record.stamp)

theorem frontRaw_le {c : Cluster} (h : c.sz ≤ 1048576) : (frontRaw c).length ≤ 1048576 := by
  have := pendRaw_le h
  rw [frontRaw, List.length_append, pendAll_len]; omega
theorem frontAll_le {c : Cluster} (h : c.sz ≤ 1048576) : (frontAll c).length ≤ 1048576 := by
  have := frontRaw_le h
  have h2 := minimal_le (xs := (frontRaw c).map Record.stamp)
  rw [List.length_map] at h2
  exact Nat.le_trans h2 this

theorem spec_FrontAll_ret (c : Cluster) (hc : c.sz ≤ 1048576) : Ret Tryz.prog 18 [.agg c.e] [.one (.sl 2 ((frontAll c).map Stamp.e))] := by
  have hr := frontRaw_le hc
  have l0 := loop_upto (P := Tryz.prog) (c := (loopOf Tryz.f18 0)) (exit_ne 0) c.workers.length (fun i : Nat => spec_FrontAll_L0 (c.graph.nodes.map Node.e) c.graph.workers c.graph.cap (c.workers.map Worker.e) (c.links.map Link.e) (c.tokens.map Token.e) (c.news.map News.e) i ((pendAll c ++ (c.workers.take i).flatMap Worker.inputs).map Record.e)) (fun i hi => by
    obtain ⟨w, hw⟩ := get_of hi
    have h1 := flatMap_take Worker.inputs hw
    have h2 := flatMap_take_le Worker.inputs c.workers (i + 1)
    have h4 : (pendAll c).length + ((c.workers.take i).flatMap Worker.inputs).length + w.inputs.length ≤ 1048576 := by
      rw [h1, List.length_append] at h2; rw [frontRaw, List.length_append] at hr; omega
    refine tr_to (spec_FrontAll_L0 _ _ _ _ _ _ _ _) (spec_FrontAll_L0_s0 _ _ _ _ _ _ _ _ _ _ _ _ _ _ _ _ _ ⟨lt1 hi, lt0, lt2 hi, at_map Worker.e hw, by simp only [List.length_map, List.length_append]; omega, by simp only [List.length_map, List.length_append]; omega, flat_map _ Record.flat _, up1 hi (Cluster.wlen_le hc), trivial⟩) ?_
    rw [h1]
    simp only [List.map_append, List.append_assoc]) (spec_FrontAll_L0_x1 _ _ _ _ _ _ _ _ _ ⟨ge1, trivial⟩)
  rw [List.take_length] at l0
  simp only [List.take_zero, List.flatMap_nil, List.append_nil] at l0
  change LoopOk _ _ _ _ (spec_FrontAll_X0 ((frontRaw c).map Record.e)) at l0
  have p := spec_PendingAll_ret c hc
  have m := spec_Minimal_ret ((frontRaw c).map Record.stamp) (by rw [List.length_map]; exact hr)
  unfold frontAll
  generalize frontRaw c = xs at *
  have l1 := loop_upto (P := Tryz.prog) (c := (loopOf Tryz.f18 1)) (exit_ne 2) xs.length (fun i : Nat => spec_FrontAll_L1 (xs.map Record.e) i (((xs.take i).map Record.stamp).map Stamp.e)) (fun i hi => by
    obtain ⟨a, ha⟩ := get_of hi
    have e : (xs.take (i + 1)).map Record.stamp = (xs.take i).map Record.stamp ++ [a.stamp] := by simp [List.take_add_one, ha]
    rw [e, List.map_append]
    exact spec_FrontAll_L1_s0 _ _ _ _ _ _ _ _ ⟨lt1 hi, lt0, lt2 hi, at_map Record.e ha, by simp; omega, by simp; omega, flat_one a.stamp.flat, up1 hi hr, trivial⟩) (spec_FrontAll_L1_x1 _ _ _ ⟨ge1, trivial⟩)
  rw [List.take_length] at l1
  exact spec_FrontAll_p0 _ _ _ _ _ _ _ _ _ _ _ ⟨p, l0, l1, m, trivial⟩

theorem impl_FrontAll_ret (c : Cluster) (hc : c.sz ≤ 1048576) : Ret Tryz.prog 19 [.agg c.e] [.one (.sl 2 ((frontAll c).map Stamp.e))] := by
  have hr := frontRaw_le hc
  have l0 := loop_upto (P := Tryz.prog) (c := (loopOf Tryz.f19 0)) (exit_ne 0) c.workers.length (fun i : Nat => impl_FrontAll_L0 (c.workers.map Worker.e) i ((pendAll c ++ (c.workers.take i).flatMap Worker.inputs).map Record.e)) (fun i hi => by
    obtain ⟨w, hw⟩ := get_of hi
    have h1 := flatMap_take Worker.inputs hw
    have h2 := flatMap_take_le Worker.inputs c.workers (i + 1)
    have h4 : (pendAll c).length + ((c.workers.take i).flatMap Worker.inputs).length + w.inputs.length ≤ 1048576 := by
      rw [h1, List.length_append] at h2; rw [frontRaw, List.length_append] at hr; omega
    refine tr_to (impl_FrontAll_L0 _ _) (impl_FrontAll_L0_s0 _ _ _ _ _ _ _ _ _ _ _ ⟨lt1 hi, lt0, lt2 hi, at_map Worker.e hw, by simp only [List.length_map, List.length_append]; omega, by simp only [List.length_map, List.length_append]; omega, flat_map _ Record.flat _, up1 hi (Cluster.wlen_le hc), trivial⟩) ?_
    rw [h1]
    simp only [List.map_append, List.append_assoc]) (impl_FrontAll_L0_x1 _ _ _ ⟨ge1, trivial⟩)
  rw [List.take_length] at l0
  simp only [List.take_zero, List.flatMap_nil, List.append_nil] at l0
  change LoopOk _ _ _ _ (impl_FrontAll_X0 ((frontRaw c).map Record.e)) at l0
  have p := impl_PendingAll_ret c hc
  have m := impl_Minimal_ret ((frontRaw c).map Record.stamp) (by rw [List.length_map]; exact hr)
  unfold frontAll
  generalize frontRaw c = xs at *
  have l1 := loop_upto (P := Tryz.prog) (c := (loopOf Tryz.f19 1)) (exit_ne 2) xs.length (fun i : Nat => impl_FrontAll_L1 (xs.map Record.e) i (((xs.take i).map Record.stamp).map Stamp.e)) (fun i hi => by
    obtain ⟨a, ha⟩ := get_of hi
    have e : (xs.take (i + 1)).map Record.stamp = (xs.take i).map Record.stamp ++ [a.stamp] := by simp [List.take_add_one, ha]
    rw [e, List.map_append]
    exact impl_FrontAll_L1_s0 _ _ _ _ _ _ _ _ ⟨lt1 hi, lt0, lt2 hi, at_map Record.e ha, by simp; omega, by simp; omega, flat_one a.stamp.flat, up1 hi hr, trivial⟩) (impl_FrontAll_L1_x1 _ _ _ ⟨ge1, trivial⟩)
  rw [List.take_length] at l1
  exact impl_FrontAll_p0 _ _ _ _ _ _ _ _ _ _ _ ⟨p, l0, l1, m, trivial⟩

theorem law_FrontAll (c : Cluster) (hw : c.wf) : Ret Tryz.prog 5 [.agg c.e] [.one (B true)] := by
  have s := laws_szCluster_ret c 1048576 (by omega) (by omega) hw
  by_cases h : c.sz ≤ 1048576
  · rw [leftOf_ok (by omega)] at s
    have t := laws_toCluster_ret c h
    have hl := frontAll_le h
    have tc := Cluster.topNext_le c h
    have tn := top_Stamp (frontAll c) hl
    have eq := laws_eqStampS_ret' (frontAll c) _ true (decide_eq_true rfl) hl
    have hd := laws_heldStampS_ret (frontAll c) 1 (by omega) tn.2 hl
    have ng : decide (nextL Stamp.next 1 (frontAll c) < 0) = false := dF (by omega)
    have ne : (nextL Stamp.next 1 (frontAll c) != nextL Stamp.next 1 (frontAll c)) = false := by simp
    have i := impl_FrontAll_ret c h
    exact laws_FnExactFrontAll_p10 _ _ _ _ _ _ _ _ _ _ _ _ _ _ _ _ _ _ _ _ _ _ _ _ _ _ _ _ _ _ _ _ _ _ _ _ _ _ _ _ _ _ _ _ _ _ _ _ _ _ _ _ _ ⟨s, dF (by omega), t, spec_FrontAll_ret c h, t, i, eq, rfl, t, laws_eqCluster_ret' c c true (by simp) h, rfl, laws_markCluster_ret c 1 (by omega) tc.2 h, dF (by omega), eq, rfl, laws_markStampS_ret (frontAll c) 1 (by omega) tn.2 hl, hd, ng, ne, t, i, eq, rfl, hd, ng, ne, trivial⟩
  · rw [leftOf_neg (by omega)] at s
    exact laws_FnExactFrontAll_p0 _ _ _ _ _ _ _ _ ⟨s, rfl, trivial⟩
end Go.Proofs.YtbbjajmimckabaaGreat
