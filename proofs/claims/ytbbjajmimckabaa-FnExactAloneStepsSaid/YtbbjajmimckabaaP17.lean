/- slices.DeleteFunc, Recall, StepOp: what program and reference compute (cases put together by gentree.py). -/
import Derived.Test.YtbbjajmimckabaaP16
import Derived.Test.YtbbjajmimckabaaC3
import Derived.Test.YtbbjajmimckabaaGS
set_option linter.unusedVariables false
set_option linter.unusedSimpArgs false
namespace Go.Proofs.Ytbbjajmimckabaa
open Go.Sx Go.RowKit

theorem retG_to {P : Program} {f : Nat} {args : List GA} {k : Nat} {l l' : List (List D)} (h : RetG P f args [.one (.sl k l)]) (hl : l = l') : RetG P f args [.one (.sl k l')] := hl ▸ h

theorem del_loop (xs : List Cell) (p : Cell → Bool) (g : Nat) (caps : List D) (hl : xs.length ≤ 1048576) (hc : canCall Try.prog g = true) (hp : ∀ x ∈ xs, ∀ r, p x = r → Ret Try.prog g ([.agg x.e] ++ caps.map .one) [.one (B r)]) :
    ∀ (n i : Nat) (ys : List Cell), n + i = xs.length → ys.length = xs.length → ys.drop i = xs.drop i → ys.take ((xs.take i).filter fun a => !p a).length = (xs.take i).filter (fun a => !p a) →
    ∃ zs : List Cell, LoopOk Try.prog (loopOf Try.f159 0) (slices_DeleteFunc_Cell_L0 g caps i ((xs.take i).filter fun a => !p a).length (ys.map Cell.e)) (.exit 0) (slices_DeleteFunc_Cell_X0 (zs.map Cell.e) (xs.filter fun a => !p a).length) ∧ zs.length = xs.length ∧ zs.take (xs.filter fun a => !p a).length = xs.filter (fun a => !p a)
  | 0, i, ys, hi, hy, _, ht => by
    have e : xs.take i = xs := List.take_of_length_le (by omega)
    rw [e] at ht ⊢
    exact ⟨ys, .last (exit_ne 0) (slices_DeleteFunc_Cell_L0_x2 _ _ _ _ _ ⟨dF (by simp; omega), trivial⟩), hy, ht⟩
  | n + 1, i, ys, hi, hy, hd, ht => by
    obtain ⟨a, ha⟩ := get_of (xs := xs) (i := i) (by omega)
    have hya : ys[i]? = some a := by
      have e1 : ys[i]? = (ys.drop i)[0]? := by simp
      have e2 : xs[i]? = (xs.drop i)[0]? := by simp
      rw [e1, hd, ← e2, ha]
    have hf := filter_take (fun a => !p a) ha
    have hle := filt_len (fun a => !p a) xs i
    have hdn : ys.drop (i + 1) = xs.drop (i + 1) := by
      have := congrArg (List.drop 1) hd
      simpa [List.drop_drop, Nat.add_comm] using this
    cases h : p a with
    | true =>
      rw [h] at hf
      simp only [Bool.not_true, Bool.false_eq_true, if_false, List.append_nil] at hf
      obtain ⟨zs, h1, h2, h3⟩ := del_loop xs p g caps hl hc hp n (i + 1) ys (by omega) hy hdn (by rw [hf]; exact ht)
      rw [hf] at h1
      exact ⟨zs, .more (slices_DeleteFunc_Cell_L0_s1 _ _ _ _ _ _ _ _ _ _ ⟨dT (by simp; omega), lt0, by simp; omega, at_map Cell.e hya, hc, hp a (mem_of ha) true h, rfl, ⟨by omega, by omega⟩, trivial⟩) h1, h2, h3⟩
    | false =>
      rw [h] at hf
      simp only [Bool.not_false, if_true] at hf
      generalize hj : ((xs.take i).filter fun a => !p a).length = j at *
      obtain ⟨b, hb⟩ := get_of (xs := ys) (i := j) (by omega)
      obtain ⟨zs, h1, h2, h3⟩ := del_loop xs p g caps hl hc hp n (i + 1) (ys.set j a) (by omega) (by simpa using hy) (by rw [List.drop_set_of_lt (by omega)]; exact hdn) (by
        rw [hf, List.length_append, hj, List.length_singleton, List.take_set, ← ht]
        have hjl : j < ys.length := by omega
        rw [List.take_succ_eq_append_getElem hjl, List.set_append_right _ _ (by simp; omega)]
        simp [List.length_take, Nat.min_eq_left (Nat.le_of_lt hjl)])
      rw [hf, List.length_append, hj, List.length_singleton] at h1
      refine ⟨zs, .more (tr_to (fun l => slices_DeleteFunc_Cell_L0 g caps ((i + 1 : Nat) : Int) ((j + 1 : Nat) : Int) l) (slices_DeleteFunc_Cell_L0_s0 _ _ _ _ _ _ _ _ _ _ _ _ _ _ ⟨dT (by simp; omega), lt0, by simp; omega, at_map Cell.e hya, hc, hp a (mem_of ha) false h, rfl, lt0, by simp; omega, at_map Cell.e hb, ⟨by omega, by omega⟩, ⟨by omega, by omega⟩, trivial⟩) ?_) h1, h2, h3⟩
      show List.set _ _ a.e = _
      rw [Int.toNat_natCast, ← List.map_set]

theorem slices_DeleteFunc_Cell_ret (xs : List Cell) (p : Cell → Bool) (g : Nat) (caps : List D) (hl : xs.length ≤ 1048576) (hc : canCall Try.prog g = true) (hp : ∀ x ∈ xs, Ret Try.prog g ([.agg x.e] ++ caps.map .one) [.one (B (p x))]) :
    RetG Try.prog 159 [.one (.gv 4 (xs.map Cell.e) none), .one (.ro (.cl g caps))] [.one (.sl 4 ((xs.filter fun a => !p a).map Cell.e))] := by
  have hp' : ∀ x ∈ xs, ∀ r, p x = r → Ret Try.prog g ([.agg x.e] ++ caps.map .one) [.one (B r)] := fun x hx r h => h ▸ hp x hx
  have ix := slices_IndexFunc_Cell_ret xs p g caps hl hc hp
  unfold idxI at ix
  cases h : xs.findIdx? p with
  | none =>
    rw [h] at ix
    rw [List.findIdx?_eq_none_iff] at h
    have e : (xs.filter fun a => !p a) = xs := List.filter_eq_self.2 fun a ha => by simp [h a ha]
    rw [e]
    exact slices_DeleteFunc_Cell_p0 _ _ _ _ ⟨ix, rfl, trivial⟩
  | some i =>
    rw [h] at ix
    change Ret _ _ _ [.one (I (i : Int))] at ix
    rw [List.findIdx?_eq_some_iff_getElem] at h
    obtain ⟨hi, h2, h3⟩ := h
    have hx : xs[i]? = some xs[i] := List.getElem?_eq_getElem hi
    have e0 : (xs.take i).filter (fun a => !p a) = xs.take i := List.filter_eq_self.2 fun a ha => by
      obtain ⟨j, hj, rfl⟩ := List.getElem_of_mem ha
      have hji : j < i := by simp at hj; omega
      have := h3 j hji
      simpa using this
    have e1 := filter_take (fun a => !p a) hx
    rw [h2] at e1
    simp only [Bool.not_true, Bool.false_eq_true, if_false, List.append_nil] at e1
    rw [e0] at e1
    have e2 : (xs.take i).length = i := by rw [List.length_take]; omega
    obtain ⟨zs, l, hz, ht⟩ := del_loop xs p g caps hl hc hp' (xs.length - (i + 1)) (i + 1) xs (by omega) rfl rfl (by rw [e1, e2])
    rw [e1, e2] at l
    have hlt : (xs.filter fun a => !p a).length < xs.length := by
      have e3 : xs.filter (fun a => !p a) = xs.take i ++ (xs.drop (i + 1)).filter fun a => !p a := by
        have := List.take_append_drop (i + 1) xs
        rw [← this, List.filter_append, this, e1]
      rw [e3, List.length_append, e2]
      have := List.length_filter_le (fun a => !p a) (xs.drop (i + 1))
      rw [List.length_drop] at this
      omega
    generalize xs.filter (fun a => !p a) = fs at *
    refine retG_to (slices_DeleteFunc_Cell_p1 _ _ _ _ _ _ ⟨ix, beq_eq_false_iff_ne.2 (by omega), ⟨by omega, by omega⟩, l, by simp, by simp; omega, flat_map _ Cell.flat _, by simp, by simp, by simp; omega, trivial⟩) ?_
    simp only [Option.getD_some, Int.toNat_natCast, Nat.sub_zero, List.drop_zero, ← List.map_take]
    rw [ht, List.take_append_of_le_length (by simp), List.take_of_length_le (by simp)]

/-! ### Recall -/
def remembers (k : Int) : Bool := k == 5 || k == 6 || k == 8
def better (xs : List Cell) (x : Cell) : List Cell × Bool :=
  if (leastOf xs x.op x.epoch x.key).2 && decide ((leastOf xs x.op x.epoch x.key).1 ≤ x.val) then (xs, false) else (putCell (xs.filter fun a => !sameSlot x a) x, true)
def recall (kind : Int) (xs : List Cell) (x : Cell) : List Cell × Bool :=
  if kind = 6 then (if hasCell xs x then (xs, false) else (putCell xs x, true))
  else if kind = 5 ∨ kind = 8 then better xs x
  else (xs, true)

theorem spec_Remembers_ret (k : Int) : Ret Try.prog 139 [.one (I k)] [.one (B (remembers k))] := by
  rcases Bool.eq_false_or_eq_true (k == 5) with h1 | h1
  · skip
    rw [show remembers k = true from by grind [remembers]]
    exact spec_Remembers_p0 _ ⟨h1, trivial⟩
  · skip
    rcases Bool.eq_false_or_eq_true (k == 6) with h2 | h2
    · skip
      rw [show remembers k = true from by grind [remembers]]
      exact spec_Remembers_p1 _ ⟨h1, h2, trivial⟩
    · skip
      rw [show remembers k = (k == 8) from by grind [remembers]]
      exact spec_Remembers_p2 _ ⟨h1, h2, trivial⟩

theorem impl_better_ret (xs : List Cell) (x : Cell) (hl : xs.length ≤ 1048576) : Ret Try.prog 155 [.one (.sl 4 (xs.map Cell.e)), .agg x.e] [.one (.sl 4 ((better xs x).1.map Cell.e)), .one (B (better xs x).2)] := by
  have c := impl_LeastOf_ret xs x.op x.epoch x.key hl
  have cp := impl_copyCells_ret xs hl
  have d := slices_DeleteFunc_Cell_ret xs (sameSlot x) 160 [D.ptr x.e] hl (by kernel_rfl) (fun y _ => impl_better_1_p0 _ _ _ _ _ _ _ _ _ ⟨impl_sameSlot_ret x y, trivial⟩)
  have pc := impl_PutCell_ret (xs.filter fun a => !sameSlot x a) x (Nat.le_trans (List.length_filter_le ..) hl)
  unfold better
  generalize leastOf xs x.op x.epoch x.key = m at *
  obtain ⟨v, f⟩ := m
  cases f with
  | false => exact impl_better_p2 _ _ _ _ _ _ _ _ _ _ ⟨c, rfl, cp, d, pc, trivial⟩
  | true =>
    by_cases h : v ≤ x.val
    · rw [dT h]
      exact impl_better_p0 _ _ _ _ _ _ _ _ ⟨c, rfl, dT h, cp, trivial⟩
    · rw [dF h]
      exact impl_better_p1 _ _ _ _ _ _ _ _ _ _ ⟨c, rfl, dF h, cp, d, pc, trivial⟩

theorem spec_Recall_round (xs acc : List Cell) (x : Cell) (hl : xs.length ≤ 1048576) (i : Nat) (hc : acc.length ≤ i) (a : Cell) (ha : xs[i]? = some a) : Tr Try.prog (loopOf Try.f140 0) (spec_Recall_L0 (xs.map Cell.e) x.op x.epoch x.key x.val i (acc.map Cell.e)) .normal (spec_Recall_L0 (xs.map Cell.e) x.op x.epoch x.key x.val ((i + 1 : Nat) : Int) ((acc ++ (bif sameSlot x a then [] else [a])).map Cell.e)) := by
  have hj := lt_of ha
  have hk1 : xs[(i : Int).toNat]? = some a := by simpa using ha
  have hj1 : decide ((i : Int) < (↑(xs.map Cell.e).length : Int)) = true := lt1 hj
  rcases Bool.eq_false_or_eq_true (a.op != x.op) with h1 | h1
  · skip
    have hs : sameSlot x a = false := by grind [sameSlot]
    rw [hs]
    rw [show (acc ++ (bif false then [] else [a])).map Cell.e = acc.map Cell.e ++ [a.e] from by simp]
    exact spec_Recall_L0_s0 _ _ _ _ _ _ _ _ _ _ _ _ _ _ _ ⟨hj1, (by first | omega | (simp only [List.length_map, List.length_cons, List.length_nil]; omega) | exact flat_one a.flat | (exact ⟨by omega, by omega⟩)), (by first | omega | (simp only [List.length_map, List.length_cons, List.length_nil]; omega) | exact flat_one a.flat | (exact ⟨by omega, by omega⟩)), (at_mapN Cell.e hk1), h1, (by first | omega | (simp only [List.length_map, List.length_cons, List.length_nil]; omega) | exact flat_one a.flat | (exact ⟨by omega, by omega⟩)), (by first | omega | (simp only [List.length_map, List.length_cons, List.length_nil]; omega) | exact flat_one a.flat | (exact ⟨by omega, by omega⟩)), (at_mapN Cell.e hk1), (by first | omega | (simp only [List.length_map, List.length_cons, List.length_nil]; omega) | exact flat_one a.flat | (exact ⟨by omega, by omega⟩)), (by first | omega | (simp only [List.length_map, List.length_cons, List.length_nil]; omega) | exact flat_one a.flat | (exact ⟨by omega, by omega⟩)), (by first | omega | (simp only [List.length_map, List.length_cons, List.length_nil]; omega) | exact flat_one a.flat | (exact ⟨by omega, by omega⟩)), (by first | omega | (simp only [List.length_map, List.length_cons, List.length_nil]; omega) | exact flat_one a.flat | (exact ⟨by omega, by omega⟩)), trivial⟩
  · skip
    rcases Bool.eq_false_or_eq_true (a.epoch != x.epoch) with h2 | h2
    · skip
      have hs : sameSlot x a = false := by grind [sameSlot]
      rw [hs]
      rw [show (acc ++ (bif false then [] else [a])).map Cell.e = acc.map Cell.e ++ [a.e] from by simp]
      exact spec_Recall_L0_s1 _ _ _ _ _ _ _ _ _ _ _ _ _ _ _ _ _ _ _ ⟨hj1, (by first | omega | (simp only [List.length_map, List.length_cons, List.length_nil]; omega) | exact flat_one a.flat | (exact ⟨by omega, by omega⟩)), (by first | omega | (simp only [List.length_map, List.length_cons, List.length_nil]; omega) | exact flat_one a.flat | (exact ⟨by omega, by omega⟩)), (at_mapN Cell.e hk1), h1, (by first | omega | (simp only [List.length_map, List.length_cons, List.length_nil]; omega) | exact flat_one a.flat | (exact ⟨by omega, by omega⟩)), (by first | omega | (simp only [List.length_map, List.length_cons, List.length_nil]; omega) | exact flat_one a.flat | (exact ⟨by omega, by omega⟩)), (at_mapN Cell.e hk1), h2, (by first | omega | (simp only [List.length_map, List.length_cons, List.length_nil]; omega) | exact flat_one a.flat | (exact ⟨by omega, by omega⟩)), (by first | omega | (simp only [List.length_map, List.length_cons, List.length_nil]; omega) | exact flat_one a.flat | (exact ⟨by omega, by omega⟩)), (at_mapN Cell.e hk1), (by first | omega | (simp only [List.length_map, List.length_cons, List.length_nil]; omega) | exact flat_one a.flat | (exact ⟨by omega, by omega⟩)), (by first | omega | (simp only [List.length_map, List.length_cons, List.length_nil]; omega) | exact flat_one a.flat | (exact ⟨by omega, by omega⟩)), (by first | omega | (simp only [List.length_map, List.length_cons, List.length_nil]; omega) | exact flat_one a.flat | (exact ⟨by omega, by omega⟩)), (by first | omega | (simp only [List.length_map, List.length_cons, List.length_nil]; omega) | exact flat_one a.flat | (exact ⟨by omega, by omega⟩)), trivial⟩
    · skip
      rcases Bool.eq_false_or_eq_true (a.key != x.key) with h3 | h3
      · skip
        have hs : sameSlot x a = false := by grind [sameSlot]
        rw [hs]
        rw [show (acc ++ (bif false then [] else [a])).map Cell.e = acc.map Cell.e ++ [a.e] from by simp]
        exact spec_Recall_L0_s2 _ _ _ _ _ _ _ _ _ _ _ _ _ _ _ _ _ _ _ _ _ _ _ ⟨hj1, (by first | omega | (simp only [List.length_map, List.length_cons, List.length_nil]; omega) | exact flat_one a.flat | (exact ⟨by omega, by omega⟩)), (by first | omega | (simp only [List.length_map, List.length_cons, List.length_nil]; omega) | exact flat_one a.flat | (exact ⟨by omega, by omega⟩)), (at_mapN Cell.e hk1), h1, (by first | omega | (simp only [List.length_map, List.length_cons, List.length_nil]; omega) | exact flat_one a.flat | (exact ⟨by omega, by omega⟩)), (by first | omega | (simp only [List.length_map, List.length_cons, List.length_nil]; omega) | exact flat_one a.flat | (exact ⟨by omega, by omega⟩)), (at_mapN Cell.e hk1), h2, (by first | omega | (simp only [List.length_map, List.length_cons, List.length_nil]; omega) | exact flat_one a.flat | (exact ⟨by omega, by omega⟩)), (by first | omega | (simp only [List.length_map, List.length_cons, List.length_nil]; omega) | exact flat_one a.flat | (exact ⟨by omega, by omega⟩)), (at_mapN Cell.e hk1), h3, (by first | omega | (simp only [List.length_map, List.length_cons, List.length_nil]; omega) | exact flat_one a.flat | (exact ⟨by omega, by omega⟩)), (by first | omega | (simp only [List.length_map, List.length_cons, List.length_nil]; omega) | exact flat_one a.flat | (exact ⟨by omega, by omega⟩)), (at_mapN Cell.e hk1), (by first | omega | (simp only [List.length_map, List.length_cons, List.length_nil]; omega) | exact flat_one a.flat | (exact ⟨by omega, by omega⟩)), (by first | omega | (simp only [List.length_map, List.length_cons, List.length_nil]; omega) | exact flat_one a.flat | (exact ⟨by omega, by omega⟩)), (by first | omega | (simp only [List.length_map, List.length_cons, List.length_nil]; omega) | exact flat_one a.flat | (exact ⟨by omega, by omega⟩)), (by first | omega | (simp only [List.length_map, List.length_cons, List.length_nil]; omega) | exact flat_one a.flat | (exact ⟨by omega, by omega⟩)), trivial⟩
      · skip
        have hs : sameSlot x a = true := by grind [sameSlot]
        rw [hs]
        rw [show (acc ++ (bif true then [] else [a])).map Cell.e = acc.map Cell.e from by simp]
        exact spec_Recall_L0_s3 _ _ _ _ _ _ _ _ _ _ _ _ _ _ _ _ _ _ _ ⟨hj1, (by first | omega | (simp only [List.length_map, List.length_cons, List.length_nil]; omega) | exact flat_one a.flat | (exact ⟨by omega, by omega⟩)), (by first | omega | (simp only [List.length_map, List.length_cons, List.length_nil]; omega) | exact flat_one a.flat | (exact ⟨by omega, by omega⟩)), (at_mapN Cell.e hk1), h1, (by first | omega | (simp only [List.length_map, List.length_cons, List.length_nil]; omega) | exact flat_one a.flat | (exact ⟨by omega, by omega⟩)), (by first | omega | (simp only [List.length_map, List.length_cons, List.length_nil]; omega) | exact flat_one a.flat | (exact ⟨by omega, by omega⟩)), (at_mapN Cell.e hk1), h2, (by first | omega | (simp only [List.length_map, List.length_cons, List.length_nil]; omega) | exact flat_one a.flat | (exact ⟨by omega, by omega⟩)), (by first | omega | (simp only [List.length_map, List.length_cons, List.length_nil]; omega) | exact flat_one a.flat | (exact ⟨by omega, by omega⟩)), (at_mapN Cell.e hk1), h3, (by first | omega | (simp only [List.length_map, List.length_cons, List.length_nil]; omega) | exact flat_one a.flat | (exact ⟨by omega, by omega⟩)), trivial⟩

theorem filter_bif (p : Cell → Bool) {xs : List Cell} {i : Nat} {a : Cell} (h : xs[i]? = some a) : (xs.take (i + 1)).filter (fun b => !p b) = (xs.take i).filter (fun b => !p b) ++ (bif p a then [] else [a]) := by
  rw [filter_take _ h]
  cases p a <;> rfl

theorem spec_Recall_loop (xs : List Cell) (x : Cell) (hl : xs.length ≤ 1048576) : LoopOk Try.prog (loopOf Try.f140 0) (spec_Recall_L0 (xs.map Cell.e) x.op x.epoch x.key x.val 0 []) (.exit 1) (spec_Recall_X0 x.op x.epoch x.key x.val ((xs.filter fun a => !sameSlot x a).map Cell.e)) := by
  have l := loop_upto (P := Try.prog) (c := (loopOf Try.f140 0)) (exit_ne 1) xs.length (fun i : Nat => spec_Recall_L0 (xs.map Cell.e) x.op x.epoch x.key x.val i (((xs.take i).filter fun a => !sameSlot x a).map Cell.e)) (fun i hi => by
    obtain ⟨a, ha⟩ := get_of hi
    rw [filter_bif (sameSlot x) ha]
    exact spec_Recall_round xs _ x hl i (filt_len _ xs i) a ha) (spec_Recall_L0_x4 _ _ _ _ _ _ _ ⟨ge1, trivial⟩)
  rw [List.take_length] at l
  exact l

theorem spec_Recall_ret (kind : Int) (xs : List Cell) (x : Cell) (hl : xs.length ≤ 1048576) : Ret Try.prog 140 [.one (I kind), .one (.sl 4 (xs.map Cell.e)), .agg x.e] [.one (.sl 4 (((recall kind xs x).1).map Cell.e)), .one (B ((recall kind xs x).2))] := by
  have hf := List.length_filter_le (fun a => !sameSlot x a) xs
  rcases Bool.eq_false_or_eq_true (kind == 6) with h1 | h1
  · skip
    have c2 := spec_HasCell_ret xs x (by omega)
    rcases Bool.eq_false_or_eq_true (hasCell xs x) with h3 | h3
    · skip
      rw [show recall kind xs x = (xs, false) from by grind [recall, better]]
      exact spec_Recall_p0 _ _ _ _ _ _ _ ⟨(by first | omega | (simp only [List.length_map, List.length_nil]; omega) | exact flat_map _ Cell.flat _ | grind [inInt]), (by first | omega | (simp only [List.length_map, List.length_nil]; omega) | exact flat_map _ Cell.flat _ | grind [inInt]), (by first | omega | (simp only [List.length_map, List.length_nil]; omega) | exact flat_map _ Cell.flat _ | grind [inInt]), h1, c2, h3, trivial⟩
    · skip
      have c4 := spec_PutCell_ret xs x (by omega)
      rw [show recall kind xs x = ((putCell xs x), true) from by grind [recall, better]]
      exact spec_Recall_p1 _ _ _ _ _ _ _ _ ⟨(by first | omega | (simp only [List.length_map, List.length_nil]; omega) | exact flat_map _ Cell.flat _ | grind [inInt]), (by first | omega | (simp only [List.length_map, List.length_nil]; omega) | exact flat_map _ Cell.flat _ | grind [inInt]), (by first | omega | (simp only [List.length_map, List.length_nil]; omega) | exact flat_map _ Cell.flat _ | grind [inInt]), h1, c2, h3, c4, trivial⟩
  · skip
    rcases Bool.eq_false_or_eq_true (kind == 5) with h5 | h5
    · skip
      have c6 := spec_LeastOf_ret xs x.op x.epoch x.key (by omega)
      rcases Bool.eq_false_or_eq_true ((leastOf xs x.op x.epoch x.key).2) with h7 | h7
      · skip
        rcases Bool.eq_false_or_eq_true (decide (((leastOf xs x.op x.epoch x.key).1) ≤ x.val)) with h8 | h8
        · skip
          rw [show recall kind xs x = (xs, false) from by grind [recall, better]]
          exact spec_Recall_p2 _ _ _ _ _ _ _ _ ⟨(by first | omega | (simp only [List.length_map, List.length_nil]; omega) | exact flat_map _ Cell.flat _ | grind [inInt]), (by first | omega | (simp only [List.length_map, List.length_nil]; omega) | exact flat_map _ Cell.flat _ | grind [inInt]), (by first | omega | (simp only [List.length_map, List.length_nil]; omega) | exact flat_map _ Cell.flat _ | grind [inInt]), h1, h5, h5, c6, h7, h8, trivial⟩
        · skip
          
          have c9 := spec_PutCell_ret (xs.filter fun a => !sameSlot x a) x (by omega)
          rw [show recall kind xs x = ((putCell (xs.filter fun a => !sameSlot x a) x), true) from by grind [recall, better]]
          exact spec_Recall_p3 _ _ _ _ _ _ _ _ _ _ ⟨(by first | omega | (simp only [List.length_map, List.length_nil]; omega) | exact flat_map _ Cell.flat _ | grind [inInt]), (by first | omega | (simp only [List.length_map, List.length_nil]; omega) | exact flat_map _ Cell.flat _ | grind [inInt]), (by first | omega | (simp only [List.length_map, List.length_nil]; omega) | exact flat_map _ Cell.flat _ | grind [inInt]), h1, h5, h5, c6, h7, h8, (spec_Recall_loop xs x hl), c9, trivial⟩
      · skip
        
        have c10 := spec_PutCell_ret (xs.filter fun a => !sameSlot x a) x (by omega)
        rw [show recall kind xs x = ((putCell (xs.filter fun a => !sameSlot x a) x), true) from by grind [recall, better]]
        exact spec_Recall_p4 _ _ _ _ _ _ _ _ _ _ ⟨(by first | omega | (simp only [List.length_map, List.length_nil]; omega) | exact flat_map _ Cell.flat _ | grind [inInt]), (by first | omega | (simp only [List.length_map, List.length_nil]; omega) | exact flat_map _ Cell.flat _ | grind [inInt]), (by first | omega | (simp only [List.length_map, List.length_nil]; omega) | exact flat_map _ Cell.flat _ | grind [inInt]), h1, h5, h5, c6, h7, (spec_Recall_loop xs x hl), c10, trivial⟩
    · skip
      rcases Bool.eq_false_or_eq_true (kind == 8) with h11 | h11
      · skip
        have c12 := spec_LeastOf_ret xs x.op x.epoch x.key (by omega)
        rcases Bool.eq_false_or_eq_true ((leastOf xs x.op x.epoch x.key).2) with h13 | h13
        · skip
          rcases Bool.eq_false_or_eq_true (decide (((leastOf xs x.op x.epoch x.key).1) ≤ x.val)) with h14 | h14
          · skip
            rw [show recall kind xs x = (xs, false) from by grind [recall, better]]
            exact spec_Recall_p5 _ _ _ _ _ _ _ _ ⟨(by first | omega | (simp only [List.length_map, List.length_nil]; omega) | exact flat_map _ Cell.flat _ | grind [inInt]), (by first | omega | (simp only [List.length_map, List.length_nil]; omega) | exact flat_map _ Cell.flat _ | grind [inInt]), (by first | omega | (simp only [List.length_map, List.length_nil]; omega) | exact flat_map _ Cell.flat _ | grind [inInt]), h1, h5, h11, c12, h13, h14, trivial⟩
          · skip
            
            have c15 := spec_PutCell_ret (xs.filter fun a => !sameSlot x a) x (by omega)
            rw [show recall kind xs x = ((putCell (xs.filter fun a => !sameSlot x a) x), true) from by grind [recall, better]]
            exact spec_Recall_p6 _ _ _ _ _ _ _ _ _ _ ⟨(by first | omega | (simp only [List.length_map, List.length_nil]; omega) | exact flat_map _ Cell.flat _ | grind [inInt]), (by first | omega | (simp only [List.length_map, List.length_nil]; omega) | exact flat_map _ Cell.flat _ | grind [inInt]), (by first | omega | (simp only [List.length_map, List.length_nil]; omega) | exact flat_map _ Cell.flat _ | grind [inInt]), h1, h5, h11, c12, h13, h14, (spec_Recall_loop xs x hl), c15, trivial⟩
        · skip
          
          have c16 := spec_PutCell_ret (xs.filter fun a => !sameSlot x a) x (by omega)
          rw [show recall kind xs x = ((putCell (xs.filter fun a => !sameSlot x a) x), true) from by grind [recall, better]]
          exact spec_Recall_p7 _ _ _ _ _ _ _ _ _ _ ⟨(by first | omega | (simp only [List.length_map, List.length_nil]; omega) | exact flat_map _ Cell.flat _ | grind [inInt]), (by first | omega | (simp only [List.length_map, List.length_nil]; omega) | exact flat_map _ Cell.flat _ | grind [inInt]), (by first | omega | (simp only [List.length_map, List.length_nil]; omega) | exact flat_map _ Cell.flat _ | grind [inInt]), h1, h5, h11, c12, h13, (spec_Recall_loop xs x hl), c16, trivial⟩
      · skip
        rw [show recall kind xs x = (xs, true) from by grind [recall, better]]
        exact spec_Recall_p8 _ _ _ _ _ _ ⟨(by first | omega | (simp only [List.length_map, List.length_nil]; omega) | exact flat_map _ Cell.flat _ | grind [inInt]), (by first | omega | (simp only [List.length_map, List.length_nil]; omega) | exact flat_map _ Cell.flat _ | grind [inInt]), (by first | omega | (simp only [List.length_map, List.length_nil]; omega) | exact flat_map _ Cell.flat _ | grind [inInt]), h1, h5, h11, trivial⟩

theorem impl_Recall_ret (kind : Int) (xs : List Cell) (x : Cell) (hl : xs.length ≤ 1048576) : Ret Try.prog 145 [.one (I kind), .one (.sl 4 (xs.map Cell.e)), .agg x.e] [.one (.sl 4 (((recall kind xs x).1).map Cell.e)), .one (B ((recall kind xs x).2))] := by
  rcases Bool.eq_false_or_eq_true (kind == 5) with h1 | h1
  · skip
    have c2 := impl_better_ret xs x (by omega)
    rw [show recall kind xs x = (((better xs x).1), (better xs x).2) from by grind [recall, better, putCell]]
    exact impl_Recall_p0 _ _ _ _ _ _ _ _ ⟨h1, h1, c2, trivial⟩
  · skip
    rcases Bool.eq_false_or_eq_true (kind == 8) with h3 | h3
    · skip
      have c4 := impl_better_ret xs x (by omega)
      rw [show recall kind xs x = (((better xs x).1), (better xs x).2) from by grind [recall, better, putCell]]
      exact impl_Recall_p1 _ _ _ _ _ _ _ _ ⟨h1, h3, c4, trivial⟩
    · skip
      rcases Bool.eq_false_or_eq_true (kind == 6) with h5 | h5
      · skip
        have c6 := impl_PutCell_ret xs x (by omega)
        have c7 := impl_HasCell_ret xs x (by omega)
        rw [show recall kind xs x = ((putCell xs x), !(hasCell xs x)) from by grind [recall, better, putCell]]
        exact impl_Recall_p2 _ _ _ _ _ _ _ _ ⟨h1, h3, h5, c6, c7, trivial⟩
      · skip
        have c8 := impl_copyCells_ret xs (by omega)
        rw [show recall kind xs x = (xs, true) from by grind [recall, better, putCell]]
        exact impl_Recall_p3 _ _ _ _ _ _ _ ⟨h1, h3, h5, c8, trivial⟩

/-! ### StepOp -/
def sends (x : Node) (s : Stamp) (key val : Int) : List Record := x.outs.map fun k => ⟨k, s, key, val⟩
def cellOf (r : Record) : Cell := ⟨r.op, r.stamp.epoch, r.key, r.val⟩
def stepAt (g : Graph) (cs : List Cell) (r : Record) (x : Node) : List Cell × List Record × Bool :=
  if graphOk g && recordOk r then
    if !(changed x r.key r.val).2.2 && x.kind != 8 then (cs, [], true)
    else if !(recall x.kind cs ⟨r.op, r.stamp.epoch, r.key, r.val⟩).2 then ((recall x.kind cs ⟨r.op, r.stamp.epoch, r.key, r.val⟩).1, [], true)
    else if x.kind = 7 then
      ((recall x.kind cs ⟨r.op, r.stamp.epoch, r.key, r.val⟩).1, (bif (nextTurn r.stamp).2 then sends x (nextTurn r.stamp).1 (changed x r.key r.val).1 (changed x r.key r.val).2.1 else []), true)
    else ((recall x.kind cs ⟨r.op, r.stamp.epoch, r.key, r.val⟩).1, sends x r.stamp (changed x r.key r.val).1 (changed x r.key r.val).2.1, true)
  else (cs, [], false)

theorem sends_take (x : Node) (s : Stamp) (key val : Int) {i : Nat} {k : Int} (h : x.outs[i]? = some k) : (((x.outs.take (i + 1)).map fun k => (⟨k, s, key, val⟩ : Record)).map Record.e) = (((x.outs.take i).map fun k => (⟨k, s, key, val⟩ : Record)).map Record.e) ++ [(⟨k, s, key, val⟩ : Record).e] := by
  simp [List.take_add_one, h]

theorem spec_StepOp_loop0 (x : Node) (hx : x.outs.length ≤ 1048576) (s : Stamp) (key val : Int) (nx : List (List D)) : LoopOk Try.prog (loopOf Try.f112 0) (spec_StepOp_L0 x.kind x.a x.b (x.outs.map eI) key val nx s.epoch s.turn 0 []) (.exit 0) (spec_StepOp_X0 nx ((sends x s key val).map Record.e)) := by
  have l := loop_upto (P := Try.prog) (c := (loopOf Try.f112 0)) (exit_ne 0) x.outs.length (fun i : Nat => spec_StepOp_L0 x.kind x.a x.b (x.outs.map eI) key val nx s.epoch s.turn i (((x.outs.take i).map fun k => (⟨k, s, key, val⟩ : Record)).map Record.e)) (fun i hi => by
    obtain ⟨k, hk⟩ := get_of hi
    rw [sends_take x s key val hk]
    exact spec_StepOp_L0_s0 _ _ _ _ _ _ _ _ _ _ _ _ ⟨lt1 hi, lt0, lt2 hi, at_map eI hk, by simp; omega, by simp; omega, flat_one (Record.flat ⟨k, s, key, val⟩), up1 hi hx, trivial⟩) (spec_StepOp_L0_x1 _ _ _ _ _ _ _ _ _ _ _ ⟨ge1, trivial⟩)
  rw [List.take_length] at l
  exact l

theorem spec_StepOp_loopv2 (x : Node) (hx : x.outs.length ≤ 1048576) (s : Stamp) (key val : Int) (nx : List (List D)) : LoopOk Try.prog (loopOf Try.f112 0) (spec_StepOp_L0v2 s.epoch s.turn x.kind x.a x.b (x.outs.map eI) key val nx 0 []) (.exit 0) (spec_StepOp_X0 nx ((sends x s key val).map Record.e)) := by
  have l := loop_upto (P := Try.prog) (c := (loopOf Try.f112 0)) (exit_ne 0) x.outs.length (fun i : Nat => spec_StepOp_L0v2 s.epoch s.turn x.kind x.a x.b (x.outs.map eI) key val nx i (((x.outs.take i).map fun k => (⟨k, s, key, val⟩ : Record)).map Record.e)) (fun i hi => by
    obtain ⟨k, hk⟩ := get_of hi
    rw [sends_take x s key val hk]
    exact spec_StepOp_L0v2_s0 _ _ _ _ _ _ _ _ _ _ _ _ ⟨lt1 hi, lt0, lt2 hi, at_map eI hk, by simp; omega, by simp; omega, flat_one (Record.flat ⟨k, s, key, val⟩), up1 hi hx, trivial⟩) (spec_StepOp_L0v2_x1 _ _ _ _ _ _ _ _ _ _ _ ⟨ge1, trivial⟩)
  rw [List.take_length] at l
  exact l

theorem spec_StepOp_loopv3 (x : Node) (hx : x.outs.length ≤ 1048576) (s : Stamp) (key val : Int) (nx : List (List D)) : LoopOk Try.prog (loopOf Try.f112 0) (spec_StepOp_L0v3 nx x.kind x.a x.b (x.outs.map eI) key val s.epoch s.turn 0 []) (.exit 0) (spec_StepOp_X0v4 nx ((sends x s key val).map Record.e)) := by
  have l := loop_upto (P := Try.prog) (c := (loopOf Try.f112 0)) (exit_ne 0) x.outs.length (fun i : Nat => spec_StepOp_L0v3 nx x.kind x.a x.b (x.outs.map eI) key val s.epoch s.turn i (((x.outs.take i).map fun k => (⟨k, s, key, val⟩ : Record)).map Record.e)) (fun i hi => by
    obtain ⟨k, hk⟩ := get_of hi
    rw [sends_take x s key val hk]
    exact spec_StepOp_L0v3_s0 _ _ _ _ _ _ _ _ _ _ _ _ ⟨lt1 hi, lt0, lt2 hi, at_map eI hk, by simp; omega, by simp; omega, flat_one (Record.flat ⟨k, s, key, val⟩), up1 hi hx, trivial⟩) (spec_StepOp_L0v3_x1 _ _ _ _ _ _ _ _ _ _ _ ⟨ge1, trivial⟩)
  rw [List.take_length] at l
  exact l

theorem spec_StepOp_loopv5 (x : Node) (hx : x.outs.length ≤ 1048576) (s : Stamp) (key val : Int) (nx : List (List D)) : LoopOk Try.prog (loopOf Try.f112 0) (spec_StepOp_L0v5 nx s.epoch s.turn x.kind x.a x.b (x.outs.map eI) key val 0 []) (.exit 0) (spec_StepOp_X0v4 nx ((sends x s key val).map Record.e)) := by
  have l := loop_upto (P := Try.prog) (c := (loopOf Try.f112 0)) (exit_ne 0) x.outs.length (fun i : Nat => spec_StepOp_L0v5 nx s.epoch s.turn x.kind x.a x.b (x.outs.map eI) key val i (((x.outs.take i).map fun k => (⟨k, s, key, val⟩ : Record)).map Record.e)) (fun i hi => by
    obtain ⟨k, hk⟩ := get_of hi
    rw [sends_take x s key val hk]
    exact spec_StepOp_L0v5_s0 _ _ _ _ _ _ _ _ _ _ _ _ ⟨lt1 hi, lt0, lt2 hi, at_map eI hk, by simp; omega, by simp; omega, flat_one (Record.flat ⟨k, s, key, val⟩), up1 hi hx, trivial⟩) (spec_StepOp_L0v5_x1 _ _ _ _ _ _ _ _ _ _ _ ⟨ge1, trivial⟩)
  rw [List.take_length] at l
  exact l

theorem impl_StepOp_loopv6 (x : Node) (hx : x.outs.length ≤ 1048576) (s : Stamp) (key val : Int) (nx : List (List D)) : LoopOk Try.prog (loopOf Try.f118 0) (impl_StepOp_L0v6 s.epoch s.turn (x.outs.map eI) key val nx 0 []) (.exit 0) (impl_StepOp_X0 nx ((sends x s key val).map Record.e)) := by
  have l := loop_upto (P := Try.prog) (c := (loopOf Try.f118 0)) (exit_ne 0) x.outs.length (fun i : Nat => impl_StepOp_L0v6 s.epoch s.turn (x.outs.map eI) key val nx i (((x.outs.take i).map fun k => (⟨k, s, key, val⟩ : Record)).map Record.e)) (fun i hi => by
    obtain ⟨k, hk⟩ := get_of hi
    rw [sends_take x s key val hk]
    exact impl_StepOp_L0v6_s0 _ _ _ _ _ _ _ _ _ ⟨lt1 hi, lt0, lt2 hi, at_map eI hk, rfl, by simp; omega, by simp; omega, flat_one (Record.flat ⟨k, s, key, val⟩), up1 hi hx, trivial⟩) (impl_StepOp_L0v6_x1 _ _ _ _ _ _ _ _ ⟨ge1, trivial⟩)
  rw [List.take_length] at l
  exact l

theorem impl_StepOp_loop0 (x : Node) (hx : x.outs.length ≤ 1048576) (b : Bool) (s : Stamp) (key val : Int) (nx : List (List D)) : LoopOk Try.prog (loopOf Try.f118 0) (impl_StepOp_L0 (x.outs.map eI) key val nx s.epoch s.turn b 0 []) (.exit 0) (impl_StepOp_X0 nx ((bif b then sends x s key val else []).map Record.e)) := by
  cases b with
  | true =>
    have l := loop_upto (P := Try.prog) (c := (loopOf Try.f118 0)) (exit_ne 0) x.outs.length (fun i : Nat => impl_StepOp_L0 (x.outs.map eI) key val nx s.epoch s.turn true i (((x.outs.take i).map fun k => (⟨k, s, key, val⟩ : Record)).map Record.e)) (fun i hi => by
      obtain ⟨k, hk⟩ := get_of hi
      rw [sends_take x s key val hk]
      exact impl_StepOp_L0_s0 _ _ _ _ _ _ _ _ _ _ ⟨lt1 hi, lt0, lt2 hi, at_map eI hk, rfl, by simp; omega, by simp; omega, flat_one (Record.flat ⟨k, s, key, val⟩), up1 hi hx, trivial⟩) (impl_StepOp_L0_x2 _ _ _ _ _ _ _ _ _ ⟨ge1, trivial⟩)
    rw [List.take_length] at l
    exact l
  | false =>
    exact loop_upto (P := Try.prog) (c := (loopOf Try.f118 0)) (exit_ne 0) x.outs.length (fun i : Nat => impl_StepOp_L0 (x.outs.map eI) key val nx s.epoch s.turn false i []) (fun i hi => by
      obtain ⟨k, hk⟩ := get_of hi
      exact impl_StepOp_L0_s1 _ _ _ _ _ _ _ _ _ _ ⟨lt1 hi, lt0, lt2 hi, at_map eI hk, rfl, up1 hi hx, trivial⟩) (impl_StepOp_L0_x2 _ _ _ _ _ _ _ _ _ ⟨ge1, trivial⟩)

theorem spec_StepOp_some (g : Graph) (cs : List Cell) (r : Record) (x : Node) (hg : g.sz ≤ 1048576) (hl : cs.length ≤ 1048576) (hn : nodeAt g r.op = some x) : Ret Try.prog 112 [.agg g.e, .one (.sl 4 (cs.map Cell.e)), .agg r.e] [.one (.sl 4 ((stepAt g cs r x).1.map Cell.e)), .one (.sl 5 ((stepAt g cs r x).2.1.map Record.e)), .one (B (stepAt g cs r x).2.2)] := by
  have hx := Graph.outs_le hg (nodeAt_mem hn)
  obtain ⟨hk0, hk2, _, _⟩ := nodeAt_some hn
  have hk1 : g.nodes[r.op.toNat]? = some x := by have := hn; unfold nodeAt at this; rwa [if_pos hk0] at this
  have c1 := spec_NodeOf_ret' g r.op (x, true) (by unfold nodeOf; rw [hn]) hg
  have c2 := spec_GraphOk_ret g hg
  rcases Bool.eq_false_or_eq_true (graphOk g) with h3 | h3
  · skip
    have c4 := spec_RecordOk_ret r
    rcases Bool.eq_false_or_eq_true (recordOk r) with h5 | h5
    · skip
      have c6 := spec_Changed_ret x r.key r.val hx
      rcases Bool.eq_false_or_eq_true ((changed x r.key r.val).2.2) with h7 | h7
      · skip
        have c8 := spec_Remembers_ret x.kind
        rcases Bool.eq_false_or_eq_true (remembers x.kind) with h9 | h9
        · skip
          have c10 := spec_Recall_ret x.kind cs (⟨r.op, r.stamp.epoch, r.key, r.val⟩ : Cell) (by omega)
          rcases Bool.eq_false_or_eq_true ((recall x.kind cs (⟨r.op, r.stamp.epoch, r.key, r.val⟩ : Cell)).2) with h11 | h11
          · skip
            rcases Bool.eq_false_or_eq_true (x.kind == 7) with h12 | h12
            · skip
              have c13 := spec_NextTurn_ret r.stamp
              rcases Bool.eq_false_or_eq_true ((nextTurn r.stamp).2) with h14 | h14
              · skip
                
                rw [show stepAt g cs r x = (((recall x.kind cs (⟨r.op, r.stamp.epoch, r.key, r.val⟩ : Cell)).1), (sends x ((nextTurn r.stamp).1) ((changed x r.key r.val).1) ((changed x r.key r.val).2.1)), true) from by grind [stepAt, remembers, recall]]
                exact spec_StepOp_p13 _ _ _ _ _ _ _ _ _ _ _ _ _ _ _ _ _ _ _ _ _ _ _ _ _ _ ⟨(by first | omega | (simp only [List.length_map, List.length_nil]; omega) | exact flat_map _ Cell.flat _ | grind [inInt]), (by first | omega | (simp only [List.length_map, List.length_nil]; omega) | exact flat_map _ Cell.flat _ | grind [inInt]), (by first | omega | (simp only [List.length_map, List.length_nil]; omega) | exact flat_map _ Cell.flat _ | grind [inInt]), c1, rfl, c2, (by rw [h3]; rfl), c4, (by rw [h5]; rfl), c6, (by rw [h7]; rfl), c8, h9, c10, (by rw [h11]; rfl), h12, c13, (by rw [h14]; rfl), (spec_StepOp_loop0 x hx ((nextTurn r.stamp).1) ((changed x r.key r.val).1) ((changed x r.key r.val).2.1) _), trivial⟩
              · skip
                rw [show stepAt g cs r x = (((recall x.kind cs (⟨r.op, r.stamp.epoch, r.key, r.val⟩ : Cell)).1), ([] : List Record), true) from by grind [stepAt, remembers, recall]]
                exact spec_StepOp_p12 _ _ _ _ _ _ _ _ _ _ _ _ _ _ _ _ _ _ _ _ _ _ _ _ _ ⟨(by first | omega | (simp only [List.length_map, List.length_nil]; omega) | exact flat_map _ Cell.flat _ | grind [inInt]), (by first | omega | (simp only [List.length_map, List.length_nil]; omega) | exact flat_map _ Cell.flat _ | grind [inInt]), (by first | omega | (simp only [List.length_map, List.length_nil]; omega) | exact flat_map _ Cell.flat _ | grind [inInt]), c1, rfl, c2, (by rw [h3]; rfl), c4, (by rw [h5]; rfl), c6, (by rw [h7]; rfl), c8, h9, c10, (by rw [h11]; rfl), h12, c13, (by rw [h14]; rfl), trivial⟩
            · skip
              
              rw [show stepAt g cs r x = (((recall x.kind cs (⟨r.op, r.stamp.epoch, r.key, r.val⟩ : Cell)).1), (sends x r.stamp ((changed x r.key r.val).1) ((changed x r.key r.val).2.1)), true) from by grind [stepAt, remembers, recall]]
              exact spec_StepOp_p14 _ _ _ _ _ _ _ _ _ _ _ _ _ _ _ _ _ _ _ _ _ _ _ ⟨(by first | omega | (simp only [List.length_map, List.length_nil]; omega) | exact flat_map _ Cell.flat _ | grind [inInt]), (by first | omega | (simp only [List.length_map, List.length_nil]; omega) | exact flat_map _ Cell.flat _ | grind [inInt]), (by first | omega | (simp only [List.length_map, List.length_nil]; omega) | exact flat_map _ Cell.flat _ | grind [inInt]), c1, rfl, c2, (by rw [h3]; rfl), c4, (by rw [h5]; rfl), c6, (by rw [h7]; rfl), c8, h9, c10, (by rw [h11]; rfl), h12, (spec_StepOp_loopv2 x hx r.stamp ((changed x r.key r.val).1) ((changed x r.key r.val).2.1) _), trivial⟩
          · skip
            rw [show stepAt g cs r x = (((recall x.kind cs (⟨r.op, r.stamp.epoch, r.key, r.val⟩ : Cell)).1), ([] : List Record), true) from by grind [stepAt, remembers, recall]]
            exact spec_StepOp_p11 _ _ _ _ _ _ _ _ _ _ _ _ _ _ _ _ _ _ _ _ _ _ ⟨(by first | omega | (simp only [List.length_map, List.length_nil]; omega) | exact flat_map _ Cell.flat _ | grind [inInt]), (by first | omega | (simp only [List.length_map, List.length_nil]; omega) | exact flat_map _ Cell.flat _ | grind [inInt]), (by first | omega | (simp only [List.length_map, List.length_nil]; omega) | exact flat_map _ Cell.flat _ | grind [inInt]), c1, rfl, c2, (by rw [h3]; rfl), c4, (by rw [h5]; rfl), c6, (by rw [h7]; rfl), c8, h9, c10, (by rw [h11]; rfl), trivial⟩
        · skip
          rcases Bool.eq_false_or_eq_true (x.kind == 7) with h15 | h15
          · skip
            have c16 := spec_NextTurn_ret r.stamp
            rcases Bool.eq_false_or_eq_true ((nextTurn r.stamp).2) with h17 | h17
            · skip
              
              rw [show stepAt g cs r x = (cs, (sends x ((nextTurn r.stamp).1) ((changed x r.key r.val).1) ((changed x r.key r.val).2.1)), true) from by grind [stepAt, remembers, recall]]
              exact spec_StepOp_p16 _ _ _ _ _ _ _ _ _ _ _ _ _ _ _ _ _ _ _ _ _ _ _ _ ⟨(by first | omega | (simp only [List.length_map, List.length_nil]; omega) | exact flat_map _ Cell.flat _ | grind [inInt]), (by first | omega | (simp only [List.length_map, List.length_nil]; omega) | exact flat_map _ Cell.flat _ | grind [inInt]), (by first | omega | (simp only [List.length_map, List.length_nil]; omega) | exact flat_map _ Cell.flat _ | grind [inInt]), c1, rfl, c2, (by rw [h3]; rfl), c4, (by rw [h5]; rfl), c6, (by rw [h7]; rfl), c8, h9, h15, c16, (by rw [h17]; rfl), (spec_StepOp_loopv3 x hx ((nextTurn r.stamp).1) ((changed x r.key r.val).1) ((changed x r.key r.val).2.1) _), trivial⟩
            · skip
              rw [show stepAt g cs r x = (cs, ([] : List Record), true) from by grind [stepAt, remembers, recall]]
              exact spec_StepOp_p15 _ _ _ _ _ _ _ _ _ _ _ _ _ _ _ _ _ _ _ _ _ _ _ ⟨(by first | omega | (simp only [List.length_map, List.length_nil]; omega) | exact flat_map _ Cell.flat _ | grind [inInt]), (by first | omega | (simp only [List.length_map, List.length_nil]; omega) | exact flat_map _ Cell.flat _ | grind [inInt]), (by first | omega | (simp only [List.length_map, List.length_nil]; omega) | exact flat_map _ Cell.flat _ | grind [inInt]), c1, rfl, c2, (by rw [h3]; rfl), c4, (by rw [h5]; rfl), c6, (by rw [h7]; rfl), c8, h9, h15, c16, (by rw [h17]; rfl), trivial⟩
          · skip
            
            rw [show stepAt g cs r x = (cs, (sends x r.stamp ((changed x r.key r.val).1) ((changed x r.key r.val).2.1)), true) from by grind [stepAt, remembers, recall]]
            exact spec_StepOp_p17 _ _ _ _ _ _ _ _ _ _ _ _ _ _ _ _ _ _ _ _ _ ⟨(by first | omega | (simp only [List.length_map, List.length_nil]; omega) | exact flat_map _ Cell.flat _ | grind [inInt]), (by first | omega | (simp only [List.length_map, List.length_nil]; omega) | exact flat_map _ Cell.flat _ | grind [inInt]), (by first | omega | (simp only [List.length_map, List.length_nil]; omega) | exact flat_map _ Cell.flat _ | grind [inInt]), c1, rfl, c2, (by rw [h3]; rfl), c4, (by rw [h5]; rfl), c6, (by rw [h7]; rfl), c8, h9, h15, (spec_StepOp_loopv5 x hx r.stamp ((changed x r.key r.val).1) ((changed x r.key r.val).2.1) _), trivial⟩
      · skip
        rcases Bool.eq_false_or_eq_true (x.kind != 8) with h18 | h18
        · skip
          rw [show stepAt g cs r x = (cs, ([] : List Record), true) from by grind [stepAt, remembers, recall]]
          exact spec_StepOp_p3 _ _ _ _ _ _ _ _ _ _ _ _ _ _ _ _ _ _ _ ⟨(by first | omega | (simp only [List.length_map, List.length_nil]; omega) | exact flat_map _ Cell.flat _ | grind [inInt]), (by first | omega | (simp only [List.length_map, List.length_nil]; omega) | exact flat_map _ Cell.flat _ | grind [inInt]), (by first | omega | (simp only [List.length_map, List.length_nil]; omega) | exact flat_map _ Cell.flat _ | grind [inInt]), c1, rfl, c2, (by rw [h3]; rfl), c4, (by rw [h5]; rfl), c6, (by rw [h7]; rfl), h18, trivial⟩
        · skip
          have c19 := spec_Remembers_ret x.kind
          rcases Bool.eq_false_or_eq_true (remembers x.kind) with h20 | h20
          · skip
            have c21 := spec_Recall_ret x.kind cs (⟨r.op, r.stamp.epoch, r.key, r.val⟩ : Cell) (by omega)
            rcases Bool.eq_false_or_eq_true ((recall x.kind cs (⟨r.op, r.stamp.epoch, r.key, r.val⟩ : Cell)).2) with h22 | h22
            · skip
              rcases Bool.eq_false_or_eq_true (x.kind == 7) with h23 | h23
              · skip
                have c24 := spec_NextTurn_ret r.stamp
                rcases Bool.eq_false_or_eq_true ((nextTurn r.stamp).2) with h25 | h25
                · skip
                  
                  rw [show stepAt g cs r x = (((recall x.kind cs (⟨r.op, r.stamp.epoch, r.key, r.val⟩ : Cell)).1), (sends x ((nextTurn r.stamp).1) ((changed x r.key r.val).1) ((changed x r.key r.val).2.1)), true) from by grind [stepAt, remembers, recall]]
                  exact spec_StepOp_p6 _ _ _ _ _ _ _ _ _ _ _ _ _ _ _ _ _ _ _ _ _ _ _ _ _ _ ⟨(by first | omega | (simp only [List.length_map, List.length_nil]; omega) | exact flat_map _ Cell.flat _ | grind [inInt]), (by first | omega | (simp only [List.length_map, List.length_nil]; omega) | exact flat_map _ Cell.flat _ | grind [inInt]), (by first | omega | (simp only [List.length_map, List.length_nil]; omega) | exact flat_map _ Cell.flat _ | grind [inInt]), c1, rfl, c2, (by rw [h3]; rfl), c4, (by rw [h5]; rfl), c6, (by rw [h7]; rfl), h18, c19, h20, c21, (by rw [h22]; rfl), h23, c24, (by rw [h25]; rfl), (spec_StepOp_loop0 x hx ((nextTurn r.stamp).1) ((changed x r.key r.val).1) ((changed x r.key r.val).2.1) _), trivial⟩
                · skip
                  rw [show stepAt g cs r x = (((recall x.kind cs (⟨r.op, r.stamp.epoch, r.key, r.val⟩ : Cell)).1), ([] : List Record), true) from by grind [stepAt, remembers, recall]]
                  exact spec_StepOp_p5 _ _ _ _ _ _ _ _ _ _ _ _ _ _ _ _ _ _ _ _ _ _ _ _ _ ⟨(by first | omega | (simp only [List.length_map, List.length_nil]; omega) | exact flat_map _ Cell.flat _ | grind [inInt]), (by first | omega | (simp only [List.length_map, List.length_nil]; omega) | exact flat_map _ Cell.flat _ | grind [inInt]), (by first | omega | (simp only [List.length_map, List.length_nil]; omega) | exact flat_map _ Cell.flat _ | grind [inInt]), c1, rfl, c2, (by rw [h3]; rfl), c4, (by rw [h5]; rfl), c6, (by rw [h7]; rfl), h18, c19, h20, c21, (by rw [h22]; rfl), h23, c24, (by rw [h25]; rfl), trivial⟩
              · skip
                
                rw [show stepAt g cs r x = (((recall x.kind cs (⟨r.op, r.stamp.epoch, r.key, r.val⟩ : Cell)).1), (sends x r.stamp ((changed x r.key r.val).1) ((changed x r.key r.val).2.1)), true) from by grind [stepAt, remembers, recall]]
                exact spec_StepOp_p7 _ _ _ _ _ _ _ _ _ _ _ _ _ _ _ _ _ _ _ _ _ _ _ ⟨(by first | omega | (simp only [List.length_map, List.length_nil]; omega) | exact flat_map _ Cell.flat _ | grind [inInt]), (by first | omega | (simp only [List.length_map, List.length_nil]; omega) | exact flat_map _ Cell.flat _ | grind [inInt]), (by first | omega | (simp only [List.length_map, List.length_nil]; omega) | exact flat_map _ Cell.flat _ | grind [inInt]), c1, rfl, c2, (by rw [h3]; rfl), c4, (by rw [h5]; rfl), c6, (by rw [h7]; rfl), h18, c19, h20, c21, (by rw [h22]; rfl), h23, (spec_StepOp_loopv2 x hx r.stamp ((changed x r.key r.val).1) ((changed x r.key r.val).2.1) _), trivial⟩
            · skip
              rw [show stepAt g cs r x = (((recall x.kind cs (⟨r.op, r.stamp.epoch, r.key, r.val⟩ : Cell)).1), ([] : List Record), true) from by grind [stepAt, remembers, recall]]
              exact spec_StepOp_p4 _ _ _ _ _ _ _ _ _ _ _ _ _ _ _ _ _ _ _ _ _ _ ⟨(by first | omega | (simp only [List.length_map, List.length_nil]; omega) | exact flat_map _ Cell.flat _ | grind [inInt]), (by first | omega | (simp only [List.length_map, List.length_nil]; omega) | exact flat_map _ Cell.flat _ | grind [inInt]), (by first | omega | (simp only [List.length_map, List.length_nil]; omega) | exact flat_map _ Cell.flat _ | grind [inInt]), c1, rfl, c2, (by rw [h3]; rfl), c4, (by rw [h5]; rfl), c6, (by rw [h7]; rfl), h18, c19, h20, c21, (by rw [h22]; rfl), trivial⟩
          · skip
            rcases Bool.eq_false_or_eq_true (x.kind == 7) with h26 | h26
            · skip
              have c27 := spec_NextTurn_ret r.stamp
              rcases Bool.eq_false_or_eq_true ((nextTurn r.stamp).2) with h28 | h28
              · skip
                
                rw [show stepAt g cs r x = (cs, (sends x ((nextTurn r.stamp).1) ((changed x r.key r.val).1) ((changed x r.key r.val).2.1)), true) from by grind [stepAt, remembers, recall]]
                exact spec_StepOp_p9 _ _ _ _ _ _ _ _ _ _ _ _ _ _ _ _ _ _ _ _ _ _ _ _ ⟨(by first | omega | (simp only [List.length_map, List.length_nil]; omega) | exact flat_map _ Cell.flat _ | grind [inInt]), (by first | omega | (simp only [List.length_map, List.length_nil]; omega) | exact flat_map _ Cell.flat _ | grind [inInt]), (by first | omega | (simp only [List.length_map, List.length_nil]; omega) | exact flat_map _ Cell.flat _ | grind [inInt]), c1, rfl, c2, (by rw [h3]; rfl), c4, (by rw [h5]; rfl), c6, (by rw [h7]; rfl), h18, c19, h20, h26, c27, (by rw [h28]; rfl), (spec_StepOp_loopv3 x hx ((nextTurn r.stamp).1) ((changed x r.key r.val).1) ((changed x r.key r.val).2.1) _), trivial⟩
              · skip
                rw [show stepAt g cs r x = (cs, ([] : List Record), true) from by grind [stepAt, remembers, recall]]
                exact spec_StepOp_p8 _ _ _ _ _ _ _ _ _ _ _ _ _ _ _ _ _ _ _ _ _ _ _ ⟨(by first | omega | (simp only [List.length_map, List.length_nil]; omega) | exact flat_map _ Cell.flat _ | grind [inInt]), (by first | omega | (simp only [List.length_map, List.length_nil]; omega) | exact flat_map _ Cell.flat _ | grind [inInt]), (by first | omega | (simp only [List.length_map, List.length_nil]; omega) | exact flat_map _ Cell.flat _ | grind [inInt]), c1, rfl, c2, (by rw [h3]; rfl), c4, (by rw [h5]; rfl), c6, (by rw [h7]; rfl), h18, c19, h20, h26, c27, (by rw [h28]; rfl), trivial⟩
            · skip
              
              rw [show stepAt g cs r x = (cs, (sends x r.stamp ((changed x r.key r.val).1) ((changed x r.key r.val).2.1)), true) from by grind [stepAt, remembers, recall]]
              exact spec_StepOp_p10 _ _ _ _ _ _ _ _ _ _ _ _ _ _ _ _ _ _ _ _ _ ⟨(by first | omega | (simp only [List.length_map, List.length_nil]; omega) | exact flat_map _ Cell.flat _ | grind [inInt]), (by first | omega | (simp only [List.length_map, List.length_nil]; omega) | exact flat_map _ Cell.flat _ | grind [inInt]), (by first | omega | (simp only [List.length_map, List.length_nil]; omega) | exact flat_map _ Cell.flat _ | grind [inInt]), c1, rfl, c2, (by rw [h3]; rfl), c4, (by rw [h5]; rfl), c6, (by rw [h7]; rfl), h18, c19, h20, h26, (spec_StepOp_loopv5 x hx r.stamp ((changed x r.key r.val).1) ((changed x r.key r.val).2.1) _), trivial⟩
    · skip
      rw [show stepAt g cs r x = (cs, ([] : List Record), false) from by grind [stepAt, remembers, recall]]
      exact spec_StepOp_p2 _ _ _ _ _ _ _ _ _ _ _ _ _ _ _ _ ⟨(by first | omega | (simp only [List.length_map, List.length_nil]; omega) | exact flat_map _ Cell.flat _ | grind [inInt]), (by first | omega | (simp only [List.length_map, List.length_nil]; omega) | exact flat_map _ Cell.flat _ | grind [inInt]), (by first | omega | (simp only [List.length_map, List.length_nil]; omega) | exact flat_map _ Cell.flat _ | grind [inInt]), c1, rfl, c2, (by rw [h3]; rfl), c4, (by rw [h5]; rfl), trivial⟩
  · skip
    rw [show stepAt g cs r x = (cs, ([] : List Record), false) from by grind [stepAt, remembers, recall]]
    exact spec_StepOp_p1 _ _ _ _ _ _ _ _ _ _ _ _ _ _ _ ⟨(by first | omega | (simp only [List.length_map, List.length_nil]; omega) | exact flat_map _ Cell.flat _ | grind [inInt]), (by first | omega | (simp only [List.length_map, List.length_nil]; omega) | exact flat_map _ Cell.flat _ | grind [inInt]), (by first | omega | (simp only [List.length_map, List.length_nil]; omega) | exact flat_map _ Cell.flat _ | grind [inInt]), c1, rfl, c2, (by rw [h3]; rfl), trivial⟩

theorem impl_StepOp_some (g : Graph) (cs : List Cell) (r : Record) (x : Node) (hg : g.sz ≤ 1048576) (hl : cs.length ≤ 1048576) (hn : nodeAt g r.op = some x) : Ret Try.prog 118 [.agg g.e, .one (.sl 4 (cs.map Cell.e)), .agg r.e] [.one (.sl 4 ((stepAt g cs r x).1.map Cell.e)), .one (.sl 5 ((stepAt g cs r x).2.1.map Record.e)), .one (B (stepAt g cs r x).2.2)] := by
  have hx := Graph.outs_le hg (nodeAt_mem hn)
  obtain ⟨hk0, hk2, _, _⟩ := nodeAt_some hn
  have hk1 : g.nodes[r.op.toNat]? = some x := by have := hn; unfold nodeAt at this; rwa [if_pos hk0] at this
  have c1 := impl_GraphOk_ret g hg
  rcases Bool.eq_false_or_eq_true (graphOk g) with h2 | h2
  · skip
    have c3 := impl_RecordOk_ret r
    rcases Bool.eq_false_or_eq_true (recordOk r) with h4 | h4
    · skip
      have c5 := impl_isNode_ret' g r.op true (by rw [hn]; rfl) hg
      have c6 := impl_Changed_ret x r.key r.val hx
      rcases Bool.eq_false_or_eq_true ((changed x r.key r.val).2.2) with h7 | h7
      · skip
        have c8 := impl_Recall_ret x.kind cs (⟨r.op, r.stamp.epoch, r.key, r.val⟩ : Cell) (by omega)
        rcases Bool.eq_false_or_eq_true ((recall x.kind cs (⟨r.op, r.stamp.epoch, r.key, r.val⟩ : Cell)).2) with h9 | h9
        · skip
          rcases Bool.eq_false_or_eq_true (x.kind == 7) with h10 | h10
          · skip
            have c11 := impl_NextTurn_ret r.stamp
            
            rw [show stepAt g cs r x = (((recall x.kind cs (⟨r.op, r.stamp.epoch, r.key, r.val⟩ : Cell)).1), (bif (nextTurn r.stamp).2 then sends x ((nextTurn r.stamp).1) ((changed x r.key r.val).1) ((changed x r.key r.val).2.1) else []), true) from by grind [stepAt, remembers, recall]]
            exact impl_StepOp_p8 _ _ _ _ _ _ _ _ _ _ _ _ _ _ _ _ _ _ _ _ _ _ _ _ _ ⟨c1, (by rw [h2]; rfl), c3, (by rw [h4]; rfl), c5, rfl, (by first | omega | (simp only [List.length_map, List.length_nil]; omega) | exact flat_map _ Cell.flat _ | grind [inInt]), (by first | omega | (simp only [List.length_map, List.length_nil]; omega) | exact flat_map _ Cell.flat _ | grind [inInt]), (at_mapN Node.e hk1), c6, (by rw [h7]; rfl), c8, (by rw [h9]; rfl), h10, c11, (impl_StepOp_loop0 x hx ((nextTurn r.stamp).2) ((nextTurn r.stamp).1) ((changed x r.key r.val).1) ((changed x r.key r.val).2.1) _), trivial⟩
          · skip
            
            rw [show stepAt g cs r x = (((recall x.kind cs (⟨r.op, r.stamp.epoch, r.key, r.val⟩ : Cell)).1), (sends x r.stamp ((changed x r.key r.val).1) ((changed x r.key r.val).2.1)), true) from by grind [stepAt, remembers, recall]]
            exact impl_StepOp_p9 _ _ _ _ _ _ _ _ _ _ _ _ _ _ _ _ _ _ _ _ _ _ ⟨c1, (by rw [h2]; rfl), c3, (by rw [h4]; rfl), c5, rfl, (by first | omega | (simp only [List.length_map, List.length_nil]; omega) | exact flat_map _ Cell.flat _ | grind [inInt]), (by first | omega | (simp only [List.length_map, List.length_nil]; omega) | exact flat_map _ Cell.flat _ | grind [inInt]), (at_mapN Node.e hk1), c6, (by rw [h7]; rfl), c8, (by rw [h9]; rfl), h10, (impl_StepOp_loopv6 x hx r.stamp ((changed x r.key r.val).1) ((changed x r.key r.val).2.1) _), trivial⟩
        · skip
          rw [show stepAt g cs r x = (((recall x.kind cs (⟨r.op, r.stamp.epoch, r.key, r.val⟩ : Cell)).1), ([] : List Record), true) from by grind [stepAt, remembers, recall]]
          exact impl_StepOp_p7 _ _ _ _ _ _ _ _ _ _ _ _ _ _ _ _ _ _ _ _ _ ⟨c1, (by rw [h2]; rfl), c3, (by rw [h4]; rfl), c5, rfl, (by first | omega | (simp only [List.length_map, List.length_nil]; omega) | exact flat_map _ Cell.flat _ | grind [inInt]), (by first | omega | (simp only [List.length_map, List.length_nil]; omega) | exact flat_map _ Cell.flat _ | grind [inInt]), (at_mapN Node.e hk1), c6, (by rw [h7]; rfl), c8, (by rw [h9]; rfl), trivial⟩
      · skip
        rcases Bool.eq_false_or_eq_true (x.kind != 8) with h12 | h12
        · skip
          have c13 := impl_copyCells_ret cs (by omega)
          rw [show stepAt g cs r x = (cs, ([] : List Record), true) from by grind [stepAt, remembers, recall]]
          exact impl_StepOp_p3 _ _ _ _ _ _ _ _ _ _ _ _ _ _ _ _ _ _ _ _ ⟨c1, (by rw [h2]; rfl), c3, (by rw [h4]; rfl), c5, rfl, (by first | omega | (simp only [List.length_map, List.length_nil]; omega) | exact flat_map _ Cell.flat _ | grind [inInt]), (by first | omega | (simp only [List.length_map, List.length_nil]; omega) | exact flat_map _ Cell.flat _ | grind [inInt]), (at_mapN Node.e hk1), c6, (by rw [h7]; rfl), h12, c13, trivial⟩
        · skip
          have c14 := impl_Recall_ret x.kind cs (⟨r.op, r.stamp.epoch, r.key, r.val⟩ : Cell) (by omega)
          rcases Bool.eq_false_or_eq_true ((recall x.kind cs (⟨r.op, r.stamp.epoch, r.key, r.val⟩ : Cell)).2) with h15 | h15
          · skip
            rcases Bool.eq_false_or_eq_true (x.kind == 7) with h16 | h16
            · skip
              have c17 := impl_NextTurn_ret r.stamp
              
              rw [show stepAt g cs r x = (((recall x.kind cs (⟨r.op, r.stamp.epoch, r.key, r.val⟩ : Cell)).1), (bif (nextTurn r.stamp).2 then sends x ((nextTurn r.stamp).1) ((changed x r.key r.val).1) ((changed x r.key r.val).2.1) else []), true) from by grind [stepAt, remembers, recall]]
              exact impl_StepOp_p5 _ _ _ _ _ _ _ _ _ _ _ _ _ _ _ _ _ _ _ _ _ _ _ _ _ ⟨c1, (by rw [h2]; rfl), c3, (by rw [h4]; rfl), c5, rfl, (by first | omega | (simp only [List.length_map, List.length_nil]; omega) | exact flat_map _ Cell.flat _ | grind [inInt]), (by first | omega | (simp only [List.length_map, List.length_nil]; omega) | exact flat_map _ Cell.flat _ | grind [inInt]), (at_mapN Node.e hk1), c6, (by rw [h7]; rfl), h12, c14, (by rw [h15]; rfl), h16, c17, (impl_StepOp_loop0 x hx ((nextTurn r.stamp).2) ((nextTurn r.stamp).1) ((changed x r.key r.val).1) ((changed x r.key r.val).2.1) _), trivial⟩
            · skip
              
              rw [show stepAt g cs r x = (((recall x.kind cs (⟨r.op, r.stamp.epoch, r.key, r.val⟩ : Cell)).1), (sends x r.stamp ((changed x r.key r.val).1) ((changed x r.key r.val).2.1)), true) from by grind [stepAt, remembers, recall]]
              exact impl_StepOp_p6 _ _ _ _ _ _ _ _ _ _ _ _ _ _ _ _ _ _ _ _ _ _ ⟨c1, (by rw [h2]; rfl), c3, (by rw [h4]; rfl), c5, rfl, (by first | omega | (simp only [List.length_map, List.length_nil]; omega) | exact flat_map _ Cell.flat _ | grind [inInt]), (by first | omega | (simp only [List.length_map, List.length_nil]; omega) | exact flat_map _ Cell.flat _ | grind [inInt]), (at_mapN Node.e hk1), c6, (by rw [h7]; rfl), h12, c14, (by rw [h15]; rfl), h16, (impl_StepOp_loopv6 x hx r.stamp ((changed x r.key r.val).1) ((changed x r.key r.val).2.1) _), trivial⟩
          · skip
            rw [show stepAt g cs r x = (((recall x.kind cs (⟨r.op, r.stamp.epoch, r.key, r.val⟩ : Cell)).1), ([] : List Record), true) from by grind [stepAt, remembers, recall]]
            exact impl_StepOp_p4 _ _ _ _ _ _ _ _ _ _ _ _ _ _ _ _ _ _ _ _ _ ⟨c1, (by rw [h2]; rfl), c3, (by rw [h4]; rfl), c5, rfl, (by first | omega | (simp only [List.length_map, List.length_nil]; omega) | exact flat_map _ Cell.flat _ | grind [inInt]), (by first | omega | (simp only [List.length_map, List.length_nil]; omega) | exact flat_map _ Cell.flat _ | grind [inInt]), (at_mapN Node.e hk1), c6, (by rw [h7]; rfl), h12, c14, (by rw [h15]; rfl), trivial⟩
    · skip
      have c18 := impl_copyCells_ret cs (by omega)
      rw [show stepAt g cs r x = (cs, ([] : List Record), false) from by grind [stepAt, remembers, recall]]
      exact impl_StepOp_p1 _ _ _ _ _ _ _ _ _ _ _ _ ⟨c1, (by rw [h2]; rfl), c3, (by rw [h4]; rfl), c18, trivial⟩
  · skip
    have c19 := impl_copyCells_ret cs (by omega)
    rw [show stepAt g cs r x = (cs, ([] : List Record), false) from by grind [stepAt, remembers, recall]]
    exact impl_StepOp_p0 _ _ _ _ _ _ _ _ _ _ _ ⟨c1, (by rw [h2]; rfl), c19, trivial⟩

end Go.Proofs.Ytbbjajmimckabaa
