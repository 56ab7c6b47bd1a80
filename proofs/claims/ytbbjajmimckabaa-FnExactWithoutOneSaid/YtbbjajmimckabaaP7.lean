/- WithoutOne, Consumed, AllPicks: what program and reference compute. -/
import Derived.Test.YtbbjajmimckabaaC0
import Derived.Test.YtbbjajmimckabaaQ1
set_option linter.unusedVariables false
set_option linter.unusedSimpArgs false
namespace Go.Proofs.Ytbbjajmimckabaa
open Go.Sx Go.RowKit

/-! ### WithoutOne -/
def withoutOne (xs : List Record) (r : Record) : List Record :=
  match xs.findIdx? (fun a => decide (a = r)) with
  | some i => xs.take i ++ xs.drop (i + 1)
  | none => xs

theorem withoutOne_le (xs : List Record) (r : Record) : (withoutOne xs r).length ≤ xs.length := by
  unfold withoutOne
  split
  · simp; omega
  · exact Nat.le_refl _

theorem spec_WithoutOne_ret (xs : List Record) (r : Record) (hl : xs.length ≤ 1048576) : Ret Try.prog 12 [.one (.sl 5 (xs.map Record.e)), .agg r.e] [.one (.sl 5 ((withoutOne xs r).map Record.e))] := by
  have l := loop_scan (P := Try.prog) (c := (loopOf Try.f12 0)) xs (fun a => decide (a = r)) (fun i => spec_WithoutOne_L0 (xs.map Record.e) r.op r.stamp.epoch r.stamp.turn r.key r.val i) (X := fun i _ => spec_WithoutOne_X0 ((xs.take i ++ xs.drop (i + 1)).map Record.e)) ret_ne (exit_ne 0)
    (fun i a ha h => spec_WithoutOne_L0_s1 _ _ _ _ _ _ _ _ _ _ _ _ ⟨lt1 (lt_of ha), lt0, lt2 (lt_of ha), at_map Record.e ha, (recEq a r).trans h, up1 (lt_of ha) hl, trivial⟩)
    (fun i a ha h => by
      have hi := lt_of ha
      refine tr_to spec_WithoutOne_X0 (spec_WithoutOne_L0_x0 _ _ _ _ _ _ _ _ _ _ _ _ ⟨lt1 hi, lt0, lt2 hi, at_map Record.e ha, (recEq a r).trans h, by simp, by simp, by simp; omega, by simp; omega, by simp; omega, ?_, up1 hi hl, by simp; omega, by simp; omega, by simp, by simp; omega, by simp; omega, ?_, trivial⟩) ?_
      · simp only [Option.getD_some, Int.toNat_natCast, Nat.sub_zero, List.drop_zero, ← List.map_take]
        exact flat_map _ Record.flat _
      · simp only [Option.getD_some, ← List.map_take, ← List.map_drop]
        exact flat_map _ Record.flat _
      · have e1 : ((i : Int) + 1).toNat = i + 1 := by omega
        simp only [Option.getD_some, Int.toNat_natCast, Nat.sub_zero, List.drop_zero, List.nil_append, e1, ← List.map_take, ← List.map_drop, ← List.map_append]
        congr 2
        rw [List.take_of_length_le (by simp)])
    (spec_WithoutOne_L0_x2 _ _ _ _ _ _ _ ⟨ge1, trivial⟩)
  unfold withoutOne
  rcases l with ⟨_, h1, _, h2⟩ | ⟨i, a, _, _, _, h1, _, h2⟩
  · simp only [h1]
    exact spec_WithoutOne_p1 _ _ _ _ _ _ ⟨h2, by simp; omega, by simp; omega, flat_map _ Record.flat _, trivial⟩
  · simp only [h1]
    exact spec_WithoutOne_p0 _ _ _ _ _ _ _ ⟨h2, trivial⟩

theorem impl_copyRecords_ret (xs : List Record) (hl : xs.length ≤ 1048576) : Ret Try.prog 50 [.one (.sl 5 (xs.map Record.e))] [.one (.sl 5 (xs.map Record.e))] :=
  impl_copyRecords_p0 _ ⟨by simp; omega, by simp; omega, flat_map _ Record.flat _, trivial⟩

def idxR (xs : List Record) (r : Record) : Int := match xs.findIdx? (fun a => decide (a = r)) with | some i => i | none => -1

theorem slices_Index_Record_ret (xs : List Record) (r : Record) (hl : xs.length ≤ 1048576) : Ret Try.prog 51 [.one (.sl 5 (xs.map Record.e)), .agg r.e] [.one (I (idxR xs r))] := by
  have l := loop_scan (P := Try.prog) (c := (loopOf Try.f51 0)) xs (fun a => decide (a = r)) (fun i => slices_Index_Record_L0 (xs.map Record.e) r.op r.stamp.epoch r.stamp.turn r.key r.val i) (X := fun i _ => slices_Index_Record_X0 i) ret_ne (exit_ne 0)
    (fun i a ha h => slices_Index_Record_L0_s1 _ _ _ _ _ _ _ _ _ _ _ _ ⟨lt1 (lt_of ha), lt0, lt2 (lt_of ha), at_map Record.e ha, (recEq' a r).trans h, up1 (lt_of ha) hl, trivial⟩)
    (fun i a ha h => slices_Index_Record_L0_x0 _ _ _ _ _ _ _ _ _ _ _ _ ⟨lt1 (lt_of ha), lt0, lt2 (lt_of ha), at_map Record.e ha, (recEq' a r).trans h, trivial⟩)
    (slices_Index_Record_L0_x2 _ _ _ _ _ _ _ ⟨ge1, trivial⟩)
  unfold idxR
  rcases l with ⟨_, h1, _, h2⟩ | ⟨i, a, _, _, _, h1, _, h2⟩
  · simp only [h1]; exact slices_Index_Record_p1 _ _ _ _ _ _ ⟨h2, trivial⟩
  · simp only [h1]; exact slices_Index_Record_p0 _ _ _ _ _ _ _ ⟨h2, trivial⟩

theorem impl_WithoutOne_ret (xs : List Record) (r : Record) (hl : xs.length ≤ 1048576) : Ret Try.prog 15 [.one (.sl 5 (xs.map Record.e)), .agg r.e] [.one (.sl 5 ((withoutOne xs r).map Record.e))] := by
  have c := impl_copyRecords_ret xs hl
  have x := slices_Index_Record_ret xs r hl
  unfold withoutOne
  unfold idxR at x
  cases h : xs.findIdx? (fun a => decide (a = r)) with
  | none =>
    simp only [h] at x ⊢
    exact impl_WithoutOne_p1 _ _ _ _ _ _ _ _ ⟨c, x, dF (by omega), trivial⟩
  | some i =>
    simp only [h] at x ⊢
    have hi : i < xs.length := by
      rw [List.findIdx?_eq_some_iff_getElem] at h
      exact h.1
    exact impl_WithoutOne_p0 _ _ _ _ _ _ _ _ _ ⟨c, x, dT (by omega), ⟨by omega, by omega⟩, slices_Delete_Record_ret xs i (i + 1) (by omega) (by omega), trivial⟩

/-! ### Consumed -/
def workerAt (c : Cluster) (a : Int) : Option Worker := if 0 ≤ a then c.workers[a.toNat]? else none

def consumed (c : Cluster) (p : Pick) : Record × Bool :=
  match workerAt c p.a with
  | none => (⟨0, ⟨0, 0⟩, 0, 0⟩, false)
  | some w => match (if p.kind = 2 then w.inputs else if p.kind = 1 then w.queue else []) with
    | [] => (⟨0, ⟨0, 0⟩, 0, 0⟩, false)
    | r :: _ => (r, true)

theorem Cluster.workers_le {c : Cluster} (h : c.sz ≤ 1048576) : c.workers.length ≤ 1048576 := by simp only [Cluster.sz, szS] at h; omega

theorem workerAt_some {c : Cluster} {a : Int} {w : Worker} (h : workerAt c a = some w) : 0 ≤ a ∧ a < (↑(c.workers.map Worker.e).length : Int) ∧ (c.workers.map Worker.e)[a.toNat]? = some w.e ∧ inR a 0 (↑(c.workers.map Worker.e).length - 1) = true := by
  unfold workerAt at h
  split at h
  · have := (List.getElem?_eq_some_iff.1 h).1
    refine ⟨‹_›, by simp; omega, by simp [h], ?_⟩
    simp only [inR, List.length_map, decide_eq_true_eq]; omega
  · cases h

theorem workerAt_none {c : Cluster} {a : Int} (h : workerAt c a = none) : inR a 0 (↑(c.workers.map Worker.e).length - 1) = false := by
  unfold workerAt at h
  simp only [inR, List.length_map, decide_eq_false_iff_not]
  split at h
  · rw [List.getElem?_eq_none_iff] at h; omega
  · omega

theorem spec_Consumed_ret (c : Cluster) (p : Pick) (hc : c.sz ≤ 1048576) : Ret Try.prog 20 [.agg c.e, .agg p.e] [.agg (consumed c p).1.e, .one (B (consumed c p).2)] := by
  have hx := Cluster.workers_le hc
  have up : inInt .i64 ((↑(c.workers.map Worker.e).length : Int) - 1) := ⟨by simp; omega, by simp; omega⟩
  unfold consumed
  cases h : workerAt c p.a with
  | none => exact spec_Consumed_p0 _ _ _ _ _ _ _ _ _ _ _ ⟨up, spec_l01In_ret' _ _ _ _ (workerAt_none h), rfl, trivial⟩
  | some w =>
    obtain ⟨h1, h2, h3, h4⟩ := workerAt_some h
    have b := spec_l01In_ret' _ _ _ _ h4
    by_cases k2 : p.kind = 2
    · simp only [k2, if_true]
      have e2 : (p.kind == 2) = true := by simp [k2]
      have e1 : (p.kind == 1) = false := by simp [k2]
      cases hi : w.inputs with
      | nil =>
        exact spec_Consumed_p4 _ _ _ _ _ _ _ _ _ _ _ _ _ _ _ _ _ _ _ ⟨up, b, rfl, h1, h2, h3, e2, by simp [hi], e1, trivial⟩
      | cons r rs =>
        exact spec_Consumed_p1 _ _ _ _ _ _ _ _ _ _ _ _ _ _ _ _ _ _ _ _ _ _ _ _ ⟨up, b, rfl, h1, h2, h3, e2, by first | (simp [hi]; done) | (simp [hi]; omega), by omega, by first | (simp [hi]; done) | (simp [hi]; omega), by simp [hi]; rfl, trivial⟩
    · have e2 : (p.kind == 2) = false := by simp [k2]
      simp only [if_neg k2]
      by_cases k1 : p.kind = 1
      · simp only [k1, if_true]
        have e1 : (p.kind == 1) = true := by simp [k1]
        cases hi : w.queue with
        | nil => exact spec_Consumed_p6 _ _ _ _ _ _ _ _ _ _ _ _ _ _ _ _ _ _ _ ⟨up, b, rfl, h1, h2, h3, e2, e1, by simp [hi], trivial⟩
        | cons r rs => exact spec_Consumed_p5 _ _ _ _ _ _ _ _ _ _ _ _ _ _ _ _ _ _ _ _ _ _ _ _ ⟨up, b, rfl, h1, h2, h3, e2, e1, by first | (simp [hi]; done) | (simp [hi]; omega), by omega, by first | (simp [hi]; done) | (simp [hi]; omega), by simp [hi]; rfl, trivial⟩
      · simp only [if_neg k1]
        exact spec_Consumed_p7 _ _ _ _ _ _ _ _ _ _ _ _ _ _ _ _ _ _ _ ⟨up, b, rfl, h1, h2, h3, e2, by simp [k1], trivial⟩

theorem impl_Consumed_ret (c : Cluster) (p : Pick) (hc : c.sz ≤ 1048576) : Ret Try.prog 23 [.agg c.e, .agg p.e] [.agg (consumed c p).1.e, .one (B (consumed c p).2)] := by
  have hx := Cluster.workers_le hc
  have up : inInt .i64 ((↑(c.workers.map Worker.e).length : Int) - 1) := ⟨by simp; omega, by simp; omega⟩
  unfold consumed
  cases h : workerAt c p.a with
  | none => exact impl_Consumed_p0 _ _ _ _ _ _ _ _ _ _ _ ⟨up, impl_within_ret' _ _ _ _ (workerAt_none h), rfl, trivial⟩
  | some w =>
    obtain ⟨h1, h2, h3, h4⟩ := workerAt_some h
    have b := impl_within_ret' _ _ _ _ h4
    by_cases k2 : p.kind = 2
    · simp only [k2, if_true]
      have e2 : (p.kind == 2) = true := by simp [k2]
      cases hi : w.inputs with
      | nil => exact impl_Consumed_p1 _ _ _ _ _ _ _ _ _ _ _ _ _ _ _ _ _ _ _ ⟨up, b, rfl, e2, h1, h2, h3, by simp [hi], trivial⟩
      | cons r rs => exact impl_Consumed_p2 _ _ _ _ _ _ _ _ _ _ _ _ _ _ _ _ _ _ _ _ _ _ _ _ ⟨up, b, rfl, e2, h1, h2, h3, by first | (simp [hi]; done) | (simp [hi]; omega), by omega, by first | (simp [hi]; done) | (simp [hi]; omega), by simp [hi]; rfl, trivial⟩
    · have e2 : (p.kind == 2) = false := by simp [k2]
      simp only [if_neg k2]
      by_cases k1 : p.kind = 1
      · simp only [k1, if_true]
        have e1 : (p.kind == 1) = true := by simp [k1]
        cases hi : w.queue with
        | nil => exact impl_Consumed_p3 _ _ _ _ _ _ _ _ _ _ _ _ _ _ _ _ _ _ _ ⟨up, b, rfl, e2, e1, h1, h2, h3, by simp [hi], trivial⟩
        | cons r rs => exact impl_Consumed_p4 _ _ _ _ _ _ _ _ _ _ _ _ _ _ _ _ _ _ _ _ _ _ _ _ ⟨up, b, rfl, e2, e1, h1, h2, h3, by first | (simp [hi]; done) | (simp [hi]; omega), by omega, by first | (simp [hi]; done) | (simp [hi]; omega), by simp [hi]; rfl, trivial⟩
      · simp only [if_neg k1]
        exact impl_Consumed_p5 _ _ _ _ _ _ _ _ _ _ _ ⟨up, b, rfl, e2, by simp [k1], rfl, trivial⟩

/-! ### AllPicks -/
def fourOf (w : Nat) : List Pick := [⟨1, w, 0⟩, ⟨3, w, 0⟩, ⟨2, w, 0⟩, ⟨7, w, 0⟩]
def twoOf (a b : Nat) : List Pick := if a = b then [] else [⟨4, a, b⟩, ⟨5, a, b⟩]
def picksA (n : Nat) : List Pick := (List.range n).flatMap fourOf
def picksB (a n : Nat) : List Pick := (List.range n).flatMap (twoOf a)
def picksC (m n : Nat) : List Pick := (List.range n).flatMap fun a => picksB a m
def oneOf (e : Nat) : List Pick := [⟨6, e, 0⟩]
def picksE (n : Nat) : List Pick := (List.range n).flatMap oneOf
def allPicks (c : Cluster) : List Pick := picksA (brought c.graph.workers 0 4).toNat ++ picksC (brought c.graph.workers 0 4).toNat (brought c.graph.workers 0 4).toNat ++ picksE 4

theorem picksA_succ (n : Nat) : picksA (n + 1) = picksA n ++ fourOf n := by simp [picksA, List.range_succ]
theorem picksB_succ (a n : Nat) : picksB a (n + 1) = picksB a n ++ twoOf a n := by simp [picksB, List.range_succ]
theorem picksC_succ (m n : Nat) : picksC m (n + 1) = picksC m n ++ picksB n m := by simp [picksC, List.range_succ]
theorem picksE_succ (n : Nat) : picksE (n + 1) = picksE n ++ [⟨6, n, 0⟩] := by simp [picksE, List.range_succ, oneOf]
theorem picksA_le (n : Nat) : (picksA n).length ≤ n * 4 := by
  have h := flatMap_len fourOf 4 (fun _ => by simp [fourOf]) (List.range n)
  rwa [List.length_range] at h
theorem picksB_le (a n : Nat) : (picksB a n).length ≤ n * 2 := by
  have h := flatMap_len (twoOf a) 2 (fun b => by unfold twoOf; split <;> simp) (List.range n)
  rwa [List.length_range] at h
theorem picksC_le (m n : Nat) : (picksC m n).length ≤ n * (m * 2) := by
  have h := flatMap_len (fun a => picksB a m) (m * 2) (fun a => picksB_le a m) (List.range n)
  rwa [List.length_range] at h
theorem picksE_le (n : Nat) : (picksE n).length ≤ n * 1 := by
  have h := flatMap_len oneOf 1 (fun _ => by simp [oneOf]) (List.range n)
  rwa [List.length_range] at h

theorem brought4 (n : Int) : ∃ k : Nat, brought n 0 4 = k ∧ k ≤ 4 := by
  refine ⟨(brought n 0 4).toNat, ?_, ?_⟩ <;> (unfold brought; simp only [show ¬ (4 : Int) < 0 by omega, if_false]; split <;> (try split) <;> omega)

theorem mulLe (a b : Nat) (ha : a ≤ 4) (hb : b ≤ 4) : a * (b * 2) ≤ 32 := by
  have := Nat.mul_le_mul ha (Nat.mul_le_mul_right 2 hb)
  omega

theorem allPicks_le (c : Cluster) : (allPicks c).length ≤ 100 := by
  obtain ⟨k, hk, h4⟩ := brought4 c.graph.workers
  unfold allPicks
  rw [hk]
  have a := picksA_le k
  have b := picksC_le k k
  have e := picksE_le 4
  have m := mulLe k k h4 h4
  simp only [List.length_append, Int.toNat_natCast]
  omega

theorem spec_AllPicks_ret (c : Cluster) : Ret Try.prog 26 [.agg c.e] [.one (.sl 3 ((allPicks c).map Pick.e))] := by
  have b := spec_Brought_ret c.graph.workers 0 4
  obtain ⟨k, hk, h4⟩ := brought4 c.graph.workers
  unfold allPicks
  rw [hk] at b ⊢
  have la := picksA_le k
  have lc := picksC_le k k
  have m := mulLe k k h4 h4
  have l0 := loop_upto (P := Try.prog) (c := (loopOf Try.f26 0)) (exit_ne 0) k (fun i : Nat => spec_AllPicks_L0 k i ((picksA i).map Pick.e)) (fun i hi => by
    have h1 := picksA_le i
    rw [picksA_succ, List.map_append]
    exact spec_AllPicks_L0_s0 _ _ _ ⟨dT (by omega), by simp; omega, by simp; omega, flat_map Pick.e Pick.flat (fourOf i), ⟨by omega, by omega⟩, trivial⟩) (spec_AllPicks_L0_x1 _ _ _ ⟨dF (by omega), trivial⟩)
  have l2 := fun (a : Nat) (ha : a < k) => loop_upto (P := Try.prog) (c := (loopOf Try.f26 2)) (exit_ne 4) k (fun i : Nat => spec_AllPicks_L2 k a i ((picksA k ++ picksC k a ++ picksB a i).map Pick.e)) (fun i hi => by
    have h1 := picksB_le a i
    have h2 := picksC_le k a
    have h3 := mulLe a k (by omega) h4
    rw [picksB_succ, ← List.append_assoc, List.map_append (l₂ := twoOf a i)]
    by_cases hab : a = i
    · have e : (twoOf a i).map Pick.e = [] := by simp [twoOf, hab]
      rw [e, List.append_nil]
      exact spec_AllPicks_L2_s1 _ _ _ _ ⟨dT (by omega), by simp [hab], ⟨by omega, by omega⟩, trivial⟩
    · have e : (twoOf a i).map Pick.e = [[I 4, I a, I i], [I 5, I a, I i]] := by simp [twoOf, hab, Pick.e]
      rw [e]
      have hf : Flat [[I 4, I a, I i], [I 5, I a, I i]] := by rw [← e]; exact flat_map Pick.e Pick.flat _
      exact spec_AllPicks_L2_s0 _ _ _ _ ⟨dT (by omega), by simp; omega, by simp; omega, by simp; omega, hf, ⟨by omega, by omega⟩, trivial⟩) (spec_AllPicks_L2_x2 _ _ _ _ ⟨dF (by omega), trivial⟩)
  have l1 := loop_upto (P := Try.prog) (c := (loopOf Try.f26 1)) (exit_ne 2) k (fun i : Nat => spec_AllPicks_L1 k i ((picksA k ++ picksC k i).map Pick.e)) (fun i hi => by
    have h := l2 i hi
    rw [picksC_succ, ← List.append_assoc]
    simp only [picksB, List.range_zero, List.flatMap_nil, List.append_nil] at h
    exact spec_AllPicks_L1_s0 _ _ _ _ ⟨dT (by omega), h, ⟨by omega, by omega⟩, trivial⟩) (spec_AllPicks_L1_x1 _ _ _ ⟨dF (by omega), trivial⟩)
  have l3 := loop_upto (P := Try.prog) (c := (loopOf Try.f26 3)) (exit_ne 6) 4 (fun i : Nat => spec_AllPicks_L3 i ((picksA k ++ picksC k k ++ picksE i).map Pick.e)) (fun i hi => by
    have h1 := picksE_le i
    rw [picksE_succ, ← List.append_assoc, List.map_append (l₂ := [_])]
    exact spec_AllPicks_L3_s0 _ _ ⟨dT (by omega), by simp; omega, by simp; omega, flat_map Pick.e Pick.flat [⟨6, i, 0⟩], ⟨by omega, by omega⟩, trivial⟩) (spec_AllPicks_L3_x1 _ _ ⟨dF (by omega), trivial⟩)
  simp only [picksC, List.range_zero, List.flatMap_nil, List.append_nil] at l1
  simp only [picksE, List.range_zero, List.flatMap_nil, List.append_nil] at l3
  rw [Int.toNat_natCast]
  exact spec_AllPicks_p0 _ _ _ _ _ _ _ _ _ _ _ ⟨b, l0, l1, l3, trivial⟩

theorem impl_AllPicks_ret (c : Cluster) : Ret Try.prog 27 [.agg c.e] [.one (.sl 3 ((allPicks c).map Pick.e))] := by
  have b := impl_Brought_ret c.graph.workers 0 4
  obtain ⟨k, hk, h4⟩ := brought4 c.graph.workers
  unfold allPicks
  rw [hk] at b ⊢
  have la := picksA_le k
  have lc := picksC_le k k
  have m := mulLe k k h4 h4
  have l1 := fun (w : Nat) (hw : w < k) => loop_upto (P := Try.prog) (c := (loopOf Try.f27 1)) (exit_ne 2) 4 (fun i : Nat => impl_AllPicks_L1 k w i ((picksA w).map Pick.e ++ ((fourOf w).take i).map Pick.e)) (fun i hi => by
    have h1 := picksA_le w
    match i, hi with
    | 0, _ => exact tr_to (impl_AllPicks_L1 k w (((0 : Nat) : Int) + 1)) (impl_AllPicks_L1_s0 _ _ _ _ _ ⟨rfl, by omega, by decide, rfl, by simp [fourOf]; omega, by simp [fourOf]; omega, flat_map Pick.e Pick.flat [⟨1, w, 0⟩], ⟨by omega, by omega⟩, trivial⟩) (by simp [fourOf, Pick.e])
    | 1, _ => exact tr_to (impl_AllPicks_L1 k w (((1 : Nat) : Int) + 1)) (impl_AllPicks_L1_s0 _ _ _ _ _ ⟨rfl, by omega, by decide, rfl, by simp [fourOf]; omega, by simp [fourOf]; omega, flat_map Pick.e Pick.flat [⟨3, w, 0⟩], ⟨by omega, by omega⟩, trivial⟩) (by simp [fourOf, Pick.e])
    | 2, _ => exact tr_to (impl_AllPicks_L1 k w (((2 : Nat) : Int) + 1)) (impl_AllPicks_L1_s0 _ _ _ _ _ ⟨rfl, by omega, by decide, rfl, by simp [fourOf]; omega, by simp [fourOf]; omega, flat_map Pick.e Pick.flat [⟨2, w, 0⟩], ⟨by omega, by omega⟩, trivial⟩) (by simp [fourOf, Pick.e])
    | 3, _ => exact tr_to (impl_AllPicks_L1 k w (((3 : Nat) : Int) + 1)) (impl_AllPicks_L1_s0 _ _ _ _ _ ⟨rfl, by omega, by decide, rfl, by simp [fourOf]; omega, by simp [fourOf]; omega, flat_map Pick.e Pick.flat [⟨7, w, 0⟩], ⟨by omega, by omega⟩, trivial⟩) (by simp [fourOf, Pick.e])) (impl_AllPicks_L1_x1 _ _ _ _ ⟨rfl, trivial⟩)
  have l0 := loop_upto (P := Try.prog) (c := (loopOf Try.f27 0)) (exit_ne 0) k (fun i : Nat => impl_AllPicks_L0 k i ((picksA i).map Pick.e)) (fun i hi => by
    have h := l1 i hi
    rw [picksA_succ, List.map_append]
    simp only [List.take_zero, List.map_nil, List.append_nil] at h
    exact impl_AllPicks_L0_s0 _ _ _ _ ⟨dT (by omega), h, ⟨by omega, by omega⟩, trivial⟩) (impl_AllPicks_L0_x1 _ _ _ ⟨dF (by omega), trivial⟩)
  have l3 := fun (a : Nat) (ha : a < k) => loop_upto (P := Try.prog) (c := (loopOf Try.f27 3)) (exit_ne 6) k (fun i : Nat => impl_AllPicks_L3 k a i ((picksA k ++ picksC k a ++ picksB a i).map Pick.e)) (fun i hi => by
    have h1 := picksB_le a i
    have h2 := picksC_le k a
    have h3 := mulLe a k (by omega) h4
    rw [picksB_succ, ← List.append_assoc, List.map_append (l₂ := twoOf a i)]
    by_cases hab : a = i
    · have e : (twoOf a i).map Pick.e = [] := by simp [twoOf, hab]
      rw [e, List.append_nil]
      exact impl_AllPicks_L3_s1 _ _ _ _ ⟨dT (by omega), by simp [hab], ⟨by omega, by omega⟩, trivial⟩
    · have e : (twoOf a i).map Pick.e = [[I 4, I a, I i], [I 5, I a, I i]] := by simp [twoOf, hab, Pick.e]
      rw [e]
      have hf : Flat [[I 4, I a, I i], [I 5, I a, I i]] := by rw [← e]; exact flat_map Pick.e Pick.flat _
      exact impl_AllPicks_L3_s0 _ _ _ _ ⟨dT (by omega), by simp; omega, by simp; omega, by simp; omega, hf, ⟨by omega, by omega⟩, trivial⟩) (impl_AllPicks_L3_x2 _ _ _ _ ⟨dF (by omega), trivial⟩)
  have l2 := loop_upto (P := Try.prog) (c := (loopOf Try.f27 2)) (exit_ne 4) k (fun i : Nat => impl_AllPicks_L2 k i ((picksA k ++ picksC k i).map Pick.e)) (fun i hi => by
    have h := l3 i hi
    rw [picksC_succ, ← List.append_assoc]
    simp only [picksB, List.range_zero, List.flatMap_nil, List.append_nil] at h
    exact impl_AllPicks_L2_s0 _ _ _ _ ⟨dT (by omega), h, ⟨by omega, by omega⟩, trivial⟩) (impl_AllPicks_L2_x1 _ _ _ ⟨dF (by omega), trivial⟩)
  have l4 := loop_upto (P := Try.prog) (c := (loopOf Try.f27 4)) (exit_ne 8) 4 (fun i : Nat => impl_AllPicks_L4 i ((picksA k ++ picksC k k ++ picksE i).map Pick.e)) (fun i hi => by
    have h1 := picksE_le i
    rw [picksE_succ, ← List.append_assoc, List.map_append (l₂ := [_])]
    exact impl_AllPicks_L4_s0 _ _ ⟨dT (by omega), by simp; omega, by simp; omega, flat_map Pick.e Pick.flat [⟨6, i, 0⟩], ⟨by omega, by omega⟩, trivial⟩) (impl_AllPicks_L4_x1 _ _ ⟨dF (by omega), trivial⟩)
  simp only [picksC, List.range_zero, List.flatMap_nil, List.append_nil] at l2
  simp only [picksE, List.range_zero, List.flatMap_nil, List.append_nil] at l4
  rw [Int.toNat_natCast]
  exact impl_AllPicks_p0 _ _ _ _ _ _ _ _ _ _ _ ⟨b, l0, l2, l4, trivial⟩
end Go.Proofs.Ytbbjajmimckabaa
