/- The functions sz.. (printed by gentypes.py) -/
import Derived.Test.YtenekpkjlgddnaaB0
import Derived.Test.YtenekpkjlgddnaaGA
set_option linter.unusedVariables false
set_option linter.unusedSimpArgs false
namespace Go.Proofs.Ytenekpkjlgddnaa
open Go.Sx Go.RowKit

theorem laws_szIntS_ret (xs : List Int) (n : Int) (h0 : 0 ≤ n) (h1 : n ≤ 8388608) (hl : (xs.length : Int) ≤ 9223372036854775807) : Ret Try.prog 70 [.one (.sl 1 (xs.map eI)), .one (I n)] [.one (I (leftOf n xs.length))] := by
  have e : (xs.map eI).length = xs.length := List.length_map ..
  rw [← e]
  rw [← e] at hl
  unfold leftOf
  split
  · exact laws_szIntS_p1 _ _ ⟨⟨by omega, by omega⟩, by simp only [decide_eq_false_iff_not]; omega, trivial⟩
  · exact laws_szIntS_p0 _ _ ⟨⟨by omega, by omega⟩, by simp only [decide_eq_true_eq]; omega, trivial⟩

theorem laws_szRecordS_ret (xs : List Record) (n : Int) (h0 : 0 ≤ n) (h1 : n ≤ 8388608) (hl : (xs.length : Int) ≤ 9223372036854775807) : Ret Try.prog 7 [.one (.sl 5 (xs.map Record.e)), .one (I n)] [.one (I (leftOf n xs.length))] := by
  have e : (xs.map Record.e).length = xs.length := List.length_map ..
  rw [← e]
  rw [← e] at hl
  unfold leftOf
  split
  · exact laws_szRecordS_p1 _ _ ⟨⟨by omega, by omega⟩, by simp only [decide_eq_false_iff_not]; omega, trivial⟩
  · exact laws_szRecordS_p0 _ _ ⟨⟨by omega, by omega⟩, by simp only [decide_eq_true_eq]; omega, trivial⟩

theorem laws_szNode_ret (x : Node) (n : Int) (h0 : 0 ≤ n) (h1 : n ≤ 8388608) (hw : x.wf) : Ret Try.prog 47 [.agg x.e, .one (I n)] [.one (I (leftOf n x.sz))] := by
  have r0 := laws_szIntS_ret x.outs (n) (by omega) (by omega) hw.outs_ok.1
  by_cases c0 : ((x.outs.length : Nat) : Int) ≤ n
  case neg =>
    rw [leftOf_neg (by omega)] at r0
    rw [leftOf_neg (by simp only [Node.sz]; omega)]
    exact laws_szNode_p0 _ _ _ _ _ _ ⟨r0, rfl, trivial⟩
  rw [leftOf_ok c0] at r0
  have e : leftOf n x.sz = n - ((x.outs.length : Nat) : Int) := by
    rw [leftOf_ok (by simp only [Node.sz]; omega)]
    simp only [Node.sz] <;> omega
  rw [e]
  exact laws_szNode_p1 _ _ _ _ _ _ ⟨r0, by simp only [decide_eq_false_iff_not]; omega, trivial⟩

theorem laws_szNodeS_ret (xs : List Node) (n : Int) (h0 : 0 ≤ n) (h1 : n ≤ 8388608) (hl : (xs.length : Int) ≤ 9223372036854775807) (hw : ∀ x ∈ xs, x.wf) : Ret Try.prog 22 [.one (.sl 4 (xs.map Node.e)), .one (I n)] [.one (I (leftOf n (szS Node.sz xs)))] := by
  have e : (xs.map Node.e).length = xs.length := List.length_map ..
  by_cases c : (xs.length : Int) ≤ n
  case neg =>
    rw [leftOf_neg (by unfold szS; omega)]
    exact laws_szNodeS_p0 _ _ ⟨⟨by omega, by omega⟩, by simp only [decide_eq_true_eq]; omega, trivial⟩
  have step : ∀ i, i < xs.length → (sumTo Node.sz xs i : Int) ≤ n - xs.length → (sumTo Node.sz xs (i + 1) : Int) ≤ n - xs.length →
      Tr Try.prog (loopOf Try.f22 0) (laws_szNodeS_L0 (xs.map Node.e) i (n - ↑(xs.map Node.e).length - sumTo Node.sz xs i)) .normal (laws_szNodeS_L0 (xs.map Node.e) (i + 1 : Nat) (n - ↑(xs.map Node.e).length - sumTo Node.sz xs (i + 1))) := by
    intro i hi h2 h3
    obtain ⟨a, ha⟩ := get_of hi
    have hs := sumTo_succ (sz := Node.sz) ha
    have r := laws_szNode_ret a (n - ↑(xs.map Node.e).length - sumTo Node.sz xs i) (by omega) (by omega) (hw a (mem_of ha))
    rw [leftOf_ok (by omega)] at r
    have e2 : n - ↑(xs.map Node.e).length - (sumTo Node.sz xs i : Int) - (a.sz : Int) = n - ↑(xs.map Node.e).length - (sumTo Node.sz xs (i + 1) : Int) := by omega
    rw [e2] at r
    exact laws_szNodeS_L0_s1 _ _ _ _ _ _ _ _ ⟨lt1 hi, lt0, lt2 hi, at_map Node.e ha, r, by simp only [decide_eq_false_iff_not]; omega, upM hi hl, trivial⟩
  rcases first_over Node.sz xs (n - xs.length) (by omega) with h | ⟨i, a, ha, h2, h3, h4⟩
  · have hle := fun i => sumTo_le (sz := Node.sz) (xs := xs) (i := i)
    have e1 : leftOf n (szS Node.sz xs) = n - ↑(xs.map Node.e).length - sumTo Node.sz xs xs.length := by
      rw [leftOf_ok (by unfold szS; omega), sumTo_all]; unfold szS; omega
    rw [e1]
    have l := loop_upto (exit_ne 0) xs.length (fun i => laws_szNodeS_L0 (xs.map Node.e) i (n - ↑(xs.map Node.e).length - sumTo Node.sz xs i)) (fun i hi => step i hi (by have := hle i; omega) (by have := hle (i + 1); omega)) (laws_szNodeS_L0_x2 _ _ _ ⟨ge1, trivial⟩)
    simp only [sumTo_zero, Int.sub_zero, Int.natCast_zero] at l
    exact laws_szNodeS_p2 _ _ _ ⟨⟨by omega, by omega⟩, by simp only [decide_eq_false_iff_not]; omega, l, trivial⟩
  · have hi := lt_of ha
    have hle := fun i => sumTo_le (sz := Node.sz) (xs := xs) (i := i)
    have hs := sumTo_succ (sz := Node.sz) ha
    have hb := hle (i + 1)
    rw [leftOf_neg (by unfold szS; omega)]
    have r := laws_szNode_ret a (n - ↑(xs.map Node.e).length - sumTo Node.sz xs i) (by omega) (by omega) (hw a (mem_of ha))
    rw [leftOf_neg (by omega)] at r
    have l := loop_upto ret_ne i (fun i => laws_szNodeS_L0 (xs.map Node.e) i (n - ↑(xs.map Node.e).length - sumTo Node.sz xs i)) (fun j hj => step j (by omega) (h4 j (by omega)) (h4 (j + 1) (by omega))) (laws_szNodeS_L0_x0 _ _ _ _ _ _ _ _ ⟨lt1 hi, lt0, lt2 hi, at_map Node.e ha, r, rfl, trivial⟩)
    simp only [sumTo_zero, Int.sub_zero, Int.natCast_zero] at l
    exact laws_szNodeS_p1 _ _ _ ⟨⟨by omega, by omega⟩, by simp only [decide_eq_false_iff_not]; omega, l, trivial⟩

theorem laws_szGraph_ret (x : Graph) (n : Int) (h0 : 0 ≤ n) (h1 : n ≤ 8388608) (hw : x.wf) : Ret Try.prog 6 [.agg x.e, .one (I n)] [.one (I (leftOf n x.sz))] := by
  have r0 := laws_szNodeS_ret x.nodes (n) (by omega) (by omega) hw.nodes_ok.1 hw.nodes_ok.2
  by_cases c0 : ((szS Node.sz x.nodes : Nat) : Int) ≤ n
  case neg =>
    rw [leftOf_neg (by omega)] at r0
    rw [leftOf_neg (by simp only [Graph.sz]; omega)]
    exact laws_szGraph_p0 _ _ _ _ _ ⟨r0, rfl, trivial⟩
  rw [leftOf_ok c0] at r0
  have e : leftOf n x.sz = n - ((szS Node.sz x.nodes : Nat) : Int) := by
    rw [leftOf_ok (by simp only [Graph.sz]; omega)]
    simp only [Graph.sz] <;> omega
  rw [e]
  exact laws_szGraph_p1 _ _ _ _ _ ⟨r0, by simp only [decide_eq_false_iff_not]; omega, trivial⟩

end Go.Proofs.Ytenekpkjlgddnaa

namespace Go.Proofs.Ytenekpkjlgddnaa
open Go.Sx Go.RowKit

theorem toL {α : Type} {P : Program} {c : Code} {e : α → List D} {z : List D} {xs : List α} {st : Nat → List (List D) → St} {X : St}
    (hs : ∀ i a, xs[i]? = some a → i < xs.length → Tr P c (st i (fillAt e z xs i)) .normal (st (i + 1) ((fillAt e z xs i).set ((i : Nat) : Int).toNat (e a))))
    (hx : Tr P c (st xs.length (xs.map e)) (.exit 0) X) : LoopOk P c (st 0 (List.replicate (xs.map e).length z)) (.exit 0) X := by
  have l := loop_upto (P := P) (c := c) (exit_ne 0) xs.length (fun i => st i (fillAt e z xs i)) (fun i hi => by
    obtain ⟨a, ha⟩ := get_of hi
    have t := hs i a ha hi
    rw [fillAt_set ha] at t
    exact t) (stE := X) (by rw [fillAt_all]; exact hx)
  rw [fillAt_zero] at l
  exact l

theorem laws_toIntS_ret (xs : List Int) (hx0 : xs.length ≤ 8388608) : Ret Try.prog 79 [.one (.sl 1 (xs.map eI))] [.one (.sl 1 (xs.map eI))] := by
  have hx : xs.length ≤ 8388608 := hx0
  exact laws_toIntS_p0 _ _ ⟨by omega, by omega, by simp only [List.length_map]; omega, by simp only [List.length_map]; omega, toL (e := eI) (z := [I 0]) (st := fun i l => laws_toIntS_L0 (xs.map eI) i l) (fun i a ha hi =>
    laws_toIntS_L0_s0 _ _ _ _ _ ⟨lt1 hi, lt0, lt2 hi, at_map eI ha, lt0, fillAt_lt hi, fillAt_get hi, up1 hi hx, trivial⟩) (laws_toIntS_L0_x1 _ _ _ ⟨ge1, trivial⟩), trivial⟩

theorem laws_toStamp_ret (x : Stamp) : Ret Try.prog 53 [.agg x.e] [.agg x.e] := laws_toStamp_p0 _ _ trivial

theorem laws_toRecord_ret (x : Record) : Ret Try.prog 25 [.agg x.e] [.agg x.e] := laws_toRecord_p0 _ _ _ _ _ _ _ ⟨laws_toStamp_ret x.stamp, trivial⟩

theorem laws_toRecordS_ret (xs : List Record) (hx0 : xs.length ≤ 8388608) : Ret Try.prog 10 [.one (.sl 5 (xs.map Record.e))] [.one (.sl 5 (xs.map Record.e))] := by
  have hx : xs.length ≤ 8388608 := hx0
  exact laws_toRecordS_p0 _ _ ⟨by omega, by omega, by simp only [List.length_map]; omega, by simp only [List.length_map]; omega, toL (e := Record.e) (z := [I 0, I 0, I 0, I 0, I 0]) (st := fun i l => laws_toRecordS_L0 (xs.map Record.e) i l) (fun i a ha hi =>
    laws_toRecordS_L0_s0 _ _ _ _ _ _ _ _ _ _ _ _ _ _ _ _ _ _ ⟨lt1 hi, lt0, lt2 hi, at_map Record.e ha, laws_toRecord_ret a, lt0, fillAt_lt hi, fillAt_get hi, up1 hi hx, trivial⟩) (laws_toRecordS_L0_x1 _ _ _ ⟨ge1, trivial⟩), trivial⟩

theorem laws_toNode_ret (x : Node) (hx : x.sz ≤ 8388608) : Ret Try.prog 52 [.agg x.e] [.agg x.e] :=
  laws_toNode_p0 _ _ _ _ _ ⟨laws_toIntS_ret x.outs (by simp only [Node.sz] at hx; omega), trivial⟩

theorem laws_toNodeS_ret (xs : List Node) (hx0 : szS Node.sz xs ≤ 8388608) : Ret Try.prog 24 [.one (.sl 4 (xs.map Node.e))] [.one (.sl 4 (xs.map Node.e))] := by
  have hx : xs.length ≤ 8388608 := szS_len hx0
  exact laws_toNodeS_p0 _ _ ⟨by omega, by omega, by simp only [List.length_map]; omega, by simp only [List.length_map]; omega, toL (e := Node.e) (z := [I 0, I 0, I 0, D.v (Value.slice none 0 0)]) (st := fun i l => laws_toNodeS_L0 (xs.map Node.e) i l) (fun i a ha hi =>
    laws_toNodeS_L0_s0 _ _ _ _ _ _ _ _ _ _ _ _ _ _ _ ⟨lt1 hi, lt0, lt2 hi, at_map Node.e ha, laws_toNode_ret a (szS_mem hx0 (mem_of ha)), lt0, fillAt_lt hi, fillAt_get hi, up1 hi hx, trivial⟩) (laws_toNodeS_L0_x1 _ _ _ ⟨ge1, trivial⟩), trivial⟩

theorem laws_toGraph_ret (x : Graph) (hx : x.sz ≤ 8388608) : Ret Try.prog 9 [.agg x.e] [.agg x.e] :=
  laws_toGraph_p0 _ _ _ _ ⟨laws_toNodeS_ret x.nodes (by simp only [Graph.sz] at hx; omega), trivial⟩

end Go.Proofs.Ytenekpkjlgddnaa

namespace Go.Proofs.Ytenekpkjlgddnaa
open Go.Sx Go.RowKit

theorem eqL {α : Type} [DecidableEq α] {P : Program} {c : Code} {e : α → List D} {xs ys : List α} {st : Nat → St} {X Y : St} {f : Nat} {args : List AD}
    (h0 : ((↑(xs.map e).length : Int) != (↑(ys.map e).length : Int)) = true → Ret P f args [.one (B false)])
    (hs : ∀ i a, xs[i]? = some a → ys[i]? = some a → i < xs.length → i < ys.length → Tr P c (st i) .normal (st (i + 1)))
    (hd : ∀ i a b, xs[i]? = some a → ys[i]? = some b → a ≠ b → i < xs.length → i < ys.length → Tr P c (st i) .ret X)
    (he : Tr P c (st xs.length) (.exit 0) Y)
    (ht : ((↑(xs.map e).length : Int) != (↑(ys.map e).length : Int)) = false → LoopOk P c (st 0) (.exit 0) Y → Ret P f args [.one (B true)])
    (hf : ((↑(xs.map e).length : Int) != (↑(ys.map e).length : Int)) = false → LoopOk P c (st 0) .ret X → Ret P f args [.one (B false)]) : Ret P f args [.one (B (decide (xs = ys)))] := by
  by_cases hl : xs.length = ys.length
  case neg =>
    rw [decide_eq_false (fun e => hl (by rw [e]))]
    exact h0 (by simp only [List.length_map, bne_iff_ne, ne_eq]; omega)
  have hz : ((↑(xs.map e).length : Int) != (↑(ys.map e).length : Int)) = false := by simp [hl]
  have step : ∀ i, i < xs.length → xs[i]? = ys[i]? → Tr P c (st i) .normal (st (i + 1)) := by
    intro i hi h
    obtain ⟨a, ha⟩ := get_of hi
    exact hs i a ha (h ▸ ha) hi (by omega)
  rcases first_diff xs ys hl with he' | ⟨i, a, b, ha, hb, hab, hlt⟩
  · rw [decide_eq_true he']
    exact ht hz (loop_upto (exit_ne 0) xs.length st (fun i hi => step i hi (by rw [he'])) he)
  · rw [decide_eq_false (fun e => by rw [e, hb] at ha; exact hab (Option.some.inj ha).symm)]
    have hi := lt_of ha
    exact hf hz (loop_upto ret_ne i st (fun j hj => step j (by omega) (hlt j hj)) (hd i a b ha hb hab hi (by omega)))

theorem laws_eqIntS_ret (xs ys : List Int) (hx0 : xs.length ≤ 8388608) : Ret Try.prog 80 [.one (.sl 1 (xs.map eI)), .one (.sl 1 (ys.map eI))] [.one (B (decide (xs = ys)))] := by
  have hx : xs.length ≤ 8388608 := hx0
  exact eqL (e := eI) (st := fun i => laws_eqIntS_L0 (xs.map eI) (ys.map eI) i) (fun h => laws_eqIntS_p0 _ _ ⟨h, trivial⟩)
    (fun i a ha hb hi hj => laws_eqIntS_L0_s1 _ _ _ _ _ ⟨lt1 hi, lt0, lt2 hi, at_map eI ha, lt0, lt2 hj, at_map eI hb, by simp, up1 hi hx, trivial⟩)
    (fun i a b ha hb hab hi hj => laws_eqIntS_L0_x0 _ _ _ _ _ ⟨lt1 hi, lt0, lt2 hi, at_map eI ha, lt0, lt2 hj, at_map eI hb, by simp [hab], trivial⟩)
    (laws_eqIntS_L0_x2 _ _ _ ⟨ge1, trivial⟩) (fun h l => laws_eqIntS_p2 _ _ ⟨h, l, trivial⟩) (fun h l => laws_eqIntS_p1 _ _ false ⟨h, l, trivial⟩)

theorem laws_eqIntS_ret' (xs ys : List Int) (r : Bool) (h : decide (xs = ys) = r) (hx0 : xs.length ≤ 8388608) : Ret Try.prog 80 [.one (.sl 1 (xs.map eI)), .one (.sl 1 (ys.map eI))] [.one (B r)] := h ▸ laws_eqIntS_ret xs ys hx0

theorem laws_eqStamp_ret (x y : Stamp) : Ret Try.prog 56 [.agg x.e, .agg y.e] [.one (B (decide (x = y)))] := by
  obtain ⟨a0, a1⟩ := x
  obtain ⟨b0, b1⟩ := y
  by_cases h0 : a0 = b0
  case neg =>
    rw [decide_eq_false (by simp [h0])]
    exact laws_eqStamp_p0 _ _ _ _ ⟨by simp [h0], trivial⟩
  by_cases h1 : a1 = b1
  case neg =>
    rw [decide_eq_false (by simp [h1])]
    exact laws_eqStamp_p1 _ _ _ _ ⟨by simp [h0], by simp [h1], trivial⟩
  rw [decide_eq_true (by simp [h0, h1])]
  exact laws_eqStamp_p2 _ _ _ _ ⟨by simp [h0], by simp [h1], trivial⟩

theorem laws_eqStamp_ret' (x y : Stamp) (r : Bool) (h : decide (x = y) = r) : Ret Try.prog 56 [.agg x.e, .agg y.e] [.one (B r)] := h ▸ laws_eqStamp_ret x y

theorem laws_eqRecord_ret (x y : Record) : Ret Try.prog 29 [.agg x.e, .agg y.e] [.one (B (decide (x = y)))] := by
  obtain ⟨a0, a1, a2, a3⟩ := x
  obtain ⟨b0, b1, b2, b3⟩ := y
  by_cases h0 : a0 = b0
  case neg =>
    rw [decide_eq_false (by simp [h0])]
    exact laws_eqRecord_p0 _ _ _ _ _ _ _ _ _ _ ⟨by simp [h0], trivial⟩
  by_cases h1 : a1 = b1
  case neg =>
    rw [decide_eq_false (by simp [h1])]
    exact laws_eqRecord_p1 _ _ _ _ _ _ _ _ _ _ _ ⟨by simp [h0], laws_eqStamp_ret' a1 b1 false (by simp [h1]), rfl, trivial⟩
  by_cases h2 : a2 = b2
  case neg =>
    rw [decide_eq_false (by simp [h2])]
    exact laws_eqRecord_p2 _ _ _ _ _ _ _ _ _ _ _ ⟨by simp [h0], laws_eqStamp_ret' a1 b1 true (by simp [h1]), rfl, by simp [h2], trivial⟩
  by_cases h3 : a3 = b3
  case neg =>
    rw [decide_eq_false (by simp [h3])]
    exact laws_eqRecord_p3 _ _ _ _ _ _ _ _ _ _ _ ⟨by simp [h0], laws_eqStamp_ret' a1 b1 true (by simp [h1]), rfl, by simp [h2], by simp [h3], trivial⟩
  rw [decide_eq_true (by simp [h0, h1, h2, h3])]
  exact laws_eqRecord_p4 _ _ _ _ _ _ _ _ _ _ _ ⟨by simp [h0], laws_eqStamp_ret' a1 b1 true (by simp [h1]), rfl, by simp [h2], by simp [h3], trivial⟩

theorem laws_eqRecord_ret' (x y : Record) (r : Bool) (h : decide (x = y) = r) : Ret Try.prog 29 [.agg x.e, .agg y.e] [.one (B r)] := h ▸ laws_eqRecord_ret x y

theorem laws_eqRecordS_ret (xs ys : List Record) (hx0 : xs.length ≤ 8388608) : Ret Try.prog 13 [.one (.sl 5 (xs.map Record.e)), .one (.sl 5 (ys.map Record.e))] [.one (B (decide (xs = ys)))] := by
  have hx : xs.length ≤ 8388608 := hx0
  exact eqL (e := Record.e) (st := fun i => laws_eqRecordS_L0 (xs.map Record.e) (ys.map Record.e) i) (fun h => laws_eqRecordS_p0 _ _ ⟨h, trivial⟩)
    (fun i a ha hb hi hj => laws_eqRecordS_L0_s1 _ _ _ _ _ _ _ _ _ _ _ _ _ _ ⟨lt1 hi, lt0, lt2 hi, at_map Record.e ha, lt0, lt2 hj, at_map Record.e hb, laws_eqRecord_ret' a a true (by simp), rfl, up1 hi hx, trivial⟩)
    (fun i a b ha hb hab hi hj => laws_eqRecordS_L0_x0 _ _ _ _ _ _ _ _ _ _ _ _ _ _ ⟨lt1 hi, lt0, lt2 hi, at_map Record.e ha, lt0, lt2 hj, at_map Record.e hb, laws_eqRecord_ret' a b false (by simp [hab]), rfl, trivial⟩)
    (laws_eqRecordS_L0_x2 _ _ _ ⟨ge1, trivial⟩) (fun h l => laws_eqRecordS_p2 _ _ ⟨h, l, trivial⟩) (fun h l => laws_eqRecordS_p1 _ _ false ⟨h, l, trivial⟩)

theorem laws_eqRecordS_ret' (xs ys : List Record) (r : Bool) (h : decide (xs = ys) = r) (hx0 : xs.length ≤ 8388608) : Ret Try.prog 13 [.one (.sl 5 (xs.map Record.e)), .one (.sl 5 (ys.map Record.e))] [.one (B r)] := h ▸ laws_eqRecordS_ret xs ys hx0

theorem laws_eqNode_ret (x y : Node) (hx : x.sz ≤ 8388608) : Ret Try.prog 55 [.agg x.e, .agg y.e] [.one (B (decide (x = y)))] := by
  obtain ⟨a0, a1, a2, a3⟩ := x
  obtain ⟨b0, b1, b2, b3⟩ := y
  simp only [Node.sz] at hx
  by_cases h0 : a0 = b0
  case neg =>
    rw [decide_eq_false (by simp [h0])]
    exact laws_eqNode_p0 _ _ _ _ _ _ _ _ ⟨by simp [h0], trivial⟩
  by_cases h1 : a1 = b1
  case neg =>
    rw [decide_eq_false (by simp [h1])]
    exact laws_eqNode_p1 _ _ _ _ _ _ _ _ ⟨by simp [h0], by simp [h1], trivial⟩
  by_cases h2 : a2 = b2
  case neg =>
    rw [decide_eq_false (by simp [h2])]
    exact laws_eqNode_p2 _ _ _ _ _ _ _ _ ⟨by simp [h0], by simp [h1], by simp [h2], trivial⟩
  by_cases h3 : a3 = b3
  case neg =>
    rw [decide_eq_false (by simp [h3])]
    exact laws_eqNode_p3 _ _ _ _ _ _ _ _ _ ⟨by simp [h0], by simp [h1], by simp [h2], laws_eqIntS_ret' a3 b3 false (by simp [h3]) (by omega), rfl, trivial⟩
  rw [decide_eq_true (by simp [h0, h1, h2, h3])]
  exact laws_eqNode_p4 _ _ _ _ _ _ _ _ _ ⟨by simp [h0], by simp [h1], by simp [h2], laws_eqIntS_ret' a3 b3 true (by simp [h3]) (by omega), rfl, trivial⟩

theorem laws_eqNode_ret' (x y : Node) (r : Bool) (h : decide (x = y) = r) (hx : x.sz ≤ 8388608) : Ret Try.prog 55 [.agg x.e, .agg y.e] [.one (B r)] := h ▸ laws_eqNode_ret x y hx

theorem laws_eqNodeS_ret (xs ys : List Node) (hx0 : szS Node.sz xs ≤ 8388608) : Ret Try.prog 28 [.one (.sl 4 (xs.map Node.e)), .one (.sl 4 (ys.map Node.e))] [.one (B (decide (xs = ys)))] := by
  have hx : xs.length ≤ 8388608 := szS_len hx0
  exact eqL (e := Node.e) (st := fun i => laws_eqNodeS_L0 (xs.map Node.e) (ys.map Node.e) i) (fun h => laws_eqNodeS_p0 _ _ ⟨h, trivial⟩)
    (fun i a ha hb hi hj => laws_eqNodeS_L0_s1 _ _ _ _ _ _ _ _ _ _ _ _ ⟨lt1 hi, lt0, lt2 hi, at_map Node.e ha, lt0, lt2 hj, at_map Node.e hb, laws_eqNode_ret' a a true (by simp) (szS_mem hx0 (mem_of ha)), rfl, up1 hi hx, trivial⟩)
    (fun i a b ha hb hab hi hj => laws_eqNodeS_L0_x0 _ _ _ _ _ _ _ _ _ _ _ _ ⟨lt1 hi, lt0, lt2 hi, at_map Node.e ha, lt0, lt2 hj, at_map Node.e hb, laws_eqNode_ret' a b false (by simp [hab]) (szS_mem hx0 (mem_of ha)), rfl, trivial⟩)
    (laws_eqNodeS_L0_x2 _ _ _ ⟨ge1, trivial⟩) (fun h l => laws_eqNodeS_p2 _ _ ⟨h, l, trivial⟩) (fun h l => laws_eqNodeS_p1 _ _ false ⟨h, l, trivial⟩)

theorem laws_eqNodeS_ret' (xs ys : List Node) (r : Bool) (h : decide (xs = ys) = r) (hx0 : szS Node.sz xs ≤ 8388608) : Ret Try.prog 28 [.one (.sl 4 (xs.map Node.e)), .one (.sl 4 (ys.map Node.e))] [.one (B r)] := h ▸ laws_eqNodeS_ret xs ys hx0

theorem laws_eqGraph_ret (x y : Graph) (hx : x.sz ≤ 8388608) : Ret Try.prog 12 [.agg x.e, .agg y.e] [.one (B (decide (x = y)))] := by
  obtain ⟨a0, a1, a2⟩ := x
  obtain ⟨b0, b1, b2⟩ := y
  simp only [Graph.sz] at hx
  by_cases h0 : a0 = b0
  case neg =>
    rw [decide_eq_false (by simp [h0])]
    exact laws_eqGraph_p0 _ _ _ _ _ _ _ ⟨laws_eqNodeS_ret' a0 b0 false (by simp [h0]) (by omega), rfl, trivial⟩
  by_cases h1 : a1 = b1
  case neg =>
    rw [decide_eq_false (by simp [h1])]
    exact laws_eqGraph_p1 _ _ _ _ _ _ _ ⟨laws_eqNodeS_ret' a0 b0 true (by simp [h0]) (by omega), rfl, by simp [h1], trivial⟩
  by_cases h2 : a2 = b2
  case neg =>
    rw [decide_eq_false (by simp [h2])]
    exact laws_eqGraph_p2 _ _ _ _ _ _ _ ⟨laws_eqNodeS_ret' a0 b0 true (by simp [h0]) (by omega), rfl, by simp [h1], by simp [h2], trivial⟩
  rw [decide_eq_true (by simp [h0, h1, h2])]
  exact laws_eqGraph_p3 _ _ _ _ _ _ _ ⟨laws_eqNodeS_ret' a0 b0 true (by simp [h0]) (by omega), rfl, by simp [h1], by simp [h2], trivial⟩

theorem laws_eqGraph_ret' (x y : Graph) (r : Bool) (h : decide (x = y) = r) (hx : x.sz ≤ 8388608) : Ret Try.prog 12 [.agg x.e, .agg y.e] [.one (B r)] := h ▸ laws_eqGraph_ret x y hx

end Go.Proofs.Ytenekpkjlgddnaa
