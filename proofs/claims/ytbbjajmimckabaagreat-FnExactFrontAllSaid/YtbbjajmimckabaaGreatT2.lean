/- The functions sz.. (printed by gentypes.py) -/
import Derived.Test.YtbbjajmimckabaaGreatT1
import Derived.Test.YtbbjajmimckabaaGreatGA
set_option linter.unusedVariables false
set_option linter.unusedSimpArgs false
namespace Go.Proofs.YtbbjajmimckabaaGreat
open Go.Sx Go.RowKit

theorem laws_szIntS_ret (xs : List Int) (n : Int) (h0 : 0 ≤ n) (h1 : n ≤ 1048576) (hl : (xs.length : Int) ≤ 9223372036854775807) : Ret Tryz.prog 97 [.one (.sl 1 (xs.map eI)), .one (I n)] [.one (I (leftOf n xs.length))] := by
  have e : (xs.map eI).length = xs.length := List.length_map ..
  rw [← e]
  rw [← e] at hl
  unfold leftOf
  split
  · exact laws_szIntS_p1 _ _ ⟨⟨by omega, by omega⟩, by simp only [decide_eq_false_iff_not]; omega, trivial⟩
  · exact laws_szIntS_p0 _ _ ⟨⟨by omega, by omega⟩, by simp only [decide_eq_true_eq]; omega, trivial⟩

theorem laws_szBoolS_ret (xs : List Bool) (n : Int) (h0 : 0 ≤ n) (h1 : n ≤ 1048576) (hl : (xs.length : Int) ≤ 9223372036854775807) : Ret Tryz.prog 98 [.one (.sl 1 (xs.map eB)), .one (I n)] [.one (I (leftOf n xs.length))] := by
  have e : (xs.map eB).length = xs.length := List.length_map ..
  rw [← e]
  rw [← e] at hl
  unfold leftOf
  split
  · exact laws_szBoolS_p1 _ _ ⟨⟨by omega, by omega⟩, by simp only [decide_eq_false_iff_not]; omega, trivial⟩
  · exact laws_szBoolS_p0 _ _ ⟨⟨by omega, by omega⟩, by simp only [decide_eq_true_eq]; omega, trivial⟩

theorem laws_szRecordS_ret (xs : List Record) (n : Int) (h0 : 0 ≤ n) (h1 : n ≤ 1048576) (hl : (xs.length : Int) ≤ 9223372036854775807) : Ret Tryz.prog 95 [.one (.sl 5 (xs.map Record.e)), .one (I n)] [.one (I (leftOf n xs.length))] := by
  have e : (xs.map Record.e).length = xs.length := List.length_map ..
  rw [← e]
  rw [← e] at hl
  unfold leftOf
  split
  · exact laws_szRecordS_p1 _ _ ⟨⟨by omega, by omega⟩, by simp only [decide_eq_false_iff_not]; omega, trivial⟩
  · exact laws_szRecordS_p0 _ _ ⟨⟨by omega, by omega⟩, by simp only [decide_eq_true_eq]; omega, trivial⟩

theorem laws_szCellS_ret (xs : List Cell) (n : Int) (h0 : 0 ≤ n) (h1 : n ≤ 1048576) (hl : (xs.length : Int) ≤ 9223372036854775807) : Ret Tryz.prog 96 [.one (.sl 4 (xs.map Cell.e)), .one (I n)] [.one (I (leftOf n xs.length))] := by
  have e : (xs.map Cell.e).length = xs.length := List.length_map ..
  rw [← e]
  rw [← e] at hl
  unfold leftOf
  split
  · exact laws_szCellS_p1 _ _ ⟨⟨by omega, by omega⟩, by simp only [decide_eq_false_iff_not]; omega, trivial⟩
  · exact laws_szCellS_p0 _ _ ⟨⟨by omega, by omega⟩, by simp only [decide_eq_true_eq]; omega, trivial⟩

theorem laws_szDoneS_ret (xs : List Done) (n : Int) (h0 : 0 ≤ n) (h1 : n ≤ 1048576) (hl : (xs.length : Int) ≤ 9223372036854775807) : Ret Tryz.prog 99 [.one (.sl 2 (xs.map Done.e)), .one (I n)] [.one (I (leftOf n xs.length))] := by
  have e : (xs.map Done.e).length = xs.length := List.length_map ..
  rw [← e]
  rw [← e] at hl
  unfold leftOf
  split
  · exact laws_szDoneS_p1 _ _ ⟨⟨by omega, by omega⟩, by simp only [decide_eq_false_iff_not]; omega, trivial⟩
  · exact laws_szDoneS_p0 _ _ ⟨⟨by omega, by omega⟩, by simp only [decide_eq_true_eq]; omega, trivial⟩

theorem laws_szTokenS_ret (xs : List Token) (n : Int) (h0 : 0 ≤ n) (h1 : n ≤ 1048576) (hl : (xs.length : Int) ≤ 9223372036854775807) : Ret Tryz.prog 28 [.one (.sl 5 (xs.map Token.e)), .one (I n)] [.one (I (leftOf n xs.length))] := by
  have e : (xs.map Token.e).length = xs.length := List.length_map ..
  rw [← e]
  rw [← e] at hl
  unfold leftOf
  split
  · exact laws_szTokenS_p1 _ _ ⟨⟨by omega, by omega⟩, by simp only [decide_eq_false_iff_not]; omega, trivial⟩
  · exact laws_szTokenS_p0 _ _ ⟨⟨by omega, by omega⟩, by simp only [decide_eq_true_eq]; omega, trivial⟩

theorem laws_szNewsS_ret (xs : List News) (n : Int) (h0 : 0 ≤ n) (h1 : n ≤ 1048576) (hl : (xs.length : Int) ≤ 9223372036854775807) : Ret Tryz.prog 29 [.one (.sl 3 (xs.map News.e)), .one (I n)] [.one (I (leftOf n xs.length))] := by
  have e : (xs.map News.e).length = xs.length := List.length_map ..
  rw [← e]
  rw [← e] at hl
  unfold leftOf
  split
  · exact laws_szNewsS_p1 _ _ ⟨⟨by omega, by omega⟩, by simp only [decide_eq_false_iff_not]; omega, trivial⟩
  · exact laws_szNewsS_p0 _ _ ⟨⟨by omega, by omega⟩, by simp only [decide_eq_true_eq]; omega, trivial⟩

theorem laws_szNode_ret (x : Node) (n : Int) (h0 : 0 ≤ n) (h1 : n ≤ 1048576) (hw : x.wf) : Ret Tryz.prog 94 [.agg x.e, .one (I n)] [.one (I (leftOf n x.sz))] := by
  have r0 := laws_szIntS_ret x.outs (n) (by omega) (by omega) hw.outs_ok.1
  by_cases c0 : ((x.outs.length : Nat) : Int) ≤ n
  case neg =>
    rw [leftOf_neg (by omega)] at r0
    rw [leftOf_neg (by simp only [Node.sz]; omega)]
    exact laws_szNode_p0 _ _ _ _ _ _ ⟨r0, rfl, trivial⟩
  rw [leftOf_ok c0] at r0
  have e : leftOf n x.sz = n - ((x.outs.length : Nat) : Int) := by
    rw [leftOf_ok (by simp only [Node.sz]; omega)]
    simp only [Node.sz] <;> omega
  rw [e]
  exact laws_szNode_p1 _ _ _ _ _ _ ⟨r0, by simp only [decide_eq_false_iff_not]; omega, trivial⟩

theorem laws_szNodeS_ret (xs : List Node) (n : Int) (h0 : 0 ≤ n) (h1 : n ≤ 1048576) (hl : (xs.length : Int) ≤ 9223372036854775807) (hw : ∀ x ∈ xs, x.wf) : Ret Tryz.prog 61 [.one (.sl 4 (xs.map Node.e)), .one (I n)] [.one (I (leftOf n (szS Node.sz xs)))] := by
  have e : (xs.map Node.e).length = xs.length := List.length_map ..
  by_cases c : (xs.length : Int) ≤ n
  case neg =>
    rw [leftOf_neg (by unfold szS; omega)]
    exact laws_szNodeS_p0 _ _ ⟨⟨by omega, by omega⟩, by simp only [decide_eq_true_eq]; omega, trivial⟩
  have step : ∀ i, i < xs.length → (sumTo Node.sz xs i : Int) ≤ n - xs.length → (sumTo Node.sz xs (i + 1) : Int) ≤ n - xs.length →
      Tr Tryz.prog (loopOf Tryz.f61 0) (laws_szNodeS_L0 (xs.map Node.e) i (n - ↑(xs.map Node.e).length - sumTo Node.sz xs i)) .normal (laws_szNodeS_L0 (xs.map Node.e) (i + 1 : Nat) (n - ↑(xs.map Node.e).length - sumTo Node.sz xs (i + 1))) := by
    intro i hi h2 h3
    obtain ⟨a, ha⟩ := get_of hi
    have hs := sumTo_succ (sz := Node.sz) ha
    have r := laws_szNode_ret a (n - ↑(xs.map Node.e).length - sumTo Node.sz xs i) (by omega) (by omega) (hw a (mem_of ha))
    rw [leftOf_ok (by omega)] at r
    have e2 : n - ↑(xs.map Node.e).length - (sumTo Node.sz xs i : Int) - (a.sz : Int) = n - ↑(xs.map Node.e).length - (sumTo Node.sz xs (i + 1) : Int) := by omega
    rw [e2] at r
    exact laws_szNodeS_L0_s1 _ _ _ _ _ _ _ _ ⟨lt1 hi, lt0, lt2 hi, at_map Node.e ha, r, by simp only [decide_eq_false_iff_not]; omega, upM hi hl, trivial⟩
  rcases first_over Node.sz xs (n - xs.length) (by omega) with h | ⟨i, a, ha, h2, h3, h4⟩
  · have hle := fun i => sumTo_le (sz := Node.sz) (xs := xs) (i := i)
    have e1 : leftOf n (szS Node.sz xs) = n - ↑(xs.map Node.e).length - sumTo Node.sz xs xs.length := by
      rw [leftOf_ok (by unfold szS; omega), sumTo_all]; unfold szS; omega
    rw [e1]
    have l := loop_upto (exit_ne 0) xs.length (fun i => laws_szNodeS_L0 (xs.map Node.e) i (n - ↑(xs.map Node.e).length - sumTo Node.sz xs i)) (fun i hi => step i hi (by have := hle i; omega) (by have := hle (i + 1); omega)) (laws_szNodeS_L0_x2 _ _ _ ⟨ge1, trivial⟩)
    simp only [sumTo_zero, Int.sub_zero, Int.natCast_zero] at l
    exact laws_szNodeS_p2 _ _ _ ⟨⟨by omega, by omega⟩, by simp only [decide_eq_false_iff_not]; omega, l, trivial⟩
  · have hi := lt_of ha
    have hle := fun i => sumTo_le (sz := Node.sz) (xs := xs) (i := i)
    have hs := sumTo_succ (sz := Node.sz) ha
    have hb := hle (i + 1)
    rw [leftOf_neg (by unfold szS; omega)]
    have r := laws_szNode_ret a (n - ↑(xs.map Node.e).length - sumTo Node.sz xs i) (by omega) (by omega) (hw a (mem_of ha))
    rw [leftOf_neg (by omega)] at r
    have l := loop_upto ret_ne i (fun i => laws_szNodeS_L0 (xs.map Node.e) i (n - ↑(xs.map Node.e).length - sumTo Node.sz xs i)) (fun j hj => step j (by omega) (h4 j (by omega)) (h4 (j + 1) (by omega))) (laws_szNodeS_L0_x0 _ _ _ _ _ _ _ _ ⟨lt1 hi, lt0, lt2 hi, at_map Node.e ha, r, rfl, trivial⟩)
    simp only [sumTo_zero, Int.sub_zero, Int.natCast_zero] at l
    exact laws_szNodeS_p1 _ _ _ ⟨⟨by omega, by omega⟩, by simp only [decide_eq_false_iff_not]; omega, l, trivial⟩

theorem laws_szLink_ret (x : Link) (n : Int) (h0 : 0 ≤ n) (h1 : n ≤ 1048576) (hw : x.wf) : Ret Tryz.prog 63 [.agg x.e, .one (I n)] [.one (I (leftOf n x.sz))] := by
  have r0 := laws_szRecordS_ret x.queue (n) (by omega) (by omega) hw.queue_ok.1
  by_cases c0 : ((x.queue.length : Nat) : Int) ≤ n
  case neg =>
    rw [leftOf_neg (by omega)] at r0
    rw [leftOf_neg (by simp only [Link.sz]; omega)]
    exact laws_szLink_p0 _ _ _ _ _ _ _ _ ⟨r0, rfl, trivial⟩
  rw [leftOf_ok c0] at r0
  have e : leftOf n x.sz = n - ((x.queue.length : Nat) : Int) := by
    rw [leftOf_ok (by simp only [Link.sz]; omega)]
    simp only [Link.sz] <;> omega
  rw [e]
  exact laws_szLink_p1 _ _ _ _ _ _ _ _ ⟨r0, by simp only [decide_eq_false_iff_not]; omega, trivial⟩

theorem laws_szLinkS_ret (xs : List Link) (n : Int) (h0 : 0 ≤ n) (h1 : n ≤ 1048576) (hl : (xs.length : Int) ≤ 9223372036854775807) (hw : ∀ x ∈ xs, x.wf) : Ret Tryz.prog 27 [.one (.sl 6 (xs.map Link.e)), .one (I n)] [.one (I (leftOf n (szS Link.sz xs)))] := by
  have e : (xs.map Link.e).length = xs.length := List.length_map ..
  by_cases c : (xs.length : Int) ≤ n
  case neg =>
    rw [leftOf_neg (by unfold szS; omega)]
    exact laws_szLinkS_p0 _ _ ⟨⟨by omega, by omega⟩, by simp only [decide_eq_true_eq]; omega, trivial⟩
  have step : ∀ i, i < xs.length → (sumTo Link.sz xs i : Int) ≤ n - xs.length → (sumTo Link.sz xs (i + 1) : Int) ≤ n - xs.length →
      Tr Tryz.prog (loopOf Tryz.f27 0) (laws_szLinkS_L0 (xs.map Link.e) i (n - ↑(xs.map Link.e).length - sumTo Link.sz xs i)) .normal (laws_szLinkS_L0 (xs.map Link.e) (i + 1 : Nat) (n - ↑(xs.map Link.e).length - sumTo Link.sz xs (i + 1))) := by
    intro i hi h2 h3
    obtain ⟨a, ha⟩ := get_of hi
    have hs := sumTo_succ (sz := Link.sz) ha
    have r := laws_szLink_ret a (n - ↑(xs.map Link.e).length - sumTo Link.sz xs i) (by omega) (by omega) (hw a (mem_of ha))
    rw [leftOf_ok (by omega)] at r
    have e2 : n - ↑(xs.map Link.e).length - (sumTo Link.sz xs i : Int) - (a.sz : Int) = n - ↑(xs.map Link.e).length - (sumTo Link.sz xs (i + 1) : Int) := by omega
    rw [e2] at r
    exact laws_szLinkS_L0_s1 _ _ _ _ _ _ _ _ _ _ ⟨lt1 hi, lt0, lt2 hi, at_map Link.e ha, r, by simp only [decide_eq_false_iff_not]; omega, upM hi hl, trivial⟩
  rcases first_over Link.sz xs (n - xs.length) (by omega) with h | ⟨i, a, ha, h2, h3, h4⟩
  · have hle := fun i => sumTo_le (sz := Link.sz) (xs := xs) (i := i)
    have e1 : leftOf n (szS Link.sz xs) = n - ↑(xs.map Link.e).length - sumTo Link.sz xs xs.length := by
      rw [leftOf_ok (by unfold szS; omega), sumTo_all]; unfold szS; omega
    rw [e1]
    have l := loop_upto (exit_ne 0) xs.length (fun i => laws_szLinkS_L0 (xs.map Link.e) i (n - ↑(xs.map Link.e).length - sumTo Link.sz xs i)) (fun i hi => step i hi (by have := hle i; omega) (by have := hle (i + 1); omega)) (laws_szLinkS_L0_x2 _ _ _ ⟨ge1, trivial⟩)
    simp only [sumTo_zero, Int.sub_zero, Int.natCast_zero] at l
    exact laws_szLinkS_p2 _ _ _ ⟨⟨by omega, by omega⟩, by simp only [decide_eq_false_iff_not]; omega, l, trivial⟩
  · have hi := lt_of ha
    have hle := fun i => sumTo_le (sz := Link.sz) (xs := xs) (i := i)
    have hs := sumTo_succ (sz := Link.sz) ha
    have hb := hle (i + 1)
    rw [leftOf_neg (by unfold szS; omega)]
    have r := laws_szLink_ret a (n - ↑(xs.map Link.e).length - sumTo Link.sz xs i) (by omega) (by omega) (hw a (mem_of ha))
    rw [leftOf_neg (by omega)] at r
    have l := loop_upto ret_ne i (fun i => laws_szLinkS_L0 (xs.map Link.e) i (n - ↑(xs.map Link.e).length - sumTo Link.sz xs i)) (fun j hj => step j (by omega) (h4 j (by omega)) (h4 (j + 1) (by omega))) (laws_szLinkS_L0_x0 _ _ _ _ _ _ _ _ _ _ ⟨lt1 hi, lt0, lt2 hi, at_map Link.e ha, r, rfl, trivial⟩)
    simp only [sumTo_zero, Int.sub_zero, Int.natCast_zero] at l
    exact laws_szLinkS_p1 _ _ _ ⟨⟨by omega, by omega⟩, by simp only [decide_eq_false_iff_not]; omega, l, trivial⟩

theorem laws_szGraph_ret (x : Graph) (n : Int) (h0 : 0 ≤ n) (h1 : n ≤ 1048576) (hw : x.wf) : Ret Tryz.prog 25 [.agg x.e, .one (I n)] [.one (I (leftOf n x.sz))] := by
  have r0 := laws_szNodeS_ret x.nodes (n) (by omega) (by omega) hw.nodes_ok.1 hw.nodes_ok.2
  by_cases c0 : ((szS Node.sz x.nodes : Nat) : Int) ≤ n
  case neg =>
    rw [leftOf_neg (by omega)] at r0
    rw [leftOf_neg (by simp only [Graph.sz]; omega)]
    exact laws_szGraph_p0 _ _ _ _ _ ⟨r0, rfl, trivial⟩
  rw [leftOf_ok c0] at r0
  have e : leftOf n x.sz = n - ((szS Node.sz x.nodes : Nat) : Int) := by
    rw [leftOf_ok (by simp only [Graph.sz]; omega)]
    simp only [Graph.sz] <;> omega
  rw [e]
  exact laws_szGraph_p1 _ _ _ _ _ ⟨r0, by simp only [decide_eq_false_iff_not]; omega, trivial⟩

theorem laws_szWorker_ret (x : Worker) (n : Int) (h0 : 0 ≤ n) (h1 : n ≤ 1048576) (hw : x.wf) : Ret Tryz.prog 62 [.agg x.e, .one (I n)] [.one (I (leftOf n x.sz))] := by
  have r0 := laws_szRecordS_ret x.queue (n) (by omega) (by omega) hw.queue_ok.1
  by_cases c0 : ((x.queue.length : Nat) : Int) ≤ n
  case neg =>
    rw [leftOf_neg (by omega)] at r0
    rw [leftOf_neg (by simp only [Worker.sz]; omega)]
    exact laws_szWorker_p0 _ _ _ _ _ _ _ _ _ _ ⟨r0, rfl, trivial⟩
  rw [leftOf_ok c0] at r0
  have r1 := laws_szRecordS_ret x.staged (n - ((x.queue.length : Nat) : Int)) (by omega) (by omega) hw.staged_ok.1
  by_cases c1 : ((x.staged.length : Nat) : Int) ≤ n - ((x.queue.length : Nat) : Int)
  case neg =>
    rw [leftOf_neg (by omega)] at r1
    rw [leftOf_neg (by simp only [Worker.sz]; omega)]
    exact laws_szWorker_p1 _ _ _ _ _ _ _ _ _ _ _ ⟨r0, by simp only [decide_eq_false_iff_not]; omega, r1, rfl, trivial⟩
  rw [leftOf_ok c1] at r1
  have r2 := laws_szRecordS_ret x.inputs (n - ((x.queue.length : Nat) : Int) - ((x.staged.length : Nat) : Int)) (by omega) (by omega) hw.inputs_ok.1
  by_cases c2 : ((x.inputs.length : Nat) : Int) ≤ n - ((x.queue.length : Nat) : Int) - ((x.staged.length : Nat) : Int)
  case neg =>
    rw [leftOf_neg (by omega)] at r2
    rw [leftOf_neg (by simp only [Worker.sz]; omega)]
    exact laws_szWorker_p2 _ _ _ _ _ _ _ _ _ _ _ _ ⟨r0, by simp only [decide_eq_false_iff_not]; omega, r1, by simp only [decide_eq_false_iff_not]; omega, r2, rfl, trivial⟩
  rw [leftOf_ok c2] at r2
  have r3 := laws_szCellS_ret x.cells (n - ((x.queue.length : Nat) : Int) - ((x.staged.length : Nat) : Int) - ((x.inputs.length : Nat) : Int)) (by omega) (by omega) hw.cells_ok.1
  by_cases c3 : ((x.cells.length : Nat) : Int) ≤ n - ((x.queue.length : Nat) : Int) - ((x.staged.length : Nat) : Int) - ((x.inputs.length : Nat) : Int)
  case neg =>
    rw [leftOf_neg (by omega)] at r3
    rw [leftOf_neg (by simp only [Worker.sz]; omega)]
    exact laws_szWorker_p3 _ _ _ _ _ _ _ _ _ _ _ _ _ ⟨r0, by simp only [decide_eq_false_iff_not]; omega, r1, by simp only [decide_eq_false_iff_not]; omega, r2, by simp only [decide_eq_false_iff_not]; omega, r3, rfl, trivial⟩
  rw [leftOf_ok c3] at r3
  have r4 := laws_szIntS_ret x.sums (n - ((x.queue.length : Nat) : Int) - ((x.staged.length : Nat) : Int) - ((x.inputs.length : Nat) : Int) - ((x.cells.length : Nat) : Int)) (by omega) (by omega) hw.sums_ok.1
  by_cases c4 : ((x.sums.length : Nat) : Int) ≤ n - ((x.queue.length : Nat) : Int) - ((x.staged.length : Nat) : Int) - ((x.inputs.length : Nat) : Int) - ((x.cells.length : Nat) : Int)
  case neg =>
    rw [leftOf_neg (by omega)] at r4
    rw [leftOf_neg (by simp only [Worker.sz]; omega)]
    exact laws_szWorker_p4 _ _ _ _ _ _ _ _ _ _ _ _ _ _ ⟨r0, by simp only [decide_eq_false_iff_not]; omega, r1, by simp only [decide_eq_false_iff_not]; omega, r2, by simp only [decide_eq_false_iff_not]; omega, r3, by simp only [decide_eq_false_iff_not]; omega, r4, rfl, trivial⟩
  rw [leftOf_ok c4] at r4
  have r5 := laws_szBoolS_ret x.black (n - ((x.queue.length : Nat) : Int) - ((x.staged.length : Nat) : Int) - ((x.inputs.length : Nat) : Int) - ((x.cells.length : Nat) : Int) - ((x.sums.length : Nat) : Int)) (by omega) (by omega) hw.black_ok
  by_cases c5 : ((x.black.length : Nat) : Int) ≤ n - ((x.queue.length : Nat) : Int) - ((x.staged.length : Nat) : Int) - ((x.inputs.length : Nat) : Int) - ((x.cells.length : Nat) : Int) - ((x.sums.length : Nat) : Int)
  case neg =>
    rw [leftOf_neg (by omega)] at r5
    rw [leftOf_neg (by simp only [Worker.sz]; omega)]
    exact laws_szWorker_p5 _ _ _ _ _ _ _ _ _ _ _ _ _ _ _ ⟨r0, by simp only [decide_eq_false_iff_not]; omega, r1, by simp only [decide_eq_false_iff_not]; omega, r2, by simp only [decide_eq_false_iff_not]; omega, r3, by simp only [decide_eq_false_iff_not]; omega, r4, by simp only [decide_eq_false_iff_not]; omega, r5, rfl, trivial⟩
  rw [leftOf_ok c5] at r5
  have r6 := laws_szBoolS_ret x.caps (n - ((x.queue.length : Nat) : Int) - ((x.staged.length : Nat) : Int) - ((x.inputs.length : Nat) : Int) - ((x.cells.length : Nat) : Int) - ((x.sums.length : Nat) : Int) - ((x.black.length : Nat) : Int)) (by omega) (by omega) hw.caps_ok
  by_cases c6 : ((x.caps.length : Nat) : Int) ≤ n - ((x.queue.length : Nat) : Int) - ((x.staged.length : Nat) : Int) - ((x.inputs.length : Nat) : Int) - ((x.cells.length : Nat) : Int) - ((x.sums.length : Nat) : Int) - ((x.black.length : Nat) : Int)
  case neg =>
    rw [leftOf_neg (by omega)] at r6
    rw [leftOf_neg (by simp only [Worker.sz]; omega)]
    exact laws_szWorker_p6 _ _ _ _ _ _ _ _ _ _ _ _ _ _ _ _ ⟨r0, by simp only [decide_eq_false_iff_not]; omega, r1, by simp only [decide_eq_false_iff_not]; omega, r2, by simp only [decide_eq_false_iff_not]; omega, r3, by simp only [decide_eq_false_iff_not]; omega, r4, by simp only [decide_eq_false_iff_not]; omega, r5, by simp only [decide_eq_false_iff_not]; omega, r6, rfl, trivial⟩
  rw [leftOf_ok c6] at r6
  have r7 := laws_szDoneS_ret x.dones (n - ((x.queue.length : Nat) : Int) - ((x.staged.length : Nat) : Int) - ((x.inputs.length : Nat) : Int) - ((x.cells.length : Nat) : Int) - ((x.sums.length : Nat) : Int) - ((x.black.length : Nat) : Int) - ((x.caps.length : Nat) : Int)) (by omega) (by omega) hw.dones_ok.1
  by_cases c7 : ((x.dones.length : Nat) : Int) ≤ n - ((x.queue.length : Nat) : Int) - ((x.staged.length : Nat) : Int) - ((x.inputs.length : Nat) : Int) - ((x.cells.length : Nat) : Int) - ((x.sums.length : Nat) : Int) - ((x.black.length : Nat) : Int) - ((x.caps.length : Nat) : Int)
  case neg =>
    rw [leftOf_neg (by omega)] at r7
    rw [leftOf_neg (by simp only [Worker.sz]; omega)]
    exact laws_szWorker_p7 _ _ _ _ _ _ _ _ _ _ _ _ _ _ _ _ _ ⟨r0, by simp only [decide_eq_false_iff_not]; omega, r1, by simp only [decide_eq_false_iff_not]; omega, r2, by simp only [decide_eq_false_iff_not]; omega, r3, by simp only [decide_eq_false_iff_not]; omega, r4, by simp only [decide_eq_false_iff_not]; omega, r5, by simp only [decide_eq_false_iff_not]; omega, r6, by simp only [decide_eq_false_iff_not]; omega, r7, rfl, trivial⟩
  rw [leftOf_ok c7] at r7
  have e : leftOf n x.sz = n - ((x.queue.length : Nat) : Int) - ((x.staged.length : Nat) : Int) - ((x.inputs.length : Nat) : Int) - ((x.cells.length : Nat) : Int) - ((x.sums.length : Nat) : Int) - ((x.black.length : Nat) : Int) - ((x.caps.length : Nat) : Int) - ((x.dones.length : Nat) : Int) := by
    rw [leftOf_ok (by simp only [Worker.sz]; omega)]
    simp only [Worker.sz] <;> omega
  rw [e]
  exact laws_szWorker_p8 _ _ _ _ _ _ _ _ _ _ _ _ _ _ _ _ _ ⟨r0, by simp only [decide_eq_false_iff_not]; omega, r1, by simp only [decide_eq_false_iff_not]; omega, r2, by simp only [decide_eq_false_iff_not]; omega, r3, by simp only [decide_eq_false_iff_not]; omega, r4, by simp only [decide_eq_false_iff_not]; omega, r5, by simp only [decide_eq_false_iff_not]; omega, r6, by simp only [decide_eq_false_iff_not]; omega, r7, by simp only [decide_eq_false_iff_not]; omega, trivial⟩

theorem laws_szWorkerS_ret (xs : List Worker) (n : Int) (h0 : 0 ≤ n) (h1 : n ≤ 1048576) (hl : (xs.length : Int) ≤ 9223372036854775807) (hw : ∀ x ∈ xs, x.wf) : Ret Tryz.prog 26 [.one (.sl 8 (xs.map Worker.e)), .one (I n)] [.one (I (leftOf n (szS Worker.sz xs)))] := by
  have e : (xs.map Worker.e).length = xs.length := List.length_map ..
  by_cases c : (xs.length : Int) ≤ n
  case neg =>
    rw [leftOf_neg (by unfold szS; omega)]
    exact laws_szWorkerS_p0 _ _ ⟨⟨by omega, by omega⟩, by simp only [decide_eq_true_eq]; omega, trivial⟩
  have step : ∀ i, i < xs.length → (sumTo Worker.sz xs i : Int) ≤ n - xs.length → (sumTo Worker.sz xs (i + 1) : Int) ≤ n - xs.length →
      Tr Tryz.prog (loopOf Tryz.f26 0) (laws_szWorkerS_L0 (xs.map Worker.e) i (n - ↑(xs.map Worker.e).length - sumTo Worker.sz xs i)) .normal (laws_szWorkerS_L0 (xs.map Worker.e) (i + 1 : Nat) (n - ↑(xs.map Worker.e).length - sumTo Worker.sz xs (i + 1))) := by
    intro i hi h2 h3
    obtain ⟨a, ha⟩ := get_of hi
    have hs := sumTo_succ (sz := Worker.sz) ha
    have r := laws_szWorker_ret a (n - ↑(xs.map Worker.e).length - sumTo Worker.sz xs i) (by omega) (by omega) (hw a (mem_of ha))
    rw [leftOf_ok (by omega)] at r
    have e2 : n - ↑(xs.map Worker.e).length - (sumTo Worker.sz xs i : Int) - (a.sz : Int) = n - ↑(xs.map Worker.e).length - (sumTo Worker.sz xs (i + 1) : Int) := by omega
    rw [e2] at r
    exact laws_szWorkerS_L0_s1 _ _ _ _ _ _ _ _ _ _ _ _ ⟨lt1 hi, lt0, lt2 hi, at_map Worker.e ha, r, by simp only [decide_eq_false_iff_not]; omega, upM hi hl, trivial⟩
  rcases first_over Worker.sz xs (n - xs.length) (by omega) with h | ⟨i, a, ha, h2, h3, h4⟩
  · have hle := fun i => sumTo_le (sz := Worker.sz) (xs := xs) (i := i)
    have e1 : leftOf n (szS Worker.sz xs) = n - ↑(xs.map Worker.e).length - sumTo Worker.sz xs xs.length := by
      rw [leftOf_ok (by unfold szS; omega), sumTo_all]; unfold szS; omega
    rw [e1]
    have l := loop_upto (exit_ne 0) xs.length (fun i => laws_szWorkerS_L0 (xs.map Worker.e) i (n - ↑(xs.map Worker.e).length - sumTo Worker.sz xs i)) (fun i hi => step i hi (by have := hle i; omega) (by have := hle (i + 1); omega)) (laws_szWorkerS_L0_x2 _ _ _ ⟨ge1, trivial⟩)
    simp only [sumTo_zero, Int.sub_zero, Int.natCast_zero] at l
    exact laws_szWorkerS_p2 _ _ _ ⟨⟨by omega, by omega⟩, by simp only [decide_eq_false_iff_not]; omega, l, trivial⟩
  · have hi := lt_of ha
    have hle := fun i => sumTo_le (sz := Worker.sz) (xs := xs) (i := i)
    have hs := sumTo_succ (sz := Worker.sz) ha
    have hb := hle (i + 1)
    rw [leftOf_neg (by unfold szS; omega)]
    have r := laws_szWorker_ret a (n - ↑(xs.map Worker.e).length - sumTo Worker.sz xs i) (by omega) (by omega) (hw a (mem_of ha))
    rw [leftOf_neg (by omega)] at r
    have l := loop_upto ret_ne i (fun i => laws_szWorkerS_L0 (xs.map Worker.e) i (n - ↑(xs.map Worker.e).length - sumTo Worker.sz xs i)) (fun j hj => step j (by omega) (h4 j (by omega)) (h4 (j + 1) (by omega))) (laws_szWorkerS_L0_x0 _ _ _ _ _ _ _ _ _ _ _ _ ⟨lt1 hi, lt0, lt2 hi, at_map Worker.e ha, r, rfl, trivial⟩)
    simp only [sumTo_zero, Int.sub_zero, Int.natCast_zero] at l
    exact laws_szWorkerS_p1 _ _ _ ⟨⟨by omega, by omega⟩, by simp only [decide_eq_false_iff_not]; omega, l, trivial⟩

theorem laws_szCluster_ret (x : Cluster) (n : Int) (h0 : 0 ≤ n) (h1 : n ≤ 1048576) (hw : x.wf) : Ret Tryz.prog 7 [.agg x.e, .one (I n)] [.one (I (leftOf n x.sz))] := by
  have r0 := laws_szGraph_ret x.graph (n) (by omega) (by omega) hw.graph_ok
  by_cases c0 : ((x.graph.sz : Nat) : Int) ≤ n
  case neg =>
    rw [leftOf_neg (by omega)] at r0
    rw [leftOf_neg (by simp only [Cluster.sz]; omega)]
    exact laws_szCluster_p0 _ _ _ _ _ _ _ _ _ ⟨r0, rfl, trivial⟩
  rw [leftOf_ok c0] at r0
  have r1 := laws_szWorkerS_ret x.workers (n - ((x.graph.sz : Nat) : Int)) (by omega) (by omega) hw.workers_ok.1 hw.workers_ok.2
  by_cases c1 : ((szS Worker.sz x.workers : Nat) : Int) ≤ n - ((x.graph.sz : Nat) : Int)
  case neg =>
    rw [leftOf_neg (by omega)] at r1
    rw [leftOf_neg (by simp only [Cluster.sz]; omega)]
    exact laws_szCluster_p1 _ _ _ _ _ _ _ _ _ _ ⟨r0, by simp only [decide_eq_false_iff_not]; omega, r1, rfl, trivial⟩
  rw [leftOf_ok c1] at r1
  have r2 := laws_szLinkS_ret x.links (n - ((x.graph.sz : Nat) : Int) - ((szS Worker.sz x.workers : Nat) : Int)) (by omega) (by omega) hw.links_ok.1 hw.links_ok.2
  by_cases c2 : ((szS Link.sz x.links : Nat) : Int) ≤ n - ((x.graph.sz : Nat) : Int) - ((szS Worker.sz x.workers : Nat) : Int)
  case neg =>
    rw [leftOf_neg (by omega)] at r2
    rw [leftOf_neg (by simp only [Cluster.sz]; omega)]
    exact laws_szCluster_p2 _ _ _ _ _ _ _ _ _ _ _ ⟨r0, by simp only [decide_eq_false_iff_not]; omega, r1, by simp only [decide_eq_false_iff_not]; omega, r2, rfl, trivial⟩
  rw [leftOf_ok c2] at r2
  have r3 := laws_szTokenS_ret x.tokens (n - ((x.graph.sz : Nat) : Int) - ((szS Worker.sz x.workers : Nat) : Int) - ((szS Link.sz x.links : Nat) : Int)) (by omega) (by omega) hw.tokens_ok.1
  by_cases c3 : ((x.tokens.length : Nat) : Int) ≤ n - ((x.graph.sz : Nat) : Int) - ((szS Worker.sz x.workers : Nat) : Int) - ((szS Link.sz x.links : Nat) : Int)
  case neg =>
    rw [leftOf_neg (by omega)] at r3
    rw [leftOf_neg (by simp only [Cluster.sz]; omega)]
    exact laws_szCluster_p3 _ _ _ _ _ _ _ _ _ _ _ _ ⟨r0, by simp only [decide_eq_false_iff_not]; omega, r1, by simp only [decide_eq_false_iff_not]; omega, r2, by simp only [decide_eq_false_iff_not]; omega, r3, rfl, trivial⟩
  rw [leftOf_ok c3] at r3
  have r4 := laws_szNewsS_ret x.news (n - ((x.graph.sz : Nat) : Int) - ((szS Worker.sz x.workers : Nat) : Int) - ((szS Link.sz x.links : Nat) : Int) - ((x.tokens.length : Nat) : Int)) (by omega) (by omega) hw.news_ok.1
  by_cases c4 : ((x.news.length : Nat) : Int) ≤ n - ((x.graph.sz : Nat) : Int) - ((szS Worker.sz x.workers : Nat) : Int) - ((szS Link.sz x.links : Nat) : Int) - ((x.tokens.length : Nat) : Int)
  case neg =>
    rw [leftOf_neg (by omega)] at r4
    rw [leftOf_neg (by simp only [Cluster.sz]; omega)]
    exact laws_szCluster_p4 _ _ _ _ _ _ _ _ _ _ _ _ _ ⟨r0, by simp only [decide_eq_false_iff_not]; omega, r1, by simp only [decide_eq_false_iff_not]; omega, r2, by simp only [decide_eq_false_iff_not]; omega, r3, by simp only [decide_eq_false_iff_not]; omega, r4, rfl, trivial⟩
  rw [leftOf_ok c4] at r4
  have e : leftOf n x.sz = n - ((x.graph.sz : Nat) : Int) - ((szS Worker.sz x.workers : Nat) : Int) - ((szS Link.sz x.links : Nat) : Int) - ((x.tokens.length : Nat) : Int) - ((x.news.length : Nat) : Int) := by
    rw [leftOf_ok (by simp only [Cluster.sz]; omega)]
    simp only [Cluster.sz] <;> omega
  rw [e]
  exact laws_szCluster_p5 _ _ _ _ _ _ _ _ _ _ _ _ _ ⟨r0, by simp only [decide_eq_false_iff_not]; omega, r1, by simp only [decide_eq_false_iff_not]; omega, r2, by simp only [decide_eq_false_iff_not]; omega, r3, by simp only [decide_eq_false_iff_not]; omega, r4, by simp only [decide_eq_false_iff_not]; omega, trivial⟩


end Go.Proofs.YtbbjajmimckabaaGreat
