/- The functions sz.. (printed by gentypes.py) -/
import Derived.Test.YtbbjajmimckabaaT1
import Derived.Test.YtbbjajmimckabaaGA
set_option linter.unusedVariables false
set_option linter.unusedSimpArgs false
namespace Go.Proofs.Ytbbjajmimckabaa
open Go.Sx Go.RowKit

theorem laws_szIntS_ret (xs : List Int) (n : Int) (h0 : 0 ≤ n) (h1 : n ≤ 1048576) (hl : (xs.length : Int) ≤ 9223372036854775807) : Ret Try.prog 120 [.one (.sl 1 (xs.map eI)), .one (I n)] [.one (I (leftOf n xs.length))] := by
  have e : (xs.map eI).length = xs.length := List.length_map ..
  rw [← e]
  rw [← e] at hl
  unfold leftOf
  split
  · exact laws_szIntS_p1 _ _ ⟨⟨by omega, by omega⟩, by simp only [decide_eq_false_iff_not]; omega, trivial⟩
  · exact laws_szIntS_p0 _ _ ⟨⟨by omega, by omega⟩, by simp only [decide_eq_true_eq]; omega, trivial⟩

theorem laws_szRecordS_ret (xs : List Record) (n : Int) (h0 : 0 ≤ n) (h1 : n ≤ 1048576) (hl : (xs.length : Int) ≤ 9223372036854775807) : Ret Try.prog 11 [.one (.sl 5 (xs.map Record.e)), .one (I n)] [.one (I (leftOf n xs.length))] := by
  have e : (xs.map Record.e).length = xs.length := List.length_map ..
  rw [← e]
  rw [← e] at hl
  unfold leftOf
  split
  · exact laws_szRecordS_p1 _ _ ⟨⟨by omega, by omega⟩, by simp only [decide_eq_false_iff_not]; omega, trivial⟩
  · exact laws_szRecordS_p0 _ _ ⟨⟨by omega, by omega⟩, by simp only [decide_eq_true_eq]; omega, trivial⟩

theorem laws_szNode_ret (x : Node) (n : Int) (h0 : 0 ≤ n) (h1 : n ≤ 1048576) (hw : x.wf) : Ret Try.prog 108 [.agg x.e, .one (I n)] [.one (I (leftOf n x.sz))] := by
  have r0 := laws_szIntS_ret x.outs (n) (by omega) (by omega) hw.outs_ok.1
  by_cases c0 : ((x.outs.length : Nat) : Int) ≤ n
  case neg =>
    rw [leftOf_neg (by omega)] at r0
    rw [leftOf_neg (by simp only [Node.sz]; omega)]
    exact laws_szNode_p0 _ _ _ _ _ _ ⟨r0, rfl, trivial⟩
  rw [leftOf_ok c0] at r0
  have e : leftOf n x.sz = n - ((x.outs.length : Nat) : Int) := by
    rw [leftOf_ok (by simp only [Node.sz]; omega)]
    simp only [Node.sz] <;> omega
  rw [e]
  exact laws_szNode_p1 _ _ _ _ _ _ ⟨r0, by simp only [decide_eq_false_iff_not]; omega, trivial⟩

theorem laws_szNodeS_ret (xs : List Node) (n : Int) (h0 : 0 ≤ n) (h1 : n ≤ 1048576) (hl : (xs.length : Int) ≤ 9223372036854775807) (hw : ∀ x ∈ xs, x.wf) : Ret Try.prog 80 [.one (.sl 4 (xs.map Node.e)), .one (I n)] [.one (I (leftOf n (szS Node.sz xs)))] := by
  have e : (xs.map Node.e).length = xs.length := List.length_map ..
  by_cases c : (xs.length : Int) ≤ n
  case neg =>
    rw [leftOf_neg (by unfold szS; omega)]
    exact laws_szNodeS_p0 _ _ ⟨⟨by omega, by omega⟩, by simp only [decide_eq_true_eq]; omega, trivial⟩
  have step : ∀ i, i < xs.length → (sumTo Node.sz xs i : Int) ≤ n - xs.length → (sumTo Node.sz xs (i + 1) : Int) ≤ n - xs.length →
      Tr Try.prog (loopOf Try.f80 0) (laws_szNodeS_L0 (xs.map Node.e) i (n - ↑(xs.map Node.e).length - sumTo Node.sz xs i)) .normal (laws_szNodeS_L0 (xs.map Node.e) (i + 1 : Nat) (n - ↑(xs.map Node.e).length - sumTo Node.sz xs (i + 1))) := by
    intro i hi h2 h3
    obtain ⟨a, ha⟩ := get_of hi
    have hs := sumTo_succ (sz := Node.sz) ha
    have r := laws_szNode_ret a (n - ↑(xs.map Node.e).length - sumTo Node.sz xs i) (by omega) (by omega) (hw a (mem_of ha))
    rw [leftOf_ok (by omega)] at r
    have e2 : n - ↑(xs.map Node.e).length - (sumTo Node.sz xs i : Int) - (a.sz : Int) = n - ↑(xs.map Node.e).length - (sumTo Node.sz xs (i + 1) : Int) := by omega
    rw [e2] at r
    exact laws_szNodeS_L0_s1 _ _ _ _ _ _ _ _ ⟨lt1 hi, lt0, lt2 hi, at_map Node.e ha, r, by simp only [decide_eq_false_iff_not]; omega, upM hi hl, trivial⟩
  rcases first_over Node.sz xs (n - xs.length) (by omega) with h | ⟨i, a, ha, h2, h3, h4⟩
  · have hle := fun i => sumTo_le (sz := Node.sz) (xs := xs) (i := i)
    have e1 : leftOf n (szS Node.sz xs) = n - ↑(xs.map Node.e).length - sumTo Node.sz xs xs.length := by
      rw [leftOf_ok (by unfold szS; omega), sumTo_all]; unfold szS; omega
    rw [e1]
    have l := loop_upto (exit_ne 0) xs.length (fun i => laws_szNodeS_L0 (xs.map Node.e) i (n - ↑(xs.map Node.e).length - sumTo Node.sz xs i)) (fun i hi => step i hi (by have := hle i; omega) (by have := hle (i + 1); omega)) (laws_szNodeS_L0_x2 _ _ _ ⟨ge1, trivial⟩)
    simp only [sumTo_zero, Int.sub_zero, Int.natCast_zero] at l
    exact laws_szNodeS_p2 _ _ _ ⟨⟨by omega, by omega⟩, by simp only [decide_eq_false_iff_not]; omega, l, trivial⟩
  · have hi := lt_of ha
    have hle := fun i => sumTo_le (sz := Node.sz) (xs := xs) (i := i)
    have hs := sumTo_succ (sz := Node.sz) ha
    have hb := hle (i + 1)
    rw [leftOf_neg (by unfold szS; omega)]
    have r := laws_szNode_ret a (n - ↑(xs.map Node.e).length - sumTo Node.sz xs i) (by omega) (by omega) (hw a (mem_of ha))
    rw [leftOf_neg (by omega)] at r
    have l := loop_upto ret_ne i (fun i => laws_szNodeS_L0 (xs.map Node.e) i (n - ↑(xs.map Node.e).length - sumTo Node.sz xs i)) (fun j hj => step j (by omega) (h4 j (by omega)) (h4 (j + 1) (by omega))) (laws_szNodeS_L0_x0 _ _ _ _ _ _ _ _ ⟨lt1 hi, lt0, lt2 hi, at_map Node.e ha, r, rfl, trivial⟩)
    simp only [sumTo_zero, Int.sub_zero, Int.natCast_zero] at l
    exact laws_szNodeS_p1 _ _ _ ⟨⟨by omega, by omega⟩, by simp only [decide_eq_false_iff_not]; omega, l, trivial⟩

theorem laws_szGraph_ret (x : Graph) (n : Int) (h0 : 0 ≤ n) (h1 : n ≤ 1048576) (hw : x.wf) : Ret Try.prog 39 [.agg x.e, .one (I n)] [.one (I (leftOf n x.sz))] := by
  have r0 := laws_szNodeS_ret x.nodes (n) (by omega) (by omega) hw.nodes_ok.1 hw.nodes_ok.2
  by_cases c0 : ((szS Node.sz x.nodes : Nat) : Int) ≤ n
  case neg =>
    rw [leftOf_neg (by omega)] at r0
    rw [leftOf_neg (by simp only [Graph.sz]; omega)]
    exact laws_szGraph_p0 _ _ _ _ _ ⟨r0, rfl, trivial⟩
  rw [leftOf_ok c0] at r0
  have e : leftOf n x.sz = n - ((szS Node.sz x.nodes : Nat) : Int) := by
    rw [leftOf_ok (by simp only [Graph.sz]; omega)]
    simp only [Graph.sz] <;> omega
  rw [e]
  exact laws_szGraph_p1 _ _ _ _ _ ⟨r0, by simp only [decide_eq_false_iff_not]; omega, trivial⟩

end Go.Proofs.Ytbbjajmimckabaa
