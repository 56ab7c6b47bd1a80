/- The functions sz.. (printed by gentypes.py) -/
import Derived.Test.YtdanpadojemjeaaGreatT1
import Derived.Test.YtdanpadojemjeaaGreatGA
import Derived.Test.YtdanpadojemjeaaGreatGB
import Derived.Test.YtdanpadojemjeaaGreatGC
set_option linter.unusedVariables false
set_option linter.unusedSimpArgs false
namespace Go.Proofs.YtdanpadojemjeaaGreat
open Go.Sx Go.RowKit
theorem qkT (xs : List Int) (n : Int) (h0 : 0 ≤ n) (h1 : n ≤ 8388608) (hl : (xs.length : Int) ≤ 9223372036854775807) : Rt 182 [.one (.sl 1 (xs.map eI)), .one (I n)] [.one (I (qaz n xs.length))] := by
 have e : (xs.map eI).length = xs.length := List.length_map ..
 rw [← e]
 rw [← e] at hl
 unfold qaz
 split
 ·exact qow ⟨⟨by omega, by omega⟩, by simp only [decide_eq_false_iff_not]; omega, trivial⟩
 ·exact qov ⟨⟨by omega, by omega⟩, by simp only [decide_eq_true_eq]; omega, trivial⟩
theorem qkU (xs : List Bool) (n : Int) (h0 : 0 ≤ n) (h1 : n ≤ 8388608) (hl : (xs.length : Int) ≤ 9223372036854775807) : Rt 183 [.one (.sl 1 (xs.map eB)), .one (I n)] [.one (I (qaz n xs.length))] := by
 have e : (xs.map eB).length = xs.length := List.length_map ..
 rw [← e]
 rw [← e] at hl
 unfold qaz
 split
 ·exact qoy ⟨⟨by omega, by omega⟩, by simp only [decide_eq_false_iff_not]; omega, trivial⟩
 ·exact qox ⟨⟨by omega, by omega⟩, by simp only [decide_eq_true_eq]; omega, trivial⟩
theorem qge (xs : List Record) (n : Int) (h0 : 0 ≤ n) (h1 : n ≤ 8388608) (hl : (xs.length : Int) ≤ 9223372036854775807) : Rt 39 [.one (.sl 5 (xs.map Record.e)), .one (I n)] [.one (I (qaz n xs.length))] := by
 have e : (xs.map Record.e).length = xs.length := List.length_map ..
 rw [← e]
 rw [← e] at hl
 unfold qaz
 split
 ·exact qos ⟨⟨by omega, by omega⟩, by simp only [decide_eq_false_iff_not]; omega, trivial⟩
 ·exact qor ⟨⟨by omega, by omega⟩, by simp only [decide_eq_true_eq]; omega, trivial⟩
theorem qpi (xs : List Cell) (n : Int) (h0 : 0 ≤ n) (h1 : n ≤ 8388608) (hl : (xs.length : Int) ≤ 9223372036854775807) : Rt 181 [.one (.sl 4 (xs.map Cell.e)), .one (I n)] [.one (I (qaz n xs.length))] := by
 have e : (xs.map Cell.e).length = xs.length := List.length_map ..
 rw [← e]
 rw [← e] at hl
 unfold qaz
 split
 ·exact qou ⟨⟨by omega, by omega⟩, by simp only [decide_eq_false_iff_not]; omega, trivial⟩
 ·exact qot ⟨⟨by omega, by omega⟩, by simp only [decide_eq_true_eq]; omega, trivial⟩
theorem qpj (xs : List Done) (n : Int) (h0 : 0 ≤ n) (h1 : n ≤ 8388608) (hl : (xs.length : Int) ≤ 9223372036854775807) : Rt 184 [.one (.sl 2 (xs.map Done.e)), .one (I n)] [.one (I (qaz n xs.length))] := by
 have e : (xs.map Done.e).length = xs.length := List.length_map ..
 rw [← e]
 rw [← e] at hl
 unfold qaz
 split
 ·exact qoA ⟨⟨by omega, by omega⟩, by simp only [decide_eq_false_iff_not]; omega, trivial⟩
 ·exact qoz ⟨⟨by omega, by omega⟩, by simp only [decide_eq_true_eq]; omega, trivial⟩
theorem qpk (xs : List Token) (n : Int) (h0 : 0 ≤ n) (h1 : n ≤ 8388608) (hl : (xs.length : Int) ≤ 9223372036854775807) : Rt 53 [.one (.sl 5 (xs.map Token.e)), .one (I n)] [.one (I (qaz n xs.length))] := by
 have e : (xs.map Token.e).length = xs.length := List.length_map ..
 rw [← e]
 rw [← e] at hl
 unfold qaz
 split
 ·exact qoC ⟨⟨by omega, by omega⟩, by simp only [decide_eq_false_iff_not]; omega, trivial⟩
 ·exact qoB ⟨⟨by omega, by omega⟩, by simp only [decide_eq_true_eq]; omega, trivial⟩
theorem qpl (xs : List News) (n : Int) (h0 : 0 ≤ n) (h1 : n ≤ 8388608) (hl : (xs.length : Int) ≤ 9223372036854775807) : Rt 54 [.one (.sl 3 (xs.map News.e)), .one (I n)] [.one (I (qaz n xs.length))] := by
 have e : (xs.map News.e).length = xs.length := List.length_map ..
 rw [← e]
 rw [← e] at hl
 unfold qaz
 split
 ·exact qoE ⟨⟨by omega, by omega⟩, by simp only [decide_eq_false_iff_not]; omega, trivial⟩
 ·exact qoD ⟨⟨by omega, by omega⟩, by simp only [decide_eq_true_eq]; omega, trivial⟩
theorem qkV (x : Node) (n : Int) (h0 : 0 ≤ n) (h1 : n ≤ 8388608) (hw : x.wf) : Rt 162 [.agg x.e, .one (I n)] [.one (I (qaz n x.sz))] := by
 have r0 := qkT x.outs (n) (by omega) (by omega) hw.outs_ok.1
 by_cases c0 : ((x.outs.length : Nat) : Int) ≤ n
 case neg =>
  rw [qar (by omega)] at r0
  rw [qar (by simp only [Node.sz]; omega)]
  exact qoF ⟨r0, rfl, trivial⟩
 rw [qaH c0] at r0
 have e : qaz n x.sz = n - ((x.outs.length : Nat) : Int) := by
  rw [qaH (by simp only [Node.sz]; omega)]
  simp only [Node.sz] <;> omega
 rw [e]
 exact qoG ⟨r0, by simp only [decide_eq_false_iff_not]; omega, trivial⟩
theorem qpm (xs : List Node) (n : Int) (h0 : 0 ≤ n) (h1 : n ≤ 8388608) (hl : (xs.length : Int) ≤ 9223372036854775807) (hw : ∀ x ∈ xs, x.wf) : Rt 97 [.one (.sl 4 (xs.map Node.e)), .one (I n)] [.one (I (qaz n (szS Node.sz xs)))] := by
 have e : (xs.map Node.e).length = xs.length := List.length_map ..
 by_cases c : (xs.length : Int) ≤ n
 case neg =>
  rw [qar (by unfold szS; omega)]
  exact qoH ⟨⟨by omega, by omega⟩, by simp only [decide_eq_true_eq]; omega, trivial⟩
 have step : ∀ i, i < xs.length → (sumTo Node.sz xs i : Int) ≤ n - xs.length → (sumTo Node.sz xs (i + 1) : Int) ≤ n - xs.length →
   Tr Tryz.prog (qaa Tryz.f97 0) (qci (xs.map Node.e) i (n - ↑(xs.map Node.e).length - sumTo Node.sz xs i)) .normal (qci (xs.map Node.e) (i + 1 : Nat) (n - ↑(xs.map Node.e).length - sumTo Node.sz xs (i + 1))) := by
  intro i hi h2 h3
  obtain ⟨a, ha⟩ := qae hi
  have hs := qdv (sz := Node.sz) ha
  have r := qkV a (n - ↑(xs.map Node.e).length - sumTo Node.sz xs i) (by omega) (by omega) (hw a (qap ha))
  rw [qaH (by omega)] at r
  have e2 : n - ↑(xs.map Node.e).length - (sumTo Node.sz xs i : Int) - (a.sz : Int) = n - ↑(xs.map Node.e).length - (sumTo Node.sz xs (i + 1) : Int) := by omega
  rw [e2] at r
  exact qoJ ⟨lt1 hi, lt0, lt2 hi, qac Node.e ha, r, by simp only [decide_eq_false_iff_not]; omega, upM hi hl, trivial⟩
 rcases qh1 Node.sz xs (n - xs.length) (by omega) with h | ⟨i, a, ha, h2, h3, h4⟩
 ·have hle := fun i => qeB (sz := Node.sz) (xs := xs) (i := i)
  have e1 : qaz n (szS Node.sz xs) = n - ↑(xs.map Node.e).length - sumTo Node.sz xs xs.length := by
   rw [qaH (by unfold szS; omega), qga]; unfold szS; omega
  rw [e1]
  have l := qak (qaf 0) xs.length (fun i => qci (xs.map Node.e) i (n - ↑(xs.map Node.e).length - sumTo Node.sz xs i)) (fun i hi => step i hi (by have := hle i; omega) (by have := hle (i + 1); omega)) (qoK ⟨ge1, trivial⟩)
  simp only [qcY, Int.sub_zero, Int.natCast_zero] at l
  exact qoM ⟨⟨by omega, by omega⟩, by simp only [decide_eq_false_iff_not]; omega, l, trivial⟩
 ·have hi := lt_of ha
  have hle := fun i => qeB (sz := Node.sz) (xs := xs) (i := i)
  have hs := qdv (sz := Node.sz) ha
  have hb := hle (i + 1)
  rw [qar (by unfold szS; omega)]
  have r := qkV a (n - ↑(xs.map Node.e).length - sumTo Node.sz xs i) (by omega) (by omega) (hw a (qap ha))
  rw [qar (by omega)] at r
  have l := qak qao i (fun i => qci (xs.map Node.e) i (n - ↑(xs.map Node.e).length - sumTo Node.sz xs i)) (fun j hj => step j (by omega) (h4 j (by omega)) (h4 (j + 1) (by omega))) (qoI ⟨lt1 hi, lt0, lt2 hi, qac Node.e ha, r, rfl, trivial⟩)
  simp only [qcY, Int.sub_zero, Int.natCast_zero] at l
  exact qoL ⟨⟨by omega, by omega⟩, by simp only [decide_eq_false_iff_not]; omega, l, trivial⟩
theorem qkW (x : Link) (n : Int) (h0 : 0 ≤ n) (h1 : n ≤ 8388608) (hw : x.wf) : Rt 111 [.agg x.e, .one (I n)] [.one (I (qaz n x.sz))] := by
 have r0 := qge x.queue (n) (by omega) (by omega) hw.queue_ok.1
 by_cases c0 : ((x.queue.length : Nat) : Int) ≤ n
 case neg =>
  rw [qar (by omega)] at r0
  rw [qar (by simp only [Link.sz]; omega)]
  exact qoN ⟨r0, rfl, trivial⟩
 rw [qaH c0] at r0
 have e : qaz n x.sz = n - ((x.queue.length : Nat) : Int) := by
  rw [qaH (by simp only [Link.sz]; omega)]
  simp only [Link.sz] <;> omega
 rw [e]
 exact qoO ⟨r0, by simp only [decide_eq_false_iff_not]; omega, trivial⟩
theorem qpn (xs : List Link) (n : Int) (h0 : 0 ≤ n) (h1 : n ≤ 8388608) (hl : (xs.length : Int) ≤ 9223372036854775807) (hw : ∀ x ∈ xs, x.wf) : Rt 52 [.one (.sl 6 (xs.map Link.e)), .one (I n)] [.one (I (qaz n (szS Link.sz xs)))] := by
 have e : (xs.map Link.e).length = xs.length := List.length_map ..
 by_cases c : (xs.length : Int) ≤ n
 case neg =>
  rw [qar (by unfold szS; omega)]
  exact qoP ⟨⟨by omega, by omega⟩, by simp only [decide_eq_true_eq]; omega, trivial⟩
 have step : ∀ i, i < xs.length → (sumTo Link.sz xs i : Int) ≤ n - xs.length → (sumTo Link.sz xs (i + 1) : Int) ≤ n - xs.length →
   Tr Tryz.prog (qaa Tryz.f52 0) (qcj (xs.map Link.e) i (n - ↑(xs.map Link.e).length - sumTo Link.sz xs i)) .normal (qcj (xs.map Link.e) (i + 1 : Nat) (n - ↑(xs.map Link.e).length - sumTo Link.sz xs (i + 1))) := by
  intro i hi h2 h3
  obtain ⟨a, ha⟩ := qae hi
  have hs := qdv (sz := Link.sz) ha
  have r := qkW a (n - ↑(xs.map Link.e).length - sumTo Link.sz xs i) (by omega) (by omega) (hw a (qap ha))
  rw [qaH (by omega)] at r
  have e2 : n - ↑(xs.map Link.e).length - (sumTo Link.sz xs i : Int) - (a.sz : Int) = n - ↑(xs.map Link.e).length - (sumTo Link.sz xs (i + 1) : Int) := by omega
  rw [e2] at r
  exact qoR ⟨lt1 hi, lt0, lt2 hi, qac Link.e ha, r, by simp only [decide_eq_false_iff_not]; omega, upM hi hl, trivial⟩
 rcases qh1 Link.sz xs (n - xs.length) (by omega) with h | ⟨i, a, ha, h2, h3, h4⟩
 ·have hle := fun i => qeB (sz := Link.sz) (xs := xs) (i := i)
  have e1 : qaz n (szS Link.sz xs) = n - ↑(xs.map Link.e).length - sumTo Link.sz xs xs.length := by
   rw [qaH (by unfold szS; omega), qga]; unfold szS; omega
  rw [e1]
  have l := qak (qaf 0) xs.length (fun i => qcj (xs.map Link.e) i (n - ↑(xs.map Link.e).length - sumTo Link.sz xs i)) (fun i hi => step i hi (by have := hle i; omega) (by have := hle (i + 1); omega)) (qoS ⟨ge1, trivial⟩)
  simp only [qcY, Int.sub_zero, Int.natCast_zero] at l
  exact qoU ⟨⟨by omega, by omega⟩, by simp only [decide_eq_false_iff_not]; omega, l, trivial⟩
 ·have hi := lt_of ha
  have hle := fun i => qeB (sz := Link.sz) (xs := xs) (i := i)
  have hs := qdv (sz := Link.sz) ha
  have hb := hle (i + 1)
  rw [qar (by unfold szS; omega)]
  have r := qkW a (n - ↑(xs.map Link.e).length - sumTo Link.sz xs i) (by omega) (by omega) (hw a (qap ha))
  rw [qar (by omega)] at r
  have l := qak qao i (fun i => qcj (xs.map Link.e) i (n - ↑(xs.map Link.e).length - sumTo Link.sz xs i)) (fun j hj => step j (by omega) (h4 j (by omega)) (h4 (j + 1) (by omega))) (qoQ ⟨lt1 hi, lt0, lt2 hi, qac Link.e ha, r, rfl, trivial⟩)
  simp only [qcY, Int.sub_zero, Int.natCast_zero] at l
  exact qoT ⟨⟨by omega, by omega⟩, by simp only [decide_eq_false_iff_not]; omega, l, trivial⟩
theorem qpo (x : Graph) (n : Int) (h0 : 0 ≤ n) (h1 : n ≤ 8388608) (hw : x.wf) : Rt 38 [.agg x.e, .one (I n)] [.one (I (qaz n x.sz))] := by
 have r0 := qpm x.nodes (n) (by omega) (by omega) hw.nodes_ok.1 hw.nodes_ok.2
 by_cases c0 : ((szS Node.sz x.nodes : Nat) : Int) ≤ n
 case neg =>
  rw [qar (by omega)] at r0
  rw [qar (by simp only [Graph.sz]; omega)]
  exact qoV ⟨r0, rfl, trivial⟩
 rw [qaH c0] at r0
 have e : qaz n x.sz = n - ((szS Node.sz x.nodes : Nat) : Int) := by
  rw [qaH (by simp only [Graph.sz]; omega)]
  simp only [Graph.sz] <;> omega
 rw [e]
 exact qoW ⟨r0, by simp only [decide_eq_false_iff_not]; omega, trivial⟩
theorem qkX (x : Worker) (n : Int) (h0 : 0 ≤ n) (h1 : n ≤ 8388608) (hw : x.wf) : Rt 110 [.agg x.e, .one (I n)] [.one (I (qaz n x.sz))] := by
 have r0 := qge x.queue (n) (by omega) (by omega) hw.queue_ok.1
 by_cases c0 : ((x.queue.length : Nat) : Int) ≤ n
 case neg =>
  rw [qar (by omega)] at r0
  rw [qar (by simp only [Worker.sz]; omega)]
  exact qoX ⟨r0, rfl, trivial⟩
 rw [qaH c0] at r0
 have r1 := qge x.staged (n - ((x.queue.length : Nat) : Int)) (by omega) (by omega) hw.staged_ok.1
 by_cases c1 : ((x.staged.length : Nat) : Int) ≤ n - ((x.queue.length : Nat) : Int)
 case neg =>
  rw [qar (by omega)] at r1
  rw [qar (by simp only [Worker.sz]; omega)]
  exact qoY ⟨r0, by simp only [decide_eq_false_iff_not]; omega, r1, rfl, trivial⟩
 rw [qaH c1] at r1
 have r2 := qge x.inputs (n - ((x.queue.length : Nat) : Int) - ((x.staged.length : Nat) : Int)) (by omega) (by omega) hw.inputs_ok.1
 by_cases c2 : ((x.inputs.length : Nat) : Int) ≤ n - ((x.queue.length : Nat) : Int) - ((x.staged.length : Nat) : Int)
 case neg =>
  rw [qar (by omega)] at r2
  rw [qar (by simp only [Worker.sz]; omega)]
  exact qoZ ⟨r0, by simp only [decide_eq_false_iff_not]; omega, r1, by simp only [decide_eq_false_iff_not]; omega, r2, rfl, trivial⟩
 rw [qaH c2] at r2
 have r3 := qpi x.cells (n - ((x.queue.length : Nat) : Int) - ((x.staged.length : Nat) : Int) - ((x.inputs.length : Nat) : Int)) (by omega) (by omega) hw.cells_ok.1
 by_cases c3 : ((x.cells.length : Nat) : Int) ≤ n - ((x.queue.length : Nat) : Int) - ((x.staged.length : Nat) : Int) - ((x.inputs.length : Nat) : Int)
 case neg =>
  rw [qar (by omega)] at r3
  rw [qar (by simp only [Worker.sz]; omega)]
  exact qo0 ⟨r0, by simp only [decide_eq_false_iff_not]; omega, r1, by simp only [decide_eq_false_iff_not]; omega, r2, by simp only [decide_eq_false_iff_not]; omega, r3, rfl, trivial⟩
 rw [qaH c3] at r3
 have r4 := qkT x.sums (n - ((x.queue.length : Nat) : Int) - ((x.staged.length : Nat) : Int) - ((x.inputs.length : Nat) : Int) - ((x.cells.length : Nat) : Int)) (by omega) (by omega) hw.sums_ok.1
 by_cases c4 : ((x.sums.length : Nat) : Int) ≤ n - ((x.queue.length : Nat) : Int) - ((x.staged.length : Nat) : Int) - ((x.inputs.length : Nat) : Int) - ((x.cells.length : Nat) : Int)
 case neg =>
  rw [qar (by omega)] at r4
  rw [qar (by simp only [Worker.sz]; omega)]
  exact qo1 ⟨r0, by simp only [decide_eq_false_iff_not]; omega, r1, by simp only [decide_eq_false_iff_not]; omega, r2, by simp only [decide_eq_false_iff_not]; omega, r3, by simp only [decide_eq_false_iff_not]; omega, r4, rfl, trivial⟩
 rw [qaH c4] at r4
 have r5 := qkU x.black (n - ((x.queue.length : Nat) : Int) - ((x.staged.length : Nat) : Int) - ((x.inputs.length : Nat) : Int) - ((x.cells.length : Nat) : Int) - ((x.sums.length : Nat) : Int)) (by omega) (by omega) hw.black_ok
 by_cases c5 : ((x.black.length : Nat) : Int) ≤ n - ((x.queue.length : Nat) : Int) - ((x.staged.length : Nat) : Int) - ((x.inputs.length : Nat) : Int) - ((x.cells.length : Nat) : Int) - ((x.sums.length : Nat) : Int)
 case neg =>
  rw [qar (by omega)] at r5
  rw [qar (by simp only [Worker.sz]; omega)]
  exact qo2 ⟨r0, by simp only [decide_eq_false_iff_not]; omega, r1, by simp only [decide_eq_false_iff_not]; omega, r2, by simp only [decide_eq_false_iff_not]; omega, r3, by simp only [decide_eq_false_iff_not]; omega, r4, by simp only [decide_eq_false_iff_not]; omega, r5, rfl, trivial⟩
 rw [qaH c5] at r5
 have r6 := qkU x.caps (n - ((x.queue.length : Nat) : Int) - ((x.staged.length : Nat) : Int) - ((x.inputs.length : Nat) : Int) - ((x.cells.length : Nat) : Int) - ((x.sums.length : Nat) : Int) - ((x.black.length : Nat) : Int)) (by omega) (by omega) hw.caps_ok
 by_cases c6 : ((x.caps.length : Nat) : Int) ≤ n - ((x.queue.length : Nat) : Int) - ((x.staged.length : Nat) : Int) - ((x.inputs.length : Nat) : Int) - ((x.cells.length : Nat) : Int) - ((x.sums.length : Nat) : Int) - ((x.black.length : Nat) : Int)
 case neg =>
  rw [qar (by omega)] at r6
  rw [qar (by simp only [Worker.sz]; omega)]
  exact qo3 ⟨r0, by simp only [decide_eq_false_iff_not]; omega, r1, by simp only [decide_eq_false_iff_not]; omega, r2, by simp only [decide_eq_false_iff_not]; omega, r3, by simp only [decide_eq_false_iff_not]; omega, r4, by simp only [decide_eq_false_iff_not]; omega, r5, by simp only [decide_eq_false_iff_not]; omega, r6, rfl, trivial⟩
 rw [qaH c6] at r6
 have r7 := qpj x.dones (n - ((x.queue.length : Nat) : Int) - ((x.staged.length : Nat) : Int) - ((x.inputs.length : Nat) : Int) - ((x.cells.length : Nat) : Int) - ((x.sums.length : Nat) : Int) - ((x.black.length : Nat) : Int) - ((x.caps.length : Nat) : Int)) (by omega) (by omega) hw.dones_ok.1
 by_cases c7 : ((x.dones.length : Nat) : Int) ≤ n - ((x.queue.length : Nat) : Int) - ((x.staged.length : Nat) : Int) - ((x.inputs.length : Nat) : Int) - ((x.cells.length : Nat) : Int) - ((x.sums.length : Nat) : Int) - ((x.black.length : Nat) : Int) - ((x.caps.length : Nat) : Int)
 case neg =>
  rw [qar (by omega)] at r7
  rw [qar (by simp only [Worker.sz]; omega)]
  exact qo4 ⟨r0, by simp only [decide_eq_false_iff_not]; omega, r1, by simp only [decide_eq_false_iff_not]; omega, r2, by simp only [decide_eq_false_iff_not]; omega, r3, by simp only [decide_eq_false_iff_not]; omega, r4, by simp only [decide_eq_false_iff_not]; omega, r5, by simp only [decide_eq_false_iff_not]; omega, r6, by simp only [decide_eq_false_iff_not]; omega, r7, rfl, trivial⟩
 rw [qaH c7] at r7
 have e : qaz n x.sz = n - ((x.queue.length : Nat) : Int) - ((x.staged.length : Nat) : Int) - ((x.inputs.length : Nat) : Int) - ((x.cells.length : Nat) : Int) - ((x.sums.length : Nat) : Int) - ((x.black.length : Nat) : Int) - ((x.caps.length : Nat) : Int) - ((x.dones.length : Nat) : Int) := by
  rw [qaH (by simp only [Worker.sz]; omega)]
  simp only [Worker.sz] <;> omega
 rw [e]
 exact qo5 ⟨r0, by simp only [decide_eq_false_iff_not]; omega, r1, by simp only [decide_eq_false_iff_not]; omega, r2, by simp only [decide_eq_false_iff_not]; omega, r3, by simp only [decide_eq_false_iff_not]; omega, r4, by simp only [decide_eq_false_iff_not]; omega, r5, by simp only [decide_eq_false_iff_not]; omega, r6, by simp only [decide_eq_false_iff_not]; omega, r7, by simp only [decide_eq_false_iff_not]; omega, trivial⟩
theorem qpp (xs : List Worker) (n : Int) (h0 : 0 ≤ n) (h1 : n ≤ 8388608) (hl : (xs.length : Int) ≤ 9223372036854775807) (hw : ∀ x ∈ xs, x.wf) : Rt 51 [.one (.sl 8 (xs.map Worker.e)), .one (I n)] [.one (I (qaz n (szS Worker.sz xs)))] := by
 have e : (xs.map Worker.e).length = xs.length := List.length_map ..
 by_cases c : (xs.length : Int) ≤ n
 case neg =>
  rw [qar (by unfold szS; omega)]
  exact qo6 ⟨⟨by omega, by omega⟩, by simp only [decide_eq_true_eq]; omega, trivial⟩
 have step : ∀ i, i < xs.length → (sumTo Worker.sz xs i : Int) ≤ n - xs.length → (sumTo Worker.sz xs (i + 1) : Int) ≤ n - xs.length →
   Tr Tryz.prog (qaa Tryz.f51 0) (qck (xs.map Worker.e) i (n - ↑(xs.map Worker.e).length - sumTo Worker.sz xs i)) .normal (qck (xs.map Worker.e) (i + 1 : Nat) (n - ↑(xs.map Worker.e).length - sumTo Worker.sz xs (i + 1))) := by
  intro i hi h2 h3
  obtain ⟨a, ha⟩ := qae hi
  have hs := qdv (sz := Worker.sz) ha
  have r := qkX a (n - ↑(xs.map Worker.e).length - sumTo Worker.sz xs i) (by omega) (by omega) (hw a (qap ha))
  rw [qaH (by omega)] at r
  have e2 : n - ↑(xs.map Worker.e).length - (sumTo Worker.sz xs i : Int) - (a.sz : Int) = n - ↑(xs.map Worker.e).length - (sumTo Worker.sz xs (i + 1) : Int) := by omega
  rw [e2] at r
  exact qo8 ⟨lt1 hi, lt0, lt2 hi, qac Worker.e ha, r, by simp only [decide_eq_false_iff_not]; omega, upM hi hl, trivial⟩
 rcases qh1 Worker.sz xs (n - xs.length) (by omega) with h | ⟨i, a, ha, h2, h3, h4⟩
 ·have hle := fun i => qeB (sz := Worker.sz) (xs := xs) (i := i)
  have e1 : qaz n (szS Worker.sz xs) = n - ↑(xs.map Worker.e).length - sumTo Worker.sz xs xs.length := by
   rw [qaH (by unfold szS; omega), qga]; unfold szS; omega
  rw [e1]
  have l := qak (qaf 0) xs.length (fun i => qck (xs.map Worker.e) i (n - ↑(xs.map Worker.e).length - sumTo Worker.sz xs i)) (fun i hi => step i hi (by have := hle i; omega) (by have := hle (i + 1); omega)) (qo9 ⟨ge1, trivial⟩)
  simp only [qcY, Int.sub_zero, Int.natCast_zero] at l
  exact qpb ⟨⟨by omega, by omega⟩, by simp only [decide_eq_false_iff_not]; omega, l, trivial⟩
 ·have hi := lt_of ha
  have hle := fun i => qeB (sz := Worker.sz) (xs := xs) (i := i)
  have hs := qdv (sz := Worker.sz) ha
  have hb := hle (i + 1)
  rw [qar (by unfold szS; omega)]
  have r := qkX a (n - ↑(xs.map Worker.e).length - sumTo Worker.sz xs i) (by omega) (by omega) (hw a (qap ha))
  rw [qar (by omega)] at r
  have l := qak qao i (fun i => qck (xs.map Worker.e) i (n - ↑(xs.map Worker.e).length - sumTo Worker.sz xs i)) (fun j hj => step j (by omega) (h4 j (by omega)) (h4 (j + 1) (by omega))) (qo7 ⟨lt1 hi, lt0, lt2 hi, qac Worker.e ha, r, rfl, trivial⟩)
  simp only [qcY, Int.sub_zero, Int.natCast_zero] at l
  exact qpa ⟨⟨by omega, by omega⟩, by simp only [decide_eq_false_iff_not]; omega, l, trivial⟩
theorem qpq (x : Cluster) (n : Int) (h0 : 0 ≤ n) (h1 : n ≤ 8388608) (hw : x.wf) : Rt 11 [.agg x.e, .one (I n)] [.one (I (qaz n x.sz))] := by
 have r0 := qpo x.graph (n) (by omega) (by omega) hw.graph_ok
 by_cases c0 : ((x.graph.sz : Nat) : Int) ≤ n
 case neg =>
  rw [qar (by omega)] at r0
  rw [qar (by simp only [Cluster.sz]; omega)]
  exact qpc ⟨r0, rfl, trivial⟩
 rw [qaH c0] at r0
 have r1 := qpp x.workers (n - ((x.graph.sz : Nat) : Int)) (by omega) (by omega) hw.workers_ok.1 hw.workers_ok.2
 by_cases c1 : ((szS Worker.sz x.workers : Nat) : Int) ≤ n - ((x.graph.sz : Nat) : Int)
 case neg =>
  rw [qar (by omega)] at r1
  rw [qar (by simp only [Cluster.sz]; omega)]
  exact qpd ⟨r0, by simp only [decide_eq_false_iff_not]; omega, r1, rfl, trivial⟩
 rw [qaH c1] at r1
 have r2 := qpn x.links (n - ((x.graph.sz : Nat) : Int) - ((szS Worker.sz x.workers : Nat) : Int)) (by omega) (by omega) hw.links_ok.1 hw.links_ok.2
 by_cases c2 : ((szS Link.sz x.links : Nat) : Int) ≤ n - ((x.graph.sz : Nat) : Int) - ((szS Worker.sz x.workers : Nat) : Int)
 case neg =>
  rw [qar (by omega)] at r2
  rw [qar (by simp only [Cluster.sz]; omega)]
  exact qpe ⟨r0, by simp only [decide_eq_false_iff_not]; omega, r1, by simp only [decide_eq_false_iff_not]; omega, r2, rfl, trivial⟩
 rw [qaH c2] at r2
 have r3 := qpk x.tokens (n - ((x.graph.sz : Nat) : Int) - ((szS Worker.sz x.workers : Nat) : Int) - ((szS Link.sz x.links : Nat) : Int)) (by omega) (by omega) hw.tokens_ok.1
 by_cases c3 : ((x.tokens.length : Nat) : Int) ≤ n - ((x.graph.sz : Nat) : Int) - ((szS Worker.sz x.workers : Nat) : Int) - ((szS Link.sz x.links : Nat) : Int)
 case neg =>
  rw [qar (by omega)] at r3
  rw [qar (by simp only [Cluster.sz]; omega)]
  exact qpf ⟨r0, by simp only [decide_eq_false_iff_not]; omega, r1, by simp only [decide_eq_false_iff_not]; omega, r2, by simp only [decide_eq_false_iff_not]; omega, r3, rfl, trivial⟩
 rw [qaH c3] at r3
 have r4 := qpl x.news (n - ((x.graph.sz : Nat) : Int) - ((szS Worker.sz x.workers : Nat) : Int) - ((szS Link.sz x.links : Nat) : Int) - ((x.tokens.length : Nat) : Int)) (by omega) (by omega) hw.news_ok.1
 by_cases c4 : ((x.news.length : Nat) : Int) ≤ n - ((x.graph.sz : Nat) : Int) - ((szS Worker.sz x.workers : Nat) : Int) - ((szS Link.sz x.links : Nat) : Int) - ((x.tokens.length : Nat) : Int)
 case neg =>
  rw [qar (by omega)] at r4
  rw [qar (by simp only [Cluster.sz]; omega)]
  exact qpg ⟨r0, by simp only [decide_eq_false_iff_not]; omega, r1, by simp only [decide_eq_false_iff_not]; omega, r2, by simp only [decide_eq_false_iff_not]; omega, r3, by simp only [decide_eq_false_iff_not]; omega, r4, rfl, trivial⟩
 rw [qaH c4] at r4
 have e : qaz n x.sz = n - ((x.graph.sz : Nat) : Int) - ((szS Worker.sz x.workers : Nat) : Int) - ((szS Link.sz x.links : Nat) : Int) - ((x.tokens.length : Nat) : Int) - ((x.news.length : Nat) : Int) := by
  rw [qaH (by simp only [Cluster.sz]; omega)]
  simp only [Cluster.sz] <;> omega
 rw [e]
 exact qph ⟨r0, by simp only [decide_eq_false_iff_not]; omega, r1, by simp only [decide_eq_false_iff_not]; omega, r2, by simp only [decide_eq_false_iff_not]; omega, r3, by simp only [decide_eq_false_iff_not]; omega, r4, by simp only [decide_eq_false_iff_not]; omega, trivial⟩
end Go.Proofs.YtdanpadojemjeaaGreat
namespace Go.Proofs.YtdanpadojemjeaaGreat
open Go.Sx Go.RowKit
theorem qkY (xs : List Int) (hx0 : xs.length ≤ 8388608) : Rt 191 [.one (.sl 1 (xs.map eI))] [.one (.sl 1 (xs.map eI))] := by
 have hx : xs.length ≤ 8388608 := hx0
 have l := qak (P := Tryz.prog) (c := qaa Tryz.f191 0) (stE := qih (xs.map eI)) (qaf 0) xs.length (fun i => qdB (xs.map eI) i (qan eI [I 0] xs i)) (fun i hi => by
  obtain ⟨a, ha⟩ := qae hi
  have t : Tr Tryz.prog (qaa Tryz.f191 0) (qdB (xs.map eI) i (qan eI [I 0] xs i)) .normal (qdB (xs.map eI) (i + 1 : Nat) ((qan eI [I 0] xs i).set ((i : Nat) : Int).toNat (eI a))) :=
   qqd _ _ _ _ _ ⟨lt1 hi, lt0, lt2 hi, qac eI ha, lt0, qcb hi, qce hi, up1 hi hx, trivial⟩
  rw [qcf ha] at t
  exact t) (by
  have t := qqe (xs.map eI) xs.length (qan eI [I 0] xs xs.length) ⟨ge1, trivial⟩
  rw [qcd] at t ⊢
  exact t)
 rw [qcc] at l
 exact qqf ⟨by omega, by omega, by simp only [List.length_map]; omega, by simp only [List.length_map]; omega, l, trivial⟩
theorem qkZ (xs : List Bool) (hx0 : xs.length ≤ 8388608) : Rt 192 [.one (.sl 1 (xs.map eB))] [.one (.sl 1 (xs.map eB))] := by
 have hx : xs.length ≤ 8388608 := hx0
 have l := qak (P := Tryz.prog) (c := qaa Tryz.f192 0) (stE := qii (xs.map eB)) (qaf 0) xs.length (fun i => qdC (xs.map eB) i (qan eB [B false] xs i)) (fun i hi => by
  obtain ⟨a, ha⟩ := qae hi
  have t : Tr Tryz.prog (qaa Tryz.f192 0) (qdC (xs.map eB) i (qan eB [B false] xs i)) .normal (qdC (xs.map eB) (i + 1 : Nat) ((qan eB [B false] xs i).set ((i : Nat) : Int).toNat (eB a))) :=
   qqg _ _ _ _ _ ⟨lt1 hi, lt0, lt2 hi, qac eB ha, lt0, qcb hi, qce hi, up1 hi hx, trivial⟩
  rw [qcf ha] at t
  exact t) (by
  have t := qqh (xs.map eB) xs.length (qan eB [B false] xs xs.length) ⟨ge1, trivial⟩
  rw [qcd] at t ⊢
  exact t)
 rw [qcc] at l
 exact qqi ⟨by omega, by omega, by simp only [List.length_map]; omega, by simp only [List.length_map]; omega, l, trivial⟩
theorem qpr (x : Stamp) : Rt 172 [.agg x.e] [.agg x.e] := qp4 trivial
theorem qps (x : Record) : Rt 102 [.agg x.e] [.agg x.e] := qp5 ⟨qpr x.stamp, trivial⟩
theorem qgf (xs : List Record) (hx0 : xs.length ≤ 8388608) : Rt 42 [.one (.sl 5 (xs.map Record.e))] [.one (.sl 5 (xs.map Record.e))] := by
 have hx : xs.length ≤ 8388608 := hx0
 have l := qak (P := Tryz.prog) (c := qaa Tryz.f42 0) (stE := qif (xs.map Record.e)) (qaf 0) xs.length (fun i => qdz (xs.map Record.e) i (qan Record.e [I 0, I 0, I 0, I 0, I 0] xs i)) (fun i hi => by
  obtain ⟨a, ha⟩ := qae hi
  have t : Tr Tryz.prog (qaa Tryz.f42 0) (qdz (xs.map Record.e) i (qan Record.e [I 0, I 0, I 0, I 0, I 0] xs i)) .normal (qdz (xs.map Record.e) (i + 1 : Nat) ((qan Record.e [I 0, I 0, I 0, I 0, I 0] xs i).set ((i : Nat) : Int).toNat (Record.e a))) :=
   qp6 _ _ _ _ _ _ _ _ _ _ _ _ _ _ _ _ _ _ ⟨lt1 hi, lt0, lt2 hi, qac Record.e ha, qps a, lt0, qcb hi, qce hi, up1 hi hx, trivial⟩
  rw [qcf ha] at t
  exact t) (by
  have t := qp7 (xs.map Record.e) xs.length (qan Record.e [I 0, I 0, I 0, I 0, I 0] xs xs.length) ⟨ge1, trivial⟩
  rw [qcd] at t ⊢
  exact t)
 rw [qcc] at l
 exact qp8 ⟨by omega, by omega, by simp only [List.length_map]; omega, by simp only [List.length_map]; omega, l, trivial⟩
theorem qpt (x : Cell) : Rt 228 [.agg x.e] [.agg x.e] := qp9 trivial
theorem qpu (xs : List Cell) (hx0 : xs.length ≤ 8388608) : Rt 190 [.one (.sl 4 (xs.map Cell.e))] [.one (.sl 4 (xs.map Cell.e))] := by
 have hx : xs.length ≤ 8388608 := hx0
 have l := qak (P := Tryz.prog) (c := qaa Tryz.f190 0) (stE := qig (xs.map Cell.e)) (qaf 0) xs.length (fun i => qdA (xs.map Cell.e) i (qan Cell.e [I 0, I 0, I 0, I 0] xs i)) (fun i hi => by
  obtain ⟨a, ha⟩ := qae hi
  have t : Tr Tryz.prog (qaa Tryz.f190 0) (qdA (xs.map Cell.e) i (qan Cell.e [I 0, I 0, I 0, I 0] xs i)) .normal (qdA (xs.map Cell.e) (i + 1 : Nat) ((qan Cell.e [I 0, I 0, I 0, I 0] xs i).set ((i : Nat) : Int).toNat (Cell.e a))) :=
   qqa _ _ _ _ _ _ _ _ _ _ _ _ _ _ _ ⟨lt1 hi, lt0, lt2 hi, qac Cell.e ha, qpt a, lt0, qcb hi, qce hi, up1 hi hx, trivial⟩
  rw [qcf ha] at t
  exact t) (by
  have t := qqb (xs.map Cell.e) xs.length (qan Cell.e [I 0, I 0, I 0, I 0] xs xs.length) ⟨ge1, trivial⟩
  rw [qcd] at t ⊢
  exact t)
 rw [qcc] at l
 exact qqc ⟨by omega, by omega, by simp only [List.length_map]; omega, by simp only [List.length_map]; omega, l, trivial⟩
theorem qpv (x : Done) : Rt 229 [.agg x.e] [.agg x.e] := qqj trivial
theorem qpw (xs : List Done) (hx0 : xs.length ≤ 8388608) : Rt 193 [.one (.sl 2 (xs.map Done.e))] [.one (.sl 2 (xs.map Done.e))] := by
 have hx : xs.length ≤ 8388608 := hx0
 have l := qak (P := Tryz.prog) (c := qaa Tryz.f193 0) (stE := qij (xs.map Done.e)) (qaf 0) xs.length (fun i => qdD (xs.map Done.e) i (qan Done.e [I 0, B false] xs i)) (fun i hi => by
  obtain ⟨a, ha⟩ := qae hi
  have t : Tr Tryz.prog (qaa Tryz.f193 0) (qdD (xs.map Done.e) i (qan Done.e [I 0, B false] xs i)) .normal (qdD (xs.map Done.e) (i + 1 : Nat) ((qan Done.e [I 0, B false] xs i).set ((i : Nat) : Int).toNat (Done.e a))) :=
   qqk _ _ _ _ _ _ _ _ _ ⟨lt1 hi, lt0, lt2 hi, qac Done.e ha, qpv a, lt0, qcb hi, qce hi, up1 hi hx, trivial⟩
  rw [qcf ha] at t
  exact t) (by
  have t := qql (xs.map Done.e) xs.length (qan Done.e [I 0, B false] xs xs.length) ⟨ge1, trivial⟩
  rw [qcd] at t ⊢
  exact t)
 rw [qcc] at l
 exact qqm ⟨by omega, by omega, by simp only [List.length_map]; omega, by simp only [List.length_map]; omega, l, trivial⟩
theorem qpx (x : Token) : Rt 117 [.agg x.e] [.agg x.e] := qqn trivial
theorem qpy (xs : List Token) (hx0 : xs.length ≤ 8388608) : Rt 59 [.one (.sl 5 (xs.map Token.e))] [.one (.sl 5 (xs.map Token.e))] := by
 have hx : xs.length ≤ 8388608 := hx0
 have l := qak (P := Tryz.prog) (c := qaa Tryz.f59 0) (stE := qik (xs.map Token.e)) (qaf 0) xs.length (fun i => qdE (xs.map Token.e) i (qan Token.e [B false, I 0, I 0, B false, B false] xs i)) (fun i hi => by
  obtain ⟨a, ha⟩ := qae hi
  have t : Tr Tryz.prog (qaa Tryz.f59 0) (qdE (xs.map Token.e) i (qan Token.e [B false, I 0, I 0, B false, B false] xs i)) .normal (qdE (xs.map Token.e) (i + 1 : Nat) ((qan Token.e [B false, I 0, I 0, B false, B false] xs i).set ((i : Nat) : Int).toNat (Token.e a))) :=
   qqo _ _ _ _ _ _ _ _ _ _ _ _ _ _ _ _ _ _ ⟨lt1 hi, lt0, lt2 hi, qac Token.e ha, qpx a, lt0, qcb hi, qce hi, up1 hi hx, trivial⟩
  rw [qcf ha] at t
  exact t) (by
  have t := qqp (xs.map Token.e) xs.length (qan Token.e [B false, I 0, I 0, B false, B false] xs xs.length) ⟨ge1, trivial⟩
  rw [qcd] at t ⊢
  exact t)
 rw [qcc] at l
 exact qqq ⟨by omega, by omega, by simp only [List.length_map]; omega, by simp only [List.length_map]; omega, l, trivial⟩
theorem qpz (x : News) : Rt 118 [.agg x.e] [.agg x.e] := qqr trivial
theorem qpA (xs : List News) (hx0 : xs.length ≤ 8388608) : Rt 60 [.one (.sl 3 (xs.map News.e))] [.one (.sl 3 (xs.map News.e))] := by
 have hx : xs.length ≤ 8388608 := hx0
 have l := qak (P := Tryz.prog) (c := qaa Tryz.f60 0) (stE := qil (xs.map News.e)) (qaf 0) xs.length (fun i => qdF (xs.map News.e) i (qan News.e [I 0, I 0, B false] xs i)) (fun i hi => by
  obtain ⟨a, ha⟩ := qae hi
  have t : Tr Tryz.prog (qaa Tryz.f60 0) (qdF (xs.map News.e) i (qan News.e [I 0, I 0, B false] xs i)) .normal (qdF (xs.map News.e) (i + 1 : Nat) ((qan News.e [I 0, I 0, B false] xs i).set ((i : Nat) : Int).toNat (News.e a))) :=
   qqs _ _ _ _ _ _ _ _ _ _ _ _ ⟨lt1 hi, lt0, lt2 hi, qac News.e ha, qpz a, lt0, qcb hi, qce hi, up1 hi hx, trivial⟩
  rw [qcf ha] at t
  exact t) (by
  have t := qqt (xs.map News.e) xs.length (qan News.e [I 0, I 0, B false] xs xs.length) ⟨ge1, trivial⟩
  rw [qcd] at t ⊢
  exact t)
 rw [qcc] at l
 exact qqu ⟨by omega, by omega, by simp only [List.length_map]; omega, by simp only [List.length_map]; omega, l, trivial⟩
theorem qpB (x : Node) (hx : x.sz ≤ 8388608) : Rt 171 [.agg x.e] [.agg x.e] :=
 qqv ⟨qkY x.outs (by simp only [Node.sz] at hx; omega), trivial⟩
theorem qpC (xs : List Node) (hx0 : szS Node.sz xs ≤ 8388608) : Rt 101 [.one (.sl 4 (xs.map Node.e))] [.one (.sl 4 (xs.map Node.e))] := by
 have hx : xs.length ≤ 8388608 := qeC hx0
 have l := qak (P := Tryz.prog) (c := qaa Tryz.f101 0) (stE := qim (xs.map Node.e)) (qaf 0) xs.length (fun i => qdG (xs.map Node.e) i (qan Node.e [I 0, I 0, I 0, D.v (Value.slice none 0 0)] xs i)) (fun i hi => by
  obtain ⟨a, ha⟩ := qae hi
  have t : Tr Tryz.prog (qaa Tryz.f101 0) (qdG (xs.map Node.e) i (qan Node.e [I 0, I 0, I 0, D.v (Value.slice none 0 0)] xs i)) .normal (qdG (xs.map Node.e) (i + 1 : Nat) ((qan Node.e [I 0, I 0, I 0, D.v (Value.slice none 0 0)] xs i).set ((i : Nat) : Int).toNat (Node.e a))) :=
   qqw _ _ _ _ _ _ _ _ _ _ _ _ _ _ _ ⟨lt1 hi, lt0, lt2 hi, qac Node.e ha, qpB a (qbz hx0 (qap ha)), lt0, qcb hi, qce hi, up1 hi hx, trivial⟩
  rw [qcf ha] at t
  exact t) (by
  have t := qqx (xs.map Node.e) xs.length (qan Node.e [I 0, I 0, I 0, D.v (Value.slice none 0 0)] xs xs.length) ⟨ge1, trivial⟩
  rw [qcd] at t ⊢
  exact t)
 rw [qcc] at l
 exact qqy ⟨by omega, by omega, by simp only [List.length_map]; omega, by simp only [List.length_map]; omega, l, trivial⟩
theorem qpD (x : Link) (hx : x.sz ≤ 8388608) : Rt 116 [.agg x.e] [.agg x.e] :=
 qqz ⟨qgf x.queue (by simp only [Link.sz] at hx; omega), trivial⟩
theorem qpE (xs : List Link) (hx0 : szS Link.sz xs ≤ 8388608) : Rt 58 [.one (.sl 6 (xs.map Link.e))] [.one (.sl 6 (xs.map Link.e))] := by
 have hx : xs.length ≤ 8388608 := qeC hx0
 have l := qak (P := Tryz.prog) (c := qaa Tryz.f58 0) (stE := qin (xs.map Link.e)) (qaf 0) xs.length (fun i => qdH (xs.map Link.e) i (qan Link.e [I 0, D.v (Value.slice none 0 0), I 0, I 0, I 0, I 0] xs i)) (fun i hi => by
  obtain ⟨a, ha⟩ := qae hi
  have t : Tr Tryz.prog (qaa Tryz.f58 0) (qdH (xs.map Link.e) i (qan Link.e [I 0, D.v (Value.slice none 0 0), I 0, I 0, I 0, I 0] xs i)) .normal (qdH (xs.map Link.e) (i + 1 : Nat) ((qan Link.e [I 0, D.v (Value.slice none 0 0), I 0, I 0, I 0, I 0] xs i).set ((i : Nat) : Int).toNat (Link.e a))) :=
   qqA _ _ _ _ _ _ _ _ _ _ _ _ _ _ _ _ _ _ _ _ _ ⟨lt1 hi, lt0, lt2 hi, qac Link.e ha, qpD a (qbz hx0 (qap ha)), lt0, qcb hi, qce hi, up1 hi hx, trivial⟩
  rw [qcf ha] at t
  exact t) (by
  have t := qqB (xs.map Link.e) xs.length (qan Link.e [I 0, D.v (Value.slice none 0 0), I 0, I 0, I 0, I 0] xs xs.length) ⟨ge1, trivial⟩
  rw [qcd] at t ⊢
  exact t)
 rw [qcc] at l
 exact qqC ⟨by omega, by omega, by simp only [List.length_map]; omega, by simp only [List.length_map]; omega, l, trivial⟩
theorem qpF (x : Graph) (hx : x.sz ≤ 8388608) : Rt 41 [.agg x.e] [.agg x.e] :=
 qqD ⟨qpC x.nodes (by simp only [Graph.sz] at hx; omega), trivial⟩
theorem qpG (x : Worker) (hx : x.sz ≤ 8388608) : Rt 115 [.agg x.e] [.agg x.e] :=
 qqE ⟨qgf x.queue (by simp only [Worker.sz] at hx; omega), qgf x.staged (by simp only [Worker.sz] at hx; omega), qgf x.inputs (by simp only [Worker.sz] at hx; omega), qpu x.cells (by simp only [Worker.sz] at hx; omega), qkY x.sums (by simp only [Worker.sz] at hx; omega), qkZ x.black (by simp only [Worker.sz] at hx; omega), qkZ x.caps (by simp only [Worker.sz] at hx; omega), qpw x.dones (by simp only [Worker.sz] at hx; omega), trivial⟩
theorem qpH (xs : List Worker) (hx0 : szS Worker.sz xs ≤ 8388608) : Rt 57 [.one (.sl 8 (xs.map Worker.e))] [.one (.sl 8 (xs.map Worker.e))] := by
 have hx : xs.length ≤ 8388608 := qeC hx0
 have l := qak (P := Tryz.prog) (c := qaa Tryz.f57 0) (stE := qio (xs.map Worker.e)) (qaf 0) xs.length (fun i => qdI (xs.map Worker.e) i (qan Worker.e [D.v (Value.slice none 0 0), D.v (Value.slice none 0 0), D.v (Value.slice none 0 0), D.v (Value.slice none 0 0), D.v (Value.slice none 0 0), D.v (Value.slice none 0 0), D.v (Value.slice none 0 0), D.v (Value.slice none 0 0)] xs i)) (fun i hi => by
  obtain ⟨a, ha⟩ := qae hi
  have t : Tr Tryz.prog (qaa Tryz.f57 0) (qdI (xs.map Worker.e) i (qan Worker.e [D.v (Value.slice none 0 0), D.v (Value.slice none 0 0), D.v (Value.slice none 0 0), D.v (Value.slice none 0 0), D.v (Value.slice none 0 0), D.v (Value.slice none 0 0), D.v (Value.slice none 0 0), D.v (Value.slice none 0 0)] xs i)) .normal (qdI (xs.map Worker.e) (i + 1 : Nat) ((qan Worker.e [D.v (Value.slice none 0 0), D.v (Value.slice none 0 0), D.v (Value.slice none 0 0), D.v (Value.slice none 0 0), D.v (Value.slice none 0 0), D.v (Value.slice none 0 0), D.v (Value.slice none 0 0), D.v (Value.slice none 0 0)] xs i).set ((i : Nat) : Int).toNat (Worker.e a))) :=
   qqF _ _ _ _ _ _ _ _ _ _ _ _ _ _ _ _ _ _ _ _ _ _ _ _ _ _ _ ⟨lt1 hi, lt0, lt2 hi, qac Worker.e ha, qpG a (qbz hx0 (qap ha)), lt0, qcb hi, qce hi, up1 hi hx, trivial⟩
  rw [qcf ha] at t
  exact t) (by
  have t := qqG (xs.map Worker.e) xs.length (qan Worker.e [D.v (Value.slice none 0 0), D.v (Value.slice none 0 0), D.v (Value.slice none 0 0), D.v (Value.slice none 0 0), D.v (Value.slice none 0 0), D.v (Value.slice none 0 0), D.v (Value.slice none 0 0), D.v (Value.slice none 0 0)] xs xs.length) ⟨ge1, trivial⟩
  rw [qcd] at t ⊢
  exact t)
 rw [qcc] at l
 exact qqH ⟨by omega, by omega, by simp only [List.length_map]; omega, by simp only [List.length_map]; omega, l, trivial⟩
theorem qpI (x : Cluster) (hx : x.sz ≤ 8388608) : Rt 13 [.agg x.e] [.agg x.e] :=
 qqI ⟨qpF x.graph (by simp only [Cluster.sz] at hx; omega), qpH x.workers (by simp only [Cluster.sz] at hx; omega), qpE x.links (by simp only [Cluster.sz] at hx; omega), qpy x.tokens (by simp only [Cluster.sz] at hx; omega), qpA x.news (by simp only [Cluster.sz] at hx; omega), trivial⟩
end Go.Proofs.YtdanpadojemjeaaGreat
namespace Go.Proofs.YtdanpadojemjeaaGreat
open Go.Sx Go.RowKit
theorem qpJ (xs ys : List Int) (hx0 : xs.length ≤ 8388608) : Rt 203 [.one (.sl 1 (xs.map eI)), .one (.sl 1 (ys.map eI))] [.one (B (decide (xs = ys)))] := by
 have hx : xs.length ≤ 8388608 := hx0
 by_cases hl : xs.length = ys.length
 case neg =>
  rw [decide_eq_false (fun e => hl (by rw [e]))]
  exact qq8 ⟨by simp only [List.length_map, bne_iff_ne, ne_eq]; omega, trivial⟩
 have step : ∀ i, i < xs.length → xs[i]? = ys[i]? → Tr Tryz.prog (qaa Tryz.f203 0) (qcn (xs.map eI) (ys.map eI) i) .normal (qcn (xs.map eI) (ys.map eI) (i + 1 : Nat)) := by
  intro i hi h
  obtain ⟨a, ha⟩ := qae hi
  have hb : ys[i]? = some a := h ▸ ha
  obtain ⟨b, he⟩ : ∃ b, b = a := ⟨a, rfl⟩
  rw [← he] at hb
  exact qra ⟨lt1 hi, lt0, lt2 hi, qac eI ha, lt0, lt2 (by omega), qac eI hb, by simp [he], up1 hi hx, trivial⟩
 have hz : ((↑(xs.map eI).length : Int) != (↑(ys.map eI).length : Int)) = false := by simp [hl]
 rcases qbZ xs ys hl with he | ⟨i, a, b, ha, hb, hab, hlt⟩
 ·rw [decide_eq_true he]
  have l := qak (qaf 0) xs.length (fun i => qcn (xs.map eI) (ys.map eI) i) (fun i hi => step i hi (by rw [he])) (qrb ⟨ge1, trivial⟩)
  exact qrd ⟨hz, l, trivial⟩
 ·rw [decide_eq_false (fun e => by rw [e, hb] at ha; exact hab (Option.some.inj ha).symm)]
  have hi := lt_of ha
  have l := qak qao i (fun i => qcn (xs.map eI) (ys.map eI) i) (fun j hj => step j (by omega) (hlt j hj)) (qq9 ⟨lt1 hi, lt0, lt2 hi, qac eI ha, lt0, lt2 (by omega), qac eI hb, by simp [hab], trivial⟩)
  exact qrc _ _ false ⟨hz, l, trivial⟩
theorem qdx (xs ys : List Int) (r : Bool) (h : decide (xs = ys) = r) (hx0 : xs.length ≤ 8388608) : Rt 203 [.one (.sl 1 (xs.map eI)), .one (.sl 1 (ys.map eI))] [.one (B r)] := h ▸ qpJ xs ys hx0
theorem qpK (xs ys : List Bool) (hx0 : xs.length ≤ 8388608) : Rt 29 [.one (.sl 1 (xs.map eB)), .one (.sl 1 (ys.map eB))] [.one (B (decide (xs = ys)))] := by
 have hx : xs.length ≤ 8388608 := hx0
 by_cases hl : xs.length = ys.length
 case neg =>
  rw [decide_eq_false (fun e => hl (by rw [e]))]
  exact qre ⟨by simp only [List.length_map, bne_iff_ne, ne_eq]; omega, trivial⟩
 have step : ∀ i, i < xs.length → xs[i]? = ys[i]? → Tr Tryz.prog (qaa Tryz.f29 0) (qco (xs.map eB) (ys.map eB) i) .normal (qco (xs.map eB) (ys.map eB) (i + 1 : Nat)) := by
  intro i hi h
  obtain ⟨a, ha⟩ := qae hi
  have hb : ys[i]? = some a := h ▸ ha
  obtain ⟨b, he⟩ : ∃ b, b = a := ⟨a, rfl⟩
  rw [← he] at hb
  exact qrg ⟨lt1 hi, lt0, lt2 hi, qac eB ha, lt0, lt2 (by omega), qac eB hb, by simp [he], up1 hi hx, trivial⟩
 have hz : ((↑(xs.map eB).length : Int) != (↑(ys.map eB).length : Int)) = false := by simp [hl]
 rcases qbZ xs ys hl with he | ⟨i, a, b, ha, hb, hab, hlt⟩
 ·rw [decide_eq_true he]
  have l := qak (qaf 0) xs.length (fun i => qco (xs.map eB) (ys.map eB) i) (fun i hi => step i hi (by rw [he])) (qrh ⟨ge1, trivial⟩)
  exact qrj ⟨hz, l, trivial⟩
 ·rw [decide_eq_false (fun e => by rw [e, hb] at ha; exact hab (Option.some.inj ha).symm)]
  have hi := lt_of ha
  have l := qak qao i (fun i => qco (xs.map eB) (ys.map eB) i) (fun j hj => step j (by omega) (hlt j hj)) (qrf ⟨lt1 hi, lt0, lt2 hi, qac eB ha, lt0, lt2 (by omega), qac eB hb, by revert hab; cases a <;> cases b <;> simp, trivial⟩)
  exact qri _ _ false ⟨hz, l, trivial⟩
theorem qdy (xs ys : List Bool) (r : Bool) (h : decide (xs = ys) = r) (hx0 : xs.length ≤ 8388608) : Rt 29 [.one (.sl 1 (xs.map eB)), .one (.sl 1 (ys.map eB))] [.one (B r)] := h ▸ qpK xs ys hx0
theorem qpL (x y : Stamp) : Rt 180 [.agg x.e, .agg y.e] [.one (B (decide (x = y)))] := by
 obtain ⟨a0, a1⟩ := x
 obtain ⟨b0, b1⟩ := y
 by_cases h0 : a0 = b0
 case neg =>
  rw [decide_eq_false (by simp [h0])]
  exact qqJ ⟨by simp [h0], trivial⟩
 by_cases h1 : a1 = b1
 case neg =>
  rw [decide_eq_false (by simp [h1])]
  exact qqK ⟨by simp [h0], by simp [h1], trivial⟩
 rw [decide_eq_true (by simp [h0, h1])]
 exact qqL ⟨by simp [h0], by simp [h1], trivial⟩
theorem qgg (x y : Stamp) (r : Bool) (h : decide (x = y) = r) : Rt 180 [.agg x.e, .agg y.e] [.one (B r)] := h ▸ qpL x y
theorem qpM (x y : Record) : Rt 108 [.agg x.e, .agg y.e] [.one (B (decide (x = y)))] := by
 obtain ⟨a0, a1, a2, a3⟩ := x
 obtain ⟨b0, b1, b2, b3⟩ := y
 by_cases h0 : a0 = b0
 case neg =>
  rw [decide_eq_false (by simp [h0])]
  exact qqM ⟨by simp [h0], trivial⟩
 by_cases h1 : a1 = b1
 case neg =>
  rw [decide_eq_false (by simp [h1])]
  exact qqN ⟨by simp [h0], qgg a1 b1 false (by simp [h1]), rfl, trivial⟩
 by_cases h2 : a2 = b2
 case neg =>
  rw [decide_eq_false (by simp [h2])]
  exact qqO ⟨by simp [h0], qgg a1 b1 true (by simp [h1]), rfl, by simp [h2], trivial⟩
 by_cases h3 : a3 = b3
 case neg =>
  rw [decide_eq_false (by simp [h3])]
  exact qqP ⟨by simp [h0], qgg a1 b1 true (by simp [h1]), rfl, by simp [h2], by simp [h3], trivial⟩
 rw [decide_eq_true (by simp [h0, h1, h2, h3])]
 exact qqQ ⟨by simp [h0], qgg a1 b1 true (by simp [h1]), rfl, by simp [h2], by simp [h3], trivial⟩
theorem qk0 (x y : Record) (r : Bool) (h : decide (x = y) = r) : Rt 108 [.agg x.e, .agg y.e] [.one (B r)] := h ▸ qpM x y
theorem qpN (xs ys : List Record) (hx0 : xs.length ≤ 8388608) : Rt 46 [.one (.sl 5 (xs.map Record.e)), .one (.sl 5 (ys.map Record.e))] [.one (B (decide (xs = ys)))] := by
 have hx : xs.length ≤ 8388608 := hx0
 by_cases hl : xs.length = ys.length
 case neg =>
  rw [decide_eq_false (fun e => hl (by rw [e]))]
  exact qqR ⟨by simp only [List.length_map, bne_iff_ne, ne_eq]; omega, trivial⟩
 have step : ∀ i, i < xs.length → xs[i]? = ys[i]? → Tr Tryz.prog (qaa Tryz.f46 0) (qcl (xs.map Record.e) (ys.map Record.e) i) .normal (qcl (xs.map Record.e) (ys.map Record.e) (i + 1 : Nat)) := by
  intro i hi h
  obtain ⟨a, ha⟩ := qae hi
  have hb : ys[i]? = some a := h ▸ ha
  obtain ⟨b, he⟩ : ∃ b, b = a := ⟨a, rfl⟩
  rw [← he] at hb
  exact qqT ⟨lt1 hi, lt0, lt2 hi, qac Record.e ha, lt0, lt2 (by omega), qac Record.e hb, qk0 a b true (by simp [he]), rfl, up1 hi hx, trivial⟩
 have hz : ((↑(xs.map Record.e).length : Int) != (↑(ys.map Record.e).length : Int)) = false := by simp [hl]
 rcases qbZ xs ys hl with he | ⟨i, a, b, ha, hb, hab, hlt⟩
 ·rw [decide_eq_true he]
  have l := qak (qaf 0) xs.length (fun i => qcl (xs.map Record.e) (ys.map Record.e) i) (fun i hi => step i hi (by rw [he])) (qqU ⟨ge1, trivial⟩)
  exact qqW ⟨hz, l, trivial⟩
 ·rw [decide_eq_false (fun e => by rw [e, hb] at ha; exact hab (Option.some.inj ha).symm)]
  have hi := lt_of ha
  have l := qak qao i (fun i => qcl (xs.map Record.e) (ys.map Record.e) i) (fun j hj => step j (by omega) (hlt j hj)) (qqS ⟨lt1 hi, lt0, lt2 hi, qac Record.e ha, lt0, lt2 (by omega), qac Record.e hb, qk0 a b false (by simp [hab]), rfl, trivial⟩)
  exact qqV _ _ false ⟨hz, l, trivial⟩
theorem qaD (xs ys : List Record) (r : Bool) (h : decide (xs = ys) = r) (hx0 : xs.length ≤ 8388608) : Rt 46 [.one (.sl 5 (xs.map Record.e)), .one (.sl 5 (ys.map Record.e))] [.one (B r)] := h ▸ qpN xs ys hx0
theorem qpO (x y : Cell) : Rt 106 [.agg x.e, .agg y.e] [.one (B (decide (x = y)))] := by
 obtain ⟨a0, a1, a2, a3⟩ := x
 obtain ⟨b0, b1, b2, b3⟩ := y
 by_cases h0 : a0 = b0
 case neg =>
  rw [decide_eq_false (by simp [h0])]
  exact qqX ⟨by simp [h0], trivial⟩
 by_cases h1 : a1 = b1
 case neg =>
  rw [decide_eq_false (by simp [h1])]
  exact qqY ⟨by simp [h0], by simp [h1], trivial⟩
 by_cases h2 : a2 = b2
 case neg =>
  rw [decide_eq_false (by simp [h2])]
  exact qqZ ⟨by simp [h0], by simp [h1], by simp [h2], trivial⟩
 by_cases h3 : a3 = b3
 case neg =>
  rw [decide_eq_false (by simp [h3])]
  exact qq0 ⟨by simp [h0], by simp [h1], by simp [h2], by simp [h3], trivial⟩
 rw [decide_eq_true (by simp [h0, h1, h2, h3])]
 exact qq1 ⟨by simp [h0], by simp [h1], by simp [h2], by simp [h3], trivial⟩
theorem qk1 (x y : Cell) (r : Bool) (h : decide (x = y) = r) : Rt 106 [.agg x.e, .agg y.e] [.one (B r)] := h ▸ qpO x y
theorem qpP (xs ys : List Cell) (hx0 : xs.length ≤ 8388608) : Rt 44 [.one (.sl 4 (xs.map Cell.e)), .one (.sl 4 (ys.map Cell.e))] [.one (B (decide (xs = ys)))] := by
 have hx : xs.length ≤ 8388608 := hx0
 by_cases hl : xs.length = ys.length
 case neg =>
  rw [decide_eq_false (fun e => hl (by rw [e]))]
  exact qq2 ⟨by simp only [List.length_map, bne_iff_ne, ne_eq]; omega, trivial⟩
 have step : ∀ i, i < xs.length → xs[i]? = ys[i]? → Tr Tryz.prog (qaa Tryz.f44 0) (qcm (xs.map Cell.e) (ys.map Cell.e) i) .normal (qcm (xs.map Cell.e) (ys.map Cell.e) (i + 1 : Nat)) := by
  intro i hi h
  obtain ⟨a, ha⟩ := qae hi
  have hb : ys[i]? = some a := h ▸ ha
  obtain ⟨b, he⟩ : ∃ b, b = a := ⟨a, rfl⟩
  rw [← he] at hb
  exact qq4 ⟨lt1 hi, lt0, lt2 hi, qac Cell.e ha, lt0, lt2 (by omega), qac Cell.e hb, qk1 a b true (by simp [he]), rfl, up1 hi hx, trivial⟩
 have hz : ((↑(xs.map Cell.e).length : Int) != (↑(ys.map Cell.e).length : Int)) = false := by simp [hl]
 rcases qbZ xs ys hl with he | ⟨i, a, b, ha, hb, hab, hlt⟩
 ·rw [decide_eq_true he]
  have l := qak (qaf 0) xs.length (fun i => qcm (xs.map Cell.e) (ys.map Cell.e) i) (fun i hi => step i hi (by rw [he])) (qq5 ⟨ge1, trivial⟩)
  exact qq7 ⟨hz, l, trivial⟩
 ·rw [decide_eq_false (fun e => by rw [e, hb] at ha; exact hab (Option.some.inj ha).symm)]
  have hi := lt_of ha
  have l := qak qao i (fun i => qcm (xs.map Cell.e) (ys.map Cell.e) i) (fun j hj => step j (by omega) (hlt j hj)) (qq3 ⟨lt1 hi, lt0, lt2 hi, qac Cell.e ha, lt0, lt2 (by omega), qac Cell.e hb, qk1 a b false (by simp [hab]), rfl, trivial⟩)
  exact qq6 _ _ false ⟨hz, l, trivial⟩
theorem qeF (xs ys : List Cell) (r : Bool) (h : decide (xs = ys) = r) (hx0 : xs.length ≤ 8388608) : Rt 44 [.one (.sl 4 (xs.map Cell.e)), .one (.sl 4 (ys.map Cell.e))] [.one (B r)] := h ▸ qpP xs ys hx0
theorem qpQ (x y : Done) : Rt 232 [.agg x.e, .agg y.e] [.one (B (decide (x = y)))] := by
 obtain ⟨a0, a1⟩ := x
 obtain ⟨b0, b1⟩ := y
 by_cases h0 : a0 = b0
 case neg =>
  rw [decide_eq_false (by simp [h0])]
  exact qrk ⟨by simp [h0], trivial⟩
 by_cases h1 : a1 = b1
 case neg =>
  rw [decide_eq_false (by simp [h1])]
  exact qrl ⟨by simp [h0], by revert h1; cases a1 <;> cases b1 <;> simp, trivial⟩
 rw [decide_eq_true (by simp [h0, h1])]
 exact qrm ⟨by simp [h0], by revert h1; cases a1 <;> cases b1 <;> simp, trivial⟩
theorem qk2 (x y : Done) (r : Bool) (h : decide (x = y) = r) : Rt 232 [.agg x.e, .agg y.e] [.one (B r)] := h ▸ qpQ x y
theorem qpR (xs ys : List Done) (hx0 : xs.length ≤ 8388608) : Rt 204 [.one (.sl 2 (xs.map Done.e)), .one (.sl 2 (ys.map Done.e))] [.one (B (decide (xs = ys)))] := by
 have hx : xs.length ≤ 8388608 := hx0
 by_cases hl : xs.length = ys.length
 case neg =>
  rw [decide_eq_false (fun e => hl (by rw [e]))]
  exact qrn ⟨by simp only [List.length_map, bne_iff_ne, ne_eq]; omega, trivial⟩
 have step : ∀ i, i < xs.length → xs[i]? = ys[i]? → Tr Tryz.prog (qaa Tryz.f204 0) (qcp (xs.map Done.e) (ys.map Done.e) i) .normal (qcp (xs.map Done.e) (ys.map Done.e) (i + 1 : Nat)) := by
  intro i hi h
  obtain ⟨a, ha⟩ := qae hi
  have hb : ys[i]? = some a := h ▸ ha
  obtain ⟨b, he⟩ : ∃ b, b = a := ⟨a, rfl⟩
  rw [← he] at hb
  exact qrp ⟨lt1 hi, lt0, lt2 hi, qac Done.e ha, lt0, lt2 (by omega), qac Done.e hb, qk2 a b true (by simp [he]), rfl, up1 hi hx, trivial⟩
 have hz : ((↑(xs.map Done.e).length : Int) != (↑(ys.map Done.e).length : Int)) = false := by simp [hl]
 rcases qbZ xs ys hl with he | ⟨i, a, b, ha, hb, hab, hlt⟩
 ·rw [decide_eq_true he]
  have l := qak (qaf 0) xs.length (fun i => qcp (xs.map Done.e) (ys.map Done.e) i) (fun i hi => step i hi (by rw [he])) (qrq ⟨ge1, trivial⟩)
  exact qrs ⟨hz, l, trivial⟩
 ·rw [decide_eq_false (fun e => by rw [e, hb] at ha; exact hab (Option.some.inj ha).symm)]
  have hi := lt_of ha
  have l := qak qao i (fun i => qcp (xs.map Done.e) (ys.map Done.e) i) (fun j hj => step j (by omega) (hlt j hj)) (qro ⟨lt1 hi, lt0, lt2 hi, qac Done.e ha, lt0, lt2 (by omega), qac Done.e hb, qk2 a b false (by simp [hab]), rfl, trivial⟩)
  exact qrr _ _ false ⟨hz, l, trivial⟩
theorem qk3 (xs ys : List Done) (r : Bool) (h : decide (xs = ys) = r) (hx0 : xs.length ≤ 8388608) : Rt 204 [.one (.sl 2 (xs.map Done.e)), .one (.sl 2 (ys.map Done.e))] [.one (B r)] := h ▸ qpR xs ys hx0
theorem qpS (x y : Token) : Rt 129 [.agg x.e, .agg y.e] [.one (B (decide (x = y)))] := by
 obtain ⟨a0, a1, a2, a3, a4⟩ := x
 obtain ⟨b0, b1, b2, b3, b4⟩ := y
 by_cases h0 : a0 = b0
 case neg =>
  rw [decide_eq_false (by simp [h0])]
  exact qrt ⟨by revert h0; cases a0 <;> cases b0 <;> simp, trivial⟩
 by_cases h1 : a1 = b1
 case neg =>
  rw [decide_eq_false (by simp [h1])]
  exact qru ⟨by revert h0; cases a0 <;> cases b0 <;> simp, by simp [h1], trivial⟩
 by_cases h2 : a2 = b2
 case neg =>
  rw [decide_eq_false (by simp [h2])]
  exact qrv ⟨by revert h0; cases a0 <;> cases b0 <;> simp, by simp [h1], by simp [h2], trivial⟩
 by_cases h3 : a3 = b3
 case neg =>
  rw [decide_eq_false (by simp [h3])]
  exact qrw ⟨by revert h0; cases a0 <;> cases b0 <;> simp, by simp [h1], by simp [h2], by revert h3; cases a3 <;> cases b3 <;> simp, trivial⟩
 by_cases h4 : a4 = b4
 case neg =>
  rw [decide_eq_false (by simp [h4])]
  exact qrx ⟨by revert h0; cases a0 <;> cases b0 <;> simp, by simp [h1], by simp [h2], by revert h3; cases a3 <;> cases b3 <;> simp, by revert h4; cases a4 <;> cases b4 <;> simp, trivial⟩
 rw [decide_eq_true (by simp [h0, h1, h2, h3, h4])]
 exact qry ⟨by revert h0; cases a0 <;> cases b0 <;> simp, by simp [h1], by simp [h2], by revert h3; cases a3 <;> cases b3 <;> simp, by revert h4; cases a4 <;> cases b4 <;> simp, trivial⟩
theorem qk4 (x y : Token) (r : Bool) (h : decide (x = y) = r) : Rt 129 [.agg x.e, .agg y.e] [.one (B r)] := h ▸ qpS x y
theorem qpT (xs ys : List Token) (hx0 : xs.length ≤ 8388608) : Rt 69 [.one (.sl 5 (xs.map Token.e)), .one (.sl 5 (ys.map Token.e))] [.one (B (decide (xs = ys)))] := by
 have hx : xs.length ≤ 8388608 := hx0
 by_cases hl : xs.length = ys.length
 case neg =>
  rw [decide_eq_false (fun e => hl (by rw [e]))]
  exact qrz ⟨by simp only [List.length_map, bne_iff_ne, ne_eq]; omega, trivial⟩
 have step : ∀ i, i < xs.length → xs[i]? = ys[i]? → Tr Tryz.prog (qaa Tryz.f69 0) (qcq (xs.map Token.e) (ys.map Token.e) i) .normal (qcq (xs.map Token.e) (ys.map Token.e) (i + 1 : Nat)) := by
  intro i hi h
  obtain ⟨a, ha⟩ := qae hi
  have hb : ys[i]? = some a := h ▸ ha
  obtain ⟨b, he⟩ : ∃ b, b = a := ⟨a, rfl⟩
  rw [← he] at hb
  exact qrB ⟨lt1 hi, lt0, lt2 hi, qac Token.e ha, lt0, lt2 (by omega), qac Token.e hb, qk4 a b true (by simp [he]), rfl, up1 hi hx, trivial⟩
 have hz : ((↑(xs.map Token.e).length : Int) != (↑(ys.map Token.e).length : Int)) = false := by simp [hl]
 rcases qbZ xs ys hl with he | ⟨i, a, b, ha, hb, hab, hlt⟩
 ·rw [decide_eq_true he]
  have l := qak (qaf 0) xs.length (fun i => qcq (xs.map Token.e) (ys.map Token.e) i) (fun i hi => step i hi (by rw [he])) (qrC ⟨ge1, trivial⟩)
  exact qrE ⟨hz, l, trivial⟩
 ·rw [decide_eq_false (fun e => by rw [e, hb] at ha; exact hab (Option.some.inj ha).symm)]
  have hi := lt_of ha
  have l := qak qao i (fun i => qcq (xs.map Token.e) (ys.map Token.e) i) (fun j hj => step j (by omega) (hlt j hj)) (qrA ⟨lt1 hi, lt0, lt2 hi, qac Token.e ha, lt0, lt2 (by omega), qac Token.e hb, qk4 a b false (by simp [hab]), rfl, trivial⟩)
  exact qrD _ _ false ⟨hz, l, trivial⟩
theorem qie (xs ys : List Token) (r : Bool) (h : decide (xs = ys) = r) (hx0 : xs.length ≤ 8388608) : Rt 69 [.one (.sl 5 (xs.map Token.e)), .one (.sl 5 (ys.map Token.e))] [.one (B r)] := h ▸ qpT xs ys hx0
theorem qpU (x y : News) : Rt 130 [.agg x.e, .agg y.e] [.one (B (decide (x = y)))] := by
 obtain ⟨a0, a1, a2⟩ := x
 obtain ⟨b0, b1, b2⟩ := y
 by_cases h0 : a0 = b0
 case neg =>
  rw [decide_eq_false (by simp [h0])]
  exact qrF ⟨by simp [h0], trivial⟩
 by_cases h1 : a1 = b1
 case neg =>
  rw [decide_eq_false (by simp [h1])]
  exact qrG ⟨by simp [h0], by simp [h1], trivial⟩
 by_cases h2 : a2 = b2
 case neg =>
  rw [decide_eq_false (by simp [h2])]
  exact qrH ⟨by simp [h0], by simp [h1], by revert h2; cases a2 <;> cases b2 <;> simp, trivial⟩
 rw [decide_eq_true (by simp [h0, h1, h2])]
 exact qrI ⟨by simp [h0], by simp [h1], by revert h2; cases a2 <;> cases b2 <;> simp, trivial⟩
theorem qk5 (x y : News) (r : Bool) (h : decide (x = y) = r) : Rt 130 [.agg x.e, .agg y.e] [.one (B r)] := h ▸ qpU x y
theorem qpV (xs ys : List News) (hx0 : xs.length ≤ 8388608) : Rt 70 [.one (.sl 3 (xs.map News.e)), .one (.sl 3 (ys.map News.e))] [.one (B (decide (xs = ys)))] := by
 have hx : xs.length ≤ 8388608 := hx0
 by_cases hl : xs.length = ys.length
 case neg =>
  rw [decide_eq_false (fun e => hl (by rw [e]))]
  exact qrJ ⟨by simp only [List.length_map, bne_iff_ne, ne_eq]; omega, trivial⟩
 have step : ∀ i, i < xs.length → xs[i]? = ys[i]? → Tr Tryz.prog (qaa Tryz.f70 0) (qcr (xs.map News.e) (ys.map News.e) i) .normal (qcr (xs.map News.e) (ys.map News.e) (i + 1 : Nat)) := by
  intro i hi h
  obtain ⟨a, ha⟩ := qae hi
  have hb : ys[i]? = some a := h ▸ ha
  obtain ⟨b, he⟩ : ∃ b, b = a := ⟨a, rfl⟩
  rw [← he] at hb
  exact qrL ⟨lt1 hi, lt0, lt2 hi, qac News.e ha, lt0, lt2 (by omega), qac News.e hb, qk5 a b true (by simp [he]), rfl, up1 hi hx, trivial⟩
 have hz : ((↑(xs.map News.e).length : Int) != (↑(ys.map News.e).length : Int)) = false := by simp [hl]
 rcases qbZ xs ys hl with he | ⟨i, a, b, ha, hb, hab, hlt⟩
 ·rw [decide_eq_true he]
  have l := qak (qaf 0) xs.length (fun i => qcr (xs.map News.e) (ys.map News.e) i) (fun i hi => step i hi (by rw [he])) (qrM ⟨ge1, trivial⟩)
  exact qrO ⟨hz, l, trivial⟩
 ·rw [decide_eq_false (fun e => by rw [e, hb] at ha; exact hab (Option.some.inj ha).symm)]
  have hi := lt_of ha
  have l := qak qao i (fun i => qcr (xs.map News.e) (ys.map News.e) i) (fun j hj => step j (by omega) (hlt j hj)) (qrK ⟨lt1 hi, lt0, lt2 hi, qac News.e ha, lt0, lt2 (by omega), qac News.e hb, qk5 a b false (by simp [hab]), rfl, trivial⟩)
  exact qrN _ _ false ⟨hz, l, trivial⟩
theorem qk6 (xs ys : List News) (r : Bool) (h : decide (xs = ys) = r) (hx0 : xs.length ≤ 8388608) : Rt 70 [.one (.sl 3 (xs.map News.e)), .one (.sl 3 (ys.map News.e))] [.one (B r)] := h ▸ qpV xs ys hx0
theorem qpW (x y : Node) (hx : x.sz ≤ 8388608) : Rt 179 [.agg x.e, .agg y.e] [.one (B (decide (x = y)))] := by
 obtain ⟨a0, a1, a2, a3⟩ := x
 obtain ⟨b0, b1, b2, b3⟩ := y
 simp only [Node.sz] at hx
 by_cases h0 : a0 = b0
 case neg =>
  rw [decide_eq_false (by simp [h0])]
  exact qrP ⟨by simp [h0], trivial⟩
 by_cases h1 : a1 = b1
 case neg =>
  rw [decide_eq_false (by simp [h1])]
  exact qrQ ⟨by simp [h0], by simp [h1], trivial⟩
 by_cases h2 : a2 = b2
 case neg =>
  rw [decide_eq_false (by simp [h2])]
  exact qrR ⟨by simp [h0], by simp [h1], by simp [h2], trivial⟩
 by_cases h3 : a3 = b3
 case neg =>
  rw [decide_eq_false (by simp [h3])]
  exact qrS ⟨by simp [h0], by simp [h1], by simp [h2], qdx a3 b3 false (by simp [h3]) (by omega), rfl, trivial⟩
 rw [decide_eq_true (by simp [h0, h1, h2, h3])]
 exact qrT ⟨by simp [h0], by simp [h1], by simp [h2], qdx a3 b3 true (by simp [h3]) (by omega), rfl, trivial⟩
theorem qk7 (x y : Node) (r : Bool) (h : decide (x = y) = r) (hx : x.sz ≤ 8388608) : Rt 179 [.agg x.e, .agg y.e] [.one (B r)] := h ▸ qpW x y hx
theorem qpX (xs ys : List Node) (hx0 : szS Node.sz xs ≤ 8388608) : Rt 107 [.one (.sl 4 (xs.map Node.e)), .one (.sl 4 (ys.map Node.e))] [.one (B (decide (xs = ys)))] := by
 have hx : xs.length ≤ 8388608 := qeC hx0
 by_cases hl : xs.length = ys.length
 case neg =>
  rw [decide_eq_false (fun e => hl (by rw [e]))]
  exact qrU ⟨by simp only [List.length_map, bne_iff_ne, ne_eq]; omega, trivial⟩
 have step : ∀ i, i < xs.length → xs[i]? = ys[i]? → Tr Tryz.prog (qaa Tryz.f107 0) (qcs (xs.map Node.e) (ys.map Node.e) i) .normal (qcs (xs.map Node.e) (ys.map Node.e) (i + 1 : Nat)) := by
  intro i hi h
  obtain ⟨a, ha⟩ := qae hi
  have hb : ys[i]? = some a := h ▸ ha
  obtain ⟨b, he⟩ : ∃ b, b = a := ⟨a, rfl⟩
  rw [← he] at hb
  exact qrW ⟨lt1 hi, lt0, lt2 hi, qac Node.e ha, lt0, lt2 (by omega), qac Node.e hb, qk7 a b true (by simp [he]) (qbz hx0 (qap ha)), rfl, up1 hi hx, trivial⟩
 have hz : ((↑(xs.map Node.e).length : Int) != (↑(ys.map Node.e).length : Int)) = false := by simp [hl]
 rcases qbZ xs ys hl with he | ⟨i, a, b, ha, hb, hab, hlt⟩
 ·rw [decide_eq_true he]
  have l := qak (qaf 0) xs.length (fun i => qcs (xs.map Node.e) (ys.map Node.e) i) (fun i hi => step i hi (by rw [he])) (qrX ⟨ge1, trivial⟩)
  exact qrZ ⟨hz, l, trivial⟩
 ·rw [decide_eq_false (fun e => by rw [e, hb] at ha; exact hab (Option.some.inj ha).symm)]
  have hi := lt_of ha
  have l := qak qao i (fun i => qcs (xs.map Node.e) (ys.map Node.e) i) (fun j hj => step j (by omega) (hlt j hj)) (qrV ⟨lt1 hi, lt0, lt2 hi, qac Node.e ha, lt0, lt2 (by omega), qac Node.e hb, qk7 a b false (by simp [hab]) (qbz hx0 (qap ha)), rfl, trivial⟩)
  exact qrY _ _ false ⟨hz, l, trivial⟩
theorem qgh (xs ys : List Node) (r : Bool) (h : decide (xs = ys) = r) (hx0 : szS Node.sz xs ≤ 8388608) : Rt 107 [.one (.sl 4 (xs.map Node.e)), .one (.sl 4 (ys.map Node.e))] [.one (B r)] := h ▸ qpX xs ys hx0
theorem qpY (x y : Link) (hx : x.sz ≤ 8388608) : Rt 128 [.agg x.e, .agg y.e] [.one (B (decide (x = y)))] := by
 obtain ⟨a0, a1, a2, a3, a4, a5⟩ := x
 obtain ⟨b0, b1, b2, b3, b4, b5⟩ := y
 simp only [Link.sz] at hx
 by_cases h0 : a0 = b0
 case neg =>
  rw [decide_eq_false (by simp [h0])]
  exact qr0 ⟨by simp [h0], trivial⟩
 by_cases h1 : a1 = b1
 case neg =>
  rw [decide_eq_false (by simp [h1])]
  exact qr1 ⟨by simp [h0], qaD a1 b1 false (by simp [h1]) (by omega), rfl, trivial⟩
 by_cases h2 : a2 = b2
 case neg =>
  rw [decide_eq_false (by simp [h2])]
  exact qr2 ⟨by simp [h0], qaD a1 b1 true (by simp [h1]) (by omega), rfl, by simp [h2], trivial⟩
 by_cases h3 : a3 = b3
 case neg =>
  rw [decide_eq_false (by simp [h3])]
  exact qr3 ⟨by simp [h0], qaD a1 b1 true (by simp [h1]) (by omega), rfl, by simp [h2], by simp [h3], trivial⟩
 by_cases h4 : a4 = b4
 case neg =>
  rw [decide_eq_false (by simp [h4])]
  exact qr4 ⟨by simp [h0], qaD a1 b1 true (by simp [h1]) (by omega), rfl, by simp [h2], by simp [h3], by simp [h4], trivial⟩
 by_cases h5 : a5 = b5
 case neg =>
  rw [decide_eq_false (by simp [h5])]
  exact qr5 ⟨by simp [h0], qaD a1 b1 true (by simp [h1]) (by omega), rfl, by simp [h2], by simp [h3], by simp [h4], by simp [h5], trivial⟩
 rw [decide_eq_true (by simp [h0, h1, h2, h3, h4, h5])]
 exact qr6 ⟨by simp [h0], qaD a1 b1 true (by simp [h1]) (by omega), rfl, by simp [h2], by simp [h3], by simp [h4], by simp [h5], trivial⟩
theorem qk8 (x y : Link) (r : Bool) (h : decide (x = y) = r) (hx : x.sz ≤ 8388608) : Rt 128 [.agg x.e, .agg y.e] [.one (B r)] := h ▸ qpY x y hx
theorem qpZ (xs ys : List Link) (hx0 : szS Link.sz xs ≤ 8388608) : Rt 68 [.one (.sl 6 (xs.map Link.e)), .one (.sl 6 (ys.map Link.e))] [.one (B (decide (xs = ys)))] := by
 have hx : xs.length ≤ 8388608 := qeC hx0
 by_cases hl : xs.length = ys.length
 case neg =>
  rw [decide_eq_false (fun e => hl (by rw [e]))]
  exact qr7 ⟨by simp only [List.length_map, bne_iff_ne, ne_eq]; omega, trivial⟩
 have step : ∀ i, i < xs.length → xs[i]? = ys[i]? → Tr Tryz.prog (qaa Tryz.f68 0) (qct (xs.map Link.e) (ys.map Link.e) i) .normal (qct (xs.map Link.e) (ys.map Link.e) (i + 1 : Nat)) := by
  intro i hi h
  obtain ⟨a, ha⟩ := qae hi
  have hb : ys[i]? = some a := h ▸ ha
  obtain ⟨b, he⟩ : ∃ b, b = a := ⟨a, rfl⟩
  rw [← he] at hb
  exact qr9 ⟨lt1 hi, lt0, lt2 hi, qac Link.e ha, lt0, lt2 (by omega), qac Link.e hb, qk8 a b true (by simp [he]) (qbz hx0 (qap ha)), rfl, up1 hi hx, trivial⟩
 have hz : ((↑(xs.map Link.e).length : Int) != (↑(ys.map Link.e).length : Int)) = false := by simp [hl]
 rcases qbZ xs ys hl with he | ⟨i, a, b, ha, hb, hab, hlt⟩
 ·rw [decide_eq_true he]
  have l := qak (qaf 0) xs.length (fun i => qct (xs.map Link.e) (ys.map Link.e) i) (fun i hi => step i hi (by rw [he])) (qsa ⟨ge1, trivial⟩)
  exact qsc ⟨hz, l, trivial⟩
 ·rw [decide_eq_false (fun e => by rw [e, hb] at ha; exact hab (Option.some.inj ha).symm)]
  have hi := lt_of ha
  have l := qak qao i (fun i => qct (xs.map Link.e) (ys.map Link.e) i) (fun j hj => step j (by omega) (hlt j hj)) (qr8 ⟨lt1 hi, lt0, lt2 hi, qac Link.e ha, lt0, lt2 (by omega), qac Link.e hb, qk8 a b false (by simp [hab]) (qbz hx0 (qap ha)), rfl, trivial⟩)
  exact qsb _ _ false ⟨hz, l, trivial⟩
theorem qgi (xs ys : List Link) (r : Bool) (h : decide (xs = ys) = r) (hx0 : szS Link.sz xs ≤ 8388608) : Rt 68 [.one (.sl 6 (xs.map Link.e)), .one (.sl 6 (ys.map Link.e))] [.one (B r)] := h ▸ qpZ xs ys hx0
theorem qp0 (x y : Graph) (hx : x.sz ≤ 8388608) : Rt 45 [.agg x.e, .agg y.e] [.one (B (decide (x = y)))] := by
 obtain ⟨a0, a1, a2⟩ := x
 obtain ⟨b0, b1, b2⟩ := y
 simp only [Graph.sz] at hx
 by_cases h0 : a0 = b0
 case neg =>
  rw [decide_eq_false (by simp [h0])]
  exact qsd ⟨qgh a0 b0 false (by simp [h0]) (by omega), rfl, trivial⟩
 by_cases h1 : a1 = b1
 case neg =>
  rw [decide_eq_false (by simp [h1])]
  exact qse ⟨qgh a0 b0 true (by simp [h0]) (by omega), rfl, by simp [h1], trivial⟩
 by_cases h2 : a2 = b2
 case neg =>
  rw [decide_eq_false (by simp [h2])]
  exact qsf ⟨qgh a0 b0 true (by simp [h0]) (by omega), rfl, by simp [h1], by simp [h2], trivial⟩
 rw [decide_eq_true (by simp [h0, h1, h2])]
 exact qsg ⟨qgh a0 b0 true (by simp [h0]) (by omega), rfl, by simp [h1], by simp [h2], trivial⟩
theorem qeG (x y : Graph) (r : Bool) (h : decide (x = y) = r) (hx : x.sz ≤ 8388608) : Rt 45 [.agg x.e, .agg y.e] [.one (B r)] := h ▸ qp0 x y hx
theorem qp1 (x y : Worker) (hx : x.sz ≤ 8388608) : Rt 127 [.agg x.e, .agg y.e] [.one (B (decide (x = y)))] := by
 obtain ⟨a0, a1, a2, a3, a4, a5, a6, a7⟩ := x
 obtain ⟨b0, b1, b2, b3, b4, b5, b6, b7⟩ := y
 simp only [Worker.sz] at hx
 by_cases h0 : a0 = b0
 case neg =>
  rw [decide_eq_false (by simp [h0])]
  exact qsh ⟨qaD a0 b0 false (by simp [h0]) (by omega), rfl, trivial⟩
 by_cases h1 : a1 = b1
 case neg =>
  rw [decide_eq_false (by simp [h1])]
  exact qsi ⟨qaD a0 b0 true (by simp [h0]) (by omega), rfl, qaD a1 b1 false (by simp [h1]) (by omega), rfl, trivial⟩
 by_cases h2 : a2 = b2
 case neg =>
  rw [decide_eq_false (by simp [h2])]
  exact qsj ⟨qaD a0 b0 true (by simp [h0]) (by omega), rfl, qaD a1 b1 true (by simp [h1]) (by omega), rfl, qaD a2 b2 false (by simp [h2]) (by omega), rfl, trivial⟩
 by_cases h3 : a3 = b3
 case neg =>
  rw [decide_eq_false (by simp [h3])]
  exact qsk ⟨qaD a0 b0 true (by simp [h0]) (by omega), rfl, qaD a1 b1 true (by simp [h1]) (by omega), rfl, qaD a2 b2 true (by simp [h2]) (by omega), rfl, qeF a3 b3 false (by simp [h3]) (by omega), rfl, trivial⟩
 by_cases h4 : a4 = b4
 case neg =>
  rw [decide_eq_false (by simp [h4])]
  exact qsl ⟨qaD a0 b0 true (by simp [h0]) (by omega), rfl, qaD a1 b1 true (by simp [h1]) (by omega), rfl, qaD a2 b2 true (by simp [h2]) (by omega), rfl, qeF a3 b3 true (by simp [h3]) (by omega), rfl, qdx a4 b4 false (by simp [h4]) (by omega), rfl, trivial⟩
 by_cases h5 : a5 = b5
 case neg =>
  rw [decide_eq_false (by simp [h5])]
  exact qsm ⟨qaD a0 b0 true (by simp [h0]) (by omega), rfl, qaD a1 b1 true (by simp [h1]) (by omega), rfl, qaD a2 b2 true (by simp [h2]) (by omega), rfl, qeF a3 b3 true (by simp [h3]) (by omega), rfl, qdx a4 b4 true (by simp [h4]) (by omega), rfl, qdy a5 b5 false (by simp [h5]) (by omega), rfl, trivial⟩
 by_cases h6 : a6 = b6
 case neg =>
  rw [decide_eq_false (by simp [h6])]
  exact qsn ⟨qaD a0 b0 true (by simp [h0]) (by omega), rfl, qaD a1 b1 true (by simp [h1]) (by omega), rfl, qaD a2 b2 true (by simp [h2]) (by omega), rfl, qeF a3 b3 true (by simp [h3]) (by omega), rfl, qdx a4 b4 true (by simp [h4]) (by omega), rfl, qdy a5 b5 true (by simp [h5]) (by omega), rfl, qdy a6 b6 false (by simp [h6]) (by omega), rfl, trivial⟩
 by_cases h7 : a7 = b7
 case neg =>
  rw [decide_eq_false (by simp [h7])]
  exact qso ⟨qaD a0 b0 true (by simp [h0]) (by omega), rfl, qaD a1 b1 true (by simp [h1]) (by omega), rfl, qaD a2 b2 true (by simp [h2]) (by omega), rfl, qeF a3 b3 true (by simp [h3]) (by omega), rfl, qdx a4 b4 true (by simp [h4]) (by omega), rfl, qdy a5 b5 true (by simp [h5]) (by omega), rfl, qdy a6 b6 true (by simp [h6]) (by omega), rfl, qk3 a7 b7 false (by simp [h7]) (by omega), rfl, trivial⟩
 rw [decide_eq_true (by simp [h0, h1, h2, h3, h4, h5, h6, h7])]
 exact qsp ⟨qaD a0 b0 true (by simp [h0]) (by omega), rfl, qaD a1 b1 true (by simp [h1]) (by omega), rfl, qaD a2 b2 true (by simp [h2]) (by omega), rfl, qeF a3 b3 true (by simp [h3]) (by omega), rfl, qdx a4 b4 true (by simp [h4]) (by omega), rfl, qdy a5 b5 true (by simp [h5]) (by omega), rfl, qdy a6 b6 true (by simp [h6]) (by omega), rfl, qk3 a7 b7 true (by simp [h7]) (by omega), rfl, trivial⟩
theorem qk9 (x y : Worker) (r : Bool) (h : decide (x = y) = r) (hx : x.sz ≤ 8388608) : Rt 127 [.agg x.e, .agg y.e] [.one (B r)] := h ▸ qp1 x y hx
theorem qp2 (xs ys : List Worker) (hx0 : szS Worker.sz xs ≤ 8388608) : Rt 67 [.one (.sl 8 (xs.map Worker.e)), .one (.sl 8 (ys.map Worker.e))] [.one (B (decide (xs = ys)))] := by
 have hx : xs.length ≤ 8388608 := qeC hx0
 by_cases hl : xs.length = ys.length
 case neg =>
  rw [decide_eq_false (fun e => hl (by rw [e]))]
  exact qsq ⟨by simp only [List.length_map, bne_iff_ne, ne_eq]; omega, trivial⟩
 have step : ∀ i, i < xs.length → xs[i]? = ys[i]? → Tr Tryz.prog (qaa Tryz.f67 0) (qcu (xs.map Worker.e) (ys.map Worker.e) i) .normal (qcu (xs.map Worker.e) (ys.map Worker.e) (i + 1 : Nat)) := by
  intro i hi h
  obtain ⟨a, ha⟩ := qae hi
  have hb : ys[i]? = some a := h ▸ ha
  obtain ⟨b, he⟩ : ∃ b, b = a := ⟨a, rfl⟩
  rw [← he] at hb
  exact qss ⟨lt1 hi, lt0, lt2 hi, qac Worker.e ha, lt0, lt2 (by omega), qac Worker.e hb, qk9 a b true (by simp [he]) (qbz hx0 (qap ha)), rfl, up1 hi hx, trivial⟩
 have hz : ((↑(xs.map Worker.e).length : Int) != (↑(ys.map Worker.e).length : Int)) = false := by simp [hl]
 rcases qbZ xs ys hl with he | ⟨i, a, b, ha, hb, hab, hlt⟩
 ·rw [decide_eq_true he]
  have l := qak (qaf 0) xs.length (fun i => qcu (xs.map Worker.e) (ys.map Worker.e) i) (fun i hi => step i hi (by rw [he])) (qst ⟨ge1, trivial⟩)
  exact qsv ⟨hz, l, trivial⟩
 ·rw [decide_eq_false (fun e => by rw [e, hb] at ha; exact hab (Option.some.inj ha).symm)]
  have hi := lt_of ha
  have l := qak qao i (fun i => qcu (xs.map Worker.e) (ys.map Worker.e) i) (fun j hj => step j (by omega) (hlt j hj)) (qsr ⟨lt1 hi, lt0, lt2 hi, qac Worker.e ha, lt0, lt2 (by omega), qac Worker.e hb, qk9 a b false (by simp [hab]) (qbz hx0 (qap ha)), rfl, trivial⟩)
  exact qsu _ _ false ⟨hz, l, trivial⟩
theorem qfc (xs ys : List Worker) (r : Bool) (h : decide (xs = ys) = r) (hx0 : szS Worker.sz xs ≤ 8388608) : Rt 67 [.one (.sl 8 (xs.map Worker.e)), .one (.sl 8 (ys.map Worker.e))] [.one (B r)] := h ▸ qp2 xs ys hx0
theorem qp3 (x y : Cluster) (hx : x.sz ≤ 8388608) : Rt 15 [.agg x.e, .agg y.e] [.one (B (decide (x = y)))] := by
 obtain ⟨a0, a1, a2, a3, a4⟩ := x
 obtain ⟨b0, b1, b2, b3, b4⟩ := y
 simp only [Cluster.sz] at hx
 by_cases h0 : a0 = b0
 case neg =>
  rw [decide_eq_false (by simp [h0])]
  exact qsw ⟨qeG a0 b0 false (by simp [h0]) (by omega), rfl, trivial⟩
 by_cases h1 : a1 = b1
 case neg =>
  rw [decide_eq_false (by simp [h1])]
  exact qsx ⟨qeG a0 b0 true (by simp [h0]) (by omega), rfl, qfc a1 b1 false (by simp [h1]) (by omega), rfl, trivial⟩
 by_cases h2 : a2 = b2
 case neg =>
  rw [decide_eq_false (by simp [h2])]
  exact qsy ⟨qeG a0 b0 true (by simp [h0]) (by omega), rfl, qfc a1 b1 true (by simp [h1]) (by omega), rfl, qgi a2 b2 false (by simp [h2]) (by omega), rfl, trivial⟩
 by_cases h3 : a3 = b3
 case neg =>
  rw [decide_eq_false (by simp [h3])]
  exact qsz ⟨qeG a0 b0 true (by simp [h0]) (by omega), rfl, qfc a1 b1 true (by simp [h1]) (by omega), rfl, qgi a2 b2 true (by simp [h2]) (by omega), rfl, qie a3 b3 false (by simp [h3]) (by omega), rfl, trivial⟩
 by_cases h4 : a4 = b4
 case neg =>
  rw [decide_eq_false (by simp [h4])]
  exact qsA ⟨qeG a0 b0 true (by simp [h0]) (by omega), rfl, qfc a1 b1 true (by simp [h1]) (by omega), rfl, qgi a2 b2 true (by simp [h2]) (by omega), rfl, qie a3 b3 true (by simp [h3]) (by omega), rfl, qk6 a4 b4 false (by simp [h4]) (by omega), rfl, trivial⟩
 rw [decide_eq_true (by simp [h0, h1, h2, h3, h4])]
 exact qsB ⟨qeG a0 b0 true (by simp [h0]) (by omega), rfl, qfc a1 b1 true (by simp [h1]) (by omega), rfl, qgi a2 b2 true (by simp [h2]) (by omega), rfl, qie a3 b3 true (by simp [h3]) (by omega), rfl, qk6 a4 b4 true (by simp [h4]) (by omega), rfl, trivial⟩
theorem qla (x y : Cluster) (r : Bool) (h : decide (x = y) = r) (hx : x.sz ≤ 8388608) : Rt 15 [.agg x.e, .agg y.e] [.one (B r)] := h ▸ qp3 x y hx
end Go.Proofs.YtdanpadojemjeaaGreat
