/- The functions sz.. (printed by gentypes.py) -/
import Derived.Test.YtdanpadojemjeaaGreatT1
import Derived.Test.YtdanpadojemjeaaGreatGA
import Derived.Test.YtdanpadojemjeaaGreatGB
import Derived.Test.YtdanpadojemjeaaGreatGC
set_option linter.unusedVariables false
set_option linter.unusedSimpArgs false
namespace Go.Proofs.YtdanpadojemjeaaGreat
open Go.Sx Go.RowKit
theorem qk7 (xs : List Int) (n : Int) (h0 : 0 ≤ n) (h1 : n ≤ 8388608) (hl : (xs.length : Int) ≤ 9223372036854775807) : Rt 182 [.one (.sl 1 (xs.map eI)), .one (I n)] [.one (I (qaB n xs.length))] := by
 have e : (xs.map eI).length = xs.length := List.length_map ..
 rw [← e]
 rw [← e] at hl
 unfold qaB
 split
 ·exact qoW ⟨⟨by omega, by omega⟩, by simp only [decide_eq_false_iff_not]; omega, trivial⟩
 ·exact qoV ⟨⟨by omega, by omega⟩, by simp only [decide_eq_true_eq]; omega, trivial⟩
theorem qk8 (xs : List Bool) (n : Int) (h0 : 0 ≤ n) (h1 : n ≤ 8388608) (hl : (xs.length : Int) ≤ 9223372036854775807) : Rt 183 [.one (.sl 1 (xs.map eB)), .one (I n)] [.one (I (qaB n xs.length))] := by
 have e : (xs.map eB).length = xs.length := List.length_map ..
 rw [← e]
 rw [← e] at hl
 unfold qaB
 split
 ·exact qoY ⟨⟨by omega, by omega⟩, by simp only [decide_eq_false_iff_not]; omega, trivial⟩
 ·exact qoX ⟨⟨by omega, by omega⟩, by simp only [decide_eq_true_eq]; omega, trivial⟩
theorem qgu (xs : List Record) (n : Int) (h0 : 0 ≤ n) (h1 : n ≤ 8388608) (hl : (xs.length : Int) ≤ 9223372036854775807) : Rt 39 [.one (.sl 5 (xs.map Record.e)), .one (I n)] [.one (I (qaB n xs.length))] := by
 have e : (xs.map Record.e).length = xs.length := List.length_map ..
 rw [← e]
 rw [← e] at hl
 unfold qaB
 split
 ·exact qoS ⟨⟨by omega, by omega⟩, by simp only [decide_eq_false_iff_not]; omega, trivial⟩
 ·exact qoR ⟨⟨by omega, by omega⟩, by simp only [decide_eq_true_eq]; omega, trivial⟩
theorem qpI (xs : List Cell) (n : Int) (h0 : 0 ≤ n) (h1 : n ≤ 8388608) (hl : (xs.length : Int) ≤ 9223372036854775807) : Rt 181 [.one (.sl 4 (xs.map Cell.e)), .one (I n)] [.one (I (qaB n xs.length))] := by
 have e : (xs.map Cell.e).length = xs.length := List.length_map ..
 rw [← e]
 rw [← e] at hl
 unfold qaB
 split
 ·exact qoU ⟨⟨by omega, by omega⟩, by simp only [decide_eq_false_iff_not]; omega, trivial⟩
 ·exact qoT ⟨⟨by omega, by omega⟩, by simp only [decide_eq_true_eq]; omega, trivial⟩
theorem qpJ (xs : List Done) (n : Int) (h0 : 0 ≤ n) (h1 : n ≤ 8388608) (hl : (xs.length : Int) ≤ 9223372036854775807) : Rt 184 [.one (.sl 2 (xs.map Done.e)), .one (I n)] [.one (I (qaB n xs.length))] := by
 have e : (xs.map Done.e).length = xs.length := List.length_map ..
 rw [← e]
 rw [← e] at hl
 unfold qaB
 split
 ·exact qo0 ⟨⟨by omega, by omega⟩, by simp only [decide_eq_false_iff_not]; omega, trivial⟩
 ·exact qoZ ⟨⟨by omega, by omega⟩, by simp only [decide_eq_true_eq]; omega, trivial⟩
theorem qpK (xs : List Token) (n : Int) (h0 : 0 ≤ n) (h1 : n ≤ 8388608) (hl : (xs.length : Int) ≤ 9223372036854775807) : Rt 53 [.one (.sl 5 (xs.map Token.e)), .one (I n)] [.one (I (qaB n xs.length))] := by
 have e : (xs.map Token.e).length = xs.length := List.length_map ..
 rw [← e]
 rw [← e] at hl
 unfold qaB
 split
 ·exact qo2 ⟨⟨by omega, by omega⟩, by simp only [decide_eq_false_iff_not]; omega, trivial⟩
 ·exact qo1 ⟨⟨by omega, by omega⟩, by simp only [decide_eq_true_eq]; omega, trivial⟩
theorem qpL (xs : List News) (n : Int) (h0 : 0 ≤ n) (h1 : n ≤ 8388608) (hl : (xs.length : Int) ≤ 9223372036854775807) : Rt 54 [.one (.sl 3 (xs.map News.e)), .one (I n)] [.one (I (qaB n xs.length))] := by
 have e : (xs.map News.e).length = xs.length := List.length_map ..
 rw [← e]
 rw [← e] at hl
 unfold qaB
 split
 ·exact qo4 ⟨⟨by omega, by omega⟩, by simp only [decide_eq_false_iff_not]; omega, trivial⟩
 ·exact qo3 ⟨⟨by omega, by omega⟩, by simp only [decide_eq_true_eq]; omega, trivial⟩
theorem qk9 (x : Node) (n : Int) (h0 : 0 ≤ n) (h1 : n ≤ 8388608) (hw : x.wf) : Rt 162 [.agg x.e, .one (I n)] [.one (I (qaB n x.sz))] := by
 have r0 := qk7 x.outs (n) (by omega) (by omega) hw.outs_ok.1
 by_cases c0 : ((x.outs.length : Nat) : Int) ≤ n
 case neg =>
  rw [qar (by omega)] at r0
  rw [qar (by simp only [Node.sz]; omega)]
  exact qo5 ⟨r0, rfl, trivial⟩
 rw [qaI c0] at r0
 have e : qaB n x.sz = n - ((x.outs.length : Nat) : Int) := by
  rw [qaI (by simp only [Node.sz]; omega)]
  simp only [Node.sz] <;> omega
 rw [e]
 exact qo6 ⟨r0, by simp only [decide_eq_false_iff_not]; omega, trivial⟩
theorem qpM (xs : List Node) (n : Int) (h0 : 0 ≤ n) (h1 : n ≤ 8388608) (hl : (xs.length : Int) ≤ 9223372036854775807) (hw : ∀ x ∈ xs, x.wf) : Rt 97 [.one (.sl 4 (xs.map Node.e)), .one (I n)] [.one (I (qaB n (szS Node.sz xs)))] := by
 have e : (xs.map Node.e).length = xs.length := List.length_map ..
 by_cases c : (xs.length : Int) ≤ n
 case neg =>
  rw [qar (by unfold szS; omega)]
  exact qo7 ⟨⟨by omega, by omega⟩, by simp only [decide_eq_true_eq]; omega, trivial⟩
 have step : ∀ i, i < xs.length → (sumTo Node.sz xs i : Int) ≤ n - xs.length → (sumTo Node.sz xs (i + 1) : Int) ≤ n - xs.length →
   Tr Tryz.prog (qaa Tryz.f97 0) (qcl (xs.map Node.e) i (n - ↑(xs.map Node.e).length - sumTo Node.sz xs i)) .normal (qcl (xs.map Node.e) (i + 1 : Nat) (n - ↑(xs.map Node.e).length - sumTo Node.sz xs (i + 1))) := by
  intro i hi h2 h3
  obtain ⟨a, ha⟩ := qae hi
  have hs := qdB (sz := Node.sz) ha
  have r := qk9 a (n - ↑(xs.map Node.e).length - sumTo Node.sz xs i) (by omega) (by omega) (hw a (qap ha))
  rw [qaI (by omega)] at r
  have e2 : n - ↑(xs.map Node.e).length - (sumTo Node.sz xs i : Int) - (a.sz : Int) = n - ↑(xs.map Node.e).length - (sumTo Node.sz xs (i + 1) : Int) := by omega
  rw [e2] at r
  exact qo9 ⟨lt1 hi, lt0, lt2 hi, qac Node.e ha, r, by simp only [decide_eq_false_iff_not]; omega, upM hi hl, trivial⟩
 rcases qif Node.sz xs (n - xs.length) (by omega) with h | ⟨i, a, ha, h2, h3, h4⟩
 ·have hle := fun i => qeJ (sz := Node.sz) (xs := xs) (i := i)
  have e1 : qaB n (szS Node.sz xs) = n - ↑(xs.map Node.e).length - sumTo Node.sz xs xs.length := by
   rw [qaI (by unfold szS; omega), qgq]; unfold szS; omega
  rw [e1]
  have l := qaj (qaf 0) xs.length (fun i => qcl (xs.map Node.e) i (n - ↑(xs.map Node.e).length - sumTo Node.sz xs i)) (fun i hi => step i hi (by have := hle i; omega) (by have := hle (i + 1); omega)) (qpa ⟨ge1, trivial⟩)
  simp only [qc4, Int.sub_zero, Int.natCast_zero] at l
  exact qpc ⟨⟨by omega, by omega⟩, by simp only [decide_eq_false_iff_not]; omega, l, trivial⟩
 ·have hi := lt_of ha
  have hle := fun i => qeJ (sz := Node.sz) (xs := xs) (i := i)
  have hs := qdB (sz := Node.sz) ha
  have hb := hle (i + 1)
  rw [qar (by unfold szS; omega)]
  have r := qk9 a (n - ↑(xs.map Node.e).length - sumTo Node.sz xs i) (by omega) (by omega) (hw a (qap ha))
  rw [qar (by omega)] at r
  have l := qaj qao i (fun i => qcl (xs.map Node.e) i (n - ↑(xs.map Node.e).length - sumTo Node.sz xs i)) (fun j hj => step j (by omega) (h4 j (by omega)) (h4 (j + 1) (by omega))) (qo8 ⟨lt1 hi, lt0, lt2 hi, qac Node.e ha, r, rfl, trivial⟩)
  simp only [qc4, Int.sub_zero, Int.natCast_zero] at l
  exact qpb ⟨⟨by omega, by omega⟩, by simp only [decide_eq_false_iff_not]; omega, l, trivial⟩
theorem qla (x : Link) (n : Int) (h0 : 0 ≤ n) (h1 : n ≤ 8388608) (hw : x.wf) : Rt 111 [.agg x.e, .one (I n)] [.one (I (qaB n x.sz))] := by
 have r0 := qgu x.queue (n) (by omega) (by omega) hw.queue_ok.1
 by_cases c0 : ((x.queue.length : Nat) : Int) ≤ n
 case neg =>
  rw [qar (by omega)] at r0
  rw [qar (by simp only [Link.sz]; omega)]
  exact qpd ⟨r0, rfl, trivial⟩
 rw [qaI c0] at r0
 have e : qaB n x.sz = n - ((x.queue.length : Nat) : Int) := by
  rw [qaI (by simp only [Link.sz]; omega)]
  simp only [Link.sz] <;> omega
 rw [e]
 exact qpe ⟨r0, by simp only [decide_eq_false_iff_not]; omega, trivial⟩
theorem qpN (xs : List Link) (n : Int) (h0 : 0 ≤ n) (h1 : n ≤ 8388608) (hl : (xs.length : Int) ≤ 9223372036854775807) (hw : ∀ x ∈ xs, x.wf) : Rt 52 [.one (.sl 6 (xs.map Link.e)), .one (I n)] [.one (I (qaB n (szS Link.sz xs)))] := by
 have e : (xs.map Link.e).length = xs.length := List.length_map ..
 by_cases c : (xs.length : Int) ≤ n
 case neg =>
  rw [qar (by unfold szS; omega)]
  exact qpf ⟨⟨by omega, by omega⟩, by simp only [decide_eq_true_eq]; omega, trivial⟩
 have step : ∀ i, i < xs.length → (sumTo Link.sz xs i : Int) ≤ n - xs.length → (sumTo Link.sz xs (i + 1) : Int) ≤ n - xs.length →
   Tr Tryz.prog (qaa Tryz.f52 0) (qcm (xs.map Link.e) i (n - ↑(xs.map Link.e).length - sumTo Link.sz xs i)) .normal (qcm (xs.map Link.e) (i + 1 : Nat) (n - ↑(xs.map Link.e).length - sumTo Link.sz xs (i + 1))) := by
  intro i hi h2 h3
  obtain ⟨a, ha⟩ := qae hi
  have hs := qdB (sz := Link.sz) ha
  have r := qla a (n - ↑(xs.map Link.e).length - sumTo Link.sz xs i) (by omega) (by omega) (hw a (qap ha))
  rw [qaI (by omega)] at r
  have e2 : n - ↑(xs.map Link.e).length - (sumTo Link.sz xs i : Int) - (a.sz : Int) = n - ↑(xs.map Link.e).length - (sumTo Link.sz xs (i + 1) : Int) := by omega
  rw [e2] at r
  exact qph ⟨lt1 hi, lt0, lt2 hi, qac Link.e ha, r, by simp only [decide_eq_false_iff_not]; omega, upM hi hl, trivial⟩
 rcases qif Link.sz xs (n - xs.length) (by omega) with h | ⟨i, a, ha, h2, h3, h4⟩
 ·have hle := fun i => qeJ (sz := Link.sz) (xs := xs) (i := i)
  have e1 : qaB n (szS Link.sz xs) = n - ↑(xs.map Link.e).length - sumTo Link.sz xs xs.length := by
   rw [qaI (by unfold szS; omega), qgq]; unfold szS; omega
  rw [e1]
  have l := qaj (qaf 0) xs.length (fun i => qcm (xs.map Link.e) i (n - ↑(xs.map Link.e).length - sumTo Link.sz xs i)) (fun i hi => step i hi (by have := hle i; omega) (by have := hle (i + 1); omega)) (qpi ⟨ge1, trivial⟩)
  simp only [qc4, Int.sub_zero, Int.natCast_zero] at l
  exact qpk ⟨⟨by omega, by omega⟩, by simp only [decide_eq_false_iff_not]; omega, l, trivial⟩
 ·have hi := lt_of ha
  have hle := fun i => qeJ (sz := Link.sz) (xs := xs) (i := i)
  have hs := qdB (sz := Link.sz) ha
  have hb := hle (i + 1)
  rw [qar (by unfold szS; omega)]
  have r := qla a (n - ↑(xs.map Link.e).length - sumTo Link.sz xs i) (by omega) (by omega) (hw a (qap ha))
  rw [qar (by omega)] at r
  have l := qaj qao i (fun i => qcm (xs.map Link.e) i (n - ↑(xs.map Link.e).length - sumTo Link.sz xs i)) (fun j hj => step j (by omega) (h4 j (by omega)) (h4 (j + 1) (by omega))) (qpg ⟨lt1 hi, lt0, lt2 hi, qac Link.e ha, r, rfl, trivial⟩)
  simp only [qc4, Int.sub_zero, Int.natCast_zero] at l
  exact qpj ⟨⟨by omega, by omega⟩, by simp only [decide_eq_false_iff_not]; omega, l, trivial⟩
theorem qpO (x : Graph) (n : Int) (h0 : 0 ≤ n) (h1 : n ≤ 8388608) (hw : x.wf) : Rt 38 [.agg x.e, .one (I n)] [.one (I (qaB n x.sz))] := by
 have r0 := qpM x.nodes (n) (by omega) (by omega) hw.nodes_ok.1 hw.nodes_ok.2
 by_cases c0 : ((szS Node.sz x.nodes : Nat) : Int) ≤ n
 case neg =>
  rw [qar (by omega)] at r0
  rw [qar (by simp only [Graph.sz]; omega)]
  exact qpl ⟨r0, rfl, trivial⟩
 rw [qaI c0] at r0
 have e : qaB n x.sz = n - ((szS Node.sz x.nodes : Nat) : Int) := by
  rw [qaI (by simp only [Graph.sz]; omega)]
  simp only [Graph.sz] <;> omega
 rw [e]
 exact qpm ⟨r0, by simp only [decide_eq_false_iff_not]; omega, trivial⟩
theorem qlb (x : Worker) (n : Int) (h0 : 0 ≤ n) (h1 : n ≤ 8388608) (hw : x.wf) : Rt 110 [.agg x.e, .one (I n)] [.one (I (qaB n x.sz))] := by
 have r0 := qgu x.queue (n) (by omega) (by omega) hw.queue_ok.1
 by_cases c0 : ((x.queue.length : Nat) : Int) ≤ n
 case neg =>
  rw [qar (by omega)] at r0
  rw [qar (by simp only [Worker.sz]; omega)]
  exact qpn ⟨r0, rfl, trivial⟩
 rw [qaI c0] at r0
 have r1 := qgu x.staged (n - ((x.queue.length : Nat) : Int)) (by omega) (by omega) hw.staged_ok.1
 by_cases c1 : ((x.staged.length : Nat) : Int) ≤ n - ((x.queue.length : Nat) : Int)
 case neg =>
  rw [qar (by omega)] at r1
  rw [qar (by simp only [Worker.sz]; omega)]
  exact qpo ⟨r0, by simp only [decide_eq_false_iff_not]; omega, r1, rfl, trivial⟩
 rw [qaI c1] at r1
 have r2 := qgu x.inputs (n - ((x.queue.length : Nat) : Int) - ((x.staged.length : Nat) : Int)) (by omega) (by omega) hw.inputs_ok.1
 by_cases c2 : ((x.inputs.length : Nat) : Int) ≤ n - ((x.queue.length : Nat) : Int) - ((x.staged.length : Nat) : Int)
 case neg =>
  rw [qar (by omega)] at r2
  rw [qar (by simp only [Worker.sz]; omega)]
  exact qpp ⟨r0, by simp only [decide_eq_false_iff_not]; omega, r1, by simp only [decide_eq_false_iff_not]; omega, r2, rfl, trivial⟩
 rw [qaI c2] at r2
 have r3 := qpI x.cells (n - ((x.queue.length : Nat) : Int) - ((x.staged.length : Nat) : Int) - ((x.inputs.length : Nat) : Int)) (by omega) (by omega) hw.cells_ok.1
 by_cases c3 : ((x.cells.length : Nat) : Int) ≤ n - ((x.queue.length : Nat) : Int) - ((x.staged.length : Nat) : Int) - ((x.inputs.length : Nat) : Int)
 case neg =>
  rw [qar (by omega)] at r3
  rw [qar (by simp only [Worker.sz]; omega)]
  exact qpq ⟨r0, by simp only [decide_eq_false_iff_not]; omega, r1, by simp only [decide_eq_false_iff_not]; omega, r2, by simp only [decide_eq_false_iff_not]; omega, r3, rfl, trivial⟩
 rw [qaI c3] at r3
 have r4 := qk7 x.sums (n - ((x.queue.length : Nat) : Int) - ((x.staged.length : Nat) : Int) - ((x.inputs.length : Nat) : Int) - ((x.cells.length : Nat) : Int)) (by omega) (by omega) hw.sums_ok.1
 by_cases c4 : ((x.sums.length : Nat) : Int) ≤ n - ((x.queue.length : Nat) : Int) - ((x.staged.length : Nat) : Int) - ((x.inputs.length : Nat) : Int) - ((x.cells.length : Nat) : Int)
 case neg =>
  rw [qar (by omega)] at r4
  rw [qar (by simp only [Worker.sz]; omega)]
  exact qpr ⟨r0, by simp only [decide_eq_false_iff_not]; omega, r1, by simp only [decide_eq_false_iff_not]; omega, r2, by simp only [decide_eq_false_iff_not]; omega, r3, by simp only [decide_eq_false_iff_not]; omega, r4, rfl, trivial⟩
 rw [qaI c4] at r4
 have r5 := qk8 x.black (n - ((x.queue.length : Nat) : Int) - ((x.staged.length : Nat) : Int) - ((x.inputs.length : Nat) : Int) - ((x.cells.length : Nat) : Int) - ((x.sums.length : Nat) : Int)) (by omega) (by omega) hw.black_ok
 by_cases c5 : ((x.black.length : Nat) : Int) ≤ n - ((x.queue.length : Nat) : Int) - ((x.staged.length : Nat) : Int) - ((x.inputs.length : Nat) : Int) - ((x.cells.length : Nat) : Int) - ((x.sums.length : Nat) : Int)
 case neg =>
  rw [qar (by omega)] at r5
  rw [qar (by simp only [Worker.sz]; omega)]
  exact qps ⟨r0, by simp only [decide_eq_false_iff_not]; omega, r1, by simp only [decide_eq_false_iff_not]; omega, r2, by simp only [decide_eq_false_iff_not]; omega, r3, by simp only [decide_eq_false_iff_not]; omega, r4, by simp only [decide_eq_false_iff_not]; omega, r5, rfl, trivial⟩
 rw [qaI c5] at r5
 have r6 := qk8 x.caps (n - ((x.queue.length : Nat) : Int) - ((x.staged.length : Nat) : Int) - ((x.inputs.length : Nat) : Int) - ((x.cells.length : Nat) : Int) - ((x.sums.length : Nat) : Int) - ((x.black.length : Nat) : Int)) (by omega) (by omega) hw.caps_ok
 by_cases c6 : ((x.caps.length : Nat) : Int) ≤ n - ((x.queue.length : Nat) : Int) - ((x.staged.length : Nat) : Int) - ((x.inputs.length : Nat) : Int) - ((x.cells.length : Nat) : Int) - ((x.sums.length : Nat) : Int) - ((x.black.length : Nat) : Int)
 case neg =>
  rw [qar (by omega)] at r6
  rw [qar (by simp only [Worker.sz]; omega)]
  exact qpt ⟨r0, by simp only [decide_eq_false_iff_not]; omega, r1, by simp only [decide_eq_false_iff_not]; omega, r2, by simp only [decide_eq_false_iff_not]; omega, r3, by simp only [decide_eq_false_iff_not]; omega, r4, by simp only [decide_eq_false_iff_not]; omega, r5, by simp only [decide_eq_false_iff_not]; omega, r6, rfl, trivial⟩
 rw [qaI c6] at r6
 have r7 := qpJ x.dones (n - ((x.queue.length : Nat) : Int) - ((x.staged.length : Nat) : Int) - ((x.inputs.length : Nat) : Int) - ((x.cells.length : Nat) : Int) - ((x.sums.length : Nat) : Int) - ((x.black.length : Nat) : Int) - ((x.caps.length : Nat) : Int)) (by omega) (by omega) hw.dones_ok.1
 by_cases c7 : ((x.dones.length : Nat) : Int) ≤ n - ((x.queue.length : Nat) : Int) - ((x.staged.length : Nat) : Int) - ((x.inputs.length : Nat) : Int) - ((x.cells.length : Nat) : Int) - ((x.sums.length : Nat) : Int) - ((x.black.length : Nat) : Int) - ((x.caps.length : Nat) : Int)
 case neg =>
  rw [qar (by omega)] at r7
  rw [qar (by simp only [Worker.sz]; omega)]
  exact qpu ⟨r0, by simp only [decide_eq_false_iff_not]; omega, r1, by simp only [decide_eq_false_iff_not]; omega, r2, by simp only [decide_eq_false_iff_not]; omega, r3, by simp only [decide_eq_false_iff_not]; omega, r4, by simp only [decide_eq_false_iff_not]; omega, r5, by simp only [decide_eq_false_iff_not]; omega, r6, by simp only [decide_eq_false_iff_not]; omega, r7, rfl, trivial⟩
 rw [qaI c7] at r7
 have e : qaB n x.sz = n - ((x.queue.length : Nat) : Int) - ((x.staged.length : Nat) : Int) - ((x.inputs.length : Nat) : Int) - ((x.cells.length : Nat) : Int) - ((x.sums.length : Nat) : Int) - ((x.black.length : Nat) : Int) - ((x.caps.length : Nat) : Int) - ((x.dones.length : Nat) : Int) := by
  rw [qaI (by simp only [Worker.sz]; omega)]
  simp only [Worker.sz] <;> omega
 rw [e]
 exact qpv ⟨r0, by simp only [decide_eq_false_iff_not]; omega, r1, by simp only [decide_eq_false_iff_not]; omega, r2, by simp only [decide_eq_false_iff_not]; omega, r3, by simp only [decide_eq_false_iff_not]; omega, r4, by simp only [decide_eq_false_iff_not]; omega, r5, by simp only [decide_eq_false_iff_not]; omega, r6, by simp only [decide_eq_false_iff_not]; omega, r7, by simp only [decide_eq_false_iff_not]; omega, trivial⟩
theorem qpP (xs : List Worker) (n : Int) (h0 : 0 ≤ n) (h1 : n ≤ 8388608) (hl : (xs.length : Int) ≤ 9223372036854775807) (hw : ∀ x ∈ xs, x.wf) : Rt 51 [.one (.sl 8 (xs.map Worker.e)), .one (I n)] [.one (I (qaB n (szS Worker.sz xs)))] := by
 have e : (xs.map Worker.e).length = xs.length := List.length_map ..
 by_cases c : (xs.length : Int) ≤ n
 case neg =>
  rw [qar (by unfold szS; omega)]
  exact qpw ⟨⟨by omega, by omega⟩, by simp only [decide_eq_true_eq]; omega, trivial⟩
 have step : ∀ i, i < xs.length → (sumTo Worker.sz xs i : Int) ≤ n - xs.length → (sumTo Worker.sz xs (i + 1) : Int) ≤ n - xs.length →
   Tr Tryz.prog (qaa Tryz.f51 0) (qcn (xs.map Worker.e) i (n - ↑(xs.map Worker.e).length - sumTo Worker.sz xs i)) .normal (qcn (xs.map Worker.e) (i + 1 : Nat) (n - ↑(xs.map Worker.e).length - sumTo Worker.sz xs (i + 1))) := by
  intro i hi h2 h3
  obtain ⟨a, ha⟩ := qae hi
  have hs := qdB (sz := Worker.sz) ha
  have r := qlb a (n - ↑(xs.map Worker.e).length - sumTo Worker.sz xs i) (by omega) (by omega) (hw a (qap ha))
  rw [qaI (by omega)] at r
  have e2 : n - ↑(xs.map Worker.e).length - (sumTo Worker.sz xs i : Int) - (a.sz : Int) = n - ↑(xs.map Worker.e).length - (sumTo Worker.sz xs (i + 1) : Int) := by omega
  rw [e2] at r
  exact qpy ⟨lt1 hi, lt0, lt2 hi, qac Worker.e ha, r, by simp only [decide_eq_false_iff_not]; omega, upM hi hl, trivial⟩
 rcases qif Worker.sz xs (n - xs.length) (by omega) with h | ⟨i, a, ha, h2, h3, h4⟩
 ·have hle := fun i => qeJ (sz := Worker.sz) (xs := xs) (i := i)
  have e1 : qaB n (szS Worker.sz xs) = n - ↑(xs.map Worker.e).length - sumTo Worker.sz xs xs.length := by
   rw [qaI (by unfold szS; omega), qgq]; unfold szS; omega
  rw [e1]
  have l := qaj (qaf 0) xs.length (fun i => qcn (xs.map Worker.e) i (n - ↑(xs.map Worker.e).length - sumTo Worker.sz xs i)) (fun i hi => step i hi (by have := hle i; omega) (by have := hle (i + 1); omega)) (qpz ⟨ge1, trivial⟩)
  simp only [qc4, Int.sub_zero, Int.natCast_zero] at l
  exact qpB ⟨⟨by omega, by omega⟩, by simp only [decide_eq_false_iff_not]; omega, l, trivial⟩
 ·have hi := lt_of ha
  have hle := fun i => qeJ (sz := Worker.sz) (xs := xs) (i := i)
  have hs := qdB (sz := Worker.sz) ha
  have hb := hle (i + 1)
  rw [qar (by unfold szS; omega)]
  have r := qlb a (n - ↑(xs.map Worker.e).length - sumTo Worker.sz xs i) (by omega) (by omega) (hw a (qap ha))
  rw [qar (by omega)] at r
  have l := qaj qao i (fun i => qcn (xs.map Worker.e) i (n - ↑(xs.map Worker.e).length - sumTo Worker.sz xs i)) (fun j hj => step j (by omega) (h4 j (by omega)) (h4 (j + 1) (by omega))) (qpx ⟨lt1 hi, lt0, lt2 hi, qac Worker.e ha, r, rfl, trivial⟩)
  simp only [qc4, Int.sub_zero, Int.natCast_zero] at l
  exact qpA ⟨⟨by omega, by omega⟩, by simp only [decide_eq_false_iff_not]; omega, l, trivial⟩
theorem qpQ (x : Cluster) (n : Int) (h0 : 0 ≤ n) (h1 : n ≤ 8388608) (hw : x.wf) : Rt 11 [.agg x.e, .one (I n)] [.one (I (qaB n x.sz))] := by
 have r0 := qpO x.graph (n) (by omega) (by omega) hw.graph_ok
 by_cases c0 : ((x.graph.sz : Nat) : Int) ≤ n
 case neg =>
  rw [qar (by omega)] at r0
  rw [qar (by simp only [Cluster.sz]; omega)]
  exact qpC ⟨r0, rfl, trivial⟩
 rw [qaI c0] at r0
 have r1 := qpP x.workers (n - ((x.graph.sz : Nat) : Int)) (by omega) (by omega) hw.workers_ok.1 hw.workers_ok.2
 by_cases c1 : ((szS Worker.sz x.workers : Nat) : Int) ≤ n - ((x.graph.sz : Nat) : Int)
 case neg =>
  rw [qar (by omega)] at r1
  rw [qar (by simp only [Cluster.sz]; omega)]
  exact qpD ⟨r0, by simp only [decide_eq_false_iff_not]; omega, r1, rfl, trivial⟩
 rw [qaI c1] at r1
 have r2 := qpN x.links (n - ((x.graph.sz : Nat) : Int) - ((szS Worker.sz x.workers : Nat) : Int)) (by omega) (by omega) hw.links_ok.1 hw.links_ok.2
 by_cases c2 : ((szS Link.sz x.links : Nat) : Int) ≤ n - ((x.graph.sz : Nat) : Int) - ((szS Worker.sz x.workers : Nat) : Int)
 case neg =>
  rw [qar (by omega)] at r2
  rw [qar (by simp only [Cluster.sz]; omega)]
  exact qpE ⟨r0, by simp only [decide_eq_false_iff_not]; omega, r1, by simp only [decide_eq_false_iff_not]; omega, r2, rfl, trivial⟩
 rw [qaI c2] at r2
 have r3 := qpK x.tokens (n - ((x.graph.sz : Nat) : Int) - ((szS Worker.sz x.workers : Nat) : Int) - ((szS Link.sz x.links : Nat) : Int)) (by omega) (by omega) hw.tokens_ok.1
 by_cases c3 : ((x.tokens.length : Nat) : Int) ≤ n - ((x.graph.sz : Nat) : Int) - ((szS Worker.sz x.workers : Nat) : Int) - ((szS Link.sz x.links : Nat) : Int)
 case neg =>
  rw [qar (by omega)] at r3
  rw [qar (by simp only [Cluster.sz]; omega)]
  exact qpF ⟨r0, by simp only [decide_eq_false_iff_not]; omega, r1, by simp only [decide_eq_false_iff_not]; omega, r2, by simp only [decide_eq_false_iff_not]; omega, r3, rfl, trivial⟩
 rw [qaI c3] at r3
 have r4 := qpL x.news (n - ((x.graph.sz : Nat) : Int) - ((szS Worker.sz x.workers : Nat) : Int) - ((szS Link.sz x.links : Nat) : Int) - ((x.tokens.length : Nat) : Int)) (by omega) (by omega) hw.news_ok.1
 by_cases c4 : ((x.news.length : Nat) : Int) ≤ n - ((x.graph.sz : Nat) : Int) - ((szS Worker.sz x.workers : Nat) : Int) - ((szS Link.sz x.links : Nat) : Int) - ((x.tokens.length : Nat) : Int)
 case neg =>
  rw [qar (by omega)] at r4
  rw [qar (by simp only [Cluster.sz]; omega)]
  exact qpG ⟨r0, by simp only [decide_eq_false_iff_not]; omega, r1, by simp only [decide_eq_false_iff_not]; omega, r2, by simp only [decide_eq_false_iff_not]; omega, r3, by simp only [decide_eq_false_iff_not]; omega, r4, rfl, trivial⟩
 rw [qaI c4] at r4
 have e : qaB n x.sz = n - ((x.graph.sz : Nat) : Int) - ((szS Worker.sz x.workers : Nat) : Int) - ((szS Link.sz x.links : Nat) : Int) - ((x.tokens.length : Nat) : Int) - ((x.news.length : Nat) : Int) := by
  rw [qaI (by simp only [Cluster.sz]; omega)]
  simp only [Cluster.sz] <;> omega
 rw [e]
 exact qpH ⟨r0, by simp only [decide_eq_false_iff_not]; omega, r1, by simp only [decide_eq_false_iff_not]; omega, r2, by simp only [decide_eq_false_iff_not]; omega, r3, by simp only [decide_eq_false_iff_not]; omega, r4, by simp only [decide_eq_false_iff_not]; omega, trivial⟩
end Go.Proofs.YtdanpadojemjeaaGreat
namespace Go.Proofs.YtdanpadojemjeaaGreat
open Go.Sx Go.RowKit
theorem qlc (xs : List Int) (hx0 : xs.length ≤ 8388608) : Rt 191 [.one (.sl 1 (xs.map eI))] [.one (.sl 1 (xs.map eI))] := by
 have hx : xs.length ≤ 8388608 := hx0
 have l := qaj (P := Tryz.prog) (c := qaa Tryz.f191 0) (stE := qiv (xs.map eI)) (qaf 0) xs.length (fun i => qdH (xs.map eI) i (qan eI [I 0] xs i)) (fun i hi => by
  obtain ⟨a, ha⟩ := qae hi
  have t : Tr Tryz.prog (qaa Tryz.f191 0) (qdH (xs.map eI) i (qan eI [I 0] xs i)) .normal (qdH (xs.map eI) (i + 1 : Nat) ((qan eI [I 0] xs i).set ((i : Nat) : Int).toNat (eI a))) :=
   qqD _ _ _ _ _ ⟨lt1 hi, lt0, lt2 hi, qac eI ha, lt0, qce hi, qch hi, up1 hi hx, trivial⟩
  rw [qci ha] at t
  exact t) (by
  have t := qqE (xs.map eI) xs.length (qan eI [I 0] xs xs.length) ⟨ge1, trivial⟩
  rw [qcg] at t ⊢
  exact t)
 rw [qcf] at l
 exact qqF ⟨by omega, by omega, by simp only [List.length_map]; omega, by simp only [List.length_map]; omega, l, trivial⟩
theorem qld (xs : List Bool) (hx0 : xs.length ≤ 8388608) : Rt 192 [.one (.sl 1 (xs.map eB))] [.one (.sl 1 (xs.map eB))] := by
 have hx : xs.length ≤ 8388608 := hx0
 have l := qaj (P := Tryz.prog) (c := qaa Tryz.f192 0) (stE := qiw (xs.map eB)) (qaf 0) xs.length (fun i => qdI (xs.map eB) i (qan eB [B false] xs i)) (fun i hi => by
  obtain ⟨a, ha⟩ := qae hi
  have t : Tr Tryz.prog (qaa Tryz.f192 0) (qdI (xs.map eB) i (qan eB [B false] xs i)) .normal (qdI (xs.map eB) (i + 1 : Nat) ((qan eB [B false] xs i).set ((i : Nat) : Int).toNat (eB a))) :=
   qqG _ _ _ _ _ ⟨lt1 hi, lt0, lt2 hi, qac eB ha, lt0, qce hi, qch hi, up1 hi hx, trivial⟩
  rw [qci ha] at t
  exact t) (by
  have t := qqH (xs.map eB) xs.length (qan eB [B false] xs xs.length) ⟨ge1, trivial⟩
  rw [qcg] at t ⊢
  exact t)
 rw [qcf] at l
 exact qqI ⟨by omega, by omega, by simp only [List.length_map]; omega, by simp only [List.length_map]; omega, l, trivial⟩
theorem qpR (x : Stamp) : Rt 172 [.agg x.e] [.agg x.e] := qqu trivial
theorem qpS (x : Record) : Rt 102 [.agg x.e] [.agg x.e] := qqv ⟨qpR x.stamp, trivial⟩
theorem qgv (xs : List Record) (hx0 : xs.length ≤ 8388608) : Rt 42 [.one (.sl 5 (xs.map Record.e))] [.one (.sl 5 (xs.map Record.e))] := by
 have hx : xs.length ≤ 8388608 := hx0
 have l := qaj (P := Tryz.prog) (c := qaa Tryz.f42 0) (stE := qit (xs.map Record.e)) (qaf 0) xs.length (fun i => qdF (xs.map Record.e) i (qan Record.e [I 0, I 0, I 0, I 0, I 0] xs i)) (fun i hi => by
  obtain ⟨a, ha⟩ := qae hi
  have t : Tr Tryz.prog (qaa Tryz.f42 0) (qdF (xs.map Record.e) i (qan Record.e [I 0, I 0, I 0, I 0, I 0] xs i)) .normal (qdF (xs.map Record.e) (i + 1 : Nat) ((qan Record.e [I 0, I 0, I 0, I 0, I 0] xs i).set ((i : Nat) : Int).toNat (Record.e a))) :=
   qqw _ _ _ _ _ _ _ _ _ _ _ _ _ _ _ _ _ _ ⟨lt1 hi, lt0, lt2 hi, qac Record.e ha, qpS a, lt0, qce hi, qch hi, up1 hi hx, trivial⟩
  rw [qci ha] at t
  exact t) (by
  have t := qqx (xs.map Record.e) xs.length (qan Record.e [I 0, I 0, I 0, I 0, I 0] xs xs.length) ⟨ge1, trivial⟩
  rw [qcg] at t ⊢
  exact t)
 rw [qcf] at l
 exact qqy ⟨by omega, by omega, by simp only [List.length_map]; omega, by simp only [List.length_map]; omega, l, trivial⟩
theorem qpT (x : Cell) : Rt 228 [.agg x.e] [.agg x.e] := qqz trivial
theorem qpU (xs : List Cell) (hx0 : xs.length ≤ 8388608) : Rt 190 [.one (.sl 4 (xs.map Cell.e))] [.one (.sl 4 (xs.map Cell.e))] := by
 have hx : xs.length ≤ 8388608 := hx0
 have l := qaj (P := Tryz.prog) (c := qaa Tryz.f190 0) (stE := qiu (xs.map Cell.e)) (qaf 0) xs.length (fun i => qdG (xs.map Cell.e) i (qan Cell.e [I 0, I 0, I 0, I 0] xs i)) (fun i hi => by
  obtain ⟨a, ha⟩ := qae hi
  have t : Tr Tryz.prog (qaa Tryz.f190 0) (qdG (xs.map Cell.e) i (qan Cell.e [I 0, I 0, I 0, I 0] xs i)) .normal (qdG (xs.map Cell.e) (i + 1 : Nat) ((qan Cell.e [I 0, I 0, I 0, I 0] xs i).set ((i : Nat) : Int).toNat (Cell.e a))) :=
   qqA _ _ _ _ _ _ _ _ _ _ _ _ _ _ _ ⟨lt1 hi, lt0, lt2 hi, qac Cell.e ha, qpT a, lt0, qce hi, qch hi, up1 hi hx, trivial⟩
  rw [qci ha] at t
  exact t) (by
  have t := qqB (xs.map Cell.e) xs.length (qan Cell.e [I 0, I 0, I 0, I 0] xs xs.length) ⟨ge1, trivial⟩
  rw [qcg] at t ⊢
  exact t)
 rw [qcf] at l
 exact qqC ⟨by omega, by omega, by simp only [List.length_map]; omega, by simp only [List.length_map]; omega, l, trivial⟩
theorem qpV (x : Done) : Rt 229 [.agg x.e] [.agg x.e] := qqJ trivial
theorem qpW (xs : List Done) (hx0 : xs.length ≤ 8388608) : Rt 193 [.one (.sl 2 (xs.map Done.e))] [.one (.sl 2 (xs.map Done.e))] := by
 have hx : xs.length ≤ 8388608 := hx0
 have l := qaj (P := Tryz.prog) (c := qaa Tryz.f193 0) (stE := qix (xs.map Done.e)) (qaf 0) xs.length (fun i => qdJ (xs.map Done.e) i (qan Done.e [I 0, B false] xs i)) (fun i hi => by
  obtain ⟨a, ha⟩ := qae hi
  have t : Tr Tryz.prog (qaa Tryz.f193 0) (qdJ (xs.map Done.e) i (qan Done.e [I 0, B false] xs i)) .normal (qdJ (xs.map Done.e) (i + 1 : Nat) ((qan Done.e [I 0, B false] xs i).set ((i : Nat) : Int).toNat (Done.e a))) :=
   qqK _ _ _ _ _ _ _ _ _ ⟨lt1 hi, lt0, lt2 hi, qac Done.e ha, qpV a, lt0, qce hi, qch hi, up1 hi hx, trivial⟩
  rw [qci ha] at t
  exact t) (by
  have t := qqL (xs.map Done.e) xs.length (qan Done.e [I 0, B false] xs xs.length) ⟨ge1, trivial⟩
  rw [qcg] at t ⊢
  exact t)
 rw [qcf] at l
 exact qqM ⟨by omega, by omega, by simp only [List.length_map]; omega, by simp only [List.length_map]; omega, l, trivial⟩
theorem qpX (x : Token) : Rt 117 [.agg x.e] [.agg x.e] := qqN trivial
theorem qpY (xs : List Token) (hx0 : xs.length ≤ 8388608) : Rt 59 [.one (.sl 5 (xs.map Token.e))] [.one (.sl 5 (xs.map Token.e))] := by
 have hx : xs.length ≤ 8388608 := hx0
 have l := qaj (P := Tryz.prog) (c := qaa Tryz.f59 0) (stE := qiy (xs.map Token.e)) (qaf 0) xs.length (fun i => qdK (xs.map Token.e) i (qan Token.e [B false, I 0, I 0, B false, B false] xs i)) (fun i hi => by
  obtain ⟨a, ha⟩ := qae hi
  have t : Tr Tryz.prog (qaa Tryz.f59 0) (qdK (xs.map Token.e) i (qan Token.e [B false, I 0, I 0, B false, B false] xs i)) .normal (qdK (xs.map Token.e) (i + 1 : Nat) ((qan Token.e [B false, I 0, I 0, B false, B false] xs i).set ((i : Nat) : Int).toNat (Token.e a))) :=
   qqO _ _ _ _ _ _ _ _ _ _ _ _ _ _ _ _ _ _ ⟨lt1 hi, lt0, lt2 hi, qac Token.e ha, qpX a, lt0, qce hi, qch hi, up1 hi hx, trivial⟩
  rw [qci ha] at t
  exact t) (by
  have t := qqP (xs.map Token.e) xs.length (qan Token.e [B false, I 0, I 0, B false, B false] xs xs.length) ⟨ge1, trivial⟩
  rw [qcg] at t ⊢
  exact t)
 rw [qcf] at l
 exact qqQ ⟨by omega, by omega, by simp only [List.length_map]; omega, by simp only [List.length_map]; omega, l, trivial⟩
theorem qpZ (x : News) : Rt 118 [.agg x.e] [.agg x.e] := qqR trivial
theorem qp0 (xs : List News) (hx0 : xs.length ≤ 8388608) : Rt 60 [.one (.sl 3 (xs.map News.e))] [.one (.sl 3 (xs.map News.e))] := by
 have hx : xs.length ≤ 8388608 := hx0
 have l := qaj (P := Tryz.prog) (c := qaa Tryz.f60 0) (stE := qiz (xs.map News.e)) (qaf 0) xs.length (fun i => qdL (xs.map News.e) i (qan News.e [I 0, I 0, B false] xs i)) (fun i hi => by
  obtain ⟨a, ha⟩ := qae hi
  have t : Tr Tryz.prog (qaa Tryz.f60 0) (qdL (xs.map News.e) i (qan News.e [I 0, I 0, B false] xs i)) .normal (qdL (xs.map News.e) (i + 1 : Nat) ((qan News.e [I 0, I 0, B false] xs i).set ((i : Nat) : Int).toNat (News.e a))) :=
   qqS _ _ _ _ _ _ _ _ _ _ _ _ ⟨lt1 hi, lt0, lt2 hi, qac News.e ha, qpZ a, lt0, qce hi, qch hi, up1 hi hx, trivial⟩
  rw [qci ha] at t
  exact t) (by
  have t := qqT (xs.map News.e) xs.length (qan News.e [I 0, I 0, B false] xs xs.length) ⟨ge1, trivial⟩
  rw [qcg] at t ⊢
  exact t)
 rw [qcf] at l
 exact qqU ⟨by omega, by omega, by simp only [List.length_map]; omega, by simp only [List.length_map]; omega, l, trivial⟩
theorem qp1 (x : Node) (hx : x.sz ≤ 8388608) : Rt 171 [.agg x.e] [.agg x.e] :=
 qqV ⟨qlc x.outs (by simp only [Node.sz] at hx; omega), trivial⟩
theorem qp2 (xs : List Node) (hx0 : szS Node.sz xs ≤ 8388608) : Rt 101 [.one (.sl 4 (xs.map Node.e))] [.one (.sl 4 (xs.map Node.e))] := by
 have hx : xs.length ≤ 8388608 := qeK hx0
 have l := qaj (P := Tryz.prog) (c := qaa Tryz.f101 0) (stE := qiA (xs.map Node.e)) (qaf 0) xs.length (fun i => qdM (xs.map Node.e) i (qan Node.e [I 0, I 0, I 0, D.v (Value.slice none 0 0)] xs i)) (fun i hi => by
  obtain ⟨a, ha⟩ := qae hi
  have t : Tr Tryz.prog (qaa Tryz.f101 0) (qdM (xs.map Node.e) i (qan Node.e [I 0, I 0, I 0, D.v (Value.slice none 0 0)] xs i)) .normal (qdM (xs.map Node.e) (i + 1 : Nat) ((qan Node.e [I 0, I 0, I 0, D.v (Value.slice none 0 0)] xs i).set ((i : Nat) : Int).toNat (Node.e a))) :=
   qqW _ _ _ _ _ _ _ _ _ _ _ _ _ _ _ ⟨lt1 hi, lt0, lt2 hi, qac Node.e ha, qp1 a (qbD hx0 (qap ha)), lt0, qce hi, qch hi, up1 hi hx, trivial⟩
  rw [qci ha] at t
  exact t) (by
  have t := qqX (xs.map Node.e) xs.length (qan Node.e [I 0, I 0, I 0, D.v (Value.slice none 0 0)] xs xs.length) ⟨ge1, trivial⟩
  rw [qcg] at t ⊢
  exact t)
 rw [qcf] at l
 exact qqY ⟨by omega, by omega, by simp only [List.length_map]; omega, by simp only [List.length_map]; omega, l, trivial⟩
theorem qp3 (x : Link) (hx : x.sz ≤ 8388608) : Rt 116 [.agg x.e] [.agg x.e] :=
 qqZ ⟨qgv x.queue (by simp only [Link.sz] at hx; omega), trivial⟩
theorem qp4 (xs : List Link) (hx0 : szS Link.sz xs ≤ 8388608) : Rt 58 [.one (.sl 6 (xs.map Link.e))] [.one (.sl 6 (xs.map Link.e))] := by
 have hx : xs.length ≤ 8388608 := qeK hx0
 have l := qaj (P := Tryz.prog) (c := qaa Tryz.f58 0) (stE := qiB (xs.map Link.e)) (qaf 0) xs.length (fun i => qdN (xs.map Link.e) i (qan Link.e [I 0, D.v (Value.slice none 0 0), I 0, I 0, I 0, I 0] xs i)) (fun i hi => by
  obtain ⟨a, ha⟩ := qae hi
  have t : Tr Tryz.prog (qaa Tryz.f58 0) (qdN (xs.map Link.e) i (qan Link.e [I 0, D.v (Value.slice none 0 0), I 0, I 0, I 0, I 0] xs i)) .normal (qdN (xs.map Link.e) (i + 1 : Nat) ((qan Link.e [I 0, D.v (Value.slice none 0 0), I 0, I 0, I 0, I 0] xs i).set ((i : Nat) : Int).toNat (Link.e a))) :=
   qq0 _ _ _ _ _ _ _ _ _ _ _ _ _ _ _ _ _ _ _ _ _ ⟨lt1 hi, lt0, lt2 hi, qac Link.e ha, qp3 a (qbD hx0 (qap ha)), lt0, qce hi, qch hi, up1 hi hx, trivial⟩
  rw [qci ha] at t
  exact t) (by
  have t := qq1 (xs.map Link.e) xs.length (qan Link.e [I 0, D.v (Value.slice none 0 0), I 0, I 0, I 0, I 0] xs xs.length) ⟨ge1, trivial⟩
  rw [qcg] at t ⊢
  exact t)
 rw [qcf] at l
 exact qq2 ⟨by omega, by omega, by simp only [List.length_map]; omega, by simp only [List.length_map]; omega, l, trivial⟩
theorem qp5 (x : Graph) (hx : x.sz ≤ 8388608) : Rt 41 [.agg x.e] [.agg x.e] :=
 qq3 ⟨qp2 x.nodes (by simp only [Graph.sz] at hx; omega), trivial⟩
theorem qp6 (x : Worker) (hx : x.sz ≤ 8388608) : Rt 115 [.agg x.e] [.agg x.e] :=
 qq4 ⟨qgv x.queue (by simp only [Worker.sz] at hx; omega), qgv x.staged (by simp only [Worker.sz] at hx; omega), qgv x.inputs (by simp only [Worker.sz] at hx; omega), qpU x.cells (by simp only [Worker.sz] at hx; omega), qlc x.sums (by simp only [Worker.sz] at hx; omega), qld x.black (by simp only [Worker.sz] at hx; omega), qld x.caps (by simp only [Worker.sz] at hx; omega), qpW x.dones (by simp only [Worker.sz] at hx; omega), trivial⟩
theorem qp7 (xs : List Worker) (hx0 : szS Worker.sz xs ≤ 8388608) : Rt 57 [.one (.sl 8 (xs.map Worker.e))] [.one (.sl 8 (xs.map Worker.e))] := by
 have hx : xs.length ≤ 8388608 := qeK hx0
 have l := qaj (P := Tryz.prog) (c := qaa Tryz.f57 0) (stE := qiC (xs.map Worker.e)) (qaf 0) xs.length (fun i => qdO (xs.map Worker.e) i (qan Worker.e [D.v (Value.slice none 0 0), D.v (Value.slice none 0 0), D.v (Value.slice none 0 0), D.v (Value.slice none 0 0), D.v (Value.slice none 0 0), D.v (Value.slice none 0 0), D.v (Value.slice none 0 0), D.v (Value.slice none 0 0)] xs i)) (fun i hi => by
  obtain ⟨a, ha⟩ := qae hi
  have t : Tr Tryz.prog (qaa Tryz.f57 0) (qdO (xs.map Worker.e) i (qan Worker.e [D.v (Value.slice none 0 0), D.v (Value.slice none 0 0), D.v (Value.slice none 0 0), D.v (Value.slice none 0 0), D.v (Value.slice none 0 0), D.v (Value.slice none 0 0), D.v (Value.slice none 0 0), D.v (Value.slice none 0 0)] xs i)) .normal (qdO (xs.map Worker.e) (i + 1 : Nat) ((qan Worker.e [D.v (Value.slice none 0 0), D.v (Value.slice none 0 0), D.v (Value.slice none 0 0), D.v (Value.slice none 0 0), D.v (Value.slice none 0 0), D.v (Value.slice none 0 0), D.v (Value.slice none 0 0), D.v (Value.slice none 0 0)] xs i).set ((i : Nat) : Int).toNat (Worker.e a))) :=
   qq5 _ _ _ _ _ _ _ _ _ _ _ _ _ _ _ _ _ _ _ _ _ _ _ _ _ _ _ ⟨lt1 hi, lt0, lt2 hi, qac Worker.e ha, qp6 a (qbD hx0 (qap ha)), lt0, qce hi, qch hi, up1 hi hx, trivial⟩
  rw [qci ha] at t
  exact t) (by
  have t := qq6 (xs.map Worker.e) xs.length (qan Worker.e [D.v (Value.slice none 0 0), D.v (Value.slice none 0 0), D.v (Value.slice none 0 0), D.v (Value.slice none 0 0), D.v (Value.slice none 0 0), D.v (Value.slice none 0 0), D.v (Value.slice none 0 0), D.v (Value.slice none 0 0)] xs xs.length) ⟨ge1, trivial⟩
  rw [qcg] at t ⊢
  exact t)
 rw [qcf] at l
 exact qq7 ⟨by omega, by omega, by simp only [List.length_map]; omega, by simp only [List.length_map]; omega, l, trivial⟩
theorem qp8 (x : Cluster) (hx : x.sz ≤ 8388608) : Rt 13 [.agg x.e] [.agg x.e] :=
 qq8 ⟨qp5 x.graph (by simp only [Cluster.sz] at hx; omega), qp7 x.workers (by simp only [Cluster.sz] at hx; omega), qp4 x.links (by simp only [Cluster.sz] at hx; omega), qpY x.tokens (by simp only [Cluster.sz] at hx; omega), qp0 x.news (by simp only [Cluster.sz] at hx; omega), trivial⟩
end Go.Proofs.YtdanpadojemjeaaGreat
namespace Go.Proofs.YtdanpadojemjeaaGreat
open Go.Sx Go.RowKit
theorem qp9 (xs ys : List Int) (hx0 : xs.length ≤ 8388608) : Rt 203 [.one (.sl 1 (xs.map eI)), .one (.sl 1 (ys.map eI))] [.one (B (decide (xs = ys)))] := by
 have hx : xs.length ≤ 8388608 := hx0
 by_cases hl : xs.length = ys.length
 case neg =>
  rw [decide_eq_false (fun e => hl (by rw [e]))]
  exact qry ⟨by simp only [List.length_map, bne_iff_ne, ne_eq]; omega, trivial⟩
 have step : ∀ i, i < xs.length → xs[i]? = ys[i]? → Tr Tryz.prog (qaa Tryz.f203 0) (qcq (xs.map eI) (ys.map eI) i) .normal (qcq (xs.map eI) (ys.map eI) (i + 1 : Nat)) := by
  intro i hi h
  obtain ⟨a, ha⟩ := qae hi
  have hb : ys[i]? = some a := h ▸ ha
  obtain ⟨b, he⟩ : ∃ b, b = a := ⟨a, rfl⟩
  rw [← he] at hb
  exact qrA ⟨lt1 hi, lt0, lt2 hi, qac eI ha, lt0, lt2 (by omega), qac eI hb, by simp [he], up1 hi hx, trivial⟩
 have hz : ((↑(xs.map eI).length : Int) != (↑(ys.map eI).length : Int)) = false := by simp [hl]
 rcases qb4 xs ys hl with he | ⟨i, a, b, ha, hb, hab, hlt⟩
 ·rw [decide_eq_true he]
  have l := qaj (qaf 0) xs.length (fun i => qcq (xs.map eI) (ys.map eI) i) (fun i hi => step i hi (by rw [he])) (qrB ⟨ge1, trivial⟩)
  exact qrD ⟨hz, l, trivial⟩
 ·rw [decide_eq_false (fun e => by rw [e, hb] at ha; exact hab (Option.some.inj ha).symm)]
  have hi := lt_of ha
  have l := qaj qao i (fun i => qcq (xs.map eI) (ys.map eI) i) (fun j hj => step j (by omega) (hlt j hj)) (qrz ⟨lt1 hi, lt0, lt2 hi, qac eI ha, lt0, lt2 (by omega), qac eI hb, by simp [hab], trivial⟩)
  exact qrC _ _ false ⟨hz, l, trivial⟩
theorem qdD (xs ys : List Int) (r : Bool) (h : decide (xs = ys) = r) (hx0 : xs.length ≤ 8388608) : Rt 203 [.one (.sl 1 (xs.map eI)), .one (.sl 1 (ys.map eI))] [.one (B r)] := h ▸ qp9 xs ys hx0
theorem qqa (xs ys : List Bool) (hx0 : xs.length ≤ 8388608) : Rt 29 [.one (.sl 1 (xs.map eB)), .one (.sl 1 (ys.map eB))] [.one (B (decide (xs = ys)))] := by
 have hx : xs.length ≤ 8388608 := hx0
 by_cases hl : xs.length = ys.length
 case neg =>
  rw [decide_eq_false (fun e => hl (by rw [e]))]
  exact qrE ⟨by simp only [List.length_map, bne_iff_ne, ne_eq]; omega, trivial⟩
 have step : ∀ i, i < xs.length → xs[i]? = ys[i]? → Tr Tryz.prog (qaa Tryz.f29 0) (qcr (xs.map eB) (ys.map eB) i) .normal (qcr (xs.map eB) (ys.map eB) (i + 1 : Nat)) := by
  intro i hi h
  obtain ⟨a, ha⟩ := qae hi
  have hb : ys[i]? = some a := h ▸ ha
  obtain ⟨b, he⟩ : ∃ b, b = a := ⟨a, rfl⟩
  rw [← he] at hb
  exact qrG ⟨lt1 hi, lt0, lt2 hi, qac eB ha, lt0, lt2 (by omega), qac eB hb, by simp [he], up1 hi hx, trivial⟩
 have hz : ((↑(xs.map eB).length : Int) != (↑(ys.map eB).length : Int)) = false := by simp [hl]
 rcases qb4 xs ys hl with he | ⟨i, a, b, ha, hb, hab, hlt⟩
 ·rw [decide_eq_true he]
  have l := qaj (qaf 0) xs.length (fun i => qcr (xs.map eB) (ys.map eB) i) (fun i hi => step i hi (by rw [he])) (qrH ⟨ge1, trivial⟩)
  exact qrJ ⟨hz, l, trivial⟩
 ·rw [decide_eq_false (fun e => by rw [e, hb] at ha; exact hab (Option.some.inj ha).symm)]
  have hi := lt_of ha
  have l := qaj qao i (fun i => qcr (xs.map eB) (ys.map eB) i) (fun j hj => step j (by omega) (hlt j hj)) (qrF ⟨lt1 hi, lt0, lt2 hi, qac eB ha, lt0, lt2 (by omega), qac eB hb, by revert hab; cases a <;> cases b <;> simp, trivial⟩)
  exact qrI _ _ false ⟨hz, l, trivial⟩
theorem qdE (xs ys : List Bool) (r : Bool) (h : decide (xs = ys) = r) (hx0 : xs.length ≤ 8388608) : Rt 29 [.one (.sl 1 (xs.map eB)), .one (.sl 1 (ys.map eB))] [.one (B r)] := h ▸ qqa xs ys hx0
theorem qqb (x y : Stamp) : Rt 180 [.agg x.e, .agg y.e] [.one (B (decide (x = y)))] := by
 obtain ⟨a0, a1⟩ := x
 obtain ⟨b0, b1⟩ := y
 by_cases h0 : a0 = b0
 case neg =>
  rw [decide_eq_false (by simp [h0])]
  exact qq9 ⟨by simp [h0], trivial⟩
 by_cases h1 : a1 = b1
 case neg =>
  rw [decide_eq_false (by simp [h1])]
  exact qra ⟨by simp [h0], by simp [h1], trivial⟩
 rw [decide_eq_true (by simp [h0, h1])]
 exact qrb ⟨by simp [h0], by simp [h1], trivial⟩
theorem qgw (x y : Stamp) (r : Bool) (h : decide (x = y) = r) : Rt 180 [.agg x.e, .agg y.e] [.one (B r)] := h ▸ qqb x y
theorem qqc (x y : Record) : Rt 108 [.agg x.e, .agg y.e] [.one (B (decide (x = y)))] := by
 obtain ⟨a0, a1, a2, a3⟩ := x
 obtain ⟨b0, b1, b2, b3⟩ := y
 by_cases h0 : a0 = b0
 case neg =>
  rw [decide_eq_false (by simp [h0])]
  exact qrc ⟨by simp [h0], trivial⟩
 by_cases h1 : a1 = b1
 case neg =>
  rw [decide_eq_false (by simp [h1])]
  exact qrd ⟨by simp [h0], qgw a1 b1 false (by simp [h1]), rfl, trivial⟩
 by_cases h2 : a2 = b2
 case neg =>
  rw [decide_eq_false (by simp [h2])]
  exact qre ⟨by simp [h0], qgw a1 b1 true (by simp [h1]), rfl, by simp [h2], trivial⟩
 by_cases h3 : a3 = b3
 case neg =>
  rw [decide_eq_false (by simp [h3])]
  exact qrf ⟨by simp [h0], qgw a1 b1 true (by simp [h1]), rfl, by simp [h2], by simp [h3], trivial⟩
 rw [decide_eq_true (by simp [h0, h1, h2, h3])]
 exact qrg ⟨by simp [h0], qgw a1 b1 true (by simp [h1]), rfl, by simp [h2], by simp [h3], trivial⟩
theorem qle (x y : Record) (r : Bool) (h : decide (x = y) = r) : Rt 108 [.agg x.e, .agg y.e] [.one (B r)] := h ▸ qqc x y
theorem qqd (xs ys : List Record) (hx0 : xs.length ≤ 8388608) : Rt 46 [.one (.sl 5 (xs.map Record.e)), .one (.sl 5 (ys.map Record.e))] [.one (B (decide (xs = ys)))] := by
 have hx : xs.length ≤ 8388608 := hx0
 by_cases hl : xs.length = ys.length
 case neg =>
  rw [decide_eq_false (fun e => hl (by rw [e]))]
  exact qrh ⟨by simp only [List.length_map, bne_iff_ne, ne_eq]; omega, trivial⟩
 have step : ∀ i, i < xs.length → xs[i]? = ys[i]? → Tr Tryz.prog (qaa Tryz.f46 0) (qco (xs.map Record.e) (ys.map Record.e) i) .normal (qco (xs.map Record.e) (ys.map Record.e) (i + 1 : Nat)) := by
  intro i hi h
  obtain ⟨a, ha⟩ := qae hi
  have hb : ys[i]? = some a := h ▸ ha
  obtain ⟨b, he⟩ : ∃ b, b = a := ⟨a, rfl⟩
  rw [← he] at hb
  exact qrj ⟨lt1 hi, lt0, lt2 hi, qac Record.e ha, lt0, lt2 (by omega), qac Record.e hb, qle a b true (by simp [he]), rfl, up1 hi hx, trivial⟩
 have hz : ((↑(xs.map Record.e).length : Int) != (↑(ys.map Record.e).length : Int)) = false := by simp [hl]
 rcases qb4 xs ys hl with he | ⟨i, a, b, ha, hb, hab, hlt⟩
 ·rw [decide_eq_true he]
  have l := qaj (qaf 0) xs.length (fun i => qco (xs.map Record.e) (ys.map Record.e) i) (fun i hi => step i hi (by rw [he])) (qrk ⟨ge1, trivial⟩)
  exact qrm ⟨hz, l, trivial⟩
 ·rw [decide_eq_false (fun e => by rw [e, hb] at ha; exact hab (Option.some.inj ha).symm)]
  have hi := lt_of ha
  have l := qaj qao i (fun i => qco (xs.map Record.e) (ys.map Record.e) i) (fun j hj => step j (by omega) (hlt j hj)) (qri ⟨lt1 hi, lt0, lt2 hi, qac Record.e ha, lt0, lt2 (by omega), qac Record.e hb, qle a b false (by simp [hab]), rfl, trivial⟩)
  exact qrl _ _ false ⟨hz, l, trivial⟩
theorem qaF (xs ys : List Record) (r : Bool) (h : decide (xs = ys) = r) (hx0 : xs.length ≤ 8388608) : Rt 46 [.one (.sl 5 (xs.map Record.e)), .one (.sl 5 (ys.map Record.e))] [.one (B r)] := h ▸ qqd xs ys hx0
theorem qqe (x y : Cell) : Rt 106 [.agg x.e, .agg y.e] [.one (B (decide (x = y)))] := by
 obtain ⟨a0, a1, a2, a3⟩ := x
 obtain ⟨b0, b1, b2, b3⟩ := y
 by_cases h0 : a0 = b0
 case neg =>
  rw [decide_eq_false (by simp [h0])]
  exact qrn ⟨by simp [h0], trivial⟩
 by_cases h1 : a1 = b1
 case neg =>
  rw [decide_eq_false (by simp [h1])]
  exact qro ⟨by simp [h0], by simp [h1], trivial⟩
 by_cases h2 : a2 = b2
 case neg =>
  rw [decide_eq_false (by simp [h2])]
  exact qrp ⟨by simp [h0], by simp [h1], by simp [h2], trivial⟩
 by_cases h3 : a3 = b3
 case neg =>
  rw [decide_eq_false (by simp [h3])]
  exact qrq ⟨by simp [h0], by simp [h1], by simp [h2], by simp [h3], trivial⟩
 rw [decide_eq_true (by simp [h0, h1, h2, h3])]
 exact qrr ⟨by simp [h0], by simp [h1], by simp [h2], by simp [h3], trivial⟩
theorem qlf (x y : Cell) (r : Bool) (h : decide (x = y) = r) : Rt 106 [.agg x.e, .agg y.e] [.one (B r)] := h ▸ qqe x y
theorem qqf (xs ys : List Cell) (hx0 : xs.length ≤ 8388608) : Rt 44 [.one (.sl 4 (xs.map Cell.e)), .one (.sl 4 (ys.map Cell.e))] [.one (B (decide (xs = ys)))] := by
 have hx : xs.length ≤ 8388608 := hx0
 by_cases hl : xs.length = ys.length
 case neg =>
  rw [decide_eq_false (fun e => hl (by rw [e]))]
  exact qrs ⟨by simp only [List.length_map, bne_iff_ne, ne_eq]; omega, trivial⟩
 have step : ∀ i, i < xs.length → xs[i]? = ys[i]? → Tr Tryz.prog (qaa Tryz.f44 0) (qcp (xs.map Cell.e) (ys.map Cell.e) i) .normal (qcp (xs.map Cell.e) (ys.map Cell.e) (i + 1 : Nat)) := by
  intro i hi h
  obtain ⟨a, ha⟩ := qae hi
  have hb : ys[i]? = some a := h ▸ ha
  obtain ⟨b, he⟩ : ∃ b, b = a := ⟨a, rfl⟩
  rw [← he] at hb
  exact qru ⟨lt1 hi, lt0, lt2 hi, qac Cell.e ha, lt0, lt2 (by omega), qac Cell.e hb, qlf a b true (by simp [he]), rfl, up1 hi hx, trivial⟩
 have hz : ((↑(xs.map Cell.e).length : Int) != (↑(ys.map Cell.e).length : Int)) = false := by simp [hl]
 rcases qb4 xs ys hl with he | ⟨i, a, b, ha, hb, hab, hlt⟩
 ·rw [decide_eq_true he]
  have l := qaj (qaf 0) xs.length (fun i => qcp (xs.map Cell.e) (ys.map Cell.e) i) (fun i hi => step i hi (by rw [he])) (qrv ⟨ge1, trivial⟩)
  exact qrx ⟨hz, l, trivial⟩
 ·rw [decide_eq_false (fun e => by rw [e, hb] at ha; exact hab (Option.some.inj ha).symm)]
  have hi := lt_of ha
  have l := qaj qao i (fun i => qcp (xs.map Cell.e) (ys.map Cell.e) i) (fun j hj => step j (by omega) (hlt j hj)) (qrt ⟨lt1 hi, lt0, lt2 hi, qac Cell.e ha, lt0, lt2 (by omega), qac Cell.e hb, qlf a b false (by simp [hab]), rfl, trivial⟩)
  exact qrw _ _ false ⟨hz, l, trivial⟩
theorem qeN (xs ys : List Cell) (r : Bool) (h : decide (xs = ys) = r) (hx0 : xs.length ≤ 8388608) : Rt 44 [.one (.sl 4 (xs.map Cell.e)), .one (.sl 4 (ys.map Cell.e))] [.one (B r)] := h ▸ qqf xs ys hx0
theorem qqg (x y : Done) : Rt 232 [.agg x.e, .agg y.e] [.one (B (decide (x = y)))] := by
 obtain ⟨a0, a1⟩ := x
 obtain ⟨b0, b1⟩ := y
 by_cases h0 : a0 = b0
 case neg =>
  rw [decide_eq_false (by simp [h0])]
  exact qrK ⟨by simp [h0], trivial⟩
 by_cases h1 : a1 = b1
 case neg =>
  rw [decide_eq_false (by simp [h1])]
  exact qrL ⟨by simp [h0], by revert h1; cases a1 <;> cases b1 <;> simp, trivial⟩
 rw [decide_eq_true (by simp [h0, h1])]
 exact qrM ⟨by simp [h0], by revert h1; cases a1 <;> cases b1 <;> simp, trivial⟩
theorem qlg (x y : Done) (r : Bool) (h : decide (x = y) = r) : Rt 232 [.agg x.e, .agg y.e] [.one (B r)] := h ▸ qqg x y
theorem qqh (xs ys : List Done) (hx0 : xs.length ≤ 8388608) : Rt 204 [.one (.sl 2 (xs.map Done.e)), .one (.sl 2 (ys.map Done.e))] [.one (B (decide (xs = ys)))] := by
 have hx : xs.length ≤ 8388608 := hx0
 by_cases hl : xs.length = ys.length
 case neg =>
  rw [decide_eq_false (fun e => hl (by rw [e]))]
  exact qrN ⟨by simp only [List.length_map, bne_iff_ne, ne_eq]; omega, trivial⟩
 have step : ∀ i, i < xs.length → xs[i]? = ys[i]? → Tr Tryz.prog (qaa Tryz.f204 0) (qcs (xs.map Done.e) (ys.map Done.e) i) .normal (qcs (xs.map Done.e) (ys.map Done.e) (i + 1 : Nat)) := by
  intro i hi h
  obtain ⟨a, ha⟩ := qae hi
  have hb : ys[i]? = some a := h ▸ ha
  obtain ⟨b, he⟩ : ∃ b, b = a := ⟨a, rfl⟩
  rw [← he] at hb
  exact qrP ⟨lt1 hi, lt0, lt2 hi, qac Done.e ha, lt0, lt2 (by omega), qac Done.e hb, qlg a b true (by simp [he]), rfl, up1 hi hx, trivial⟩
 have hz : ((↑(xs.map Done.e).length : Int) != (↑(ys.map Done.e).length : Int)) = false := by simp [hl]
 rcases qb4 xs ys hl with he | ⟨i, a, b, ha, hb, hab, hlt⟩
 ·rw [decide_eq_true he]
  have l := qaj (qaf 0) xs.length (fun i => qcs (xs.map Done.e) (ys.map Done.e) i) (fun i hi => step i hi (by rw [he])) (qrQ ⟨ge1, trivial⟩)
  exact qrS ⟨hz, l, trivial⟩
 ·rw [decide_eq_false (fun e => by rw [e, hb] at ha; exact hab (Option.some.inj ha).symm)]
  have hi := lt_of ha
  have l := qaj qao i (fun i => qcs (xs.map Done.e) (ys.map Done.e) i) (fun j hj => step j (by omega) (hlt j hj)) (qrO ⟨lt1 hi, lt0, lt2 hi, qac Done.e ha, lt0, lt2 (by omega), qac Done.e hb, qlg a b false (by simp [hab]), rfl, trivial⟩)
  exact qrR _ _ false ⟨hz, l, trivial⟩
theorem qlh (xs ys : List Done) (r : Bool) (h : decide (xs = ys) = r) (hx0 : xs.length ≤ 8388608) : Rt 204 [.one (.sl 2 (xs.map Done.e)), .one (.sl 2 (ys.map Done.e))] [.one (B r)] := h ▸ qqh xs ys hx0
theorem qqi (x y : Token) : Rt 129 [.agg x.e, .agg y.e] [.one (B (decide (x = y)))] := by
 obtain ⟨a0, a1, a2, a3, a4⟩ := x
 obtain ⟨b0, b1, b2, b3, b4⟩ := y
 by_cases h0 : a0 = b0
 case neg =>
  rw [decide_eq_false (by simp [h0])]
  exact qrT ⟨by revert h0; cases a0 <;> cases b0 <;> simp, trivial⟩
 by_cases h1 : a1 = b1
 case neg =>
  rw [decide_eq_false (by simp [h1])]
  exact qrU ⟨by revert h0; cases a0 <;> cases b0 <;> simp, by simp [h1], trivial⟩
 by_cases h2 : a2 = b2
 case neg =>
  rw [decide_eq_false (by simp [h2])]
  exact qrV ⟨by revert h0; cases a0 <;> cases b0 <;> simp, by simp [h1], by simp [h2], trivial⟩
 by_cases h3 : a3 = b3
 case neg =>
  rw [decide_eq_false (by simp [h3])]
  exact qrW ⟨by revert h0; cases a0 <;> cases b0 <;> simp, by simp [h1], by simp [h2], by revert h3; cases a3 <;> cases b3 <;> simp, trivial⟩
 by_cases h4 : a4 = b4
 case neg =>
  rw [decide_eq_false (by simp [h4])]
  exact qrX ⟨by revert h0; cases a0 <;> cases b0 <;> simp, by simp [h1], by simp [h2], by revert h3; cases a3 <;> cases b3 <;> simp, by revert h4; cases a4 <;> cases b4 <;> simp, trivial⟩
 rw [decide_eq_true (by simp [h0, h1, h2, h3, h4])]
 exact qrY ⟨by revert h0; cases a0 <;> cases b0 <;> simp, by simp [h1], by simp [h2], by revert h3; cases a3 <;> cases b3 <;> simp, by revert h4; cases a4 <;> cases b4 <;> simp, trivial⟩
theorem qli (x y : Token) (r : Bool) (h : decide (x = y) = r) : Rt 129 [.agg x.e, .agg y.e] [.one (B r)] := h ▸ qqi x y
theorem qqj (xs ys : List Token) (hx0 : xs.length ≤ 8388608) : Rt 69 [.one (.sl 5 (xs.map Token.e)), .one (.sl 5 (ys.map Token.e))] [.one (B (decide (xs = ys)))] := by
 have hx : xs.length ≤ 8388608 := hx0
 by_cases hl : xs.length = ys.length
 case neg =>
  rw [decide_eq_false (fun e => hl (by rw [e]))]
  exact qrZ ⟨by simp only [List.length_map, bne_iff_ne, ne_eq]; omega, trivial⟩
 have step : ∀ i, i < xs.length → xs[i]? = ys[i]? → Tr Tryz.prog (qaa Tryz.f69 0) (qct (xs.map Token.e) (ys.map Token.e) i) .normal (qct (xs.map Token.e) (ys.map Token.e) (i + 1 : Nat)) := by
  intro i hi h
  obtain ⟨a, ha⟩ := qae hi
  have hb : ys[i]? = some a := h ▸ ha
  obtain ⟨b, he⟩ : ∃ b, b = a := ⟨a, rfl⟩
  rw [← he] at hb
  exact qr1 ⟨lt1 hi, lt0, lt2 hi, qac Token.e ha, lt0, lt2 (by omega), qac Token.e hb, qli a b true (by simp [he]), rfl, up1 hi hx, trivial⟩
 have hz : ((↑(xs.map Token.e).length : Int) != (↑(ys.map Token.e).length : Int)) = false := by simp [hl]
 rcases qb4 xs ys hl with he | ⟨i, a, b, ha, hb, hab, hlt⟩
 ·rw [decide_eq_true he]
  have l := qaj (qaf 0) xs.length (fun i => qct (xs.map Token.e) (ys.map Token.e) i) (fun i hi => step i hi (by rw [he])) (qr2 ⟨ge1, trivial⟩)
  exact qr4 ⟨hz, l, trivial⟩
 ·rw [decide_eq_false (fun e => by rw [e, hb] at ha; exact hab (Option.some.inj ha).symm)]
  have hi := lt_of ha
  have l := qaj qao i (fun i => qct (xs.map Token.e) (ys.map Token.e) i) (fun j hj => step j (by omega) (hlt j hj)) (qr0 ⟨lt1 hi, lt0, lt2 hi, qac Token.e ha, lt0, lt2 (by omega), qac Token.e hb, qli a b false (by simp [hab]), rfl, trivial⟩)
  exact qr3 _ _ false ⟨hz, l, trivial⟩
theorem qis (xs ys : List Token) (r : Bool) (h : decide (xs = ys) = r) (hx0 : xs.length ≤ 8388608) : Rt 69 [.one (.sl 5 (xs.map Token.e)), .one (.sl 5 (ys.map Token.e))] [.one (B r)] := h ▸ qqj xs ys hx0
theorem qqk (x y : News) : Rt 130 [.agg x.e, .agg y.e] [.one (B (decide (x = y)))] := by
 obtain ⟨a0, a1, a2⟩ := x
 obtain ⟨b0, b1, b2⟩ := y
 by_cases h0 : a0 = b0
 case neg =>
  rw [decide_eq_false (by simp [h0])]
  exact qr5 ⟨by simp [h0], trivial⟩
 by_cases h1 : a1 = b1
 case neg =>
  rw [decide_eq_false (by simp [h1])]
  exact qr6 ⟨by simp [h0], by simp [h1], trivial⟩
 by_cases h2 : a2 = b2
 case neg =>
  rw [decide_eq_false (by simp [h2])]
  exact qr7 ⟨by simp [h0], by simp [h1], by revert h2; cases a2 <;> cases b2 <;> simp, trivial⟩
 rw [decide_eq_true (by simp [h0, h1, h2])]
 exact qr8 ⟨by simp [h0], by simp [h1], by revert h2; cases a2 <;> cases b2 <;> simp, trivial⟩
theorem qlj (x y : News) (r : Bool) (h : decide (x = y) = r) : Rt 130 [.agg x.e, .agg y.e] [.one (B r)] := h ▸ qqk x y
theorem qql (xs ys : List News) (hx0 : xs.length ≤ 8388608) : Rt 70 [.one (.sl 3 (xs.map News.e)), .one (.sl 3 (ys.map News.e))] [.one (B (decide (xs = ys)))] := by
 have hx : xs.length ≤ 8388608 := hx0
 by_cases hl : xs.length = ys.length
 case neg =>
  rw [decide_eq_false (fun e => hl (by rw [e]))]
  exact qr9 ⟨by simp only [List.length_map, bne_iff_ne, ne_eq]; omega, trivial⟩
 have step : ∀ i, i < xs.length → xs[i]? = ys[i]? → Tr Tryz.prog (qaa Tryz.f70 0) (qcu (xs.map News.e) (ys.map News.e) i) .normal (qcu (xs.map News.e) (ys.map News.e) (i + 1 : Nat)) := by
  intro i hi h
  obtain ⟨a, ha⟩ := qae hi
  have hb : ys[i]? = some a := h ▸ ha
  obtain ⟨b, he⟩ : ∃ b, b = a := ⟨a, rfl⟩
  rw [← he] at hb
  exact qsb ⟨lt1 hi, lt0, lt2 hi, qac News.e ha, lt0, lt2 (by omega), qac News.e hb, qlj a b true (by simp [he]), rfl, up1 hi hx, trivial⟩
 have hz : ((↑(xs.map News.e).length : Int) != (↑(ys.map News.e).length : Int)) = false := by simp [hl]
 rcases qb4 xs ys hl with he | ⟨i, a, b, ha, hb, hab, hlt⟩
 ·rw [decide_eq_true he]
  have l := qaj (qaf 0) xs.length (fun i => qcu (xs.map News.e) (ys.map News.e) i) (fun i hi => step i hi (by rw [he])) (qsc ⟨ge1, trivial⟩)
  exact qse ⟨hz, l, trivial⟩
 ·rw [decide_eq_false (fun e => by rw [e, hb] at ha; exact hab (Option.some.inj ha).symm)]
  have hi := lt_of ha
  have l := qaj qao i (fun i => qcu (xs.map News.e) (ys.map News.e) i) (fun j hj => step j (by omega) (hlt j hj)) (qsa ⟨lt1 hi, lt0, lt2 hi, qac News.e ha, lt0, lt2 (by omega), qac News.e hb, qlj a b false (by simp [hab]), rfl, trivial⟩)
  exact qsd _ _ false ⟨hz, l, trivial⟩
theorem qlk (xs ys : List News) (r : Bool) (h : decide (xs = ys) = r) (hx0 : xs.length ≤ 8388608) : Rt 70 [.one (.sl 3 (xs.map News.e)), .one (.sl 3 (ys.map News.e))] [.one (B r)] := h ▸ qql xs ys hx0
theorem qqm (x y : Node) (hx : x.sz ≤ 8388608) : Rt 179 [.agg x.e, .agg y.e] [.one (B (decide (x = y)))] := by
 obtain ⟨a0, a1, a2, a3⟩ := x
 obtain ⟨b0, b1, b2, b3⟩ := y
 simp only [Node.sz] at hx
 by_cases h0 : a0 = b0
 case neg =>
  rw [decide_eq_false (by simp [h0])]
  exact qsf ⟨by simp [h0], trivial⟩
 by_cases h1 : a1 = b1
 case neg =>
  rw [decide_eq_false (by simp [h1])]
  exact qsg ⟨by simp [h0], by simp [h1], trivial⟩
 by_cases h2 : a2 = b2
 case neg =>
  rw [decide_eq_false (by simp [h2])]
  exact qsh ⟨by simp [h0], by simp [h1], by simp [h2], trivial⟩
 by_cases h3 : a3 = b3
 case neg =>
  rw [decide_eq_false (by simp [h3])]
  exact qsi ⟨by simp [h0], by simp [h1], by simp [h2], qdD a3 b3 false (by simp [h3]) (by omega), rfl, trivial⟩
 rw [decide_eq_true (by simp [h0, h1, h2, h3])]
 exact qsj ⟨by simp [h0], by simp [h1], by simp [h2], qdD a3 b3 true (by simp [h3]) (by omega), rfl, trivial⟩
theorem qll (x y : Node) (r : Bool) (h : decide (x = y) = r) (hx : x.sz ≤ 8388608) : Rt 179 [.agg x.e, .agg y.e] [.one (B r)] := h ▸ qqm x y hx
theorem qqn (xs ys : List Node) (hx0 : szS Node.sz xs ≤ 8388608) : Rt 107 [.one (.sl 4 (xs.map Node.e)), .one (.sl 4 (ys.map Node.e))] [.one (B (decide (xs = ys)))] := by
 have hx : xs.length ≤ 8388608 := qeK hx0
 by_cases hl : xs.length = ys.length
 case neg =>
  rw [decide_eq_false (fun e => hl (by rw [e]))]
  exact qsk ⟨by simp only [List.length_map, bne_iff_ne, ne_eq]; omega, trivial⟩
 have step : ∀ i, i < xs.length → xs[i]? = ys[i]? → Tr Tryz.prog (qaa Tryz.f107 0) (qcv (xs.map Node.e) (ys.map Node.e) i) .normal (qcv (xs.map Node.e) (ys.map Node.e) (i + 1 : Nat)) := by
  intro i hi h
  obtain ⟨a, ha⟩ := qae hi
  have hb : ys[i]? = some a := h ▸ ha
  obtain ⟨b, he⟩ : ∃ b, b = a := ⟨a, rfl⟩
  rw [← he] at hb
  exact qsm ⟨lt1 hi, lt0, lt2 hi, qac Node.e ha, lt0, lt2 (by omega), qac Node.e hb, qll a b true (by simp [he]) (qbD hx0 (qap ha)), rfl, up1 hi hx, trivial⟩
 have hz : ((↑(xs.map Node.e).length : Int) != (↑(ys.map Node.e).length : Int)) = false := by simp [hl]
 rcases qb4 xs ys hl with he | ⟨i, a, b, ha, hb, hab, hlt⟩
 ·rw [decide_eq_true he]
  have l := qaj (qaf 0) xs.length (fun i => qcv (xs.map Node.e) (ys.map Node.e) i) (fun i hi => step i hi (by rw [he])) (qsn ⟨ge1, trivial⟩)
  exact qsp ⟨hz, l, trivial⟩
 ·rw [decide_eq_false (fun e => by rw [e, hb] at ha; exact hab (Option.some.inj ha).symm)]
  have hi := lt_of ha
  have l := qaj qao i (fun i => qcv (xs.map Node.e) (ys.map Node.e) i) (fun j hj => step j (by omega) (hlt j hj)) (qsl ⟨lt1 hi, lt0, lt2 hi, qac Node.e ha, lt0, lt2 (by omega), qac Node.e hb, qll a b false (by simp [hab]) (qbD hx0 (qap ha)), rfl, trivial⟩)
  exact qso _ _ false ⟨hz, l, trivial⟩
theorem qgx (xs ys : List Node) (r : Bool) (h : decide (xs = ys) = r) (hx0 : szS Node.sz xs ≤ 8388608) : Rt 107 [.one (.sl 4 (xs.map Node.e)), .one (.sl 4 (ys.map Node.e))] [.one (B r)] := h ▸ qqn xs ys hx0
theorem qqo (x y : Link) (hx : x.sz ≤ 8388608) : Rt 128 [.agg x.e, .agg y.e] [.one (B (decide (x = y)))] := by
 obtain ⟨a0, a1, a2, a3, a4, a5⟩ := x
 obtain ⟨b0, b1, b2, b3, b4, b5⟩ := y
 simp only [Link.sz] at hx
 by_cases h0 : a0 = b0
 case neg =>
  rw [decide_eq_false (by simp [h0])]
  exact qsq ⟨by simp [h0], trivial⟩
 by_cases h1 : a1 = b1
 case neg =>
  rw [decide_eq_false (by simp [h1])]
  exact qsr ⟨by simp [h0], qaF a1 b1 false (by simp [h1]) (by omega), rfl, trivial⟩
 by_cases h2 : a2 = b2
 case neg =>
  rw [decide_eq_false (by simp [h2])]
  exact qss ⟨by simp [h0], qaF a1 b1 true (by simp [h1]) (by omega), rfl, by simp [h2], trivial⟩
 by_cases h3 : a3 = b3
 case neg =>
  rw [decide_eq_false (by simp [h3])]
  exact qst ⟨by simp [h0], qaF a1 b1 true (by simp [h1]) (by omega), rfl, by simp [h2], by simp [h3], trivial⟩
 by_cases h4 : a4 = b4
 case neg =>
  rw [decide_eq_false (by simp [h4])]
  exact qsu ⟨by simp [h0], qaF a1 b1 true (by simp [h1]) (by omega), rfl, by simp [h2], by simp [h3], by simp [h4], trivial⟩
 by_cases h5 : a5 = b5
 case neg =>
  rw [decide_eq_false (by simp [h5])]
  exact qsv ⟨by simp [h0], qaF a1 b1 true (by simp [h1]) (by omega), rfl, by simp [h2], by simp [h3], by simp [h4], by simp [h5], trivial⟩
 rw [decide_eq_true (by simp [h0, h1, h2, h3, h4, h5])]
 exact qsw ⟨by simp [h0], qaF a1 b1 true (by simp [h1]) (by omega), rfl, by simp [h2], by simp [h3], by simp [h4], by simp [h5], trivial⟩
theorem qlm (x y : Link) (r : Bool) (h : decide (x = y) = r) (hx : x.sz ≤ 8388608) : Rt 128 [.agg x.e, .agg y.e] [.one (B r)] := h ▸ qqo x y hx
theorem qqp (xs ys : List Link) (hx0 : szS Link.sz xs ≤ 8388608) : Rt 68 [.one (.sl 6 (xs.map Link.e)), .one (.sl 6 (ys.map Link.e))] [.one (B (decide (xs = ys)))] := by
 have hx : xs.length ≤ 8388608 := qeK hx0
 by_cases hl : xs.length = ys.length
 case neg =>
  rw [decide_eq_false (fun e => hl (by rw [e]))]
  exact qsx ⟨by simp only [List.length_map, bne_iff_ne, ne_eq]; omega, trivial⟩
 have step : ∀ i, i < xs.length → xs[i]? = ys[i]? → Tr Tryz.prog (qaa Tryz.f68 0) (qcw (xs.map Link.e) (ys.map Link.e) i) .normal (qcw (xs.map Link.e) (ys.map Link.e) (i + 1 : Nat)) := by
  intro i hi h
  obtain ⟨a, ha⟩ := qae hi
  have hb : ys[i]? = some a := h ▸ ha
  obtain ⟨b, he⟩ : ∃ b, b = a := ⟨a, rfl⟩
  rw [← he] at hb
  exact qsz ⟨lt1 hi, lt0, lt2 hi, qac Link.e ha, lt0, lt2 (by omega), qac Link.e hb, qlm a b true (by simp [he]) (qbD hx0 (qap ha)), rfl, up1 hi hx, trivial⟩
 have hz : ((↑(xs.map Link.e).length : Int) != (↑(ys.map Link.e).length : Int)) = false := by simp [hl]
 rcases qb4 xs ys hl with he | ⟨i, a, b, ha, hb, hab, hlt⟩
 ·rw [decide_eq_true he]
  have l := qaj (qaf 0) xs.length (fun i => qcw (xs.map Link.e) (ys.map Link.e) i) (fun i hi => step i hi (by rw [he])) (qsA ⟨ge1, trivial⟩)
  exact qsC ⟨hz, l, trivial⟩
 ·rw [decide_eq_false (fun e => by rw [e, hb] at ha; exact hab (Option.some.inj ha).symm)]
  have hi := lt_of ha
  have l := qaj qao i (fun i => qcw (xs.map Link.e) (ys.map Link.e) i) (fun j hj => step j (by omega) (hlt j hj)) (qsy ⟨lt1 hi, lt0, lt2 hi, qac Link.e ha, lt0, lt2 (by omega), qac Link.e hb, qlm a b false (by simp [hab]) (qbD hx0 (qap ha)), rfl, trivial⟩)
  exact qsB _ _ false ⟨hz, l, trivial⟩
theorem qgy (xs ys : List Link) (r : Bool) (h : decide (xs = ys) = r) (hx0 : szS Link.sz xs ≤ 8388608) : Rt 68 [.one (.sl 6 (xs.map Link.e)), .one (.sl 6 (ys.map Link.e))] [.one (B r)] := h ▸ qqp xs ys hx0
theorem qqq (x y : Graph) (hx : x.sz ≤ 8388608) : Rt 45 [.agg x.e, .agg y.e] [.one (B (decide (x = y)))] := by
 obtain ⟨a0, a1, a2⟩ := x
 obtain ⟨b0, b1, b2⟩ := y
 simp only [Graph.sz] at hx
 by_cases h0 : a0 = b0
 case neg =>
  rw [decide_eq_false (by simp [h0])]
  exact qsD ⟨qgx a0 b0 false (by simp [h0]) (by omega), rfl, trivial⟩
 by_cases h1 : a1 = b1
 case neg =>
  rw [decide_eq_false (by simp [h1])]
  exact qsE ⟨qgx a0 b0 true (by simp [h0]) (by omega), rfl, by simp [h1], trivial⟩
 by_cases h2 : a2 = b2
 case neg =>
  rw [decide_eq_false (by simp [h2])]
  exact qsF ⟨qgx a0 b0 true (by simp [h0]) (by omega), rfl, by simp [h1], by simp [h2], trivial⟩
 rw [decide_eq_true (by simp [h0, h1, h2])]
 exact qsG ⟨qgx a0 b0 true (by simp [h0]) (by omega), rfl, by simp [h1], by simp [h2], trivial⟩
theorem qeO (x y : Graph) (r : Bool) (h : decide (x = y) = r) (hx : x.sz ≤ 8388608) : Rt 45 [.agg x.e, .agg y.e] [.one (B r)] := h ▸ qqq x y hx
theorem qqr (x y : Worker) (hx : x.sz ≤ 8388608) : Rt 127 [.agg x.e, .agg y.e] [.one (B (decide (x = y)))] := by
 obtain ⟨a0, a1, a2, a3, a4, a5, a6, a7⟩ := x
 obtain ⟨b0, b1, b2, b3, b4, b5, b6, b7⟩ := y
 simp only [Worker.sz] at hx
 by_cases h0 : a0 = b0
 case neg =>
  rw [decide_eq_false (by simp [h0])]
  exact qsH ⟨qaF a0 b0 false (by simp [h0]) (by omega), rfl, trivial⟩
 by_cases h1 : a1 = b1
 case neg =>
  rw [decide_eq_false (by simp [h1])]
  exact qsI ⟨qaF a0 b0 true (by simp [h0]) (by omega), rfl, qaF a1 b1 false (by simp [h1]) (by omega), rfl, trivial⟩
 by_cases h2 : a2 = b2
 case neg =>
  rw [decide_eq_false (by simp [h2])]
  exact qsJ ⟨qaF a0 b0 true (by simp [h0]) (by omega), rfl, qaF a1 b1 true (by simp [h1]) (by omega), rfl, qaF a2 b2 false (by simp [h2]) (by omega), rfl, trivial⟩
 by_cases h3 : a3 = b3
 case neg =>
  rw [decide_eq_false (by simp [h3])]
  exact qsK ⟨qaF a0 b0 true (by simp [h0]) (by omega), rfl, qaF a1 b1 true (by simp [h1]) (by omega), rfl, qaF a2 b2 true (by simp [h2]) (by omega), rfl, qeN a3 b3 false (by simp [h3]) (by omega), rfl, trivial⟩
 by_cases h4 : a4 = b4
 case neg =>
  rw [decide_eq_false (by simp [h4])]
  exact qsL ⟨qaF a0 b0 true (by simp [h0]) (by omega), rfl, qaF a1 b1 true (by simp [h1]) (by omega), rfl, qaF a2 b2 true (by simp [h2]) (by omega), rfl, qeN a3 b3 true (by simp [h3]) (by omega), rfl, qdD a4 b4 false (by simp [h4]) (by omega), rfl, trivial⟩
 by_cases h5 : a5 = b5
 case neg =>
  rw [decide_eq_false (by simp [h5])]
  exact qsM ⟨qaF a0 b0 true (by simp [h0]) (by omega), rfl, qaF a1 b1 true (by simp [h1]) (by omega), rfl, qaF a2 b2 true (by simp [h2]) (by omega), rfl, qeN a3 b3 true (by simp [h3]) (by omega), rfl, qdD a4 b4 true (by simp [h4]) (by omega), rfl, qdE a5 b5 false (by simp [h5]) (by omega), rfl, trivial⟩
 by_cases h6 : a6 = b6
 case neg =>
  rw [decide_eq_false (by simp [h6])]
  exact qsN ⟨qaF a0 b0 true (by simp [h0]) (by omega), rfl, qaF a1 b1 true (by simp [h1]) (by omega), rfl, qaF a2 b2 true (by simp [h2]) (by omega), rfl, qeN a3 b3 true (by simp [h3]) (by omega), rfl, qdD a4 b4 true (by simp [h4]) (by omega), rfl, qdE a5 b5 true (by simp [h5]) (by omega), rfl, qdE a6 b6 false (by simp [h6]) (by omega), rfl, trivial⟩
 by_cases h7 : a7 = b7
 case neg =>
  rw [decide_eq_false (by simp [h7])]
  exact qsO ⟨qaF a0 b0 true (by simp [h0]) (by omega), rfl, qaF a1 b1 true (by simp [h1]) (by omega), rfl, qaF a2 b2 true (by simp [h2]) (by omega), rfl, qeN a3 b3 true (by simp [h3]) (by omega), rfl, qdD a4 b4 true (by simp [h4]) (by omega), rfl, qdE a5 b5 true (by simp [h5]) (by omega), rfl, qdE a6 b6 true (by simp [h6]) (by omega), rfl, qlh a7 b7 false (by simp [h7]) (by omega), rfl, trivial⟩
 rw [decide_eq_true (by simp [h0, h1, h2, h3, h4, h5, h6, h7])]
 exact qsP ⟨qaF a0 b0 true (by simp [h0]) (by omega), rfl, qaF a1 b1 true (by simp [h1]) (by omega), rfl, qaF a2 b2 true (by simp [h2]) (by omega), rfl, qeN a3 b3 true (by simp [h3]) (by omega), rfl, qdD a4 b4 true (by simp [h4]) (by omega), rfl, qdE a5 b5 true (by simp [h5]) (by omega), rfl, qdE a6 b6 true (by simp [h6]) (by omega), rfl, qlh a7 b7 true (by simp [h7]) (by omega), rfl, trivial⟩
theorem qln (x y : Worker) (r : Bool) (h : decide (x = y) = r) (hx : x.sz ≤ 8388608) : Rt 127 [.agg x.e, .agg y.e] [.one (B r)] := h ▸ qqr x y hx
theorem qqs (xs ys : List Worker) (hx0 : szS Worker.sz xs ≤ 8388608) : Rt 67 [.one (.sl 8 (xs.map Worker.e)), .one (.sl 8 (ys.map Worker.e))] [.one (B (decide (xs = ys)))] := by
 have hx : xs.length ≤ 8388608 := qeK hx0
 by_cases hl : xs.length = ys.length
 case neg =>
  rw [decide_eq_false (fun e => hl (by rw [e]))]
  exact qsQ ⟨by simp only [List.length_map, bne_iff_ne, ne_eq]; omega, trivial⟩
 have step : ∀ i, i < xs.length → xs[i]? = ys[i]? → Tr Tryz.prog (qaa Tryz.f67 0) (qcx (xs.map Worker.e) (ys.map Worker.e) i) .normal (qcx (xs.map Worker.e) (ys.map Worker.e) (i + 1 : Nat)) := by
  intro i hi h
  obtain ⟨a, ha⟩ := qae hi
  have hb : ys[i]? = some a := h ▸ ha
  obtain ⟨b, he⟩ : ∃ b, b = a := ⟨a, rfl⟩
  rw [← he] at hb
  exact qsS ⟨lt1 hi, lt0, lt2 hi, qac Worker.e ha, lt0, lt2 (by omega), qac Worker.e hb, qln a b true (by simp [he]) (qbD hx0 (qap ha)), rfl, up1 hi hx, trivial⟩
 have hz : ((↑(xs.map Worker.e).length : Int) != (↑(ys.map Worker.e).length : Int)) = false := by simp [hl]
 rcases qb4 xs ys hl with he | ⟨i, a, b, ha, hb, hab, hlt⟩
 ·rw [decide_eq_true he]
  have l := qaj (qaf 0) xs.length (fun i => qcx (xs.map Worker.e) (ys.map Worker.e) i) (fun i hi => step i hi (by rw [he])) (qsT ⟨ge1, trivial⟩)
  exact qsV ⟨hz, l, trivial⟩
 ·rw [decide_eq_false (fun e => by rw [e, hb] at ha; exact hab (Option.some.inj ha).symm)]
  have hi := lt_of ha
  have l := qaj qao i (fun i => qcx (xs.map Worker.e) (ys.map Worker.e) i) (fun j hj => step j (by omega) (hlt j hj)) (qsR ⟨lt1 hi, lt0, lt2 hi, qac Worker.e ha, lt0, lt2 (by omega), qac Worker.e hb, qln a b false (by simp [hab]) (qbD hx0 (qap ha)), rfl, trivial⟩)
  exact qsU _ _ false ⟨hz, l, trivial⟩
theorem qfo (xs ys : List Worker) (r : Bool) (h : decide (xs = ys) = r) (hx0 : szS Worker.sz xs ≤ 8388608) : Rt 67 [.one (.sl 8 (xs.map Worker.e)), .one (.sl 8 (ys.map Worker.e))] [.one (B r)] := h ▸ qqs xs ys hx0
theorem qqt (x y : Cluster) (hx : x.sz ≤ 8388608) : Rt 15 [.agg x.e, .agg y.e] [.one (B (decide (x = y)))] := by
 obtain ⟨a0, a1, a2, a3, a4⟩ := x
 obtain ⟨b0, b1, b2, b3, b4⟩ := y
 simp only [Cluster.sz] at hx
 by_cases h0 : a0 = b0
 case neg =>
  rw [decide_eq_false (by simp [h0])]
  exact qsW ⟨qeO a0 b0 false (by simp [h0]) (by omega), rfl, trivial⟩
 by_cases h1 : a1 = b1
 case neg =>
  rw [decide_eq_false (by simp [h1])]
  exact qsX ⟨qeO a0 b0 true (by simp [h0]) (by omega), rfl, qfo a1 b1 false (by simp [h1]) (by omega), rfl, trivial⟩
 by_cases h2 : a2 = b2
 case neg =>
  rw [decide_eq_false (by simp [h2])]
  exact qsY ⟨qeO a0 b0 true (by simp [h0]) (by omega), rfl, qfo a1 b1 true (by simp [h1]) (by omega), rfl, qgy a2 b2 false (by simp [h2]) (by omega), rfl, trivial⟩
 by_cases h3 : a3 = b3
 case neg =>
  rw [decide_eq_false (by simp [h3])]
  exact qsZ ⟨qeO a0 b0 true (by simp [h0]) (by omega), rfl, qfo a1 b1 true (by simp [h1]) (by omega), rfl, qgy a2 b2 true (by simp [h2]) (by omega), rfl, qis a3 b3 false (by simp [h3]) (by omega), rfl, trivial⟩
 by_cases h4 : a4 = b4
 case neg =>
  rw [decide_eq_false (by simp [h4])]
  exact qs0 ⟨qeO a0 b0 true (by simp [h0]) (by omega), rfl, qfo a1 b1 true (by simp [h1]) (by omega), rfl, qgy a2 b2 true (by simp [h2]) (by omega), rfl, qis a3 b3 true (by simp [h3]) (by omega), rfl, qlk a4 b4 false (by simp [h4]) (by omega), rfl, trivial⟩
 rw [decide_eq_true (by simp [h0, h1, h2, h3, h4])]
 exact qs1 ⟨qeO a0 b0 true (by simp [h0]) (by omega), rfl, qfo a1 b1 true (by simp [h1]) (by omega), rfl, qgy a2 b2 true (by simp [h2]) (by omega), rfl, qis a3 b3 true (by simp [h3]) (by omega), rfl, qlk a4 b4 true (by simp [h4]) (by omega), rfl, trivial⟩
theorem qlo (x y : Cluster) (r : Bool) (h : decide (x = y) = r) (hx : x.sz ≤ 8388608) : Rt 15 [.agg x.e, .agg y.e] [.one (B r)] := h ▸ qqt x y hx
end Go.Proofs.YtdanpadojemjeaaGreat
