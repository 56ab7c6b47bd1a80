/- The functions sz.. (printed by gentypes.py) -/
import Derived.Test.YtialmplmfcahpaaGreatT1
import Derived.Test.YtialmplmfcahpaaGreatGA
set_option linter.unusedVariables false
set_option linter.unusedSimpArgs false
namespace Go.Proofs.YtialmplmfcahpaaGreat
open Go.Sx Go.RowKit
theorem qlm (xs : List Int) (n : Int) (h0 : 0 ≤ n) (h1 : n ≤ 1048576) (hl : (xs.length : Int) ≤ 9223372036854775807) : Ret Tryz.prog 237 [.one (.sl 1 (xs.map eI)), .one (I n)] [.one (I (qaK n xs.length))] := by
 have e : (xs.map eI).length = xs.length := List.length_map ..
 rw [← e]
 rw [← e] at hl
 unfold qaK
 split
 ·exact qoP _ _ ⟨⟨by omega, by omega⟩, by simp only [decide_eq_false_iff_not]; omega, trivial⟩
 ·exact qoO _ _ ⟨⟨by omega, by omega⟩, by simp only [decide_eq_true_eq]; omega, trivial⟩
theorem qln (xs : List Bool) (n : Int) (h0 : 0 ≤ n) (h1 : n ≤ 1048576) (hl : (xs.length : Int) ≤ 9223372036854775807) : Ret Tryz.prog 238 [.one (.sl 1 (xs.map eB)), .one (I n)] [.one (I (qaK n xs.length))] := by
 have e : (xs.map eB).length = xs.length := List.length_map ..
 rw [← e]
 rw [← e] at hl
 unfold qaK
 split
 ·exact qoR _ _ ⟨⟨by omega, by omega⟩, by simp only [decide_eq_false_iff_not]; omega, trivial⟩
 ·exact qoQ _ _ ⟨⟨by omega, by omega⟩, by simp only [decide_eq_true_eq]; omega, trivial⟩
theorem qff (xs : List Record) (n : Int) (h0 : 0 ≤ n) (h1 : n ≤ 1048576) (hl : (xs.length : Int) ≤ 9223372036854775807) : Ret Tryz.prog 28 [.one (.sl 5 (xs.map Record.e)), .one (I n)] [.one (I (qaK n xs.length))] := by
 have e : (xs.map Record.e).length = xs.length := List.length_map ..
 rw [← e]
 rw [← e] at hl
 unfold qaK
 split
 ·exact qoL _ _ ⟨⟨by omega, by omega⟩, by simp only [decide_eq_false_iff_not]; omega, trivial⟩
 ·exact qoK _ _ ⟨⟨by omega, by omega⟩, by simp only [decide_eq_true_eq]; omega, trivial⟩
theorem qpB (xs : List Cell) (n : Int) (h0 : 0 ≤ n) (h1 : n ≤ 1048576) (hl : (xs.length : Int) ≤ 9223372036854775807) : Ret Tryz.prog 236 [.one (.sl 4 (xs.map Cell.e)), .one (I n)] [.one (I (qaK n xs.length))] := by
 have e : (xs.map Cell.e).length = xs.length := List.length_map ..
 rw [← e]
 rw [← e] at hl
 unfold qaK
 split
 ·exact qoN _ _ ⟨⟨by omega, by omega⟩, by simp only [decide_eq_false_iff_not]; omega, trivial⟩
 ·exact qoM _ _ ⟨⟨by omega, by omega⟩, by simp only [decide_eq_true_eq]; omega, trivial⟩
theorem qpC (xs : List Done) (n : Int) (h0 : 0 ≤ n) (h1 : n ≤ 1048576) (hl : (xs.length : Int) ≤ 9223372036854775807) : Ret Tryz.prog 239 [.one (.sl 2 (xs.map Done.e)), .one (I n)] [.one (I (qaK n xs.length))] := by
 have e : (xs.map Done.e).length = xs.length := List.length_map ..
 rw [← e]
 rw [← e] at hl
 unfold qaK
 split
 ·exact qoT _ _ ⟨⟨by omega, by omega⟩, by simp only [decide_eq_false_iff_not]; omega, trivial⟩
 ·exact qoS _ _ ⟨⟨by omega, by omega⟩, by simp only [decide_eq_true_eq]; omega, trivial⟩
theorem qpD (xs : List Token) (n : Int) (h0 : 0 ≤ n) (h1 : n ≤ 1048576) (hl : (xs.length : Int) ≤ 9223372036854775807) : Ret Tryz.prog 57 [.one (.sl 5 (xs.map Token.e)), .one (I n)] [.one (I (qaK n xs.length))] := by
 have e : (xs.map Token.e).length = xs.length := List.length_map ..
 rw [← e]
 rw [← e] at hl
 unfold qaK
 split
 ·exact qoV _ _ ⟨⟨by omega, by omega⟩, by simp only [decide_eq_false_iff_not]; omega, trivial⟩
 ·exact qoU _ _ ⟨⟨by omega, by omega⟩, by simp only [decide_eq_true_eq]; omega, trivial⟩
theorem qpE (xs : List News) (n : Int) (h0 : 0 ≤ n) (h1 : n ≤ 1048576) (hl : (xs.length : Int) ≤ 9223372036854775807) : Ret Tryz.prog 58 [.one (.sl 3 (xs.map News.e)), .one (I n)] [.one (I (qaK n xs.length))] := by
 have e : (xs.map News.e).length = xs.length := List.length_map ..
 rw [← e]
 rw [← e] at hl
 unfold qaK
 split
 ·exact qoX _ _ ⟨⟨by omega, by omega⟩, by simp only [decide_eq_false_iff_not]; omega, trivial⟩
 ·exact qoW _ _ ⟨⟨by omega, by omega⟩, by simp only [decide_eq_true_eq]; omega, trivial⟩
theorem qlo (x : Node) (n : Int) (h0 : 0 ≤ n) (h1 : n ≤ 1048576) (hw : x.wf) : Ret Tryz.prog 235 [.agg x.e, .one (I n)] [.one (I (qaK n x.sz))] := by
 have r0 := qlm x.outs (n) (by omega) (by omega) hw.outs_ok.1
 by_cases c0 : ((x.outs.length : Nat) : Int) ≤ n
 case neg =>
  rw [qav (by omega)] at r0
  rw [qav (by simp only [Node.sz]; omega)]
  exact qoY _ _ _ _ _ _ ⟨r0, rfl, trivial⟩
 rw [qaL c0] at r0
 have e : qaK n x.sz = n - ((x.outs.length : Nat) : Int) := by
  rw [qaL (by simp only [Node.sz]; omega)]
  simp only [Node.sz] <;> omega
 rw [e]
 exact qoZ _ _ _ _ _ _ ⟨r0, by simp only [decide_eq_false_iff_not]; omega, trivial⟩
theorem qpF (xs : List Node) (n : Int) (h0 : 0 ≤ n) (h1 : n ≤ 1048576) (hl : (xs.length : Int) ≤ 9223372036854775807) (hw : ∀ x ∈ xs, x.wf) : Ret Tryz.prog 135 [.one (.sl 4 (xs.map Node.e)), .one (I n)] [.one (I (qaK n (szS Node.sz xs)))] := by
 have e : (xs.map Node.e).length = xs.length := List.length_map ..
 by_cases c : (xs.length : Int) ≤ n
 case neg =>
  rw [qav (by unfold szS; omega)]
  exact qo0 _ _ ⟨⟨by omega, by omega⟩, by simp only [decide_eq_true_eq]; omega, trivial⟩
 have step : ∀ i, i < xs.length → (sumTo Node.sz xs i : Int) ≤ n - xs.length → (sumTo Node.sz xs (i + 1) : Int) ≤ n - xs.length →
   Tr Tryz.prog (qaa Tryz.f135 0) (qci (xs.map Node.e) i (n - ↑(xs.map Node.e).length - sumTo Node.sz xs i)) .normal (qci (xs.map Node.e) (i + 1 : Nat) (n - ↑(xs.map Node.e).length - sumTo Node.sz xs (i + 1))) := by
  intro i hi h2 h3
  obtain ⟨a, ha⟩ := qag hi
  have hs := qc7 (sz := Node.sz) ha
  have r := qlo a (n - ↑(xs.map Node.e).length - sumTo Node.sz xs i) (by omega) (by omega) (hw a (qaG ha))
  rw [qaL (by omega)] at r
  have e2 : n - ↑(xs.map Node.e).length - (sumTo Node.sz xs i : Int) - (a.sz : Int) = n - ↑(xs.map Node.e).length - (sumTo Node.sz xs (i + 1) : Int) := by omega
  rw [e2] at r
  exact qo2 _ _ _ _ _ _ _ _ ⟨lt1 hi, lt0, lt2 hi, qae Node.e ha, r, by simp only [decide_eq_false_iff_not]; omega, upM hi hl, trivial⟩
 rcases qig Node.sz xs (n - xs.length) (by omega) with h | ⟨i, a, ha, h2, h3, h4⟩
 ·have hle := fun i => qdw (sz := Node.sz) (xs := xs) (i := i)
  have e1 : qaK n (szS Node.sz xs) = n - ↑(xs.map Node.e).length - sumTo Node.sz xs xs.length := by
   rw [qaL (by unfold szS; omega), qf0]; unfold szS; omega
  rw [e1]
  have l := qaj (qah 0) xs.length (fun i => qci (xs.map Node.e) i (n - ↑(xs.map Node.e).length - sumTo Node.sz xs i)) (fun i hi => step i hi (by have := hle i; omega) (by have := hle (i + 1); omega)) (qo3 _ _ _ ⟨ge1, trivial⟩)
  simp only [qc6, Int.sub_zero, Int.natCast_zero] at l
  exact qo5 _ _ _ ⟨⟨by omega, by omega⟩, by simp only [decide_eq_false_iff_not]; omega, l, trivial⟩
 ·have hi := lt_of ha
  have hle := fun i => qdw (sz := Node.sz) (xs := xs) (i := i)
  have hs := qc7 (sz := Node.sz) ha
  have hb := hle (i + 1)
  rw [qav (by unfold szS; omega)]
  have r := qlo a (n - ↑(xs.map Node.e).length - sumTo Node.sz xs i) (by omega) (by omega) (hw a (qaG ha))
  rw [qav (by omega)] at r
  have l := qaj qaD i (fun i => qci (xs.map Node.e) i (n - ↑(xs.map Node.e).length - sumTo Node.sz xs i)) (fun j hj => step j (by omega) (h4 j (by omega)) (h4 (j + 1) (by omega))) (qo1 _ _ _ _ _ _ _ _ ⟨lt1 hi, lt0, lt2 hi, qae Node.e ha, r, rfl, trivial⟩)
  simp only [qc6, Int.sub_zero, Int.natCast_zero] at l
  exact qo4 _ _ _ ⟨⟨by omega, by omega⟩, by simp only [decide_eq_false_iff_not]; omega, l, trivial⟩
theorem qlp (x : Link) (n : Int) (h0 : 0 ≤ n) (h1 : n ≤ 1048576) (hw : x.wf) : Ret Tryz.prog 137 [.agg x.e, .one (I n)] [.one (I (qaK n x.sz))] := by
 have r0 := qff x.queue (n) (by omega) (by omega) hw.queue_ok.1
 by_cases c0 : ((x.queue.length : Nat) : Int) ≤ n
 case neg =>
  rw [qav (by omega)] at r0
  rw [qav (by simp only [Link.sz]; omega)]
  exact qo6 _ _ _ _ _ _ _ _ ⟨r0, rfl, trivial⟩
 rw [qaL c0] at r0
 have e : qaK n x.sz = n - ((x.queue.length : Nat) : Int) := by
  rw [qaL (by simp only [Link.sz]; omega)]
  simp only [Link.sz] <;> omega
 rw [e]
 exact qo7 _ _ _ _ _ _ _ _ ⟨r0, by simp only [decide_eq_false_iff_not]; omega, trivial⟩
theorem qpG (xs : List Link) (n : Int) (h0 : 0 ≤ n) (h1 : n ≤ 1048576) (hl : (xs.length : Int) ≤ 9223372036854775807) (hw : ∀ x ∈ xs, x.wf) : Ret Tryz.prog 56 [.one (.sl 6 (xs.map Link.e)), .one (I n)] [.one (I (qaK n (szS Link.sz xs)))] := by
 have e : (xs.map Link.e).length = xs.length := List.length_map ..
 by_cases c : (xs.length : Int) ≤ n
 case neg =>
  rw [qav (by unfold szS; omega)]
  exact qo8 _ _ ⟨⟨by omega, by omega⟩, by simp only [decide_eq_true_eq]; omega, trivial⟩
 have step : ∀ i, i < xs.length → (sumTo Link.sz xs i : Int) ≤ n - xs.length → (sumTo Link.sz xs (i + 1) : Int) ≤ n - xs.length →
   Tr Tryz.prog (qaa Tryz.f56 0) (qcj (xs.map Link.e) i (n - ↑(xs.map Link.e).length - sumTo Link.sz xs i)) .normal (qcj (xs.map Link.e) (i + 1 : Nat) (n - ↑(xs.map Link.e).length - sumTo Link.sz xs (i + 1))) := by
  intro i hi h2 h3
  obtain ⟨a, ha⟩ := qag hi
  have hs := qc7 (sz := Link.sz) ha
  have r := qlp a (n - ↑(xs.map Link.e).length - sumTo Link.sz xs i) (by omega) (by omega) (hw a (qaG ha))
  rw [qaL (by omega)] at r
  have e2 : n - ↑(xs.map Link.e).length - (sumTo Link.sz xs i : Int) - (a.sz : Int) = n - ↑(xs.map Link.e).length - (sumTo Link.sz xs (i + 1) : Int) := by omega
  rw [e2] at r
  exact qpa _ _ _ _ _ _ _ _ _ _ ⟨lt1 hi, lt0, lt2 hi, qae Link.e ha, r, by simp only [decide_eq_false_iff_not]; omega, upM hi hl, trivial⟩
 rcases qig Link.sz xs (n - xs.length) (by omega) with h | ⟨i, a, ha, h2, h3, h4⟩
 ·have hle := fun i => qdw (sz := Link.sz) (xs := xs) (i := i)
  have e1 : qaK n (szS Link.sz xs) = n - ↑(xs.map Link.e).length - sumTo Link.sz xs xs.length := by
   rw [qaL (by unfold szS; omega), qf0]; unfold szS; omega
  rw [e1]
  have l := qaj (qah 0) xs.length (fun i => qcj (xs.map Link.e) i (n - ↑(xs.map Link.e).length - sumTo Link.sz xs i)) (fun i hi => step i hi (by have := hle i; omega) (by have := hle (i + 1); omega)) (qpb _ _ _ ⟨ge1, trivial⟩)
  simp only [qc6, Int.sub_zero, Int.natCast_zero] at l
  exact qpd _ _ _ ⟨⟨by omega, by omega⟩, by simp only [decide_eq_false_iff_not]; omega, l, trivial⟩
 ·have hi := lt_of ha
  have hle := fun i => qdw (sz := Link.sz) (xs := xs) (i := i)
  have hs := qc7 (sz := Link.sz) ha
  have hb := hle (i + 1)
  rw [qav (by unfold szS; omega)]
  have r := qlp a (n - ↑(xs.map Link.e).length - sumTo Link.sz xs i) (by omega) (by omega) (hw a (qaG ha))
  rw [qav (by omega)] at r
  have l := qaj qaD i (fun i => qcj (xs.map Link.e) i (n - ↑(xs.map Link.e).length - sumTo Link.sz xs i)) (fun j hj => step j (by omega) (h4 j (by omega)) (h4 (j + 1) (by omega))) (qo9 _ _ _ _ _ _ _ _ _ _ ⟨lt1 hi, lt0, lt2 hi, qae Link.e ha, r, rfl, trivial⟩)
  simp only [qc6, Int.sub_zero, Int.natCast_zero] at l
  exact qpc _ _ _ ⟨⟨by omega, by omega⟩, by simp only [decide_eq_false_iff_not]; omega, l, trivial⟩
theorem qpH (x : Graph) (n : Int) (h0 : 0 ≤ n) (h1 : n ≤ 1048576) (hw : x.wf) : Ret Tryz.prog 54 [.agg x.e, .one (I n)] [.one (I (qaK n x.sz))] := by
 have r0 := qpF x.nodes (n) (by omega) (by omega) hw.nodes_ok.1 hw.nodes_ok.2
 by_cases c0 : ((szS Node.sz x.nodes : Nat) : Int) ≤ n
 case neg =>
  rw [qav (by omega)] at r0
  rw [qav (by simp only [Graph.sz]; omega)]
  exact qpe _ _ _ _ _ ⟨r0, rfl, trivial⟩
 rw [qaL c0] at r0
 have e : qaK n x.sz = n - ((szS Node.sz x.nodes : Nat) : Int) := by
  rw [qaL (by simp only [Graph.sz]; omega)]
  simp only [Graph.sz] <;> omega
 rw [e]
 exact qpf _ _ _ _ _ ⟨r0, by simp only [decide_eq_false_iff_not]; omega, trivial⟩
theorem qlq (x : Worker) (n : Int) (h0 : 0 ≤ n) (h1 : n ≤ 1048576) (hw : x.wf) : Ret Tryz.prog 136 [.agg x.e, .one (I n)] [.one (I (qaK n x.sz))] := by
 have r0 := qff x.queue (n) (by omega) (by omega) hw.queue_ok.1
 by_cases c0 : ((x.queue.length : Nat) : Int) ≤ n
 case neg =>
  rw [qav (by omega)] at r0
  rw [qav (by simp only [Worker.sz]; omega)]
  exact qpg _ _ _ _ _ _ _ _ _ _ ⟨r0, rfl, trivial⟩
 rw [qaL c0] at r0
 have r1 := qff x.staged (n - ((x.queue.length : Nat) : Int)) (by omega) (by omega) hw.staged_ok.1
 by_cases c1 : ((x.staged.length : Nat) : Int) ≤ n - ((x.queue.length : Nat) : Int)
 case neg =>
  rw [qav (by omega)] at r1
  rw [qav (by simp only [Worker.sz]; omega)]
  exact qph _ _ _ _ _ _ _ _ _ _ _ ⟨r0, by simp only [decide_eq_false_iff_not]; omega, r1, rfl, trivial⟩
 rw [qaL c1] at r1
 have r2 := qff x.inputs (n - ((x.queue.length : Nat) : Int) - ((x.staged.length : Nat) : Int)) (by omega) (by omega) hw.inputs_ok.1
 by_cases c2 : ((x.inputs.length : Nat) : Int) ≤ n - ((x.queue.length : Nat) : Int) - ((x.staged.length : Nat) : Int)
 case neg =>
  rw [qav (by omega)] at r2
  rw [qav (by simp only [Worker.sz]; omega)]
  exact qpi _ _ _ _ _ _ _ _ _ _ _ _ ⟨r0, by simp only [decide_eq_false_iff_not]; omega, r1, by simp only [decide_eq_false_iff_not]; omega, r2, rfl, trivial⟩
 rw [qaL c2] at r2
 have r3 := qpB x.cells (n - ((x.queue.length : Nat) : Int) - ((x.staged.length : Nat) : Int) - ((x.inputs.length : Nat) : Int)) (by omega) (by omega) hw.cells_ok.1
 by_cases c3 : ((x.cells.length : Nat) : Int) ≤ n - ((x.queue.length : Nat) : Int) - ((x.staged.length : Nat) : Int) - ((x.inputs.length : Nat) : Int)
 case neg =>
  rw [qav (by omega)] at r3
  rw [qav (by simp only [Worker.sz]; omega)]
  exact qpj _ _ _ _ _ _ _ _ _ _ _ _ _ ⟨r0, by simp only [decide_eq_false_iff_not]; omega, r1, by simp only [decide_eq_false_iff_not]; omega, r2, by simp only [decide_eq_false_iff_not]; omega, r3, rfl, trivial⟩
 rw [qaL c3] at r3
 have r4 := qlm x.sums (n - ((x.queue.length : Nat) : Int) - ((x.staged.length : Nat) : Int) - ((x.inputs.length : Nat) : Int) - ((x.cells.length : Nat) : Int)) (by omega) (by omega) hw.sums_ok.1
 by_cases c4 : ((x.sums.length : Nat) : Int) ≤ n - ((x.queue.length : Nat) : Int) - ((x.staged.length : Nat) : Int) - ((x.inputs.length : Nat) : Int) - ((x.cells.length : Nat) : Int)
 case neg =>
  rw [qav (by omega)] at r4
  rw [qav (by simp only [Worker.sz]; omega)]
  exact qpk _ _ _ _ _ _ _ _ _ _ _ _ _ _ ⟨r0, by simp only [decide_eq_false_iff_not]; omega, r1, by simp only [decide_eq_false_iff_not]; omega, r2, by simp only [decide_eq_false_iff_not]; omega, r3, by simp only [decide_eq_false_iff_not]; omega, r4, rfl, trivial⟩
 rw [qaL c4] at r4
 have r5 := qln x.black (n - ((x.queue.length : Nat) : Int) - ((x.staged.length : Nat) : Int) - ((x.inputs.length : Nat) : Int) - ((x.cells.length : Nat) : Int) - ((x.sums.length : Nat) : Int)) (by omega) (by omega) hw.black_ok
 by_cases c5 : ((x.black.length : Nat) : Int) ≤ n - ((x.queue.length : Nat) : Int) - ((x.staged.length : Nat) : Int) - ((x.inputs.length : Nat) : Int) - ((x.cells.length : Nat) : Int) - ((x.sums.length : Nat) : Int)
 case neg =>
  rw [qav (by omega)] at r5
  rw [qav (by simp only [Worker.sz]; omega)]
  exact qpl _ _ _ _ _ _ _ _ _ _ _ _ _ _ _ ⟨r0, by simp only [decide_eq_false_iff_not]; omega, r1, by simp only [decide_eq_false_iff_not]; omega, r2, by simp only [decide_eq_false_iff_not]; omega, r3, by simp only [decide_eq_false_iff_not]; omega, r4, by simp only [decide_eq_false_iff_not]; omega, r5, rfl, trivial⟩
 rw [qaL c5] at r5
 have r6 := qln x.caps (n - ((x.queue.length : Nat) : Int) - ((x.staged.length : Nat) : Int) - ((x.inputs.length : Nat) : Int) - ((x.cells.length : Nat) : Int) - ((x.sums.length : Nat) : Int) - ((x.black.length : Nat) : Int)) (by omega) (by omega) hw.caps_ok
 by_cases c6 : ((x.caps.length : Nat) : Int) ≤ n - ((x.queue.length : Nat) : Int) - ((x.staged.length : Nat) : Int) - ((x.inputs.length : Nat) : Int) - ((x.cells.length : Nat) : Int) - ((x.sums.length : Nat) : Int) - ((x.black.length : Nat) : Int)
 case neg =>
  rw [qav (by omega)] at r6
  rw [qav (by simp only [Worker.sz]; omega)]
  exact qpm _ _ _ _ _ _ _ _ _ _ _ _ _ _ _ _ ⟨r0, by simp only [decide_eq_false_iff_not]; omega, r1, by simp only [decide_eq_false_iff_not]; omega, r2, by simp only [decide_eq_false_iff_not]; omega, r3, by simp only [decide_eq_false_iff_not]; omega, r4, by simp only [decide_eq_false_iff_not]; omega, r5, by simp only [decide_eq_false_iff_not]; omega, r6, rfl, trivial⟩
 rw [qaL c6] at r6
 have r7 := qpC x.dones (n - ((x.queue.length : Nat) : Int) - ((x.staged.length : Nat) : Int) - ((x.inputs.length : Nat) : Int) - ((x.cells.length : Nat) : Int) - ((x.sums.length : Nat) : Int) - ((x.black.length : Nat) : Int) - ((x.caps.length : Nat) : Int)) (by omega) (by omega) hw.dones_ok.1
 by_cases c7 : ((x.dones.length : Nat) : Int) ≤ n - ((x.queue.length : Nat) : Int) - ((x.staged.length : Nat) : Int) - ((x.inputs.length : Nat) : Int) - ((x.cells.length : Nat) : Int) - ((x.sums.length : Nat) : Int) - ((x.black.length : Nat) : Int) - ((x.caps.length : Nat) : Int)
 case neg =>
  rw [qav (by omega)] at r7
  rw [qav (by simp only [Worker.sz]; omega)]
  exact qpn _ _ _ _ _ _ _ _ _ _ _ _ _ _ _ _ _ ⟨r0, by simp only [decide_eq_false_iff_not]; omega, r1, by simp only [decide_eq_false_iff_not]; omega, r2, by simp only [decide_eq_false_iff_not]; omega, r3, by simp only [decide_eq_false_iff_not]; omega, r4, by simp only [decide_eq_false_iff_not]; omega, r5, by simp only [decide_eq_false_iff_not]; omega, r6, by simp only [decide_eq_false_iff_not]; omega, r7, rfl, trivial⟩
 rw [qaL c7] at r7
 have e : qaK n x.sz = n - ((x.queue.length : Nat) : Int) - ((x.staged.length : Nat) : Int) - ((x.inputs.length : Nat) : Int) - ((x.cells.length : Nat) : Int) - ((x.sums.length : Nat) : Int) - ((x.black.length : Nat) : Int) - ((x.caps.length : Nat) : Int) - ((x.dones.length : Nat) : Int) := by
  rw [qaL (by simp only [Worker.sz]; omega)]
  simp only [Worker.sz] <;> omega
 rw [e]
 exact qpo _ _ _ _ _ _ _ _ _ _ _ _ _ _ _ _ _ ⟨r0, by simp only [decide_eq_false_iff_not]; omega, r1, by simp only [decide_eq_false_iff_not]; omega, r2, by simp only [decide_eq_false_iff_not]; omega, r3, by simp only [decide_eq_false_iff_not]; omega, r4, by simp only [decide_eq_false_iff_not]; omega, r5, by simp only [decide_eq_false_iff_not]; omega, r6, by simp only [decide_eq_false_iff_not]; omega, r7, by simp only [decide_eq_false_iff_not]; omega, trivial⟩
theorem qpI (xs : List Worker) (n : Int) (h0 : 0 ≤ n) (h1 : n ≤ 1048576) (hl : (xs.length : Int) ≤ 9223372036854775807) (hw : ∀ x ∈ xs, x.wf) : Ret Tryz.prog 55 [.one (.sl 8 (xs.map Worker.e)), .one (I n)] [.one (I (qaK n (szS Worker.sz xs)))] := by
 have e : (xs.map Worker.e).length = xs.length := List.length_map ..
 by_cases c : (xs.length : Int) ≤ n
 case neg =>
  rw [qav (by unfold szS; omega)]
  exact qpp _ _ ⟨⟨by omega, by omega⟩, by simp only [decide_eq_true_eq]; omega, trivial⟩
 have step : ∀ i, i < xs.length → (sumTo Worker.sz xs i : Int) ≤ n - xs.length → (sumTo Worker.sz xs (i + 1) : Int) ≤ n - xs.length →
   Tr Tryz.prog (qaa Tryz.f55 0) (qck (xs.map Worker.e) i (n - ↑(xs.map Worker.e).length - sumTo Worker.sz xs i)) .normal (qck (xs.map Worker.e) (i + 1 : Nat) (n - ↑(xs.map Worker.e).length - sumTo Worker.sz xs (i + 1))) := by
  intro i hi h2 h3
  obtain ⟨a, ha⟩ := qag hi
  have hs := qc7 (sz := Worker.sz) ha
  have r := qlq a (n - ↑(xs.map Worker.e).length - sumTo Worker.sz xs i) (by omega) (by omega) (hw a (qaG ha))
  rw [qaL (by omega)] at r
  have e2 : n - ↑(xs.map Worker.e).length - (sumTo Worker.sz xs i : Int) - (a.sz : Int) = n - ↑(xs.map Worker.e).length - (sumTo Worker.sz xs (i + 1) : Int) := by omega
  rw [e2] at r
  exact qpr _ _ _ _ _ _ _ _ _ _ _ _ ⟨lt1 hi, lt0, lt2 hi, qae Worker.e ha, r, by simp only [decide_eq_false_iff_not]; omega, upM hi hl, trivial⟩
 rcases qig Worker.sz xs (n - xs.length) (by omega) with h | ⟨i, a, ha, h2, h3, h4⟩
 ·have hle := fun i => qdw (sz := Worker.sz) (xs := xs) (i := i)
  have e1 : qaK n (szS Worker.sz xs) = n - ↑(xs.map Worker.e).length - sumTo Worker.sz xs xs.length := by
   rw [qaL (by unfold szS; omega), qf0]; unfold szS; omega
  rw [e1]
  have l := qaj (qah 0) xs.length (fun i => qck (xs.map Worker.e) i (n - ↑(xs.map Worker.e).length - sumTo Worker.sz xs i)) (fun i hi => step i hi (by have := hle i; omega) (by have := hle (i + 1); omega)) (qps _ _ _ ⟨ge1, trivial⟩)
  simp only [qc6, Int.sub_zero, Int.natCast_zero] at l
  exact qpu _ _ _ ⟨⟨by omega, by omega⟩, by simp only [decide_eq_false_iff_not]; omega, l, trivial⟩
 ·have hi := lt_of ha
  have hle := fun i => qdw (sz := Worker.sz) (xs := xs) (i := i)
  have hs := qc7 (sz := Worker.sz) ha
  have hb := hle (i + 1)
  rw [qav (by unfold szS; omega)]
  have r := qlq a (n - ↑(xs.map Worker.e).length - sumTo Worker.sz xs i) (by omega) (by omega) (hw a (qaG ha))
  rw [qav (by omega)] at r
  have l := qaj qaD i (fun i => qck (xs.map Worker.e) i (n - ↑(xs.map Worker.e).length - sumTo Worker.sz xs i)) (fun j hj => step j (by omega) (h4 j (by omega)) (h4 (j + 1) (by omega))) (qpq _ _ _ _ _ _ _ _ _ _ _ _ ⟨lt1 hi, lt0, lt2 hi, qae Worker.e ha, r, rfl, trivial⟩)
  simp only [qc6, Int.sub_zero, Int.natCast_zero] at l
  exact qpt _ _ _ ⟨⟨by omega, by omega⟩, by simp only [decide_eq_false_iff_not]; omega, l, trivial⟩
theorem qf6 (x : Cluster) (n : Int) (h0 : 0 ≤ n) (h1 : n ≤ 1048576) (hw : x.wf) : Ret Tryz.prog 14 [.agg x.e, .one (I n)] [.one (I (qaK n x.sz))] := by
 have r0 := qpH x.graph (n) (by omega) (by omega) hw.graph_ok
 by_cases c0 : ((x.graph.sz : Nat) : Int) ≤ n
 case neg =>
  rw [qav (by omega)] at r0
  rw [qav (by simp only [Cluster.sz]; omega)]
  exact qpv _ _ _ _ _ _ _ _ _ ⟨r0, rfl, trivial⟩
 rw [qaL c0] at r0
 have r1 := qpI x.workers (n - ((x.graph.sz : Nat) : Int)) (by omega) (by omega) hw.workers_ok.1 hw.workers_ok.2
 by_cases c1 : ((szS Worker.sz x.workers : Nat) : Int) ≤ n - ((x.graph.sz : Nat) : Int)
 case neg =>
  rw [qav (by omega)] at r1
  rw [qav (by simp only [Cluster.sz]; omega)]
  exact qpw _ _ _ _ _ _ _ _ _ _ ⟨r0, by simp only [decide_eq_false_iff_not]; omega, r1, rfl, trivial⟩
 rw [qaL c1] at r1
 have r2 := qpG x.links (n - ((x.graph.sz : Nat) : Int) - ((szS Worker.sz x.workers : Nat) : Int)) (by omega) (by omega) hw.links_ok.1 hw.links_ok.2
 by_cases c2 : ((szS Link.sz x.links : Nat) : Int) ≤ n - ((x.graph.sz : Nat) : Int) - ((szS Worker.sz x.workers : Nat) : Int)
 case neg =>
  rw [qav (by omega)] at r2
  rw [qav (by simp only [Cluster.sz]; omega)]
  exact qpx _ _ _ _ _ _ _ _ _ _ _ ⟨r0, by simp only [decide_eq_false_iff_not]; omega, r1, by simp only [decide_eq_false_iff_not]; omega, r2, rfl, trivial⟩
 rw [qaL c2] at r2
 have r3 := qpD x.tokens (n - ((x.graph.sz : Nat) : Int) - ((szS Worker.sz x.workers : Nat) : Int) - ((szS Link.sz x.links : Nat) : Int)) (by omega) (by omega) hw.tokens_ok.1
 by_cases c3 : ((x.tokens.length : Nat) : Int) ≤ n - ((x.graph.sz : Nat) : Int) - ((szS Worker.sz x.workers : Nat) : Int) - ((szS Link.sz x.links : Nat) : Int)
 case neg =>
  rw [qav (by omega)] at r3
  rw [qav (by simp only [Cluster.sz]; omega)]
  exact qpy _ _ _ _ _ _ _ _ _ _ _ _ ⟨r0, by simp only [decide_eq_false_iff_not]; omega, r1, by simp only [decide_eq_false_iff_not]; omega, r2, by simp only [decide_eq_false_iff_not]; omega, r3, rfl, trivial⟩
 rw [qaL c3] at r3
 have r4 := qpE x.news (n - ((x.graph.sz : Nat) : Int) - ((szS Worker.sz x.workers : Nat) : Int) - ((szS Link.sz x.links : Nat) : Int) - ((x.tokens.length : Nat) : Int)) (by omega) (by omega) hw.news_ok.1
 by_cases c4 : ((x.news.length : Nat) : Int) ≤ n - ((x.graph.sz : Nat) : Int) - ((szS Worker.sz x.workers : Nat) : Int) - ((szS Link.sz x.links : Nat) : Int) - ((x.tokens.length : Nat) : Int)
 case neg =>
  rw [qav (by omega)] at r4
  rw [qav (by simp only [Cluster.sz]; omega)]
  exact qpz _ _ _ _ _ _ _ _ _ _ _ _ _ ⟨r0, by simp only [decide_eq_false_iff_not]; omega, r1, by simp only [decide_eq_false_iff_not]; omega, r2, by simp only [decide_eq_false_iff_not]; omega, r3, by simp only [decide_eq_false_iff_not]; omega, r4, rfl, trivial⟩
 rw [qaL c4] at r4
 have e : qaK n x.sz = n - ((x.graph.sz : Nat) : Int) - ((szS Worker.sz x.workers : Nat) : Int) - ((szS Link.sz x.links : Nat) : Int) - ((x.tokens.length : Nat) : Int) - ((x.news.length : Nat) : Int) := by
  rw [qaL (by simp only [Cluster.sz]; omega)]
  simp only [Cluster.sz] <;> omega
 rw [e]
 exact qpA _ _ _ _ _ _ _ _ _ _ _ _ _ ⟨r0, by simp only [decide_eq_false_iff_not]; omega, r1, by simp only [decide_eq_false_iff_not]; omega, r2, by simp only [decide_eq_false_iff_not]; omega, r3, by simp only [decide_eq_false_iff_not]; omega, r4, by simp only [decide_eq_false_iff_not]; omega, trivial⟩
end Go.Proofs.YtialmplmfcahpaaGreat
