/- The functions mark.. and held..: their contracts (printed by gentypes.py) -/
import Derived.Test.YtdanpadojemjeaaGreatT6
set_option linter.unusedVariables false
set_option linter.unusedSimpArgs false
namespace Go.Proofs.YtdanpadojemjeaaGreat
open Go.Sx Go.RowKit
theorem qgX {α : Type} (c s : α → Nat) (h : ∀ x, c x ≤ 6 + 5 * s x) : ∀ xs : List α, (xs.map c).sum ≤ 6 * xs.length + 5 * (xs.map s).sum
 | [] => by simp
 | x :: xs => by
  have h1 := h x
  have h2 := qgX c s h xs
  simp only [List.map_cons, List.sum_cons, List.length_cons]
  omega
theorem Stamp.cb_sum (xs : List Stamp) : (xs.map Stamp.cb).sum = xs.length * 2 := qcM xs 2
theorem Record.cb_sum (xs : List Record) : (xs.map Record.cb).sum = xs.length * 5 := qcM xs 5
theorem Cell.cb_sum (xs : List Cell) : (xs.map Cell.cb).sum = xs.length * 4 := qcM xs 4
theorem Done.cb_sum (xs : List Done) : (xs.map Done.cb).sum = xs.length * 2 := qcM xs 2
theorem Token.cb_sum (xs : List Token) : (xs.map Token.cb).sum = xs.length * 5 := qcM xs 5
theorem News.cb_sum (xs : List News) : (xs.map News.cb).sum = xs.length * 3 := qcM xs 3
theorem Pick.cb_sum (xs : List Pick) : (xs.map Pick.cb).sum = xs.length * 3 := qcM xs 3
theorem Node.cb_le (x : Node) : x.cb ≤ 6 + 5 * x.sz := by
 simp only [Node.cb, Node.sz, qcM]
 omega
theorem Link.cb_le (x : Link) : x.cb ≤ 6 + 5 * x.sz := by
 simp only [Link.cb, Link.sz, Record.cb_sum]
 omega
theorem Worker.cb_le (x : Worker) : x.cb ≤ 6 + 5 * x.sz := by
 simp only [Worker.cb, Worker.sz, qcM, Cell.cb_sum, Done.cb_sum, qcM, Record.cb_sum]
 omega
theorem qnc (xs : List Int) (k : Int) (hk : 0 ≤ k) (hM : nextL nI k xs ≤ 1000000000000) (hl : xs.length ≤ 8388608) :
  RetG Tryz.prog 131 [.one (.gv 1 (xs.map eI) (some ((markL mI nI k xs).map eI))), .one (.ro (I k))] [.one (I (nextL nI k xs))] := by
 have l := qaj (P := Tryz.prog) (c := qaa Tryz.f131 0) (stE := qjc (nextL nI k xs) ((markL mI nI k xs).map eI)) (qaf 0) xs.length (fun i => qd8 i (nextL nI k (xs.take i)) (qai eI mI nI k xs i)) (fun i hi => by
  obtain ⟨a, ha⟩ := qae hi
  have h0 := qa3 (fun _ => 1) nI_le xs k i
  have h1 := Int.le_trans (qa2 (fun _ => 1) nI_le xs k (i + 1)) hM
  rw [qas ha] at h1
  have hlen : (qai eI mI nI k xs i).length = xs.length := qbV (by omega)
  have hlt := qcK (e := eI) (mark := mI) (next := nI) (k := k) hi
  have hg := qcI (e := eI) (mark := mI) (next := nI) (k := k) ha
  have hset := qcJ (e := eI) (mark := mI) (next := nI) (k := k) ha
  show Tr _ _ (qd8 (i : Nat) (nextL nI k (xs.take i)) (qai eI mI nI k xs i)) _ (qd8 (i + 1 : Nat) (nextL nI k (xs.take (i + 1))) (qai eI mI nI k xs (i + 1)))
  rw [← hset, qas ha]
  generalize nextL nI k (xs.take i) = K at *
  generalize qai eI mI nI k xs i = M at *
  unfold nI at h1
  have t := qCM i K M _ ⟨by rw [hlen]; simp only [decide_eq_true_eq]; omega, lt0, hlt, hg, ⟨by omega, by omega⟩, up1 hi hl, trivial⟩
  try simp only [List.set_set] at t
  exact t) (by
  have t := qCN xs.length (nextL nI k (xs.take xs.length)) (qai eI mI nI k xs xs.length) ⟨qcL, trivial⟩
  rw [qcH, List.take_length] at t ⊢
  exact t)
 rw [qcG] at l
 exact qCO ⟨l, trivial⟩
theorem qDI {xs : List Int} {k : Int} {i : Nat} {a : Int} (h : xs[i]? = some a) : (markL mI nI k xs)[i]? = some (mI (nextL nI k (xs.take i)) a) := by
 have hi := lt_of h
 have e : xs = xs.take i ++ a :: xs.drop (i + 1) := by
  have ha : xs[i] = a := by rw [List.getElem?_eq_getElem hi] at h; exact Option.some.inj h
  rw [← ha, ← List.drop_eq_getElem_cons hi, List.take_append_drop]
 conv => lhs; rw [e]
 rw [qbU, List.getElem?_append, qaU, List.length_take, if_neg (by omega), show i - min i xs.length = 0 by omega]
 rfl
theorem qnd (xs : List Int) (k : Int) (hk : 0 ≤ k) (hM : nextL nI k xs ≤ 1000000000000) (hl : xs.length ≤ 8388608) : Rt 135 [.one (.sl 1 ((markL mI nI k xs).map eI)), .one (I k)] [.one (I (nextL nI k xs))] := by
 have hlm : (markL mI nI k xs).length = xs.length := qaU
 have l := qaj (P := Tryz.prog) (c := qaa Tryz.f135 0) (qaf 0) (markL mI nI k xs).length (fun i => qei ((markL mI nI k xs).map eI) i (nextL nI k (xs.take i))) (fun i hi2 => by
  have hi : i < xs.length := by omega
  obtain ⟨a, ha⟩ := qae hi
  have ha2 := qDI (k := k) ha
  have h0 := qa3 (fun _ => 1) nI_le xs k i
  have h1 := Int.le_trans (qa2 (fun _ => 1) nI_le xs k (i + 1)) hM
  rw [qas ha] at h1
  show Tr _ _ (qei ((markL mI nI k xs).map eI) (i : Nat) (nextL nI k (xs.take i))) _ (qei ((markL mI nI k xs).map eI) (i + 1 : Nat) (nextL nI k (xs.take (i + 1))))
  rw [qas ha]
  generalize nextL nI k (xs.take i) = K at *
  unfold nI at h1
  exact qDi ⟨lt1 hi2, lt0, lt2 hi2, qac eI ha2, by simp [mI], ⟨by omega, by omega⟩, ⟨by omega, by omega⟩, trivial⟩) (qDj ⟨ge1, trivial⟩)
 rw [hlm, List.take_length] at l
 exact qDk ⟨l, trivial⟩
theorem qne (xs : List Bool) (k : Int) (hk : 0 ≤ k) (hM : nextL nB k xs ≤ 1000000000000) (hl : xs.length ≤ 8388608) :
  RetG Tryz.prog 32 [.one (.gv 1 (xs.map eB) (some ((markL mB nB k xs).map eB))), .one (.ro (I k))] [.one (I (nextL nB k xs))] := by
 have l := qaj (P := Tryz.prog) (c := qaa Tryz.f32 0) (stE := qje (nextL nB k xs) ((markL mB nB k xs).map eB)) (qaf 0) xs.length (fun i => qea i (nextL nB k (xs.take i)) (qai eB mB nB k xs i)) (fun i hi => by
  obtain ⟨a, ha⟩ := qae hi
  have h0 := qa3 (fun _ => 1) nB_le xs k i
  have h1 := Int.le_trans (qa2 (fun _ => 1) nB_le xs k (i + 1)) hM
  rw [qas ha] at h1
  have hlen : (qai eB mB nB k xs i).length = xs.length := qbV (by omega)
  have hlt := qcK (e := eB) (mark := mB) (next := nB) (k := k) hi
  have hg := qcI (e := eB) (mark := mB) (next := nB) (k := k) ha
  have hset := qcJ (e := eB) (mark := mB) (next := nB) (k := k) ha
  show Tr _ _ (qea (i : Nat) (nextL nB k (xs.take i)) (qai eB mB nB k xs i)) _ (qea (i + 1 : Nat) (nextL nB k (xs.take (i + 1))) (qai eB mB nB k xs (i + 1)))
  rw [← hset, qas ha]
  generalize nextL nB k (xs.take i) = K at *
  generalize qai eB mB nB k xs i = M at *
  unfold nB at h1
  have t := qCS i K M _ ⟨by rw [hlen]; simp only [decide_eq_true_eq]; omega, by omega, lt0, hlt, hg, ⟨by omega, by omega⟩, up1 hi hl, trivial⟩
  try simp only [List.set_set] at t
  exact t) (by
  have t := qCT xs.length (nextL nB k (xs.take xs.length)) (qai eB mB nB k xs xs.length) ⟨qcL, trivial⟩
  rw [qcH, List.take_length] at t ⊢
  exact t)
 rw [qcG] at l
 exact qCU ⟨l, trivial⟩
theorem qDJ {xs : List Bool} {k : Int} {i : Nat} {a : Bool} (h : xs[i]? = some a) : (markL mB nB k xs)[i]? = some (mB (nextL nB k (xs.take i)) a) := by
 have hi := lt_of h
 have e : xs = xs.take i ++ a :: xs.drop (i + 1) := by
  have ha : xs[i] = a := by rw [List.getElem?_eq_getElem hi] at h; exact Option.some.inj h
  rw [← ha, ← List.drop_eq_getElem_cons hi, List.take_append_drop]
 conv => lhs; rw [e]
 rw [qbU, List.getElem?_append, qaU, List.length_take, if_neg (by omega), show i - min i xs.length = 0 by omega]
 rfl
theorem qnf (xs : List Bool) (k : Int) (hk : 0 ≤ k) (hM : nextL nB k xs ≤ 1000000000000) (hl : xs.length ≤ 8388608) : Rt 33 [.one (.sl 1 ((markL mB nB k xs).map eB)), .one (I k)] [.one (I (nextL nB k xs))] := by
 have hlm : (markL mB nB k xs).length = xs.length := qaU
 have l := qaj (P := Tryz.prog) (c := qaa Tryz.f33 0) (qaf 0) (markL mB nB k xs).length (fun i => qek ((markL mB nB k xs).map eB) i (nextL nB k (xs.take i))) (fun i hi2 => by
  have hi : i < xs.length := by omega
  obtain ⟨a, ha⟩ := qae hi
  have ha2 := qDJ (k := k) ha
  have h0 := qa3 (fun _ => 1) nB_le xs k i
  have h1 := Int.le_trans (qa2 (fun _ => 1) nB_le xs k (i + 1)) hM
  rw [qas ha] at h1
  show Tr _ _ (qek ((markL mB nB k xs).map eB) (i : Nat) (nextL nB k (xs.take i))) _ (qek ((markL mB nB k xs).map eB) (i + 1 : Nat) (nextL nB k (xs.take (i + 1))))
  rw [qas ha]
  generalize nextL nB k (xs.take i) = K at *
  unfold nB at h1
  exact qDo ⟨lt1 hi2, lt0, lt2 hi2, qac eB ha2, by omega, by simp [mB], ⟨by omega, by omega⟩, ⟨by omega, by omega⟩, trivial⟩) (qDp ⟨ge1, trivial⟩)
 rw [hlm, List.take_length] at l
 exact qDq ⟨l, trivial⟩
theorem qgY (xs : List Record) (k : Int) (hk : 0 ≤ k) (hM : nextL Record.next k xs ≤ 1000000000000) (hl : xs.length ≤ 8388608) :
  RetG Tryz.prog 48 [.one (.gv 5 (xs.map Record.e) (some ((markL Record.mark Record.next k xs).map Record.e))), .one (.ro (I k))] [.one (I (nextL Record.next k xs))] := by
 have l := qaj (P := Tryz.prog) (c := qaa Tryz.f48 0) (stE := qja (nextL Record.next k xs) ((markL Record.mark Record.next k xs).map Record.e)) (qaf 0) xs.length (fun i => qd6 i (nextL Record.next k (xs.take i)) (qai Record.e Record.mark Record.next k xs i)) (fun i hi => by
  obtain ⟨a, ha⟩ := qae hi
  have h0 := qa3 Record.cb Record.next_le xs k i
  have h1 := Int.le_trans (qa2 Record.cb Record.next_le xs k (i + 1)) hM
  rw [qas ha] at h1
  have hlen : (qai Record.e Record.mark Record.next k xs i).length = xs.length := qbV (by omega)
  have hlt := qcK (e := Record.e) (mark := Record.mark) (next := Record.next) (k := k) hi
  have hg := qcI (e := Record.e) (mark := Record.mark) (next := Record.next) (k := k) ha
  have hset := qcJ (e := Record.e) (mark := Record.mark) (next := Record.next) (k := k) ha
  show Tr _ _ (qd6 (i : Nat) (nextL Record.next k (xs.take i)) (qai Record.e Record.mark Record.next k xs i)) _ (qd6 (i + 1 : Nat) (nextL Record.next k (xs.take (i + 1))) (qai Record.e Record.mark Record.next k xs (i + 1)))
  rw [← hset, qas ha]
  generalize nextL Record.next k (xs.take i) = K at *
  generalize qai Record.e Record.mark Record.next k xs i = M at *
  unfold Record.next at h1
  have t := qCG i K M _ _ _ _ _ _ _ _ _ _ _ _ _ _ _ _ _ _ _ _ _ _ _ _ _ ⟨by rw [hlen]; simp only [decide_eq_true_eq]; omega, lt0, hlt, hg, ⟨by omega, by omega⟩, lt0, qag hlt, qav (by (try simp only [List.length_set]); omega), ⟨by omega, by omega⟩, lt0, qag (qag hlt), qav (by (try simp only [List.length_set]); omega), ⟨by omega, by omega⟩, lt0, qag (qag (qag hlt)), qav (by (try simp only [List.length_set]); omega), ⟨by omega, by omega⟩, lt0, qag (qag (qag (qag hlt))), qav (by (try simp only [List.length_set]); omega), ⟨by omega, by omega⟩, up1 hi hl, trivial⟩
  try simp only [List.set_set] at t
  exact t) (by
  have t := qCH xs.length (nextL Record.next k (xs.take xs.length)) (qai Record.e Record.mark Record.next k xs xs.length) ⟨qcL, trivial⟩
  rw [qcH, List.take_length] at t ⊢
  exact t)
 rw [qcG] at l
 exact qCI ⟨l, trivial⟩
theorem qDK {xs : List Record} {k : Int} {i : Nat} {a : Record} (h : xs[i]? = some a) : (markL Record.mark Record.next k xs)[i]? = some (Record.mark (nextL Record.next k (xs.take i)) a) := by
 have hi := lt_of h
 have e : xs = xs.take i ++ a :: xs.drop (i + 1) := by
  have ha : xs[i] = a := by rw [List.getElem?_eq_getElem hi] at h; exact Option.some.inj h
  rw [← ha, ← List.drop_eq_getElem_cons hi, List.take_append_drop]
 conv => lhs; rw [e]
 rw [qbU, List.getElem?_append, qaU, List.length_take, if_neg (by omega), show i - min i xs.length = 0 by omega]
 rfl
theorem qgZ (xs : List Record) (k : Int) (hk : 0 ≤ k) (hM : nextL Record.next k xs ≤ 1000000000000) (hl : xs.length ≤ 8388608) : Rt 134 [.one (.sl 5 ((markL Record.mark Record.next k xs).map Record.e)), .one (I k)] [.one (I (nextL Record.next k xs))] := by
 have hlm : (markL Record.mark Record.next k xs).length = xs.length := qaU
 have l := qaj (P := Tryz.prog) (c := qaa Tryz.f134 0) (qaf 0) (markL Record.mark Record.next k xs).length (fun i => qeg ((markL Record.mark Record.next k xs).map Record.e) i (nextL Record.next k (xs.take i))) (fun i hi2 => by
  have hi : i < xs.length := by omega
  obtain ⟨a, ha⟩ := qae hi
  have ha2 := qDK (k := k) ha
  have h0 := qa3 Record.cb Record.next_le xs k i
  have h1 := Int.le_trans (qa2 Record.cb Record.next_le xs k (i + 1)) hM
  rw [qas ha] at h1
  show Tr _ _ (qeg ((markL Record.mark Record.next k xs).map Record.e) (i : Nat) (nextL Record.next k (xs.take i))) _ (qeg ((markL Record.mark Record.next k xs).map Record.e) (i + 1 : Nat) (nextL Record.next k (xs.take (i + 1))))
  rw [qas ha]
  generalize nextL Record.next k (xs.take i) = K at *
  unfold Record.next at h1
  exact qDc ⟨lt1 hi2, lt0, lt2 hi2, qac Record.e ha2, by simp [Record.mark], ⟨by omega, by omega⟩, lt0, lt2 hi2, qac Record.e ha2, by simp [Record.mark], ⟨by omega, by omega⟩, lt0, lt2 hi2, qac Record.e ha2, by simp [Record.mark], ⟨by omega, by omega⟩, lt0, lt2 hi2, qac Record.e ha2, by simp [Record.mark], ⟨by omega, by omega⟩, lt0, lt2 hi2, qac Record.e ha2, by simp [Record.mark], ⟨by omega, by omega⟩, ⟨by omega, by omega⟩, trivial⟩) (qDd ⟨ge1, trivial⟩)
 rw [hlm, List.take_length] at l
 exact qDe ⟨l, trivial⟩
theorem qDL (xs : List Cell) (k : Int) (hk : 0 ≤ k) (hM : nextL Cell.next k xs ≤ 1000000000000) (hl : xs.length ≤ 8388608) :
  RetG Tryz.prog 49 [.one (.gv 4 (xs.map Cell.e) (some ((markL Cell.mark Cell.next k xs).map Cell.e))), .one (.ro (I k))] [.one (I (nextL Cell.next k xs))] := by
 have l := qaj (P := Tryz.prog) (c := qaa Tryz.f49 0) (stE := qjd (nextL Cell.next k xs) ((markL Cell.mark Cell.next k xs).map Cell.e)) (qaf 0) xs.length (fun i => qd9 i (nextL Cell.next k (xs.take i)) (qai Cell.e Cell.mark Cell.next k xs i)) (fun i hi => by
  obtain ⟨a, ha⟩ := qae hi
  have h0 := qa3 Cell.cb Cell.next_le xs k i
  have h1 := Int.le_trans (qa2 Cell.cb Cell.next_le xs k (i + 1)) hM
  rw [qas ha] at h1
  have hlen : (qai Cell.e Cell.mark Cell.next k xs i).length = xs.length := qbV (by omega)
  have hlt := qcK (e := Cell.e) (mark := Cell.mark) (next := Cell.next) (k := k) hi
  have hg := qcI (e := Cell.e) (mark := Cell.mark) (next := Cell.next) (k := k) ha
  have hset := qcJ (e := Cell.e) (mark := Cell.mark) (next := Cell.next) (k := k) ha
  show Tr _ _ (qd9 (i : Nat) (nextL Cell.next k (xs.take i)) (qai Cell.e Cell.mark Cell.next k xs i)) _ (qd9 (i + 1 : Nat) (nextL Cell.next k (xs.take (i + 1))) (qai Cell.e Cell.mark Cell.next k xs (i + 1)))
  rw [← hset, qas ha]
  generalize nextL Cell.next k (xs.take i) = K at *
  generalize qai Cell.e Cell.mark Cell.next k xs i = M at *
  unfold Cell.next at h1
  have t := qCP i K M _ _ _ _ _ _ _ _ _ _ _ _ _ _ _ _ ⟨by rw [hlen]; simp only [decide_eq_true_eq]; omega, lt0, hlt, hg, ⟨by omega, by omega⟩, lt0, qag hlt, qav (by (try simp only [List.length_set]); omega), ⟨by omega, by omega⟩, lt0, qag (qag hlt), qav (by (try simp only [List.length_set]); omega), ⟨by omega, by omega⟩, lt0, qag (qag (qag hlt)), qav (by (try simp only [List.length_set]); omega), ⟨by omega, by omega⟩, up1 hi hl, trivial⟩
  try simp only [List.set_set] at t
  exact t) (by
  have t := qCQ xs.length (nextL Cell.next k (xs.take xs.length)) (qai Cell.e Cell.mark Cell.next k xs xs.length) ⟨qcL, trivial⟩
  rw [qcH, List.take_length] at t ⊢
  exact t)
 rw [qcG] at l
 exact qCR ⟨l, trivial⟩
theorem qDM {xs : List Cell} {k : Int} {i : Nat} {a : Cell} (h : xs[i]? = some a) : (markL Cell.mark Cell.next k xs)[i]? = some (Cell.mark (nextL Cell.next k (xs.take i)) a) := by
 have hi := lt_of h
 have e : xs = xs.take i ++ a :: xs.drop (i + 1) := by
  have ha : xs[i] = a := by rw [List.getElem?_eq_getElem hi] at h; exact Option.some.inj h
  rw [← ha, ← List.drop_eq_getElem_cons hi, List.take_append_drop]
 conv => lhs; rw [e]
 rw [qbU, List.getElem?_append, qaU, List.length_take, if_neg (by omega), show i - min i xs.length = 0 by omega]
 rfl
theorem qDN (xs : List Cell) (k : Int) (hk : 0 ≤ k) (hM : nextL Cell.next k xs ≤ 1000000000000) (hl : xs.length ≤ 8388608) : Rt 50 [.one (.sl 4 ((markL Cell.mark Cell.next k xs).map Cell.e)), .one (I k)] [.one (I (nextL Cell.next k xs))] := by
 have hlm : (markL Cell.mark Cell.next k xs).length = xs.length := qaU
 have l := qaj (P := Tryz.prog) (c := qaa Tryz.f50 0) (qaf 0) (markL Cell.mark Cell.next k xs).length (fun i => qej ((markL Cell.mark Cell.next k xs).map Cell.e) i (nextL Cell.next k (xs.take i))) (fun i hi2 => by
  have hi : i < xs.length := by omega
  obtain ⟨a, ha⟩ := qae hi
  have ha2 := qDM (k := k) ha
  have h0 := qa3 Cell.cb Cell.next_le xs k i
  have h1 := Int.le_trans (qa2 Cell.cb Cell.next_le xs k (i + 1)) hM
  rw [qas ha] at h1
  show Tr _ _ (qej ((markL Cell.mark Cell.next k xs).map Cell.e) (i : Nat) (nextL Cell.next k (xs.take i))) _ (qej ((markL Cell.mark Cell.next k xs).map Cell.e) (i + 1 : Nat) (nextL Cell.next k (xs.take (i + 1))))
  rw [qas ha]
  generalize nextL Cell.next k (xs.take i) = K at *
  unfold Cell.next at h1
  exact qDl ⟨lt1 hi2, lt0, lt2 hi2, qac Cell.e ha2, by simp [Cell.mark], ⟨by omega, by omega⟩, lt0, lt2 hi2, qac Cell.e ha2, by simp [Cell.mark], ⟨by omega, by omega⟩, lt0, lt2 hi2, qac Cell.e ha2, by simp [Cell.mark], ⟨by omega, by omega⟩, lt0, lt2 hi2, qac Cell.e ha2, by simp [Cell.mark], ⟨by omega, by omega⟩, ⟨by omega, by omega⟩, trivial⟩) (qDm ⟨ge1, trivial⟩)
 rw [hlm, List.take_length] at l
 exact qDn ⟨l, trivial⟩
theorem qDO (xs : List Done) (k : Int) (hk : 0 ≤ k) (hM : nextL Done.next k xs ≤ 1000000000000) (hl : xs.length ≤ 8388608) :
  RetG Tryz.prog 132 [.one (.gv 2 (xs.map Done.e) (some ((markL Done.mark Done.next k xs).map Done.e))), .one (.ro (I k))] [.one (I (nextL Done.next k xs))] := by
 have l := qaj (P := Tryz.prog) (c := qaa Tryz.f132 0) (stE := qjf (nextL Done.next k xs) ((markL Done.mark Done.next k xs).map Done.e)) (qaf 0) xs.length (fun i => qeb i (nextL Done.next k (xs.take i)) (qai Done.e Done.mark Done.next k xs i)) (fun i hi => by
  obtain ⟨a, ha⟩ := qae hi
  have h0 := qa3 Done.cb Done.next_le xs k i
  have h1 := Int.le_trans (qa2 Done.cb Done.next_le xs k (i + 1)) hM
  rw [qas ha] at h1
  have hlen : (qai Done.e Done.mark Done.next k xs i).length = xs.length := qbV (by omega)
  have hlt := qcK (e := Done.e) (mark := Done.mark) (next := Done.next) (k := k) hi
  have hg := qcI (e := Done.e) (mark := Done.mark) (next := Done.next) (k := k) ha
  have hset := qcJ (e := Done.e) (mark := Done.mark) (next := Done.next) (k := k) ha
  show Tr _ _ (qeb (i : Nat) (nextL Done.next k (xs.take i)) (qai Done.e Done.mark Done.next k xs i)) _ (qeb (i + 1 : Nat) (nextL Done.next k (xs.take (i + 1))) (qai Done.e Done.mark Done.next k xs (i + 1)))
  rw [← hset, qas ha]
  generalize nextL Done.next k (xs.take i) = K at *
  generalize qai Done.e Done.mark Done.next k xs i = M at *
  unfold Done.next at h1
  have t := qCV i K M _ _ _ _ ⟨by rw [hlen]; simp only [decide_eq_true_eq]; omega, lt0, hlt, hg, ⟨by omega, by omega⟩, by omega, lt0, qag hlt, qav (by (try simp only [List.length_set]); omega), ⟨by omega, by omega⟩, up1 hi hl, trivial⟩
  try simp only [List.set_set] at t
  exact t) (by
  have t := qCW xs.length (nextL Done.next k (xs.take xs.length)) (qai Done.e Done.mark Done.next k xs xs.length) ⟨qcL, trivial⟩
  rw [qcH, List.take_length] at t ⊢
  exact t)
 rw [qcG] at l
 exact qCX ⟨l, trivial⟩
theorem qDP {xs : List Done} {k : Int} {i : Nat} {a : Done} (h : xs[i]? = some a) : (markL Done.mark Done.next k xs)[i]? = some (Done.mark (nextL Done.next k (xs.take i)) a) := by
 have hi := lt_of h
 have e : xs = xs.take i ++ a :: xs.drop (i + 1) := by
  have ha : xs[i] = a := by rw [List.getElem?_eq_getElem hi] at h; exact Option.some.inj h
  rw [← ha, ← List.drop_eq_getElem_cons hi, List.take_append_drop]
 conv => lhs; rw [e]
 rw [qbU, List.getElem?_append, qaU, List.length_take, if_neg (by omega), show i - min i xs.length = 0 by omega]
 rfl
theorem qDQ (xs : List Done) (k : Int) (hk : 0 ≤ k) (hM : nextL Done.next k xs ≤ 1000000000000) (hl : xs.length ≤ 8388608) : Rt 136 [.one (.sl 2 ((markL Done.mark Done.next k xs).map Done.e)), .one (I k)] [.one (I (nextL Done.next k xs))] := by
 have hlm : (markL Done.mark Done.next k xs).length = xs.length := qaU
 have l := qaj (P := Tryz.prog) (c := qaa Tryz.f136 0) (qaf 0) (markL Done.mark Done.next k xs).length (fun i => qel ((markL Done.mark Done.next k xs).map Done.e) i (nextL Done.next k (xs.take i))) (fun i hi2 => by
  have hi : i < xs.length := by omega
  obtain ⟨a, ha⟩ := qae hi
  have ha2 := qDP (k := k) ha
  have h0 := qa3 Done.cb Done.next_le xs k i
  have h1 := Int.le_trans (qa2 Done.cb Done.next_le xs k (i + 1)) hM
  rw [qas ha] at h1
  show Tr _ _ (qel ((markL Done.mark Done.next k xs).map Done.e) (i : Nat) (nextL Done.next k (xs.take i))) _ (qel ((markL Done.mark Done.next k xs).map Done.e) (i + 1 : Nat) (nextL Done.next k (xs.take (i + 1))))
  rw [qas ha]
  generalize nextL Done.next k (xs.take i) = K at *
  unfold Done.next at h1
  exact qDr ⟨lt1 hi2, lt0, lt2 hi2, qac Done.e ha2, by simp [Done.mark], ⟨by omega, by omega⟩, lt0, lt2 hi2, qac Done.e ha2, by omega, by simp [Done.mark], ⟨by omega, by omega⟩, ⟨by omega, by omega⟩, trivial⟩) (qDs ⟨ge1, trivial⟩)
 rw [hlm, List.take_length] at l
 exact qDt ⟨l, trivial⟩
theorem qDR (xs : List Token) (k : Int) (hk : 0 ≤ k) (hM : nextL Token.next k xs ≤ 1000000000000) (hl : xs.length ≤ 8388608) :
  RetG Tryz.prog 73 [.one (.gv 5 (xs.map Token.e) (some ((markL Token.mark Token.next k xs).map Token.e))), .one (.ro (I k))] [.one (I (nextL Token.next k xs))] := by
 have l := qaj (P := Tryz.prog) (c := qaa Tryz.f73 0) (stE := qjg (nextL Token.next k xs) ((markL Token.mark Token.next k xs).map Token.e)) (qaf 0) xs.length (fun i => qec i (nextL Token.next k (xs.take i)) (qai Token.e Token.mark Token.next k xs i)) (fun i hi => by
  obtain ⟨a, ha⟩ := qae hi
  have h0 := qa3 Token.cb Token.next_le xs k i
  have h1 := Int.le_trans (qa2 Token.cb Token.next_le xs k (i + 1)) hM
  rw [qas ha] at h1
  have hlen : (qai Token.e Token.mark Token.next k xs i).length = xs.length := qbV (by omega)
  have hlt := qcK (e := Token.e) (mark := Token.mark) (next := Token.next) (k := k) hi
  have hg := qcI (e := Token.e) (mark := Token.mark) (next := Token.next) (k := k) ha
  have hset := qcJ (e := Token.e) (mark := Token.mark) (next := Token.next) (k := k) ha
  show Tr _ _ (qec (i : Nat) (nextL Token.next k (xs.take i)) (qai Token.e Token.mark Token.next k xs i)) _ (qec (i + 1 : Nat) (nextL Token.next k (xs.take (i + 1))) (qai Token.e Token.mark Token.next k xs (i + 1)))
  rw [← hset, qas ha]
  generalize nextL Token.next k (xs.take i) = K at *
  generalize qai Token.e Token.mark Token.next k xs i = M at *
  unfold Token.next at h1
  have t := qCY i K M _ _ _ _ _ _ _ _ _ _ _ _ _ _ _ _ _ _ _ _ _ _ _ _ _ ⟨by rw [hlen]; simp only [decide_eq_true_eq]; omega, by omega, lt0, hlt, hg, ⟨by omega, by omega⟩, lt0, qag hlt, qav (by (try simp only [List.length_set]); omega), ⟨by omega, by omega⟩, lt0, qag (qag hlt), qav (by (try simp only [List.length_set]); omega), ⟨by omega, by omega⟩, by omega, lt0, qag (qag (qag hlt)), qav (by (try simp only [List.length_set]); omega), ⟨by omega, by omega⟩, by omega, lt0, qag (qag (qag (qag hlt))), qav (by (try simp only [List.length_set]); omega), ⟨by omega, by omega⟩, up1 hi hl, trivial⟩
  try simp only [List.set_set] at t
  exact t) (by
  have t := qCZ xs.length (nextL Token.next k (xs.take xs.length)) (qai Token.e Token.mark Token.next k xs xs.length) ⟨qcL, trivial⟩
  rw [qcH, List.take_length] at t ⊢
  exact t)
 rw [qcG] at l
 exact qC0 ⟨l, trivial⟩
theorem qDS {xs : List Token} {k : Int} {i : Nat} {a : Token} (h : xs[i]? = some a) : (markL Token.mark Token.next k xs)[i]? = some (Token.mark (nextL Token.next k (xs.take i)) a) := by
 have hi := lt_of h
 have e : xs = xs.take i ++ a :: xs.drop (i + 1) := by
  have ha : xs[i] = a := by rw [List.getElem?_eq_getElem hi] at h; exact Option.some.inj h
  rw [← ha, ← List.drop_eq_getElem_cons hi, List.take_append_drop]
 conv => lhs; rw [e]
 rw [qbU, List.getElem?_append, qaU, List.length_take, if_neg (by omega), show i - min i xs.length = 0 by omega]
 rfl
theorem qDT (xs : List Token) (k : Int) (hk : 0 ≤ k) (hM : nextL Token.next k xs ≤ 1000000000000) (hl : xs.length ≤ 8388608) : Rt 78 [.one (.sl 5 ((markL Token.mark Token.next k xs).map Token.e)), .one (I k)] [.one (I (nextL Token.next k xs))] := by
 have hlm : (markL Token.mark Token.next k xs).length = xs.length := qaU
 have l := qaj (P := Tryz.prog) (c := qaa Tryz.f78 0) (qaf 0) (markL Token.mark Token.next k xs).length (fun i => qem ((markL Token.mark Token.next k xs).map Token.e) i (nextL Token.next k (xs.take i))) (fun i hi2 => by
  have hi : i < xs.length := by omega
  obtain ⟨a, ha⟩ := qae hi
  have ha2 := qDS (k := k) ha
  have h0 := qa3 Token.cb Token.next_le xs k i
  have h1 := Int.le_trans (qa2 Token.cb Token.next_le xs k (i + 1)) hM
  rw [qas ha] at h1
  show Tr _ _ (qem ((markL Token.mark Token.next k xs).map Token.e) (i : Nat) (nextL Token.next k (xs.take i))) _ (qem ((markL Token.mark Token.next k xs).map Token.e) (i + 1 : Nat) (nextL Token.next k (xs.take (i + 1))))
  rw [qas ha]
  generalize nextL Token.next k (xs.take i) = K at *
  unfold Token.next at h1
  exact qDu ⟨lt1 hi2, lt0, lt2 hi2, qac Token.e ha2, by omega, by simp [Token.mark], ⟨by omega, by omega⟩, lt0, lt2 hi2, qac Token.e ha2, by simp [Token.mark], ⟨by omega, by omega⟩, lt0, lt2 hi2, qac Token.e ha2, by simp [Token.mark], ⟨by omega, by omega⟩, lt0, lt2 hi2, qac Token.e ha2, by omega, by simp [Token.mark], ⟨by omega, by omega⟩, lt0, lt2 hi2, qac Token.e ha2, by omega, by simp [Token.mark], ⟨by omega, by omega⟩, ⟨by omega, by omega⟩, trivial⟩) (qDv ⟨ge1, trivial⟩)
 rw [hlm, List.take_length] at l
 exact qDw ⟨l, trivial⟩
theorem qDU (xs : List News) (k : Int) (hk : 0 ≤ k) (hM : nextL News.next k xs ≤ 1000000000000) (hl : xs.length ≤ 8388608) :
  RetG Tryz.prog 74 [.one (.gv 3 (xs.map News.e) (some ((markL News.mark News.next k xs).map News.e))), .one (.ro (I k))] [.one (I (nextL News.next k xs))] := by
 have l := qaj (P := Tryz.prog) (c := qaa Tryz.f74 0) (stE := qjb (nextL News.next k xs) ((markL News.mark News.next k xs).map News.e)) (qaf 0) xs.length (fun i => qd7 i (nextL News.next k (xs.take i)) (qai News.e News.mark News.next k xs i)) (fun i hi => by
  obtain ⟨a, ha⟩ := qae hi
  have h0 := qa3 News.cb News.next_le xs k i
  have h1 := Int.le_trans (qa2 News.cb News.next_le xs k (i + 1)) hM
  rw [qas ha] at h1
  have hlen : (qai News.e News.mark News.next k xs i).length = xs.length := qbV (by omega)
  have hlt := qcK (e := News.e) (mark := News.mark) (next := News.next) (k := k) hi
  have hg := qcI (e := News.e) (mark := News.mark) (next := News.next) (k := k) ha
  have hset := qcJ (e := News.e) (mark := News.mark) (next := News.next) (k := k) ha
  show Tr _ _ (qd7 (i : Nat) (nextL News.next k (xs.take i)) (qai News.e News.mark News.next k xs i)) _ (qd7 (i + 1 : Nat) (nextL News.next k (xs.take (i + 1))) (qai News.e News.mark News.next k xs (i + 1)))
  rw [← hset, qas ha]
  generalize nextL News.next k (xs.take i) = K at *
  generalize qai News.e News.mark News.next k xs i = M at *
  unfold News.next at h1
  have t := qCJ i K M _ _ _ _ _ _ _ _ _ ⟨by rw [hlen]; simp only [decide_eq_true_eq]; omega, lt0, hlt, hg, ⟨by omega, by omega⟩, lt0, qag hlt, qav (by (try simp only [List.length_set]); omega), ⟨by omega, by omega⟩, by omega, lt0, qag (qag hlt), qav (by (try simp only [List.length_set]); omega), ⟨by omega, by omega⟩, up1 hi hl, trivial⟩
  try simp only [List.set_set] at t
  exact t) (by
  have t := qCK xs.length (nextL News.next k (xs.take xs.length)) (qai News.e News.mark News.next k xs xs.length) ⟨qcL, trivial⟩
  rw [qcH, List.take_length] at t ⊢
  exact t)
 rw [qcG] at l
 exact qCL ⟨l, trivial⟩
theorem qDV {xs : List News} {k : Int} {i : Nat} {a : News} (h : xs[i]? = some a) : (markL News.mark News.next k xs)[i]? = some (News.mark (nextL News.next k (xs.take i)) a) := by
 have hi := lt_of h
 have e : xs = xs.take i ++ a :: xs.drop (i + 1) := by
  have ha : xs[i] = a := by rw [List.getElem?_eq_getElem hi] at h; exact Option.some.inj h
  rw [← ha, ← List.drop_eq_getElem_cons hi, List.take_append_drop]
 conv => lhs; rw [e]
 rw [qbU, List.getElem?_append, qaU, List.length_take, if_neg (by omega), show i - min i xs.length = 0 by omega]
 rfl
theorem qDW (xs : List News) (k : Int) (hk : 0 ≤ k) (hM : nextL News.next k xs ≤ 1000000000000) (hl : xs.length ≤ 8388608) : Rt 79 [.one (.sl 3 ((markL News.mark News.next k xs).map News.e)), .one (I k)] [.one (I (nextL News.next k xs))] := by
 have hlm : (markL News.mark News.next k xs).length = xs.length := qaU
 have l := qaj (P := Tryz.prog) (c := qaa Tryz.f79 0) (qaf 0) (markL News.mark News.next k xs).length (fun i => qeh ((markL News.mark News.next k xs).map News.e) i (nextL News.next k (xs.take i))) (fun i hi2 => by
  have hi : i < xs.length := by omega
  obtain ⟨a, ha⟩ := qae hi
  have ha2 := qDV (k := k) ha
  have h0 := qa3 News.cb News.next_le xs k i
  have h1 := Int.le_trans (qa2 News.cb News.next_le xs k (i + 1)) hM
  rw [qas ha] at h1
  show Tr _ _ (qeh ((markL News.mark News.next k xs).map News.e) (i : Nat) (nextL News.next k (xs.take i))) _ (qeh ((markL News.mark News.next k xs).map News.e) (i + 1 : Nat) (nextL News.next k (xs.take (i + 1))))
  rw [qas ha]
  generalize nextL News.next k (xs.take i) = K at *
  unfold News.next at h1
  exact qDf ⟨lt1 hi2, lt0, lt2 hi2, qac News.e ha2, by simp [News.mark], ⟨by omega, by omega⟩, lt0, lt2 hi2, qac News.e ha2, by simp [News.mark], ⟨by omega, by omega⟩, lt0, lt2 hi2, qac News.e ha2, by omega, by simp [News.mark], ⟨by omega, by omega⟩, ⟨by omega, by omega⟩, trivial⟩) (qDg ⟨ge1, trivial⟩)
 rw [hlm, List.take_length] at l
 exact qDh ⟨l, trivial⟩
theorem qDX (xs : List Node) (k : Int) (hk : 0 ≤ k) (hM : nextL Node.next k xs ≤ 1000000000000) (hl : xs.length ≤ 8388608) (hs : ∀ x ∈ xs, x.sz ≤ 8388608) :
  RetG Tryz.prog 109 [.one (.gv 4 (xs.map Node.e) (some ((markL Node.mark Node.next k xs).map Node.e))), .one (.ro (I k))] [.one (I (nextL Node.next k xs))] := by
 have l := qaj (P := Tryz.prog) (c := qaa Tryz.f109 0) (stE := qjh (nextL Node.next k xs) ((markL Node.mark Node.next k xs).map Node.e)) (qaf 0) xs.length (fun i => qed i (nextL Node.next k (xs.take i)) (qai Node.e Node.mark Node.next k xs i)) (fun i hi => by
  obtain ⟨a, ha⟩ := qae hi
  have h0 := qa3 Node.cb Node.next_le xs k i
  have h1 := Int.le_trans (qa2 Node.cb Node.next_le xs k (i + 1)) hM
  rw [qas ha] at h1
  have hlen : (qai Node.e Node.mark Node.next k xs i).length = xs.length := qbV (by omega)
  have hlt := qcK (e := Node.e) (mark := Node.mark) (next := Node.next) (k := k) hi
  have hg := qcI (e := Node.e) (mark := Node.mark) (next := Node.next) (k := k) ha
  have hset := qcJ (e := Node.e) (mark := Node.mark) (next := Node.next) (k := k) ha
  show Tr _ _ (qed (i : Nat) (nextL Node.next k (xs.take i)) (qai Node.e Node.mark Node.next k xs i)) _ (qed (i + 1 : Nat) (nextL Node.next k (xs.take (i + 1))) (qai Node.e Node.mark Node.next k xs (i + 1)))
  rw [← hset, qas ha]
  generalize nextL Node.next k (xs.take i) = K at *
  generalize qai Node.e Node.mark Node.next k xs i = M at *
  have hz := hs a (qap ha)
  unfold Node.next at h1
  have f0 := qaq (fun _ => 1) nI_le a.outs (K + 1 + 1 + 1)
  have t := qC1 i K M _ _ _ _ _ _ _ _ _ _ _ _ _ _ _ _ _ _ ⟨by rw [hlen]; simp only [decide_eq_true_eq]; omega, lt0, hlt, hg, ⟨by omega, by omega⟩, lt0, qag hlt, qav (by (try simp only [List.length_set]); omega), ⟨by omega, by omega⟩, lt0, qag (qag hlt), qav (by (try simp only [List.length_set]); omega), ⟨by omega, by omega⟩, lt0, qag (qag (qag hlt)), qav (by (try simp only [List.length_set]); omega), qnc a.outs (K + 1 + 1 + 1) (by omega) (by omega) (by simp only [Node.sz] at hz; omega), qav (by (try simp only [List.length_set]); omega), rfl, up1 hi hl, trivial⟩
  try simp only [List.set_set] at t
  exact t) (by
  have t := qC2 xs.length (nextL Node.next k (xs.take xs.length)) (qai Node.e Node.mark Node.next k xs xs.length) ⟨qcL, trivial⟩
  rw [qcH, List.take_length] at t ⊢
  exact t)
 rw [qcG] at l
 exact qC3 ⟨l, trivial⟩
theorem qDY {xs : List Node} {k : Int} {i : Nat} {a : Node} (h : xs[i]? = some a) : (markL Node.mark Node.next k xs)[i]? = some (Node.mark (nextL Node.next k (xs.take i)) a) := by
 have hi := lt_of h
 have e : xs = xs.take i ++ a :: xs.drop (i + 1) := by
  have ha : xs[i] = a := by rw [List.getElem?_eq_getElem hi] at h; exact Option.some.inj h
  rw [← ha, ← List.drop_eq_getElem_cons hi, List.take_append_drop]
 conv => lhs; rw [e]
 rw [qbU, List.getElem?_append, qaU, List.length_take, if_neg (by omega), show i - min i xs.length = 0 by omega]
 rfl
theorem qDZ (xs : List Node) (k : Int) (hk : 0 ≤ k) (hM : nextL Node.next k xs ≤ 1000000000000) (hl : xs.length ≤ 8388608) (hs : ∀ x ∈ xs, x.sz ≤ 8388608) : Rt 133 [.one (.sl 4 ((markL Node.mark Node.next k xs).map Node.e)), .one (I k)] [.one (I (nextL Node.next k xs))] := by
 have hlm : (markL Node.mark Node.next k xs).length = xs.length := qaU
 have l := qaj (P := Tryz.prog) (c := qaa Tryz.f133 0) (qaf 0) (markL Node.mark Node.next k xs).length (fun i => qen ((markL Node.mark Node.next k xs).map Node.e) i (nextL Node.next k (xs.take i))) (fun i hi2 => by
  have hi : i < xs.length := by omega
  obtain ⟨a, ha⟩ := qae hi
  have ha2 := qDY (k := k) ha
  have h0 := qa3 Node.cb Node.next_le xs k i
  have h1 := Int.le_trans (qa2 Node.cb Node.next_le xs k (i + 1)) hM
  rw [qas ha] at h1
  show Tr _ _ (qen ((markL Node.mark Node.next k xs).map Node.e) (i : Nat) (nextL Node.next k (xs.take i))) _ (qen ((markL Node.mark Node.next k xs).map Node.e) (i + 1 : Nat) (nextL Node.next k (xs.take (i + 1))))
  rw [qas ha]
  generalize nextL Node.next k (xs.take i) = K at *
  have hz := hs a (qap ha)
  unfold Node.next at h1
  have f0 := qaq (fun _ => 1) nI_le a.outs (K + 1 + 1 + 1)
  exact qDx ⟨lt1 hi2, lt0, lt2 hi2, qac Node.e ha2, by simp [Node.mark], ⟨by omega, by omega⟩, lt0, lt2 hi2, qac Node.e ha2, by simp [Node.mark], ⟨by omega, by omega⟩, lt0, lt2 hi2, qac Node.e ha2, by simp [Node.mark], ⟨by omega, by omega⟩, lt0, lt2 hi2, qac Node.e ha2, qnd a.outs (K + 1 + 1 + 1) (by omega) (by omega) (by simp only [Node.sz] at hz; omega), by simp only [decide_eq_false_iff_not]; (try unfold Node.next); omega, ⟨by omega, by omega⟩, trivial⟩) (qDy ⟨ge1, trivial⟩)
 rw [hlm, List.take_length] at l
 exact qDz ⟨l, trivial⟩
theorem qD0 (xs : List Link) (k : Int) (hk : 0 ≤ k) (hM : nextL Link.next k xs ≤ 1000000000000) (hl : xs.length ≤ 8388608) (hs : ∀ x ∈ xs, x.sz ≤ 8388608) :
  RetG Tryz.prog 72 [.one (.gv 6 (xs.map Link.e) (some ((markL Link.mark Link.next k xs).map Link.e))), .one (.ro (I k))] [.one (I (nextL Link.next k xs))] := by
 have l := qaj (P := Tryz.prog) (c := qaa Tryz.f72 0) (stE := qji (nextL Link.next k xs) ((markL Link.mark Link.next k xs).map Link.e)) (qaf 0) xs.length (fun i => qee i (nextL Link.next k (xs.take i)) (qai Link.e Link.mark Link.next k xs i)) (fun i hi => by
  obtain ⟨a, ha⟩ := qae hi
  have h0 := qa3 Link.cb Link.next_le xs k i
  have h1 := Int.le_trans (qa2 Link.cb Link.next_le xs k (i + 1)) hM
  rw [qas ha] at h1
  have hlen : (qai Link.e Link.mark Link.next k xs i).length = xs.length := qbV (by omega)
  have hlt := qcK (e := Link.e) (mark := Link.mark) (next := Link.next) (k := k) hi
  have hg := qcI (e := Link.e) (mark := Link.mark) (next := Link.next) (k := k) ha
  have hset := qcJ (e := Link.e) (mark := Link.mark) (next := Link.next) (k := k) ha
  show Tr _ _ (qee (i : Nat) (nextL Link.next k (xs.take i)) (qai Link.e Link.mark Link.next k xs i)) _ (qee (i + 1 : Nat) (nextL Link.next k (xs.take (i + 1))) (qai Link.e Link.mark Link.next k xs (i + 1)))
  rw [← hset, qas ha]
  generalize nextL Link.next k (xs.take i) = K at *
  generalize qai Link.e Link.mark Link.next k xs i = M at *
  have hz := hs a (qap ha)
  unfold Link.next at h1
  have f0 := qaq Record.cb Record.next_le a.queue (K + 1)
  have t := qC4 i K M _ _ _ _ _ _ _ _ _ _ _ _ _ _ _ _ _ _ _ _ _ _ _ _ _ _ _ _ _ _ _ _ _ _ _ _ _ _ ⟨by rw [hlen]; simp only [decide_eq_true_eq]; omega, lt0, hlt, hg, ⟨by omega, by omega⟩, lt0, qag hlt, qav (by (try simp only [List.length_set]); omega), qgY a.queue (K + 1) (by omega) (by omega) (by simp only [Link.sz] at hz; omega), qav (by (try simp only [List.length_set]); omega), rfl, lt0, qag (qag hlt), qav (by (try simp only [List.length_set]); omega), ⟨by omega, by omega⟩, lt0, qag (qag (qag hlt)), qav (by (try simp only [List.length_set]); omega), ⟨by omega, by omega⟩, lt0, qag (qag (qag (qag hlt))), qav (by (try simp only [List.length_set]); omega), ⟨by omega, by omega⟩, lt0, qag (qag (qag (qag (qag hlt)))), qav (by (try simp only [List.length_set]); omega), ⟨by omega, by omega⟩, up1 hi hl, trivial⟩
  try simp only [List.set_set] at t
  exact t) (by
  have t := qC5 xs.length (nextL Link.next k (xs.take xs.length)) (qai Link.e Link.mark Link.next k xs xs.length) ⟨qcL, trivial⟩
  rw [qcH, List.take_length] at t ⊢
  exact t)
 rw [qcG] at l
 exact qC6 ⟨l, trivial⟩
theorem qD1 {xs : List Link} {k : Int} {i : Nat} {a : Link} (h : xs[i]? = some a) : (markL Link.mark Link.next k xs)[i]? = some (Link.mark (nextL Link.next k (xs.take i)) a) := by
 have hi := lt_of h
 have e : xs = xs.take i ++ a :: xs.drop (i + 1) := by
  have ha : xs[i] = a := by rw [List.getElem?_eq_getElem hi] at h; exact Option.some.inj h
  rw [← ha, ← List.drop_eq_getElem_cons hi, List.take_append_drop]
 conv => lhs; rw [e]
 rw [qbU, List.getElem?_append, qaU, List.length_take, if_neg (by omega), show i - min i xs.length = 0 by omega]
 rfl
theorem qD2 (xs : List Link) (k : Int) (hk : 0 ≤ k) (hM : nextL Link.next k xs ≤ 1000000000000) (hl : xs.length ≤ 8388608) (hs : ∀ x ∈ xs, x.sz ≤ 8388608) : Rt 77 [.one (.sl 6 ((markL Link.mark Link.next k xs).map Link.e)), .one (I k)] [.one (I (nextL Link.next k xs))] := by
 have hlm : (markL Link.mark Link.next k xs).length = xs.length := qaU
 have l := qaj (P := Tryz.prog) (c := qaa Tryz.f77 0) (qaf 0) (markL Link.mark Link.next k xs).length (fun i => qeo ((markL Link.mark Link.next k xs).map Link.e) i (nextL Link.next k (xs.take i))) (fun i hi2 => by
  have hi : i < xs.length := by omega
  obtain ⟨a, ha⟩ := qae hi
  have ha2 := qD1 (k := k) ha
  have h0 := qa3 Link.cb Link.next_le xs k i
  have h1 := Int.le_trans (qa2 Link.cb Link.next_le xs k (i + 1)) hM
  rw [qas ha] at h1
  show Tr _ _ (qeo ((markL Link.mark Link.next k xs).map Link.e) (i : Nat) (nextL Link.next k (xs.take i))) _ (qeo ((markL Link.mark Link.next k xs).map Link.e) (i + 1 : Nat) (nextL Link.next k (xs.take (i + 1))))
  rw [qas ha]
  generalize nextL Link.next k (xs.take i) = K at *
  have hz := hs a (qap ha)
  unfold Link.next at h1
  have f0 := qaq Record.cb Record.next_le a.queue (K + 1)
  exact qDA ⟨lt1 hi2, lt0, lt2 hi2, qac Link.e ha2, by simp [Link.mark], ⟨by omega, by omega⟩, lt0, lt2 hi2, qac Link.e ha2, qgZ a.queue (K + 1) (by omega) (by omega) (by simp only [Link.sz] at hz; omega), by simp only [decide_eq_false_iff_not]; (try unfold Link.next); omega, lt0, lt2 hi2, qac Link.e ha2, by simp [Link.mark], ⟨by omega, by omega⟩, lt0, lt2 hi2, qac Link.e ha2, by simp [Link.mark], ⟨by omega, by omega⟩, lt0, lt2 hi2, qac Link.e ha2, by simp [Link.mark], ⟨by omega, by omega⟩, lt0, lt2 hi2, qac Link.e ha2, by simp [Link.mark], ⟨by omega, by omega⟩, ⟨by omega, by omega⟩, trivial⟩) (qDB ⟨ge1, trivial⟩)
 rw [hlm, List.take_length] at l
 exact qDC ⟨l, trivial⟩
theorem qD3 (xs : List Worker) (k : Int) (hk : 0 ≤ k) (hM : nextL Worker.next k xs ≤ 1000000000000) (hl : xs.length ≤ 8388608) (hs : ∀ x ∈ xs, x.sz ≤ 8388608) :
  RetG Tryz.prog 71 [.one (.gv 8 (xs.map Worker.e) (some ((markL Worker.mark Worker.next k xs).map Worker.e))), .one (.ro (I k))] [.one (I (nextL Worker.next k xs))] := by
 have l := qaj (P := Tryz.prog) (c := qaa Tryz.f71 0) (stE := qjj (nextL Worker.next k xs) ((markL Worker.mark Worker.next k xs).map Worker.e)) (qaf 0) xs.length (fun i => qef i (nextL Worker.next k (xs.take i)) (qai Worker.e Worker.mark Worker.next k xs i)) (fun i hi => by
  obtain ⟨a, ha⟩ := qae hi
  have h0 := qa3 Worker.cb Worker.next_le xs k i
  have h1 := Int.le_trans (qa2 Worker.cb Worker.next_le xs k (i + 1)) hM
  rw [qas ha] at h1
  have hlen : (qai Worker.e Worker.mark Worker.next k xs i).length = xs.length := qbV (by omega)
  have hlt := qcK (e := Worker.e) (mark := Worker.mark) (next := Worker.next) (k := k) hi
  have hg := qcI (e := Worker.e) (mark := Worker.mark) (next := Worker.next) (k := k) ha
  have hset := qcJ (e := Worker.e) (mark := Worker.mark) (next := Worker.next) (k := k) ha
  show Tr _ _ (qef (i : Nat) (nextL Worker.next k (xs.take i)) (qai Worker.e Worker.mark Worker.next k xs i)) _ (qef (i + 1 : Nat) (nextL Worker.next k (xs.take (i + 1))) (qai Worker.e Worker.mark Worker.next k xs (i + 1)))
  rw [← hset, qas ha]
  generalize nextL Worker.next k (xs.take i) = K at *
  generalize qai Worker.e Worker.mark Worker.next k xs i = M at *
  have hz := hs a (qap ha)
  unfold Worker.next at h1
  have f0 := qaq Record.cb Record.next_le a.queue K
  have f1 := qaq Record.cb Record.next_le a.staged (nextL Record.next K a.queue)
  have f2 := qaq Record.cb Record.next_le a.inputs (nextL Record.next (nextL Record.next K a.queue) a.staged)
  have f3 := qaq Cell.cb Cell.next_le a.cells (nextL Record.next (nextL Record.next (nextL Record.next K a.queue) a.staged) a.inputs)
  have f4 := qaq (fun _ => 1) nI_le a.sums (nextL Cell.next (nextL Record.next (nextL Record.next (nextL Record.next K a.queue) a.staged) a.inputs) a.cells)
  have f5 := qaq (fun _ => 1) nB_le a.black (nextL nI (nextL Cell.next (nextL Record.next (nextL Record.next (nextL Record.next K a.queue) a.staged) a.inputs) a.cells) a.sums)
  have f6 := qaq (fun _ => 1) nB_le a.caps (nextL nB (nextL nI (nextL Cell.next (nextL Record.next (nextL Record.next (nextL Record.next K a.queue) a.staged) a.inputs) a.cells) a.sums) a.black)
  have f7 := qaq Done.cb Done.next_le a.dones (nextL nB (nextL nB (nextL nI (nextL Cell.next (nextL Record.next (nextL Record.next (nextL Record.next K a.queue) a.staged) a.inputs) a.cells) a.sums) a.black) a.caps)
  have t := qC7 i K M _ _ _ _ _ _ _ _ _ _ _ _ _ _ _ _ _ _ _ _ _ _ _ _ _ _ _ _ _ _ _ _ _ _ _ _ _ _ _ _ _ _ _ _ _ _ _ _ _ _ _ _ _ _ _ _ _ _ _ _ _ _ _ _ _ _ _ _ _ _ _ _ _ _ _ _ _ _ _ _ ⟨by rw [hlen]; simp only [decide_eq_true_eq]; omega, lt0, hlt, hg, qgY a.queue K (by omega) (by omega) (by simp only [Worker.sz] at hz; omega), hg, rfl, lt0, qag hlt, qav (by (try simp only [List.length_set]); omega), qgY a.staged (nextL Record.next K a.queue) (by omega) (by omega) (by simp only [Worker.sz] at hz; omega), qav (by (try simp only [List.length_set]); omega), rfl, lt0, qag (qag hlt), qav (by (try simp only [List.length_set]); omega), qgY a.inputs (nextL Record.next (nextL Record.next K a.queue) a.staged) (by omega) (by omega) (by simp only [Worker.sz] at hz; omega), qav (by (try simp only [List.length_set]); omega), rfl, lt0, qag (qag (qag hlt)), qav (by (try simp only [List.length_set]); omega), qDL a.cells (nextL Record.next (nextL Record.next (nextL Record.next K a.queue) a.staged) a.inputs) (by omega) (by omega) (by simp only [Worker.sz] at hz; omega), qav (by (try simp only [List.length_set]); omega), rfl, lt0, qag (qag (qag (qag hlt))), qav (by (try simp only [List.length_set]); omega), qnc a.sums (nextL Cell.next (nextL Record.next (nextL Record.next (nextL Record.next K a.queue) a.staged) a.inputs) a.cells) (by omega) (by omega) (by simp only [Worker.sz] at hz; omega), qav (by (try simp only [List.length_set]); omega), rfl, lt0, qag (qag (qag (qag (qag hlt)))), qav (by (try simp only [List.length_set]); omega), qne a.black (nextL nI (nextL Cell.next (nextL Record.next (nextL Record.next (nextL Record.next K a.queue) a.staged) a.inputs) a.cells) a.sums) (by omega) (by omega) (by simp only [Worker.sz] at hz; omega), qav (by (try simp only [List.length_set]); omega), rfl, lt0, qag (qag (qag (qag (qag (qag hlt))))), qav (by (try simp only [List.length_set]); omega), qne a.caps (nextL nB (nextL nI (nextL Cell.next (nextL Record.next (nextL Record.next (nextL Record.next K a.queue) a.staged) a.inputs) a.cells) a.sums) a.black) (by omega) (by omega) (by simp only [Worker.sz] at hz; omega), qav (by (try simp only [List.length_set]); omega), rfl, lt0, qag (qag (qag (qag (qag (qag (qag hlt)))))), qav (by (try simp only [List.length_set]); omega), qDO a.dones (nextL nB (nextL nB (nextL nI (nextL Cell.next (nextL Record.next (nextL Record.next (nextL Record.next K a.queue) a.staged) a.inputs) a.cells) a.sums) a.black) a.caps) (by omega) (by omega) (by simp only [Worker.sz] at hz; omega), qav (by (try simp only [List.length_set]); omega), rfl, up1 hi hl, trivial⟩
  try simp only [List.set_set] at t
  exact t) (by
  have t := qC8 xs.length (nextL Worker.next k (xs.take xs.length)) (qai Worker.e Worker.mark Worker.next k xs xs.length) ⟨qcL, trivial⟩
  rw [qcH, List.take_length] at t ⊢
  exact t)
 rw [qcG] at l
 exact qC9 ⟨l, trivial⟩
theorem qD4 {xs : List Worker} {k : Int} {i : Nat} {a : Worker} (h : xs[i]? = some a) : (markL Worker.mark Worker.next k xs)[i]? = some (Worker.mark (nextL Worker.next k (xs.take i)) a) := by
 have hi := lt_of h
 have e : xs = xs.take i ++ a :: xs.drop (i + 1) := by
  have ha : xs[i] = a := by rw [List.getElem?_eq_getElem hi] at h; exact Option.some.inj h
  rw [← ha, ← List.drop_eq_getElem_cons hi, List.take_append_drop]
 conv => lhs; rw [e]
 rw [qbU, List.getElem?_append, qaU, List.length_take, if_neg (by omega), show i - min i xs.length = 0 by omega]
 rfl
theorem qD5 (xs : List Worker) (k : Int) (hk : 0 ≤ k) (hM : nextL Worker.next k xs ≤ 1000000000000) (hl : xs.length ≤ 8388608) (hs : ∀ x ∈ xs, x.sz ≤ 8388608) : Rt 76 [.one (.sl 8 ((markL Worker.mark Worker.next k xs).map Worker.e)), .one (I k)] [.one (I (nextL Worker.next k xs))] := by
 have hlm : (markL Worker.mark Worker.next k xs).length = xs.length := qaU
 have l := qaj (P := Tryz.prog) (c := qaa Tryz.f76 0) (qaf 0) (markL Worker.mark Worker.next k xs).length (fun i => qep ((markL Worker.mark Worker.next k xs).map Worker.e) i (nextL Worker.next k (xs.take i))) (fun i hi2 => by
  have hi : i < xs.length := by omega
  obtain ⟨a, ha⟩ := qae hi
  have ha2 := qD4 (k := k) ha
  have h0 := qa3 Worker.cb Worker.next_le xs k i
  have h1 := Int.le_trans (qa2 Worker.cb Worker.next_le xs k (i + 1)) hM
  rw [qas ha] at h1
  show Tr _ _ (qep ((markL Worker.mark Worker.next k xs).map Worker.e) (i : Nat) (nextL Worker.next k (xs.take i))) _ (qep ((markL Worker.mark Worker.next k xs).map Worker.e) (i + 1 : Nat) (nextL Worker.next k (xs.take (i + 1))))
  rw [qas ha]
  generalize nextL Worker.next k (xs.take i) = K at *
  have hz := hs a (qap ha)
  unfold Worker.next at h1
  have f0 := qaq Record.cb Record.next_le a.queue K
  have f1 := qaq Record.cb Record.next_le a.staged (nextL Record.next K a.queue)
  have f2 := qaq Record.cb Record.next_le a.inputs (nextL Record.next (nextL Record.next K a.queue) a.staged)
  have f3 := qaq Cell.cb Cell.next_le a.cells (nextL Record.next (nextL Record.next (nextL Record.next K a.queue) a.staged) a.inputs)
  have f4 := qaq (fun _ => 1) nI_le a.sums (nextL Cell.next (nextL Record.next (nextL Record.next (nextL Record.next K a.queue) a.staged) a.inputs) a.cells)
  have f5 := qaq (fun _ => 1) nB_le a.black (nextL nI (nextL Cell.next (nextL Record.next (nextL Record.next (nextL Record.next K a.queue) a.staged) a.inputs) a.cells) a.sums)
  have f6 := qaq (fun _ => 1) nB_le a.caps (nextL nB (nextL nI (nextL Cell.next (nextL Record.next (nextL Record.next (nextL Record.next K a.queue) a.staged) a.inputs) a.cells) a.sums) a.black)
  have f7 := qaq Done.cb Done.next_le a.dones (nextL nB (nextL nB (nextL nI (nextL Cell.next (nextL Record.next (nextL Record.next (nextL Record.next K a.queue) a.staged) a.inputs) a.cells) a.sums) a.black) a.caps)
  exact qDD ⟨lt1 hi2, lt0, lt2 hi2, qac Worker.e ha2, qgZ a.queue K (by omega) (by omega) (by simp only [Worker.sz] at hz; omega), by simp only [decide_eq_false_iff_not]; (try unfold Worker.next); omega, lt0, lt2 hi2, qac Worker.e ha2, qgZ a.staged (nextL Record.next K a.queue) (by omega) (by omega) (by simp only [Worker.sz] at hz; omega), by simp only [decide_eq_false_iff_not]; (try unfold Worker.next); omega, lt0, lt2 hi2, qac Worker.e ha2, qgZ a.inputs (nextL Record.next (nextL Record.next K a.queue) a.staged) (by omega) (by omega) (by simp only [Worker.sz] at hz; omega), by simp only [decide_eq_false_iff_not]; (try unfold Worker.next); omega, lt0, lt2 hi2, qac Worker.e ha2, qDN a.cells (nextL Record.next (nextL Record.next (nextL Record.next K a.queue) a.staged) a.inputs) (by omega) (by omega) (by simp only [Worker.sz] at hz; omega), by simp only [decide_eq_false_iff_not]; (try unfold Worker.next); omega, lt0, lt2 hi2, qac Worker.e ha2, qnd a.sums (nextL Cell.next (nextL Record.next (nextL Record.next (nextL Record.next K a.queue) a.staged) a.inputs) a.cells) (by omega) (by omega) (by simp only [Worker.sz] at hz; omega), by simp only [decide_eq_false_iff_not]; (try unfold Worker.next); omega, lt0, lt2 hi2, qac Worker.e ha2, qnf a.black (nextL nI (nextL Cell.next (nextL Record.next (nextL Record.next (nextL Record.next K a.queue) a.staged) a.inputs) a.cells) a.sums) (by omega) (by omega) (by simp only [Worker.sz] at hz; omega), by simp only [decide_eq_false_iff_not]; (try unfold Worker.next); omega, lt0, lt2 hi2, qac Worker.e ha2, qnf a.caps (nextL nB (nextL nI (nextL Cell.next (nextL Record.next (nextL Record.next (nextL Record.next K a.queue) a.staged) a.inputs) a.cells) a.sums) a.black) (by omega) (by omega) (by simp only [Worker.sz] at hz; omega), by simp only [decide_eq_false_iff_not]; (try unfold Worker.next); omega, lt0, lt2 hi2, qac Worker.e ha2, qDQ a.dones (nextL nB (nextL nB (nextL nI (nextL Cell.next (nextL Record.next (nextL Record.next (nextL Record.next K a.queue) a.staged) a.inputs) a.cells) a.sums) a.black) a.caps) (by omega) (by omega) (by simp only [Worker.sz] at hz; omega), by simp only [decide_eq_false_iff_not]; (try unfold Worker.next); omega, ⟨by omega, by omega⟩, trivial⟩) (qDE ⟨ge1, trivial⟩)
 rw [hlm, List.take_length] at l
 exact qDF ⟨l, trivial⟩
def Cluster.topNext (k : Int) (c : Cluster) : Int := nextL News.next (nextL Token.next (nextL Link.next (nextL Worker.next (nextL Node.next k c.graph.nodes) c.workers) c.links) c.tokens) c.news
theorem Cluster.topNext_le (c : Cluster) (hc : c.sz ≤ 8388608) : 1 ≤ c.topNext 1 ∧ c.topNext 1 ≤ 1000000000000 := by
 have f0 := qaq Node.cb Node.next_le c.graph.nodes 1
 have g0 := qgX Node.cb Node.sz Node.cb_le c.graph.nodes
 have f1 := qaq Worker.cb Worker.next_le c.workers (nextL Node.next 1 c.graph.nodes)
 have g1 := qgX Worker.cb Worker.sz Worker.cb_le c.workers
 have f2 := qaq Link.cb Link.next_le c.links (nextL Worker.next (nextL Node.next 1 c.graph.nodes) c.workers)
 have g2 := qgX Link.cb Link.sz Link.cb_le c.links
 have f3 := qaq Token.cb Token.next_le c.tokens (nextL Link.next (nextL Worker.next (nextL Node.next 1 c.graph.nodes) c.workers) c.links)
 rw [Token.cb_sum] at f3
 have f4 := qaq News.cb News.next_le c.news (nextL Token.next (nextL Link.next (nextL Worker.next (nextL Node.next 1 c.graph.nodes) c.workers) c.links) c.tokens)
 rw [News.cb_sum] at f4
 simp only [Cluster.sz, Graph.sz, szS] at hc
 unfold Cluster.topNext
 omega
theorem qng (c : Cluster) (k : Int) (hk : 0 ≤ k) (hM : c.topNext k ≤ 1000000000000) (hc : c.sz ≤ 8388608) :
  RetG Tryz.prog 16 [.agg [.gv 4 (c.graph.nodes.map Node.e) (some ((markL Node.mark Node.next k c.graph.nodes).map Node.e)), .ro (I c.graph.workers), .ro (I c.graph.cap), .gv 8 (c.workers.map Worker.e) (some ((markL Worker.mark Worker.next (nextL Node.next k c.graph.nodes) c.workers).map Worker.e)), .gv 6 (c.links.map Link.e) (some ((markL Link.mark Link.next (nextL Worker.next (nextL Node.next k c.graph.nodes) c.workers) c.links).map Link.e)), .gv 5 (c.tokens.map Token.e) (some ((markL Token.mark Token.next (nextL Link.next (nextL Worker.next (nextL Node.next k c.graph.nodes) c.workers) c.links) c.tokens).map Token.e)), .gv 3 (c.news.map News.e) (some ((markL News.mark News.next (nextL Token.next (nextL Link.next (nextL Worker.next (nextL Node.next k c.graph.nodes) c.workers) c.links) c.tokens) c.news).map News.e))], .one (.ro (I k))] [.one (I (c.topNext k))] := by
 have f0 := qaq Node.cb Node.next_le c.graph.nodes k
 have f1 := qaq Worker.cb Worker.next_le c.workers (nextL Node.next k c.graph.nodes)
 have f2 := qaq Link.cb Link.next_le c.links (nextL Worker.next (nextL Node.next k c.graph.nodes) c.workers)
 have f3 := qaq Token.cb Token.next_le c.tokens (nextL Link.next (nextL Worker.next (nextL Node.next k c.graph.nodes) c.workers) c.links)
 have f4 := qaq News.cb News.next_le c.news (nextL Token.next (nextL Link.next (nextL Worker.next (nextL Node.next k c.graph.nodes) c.workers) c.links) c.tokens)
 unfold Cluster.topNext at hM ⊢
 have hz := hc
 simp only [Cluster.sz, Graph.sz, szS] at hz
 exact qDb ⟨qDa ⟨qDX c.graph.nodes k (by omega) (by omega) (by omega) (fun x hx => by have := qcj (sz := Node.sz) hx; omega), trivial⟩, qD3 c.workers (nextL Node.next k c.graph.nodes) (by omega) (by omega) (by omega) (fun x hx => by have := qcj (sz := Worker.sz) hx; omega), qD0 c.links (nextL Worker.next (nextL Node.next k c.graph.nodes) c.workers) (by omega) (by omega) (by omega) (fun x hx => by have := qcj (sz := Link.sz) hx; omega), qDR c.tokens (nextL Link.next (nextL Worker.next (nextL Node.next k c.graph.nodes) c.workers) c.links) (by omega) (by omega) (by omega), qDU c.news (nextL Token.next (nextL Link.next (nextL Worker.next (nextL Node.next k c.graph.nodes) c.workers) c.links) c.tokens) (by omega) (by omega) (by omega), trivial⟩
def Cluster.marked (k : Int) (c : Cluster) : List D := [.sl 4 ((markL Node.mark Node.next k c.graph.nodes).map Node.e), I c.graph.workers, I c.graph.cap, .sl 8 ((markL Worker.mark Worker.next (nextL Node.next k c.graph.nodes) c.workers).map Worker.e), .sl 6 ((markL Link.mark Link.next (nextL Worker.next (nextL Node.next k c.graph.nodes) c.workers) c.links).map Link.e), .sl 5 ((markL Token.mark Token.next (nextL Link.next (nextL Worker.next (nextL Node.next k c.graph.nodes) c.workers) c.links) c.tokens).map Token.e), .sl 3 ((markL News.mark News.next (nextL Token.next (nextL Link.next (nextL Worker.next (nextL Node.next k c.graph.nodes) c.workers) c.links) c.tokens) c.news).map News.e)]
theorem qD6 (c : Cluster) (k : Int) (hk : 0 ≤ k) (hM : c.topNext k ≤ 1000000000000) (hc : c.sz ≤ 8388608) :
  Rt 17 [.agg (c.marked k), .one (I k)] [.one (I (c.topNext k))] := by
 have f0 := qaq Node.cb Node.next_le c.graph.nodes k
 have f1 := qaq Worker.cb Worker.next_le c.workers (nextL Node.next k c.graph.nodes)
 have f2 := qaq Link.cb Link.next_le c.links (nextL Worker.next (nextL Node.next k c.graph.nodes) c.workers)
 have f3 := qaq Token.cb Token.next_le c.tokens (nextL Link.next (nextL Worker.next (nextL Node.next k c.graph.nodes) c.workers) c.links)
 have f4 := qaq News.cb News.next_le c.news (nextL Token.next (nextL Link.next (nextL Worker.next (nextL Node.next k c.graph.nodes) c.workers) c.links) c.tokens)
 unfold Cluster.topNext at hM ⊢
 have hz := hc
 simp only [Cluster.sz, Graph.sz, szS] at hz
 exact qDH ⟨qDG ⟨qDZ c.graph.nodes k (by omega) (by omega) (by omega) (fun x hx => by have := qcj (sz := Node.sz) hx; omega), by simp only [decide_eq_false_iff_not]; omega, trivial⟩, by simp only [decide_eq_false_iff_not]; omega, qD5 c.workers (nextL Node.next k c.graph.nodes) (by omega) (by omega) (by omega) (fun x hx => by have := qcj (sz := Worker.sz) hx; omega), by simp only [decide_eq_false_iff_not]; omega, qD2 c.links (nextL Worker.next (nextL Node.next k c.graph.nodes) c.workers) (by omega) (by omega) (by omega) (fun x hx => by have := qcj (sz := Link.sz) hx; omega), by simp only [decide_eq_false_iff_not]; omega, qDT c.tokens (nextL Link.next (nextL Worker.next (nextL Node.next k c.graph.nodes) c.workers) c.links) (by omega) (by omega) (by omega), by simp only [decide_eq_false_iff_not]; omega, qDW c.news (nextL Token.next (nextL Link.next (nextL Worker.next (nextL Node.next k c.graph.nodes) c.workers) c.links) c.tokens) (by omega) (by omega) (by omega), by simp only [decide_eq_false_iff_not]; omega, trivial⟩
end Go.Proofs.YtdanpadojemjeaaGreat
