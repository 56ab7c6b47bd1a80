/- The functions mark.. and held..: their contracts (printed by gentypes.py) -/
import Derived.Test.YtialmplmfcahpaaGreatT6
set_option linter.unusedVariables false
set_option linter.unusedSimpArgs false
namespace Go.Proofs.YtialmplmfcahpaaGreat
open Go.Sx Go.RowKit
theorem qgN {α : Type} (c s : α → Nat) (h : ∀ x, c x ≤ 6 + 5 * s x) : ∀ xs : List α, (xs.map c).sum ≤ 6 * xs.length + 5 * (xs.map s).sum
 | [] => by simp
 | x :: xs => by
  have h1 := h x
  have h2 := qgN c s h xs
  simp only [List.map_cons, List.sum_cons, List.length_cons]
  omega
theorem Stamp.cb_sum (xs : List Stamp) : (xs.map Stamp.cb).sum = xs.length * 2 := qcD xs 2
theorem Record.cb_sum (xs : List Record) : (xs.map Record.cb).sum = xs.length * 5 := qcD xs 5
theorem Cell.cb_sum (xs : List Cell) : (xs.map Cell.cb).sum = xs.length * 4 := qcD xs 4
theorem Done.cb_sum (xs : List Done) : (xs.map Done.cb).sum = xs.length * 2 := qcD xs 2
theorem Token.cb_sum (xs : List Token) : (xs.map Token.cb).sum = xs.length * 5 := qcD xs 5
theorem News.cb_sum (xs : List News) : (xs.map News.cb).sum = xs.length * 3 := qcD xs 3
theorem Pick.cb_sum (xs : List Pick) : (xs.map Pick.cb).sum = xs.length * 3 := qcD xs 3
theorem Node.cb_le (x : Node) : x.cb ≤ 6 + 5 * x.sz := by
 simp only [Node.cb, Node.sz, qcD]
 omega
theorem Link.cb_le (x : Link) : x.cb ≤ 6 + 5 * x.sz := by
 simp only [Link.cb, Link.sz, Record.cb_sum]
 omega
theorem Worker.cb_le (x : Worker) : x.cb ≤ 6 + 5 * x.sz := by
 simp only [Worker.cb, Worker.sz, qcD, Cell.cb_sum, Done.cb_sum, qcD, Record.cb_sum]
 omega
theorem qmn (xs : List Int) (k : Int) (hk : 0 ≤ k) (hM : nextL nI k xs ≤ 1000000000000) (hl : xs.length ≤ 1048576) :
  RetG Tryz.prog 166 [.one (.gv 1 (xs.map eI) (some ((markL mI nI k xs).map eI))), .one (.ro (I k))] [.one (I (nextL nI k xs))] := by
 have l := qaj (P := Tryz.prog) (c := qaa Tryz.f166 0) (stE := qgF (nextL nI k xs) ((markL mI nI k xs).map eI)) (qah 0) xs.length (fun i => qd0 i (nextL nI k (xs.take i)) (qam eI mI nI k xs i)) (fun i hi => by
  obtain ⟨a, ha⟩ := qag hi
  have h0 := qb1 (fun _ => 1) nI_le xs k i
  have h1 := Int.le_trans (qb0 (fun _ => 1) nI_le xs k (i + 1)) hM
  rw [qa5 ha] at h1
  have hlen : (qam eI mI nI k xs i).length = xs.length := qbS (by omega)
  have hlt := qcB (e := eI) (mark := mI) (next := nI) (k := k) hi
  have hg := qcz (e := eI) (mark := mI) (next := nI) (k := k) ha
  have hset := qcA (e := eI) (mark := mI) (next := nI) (k := k) ha
  show Tr _ _ (qd0 (i : Nat) (nextL nI k (xs.take i)) (qam eI mI nI k xs i)) _ (qd0 (i + 1 : Nat) (nextL nI k (xs.take (i + 1))) (qam eI mI nI k xs (i + 1)))
  rw [← hset, qa5 ha]
  generalize nextL nI k (xs.take i) = K at *
  generalize qam eI mI nI k xs i = M at *
  unfold nI at h1
  have t := qwC i K M _ ⟨by rw [hlen]; simp only [decide_eq_true_eq]; omega, lt0, hlt, hg, ⟨by omega, by omega⟩, up1 hi hl, trivial⟩
  try simp only [List.set_set] at t
  exact t) (by
  have t := qwD xs.length (nextL nI k (xs.take xs.length)) (qam eI mI nI k xs xs.length) ⟨qcC, trivial⟩
  rw [qcy, List.take_length] at t ⊢
  exact t)
 rw [qcx] at l
 exact qwE _ _ _ _ ⟨l, trivial⟩
theorem qmo (xs : List Bool) (k : Int) (hk : 0 ≤ k) (hM : nextL nB k xs ≤ 1000000000000) (hl : xs.length ≤ 1048576) :
  RetG Tryz.prog 48 [.one (.gv 1 (xs.map eB) (some ((markL mB nB k xs).map eB))), .one (.ro (I k))] [.one (I (nextL nB k xs))] := by
 have l := qaj (P := Tryz.prog) (c := qaa Tryz.f48 0) (stE := qgH (nextL nB k xs) ((markL mB nB k xs).map eB)) (qah 0) xs.length (fun i => qd2 i (nextL nB k (xs.take i)) (qam eB mB nB k xs i)) (fun i hi => by
  obtain ⟨a, ha⟩ := qag hi
  have h0 := qb1 (fun _ => 1) nB_le xs k i
  have h1 := Int.le_trans (qb0 (fun _ => 1) nB_le xs k (i + 1)) hM
  rw [qa5 ha] at h1
  have hlen : (qam eB mB nB k xs i).length = xs.length := qbS (by omega)
  have hlt := qcB (e := eB) (mark := mB) (next := nB) (k := k) hi
  have hg := qcz (e := eB) (mark := mB) (next := nB) (k := k) ha
  have hset := qcA (e := eB) (mark := mB) (next := nB) (k := k) ha
  show Tr _ _ (qd2 (i : Nat) (nextL nB k (xs.take i)) (qam eB mB nB k xs i)) _ (qd2 (i + 1 : Nat) (nextL nB k (xs.take (i + 1))) (qam eB mB nB k xs (i + 1)))
  rw [← hset, qa5 ha]
  generalize nextL nB k (xs.take i) = K at *
  generalize qam eB mB nB k xs i = M at *
  unfold nB at h1
  have t := qwI i K M _ ⟨by rw [hlen]; simp only [decide_eq_true_eq]; omega, by omega, lt0, hlt, hg, ⟨by omega, by omega⟩, up1 hi hl, trivial⟩
  try simp only [List.set_set] at t
  exact t) (by
  have t := qwJ xs.length (nextL nB k (xs.take xs.length)) (qam eB mB nB k xs xs.length) ⟨qcC, trivial⟩
  rw [qcy, List.take_length] at t ⊢
  exact t)
 rw [qcx] at l
 exact qwK _ _ _ _ ⟨l, trivial⟩
theorem qfu (xs : List Record) (k : Int) (hk : 0 ≤ k) (hM : nextL Record.next k xs ≤ 1000000000000) (hl : xs.length ≤ 1048576) :
  RetG Tryz.prog 22 [.one (.gv 5 (xs.map Record.e) (some ((markL Record.mark Record.next k xs).map Record.e))), .one (.ro (I k))] [.one (I (nextL Record.next k xs))] := by
 have l := qaj (P := Tryz.prog) (c := qaa Tryz.f22 0) (stE := qgD (nextL Record.next k xs) ((markL Record.mark Record.next k xs).map Record.e)) (qah 0) xs.length (fun i => qdY i (nextL Record.next k (xs.take i)) (qam Record.e Record.mark Record.next k xs i)) (fun i hi => by
  obtain ⟨a, ha⟩ := qag hi
  have h0 := qb1 Record.cb Record.next_le xs k i
  have h1 := Int.le_trans (qb0 Record.cb Record.next_le xs k (i + 1)) hM
  rw [qa5 ha] at h1
  have hlen : (qam Record.e Record.mark Record.next k xs i).length = xs.length := qbS (by omega)
  have hlt := qcB (e := Record.e) (mark := Record.mark) (next := Record.next) (k := k) hi
  have hg := qcz (e := Record.e) (mark := Record.mark) (next := Record.next) (k := k) ha
  have hset := qcA (e := Record.e) (mark := Record.mark) (next := Record.next) (k := k) ha
  show Tr _ _ (qdY (i : Nat) (nextL Record.next k (xs.take i)) (qam Record.e Record.mark Record.next k xs i)) _ (qdY (i + 1 : Nat) (nextL Record.next k (xs.take (i + 1))) (qam Record.e Record.mark Record.next k xs (i + 1)))
  rw [← hset, qa5 ha]
  generalize nextL Record.next k (xs.take i) = K at *
  generalize qam Record.e Record.mark Record.next k xs i = M at *
  unfold Record.next at h1
  have t := qww i K M _ _ _ _ _ _ _ _ _ _ _ _ _ _ _ _ _ _ _ _ _ _ _ _ _ ⟨by rw [hlen]; simp only [decide_eq_true_eq]; omega, lt0, hlt, hg, ⟨by omega, by omega⟩, lt0, qal hlt, qaA (by (try simp only [List.length_set]); omega), ⟨by omega, by omega⟩, lt0, qal (qal hlt), qaA (by (try simp only [List.length_set]); omega), ⟨by omega, by omega⟩, lt0, qal (qal (qal hlt)), qaA (by (try simp only [List.length_set]); omega), ⟨by omega, by omega⟩, lt0, qal (qal (qal (qal hlt))), qaA (by (try simp only [List.length_set]); omega), ⟨by omega, by omega⟩, up1 hi hl, trivial⟩
  try simp only [List.set_set] at t
  exact t) (by
  have t := qwx xs.length (nextL Record.next k (xs.take xs.length)) (qam Record.e Record.mark Record.next k xs xs.length) ⟨qcC, trivial⟩
  rw [qcy, List.take_length] at t ⊢
  exact t)
 rw [qcx] at l
 exact qwy _ _ _ _ ⟨l, trivial⟩
theorem qw5 (xs : List Record) (hl : xs.length ≤ 1048576) : 1 ≤ nextL Record.next 1 xs ∧ nextL Record.next 1 xs ≤ 1000000000000 := by
 have f := qaI Record.cb Record.next_le xs 1
 rw [Record.cb_sum] at f
 omega
theorem qw6 {xs : List Record} {k : Int} {i : Nat} {a : Record} (h : xs[i]? = some a) : (markL Record.mark Record.next k xs)[i]? = some (Record.mark (nextL Record.next k (xs.take i)) a) := by
 have hi := lt_of h
 have e : xs = xs.take i ++ a :: xs.drop (i + 1) := by
  have ha : xs[i] = a := by rw [List.getElem?_eq_getElem hi] at h; exact Option.some.inj h
  rw [← ha, ← List.drop_eq_getElem_cons hi, List.take_append_drop]
 conv => lhs; rw [e]
 rw [qjx, List.getElem?_append, qd9, List.length_take, if_neg (by omega), show i - min i xs.length = 0 by omega]
 rfl
theorem qw7 (xs : List Record) (k : Int) (hk : 0 ≤ k) (hM : nextL Record.next k xs ≤ 1000000000000) (hl : xs.length ≤ 1048576) : Ret Tryz.prog 23 [.one (.sl 5 ((markL Record.mark Record.next k xs).map Record.e)), .one (I k)] [.one (I (nextL Record.next k xs))] := by
 have hlm : (markL Record.mark Record.next k xs).length = xs.length := qd9
 have l := qaj (P := Tryz.prog) (c := qaa Tryz.f23 0) (qah 0) (markL Record.mark Record.next k xs).length (fun i => qd8 ((markL Record.mark Record.next k xs).map Record.e) i (nextL Record.next k (xs.take i))) (fun i hi2 => by
  have hi : i < xs.length := by omega
  obtain ⟨a, ha⟩ := qag hi
  have ha2 := qw6 (k := k) ha
  have h0 := qb1 Record.cb Record.next_le xs k i
  have h1 := Int.le_trans (qb0 Record.cb Record.next_le xs k (i + 1)) hM
  rw [qa5 ha] at h1
  show Tr _ _ (qd8 ((markL Record.mark Record.next k xs).map Record.e) (i : Nat) (nextL Record.next k (xs.take i))) _ (qd8 ((markL Record.mark Record.next k xs).map Record.e) (i + 1 : Nat) (nextL Record.next k (xs.take (i + 1))))
  rw [qa5 ha]
  generalize nextL Record.next k (xs.take i) = K at *
  unfold Record.next at h1
  exact qw2 _ _ _ _ _ _ _ _ _ _ _ _ _ _ _ _ _ _ _ _ _ _ _ _ _ _ _ _ ⟨lt1 hi2, lt0, lt2 hi2, qae Record.e ha2, by simp [Record.mark], ⟨by omega, by omega⟩, lt0, lt2 hi2, qae Record.e ha2, by simp [Record.mark], ⟨by omega, by omega⟩, lt0, lt2 hi2, qae Record.e ha2, by simp [Record.mark], ⟨by omega, by omega⟩, lt0, lt2 hi2, qae Record.e ha2, by simp [Record.mark], ⟨by omega, by omega⟩, lt0, lt2 hi2, qae Record.e ha2, by simp [Record.mark], ⟨by omega, by omega⟩, ⟨by omega, by omega⟩, trivial⟩) (qw3 _ _ _ ⟨ge1, trivial⟩)
 rw [hlm, List.take_length] at l
 exact qw4 _ _ _ ⟨l, trivial⟩
theorem qw8 (xs : List Cell) (k : Int) (hk : 0 ≤ k) (hM : nextL Cell.next k xs ≤ 1000000000000) (hl : xs.length ≤ 1048576) :
  RetG Tryz.prog 165 [.one (.gv 4 (xs.map Cell.e) (some ((markL Cell.mark Cell.next k xs).map Cell.e))), .one (.ro (I k))] [.one (I (nextL Cell.next k xs))] := by
 have l := qaj (P := Tryz.prog) (c := qaa Tryz.f165 0) (stE := qgG (nextL Cell.next k xs) ((markL Cell.mark Cell.next k xs).map Cell.e)) (qah 0) xs.length (fun i => qd1 i (nextL Cell.next k (xs.take i)) (qam Cell.e Cell.mark Cell.next k xs i)) (fun i hi => by
  obtain ⟨a, ha⟩ := qag hi
  have h0 := qb1 Cell.cb Cell.next_le xs k i
  have h1 := Int.le_trans (qb0 Cell.cb Cell.next_le xs k (i + 1)) hM
  rw [qa5 ha] at h1
  have hlen : (qam Cell.e Cell.mark Cell.next k xs i).length = xs.length := qbS (by omega)
  have hlt := qcB (e := Cell.e) (mark := Cell.mark) (next := Cell.next) (k := k) hi
  have hg := qcz (e := Cell.e) (mark := Cell.mark) (next := Cell.next) (k := k) ha
  have hset := qcA (e := Cell.e) (mark := Cell.mark) (next := Cell.next) (k := k) ha
  show Tr _ _ (qd1 (i : Nat) (nextL Cell.next k (xs.take i)) (qam Cell.e Cell.mark Cell.next k xs i)) _ (qd1 (i + 1 : Nat) (nextL Cell.next k (xs.take (i + 1))) (qam Cell.e Cell.mark Cell.next k xs (i + 1)))
  rw [← hset, qa5 ha]
  generalize nextL Cell.next k (xs.take i) = K at *
  generalize qam Cell.e Cell.mark Cell.next k xs i = M at *
  unfold Cell.next at h1
  have t := qwF i K M _ _ _ _ _ _ _ _ _ _ _ _ _ _ _ _ ⟨by rw [hlen]; simp only [decide_eq_true_eq]; omega, lt0, hlt, hg, ⟨by omega, by omega⟩, lt0, qal hlt, qaA (by (try simp only [List.length_set]); omega), ⟨by omega, by omega⟩, lt0, qal (qal hlt), qaA (by (try simp only [List.length_set]); omega), ⟨by omega, by omega⟩, lt0, qal (qal (qal hlt)), qaA (by (try simp only [List.length_set]); omega), ⟨by omega, by omega⟩, up1 hi hl, trivial⟩
  try simp only [List.set_set] at t
  exact t) (by
  have t := qwG xs.length (nextL Cell.next k (xs.take xs.length)) (qam Cell.e Cell.mark Cell.next k xs xs.length) ⟨qcC, trivial⟩
  rw [qcy, List.take_length] at t ⊢
  exact t)
 rw [qcx] at l
 exact qwH _ _ _ _ ⟨l, trivial⟩
theorem qw9 (xs : List Done) (k : Int) (hk : 0 ≤ k) (hM : nextL Done.next k xs ≤ 1000000000000) (hl : xs.length ≤ 1048576) :
  RetG Tryz.prog 167 [.one (.gv 2 (xs.map Done.e) (some ((markL Done.mark Done.next k xs).map Done.e))), .one (.ro (I k))] [.one (I (nextL Done.next k xs))] := by
 have l := qaj (P := Tryz.prog) (c := qaa Tryz.f167 0) (stE := qgI (nextL Done.next k xs) ((markL Done.mark Done.next k xs).map Done.e)) (qah 0) xs.length (fun i => qd3 i (nextL Done.next k (xs.take i)) (qam Done.e Done.mark Done.next k xs i)) (fun i hi => by
  obtain ⟨a, ha⟩ := qag hi
  have h0 := qb1 Done.cb Done.next_le xs k i
  have h1 := Int.le_trans (qb0 Done.cb Done.next_le xs k (i + 1)) hM
  rw [qa5 ha] at h1
  have hlen : (qam Done.e Done.mark Done.next k xs i).length = xs.length := qbS (by omega)
  have hlt := qcB (e := Done.e) (mark := Done.mark) (next := Done.next) (k := k) hi
  have hg := qcz (e := Done.e) (mark := Done.mark) (next := Done.next) (k := k) ha
  have hset := qcA (e := Done.e) (mark := Done.mark) (next := Done.next) (k := k) ha
  show Tr _ _ (qd3 (i : Nat) (nextL Done.next k (xs.take i)) (qam Done.e Done.mark Done.next k xs i)) _ (qd3 (i + 1 : Nat) (nextL Done.next k (xs.take (i + 1))) (qam Done.e Done.mark Done.next k xs (i + 1)))
  rw [← hset, qa5 ha]
  generalize nextL Done.next k (xs.take i) = K at *
  generalize qam Done.e Done.mark Done.next k xs i = M at *
  unfold Done.next at h1
  have t := qwL i K M _ _ _ _ ⟨by rw [hlen]; simp only [decide_eq_true_eq]; omega, lt0, hlt, hg, ⟨by omega, by omega⟩, by omega, lt0, qal hlt, qaA (by (try simp only [List.length_set]); omega), ⟨by omega, by omega⟩, up1 hi hl, trivial⟩
  try simp only [List.set_set] at t
  exact t) (by
  have t := qwM xs.length (nextL Done.next k (xs.take xs.length)) (qam Done.e Done.mark Done.next k xs xs.length) ⟨qcC, trivial⟩
  rw [qcy, List.take_length] at t ⊢
  exact t)
 rw [qcx] at l
 exact qwN _ _ _ _ ⟨l, trivial⟩
theorem qxa (xs : List Token) (k : Int) (hk : 0 ≤ k) (hM : nextL Token.next k xs ≤ 1000000000000) (hl : xs.length ≤ 1048576) :
  RetG Tryz.prog 77 [.one (.gv 5 (xs.map Token.e) (some ((markL Token.mark Token.next k xs).map Token.e))), .one (.ro (I k))] [.one (I (nextL Token.next k xs))] := by
 have l := qaj (P := Tryz.prog) (c := qaa Tryz.f77 0) (stE := qgJ (nextL Token.next k xs) ((markL Token.mark Token.next k xs).map Token.e)) (qah 0) xs.length (fun i => qd4 i (nextL Token.next k (xs.take i)) (qam Token.e Token.mark Token.next k xs i)) (fun i hi => by
  obtain ⟨a, ha⟩ := qag hi
  have h0 := qb1 Token.cb Token.next_le xs k i
  have h1 := Int.le_trans (qb0 Token.cb Token.next_le xs k (i + 1)) hM
  rw [qa5 ha] at h1
  have hlen : (qam Token.e Token.mark Token.next k xs i).length = xs.length := qbS (by omega)
  have hlt := qcB (e := Token.e) (mark := Token.mark) (next := Token.next) (k := k) hi
  have hg := qcz (e := Token.e) (mark := Token.mark) (next := Token.next) (k := k) ha
  have hset := qcA (e := Token.e) (mark := Token.mark) (next := Token.next) (k := k) ha
  show Tr _ _ (qd4 (i : Nat) (nextL Token.next k (xs.take i)) (qam Token.e Token.mark Token.next k xs i)) _ (qd4 (i + 1 : Nat) (nextL Token.next k (xs.take (i + 1))) (qam Token.e Token.mark Token.next k xs (i + 1)))
  rw [← hset, qa5 ha]
  generalize nextL Token.next k (xs.take i) = K at *
  generalize qam Token.e Token.mark Token.next k xs i = M at *
  unfold Token.next at h1
  have t := qwO i K M _ _ _ _ _ _ _ _ _ _ _ _ _ _ _ _ _ _ _ _ _ _ _ _ _ ⟨by rw [hlen]; simp only [decide_eq_true_eq]; omega, by omega, lt0, hlt, hg, ⟨by omega, by omega⟩, lt0, qal hlt, qaA (by (try simp only [List.length_set]); omega), ⟨by omega, by omega⟩, lt0, qal (qal hlt), qaA (by (try simp only [List.length_set]); omega), ⟨by omega, by omega⟩, by omega, lt0, qal (qal (qal hlt)), qaA (by (try simp only [List.length_set]); omega), ⟨by omega, by omega⟩, by omega, lt0, qal (qal (qal (qal hlt))), qaA (by (try simp only [List.length_set]); omega), ⟨by omega, by omega⟩, up1 hi hl, trivial⟩
  try simp only [List.set_set] at t
  exact t) (by
  have t := qwP xs.length (nextL Token.next k (xs.take xs.length)) (qam Token.e Token.mark Token.next k xs xs.length) ⟨qcC, trivial⟩
  rw [qcy, List.take_length] at t ⊢
  exact t)
 rw [qcx] at l
 exact qwQ _ _ _ _ ⟨l, trivial⟩
theorem qxb (xs : List News) (k : Int) (hk : 0 ≤ k) (hM : nextL News.next k xs ≤ 1000000000000) (hl : xs.length ≤ 1048576) :
  RetG Tryz.prog 78 [.one (.gv 3 (xs.map News.e) (some ((markL News.mark News.next k xs).map News.e))), .one (.ro (I k))] [.one (I (nextL News.next k xs))] := by
 have l := qaj (P := Tryz.prog) (c := qaa Tryz.f78 0) (stE := qgE (nextL News.next k xs) ((markL News.mark News.next k xs).map News.e)) (qah 0) xs.length (fun i => qdZ i (nextL News.next k (xs.take i)) (qam News.e News.mark News.next k xs i)) (fun i hi => by
  obtain ⟨a, ha⟩ := qag hi
  have h0 := qb1 News.cb News.next_le xs k i
  have h1 := Int.le_trans (qb0 News.cb News.next_le xs k (i + 1)) hM
  rw [qa5 ha] at h1
  have hlen : (qam News.e News.mark News.next k xs i).length = xs.length := qbS (by omega)
  have hlt := qcB (e := News.e) (mark := News.mark) (next := News.next) (k := k) hi
  have hg := qcz (e := News.e) (mark := News.mark) (next := News.next) (k := k) ha
  have hset := qcA (e := News.e) (mark := News.mark) (next := News.next) (k := k) ha
  show Tr _ _ (qdZ (i : Nat) (nextL News.next k (xs.take i)) (qam News.e News.mark News.next k xs i)) _ (qdZ (i + 1 : Nat) (nextL News.next k (xs.take (i + 1))) (qam News.e News.mark News.next k xs (i + 1)))
  rw [← hset, qa5 ha]
  generalize nextL News.next k (xs.take i) = K at *
  generalize qam News.e News.mark News.next k xs i = M at *
  unfold News.next at h1
  have t := qwz i K M _ _ _ _ _ _ _ _ _ ⟨by rw [hlen]; simp only [decide_eq_true_eq]; omega, lt0, hlt, hg, ⟨by omega, by omega⟩, lt0, qal hlt, qaA (by (try simp only [List.length_set]); omega), ⟨by omega, by omega⟩, by omega, lt0, qal (qal hlt), qaA (by (try simp only [List.length_set]); omega), ⟨by omega, by omega⟩, up1 hi hl, trivial⟩
  try simp only [List.set_set] at t
  exact t) (by
  have t := qwA xs.length (nextL News.next k (xs.take xs.length)) (qam News.e News.mark News.next k xs xs.length) ⟨qcC, trivial⟩
  rw [qcy, List.take_length] at t ⊢
  exact t)
 rw [qcx] at l
 exact qwB _ _ _ _ ⟨l, trivial⟩
theorem qxc (xs : List Node) (k : Int) (hk : 0 ≤ k) (hM : nextL Node.next k xs ≤ 1000000000000) (hl : xs.length ≤ 1048576) (hs : ∀ x ∈ xs, x.sz ≤ 1048576) :
  RetG Tryz.prog 164 [.one (.gv 4 (xs.map Node.e) (some ((markL Node.mark Node.next k xs).map Node.e))), .one (.ro (I k))] [.one (I (nextL Node.next k xs))] := by
 have l := qaj (P := Tryz.prog) (c := qaa Tryz.f164 0) (stE := qgK (nextL Node.next k xs) ((markL Node.mark Node.next k xs).map Node.e)) (qah 0) xs.length (fun i => qd5 i (nextL Node.next k (xs.take i)) (qam Node.e Node.mark Node.next k xs i)) (fun i hi => by
  obtain ⟨a, ha⟩ := qag hi
  have h0 := qb1 Node.cb Node.next_le xs k i
  have h1 := Int.le_trans (qb0 Node.cb Node.next_le xs k (i + 1)) hM
  rw [qa5 ha] at h1
  have hlen : (qam Node.e Node.mark Node.next k xs i).length = xs.length := qbS (by omega)
  have hlt := qcB (e := Node.e) (mark := Node.mark) (next := Node.next) (k := k) hi
  have hg := qcz (e := Node.e) (mark := Node.mark) (next := Node.next) (k := k) ha
  have hset := qcA (e := Node.e) (mark := Node.mark) (next := Node.next) (k := k) ha
  show Tr _ _ (qd5 (i : Nat) (nextL Node.next k (xs.take i)) (qam Node.e Node.mark Node.next k xs i)) _ (qd5 (i + 1 : Nat) (nextL Node.next k (xs.take (i + 1))) (qam Node.e Node.mark Node.next k xs (i + 1)))
  rw [← hset, qa5 ha]
  generalize nextL Node.next k (xs.take i) = K at *
  generalize qam Node.e Node.mark Node.next k xs i = M at *
  have hz := hs a (qaG ha)
  unfold Node.next at h1
  have f0 := qaI (fun _ => 1) nI_le a.outs (K + 1 + 1 + 1)
  have t := qwR i K M _ _ _ _ _ _ _ _ _ _ _ _ _ _ _ _ _ _ ⟨by rw [hlen]; simp only [decide_eq_true_eq]; omega, lt0, hlt, hg, ⟨by omega, by omega⟩, lt0, qal hlt, qaA (by (try simp only [List.length_set]); omega), ⟨by omega, by omega⟩, lt0, qal (qal hlt), qaA (by (try simp only [List.length_set]); omega), ⟨by omega, by omega⟩, lt0, qal (qal (qal hlt)), qaA (by (try simp only [List.length_set]); omega), qmn a.outs (K + 1 + 1 + 1) (by omega) (by omega) (by simp only [Node.sz] at hz; omega), qaA (by (try simp only [List.length_set]); omega), rfl, up1 hi hl, trivial⟩
  try simp only [List.set_set] at t
  exact t) (by
  have t := qwS xs.length (nextL Node.next k (xs.take xs.length)) (qam Node.e Node.mark Node.next k xs xs.length) ⟨qcC, trivial⟩
  rw [qcy, List.take_length] at t ⊢
  exact t)
 rw [qcx] at l
 exact qwT _ _ _ _ ⟨l, trivial⟩
theorem qxd (xs : List Link) (k : Int) (hk : 0 ≤ k) (hM : nextL Link.next k xs ≤ 1000000000000) (hl : xs.length ≤ 1048576) (hs : ∀ x ∈ xs, x.sz ≤ 1048576) :
  RetG Tryz.prog 76 [.one (.gv 6 (xs.map Link.e) (some ((markL Link.mark Link.next k xs).map Link.e))), .one (.ro (I k))] [.one (I (nextL Link.next k xs))] := by
 have l := qaj (P := Tryz.prog) (c := qaa Tryz.f76 0) (stE := qgL (nextL Link.next k xs) ((markL Link.mark Link.next k xs).map Link.e)) (qah 0) xs.length (fun i => qd6 i (nextL Link.next k (xs.take i)) (qam Link.e Link.mark Link.next k xs i)) (fun i hi => by
  obtain ⟨a, ha⟩ := qag hi
  have h0 := qb1 Link.cb Link.next_le xs k i
  have h1 := Int.le_trans (qb0 Link.cb Link.next_le xs k (i + 1)) hM
  rw [qa5 ha] at h1
  have hlen : (qam Link.e Link.mark Link.next k xs i).length = xs.length := qbS (by omega)
  have hlt := qcB (e := Link.e) (mark := Link.mark) (next := Link.next) (k := k) hi
  have hg := qcz (e := Link.e) (mark := Link.mark) (next := Link.next) (k := k) ha
  have hset := qcA (e := Link.e) (mark := Link.mark) (next := Link.next) (k := k) ha
  show Tr _ _ (qd6 (i : Nat) (nextL Link.next k (xs.take i)) (qam Link.e Link.mark Link.next k xs i)) _ (qd6 (i + 1 : Nat) (nextL Link.next k (xs.take (i + 1))) (qam Link.e Link.mark Link.next k xs (i + 1)))
  rw [← hset, qa5 ha]
  generalize nextL Link.next k (xs.take i) = K at *
  generalize qam Link.e Link.mark Link.next k xs i = M at *
  have hz := hs a (qaG ha)
  unfold Link.next at h1
  have f0 := qaI Record.cb Record.next_le a.queue (K + 1)
  have t := qwU i K M _ _ _ _ _ _ _ _ _ _ _ _ _ _ _ _ _ _ _ _ _ _ _ _ _ _ _ _ _ _ _ _ _ _ _ _ _ _ ⟨by rw [hlen]; simp only [decide_eq_true_eq]; omega, lt0, hlt, hg, ⟨by omega, by omega⟩, lt0, qal hlt, qaA (by (try simp only [List.length_set]); omega), qfu a.queue (K + 1) (by omega) (by omega) (by simp only [Link.sz] at hz; omega), qaA (by (try simp only [List.length_set]); omega), rfl, lt0, qal (qal hlt), qaA (by (try simp only [List.length_set]); omega), ⟨by omega, by omega⟩, lt0, qal (qal (qal hlt)), qaA (by (try simp only [List.length_set]); omega), ⟨by omega, by omega⟩, lt0, qal (qal (qal (qal hlt))), qaA (by (try simp only [List.length_set]); omega), ⟨by omega, by omega⟩, lt0, qal (qal (qal (qal (qal hlt)))), qaA (by (try simp only [List.length_set]); omega), ⟨by omega, by omega⟩, up1 hi hl, trivial⟩
  try simp only [List.set_set] at t
  exact t) (by
  have t := qwV xs.length (nextL Link.next k (xs.take xs.length)) (qam Link.e Link.mark Link.next k xs xs.length) ⟨qcC, trivial⟩
  rw [qcy, List.take_length] at t ⊢
  exact t)
 rw [qcx] at l
 exact qwW _ _ _ _ ⟨l, trivial⟩
theorem qxe (xs : List Worker) (k : Int) (hk : 0 ≤ k) (hM : nextL Worker.next k xs ≤ 1000000000000) (hl : xs.length ≤ 1048576) (hs : ∀ x ∈ xs, x.sz ≤ 1048576) :
  RetG Tryz.prog 75 [.one (.gv 8 (xs.map Worker.e) (some ((markL Worker.mark Worker.next k xs).map Worker.e))), .one (.ro (I k))] [.one (I (nextL Worker.next k xs))] := by
 have l := qaj (P := Tryz.prog) (c := qaa Tryz.f75 0) (stE := qgM (nextL Worker.next k xs) ((markL Worker.mark Worker.next k xs).map Worker.e)) (qah 0) xs.length (fun i => qd7 i (nextL Worker.next k (xs.take i)) (qam Worker.e Worker.mark Worker.next k xs i)) (fun i hi => by
  obtain ⟨a, ha⟩ := qag hi
  have h0 := qb1 Worker.cb Worker.next_le xs k i
  have h1 := Int.le_trans (qb0 Worker.cb Worker.next_le xs k (i + 1)) hM
  rw [qa5 ha] at h1
  have hlen : (qam Worker.e Worker.mark Worker.next k xs i).length = xs.length := qbS (by omega)
  have hlt := qcB (e := Worker.e) (mark := Worker.mark) (next := Worker.next) (k := k) hi
  have hg := qcz (e := Worker.e) (mark := Worker.mark) (next := Worker.next) (k := k) ha
  have hset := qcA (e := Worker.e) (mark := Worker.mark) (next := Worker.next) (k := k) ha
  show Tr _ _ (qd7 (i : Nat) (nextL Worker.next k (xs.take i)) (qam Worker.e Worker.mark Worker.next k xs i)) _ (qd7 (i + 1 : Nat) (nextL Worker.next k (xs.take (i + 1))) (qam Worker.e Worker.mark Worker.next k xs (i + 1)))
  rw [← hset, qa5 ha]
  generalize nextL Worker.next k (xs.take i) = K at *
  generalize qam Worker.e Worker.mark Worker.next k xs i = M at *
  have hz := hs a (qaG ha)
  unfold Worker.next at h1
  have f0 := qaI Record.cb Record.next_le a.queue K
  have f1 := qaI Record.cb Record.next_le a.staged (nextL Record.next K a.queue)
  have f2 := qaI Record.cb Record.next_le a.inputs (nextL Record.next (nextL Record.next K a.queue) a.staged)
  have f3 := qaI Cell.cb Cell.next_le a.cells (nextL Record.next (nextL Record.next (nextL Record.next K a.queue) a.staged) a.inputs)
  have f4 := qaI (fun _ => 1) nI_le a.sums (nextL Cell.next (nextL Record.next (nextL Record.next (nextL Record.next K a.queue) a.staged) a.inputs) a.cells)
  have f5 := qaI (fun _ => 1) nB_le a.black (nextL nI (nextL Cell.next (nextL Record.next (nextL Record.next (nextL Record.next K a.queue) a.staged) a.inputs) a.cells) a.sums)
  have f6 := qaI (fun _ => 1) nB_le a.caps (nextL nB (nextL nI (nextL Cell.next (nextL Record.next (nextL Record.next (nextL Record.next K a.queue) a.staged) a.inputs) a.cells) a.sums) a.black)
  have f7 := qaI Done.cb Done.next_le a.dones (nextL nB (nextL nB (nextL nI (nextL Cell.next (nextL Record.next (nextL Record.next (nextL Record.next K a.queue) a.staged) a.inputs) a.cells) a.sums) a.black) a.caps)
  have t := qwX i K M _ _ _ _ _ _ _ _ _ _ _ _ _ _ _ _ _ _ _ _ _ _ _ _ _ _ _ _ _ _ _ _ _ _ _ _ _ _ _ _ _ _ _ _ _ _ _ _ _ _ _ _ _ _ _ _ _ _ _ _ _ _ _ _ _ _ _ _ _ _ _ _ _ _ _ _ _ _ _ _ ⟨by rw [hlen]; simp only [decide_eq_true_eq]; omega, lt0, hlt, hg, qfu a.queue K (by omega) (by omega) (by simp only [Worker.sz] at hz; omega), hg, rfl, lt0, qal hlt, qaA (by (try simp only [List.length_set]); omega), qfu a.staged (nextL Record.next K a.queue) (by omega) (by omega) (by simp only [Worker.sz] at hz; omega), qaA (by (try simp only [List.length_set]); omega), rfl, lt0, qal (qal hlt), qaA (by (try simp only [List.length_set]); omega), qfu a.inputs (nextL Record.next (nextL Record.next K a.queue) a.staged) (by omega) (by omega) (by simp only [Worker.sz] at hz; omega), qaA (by (try simp only [List.length_set]); omega), rfl, lt0, qal (qal (qal hlt)), qaA (by (try simp only [List.length_set]); omega), qw8 a.cells (nextL Record.next (nextL Record.next (nextL Record.next K a.queue) a.staged) a.inputs) (by omega) (by omega) (by simp only [Worker.sz] at hz; omega), qaA (by (try simp only [List.length_set]); omega), rfl, lt0, qal (qal (qal (qal hlt))), qaA (by (try simp only [List.length_set]); omega), qmn a.sums (nextL Cell.next (nextL Record.next (nextL Record.next (nextL Record.next K a.queue) a.staged) a.inputs) a.cells) (by omega) (by omega) (by simp only [Worker.sz] at hz; omega), qaA (by (try simp only [List.length_set]); omega), rfl, lt0, qal (qal (qal (qal (qal hlt)))), qaA (by (try simp only [List.length_set]); omega), qmo a.black (nextL nI (nextL Cell.next (nextL Record.next (nextL Record.next (nextL Record.next K a.queue) a.staged) a.inputs) a.cells) a.sums) (by omega) (by omega) (by simp only [Worker.sz] at hz; omega), qaA (by (try simp only [List.length_set]); omega), rfl, lt0, qal (qal (qal (qal (qal (qal hlt))))), qaA (by (try simp only [List.length_set]); omega), qmo a.caps (nextL nB (nextL nI (nextL Cell.next (nextL Record.next (nextL Record.next (nextL Record.next K a.queue) a.staged) a.inputs) a.cells) a.sums) a.black) (by omega) (by omega) (by simp only [Worker.sz] at hz; omega), qaA (by (try simp only [List.length_set]); omega), rfl, lt0, qal (qal (qal (qal (qal (qal (qal hlt)))))), qaA (by (try simp only [List.length_set]); omega), qw9 a.dones (nextL nB (nextL nB (nextL nI (nextL Cell.next (nextL Record.next (nextL Record.next (nextL Record.next K a.queue) a.staged) a.inputs) a.cells) a.sums) a.black) a.caps) (by omega) (by omega) (by simp only [Worker.sz] at hz; omega), qaA (by (try simp only [List.length_set]); omega), rfl, up1 hi hl, trivial⟩
  try simp only [List.set_set] at t
  exact t) (by
  have t := qwY xs.length (nextL Worker.next k (xs.take xs.length)) (qam Worker.e Worker.mark Worker.next k xs xs.length) ⟨qcC, trivial⟩
  rw [qcy, List.take_length] at t ⊢
  exact t)
 rw [qcx] at l
 exact qwZ _ _ _ _ ⟨l, trivial⟩
def Cluster.topNext (k : Int) (c : Cluster) : Int := nextL News.next (nextL Token.next (nextL Link.next (nextL Worker.next (nextL Node.next k c.graph.nodes) c.workers) c.links) c.tokens) c.news
theorem Cluster.topNext_le (c : Cluster) (hc : c.sz ≤ 1048576) : 1 ≤ c.topNext 1 ∧ c.topNext 1 ≤ 1000000000000 := by
 have f0 := qaI Node.cb Node.next_le c.graph.nodes 1
 have g0 := qgN Node.cb Node.sz Node.cb_le c.graph.nodes
 have f1 := qaI Worker.cb Worker.next_le c.workers (nextL Node.next 1 c.graph.nodes)
 have g1 := qgN Worker.cb Worker.sz Worker.cb_le c.workers
 have f2 := qaI Link.cb Link.next_le c.links (nextL Worker.next (nextL Node.next 1 c.graph.nodes) c.workers)
 have g2 := qgN Link.cb Link.sz Link.cb_le c.links
 have f3 := qaI Token.cb Token.next_le c.tokens (nextL Link.next (nextL Worker.next (nextL Node.next 1 c.graph.nodes) c.workers) c.links)
 rw [Token.cb_sum] at f3
 have f4 := qaI News.cb News.next_le c.news (nextL Token.next (nextL Link.next (nextL Worker.next (nextL Node.next 1 c.graph.nodes) c.workers) c.links) c.tokens)
 rw [News.cb_sum] at f4
 simp only [Cluster.sz, Graph.sz, szS] at hc
 unfold Cluster.topNext
 omega
theorem qxf (c : Cluster) (k : Int) (hk : 0 ≤ k) (hM : c.topNext k ≤ 1000000000000) (hc : c.sz ≤ 1048576) :
  RetG Tryz.prog 21 [.agg [.gv 4 (c.graph.nodes.map Node.e) (some ((markL Node.mark Node.next k c.graph.nodes).map Node.e)), .ro (I c.graph.workers), .ro (I c.graph.cap), .gv 8 (c.workers.map Worker.e) (some ((markL Worker.mark Worker.next (nextL Node.next k c.graph.nodes) c.workers).map Worker.e)), .gv 6 (c.links.map Link.e) (some ((markL Link.mark Link.next (nextL Worker.next (nextL Node.next k c.graph.nodes) c.workers) c.links).map Link.e)), .gv 5 (c.tokens.map Token.e) (some ((markL Token.mark Token.next (nextL Link.next (nextL Worker.next (nextL Node.next k c.graph.nodes) c.workers) c.links) c.tokens).map Token.e)), .gv 3 (c.news.map News.e) (some ((markL News.mark News.next (nextL Token.next (nextL Link.next (nextL Worker.next (nextL Node.next k c.graph.nodes) c.workers) c.links) c.tokens) c.news).map News.e))], .one (.ro (I k))] [.one (I (c.topNext k))] := by
 have f0 := qaI Node.cb Node.next_le c.graph.nodes k
 have f1 := qaI Worker.cb Worker.next_le c.workers (nextL Node.next k c.graph.nodes)
 have f2 := qaI Link.cb Link.next_le c.links (nextL Worker.next (nextL Node.next k c.graph.nodes) c.workers)
 have f3 := qaI Token.cb Token.next_le c.tokens (nextL Link.next (nextL Worker.next (nextL Node.next k c.graph.nodes) c.workers) c.links)
 have f4 := qaI News.cb News.next_le c.news (nextL Token.next (nextL Link.next (nextL Worker.next (nextL Node.next k c.graph.nodes) c.workers) c.links) c.tokens)
 unfold Cluster.topNext at hM ⊢
 have hz := hc
 simp only [Cluster.sz, Graph.sz, szS] at hz
 exact qw1 _ _ _ _ _ _ _ _ _ _ _ _ _ _ _ _ _ _ ⟨qw0 _ _ _ _ _ _ ⟨qxc c.graph.nodes k (by omega) (by omega) (by omega) (fun x hx => by have := qcQ (sz := Node.sz) hx; omega), trivial⟩, qxe c.workers (nextL Node.next k c.graph.nodes) (by omega) (by omega) (by omega) (fun x hx => by have := qcQ (sz := Worker.sz) hx; omega), qxd c.links (nextL Worker.next (nextL Node.next k c.graph.nodes) c.workers) (by omega) (by omega) (by omega) (fun x hx => by have := qcQ (sz := Link.sz) hx; omega), qxa c.tokens (nextL Link.next (nextL Worker.next (nextL Node.next k c.graph.nodes) c.workers) c.links) (by omega) (by omega) (by omega), qxb c.news (nextL Token.next (nextL Link.next (nextL Worker.next (nextL Node.next k c.graph.nodes) c.workers) c.links) c.tokens) (by omega) (by omega) (by omega), trivial⟩
end Go.Proofs.YtialmplmfcahpaaGreat
