/- The functions mark.. and held..: their contracts (printed by gentypes.py) -/
import Derived.Test.YtbbjajmimckabaaT6
set_option linter.unusedVariables false
set_option linter.unusedSimpArgs false
namespace Go.Proofs.Ytbbjajmimckabaa
open Go.Sx Go.RowKit

theorem sum_cb {α : Type} (c s : α → Nat) (h : ∀ x, c x ≤ 6 + 5 * s x) : ∀ xs : List α, (xs.map c).sum ≤ 6 * xs.length + 5 * (xs.map s).sum
  | [] => by simp
  | x :: xs => by
    have h1 := h x
    have h2 := sum_cb c s h xs
    simp only [List.map_cons, List.sum_cons, List.length_cons]
    omega

theorem Stamp.cb_sum (xs : List Stamp) : (xs.map Stamp.cb).sum = xs.length * 2 := sum_const xs 2

theorem Record.cb_sum (xs : List Record) : (xs.map Record.cb).sum = xs.length * 5 := sum_const xs 5

theorem Cell.cb_sum (xs : List Cell) : (xs.map Cell.cb).sum = xs.length * 4 := sum_const xs 4

theorem Done.cb_sum (xs : List Done) : (xs.map Done.cb).sum = xs.length * 2 := sum_const xs 2

theorem Token.cb_sum (xs : List Token) : (xs.map Token.cb).sum = xs.length * 5 := sum_const xs 5

theorem News.cb_sum (xs : List News) : (xs.map News.cb).sum = xs.length * 3 := sum_const xs 3

theorem Pick.cb_sum (xs : List Pick) : (xs.map Pick.cb).sum = xs.length * 3 := sum_const xs 3

theorem Node.cb_le (x : Node) : x.cb ≤ 6 + 5 * x.sz := by
  simp only [Node.cb, Node.sz, sum_const]
  omega

theorem Link.cb_le (x : Link) : x.cb ≤ 6 + 5 * x.sz := by
  simp only [Link.cb, Link.sz, Record.cb_sum]
  omega

theorem Worker.cb_le (x : Worker) : x.cb ≤ 6 + 5 * x.sz := by
  simp only [Worker.cb, Worker.sz, sum_const, Cell.cb_sum, Done.cb_sum, sum_const, Record.cb_sum]
  omega

theorem laws_markIntS_ret (xs : List Int) (k : Int) (hk : 0 ≤ k) (hM : nextL nI k xs ≤ 1000000000000) (hl : xs.length ≤ 1048576) :
    RetG Try.prog 97 [.one (.gv 1 (xs.map eI) (some ((markL mI nI k xs).map eI))), .one (.ro (I k))] [.one (I (nextL nI k xs))] := by
  have l := loop_upto (P := Try.prog) (c := loopOf Try.f97 0) (stE := laws_markIntS_X0 (nextL nI k xs) ((markL mI nI k xs).map eI)) (exit_ne 0) xs.length (fun i => laws_markIntS_L0 i (nextL nI k (xs.take i)) (markAt eI mI nI k xs i)) (fun i hi => by
    obtain ⟨a, ha⟩ := get_of hi
    have h0 := nextL_ge (fun _ => 1) nI_le xs k i
    have h1 := Int.le_trans (nextL_mono (fun _ => 1) nI_le xs k (i + 1)) hM
    rw [nextL_succ ha] at h1
    have hlen : (markAt eI mI nI k xs i).length = xs.length := markAt_len (by omega)
    have hlt := markAt_lt (e := eI) (mark := mI) (next := nI) (k := k) hi
    have hg := markAt_get (e := eI) (mark := mI) (next := nI) (k := k) ha
    have hset := markAt_set (e := eI) (mark := mI) (next := nI) (k := k) ha
    show Tr _ _ (laws_markIntS_L0 (i : Nat) (nextL nI k (xs.take i)) (markAt eI mI nI k xs i)) _ (laws_markIntS_L0 (i + 1 : Nat) (nextL nI k (xs.take (i + 1))) (markAt eI mI nI k xs (i + 1)))
    rw [← hset, nextL_succ ha]
    generalize nextL nI k (xs.take i) = K at *
    generalize markAt eI mI nI k xs i = M at *
    unfold nI at h1
    have t := laws_markIntS_L0_s0 i K M _ ⟨by rw [hlen]; simp only [decide_eq_true_eq]; omega, lt0, hlt, hg, ⟨by omega, by omega⟩, up1 hi hl, trivial⟩
    try simp only [List.set_set] at t
    exact t) (by
    have t := laws_markIntS_L0_x1 xs.length (nextL nI k (xs.take xs.length)) (markAt eI mI nI k xs xs.length) ⟨markAt_end, trivial⟩
    rw [markAt_all, List.take_length] at t ⊢
    exact t)
  rw [markAt_zero] at l
  exact laws_markIntS_p0 _ _ _ _ ⟨l, trivial⟩

theorem laws_markRecordS_ret (xs : List Record) (k : Int) (hk : 0 ≤ k) (hM : nextL Record.next k xs ≤ 1000000000000) (hl : xs.length ≤ 1048576) :
    RetG Try.prog 17 [.one (.gv 5 (xs.map Record.e) (some ((markL Record.mark Record.next k xs).map Record.e))), .one (.ro (I k))] [.one (I (nextL Record.next k xs))] := by
  have l := loop_upto (P := Try.prog) (c := loopOf Try.f17 0) (stE := laws_markRecordS_X0 (nextL Record.next k xs) ((markL Record.mark Record.next k xs).map Record.e)) (exit_ne 0) xs.length (fun i => laws_markRecordS_L0 i (nextL Record.next k (xs.take i)) (markAt Record.e Record.mark Record.next k xs i)) (fun i hi => by
    obtain ⟨a, ha⟩ := get_of hi
    have h0 := nextL_ge Record.cb Record.next_le xs k i
    have h1 := Int.le_trans (nextL_mono Record.cb Record.next_le xs k (i + 1)) hM
    rw [nextL_succ ha] at h1
    have hlen : (markAt Record.e Record.mark Record.next k xs i).length = xs.length := markAt_len (by omega)
    have hlt := markAt_lt (e := Record.e) (mark := Record.mark) (next := Record.next) (k := k) hi
    have hg := markAt_get (e := Record.e) (mark := Record.mark) (next := Record.next) (k := k) ha
    have hset := markAt_set (e := Record.e) (mark := Record.mark) (next := Record.next) (k := k) ha
    show Tr _ _ (laws_markRecordS_L0 (i : Nat) (nextL Record.next k (xs.take i)) (markAt Record.e Record.mark Record.next k xs i)) _ (laws_markRecordS_L0 (i + 1 : Nat) (nextL Record.next k (xs.take (i + 1))) (markAt Record.e Record.mark Record.next k xs (i + 1)))
    rw [← hset, nextL_succ ha]
    generalize nextL Record.next k (xs.take i) = K at *
    generalize markAt Record.e Record.mark Record.next k xs i = M at *
    unfold Record.next at h1
    have t := laws_markRecordS_L0_s0 i K M _ _ _ _ _ _ _ _ _ _ _ _ _ _ _ _ _ _ _ _ _ _ _ _ _ ⟨by rw [hlen]; simp only [decide_eq_true_eq]; omega, lt0, hlt, hg, ⟨by omega, by omega⟩, lt0, lt_set hlt, get_set (by (try simp only [List.length_set]); omega), ⟨by omega, by omega⟩, lt0, lt_set (lt_set hlt), get_set (by (try simp only [List.length_set]); omega), ⟨by omega, by omega⟩, lt0, lt_set (lt_set (lt_set hlt)), get_set (by (try simp only [List.length_set]); omega), ⟨by omega, by omega⟩, lt0, lt_set (lt_set (lt_set (lt_set hlt))), get_set (by (try simp only [List.length_set]); omega), ⟨by omega, by omega⟩, up1 hi hl, trivial⟩
    try simp only [List.set_set] at t
    exact t) (by
    have t := laws_markRecordS_L0_x1 xs.length (nextL Record.next k (xs.take xs.length)) (markAt Record.e Record.mark Record.next k xs xs.length) ⟨markAt_end, trivial⟩
    rw [markAt_all, List.take_length] at t ⊢
    exact t)
  rw [markAt_zero] at l
  exact laws_markRecordS_p0 _ _ _ _ ⟨l, trivial⟩

theorem laws_markCellS_ret (xs : List Cell) (k : Int) (hk : 0 ≤ k) (hM : nextL Cell.next k xs ≤ 1000000000000) (hl : xs.length ≤ 1048576) :
    RetG Try.prog 35 [.one (.gv 4 (xs.map Cell.e) (some ((markL Cell.mark Cell.next k xs).map Cell.e))), .one (.ro (I k))] [.one (I (nextL Cell.next k xs))] := by
  have l := loop_upto (P := Try.prog) (c := loopOf Try.f35 0) (stE := laws_markCellS_X0 (nextL Cell.next k xs) ((markL Cell.mark Cell.next k xs).map Cell.e)) (exit_ne 0) xs.length (fun i => laws_markCellS_L0 i (nextL Cell.next k (xs.take i)) (markAt Cell.e Cell.mark Cell.next k xs i)) (fun i hi => by
    obtain ⟨a, ha⟩ := get_of hi
    have h0 := nextL_ge Cell.cb Cell.next_le xs k i
    have h1 := Int.le_trans (nextL_mono Cell.cb Cell.next_le xs k (i + 1)) hM
    rw [nextL_succ ha] at h1
    have hlen : (markAt Cell.e Cell.mark Cell.next k xs i).length = xs.length := markAt_len (by omega)
    have hlt := markAt_lt (e := Cell.e) (mark := Cell.mark) (next := Cell.next) (k := k) hi
    have hg := markAt_get (e := Cell.e) (mark := Cell.mark) (next := Cell.next) (k := k) ha
    have hset := markAt_set (e := Cell.e) (mark := Cell.mark) (next := Cell.next) (k := k) ha
    show Tr _ _ (laws_markCellS_L0 (i : Nat) (nextL Cell.next k (xs.take i)) (markAt Cell.e Cell.mark Cell.next k xs i)) _ (laws_markCellS_L0 (i + 1 : Nat) (nextL Cell.next k (xs.take (i + 1))) (markAt Cell.e Cell.mark Cell.next k xs (i + 1)))
    rw [← hset, nextL_succ ha]
    generalize nextL Cell.next k (xs.take i) = K at *
    generalize markAt Cell.e Cell.mark Cell.next k xs i = M at *
    unfold Cell.next at h1
    have t := laws_markCellS_L0_s0 i K M _ _ _ _ _ _ _ _ _ _ _ _ _ _ _ _ ⟨by rw [hlen]; simp only [decide_eq_true_eq]; omega, lt0, hlt, hg, ⟨by omega, by omega⟩, lt0, lt_set hlt, get_set (by (try simp only [List.length_set]); omega), ⟨by omega, by omega⟩, lt0, lt_set (lt_set hlt), get_set (by (try simp only [List.length_set]); omega), ⟨by omega, by omega⟩, lt0, lt_set (lt_set (lt_set hlt)), get_set (by (try simp only [List.length_set]); omega), ⟨by omega, by omega⟩, up1 hi hl, trivial⟩
    try simp only [List.set_set] at t
    exact t) (by
    have t := laws_markCellS_L0_x1 xs.length (nextL Cell.next k (xs.take xs.length)) (markAt Cell.e Cell.mark Cell.next k xs xs.length) ⟨markAt_end, trivial⟩
    rw [markAt_all, List.take_length] at t ⊢
    exact t)
  rw [markAt_zero] at l
  exact laws_markCellS_p0 _ _ _ _ ⟨l, trivial⟩

theorem top_Cell (xs : List Cell) (hl : xs.length ≤ 1048576) : 1 ≤ nextL Cell.next 1 xs ∧ nextL Cell.next 1 xs ≤ 1000000000000 := by
  have f := nextL_le Cell.cb Cell.next_le xs 1
  rw [Cell.cb_sum] at f
  omega

theorem markL_get_Cell {xs : List Cell} {k : Int} {i : Nat} {a : Cell} (h : xs[i]? = some a) : (markL Cell.mark Cell.next k xs)[i]? = some (Cell.mark (nextL Cell.next k (xs.take i)) a) := by
  have hi := lt_of h
  have e : xs = xs.take i ++ a :: xs.drop (i + 1) := by
    have ha : xs[i] = a := by rw [List.getElem?_eq_getElem hi] at h; exact Option.some.inj h
    rw [← ha, ← List.drop_eq_getElem_cons hi, List.take_append_drop]
  conv => lhs; rw [e]
  rw [markL_app, List.getElem?_append, markL_len, List.length_take, if_neg (by omega), show i - min i xs.length = 0 by omega]
  rfl

theorem laws_heldCellS_ret (xs : List Cell) (k : Int) (hk : 0 ≤ k) (hM : nextL Cell.next k xs ≤ 1000000000000) (hl : xs.length ≤ 1048576) : Ret Try.prog 36 [.one (.sl 4 ((markL Cell.mark Cell.next k xs).map Cell.e)), .one (I k)] [.one (I (nextL Cell.next k xs))] := by
  have hlm : (markL Cell.mark Cell.next k xs).length = xs.length := markL_len
  have l := loop_upto (P := Try.prog) (c := loopOf Try.f36 0) (exit_ne 0) (markL Cell.mark Cell.next k xs).length (fun i => laws_heldCellS_L0 ((markL Cell.mark Cell.next k xs).map Cell.e) i (nextL Cell.next k (xs.take i))) (fun i hi2 => by
    have hi : i < xs.length := by omega
    obtain ⟨a, ha⟩ := get_of hi
    have ha2 := markL_get_Cell (k := k) ha
    have h0 := nextL_ge Cell.cb Cell.next_le xs k i
    have h1 := Int.le_trans (nextL_mono Cell.cb Cell.next_le xs k (i + 1)) hM
    rw [nextL_succ ha] at h1
    show Tr _ _ (laws_heldCellS_L0 ((markL Cell.mark Cell.next k xs).map Cell.e) (i : Nat) (nextL Cell.next k (xs.take i))) _ (laws_heldCellS_L0 ((markL Cell.mark Cell.next k xs).map Cell.e) (i + 1 : Nat) (nextL Cell.next k (xs.take (i + 1))))
    rw [nextL_succ ha]
    generalize nextL Cell.next k (xs.take i) = K at *
    unfold Cell.next at h1
    exact laws_heldCellS_L0_s4 _ _ _ _ _ _ _ _ _ _ _ _ _ _ _ _ _ _ _ ⟨lt1 hi2, lt0, lt2 hi2, at_map Cell.e ha2, by simp [Cell.mark], ⟨by omega, by omega⟩, lt0, lt2 hi2, at_map Cell.e ha2, by simp [Cell.mark], ⟨by omega, by omega⟩, lt0, lt2 hi2, at_map Cell.e ha2, by simp [Cell.mark], ⟨by omega, by omega⟩, lt0, lt2 hi2, at_map Cell.e ha2, by simp [Cell.mark], ⟨by omega, by omega⟩, ⟨by omega, by omega⟩, trivial⟩) (laws_heldCellS_L0_x5 _ _ _ ⟨ge1, trivial⟩)
  rw [hlm, List.take_length] at l
  exact laws_heldCellS_p1 _ _ _ ⟨l, trivial⟩

theorem laws_markNodeS_ret (xs : List Node) (k : Int) (hk : 0 ≤ k) (hM : nextL Node.next k xs ≤ 1000000000000) (hl : xs.length ≤ 1048576) (hs : ∀ x ∈ xs, x.sz ≤ 1048576) :
    RetG Try.prog 86 [.one (.gv 4 (xs.map Node.e) (some ((markL Node.mark Node.next k xs).map Node.e))), .one (.ro (I k))] [.one (I (nextL Node.next k xs))] := by
  have l := loop_upto (P := Try.prog) (c := loopOf Try.f86 0) (stE := laws_markNodeS_X0 (nextL Node.next k xs) ((markL Node.mark Node.next k xs).map Node.e)) (exit_ne 0) xs.length (fun i => laws_markNodeS_L0 i (nextL Node.next k (xs.take i)) (markAt Node.e Node.mark Node.next k xs i)) (fun i hi => by
    obtain ⟨a, ha⟩ := get_of hi
    have h0 := nextL_ge Node.cb Node.next_le xs k i
    have h1 := Int.le_trans (nextL_mono Node.cb Node.next_le xs k (i + 1)) hM
    rw [nextL_succ ha] at h1
    have hlen : (markAt Node.e Node.mark Node.next k xs i).length = xs.length := markAt_len (by omega)
    have hlt := markAt_lt (e := Node.e) (mark := Node.mark) (next := Node.next) (k := k) hi
    have hg := markAt_get (e := Node.e) (mark := Node.mark) (next := Node.next) (k := k) ha
    have hset := markAt_set (e := Node.e) (mark := Node.mark) (next := Node.next) (k := k) ha
    show Tr _ _ (laws_markNodeS_L0 (i : Nat) (nextL Node.next k (xs.take i)) (markAt Node.e Node.mark Node.next k xs i)) _ (laws_markNodeS_L0 (i + 1 : Nat) (nextL Node.next k (xs.take (i + 1))) (markAt Node.e Node.mark Node.next k xs (i + 1)))
    rw [← hset, nextL_succ ha]
    generalize nextL Node.next k (xs.take i) = K at *
    generalize markAt Node.e Node.mark Node.next k xs i = M at *
    have hz := hs a (mem_of ha)
    unfold Node.next at h1
    have f0 := nextL_le (fun _ => 1) nI_le a.outs (K + 1 + 1 + 1)
    have t := laws_markNodeS_L0_s0 i K M _ _ _ _ _ _ _ _ _ _ _ _ _ _ _ _ _ _ ⟨by rw [hlen]; simp only [decide_eq_true_eq]; omega, lt0, hlt, hg, ⟨by omega, by omega⟩, lt0, lt_set hlt, get_set (by (try simp only [List.length_set]); omega), ⟨by omega, by omega⟩, lt0, lt_set (lt_set hlt), get_set (by (try simp only [List.length_set]); omega), ⟨by omega, by omega⟩, lt0, lt_set (lt_set (lt_set hlt)), get_set (by (try simp only [List.length_set]); omega), laws_markIntS_ret a.outs (K + 1 + 1 + 1) (by omega) (by omega) (by simp only [Node.sz] at hz; omega), get_set (by (try simp only [List.length_set]); omega), rfl, up1 hi hl, trivial⟩
    try simp only [List.set_set] at t
    exact t) (by
    have t := laws_markNodeS_L0_x1 xs.length (nextL Node.next k (xs.take xs.length)) (markAt Node.e Node.mark Node.next k xs xs.length) ⟨markAt_end, trivial⟩
    rw [markAt_all, List.take_length] at t ⊢
    exact t)
  rw [markAt_zero] at l
  exact laws_markNodeS_p0 _ _ _ _ ⟨l, trivial⟩

end Go.Proofs.Ytbbjajmimckabaa
