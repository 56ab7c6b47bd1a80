/- The functions mark.. and held..: their contracts (printed by gentypes.py) -/
import Derived.Test.YtbbjajmimckabaaGreatT6
set_option linter.unusedVariables false
set_option linter.unusedSimpArgs false
namespace Go.Proofs.YtbbjajmimckabaaGreat
open Go.Sx Go.RowKit

theorem sum_cb {α : Type} (c s : α → Nat) (h : ∀ x, c x ≤ 6 + 5 * s x) : ∀ xs : List α, (xs.map c).sum ≤ 6 * xs.length + 5 * (xs.map s).sum
  | [] => by simp
  | x :: xs => by
    have h1 := h x
    have h2 := sum_cb c s h xs
    simp only [List.map_cons, List.sum_cons, List.length_cons]
    omega

theorem Stamp.cb_sum (xs : List Stamp) : (xs.map Stamp.cb).sum = xs.length * 2 := sum_const xs 2

theorem Record.cb_sum (xs : List Record) : (xs.map Record.cb).sum = xs.length * 5 := sum_const xs 5

theorem Cell.cb_sum (xs : List Cell) : (xs.map Cell.cb).sum = xs.length * 4 := sum_const xs 4

theorem Done.cb_sum (xs : List Done) : (xs.map Done.cb).sum = xs.length * 2 := sum_const xs 2

theorem Token.cb_sum (xs : List Token) : (xs.map Token.cb).sum = xs.length * 5 := sum_const xs 5

theorem News.cb_sum (xs : List News) : (xs.map News.cb).sum = xs.length * 3 := sum_const xs 3

theorem Pick.cb_sum (xs : List Pick) : (xs.map Pick.cb).sum = xs.length * 3 := sum_const xs 3

theorem Node.cb_le (x : Node) : x.cb ≤ 6 + 5 * x.sz := by
  simp only [Node.cb, Node.sz, sum_const]
  omega

theorem Link.cb_le (x : Link) : x.cb ≤ 6 + 5 * x.sz := by
  simp only [Link.cb, Link.sz, Record.cb_sum]
  omega

theorem Worker.cb_le (x : Worker) : x.cb ≤ 6 + 5 * x.sz := by
  simp only [Worker.cb, Worker.sz, sum_const, Cell.cb_sum, Done.cb_sum, sum_const, Record.cb_sum]
  omega

theorem laws_markIntS_ret (xs : List Int) (k : Int) (hk : 0 ≤ k) (hM : nextL nI k xs ≤ 1000000000000) (hl : xs.length ≤ 1048576) :
    RetG Tryz.prog 80 [.one (.gv 1 (xs.map eI) (some ((markL mI nI k xs).map eI))), .one (.ro (I k))] [.one (I (nextL nI k xs))] := by
  have l := loop_upto (P := Tryz.prog) (c := loopOf Tryz.f80 0) (stE := laws_markIntS_X0 (nextL nI k xs) ((markL mI nI k xs).map eI)) (exit_ne 0) xs.length (fun i => laws_markIntS_L0 i (nextL nI k (xs.take i)) (markAt eI mI nI k xs i)) (fun i hi => by
    obtain ⟨a, ha⟩ := get_of hi
    have h0 := nextL_ge (fun _ => 1) nI_le xs k i
    have h1 := Int.le_trans (nextL_mono (fun _ => 1) nI_le xs k (i + 1)) hM
    rw [nextL_succ ha] at h1
    have hlen : (markAt eI mI nI k xs i).length = xs.length := markAt_len (by omega)
    have hlt := markAt_lt (e := eI) (mark := mI) (next := nI) (k := k) hi
    have hg := markAt_get (e := eI) (mark := mI) (next := nI) (k := k) ha
    have hset := markAt_set (e := eI) (mark := mI) (next := nI) (k := k) ha
    show Tr _ _ (laws_markIntS_L0 (i : Nat) (nextL nI k (xs.take i)) (markAt eI mI nI k xs i)) _ (laws_markIntS_L0 (i + 1 : Nat) (nextL nI k (xs.take (i + 1))) (markAt eI mI nI k xs (i + 1)))
    rw [← hset, nextL_succ ha]
    generalize nextL nI k (xs.take i) = K at *
    generalize markAt eI mI nI k xs i = M at *
    unfold nI at h1
    have t := laws_markIntS_L0_s0 i K M _ ⟨by rw [hlen]; simp only [decide_eq_true_eq]; omega, lt0, hlt, hg, ⟨by omega, by omega⟩, up1 hi hl, trivial⟩
    try simp only [List.set_set] at t
    exact t) (by
    have t := laws_markIntS_L0_x1 xs.length (nextL nI k (xs.take xs.length)) (markAt eI mI nI k xs xs.length) ⟨markAt_end, trivial⟩
    rw [markAt_all, List.take_length] at t ⊢
    exact t)
  rw [markAt_zero] at l
  exact laws_markIntS_p0 _ _ _ _ ⟨l, trivial⟩

theorem laws_markBoolS_ret (xs : List Bool) (k : Int) (hk : 0 ≤ k) (hM : nextL nB k xs ≤ 1000000000000) (hl : xs.length ≤ 1048576) :
    RetG Tryz.prog 81 [.one (.gv 1 (xs.map eB) (some ((markL mB nB k xs).map eB))), .one (.ro (I k))] [.one (I (nextL nB k xs))] := by
  have l := loop_upto (P := Tryz.prog) (c := loopOf Tryz.f81 0) (stE := laws_markBoolS_X0 (nextL nB k xs) ((markL mB nB k xs).map eB)) (exit_ne 0) xs.length (fun i => laws_markBoolS_L0 i (nextL nB k (xs.take i)) (markAt eB mB nB k xs i)) (fun i hi => by
    obtain ⟨a, ha⟩ := get_of hi
    have h0 := nextL_ge (fun _ => 1) nB_le xs k i
    have h1 := Int.le_trans (nextL_mono (fun _ => 1) nB_le xs k (i + 1)) hM
    rw [nextL_succ ha] at h1
    have hlen : (markAt eB mB nB k xs i).length = xs.length := markAt_len (by omega)
    have hlt := markAt_lt (e := eB) (mark := mB) (next := nB) (k := k) hi
    have hg := markAt_get (e := eB) (mark := mB) (next := nB) (k := k) ha
    have hset := markAt_set (e := eB) (mark := mB) (next := nB) (k := k) ha
    show Tr _ _ (laws_markBoolS_L0 (i : Nat) (nextL nB k (xs.take i)) (markAt eB mB nB k xs i)) _ (laws_markBoolS_L0 (i + 1 : Nat) (nextL nB k (xs.take (i + 1))) (markAt eB mB nB k xs (i + 1)))
    rw [← hset, nextL_succ ha]
    generalize nextL nB k (xs.take i) = K at *
    generalize markAt eB mB nB k xs i = M at *
    unfold nB at h1
    have t := laws_markBoolS_L0_s0 i K M _ ⟨by rw [hlen]; simp only [decide_eq_true_eq]; omega, by omega, lt0, hlt, hg, ⟨by omega, by omega⟩, up1 hi hl, trivial⟩
    try simp only [List.set_set] at t
    exact t) (by
    have t := laws_markBoolS_L0_x1 xs.length (nextL nB k (xs.take xs.length)) (markAt eB mB nB k xs xs.length) ⟨markAt_end, trivial⟩
    rw [markAt_all, List.take_length] at t ⊢
    exact t)
  rw [markAt_zero] at l
  exact laws_markBoolS_p0 _ _ _ _ ⟨l, trivial⟩

theorem laws_markStampS_ret (xs : List Stamp) (k : Int) (hk : 0 ≤ k) (hM : nextL Stamp.next k xs ≤ 1000000000000) (hl : xs.length ≤ 1048576) :
    RetG Tryz.prog 21 [.one (.gv 2 (xs.map Stamp.e) (some ((markL Stamp.mark Stamp.next k xs).map Stamp.e))), .one (.ro (I k))] [.one (I (nextL Stamp.next k xs))] := by
  have l := loop_upto (P := Tryz.prog) (c := loopOf Tryz.f21 0) (stE := laws_markStampS_X0 (nextL Stamp.next k xs) ((markL Stamp.mark Stamp.next k xs).map Stamp.e)) (exit_ne 0) xs.length (fun i => laws_markStampS_L0 i (nextL Stamp.next k (xs.take i)) (markAt Stamp.e Stamp.mark Stamp.next k xs i)) (fun i hi => by
    obtain ⟨a, ha⟩ := get_of hi
    have h0 := nextL_ge Stamp.cb Stamp.next_le xs k i
    have h1 := Int.le_trans (nextL_mono Stamp.cb Stamp.next_le xs k (i + 1)) hM
    rw [nextL_succ ha] at h1
    have hlen : (markAt Stamp.e Stamp.mark Stamp.next k xs i).length = xs.length := markAt_len (by omega)
    have hlt := markAt_lt (e := Stamp.e) (mark := Stamp.mark) (next := Stamp.next) (k := k) hi
    have hg := markAt_get (e := Stamp.e) (mark := Stamp.mark) (next := Stamp.next) (k := k) ha
    have hset := markAt_set (e := Stamp.e) (mark := Stamp.mark) (next := Stamp.next) (k := k) ha
    show Tr _ _ (laws_markStampS_L0 (i : Nat) (nextL Stamp.next k (xs.take i)) (markAt Stamp.e Stamp.mark Stamp.next k xs i)) _ (laws_markStampS_L0 (i + 1 : Nat) (nextL Stamp.next k (xs.take (i + 1))) (markAt Stamp.e Stamp.mark Stamp.next k xs (i + 1)))
    rw [← hset, nextL_succ ha]
    generalize nextL Stamp.next k (xs.take i) = K at *
    generalize markAt Stamp.e Stamp.mark Stamp.next k xs i = M at *
    unfold Stamp.next at h1
    have t := laws_markStampS_L0_s0 i K M _ _ _ _ ⟨by rw [hlen]; simp only [decide_eq_true_eq]; omega, lt0, hlt, hg, ⟨by omega, by omega⟩, lt0, lt_set hlt, get_set (by (try simp only [List.length_set]); omega), ⟨by omega, by omega⟩, up1 hi hl, trivial⟩
    try simp only [List.set_set] at t
    exact t) (by
    have t := laws_markStampS_L0_x1 xs.length (nextL Stamp.next k (xs.take xs.length)) (markAt Stamp.e Stamp.mark Stamp.next k xs xs.length) ⟨markAt_end, trivial⟩
    rw [markAt_all, List.take_length] at t ⊢
    exact t)
  rw [markAt_zero] at l
  exact laws_markStampS_p0 _ _ _ _ ⟨l, trivial⟩

theorem top_Stamp (xs : List Stamp) (hl : xs.length ≤ 1048576) : 1 ≤ nextL Stamp.next 1 xs ∧ nextL Stamp.next 1 xs ≤ 1000000000000 := by
  have f := nextL_le Stamp.cb Stamp.next_le xs 1
  rw [Stamp.cb_sum] at f
  omega

theorem markL_get_Stamp {xs : List Stamp} {k : Int} {i : Nat} {a : Stamp} (h : xs[i]? = some a) : (markL Stamp.mark Stamp.next k xs)[i]? = some (Stamp.mark (nextL Stamp.next k (xs.take i)) a) := by
  have hi := lt_of h
  have e : xs = xs.take i ++ a :: xs.drop (i + 1) := by
    have ha : xs[i] = a := by rw [List.getElem?_eq_getElem hi] at h; exact Option.some.inj h
    rw [← ha, ← List.drop_eq_getElem_cons hi, List.take_append_drop]
  conv => lhs; rw [e]
  rw [markL_app, List.getElem?_append, markL_len, List.length_take, if_neg (by omega), show i - min i xs.length = 0 by omega]
  rfl

theorem laws_heldStampS_ret (xs : List Stamp) (k : Int) (hk : 0 ≤ k) (hM : nextL Stamp.next k xs ≤ 1000000000000) (hl : xs.length ≤ 1048576) : Ret Tryz.prog 22 [.one (.sl 2 ((markL Stamp.mark Stamp.next k xs).map Stamp.e)), .one (I k)] [.one (I (nextL Stamp.next k xs))] := by
  have hlm : (markL Stamp.mark Stamp.next k xs).length = xs.length := markL_len
  have l := loop_upto (P := Tryz.prog) (c := loopOf Tryz.f22 0) (exit_ne 0) (markL Stamp.mark Stamp.next k xs).length (fun i => laws_heldStampS_L0 ((markL Stamp.mark Stamp.next k xs).map Stamp.e) i (nextL Stamp.next k (xs.take i))) (fun i hi2 => by
    have hi : i < xs.length := by omega
    obtain ⟨a, ha⟩ := get_of hi
    have ha2 := markL_get_Stamp (k := k) ha
    have h0 := nextL_ge Stamp.cb Stamp.next_le xs k i
    have h1 := Int.le_trans (nextL_mono Stamp.cb Stamp.next_le xs k (i + 1)) hM
    rw [nextL_succ ha] at h1
    show Tr _ _ (laws_heldStampS_L0 ((markL Stamp.mark Stamp.next k xs).map Stamp.e) (i : Nat) (nextL Stamp.next k (xs.take i))) _ (laws_heldStampS_L0 ((markL Stamp.mark Stamp.next k xs).map Stamp.e) (i + 1 : Nat) (nextL Stamp.next k (xs.take (i + 1))))
    rw [nextL_succ ha]
    generalize nextL Stamp.next k (xs.take i) = K at *
    unfold Stamp.next at h1
    exact laws_heldStampS_L0_s2 _ _ _ _ _ _ _ ⟨lt1 hi2, lt0, lt2 hi2, at_map Stamp.e ha2, by simp [Stamp.mark], ⟨by omega, by omega⟩, lt0, lt2 hi2, at_map Stamp.e ha2, by simp [Stamp.mark], ⟨by omega, by omega⟩, ⟨by omega, by omega⟩, trivial⟩) (laws_heldStampS_L0_x3 _ _ _ ⟨ge1, trivial⟩)
  rw [hlm, List.take_length] at l
  exact laws_heldStampS_p1 _ _ _ ⟨l, trivial⟩

theorem laws_markRecordS_ret (xs : List Record) (k : Int) (hk : 0 ≤ k) (hM : nextL Record.next k xs ≤ 1000000000000) (hl : xs.length ≤ 1048576) :
    RetG Tryz.prog 14 [.one (.gv 5 (xs.map Record.e) (some ((markL Record.mark Record.next k xs).map Record.e))), .one (.ro (I k))] [.one (I (nextL Record.next k xs))] := by
  have l := loop_upto (P := Tryz.prog) (c := loopOf Tryz.f14 0) (stE := laws_markRecordS_X0 (nextL Record.next k xs) ((markL Record.mark Record.next k xs).map Record.e)) (exit_ne 0) xs.length (fun i => laws_markRecordS_L0 i (nextL Record.next k (xs.take i)) (markAt Record.e Record.mark Record.next k xs i)) (fun i hi => by
    obtain ⟨a, ha⟩ := get_of hi
    have h0 := nextL_ge Record.cb Record.next_le xs k i
    have h1 := Int.le_trans (nextL_mono Record.cb Record.next_le xs k (i + 1)) hM
    rw [nextL_succ ha] at h1
    have hlen : (markAt Record.e Record.mark Record.next k xs i).length = xs.length := markAt_len (by omega)
    have hlt := markAt_lt (e := Record.e) (mark := Record.mark) (next := Record.next) (k := k) hi
    have hg := markAt_get (e := Record.e) (mark := Record.mark) (next := Record.next) (k := k) ha
    have hset := markAt_set (e := Record.e) (mark := Record.mark) (next := Record.next) (k := k) ha
    show Tr _ _ (laws_markRecordS_L0 (i : Nat) (nextL Record.next k (xs.take i)) (markAt Record.e Record.mark Record.next k xs i)) _ (laws_markRecordS_L0 (i + 1 : Nat) (nextL Record.next k (xs.take (i + 1))) (markAt Record.e Record.mark Record.next k xs (i + 1)))
    rw [← hset, nextL_succ ha]
    generalize nextL Record.next k (xs.take i) = K at *
    generalize markAt Record.e Record.mark Record.next k xs i = M at *
    unfold Record.next at h1
    have t := laws_markRecordS_L0_s0 i K M _ _ _ _ _ _ _ _ _ _ _ _ _ _ _ _ _ _ _ _ _ _ _ _ _ ⟨by rw [hlen]; simp only [decide_eq_true_eq]; omega, lt0, hlt, hg, ⟨by omega, by omega⟩, lt0, lt_set hlt, get_set (by (try simp only [List.length_set]); omega), ⟨by omega, by omega⟩, lt0, lt_set (lt_set hlt), get_set (by (try simp only [List.length_set]); omega), ⟨by omega, by omega⟩, lt0, lt_set (lt_set (lt_set hlt)), get_set (by (try simp only [List.length_set]); omega), ⟨by omega, by omega⟩, lt0, lt_set (lt_set (lt_set (lt_set hlt))), get_set (by (try simp only [List.length_set]); omega), ⟨by omega, by omega⟩, up1 hi hl, trivial⟩
    try simp only [List.set_set] at t
    exact t) (by
    have t := laws_markRecordS_L0_x1 xs.length (nextL Record.next k (xs.take xs.length)) (markAt Record.e Record.mark Record.next k xs xs.length) ⟨markAt_end, trivial⟩
    rw [markAt_all, List.take_length] at t ⊢
    exact t)
  rw [markAt_zero] at l
  exact laws_markRecordS_p0 _ _ _ _ ⟨l, trivial⟩

theorem top_Record (xs : List Record) (hl : xs.length ≤ 1048576) : 1 ≤ nextL Record.next 1 xs ∧ nextL Record.next 1 xs ≤ 1000000000000 := by
  have f := nextL_le Record.cb Record.next_le xs 1
  rw [Record.cb_sum] at f
  omega

theorem markL_get_Record {xs : List Record} {k : Int} {i : Nat} {a : Record} (h : xs[i]? = some a) : (markL Record.mark Record.next k xs)[i]? = some (Record.mark (nextL Record.next k (xs.take i)) a) := by
  have hi := lt_of h
  have e : xs = xs.take i ++ a :: xs.drop (i + 1) := by
    have ha : xs[i] = a := by rw [List.getElem?_eq_getElem hi] at h; exact Option.some.inj h
    rw [← ha, ← List.drop_eq_getElem_cons hi, List.take_append_drop]
  conv => lhs; rw [e]
  rw [markL_app, List.getElem?_append, markL_len, List.length_take, if_neg (by omega), show i - min i xs.length = 0 by omega]
  rfl

theorem laws_heldRecordS_ret (xs : List Record) (k : Int) (hk : 0 ≤ k) (hM : nextL Record.next k xs ≤ 1000000000000) (hl : xs.length ≤ 1048576) : Ret Tryz.prog 15 [.one (.sl 5 ((markL Record.mark Record.next k xs).map Record.e)), .one (I k)] [.one (I (nextL Record.next k xs))] := by
  have hlm : (markL Record.mark Record.next k xs).length = xs.length := markL_len
  have l := loop_upto (P := Tryz.prog) (c := loopOf Tryz.f15 0) (exit_ne 0) (markL Record.mark Record.next k xs).length (fun i => laws_heldRecordS_L0 ((markL Record.mark Record.next k xs).map Record.e) i (nextL Record.next k (xs.take i))) (fun i hi2 => by
    have hi : i < xs.length := by omega
    obtain ⟨a, ha⟩ := get_of hi
    have ha2 := markL_get_Record (k := k) ha
    have h0 := nextL_ge Record.cb Record.next_le xs k i
    have h1 := Int.le_trans (nextL_mono Record.cb Record.next_le xs k (i + 1)) hM
    rw [nextL_succ ha] at h1
    show Tr _ _ (laws_heldRecordS_L0 ((markL Record.mark Record.next k xs).map Record.e) (i : Nat) (nextL Record.next k (xs.take i))) _ (laws_heldRecordS_L0 ((markL Record.mark Record.next k xs).map Record.e) (i + 1 : Nat) (nextL Record.next k (xs.take (i + 1))))
    rw [nextL_succ ha]
    generalize nextL Record.next k (xs.take i) = K at *
    unfold Record.next at h1
    exact laws_heldRecordS_L0_s5 _ _ _ _ _ _ _ _ _ _ _ _ _ _ _ _ _ _ _ _ _ _ _ _ _ _ _ _ ⟨lt1 hi2, lt0, lt2 hi2, at_map Record.e ha2, by simp [Record.mark], ⟨by omega, by omega⟩, lt0, lt2 hi2, at_map Record.e ha2, by simp [Record.mark], ⟨by omega, by omega⟩, lt0, lt2 hi2, at_map Record.e ha2, by simp [Record.mark], ⟨by omega, by omega⟩, lt0, lt2 hi2, at_map Record.e ha2, by simp [Record.mark], ⟨by omega, by omega⟩, lt0, lt2 hi2, at_map Record.e ha2, by simp [Record.mark], ⟨by omega, by omega⟩, ⟨by omega, by omega⟩, trivial⟩) (laws_heldRecordS_L0_x6 _ _ _ ⟨ge1, trivial⟩)
  rw [hlm, List.take_length] at l
  exact laws_heldRecordS_p1 _ _ _ ⟨l, trivial⟩

theorem laws_markCellS_ret (xs : List Cell) (k : Int) (hk : 0 ≤ k) (hM : nextL Cell.next k xs ≤ 1000000000000) (hl : xs.length ≤ 1048576) :
    RetG Tryz.prog 79 [.one (.gv 4 (xs.map Cell.e) (some ((markL Cell.mark Cell.next k xs).map Cell.e))), .one (.ro (I k))] [.one (I (nextL Cell.next k xs))] := by
  have l := loop_upto (P := Tryz.prog) (c := loopOf Tryz.f79 0) (stE := laws_markCellS_X0 (nextL Cell.next k xs) ((markL Cell.mark Cell.next k xs).map Cell.e)) (exit_ne 0) xs.length (fun i => laws_markCellS_L0 i (nextL Cell.next k (xs.take i)) (markAt Cell.e Cell.mark Cell.next k xs i)) (fun i hi => by
    obtain ⟨a, ha⟩ := get_of hi
    have h0 := nextL_ge Cell.cb Cell.next_le xs k i
    have h1 := Int.le_trans (nextL_mono Cell.cb Cell.next_le xs k (i + 1)) hM
    rw [nextL_succ ha] at h1
    have hlen : (markAt Cell.e Cell.mark Cell.next k xs i).length = xs.length := markAt_len (by omega)
    have hlt := markAt_lt (e := Cell.e) (mark := Cell.mark) (next := Cell.next) (k := k) hi
    have hg := markAt_get (e := Cell.e) (mark := Cell.mark) (next := Cell.next) (k := k) ha
    have hset := markAt_set (e := Cell.e) (mark := Cell.mark) (next := Cell.next) (k := k) ha
    show Tr _ _ (laws_markCellS_L0 (i : Nat) (nextL Cell.next k (xs.take i)) (markAt Cell.e Cell.mark Cell.next k xs i)) _ (laws_markCellS_L0 (i + 1 : Nat) (nextL Cell.next k (xs.take (i + 1))) (markAt Cell.e Cell.mark Cell.next k xs (i + 1)))
    rw [← hset, nextL_succ ha]
    generalize nextL Cell.next k (xs.take i) = K at *
    generalize markAt Cell.e Cell.mark Cell.next k xs i = M at *
    unfold Cell.next at h1
    have t := laws_markCellS_L0_s0 i K M _ _ _ _ _ _ _ _ _ _ _ _ _ _ _ _ ⟨by rw [hlen]; simp only [decide_eq_true_eq]; omega, lt0, hlt, hg, ⟨by omega, by omega⟩, lt0, lt_set hlt, get_set (by (try simp only [List.length_set]); omega), ⟨by omega, by omega⟩, lt0, lt_set (lt_set hlt), get_set (by (try simp only [List.length_set]); omega), ⟨by omega, by omega⟩, lt0, lt_set (lt_set (lt_set hlt)), get_set (by (try simp only [List.length_set]); omega), ⟨by omega, by omega⟩, up1 hi hl, trivial⟩
    try simp only [List.set_set] at t
    exact t) (by
    have t := laws_markCellS_L0_x1 xs.length (nextL Cell.next k (xs.take xs.length)) (markAt Cell.e Cell.mark Cell.next k xs xs.length) ⟨markAt_end, trivial⟩
    rw [markAt_all, List.take_length] at t ⊢
    exact t)
  rw [markAt_zero] at l
  exact laws_markCellS_p0 _ _ _ _ ⟨l, trivial⟩

theorem laws_markDoneS_ret (xs : List Done) (k : Int) (hk : 0 ≤ k) (hM : nextL Done.next k xs ≤ 1000000000000) (hl : xs.length ≤ 1048576) :
    RetG Tryz.prog 82 [.one (.gv 2 (xs.map Done.e) (some ((markL Done.mark Done.next k xs).map Done.e))), .one (.ro (I k))] [.one (I (nextL Done.next k xs))] := by
  have l := loop_upto (P := Tryz.prog) (c := loopOf Tryz.f82 0) (stE := laws_markDoneS_X0 (nextL Done.next k xs) ((markL Done.mark Done.next k xs).map Done.e)) (exit_ne 0) xs.length (fun i => laws_markDoneS_L0 i (nextL Done.next k (xs.take i)) (markAt Done.e Done.mark Done.next k xs i)) (fun i hi => by
    obtain ⟨a, ha⟩ := get_of hi
    have h0 := nextL_ge Done.cb Done.next_le xs k i
    have h1 := Int.le_trans (nextL_mono Done.cb Done.next_le xs k (i + 1)) hM
    rw [nextL_succ ha] at h1
    have hlen : (markAt Done.e Done.mark Done.next k xs i).length = xs.length := markAt_len (by omega)
    have hlt := markAt_lt (e := Done.e) (mark := Done.mark) (next := Done.next) (k := k) hi
    have hg := markAt_get (e := Done.e) (mark := Done.mark) (next := Done.next) (k := k) ha
    have hset := markAt_set (e := Done.e) (mark := Done.mark) (next := Done.next) (k := k) ha
    show Tr _ _ (laws_markDoneS_L0 (i : Nat) (nextL Done.next k (xs.take i)) (markAt Done.e Done.mark Done.next k xs i)) _ (laws_markDoneS_L0 (i + 1 : Nat) (nextL Done.next k (xs.take (i + 1))) (markAt Done.e Done.mark Done.next k xs (i + 1)))
    rw [← hset, nextL_succ ha]
    generalize nextL Done.next k (xs.take i) = K at *
    generalize markAt Done.e Done.mark Done.next k xs i = M at *
    unfold Done.next at h1
    have t := laws_markDoneS_L0_s0 i K M _ _ _ _ ⟨by rw [hlen]; simp only [decide_eq_true_eq]; omega, lt0, hlt, hg, ⟨by omega, by omega⟩, by omega, lt0, lt_set hlt, get_set (by (try simp only [List.length_set]); omega), ⟨by omega, by omega⟩, up1 hi hl, trivial⟩
    try simp only [List.set_set] at t
    exact t) (by
    have t := laws_markDoneS_L0_x1 xs.length (nextL Done.next k (xs.take xs.length)) (markAt Done.e Done.mark Done.next k xs xs.length) ⟨markAt_end, trivial⟩
    rw [markAt_all, List.take_length] at t ⊢
    exact t)
  rw [markAt_zero] at l
  exact laws_markDoneS_p0 _ _ _ _ ⟨l, trivial⟩

theorem laws_markTokenS_ret (xs : List Token) (k : Int) (hk : 0 ≤ k) (hM : nextL Token.next k xs ≤ 1000000000000) (hl : xs.length ≤ 1048576) :
    RetG Tryz.prog 46 [.one (.gv 5 (xs.map Token.e) (some ((markL Token.mark Token.next k xs).map Token.e))), .one (.ro (I k))] [.one (I (nextL Token.next k xs))] := by
  have l := loop_upto (P := Tryz.prog) (c := loopOf Tryz.f46 0) (stE := laws_markTokenS_X0 (nextL Token.next k xs) ((markL Token.mark Token.next k xs).map Token.e)) (exit_ne 0) xs.length (fun i => laws_markTokenS_L0 i (nextL Token.next k (xs.take i)) (markAt Token.e Token.mark Token.next k xs i)) (fun i hi => by
    obtain ⟨a, ha⟩ := get_of hi
    have h0 := nextL_ge Token.cb Token.next_le xs k i
    have h1 := Int.le_trans (nextL_mono Token.cb Token.next_le xs k (i + 1)) hM
    rw [nextL_succ ha] at h1
    have hlen : (markAt Token.e Token.mark Token.next k xs i).length = xs.length := markAt_len (by omega)
    have hlt := markAt_lt (e := Token.e) (mark := Token.mark) (next := Token.next) (k := k) hi
    have hg := markAt_get (e := Token.e) (mark := Token.mark) (next := Token.next) (k := k) ha
    have hset := markAt_set (e := Token.e) (mark := Token.mark) (next := Token.next) (k := k) ha
    show Tr _ _ (laws_markTokenS_L0 (i : Nat) (nextL Token.next k (xs.take i)) (markAt Token.e Token.mark Token.next k xs i)) _ (laws_markTokenS_L0 (i + 1 : Nat) (nextL Token.next k (xs.take (i + 1))) (markAt Token.e Token.mark Token.next k xs (i + 1)))
    rw [← hset, nextL_succ ha]
    generalize nextL Token.next k (xs.take i) = K at *
    generalize markAt Token.e Token.mark Token.next k xs i = M at *
    unfold Token.next at h1
    have t := laws_markTokenS_L0_s0 i K M _ _ _ _ _ _ _ _ _ _ _ _ _ _ _ _ _ _ _ _ _ _ _ _ _ ⟨by rw [hlen]; simp only [decide_eq_true_eq]; omega, by omega, lt0, hlt, hg, ⟨by omega, by omega⟩, lt0, lt_set hlt, get_set (by (try simp only [List.length_set]); omega), ⟨by omega, by omega⟩, lt0, lt_set (lt_set hlt), get_set (by (try simp only [List.length_set]); omega), ⟨by omega, by omega⟩, by omega, lt0, lt_set (lt_set (lt_set hlt)), get_set (by (try simp only [List.length_set]); omega), ⟨by omega, by omega⟩, by omega, lt0, lt_set (lt_set (lt_set (lt_set hlt))), get_set (by (try simp only [List.length_set]); omega), ⟨by omega, by omega⟩, up1 hi hl, trivial⟩
    try simp only [List.set_set] at t
    exact t) (by
    have t := laws_markTokenS_L0_x1 xs.length (nextL Token.next k (xs.take xs.length)) (markAt Token.e Token.mark Token.next k xs xs.length) ⟨markAt_end, trivial⟩
    rw [markAt_all, List.take_length] at t ⊢
    exact t)
  rw [markAt_zero] at l
  exact laws_markTokenS_p0 _ _ _ _ ⟨l, trivial⟩

theorem laws_markNewsS_ret (xs : List News) (k : Int) (hk : 0 ≤ k) (hM : nextL News.next k xs ≤ 1000000000000) (hl : xs.length ≤ 1048576) :
    RetG Tryz.prog 47 [.one (.gv 3 (xs.map News.e) (some ((markL News.mark News.next k xs).map News.e))), .one (.ro (I k))] [.one (I (nextL News.next k xs))] := by
  have l := loop_upto (P := Tryz.prog) (c := loopOf Tryz.f47 0) (stE := laws_markNewsS_X0 (nextL News.next k xs) ((markL News.mark News.next k xs).map News.e)) (exit_ne 0) xs.length (fun i => laws_markNewsS_L0 i (nextL News.next k (xs.take i)) (markAt News.e News.mark News.next k xs i)) (fun i hi => by
    obtain ⟨a, ha⟩ := get_of hi
    have h0 := nextL_ge News.cb News.next_le xs k i
    have h1 := Int.le_trans (nextL_mono News.cb News.next_le xs k (i + 1)) hM
    rw [nextL_succ ha] at h1
    have hlen : (markAt News.e News.mark News.next k xs i).length = xs.length := markAt_len (by omega)
    have hlt := markAt_lt (e := News.e) (mark := News.mark) (next := News.next) (k := k) hi
    have hg := markAt_get (e := News.e) (mark := News.mark) (next := News.next) (k := k) ha
    have hset := markAt_set (e := News.e) (mark := News.mark) (next := News.next) (k := k) ha
    show Tr _ _ (laws_markNewsS_L0 (i : Nat) (nextL News.next k (xs.take i)) (markAt News.e News.mark News.next k xs i)) _ (laws_markNewsS_L0 (i + 1 : Nat) (nextL News.next k (xs.take (i + 1))) (markAt News.e News.mark News.next k xs (i + 1)))
    rw [← hset, nextL_succ ha]
    generalize nextL News.next k (xs.take i) = K at *
    generalize markAt News.e News.mark News.next k xs i = M at *
    unfold News.next at h1
    have t := laws_markNewsS_L0_s0 i K M _ _ _ _ _ _ _ _ _ ⟨by rw [hlen]; simp only [decide_eq_true_eq]; omega, lt0, hlt, hg, ⟨by omega, by omega⟩, lt0, lt_set hlt, get_set (by (try simp only [List.length_set]); omega), ⟨by omega, by omega⟩, by omega, lt0, lt_set (lt_set hlt), get_set (by (try simp only [List.length_set]); omega), ⟨by omega, by omega⟩, up1 hi hl, trivial⟩
    try simp only [List.set_set] at t
    exact t) (by
    have t := laws_markNewsS_L0_x1 xs.length (nextL News.next k (xs.take xs.length)) (markAt News.e News.mark News.next k xs xs.length) ⟨markAt_end, trivial⟩
    rw [markAt_all, List.take_length] at t ⊢
    exact t)
  rw [markAt_zero] at l
  exact laws_markNewsS_p0 _ _ _ _ ⟨l, trivial⟩

theorem laws_markNodeS_ret (xs : List Node) (k : Int) (hk : 0 ≤ k) (hM : nextL Node.next k xs ≤ 1000000000000) (hl : xs.length ≤ 1048576) (hs : ∀ x ∈ xs, x.sz ≤ 1048576) :
    RetG Tryz.prog 78 [.one (.gv 4 (xs.map Node.e) (some ((markL Node.mark Node.next k xs).map Node.e))), .one (.ro (I k))] [.one (I (nextL Node.next k xs))] := by
  have l := loop_upto (P := Tryz.prog) (c := loopOf Tryz.f78 0) (stE := laws_markNodeS_X0 (nextL Node.next k xs) ((markL Node.mark Node.next k xs).map Node.e)) (exit_ne 0) xs.length (fun i => laws_markNodeS_L0 i (nextL Node.next k (xs.take i)) (markAt Node.e Node.mark Node.next k xs i)) (fun i hi => by
    obtain ⟨a, ha⟩ := get_of hi
    have h0 := nextL_ge Node.cb Node.next_le xs k i
    have h1 := Int.le_trans (nextL_mono Node.cb Node.next_le xs k (i + 1)) hM
    rw [nextL_succ ha] at h1
    have hlen : (markAt Node.e Node.mark Node.next k xs i).length = xs.length := markAt_len (by omega)
    have hlt := markAt_lt (e := Node.e) (mark := Node.mark) (next := Node.next) (k := k) hi
    have hg := markAt_get (e := Node.e) (mark := Node.mark) (next := Node.next) (k := k) ha
    have hset := markAt_set (e := Node.e) (mark := Node.mark) (next := Node.next) (k := k) ha
    show Tr _ _ (laws_markNodeS_L0 (i : Nat) (nextL Node.next k (xs.take i)) (markAt Node.e Node.mark Node.next k xs i)) _ (laws_markNodeS_L0 (i + 1 : Nat) (nextL Node.next k (xs.take (i + 1))) (markAt Node.e Node.mark Node.next k xs (i + 1)))
    rw [← hset, nextL_succ ha]
    generalize nextL Node.next k (xs.take i) = K at *
    generalize markAt Node.e Node.mark Node.next k xs i = M at *
    have hz := hs a (mem_of ha)
    unfold Node.next at h1
    have f0 := nextL_le (fun _ => 1) nI_le a.outs (K + 1 + 1 + 1)
    have t := laws_markNodeS_L0_s0 i K M _ _ _ _ _ _ _ _ _ _ _ _ _ _ _ _ _ _ ⟨by rw [hlen]; simp only [decide_eq_true_eq]; omega, lt0, hlt, hg, ⟨by omega, by omega⟩, lt0, lt_set hlt, get_set (by (try simp only [List.length_set]); omega), ⟨by omega, by omega⟩, lt0, lt_set (lt_set hlt), get_set (by (try simp only [List.length_set]); omega), ⟨by omega, by omega⟩, lt0, lt_set (lt_set (lt_set hlt)), get_set (by (try simp only [List.length_set]); omega), laws_markIntS_ret a.outs (K + 1 + 1 + 1) (by omega) (by omega) (by simp only [Node.sz] at hz; omega), get_set (by (try simp only [List.length_set]); omega), rfl, up1 hi hl, trivial⟩
    try simp only [List.set_set] at t
    exact t) (by
    have t := laws_markNodeS_L0_x1 xs.length (nextL Node.next k (xs.take xs.length)) (markAt Node.e Node.mark Node.next k xs xs.length) ⟨markAt_end, trivial⟩
    rw [markAt_all, List.take_length] at t ⊢
    exact t)
  rw [markAt_zero] at l
  exact laws_markNodeS_p0 _ _ _ _ ⟨l, trivial⟩

theorem laws_markLinkS_ret (xs : List Link) (k : Int) (hk : 0 ≤ k) (hM : nextL Link.next k xs ≤ 1000000000000) (hl : xs.length ≤ 1048576) (hs : ∀ x ∈ xs, x.sz ≤ 1048576) :
    RetG Tryz.prog 45 [.one (.gv 6 (xs.map Link.e) (some ((markL Link.mark Link.next k xs).map Link.e))), .one (.ro (I k))] [.one (I (nextL Link.next k xs))] := by
  have l := loop_upto (P := Tryz.prog) (c := loopOf Tryz.f45 0) (stE := laws_markLinkS_X0 (nextL Link.next k xs) ((markL Link.mark Link.next k xs).map Link.e)) (exit_ne 0) xs.length (fun i => laws_markLinkS_L0 i (nextL Link.next k (xs.take i)) (markAt Link.e Link.mark Link.next k xs i)) (fun i hi => by
    obtain ⟨a, ha⟩ := get_of hi
    have h0 := nextL_ge Link.cb Link.next_le xs k i
    have h1 := Int.le_trans (nextL_mono Link.cb Link.next_le xs k (i + 1)) hM
    rw [nextL_succ ha] at h1
    have hlen : (markAt Link.e Link.mark Link.next k xs i).length = xs.length := markAt_len (by omega)
    have hlt := markAt_lt (e := Link.e) (mark := Link.mark) (next := Link.next) (k := k) hi
    have hg := markAt_get (e := Link.e) (mark := Link.mark) (next := Link.next) (k := k) ha
    have hset := markAt_set (e := Link.e) (mark := Link.mark) (next := Link.next) (k := k) ha
    show Tr _ _ (laws_markLinkS_L0 (i : Nat) (nextL Link.next k (xs.take i)) (markAt Link.e Link.mark Link.next k xs i)) _ (laws_markLinkS_L0 (i + 1 : Nat) (nextL Link.next k (xs.take (i + 1))) (markAt Link.e Link.mark Link.next k xs (i + 1)))
    rw [← hset, nextL_succ ha]
    generalize nextL Link.next k (xs.take i) = K at *
    generalize markAt Link.e Link.mark Link.next k xs i = M at *
    have hz := hs a (mem_of ha)
    unfold Link.next at h1
    have f0 := nextL_le Record.cb Record.next_le a.queue (K + 1)
    have t := laws_markLinkS_L0_s0 i K M _ _ _ _ _ _ _ _ _ _ _ _ _ _ _ _ _ _ _ _ _ _ _ _ _ _ _ _ _ _ _ _ _ _ _ _ _ _ ⟨by rw [hlen]; simp only [decide_eq_true_eq]; omega, lt0, hlt, hg, ⟨by omega, by omega⟩, lt0, lt_set hlt, get_set (by (try simp only [List.length_set]); omega), laws_markRecordS_ret a.queue (K + 1) (by omega) (by omega) (by simp only [Link.sz] at hz; omega), get_set (by (try simp only [List.length_set]); omega), rfl, lt0, lt_set (lt_set hlt), get_set (by (try simp only [List.length_set]); omega), ⟨by omega, by omega⟩, lt0, lt_set (lt_set (lt_set hlt)), get_set (by (try simp only [List.length_set]); omega), ⟨by omega, by omega⟩, lt0, lt_set (lt_set (lt_set (lt_set hlt))), get_set (by (try simp only [List.length_set]); omega), ⟨by omega, by omega⟩, lt0, lt_set (lt_set (lt_set (lt_set (lt_set hlt)))), get_set (by (try simp only [List.length_set]); omega), ⟨by omega, by omega⟩, up1 hi hl, trivial⟩
    try simp only [List.set_set] at t
    exact t) (by
    have t := laws_markLinkS_L0_x1 xs.length (nextL Link.next k (xs.take xs.length)) (markAt Link.e Link.mark Link.next k xs xs.length) ⟨markAt_end, trivial⟩
    rw [markAt_all, List.take_length] at t ⊢
    exact t)
  rw [markAt_zero] at l
  exact laws_markLinkS_p0 _ _ _ _ ⟨l, trivial⟩

theorem laws_markWorkerS_ret (xs : List Worker) (k : Int) (hk : 0 ≤ k) (hM : nextL Worker.next k xs ≤ 1000000000000) (hl : xs.length ≤ 1048576) (hs : ∀ x ∈ xs, x.sz ≤ 1048576) :
    RetG Tryz.prog 44 [.one (.gv 8 (xs.map Worker.e) (some ((markL Worker.mark Worker.next k xs).map Worker.e))), .one (.ro (I k))] [.one (I (nextL Worker.next k xs))] := by
  have l := loop_upto (P := Tryz.prog) (c := loopOf Tryz.f44 0) (stE := laws_markWorkerS_X0 (nextL Worker.next k xs) ((markL Worker.mark Worker.next k xs).map Worker.e)) (exit_ne 0) xs.length (fun i => laws_markWorkerS_L0 i (nextL Worker.next k (xs.take i)) (markAt Worker.e Worker.mark Worker.next k xs i)) (fun i hi => by
    obtain ⟨a, ha⟩ := get_of hi
    have h0 := nextL_ge Worker.cb Worker.next_le xs k i
    have h1 := Int.le_trans (nextL_mono Worker.cb Worker.next_le xs k (i + 1)) hM
    rw [nextL_succ ha] at h1
    have hlen : (markAt Worker.e Worker.mark Worker.next k xs i).length = xs.length := markAt_len (by omega)
    have hlt := markAt_lt (e := Worker.e) (mark := Worker.mark) (next := Worker.next) (k := k) hi
    have hg := markAt_get (e := Worker.e) (mark := Worker.mark) (next := Worker.next) (k := k) ha
    have hset := markAt_set (e := Worker.e) (mark := Worker.mark) (next := Worker.next) (k := k) ha
    show Tr _ _ (laws_markWorkerS_L0 (i : Nat) (nextL Worker.next k (xs.take i)) (markAt Worker.e Worker.mark Worker.next k xs i)) _ (laws_markWorkerS_L0 (i + 1 : Nat) (nextL Worker.next k (xs.take (i + 1))) (markAt Worker.e Worker.mark Worker.next k xs (i + 1)))
    rw [← hset, nextL_succ ha]
    generalize nextL Worker.next k (xs.take i) = K at *
    generalize markAt Worker.e Worker.mark Worker.next k xs i = M at *
    have hz := hs a (mem_of ha)
    unfold Worker.next at h1
    have f0 := nextL_le Record.cb Record.next_le a.queue K
    have f1 := nextL_le Record.cb Record.next_le a.staged (nextL Record.next K a.queue)
    have f2 := nextL_le Record.cb Record.next_le a.inputs (nextL Record.next (nextL Record.next K a.queue) a.staged)
    have f3 := nextL_le Cell.cb Cell.next_le a.cells (nextL Record.next (nextL Record.next (nextL Record.next K a.queue) a.staged) a.inputs)
    have f4 := nextL_le (fun _ => 1) nI_le a.sums (nextL Cell.next (nextL Record.next (nextL Record.next (nextL Record.next K a.queue) a.staged) a.inputs) a.cells)
    have f5 := nextL_le (fun _ => 1) nB_le a.black (nextL nI (nextL Cell.next (nextL Record.next (nextL Record.next (nextL Record.next K a.queue) a.staged) a.inputs) a.cells) a.sums)
    have f6 := nextL_le (fun _ => 1) nB_le a.caps (nextL nB (nextL nI (nextL Cell.next (nextL Record.next (nextL Record.next (nextL Record.next K a.queue) a.staged) a.inputs) a.cells) a.sums) a.black)
    have f7 := nextL_le Done.cb Done.next_le a.dones (nextL nB (nextL nB (nextL nI (nextL Cell.next (nextL Record.next (nextL Record.next (nextL Record.next K a.queue) a.staged) a.inputs) a.cells) a.sums) a.black) a.caps)
    have t := laws_markWorkerS_L0_s0 i K M _ _ _ _ _ _ _ _ _ _ _ _ _ _ _ _ _ _ _ _ _ _ _ _ _ _ _ _ _ _ _ _ _ _ _ _ _ _ _ _ _ _ _ _ _ _ _ _ _ _ _ _ _ _ _ _ _ _ _ _ _ _ _ _ _ _ _ _ _ _ _ _ _ _ _ _ _ _ _ _ ⟨by rw [hlen]; simp only [decide_eq_true_eq]; omega, lt0, hlt, hg, laws_markRecordS_ret a.queue K (by omega) (by omega) (by simp only [Worker.sz] at hz; omega), hg, rfl, lt0, lt_set hlt, get_set (by (try simp only [List.length_set]); omega), laws_markRecordS_ret a.staged (nextL Record.next K a.queue) (by omega) (by omega) (by simp only [Worker.sz] at hz; omega), get_set (by (try simp only [List.length_set]); omega), rfl, lt0, lt_set (lt_set hlt), get_set (by (try simp only [List.length_set]); omega), laws_markRecordS_ret a.inputs (nextL Record.next (nextL Record.next K a.queue) a.staged) (by omega) (by omega) (by simp only [Worker.sz] at hz; omega), get_set (by (try simp only [List.length_set]); omega), rfl, lt0, lt_set (lt_set (lt_set hlt)), get_set (by (try simp only [List.length_set]); omega), laws_markCellS_ret a.cells (nextL Record.next (nextL Record.next (nextL Record.next K a.queue) a.staged) a.inputs) (by omega) (by omega) (by simp only [Worker.sz] at hz; omega), get_set (by (try simp only [List.length_set]); omega), rfl, lt0, lt_set (lt_set (lt_set (lt_set hlt))), get_set (by (try simp only [List.length_set]); omega), laws_markIntS_ret a.sums (nextL Cell.next (nextL Record.next (nextL Record.next (nextL Record.next K a.queue) a.staged) a.inputs) a.cells) (by omega) (by omega) (by simp only [Worker.sz] at hz; omega), get_set (by (try simp only [List.length_set]); omega), rfl, lt0, lt_set (lt_set (lt_set (lt_set (lt_set hlt)))), get_set (by (try simp only [List.length_set]); omega), laws_markBoolS_ret a.black (nextL nI (nextL Cell.next (nextL Record.next (nextL Record.next (nextL Record.next K a.queue) a.staged) a.inputs) a.cells) a.sums) (by omega) (by omega) (by simp only [Worker.sz] at hz; omega), get_set (by (try simp only [List.length_set]); omega), rfl, lt0, lt_set (lt_set (lt_set (lt_set (lt_set (lt_set hlt))))), get_set (by (try simp only [List.length_set]); omega), laws_markBoolS_ret a.caps (nextL nB (nextL nI (nextL Cell.next (nextL Record.next (nextL Record.next (nextL Record.next K a.queue) a.staged) a.inputs) a.cells) a.sums) a.black) (by omega) (by omega) (by simp only [Worker.sz] at hz; omega), get_set (by (try simp only [List.length_set]); omega), rfl, lt0, lt_set (lt_set (lt_set (lt_set (lt_set (lt_set (lt_set hlt)))))), get_set (by (try simp only [List.length_set]); omega), laws_markDoneS_ret a.dones (nextL nB (nextL nB (nextL nI (nextL Cell.next (nextL Record.next (nextL Record.next (nextL Record.next K a.queue) a.staged) a.inputs) a.cells) a.sums) a.black) a.caps) (by omega) (by omega) (by simp only [Worker.sz] at hz; omega), get_set (by (try simp only [List.length_set]); omega), rfl, up1 hi hl, trivial⟩
    try simp only [List.set_set] at t
    exact t) (by
    have t := laws_markWorkerS_L0_x1 xs.length (nextL Worker.next k (xs.take xs.length)) (markAt Worker.e Worker.mark Worker.next k xs xs.length) ⟨markAt_end, trivial⟩
    rw [markAt_all, List.take_length] at t ⊢
    exact t)
  rw [markAt_zero] at l
  exact laws_markWorkerS_p0 _ _ _ _ ⟨l, trivial⟩

def Cluster.topNext (k : Int) (c : Cluster) : Int := nextL News.next (nextL Token.next (nextL Link.next (nextL Worker.next (nextL Node.next k c.graph.nodes) c.workers) c.links) c.tokens) c.news

theorem Cluster.topNext_le (c : Cluster) (hc : c.sz ≤ 1048576) : 1 ≤ c.topNext 1 ∧ c.topNext 1 ≤ 1000000000000 := by
  have f0 := nextL_le Node.cb Node.next_le c.graph.nodes 1
  have g0 := sum_cb Node.cb Node.sz Node.cb_le c.graph.nodes
  have f1 := nextL_le Worker.cb Worker.next_le c.workers (nextL Node.next 1 c.graph.nodes)
  have g1 := sum_cb Worker.cb Worker.sz Worker.cb_le c.workers
  have f2 := nextL_le Link.cb Link.next_le c.links (nextL Worker.next (nextL Node.next 1 c.graph.nodes) c.workers)
  have g2 := sum_cb Link.cb Link.sz Link.cb_le c.links
  have f3 := nextL_le Token.cb Token.next_le c.tokens (nextL Link.next (nextL Worker.next (nextL Node.next 1 c.graph.nodes) c.workers) c.links)
  rw [Token.cb_sum] at f3
  have f4 := nextL_le News.cb News.next_le c.news (nextL Token.next (nextL Link.next (nextL Worker.next (nextL Node.next 1 c.graph.nodes) c.workers) c.links) c.tokens)
  rw [News.cb_sum] at f4
  simp only [Cluster.sz, Graph.sz, szS] at hc
  unfold Cluster.topNext
  omega

theorem laws_markCluster_ret (c : Cluster) (k : Int) (hk : 0 ≤ k) (hM : c.topNext k ≤ 1000000000000) (hc : c.sz ≤ 1048576) :
    RetG Tryz.prog 13 [.agg [.gv 4 (c.graph.nodes.map Node.e) (some ((markL Node.mark Node.next k c.graph.nodes).map Node.e)), .ro (I c.graph.workers), .ro (I c.graph.cap), .gv 8 (c.workers.map Worker.e) (some ((markL Worker.mark Worker.next (nextL Node.next k c.graph.nodes) c.workers).map Worker.e)), .gv 6 (c.links.map Link.e) (some ((markL Link.mark Link.next (nextL Worker.next (nextL Node.next k c.graph.nodes) c.workers) c.links).map Link.e)), .gv 5 (c.tokens.map Token.e) (some ((markL Token.mark Token.next (nextL Link.next (nextL Worker.next (nextL Node.next k c.graph.nodes) c.workers) c.links) c.tokens).map Token.e)), .gv 3 (c.news.map News.e) (some ((markL News.mark News.next (nextL Token.next (nextL Link.next (nextL Worker.next (nextL Node.next k c.graph.nodes) c.workers) c.links) c.tokens) c.news).map News.e))], .one (.ro (I k))] [.one (I (c.topNext k))] := by
  have f0 := nextL_le Node.cb Node.next_le c.graph.nodes k
  have f1 := nextL_le Worker.cb Worker.next_le c.workers (nextL Node.next k c.graph.nodes)
  have f2 := nextL_le Link.cb Link.next_le c.links (nextL Worker.next (nextL Node.next k c.graph.nodes) c.workers)
  have f3 := nextL_le Token.cb Token.next_le c.tokens (nextL Link.next (nextL Worker.next (nextL Node.next k c.graph.nodes) c.workers) c.links)
  have f4 := nextL_le News.cb News.next_le c.news (nextL Token.next (nextL Link.next (nextL Worker.next (nextL Node.next k c.graph.nodes) c.workers) c.links) c.tokens)
  unfold Cluster.topNext at hM ⊢
  have hz := hc
  simp only [Cluster.sz, Graph.sz, szS] at hz
  exact laws_markCluster_p0 _ _ _ _ _ _ _ _ _ _ _ _ _ _ _ _ _ _ ⟨laws_markGraph_p0 _ _ _ _ _ _ ⟨laws_markNodeS_ret c.graph.nodes k (by omega) (by omega) (by omega) (fun x hx => by have := le_sum (sz := Node.sz) hx; omega), trivial⟩, laws_markWorkerS_ret c.workers (nextL Node.next k c.graph.nodes) (by omega) (by omega) (by omega) (fun x hx => by have := le_sum (sz := Worker.sz) hx; omega), laws_markLinkS_ret c.links (nextL Worker.next (nextL Node.next k c.graph.nodes) c.workers) (by omega) (by omega) (by omega) (fun x hx => by have := le_sum (sz := Link.sz) hx; omega), laws_markTokenS_ret c.tokens (nextL Link.next (nextL Worker.next (nextL Node.next k c.graph.nodes) c.workers) c.links) (by omega) (by omega) (by omega), laws_markNewsS_ret c.news (nextL Token.next (nextL Link.next (nextL Worker.next (nextL Node.next k c.graph.nodes) c.workers) c.links) c.tokens) (by omega) (by omega) (by omega), trivial⟩


end Go.Proofs.YtbbjajmimckabaaGreat
