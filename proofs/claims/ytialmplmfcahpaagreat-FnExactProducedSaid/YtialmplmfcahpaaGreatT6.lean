/- The functions mark..: what they write, and what stands behind (printed by gentypes.py) -/
import Derived.Test.YtialmplmfcahpaaGreatT1
import Derived.Test.YtialmplmfcahpaaGreatGM
import Derived.Test.YtialmplmfcahpaaGreatR22
set_option linter.unusedVariables false
set_option linter.unusedSimpArgs false
namespace Go.Proofs.YtialmplmfcahpaaGreat
open Go.Sx Go.RowKit
def nextL {α : Type} (next : Int → α → Int) : Int → List α → Int
 | k, [] => k
 | k, x :: r => nextL next (next k x) r
def markL {α : Type} (mark : Int → α → α) (next : Int → α → Int) : Int → List α → List α
 | _, [] => []
 | k, x :: r => mark k x :: markL mark next (next k x) r
theorem qjw {α : Type} {next : Int → α → Int} : ∀ {xs ys : List α} {k : Int}, nextL next k (xs ++ ys) = nextL next (nextL next k xs) ys
 | [], _, _ => rfl
 | x :: xs, ys, k => qjw (xs := xs)
theorem qjx {α : Type} {mark : Int → α → α} {next : Int → α → Int} : ∀ {xs ys : List α} {k : Int}, markL mark next k (xs ++ ys) = markL mark next k xs ++ markL mark next (nextL next k xs) ys
 | [], _, _ => rfl
 | x :: xs, ys, k => by
  simp only [List.cons_append, markL, nextL]
  rw [qjx (xs := xs)]
theorem qd9 {α : Type} {mark : Int → α → α} {next : Int → α → Int} : ∀ {xs : List α} {k : Int}, (markL mark next k xs).length = xs.length
 | [], _ => rfl
 | x :: xs, k => by simp [markL, qd9]
theorem qa5 {α : Type} {next : Int → α → Int} {xs : List α} {i : Nat} {a : α} {k : Int} (h : xs[i]? = some a) : nextL next k (xs.take (i + 1)) = next (nextL next k (xs.take i)) a := by
 rw [List.take_add_one, h, qjw]; rfl
def qam {α : Type} (e : α → List D) (mark : Int → α → α) (next : Int → α → Int) (k : Int) (xs : List α) (i : Nat) : List (List D) := (markL mark next k (xs.take i)).map e ++ (xs.drop i).map e
section
variable {α : Type} {e : α → List D} {mark : Int → α → α} {next : Int → α → Int} {k : Int} {xs : List α} {i : Nat} {a : α}
theorem qbS (h : i ≤ xs.length) : (qam e mark next k xs i).length = xs.length := by simp [qam, qd9]; omega
theorem qcx : qam e mark next k xs 0 = xs.map e := by simp [qam, markL]
theorem qcy : qam e mark next k xs xs.length = (markL mark next k xs).map e := by simp [qam]
theorem qcz (h : xs[i]? = some a) : (qam e mark next k xs i)[((i : Nat) : Int).toNat]? = some (e a) := by
 have hi := lt_of h
 simp only [qam, Int.toNat_natCast]
 rw [List.getElem?_append, List.length_map, qd9, List.length_take, if_neg (by omega), List.getElem?_map, List.getElem?_drop]
 rw [show i + (i - min i xs.length) = i by omega, h]; rfl
theorem qcA (h : xs[i]? = some a) : (qam e mark next k xs i).set ((i : Nat) : Int).toNat (e (mark (nextL next k (xs.take i)) a)) = qam e mark next k xs (i + 1) := by
 have hi := lt_of h
 have ha : xs[i] = a := by rw [List.getElem?_eq_getElem hi] at h; exact Option.some.inj h
 simp only [qam, Int.toNat_natCast]
 rw [List.set_append, if_neg (by simp [qd9]; omega), List.length_map, qd9, List.length_take, show i - min i xs.length = 0 by omega]
 rw [List.drop_eq_getElem_cons hi, ha, List.map_cons, List.set_cons_zero, List.take_add_one, h, qjx, List.map_append]
 simp [markL]
theorem qcB (h : i < xs.length) : (i : Int) < (↑(qam e mark next k xs i).length : Int) := by rw [qbS (by omega)]; omega
theorem qcC : decide ((↑xs.length : Int) < (↑(qam e mark next k xs xs.length).length : Int)) = false := by rw [qbS (Nat.le_refl _)]; simp
theorem qaI (c : α → Nat) (h : ∀ k x, k ≤ next k x ∧ next k x ≤ k + c x) : ∀ (xs : List α) (k : Int), k ≤ nextL next k xs ∧ nextL next k xs ≤ k + (xs.map c).sum
 | [], k => by simp [nextL]
 | x :: xs, k => by
  have h1 := h k x
  have h2 := qaI c h xs (next k x)
  simp only [nextL, List.map_cons, List.sum_cons]
  omega
theorem qb0 (c : α → Nat) (h : ∀ k x, k ≤ next k x ∧ next k x ≤ k + c x) (xs : List α) (k : Int) (i : Nat) : nextL next k (xs.take i) ≤ nextL next k xs := by
 have : nextL next k xs = nextL next (nextL next k (xs.take i)) (xs.drop i) := by rw [← qjw, List.take_append_drop]
 rw [this]
 exact (qaI c h _ _).1
theorem qb1 (c : α → Nat) (h : ∀ k x, k ≤ next k x ∧ next k x ≤ k + c x) (xs : List α) (k : Int) (i : Nat) : k ≤ nextL next k (xs.take i) := (qaI c h _ _).1
end
theorem qaA {M : List (List D)} {i : Nat} {r : List D} (h : i < M.length) : (M.set ((i : Nat) : Int).toNat r)[((i : Nat) : Int).toNat]? = some r := by
 rw [Int.toNat_natCast, List.getElem?_set, if_pos rfl, if_pos h]
theorem qal {M : List (List D)} {i j : Nat} {r : List D} (h : (i : Int) < (↑M.length : Int)) : (i : Int) < (↑(M.set j r).length : Int) := by rw [List.length_set]; exact h
def nI (k : Int) (_ : Int) : Int := k + 1
def mI (k : Int) (_ : Int) : Int := k
def nB (k : Int) (_ : Bool) : Int := k + 1
def mB (k : Int) (_ : Bool) : Bool := k.tmod 3 == 0
theorem nI_le (k x : Int) : k ≤ nI k x ∧ nI k x ≤ k + (1 : Nat) := by unfold nI; omega
theorem nB_le (k : Int) (x : Bool) : k ≤ nB k x ∧ nB k x ≤ k + (1 : Nat) := by unfold nB; omega
theorem qcD {α : Type} (xs : List α) (w : Nat) : (xs.map fun _ => w).sum = xs.length * w := by
 induction xs with
 | nil => simp
 | cons x xs ih => simp only [List.map_cons, List.sum_cons, ih, List.length_cons, Nat.add_mul]; omega
def Stamp.mark (k : Int) (_ : Stamp) : Stamp := ⟨k, k + 1⟩
def Stamp.next (k : Int) (_ : Stamp) : Int := k + 1 + 1
def Stamp.cb (_ : Stamp) : Nat := 2
theorem Stamp.next_le (k : Int) (x : Stamp) : k ≤ Stamp.next k x ∧ Stamp.next k x ≤ k + (Stamp.cb x : Nat) := by unfold Stamp.next Stamp.cb; omega
def Record.mark (k : Int) (_ : Record) : Record := ⟨k, ⟨k + 1, k + 1 + 1⟩, k + 1 + 1 + 1, k + 1 + 1 + 1 + 1⟩
def Record.next (k : Int) (_ : Record) : Int := k + 1 + 1 + 1 + 1 + 1
def Record.cb (_ : Record) : Nat := 5
theorem Record.next_le (k : Int) (x : Record) : k ≤ Record.next k x ∧ Record.next k x ≤ k + (Record.cb x : Nat) := by unfold Record.next Record.cb; omega
def Cell.mark (k : Int) (_ : Cell) : Cell := ⟨k, k + 1, k + 1 + 1, k + 1 + 1 + 1⟩
def Cell.next (k : Int) (_ : Cell) : Int := k + 1 + 1 + 1 + 1
def Cell.cb (_ : Cell) : Nat := 4
theorem Cell.next_le (k : Int) (x : Cell) : k ≤ Cell.next k x ∧ Cell.next k x ≤ k + (Cell.cb x : Nat) := by unfold Cell.next Cell.cb; omega
def Done.mark (k : Int) (_ : Done) : Done := ⟨k, ((k + 1).tmod 3 == 0)⟩
def Done.next (k : Int) (_ : Done) : Int := k + 1 + 1
def Done.cb (_ : Done) : Nat := 2
theorem Done.next_le (k : Int) (x : Done) : k ≤ Done.next k x ∧ Done.next k x ≤ k + (Done.cb x : Nat) := by unfold Done.next Done.cb; omega
def Token.mark (k : Int) (_ : Token) : Token := ⟨(k.tmod 3 == 0), k + 1, k + 1 + 1, ((k + 1 + 1 + 1).tmod 3 == 0), ((k + 1 + 1 + 1 + 1).tmod 3 == 0)⟩
def Token.next (k : Int) (_ : Token) : Int := k + 1 + 1 + 1 + 1 + 1
def Token.cb (_ : Token) : Nat := 5
theorem Token.next_le (k : Int) (x : Token) : k ≤ Token.next k x ∧ Token.next k x ≤ k + (Token.cb x : Nat) := by unfold Token.next Token.cb; omega
def News.mark (k : Int) (_ : News) : News := ⟨k, k + 1, ((k + 1 + 1).tmod 3 == 0)⟩
def News.next (k : Int) (_ : News) : Int := k + 1 + 1 + 1
def News.cb (_ : News) : Nat := 3
theorem News.next_le (k : Int) (x : News) : k ≤ News.next k x ∧ News.next k x ≤ k + (News.cb x : Nat) := by unfold News.next News.cb; omega
def Pick.mark (k : Int) (_ : Pick) : Pick := ⟨k, k + 1, k + 1 + 1⟩
def Pick.next (k : Int) (_ : Pick) : Int := k + 1 + 1 + 1
def Pick.cb (_ : Pick) : Nat := 3
theorem Pick.next_le (k : Int) (x : Pick) : k ≤ Pick.next k x ∧ Pick.next k x ≤ k + (Pick.cb x : Nat) := by unfold Pick.next Pick.cb; omega
def Node.mark (k : Int) (x : Node) : Node := ⟨k, k + 1, k + 1 + 1, markL mI nI (k + 1 + 1 + 1) x.outs⟩
def Node.next (k : Int) (x : Node) : Int := nextL nI (k + 1 + 1 + 1) x.outs
def Node.cb (x : Node) : Nat := 3 + (x.outs.map (fun _ => 1)).sum
theorem Node.next_le (k : Int) (x : Node) : k ≤ Node.next k x ∧ Node.next k x ≤ k + (Node.cb x : Nat) := by
 unfold Node.next Node.cb
 have f0 := qaI (fun _ => 1) nI_le x.outs (k + 1 + 1 + 1)
 omega
def Link.mark (k : Int) (x : Link) : Link := ⟨k, markL Record.mark Record.next (k + 1) x.queue, nextL Record.next (k + 1) x.queue, nextL Record.next (k + 1) x.queue + 1, nextL Record.next (k + 1) x.queue + 1 + 1, nextL Record.next (k + 1) x.queue + 1 + 1 + 1⟩
def Link.next (k : Int) (x : Link) : Int := nextL Record.next (k + 1) x.queue + 1 + 1 + 1 + 1
def Link.cb (x : Link) : Nat := 5 + (x.queue.map Record.cb).sum
theorem Link.next_le (k : Int) (x : Link) : k ≤ Link.next k x ∧ Link.next k x ≤ k + (Link.cb x : Nat) := by
 unfold Link.next Link.cb
 have f0 := qaI Record.cb Record.next_le x.queue (k + 1)
 omega
def Worker.mark (k : Int) (x : Worker) : Worker := ⟨markL Record.mark Record.next k x.queue, markL Record.mark Record.next (nextL Record.next k x.queue) x.staged, markL Record.mark Record.next (nextL Record.next (nextL Record.next k x.queue) x.staged) x.inputs, markL Cell.mark Cell.next (nextL Record.next (nextL Record.next (nextL Record.next k x.queue) x.staged) x.inputs) x.cells, markL mI nI (nextL Cell.next (nextL Record.next (nextL Record.next (nextL Record.next k x.queue) x.staged) x.inputs) x.cells) x.sums, markL mB nB (nextL nI (nextL Cell.next (nextL Record.next (nextL Record.next (nextL Record.next k x.queue) x.staged) x.inputs) x.cells) x.sums) x.black, markL mB nB (nextL nB (nextL nI (nextL Cell.next (nextL Record.next (nextL Record.next (nextL Record.next k x.queue) x.staged) x.inputs) x.cells) x.sums) x.black) x.caps, markL Done.mark Done.next (nextL nB (nextL nB (nextL nI (nextL Cell.next (nextL Record.next (nextL Record.next (nextL Record.next k x.queue) x.staged) x.inputs) x.cells) x.sums) x.black) x.caps) x.dones⟩
def Worker.next (k : Int) (x : Worker) : Int := nextL Done.next (nextL nB (nextL nB (nextL nI (nextL Cell.next (nextL Record.next (nextL Record.next (nextL Record.next k x.queue) x.staged) x.inputs) x.cells) x.sums) x.black) x.caps) x.dones
def Worker.cb (x : Worker) : Nat := 0 + (x.queue.map Record.cb).sum + (x.staged.map Record.cb).sum + (x.inputs.map Record.cb).sum + (x.cells.map Cell.cb).sum + (x.sums.map (fun _ => 1)).sum + (x.black.map (fun _ => 1)).sum + (x.caps.map (fun _ => 1)).sum + (x.dones.map Done.cb).sum
theorem Worker.next_le (k : Int) (x : Worker) : k ≤ Worker.next k x ∧ Worker.next k x ≤ k + (Worker.cb x : Nat) := by
 unfold Worker.next Worker.cb
 have f0 := qaI Record.cb Record.next_le x.queue k
 have f1 := qaI Record.cb Record.next_le x.staged (nextL Record.next k x.queue)
 have f2 := qaI Record.cb Record.next_le x.inputs (nextL Record.next (nextL Record.next k x.queue) x.staged)
 have f3 := qaI Cell.cb Cell.next_le x.cells (nextL Record.next (nextL Record.next (nextL Record.next k x.queue) x.staged) x.inputs)
 have f4 := qaI (fun _ => 1) nI_le x.sums (nextL Cell.next (nextL Record.next (nextL Record.next (nextL Record.next k x.queue) x.staged) x.inputs) x.cells)
 have f5 := qaI (fun _ => 1) nB_le x.black (nextL nI (nextL Cell.next (nextL Record.next (nextL Record.next (nextL Record.next k x.queue) x.staged) x.inputs) x.cells) x.sums)
 have f6 := qaI (fun _ => 1) nB_le x.caps (nextL nB (nextL nI (nextL Cell.next (nextL Record.next (nextL Record.next (nextL Record.next k x.queue) x.staged) x.inputs) x.cells) x.sums) x.black)
 have f7 := qaI Done.cb Done.next_le x.dones (nextL nB (nextL nB (nextL nI (nextL Cell.next (nextL Record.next (nextL Record.next (nextL Record.next k x.queue) x.staged) x.inputs) x.cells) x.sums) x.black) x.caps)
 omega
end Go.Proofs.YtialmplmfcahpaaGreat
