/- The steps of a cluster, as they change the data. -/
import Derived.Test.YtdanpadojemjeaaGreatP31
set_option linter.unusedVariables false
set_option linter.unusedSimpArgs false
namespace Go.Proofs.YtdanpadojemjeaaGreat
open Go.Sx Go.RowKit
def cutAt {α : Type} (xs : List α) (k : Nat) : List α := xs.take k ++ xs.drop (k + 1)
def rec0 : Record := ⟨0, ⟨0, 0⟩, 0, 0⟩
def incAt (xs : List Int) (e d : Int) : List Int := xs.set e.toNat (xs.getD e.toNat 0 + d)
def qe0 (l : Link) (r : Record) : Link × Bool :=
  if qbS l && qaH r && l.credits != 0 && decide (l.sent < 1000000000) then (⟨l.cap, l.queue ++ [r], l.credits - 1, l.back, l.sent + 1, l.got⟩, true) else (l, false)
def qdi (l : Link) : Link × Record × Bool :=
  if qbS l then match l.queue with
    | [] => (l, rec0, false)
    | r :: q => (⟨l.cap, q, l.credits, l.back + 1, l.sent, l.got + 1⟩, r, true)
  else (l, rec0, false)
def qfH (l : Link) : Link × Bool :=
  if qbS l && l.back != 0 then (⟨l.cap, l.queue, l.credits + 1, l.back - 1, l.sent, l.got⟩, true) else (l, false)
def qfI (g : Graph) (w : Worker) : Worker × Bool :=
  if qax g && qaQ g w then match w.staged, w.queue with
    | [], r :: q => (⟨q, (qfE g w.cells r).2.1, w.inputs, (qfE g w.cells r).1, w.sums, w.black, (if capped g r then w.caps.set r.stamp.epoch.toNat true else w.caps), w.dones⟩, true)
    | _, _ => (w, false)
  else (w, false)
def qfJ (g : Graph) (w : Worker) : Worker × Bool :=
  if qax g && qaQ g w then match w.staged, w.queue, w.inputs with
    | [], [], r :: t => (⟨[r], [], t, w.cells, w.sums, w.black, w.caps, w.dones⟩, true)
    | _, _, _ => (w, false)
  else (w, false)
def qe1 (w : Worker) (t : List Record) : Worker := ⟨w.queue, t, w.inputs, w.cells, w.sums, w.black, w.caps, w.dones⟩
def kept (w : Worker) (r : Record) : Worker := ⟨w.queue ++ [r], w.staged, w.inputs, w.cells, w.sums, w.black, w.caps, w.dones⟩
def qgT (w : Worker) (r : Record) : Worker := ⟨w.queue ++ [r], w.staged, w.inputs, w.cells, incAt w.sums r.stamp.epoch (-1), w.black.set r.stamp.epoch.toNat true, w.caps, w.dones⟩
def qgU (w : Worker) (e : Int) : Worker := ⟨w.queue, w.staged, w.inputs, w.cells, incAt w.sums e 1, w.black, w.caps, w.dones⟩
def qbq (w : Worker) (e : Int) : Worker := ⟨w.queue, w.staged, w.inputs, w.cells, w.sums, w.black.set e.toNat false, w.caps, w.dones⟩
def told (w : Worker) (e : Int) (b : Bool) : Worker := ⟨w.queue, w.staged, w.inputs, w.cells, w.sums, w.black, w.caps, w.dones ++ [⟨e, b⟩]⟩
def hears (w : Worker) (n : News) : Worker := if qbE w n.epoch then w else told w n.epoch n.capped
def qe2 (w : Worker) (e : Int) : Bool := w.inputs.any fun r => decide (r.stamp.epoch ≤ e)
def qB0 (w : Worker) (e : Int) : Nat := (qbP e w.queue).length + (qbP e w.staged).length
def qcS (w : Worker) (e : Int) : Bool := !qe2 w e && qB0 w e == 0
def setW (c : Cluster) (i : Int) (x : Worker) : Cluster := ⟨c.graph, c.workers.set i.toNat x, c.links, c.tokens, c.news⟩
def setL (c : Cluster) (i : Int) (l : Link) : Cluster := ⟨c.graph, c.workers, c.links.set i.toNat l, c.tokens, c.news⟩
def setT (c : Cluster) (i : Int) (t : Token) : Cluster := ⟨c.graph, c.workers, c.links, c.tokens.set i.toNat t, c.news⟩
def setN (c : Cluster) (n : List News) : Cluster := ⟨c.graph, c.workers, c.links, c.tokens, n⟩
def wAt (c : Cluster) (i : Int) : Option Worker := if 0 ≤ i then c.workers[i.toNat]? else none
def lAt (c : Cluster) (i : Int) : Option Link := if 0 ≤ i then c.links[i.toNat]? else none
def tAt (c : Cluster) (i : Int) : Option Token := if 0 ≤ i then c.tokens[i.toNat]? else none
def qdj (g : Graph) (a b : Int) : Int := if inR a 0 (g.workers - 1) && inR b 0 (g.workers - 1) then a * g.workers + b else -1
def qmC (c : Cluster) (w : Int) : Cluster × Bool :=
  if qat c then match wAt c w with
    | some x => (setW c w (qfI c.graph x).1, (qfI c.graph x).2)
    | none => (c, false)
  else (c, false)
def qmD (c : Cluster) (w : Int) : Cluster × Bool :=
  if qat c then match wAt c w with
    | some x => (setW c w (qfJ c.graph x).1, (qfJ c.graph x).2)
    | none => (c, false)
  else (c, false)
def qmE (c : Cluster) (w : Int) (x : Worker) (r : Record) (t : List Record) (o : Int) : Cluster × Bool :=
  if o = w then (setW c w (kept (qe1 x t) r), true)
  else match lAt c (qdj c.graph w o) with
    | some l => if (qe0 l r).2 then (setW (setL c (qdj c.graph w o) (qe0 l r).1) w (qgU (qe1 x t) r.stamp.epoch), true) else (c, false)
    | none => (c, false)
def qmF (c : Cluster) (w : Int) : Cluster × Bool :=
  if qat c then match wAt c w with
    | some x => match x.staged with
      | r :: t => qmE c w x r t (ql1 r.key c.graph.workers)
      | [] => (c, false)
    | none => (c, false)
  else (c, false)
def qmG (c : Cluster) (a b : Int) : Cluster × Bool :=
  if qat c && a != b then match lAt c (qdj c.graph a b), wAt c b with
    | some l, some x => if (qdi l).2.2 then (setW (setL c (qdj c.graph a b) (qdi l).1) b (qgT x (qdi l).2.1), true) else (c, false)
    | _, _ => (c, false)
  else (c, false)
def qmH (c : Cluster) (a b : Int) : Cluster × Bool :=
  if qat c && a != b then match lAt c (qdj c.graph a b) with
    | some l => (setL c (qdj c.graph a b) (qfH l).1, (qfH l).2)
    | none => (c, false)
  else (c, false)
def qaR (n : Nat) (e : Int) (b : Bool) : List News := (List.range n).map fun k : Nat => ⟨(k : Int) + 1, e, b⟩
def qau (c : Cluster) (e : Int) (t : Token) (x : Worker) : Cluster × Bool :=
  if qcS x e then
    if !t.going then (setW (setT c e ⟨true, (c.workers.length : Int) - 1, 0, false, x.caps.getD e.toNat false⟩) t.place (qbq x e), true)
    else if 0 < t.place then
      if inR (t.sum + x.sums.getD e.toNat 0) (-1000000) 1000000 then
        (setW (setT c e ⟨true, t.place - 1, t.sum + x.sums.getD e.toNat 0, t.black || x.black.getD e.toNat false, t.capped || x.caps.getD e.toNat false⟩) t.place (qbq x e), true)
      else (c, false)
    else if !t.black && !x.black.getD e.toNat false && t.sum + x.sums.getD e.toNat 0 == 0 then
      (setN (setW (setT c e ⟨false, t.place, t.sum, t.black, t.capped⟩) 0 (told x e (t.capped || x.caps.getD e.toNat false))) (c.news ++ qaR (c.workers.length - 1) e (t.capped || x.caps.getD e.toNat false)), true)
    else (setT c e ⟨false, t.place, t.sum, t.black, t.capped⟩, true)
  else (c, false)
def qaK (c : Cluster) (e : Int) : Cluster × Bool :=
  if qat c && inR e 0 3 then match wAt c 0, tAt c e with
    | some x0, some t => if qbE x0 e then (c, false) else match wAt c t.place with
      | some x => qau c e t x
      | none => (c, false)
    | _, _ => (c, false)
  else (c, false)
def qmI (c : Cluster) (w : Int) : Cluster × Bool :=
  match c.news.findIdx? (fun n => n.dest == w) with
  | some k => if qat c then match c.news[k]?, wAt c w with
      | some n, some x => (setN (setW c w (hears x n)) (cutAt c.news k), true)
      | _, _ => (c, false)
    else (c, false)
  | none => (c, false)
def stepPick (c : Cluster) (p : Pick) : Cluster × Bool :=
  if p.kind = 1 then qmC c p.a else if p.kind = 2 then qmD c p.a else if p.kind = 3 then qmF c p.a
  else if p.kind = 4 then qmG c p.a p.b else if p.kind = 5 then qmH c p.a p.b else if p.kind = 6 then qaK c p.a
  else if p.kind = 7 then qmI c p.a else (c, false)
end Go.Proofs.YtdanpadojemjeaaGreat
namespace Go.Proofs.YtdanpadojemjeaaGreat
open Go.Sx Go.RowKit
section
variable {α : Type}
theorem qmJ {p : α → Bool} {xs : List α} {i : Nat} {x : α} (h : xs.any p = false) (hi : i < xs.length) : (xs.set i x).any p = p x := by
  cases hx : p x with
  | true => exact List.any_eq_true.2 ⟨x, List.mem_iff_getElem.2 ⟨i, by simpa using hi, by simp⟩, hx⟩
  | false =>
    rw [List.any_eq_false] at h ⊢
    intro a ha
    rcases List.mem_or_eq_of_mem_set ha with h1 | rfl
    · exact h a h1
    · simp [hx]
theorem qB1 {p : Nat → α → Bool} {xs : List α} (h : ∀ i a, xs[i]? = some a → p i a = false) : anyI p 0 xs = false := by
  cases hx : anyI p 0 xs with
  | false => rfl
  | true =>
    obtain ⟨i, a, h1, h2, _⟩ := qig hx
    rw [Nat.zero_add, h i a h1] at h2
    cases h2
theorem qB2 {p : Nat → α → Bool} {xs : List α} (h : anyI p 0 xs = false) {i : Nat} {a : α} (ha : xs[i]? = some a) : p i a = false := by
  have := qgr h i a ha
  rwa [Nat.zero_add] at this
end
theorem qcT {c : Cluster} : qat c = true ↔ qax c.graph = true ∧ (c.workers.length : Int) = c.graph.workers ∧ (c.links.length : Int) = c.graph.workers * c.graph.workers ∧ c.tokens.length = 4 ∧ (c.workers.any fun w => !qaQ c.graph w) = false ∧ anyI (qbT c.graph) 0 c.links = false ∧ c.tokens.any (qa9 c.graph.workers) = false ∧ c.news.any (qbp c.graph.workers) = false := by
  simp only [qat, Bool.and_eq_true, Bool.not_eq_true', beq_iff_eq]
theorem qd5 {c : Cluster} {i : Int} {x : Worker} (h : wAt c i = some x) : 0 ≤ i ∧ i.toNat < c.workers.length ∧ c.workers[i.toNat]? = some x := by
  unfold wAt at h
  split at h
  · exact ⟨‹_›, lt_of h, h⟩
  · cases h
theorem qB3 {c : Cluster} {i : Int} {x : Link} (h : lAt c i = some x) : 0 ≤ i ∧ i.toNat < c.links.length ∧ c.links[i.toNat]? = some x := by
  unfold lAt at h
  split at h
  · exact ⟨‹_›, lt_of h, h⟩
  · cases h
theorem qi4 {c : Cluster} {i : Int} {x : Token} (h : tAt c i = some x) : 0 ≤ i ∧ i.toNat < c.tokens.length ∧ c.tokens[i.toNat]? = some x := by
  unfold tAt at h
  split at h
  · exact ⟨‹_›, lt_of h, h⟩
  · cases h
theorem qmK {c : Cluster} {i : Int} {x y : Worker} (h : qat c = true) (hy : wAt c i = some y) : qat (setW c i x) = qaQ c.graph x := by
  obtain ⟨h1, h2, h3, h4, h5, h6, h7, h8⟩ := qcT.1 h
  have hi := (qd5 hy).2.1
  simp only [qat, setW, List.length_set, qmJ h5 hi, h1, h2, h3, h4, h6, h7, h8, beq_self_eq_true, Bool.not_false, Bool.and_true, Bool.true_and, Bool.not_not]
theorem qB4 {c : Cluster} {i : Int} {x y : Token} (h : qat c = true) (hy : tAt c i = some y) : qat (setT c i x) = !qa9 c.graph.workers x := by
  obtain ⟨h1, h2, h3, h4, h5, h6, h7, h8⟩ := qcT.1 h
  have hi := (qi4 hy).2.1
  simp only [qat, setT, List.length_set, qmJ h7 hi, h1, h2, h3, h4, h5, h6, h8, beq_self_eq_true, Bool.not_false, Bool.and_true, Bool.true_and]
theorem qB5 {c : Cluster} {x : List News} (h : qat c = true) : qat (setN c x) = !(x.any (qbp c.graph.workers)) := by
  obtain ⟨h1, h2, h3, h4, h5, h6, h7, h8⟩ := qcT.1 h
  simp only [qat, setN, h1, h2, h3, h4, h5, h6, h7, beq_self_eq_true, Bool.not_false, Bool.true_and]
theorem qmL {c : Cluster} {i : Int} {x : Worker} (h : qat c = true) (hx : wAt c i = some x) : qaQ c.graph x = true := by
  have h5 := (qcT.1 h).2.2.2.2.1
  rw [List.any_eq_false] at h5
  simpa using h5 x (qap (qd5 hx).2.2)
theorem qmM {c : Cluster} {i : Int} {x : Token} (h : qat c = true) (hx : tAt c i = some x) : qa9 c.graph.workers x = false := by
  have h5 := (qcT.1 h).2.2.2.2.2.2.1
  rw [List.any_eq_false] at h5
  simpa using h5 x (qap (qi4 hx).2.2)
theorem qfK {g : Graph} {w : Worker} : qaQ g w = true ↔ qaX g w.queue = true ∧ qaX g w.staged = true ∧ qaX g w.inputs = true ∧ qcF w.cells = true ∧ w.sums.length = 4 ∧ w.black.length = 4 ∧ w.caps.length = 4 ∧ anyI (inBad w.inputs) 0 w.inputs = false ∧ w.sums.any qcR = false ∧ anyI (qbf w.dones) 0 w.dones = false := by
  simp only [qaQ, Bool.and_eq_true, Bool.not_eq_true', beq_iff_eq]
theorem qB6 {xs : List Done} {d : Done} (h : anyI (qbf xs) 0 xs = false) (h1 : inR d.epoch 0 3 = true) (h2 : (xs.any fun q => q.epoch == d.epoch) = false) : anyI (qbf (xs ++ [d])) 0 (xs ++ [d]) = false := by
  refine qB1 fun i a ha => ?_
  by_cases hi : i < xs.length
  · rw [List.getElem?_append_left hi] at ha
    have k := qB2 h ha
    unfold qbf at k ⊢
    rw [List.take_append_of_le_length (by omega)]
    exact k
  · have hl := lt_of ha
    simp only [List.length_append, List.length_cons, List.length_nil] at hl
    have e : i = xs.length := by omega
    subst e
    rw [List.getElem?_append_right (Nat.le_refl _), Nat.sub_self] at ha
    obtain rfl : d = a := by simpa using ha
    unfold qbf
    rw [List.take_append_of_le_length (Nat.le_refl _), List.take_length, h1, h2]
    rfl
theorem qB7 {g : Graph} {w : Worker} {e : Int} (h : qaQ g w = true) : qaQ g (qbq w e) = true := by
  obtain ⟨h1, h2, h3, h4, h5, h6, h7⟩ := qfK.1 h
  exact qfK.2 ⟨h1, h2, h3, h4, h5, by simp only [qbq, List.length_set]; exact h6, h7⟩
theorem qB8 {g : Graph} {w : Worker} {e : Int} {b : Bool} (h : qaQ g w = true) (he : inR e 0 3 = true) (hd : qbE w e = false) : qaQ g (told w e b) = true := by
  obtain ⟨h1, h2, h3, h4, h5, h6, h7, h8, h9, h10⟩ := qfK.1 h
  exact qfK.2 ⟨h1, h2, h3, h4, h5, h6, h7, h8, h9, qB6 h10 he hd⟩
end Go.Proofs.YtdanpadojemjeaaGreat
namespace Go.Proofs.YtdanpadojemjeaaGreat
open Go.Sx Go.RowKit
theorem qmN {c : Cluster} {i : Int} (h0 : 0 ≤ i) (h1 : i < c.workers.length) : ∃ x, wAt c i = some x := by
  unfold wAt
  rw [if_pos h0]
  exact qae (by omega)
theorem qB9 {c : Cluster} (h : qat c = true) {e : Int} (he : inR e 0 3 = true) : ∃ t, tAt c e = some t := by
  have h4 := (qcT.1 h).2.2.2.1
  simp only [inR, decide_eq_true_eq] at he
  unfold tAt
  rw [if_pos he.1]
  exact qae (by omega)
theorem qfL {n : Int} {t : Token} : qa9 n t = false ↔ (0 ≤ t.place ∧ t.place ≤ n - 1) ∧ (t.going = false → t.place = 0) ∧ (-1000000 ≤ t.sum ∧ t.sum ≤ 1000000) := by
  simp only [qa9, inR, Bool.or_eq_false_iff, Bool.not_eq_false', decide_eq_true_eq, Bool.and_eq_false_imp, Bool.not_eq_true', bne_eq_false_iff_eq]
theorem qmO {c : Cluster} {i j : Int} {l : Link} : wAt (setL c i l) j = wAt c j := rfl
theorem qfM {c : Cluster} {i j : Int} {t : Token} : wAt (setT c i t) j = wAt c j := rfl
theorem qmP {c : Cluster} {i : Int} {t : Token} : (setT c i t).graph = c.graph := rfl
theorem news_ok {n e : Int} {b : Bool} {m : Nat} (hm : (m : Int) = n - 1) (he : inR e 0 3 = true) : (qaR m e b).any (qbp n) = false := by
  rw [List.any_eq_false]
  intro x hx
  simp only [qaR, List.mem_map, List.mem_range] at hx
  obtain ⟨k, hk, rfl⟩ := hx
  have h1 : inR ((k : Int) + 1) 0 (n - 1) = true := by simp only [inR, decide_eq_true_eq]; omega
  simp only [qbp, h1, he, Bool.not_true, Bool.or_false, Bool.false_eq_true, not_false_eq_true]
theorem qCa {c : Cluster} {e : Int} {t : Token} {x x0 : Worker} (h : qat c = true) (he : inR e 0 3 = true) (ht : tAt c e = some t) (hx : wAt c t.place = some x) (h0 : wAt c 0 = some x0) (hd : qbE x0 e = false) : qat (qau c e t x).1 = true := by
  obtain ⟨h1, h2, h3, h4, h5, h6, h7, h8⟩ := qcT.1 h
  have hn := qfG h1
  obtain ⟨t1, t2, t3⟩ := qfL.1 (qmM h ht)
  have ok := qmL h hx
  have setT_ok : ∀ t' : Token, qa9 c.graph.workers t' = false → qat (setT c e t') = true := fun t' k => by rw [qB4 h ht, k]; rfl
  have both : ∀ t' : Token, qa9 c.graph.workers t' = false → qat (setW (setT c e t') t.place (qbq x e)) = true := fun t' k => by
    rw [qmK (setT_ok t' k) (qfM.trans hx), qmP, qB7 ok]
  unfold qau
  split
  · split
    · exact both _ (qfL.2 ⟨by dsimp only; omega, by simp, by simp⟩)
    · rename_i hg
      split
      · split
        · rename_i hp hr
          simp only [inR, decide_eq_true_eq] at hr
          exact both _ (qfL.2 ⟨by dsimp only; omega, by simp, hr⟩)
        · exact h
      · rename_i hp
        have e0 : t.place = 0 := by omega
        have kt := setT_ok ⟨false, t.place, t.sum, t.black, t.capped⟩ (qfL.2 ⟨t1, fun _ => e0, t3⟩)
        split
        · rw [e0] at hx
          have hxx : x0 = x := by rw [h0] at hx; exact Option.some.inj hx
          have kw : qat (setW (setT c e ⟨false, t.place, t.sum, t.black, t.capped⟩) 0 (told x e (t.capped || x.caps.getD e.toNat false))) = true := by
            rw [qmK kt (qfM.trans hx), qmP]
            exact qB8 ok he (hxx ▸ hd)
          rw [qB5 kw, List.any_append]
          have e1 : (setW (setT c e ⟨false, t.place, t.sum, t.black, t.capped⟩) 0 (told x e (t.capped || x.caps.getD e.toNat false))).graph = c.graph := rfl
          rw [e1, h8, news_ok (by omega) he]
          rfl
        · exact kt
  · exact h
theorem qCb {c : Cluster} {e : Int} (h : qat c = true) : qat (qaK c e).1 = true := by
  unfold qaK
  split
  · rename_i hc
    rw [Bool.and_eq_true] at hc
    split
    · rename_i x0 t h0 ht
      split
      · exact h
      · rename_i hd
        split
        · rename_i x hx; exact qCa h hc.2 ht hx h0 (by simpa using hd)
        · exact h
    · exact h
  · exact h
theorem qi5 {α : Type} {sz : α → Nat} {y : α} (x : α) : ∀ {xs : List α} {i : Nat}, xs[i]? = some y → szS sz (xs.set i x) + sz y = szS sz xs + sz x
  | [], i, h => by simp at h
  | a :: xs, 0, h => by
    obtain rfl : a = y := by simpa using h
    simp only [szS, List.set_cons_zero, List.length_cons, List.map_cons, List.sum_cons]
    omega
  | a :: xs, i + 1, h => by
    have := qi5 (sz := sz) x (xs := xs) (i := i) (by simpa using h)
    simp only [szS, List.set_cons_succ, List.length_cons, List.map_cons, List.sum_cons] at this ⊢
    omega
theorem qdk {c : Cluster} {i : Int} {x y : Worker} (h : wAt c i = some y) : (setW c i x).sz + y.sz = c.sz + x.sz := by
  have := qi5 (sz := Worker.sz) x (qd5 h).2.2
  simp only [setW, Cluster.sz]
  omega
theorem qi6 {c : Cluster} {i : Int} {x y : Link} (h : lAt c i = some y) : (setL c i x).sz + y.sz = c.sz + x.sz := by
  have := qi5 (sz := Link.sz) x (qB3 h).2.2
  simp only [setL, Cluster.sz]
  omega
theorem qgV {c : Cluster} {i : Int} {x : Token} : (setT c i x).sz = c.sz := by
  simp only [setT, Cluster.sz, List.length_set]
theorem qmQ {c : Cluster} {x : List News} : (setN c x).sz + c.news.length = c.sz + x.length := by
  simp only [setN, Cluster.sz]
  omega
theorem qCc (g : Graph) (w : Worker) : (qfI g w).1.sz ≤ w.sz + 2 := by
  unfold qfI
  split
  · rename_i hc
    rw [Bool.and_eq_true] at hc
    split
    · rename_i r q h1 h2
      have := qBC hc.1 w.cells r
      simp only [Worker.sz, h1, h2, List.length_cons, List.length_nil]
      split <;> (try simp only [List.length_set]) <;> omega
    · exact Nat.le_add_right _ _
  · exact Nat.le_add_right _ _
theorem qCd (g : Graph) (w : Worker) : (qfJ g w).1.sz ≤ w.sz := by
  unfold qfJ
  split
  · split
    · rename_i r t h1 h2 h3
      simp only [Worker.sz, h1, h2, h3, List.length_cons, List.length_nil]
      omega
    · exact Nat.le_refl _
  · exact Nat.le_refl _
theorem qCe {w : Worker} {r : Record} {t : List Record} (h : w.staged = r :: t) : (qe1 w t).sz + 1 = w.sz := by
  simp only [qe1, Worker.sz, h, List.length_cons]; omega
theorem qCf (w : Worker) (r : Record) : (kept w r).sz = w.sz + 1 := by
  simp only [kept, Worker.sz, List.length_append, List.length_cons, List.length_nil]; omega
theorem qCg (w : Worker) (e : Int) : (qgU w e).sz = w.sz := by
  simp only [qgU, incAt, Worker.sz, List.length_set]
theorem qCh (w : Worker) (r : Record) : (qgT w r).sz = w.sz + 1 := by
  simp only [qgT, incAt, Worker.sz, List.length_set, List.length_append, List.length_cons, List.length_nil]; omega
theorem qCi (w : Worker) (e : Int) : (qbq w e).sz = w.sz := by
  simp only [qbq, Worker.sz, List.length_set]
theorem qmR (w : Worker) (e : Int) (b : Bool) : (told w e b).sz = w.sz + 1 := by
  simp only [told, Worker.sz, List.length_append, List.length_cons, List.length_nil]; omega
theorem qCj (w : Worker) (n : News) : (hears w n).sz ≤ w.sz + 1 := by
  unfold hears
  split
  · omega
  · rw [qmR]; omega
theorem qCk (l : Link) (r : Record) : (qe0 l r).1.sz ≤ l.sz + 1 := by
  unfold qe0
  split <;> simp [Link.sz]
theorem qCl (l : Link) : (qdi l).1.sz ≤ l.sz := by
  unfold qdi
  split
  · split
    · exact Nat.le_refl _
    · rename_i h; simp [Link.sz, h]
  · exact Nat.le_refl _
theorem qCm (l : Link) : (qfH l).1.sz = l.sz := by
  unfold qfH
  split <;> rfl
theorem qCn {α : Type} (xs : List α) (k : Nat) : (cutAt xs k).length ≤ xs.length := by
  simp only [cutAt, List.length_append, List.length_take, List.length_drop]; omega
theorem qCo {c : Cluster} {e : Int} {t : Token} {x : Worker} (hw : c.workers.length ≤ 4) (hx : wAt c t.place = some x) (h0 : 0 ≤ t.place) : (qau c e t x).1.sz ≤ c.sz + 4 := by
  unfold qau
  have w1 : ∀ t', (setW (setT c e t') t.place (qbq x e)).sz + x.sz = c.sz + x.sz := fun t' => by
    have := qdk (c := setT c e t') (x := qbq x e) (qfM.trans hx)
    rwa [qgV, qCi] at this
  split
  · split
    · have := w1 ⟨true, (c.workers.length : Int) - 1, 0, false, x.caps.getD e.toNat false⟩
      dsimp only; omega
    · split
      · split
        · have := w1 ⟨true, t.place - 1, t.sum + x.sums.getD e.toNat 0, t.black || x.black.getD e.toNat false, t.capped || x.caps.getD e.toNat false⟩
          dsimp only; omega
        · dsimp only; omega
      · rename_i hp
        have e0 : t.place = 0 := by omega
        split
        · rw [e0] at hx
          have a := qdk (c := setT c e ⟨false, t.place, t.sum, t.black, t.capped⟩) (x := told x e (t.capped || x.caps.getD e.toNat false)) (qfM.trans hx)
          rw [qgV, qmR] at a
          have b := qmQ (c := setW (setT c e ⟨false, t.place, t.sum, t.black, t.capped⟩) 0 (told x e (t.capped || x.caps.getD e.toNat false))) (x := c.news ++ qaR (c.workers.length - 1) e (t.capped || x.caps.getD e.toNat false))
          have d : (setW (setT c e ⟨false, t.place, t.sum, t.black, t.capped⟩) 0 (told x e (t.capped || x.caps.getD e.toNat false))).news = c.news := rfl
          rw [d] at b
          simp only [List.length_append, qaR, List.length_map, List.length_range] at b
          dsimp only
          simp only [qaR]
          omega
        · dsimp only; rw [qgV]; omega
  · dsimp only; omega
theorem qCp {c : Cluster} (h : qat c = true) : c.workers.length ≤ 4 := by
  obtain ⟨h1, h2, _⟩ := qcT.1 h
  have := qfG h1
  omega
theorem qCq (c : Cluster) (p : Pick) : (stepPick c p).1.sz ≤ c.sz + 4 := by
  have k0 : c.sz ≤ c.sz + 4 := by omega
  unfold stepPick
  split
  · unfold qmC
    split
    · split
      · rename_i x hx
        have := qdk (x := (qfI c.graph x).1) hx
        have := qCc c.graph x
        dsimp only; omega
      · exact k0
    · exact k0
  split
  · unfold qmD
    split
    · split
      · rename_i x hx
        have := qdk (x := (qfJ c.graph x).1) hx
        have := qCd c.graph x
        dsimp only; omega
      · exact k0
    · exact k0
  split
  · unfold qmF
    split
    · split
      · rename_i x hx
        split
        · rename_i r t hs
          have hu := qCe hs
          unfold qmE
          split
          · have := qdk (x := kept (qe1 x t) r) hx
            rw [qCf] at this
            dsimp only; omega
          · split
            · rename_i l hl
              split
              · have a := qi6 (x := (qe0 l r).1) hl
                have b := qdk (c := setL c (qdj c.graph p.a (ql1 r.key c.graph.workers)) (qe0 l r).1) (x := qgU (qe1 x t) r.stamp.epoch) (qmO.trans hx)
                rw [qCg] at b
                have := qCk l r
                dsimp only; omega
              · exact k0
            · exact k0
        · exact k0
      · exact k0
    · exact k0
  split
  · unfold qmG
    split
    · split
      · rename_i l x hl hx
        split
        · have a := qi6 (x := (qdi l).1) hl
          have b := qdk (c := setL c (qdj c.graph p.a p.b) (qdi l).1) (x := qgT x (qdi l).2.1) (qmO.trans hx)
          rw [qCh] at b
          have := qCl l
          dsimp only; omega
        · exact k0
      · exact k0
    · exact k0
  split
  · unfold qmH
    split
    · split
      · rename_i l hl
        have a := qi6 (x := (qfH l).1) hl
        have := qCm l
        dsimp only; omega
      · exact k0
    · exact k0
  split
  · unfold qaK
    split
    · rename_i hc
      rw [Bool.and_eq_true] at hc
      split
      · rename_i x0 t h0 ht
        split
        · exact k0
        · split
          · rename_i x hx; exact qCo (qCp hc.1) hx (qd5 hx).1
          · exact k0
      · exact k0
    · exact k0
  split
  · unfold qmI
    split
    · rename_i k hk
      split
      · split
        · rename_i n x hn hx
          have a := qdk (x := hears x n) hx
          have b := qmQ (c := setW c p.a (hears x n)) (x := cutAt c.news k)
          have d : (setW c p.a (hears x n)).news = c.news := rfl
          rw [d] at b
          have := qCj x n
          have := qCn c.news k
          dsimp only; omega
        · exact k0
      · exact k0
    · exact k0
  · exact k0
end Go.Proofs.YtdanpadojemjeaaGreat
