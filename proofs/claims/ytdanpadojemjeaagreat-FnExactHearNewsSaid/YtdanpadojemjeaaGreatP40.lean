/- The steps of a cluster, as they change the data. -/
import Derived.Test.YtdanpadojemjeaaGreatP31
set_option linter.unusedVariables false
set_option linter.unusedSimpArgs false
namespace Go.Proofs.YtdanpadojemjeaaGreat
open Go.Sx Go.RowKit
def cutAt {α : Type} (xs : List α) (k : Nat) : List α := xs.take k ++ xs.drop (k + 1)
def rec0 : Record := ⟨0, ⟨0, 0⟩, 0, 0⟩
def incAt (xs : List Int) (e d : Int) : List Int := xs.set e.toNat (xs.getD e.toNat 0 + d)
def qeP (l : Link) (r : Record) : Link × Bool :=
  if qbM l && qaG r && l.credits != 0 && decide (l.sent < 1000000000) then (⟨l.cap, l.queue ++ [r], l.credits - 1, l.back, l.sent + 1, l.got⟩, true) else (l, false)
def qdc (l : Link) : Link × Record × Bool :=
  if qbM l then match l.queue with
    | [] => (l, rec0, false)
    | r :: q => (⟨l.cap, q, l.credits, l.back + 1, l.sent, l.got + 1⟩, r, true)
  else (l, rec0, false)
def qfs (l : Link) : Link × Bool :=
  if qbM l && l.back != 0 then (⟨l.cap, l.queue, l.credits + 1, l.back - 1, l.sent, l.got⟩, true) else (l, false)
def qft (g : Graph) (w : Worker) : Worker × Bool :=
  if qav g && qaN g w then match w.staged, w.queue with
    | [], r :: q => (⟨q, (qfr g w.cells r).2.1, w.inputs, (qfr g w.cells r).1, w.sums, w.black, (if capped g r then w.caps.set r.stamp.epoch.toNat true else w.caps), w.dones⟩, true)
    | _, _ => (w, false)
  else (w, false)
def qfu (g : Graph) (w : Worker) : Worker × Bool :=
  if qav g && qaN g w then match w.staged, w.queue, w.inputs with
    | [], [], r :: t => (⟨[r], [], t, w.cells, w.sums, w.black, w.caps, w.dones⟩, true)
    | _, _, _ => (w, false)
  else (w, false)
def qeQ (w : Worker) (t : List Record) : Worker := ⟨w.queue, t, w.inputs, w.cells, w.sums, w.black, w.caps, w.dones⟩
def kept (w : Worker) (r : Record) : Worker := ⟨w.queue ++ [r], w.staged, w.inputs, w.cells, w.sums, w.black, w.caps, w.dones⟩
def qgF (w : Worker) (r : Record) : Worker := ⟨w.queue ++ [r], w.staged, w.inputs, w.cells, incAt w.sums r.stamp.epoch (-1), w.black.set r.stamp.epoch.toNat true, w.caps, w.dones⟩
def qgG (w : Worker) (e : Int) : Worker := ⟨w.queue, w.staged, w.inputs, w.cells, incAt w.sums e 1, w.black, w.caps, w.dones⟩
def qeR (w : Worker) (e : Int) : Worker := ⟨w.queue, w.staged, w.inputs, w.cells, w.sums, w.black.set e.toNat false, w.caps, w.dones⟩
def told (w : Worker) (e : Int) (b : Bool) : Worker := ⟨w.queue, w.staged, w.inputs, w.cells, w.sums, w.black, w.caps, w.dones ++ [⟨e, b⟩]⟩
def hears (w : Worker) (n : News) : Worker := if qb1 w n.epoch then w else told w n.epoch n.capped
def qAN (w : Worker) (e : Int) : Bool := w.inputs.any fun r => decide (r.stamp.epoch ≤ e)
def qAO (w : Worker) (e : Int) : Nat := (qlE e w.queue).length + (qlE e w.staged).length
def qAP (w : Worker) (e : Int) : Bool := !qAN w e && qAO w e == 0
def setW (c : Cluster) (i : Int) (x : Worker) : Cluster := ⟨c.graph, c.workers.set i.toNat x, c.links, c.tokens, c.news⟩
def setL (c : Cluster) (i : Int) (l : Link) : Cluster := ⟨c.graph, c.workers, c.links.set i.toNat l, c.tokens, c.news⟩
def setT (c : Cluster) (i : Int) (t : Token) : Cluster := ⟨c.graph, c.workers, c.links, c.tokens.set i.toNat t, c.news⟩
def setN (c : Cluster) (n : List News) : Cluster := ⟨c.graph, c.workers, c.links, c.tokens, n⟩
def wAt (c : Cluster) (i : Int) : Option Worker := if 0 ≤ i then c.workers[i.toNat]? else none
def lAt (c : Cluster) (i : Int) : Option Link := if 0 ≤ i then c.links[i.toNat]? else none
def tAt (c : Cluster) (i : Int) : Option Token := if 0 ≤ i then c.tokens[i.toNat]? else none
def qdd (g : Graph) (a b : Int) : Int := if inR a 0 (g.workers - 1) && inR b 0 (g.workers - 1) then a * g.workers + b else -1
def qmj (c : Cluster) (w : Int) : Cluster × Bool :=
  if qaF c then match wAt c w with
    | some x => (setW c w (qft c.graph x).1, (qft c.graph x).2)
    | none => (c, false)
  else (c, false)
def qmk (c : Cluster) (w : Int) : Cluster × Bool :=
  if qaF c then match wAt c w with
    | some x => (setW c w (qfu c.graph x).1, (qfu c.graph x).2)
    | none => (c, false)
  else (c, false)
def qml (c : Cluster) (w : Int) (x : Worker) (r : Record) (t : List Record) (o : Int) : Cluster × Bool :=
  if o = w then (setW c w (kept (qeQ x t) r), true)
  else match lAt c (qdd c.graph w o) with
    | some l => if (qeP l r).2 then (setW (setL c (qdd c.graph w o) (qeP l r).1) w (qgG (qeQ x t) r.stamp.epoch), true) else (c, false)
    | none => (c, false)
def qmm (c : Cluster) (w : Int) : Cluster × Bool :=
  if qaF c then match wAt c w with
    | some x => match x.staged with
      | r :: t => qml c w x r t (qlJ r.key c.graph.workers)
      | [] => (c, false)
    | none => (c, false)
  else (c, false)
def qmn (c : Cluster) (a b : Int) : Cluster × Bool :=
  if qaF c && a != b then match lAt c (qdd c.graph a b), wAt c b with
    | some l, some x => if (qdc l).2.2 then (setW (setL c (qdd c.graph a b) (qdc l).1) b (qgF x (qdc l).2.1), true) else (c, false)
    | _, _ => (c, false)
  else (c, false)
def qmo (c : Cluster) (a b : Int) : Cluster × Bool :=
  if qaF c && a != b then match lAt c (qdd c.graph a b) with
    | some l => (setL c (qdd c.graph a b) (qfs l).1, (qfs l).2)
    | none => (c, false)
  else (c, false)
def qeS (n : Nat) (e : Int) (b : Bool) : List News := (List.range n).map fun k : Nat => ⟨(k : Int) + 1, e, b⟩
def qiS (c : Cluster) (e : Int) (t : Token) (x : Worker) : Cluster × Bool :=
  if qAP x e then
    if !t.going then (setW (setT c e ⟨true, (c.workers.length : Int) - 1, 0, false, x.caps.getD e.toNat false⟩) t.place (qeR x e), true)
    else if 0 < t.place then
      if inR (t.sum + x.sums.getD e.toNat 0) (-1000000) 1000000 then
        (setW (setT c e ⟨true, t.place - 1, t.sum + x.sums.getD e.toNat 0, t.black || x.black.getD e.toNat false, t.capped || x.caps.getD e.toNat false⟩) t.place (qeR x e), true)
      else (c, false)
    else if !t.black && !x.black.getD e.toNat false && t.sum + x.sums.getD e.toNat 0 == 0 then
      (setN (setW (setT c e ⟨false, t.place, t.sum, t.black, t.capped⟩) 0 (told x e (t.capped || x.caps.getD e.toNat false))) (c.news ++ qeS (c.workers.length - 1) e (t.capped || x.caps.getD e.toNat false)), true)
    else (setT c e ⟨false, t.place, t.sum, t.black, t.capped⟩, true)
  else (c, false)
def qmp (c : Cluster) (e : Int) : Cluster × Bool :=
  if qaF c && inR e 0 3 then match wAt c 0, tAt c e with
    | some x0, some t => if qb1 x0 e then (c, false) else match wAt c t.place with
      | some x => qiS c e t x
      | none => (c, false)
    | _, _ => (c, false)
  else (c, false)
def qaT (c : Cluster) (w : Int) : Cluster × Bool :=
  match c.news.findIdx? (fun n => n.dest == w) with
  | some k => if qaF c then match c.news[k]?, wAt c w with
      | some n, some x => (setN (setW c w (hears x n)) (cutAt c.news k), true)
      | _, _ => (c, false)
    else (c, false)
  | none => (c, false)
def stepPick (c : Cluster) (p : Pick) : Cluster × Bool :=
  if p.kind = 1 then qmj c p.a else if p.kind = 2 then qmk c p.a else if p.kind = 3 then qmm c p.a
  else if p.kind = 4 then qmn c p.a p.b else if p.kind = 5 then qmo c p.a p.b else if p.kind = 6 then qmp c p.a
  else if p.kind = 7 then qaT c p.a else (c, false)
end Go.Proofs.YtdanpadojemjeaaGreat
namespace Go.Proofs.YtdanpadojemjeaaGreat
open Go.Sx Go.RowKit
section
variable {α : Type}
theorem qAQ {p : α → Bool} {xs : List α} {i : Nat} {x : α} (h : xs.any p = false) (hi : i < xs.length) : (xs.set i x).any p = p x := by
  cases hx : p x with
  | true => exact List.any_eq_true.2 ⟨x, List.mem_iff_getElem.2 ⟨i, by simpa using hi, by simp⟩, hx⟩
  | false =>
    rw [List.any_eq_false] at h ⊢
    intro a ha
    rcases List.mem_or_eq_of_mem_set ha with h1 | rfl
    · exact h a h1
    · simp [hx]
theorem qAR {p : Nat → α → Bool} {xs : List α} (h : ∀ i a, xs[i]? = some a → p i a = false) : anyI p 0 xs = false := by
  cases hx : anyI p 0 xs with
  | false => rfl
  | true =>
    obtain ⟨i, a, h1, h2, _⟩ := qh2 hx
    rw [Nat.zero_add, h i a h1] at h2
    cases h2
theorem qAS {p : Nat → α → Bool} {xs : List α} (h : anyI p 0 xs = false) {i : Nat} {a : α} (ha : xs[i]? = some a) : p i a = false := by
  have := qgb h i a ha
  rwa [Nat.zero_add] at this
end
theorem qdW {c : Cluster} : qaF c = true ↔ qav c.graph = true ∧ (c.workers.length : Int) = c.graph.workers ∧ (c.links.length : Int) = c.graph.workers * c.graph.workers ∧ c.tokens.length = 4 ∧ (c.workers.any fun w => !qaN c.graph w) = false ∧ anyI (qbN c.graph) 0 c.links = false ∧ c.tokens.any (qbO c.graph.workers) = false ∧ c.news.any (qa7 c.graph.workers) = false := by
  simp only [qaF, Bool.and_eq_true, Bool.not_eq_true', beq_iff_eq]
theorem qdX {c : Cluster} {i : Int} {x : Worker} (h : wAt c i = some x) : 0 ≤ i ∧ i.toNat < c.workers.length ∧ c.workers[i.toNat]? = some x := by
  unfold wAt at h
  split at h
  · exact ⟨‹_›, lt_of h, h⟩
  · cases h
theorem qAT {c : Cluster} {i : Int} {x : Link} (h : lAt c i = some x) : 0 ≤ i ∧ i.toNat < c.links.length ∧ c.links[i.toNat]? = some x := by
  unfold lAt at h
  split at h
  · exact ⟨‹_›, lt_of h, h⟩
  · cases h
theorem qAU {c : Cluster} {i : Int} {x y : Worker} (h : qaF c = true) (hy : wAt c i = some y) : qaF (setW c i x) = qaN c.graph x := by
  obtain ⟨h1, h2, h3, h4, h5, h6, h7, h8⟩ := qdW.1 h
  have hi := (qdX hy).2.1
  simp only [qaF, setW, List.length_set, qAQ h5 hi, h1, h2, h3, h4, h6, h7, h8, beq_self_eq_true, Bool.not_false, Bool.and_true, Bool.true_and, Bool.not_not]
theorem qAV {c : Cluster} {x : List News} (h : qaF c = true) : qaF (setN c x) = !(x.any (qa7 c.graph.workers)) := by
  obtain ⟨h1, h2, h3, h4, h5, h6, h7, h8⟩ := qdW.1 h
  simp only [qaF, setN, h1, h2, h3, h4, h5, h6, h7, beq_self_eq_true, Bool.not_false, Bool.true_and]
theorem qAW {c : Cluster} {i : Int} {x : Worker} (h : qaF c = true) (hx : wAt c i = some x) : qaN c.graph x = true := by
  have h5 := (qdW.1 h).2.2.2.2.1
  rw [List.any_eq_false] at h5
  simpa using h5 x (qap (qdX hx).2.2)
theorem qmq {c : Cluster} {i : Int} {x : Worker} (hx : wAt c i = some x) : setW c i x = c := by
  obtain ⟨_, h2, h3⟩ := qdX hx
  have : c.workers.set i.toNat x = c.workers := by
    rw [List.getElem?_eq_getElem h2] at h3
    rw [← Option.some.inj h3]
    exact List.set_getElem_self h2
  unfold setW
  rw [this]
theorem qmr {g : Graph} {w : Worker} : qaN g w = true ↔ qaS g w.queue = true ∧ qaS g w.staged = true ∧ qaS g w.inputs = true ∧ qcC w.cells = true ∧ w.sums.length = 4 ∧ w.black.length = 4 ∧ w.caps.length = 4 ∧ anyI (inBad w.inputs) 0 w.inputs = false ∧ w.sums.any qdb = false ∧ anyI (qbe w.dones) 0 w.dones = false := by
  simp only [qaN, Bool.and_eq_true, Bool.not_eq_true', beq_iff_eq]
theorem qAX {xs : List Done} {d : Done} (h : anyI (qbe xs) 0 xs = false) (h1 : inR d.epoch 0 3 = true) (h2 : (xs.any fun q => q.epoch == d.epoch) = false) : anyI (qbe (xs ++ [d])) 0 (xs ++ [d]) = false := by
  refine qAR fun i a ha => ?_
  by_cases hi : i < xs.length
  · rw [List.getElem?_append_left hi] at ha
    have k := qAS h ha
    unfold qbe at k ⊢
    rw [List.take_append_of_le_length (by omega)]
    exact k
  · have hl := lt_of ha
    simp only [List.length_append, List.length_cons, List.length_nil] at hl
    have e : i = xs.length := by omega
    subst e
    rw [List.getElem?_append_right (Nat.le_refl _), Nat.sub_self] at ha
    obtain rfl : d = a := by simpa using ha
    unfold qbe
    rw [List.take_append_of_le_length (Nat.le_refl _), List.take_length, h1, h2]
    rfl
theorem qAY {g : Graph} {w : Worker} {e : Int} {b : Bool} (h : qaN g w = true) (he : inR e 0 3 = true) (hd : qb1 w e = false) : qaN g (told w e b) = true := by
  obtain ⟨h1, h2, h3, h4, h5, h6, h7, h8, h9, h10⟩ := qmr.1 h
  exact qmr.2 ⟨h1, h2, h3, h4, h5, h6, h7, h8, h9, qAX h10 he hd⟩
theorem qAZ {g : Graph} {w : Worker} {n : News} (h : qaN g w = true) (he : inR n.epoch 0 3 = true) : qaN g (hears w n) = true := by
  unfold hears
  cases hd : qb1 w n.epoch with
  | true => exact h
  | false => exact qAY h he hd
end Go.Proofs.YtdanpadojemjeaaGreat
namespace Go.Proofs.YtdanpadojemjeaaGreat
open Go.Sx Go.RowKit
theorem qA0 {c : Cluster} {i : Int} (h0 : 0 ≤ i) (h1 : i < c.workers.length) : ∃ x, wAt c i = some x := by
  unfold wAt
  rw [if_pos h0]
  exact qae (by omega)
theorem qms {c : Cluster} {i j : Int} {l : Link} : wAt (setL c i l) j = wAt c j := rfl
theorem qmt {c : Cluster} {i j : Int} {t : Token} : wAt (setT c i t) j = wAt c j := rfl
theorem qA1 {c : Cluster} {i : Int} {x : Worker} : (setW c i x).graph = c.graph := rfl
theorem news_ok {n e : Int} {b : Bool} {m : Nat} (hm : (m : Int) = n - 1) (he : inR e 0 3 = true) : (qeS m e b).any (qa7 n) = false := by
  rw [List.any_eq_false]
  intro x hx
  simp only [qeS, List.mem_map, List.mem_range] at hx
  obtain ⟨k, hk, rfl⟩ := hx
  have h1 : inR ((k : Int) + 1) 0 (n - 1) = true := by simp only [inR, decide_eq_true_eq]; omega
  simp only [qa7, h1, he, Bool.not_true, Bool.or_false, Bool.false_eq_true, not_false_eq_true]
theorem qmu {c : Cluster} {k : Nat} {n : News} (h : qaF c = true) (hn : c.news[k]? = some n) : qa7 c.graph.workers n = false := by
  have h8 := (qdW.1 h).2.2.2.2.2.2.2
  rw [List.any_eq_false] at h8
  simpa using h8 n (qap hn)
theorem qA2 {α : Type} {p : α → Bool} {xs : List α} {k : Nat} (h : xs.any p = false) : (cutAt xs k).any p = false := by
  rw [List.any_eq_false] at h ⊢
  intro a ha
  rcases List.mem_append.1 ha with ha | ha
  · exact h a (List.mem_of_mem_take ha)
  · exact h a (List.mem_of_mem_drop ha)
theorem qA3 {c : Cluster} {w : Int} (h : qaF c = true) : qaF (qaT c w).1 = true := by
  unfold qaT
  split
  · rw [if_pos h]
    split
    · rename_i n x hn hx
      have hb := qmu h hn
      simp only [qa7, Bool.or_eq_false_iff, Bool.not_eq_false'] at hb
      have kw : qaF (setW c w (hears x n)) = true := by rw [qAU h hx, qAZ (qAW h hx) hb.2]
      rw [qAV kw, qA1, qA2 (qdW.1 h).2.2.2.2.2.2.2]
      rfl
    · exact h
  · exact h
theorem qiT {α : Type} {sz : α → Nat} {y : α} (x : α) : ∀ {xs : List α} {i : Nat}, xs[i]? = some y → szS sz (xs.set i x) + sz y = szS sz xs + sz x
  | [], i, h => by simp at h
  | a :: xs, 0, h => by
    obtain rfl : a = y := by simpa using h
    simp only [szS, List.set_cons_zero, List.length_cons, List.map_cons, List.sum_cons]
    omega
  | a :: xs, i + 1, h => by
    have := qiT (sz := sz) x (xs := xs) (i := i) (by simpa using h)
    simp only [szS, List.set_cons_succ, List.length_cons, List.map_cons, List.sum_cons] at this ⊢
    omega
theorem qde {c : Cluster} {i : Int} {x y : Worker} (h : wAt c i = some y) : (setW c i x).sz + y.sz = c.sz + x.sz := by
  have := qiT (sz := Worker.sz) x (qdX h).2.2
  simp only [setW, Cluster.sz]
  omega
theorem qiU {c : Cluster} {i : Int} {x y : Link} (h : lAt c i = some y) : (setL c i x).sz + y.sz = c.sz + x.sz := by
  have := qiT (sz := Link.sz) x (qAT h).2.2
  simp only [setL, Cluster.sz]
  omega
theorem qiV {c : Cluster} {i : Int} {x : Token} : (setT c i x).sz = c.sz := by
  simp only [setT, Cluster.sz, List.length_set]
theorem qmv {c : Cluster} {x : List News} : (setN c x).sz + c.news.length = c.sz + x.length := by
  simp only [setN, Cluster.sz]
  omega
theorem qA4 (g : Graph) (w : Worker) : (qft g w).1.sz ≤ w.sz + 2 := by
  unfold qft
  split
  · rename_i hc
    rw [Bool.and_eq_true] at hc
    split
    · rename_i r q h1 h2
      have := qAp hc.1 w.cells r
      simp only [Worker.sz, h1, h2, List.length_cons, List.length_nil]
      split <;> (try simp only [List.length_set]) <;> omega
    · exact Nat.le_add_right _ _
  · exact Nat.le_add_right _ _
theorem qA5 (g : Graph) (w : Worker) : (qfu g w).1.sz ≤ w.sz := by
  unfold qfu
  split
  · split
    · rename_i r t h1 h2 h3
      simp only [Worker.sz, h1, h2, h3, List.length_cons, List.length_nil]
      omega
    · exact Nat.le_refl _
  · exact Nat.le_refl _
theorem qA6 {w : Worker} {r : Record} {t : List Record} (h : w.staged = r :: t) : (qeQ w t).sz + 1 = w.sz := by
  simp only [qeQ, Worker.sz, h, List.length_cons]; omega
theorem qA7 (w : Worker) (r : Record) : (kept w r).sz = w.sz + 1 := by
  simp only [kept, Worker.sz, List.length_append, List.length_cons, List.length_nil]; omega
theorem qA8 (w : Worker) (e : Int) : (qgG w e).sz = w.sz := by
  simp only [qgG, incAt, Worker.sz, List.length_set]
theorem qA9 (w : Worker) (r : Record) : (qgF w r).sz = w.sz + 1 := by
  simp only [qgF, incAt, Worker.sz, List.length_set, List.length_append, List.length_cons, List.length_nil]; omega
theorem qBa (w : Worker) (e : Int) : (qeR w e).sz = w.sz := by
  simp only [qeR, Worker.sz, List.length_set]
theorem qmw (w : Worker) (e : Int) (b : Bool) : (told w e b).sz = w.sz + 1 := by
  simp only [told, Worker.sz, List.length_append, List.length_cons, List.length_nil]; omega
theorem qBb (w : Worker) (n : News) : (hears w n).sz ≤ w.sz + 1 := by
  unfold hears
  split
  · omega
  · rw [qmw]; omega
theorem qBc (l : Link) (r : Record) : (qeP l r).1.sz ≤ l.sz + 1 := by
  unfold qeP
  split <;> simp [Link.sz]
theorem qBd (l : Link) : (qdc l).1.sz ≤ l.sz := by
  unfold qdc
  split
  · split
    · exact Nat.le_refl _
    · rename_i h; simp [Link.sz, h]
  · exact Nat.le_refl _
theorem qBe (l : Link) : (qfs l).1.sz = l.sz := by
  unfold qfs
  split <;> rfl
theorem qBf {α : Type} (xs : List α) (k : Nat) : (cutAt xs k).length ≤ xs.length := by
  simp only [cutAt, List.length_append, List.length_take, List.length_drop]; omega
theorem qBg {c : Cluster} {e : Int} {t : Token} {x : Worker} (hw : c.workers.length ≤ 4) (hx : wAt c t.place = some x) (h0 : 0 ≤ t.place) : (qiS c e t x).1.sz ≤ c.sz + 4 := by
  unfold qiS
  have w1 : ∀ t', (setW (setT c e t') t.place (qeR x e)).sz + x.sz = c.sz + x.sz := fun t' => by
    have := qde (c := setT c e t') (x := qeR x e) (qmt.trans hx)
    rwa [qiV, qBa] at this
  split
  · split
    · have := w1 ⟨true, (c.workers.length : Int) - 1, 0, false, x.caps.getD e.toNat false⟩
      dsimp only; omega
    · split
      · split
        · have := w1 ⟨true, t.place - 1, t.sum + x.sums.getD e.toNat 0, t.black || x.black.getD e.toNat false, t.capped || x.caps.getD e.toNat false⟩
          dsimp only; omega
        · dsimp only; omega
      · rename_i hp
        have e0 : t.place = 0 := by omega
        split
        · rw [e0] at hx
          have a := qde (c := setT c e ⟨false, t.place, t.sum, t.black, t.capped⟩) (x := told x e (t.capped || x.caps.getD e.toNat false)) (qmt.trans hx)
          rw [qiV, qmw] at a
          have b := qmv (c := setW (setT c e ⟨false, t.place, t.sum, t.black, t.capped⟩) 0 (told x e (t.capped || x.caps.getD e.toNat false))) (x := c.news ++ qeS (c.workers.length - 1) e (t.capped || x.caps.getD e.toNat false))
          have d : (setW (setT c e ⟨false, t.place, t.sum, t.black, t.capped⟩) 0 (told x e (t.capped || x.caps.getD e.toNat false))).news = c.news := rfl
          rw [d] at b
          simp only [List.length_append, qeS, List.length_map, List.length_range] at b
          dsimp only
          simp only [qeS]
          omega
        · dsimp only; rw [qiV]; omega
  · dsimp only; omega
theorem qBh {c : Cluster} (h : qaF c = true) : c.workers.length ≤ 4 := by
  obtain ⟨h1, h2, _⟩ := qdW.1 h
  have := qiR h1
  omega
theorem qBi (c : Cluster) (p : Pick) : (stepPick c p).1.sz ≤ c.sz + 4 := by
  have k0 : c.sz ≤ c.sz + 4 := by omega
  unfold stepPick
  split
  · unfold qmj
    split
    · split
      · rename_i x hx
        have := qde (x := (qft c.graph x).1) hx
        have := qA4 c.graph x
        dsimp only; omega
      · exact k0
    · exact k0
  split
  · unfold qmk
    split
    · split
      · rename_i x hx
        have := qde (x := (qfu c.graph x).1) hx
        have := qA5 c.graph x
        dsimp only; omega
      · exact k0
    · exact k0
  split
  · unfold qmm
    split
    · split
      · rename_i x hx
        split
        · rename_i r t hs
          have hu := qA6 hs
          unfold qml
          split
          · have := qde (x := kept (qeQ x t) r) hx
            rw [qA7] at this
            dsimp only; omega
          · split
            · rename_i l hl
              split
              · have a := qiU (x := (qeP l r).1) hl
                have b := qde (c := setL c (qdd c.graph p.a (qlJ r.key c.graph.workers)) (qeP l r).1) (x := qgG (qeQ x t) r.stamp.epoch) (qms.trans hx)
                rw [qA8] at b
                have := qBc l r
                dsimp only; omega
              · exact k0
            · exact k0
        · exact k0
      · exact k0
    · exact k0
  split
  · unfold qmn
    split
    · split
      · rename_i l x hl hx
        split
        · have a := qiU (x := (qdc l).1) hl
          have b := qde (c := setL c (qdd c.graph p.a p.b) (qdc l).1) (x := qgF x (qdc l).2.1) (qms.trans hx)
          rw [qA9] at b
          have := qBd l
          dsimp only; omega
        · exact k0
      · exact k0
    · exact k0
  split
  · unfold qmo
    split
    · split
      · rename_i l hl
        have a := qiU (x := (qfs l).1) hl
        have := qBe l
        dsimp only; omega
      · exact k0
    · exact k0
  split
  · unfold qmp
    split
    · rename_i hc
      rw [Bool.and_eq_true] at hc
      split
      · rename_i x0 t h0 ht
        split
        · exact k0
        · split
          · rename_i x hx; exact qBg (qBh hc.1) hx (qdX hx).1
          · exact k0
      · exact k0
    · exact k0
  split
  · unfold qaT
    split
    · rename_i k hk
      split
      · split
        · rename_i n x hn hx
          have a := qde (x := hears x n) hx
          have b := qmv (c := setW c p.a (hears x n)) (x := cutAt c.news k)
          have d : (setW c p.a (hears x n)).news = c.news := rfl
          rw [d] at b
          have := qBb x n
          have := qBf c.news k
          dsimp only; omega
        · exact k0
      · exact k0
    · exact k0
  · exact k0
end Go.Proofs.YtdanpadojemjeaaGreat
