/- Improve, Fixpoint, ResultOf, RightAt: what program and reference compute. -/
import Derived.Test.YtialmplmfcahpaaGreatP20
import Derived.Test.YtialmplmfcahpaaGreatC5
set_option linter.unusedVariables false
set_option linter.unusedSimpArgs false
namespace Go.Proofs.YtialmplmfcahpaaGreat
open Go.Sx Go.RowKit
theorem qmM {n : Node} {x : Cell} {k v : Int} {i : Nat} {o : Int} (h : n.outs[i]? = some o) : ((n.outs.take (i + 1)).map fun o => (⟨o, x.epoch, k, v⟩ : Cell)).map Cell.e = ((n.outs.take i).map fun o => (⟨o, x.epoch, k, v⟩ : Cell)).map Cell.e ++ [[I o, I x.epoch, I k, I v]] := by
  simp [List.take_add_one, h, Cell.e]
theorem qDX (n : Node) (x : Cell) (key val : Int) (goes : Bool) (nx : List (List D)) (hn : n.outs.length ≤ 1048576) : qac Tryz.prog (qaa Tryz.f273 0) (qem x.op x.epoch x.key x.val n.kind n.a n.b (n.outs.map eI) nx key val goes 0 []) (.exit 0) (qft nx ((if goes then sendC n x key val else []).map Cell.e)) := by
  cases goes with
  | false =>
    by_cases h : 0 < n.outs.length
    · exact .last (qah 0) (qDv _ _ _ _ _ _ _ _ _ _ _ _ _ _ ⟨dT (by simp only [List.length_map]; omega), rfl, trivial⟩)
    · exact .last (qah 0) (qmI _ _ _ _ _ _ _ _ _ _ _ _ _ _ ⟨dF (by simp only [List.length_map]; omega), trivial⟩)
  | true =>
    have l := qaj (P := Tryz.prog) (c := (qaa Tryz.f273 0)) (qah 0) n.outs.length (fun i : Nat => qem x.op x.epoch x.key x.val n.kind n.a n.b (n.outs.map eI) nx key val true i (((n.outs.take i).map fun o => (⟨o, x.epoch, key, val⟩ : Cell)).map Cell.e)) (fun i hi => by
      obtain ⟨o, ho⟩ := qag hi
      rw [qmM ho]
      exact qDu _ _ _ _ _ _ _ _ _ _ _ _ _ _ _ ⟨lt1 hi, rfl, lt0, lt2 hi, qae eI ho, by simp <;> omega, by simp <;> omega, qat (Cell.flat ⟨o, x.epoch, key, val⟩), up1 hi hn, trivial⟩) (qmI _ _ _ _ _ _ _ _ _ _ _ _ _ _ ⟨ge1, trivial⟩)
    rw [List.take_length] at l
    exact l
theorem qDY (n : Node) (x : Cell) (key val : Int) (nx : List (List D)) (hn : n.outs.length ≤ 1048576) : qac Tryz.prog (qaa Tryz.f274 0) (qeV x.op x.epoch x.key x.val nx key val (n.outs.map eI) 0 []) (.exit 0) (qgW nx ((sendC n x key val).map Cell.e)) := by
  have l := qaj (P := Tryz.prog) (c := (qaa Tryz.f274 0)) (qah 0) n.outs.length (fun i : Nat => qeV x.op x.epoch x.key x.val nx key val (n.outs.map eI) i (((n.outs.take i).map fun o => (⟨o, x.epoch, key, val⟩ : Cell)).map Cell.e)) (fun i hi => by
    obtain ⟨o, ho⟩ := qag hi
    rw [qmM ho]
    exact qDC _ _ _ _ _ _ _ _ _ _ _ ⟨lt1 hi, lt0, lt2 hi, qae eI ho, by simp <;> omega, by simp <;> omega, qat (Cell.flat ⟨o, x.epoch, key, val⟩), up1 hi hn, trivial⟩) (qDD _ _ _ _ _ _ _ _ _ _ ⟨ge1, trivial⟩)
  rw [List.take_length] at l
  exact l
theorem qDZ (xs : List Cell) (x : Cell) : qak 5 xs x = qaF xs x := by
  unfold qak
  rw [if_neg (by decide), if_pos (.inl rfl)]
theorem qD0 (g : Graph) (best : List Cell) (x : Cell) (hg : g.sz ≤ 1048576) (hl : best.length ≤ 1048576) : Ret Tryz.prog 273 [.agg g.e, .one (.sl 4 (best.map Cell.e)), .agg x.e] [.one (.sl 4 ((qa6 g best x).1.map Cell.e)), .one (.sl 4 ((qa6 g best x).2.map Cell.e))] := by
  have a1 : (([] : List (List D)).length + (best.map Cell.e).length) * 32 ≤ 140737488355328 := by simp <;> omega
  have a2 : ([] : List (List D)).length + (best.map Cell.e).length ≤ 9223372036854775807 := by simp <;> omega
  have a3 := qaf _ Cell.flat best
  unfold qa6
  cases h : qaS g x.op with
  | none => exact qDo _ _ _ _ _ _ _ _ _ _ _ _ _ ⟨a1, a2, a3, qeP g x.op (⟨0, 0, 0, []⟩, false) (by unfold qcE; rw [h]) hg, rfl, trivial⟩
  | some n =>
    dsimp only
    have hn := Graph.outs_le hg (qfq h)
    have c0 := qeP g x.op (n, true) (by unfold qcE; rw [h]) hg
    have c1 := qmh g hg
    have c2 := qa2 x.epoch 0 3
    have c3 := qa2 x.key 0 99
    have c4 := qa2 x.val 0 999
    have c5 := qjz 5 best x hl
    have c6 := qmi n x.key x.val hn
    rw [qDZ] at c5
    rw [show qaw x.key x.val = (inR x.key 0 99 && inR x.val 0 999) from rfl]
    have cl := fun nx => qDX n x (qai n x.key x.val).1 (qai n x.key x.val).2.1 (qai n x.key x.val).2.2 nx hn
    have hbs := qmD (xs := best) (x := x)
    generalize qaE g = b1 at *
    generalize inR x.epoch 0 3 = b2 at *
    generalize inR x.key 0 99 = b3 at *
    generalize inR x.val 0 999 = b4 at *
    generalize qaF best x = bt at *
    obtain ⟨nx, b5⟩ := bt
    cases b1 with
    | false => exact qDp _ _ _ _ _ _ _ _ _ _ _ _ _ _ ⟨a1, a2, a3, c0, rfl, c1, rfl, trivial⟩
    | true =>
      cases b2 with
      | false => exact qDq _ _ _ _ _ _ _ _ _ _ _ _ _ _ _ ⟨a1, a2, a3, c0, rfl, c1, rfl, c2, rfl, trivial⟩
      | true =>
        cases b3 with
        | false => exact qDr _ _ _ _ _ _ _ _ _ _ _ _ _ _ _ _ ⟨a1, a2, a3, c0, rfl, c1, rfl, c2, rfl, c3, rfl, trivial⟩
        | true =>
          cases b4 with
          | false => exact qDs _ _ _ _ _ _ _ _ _ _ _ _ _ _ _ _ _ ⟨a1, a2, a3, c0, rfl, c1, rfl, c2, rfl, c3, rfl, c4, rfl, trivial⟩
          | true =>
            cases b5 with
            | false =>
              have e : nx = best := hbs rfl
              subst e
              exact qDt _ _ _ _ _ _ _ _ _ _ _ _ _ _ _ _ _ _ _ ⟨a1, a2, a3, c0, rfl, c1, rfl, c2, rfl, c3, rfl, c4, rfl, c5, rfl, trivial⟩
            | true => exact qDw _ _ _ _ _ _ _ _ _ _ _ _ _ _ _ _ _ _ _ _ _ _ _ ⟨a1, a2, a3, c0, rfl, c1, rfl, c2, rfl, c3, rfl, c4, rfl, c5, rfl, c6, cl _, trivial⟩
theorem qD1 (g : Graph) (best : List Cell) (x : Cell) (hg : g.sz ≤ 1048576) (hl : best.length ≤ 1048576) : Ret Tryz.prog 274 [.agg g.e, .one (.sl 4 (best.map Cell.e)), .agg x.e] [.one (.sl 4 ((qa6 g best x).1.map Cell.e)), .one (.sl 4 ((qa6 g best x).2.map Cell.e))] := by
  have c1 := qjw g hg
  have cp := qdc best hl
  unfold qa6
  cases h : qaS g x.op with
  | none =>
    have c3 := qeO g x.op false (by rw [h]; rfl) hg
    generalize qaE g = b1 at *
    cases b1 with
    | false => exact qmJ _ _ _ _ _ _ _ _ _ _ ⟨c1, rfl, cp, trivial⟩
    | true => exact qDx _ _ _ _ _ _ _ _ _ _ _ ⟨c1, rfl, c3, rfl, cp, trivial⟩
  | some n =>
    dsimp only
    have hn := Graph.outs_le hg (qfq h)
    obtain ⟨n1, n2, n3, _⟩ := qeb h
    have c0 := qeO g x.op true (by rw [h]; rfl) hg
    have c2 := qbm x.epoch 0 3
    have c3 := qju x.key x.val
    have c5 := qjy best x hl
    have c6 := qmj n x.key x.val hn
    have cl := fun nx => qDY n x (qai n x.key x.val).1 (qai n x.key x.val).2.1 nx hn
    generalize qaE g = b1 at *
    generalize inR x.epoch 0 3 = b2 at *
    generalize qaw x.key x.val = b3 at *
    generalize qaF best x = bt at *
    generalize qai n x.key x.val = ch at *
    obtain ⟨nx, b5⟩ := bt
    obtain ⟨ck, cv, b6⟩ := ch
    cases b1 with
    | false => exact qmJ _ _ _ _ _ _ _ _ _ _ ⟨c1, rfl, cp, trivial⟩
    | true =>
      cases b2 with
      | false => exact qDy _ _ _ _ _ _ _ _ _ _ _ _ ⟨c1, rfl, c0, rfl, c2, rfl, cp, trivial⟩
      | true =>
        cases b3 with
        | false => exact qDz _ _ _ _ _ _ _ _ _ _ _ _ _ ⟨c1, rfl, c0, rfl, c2, rfl, c3, rfl, cp, trivial⟩
        | true =>
          cases b5 with
          | false => exact qDA _ _ _ _ _ _ _ _ _ _ _ _ _ _ _ _ _ _ _ _ _ ⟨c1, rfl, c0, rfl, c2, rfl, c3, rfl, c5, n1, n2, n3, c6, rfl, trivial⟩
          | true =>
            cases b6 with
            | false => exact qDB _ _ _ _ _ _ _ _ _ _ _ _ _ _ _ _ _ _ _ _ _ ⟨c1, rfl, c0, rfl, c2, rfl, c3, rfl, c5, n1, n2, n3, c6, rfl, rfl, trivial⟩
            | true => exact qDE _ _ _ _ _ _ _ _ _ _ _ _ _ _ _ _ _ _ _ _ _ _ _ _ _ _ ⟨c1, rfl, c0, rfl, c2, rfl, c3, rfl, c5, n1, n2, n3, c6, rfl, rfl, n1, n2, n3, cl _, trivial⟩
theorem tailC (x : Cell) (l more : List Cell) : List.take (((x :: l).map Cell.e).length - 1) (List.drop 1 ((x :: l).map Cell.e)) ++ more.map Cell.e = (l ++ more).map Cell.e := by
  rw [List.map_cons, List.drop_succ_cons, List.drop_zero, List.take_of_length_le (by simp), List.map_append]
theorem qg3 {e : Int} {best l : List Cell} : l.length ≤ toDo best l := by unfold toDo; omega
theorem qmN (g : Graph) (e : Int) (hg : g.sz ≤ 1048576) : ∀ (k : Nat) (best l : List Cell), BestOk e best → (∀ a ∈ l, a.epoch = e) → toDo best l ≤ k → k ≤ 4000000 →
    qac Tryz.prog (qaa Tryz.f196 1) (qeW (g.nodes.map Node.e) g.workers g.cap (l.map Cell.e) (best.map Cell.e)) (.exit 2) (qgY ((fixGo g k best l).map Cell.e))
  | 0, best, l, _, _, hk, _ => by
    have hl : l = [] := List.eq_nil_of_length_eq_zero (by have := qg3 (e := e) (best := best) (l := l); omega)
    subst hl
    exact .last (qah 2) (qmK _ _ _ _ _ ⟨rfl, trivial⟩)
  | k + 1, best, [], _, _, _, _ => .last (qah 2) (qmK _ _ _ _ _ ⟨rfl, trivial⟩)
  | k + 1, best, x :: l, hb, hl, hk, hk2 => by
    have hx := hl x (by simp)
    obtain ⟨h1, h2, _, h4⟩ := qgR (g := g) hb hx
    have hs := qmF (g := g) (l := l) hb hx
    have hle := qg3 (e := e) (best := best) (l := x :: l)
    rw [List.length_cons] at hle
    have hbl := qjC hb
    have ih := qmN g e hg k (qa6 g best x).1 (l ++ (qa6 g best x).2) h1 (fun a ha => by
      rcases List.mem_append.1 ha with ha | ha
      · exact hl a (by simp [ha])
      · exact h2 a ha) (by omega) (by omega)
    have s := qD0 g best x hg (by omega)
    refine .more (tr_to (fun q => qeW (g.nodes.map Node.e) g.workers g.cap q ((qa6 g best x).1.map Cell.e)) (qDJ _ _ _ _ _ _ _ _ _ _ _ ⟨dT (by simp <;> omega), by omega, by simp <;> omega, rfl, s, by simp, by simp <;> omega, by simp, by simp <;> omega, by simp <;> omega, ?_, by simp <;> omega, by simp <;> omega, qaf _ Cell.flat _, trivial⟩) ?_) ih
    · simp only [List.map_cons, List.drop_succ_cons, List.drop_zero]
      rw [List.take_of_length_le (by simp)]
      exact qaf _ Cell.flat l
    · rw [List.nil_append]
      exact tailC x l _
theorem qmO (g : Graph) (e : Int) (hg : g.sz ≤ 1048576) : ∀ (k : Nat) (best l : List Cell), BestOk e best → (∀ a ∈ l, a.epoch = e) → toDo best l ≤ k → k ≤ 4000000 →
    qac Tryz.prog (qaa Tryz.f201 1) (qeX (g.nodes.map Node.e) g.workers g.cap (l.map Cell.e) (best.map Cell.e)) (.exit 2) (qg0 ((fixGo g k best l).map Cell.e))
  | 0, best, l, _, _, hk, _ => by
    have hl : l = [] := List.eq_nil_of_length_eq_zero (by have := qg3 (e := e) (best := best) (l := l); omega)
    subst hl
    exact .last (qah 2) (qmL _ _ _ _ _ ⟨rfl, trivial⟩)
  | k + 1, best, [], _, _, _, _ => .last (qah 2) (qmL _ _ _ _ _ ⟨rfl, trivial⟩)
  | k + 1, best, x :: l, hb, hl, hk, hk2 => by
    have hx := hl x (by simp)
    obtain ⟨h1, h2, _, h4⟩ := qgR (g := g) hb hx
    have hs := qmF (g := g) (l := l) hb hx
    have hle := qg3 (e := e) (best := best) (l := x :: l)
    rw [List.length_cons] at hle
    have hbl := qjC hb
    have ih := qmO g e hg k (qa6 g best x).1 (l ++ (qa6 g best x).2) h1 (fun a ha => by
      rcases List.mem_append.1 ha with ha | ha
      · exact hl a (by simp [ha])
      · exact h2 a ha) (by omega) (by omega)
    have s := qD1 g best x hg (by omega)
    exact .more (tr_to (fun q => qeX (g.nodes.map Node.e) g.workers g.cap q ((qa6 g best x).1.map Cell.e)) (qDO _ _ _ _ _ _ _ _ _ _ _ ⟨dT (by simp <;> omega), by omega, by simp <;> omega, rfl, s, by simp, by simp <;> omega, by simp, by simp <;> omega, by simp <;> omega, qaf _ Cell.flat _, trivial⟩) (tailC x l _)) ih
theorem qD2 (g : Graph) (e : Int) (xs : List Record) (hl : xs.length ≤ 1048576) : qac Tryz.prog (qaa Tryz.f196 0) (qcJ e (xs.map Record.e) 0 [] (g.nodes.map Node.e) g.workers g.cap) (.exit 0) (qgX ((qcH e xs).map Cell.e) (g.nodes.map Node.e) g.workers g.cap) := by
  let p := fun r : Record => r.stamp.epoch == e && qaR r
  have e1 : (xs.filter p).map (cellsOf e) = qcH e xs := by simp only [qcH, qfr, List.filter_filter, p]; congr 2; funext r; rw [Bool.and_comm]
  have l := qaj (P := Tryz.prog) (c := (qaa Tryz.f196 0)) (qah 0) xs.length (fun i : Nat => qcJ e (xs.map Record.e) i ((((xs.take i).filter p).map (cellsOf e)).map Cell.e) (g.nodes.map Node.e) g.workers g.cap) (fun i hi => by
    obtain ⟨a, ha⟩ := qag hi
    have hf := qcS p xs i
    have hs := qcg p ha
    have c := ql8 a
    cases h1 : a.stamp.epoch == e with
    | false =>
      have hp : p a = false := by simp only [p, h1, Bool.false_and]
      rw [if_neg (by simp [hp]), List.append_nil] at hs
      rw [hs]
      exact qDH _ _ _ _ _ _ _ _ _ _ _ _ ⟨lt1 hi, lt0, lt2 hi, qae Record.e ha, h1, up1 hi hl, trivial⟩
    | true =>
      cases h2 : qaR a with
      | false =>
        have hp : p a = false := by simp only [p, h1, h2, Bool.and_false]
        rw [if_neg (by simp [hp]), List.append_nil] at hs
        rw [h2] at c
        rw [hs]
        exact qDG _ _ _ _ _ _ _ _ _ _ _ _ _ ⟨lt1 hi, lt0, lt2 hi, qae Record.e ha, h1, c, rfl, up1 hi hl, trivial⟩
      | true =>
        have hp : p a = true := by simp only [p, h1, h2, Bool.and_true]
        rw [if_pos hp] at hs
        rw [h2] at c
        rw [hs, List.map_append, List.map_append]
        exact qDF _ _ _ _ _ _ _ _ _ _ _ _ _ ⟨lt1 hi, lt0, lt2 hi, qae Record.e ha, h1, c, rfl, by simp <;> omega, by simp <;> omega, qat (cellsOf e a).flat, up1 hi hl, trivial⟩) (qDI _ _ _ _ _ _ _ ⟨ge1, trivial⟩)
  rw [List.take_length, e1] at l
  exact l
theorem qD3 (g : Graph) (e : Int) (xs : List Record) (hl : xs.length ≤ 1048576) : qac Tryz.prog (qaa Tryz.f201 0) (qdg e (xs.map Record.e) 0 [] (g.nodes.map Node.e) g.workers g.cap) (.exit 0) (qgZ (((xs.filter qaR).map (cellsOf e)).map Cell.e) (g.nodes.map Node.e) g.workers g.cap) := by
  have l := qaj (P := Tryz.prog) (c := (qaa Tryz.f201 0)) (qah 0) xs.length (fun i : Nat => qdg e (xs.map Record.e) i ((((xs.take i).filter qaR).map (cellsOf e)).map Cell.e) (g.nodes.map Node.e) g.workers g.cap) (fun i hi => by
    obtain ⟨a, ha⟩ := qag hi
    have hf := qcS qaR xs i
    have hs := qcg qaR ha
    have c := qjv a
    cases h2 : qaR a with
    | false =>
      rw [if_neg (by simp [h2]), List.append_nil] at hs
      rw [h2] at c
      rw [hs]
      exact qDM _ _ _ _ _ _ _ _ _ _ _ _ _ ⟨lt1 hi, lt0, lt2 hi, qae Record.e ha, c, rfl, up1 hi hl, trivial⟩
    | true =>
      rw [if_pos h2] at hs
      rw [h2] at c
      rw [hs, List.map_append, List.map_append]
      exact qDL _ _ _ _ _ _ _ _ _ _ _ _ _ ⟨lt1 hi, lt0, lt2 hi, qae Record.e ha, c, rfl, by simp <;> omega, by simp <;> omega, qat (cellsOf e a).flat, up1 hi hl, trivial⟩) (qDN _ _ _ _ _ _ _ ⟨ge1, trivial⟩)
  rw [List.take_length] at l
  exact l
theorem qD4 (g : Graph) (e : Int) (xs : List Record) (hg : g.sz ≤ 1048576) (hl : xs.length ≤ 1048576) : Ret Tryz.prog 196 [.agg g.e, .one (I e), .one (.sl 5 (xs.map Record.e))] [.one (.sl 4 ((qeT g e xs).map Cell.e))] := by
  have h1 := qmG e xs
  exact qDK _ _ _ _ _ _ _ _ _ _ ⟨qD2 g e xs hl, qmN g e hg _ [] (qcH e xs) (qjD e) qjE (Nat.le_of_eq (qmH _)) (by unfold rounds; omega), trivial⟩
theorem qD5 (g : Graph) (e : Int) (xs : List Record) (hg : g.sz ≤ 1048576) (hl : xs.length ≤ 1048576) : Ret Tryz.prog 201 [.agg g.e, .one (I e), .one (.sl 5 (xs.map Record.e))] [.one (.sl 4 ((qeT g e xs).map Cell.e))] := by
  have h1 := qmG e xs
  have h2 : (qfr e xs).length ≤ 1048576 := Nat.le_trans (List.length_filter_le ..) hl
  exact qDP _ _ _ _ _ _ _ _ _ _ _ ⟨qBG xs e hl, qD3 g e (qfr e xs) h2, qmO g e hg _ [] (qcH e xs) (qjD e) qjE (Nat.le_of_eq (qmH _)) (by unfold rounds; omega), trivial⟩
def qjN (g : Graph) (e : Int) (xs : List Record) : List Cell := qea g (qeT g e xs)
theorem qmP (g : Graph) (e : Int) (xs : List Record) : (qeT g e xs).length ≤ 1048576 := by
  have := qjC (qBM g e xs)
  omega
def qmQ (c : Cluster) (xs : List Record) (e : Int) : Bool := decide (qeQ c e = qjN c.graph e xs)
theorem qD6 (g : Graph) (e : Int) (xs : List Record) (hg : g.sz ≤ 1048576) (hl : xs.length ≤ 1048576) : Ret Tryz.prog 101 [.agg g.e, .one (I e), .one (.sl 5 (xs.map Record.e))] [.one (.sl 4 ((qjN g e xs).map Cell.e))] :=
  qDQ _ _ _ _ _ _ _ ⟨qD4 g e xs hg hl, ql2 g _ hg (qmP g e xs), trivial⟩
theorem qD7 (c : Cluster) (xs : List Record) (e : Int) (hc : c.sz ≤ 1048576) (hl : xs.length ≤ 1048576) : Ret Tryz.prog 29 [.agg c.e, .one (.sl 5 (xs.map Record.e)), .one (I e)] [.one (B (qmQ c xs e))] :=
  qDS _ _ _ _ _ _ _ _ _ _ _ _ ⟨qw1 c e hc, qD6 c.graph e xs (Cluster.graph_sz hc) hl, qDU _ _ (ql4 hc), trivial⟩
theorem qD8 (g : Graph) (e : Int) (xs : List Record) (hg : g.sz ≤ 1048576) (hl : xs.length ≤ 1048576) : Ret Tryz.prog 105 [.agg g.e, .one (I e), .one (.sl 5 (xs.map Record.e))] [.one (.sl 4 ((qjN g e xs).map Cell.e))] :=
  qDR _ _ _ _ _ _ _ ⟨qD5 g e xs hg hl, ql3 g _ hg (qmP g e xs), trivial⟩
theorem qD9 (c : Cluster) (xs : List Record) (e : Int) (hc : c.sz ≤ 1048576) (hl : xs.length ≤ 1048576) : Ret Tryz.prog 31 [.agg c.e, .one (.sl 5 (xs.map Record.e)), .one (I e)] [.one (B (qmQ c xs e))] :=
  qDT _ _ _ _ _ _ _ _ _ _ _ _ ⟨qw2 c e hc, qD8 c.graph e xs (Cluster.graph_sz hc) hl, qDW _ _ (ql4 hc), trivial⟩
end Go.Proofs.YtialmplmfcahpaaGreat
