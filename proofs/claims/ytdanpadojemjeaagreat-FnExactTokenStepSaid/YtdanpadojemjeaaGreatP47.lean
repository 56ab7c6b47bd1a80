/- TokenStep: what program and reference compute (printed by mkp47.py). -/
import Derived.Test.YtdanpadojemjeaaGreatP46
set_option linter.unusedVariables false
set_option linter.unusedSimpArgs false
namespace Go.Proofs.YtdanpadojemjeaaGreat
open Go.Sx Go.RowKit
theorem qmV {c : Cluster} {i : Int} {t : Token} (h : tAt c i = some t) : 0 ≤ i ∧ i < (↑(c.tokens.map Token.e).length : Int) ∧ (c.tokens.map Token.e)[i.toNat]? = some t.e := by
  obtain ⟨h1, h2, h3⟩ := qi4 h
  exact ⟨h1, by rw [List.length_map]; omega, qad Token.e h3⟩
theorem int4 {xs : List Int} {e : Int} (h4 : xs.length = 4) (he : 0 ≤ e ∧ e ≤ 3) : e < (↑(xs.map eI).length : Int) ∧ (xs.map eI)[e.toNat]? = some [I (xs.getD e.toNat 0)] := by
  have hl : e.toNat < xs.length := by omega
  refine ⟨by rw [List.length_map]; omega, ?_⟩
  rw [List.getElem?_map, List.getElem?_eq_getElem hl, List.getD_eq_getElem?_getD, List.getElem?_eq_getElem hl]
  rfl
theorem bool4 {xs : List Bool} {e : Int} (h4 : xs.length = 4) (he : 0 ≤ e ∧ e ≤ 3) : e < (↑(xs.map eB).length : Int) ∧ (xs.map eB)[e.toNat]? = some [B (xs.getD e.toNat false)] := by
  have hl : e.toNat < xs.length := by omega
  refine ⟨by rw [List.length_map]; omega, ?_⟩
  rw [List.getElem?_map, List.getElem?_eq_getElem hl, List.getD_eq_getElem?_getD, List.getElem?_eq_getElem hl]
  rfl
theorem gs1 {l : List (List D)} {i : Int} {a : List D} (h0 : 0 ≤ i) (h : i < (↑l.length : Int)) : (l.set i.toNat a)[i.toNat]? = some a := List.getElem?_set_self (by omega)
theorem gs2 {l : List (List D)} {i : Int} {a b : List D} (h0 : 0 ≤ i) (h : i < (↑l.length : Int)) : ((l.set i.toNat a).set i.toNat b)[i.toNat]? = some b := by rw [List.set_set]; exact gs1 h0 h
theorem gs3 {l : List (List D)} {i : Int} {a b d : List D} (h0 : 0 ≤ i) (h : i < (↑l.length : Int)) : (((l.set i.toNat a).set i.toNat b).set i.toNat d)[i.toNat]? = some d := by rw [List.set_set, List.set_set]; exact gs1 h0 h
theorem qgW (x : Worker) (e : Int) : (qbq x e).e = [.sl 5 (x.queue.map Record.e), .sl 5 (x.staged.map Record.e), .sl 5 (x.inputs.map Record.e), .sl 4 (x.cells.map Cell.e), .sl 1 (x.sums.map eI), .sl 1 ((x.black.map eB).set e.toNat [B false]), .sl 1 (x.caps.map eB), .sl 2 (x.dones.map Done.e)] := by
  simp only [qbq, Worker.e, List.map_set]; rfl
theorem qmW (x : Worker) (e : Int) (b : Bool) : (told x e b).e = [.sl 5 (x.queue.map Record.e), .sl 5 (x.staged.map Record.e), .sl 5 (x.inputs.map Record.e), .sl 4 (x.cells.map Cell.e), .sl 1 (x.sums.map eI), .sl 1 (x.black.map eB), .sl 1 (x.caps.map eB), .sl 2 (x.dones.map Done.e ++ [[I e, B b]])] := by
  simp only [told, Worker.e, List.map_append]; rfl
theorem qmX (c : Cluster) (e p : Int) (t : Token) (y : Worker) : (setW (setT c e t) p y).e = [.sl 4 (c.graph.nodes.map Node.e), I c.graph.workers, I c.graph.cap, .sl 8 ((c.workers.map Worker.e).set p.toNat y.e), .sl 6 (c.links.map Link.e), .sl 5 ((c.tokens.map Token.e).set e.toNat t.e), .sl 3 (c.news.map News.e)] := by
  simp only [setW, setT, Cluster.e, List.map_set]
theorem qi7 (c : Cluster) (e : Int) (t : Token) : (setT c e t).e = [.sl 4 (c.graph.nodes.map Node.e), I c.graph.workers, I c.graph.cap, .sl 8 (c.workers.map Worker.e), .sl 6 (c.links.map Link.e), .sl 5 ((c.tokens.map Token.e).set e.toNat t.e), .sl 3 (c.news.map News.e)] := by
  simp only [setT, Cluster.e, List.map_set]
theorem qmY (c : Cluster) (e p : Int) (t : Token) (y : Worker) (b : Bool) : runD (setW (setT c e t) p y) b = [.sl 4 (c.graph.nodes.map Node.e), I c.graph.workers, I c.graph.cap, .sl 8 ((c.workers.map Worker.e).set p.toNat y.e), .sl 6 (c.links.map Link.e), .sl 5 ((c.tokens.map Token.e).set e.toNat t.e), .sl 3 (c.news.map News.e), B b] := by
  simp only [setW, setT, runD, List.map_set]
theorem qCz (c : Cluster) (e : Int) (t : Token) (b : Bool) : runD (setT c e t) b = [.sl 4 (c.graph.nodes.map Node.e), I c.graph.workers, I c.graph.cap, .sl 8 (c.workers.map Worker.e), .sl 6 (c.links.map Link.e), .sl 5 ((c.tokens.map Token.e).set e.toNat t.e), .sl 3 (c.news.map News.e), B b] := by
  simp only [setT, runD, List.map_set]
theorem qi8 (n : Nat) (e : Int) (b : Bool) : qaR (n + 1) e b = qaR n e b ++ [⟨(n : Int) + 1, e, b⟩] := by simp [qaR, List.range_succ]
theorem qi9 (n : Nat) (e : Int) (b : Bool) : (qaR n e b).length = n := by simp [qaR]
theorem qmZ {c : Cluster} {e : Int} {x0 x : Worker} {t : Token} (ok : qat c = true) (he : inR e 0 3 = true) (h0 : wAt c 0 = some x0) (ht : tAt c e = some t) (hd : qbE x0 e = false) (hx : wAt c t.place = some x) : qaK c e = qau c e t x := by
  unfold qaK
  simp only [ok, he, Bool.and_self, if_true, h0, ht, hd, Bool.false_eq_true, if_false, hx]
theorem qm0 {c : Cluster} {e : Int} (ok : qat c = true) (he : inR e 0 3 = true) : ∃ x0 t x, wAt c 0 = some x0 ∧ tAt c e = some t ∧ wAt c t.place = some x ∧ 0 < c.workers.length ∧ c.workers.length ≤ 4 ∧
    (0 ≤ t.place ∧ t.place ≤ 3) ∧ (t.going = false → t.place = 0) ∧ (-1000000 ≤ t.sum ∧ t.sum ≤ 1000000) ∧ x.sums.length = 4 ∧ x.black.length = 4 ∧ x.caps.length = 4 ∧ (-1000000 ≤ x.sums.getD e.toNat 0 ∧ x.sums.getD e.toNat 0 ≤ 1000000) := by
  obtain ⟨h1, h2, h3, h4, h5, h6, h7, h8⟩ := qcT.1 ok
  have hn := qfG h1
  obtain ⟨x0, h0⟩ := qmN (c := c) (i := 0) (by omega) (by omega)
  obtain ⟨t, ht⟩ := qB9 ok he
  obtain ⟨t1, t2, t3⟩ := qfL.1 (qmM ok ht)
  obtain ⟨x, hx⟩ := qmN (c := c) (i := t.place) (by omega) (by omega)
  obtain ⟨_, _, _, _, k5, k6, k7, _, k9, _⟩ := qfK.1 (qmL ok hx)
  refine ⟨x0, t, x, h0, ht, hx, by omega, by omega, by omega, t2, t3, k5, k6, k7, ?_⟩
  simp only [inR, decide_eq_true_eq] at he
  have hl : e.toNat < x.sums.length := by omega
  rw [List.any_eq_false] at k9
  have := k9 _ (List.getElem_mem hl)
  rw [List.getD_eq_getElem?_getD, List.getElem?_eq_getElem hl, Option.getD_some]
  simpa only [qcR, Bool.not_eq_true', Bool.not_eq_false', inR, decide_eq_true_eq, Bool.not_eq_true, Bool.not_not, Bool.not_eq_eq_eq_not, Bool.not_true, decide_eq_false_iff_not, Classical.not_not] using this
theorem qm1 (c : Cluster) (e : Int) (x : Worker) (r : Bool) (h0 : wAt c 0 = some x) (hd : qbE x e = r) (hc : c.sz ≤ 8388608) : Rt 138 [.agg c.e, .one (I e)] [.one (B r)] := by
  obtain ⟨w0, w1, w2⟩ := qe3 h0
  exact qu6 ⟨dT (by omega), w0, w1, w2, qt1 x e r hd (qe4 h0 hc), trivial⟩
theorem qCA (c : Cluster) (b : Bool) (x : Worker) (e : Int) (cap : Bool) (h0 : wAt c 0 = some x) (h4 : c.workers.length ≤ 4) (hc : c.sz ≤ 8388608) :
    RetR Tryz.prog 140 [.ref (runD c b) (runD (setN (setW c 0 (told x e cap)) (c.news ++ qaR (c.workers.length - 1) e cap)) b), .ro (.one (I e)), .ro (.one (B cap))] (.vals []) := by
  obtain ⟨w0, w1, w2⟩ := qe3 h0
  have hn := qfF hc
  have hs := qe4 h0 hc
  have hdl : x.dones.length ≤ 8388608 := by simp only [Worker.sz] at hs; omega
  have hlen := (qd5 h0).2.1
  have hW : ((setW c 0 (told x e cap)).workers.map Worker.e).length = c.workers.length := by simp [setW]
  have l := qaj (P := Tryz.prog) (c := (qaa Tryz.f140 0)) (qaf 0) (c.workers.length - 1) (fun i : Nat => qfv e cap ((i : Int) + 1) (c.graph.nodes.map Node.e) c.graph.workers c.graph.cap ((setW c 0 (told x e cap)).workers.map Worker.e) (c.links.map Link.e) (c.tokens.map Token.e) ((c.news ++ qaR i e cap).map News.e) b) (fun i hi => by
    have hm := qi9 i e cap
    rw [qi8, ← List.append_assoc, List.map_append (l₂ := [_])]
    exact quu ⟨dT (by rw [hW]; omega), by simp; omega, by simp; omega, qc5 (News.flat ⟨(i : Int) + 1, e, cap⟩), ⟨by omega, by omega⟩, trivial⟩) (quv ⟨dF (by rw [hW]; omega), trivial⟩)
  have e2 : (setW c 0 (told x e cap)).workers.map Worker.e = (c.workers.map Worker.e).set 0 [.sl 5 (x.queue.map Record.e), .sl 5 (x.staged.map Record.e), .sl 5 (x.inputs.map Record.e), .sl 4 (x.cells.map Cell.e), .sl 1 (x.sums.map eI), .sl 1 (x.black.map eB), .sl 1 (x.caps.map eB), .sl 2 (x.dones.map Done.e ++ [[I e, B cap]])] := by
    rw [← qmW]
    exact qCs.symm
  have e0 : qaR 0 e cap = [] := rfl
  rw [e2, e0, List.append_nil] at l
  have e5 : runD (setN (setW c 0 (told x e cap)) (c.news ++ qaR (c.workers.length - 1) e cap)) b = [.sl 4 (c.graph.nodes.map Node.e), I c.graph.workers, I c.graph.cap, .sl 8 ((setW c 0 (told x e cap)).workers.map Worker.e), .sl 6 (c.links.map Link.e), .sl 5 (c.tokens.map Token.e), .sl 3 ((c.news ++ qaR (c.workers.length - 1) e cap).map News.e), B b] := rfl
  rw [e5, e2]
  exact quw ⟨by omega, w1, w2, by simp; omega, by simp; omega, w2, rfl, qc5 (Done.flat ⟨e, cap⟩), rfl, rfl, rfl, rfl, rfl, rfl, rfl, by omega, w1, w2, rfl, l, trivial⟩
theorem qCB (c : Cluster) (e : Int) (hc : c.sz ≤ 8388608) : RetR Tryz.prog 80 [.ref (runE c) (runE (qaK c e).1), .ro (.one (I e))] (.vals [.one (B (qaK c e).2)]) := by
  have post := fun h => qCb (c := c) (e := e) h
  cases ok : qat c with
  | false =>
    rw [show qaK c e = (c, false) by unfold qaK; simp [ok]]
    simp only [runE, ok]
    exact qux ⟨rfl, trivial⟩
  | true =>
  replace post := post ok
  cases he : inR e 0 3 with
  | false =>
    rw [show qaK c e = (c, false) by unfold qaK; simp [he]]
    simp only [runE, ok]
    exact quy ⟨rfl, qaT _ _ _ _ he, rfl, trivial⟩
  | true =>
  have he := he
  obtain ⟨x0, t, x, h0, ht, hx, hl0, hl4, hpl, hgp, hsum, hs4, hb4, hc4, hxs⟩ := qm0 ok he
  have he' : 0 ≤ e ∧ e ≤ 3 := by simpa only [inR, decide_eq_true_eq] using he
  obtain ⟨tE0, tE1, tE2⟩ := qmV ht
  obtain ⟨wE0, wE1, wE2⟩ := qe3 hx
  obtain ⟨zE0, zE1, zE2⟩ := qe3 h0
  obtain ⟨sE1, sE2⟩ := int4 hs4 he'
  obtain ⟨kE1, kE2⟩ := bool4 hb4 he'
  obtain ⟨cE1, cE2⟩ := bool4 hc4 he'
  have hsz := qe4 hx hc
  have hdl : x.dones.length ≤ 8388608 := by simp only [Worker.sz] at hsz; omega
  have hll : (↑(c.workers.map Worker.e).length : Int) = (c.workers.length : Int) := by rw [List.length_map]
  cases hd : qbE x0 e with
  | true =>
    rw [show qaK c e = (c, false) by unfold qaK; simp only [ok, he, Bool.and_self, if_true, h0, ht, hd]]
    simp only [runE, ok]
    exact quz ⟨rfl, qaT _ _ _ _ he, rfl, qm1 c e x0 true h0 hd hc, rfl, trivial⟩
  | false =>
  rw [qmZ ok he h0 ht hd hx] at post ⊢
  have rd := qm1 c e x0 false h0 hd hc
  have wi := qaT _ _ _ _ he
  cases hp : qcS x e with
  | false =>
    rw [show qau c e t x = (c, false) by unfold qau; simp [hp]]
    simp only [runE, ok]
    exact quA ⟨rfl, wi, rfl, rd, rfl, tE0, tE1, tE2, wE0, wE1, wE2, qmT x e _ hp hsz, rfl, trivial⟩
  | true =>
  have pa := qmT x e _ hp hsz
  have ei : inInt .i64 (t.sum + x.sums.getD e.toNat 0) := ⟨by omega, by omega⟩
  simp only [runE, ok, post]
  clear post
  obtain ⟨tg, tp, ts, tb, tc⟩ := t
  dsimp only at *
  cases tg with
  | false =>
    obtain rfl : tp = 0 := hgp rfl
    rw [show qau c e ⟨false, 0, ts, tb, tc⟩ x = (setW (setT c e ⟨true, (c.workers.length : Int) - 1, 0, false, x.caps.getD e.toNat false⟩) 0 (qbq x e), true) by simp only [qau, hp, if_true, Bool.not_false]]
    dsimp only
    rw [qmY, qgW, ← hll]
    exact quB ⟨rfl, wi, rfl, rd, rfl, tE0, tE1, tE2, wE0, wE1, wE2, pa, rfl, tE0, sE1, sE2, ei, rfl, ⟨by omega, by omega⟩, tE0, cE1, cE2, tE0, tE1, tE2, by omega, wE1, wE2, tE0, kE1, kE2, wE2, rfl, rfl, rfl, rfl, rfl, trivial⟩
  | true =>
  by_cases hp0 : 0 < tp
  case pos =>
    have dp : decide (tp > 0) = true := dT hp0
    cases hr : inR (ts + x.sums.getD e.toNat 0) (-1000000) 1000000 with
    | false =>
      rw [show qau c e ⟨true, tp, ts, tb, tc⟩ x = (c, false) by simp only [qau, hp, if_true, Bool.not_true, Bool.false_eq_true, if_false, hp0, hr]]
      exact quC ⟨rfl, wi, rfl, rd, rfl, tE0, tE1, tE2, wE0, wE1, wE2, pa, rfl, tE0, sE1, sE2, ei, rfl, dp, qaT _ _ _ _ hr, rfl, trivial⟩
    | true =>
      have e1 : qau c e ⟨true, tp, ts, tb, tc⟩ x = (setW (setT c e ⟨true, tp - 1, ts + x.sums.getD e.toNat 0, tb || x.black.getD e.toNat false, tc || x.caps.getD e.toNat false⟩) tp (qbq x e), true) := by
        simp only [qau, hp, if_true, Bool.not_true, Bool.false_eq_true, if_false, hp0, hr]
      rw [e1]
      dsimp only
      rw [qmY, qgW]
      have wr := qaT _ _ _ _ hr
      cases tb with
      | true =>
        cases tc with
        | true => exact quD ⟨rfl, wi, rfl, rd, rfl, tE0, tE1, tE2, wE0, wE1, wE2, pa, rfl, tE0, sE1, sE2, ei, rfl, dp, wr, rfl, ⟨by omega, by omega⟩, rfl, rfl, tE0, tE1, tE2, wE0, wE1, wE2, tE0, kE1, kE2, wE2, rfl, rfl, rfl, rfl, rfl, trivial⟩
        | false => exact quE ⟨rfl, wi, rfl, rd, rfl, tE0, tE1, tE2, wE0, wE1, wE2, pa, rfl, tE0, sE1, sE2, ei, rfl, dp, wr, rfl, ⟨by omega, by omega⟩, rfl, rfl, tE0, cE1, cE2, tE0, tE1, tE2, wE0, wE1, wE2, tE0, kE1, kE2, wE2, rfl, rfl, rfl, rfl, rfl, trivial⟩
      | false =>
        cases tc with
        | true => exact quF ⟨rfl, wi, rfl, rd, rfl, tE0, tE1, tE2, wE0, wE1, wE2, pa, rfl, tE0, sE1, sE2, ei, rfl, dp, wr, rfl, ⟨by omega, by omega⟩, rfl, tE0, kE1, kE2, rfl, tE0, tE1, tE2, wE0, wE1, wE2, tE0, kE1, kE2, wE2, rfl, rfl, rfl, rfl, rfl, rfl, rfl, trivial⟩
        | false => exact quG ⟨rfl, wi, rfl, rd, rfl, tE0, tE1, tE2, wE0, wE1, wE2, pa, rfl, tE0, sE1, sE2, ei, rfl, dp, wr, rfl, ⟨by omega, by omega⟩, rfl, tE0, kE1, kE2, rfl, tE0, cE1, cE2, tE0, tE1, tE2, wE0, wE1, wE2, tE0, kE1, kE2, wE2, rfl, rfl, rfl, rfl, rfl, rfl, rfl, trivial⟩
  case neg =>
    obtain rfl : tp = 0 := by omega
    have dp : decide ((0 : Int) > 0) = false := rfl
    have e1 := fun b => qCz c e ⟨false, 0, ts, tb, tc⟩ b
    have ends := fun cap => qCA (setT c e ⟨false, 0, ts, tb, tc⟩) true x e cap (qfM.trans hx) hl4 (by rw [qgV]; exact hc)
    rw [e1] at ends
    cases tb with
    | true =>
      rw [show qau c e ⟨true, 0, ts, true, tc⟩ x = (setT c e ⟨false, 0, ts, true, tc⟩, true) by simp [qau, hp]]
      dsimp only
      rw [e1]
      exact quL ⟨rfl, wi, rfl, rd, rfl, tE0, tE1, tE2, wE0, wE1, wE2, pa, rfl, tE0, sE1, sE2, ei, rfl, dp, tE0, tE1, tE2, rfl, trivial⟩
    | false =>
    cases hk : x.black.getD e.toNat false with
    | true =>
      rw [hk] at kE2
      rw [show qau c e ⟨true, 0, ts, false, tc⟩ x = (setT c e ⟨false, 0, ts, false, tc⟩, true) by unfold qau; simp only [hp, hk]; rfl]
      dsimp only
      rw [e1]
      exact quK ⟨rfl, wi, rfl, rd, rfl, tE0, tE1, tE2, wE0, wE1, wE2, pa, rfl, tE0, sE1, sE2, ei, rfl, dp, tE0, tE1, tE2, rfl, tE0, kE1, kE2, rfl, trivial⟩
    | false =>
    rw [hk] at kE2
    cases hz : (ts + x.sums.getD e.toNat 0 == 0) with
    | false =>
      rw [show qau c e ⟨true, 0, ts, false, tc⟩ x = (setT c e ⟨false, 0, ts, false, tc⟩, true) by unfold qau; simp only [hp, hk, hz]; rfl]
      dsimp only
      rw [e1]
      exact quJ ⟨rfl, wi, rfl, rd, rfl, tE0, tE1, tE2, wE0, wE1, wE2, pa, rfl, tE0, sE1, sE2, ei, rfl, dp, tE0, tE1, tE2, rfl, tE0, kE1, kE2, rfl, hz, trivial⟩
    | true =>
    rw [show qau c e ⟨true, 0, ts, false, tc⟩ x = (setN (setW (setT c e ⟨false, 0, ts, false, tc⟩) 0 (told x e (tc || x.caps.getD e.toNat false))) (c.news ++ qaR (c.workers.length - 1) e (tc || x.caps.getD e.toNat false)), true) by unfold qau; simp only [hp, hk, hz]; rfl]
    cases tc with
    | true => exact quH ⟨rfl, wi, rfl, rd, rfl, tE0, tE1, tE2, wE0, wE1, wE2, pa, rfl, tE0, sE1, sE2, ei, rfl, dp, tE0, tE1, tE2, rfl, tE0, kE1, kE2, rfl, hz, rfl, ends true, trivial⟩
    | false => exact quI ⟨rfl, wi, rfl, rd, rfl, tE0, tE1, tE2, wE0, wE1, wE2, pa, rfl, tE0, sE1, sE2, ei, rfl, dp, tE0, tE1, tE2, rfl, tE0, kE1, kE2, rfl, hz, rfl, tE0, cE1, cE2, ends _, trivial⟩
theorem qCC (c : Cluster) (e : Int) (hc : c.sz ≤ 8388608) (hw : GotLe c) : Rt 18 [.agg c.e, .one (I e)] [.agg (qaK c e).1.e, .one (B (qaK c e).2)] :=
  quM ⟨qCr c hc hw, qCB c e hc, trivial⟩
theorem qCD (c : Cluster) (e : Int) (W T : List (List D)) (hlen : 0 < c.workers.length) (h4 : c.workers.length ≤ 4) (hc : c.sz ≤ 8388608) : qam Tryz.prog (qaa Tryz.f19 0) (qeQ e 1 (c.graph.nodes.map Node.e) c.graph.workers c.graph.cap W (c.links.map Link.e) T (c.news.map News.e) 0 0 (c.graph.nodes.map Node.e) c.graph.workers c.graph.cap (c.workers.map Worker.e) (c.links.map Link.e) (c.tokens.map Token.e) (c.news.map News.e)) (.exit 1) (qeR (c.graph.nodes.map Node.e) c.graph.workers c.graph.cap W (c.links.map Link.e) T ((c.news ++ qaR (c.workers.length - 1) e true).map News.e) 0 0) := by
  have hn := qfF hc
  have l := qaj (P := Tryz.prog) (c := (qaa Tryz.f19 0)) (qaf 1) (c.workers.length - 1) (fun i : Nat => qeQ e ((i : Int) + 1) (c.graph.nodes.map Node.e) c.graph.workers c.graph.cap W (c.links.map Link.e) T ((c.news ++ qaR i e true).map News.e) 0 0 (c.graph.nodes.map Node.e) c.graph.workers c.graph.cap (c.workers.map Worker.e) (c.links.map Link.e) (c.tokens.map Token.e) (c.news.map News.e)) (fun i hi => by
    have hm := qi9 i e true
    rw [qi8, ← List.append_assoc, List.map_append (l₂ := [_])]
    exact quX ⟨dT (by simp; omega), by simp; omega, by simp; omega, qc5 (News.flat ⟨(i : Int) + 1, e, true⟩), ⟨by omega, by omega⟩, trivial⟩) (quY ⟨dF (by simp; omega), trivial⟩)
  have e0 : qaR 0 e true = [] := rfl
  rw [e0, List.append_nil] at l
  exact l
theorem qCE (c : Cluster) (e : Int) (cap : Bool) (W T : List (List D)) (hlen : 0 < c.workers.length) (h4 : c.workers.length ≤ 4) (hc : c.sz ≤ 8388608) : qam Tryz.prog (qaa Tryz.f19 0) (qeS e cap 1 (c.graph.nodes.map Node.e) c.graph.workers c.graph.cap W (c.links.map Link.e) T (c.news.map News.e) 0 0 (c.graph.nodes.map Node.e) c.graph.workers c.graph.cap (c.workers.map Worker.e) (c.links.map Link.e) (c.tokens.map Token.e) (c.news.map News.e)) (.exit 1) (qeR (c.graph.nodes.map Node.e) c.graph.workers c.graph.cap W (c.links.map Link.e) T ((c.news ++ qaR (c.workers.length - 1) e cap).map News.e) 0 0) := by
  have hn := qfF hc
  have l := qaj (P := Tryz.prog) (c := (qaa Tryz.f19 0)) (qaf 1) (c.workers.length - 1) (fun i : Nat => qeS e cap ((i : Int) + 1) (c.graph.nodes.map Node.e) c.graph.workers c.graph.cap W (c.links.map Link.e) T ((c.news ++ qaR i e cap).map News.e) 0 0 (c.graph.nodes.map Node.e) c.graph.workers c.graph.cap (c.workers.map Worker.e) (c.links.map Link.e) (c.tokens.map Token.e) (c.news.map News.e)) (fun i hi => by
    have hm := qi9 i e cap
    rw [qi8, ← List.append_assoc, List.map_append (l₂ := [_])]
    exact qu0 ⟨dT (by simp; omega), by simp; omega, by simp; omega, qc5 (News.flat ⟨(i : Int) + 1, e, cap⟩), ⟨by omega, by omega⟩, trivial⟩) (qu1 ⟨dF (by simp; omega), trivial⟩)
  have e0 : qaR 0 e cap = [] := rfl
  rw [e0, List.append_nil] at l
  exact l
theorem qCF (c : Cluster) (e : Int) (hc : c.sz ≤ 8388608) (hw : GotLe c) : Rt 19 [.agg c.e, .one (I e)] [.agg (qaK c e).1.e, .one (B (qaK c e).2)] := by
  have cp := qvr c hc
  have okr := qBZ c hc hw
  cases ok : qat c with
  | false =>
    rw [ok] at okr
    rw [show qaK c e = (c, false) by unfold qaK; simp [ok]]
    exact quN ⟨cp, okr, rfl, trivial⟩
  | true =>
  rw [ok] at okr
  cases he : inR e 0 3 with
  | false =>
    rw [show qaK c e = (c, false) by unfold qaK; simp [he]]
    exact quO ⟨cp, okr, rfl, qaM _ _ _ _ he, rfl, trivial⟩
  | true =>
  have he := he
  obtain ⟨x0, t, x, h0, ht, hx, hl0, hl4, hpl, hgp, hsum, hs4, hb4, hc4, hxs⟩ := qm0 ok he
  have he' : 0 ≤ e ∧ e ≤ 3 := by simpa only [inR, decide_eq_true_eq] using he
  obtain ⟨tE0, tE1, tE2⟩ := qmV ht
  obtain ⟨wE0, wE1, wE2⟩ := qe3 hx
  obtain ⟨zE0, zE1, zE2⟩ := qe3 h0
  obtain ⟨sE1, sE2⟩ := int4 hs4 he'
  obtain ⟨kE1, kE2⟩ := bool4 hb4 he'
  obtain ⟨cE1, cE2⟩ := bool4 hc4 he'
  have hsz := qe4 hx hc
  have hdl : x.dones.length ≤ 8388608 := by simp only [Worker.sz] at hsz; omega
  have hll : (↑(c.workers.map Worker.e).length : Int) = (c.workers.length : Int) := by rw [List.length_map]
  have wi := qaM _ _ _ _ he
  cases hd : qbE x0 e with
  | true =>
    rw [show qaK c e = (c, false) by unfold qaK; simp only [ok, he, Bool.and_self, if_true, h0, ht, hd]]
    exact quP ⟨cp, okr, rfl, wi, rfl, by omega, zE1, zE2, qmS x0 e true hd (qe4 h0 hc), rfl, trivial⟩
  | false =>
  have dn := qmS x0 e false hd (qe4 h0 hc)
  rw [qmZ ok he h0 ht hd hx]
  cases hp : qcS x e with
  | false =>
    rw [show qau c e t x = (c, false) by unfold qau; simp [hp]]
    exact quQ ⟨cp, okr, rfl, wi, rfl, by omega, zE1, zE2, dn, rfl, tE0, tE1, tE2, wE0, wE1, wE2, qmU x e _ hp hsz, rfl, trivial⟩
  | true =>
  have pa := qmU x e _ hp hsz
  have ei : inInt .i64 (t.sum + x.sums.getD e.toNat 0) := ⟨by omega, by omega⟩
  obtain ⟨tg, tp, ts, tb, tc⟩ := t
  dsimp only at *
  cases tg with
  | false =>
    obtain rfl : tp = 0 := hgp rfl
    rw [show qau c e ⟨false, 0, ts, tb, tc⟩ x = (setW (setT c e ⟨true, (c.workers.length : Int) - 1, 0, false, x.caps.getD e.toNat false⟩) 0 (qbq x e), true) by simp only [qau, hp, if_true, Bool.not_false]]
    dsimp only
    rw [qmX, qgW, ← hll]
    exact quR ⟨cp, okr, rfl, wi, rfl, by omega, zE1, zE2, dn, rfl, tE0, tE1, tE2, wE0, wE1, wE2, pa, rfl, tE2, rfl, wE2, tE0, cE1, cE2, ⟨by omega, by omega⟩, tE2, wE2, tE0, kE1, kE2, wE2, rfl, rfl, rfl, trivial⟩
  | true =>
  by_cases hp0 : 0 < tp
  case pos =>
    have dp : decide (tp > 0) = true := dT hp0
    cases hr : inR (ts + x.sums.getD e.toNat 0) (-1000000) 1000000 with
    | false =>
      rw [show qau c e ⟨true, tp, ts, tb, tc⟩ x = (c, false) by simp only [qau, hp, if_true, Bool.not_true, Bool.false_eq_true, if_false, hp0, hr]]
      exact quS ⟨cp, okr, rfl, wi, rfl, by omega, zE1, zE2, dn, rfl, tE0, tE1, tE2, wE0, wE1, wE2, pa, rfl, tE2, rfl, tE2, dp, tE2, wE2, tE0, sE1, sE2, ei, qaM _ _ _ _ hr, rfl, trivial⟩
    | true =>
      have e1 : qau c e ⟨true, tp, ts, tb, tc⟩ x = (setW (setT c e ⟨true, tp - 1, ts + x.sums.getD e.toNat 0, tb || x.black.getD e.toNat false, tc || x.caps.getD e.toNat false⟩) tp (qbq x e), true) := by
        simp only [qau, hp, if_true, Bool.not_true, Bool.false_eq_true, if_false, hp0, hr]
      rw [e1]
      dsimp only
      rw [qmX, qgW]
      have wr := qaM _ _ _ _ hr
      have k1 : inInt .i64 (tp - 1) := ⟨by omega, by omega⟩
      cases tb with
      | true =>
        cases tc with
        | true =>
          have key := quT ⟨cp, okr, rfl, wi, rfl, by omega, zE1, zE2, dn, rfl, tE0, tE1, tE2, wE0, wE1, wE2, pa, rfl, tE2, rfl, tE2, dp, tE2, wE2, tE0, sE1, sE2, ei, wr, rfl, tE2, wE2, tE0, sE1, sE2, ei, tE2, gs1 tE0 tE1, rfl, gs1 tE0 tE1, gs2 tE0 tE1, rfl, gs2 tE0 tE1, wE2, tE0, kE1, kE2, wE2, rfl, rfl, rfl, gs3 tE0 tE1, k1, gs3 tE0 tE1, trivial⟩
          simp only [List.set_set] at key
          exact key
        | false =>
          have key := quU ⟨cp, okr, rfl, wi, rfl, by omega, zE1, zE2, dn, rfl, tE0, tE1, tE2, wE0, wE1, wE2, pa, rfl, tE2, rfl, tE2, dp, tE2, wE2, tE0, sE1, sE2, ei, wr, rfl, tE2, wE2, tE0, sE1, sE2, ei, tE2, gs1 tE0 tE1, rfl, gs1 tE0 tE1, gs2 tE0 tE1, rfl, wE2, tE0, cE1, cE2, gs2 tE0 tE1, wE2, tE0, kE1, kE2, wE2, rfl, rfl, rfl, gs3 tE0 tE1, k1, gs3 tE0 tE1, trivial⟩
          simp only [List.set_set] at key
          exact key
      | false =>
        cases tc with
        | true =>
          have key := quV ⟨cp, okr, rfl, wi, rfl, by omega, zE1, zE2, dn, rfl, tE0, tE1, tE2, wE0, wE1, wE2, pa, rfl, tE2, rfl, tE2, dp, tE2, wE2, tE0, sE1, sE2, ei, wr, rfl, tE2, wE2, tE0, sE1, sE2, ei, tE2, gs1 tE0 tE1, rfl, wE2, tE0, kE1, kE2, gs1 tE0 tE1, gs2 tE0 tE1, rfl, gs2 tE0 tE1, wE2, tE0, kE1, kE2, wE2, rfl, rfl, rfl, rfl, rfl, gs3 tE0 tE1, k1, gs3 tE0 tE1, trivial⟩
          simp only [List.set_set] at key
          exact key
        | false =>
          have key := quW ⟨cp, okr, rfl, wi, rfl, by omega, zE1, zE2, dn, rfl, tE0, tE1, tE2, wE0, wE1, wE2, pa, rfl, tE2, rfl, tE2, dp, tE2, wE2, tE0, sE1, sE2, ei, wr, rfl, tE2, wE2, tE0, sE1, sE2, ei, tE2, gs1 tE0 tE1, rfl, wE2, tE0, kE1, kE2, gs1 tE0 tE1, gs2 tE0 tE1, rfl, wE2, tE0, cE1, cE2, gs2 tE0 tE1, wE2, tE0, kE1, kE2, wE2, rfl, rfl, rfl, rfl, rfl, gs3 tE0 tE1, k1, gs3 tE0 tE1, trivial⟩
          simp only [List.set_set] at key
          exact key
  case neg =>
    obtain rfl : tp = 0 := by omega
    have dp : decide ((0 : Int) > 0) = false := rfl
    cases tb with
    | true =>
      rw [show qau c e ⟨true, 0, ts, true, tc⟩ x = (setT c e ⟨false, 0, ts, true, tc⟩, true) by simp [qau, hp]]
      dsimp only
      rw [qi7]
      exact qu5 ⟨cp, okr, rfl, wi, rfl, by omega, zE1, zE2, dn, rfl, tE0, tE1, tE2, wE0, wE1, wE2, pa, rfl, tE2, rfl, tE2, dp, tE2, gs1 tE0 tE1, rfl, trivial⟩
    | false =>
    cases hk : x.black.getD e.toNat false with
    | true =>
      rw [hk] at kE2
      rw [show qau c e ⟨true, 0, ts, false, tc⟩ x = (setT c e ⟨false, 0, ts, false, tc⟩, true) by unfold qau; simp only [hp, hk]; rfl]
      dsimp only
      rw [qi7]
      exact qu4 ⟨cp, okr, rfl, wi, rfl, by omega, zE1, zE2, dn, rfl, tE0, tE1, tE2, wE0, wE1, wE2, pa, rfl, tE2, rfl, tE2, dp, tE2, gs1 tE0 tE1, rfl, wE2, tE0, kE1, kE2, rfl, trivial⟩
    | false =>
    rw [hk] at kE2
    cases hz : (ts + x.sums.getD e.toNat 0 == 0) with
    | false =>
      rw [show qau c e ⟨true, 0, ts, false, tc⟩ x = (setT c e ⟨false, 0, ts, false, tc⟩, true) by unfold qau; simp only [hp, hk, hz]; rfl]
      dsimp only
      rw [qi7]
      exact qu3 ⟨cp, okr, rfl, wi, rfl, by omega, zE1, zE2, dn, rfl, tE0, tE1, tE2, wE0, wE1, wE2, pa, rfl, tE2, rfl, tE2, dp, tE2, gs1 tE0 tE1, rfl, wE2, tE0, kE1, kE2, rfl, gs1 tE0 tE1, wE2, tE0, sE1, sE2, ei, hz, trivial⟩
    | true =>
    rw [show qau c e ⟨true, 0, ts, false, tc⟩ x = (setN (setW (setT c e ⟨false, 0, ts, false, tc⟩) 0 (told x e (tc || x.caps.getD e.toNat false))) (c.news ++ qaR (c.workers.length - 1) e (tc || x.caps.getD e.toNat false)), true) by unfold qau; simp only [hp, hk, hz]; rfl]
    have e4 : ∀ cap, (setN (setW (setT c e ⟨false, 0, ts, false, tc⟩) 0 (told x e cap)) (c.news ++ qaR (c.workers.length - 1) e cap)).e = [.sl 4 (c.graph.nodes.map Node.e), I c.graph.workers, I c.graph.cap, .sl 8 ((c.workers.map Worker.e).set 0 [.sl 5 (x.queue.map Record.e), .sl 5 (x.staged.map Record.e), .sl 5 (x.inputs.map Record.e), .sl 4 (x.cells.map Cell.e), .sl 1 (x.sums.map eI), .sl 1 (x.black.map eB), .sl 1 (x.caps.map eB), .sl 2 (x.dones.map Done.e ++ [[I e, B cap]])]), .sl 6 (c.links.map Link.e), .sl 5 ((c.tokens.map Token.e).set e.toNat (Token.e ⟨false, 0, ts, false, tc⟩)), .sl 3 ((c.news ++ qaR (c.workers.length - 1) e cap).map News.e)] := fun cap => by
      rw [← qmW]
      simp only [setN, setW, setT, Cluster.e, List.map_set]
      rfl
    cases tc with
    | true =>
      dsimp only [Bool.true_or]
      rw [e4]
      exact quZ ⟨cp, okr, rfl, wi, rfl, by omega, zE1, zE2, dn, rfl, tE0, tE1, tE2, wE0, wE1, wE2, pa, rfl, tE2, rfl, tE2, dp, tE2, gs1 tE0 tE1, rfl, wE2, tE0, kE1, kE2, rfl, gs1 tE0 tE1, wE2, tE0, sE1, sE2, ei, hz, gs1 tE0 tE1, rfl, wE2, by simp; omega, by simp; omega, wE2, rfl, rfl, rfl, qc5 (Done.flat ⟨e, true⟩), wE2, rfl, qCD c e _ _ hl0 hl4 hc, trivial⟩
    | false =>
      dsimp only [Bool.false_or]
      rw [e4]
      exact qu2 ⟨cp, okr, rfl, wi, rfl, by omega, zE1, zE2, dn, rfl, tE0, tE1, tE2, wE0, wE1, wE2, pa, rfl, tE2, rfl, tE2, dp, tE2, gs1 tE0 tE1, rfl, wE2, tE0, kE1, kE2, rfl, gs1 tE0 tE1, wE2, tE0, sE1, sE2, ei, hz, gs1 tE0 tE1, rfl, wE2, tE0, cE1, cE2, wE2, by simp; omega, by simp; omega, wE2, rfl, rfl, rfl, qc5 (Done.flat ⟨e, _⟩), wE2, rfl, qCE c e _ _ _ hl0 hl4 hc, trivial⟩
end Go.Proofs.YtdanpadojemjeaaGreat
