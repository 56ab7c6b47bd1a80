/- HearNews: what program and reference compute. -/
import Derived.Test.YtdanpadojemjeaaGreatP43
import Derived.Test.YtdanpadojemjeaaGreatP40
import Derived.Test.YtdanpadojemjeaaGreatQ1
set_option linter.unusedVariables false
set_option linter.unusedSimpArgs false
namespace Go.Proofs.YtdanpadojemjeaaGreat
open Go.Sx Go.RowKit
def runD (c : Cluster) (b : Bool) : List D := [.sl 4 (c.graph.nodes.map Node.e), I c.graph.workers, I c.graph.cap, .sl 8 (c.workers.map Worker.e), .sl 6 (c.links.map Link.e), .sl 5 (c.tokens.map Token.e), .sl 3 (c.news.map News.e), B b]
abbrev runE (c : Cluster) : List D := runD c (qaF c)
theorem qmy (w : Worker) (e : Int) (r : Bool) (h : qb1 w e = r) (hw : w.sz ≤ 8388608) : Rt 66 [.agg w.e, .one (I e)] [.one (B r)] := h ▸ qtr w e hw
theorem qBo (c : Cluster) (hc : c.sz ≤ 8388608) (hw : GotLe c) : RetR Tryz.prog 55 [.ro (.agg c.e)] (.new (runE c)) :=
  qtU ⟨que c hc, qAH c hc hw, trivial⟩
theorem qmz {α : Type} {f : α → List D} {xs : List α} {i : Nat} {a : α} : (xs.map f).set i (f a) = (xs.set i a).map f := List.map_set.symm
theorem qmA {c : Cluster} {i : Int} {x : Worker} (h : wAt c i = some x) : 0 ≤ i ∧ i < (↑(c.workers.map Worker.e).length : Int) ∧ (c.workers.map Worker.e)[i.toNat]? = some x.e := by
  obtain ⟨h1, h2, h3⟩ := qdX h
  exact ⟨h1, by rw [List.length_map]; omega, qad Worker.e h3⟩
theorem qmB {c : Cluster} {i : Int} {x : Worker} (h : wAt c i = some x) (hc : c.sz ≤ 8388608) : x.sz ≤ 8388608 := Cluster.worker_sz1 hc (qap (qdX h).2.2)
theorem qBp {l : List News} {i : Nat} (hi : i < l.length) : ([] ++ ((l.map News.e).drop 0).take (((some (i : Int)).getD (↑(l.map News.e).length : Int)).toNat - 0) ++ ((l.map News.e).drop ((some ((i : Int) + 1)).getD 0).toNat).take ((l.map News.e).length - ((some ((i : Int) + 1)).getD 0).toNat)) = (cutAt l i).map News.e := by
  have e1 : ((i : Int) + 1).toNat = i + 1 := by omega
  simp only [cutAt, Option.getD_some, Int.toNat_natCast, Nat.sub_zero, List.drop_zero, List.nil_append, e1, List.map_append, List.map_take, List.map_drop]
  congr 1
  rw [List.take_of_length_le (by simp)]
theorem qmC {l : List News} {i : Nat} : ((l.map News.e).drop ((some ((i : Int) + 1)).getD 0).toNat).take ((l.map News.e).length - ((some ((i : Int) + 1)).getD 0).toNat) = (l.drop (i + 1)).map News.e := by
  have e1 : ((i : Int) + 1).toNat = i + 1 := by omega
  simp only [Option.getD_some, e1, List.map_drop]
  rw [List.take_of_length_le (by simp)]
theorem qiW {c : Cluster} (h : qaF c = true) {i : Nat} {n : News} (hn : c.news[i]? = some n) {w : Int} (hw : (n.dest == w) = true) : ∃ x, wAt c w = some x := by
  have hb := qmu h hn
  simp only [qa7, inR, Bool.or_eq_false_iff, Bool.not_eq_false', decide_eq_true_eq] at hb
  have h2 := (qdW.1 h).2.1
  have e := eq_of_beq hw
  exact qA0 (by omega) (by omega)
theorem qgH {α : Type} {f : α → List D} (h : ∀ a, ∀ d ∈ f a, ∃ x, d = .v x) {l : List (List D)} {xs : List α} (hl : l = xs.map f) : Flat l := hl ▸ qbb f h xs
theorem qmD {c : Cluster} {w : Int} {i : Nat} {n : News} {x : Worker} (h1 : c.news.findIdx? (fun n => n.dest == w) = some i) (hok : qaF c = true) (hn : c.news[i]? = some n) (hx : wAt c w = some x) : qaT c w = (setN (setW c w (hears x n)) (cutAt c.news i), true) := by
  unfold qaT
  simp only [h1, hok, if_true, hn, hx]
theorem qBq (c : Cluster) (w : Int) (hc : c.sz ≤ 8388608) : RetR Tryz.prog 56 [.ref (runE c) (runE (qaT c w).1), .ro (.one (I w))] (.vals [.one (B (qaT c w).2)]) := by
  have hl := qgE hc
  have hok' := fun h => qA3 (c := c) (w := w) h
  cases hok : qaF c with
  | false =>
    have e : qaT c w = (c, false) := by
      unfold qaT
      split <;> simp [hok]
    rw [e]
    simp only [runE, hok]
    cases hn : c.news with
    | nil =>
      have l : qam Tryz.prog (qaa Tryz.f56 0) (qb2 w 0 (c.graph.nodes.map Node.e) c.graph.workers c.graph.cap (c.workers.map Worker.e) (c.links.map Link.e) (c.tokens.map Token.e) (c.news.map News.e) false) (.exit 0) _ := .last (qaf 0) (qlV ⟨by simp [hn], trivial⟩)
      exact qiv ⟨l, trivial⟩
    | cons a l =>
      have l : qam Tryz.prog (qaa Tryz.f56 0) (qb2 w 0 (c.graph.nodes.map Node.e) c.graph.workers c.graph.cap (c.workers.map Worker.e) (c.links.map Link.e) (c.tokens.map Token.e) (c.news.map News.e) false) (.exit 0) _ := .last (qaf 0) (qtY ⟨dT (by simp [hn] <;> omega), rfl, trivial⟩)
      exact qiv ⟨l, trivial⟩
  | true =>
    have hok' := hok' hok
    have l := qaQ (P := Tryz.prog) (c := (qaa Tryz.f56 0)) c.news (fun n => n.dest == w) (fun i => qb2 w i (c.graph.nodes.map Node.e) c.graph.workers c.graph.cap (c.workers.map Worker.e) (c.links.map Link.e) (c.tokens.map Token.e) (c.news.map News.e) true)
      (X := fun i n => match wAt c w with
        | some x => qgo true (c.graph.nodes.map Node.e) c.graph.workers c.graph.cap ((setW c w (hears x n)).workers.map Worker.e) (c.links.map Link.e) (c.tokens.map Token.e) ((cutAt c.news i).map News.e) true
        | none => ⟨[], []⟩) qao (qaf 0)
      (fun i a ha h => qtV ⟨lt1 (lt_of ha), rfl, lt0, lt2 (lt_of ha), qac News.e ha, by simp only [bne, h]; rfl, up1 (lt_of ha) hl, trivial⟩)
      (fun i a ha h => by
        obtain ⟨x, hx⟩ := qiW hok ha h
        have hi := lt_of ha
        obtain ⟨w0, w1, w2⟩ := qmA hx
        have hs := qmB hx hc
        simp only [hx]
        rw [← qBp hi]
        cases hd : qb1 x a.epoch with
        | true =>
          rw [show hears x a = x by unfold hears; rw [hd]; rfl, qmq hx]
          exact qtX ⟨lt1 hi, rfl, lt0, lt2 hi, qac News.e ha, by simp only [bne, h]; rfl, by simp, by simp, by simp; omega, by simp; omega, by simp; omega, qgH (xs := c.news.take i) News.flat (by simp), up1 hi hl, by simp; omega, by simp; omega, by simp, by simp; omega, by simp; omega, qgH (xs := c.news.drop (i + 1)) News.flat qmC, w0, w1, w2, qlI x a.epoch true hd hs, rfl, trivial⟩
        | false =>
          have hdl : x.dones.length ≤ 8388608 := by simp only [Worker.sz] at hs; omega
          have e2 : (setW c w (hears x a)).workers.map Worker.e = (c.workers.map Worker.e).set w.toNat (told x a.epoch a.capped).e := by
            rw [show hears x a = told x a.epoch a.capped by unfold hears; rw [hd]; rfl]
            exact qmz.symm
          rw [e2]
          have e3 : (told x a.epoch a.capped).e = [.sl 5 (x.queue.map Record.e), .sl 5 (x.staged.map Record.e), .sl 5 (x.inputs.map Record.e), .sl 4 (x.cells.map Cell.e), .sl 1 (x.sums.map eI), .sl 1 (x.black.map eB), .sl 1 (x.caps.map eB), .sl 2 (x.dones.map Done.e ++ [[I a.epoch, B a.capped]])] := by
            simp only [told, Worker.e, List.map_append]; rfl
          rw [e3]
          exact qtW ⟨lt1 hi, rfl, lt0, lt2 hi, qac News.e ha, by simp only [bne, h]; rfl, by simp, by simp, by simp; omega, by simp; omega, by simp; omega, qgH (xs := c.news.take i) News.flat (by simp), up1 hi hl, by simp; omega, by simp; omega, by simp, by simp; omega, by simp; omega, qgH (xs := c.news.drop (i + 1)) News.flat qmC, w0, w1, w2, qlI x a.epoch false hd hs, rfl, w0, w1, w2, by simp; omega, by simp; omega, w2, rfl, qkx (Done.flat ⟨a.epoch, a.capped⟩), rfl, rfl, rfl, rfl, rfl, rfl, rfl, rfl, rfl, rfl, rfl, w0, w1, w2, rfl, trivial⟩)
      (qlV ⟨ge1, trivial⟩)
    rcases l with ⟨_, h1, _, h2⟩ | ⟨i, a, ha, hp, _, h1, _, h2⟩
    · have e : qaT c w = (c, false) := by unfold qaT; simp only [h1]
      rw [e]
      simp only [runE, hok]
      exact qiv ⟨h2, trivial⟩
    · obtain ⟨x, hx⟩ := qiW hok ha hp
      rw [qmD h1 hok ha hx] at hok' ⊢
      simp only [hx] at h2
      simp only [runE, hok, hok']
      exact qtZ ⟨h2, trivial⟩
theorem qBr (c : Cluster) (w : Int) (hc : c.sz ≤ 8388608) (hw : GotLe c) : Rt 12 [.agg c.e, .one (I w)] [.agg (qaT c w).1.e, .one (B (qaT c w).2)] :=
  qt0 ⟨qBo c hc hw, qBq c w hc, trivial⟩
theorem qBs (c : Cluster) (w : Int) (hc : c.sz ≤ 8388608) (hw : GotLe c) : Rt 14 [.agg c.e, .one (I w)] [.agg (qaT c w).1.e, .one (B (qaT c w).2)] := by
  have hl := qgE hc
  have cp := qud c hc
  have ix := qti c.news (fun n => n.dest == w) 63 [.ptr [I w]] hl (by kernel_rfl) (fun x _ => qt1 trivial)
  have ok := qAM c hc hw
  unfold idxI at ix
  cases h1 : c.news.findIdx? (fun n => n.dest == w) with
  | none =>
    simp only [h1] at ix
    rw [show qaT c w = (c, false) by unfold qaT; simp only [h1]]
    exact qt2 ⟨cp, ix, dT (by omega), trivial⟩
  | some i =>
    simp only [h1] at ix
    cases hok : qaF c with
    | false =>
      rw [hok] at ok
      rw [show qaT c w = (c, false) by unfold qaT; simp [h1, hok]]
      exact qt3 ⟨cp, ix, dF (by omega), ok, rfl, trivial⟩
    | true =>
      rw [hok] at ok
      obtain ⟨hi, hp, _⟩ := List.findIdx?_eq_some_iff_getElem.1 h1
      have ha : c.news[i]? = some c.news[i] := List.getElem?_eq_getElem hi
      generalize c.news[i] = a at ha hp
      obtain ⟨x, hx⟩ := qiW hok ha hp
      obtain ⟨w0, w1, w2⟩ := qmA hx
      have hs := qmB hx hc
      rw [qmD h1 hok ha hx]
      have dl := qBn c.news i (i + 1) (by omega) (by omega)
      rw [show (((i + 1 : Nat) : Int)) = (i : Int) + 1 by omega] at dl
      cases hd : qb1 x a.epoch with
      | true =>
        rw [show hears x a = x by unfold hears; rw [hd]; rfl, qmq hx]
        exact qt5 ⟨cp, ix, dF (by omega), ok, rfl, lt0, lt2 hi, qac News.e ha, up1 hi hl, dl, w0, w1, w2, qmy x a.epoch true hd hs, rfl, trivial⟩
      | false =>
        have hdl : x.dones.length ≤ 8388608 := by simp only [Worker.sz] at hs; omega
        have e2 : (setW c w (hears x a)).workers.map Worker.e = (c.workers.map Worker.e).set w.toNat (told x a.epoch a.capped).e := by
          rw [show hears x a = told x a.epoch a.capped by unfold hears; rw [hd]; rfl]
          exact qmz.symm
        have e3 : (told x a.epoch a.capped).e = [.sl 5 (x.queue.map Record.e), .sl 5 (x.staged.map Record.e), .sl 5 (x.inputs.map Record.e), .sl 4 (x.cells.map Cell.e), .sl 1 (x.sums.map eI), .sl 1 (x.black.map eB), .sl 1 (x.caps.map eB), .sl 2 (x.dones.map Done.e ++ [[I a.epoch, B a.capped]])] := by
          simp only [told, Worker.e, List.map_append]; rfl
        have e4 : (setN (setW c w (hears x a)) (cutAt c.news i)).e = [.sl 4 (c.graph.nodes.map Node.e), I c.graph.workers, I c.graph.cap, .sl 8 ((c.workers.map Worker.e).set w.toNat (told x a.epoch a.capped).e), .sl 6 (c.links.map Link.e), .sl 5 (c.tokens.map Token.e), .sl 3 ((cutAt c.news i).map News.e)] := by
          rw [← e2]; rfl
        rw [e4, e3]
        exact qt4 ⟨cp, ix, dF (by omega), ok, rfl, lt0, lt2 hi, qac News.e ha, up1 hi hl, dl, w0, w1, w2, qmy x a.epoch false hd hs, rfl, w0, w1, w2, by simp; omega, by simp; omega, w2, rfl, qkx (Done.flat ⟨a.epoch, a.capped⟩), rfl, rfl, rfl, rfl, rfl, rfl, rfl, rfl, w0, w1, w2, rfl, trivial⟩
end Go.Proofs.YtdanpadojemjeaaGreat
