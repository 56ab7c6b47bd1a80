/- ClusterOk, SafeCluster: what program and reference compute; the law SafeCluster answers true. -/
import Derived.Test.YtdanpadojemjeaaGreatP28
set_option linter.unusedVariables false
set_option linter.unusedSimpArgs false
namespace Go.Proofs.YtdanpadojemjeaaGreat
open Go.Sx Go.RowKit
theorem graph_sz1 {c : Cluster} (h : c.sz ≤ 8388608) : c.graph.sz ≤ 8388608 := by simp only [Cluster.sz] at h; omega
theorem qmi {c : Cluster} (h : c.sz ≤ 8388608) : c.tokens.length ≤ 8388608 := by simp only [Cluster.sz, szS] at h; omega
theorem qgE {c : Cluster} (h : c.sz ≤ 8388608) : c.news.length ≤ 8388608 := by simp only [Cluster.sz, szS] at h; omega
def qbN (g : Graph) (i : Nat) (l : Link) : Bool :=
  !qbM l || ((l.cap != g.cap) || (!qaS g l.queue || ((i : Int).tdiv g.workers == (i : Int).tmod g.workers && decide ((l.queue.length : Int) > 0))))
def qbO (n : Int) (t : Token) : Bool := !inR t.place 0 (n - 1) || ((!t.going && t.place != 0) || !inR t.sum (-1000000) 1000000)
def qa7 (n : Int) (x : News) : Bool := !inR x.dest 0 (n - 1) || !inR x.epoch 0 3
def qaF (c : Cluster) : Bool :=
  qav c.graph && (((c.workers.length : Int) == c.graph.workers) && (((c.links.length : Int) == c.graph.workers * c.graph.workers) && ((c.tokens.length == 4) && (!(c.workers.any fun w => !qaN c.graph w) && (!(anyI (qbN c.graph) 0 c.links) && (!(c.tokens.any (qbO c.graph.workers)) && !(c.news.any (qa7 c.graph.workers))))))))
theorem qiR {g : Graph} (h : qav g = true) : 1 ≤ g.workers ∧ g.workers ≤ 4 := by
  simp only [qav, Bool.and_eq_true, inR, decide_eq_true_eq] at h
  omega
theorem qeO (i : Nat) (n : Int) (hi : i ≤ 8388608) (hn : 1 ≤ n) : inInt .i64 ((i : Int).tdiv n) := by
  have h1 : 0 ≤ (i : Int).tdiv n := Int.tdiv_nonneg (by omega) (by omega)
  have h2 : (i : Int).tdiv n ≤ (i : Int) := Int.tdiv_le_self _ (by omega)
  exact ⟨by omega, by omega⟩
theorem qAC {c : Cluster} (h : c.wf) {l : Link} (hl : l ∈ c.links) : l.got ≤ 9223372036854775807 := by
  have := (Cluster.link_wf h hl).got_ok
  simp only [inInt] at this
  exact this.2
def GotLe (c : Cluster) : Prop := ∀ l ∈ c.links, l.got ≤ 9223372036854775807
theorem GotLe.of {c : Cluster} (h : c.wf) : GotLe c := fun _ hl => qAC h hl
theorem qAD (c : Cluster) (hc : c.sz ≤ 8388608) (hn : (c.workers.length : Int) = c.graph.workers) :
    ((c.workers.any fun w => !qaN c.graph w) = false ∧ qam Tryz.prog (qaa Tryz.f113 0) (qbK (c.graph.nodes.map Node.e) c.graph.workers c.graph.cap (c.workers.map Worker.e) (c.links.map Link.e) (c.tokens.map Token.e) (c.news.map News.e) 0) (.exit 0) (qeJ (c.graph.nodes.map Node.e) c.graph.workers c.graph.cap (c.workers.map Worker.e) (c.links.map Link.e) (c.tokens.map Token.e) (c.news.map News.e))) ∨
    ((c.workers.any fun w => !qaN c.graph w) = true ∧ qam Tryz.prog (qaa Tryz.f113 0) (qbK (c.graph.nodes.map Node.e) c.graph.workers c.graph.cap (c.workers.map Worker.e) (c.links.map Link.e) (c.tokens.map Token.e) (c.news.map News.e) 0) .ret (qgu false)) := by
  have hl := Cluster.wlen_le hc
  have l := qaQ (P := Tryz.prog) (c := (qaa Tryz.f113 0)) c.workers (fun w => !qaN c.graph w) (fun i => qbK (c.graph.nodes.map Node.e) c.graph.workers c.graph.cap (c.workers.map Worker.e) (c.links.map Link.e) (c.tokens.map Token.e) (c.news.map News.e) i) (X := fun _ _ => qgu false) qao (qaf 0)
    (fun i a ha h => by
      have k := qmf c.graph a (graph_sz1 hc) (Cluster.worker_sz hc (qap ha))
      rw [show qaN c.graph a = true by simpa using h] at k
      exact qvU ⟨dT (by have := lt_of ha; omega), lt0, lt2 (lt_of ha), qac Worker.e ha, k, rfl, up1 (lt_of ha) hl, trivial⟩)
    (fun i a ha h => by
      have k := qmf c.graph a (graph_sz1 hc) (Cluster.worker_sz hc (qap ha))
      rw [show qaN c.graph a = false by simpa using h] at k
      exact qvT ⟨dT (by have := lt_of ha; omega), lt0, lt2 (lt_of ha), qac Worker.e ha, k, rfl, trivial⟩)
    (qvV ⟨dF (by omega), trivial⟩)
  rcases l with ⟨_, _, h1, h2⟩ | ⟨_, _, _, _, _, _, h1, h2⟩
  · exact .inl ⟨h1, h2⟩
  · exact .inr ⟨h1, h2⟩
theorem qAE (c : Cluster) (hc : c.sz ≤ 8388608) (hw : GotLe c) (hn : 1 ≤ c.graph.workers) :
    (anyI (qbN c.graph) 0 c.links = false ∧ qam Tryz.prog (qaa Tryz.f113 1) (qbc c.graph.workers 0 (c.graph.nodes.map Node.e) c.graph.workers c.graph.cap (c.workers.map Worker.e) (c.links.map Link.e) (c.tokens.map Token.e) (c.news.map News.e)) (.exit 2) (qfm c.graph.workers (c.graph.nodes.map Node.e) c.graph.workers c.graph.cap (c.workers.map Worker.e) (c.links.map Link.e) (c.tokens.map Token.e) (c.news.map News.e))) ∨
    (anyI (qbN c.graph) 0 c.links = true ∧ qam Tryz.prog (qaa Tryz.f113 1) (qbc c.graph.workers 0 (c.graph.nodes.map Node.e) c.graph.workers c.graph.cap (c.workers.map Worker.e) (c.links.map Link.e) (c.tokens.map Token.e) (c.news.map News.e)) .ret (qeK false)) := by
  have hl := Cluster.llen_le hc
  have kl : ∀ (i : Nat) (a : Link), c.links[i]? = some a → ∀ r, qbM a = r → Rt 188 [.agg a.e] [.one (B r)] := fun i a ha r h => h ▸ qAx a (Cluster.link_sz hc (qap ha))
  have kr : ∀ (i : Nat) (a : Link), c.links[i]? = some a → ∀ r, qaS c.graph a.queue = r → Rt 189 [.agg c.graph.e, .one (.sl 5 (a.queue.map Record.e))] [.one (B r)] := fun i a ha r h => qdU c.graph _ r h (graph_sz1 hc) (Cluster.link_sz hc (qap ha))
  exact qcZ (P := Tryz.prog) (c := (qaa Tryz.f113 1)) c.links (qbN c.graph) (fun i => qbc c.graph.workers i (c.graph.nodes.map Node.e) c.graph.workers c.graph.cap (c.workers.map Worker.e) (c.links.map Link.e) (c.tokens.map Token.e) (c.news.map News.e)) qao (qaf 2)
    (fun i a ha h => by
      have hi := lt_of ha
      simp only [qbN, Bool.or_eq_false_iff, Bool.not_eq_false'] at h
      obtain ⟨h1, h2, h3, h4⟩ := h
      cases h5 : ((i : Int).tdiv c.graph.workers == (i : Int).tmod c.graph.workers) with
      | true =>
        rw [h5, Bool.true_and] at h4
        exact qv1 ⟨lt1 (lt_of ha), lt0, lt2 (lt_of ha), qac Link.e ha, kl i a ha _ h1, rfl, h2, kr i a ha _ h3, rfl, by omega, qeO i _ (by omega) hn, by omega, h5, by rw [List.length_map]; exact h4, up1 hi hl, trivial⟩
      | false => exact qv2 ⟨lt1 (lt_of ha), lt0, lt2 (lt_of ha), qac Link.e ha, kl i a ha _ h1, rfl, h2, kr i a ha _ h3, rfl, by omega, qeO i _ (by omega) hn, by omega, h5, up1 hi hl, trivial⟩)
    (fun i a ha h => by
      have hi := lt_of ha
      cases h1 : qbM a with
      | false => exact qvX ⟨lt1 (lt_of ha), lt0, lt2 (lt_of ha), qac Link.e ha, kl i a ha _ h1, rfl, trivial⟩
      | true =>
      cases h2 : (a.cap != c.graph.cap) with
      | true => exact qvY ⟨lt1 (lt_of ha), lt0, lt2 (lt_of ha), qac Link.e ha, kl i a ha _ h1, rfl, h2, trivial⟩
      | false =>
      cases h3 : qaS c.graph a.queue with
      | false => exact qvZ ⟨lt1 (lt_of ha), lt0, lt2 (lt_of ha), qac Link.e ha, kl i a ha _ h1, rfl, h2, kr i a ha _ h3, rfl, trivial⟩
      | true =>
      simp only [qbN, h1, h2, h3, Bool.not_true, Bool.false_or, Bool.and_eq_true] at h
      exact qv0 ⟨lt1 (lt_of ha), lt0, lt2 (lt_of ha), qac Link.e ha, kl i a ha _ h1, rfl, h2, kr i a ha _ h3, rfl, by omega, qeO i _ (by omega) hn, by omega, h.1, by rw [List.length_map]; exact h.2, trivial⟩)
    (qv3 ⟨ge1, trivial⟩)
theorem qAF (c : Cluster) (hc : c.sz ≤ 8388608) (hn : 1 ≤ c.graph.workers ∧ c.graph.workers ≤ 4) :
    ((c.tokens.any (qbO c.graph.workers)) = false ∧ qam Tryz.prog (qaa Tryz.f113 2) (qbk c.graph.workers (c.graph.nodes.map Node.e) c.graph.workers c.graph.cap (c.workers.map Worker.e) (c.links.map Link.e) (c.tokens.map Token.e) (c.news.map News.e) 0) (.exit 4) (qgv c.graph.workers (c.graph.nodes.map Node.e) c.graph.workers c.graph.cap (c.workers.map Worker.e) (c.links.map Link.e) (c.tokens.map Token.e) (c.news.map News.e))) ∨
    ((c.tokens.any (qbO c.graph.workers)) = true ∧ qam Tryz.prog (qaa Tryz.f113 2) (qbk c.graph.workers (c.graph.nodes.map Node.e) c.graph.workers c.graph.cap (c.workers.map Worker.e) (c.links.map Link.e) (c.tokens.map Token.e) (c.news.map News.e) 0) .ret (qdP false)) := by
  have hl := qmi hc
  have l := qaQ (P := Tryz.prog) (c := (qaa Tryz.f113 2)) c.tokens (qbO c.graph.workers) (fun i => qbk c.graph.workers (c.graph.nodes.map Node.e) c.graph.workers c.graph.cap (c.workers.map Worker.e) (c.links.map Link.e) (c.tokens.map Token.e) (c.news.map News.e) i) (X := fun _ _ => qdP false) qao (qaf 4)
    (fun i a ha h => by
      have hi := lt_of ha
      simp only [qbO, Bool.or_eq_false_iff, Bool.not_eq_false'] at h
      obtain ⟨h1, h2, h3⟩ := h
      cases hg : a.going with
      | false =>
        rw [hg, Bool.not_false, Bool.true_and] at h2
        exact qv8 ⟨lt1 (lt_of ha), lt0, lt2 (lt_of ha), qac Token.e ha, ⟨by omega, by omega⟩, qaZ _ _ _ true h1, rfl, lt0, lt2 (lt_of ha), qac Token.e ha, by rw [hg]; rfl, lt0, lt2 (lt_of ha), qac Token.e ha, h2, lt0, lt2 (lt_of ha), qac Token.e ha, qaZ _ _ _ true h3, rfl, up1 hi hl, trivial⟩
      | true => exact qwa ⟨lt1 (lt_of ha), lt0, lt2 (lt_of ha), qac Token.e ha, ⟨by omega, by omega⟩, qaZ _ _ _ true h1, rfl, lt0, lt2 (lt_of ha), qac Token.e ha, by rw [hg]; rfl, lt0, lt2 (lt_of ha), qac Token.e ha, qaZ _ _ _ true h3, rfl, up1 hi hl, trivial⟩)
    (fun i a ha h => by
      have hi := lt_of ha
      cases h1 : inR a.place 0 (c.graph.workers - 1) with
      | false => exact qv5 ⟨lt1 (lt_of ha), lt0, lt2 (lt_of ha), qac Token.e ha, ⟨by omega, by omega⟩, qaZ _ _ _ false h1, rfl, trivial⟩
      | true =>
      simp only [qbO, h1, Bool.not_true, Bool.false_or] at h
      cases hg : a.going with
      | false =>
        rw [hg, Bool.not_false, Bool.true_and] at h
        cases h2 : (a.place != 0) with
        | true => exact qv6 ⟨lt1 (lt_of ha), lt0, lt2 (lt_of ha), qac Token.e ha, ⟨by omega, by omega⟩, qaZ _ _ _ true h1, rfl, lt0, lt2 (lt_of ha), qac Token.e ha, by rw [hg]; rfl, lt0, lt2 (lt_of ha), qac Token.e ha, h2, trivial⟩
        | false =>
          rw [h2, Bool.false_or] at h
          exact qv7 ⟨lt1 (lt_of ha), lt0, lt2 (lt_of ha), qac Token.e ha, ⟨by omega, by omega⟩, qaZ _ _ _ true h1, rfl, lt0, lt2 (lt_of ha), qac Token.e ha, by rw [hg]; rfl, lt0, lt2 (lt_of ha), qac Token.e ha, h2, lt0, lt2 (lt_of ha), qac Token.e ha, qaZ _ _ _ false (by simpa using h), rfl, trivial⟩
      | true =>
        rw [hg, Bool.not_true, Bool.false_and, Bool.false_or] at h
        exact qv9 ⟨lt1 (lt_of ha), lt0, lt2 (lt_of ha), qac Token.e ha, ⟨by omega, by omega⟩, qaZ _ _ _ true h1, rfl, lt0, lt2 (lt_of ha), qac Token.e ha, by rw [hg]; rfl, lt0, lt2 (lt_of ha), qac Token.e ha, qaZ _ _ _ false (by simpa using h), rfl, trivial⟩)
    (qwb ⟨ge1, trivial⟩)
  rcases l with ⟨_, _, h1, h2⟩ | ⟨_, _, _, _, _, _, h1, h2⟩
  · exact .inl ⟨h1, h2⟩
  · exact .inr ⟨h1, h2⟩
theorem qAG (c : Cluster) (hc : c.sz ≤ 8388608) (hn : 1 ≤ c.graph.workers ∧ c.graph.workers ≤ 4) :
    ((c.news.any (qa7 c.graph.workers)) = false ∧ qam Tryz.prog (qaa Tryz.f113 3) (qcx c.graph.workers (c.graph.nodes.map Node.e) c.graph.workers c.graph.cap (c.workers.map Worker.e) (c.links.map Link.e) (c.tokens.map Token.e) (c.news.map News.e) 0) (.exit 6) qiH) ∨
    ((c.news.any (qa7 c.graph.workers)) = true ∧ qam Tryz.prog (qaa Tryz.f113 3) (qcx c.graph.workers (c.graph.nodes.map Node.e) c.graph.workers c.graph.cap (c.workers.map Worker.e) (c.links.map Link.e) (c.tokens.map Token.e) (c.news.map News.e) 0) .ret (qfn false)) := by
  have hl := qgE hc
  have l := qaQ (P := Tryz.prog) (c := (qaa Tryz.f113 3)) c.news (qa7 c.graph.workers) (fun i => qcx c.graph.workers (c.graph.nodes.map Node.e) c.graph.workers c.graph.cap (c.workers.map Worker.e) (c.links.map Link.e) (c.tokens.map Token.e) (c.news.map News.e) i) (X := fun _ _ => qfn false) qao (qaf 6)
    (fun i a ha h => by
      have hi := lt_of ha
      simp only [qa7, Bool.or_eq_false_iff, Bool.not_eq_false'] at h
      exact qwf ⟨lt1 (lt_of ha), lt0, lt2 (lt_of ha), qac News.e ha, ⟨by omega, by omega⟩, qaZ _ _ _ true h.1, rfl, lt0, lt2 (lt_of ha), qac News.e ha, qaZ _ _ _ true h.2, rfl, up1 hi hl, trivial⟩)
    (fun i a ha h => by
      have hi := lt_of ha
      cases h1 : inR a.dest 0 (c.graph.workers - 1) with
      | false => exact qwd ⟨lt1 (lt_of ha), lt0, lt2 (lt_of ha), qac News.e ha, ⟨by omega, by omega⟩, qaZ _ _ _ false h1, rfl, trivial⟩
      | true =>
        simp only [qa7, h1, Bool.not_true, Bool.false_or] at h
        exact qwe ⟨lt1 (lt_of ha), lt0, lt2 (lt_of ha), qac News.e ha, ⟨by omega, by omega⟩, qaZ _ _ _ true h1, rfl, lt0, lt2 (lt_of ha), qac News.e ha, qaZ _ _ _ false (by simpa using h), rfl, trivial⟩)
    (qwg ⟨ge1, trivial⟩)
  rcases l with ⟨_, _, h1, h2⟩ | ⟨_, _, _, _, _, _, h1, h2⟩
  · exact .inl ⟨h1, h2⟩
  · exact .inr ⟨h1, h2⟩
theorem qAH (c : Cluster) (hc : c.sz ≤ 8388608) (hw : GotLe c) : Rt 113 [.agg c.e] [.one (B (qaF c))] := by
  have hg := qAi c.graph (graph_sz1 hc)
  unfold qaF
  cases h1 : qav c.graph with
  | false => rw [h1] at hg; exact qvP ⟨hg, rfl, trivial⟩
  | true =>
  rw [h1] at hg
  have hn := qiR h1
  have hq : inInt .i64 (c.graph.workers * c.graph.workers) := by
    have h3 : c.graph.workers = 1 ∨ c.graph.workers = 2 ∨ c.graph.workers = 3 ∨ c.graph.workers = 4 := by omega
    rcases h3 with h3 | h3 | h3 | h3 <;> (rw [h3]; exact ⟨by decide, by decide⟩)
  cases h2 : ((c.workers.length : Int) == c.graph.workers) with
  | false => exact qvQ ⟨hg, rfl, by rw [List.length_map]; simpa using h2, trivial⟩
  | true =>
  have v2 : ((↑(c.workers.map Worker.e).length : Int) != c.graph.workers) = false := by rw [List.length_map]; simpa using h2
  cases h3 : ((c.links.length : Int) == c.graph.workers * c.graph.workers) with
  | false => exact qvR ⟨hg, rfl, v2, hq, by rw [List.length_map]; simpa using h3, trivial⟩
  | true =>
  have v3 : ((↑(c.links.map Link.e).length : Int) != c.graph.workers * c.graph.workers) = false := by rw [List.length_map]; simpa using h3
  cases h4 : (c.tokens.length == 4) with
  | false => exact qvS ⟨hg, rfl, v2, hq, v3, len4' h4, trivial⟩
  | true =>
  rcases qAD c hc (eq_of_beq h2) with ⟨h5, l5⟩ | ⟨h5, l5⟩
  case inr => rw [h5]; exact qvW ⟨hg, rfl, v2, hq, v3, len4 h4, l5, trivial⟩
  rw [h5]
  rcases qAE c hc hw hn.1 with ⟨h6, l6⟩ | ⟨h6, l6⟩
  case inr => rw [h6]; exact qv4 ⟨hg, rfl, v2, hq, v3, len4 h4, l5, l6, trivial⟩
  rw [h6]
  rcases qAF c hc hn with ⟨h7, l7⟩ | ⟨h7, l7⟩
  case inr => rw [h7]; exact qwc ⟨hg, rfl, v2, hq, v3, len4 h4, l5, l6, l7, trivial⟩
  rw [h7]
  rcases qAG c hc hn with ⟨h8, l8⟩ | ⟨h8, l8⟩
  · rw [h8]; exact qwi ⟨hg, rfl, v2, hq, v3, len4 h4, l5, l6, l7, l8, trivial⟩
  · rw [h8]; exact qwh ⟨hg, rfl, v2, hq, v3, len4 h4, l5, l6, l7, l8, trivial⟩
theorem qAI (c : Cluster) (hc : c.sz ≤ 8388608) (hn : (c.workers.length : Int) = c.graph.workers) :
    ((c.workers.any fun w => !qaN c.graph w) = false ∧ qam Tryz.prog (qaa Tryz.f64 0) (qbL c.graph.workers (c.workers.map Worker.e) 0 (c.graph.nodes.map Node.e) c.graph.workers c.graph.cap (c.workers.map Worker.e) (c.links.map Link.e) (c.tokens.map Token.e) (c.news.map News.e)) (.exit 0) (qeL c.graph.workers (c.graph.nodes.map Node.e) c.graph.workers c.graph.cap (c.workers.map Worker.e) (c.links.map Link.e) (c.tokens.map Token.e) (c.news.map News.e))) ∨
    ((c.workers.any fun w => !qaN c.graph w) = true ∧ qam Tryz.prog (qaa Tryz.f64 0) (qbL c.graph.workers (c.workers.map Worker.e) 0 (c.graph.nodes.map Node.e) c.graph.workers c.graph.cap (c.workers.map Worker.e) (c.links.map Link.e) (c.tokens.map Token.e) (c.news.map News.e)) .ret (qgw false)) := by
  have hl := Cluster.wlen_le hc
  have l := qaQ (P := Tryz.prog) (c := (qaa Tryz.f64 0)) c.workers (fun w => !qaN c.graph w) (fun i => qbL c.graph.workers (c.workers.map Worker.e) i (c.graph.nodes.map Node.e) c.graph.workers c.graph.cap (c.workers.map Worker.e) (c.links.map Link.e) (c.tokens.map Token.e) (c.news.map News.e)) (X := fun _ _ => qgw false) qao (qaf 0)
    (fun i a ha h => by
      have k := qmh c.graph a (graph_sz1 hc) (Cluster.worker_sz hc (qap ha))
      rw [show qaN c.graph a = true by simpa using h] at k
      exact qwo ⟨lt1 (lt_of ha), lt0, lt2 (lt_of ha), qac Worker.e ha, k, rfl, up1 (lt_of ha) hl, trivial⟩)
    (fun i a ha h => by
      have k := qmh c.graph a (graph_sz1 hc) (Cluster.worker_sz hc (qap ha))
      rw [show qaN c.graph a = false by simpa using h] at k
      exact qwn ⟨lt1 (lt_of ha), lt0, lt2 (lt_of ha), qac Worker.e ha, k, rfl, trivial⟩)
    (qwp ⟨ge1, trivial⟩)
  rcases l with ⟨_, _, h1, h2⟩ | ⟨_, _, _, _, _, _, h1, h2⟩
  · exact .inl ⟨h1, h2⟩
  · exact .inr ⟨h1, h2⟩
theorem qAJ (c : Cluster) (hc : c.sz ≤ 8388608) (hw : GotLe c) (hn : 1 ≤ c.graph.workers) :
    (anyI (qbN c.graph) 0 c.links = false ∧ qam Tryz.prog (qaa Tryz.f64 1) (qbd c.graph.workers (c.links.map Link.e) 0 (c.graph.nodes.map Node.e) c.graph.workers c.graph.cap (c.workers.map Worker.e) (c.links.map Link.e) (c.tokens.map Token.e) (c.news.map News.e)) (.exit 2) (qfo c.graph.workers (c.graph.nodes.map Node.e) c.graph.workers c.graph.cap (c.workers.map Worker.e) (c.links.map Link.e) (c.tokens.map Token.e) (c.news.map News.e))) ∨
    (anyI (qbN c.graph) 0 c.links = true ∧ qam Tryz.prog (qaa Tryz.f64 1) (qbd c.graph.workers (c.links.map Link.e) 0 (c.graph.nodes.map Node.e) c.graph.workers c.graph.cap (c.workers.map Worker.e) (c.links.map Link.e) (c.tokens.map Token.e) (c.news.map News.e)) .ret (qeM false)) := by
  have hl := Cluster.llen_le hc
  have kl : ∀ (i : Nat) (a : Link), c.links[i]? = some a → ∀ r, qbM a = r → Rt 124 [.agg a.e] [.one (B r)] := fun i a ha r h => h ▸ qAw a (Cluster.link_sz hc (qap ha)) (hw _ (qap ha))
  have kr : ∀ (i : Nat) (a : Link), c.links[i]? = some a → ∀ r, qaS c.graph a.queue = r → Rt 125 [.agg c.graph.e, .one (.sl 5 (a.queue.map Record.e))] [.one (B r)] := fun i a ha r h => qdV c.graph _ r h (graph_sz1 hc) (Cluster.link_sz hc (qap ha))
  exact qcZ (P := Tryz.prog) (c := (qaa Tryz.f64 1)) c.links (qbN c.graph) (fun i => qbd c.graph.workers (c.links.map Link.e) i (c.graph.nodes.map Node.e) c.graph.workers c.graph.cap (c.workers.map Worker.e) (c.links.map Link.e) (c.tokens.map Token.e) (c.news.map News.e)) qao (qaf 2)
    (fun i a ha h => by
      have hi := lt_of ha
      simp only [qbN, Bool.or_eq_false_iff, Bool.not_eq_false'] at h
      obtain ⟨h1, h2, h3, h4⟩ := h
      cases h5 : ((i : Int).tdiv c.graph.workers == (i : Int).tmod c.graph.workers) with
      | true =>
        rw [h5, Bool.true_and] at h4
        exact qwv ⟨lt1 (lt_of ha), lt0, lt2 (lt_of ha), qac Link.e ha, kl i a ha _ h1, rfl, h2, kr i a ha _ h3, rfl, by omega, qeO i _ (by omega) hn, by omega, h5, by rw [List.length_map]; exact h4, up1 hi hl, trivial⟩
      | false => exact qww ⟨lt1 (lt_of ha), lt0, lt2 (lt_of ha), qac Link.e ha, kl i a ha _ h1, rfl, h2, kr i a ha _ h3, rfl, by omega, qeO i _ (by omega) hn, by omega, h5, up1 hi hl, trivial⟩)
    (fun i a ha h => by
      have hi := lt_of ha
      cases h1 : qbM a with
      | false => exact qwr ⟨lt1 (lt_of ha), lt0, lt2 (lt_of ha), qac Link.e ha, kl i a ha _ h1, rfl, trivial⟩
      | true =>
      cases h2 : (a.cap != c.graph.cap) with
      | true => exact qws ⟨lt1 (lt_of ha), lt0, lt2 (lt_of ha), qac Link.e ha, kl i a ha _ h1, rfl, h2, trivial⟩
      | false =>
      cases h3 : qaS c.graph a.queue with
      | false => exact qwt ⟨lt1 (lt_of ha), lt0, lt2 (lt_of ha), qac Link.e ha, kl i a ha _ h1, rfl, h2, kr i a ha _ h3, rfl, trivial⟩
      | true =>
      simp only [qbN, h1, h2, h3, Bool.not_true, Bool.false_or, Bool.and_eq_true] at h
      exact qwu ⟨lt1 (lt_of ha), lt0, lt2 (lt_of ha), qac Link.e ha, kl i a ha _ h1, rfl, h2, kr i a ha _ h3, rfl, by omega, qeO i _ (by omega) hn, by omega, h.1, by rw [List.length_map]; exact h.2, trivial⟩)
    (qwx ⟨ge1, trivial⟩)
theorem qAK (c : Cluster) (hc : c.sz ≤ 8388608) (hn : 1 ≤ c.graph.workers ∧ c.graph.workers ≤ 4) :
    ((c.tokens.any (qbO c.graph.workers)) = false ∧ qam Tryz.prog (qaa Tryz.f64 2) (qbl c.graph.workers (c.tokens.map Token.e) 0 (c.graph.nodes.map Node.e) c.graph.workers c.graph.cap (c.workers.map Worker.e) (c.links.map Link.e) (c.tokens.map Token.e) (c.news.map News.e)) (.exit 4) (qgx c.graph.workers (c.graph.nodes.map Node.e) c.graph.workers c.graph.cap (c.workers.map Worker.e) (c.links.map Link.e) (c.tokens.map Token.e) (c.news.map News.e))) ∨
    ((c.tokens.any (qbO c.graph.workers)) = true ∧ qam Tryz.prog (qaa Tryz.f64 2) (qbl c.graph.workers (c.tokens.map Token.e) 0 (c.graph.nodes.map Node.e) c.graph.workers c.graph.cap (c.workers.map Worker.e) (c.links.map Link.e) (c.tokens.map Token.e) (c.news.map News.e)) .ret (qdQ false)) := by
  have hl := qmi hc
  have l := qaQ (P := Tryz.prog) (c := (qaa Tryz.f64 2)) c.tokens (qbO c.graph.workers) (fun i => qbl c.graph.workers (c.tokens.map Token.e) i (c.graph.nodes.map Node.e) c.graph.workers c.graph.cap (c.workers.map Worker.e) (c.links.map Link.e) (c.tokens.map Token.e) (c.news.map News.e)) (X := fun _ _ => qdQ false) qao (qaf 4)
    (fun i a ha h => by
      have hi := lt_of ha
      simp only [qbO, Bool.or_eq_false_iff, Bool.not_eq_false'] at h
      obtain ⟨h1, h2, h3⟩ := h
      cases hg : a.going with
      | false =>
        rw [hg, Bool.not_false, Bool.true_and] at h2
        exact qwC ⟨lt1 (lt_of ha), lt0, lt2 (lt_of ha), qac Token.e ha, ⟨by omega, by omega⟩, qaX _ _ _ true h1, rfl, by rw [hg]; rfl, h2, qaX _ _ _ true h3, rfl, up1 hi hl, trivial⟩
      | true => exact qwE ⟨lt1 (lt_of ha), lt0, lt2 (lt_of ha), qac Token.e ha, ⟨by omega, by omega⟩, qaX _ _ _ true h1, rfl, by rw [hg]; rfl, qaX _ _ _ true h3, rfl, up1 hi hl, trivial⟩)
    (fun i a ha h => by
      have hi := lt_of ha
      cases h1 : inR a.place 0 (c.graph.workers - 1) with
      | false => exact qwz ⟨lt1 (lt_of ha), lt0, lt2 (lt_of ha), qac Token.e ha, ⟨by omega, by omega⟩, qaX _ _ _ false h1, rfl, trivial⟩
      | true =>
      simp only [qbO, h1, Bool.not_true, Bool.false_or] at h
      cases hg : a.going with
      | false =>
        rw [hg, Bool.not_false, Bool.true_and] at h
        cases h2 : (a.place != 0) with
        | true => exact qwA ⟨lt1 (lt_of ha), lt0, lt2 (lt_of ha), qac Token.e ha, ⟨by omega, by omega⟩, qaX _ _ _ true h1, rfl, by rw [hg]; rfl, h2, trivial⟩
        | false =>
          rw [h2, Bool.false_or] at h
          exact qwB ⟨lt1 (lt_of ha), lt0, lt2 (lt_of ha), qac Token.e ha, ⟨by omega, by omega⟩, qaX _ _ _ true h1, rfl, by rw [hg]; rfl, h2, qaX _ _ _ false (by simpa using h), rfl, trivial⟩
      | true =>
        rw [hg, Bool.not_true, Bool.false_and, Bool.false_or] at h
        exact qwD ⟨lt1 (lt_of ha), lt0, lt2 (lt_of ha), qac Token.e ha, ⟨by omega, by omega⟩, qaX _ _ _ true h1, rfl, by rw [hg]; rfl, qaX _ _ _ false (by simpa using h), rfl, trivial⟩)
    (qwF ⟨ge1, trivial⟩)
  rcases l with ⟨_, _, h1, h2⟩ | ⟨_, _, _, _, _, _, h1, h2⟩
  · exact .inl ⟨h1, h2⟩
  · exact .inr ⟨h1, h2⟩
theorem qAL (c : Cluster) (hc : c.sz ≤ 8388608) (hn : 1 ≤ c.graph.workers ∧ c.graph.workers ≤ 4) :
    ((c.news.any (qa7 c.graph.workers)) = false ∧ qam Tryz.prog (qaa Tryz.f64 3) (qcy c.graph.workers (c.news.map News.e) 0) (.exit 6) qiI) ∨
    ((c.news.any (qa7 c.graph.workers)) = true ∧ qam Tryz.prog (qaa Tryz.f64 3) (qcy c.graph.workers (c.news.map News.e) 0) .ret (qfp false)) := by
  have hl := qgE hc
  have l := qaQ (P := Tryz.prog) (c := (qaa Tryz.f64 3)) c.news (qa7 c.graph.workers) (fun i => qcy c.graph.workers (c.news.map News.e) i) (X := fun _ _ => qfp false) qao (qaf 6)
    (fun i a ha h => by
      have hi := lt_of ha
      simp only [qa7, Bool.or_eq_false_iff, Bool.not_eq_false'] at h
      exact qwJ ⟨lt1 (lt_of ha), lt0, lt2 (lt_of ha), qac News.e ha, ⟨by omega, by omega⟩, qaX _ _ _ true h.1, rfl, qaX _ _ _ true h.2, rfl, up1 hi hl, trivial⟩)
    (fun i a ha h => by
      have hi := lt_of ha
      cases h1 : inR a.dest 0 (c.graph.workers - 1) with
      | false => exact qwH ⟨lt1 (lt_of ha), lt0, lt2 (lt_of ha), qac News.e ha, ⟨by omega, by omega⟩, qaX _ _ _ false h1, rfl, trivial⟩
      | true =>
        simp only [qa7, h1, Bool.not_true, Bool.false_or] at h
        exact qwI ⟨lt1 (lt_of ha), lt0, lt2 (lt_of ha), qac News.e ha, ⟨by omega, by omega⟩, qaX _ _ _ true h1, rfl, qaX _ _ _ false (by simpa using h), rfl, trivial⟩)
    (qwK ⟨ge1, trivial⟩)
  rcases l with ⟨_, _, h1, h2⟩ | ⟨_, _, _, _, _, _, h1, h2⟩
  · exact .inl ⟨h1, h2⟩
  · exact .inr ⟨h1, h2⟩
theorem qAM (c : Cluster) (hc : c.sz ≤ 8388608) (hw : GotLe c) : Rt 64 [.agg c.e] [.one (B (qaF c))] := by
  have hg := qAj c.graph (graph_sz1 hc)
  unfold qaF
  cases h1 : qav c.graph with
  | false => rw [h1] at hg; exact qwj ⟨hg, rfl, trivial⟩
  | true =>
  rw [h1] at hg
  have hn := qiR h1
  have hq : inInt .i64 (c.graph.workers * c.graph.workers) := by
    have h3 : c.graph.workers = 1 ∨ c.graph.workers = 2 ∨ c.graph.workers = 3 ∨ c.graph.workers = 4 := by omega
    rcases h3 with h3 | h3 | h3 | h3 <;> (rw [h3]; exact ⟨by decide, by decide⟩)
  cases h2 : ((c.workers.length : Int) == c.graph.workers) with
  | false => exact qwk ⟨hg, rfl, by rw [List.length_map]; simpa using h2, trivial⟩
  | true =>
  have v2 : ((↑(c.workers.map Worker.e).length : Int) != c.graph.workers) = false := by rw [List.length_map]; simpa using h2
  cases h3 : ((c.links.length : Int) == c.graph.workers * c.graph.workers) with
  | false => exact qwl ⟨hg, rfl, v2, hq, by rw [List.length_map]; simpa using h3, trivial⟩
  | true =>
  have v3 : ((↑(c.links.map Link.e).length : Int) != c.graph.workers * c.graph.workers) = false := by rw [List.length_map]; simpa using h3
  cases h4 : (c.tokens.length == 4) with
  | false => exact qwm ⟨hg, rfl, v2, hq, v3, len4' h4, trivial⟩
  | true =>
  rcases qAI c hc (eq_of_beq h2) with ⟨h5, l5⟩ | ⟨h5, l5⟩
  case inr => rw [h5]; exact qwq ⟨hg, rfl, v2, hq, v3, len4 h4, l5, trivial⟩
  rw [h5]
  rcases qAJ c hc hw hn.1 with ⟨h6, l6⟩ | ⟨h6, l6⟩
  case inr => rw [h6]; exact qwy ⟨hg, rfl, v2, hq, v3, len4 h4, l5, l6, trivial⟩
  rw [h6]
  rcases qAK c hc hn with ⟨h7, l7⟩ | ⟨h7, l7⟩
  case inr => rw [h7]; exact qwG ⟨hg, rfl, v2, hq, v3, len4 h4, l5, l6, l7, trivial⟩
  rw [h7]
  rcases qAL c hc hn with ⟨h8, l8⟩ | ⟨h8, l8⟩
  · rw [h8]; exact qwM ⟨hg, rfl, v2, hq, v3, len4 h4, l5, l6, l7, l8, trivial⟩
  · rw [h8]; exact qwL ⟨hg, rfl, v2, hq, v3, len4 h4, l5, l6, l7, l8, trivial⟩
end Go.Proofs.YtdanpadojemjeaaGreat
