/- ClusterOk, SafeCluster: what program and reference compute; the law SafeCluster answers true. -/
import Derived.Test.YtdanpadojemjeaaGreatP28
set_option linter.unusedVariables false
set_option linter.unusedSimpArgs false
namespace Go.Proofs.YtdanpadojemjeaaGreat
open Go.Sx Go.RowKit
theorem graph_sz1 {c : Cluster} (h : c.sz ≤ 8388608) : c.graph.sz ≤ 8388608 := by simp only [Cluster.sz] at h; omega
theorem qmB {c : Cluster} (h : c.sz ≤ 8388608) : c.tokens.length ≤ 8388608 := by simp only [Cluster.sz, szS] at h; omega
theorem qfF {c : Cluster} (h : c.sz ≤ 8388608) : c.news.length ≤ 8388608 := by simp only [Cluster.sz, szS] at h; omega
def qbT (g : Graph) (i : Nat) (l : Link) : Bool :=
  !qbS l || ((l.cap != g.cap) || (!qaX g l.queue || ((i : Int).tdiv g.workers == (i : Int).tmod g.workers && decide ((l.queue.length : Int) > 0))))
def qa9 (n : Int) (t : Token) : Bool := !inR t.place 0 (n - 1) || ((!t.going && t.place != 0) || !inR t.sum (-1000000) 1000000)
def qbp (n : Int) (x : News) : Bool := !inR x.dest 0 (n - 1) || !inR x.epoch 0 3
def qat (c : Cluster) : Bool :=
  qax c.graph && (((c.workers.length : Int) == c.graph.workers) && (((c.links.length : Int) == c.graph.workers * c.graph.workers) && ((c.tokens.length == 4) && (!(c.workers.any fun w => !qaQ c.graph w) && (!(anyI (qbT c.graph) 0 c.links) && (!(c.tokens.any (qa9 c.graph.workers)) && !(c.news.any (qbp c.graph.workers))))))))
theorem qfG {g : Graph} (h : qax g = true) : 1 ≤ g.workers ∧ g.workers ≤ 4 := by
  simp only [qax, Bool.and_eq_true, inR, decide_eq_true_eq] at h
  omega
theorem qeZ (i : Nat) (n : Int) (hi : i ≤ 8388608) (hn : 1 ≤ n) : inInt .i64 ((i : Int).tdiv n) := by
  have h1 : 0 ≤ (i : Int).tdiv n := Int.tdiv_nonneg (by omega) (by omega)
  have h2 : (i : Int).tdiv n ≤ (i : Int) := Int.tdiv_le_self _ (by omega)
  exact ⟨by omega, by omega⟩
theorem qBP {c : Cluster} (h : c.wf) {l : Link} (hl : l ∈ c.links) : l.got ≤ 9223372036854775807 := by
  have := (Cluster.link_wf h hl).got_ok
  simp only [inInt] at this
  exact this.2
def GotLe (c : Cluster) : Prop := ∀ l ∈ c.links, l.got ≤ 9223372036854775807
theorem GotLe.of {c : Cluster} (h : c.wf) : GotLe c := fun _ hl => qBP h hl
theorem qBQ (c : Cluster) (hc : c.sz ≤ 8388608) (hn : (c.workers.length : Int) = c.graph.workers) :
    ((c.workers.any fun w => !qaQ c.graph w) = false ∧ qam Tryz.prog (qaa Tryz.f113 0) (qbQ (c.graph.nodes.map Node.e) c.graph.workers c.graph.cap (c.workers.map Worker.e) (c.links.map Link.e) (c.tokens.map Token.e) (c.news.map News.e) 0) (.exit 0) (qeU (c.graph.nodes.map Node.e) c.graph.workers c.graph.cap (c.workers.map Worker.e) (c.links.map Link.e) (c.tokens.map Token.e) (c.news.map News.e))) ∨
    ((c.workers.any fun w => !qaQ c.graph w) = true ∧ qam Tryz.prog (qaa Tryz.f113 0) (qbQ (c.graph.nodes.map Node.e) c.graph.workers c.graph.cap (c.workers.map Worker.e) (c.links.map Link.e) (c.tokens.map Token.e) (c.news.map News.e) 0) .ret (qgJ false)) := by
  have hl := Cluster.wlen_le hc
  have l := qaV (P := Tryz.prog) (c := (qaa Tryz.f113 0)) c.workers (fun w => !qaQ c.graph w) (fun i => qbQ (c.graph.nodes.map Node.e) c.graph.workers c.graph.cap (c.workers.map Worker.e) (c.links.map Link.e) (c.tokens.map Token.e) (c.news.map News.e) i) (X := fun _ _ => qgJ false) qao (qaf 0)
    (fun i a ha h => by
      have k := qmy c.graph a (graph_sz1 hc) (Cluster.worker_sz hc (qap ha))
      rw [show qaQ c.graph a = true by simpa using h] at k
      exact qw7 ⟨dT (by have := lt_of ha; omega), lt0, lt2 (lt_of ha), qac Worker.e ha, k, rfl, up1 (lt_of ha) hl, trivial⟩)
    (fun i a ha h => by
      have k := qmy c.graph a (graph_sz1 hc) (Cluster.worker_sz hc (qap ha))
      rw [show qaQ c.graph a = false by simpa using h] at k
      exact qw6 ⟨dT (by have := lt_of ha; omega), lt0, lt2 (lt_of ha), qac Worker.e ha, k, rfl, trivial⟩)
    (qw8 ⟨dF (by omega), trivial⟩)
  rcases l with ⟨_, _, h1, h2⟩ | ⟨_, _, _, _, _, _, h1, h2⟩
  · exact .inl ⟨h1, h2⟩
  · exact .inr ⟨h1, h2⟩
theorem qBR (c : Cluster) (hc : c.sz ≤ 8388608) (hw : GotLe c) (hn : 1 ≤ c.graph.workers) :
    (anyI (qbT c.graph) 0 c.links = false ∧ qam Tryz.prog (qaa Tryz.f113 1) (qbd c.graph.workers 0 (c.graph.nodes.map Node.e) c.graph.workers c.graph.cap (c.workers.map Worker.e) (c.links.map Link.e) (c.tokens.map Token.e) (c.news.map News.e)) (.exit 2) (qfz c.graph.workers (c.graph.nodes.map Node.e) c.graph.workers c.graph.cap (c.workers.map Worker.e) (c.links.map Link.e) (c.tokens.map Token.e) (c.news.map News.e))) ∨
    (anyI (qbT c.graph) 0 c.links = true ∧ qam Tryz.prog (qaa Tryz.f113 1) (qbd c.graph.workers 0 (c.graph.nodes.map Node.e) c.graph.workers c.graph.cap (c.workers.map Worker.e) (c.links.map Link.e) (c.tokens.map Token.e) (c.news.map News.e)) .ret (qeV false)) := by
  have hl := Cluster.llen_le hc
  have kl : ∀ (i : Nat) (a : Link), c.links[i]? = some a → ∀ r, qbS a = r → Rt 188 [.agg a.e] [.one (B r)] := fun i a ha r h => h ▸ qBK a (Cluster.link_sz hc (qap ha))
  have kr : ∀ (i : Nat) (a : Link), c.links[i]? = some a → ∀ r, qaX c.graph a.queue = r → Rt 189 [.agg c.graph.e, .one (.sl 5 (a.queue.map Record.e))] [.one (B r)] := fun i a ha r h => qd3 c.graph _ r h (graph_sz1 hc) (Cluster.link_sz hc (qap ha))
  exact qc6 (P := Tryz.prog) (c := (qaa Tryz.f113 1)) c.links (qbT c.graph) (fun i => qbd c.graph.workers i (c.graph.nodes.map Node.e) c.graph.workers c.graph.cap (c.workers.map Worker.e) (c.links.map Link.e) (c.tokens.map Token.e) (c.news.map News.e)) qao (qaf 2)
    (fun i a ha h => by
      have hi := lt_of ha
      simp only [qbT, Bool.or_eq_false_iff, Bool.not_eq_false'] at h
      obtain ⟨h1, h2, h3, h4⟩ := h
      cases h5 : ((i : Int).tdiv c.graph.workers == (i : Int).tmod c.graph.workers) with
      | true =>
        rw [h5, Bool.true_and] at h4
        exact qxe ⟨lt1 (lt_of ha), lt0, lt2 (lt_of ha), qac Link.e ha, kl i a ha _ h1, rfl, h2, kr i a ha _ h3, rfl, by omega, qeZ i _ (by omega) hn, by omega, h5, by rw [List.length_map]; exact h4, up1 hi hl, trivial⟩
      | false => exact qxf ⟨lt1 (lt_of ha), lt0, lt2 (lt_of ha), qac Link.e ha, kl i a ha _ h1, rfl, h2, kr i a ha _ h3, rfl, by omega, qeZ i _ (by omega) hn, by omega, h5, up1 hi hl, trivial⟩)
    (fun i a ha h => by
      have hi := lt_of ha
      cases h1 : qbS a with
      | false => exact qxa ⟨lt1 (lt_of ha), lt0, lt2 (lt_of ha), qac Link.e ha, kl i a ha _ h1, rfl, trivial⟩
      | true =>
      cases h2 : (a.cap != c.graph.cap) with
      | true => exact qxb ⟨lt1 (lt_of ha), lt0, lt2 (lt_of ha), qac Link.e ha, kl i a ha _ h1, rfl, h2, trivial⟩
      | false =>
      cases h3 : qaX c.graph a.queue with
      | false => exact qxc ⟨lt1 (lt_of ha), lt0, lt2 (lt_of ha), qac Link.e ha, kl i a ha _ h1, rfl, h2, kr i a ha _ h3, rfl, trivial⟩
      | true =>
      simp only [qbT, h1, h2, h3, Bool.not_true, Bool.false_or, Bool.and_eq_true] at h
      exact qxd ⟨lt1 (lt_of ha), lt0, lt2 (lt_of ha), qac Link.e ha, kl i a ha _ h1, rfl, h2, kr i a ha _ h3, rfl, by omega, qeZ i _ (by omega) hn, by omega, h.1, by rw [List.length_map]; exact h.2, trivial⟩)
    (qxg ⟨ge1, trivial⟩)
theorem qBS (c : Cluster) (hc : c.sz ≤ 8388608) (hn : 1 ≤ c.graph.workers ∧ c.graph.workers ≤ 4) :
    ((c.tokens.any (qa9 c.graph.workers)) = false ∧ qam Tryz.prog (qaa Tryz.f113 2) (qbm c.graph.workers (c.graph.nodes.map Node.e) c.graph.workers c.graph.cap (c.workers.map Worker.e) (c.links.map Link.e) (c.tokens.map Token.e) (c.news.map News.e) 0) (.exit 4) (qgK c.graph.workers (c.graph.nodes.map Node.e) c.graph.workers c.graph.cap (c.workers.map Worker.e) (c.links.map Link.e) (c.tokens.map Token.e) (c.news.map News.e))) ∨
    ((c.tokens.any (qa9 c.graph.workers)) = true ∧ qam Tryz.prog (qaa Tryz.f113 2) (qbm c.graph.workers (c.graph.nodes.map Node.e) c.graph.workers c.graph.cap (c.workers.map Worker.e) (c.links.map Link.e) (c.tokens.map Token.e) (c.news.map News.e) 0) .ret (qdY false)) := by
  have hl := qmB hc
  have l := qaV (P := Tryz.prog) (c := (qaa Tryz.f113 2)) c.tokens (qa9 c.graph.workers) (fun i => qbm c.graph.workers (c.graph.nodes.map Node.e) c.graph.workers c.graph.cap (c.workers.map Worker.e) (c.links.map Link.e) (c.tokens.map Token.e) (c.news.map News.e) i) (X := fun _ _ => qdY false) qao (qaf 4)
    (fun i a ha h => by
      have hi := lt_of ha
      simp only [qa9, Bool.or_eq_false_iff, Bool.not_eq_false'] at h
      obtain ⟨h1, h2, h3⟩ := h
      cases hg : a.going with
      | false =>
        rw [hg, Bool.not_false, Bool.true_and] at h2
        exact qxl ⟨lt1 (lt_of ha), lt0, lt2 (lt_of ha), qac Token.e ha, ⟨by omega, by omega⟩, qaT _ _ _ true h1, rfl, lt0, lt2 (lt_of ha), qac Token.e ha, by rw [hg]; rfl, lt0, lt2 (lt_of ha), qac Token.e ha, h2, lt0, lt2 (lt_of ha), qac Token.e ha, qaT _ _ _ true h3, rfl, up1 hi hl, trivial⟩
      | true => exact qxn ⟨lt1 (lt_of ha), lt0, lt2 (lt_of ha), qac Token.e ha, ⟨by omega, by omega⟩, qaT _ _ _ true h1, rfl, lt0, lt2 (lt_of ha), qac Token.e ha, by rw [hg]; rfl, lt0, lt2 (lt_of ha), qac Token.e ha, qaT _ _ _ true h3, rfl, up1 hi hl, trivial⟩)
    (fun i a ha h => by
      have hi := lt_of ha
      cases h1 : inR a.place 0 (c.graph.workers - 1) with
      | false => exact qxi ⟨lt1 (lt_of ha), lt0, lt2 (lt_of ha), qac Token.e ha, ⟨by omega, by omega⟩, qaT _ _ _ false h1, rfl, trivial⟩
      | true =>
      simp only [qa9, h1, Bool.not_true, Bool.false_or] at h
      cases hg : a.going with
      | false =>
        rw [hg, Bool.not_false, Bool.true_and] at h
        cases h2 : (a.place != 0) with
        | true => exact qxj ⟨lt1 (lt_of ha), lt0, lt2 (lt_of ha), qac Token.e ha, ⟨by omega, by omega⟩, qaT _ _ _ true h1, rfl, lt0, lt2 (lt_of ha), qac Token.e ha, by rw [hg]; rfl, lt0, lt2 (lt_of ha), qac Token.e ha, h2, trivial⟩
        | false =>
          rw [h2, Bool.false_or] at h
          exact qxk ⟨lt1 (lt_of ha), lt0, lt2 (lt_of ha), qac Token.e ha, ⟨by omega, by omega⟩, qaT _ _ _ true h1, rfl, lt0, lt2 (lt_of ha), qac Token.e ha, by rw [hg]; rfl, lt0, lt2 (lt_of ha), qac Token.e ha, h2, lt0, lt2 (lt_of ha), qac Token.e ha, qaT _ _ _ false (by simpa using h), rfl, trivial⟩
      | true =>
        rw [hg, Bool.not_true, Bool.false_and, Bool.false_or] at h
        exact qxm ⟨lt1 (lt_of ha), lt0, lt2 (lt_of ha), qac Token.e ha, ⟨by omega, by omega⟩, qaT _ _ _ true h1, rfl, lt0, lt2 (lt_of ha), qac Token.e ha, by rw [hg]; rfl, lt0, lt2 (lt_of ha), qac Token.e ha, qaT _ _ _ false (by simpa using h), rfl, trivial⟩)
    (qxo ⟨ge1, trivial⟩)
  rcases l with ⟨_, _, h1, h2⟩ | ⟨_, _, _, _, _, _, h1, h2⟩
  · exact .inl ⟨h1, h2⟩
  · exact .inr ⟨h1, h2⟩
theorem qBT (c : Cluster) (hc : c.sz ≤ 8388608) (hn : 1 ≤ c.graph.workers ∧ c.graph.workers ≤ 4) :
    ((c.news.any (qbp c.graph.workers)) = false ∧ qam Tryz.prog (qaa Tryz.f113 3) (qcA c.graph.workers (c.graph.nodes.map Node.e) c.graph.workers c.graph.cap (c.workers.map Worker.e) (c.links.map Link.e) (c.tokens.map Token.e) (c.news.map News.e) 0) (.exit 6) qiU) ∨
    ((c.news.any (qbp c.graph.workers)) = true ∧ qam Tryz.prog (qaa Tryz.f113 3) (qcA c.graph.workers (c.graph.nodes.map Node.e) c.graph.workers c.graph.cap (c.workers.map Worker.e) (c.links.map Link.e) (c.tokens.map Token.e) (c.news.map News.e) 0) .ret (qfA false)) := by
  have hl := qfF hc
  have l := qaV (P := Tryz.prog) (c := (qaa Tryz.f113 3)) c.news (qbp c.graph.workers) (fun i => qcA c.graph.workers (c.graph.nodes.map Node.e) c.graph.workers c.graph.cap (c.workers.map Worker.e) (c.links.map Link.e) (c.tokens.map Token.e) (c.news.map News.e) i) (X := fun _ _ => qfA false) qao (qaf 6)
    (fun i a ha h => by
      have hi := lt_of ha
      simp only [qbp, Bool.or_eq_false_iff, Bool.not_eq_false'] at h
      exact qxs ⟨lt1 (lt_of ha), lt0, lt2 (lt_of ha), qac News.e ha, ⟨by omega, by omega⟩, qaT _ _ _ true h.1, rfl, lt0, lt2 (lt_of ha), qac News.e ha, qaT _ _ _ true h.2, rfl, up1 hi hl, trivial⟩)
    (fun i a ha h => by
      have hi := lt_of ha
      cases h1 : inR a.dest 0 (c.graph.workers - 1) with
      | false => exact qxq ⟨lt1 (lt_of ha), lt0, lt2 (lt_of ha), qac News.e ha, ⟨by omega, by omega⟩, qaT _ _ _ false h1, rfl, trivial⟩
      | true =>
        simp only [qbp, h1, Bool.not_true, Bool.false_or] at h
        exact qxr ⟨lt1 (lt_of ha), lt0, lt2 (lt_of ha), qac News.e ha, ⟨by omega, by omega⟩, qaT _ _ _ true h1, rfl, lt0, lt2 (lt_of ha), qac News.e ha, qaT _ _ _ false (by simpa using h), rfl, trivial⟩)
    (qxt ⟨ge1, trivial⟩)
  rcases l with ⟨_, _, h1, h2⟩ | ⟨_, _, _, _, _, _, h1, h2⟩
  · exact .inl ⟨h1, h2⟩
  · exact .inr ⟨h1, h2⟩
theorem qBU (c : Cluster) (hc : c.sz ≤ 8388608) (hw : GotLe c) : Rt 113 [.agg c.e] [.one (B (qat c))] := by
  have hg := qBv c.graph (graph_sz1 hc)
  unfold qat
  cases h1 : qax c.graph with
  | false => rw [h1] at hg; exact qw2 ⟨hg, rfl, trivial⟩
  | true =>
  rw [h1] at hg
  have hn := qfG h1
  have hq : inInt .i64 (c.graph.workers * c.graph.workers) := by
    have h3 : c.graph.workers = 1 ∨ c.graph.workers = 2 ∨ c.graph.workers = 3 ∨ c.graph.workers = 4 := by omega
    rcases h3 with h3 | h3 | h3 | h3 <;> (rw [h3]; exact ⟨by decide, by decide⟩)
  cases h2 : ((c.workers.length : Int) == c.graph.workers) with
  | false => exact qw3 ⟨hg, rfl, by rw [List.length_map]; simpa using h2, trivial⟩
  | true =>
  have v2 : ((↑(c.workers.map Worker.e).length : Int) != c.graph.workers) = false := by rw [List.length_map]; simpa using h2
  cases h3 : ((c.links.length : Int) == c.graph.workers * c.graph.workers) with
  | false => exact qw4 ⟨hg, rfl, v2, hq, by rw [List.length_map]; simpa using h3, trivial⟩
  | true =>
  have v3 : ((↑(c.links.map Link.e).length : Int) != c.graph.workers * c.graph.workers) = false := by rw [List.length_map]; simpa using h3
  cases h4 : (c.tokens.length == 4) with
  | false => exact qw5 ⟨hg, rfl, v2, hq, v3, len4' h4, trivial⟩
  | true =>
  rcases qBQ c hc (eq_of_beq h2) with ⟨h5, l5⟩ | ⟨h5, l5⟩
  case inr => rw [h5]; exact qw9 ⟨hg, rfl, v2, hq, v3, len4 h4, l5, trivial⟩
  rw [h5]
  rcases qBR c hc hw hn.1 with ⟨h6, l6⟩ | ⟨h6, l6⟩
  case inr => rw [h6]; exact qxh ⟨hg, rfl, v2, hq, v3, len4 h4, l5, l6, trivial⟩
  rw [h6]
  rcases qBS c hc hn with ⟨h7, l7⟩ | ⟨h7, l7⟩
  case inr => rw [h7]; exact qxp ⟨hg, rfl, v2, hq, v3, len4 h4, l5, l6, l7, trivial⟩
  rw [h7]
  rcases qBT c hc hn with ⟨h8, l8⟩ | ⟨h8, l8⟩
  · rw [h8]; exact qxv ⟨hg, rfl, v2, hq, v3, len4 h4, l5, l6, l7, l8, trivial⟩
  · rw [h8]; exact qxu ⟨hg, rfl, v2, hq, v3, len4 h4, l5, l6, l7, l8, trivial⟩
theorem qBV (c : Cluster) (hc : c.sz ≤ 8388608) (hn : (c.workers.length : Int) = c.graph.workers) :
    ((c.workers.any fun w => !qaQ c.graph w) = false ∧ qam Tryz.prog (qaa Tryz.f64 0) (qbR c.graph.workers (c.workers.map Worker.e) 0 (c.graph.nodes.map Node.e) c.graph.workers c.graph.cap (c.workers.map Worker.e) (c.links.map Link.e) (c.tokens.map Token.e) (c.news.map News.e)) (.exit 0) (qeW c.graph.workers (c.graph.nodes.map Node.e) c.graph.workers c.graph.cap (c.workers.map Worker.e) (c.links.map Link.e) (c.tokens.map Token.e) (c.news.map News.e))) ∨
    ((c.workers.any fun w => !qaQ c.graph w) = true ∧ qam Tryz.prog (qaa Tryz.f64 0) (qbR c.graph.workers (c.workers.map Worker.e) 0 (c.graph.nodes.map Node.e) c.graph.workers c.graph.cap (c.workers.map Worker.e) (c.links.map Link.e) (c.tokens.map Token.e) (c.news.map News.e)) .ret (qgL false)) := by
  have hl := Cluster.wlen_le hc
  have l := qaV (P := Tryz.prog) (c := (qaa Tryz.f64 0)) c.workers (fun w => !qaQ c.graph w) (fun i => qbR c.graph.workers (c.workers.map Worker.e) i (c.graph.nodes.map Node.e) c.graph.workers c.graph.cap (c.workers.map Worker.e) (c.links.map Link.e) (c.tokens.map Token.e) (c.news.map News.e)) (X := fun _ _ => qgL false) qao (qaf 0)
    (fun i a ha h => by
      have k := qmA c.graph a (graph_sz1 hc) (Cluster.worker_sz hc (qap ha))
      rw [show qaQ c.graph a = true by simpa using h] at k
      exact qxB ⟨lt1 (lt_of ha), lt0, lt2 (lt_of ha), qac Worker.e ha, k, rfl, up1 (lt_of ha) hl, trivial⟩)
    (fun i a ha h => by
      have k := qmA c.graph a (graph_sz1 hc) (Cluster.worker_sz hc (qap ha))
      rw [show qaQ c.graph a = false by simpa using h] at k
      exact qxA ⟨lt1 (lt_of ha), lt0, lt2 (lt_of ha), qac Worker.e ha, k, rfl, trivial⟩)
    (qxC ⟨ge1, trivial⟩)
  rcases l with ⟨_, _, h1, h2⟩ | ⟨_, _, _, _, _, _, h1, h2⟩
  · exact .inl ⟨h1, h2⟩
  · exact .inr ⟨h1, h2⟩
theorem qBW (c : Cluster) (hc : c.sz ≤ 8388608) (hw : GotLe c) (hn : 1 ≤ c.graph.workers) :
    (anyI (qbT c.graph) 0 c.links = false ∧ qam Tryz.prog (qaa Tryz.f64 1) (qbe c.graph.workers (c.links.map Link.e) 0 (c.graph.nodes.map Node.e) c.graph.workers c.graph.cap (c.workers.map Worker.e) (c.links.map Link.e) (c.tokens.map Token.e) (c.news.map News.e)) (.exit 2) (qfB c.graph.workers (c.graph.nodes.map Node.e) c.graph.workers c.graph.cap (c.workers.map Worker.e) (c.links.map Link.e) (c.tokens.map Token.e) (c.news.map News.e))) ∨
    (anyI (qbT c.graph) 0 c.links = true ∧ qam Tryz.prog (qaa Tryz.f64 1) (qbe c.graph.workers (c.links.map Link.e) 0 (c.graph.nodes.map Node.e) c.graph.workers c.graph.cap (c.workers.map Worker.e) (c.links.map Link.e) (c.tokens.map Token.e) (c.news.map News.e)) .ret (qeX false)) := by
  have hl := Cluster.llen_le hc
  have kl : ∀ (i : Nat) (a : Link), c.links[i]? = some a → ∀ r, qbS a = r → Rt 124 [.agg a.e] [.one (B r)] := fun i a ha r h => h ▸ qBJ a (Cluster.link_sz hc (qap ha)) (hw _ (qap ha))
  have kr : ∀ (i : Nat) (a : Link), c.links[i]? = some a → ∀ r, qaX c.graph a.queue = r → Rt 125 [.agg c.graph.e, .one (.sl 5 (a.queue.map Record.e))] [.one (B r)] := fun i a ha r h => qd4 c.graph _ r h (graph_sz1 hc) (Cluster.link_sz hc (qap ha))
  exact qc6 (P := Tryz.prog) (c := (qaa Tryz.f64 1)) c.links (qbT c.graph) (fun i => qbe c.graph.workers (c.links.map Link.e) i (c.graph.nodes.map Node.e) c.graph.workers c.graph.cap (c.workers.map Worker.e) (c.links.map Link.e) (c.tokens.map Token.e) (c.news.map News.e)) qao (qaf 2)
    (fun i a ha h => by
      have hi := lt_of ha
      simp only [qbT, Bool.or_eq_false_iff, Bool.not_eq_false'] at h
      obtain ⟨h1, h2, h3, h4⟩ := h
      cases h5 : ((i : Int).tdiv c.graph.workers == (i : Int).tmod c.graph.workers) with
      | true =>
        rw [h5, Bool.true_and] at h4
        exact qxI ⟨lt1 (lt_of ha), lt0, lt2 (lt_of ha), qac Link.e ha, kl i a ha _ h1, rfl, h2, kr i a ha _ h3, rfl, by omega, qeZ i _ (by omega) hn, by omega, h5, by rw [List.length_map]; exact h4, up1 hi hl, trivial⟩
      | false => exact qxJ ⟨lt1 (lt_of ha), lt0, lt2 (lt_of ha), qac Link.e ha, kl i a ha _ h1, rfl, h2, kr i a ha _ h3, rfl, by omega, qeZ i _ (by omega) hn, by omega, h5, up1 hi hl, trivial⟩)
    (fun i a ha h => by
      have hi := lt_of ha
      cases h1 : qbS a with
      | false => exact qxE ⟨lt1 (lt_of ha), lt0, lt2 (lt_of ha), qac Link.e ha, kl i a ha _ h1, rfl, trivial⟩
      | true =>
      cases h2 : (a.cap != c.graph.cap) with
      | true => exact qxF ⟨lt1 (lt_of ha), lt0, lt2 (lt_of ha), qac Link.e ha, kl i a ha _ h1, rfl, h2, trivial⟩
      | false =>
      cases h3 : qaX c.graph a.queue with
      | false => exact qxG ⟨lt1 (lt_of ha), lt0, lt2 (lt_of ha), qac Link.e ha, kl i a ha _ h1, rfl, h2, kr i a ha _ h3, rfl, trivial⟩
      | true =>
      simp only [qbT, h1, h2, h3, Bool.not_true, Bool.false_or, Bool.and_eq_true] at h
      exact qxH ⟨lt1 (lt_of ha), lt0, lt2 (lt_of ha), qac Link.e ha, kl i a ha _ h1, rfl, h2, kr i a ha _ h3, rfl, by omega, qeZ i _ (by omega) hn, by omega, h.1, by rw [List.length_map]; exact h.2, trivial⟩)
    (qxK ⟨ge1, trivial⟩)
theorem qBX (c : Cluster) (hc : c.sz ≤ 8388608) (hn : 1 ≤ c.graph.workers ∧ c.graph.workers ≤ 4) :
    ((c.tokens.any (qa9 c.graph.workers)) = false ∧ qam Tryz.prog (qaa Tryz.f64 2) (qbn c.graph.workers (c.tokens.map Token.e) 0 (c.graph.nodes.map Node.e) c.graph.workers c.graph.cap (c.workers.map Worker.e) (c.links.map Link.e) (c.tokens.map Token.e) (c.news.map News.e)) (.exit 4) (qgM c.graph.workers (c.graph.nodes.map Node.e) c.graph.workers c.graph.cap (c.workers.map Worker.e) (c.links.map Link.e) (c.tokens.map Token.e) (c.news.map News.e))) ∨
    ((c.tokens.any (qa9 c.graph.workers)) = true ∧ qam Tryz.prog (qaa Tryz.f64 2) (qbn c.graph.workers (c.tokens.map Token.e) 0 (c.graph.nodes.map Node.e) c.graph.workers c.graph.cap (c.workers.map Worker.e) (c.links.map Link.e) (c.tokens.map Token.e) (c.news.map News.e)) .ret (qdZ false)) := by
  have hl := qmB hc
  have l := qaV (P := Tryz.prog) (c := (qaa Tryz.f64 2)) c.tokens (qa9 c.graph.workers) (fun i => qbn c.graph.workers (c.tokens.map Token.e) i (c.graph.nodes.map Node.e) c.graph.workers c.graph.cap (c.workers.map Worker.e) (c.links.map Link.e) (c.tokens.map Token.e) (c.news.map News.e)) (X := fun _ _ => qdZ false) qao (qaf 4)
    (fun i a ha h => by
      have hi := lt_of ha
      simp only [qa9, Bool.or_eq_false_iff, Bool.not_eq_false'] at h
      obtain ⟨h1, h2, h3⟩ := h
      cases hg : a.going with
      | false =>
        rw [hg, Bool.not_false, Bool.true_and] at h2
        exact qxP ⟨lt1 (lt_of ha), lt0, lt2 (lt_of ha), qac Token.e ha, ⟨by omega, by omega⟩, qaM _ _ _ true h1, rfl, by rw [hg]; rfl, h2, qaM _ _ _ true h3, rfl, up1 hi hl, trivial⟩
      | true => exact qxR ⟨lt1 (lt_of ha), lt0, lt2 (lt_of ha), qac Token.e ha, ⟨by omega, by omega⟩, qaM _ _ _ true h1, rfl, by rw [hg]; rfl, qaM _ _ _ true h3, rfl, up1 hi hl, trivial⟩)
    (fun i a ha h => by
      have hi := lt_of ha
      cases h1 : inR a.place 0 (c.graph.workers - 1) with
      | false => exact qxM ⟨lt1 (lt_of ha), lt0, lt2 (lt_of ha), qac Token.e ha, ⟨by omega, by omega⟩, qaM _ _ _ false h1, rfl, trivial⟩
      | true =>
      simp only [qa9, h1, Bool.not_true, Bool.false_or] at h
      cases hg : a.going with
      | false =>
        rw [hg, Bool.not_false, Bool.true_and] at h
        cases h2 : (a.place != 0) with
        | true => exact qxN ⟨lt1 (lt_of ha), lt0, lt2 (lt_of ha), qac Token.e ha, ⟨by omega, by omega⟩, qaM _ _ _ true h1, rfl, by rw [hg]; rfl, h2, trivial⟩
        | false =>
          rw [h2, Bool.false_or] at h
          exact qxO ⟨lt1 (lt_of ha), lt0, lt2 (lt_of ha), qac Token.e ha, ⟨by omega, by omega⟩, qaM _ _ _ true h1, rfl, by rw [hg]; rfl, h2, qaM _ _ _ false (by simpa using h), rfl, trivial⟩
      | true =>
        rw [hg, Bool.not_true, Bool.false_and, Bool.false_or] at h
        exact qxQ ⟨lt1 (lt_of ha), lt0, lt2 (lt_of ha), qac Token.e ha, ⟨by omega, by omega⟩, qaM _ _ _ true h1, rfl, by rw [hg]; rfl, qaM _ _ _ false (by simpa using h), rfl, trivial⟩)
    (qxS ⟨ge1, trivial⟩)
  rcases l with ⟨_, _, h1, h2⟩ | ⟨_, _, _, _, _, _, h1, h2⟩
  · exact .inl ⟨h1, h2⟩
  · exact .inr ⟨h1, h2⟩
theorem qBY (c : Cluster) (hc : c.sz ≤ 8388608) (hn : 1 ≤ c.graph.workers ∧ c.graph.workers ≤ 4) :
    ((c.news.any (qbp c.graph.workers)) = false ∧ qam Tryz.prog (qaa Tryz.f64 3) (qcB c.graph.workers (c.news.map News.e) 0) (.exit 6) qiV) ∨
    ((c.news.any (qbp c.graph.workers)) = true ∧ qam Tryz.prog (qaa Tryz.f64 3) (qcB c.graph.workers (c.news.map News.e) 0) .ret (qfC false)) := by
  have hl := qfF hc
  have l := qaV (P := Tryz.prog) (c := (qaa Tryz.f64 3)) c.news (qbp c.graph.workers) (fun i => qcB c.graph.workers (c.news.map News.e) i) (X := fun _ _ => qfC false) qao (qaf 6)
    (fun i a ha h => by
      have hi := lt_of ha
      simp only [qbp, Bool.or_eq_false_iff, Bool.not_eq_false'] at h
      exact qxW ⟨lt1 (lt_of ha), lt0, lt2 (lt_of ha), qac News.e ha, ⟨by omega, by omega⟩, qaM _ _ _ true h.1, rfl, qaM _ _ _ true h.2, rfl, up1 hi hl, trivial⟩)
    (fun i a ha h => by
      have hi := lt_of ha
      cases h1 : inR a.dest 0 (c.graph.workers - 1) with
      | false => exact qxU ⟨lt1 (lt_of ha), lt0, lt2 (lt_of ha), qac News.e ha, ⟨by omega, by omega⟩, qaM _ _ _ false h1, rfl, trivial⟩
      | true =>
        simp only [qbp, h1, Bool.not_true, Bool.false_or] at h
        exact qxV ⟨lt1 (lt_of ha), lt0, lt2 (lt_of ha), qac News.e ha, ⟨by omega, by omega⟩, qaM _ _ _ true h1, rfl, qaM _ _ _ false (by simpa using h), rfl, trivial⟩)
    (qxX ⟨ge1, trivial⟩)
  rcases l with ⟨_, _, h1, h2⟩ | ⟨_, _, _, _, _, _, h1, h2⟩
  · exact .inl ⟨h1, h2⟩
  · exact .inr ⟨h1, h2⟩
theorem qBZ (c : Cluster) (hc : c.sz ≤ 8388608) (hw : GotLe c) : Rt 64 [.agg c.e] [.one (B (qat c))] := by
  have hg := qBw c.graph (graph_sz1 hc)
  unfold qat
  cases h1 : qax c.graph with
  | false => rw [h1] at hg; exact qxw ⟨hg, rfl, trivial⟩
  | true =>
  rw [h1] at hg
  have hn := qfG h1
  have hq : inInt .i64 (c.graph.workers * c.graph.workers) := by
    have h3 : c.graph.workers = 1 ∨ c.graph.workers = 2 ∨ c.graph.workers = 3 ∨ c.graph.workers = 4 := by omega
    rcases h3 with h3 | h3 | h3 | h3 <;> (rw [h3]; exact ⟨by decide, by decide⟩)
  cases h2 : ((c.workers.length : Int) == c.graph.workers) with
  | false => exact qxx ⟨hg, rfl, by rw [List.length_map]; simpa using h2, trivial⟩
  | true =>
  have v2 : ((↑(c.workers.map Worker.e).length : Int) != c.graph.workers) = false := by rw [List.length_map]; simpa using h2
  cases h3 : ((c.links.length : Int) == c.graph.workers * c.graph.workers) with
  | false => exact qxy ⟨hg, rfl, v2, hq, by rw [List.length_map]; simpa using h3, trivial⟩
  | true =>
  have v3 : ((↑(c.links.map Link.e).length : Int) != c.graph.workers * c.graph.workers) = false := by rw [List.length_map]; simpa using h3
  cases h4 : (c.tokens.length == 4) with
  | false => exact qxz ⟨hg, rfl, v2, hq, v3, len4' h4, trivial⟩
  | true =>
  rcases qBV c hc (eq_of_beq h2) with ⟨h5, l5⟩ | ⟨h5, l5⟩
  case inr => rw [h5]; exact qxD ⟨hg, rfl, v2, hq, v3, len4 h4, l5, trivial⟩
  rw [h5]
  rcases qBW c hc hw hn.1 with ⟨h6, l6⟩ | ⟨h6, l6⟩
  case inr => rw [h6]; exact qxL ⟨hg, rfl, v2, hq, v3, len4 h4, l5, l6, trivial⟩
  rw [h6]
  rcases qBX c hc hn with ⟨h7, l7⟩ | ⟨h7, l7⟩
  case inr => rw [h7]; exact qxT ⟨hg, rfl, v2, hq, v3, len4 h4, l5, l6, l7, trivial⟩
  rw [h7]
  rcases qBY c hc hn with ⟨h8, l8⟩ | ⟨h8, l8⟩
  · rw [h8]; exact qxZ ⟨hg, rfl, v2, hq, v3, len4 h4, l5, l6, l7, l8, trivial⟩
  · rw [h8]; exact qxY ⟨hg, rfl, v2, hq, v3, len4 h4, l5, l6, l7, l8, trivial⟩
end Go.Proofs.YtdanpadojemjeaaGreat
