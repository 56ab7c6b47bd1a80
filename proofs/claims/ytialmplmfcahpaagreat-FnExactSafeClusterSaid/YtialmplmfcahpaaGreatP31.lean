/- ClusterOk, SafeCluster: what program and reference compute; the law SafeCluster answers true. -/
import Derived.Test.YtialmplmfcahpaaGreatP30
set_option linter.unusedVariables false
set_option linter.unusedSimpArgs false
namespace Go.Proofs.YtialmplmfcahpaaGreat
open Go.Sx Go.RowKit
theorem graph_sz1 {c : Cluster} (h : c.sz ≤ 1048576) : c.graph.sz ≤ 1048576 := by simp only [Cluster.sz] at h; omega
theorem tokens_le1 {c : Cluster} (h : c.sz ≤ 1048576) : c.tokens.length ≤ 1048576 := by simp only [Cluster.sz, szS] at h; omega
theorem news_le1 {c : Cluster} (h : c.sz ≤ 1048576) : c.news.length ≤ 1048576 := by simp only [Cluster.sz, szS] at h; omega
def linkBad (g : Graph) (i : Nat) (l : Link) : Bool :=
  !linkOk l || ((l.cap != g.cap) || (!recsOk g l.queue || ((i : Int).tdiv g.workers == (i : Int).tmod g.workers && decide ((l.queue.length : Int) > 0))))
def tokenBad (n : Int) (t : Token) : Bool := !inR t.place 0 (n - 1) || ((!t.going && t.place != 0) || !inR t.sum (-1000000) 1000000)
def newsBad (n : Int) (x : News) : Bool := !inR x.dest 0 (n - 1) || !inR x.epoch 0 3
def clusterOk (c : Cluster) : Bool :=
  qaE c.graph && (((c.workers.length : Int) == c.graph.workers) && (((c.links.length : Int) == c.graph.workers * c.graph.workers) && ((c.tokens.length == 4) && (!(c.workers.any fun w => !workerOk c.graph w) && (!(anyI (linkBad c.graph) 0 c.links) && (!(c.tokens.any (tokenBad c.graph.workers)) && !(c.news.any (newsBad c.graph.workers))))))))
theorem graphOk_workers {g : Graph} (h : qaE g = true) : 1 ≤ g.workers ∧ g.workers ≤ 4 := by
  simp only [qaE, Bool.and_eq_true, inR, decide_eq_true_eq] at h
  omega
theorem tdiv_small (i : Nat) (n : Int) (hi : i ≤ 1048576) (hn : 1 ≤ n) : inInt .i64 ((i : Int).tdiv n) := by
  have h1 : 0 ≤ (i : Int).tdiv n := Int.tdiv_nonneg (by omega) (by omega)
  have h2 : (i : Int).tdiv n ≤ (i : Int) := Int.tdiv_le_self _ (by omega)
  exact ⟨by omega, by omega⟩
theorem got_le {c : Cluster} (h : c.wf) {l : Link} (hl : l ∈ c.links) : l.got ≤ 9223372036854775807 := by
  have := (Cluster.link_wf h hl).got_ok
  simp only [inInt] at this
  exact this.2
theorem spec_wks (c : Cluster) (hc : c.sz ≤ 1048576) (hn : (c.workers.length : Int) = c.graph.workers) :
    ((c.workers.any fun w => !workerOk c.graph w) = false ∧ qac Tryz.prog (qaa Tryz.f89 0) (spec_ClusterOk_L0 (c.graph.nodes.map Node.e) c.graph.workers c.graph.cap (c.workers.map Worker.e) (c.links.map Link.e) (c.tokens.map Token.e) (c.news.map News.e) 0) (.exit 0) (spec_ClusterOk_X0v2 (c.graph.nodes.map Node.e) c.graph.workers c.graph.cap (c.workers.map Worker.e) (c.links.map Link.e) (c.tokens.map Token.e) (c.news.map News.e))) ∨
    ((c.workers.any fun w => !workerOk c.graph w) = true ∧ qac Tryz.prog (qaa Tryz.f89 0) (spec_ClusterOk_L0 (c.graph.nodes.map Node.e) c.graph.workers c.graph.cap (c.workers.map Worker.e) (c.links.map Link.e) (c.tokens.map Token.e) (c.news.map News.e) 0) .ret (spec_ClusterOk_X0 false)) := by
  have hl := Cluster.wlen_le hc
  have l := qbB (P := Tryz.prog) (c := (qaa Tryz.f89 0)) c.workers (fun w => !workerOk c.graph w) (fun i => spec_ClusterOk_L0 (c.graph.nodes.map Node.e) c.graph.workers c.graph.cap (c.workers.map Worker.e) (c.links.map Link.e) (c.tokens.map Token.e) (c.news.map News.e) i) (X := fun _ _ => spec_ClusterOk_X0 false) qaD (qah 0)
    (fun i a ha h => by
      have k := spec_WorkerOk_ret c.graph a (graph_sz1 hc) (Cluster.worker_sz hc (qaG ha))
      rw [show workerOk c.graph a = true by simpa using h] at k
      exact spec_ClusterOk_L0_s1 _ _ _ _ _ _ _ _ _ _ _ _ _ _ _ _ _ ⟨dT (by have := lt_of ha; omega), lt0, lt2 (lt_of ha), qae Worker.e ha, k, rfl, up1 (lt_of ha) hl, trivial⟩)
    (fun i a ha h => by
      have k := spec_WorkerOk_ret c.graph a (graph_sz1 hc) (Cluster.worker_sz hc (qaG ha))
      rw [show workerOk c.graph a = false by simpa using h] at k
      exact spec_ClusterOk_L0_x0 _ _ _ _ _ _ _ _ _ _ _ _ _ _ _ _ _ ⟨dT (by have := lt_of ha; omega), lt0, lt2 (lt_of ha), qae Worker.e ha, k, rfl, trivial⟩)
    (spec_ClusterOk_L0_x2 _ _ _ _ _ _ _ _ ⟨dF (by omega), trivial⟩)
  rcases l with ⟨_, _, h1, h2⟩ | ⟨_, _, _, _, _, _, h1, h2⟩
  · exact .inl ⟨h1, h2⟩
  · exact .inr ⟨h1, h2⟩
theorem spec_lks (c : Cluster) (hc : c.sz ≤ 1048576) (hw : c.wf) (hn : 1 ≤ c.graph.workers) :
    (anyI (linkBad c.graph) 0 c.links = false ∧ qac Tryz.prog (qaa Tryz.f89 1) (spec_ClusterOk_L1 c.graph.workers 0 (c.graph.nodes.map Node.e) c.graph.workers c.graph.cap (c.workers.map Worker.e) (c.links.map Link.e) (c.tokens.map Token.e) (c.news.map News.e)) (.exit 2) (spec_ClusterOk_X1v5 c.graph.workers (c.graph.nodes.map Node.e) c.graph.workers c.graph.cap (c.workers.map Worker.e) (c.links.map Link.e) (c.tokens.map Token.e) (c.news.map News.e))) ∨
    (anyI (linkBad c.graph) 0 c.links = true ∧ qac Tryz.prog (qaa Tryz.f89 1) (spec_ClusterOk_L1 c.graph.workers 0 (c.graph.nodes.map Node.e) c.graph.workers c.graph.cap (c.workers.map Worker.e) (c.links.map Link.e) (c.tokens.map Token.e) (c.news.map News.e)) .ret (spec_ClusterOk_X1 false)) := by
  have hl := Cluster.llen_le hc
  have kl : ∀ (i : Nat) (a : Link), c.links[i]? = some a → ∀ r, linkOk a = r → Ret Tryz.prog 174 [.agg a.e] [.one (B r)] := fun i a ha r h => h ▸ spec_LinkOk_ret a (Cluster.link_sz hc (qaG ha))
  have kr : ∀ (i : Nat) (a : Link), c.links[i]? = some a → ∀ r, recsOk c.graph a.queue = r → Ret Tryz.prog 175 [.agg c.graph.e, .one (.sl 5 (a.queue.map Record.e))] [.one (B r)] := fun i a ha r h => recs_spec c.graph _ r h (graph_sz1 hc) (Cluster.link_sz hc (qaG ha))
  exact qf3 (P := Tryz.prog) (c := (qaa Tryz.f89 1)) c.links (linkBad c.graph) (fun i => spec_ClusterOk_L1 c.graph.workers i (c.graph.nodes.map Node.e) c.graph.workers c.graph.cap (c.workers.map Worker.e) (c.links.map Link.e) (c.tokens.map Token.e) (c.news.map News.e)) qaD (qah 2)
    (fun i a ha h => by
      have hi := lt_of ha
      simp only [linkBad, Bool.or_eq_false_iff, Bool.not_eq_false'] at h
      obtain ⟨h1, h2, h3, h4⟩ := h
      cases h5 : ((i : Int).tdiv c.graph.workers == (i : Int).tmod c.graph.workers) with
      | true =>
        rw [h5, Bool.true_and] at h4
        exact spec_ClusterOk_L1_s4 _ _ _ _ _ _ _ _ _ _ _ _ _ _ _ _ _ ⟨lt1 (lt_of ha), lt0, lt2 (lt_of ha), qae Link.e ha, kl i a ha _ h1, rfl, h2, kr i a ha _ h3, rfl, by omega, tdiv_small i _ (by omega) hn, by omega, h5, by rw [List.length_map]; exact h4, up1 hi hl, trivial⟩
      | false => exact spec_ClusterOk_L1_s5 _ _ _ _ _ _ _ _ _ _ _ _ _ _ _ _ _ ⟨lt1 (lt_of ha), lt0, lt2 (lt_of ha), qae Link.e ha, kl i a ha _ h1, rfl, h2, kr i a ha _ h3, rfl, by omega, tdiv_small i _ (by omega) hn, by omega, h5, up1 hi hl, trivial⟩)
    (fun i a ha h => by
      have hi := lt_of ha
      cases h1 : linkOk a with
      | false => exact spec_ClusterOk_L1_x0 _ _ _ _ _ _ _ _ _ _ _ _ _ _ _ _ ⟨lt1 (lt_of ha), lt0, lt2 (lt_of ha), qae Link.e ha, kl i a ha _ h1, rfl, trivial⟩
      | true =>
      cases h2 : (a.cap != c.graph.cap) with
      | true => exact spec_ClusterOk_L1_x1 _ _ _ _ _ _ _ _ _ _ _ _ _ _ _ _ ⟨lt1 (lt_of ha), lt0, lt2 (lt_of ha), qae Link.e ha, kl i a ha _ h1, rfl, h2, trivial⟩
      | false =>
      cases h3 : recsOk c.graph a.queue with
      | false => exact spec_ClusterOk_L1_x2 _ _ _ _ _ _ _ _ _ _ _ _ _ _ _ _ _ ⟨lt1 (lt_of ha), lt0, lt2 (lt_of ha), qae Link.e ha, kl i a ha _ h1, rfl, h2, kr i a ha _ h3, rfl, trivial⟩
      | true =>
      simp only [linkBad, h1, h2, h3, Bool.not_true, Bool.false_or, Bool.and_eq_true] at h
      exact spec_ClusterOk_L1_x3 _ _ _ _ _ _ _ _ _ _ _ _ _ _ _ _ _ ⟨lt1 (lt_of ha), lt0, lt2 (lt_of ha), qae Link.e ha, kl i a ha _ h1, rfl, h2, kr i a ha _ h3, rfl, by omega, tdiv_small i _ (by omega) hn, by omega, h.1, by rw [List.length_map]; exact h.2, trivial⟩)
    (spec_ClusterOk_L1_x6 _ _ _ _ _ _ _ _ _ ⟨ge1, trivial⟩)
theorem spec_tks (c : Cluster) (hc : c.sz ≤ 1048576) (hn : 1 ≤ c.graph.workers ∧ c.graph.workers ≤ 4) :
    ((c.tokens.any (tokenBad c.graph.workers)) = false ∧ qac Tryz.prog (qaa Tryz.f89 2) (spec_ClusterOk_L2 c.graph.workers (c.graph.nodes.map Node.e) c.graph.workers c.graph.cap (c.workers.map Worker.e) (c.links.map Link.e) (c.tokens.map Token.e) (c.news.map News.e) 0) (.exit 4) (spec_ClusterOk_X2v8 c.graph.workers (c.graph.nodes.map Node.e) c.graph.workers c.graph.cap (c.workers.map Worker.e) (c.links.map Link.e) (c.tokens.map Token.e) (c.news.map News.e))) ∨
    ((c.tokens.any (tokenBad c.graph.workers)) = true ∧ qac Tryz.prog (qaa Tryz.f89 2) (spec_ClusterOk_L2 c.graph.workers (c.graph.nodes.map Node.e) c.graph.workers c.graph.cap (c.workers.map Worker.e) (c.links.map Link.e) (c.tokens.map Token.e) (c.news.map News.e) 0) .ret (spec_ClusterOk_X2 false)) := by
  have hl := tokens_le1 hc
  have l := qbB (P := Tryz.prog) (c := (qaa Tryz.f89 2)) c.tokens (tokenBad c.graph.workers) (fun i => spec_ClusterOk_L2 c.graph.workers (c.graph.nodes.map Node.e) c.graph.workers c.graph.cap (c.workers.map Worker.e) (c.links.map Link.e) (c.tokens.map Token.e) (c.news.map News.e) i) (X := fun _ _ => spec_ClusterOk_X2 false) qaD (qah 4)
    (fun i a ha h => by
      have hi := lt_of ha
      simp only [tokenBad, Bool.or_eq_false_iff, Bool.not_eq_false'] at h
      obtain ⟨h1, h2, h3⟩ := h
      cases hg : a.going with
      | false =>
        rw [hg, Bool.not_false, Bool.true_and] at h2
        exact spec_ClusterOk_L2_s3 _ _ _ _ _ _ _ _ _ _ _ _ _ _ _ _ _ _ _ _ _ _ _ _ _ _ _ _ _ _ _ ⟨lt1 (lt_of ha), lt0, lt2 (lt_of ha), qae Token.e ha, ⟨by omega, by omega⟩, qgq _ _ _ true h1, rfl, lt0, lt2 (lt_of ha), qae Token.e ha, by rw [hg]; rfl, lt0, lt2 (lt_of ha), qae Token.e ha, h2, lt0, lt2 (lt_of ha), qae Token.e ha, qgq _ _ _ true h3, rfl, up1 hi hl, trivial⟩
      | true => exact spec_ClusterOk_L2_s5 _ _ _ _ _ _ _ _ _ _ _ _ _ _ _ _ _ _ _ _ _ _ _ _ _ _ ⟨lt1 (lt_of ha), lt0, lt2 (lt_of ha), qae Token.e ha, ⟨by omega, by omega⟩, qgq _ _ _ true h1, rfl, lt0, lt2 (lt_of ha), qae Token.e ha, by rw [hg]; rfl, lt0, lt2 (lt_of ha), qae Token.e ha, qgq _ _ _ true h3, rfl, up1 hi hl, trivial⟩)
    (fun i a ha h => by
      have hi := lt_of ha
      cases h1 : inR a.place 0 (c.graph.workers - 1) with
      | false => exact spec_ClusterOk_L2_x0 _ _ _ _ _ _ _ _ _ _ _ _ _ _ _ ⟨lt1 (lt_of ha), lt0, lt2 (lt_of ha), qae Token.e ha, ⟨by omega, by omega⟩, qgq _ _ _ false h1, rfl, trivial⟩
      | true =>
      simp only [tokenBad, h1, Bool.not_true, Bool.false_or] at h
      cases hg : a.going with
      | false =>
        rw [hg, Bool.not_false, Bool.true_and] at h
        cases h2 : (a.place != 0) with
        | true => exact spec_ClusterOk_L2_x1 _ _ _ _ _ _ _ _ _ _ _ _ _ _ _ _ _ _ _ _ _ _ _ _ _ ⟨lt1 (lt_of ha), lt0, lt2 (lt_of ha), qae Token.e ha, ⟨by omega, by omega⟩, qgq _ _ _ true h1, rfl, lt0, lt2 (lt_of ha), qae Token.e ha, by rw [hg]; rfl, lt0, lt2 (lt_of ha), qae Token.e ha, h2, trivial⟩
        | false =>
          rw [h2, Bool.false_or] at h
          exact spec_ClusterOk_L2_x2 _ _ _ _ _ _ _ _ _ _ _ _ _ _ _ _ _ _ _ _ _ _ _ _ _ _ _ _ _ _ _ ⟨lt1 (lt_of ha), lt0, lt2 (lt_of ha), qae Token.e ha, ⟨by omega, by omega⟩, qgq _ _ _ true h1, rfl, lt0, lt2 (lt_of ha), qae Token.e ha, by rw [hg]; rfl, lt0, lt2 (lt_of ha), qae Token.e ha, h2, lt0, lt2 (lt_of ha), qae Token.e ha, qgq _ _ _ false (by simpa using h), rfl, trivial⟩
      | true =>
        rw [hg, Bool.not_true, Bool.false_and, Bool.false_or] at h
        exact spec_ClusterOk_L2_x4 _ _ _ _ _ _ _ _ _ _ _ _ _ _ _ _ _ _ _ _ _ _ _ _ _ _ ⟨lt1 (lt_of ha), lt0, lt2 (lt_of ha), qae Token.e ha, ⟨by omega, by omega⟩, qgq _ _ _ true h1, rfl, lt0, lt2 (lt_of ha), qae Token.e ha, by rw [hg]; rfl, lt0, lt2 (lt_of ha), qae Token.e ha, qgq _ _ _ false (by simpa using h), rfl, trivial⟩)
    (spec_ClusterOk_L2_x6 _ _ _ _ _ _ _ _ _ ⟨ge1, trivial⟩)
  rcases l with ⟨_, _, h1, h2⟩ | ⟨_, _, _, _, _, _, h1, h2⟩
  · exact .inl ⟨h1, h2⟩
  · exact .inr ⟨h1, h2⟩
theorem spec_nws (c : Cluster) (hc : c.sz ≤ 1048576) (hn : 1 ≤ c.graph.workers ∧ c.graph.workers ≤ 4) :
    ((c.news.any (newsBad c.graph.workers)) = false ∧ qac Tryz.prog (qaa Tryz.f89 3) (spec_ClusterOk_L3 c.graph.workers (c.graph.nodes.map Node.e) c.graph.workers c.graph.cap (c.workers.map Worker.e) (c.links.map Link.e) (c.tokens.map Token.e) (c.news.map News.e) 0) (.exit 6) spec_ClusterOk_X3v11) ∨
    ((c.news.any (newsBad c.graph.workers)) = true ∧ qac Tryz.prog (qaa Tryz.f89 3) (spec_ClusterOk_L3 c.graph.workers (c.graph.nodes.map Node.e) c.graph.workers c.graph.cap (c.workers.map Worker.e) (c.links.map Link.e) (c.tokens.map Token.e) (c.news.map News.e) 0) .ret (spec_ClusterOk_X3 false)) := by
  have hl := news_le1 hc
  have l := qbB (P := Tryz.prog) (c := (qaa Tryz.f89 3)) c.news (newsBad c.graph.workers) (fun i => spec_ClusterOk_L3 c.graph.workers (c.graph.nodes.map Node.e) c.graph.workers c.graph.cap (c.workers.map Worker.e) (c.links.map Link.e) (c.tokens.map Token.e) (c.news.map News.e) i) (X := fun _ _ => spec_ClusterOk_X3 false) qaD (qah 6)
    (fun i a ha h => by
      have hi := lt_of ha
      simp only [newsBad, Bool.or_eq_false_iff, Bool.not_eq_false'] at h
      exact spec_ClusterOk_L3_s2 _ _ _ _ _ _ _ _ _ _ _ _ _ _ _ _ _ ⟨lt1 (lt_of ha), lt0, lt2 (lt_of ha), qae News.e ha, ⟨by omega, by omega⟩, qgq _ _ _ true h.1, rfl, lt0, lt2 (lt_of ha), qae News.e ha, qgq _ _ _ true h.2, rfl, up1 hi hl, trivial⟩)
    (fun i a ha h => by
      have hi := lt_of ha
      cases h1 : inR a.dest 0 (c.graph.workers - 1) with
      | false => exact spec_ClusterOk_L3_x0 _ _ _ _ _ _ _ _ _ _ _ _ _ ⟨lt1 (lt_of ha), lt0, lt2 (lt_of ha), qae News.e ha, ⟨by omega, by omega⟩, qgq _ _ _ false h1, rfl, trivial⟩
      | true =>
        simp only [newsBad, h1, Bool.not_true, Bool.false_or] at h
        exact spec_ClusterOk_L3_x1 _ _ _ _ _ _ _ _ _ _ _ _ _ _ _ _ _ ⟨lt1 (lt_of ha), lt0, lt2 (lt_of ha), qae News.e ha, ⟨by omega, by omega⟩, qgq _ _ _ true h1, rfl, lt0, lt2 (lt_of ha), qae News.e ha, qgq _ _ _ false (by simpa using h), rfl, trivial⟩)
    (spec_ClusterOk_L3_x3 _ _ _ _ _ _ _ _ _ ⟨ge1, trivial⟩)
  rcases l with ⟨_, _, h1, h2⟩ | ⟨_, _, _, _, _, _, h1, h2⟩
  · exact .inl ⟨h1, h2⟩
  · exact .inr ⟨h1, h2⟩
theorem spec_ClusterOk_ret (c : Cluster) (hc : c.sz ≤ 1048576) (hw : c.wf) : Ret Tryz.prog 89 [.agg c.e] [.one (B (clusterOk c))] := by
  have hg := qmB c.graph (graph_sz1 hc)
  unfold clusterOk
  cases h1 : qaE c.graph with
  | false => rw [h1] at hg; exact spec_ClusterOk_p0 _ _ _ _ _ _ _ _ ⟨hg, rfl, trivial⟩
  | true =>
  rw [h1] at hg
  have hn := graphOk_workers h1
  have hq : inInt .i64 (c.graph.workers * c.graph.workers) := by
    have h3 : c.graph.workers = 1 ∨ c.graph.workers = 2 ∨ c.graph.workers = 3 ∨ c.graph.workers = 4 := by omega
    rcases h3 with h3 | h3 | h3 | h3 <;> (rw [h3]; exact ⟨by decide, by decide⟩)
  cases h2 : ((c.workers.length : Int) == c.graph.workers) with
  | false => exact spec_ClusterOk_p1 _ _ _ _ _ _ _ _ ⟨hg, rfl, by rw [List.length_map]; simpa using h2, trivial⟩
  | true =>
  have v2 : ((↑(c.workers.map Worker.e).length : Int) != c.graph.workers) = false := by rw [List.length_map]; simpa using h2
  cases h3 : ((c.links.length : Int) == c.graph.workers * c.graph.workers) with
  | false => exact spec_ClusterOk_p2 _ _ _ _ _ _ _ _ ⟨hg, rfl, v2, hq, by rw [List.length_map]; simpa using h3, trivial⟩
  | true =>
  have v3 : ((↑(c.links.map Link.e).length : Int) != c.graph.workers * c.graph.workers) = false := by rw [List.length_map]; simpa using h3
  cases h4 : (c.tokens.length == 4) with
  | false => exact spec_ClusterOk_p3 _ _ _ _ _ _ _ _ ⟨hg, rfl, v2, hq, v3, len4' h4, trivial⟩
  | true =>
  rcases spec_wks c hc (eq_of_beq h2) with ⟨h5, l5⟩ | ⟨h5, l5⟩
  case inr => rw [h5]; exact spec_ClusterOk_p4 _ _ _ _ _ _ _ _ _ ⟨hg, rfl, v2, hq, v3, len4 h4, l5, trivial⟩
  rw [h5]
  rcases spec_lks c hc hw hn.1 with ⟨h6, l6⟩ | ⟨h6, l6⟩
  case inr => rw [h6]; exact spec_ClusterOk_p5 _ _ _ _ _ _ _ _ _ ⟨hg, rfl, v2, hq, v3, len4 h4, l5, l6, trivial⟩
  rw [h6]
  rcases spec_tks c hc hn with ⟨h7, l7⟩ | ⟨h7, l7⟩
  case inr => rw [h7]; exact spec_ClusterOk_p6 _ _ _ _ _ _ _ _ _ _ _ _ _ _ _ _ ⟨hg, rfl, v2, hq, v3, len4 h4, l5, l6, l7, trivial⟩
  rw [h7]
  rcases spec_nws c hc hn with ⟨h8, l8⟩ | ⟨h8, l8⟩
  · rw [h8]; exact spec_ClusterOk_p8 _ _ _ _ _ _ _ _ _ _ _ _ _ _ _ ⟨hg, rfl, v2, hq, v3, len4 h4, l5, l6, l7, l8, trivial⟩
  · rw [h8]; exact spec_ClusterOk_p7 _ _ _ _ _ _ _ _ _ _ _ _ _ _ _ _ ⟨hg, rfl, v2, hq, v3, len4 h4, l5, l6, l7, l8, trivial⟩
theorem impl_wks (c : Cluster) (hc : c.sz ≤ 1048576) (hn : (c.workers.length : Int) = c.graph.workers) :
    ((c.workers.any fun w => !workerOk c.graph w) = false ∧ qac Tryz.prog (qaa Tryz.f94 0) (impl_ClusterOk_L0 c.graph.workers (c.workers.map Worker.e) 0 (c.graph.nodes.map Node.e) c.graph.workers c.graph.cap (c.workers.map Worker.e) (c.links.map Link.e) (c.tokens.map Token.e) (c.news.map News.e)) (.exit 0) (impl_ClusterOk_X0v2 c.graph.workers (c.graph.nodes.map Node.e) c.graph.workers c.graph.cap (c.workers.map Worker.e) (c.links.map Link.e) (c.tokens.map Token.e) (c.news.map News.e))) ∨
    ((c.workers.any fun w => !workerOk c.graph w) = true ∧ qac Tryz.prog (qaa Tryz.f94 0) (impl_ClusterOk_L0 c.graph.workers (c.workers.map Worker.e) 0 (c.graph.nodes.map Node.e) c.graph.workers c.graph.cap (c.workers.map Worker.e) (c.links.map Link.e) (c.tokens.map Token.e) (c.news.map News.e)) .ret (impl_ClusterOk_X0 false)) := by
  have hl := Cluster.wlen_le hc
  have l := qbB (P := Tryz.prog) (c := (qaa Tryz.f94 0)) c.workers (fun w => !workerOk c.graph w) (fun i => impl_ClusterOk_L0 c.graph.workers (c.workers.map Worker.e) i (c.graph.nodes.map Node.e) c.graph.workers c.graph.cap (c.workers.map Worker.e) (c.links.map Link.e) (c.tokens.map Token.e) (c.news.map News.e)) (X := fun _ _ => impl_ClusterOk_X0 false) qaD (qah 0)
    (fun i a ha h => by
      have k := impl_WorkerOk_ret c.graph a (graph_sz1 hc) (Cluster.worker_sz hc (qaG ha))
      rw [show workerOk c.graph a = true by simpa using h] at k
      exact impl_ClusterOk_L0_s1 _ _ _ _ _ _ _ _ _ _ _ _ _ _ _ _ _ _ _ ⟨lt1 (lt_of ha), lt0, lt2 (lt_of ha), qae Worker.e ha, k, rfl, up1 (lt_of ha) hl, trivial⟩)
    (fun i a ha h => by
      have k := impl_WorkerOk_ret c.graph a (graph_sz1 hc) (Cluster.worker_sz hc (qaG ha))
      rw [show workerOk c.graph a = false by simpa using h] at k
      exact impl_ClusterOk_L0_x0 _ _ _ _ _ _ _ _ _ _ _ _ _ _ _ _ _ _ _ ⟨lt1 (lt_of ha), lt0, lt2 (lt_of ha), qae Worker.e ha, k, rfl, trivial⟩)
    (impl_ClusterOk_L0_x2 _ _ _ _ _ _ _ _ _ _ ⟨ge1, trivial⟩)
  rcases l with ⟨_, _, h1, h2⟩ | ⟨_, _, _, _, _, _, h1, h2⟩
  · exact .inl ⟨h1, h2⟩
  · exact .inr ⟨h1, h2⟩
theorem impl_lks (c : Cluster) (hc : c.sz ≤ 1048576) (hw : c.wf) (hn : 1 ≤ c.graph.workers) :
    (anyI (linkBad c.graph) 0 c.links = false ∧ qac Tryz.prog (qaa Tryz.f94 1) (impl_ClusterOk_L1 c.graph.workers (c.links.map Link.e) 0 (c.graph.nodes.map Node.e) c.graph.workers c.graph.cap (c.workers.map Worker.e) (c.links.map Link.e) (c.tokens.map Token.e) (c.news.map News.e)) (.exit 2) (impl_ClusterOk_X1v5 c.graph.workers (c.graph.nodes.map Node.e) c.graph.workers c.graph.cap (c.workers.map Worker.e) (c.links.map Link.e) (c.tokens.map Token.e) (c.news.map News.e))) ∨
    (anyI (linkBad c.graph) 0 c.links = true ∧ qac Tryz.prog (qaa Tryz.f94 1) (impl_ClusterOk_L1 c.graph.workers (c.links.map Link.e) 0 (c.graph.nodes.map Node.e) c.graph.workers c.graph.cap (c.workers.map Worker.e) (c.links.map Link.e) (c.tokens.map Token.e) (c.news.map News.e)) .ret (impl_ClusterOk_X1 false)) := by
  have hl := Cluster.llen_le hc
  have kl : ∀ (i : Nat) (a : Link), c.links[i]? = some a → ∀ r, linkOk a = r → Ret Tryz.prog 183 [.agg a.e] [.one (B r)] := fun i a ha r h => h ▸ impl_LinkOk_ret a (Cluster.link_sz hc (qaG ha)) (got_le hw (qaG ha))
  have kr : ∀ (i : Nat) (a : Link), c.links[i]? = some a → ∀ r, recsOk c.graph a.queue = r → Ret Tryz.prog 184 [.agg c.graph.e, .one (.sl 5 (a.queue.map Record.e))] [.one (B r)] := fun i a ha r h => recs_impl c.graph _ r h (graph_sz1 hc) (Cluster.link_sz hc (qaG ha))
  exact qf3 (P := Tryz.prog) (c := (qaa Tryz.f94 1)) c.links (linkBad c.graph) (fun i => impl_ClusterOk_L1 c.graph.workers (c.links.map Link.e) i (c.graph.nodes.map Node.e) c.graph.workers c.graph.cap (c.workers.map Worker.e) (c.links.map Link.e) (c.tokens.map Token.e) (c.news.map News.e)) qaD (qah 2)
    (fun i a ha h => by
      have hi := lt_of ha
      simp only [linkBad, Bool.or_eq_false_iff, Bool.not_eq_false'] at h
      obtain ⟨h1, h2, h3, h4⟩ := h
      cases h5 : ((i : Int).tdiv c.graph.workers == (i : Int).tmod c.graph.workers) with
      | true =>
        rw [h5, Bool.true_and] at h4
        exact impl_ClusterOk_L1_s4 _ _ _ _ _ _ _ _ _ _ _ _ _ _ _ _ _ _ ⟨lt1 (lt_of ha), lt0, lt2 (lt_of ha), qae Link.e ha, kl i a ha _ h1, rfl, h2, kr i a ha _ h3, rfl, by omega, tdiv_small i _ (by omega) hn, by omega, h5, by rw [List.length_map]; exact h4, up1 hi hl, trivial⟩
      | false => exact impl_ClusterOk_L1_s5 _ _ _ _ _ _ _ _ _ _ _ _ _ _ _ _ _ _ ⟨lt1 (lt_of ha), lt0, lt2 (lt_of ha), qae Link.e ha, kl i a ha _ h1, rfl, h2, kr i a ha _ h3, rfl, by omega, tdiv_small i _ (by omega) hn, by omega, h5, up1 hi hl, trivial⟩)
    (fun i a ha h => by
      have hi := lt_of ha
      cases h1 : linkOk a with
      | false => exact impl_ClusterOk_L1_x0 _ _ _ _ _ _ _ _ _ _ _ _ _ _ _ _ _ ⟨lt1 (lt_of ha), lt0, lt2 (lt_of ha), qae Link.e ha, kl i a ha _ h1, rfl, trivial⟩
      | true =>
      cases h2 : (a.cap != c.graph.cap) with
      | true => exact impl_ClusterOk_L1_x1 _ _ _ _ _ _ _ _ _ _ _ _ _ _ _ _ _ ⟨lt1 (lt_of ha), lt0, lt2 (lt_of ha), qae Link.e ha, kl i a ha _ h1, rfl, h2, trivial⟩
      | false =>
      cases h3 : recsOk c.graph a.queue with
      | false => exact impl_ClusterOk_L1_x2 _ _ _ _ _ _ _ _ _ _ _ _ _ _ _ _ _ _ ⟨lt1 (lt_of ha), lt0, lt2 (lt_of ha), qae Link.e ha, kl i a ha _ h1, rfl, h2, kr i a ha _ h3, rfl, trivial⟩
      | true =>
      simp only [linkBad, h1, h2, h3, Bool.not_true, Bool.false_or, Bool.and_eq_true] at h
      exact impl_ClusterOk_L1_x3 _ _ _ _ _ _ _ _ _ _ _ _ _ _ _ _ _ _ ⟨lt1 (lt_of ha), lt0, lt2 (lt_of ha), qae Link.e ha, kl i a ha _ h1, rfl, h2, kr i a ha _ h3, rfl, by omega, tdiv_small i _ (by omega) hn, by omega, h.1, by rw [List.length_map]; exact h.2, trivial⟩)
    (impl_ClusterOk_L1_x6 _ _ _ _ _ _ _ _ _ _ ⟨ge1, trivial⟩)
theorem impl_tks (c : Cluster) (hc : c.sz ≤ 1048576) (hn : 1 ≤ c.graph.workers ∧ c.graph.workers ≤ 4) :
    ((c.tokens.any (tokenBad c.graph.workers)) = false ∧ qac Tryz.prog (qaa Tryz.f94 2) (impl_ClusterOk_L2 c.graph.workers (c.tokens.map Token.e) 0 (c.graph.nodes.map Node.e) c.graph.workers c.graph.cap (c.workers.map Worker.e) (c.links.map Link.e) (c.tokens.map Token.e) (c.news.map News.e)) (.exit 4) (impl_ClusterOk_X2v8 c.graph.workers (c.graph.nodes.map Node.e) c.graph.workers c.graph.cap (c.workers.map Worker.e) (c.links.map Link.e) (c.tokens.map Token.e) (c.news.map News.e))) ∨
    ((c.tokens.any (tokenBad c.graph.workers)) = true ∧ qac Tryz.prog (qaa Tryz.f94 2) (impl_ClusterOk_L2 c.graph.workers (c.tokens.map Token.e) 0 (c.graph.nodes.map Node.e) c.graph.workers c.graph.cap (c.workers.map Worker.e) (c.links.map Link.e) (c.tokens.map Token.e) (c.news.map News.e)) .ret (impl_ClusterOk_X2 false)) := by
  have hl := tokens_le1 hc
  have l := qbB (P := Tryz.prog) (c := (qaa Tryz.f94 2)) c.tokens (tokenBad c.graph.workers) (fun i => impl_ClusterOk_L2 c.graph.workers (c.tokens.map Token.e) i (c.graph.nodes.map Node.e) c.graph.workers c.graph.cap (c.workers.map Worker.e) (c.links.map Link.e) (c.tokens.map Token.e) (c.news.map News.e)) (X := fun _ _ => impl_ClusterOk_X2 false) qaD (qah 4)
    (fun i a ha h => by
      have hi := lt_of ha
      simp only [tokenBad, Bool.or_eq_false_iff, Bool.not_eq_false'] at h
      obtain ⟨h1, h2, h3⟩ := h
      cases hg : a.going with
      | false =>
        rw [hg, Bool.not_false, Bool.true_and] at h2
        exact impl_ClusterOk_L2_s3 _ _ _ _ _ _ _ _ _ _ _ _ _ _ _ _ _ ⟨lt1 (lt_of ha), lt0, lt2 (lt_of ha), qae Token.e ha, ⟨by omega, by omega⟩, qgr _ _ _ true h1, rfl, by rw [hg]; rfl, h2, qgr _ _ _ true h3, rfl, up1 hi hl, trivial⟩
      | true => exact impl_ClusterOk_L2_s5 _ _ _ _ _ _ _ _ _ _ _ _ _ _ _ _ _ ⟨lt1 (lt_of ha), lt0, lt2 (lt_of ha), qae Token.e ha, ⟨by omega, by omega⟩, qgr _ _ _ true h1, rfl, by rw [hg]; rfl, qgr _ _ _ true h3, rfl, up1 hi hl, trivial⟩)
    (fun i a ha h => by
      have hi := lt_of ha
      cases h1 : inR a.place 0 (c.graph.workers - 1) with
      | false => exact impl_ClusterOk_L2_x0 _ _ _ _ _ _ _ _ _ _ _ _ _ _ _ _ ⟨lt1 (lt_of ha), lt0, lt2 (lt_of ha), qae Token.e ha, ⟨by omega, by omega⟩, qgr _ _ _ false h1, rfl, trivial⟩
      | true =>
      simp only [tokenBad, h1, Bool.not_true, Bool.false_or] at h
      cases hg : a.going with
      | false =>
        rw [hg, Bool.not_false, Bool.true_and] at h
        cases h2 : (a.place != 0) with
        | true => exact impl_ClusterOk_L2_x1 _ _ _ _ _ _ _ _ _ _ _ _ _ _ _ _ ⟨lt1 (lt_of ha), lt0, lt2 (lt_of ha), qae Token.e ha, ⟨by omega, by omega⟩, qgr _ _ _ true h1, rfl, by rw [hg]; rfl, h2, trivial⟩
        | false =>
          rw [h2, Bool.false_or] at h
          exact impl_ClusterOk_L2_x2 _ _ _ _ _ _ _ _ _ _ _ _ _ _ _ _ _ ⟨lt1 (lt_of ha), lt0, lt2 (lt_of ha), qae Token.e ha, ⟨by omega, by omega⟩, qgr _ _ _ true h1, rfl, by rw [hg]; rfl, h2, qgr _ _ _ false (by simpa using h), rfl, trivial⟩
      | true =>
        rw [hg, Bool.not_true, Bool.false_and, Bool.false_or] at h
        exact impl_ClusterOk_L2_x4 _ _ _ _ _ _ _ _ _ _ _ _ _ _ _ _ _ ⟨lt1 (lt_of ha), lt0, lt2 (lt_of ha), qae Token.e ha, ⟨by omega, by omega⟩, qgr _ _ _ true h1, rfl, by rw [hg]; rfl, qgr _ _ _ false (by simpa using h), rfl, trivial⟩)
    (impl_ClusterOk_L2_x6 _ _ _ _ _ _ _ _ _ _ ⟨ge1, trivial⟩)
  rcases l with ⟨_, _, h1, h2⟩ | ⟨_, _, _, _, _, _, h1, h2⟩
  · exact .inl ⟨h1, h2⟩
  · exact .inr ⟨h1, h2⟩
theorem impl_nws (c : Cluster) (hc : c.sz ≤ 1048576) (hn : 1 ≤ c.graph.workers ∧ c.graph.workers ≤ 4) :
    ((c.news.any (newsBad c.graph.workers)) = false ∧ qac Tryz.prog (qaa Tryz.f94 3) (impl_ClusterOk_L3 c.graph.workers (c.news.map News.e) 0) (.exit 6) impl_ClusterOk_X3v11) ∨
    ((c.news.any (newsBad c.graph.workers)) = true ∧ qac Tryz.prog (qaa Tryz.f94 3) (impl_ClusterOk_L3 c.graph.workers (c.news.map News.e) 0) .ret (impl_ClusterOk_X3 false)) := by
  have hl := news_le1 hc
  have l := qbB (P := Tryz.prog) (c := (qaa Tryz.f94 3)) c.news (newsBad c.graph.workers) (fun i => impl_ClusterOk_L3 c.graph.workers (c.news.map News.e) i) (X := fun _ _ => impl_ClusterOk_X3 false) qaD (qah 6)
    (fun i a ha h => by
      have hi := lt_of ha
      simp only [newsBad, Bool.or_eq_false_iff, Bool.not_eq_false'] at h
      exact impl_ClusterOk_L3_s2 _ _ _ _ _ _ _ _ ⟨lt1 (lt_of ha), lt0, lt2 (lt_of ha), qae News.e ha, ⟨by omega, by omega⟩, qgr _ _ _ true h.1, rfl, qgr _ _ _ true h.2, rfl, up1 hi hl, trivial⟩)
    (fun i a ha h => by
      have hi := lt_of ha
      cases h1 : inR a.dest 0 (c.graph.workers - 1) with
      | false => exact impl_ClusterOk_L3_x0 _ _ _ _ _ _ _ ⟨lt1 (lt_of ha), lt0, lt2 (lt_of ha), qae News.e ha, ⟨by omega, by omega⟩, qgr _ _ _ false h1, rfl, trivial⟩
      | true =>
        simp only [newsBad, h1, Bool.not_true, Bool.false_or] at h
        exact impl_ClusterOk_L3_x1 _ _ _ _ _ _ _ _ ⟨lt1 (lt_of ha), lt0, lt2 (lt_of ha), qae News.e ha, ⟨by omega, by omega⟩, qgr _ _ _ true h1, rfl, qgr _ _ _ false (by simpa using h), rfl, trivial⟩)
    (impl_ClusterOk_L3_x3 _ _ _ ⟨ge1, trivial⟩)
  rcases l with ⟨_, _, h1, h2⟩ | ⟨_, _, _, _, _, _, h1, h2⟩
  · exact .inl ⟨h1, h2⟩
  · exact .inr ⟨h1, h2⟩
theorem impl_ClusterOk_ret (c : Cluster) (hc : c.sz ≤ 1048576) (hw : c.wf) : Ret Tryz.prog 94 [.agg c.e] [.one (B (clusterOk c))] := by
  have hg := qjC c.graph (graph_sz1 hc)
  unfold clusterOk
  cases h1 : qaE c.graph with
  | false => rw [h1] at hg; exact impl_ClusterOk_p0 _ _ _ _ _ _ _ _ ⟨hg, rfl, trivial⟩
  | true =>
  rw [h1] at hg
  have hn := graphOk_workers h1
  have hq : inInt .i64 (c.graph.workers * c.graph.workers) := by
    have h3 : c.graph.workers = 1 ∨ c.graph.workers = 2 ∨ c.graph.workers = 3 ∨ c.graph.workers = 4 := by omega
    rcases h3 with h3 | h3 | h3 | h3 <;> (rw [h3]; exact ⟨by decide, by decide⟩)
  cases h2 : ((c.workers.length : Int) == c.graph.workers) with
  | false => exact impl_ClusterOk_p1 _ _ _ _ _ _ _ _ ⟨hg, rfl, by rw [List.length_map]; simpa using h2, trivial⟩
  | true =>
  have v2 : ((↑(c.workers.map Worker.e).length : Int) != c.graph.workers) = false := by rw [List.length_map]; simpa using h2
  cases h3 : ((c.links.length : Int) == c.graph.workers * c.graph.workers) with
  | false => exact impl_ClusterOk_p2 _ _ _ _ _ _ _ _ ⟨hg, rfl, v2, hq, by rw [List.length_map]; simpa using h3, trivial⟩
  | true =>
  have v3 : ((↑(c.links.map Link.e).length : Int) != c.graph.workers * c.graph.workers) = false := by rw [List.length_map]; simpa using h3
  cases h4 : (c.tokens.length == 4) with
  | false => exact impl_ClusterOk_p3 _ _ _ _ _ _ _ _ ⟨hg, rfl, v2, hq, v3, len4' h4, trivial⟩
  | true =>
  rcases impl_wks c hc (eq_of_beq h2) with ⟨h5, l5⟩ | ⟨h5, l5⟩
  case inr => rw [h5]; exact impl_ClusterOk_p4 _ _ _ _ _ _ _ _ _ ⟨hg, rfl, v2, hq, v3, len4 h4, l5, trivial⟩
  rw [h5]
  rcases impl_lks c hc hw hn.1 with ⟨h6, l6⟩ | ⟨h6, l6⟩
  case inr => rw [h6]; exact impl_ClusterOk_p5 _ _ _ _ _ _ _ _ _ _ _ _ _ _ _ _ ⟨hg, rfl, v2, hq, v3, len4 h4, l5, l6, trivial⟩
  rw [h6]
  rcases impl_tks c hc hn with ⟨h7, l7⟩ | ⟨h7, l7⟩
  case inr => rw [h7]; exact impl_ClusterOk_p6 _ _ _ _ _ _ _ _ _ _ _ _ _ _ _ _ _ _ _ _ _ _ _ ⟨hg, rfl, v2, hq, v3, len4 h4, l5, l6, l7, trivial⟩
  rw [h7]
  rcases impl_nws c hc hn with ⟨h8, l8⟩ | ⟨h8, l8⟩
  · rw [h8]; exact impl_ClusterOk_p8 _ _ _ _ _ _ _ _ _ _ _ _ _ _ _ _ _ _ _ _ _ _ _ _ _ _ _ _ _ ⟨hg, rfl, v2, hq, v3, len4 h4, l5, l6, l7, l8, trivial⟩
  · rw [h8]; exact impl_ClusterOk_p7 _ _ _ _ _ _ _ _ _ _ _ _ _ _ _ _ _ _ _ _ _ _ _ _ _ _ _ _ _ _ ⟨hg, rfl, v2, hq, v3, len4 h4, l5, l6, l7, l8, trivial⟩
def epochBad (c : Cluster) (e : Nat) : Bool := !safeAt c e || !sumsOk c e
def safeCluster (c : Cluster) : Bool := clusterOk c && (c.links.all okCred && (ownersOk c && !((List.range 4).any (epochBad c))))
theorem spec_SafeCluster_ret (c : Cluster) (hc : c.sz ≤ 1048576) (hw : c.wf) : Ret Tryz.prog 26 [.agg c.e] [.one (B (safeCluster c))] := by
  have k1 := spec_ClusterOk_ret c hc hw
  have k2 := spec_CreditsOk_ret c hc hw
  have k3 := spec_OwnersOk_ret c hc hw
  unfold safeCluster
  cases h1 : clusterOk c with
  | false => rw [h1] at k1; exact spec_SafeCluster_p0 _ _ _ _ _ _ _ _ ⟨k1, rfl, trivial⟩
  | true =>
  rw [h1] at k1
  cases h2 : c.links.all okCred with
  | false => rw [h2] at k2; exact spec_SafeCluster_p1 _ _ _ _ _ _ _ _ _ ⟨k1, rfl, k2, rfl, trivial⟩
  | true =>
  rw [h2] at k2
  cases h3 : ownersOk c with
  | false => rw [h3] at k3; exact spec_SafeCluster_p2 _ _ _ _ _ _ _ _ _ _ ⟨k1, rfl, k2, rfl, k3, rfl, trivial⟩
  | true =>
  rw [h3] at k3
  have at4 : ∀ {i a : Nat}, (List.range 4)[i]? = some a → i = a ∧ i < 4 := fun {i a} h => by
    have h2 := lt_of h
    rw [List.length_range] at h2
    rw [List.getElem?_range (by omega)] at h
    exact ⟨by simpa using h, h2⟩
  have l := qbB (P := Tryz.prog) (c := (qaa Tryz.f26 0)) (List.range 4) (epochBad c) (fun i => spec_SafeCluster_L0 (c.graph.nodes.map Node.e) c.graph.workers c.graph.cap (c.workers.map Worker.e) (c.links.map Link.e) (c.tokens.map Token.e) (c.news.map News.e) i) (X := fun _ _ => spec_SafeCluster_X0 false) qaD (qah 0)
    (fun i a ha h => by
      obtain ⟨rfl, hi⟩ := at4 ha
      simp only [epochBad, Bool.or_eq_false_iff, Bool.not_eq_false'] at h
      have a1 := spec_SafeAt_ret c i hc
      have a2 := spec_SumsOk_ret c i hc
      rw [h.1] at a1; rw [h.2] at a2
      exact spec_SafeCluster_L0_s2 _ _ _ _ _ _ _ _ _ _ ⟨dT (by omega), a1, rfl, a2, rfl, ⟨by omega, by omega⟩, trivial⟩)
    (fun i a ha h => by
      obtain ⟨rfl, hi⟩ := at4 ha
      have a1 := spec_SafeAt_ret c i hc
      have a2 := spec_SumsOk_ret c i hc
      cases h1 : safeAt c i with
      | false => rw [h1] at a1; exact spec_SafeCluster_L0_x0 _ _ _ _ _ _ _ _ _ ⟨dT (by omega), a1, rfl, trivial⟩
      | true =>
        simp only [epochBad, h1, Bool.not_true, Bool.false_or, Bool.not_eq_true'] at h
        rw [h1] at a1; rw [h] at a2
        exact spec_SafeCluster_L0_x1 _ _ _ _ _ _ _ _ _ _ ⟨dT (by omega), a1, rfl, a2, rfl, trivial⟩)
    (spec_SafeCluster_L0_x3 _ _ _ _ _ _ _ _ ⟨dF (by simp only [List.length_range]; omega), trivial⟩)
  rcases l with ⟨_, _, h4, l⟩ | ⟨_, _, _, _, _, _, h4, l⟩
  · rw [h4]; exact spec_SafeCluster_p4 _ _ _ _ _ _ _ _ _ _ ⟨k1, rfl, k2, rfl, k3, rfl, l, trivial⟩
  · rw [h4]; exact spec_SafeCluster_p3 _ _ _ _ _ _ _ _ _ _ _ ⟨k1, rfl, k2, rfl, k3, rfl, l, trivial⟩
theorem impl_SafeCluster_ret (c : Cluster) (hc : c.sz ≤ 1048576) (hw : c.wf) : Ret Tryz.prog 27 [.agg c.e] [.one (B (safeCluster c))] := by
  have k1 := impl_ClusterOk_ret c hc hw
  have k2 := impl_CreditsOk_ret c hc hw
  have k3 := impl_OwnersOk_ret c hc hw
  unfold safeCluster
  cases h1 : clusterOk c with
  | false => rw [h1] at k1; exact impl_SafeCluster_p0 _ _ _ _ _ _ _ _ ⟨k1, rfl, trivial⟩
  | true =>
  rw [h1] at k1
  cases h2 : c.links.all okCred with
  | false => rw [h2] at k2; exact impl_SafeCluster_p1 _ _ _ _ _ _ _ _ _ ⟨k1, rfl, k2, rfl, trivial⟩
  | true =>
  rw [h2] at k2
  cases h3 : ownersOk c with
  | false => rw [h3] at k3; exact impl_SafeCluster_p2 _ _ _ _ _ _ _ _ _ _ ⟨k1, rfl, k2, rfl, k3, rfl, trivial⟩
  | true =>
  rw [h3] at k3
  have at4 : ∀ {i a : Nat}, (List.range 4)[i]? = some a → i = a ∧ i < 4 := fun {i a} h => by
    have h2 := lt_of h
    rw [List.length_range] at h2
    rw [List.getElem?_range (by omega)] at h
    exact ⟨by simpa using h, h2⟩
  have l := qbB (P := Tryz.prog) (c := (qaa Tryz.f27 0)) (List.range 4) (epochBad c) (fun i => impl_SafeCluster_L0 (c.graph.nodes.map Node.e) c.graph.workers c.graph.cap (c.workers.map Worker.e) (c.links.map Link.e) (c.tokens.map Token.e) (c.news.map News.e) i) (X := fun _ _ => impl_SafeCluster_X0 false) qaD (qah 0)
    (fun i a ha h => by
      obtain ⟨rfl, hi⟩ := at4 ha
      simp only [epochBad, Bool.or_eq_false_iff, Bool.not_eq_false'] at h
      have a1 := impl_SafeAt_ret c i hc
      have a2 := impl_SumsOk_ret c i hc
      rw [h.1] at a1; rw [h.2] at a2
      exact impl_SafeCluster_L0_s2 _ _ _ _ _ _ _ _ _ _ ⟨dT (by omega), a1, rfl, a2, rfl, ⟨by omega, by omega⟩, trivial⟩)
    (fun i a ha h => by
      obtain ⟨rfl, hi⟩ := at4 ha
      have a1 := impl_SafeAt_ret c i hc
      have a2 := impl_SumsOk_ret c i hc
      cases h1 : safeAt c i with
      | false => rw [h1] at a1; exact impl_SafeCluster_L0_x0 _ _ _ _ _ _ _ _ _ ⟨dT (by omega), a1, rfl, trivial⟩
      | true =>
        simp only [epochBad, h1, Bool.not_true, Bool.false_or, Bool.not_eq_true'] at h
        rw [h1] at a1; rw [h] at a2
        exact impl_SafeCluster_L0_x1 _ _ _ _ _ _ _ _ _ _ ⟨dT (by omega), a1, rfl, a2, rfl, trivial⟩)
    (impl_SafeCluster_L0_x3 _ _ _ _ _ _ _ _ ⟨dF (by simp only [List.length_range]; omega), trivial⟩)
  rcases l with ⟨_, _, h4, l⟩ | ⟨_, _, _, _, _, _, h4, l⟩
  · rw [h4]; exact impl_SafeCluster_p4 _ _ _ _ _ _ _ _ _ _ ⟨k1, rfl, k2, rfl, k3, rfl, l, trivial⟩
  · rw [h4]; exact impl_SafeCluster_p3 _ _ _ _ _ _ _ _ _ _ _ ⟨k1, rfl, k2, rfl, k3, rfl, l, trivial⟩
theorem law_SafeCluster (c : Cluster) (hw : c.wf) : Ret Tryz.prog 5 [.agg c.e] [.one (B true)] := by
  have s := qf6 c 1048576 (by omega) (by omega) hw
  by_cases h : c.sz ≤ 1048576
  · rw [qaL (by omega)] at s
    have t := qgh c h
    exact laws_FnExactSafeCluster_p3 _ _ _ _ _ _ _ _ _ _ _ _ _ _ _ _ _ _ _ _ _ _ _ _ _ _ _ _ _ _ _ _ ⟨s, dF (by omega), t, spec_SafeCluster_ret c h hw, t, impl_SafeCluster_ret c h hw, by simp, t, qgl c c true (by simp) h, rfl, trivial⟩
  · rw [qav (by omega)] at s
    exact laws_FnExactSafeCluster_p0 _ _ _ _ _ _ _ _ ⟨s, rfl, trivial⟩
end Go.Proofs.YtialmplmfcahpaaGreat
