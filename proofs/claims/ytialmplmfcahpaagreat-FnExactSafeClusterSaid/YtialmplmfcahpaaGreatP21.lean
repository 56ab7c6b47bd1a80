/- CreditsOk, SumsOk, OwnersOk: what program and reference compute. -/
import Derived.Test.YtialmplmfcahpaaGreatP12
import Derived.Test.YtialmplmfcahpaaGreatGU
set_option linter.unusedVariables false
set_option linter.unusedSimpArgs false
namespace Go.Proofs.YtialmplmfcahpaaGreat
open Go.Sx Go.RowKit
theorem Cluster.links_le {c : Cluster} (h : c.sz ≤ 1048576) : c.links.length ≤ 1048576 := by simp only [Cluster.sz, szS] at h; omega
def okCred (l : Link) : Bool := inR l.credits 0 l.cap && inR l.back 0 l.cap && decide (l.credits + l.back + l.queue.length = l.cap)
theorem Cluster.link_wf {c : Cluster} (h : c.wf) {l : Link} (hl : l ∈ c.links) : l.wf := h.links_ok.2 l hl
theorem Cluster.link_sz {c : Cluster} (h : c.sz ≤ 1048576) {l : Link} (hl : l ∈ c.links) : l.sz ≤ 1048576 := by
  have := qcR (sz := Link.sz) (xs := c.links) (m := 1048576) (by simp only [Cluster.sz] at h; omega) hl
  exact this
theorem spec_CreditsOk_ret (c : Cluster) (hc : c.sz ≤ 1048576) (hw : c.wf) : Ret Tryz.prog 90 [.agg c.e] [.one (B (c.links.all okCred))] := by
  have hl := Cluster.links_le hc
  let st := fun i : Nat => spec_CreditsOk_L0 i (c.graph.nodes.map Node.e) c.graph.workers c.graph.cap (c.workers.map Worker.e) (c.links.map Link.e) (c.tokens.map Token.e) (c.news.map News.e)
  have step : ∀ i, i < c.links.length → (∀ b, c.links[i]? = some b → okCred b = true) → Tr Tryz.prog (qaa Tryz.f90 0) (st i) .normal (st (i + 1)) := by
    intro i hi h
    obtain ⟨a, ha⟩ := qag hi
    have h := h a ha
    have hq := Cluster.link_sz hc (qaG ha)
    have hwa := Cluster.link_wf hw (qaG ha)
    have hcap := hwa.cap_ok
    simp only [okCred, inR, Bool.and_eq_true, decide_eq_true_eq] at h
    simp only [inInt] at hcap
    simp only [Link.sz] at hq
    have e : IntKind.i64.wrap (IntKind.i64.wrap (a.credits + a.back) + (a.queue.length : Int)) = a.cap := by simp only [IntKind.wrap_i64]; omega
    refine spec_CreditsOk_L0_s3 _ _ _ _ _ _ _ _ _ _ _ _ _ _ _ _ ⟨lt1 hi, lt0, lt2 hi, qae Link.e ha, qgq _ _ _ true (by simp [inR]; omega), rfl, qgq _ _ _ true (by simp [inR]; omega), rfl, ?_, up1 hi hl, trivial⟩
    rw [List.length_map, e]; simp
  rcases first_bad okCred c.links with h1 | ⟨i, a, ha, h2, h4⟩
  · rw [List.all_eq_true.2 h1]
    have l := qaj (qah 0) c.links.length st (fun i hi => step i hi fun b hb => h1 b (qaG hb)) (spec_CreditsOk_L0_x4 _ _ _ _ _ _ _ _ ⟨ge1, trivial⟩)
    exact spec_CreditsOk_p1 _ _ _ _ _ _ _ ⟨l, trivial⟩
  · have hall : c.links.all okCred = false := List.all_eq_false.2 ⟨a, qaG ha, by simp [h2]⟩
    rw [hall]
    have hi := lt_of ha
    have out : Tr Tryz.prog (qaa Tryz.f90 0) (st i) .ret (spec_CreditsOk_X0 false) := by
      have hq := Cluster.link_sz hc (qaG ha)
      have hwa := Cluster.link_wf hw (qaG ha)
      have hcap := hwa.cap_ok
      simp only [inInt] at hcap
      simp only [Link.sz] at hq
      by_cases h5 : inR a.credits 0 a.cap = true
      case neg => exact spec_CreditsOk_L0_x0 _ _ _ _ _ _ _ _ _ _ _ _ _ _ _ ⟨lt1 hi, lt0, lt2 hi, qae Link.e ha, qgq _ _ _ false (by simpa using h5), rfl, trivial⟩
      by_cases h6 : inR a.back 0 a.cap = true
      case neg => exact spec_CreditsOk_L0_x1 _ _ _ _ _ _ _ _ _ _ _ _ _ _ _ _ ⟨lt1 hi, lt0, lt2 hi, qae Link.e ha, qgq _ _ _ true h5, rfl, qgq _ _ _ false (by simpa using h6), rfl, trivial⟩
      have h7 : ¬ (a.credits + a.back + a.queue.length = a.cap) := by
        intro e
        simp [okCred, h5, h6, e] at h2
      refine spec_CreditsOk_L0_x2 _ _ _ _ _ _ _ _ _ _ _ _ _ _ _ _ ⟨lt1 hi, lt0, lt2 hi, qae Link.e ha, qgq _ _ _ true h5, rfl, qgq _ _ _ true h6, rfl, ?_, trivial⟩
      simp only [inR, decide_eq_true_eq] at h5 h6
      have e : ¬ IntKind.i64.wrap (IntKind.i64.wrap (a.credits + a.back) + (a.queue.length : Int)) = a.cap := by simp only [IntKind.wrap_i64]; omega
      rw [List.length_map]; simp [e]
    have l := qaj qaD i st (fun j hj => step j (by omega) fun b hb => h4 j b hj hb) out
    exact spec_CreditsOk_p0 _ _ _ _ _ _ _ _ ⟨l, trivial⟩
theorem impl_CreditsOk_ret (c : Cluster) (hc : c.sz ≤ 1048576) (hw : c.wf) : Ret Tryz.prog 95 [.agg c.e] [.one (B (c.links.all okCred))] := by
  have hl := Cluster.links_le hc
  let st := fun i : Nat => impl_CreditsOk_L0 (c.links.map Link.e) i
  have step : ∀ i, i < c.links.length → (∀ b, c.links[i]? = some b → okCred b = true) → Tr Tryz.prog (qaa Tryz.f95 0) (st i) .normal (st (i + 1)) := by
    intro i hi h
    obtain ⟨a, ha⟩ := qag hi
    have h := h a ha
    have hcap := (Cluster.link_wf hw (qaG ha)).cap_ok
    simp only [okCred, inR, Bool.and_eq_true, decide_eq_true_eq] at h
    simp only [inInt] at hcap
    refine impl_CreditsOk_L0_s4 _ _ _ _ _ _ _ _ _ _ ⟨lt1 hi, lt0, lt2 hi, qae Link.e ha, qgr _ _ _ true (by simp [inR]; omega), rfl, qgr _ _ _ true (by simp [inR]; omega), rfl, ⟨by omega, by omega⟩, by simp only [decide_eq_false_iff_not]; omega, ⟨by omega, by omega⟩, ⟨by omega, by omega⟩, ?_, up1 hi hl, trivial⟩
    rw [List.length_map]; simp; omega
  rcases first_bad okCred c.links with h1 | ⟨i, a, ha, h2, h4⟩
  · rw [List.all_eq_true.2 h1]
    have l := qaj (qah 0) c.links.length st (fun i hi => step i hi fun b hb => h1 b (qaG hb)) (impl_CreditsOk_L0_x5 _ _ ⟨ge1, trivial⟩)
    exact impl_CreditsOk_p1 _ _ _ _ _ _ _ ⟨l, trivial⟩
  · have hall : c.links.all okCred = false := List.all_eq_false.2 ⟨a, qaG ha, by simp [h2]⟩
    rw [hall]
    have hi := lt_of ha
    have out : Tr Tryz.prog (qaa Tryz.f95 0) (st i) .ret (impl_CreditsOk_X0 false) := by
      have hcap := (Cluster.link_wf hw (qaG ha)).cap_ok
      simp only [inInt] at hcap
      by_cases h5 : inR a.credits 0 a.cap = true
      case neg => exact impl_CreditsOk_L0_x0 _ _ _ _ _ _ _ _ _ ⟨lt1 hi, lt0, lt2 hi, qae Link.e ha, qgr _ _ _ false (by simpa using h5), rfl, trivial⟩
      by_cases h6 : inR a.back 0 a.cap = true
      case neg => exact impl_CreditsOk_L0_x1 _ _ _ _ _ _ _ _ _ _ ⟨lt1 hi, lt0, lt2 hi, qae Link.e ha, qgr _ _ _ true h5, rfl, qgr _ _ _ false (by simpa using h6), rfl, trivial⟩
      have h7 : ¬ (a.credits + a.back + a.queue.length = a.cap) := by
        intro e
        simp [okCred, h5, h6, e] at h2
      have g5 := h5
      have g6 := h6
      simp only [inR, decide_eq_true_eq] at g5 g6
      by_cases h8 : a.credits > a.cap - a.back
      · exact impl_CreditsOk_L0_x2 _ _ _ _ _ _ _ _ _ _ ⟨lt1 hi, lt0, lt2 hi, qae Link.e ha, qgr _ _ _ true h5, rfl, qgr _ _ _ true h6, rfl, ⟨by omega, by omega⟩, by simpa using h8, trivial⟩
      · refine impl_CreditsOk_L0_x3 _ _ _ _ _ _ _ _ _ _ ⟨lt1 hi, lt0, lt2 hi, qae Link.e ha, qgr _ _ _ true h5, rfl, qgr _ _ _ true h6, rfl, ⟨by omega, by omega⟩, by simpa using h8, ⟨by omega, by omega⟩, ⟨by omega, by omega⟩, ?_, trivial⟩
        rw [List.length_map]; simp; omega
    have l := qaj qaD i st (fun j hj => step j (by omega) fun b hb => h4 j b hj hb) out
    exact impl_CreditsOk_p0 _ _ _ _ _ _ _ _ ⟨l, trivial⟩
def flight (e : Int) (l : Link) : Nat := (qfn e l.queue).length
theorem spec_InFlight_ret (l : Link) (e : Int) (hl : l.sz ≤ 1048576) : Ret Tryz.prog 180 [.agg l.e, .one (I e)] [.one (I (flight e l))] := by
  have := spec_InFlight_p0 l.cap _ l.credits l.back l.sent l.got _ _ ⟨spec_OfEpoch_ret l.queue e hl, trivial⟩
  rw [List.length_map] at this
  exact this
theorem impl_InFlight_ret (l : Link) (e : Int) (hl : l.sz ≤ 1048576) : Ret Tryz.prog 192 [.agg l.e, .one (I e)] [.one (I (flight e l))] := by
  have := impl_InFlight_p0 l.cap _ l.credits l.back l.sent l.got _ _ ⟨qv1 l.queue e hl, trivial⟩
  rw [List.length_map] at this
  exact this
def defF (e n : Int) (w : Worker) : Int := if inR e 0 (w.sums.length - 1) then wrp (n + w.sums.getD e.toNat 0) else n
def deficitOf (c : Cluster) (e : Int) : Int := c.workers.foldl (defF e) 0
theorem at_int {xs : List Int} {e : Int} (h : inR e 0 (xs.length - 1) = true) : 0 ≤ e ∧ e < (↑(xs.map eI).length : Int) ∧ (xs.map eI)[e.toNat]? = some [I (xs.getD e.toNat 0)] := by
  simp only [inR, decide_eq_true_eq] at h
  refine ⟨h.1, by rw [List.length_map]; omega, ?_⟩
  have : e.toNat < xs.length := by omega
  rw [List.getElem?_map, List.getElem?_eq_getElem this, List.getD_eq_getElem?_getD, List.getElem?_eq_getElem this]
  rfl
theorem wlen {α : Type} {f : Int → α} {xs : List Int} (h : xs.length ≤ 1048576) : IntKind.i64.wrap ((↑(xs.map f).length : Int) - 1) = (xs.length : Int) - 1 := by
  rw [List.length_map]
  exact inInt.wrap ⟨by omega, by omega⟩
theorem spec_DeficitOf_ret (c : Cluster) (e : Int) (hc : c.sz ≤ 1048576) : Ret Tryz.prog 181 [.agg c.e, .one (I e)] [.one (I (deficitOf c e))] := by
  have hl := Cluster.wlen_le hc
  have l := qaj (P := Tryz.prog) (c := (qaa Tryz.f181 0)) (qah 0) c.workers.length (fun i : Nat => spec_DeficitOf_L0 (c.graph.nodes.map Node.e) c.graph.workers c.graph.cap (c.workers.map Worker.e) (c.links.map Link.e) (c.tokens.map Token.e) (c.news.map News.e) e i (qa7 (defF e) 0 c.workers i)) (fun i hi => by
    obtain ⟨a, ha⟩ := qag hi
    have hs := Cluster.worker_sz hc (qaG ha)
    simp only [Worker.sz] at hs
    rw [qf1 ha]
    by_cases h : inR e 0 (a.sums.length - 1) = true
    · obtain ⟨h1, h2, h3⟩ := at_int h
      rw [defF, if_pos h]
      exact spec_DeficitOf_L0_s0 _ _ _ _ _ _ _ _ _ _ _ _ _ _ _ _ _ _ _ _ _ _ _ _ _ _ _ _ ⟨lt1 hi, lt0, lt2 hi, qae Worker.e ha, qgq _ _ _ true (by rw [wlen (xs := a.sums) (by omega)]; exact h), rfl, lt0, lt2 hi, qae Worker.e ha, h1, h2, h3, up1 hi hl, trivial⟩
    · rw [defF, if_neg h]
      exact spec_DeficitOf_L0_s1 _ _ _ _ _ _ _ _ _ _ _ _ _ _ _ _ _ _ _ ⟨lt1 hi, lt0, lt2 hi, qae Worker.e ha, qgq _ _ _ false (by rw [wlen (xs := a.sums) (by omega)]; simpa using h), rfl, up1 hi hl, trivial⟩) (spec_DeficitOf_L0_x2 _ _ _ _ _ _ _ _ _ _ ⟨ge1, trivial⟩)
  rw [qf2, foldTo_zero] at l
  exact spec_DeficitOf_p0 _ _ _ _ _ _ _ _ _ ⟨l, trivial⟩
theorem impl_DeficitOf_ret (c : Cluster) (e : Int) (hc : c.sz ≤ 1048576) : Ret Tryz.prog 193 [.agg c.e, .one (I e)] [.one (I (deficitOf c e))] := by
  have hl := Cluster.wlen_le hc
  have l := qaj (P := Tryz.prog) (c := (qaa Tryz.f193 0)) (qah 0) c.workers.length (fun i : Nat => impl_DeficitOf_L0 (c.workers.map Worker.e) e i (qa7 (defF e) 0 c.workers i)) (fun i hi => by
    obtain ⟨a, ha⟩ := qag hi
    have hs := Cluster.worker_sz hc (qaG ha)
    simp only [Worker.sz] at hs
    rw [qf1 ha]
    by_cases h : inR e 0 (a.sums.length - 1) = true
    · obtain ⟨h1, h2, h3⟩ := at_int h
      rw [defF, if_pos h]
      exact impl_DeficitOf_L0_s0 _ _ _ _ _ _ _ _ _ _ _ _ _ _ ⟨lt1 hi, lt0, lt2 hi, qae Worker.e ha, qgr _ _ _ true (by rw [wlen (xs := a.sums) (by omega)]; exact h), rfl, h1, h2, h3, up1 hi hl, trivial⟩
    · rw [defF, if_neg h]
      exact impl_DeficitOf_L0_s1 _ _ _ _ _ _ _ _ _ _ _ _ _ ⟨lt1 hi, lt0, lt2 hi, qae Worker.e ha, qgr _ _ _ false (by rw [wlen (xs := a.sums) (by omega)]; simpa using h), rfl, up1 hi hl, trivial⟩) (impl_DeficitOf_L0_x2 _ _ _ _ ⟨ge1, trivial⟩)
  rw [qf2, foldTo_zero] at l
  exact impl_DeficitOf_p0 _ _ _ _ _ _ _ _ _ ⟨l, trivial⟩
def sumsOk (c : Cluster) (e : Int) : Bool := deficitOf c e == ((c.links.map (flight e)).sum : Int)
theorem sum_le {α : Type} {f g : α → Nat} : ∀ {xs : List α}, (∀ a, f a ≤ g a) → (xs.map f).sum ≤ (xs.map g).sum
  | [], _ => Nat.le_refl _
  | x :: xs, h => by
    have := h x
    have := sum_le (xs := xs) h
    simp only [List.map_cons, List.sum_cons]; omega
theorem flight_le {c : Cluster} (e : Int) (hc : c.sz ≤ 1048576) : (c.links.map (flight e)).sum ≤ 1048576 := by
  have h : (c.links.map (flight e)).sum ≤ (c.links.map Link.sz).sum := sum_le fun l => List.length_filter_le ..
  simp only [Cluster.sz, szS] at hc
  omega
theorem spec_SumsOk_ret (c : Cluster) (e : Int) (hc : c.sz ≤ 1048576) : Ret Tryz.prog 93 [.agg c.e, .one (I e)] [.one (B (sumsOk c e))] := by
  have hl := Cluster.links_le hc
  have hb := flight_le e hc
  have l := qaj (P := Tryz.prog) (c := (qaa Tryz.f93 0)) (qah 0) c.links.length (fun i : Nat => spec_SumsOk_L0 (c.graph.nodes.map Node.e) c.graph.workers c.graph.cap (c.workers.map Worker.e) (c.links.map Link.e) (c.tokens.map Token.e) (c.news.map News.e) e i (sumTo (flight e) c.links i)) (fun i hi => by
    obtain ⟨a, ha⟩ := qag hi
    have hs := qc7 (sz := flight e) ha
    have h1 := qdw (sz := flight e) (xs := c.links) (i := i + 1)
    rw [hs, Int.natCast_add]
    exact spec_SumsOk_L0_s0 _ _ _ _ _ _ _ _ _ _ _ _ _ _ _ _ _ ⟨lt1 hi, lt0, lt2 hi, qae Link.e ha, spec_InFlight_ret a e (Cluster.link_sz hc (qaG ha)), ⟨by omega, by omega⟩, up1 hi hl, trivial⟩) (spec_SumsOk_L0_x1 _ _ _ _ _ _ _ _ _ _ ⟨ge1, trivial⟩)
  rw [qf0, qc6] at l
  exact spec_SumsOk_p0 _ _ _ _ _ _ _ _ _ _ ⟨l, spec_DeficitOf_ret c e hc, trivial⟩
theorem impl_SumsOk_ret (c : Cluster) (e : Int) (hc : c.sz ≤ 1048576) : Ret Tryz.prog 98 [.agg c.e, .one (I e)] [.one (B (sumsOk c e))] := by
  have hl := Cluster.links_le hc
  have hb := flight_le e hc
  have l := qaj (P := Tryz.prog) (c := (qaa Tryz.f98 0)) (qah 0) c.links.length (fun i : Nat => impl_SumsOk_L0 (c.links.map Link.e) e i (sumTo (flight e) c.links i) (c.graph.nodes.map Node.e) c.graph.workers c.graph.cap (c.workers.map Worker.e) (c.links.map Link.e) (c.tokens.map Token.e) (c.news.map News.e)) (fun i hi => by
    obtain ⟨a, ha⟩ := qag hi
    have hs := qc7 (sz := flight e) ha
    have h1 := qdw (sz := flight e) (xs := c.links) (i := i + 1)
    rw [hs, Int.natCast_add]
    exact impl_SumsOk_L0_s0 _ _ _ _ _ _ _ _ _ _ _ _ _ _ _ _ _ _ ⟨lt1 hi, lt0, lt2 hi, qae Link.e ha, impl_InFlight_ret a e (Cluster.link_sz hc (qaG ha)), ⟨by omega, by omega⟩, up1 hi hl, trivial⟩) (impl_SumsOk_L0_x1 _ _ _ _ _ _ _ _ _ _ _ ⟨ge1, trivial⟩)
  rw [qf0, qc6] at l
  exact impl_SumsOk_p0 _ _ _ _ _ _ _ _ _ _ _ _ _ _ _ _ _ ⟨l, impl_DeficitOf_ret c e hc, trivial⟩
def ownerOf (key workers : Int) : Int := if workers < 1 then 0 else if key.tmod workers < 0 then key.tmod workers + workers else key.tmod workers
theorem tmod_gt (a b : Int) (h : 0 < b) : - b < a.tmod b := by
  rcases Int.le_total 0 a with ha | ha
  · have := Int.tmod_nonneg b ha; omega
  · have h1 : (-a).tmod b < b := Int.tmod_lt_of_pos _ h
    rw [Int.neg_tmod] at h1
    omega
theorem spec_OwnerOf_ret (key workers : Int) (hw : workers ≤ 9223372036854775807) : Ret Tryz.prog 265 [.one (I key), .one (I workers)] [.one (I (ownerOf key workers))] := by
  unfold ownerOf
  split
  · exact spec_OwnerOf_p0 _ _ ⟨by simpa using ‹workers < 1›, trivial⟩
  · rename_i h
    have h1 := tmod_gt key workers (by omega)
    have h2 : key.tmod workers < workers := Int.tmod_lt_of_pos _ (by omega)
    split
    · rename_i h3
      exact spec_OwnerOf_p1 _ _ ⟨by simp only [decide_eq_false_iff_not]; omega, by omega, by simpa using h3, ⟨by omega, by omega⟩, trivial⟩
    · rename_i h3
      exact spec_OwnerOf_p2 _ _ ⟨by simp only [decide_eq_false_iff_not]; omega, by omega, by simpa using h3, trivial⟩
theorem impl_OwnerOf_ret (key workers : Int) (hw : workers ≤ 9223372036854775807) : Ret Tryz.prog 226 [.one (I key), .one (I workers)] [.one (I (ownerOf key workers))] := by
  unfold ownerOf
  split
  · exact impl_OwnerOf_p0 _ _ ⟨by simpa using ‹workers < 1›, trivial⟩
  · rename_i h
    have h1 := tmod_gt key workers (by omega)
    have h2 : key.tmod workers < workers := Int.tmod_lt_of_pos _ (by omega)
    split
    · rename_i h3
      exact impl_OwnerOf_p1 _ _ ⟨by simp only [decide_eq_false_iff_not]; omega, by omega, by simpa using h3, ⟨by omega, by omega⟩, trivial⟩
    · rename_i h3
      exact impl_OwnerOf_p2 _ _ ⟨by simp only [decide_eq_false_iff_not]; omega, by omega, by simpa using h3, trivial⟩
def foreign (w n : Int) (r : Record) : Bool := ownerOf r.key n != w
theorem spec_l21Own_ret (c : Cluster) (xs : List Record) (w : Int) (hw : c.wf) (hl : xs.length ≤ 1048576) : Ret Tryz.prog 176 [.agg c.e, .one (.sl 5 (xs.map Record.e)), .one (I w)] [.one (B (!(xs.any (foreign w c.graph.workers))))] := by
  have hn := hw.graph_ok.workers_ok
  simp only [inInt] at hn
  have l := qbB (P := Tryz.prog) (c := (qaa Tryz.f176 0)) xs (foreign w c.graph.workers) (fun i => spec_l21Own_L0 (c.graph.nodes.map Node.e) c.graph.workers c.graph.cap (c.workers.map Worker.e) (c.links.map Link.e) (c.tokens.map Token.e) (c.news.map News.e) (xs.map Record.e) w i) (X := fun _ _ => spec_l21Own_X0 false) qaD (qah 0)
    (fun i a ha h => spec_l21Own_L0_s1 _ _ _ _ _ _ _ _ _ _ _ _ _ _ _ _ ⟨lt1 (lt_of ha), lt0, lt2 (lt_of ha), qae Record.e ha, spec_OwnerOf_ret _ _ hn.2, h, up1 (lt_of ha) hl, trivial⟩)
    (fun i a ha h => spec_l21Own_L0_x0 _ _ _ _ _ _ _ _ _ _ _ _ _ _ _ _ ⟨lt1 (lt_of ha), lt0, lt2 (lt_of ha), qae Record.e ha, spec_OwnerOf_ret _ _ hn.2, h, trivial⟩)
    (spec_l21Own_L0_x2 _ _ _ _ _ _ _ _ _ _ ⟨ge1, trivial⟩)
  rcases l with ⟨_, _, h1, h2⟩ | ⟨i, a, _, _, _, _, h1, h2⟩
  · rw [h1]; exact spec_l21Own_p1 _ _ _ _ _ _ _ _ _ ⟨h2, trivial⟩
  · rw [h1]; exact spec_l21Own_p0 _ _ _ _ _ _ _ _ _ _ ⟨h2, trivial⟩
theorem impl_ownedBy_ret (xs : List Record) (w n : Int) (hn : n ≤ 9223372036854775807) (hl : xs.length ≤ 1048576) : Ret Tryz.prog 185 [.one (.sl 5 (xs.map Record.e)), .one (I w), .one (I n)] [.one (B (!(xs.any (foreign w n))))] :=
  impl_ownedBy_p0 _ _ _ _ ⟨slices_ContainsFunc_Record_ret xs (foreign w n) _ _ hl (by kernel_rfl) (fun x _ => impl_ownedBy_1_p0 _ _ _ _ _ _ _ _ ⟨impl_OwnerOf_ret _ _ hn, trivial⟩), trivial⟩
def badW (n : Int) (i : Nat) (w : Worker) : Bool := w.queue.any (foreign i n) || w.inputs.any (foreign i n)
def badL (n : Int) (i : Nat) (l : Link) : Bool := decide (n < 1) || l.queue.any (foreign ((i : Int).tmod n) n)
def ownersOk (c : Cluster) : Bool := !(anyI (badW c.graph.workers) 0 c.workers) && !(anyI (badL c.graph.workers) 0 c.links)
theorem Worker.queue_le {w : Worker} (h : w.sz ≤ 1048576) : w.queue.length ≤ 1048576 := by simp only [Worker.sz] at h; omega
theorem Worker.inputs_le {w : Worker} (h : w.sz ≤ 1048576) : w.inputs.length ≤ 1048576 := by simp only [Worker.sz] at h; omega
theorem spec_l21Own_ret' (c : Cluster) (xs : List Record) (w : Int) (r : Bool) (h : xs.any (foreign w c.graph.workers) = r) (hw : c.wf) (hl : xs.length ≤ 1048576) : Ret Tryz.prog 176 [.agg c.e, .one (.sl 5 (xs.map Record.e)), .one (I w)] [.one (B (!r))] := h ▸ spec_l21Own_ret c xs w hw hl
theorem impl_ownedBy_ret' (xs : List Record) (w n : Int) (r : Bool) (h : xs.any (foreign w n) = r) (hn : n ≤ 9223372036854775807) (hl : xs.length ≤ 1048576) : Ret Tryz.prog 185 [.one (.sl 5 (xs.map Record.e)), .one (I w), .one (I n)] [.one (B (!r))] := h ▸ impl_ownedBy_ret xs w n hn hl
theorem spec_OwnersOk_ret (c : Cluster) (hc : c.sz ≤ 1048576) (hw : c.wf) : Ret Tryz.prog 91 [.agg c.e] [.one (B (ownersOk c))] := by
  have l0 := qf3 (P := Tryz.prog) (c := (qaa Tryz.f91 0)) c.workers (badW c.graph.workers) (fun i => spec_OwnersOk_L0 (c.graph.nodes.map Node.e) c.graph.workers c.graph.cap (c.workers.map Worker.e) (c.links.map Link.e) (c.tokens.map Token.e) (c.news.map News.e) i) (X := spec_OwnersOk_X0 false) qaD (qah 0)
    (fun i a ha h => by
      simp only [badW, Bool.or_eq_false_iff] at h
      have hs := Cluster.worker_sz hc (qaG ha)
      exact spec_OwnersOk_L0_s2 _ _ _ _ _ _ _ _ _ _ _ _ _ _ _ _ _ _ _ _ _ _ _ _ _ _ ⟨lt1 (lt_of ha), lt0, lt2 (lt_of ha), qae Worker.e ha, spec_l21Own_ret' c _ _ false h.1 hw (Worker.queue_le hs), rfl, lt0, lt2 (lt_of ha), qae Worker.e ha, spec_l21Own_ret' c _ _ false h.2 hw (Worker.inputs_le hs), rfl, up1 (lt_of ha) (Cluster.wlen_le hc), trivial⟩)
    (fun i a ha h => by
      have hs := Cluster.worker_sz hc (qaG ha)
      by_cases h1 : a.queue.any (foreign i c.graph.workers) = true
      · exact spec_OwnersOk_L0_x0 _ _ _ _ _ _ _ _ _ _ _ _ _ _ _ _ _ ⟨lt1 (lt_of ha), lt0, lt2 (lt_of ha), qae Worker.e ha, spec_l21Own_ret' c _ _ true h1 hw (Worker.queue_le hs), rfl, trivial⟩
      · have h1' := Bool.eq_false_iff.2 h1
        simp only [badW, h1', Bool.false_or] at h
        exact spec_OwnersOk_L0_x1 _ _ _ _ _ _ _ _ _ _ _ _ _ _ _ _ _ _ _ _ _ _ _ _ _ _ ⟨lt1 (lt_of ha), lt0, lt2 (lt_of ha), qae Worker.e ha, spec_l21Own_ret' c _ _ false h1' hw (Worker.queue_le hs), rfl, lt0, lt2 (lt_of ha), qae Worker.e ha, spec_l21Own_ret' c _ _ true h hw (Worker.inputs_le hs), rfl, trivial⟩)
    (spec_OwnersOk_L0_x3 _ _ _ _ _ _ _ _ ⟨ge1, trivial⟩)
  have l1 := qf3 (P := Tryz.prog) (c := (qaa Tryz.f91 1)) c.links (badL c.graph.workers) (fun i => spec_OwnersOk_L1 (c.graph.nodes.map Node.e) c.graph.workers c.graph.cap (c.workers.map Worker.e) (c.links.map Link.e) (c.tokens.map Token.e) (c.news.map News.e) i) (X := spec_OwnersOk_X1 false) qaD (qah 2)
    (fun i a ha h => by
      simp only [badL, Bool.or_eq_false_iff, decide_eq_false_iff_not] at h
      have hs : a.queue.length ≤ 1048576 := Cluster.link_sz hc (qaG ha)
      exact spec_OwnersOk_L1_s2 _ _ _ _ _ _ _ _ _ _ _ _ _ _ _ ⟨lt1 (lt_of ha), by simp only [decide_eq_false_iff_not]; omega, lt0, lt2 (lt_of ha), qae Link.e ha, by omega, spec_l21Own_ret' c _ _ false h.2 hw hs, rfl, up1 (lt_of ha) (Cluster.links_le hc), trivial⟩)
    (fun i a ha h => by
      have hs : a.queue.length ≤ 1048576 := Cluster.link_sz hc (qaG ha)
      by_cases h1 : c.graph.workers < 1
      · exact spec_OwnersOk_L1_x0 _ _ _ _ _ _ _ _ ⟨lt1 (lt_of ha), by simpa using h1, trivial⟩
      · have h2 : a.queue.any (foreign ((i : Int).tmod c.graph.workers) c.graph.workers) = true := by simpa [badL, h1] using h
        exact spec_OwnersOk_L1_x1 _ _ _ _ _ _ _ _ _ _ _ _ _ _ _ ⟨lt1 (lt_of ha), by simpa using h1, lt0, lt2 (lt_of ha), qae Link.e ha, by omega, spec_l21Own_ret' c _ _ true h2 hw hs, rfl, trivial⟩)
    (spec_OwnersOk_L1_x3 _ _ _ _ _ _ _ _ ⟨ge1, trivial⟩)
  unfold ownersOk
  rcases l0 with ⟨e0, l0⟩ | ⟨e0, l0⟩
  · rcases l1 with ⟨e1, l1⟩ | ⟨e1, l1⟩
    · rw [e0, e1]; exact spec_OwnersOk_p2 _ _ _ _ _ _ _ ⟨l0, l1, trivial⟩
    · rw [e0, e1]; exact spec_OwnersOk_p1 _ _ _ _ _ _ _ _ ⟨l0, l1, trivial⟩
  · rw [e0]; exact spec_OwnersOk_p0 _ _ _ _ _ _ _ _ ⟨l0, trivial⟩
theorem impl_OwnersOk_ret (c : Cluster) (hc : c.sz ≤ 1048576) (hw : c.wf) : Ret Tryz.prog 96 [.agg c.e] [.one (B (ownersOk c))] := by
  have hn := hw.graph_ok.workers_ok
  simp only [inInt] at hn
  have hn := hn.2
  have l0 := qf3 (P := Tryz.prog) (c := (qaa Tryz.f96 0)) c.workers (badW c.graph.workers) (fun i => impl_OwnersOk_L0 c.graph.workers (c.workers.map Worker.e) i (c.graph.nodes.map Node.e) c.graph.workers c.graph.cap (c.workers.map Worker.e) (c.links.map Link.e) (c.tokens.map Token.e) (c.news.map News.e)) (X := impl_OwnersOk_X0 false) qaD (qah 0)
    (fun i a ha h => by
      simp only [badW, Bool.or_eq_false_iff] at h
      have hs := Cluster.worker_sz hc (qaG ha)
      exact impl_OwnersOk_L0_s2 _ _ _ _ _ _ _ _ _ _ _ _ _ _ _ _ _ _ _ _ ⟨lt1 (lt_of ha), lt0, lt2 (lt_of ha), qae Worker.e ha, impl_ownedBy_ret' _ _ _ false h.1 hn (Worker.queue_le hs), rfl, impl_ownedBy_ret' _ _ _ false h.2 hn (Worker.inputs_le hs), rfl, up1 (lt_of ha) (Cluster.wlen_le hc), trivial⟩)
    (fun i a ha h => by
      have hs := Cluster.worker_sz hc (qaG ha)
      by_cases h1 : a.queue.any (foreign i c.graph.workers) = true
      · exact impl_OwnersOk_L0_x0 _ _ _ _ _ _ _ _ _ _ _ _ _ _ _ _ _ _ _ ⟨lt1 (lt_of ha), lt0, lt2 (lt_of ha), qae Worker.e ha, impl_ownedBy_ret' _ _ _ true h1 hn (Worker.queue_le hs), rfl, trivial⟩
      · have h1' := Bool.eq_false_iff.2 h1
        simp only [badW, h1', Bool.false_or] at h
        exact impl_OwnersOk_L0_x1 _ _ _ _ _ _ _ _ _ _ _ _ _ _ _ _ _ _ _ _ ⟨lt1 (lt_of ha), lt0, lt2 (lt_of ha), qae Worker.e ha, impl_ownedBy_ret' _ _ _ false h1' hn (Worker.queue_le hs), rfl, impl_ownedBy_ret' _ _ _ true h hn (Worker.inputs_le hs), rfl, trivial⟩)
    (impl_OwnersOk_L0_x3 _ _ _ _ _ _ _ _ _ _ ⟨ge1, trivial⟩)
  unfold ownersOk
  by_cases h0 : c.links = []
  · -- no links
    have hlk : (c.links.map Link.e) = [] := by rw [h0]; rfl
    have l1 : qac Tryz.prog (qaa Tryz.f96 1) (impl_OwnersOk_L1 c.graph.workers (c.links.map Link.e) 0) (.exit 2) impl_OwnersOk_X1v5 :=
      .last (qah 2) (impl_OwnersOk_L1_x2 _ _ _ ⟨by rw [hlk]; rfl, trivial⟩)
    have e1 : anyI (badL c.graph.workers) 0 c.links = false := by rw [h0]; rfl
    have hz : decide ((↑(c.links.map Link.e).length : Int) > 0) = false := by rw [hlk]; rfl
    rw [e1]
    rcases l0 with ⟨e0, l0⟩ | ⟨e0, l0⟩
    · rw [e0]; exact impl_OwnersOk_p6 _ _ _ _ _ _ _ _ _ _ _ _ _ _ ⟨hz, l0, l1, trivial⟩
    · rw [e0]; exact impl_OwnersOk_p4 _ _ _ _ _ _ _ _ ⟨hz, l0, trivial⟩
  · have hpos : 0 < c.links.length := List.length_pos_iff.2 h0
    have hz : decide ((↑(c.links.map Link.e).length : Int) > 0) = true := by simp only [List.length_map, gt_iff_lt, decide_eq_true_eq]; omega
    by_cases h1 : c.graph.workers < 1
    · have e1 : anyI (badL c.graph.workers) 0 c.links = true := by
        cases e : anyI (badL c.graph.workers) 0 c.links with
        | true => rfl
        | false =>
          obtain ⟨a, ha⟩ := qag hpos
          have := qih e 0 a ha
          simp [badL, h1] at this
      rw [e1, Bool.not_true, Bool.and_false]
      exact impl_OwnersOk_p0 _ _ _ _ _ _ _ ⟨hz, by simpa using h1, trivial⟩
    have l1 := qf3 (P := Tryz.prog) (c := (qaa Tryz.f96 1)) c.links (badL c.graph.workers) (fun i => impl_OwnersOk_L1 c.graph.workers (c.links.map Link.e) i) (X := impl_OwnersOk_X1 false) qaD (qah 2)
      (fun i a ha h => by
        simp only [badL, Bool.or_eq_false_iff, decide_eq_false_iff_not] at h
        have hs : a.queue.length ≤ 1048576 := Cluster.link_sz hc (qaG ha)
        exact impl_OwnersOk_L1_s1 _ _ _ _ _ _ _ _ _ _ ⟨lt1 (lt_of ha), lt0, lt2 (lt_of ha), qae Link.e ha, by omega, impl_ownedBy_ret' _ _ _ false h.2 hn hs, rfl, up1 (lt_of ha) (Cluster.links_le hc), trivial⟩)
      (fun i a ha h => by
        have hs : a.queue.length ≤ 1048576 := Cluster.link_sz hc (qaG ha)
        have h2 : a.queue.any (foreign ((i : Int).tmod c.graph.workers) c.graph.workers) = true := by simpa [badL, h1] using h
        exact impl_OwnersOk_L1_x0 _ _ _ _ _ _ _ _ _ _ ⟨lt1 (lt_of ha), lt0, lt2 (lt_of ha), qae Link.e ha, by omega, impl_ownedBy_ret' _ _ _ true h2 hn hs, rfl, trivial⟩)
      (impl_OwnersOk_L1_x2 _ _ _ ⟨ge1, trivial⟩)
    have hz1 : decide (c.graph.workers < 1) = false := by simpa using h1
    rcases l0 with ⟨e0, l0⟩ | ⟨e0, l0⟩
    · rcases l1 with ⟨e1, l1⟩ | ⟨e1, l1⟩
      · rw [e0, e1]; exact impl_OwnersOk_p3 _ _ _ _ _ _ _ _ _ _ _ _ _ _ ⟨hz, hz1, l0, l1, trivial⟩
      · rw [e0, e1]; exact impl_OwnersOk_p2 _ _ _ _ _ _ _ _ _ _ _ _ _ _ _ ⟨hz, hz1, l0, l1, trivial⟩
    · rw [e0]; exact impl_OwnersOk_p1 _ _ _ _ _ _ _ _ ⟨hz, hz1, l0, trivial⟩
end Go.Proofs.YtialmplmfcahpaaGreat
