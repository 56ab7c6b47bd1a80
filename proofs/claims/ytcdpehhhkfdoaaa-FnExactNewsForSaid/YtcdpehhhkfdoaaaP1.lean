/- DoneOf, CreditsIn, CreditsOk, SumsOk: what program and reference compute. -/
import Derived.Test.YtcdpehhhkfdoaaaT2
import Derived.Test.YtcdpehhhkfdoaaaT3
import Derived.Test.YtcdpehhhkfdoaaaT4
import Derived.Test.YtcdpehhhkfdoaaaGD
set_option linter.unusedVariables false
set_option linter.unusedSimpArgs false
namespace Go.Proofs.Ytcdpehhhkfdoaaa
open Go.Sx Go.RowKit

def inR (n lo hi : Int) : Bool := decide (lo ≤ n ∧ n ≤ hi)

theorem spec_l01In_ret (n lo hi : Int) : Ret Try.prog 90 [.one (I n), .one (I lo), .one (I hi)] [.one (B (inR n lo hi))] := by
  by_cases h : lo ≤ n
  · have e : inR n lo hi = decide (n ≤ hi) := by simp [inR, h]
    rw [e]; exact spec_l01In_p0 _ _ _ ⟨by simp only [decide_eq_true_eq]; omega, trivial⟩
  · rw [show inR n lo hi = false by simp [inR, h]]; exact spec_l01In_p1 _ _ _ ⟨by simp only [decide_eq_false_iff_not]; omega, trivial⟩
theorem spec_l01In_ret' (n lo hi : Int) (r : Bool) (h : inR n lo hi = r) : Ret Try.prog 90 [.one (I n), .one (I lo), .one (I hi)] [.one (B r)] := h ▸ spec_l01In_ret n lo hi

theorem impl_within_ret (n lo hi : Int) : Ret Try.prog 91 [.one (I n), .one (I lo), .one (I hi)] [.one (B (inR n lo hi))] := by
  by_cases h : lo ≤ n
  · have e : inR n lo hi = decide (n ≤ hi) := by simp [inR, h]
    rw [e]; exact impl_within_p0 _ _ _ ⟨by simp only [decide_eq_true_eq]; omega, trivial⟩
  · rw [show inR n lo hi = false by simp [inR, h]]; exact impl_within_p1 _ _ _ ⟨by simp only [decide_eq_false_iff_not]; omega, trivial⟩
theorem impl_within_ret' (n lo hi : Int) (r : Bool) (h : inR n lo hi = r) : Ret Try.prog 91 [.one (I n), .one (I lo), .one (I hi)] [.one (B r)] := h ▸ impl_within_ret n lo hi

def doneOf (x : Worker) (e : Int) : Done × Bool :=
  match x.dones.find? (fun d => d.epoch == e) with
  | some d => (d, true)
  | none => (⟨0, false⟩, false)

theorem spec_DoneOf_ret (x : Worker) (e : Int) (hx : x.sz ≤ 1048576) : Ret Try.prog 24 [.agg x.e, .one (I e)] [.agg (doneOf x e).1.e, .one (B (doneOf x e).2)] := by
  have hl : x.dones.length ≤ 1048576 := by simp only [Worker.sz] at hx; omega
  let st := fun i : Nat => spec_DoneOf_L0 e i 0 false (x.queue.map Record.e) (x.staged.map Record.e) (x.inputs.map Record.e) (x.cells.map Cell.e) (x.sums.map eI) (x.black.map eB) (x.caps.map eB) (x.dones.map Done.e)
  have step : ∀ i, i < x.dones.length → (∀ b, x.dones[i]? = some b → (b.epoch == e) = false) → Tr Try.prog (loopOf Try.f24 0) (st i) .normal (st (i + 1)) := by
    intro i hi h
    obtain ⟨a, ha⟩ := get_of hi
    exact spec_DoneOf_L0_s1 _ _ _ _ _ _ _ _ _ _ _ _ _ _ ⟨lt1 hi, lt0, lt2 hi, at_map Done.e ha, h a ha, up1 hi hl, trivial⟩
  rcases first_hit (fun d : Done => d.epoch == e) x.dones with ⟨h1, h2⟩ | ⟨i, a, h1, h2, h3, h4⟩
  · simp only [doneOf, h1]
    have l := loop_upto (exit_ne 0) x.dones.length st (fun i hi => step i hi fun b hb => h2 b (mem_of hb)) (spec_DoneOf_L0_x2 _ _ _ _ _ _ _ _ _ _ _ _ ⟨ge1, trivial⟩)
    exact spec_DoneOf_p1 _ _ _ _ _ _ _ _ _ _ _ ⟨l, trivial⟩
  · simp only [doneOf, h3]
    have hi := lt_of h1
    have l := loop_upto ret_ne i st (fun j hj => step j (by omega) fun b hb => h4 j b hj hb) (spec_DoneOf_L0_x0 _ _ _ _ _ _ _ _ _ _ _ _ _ _ _ _ ⟨lt1 hi, lt0, lt2 hi, at_map Done.e h1, h2, lt0, lt2 hi, at_map Done.e h1, trivial⟩)
    exact spec_DoneOf_p0 _ _ _ _ _ _ _ _ _ _ _ _ ⟨l, trivial⟩

theorem impl_DoneOf_ret (x : Worker) (e : Int) (hx : x.sz ≤ 1048576) : Ret Try.prog 26 [.agg x.e, .one (I e)] [.agg (doneOf x e).1.e, .one (B (doneOf x e).2)] := by
  have hl : x.dones.length ≤ 1048576 := by simp only [Worker.sz] at hx; omega
  let st := fun i : Nat => impl_DoneOf_L0 (x.dones.map Done.e) e i 0 false
  have step : ∀ i, i < x.dones.length → (∀ b, x.dones[i]? = some b → (b.epoch == e) = false) → Tr Try.prog (loopOf Try.f26 0) (st i) .normal (st (i + 1)) := by
    intro i hi h
    obtain ⟨a, ha⟩ := get_of hi
    exact impl_DoneOf_L0_s1 _ _ _ _ _ _ _ ⟨lt1 hi, lt0, lt2 hi, at_map Done.e ha, h a ha, up1 hi hl, trivial⟩
  rcases first_hit (fun d : Done => d.epoch == e) x.dones with ⟨h1, h2⟩ | ⟨i, a, h1, h2, h3, h4⟩
  · simp only [doneOf, h1]
    have l := loop_upto (exit_ne 0) x.dones.length st (fun i hi => step i hi fun b hb => h2 b (mem_of hb)) (impl_DoneOf_L0_x2 _ _ _ _ _ ⟨ge1, trivial⟩)
    exact impl_DoneOf_p1 _ _ _ _ _ _ _ _ _ _ _ ⟨l, trivial⟩
  · simp only [doneOf, h3]
    have hi := lt_of h1
    have l := loop_upto ret_ne i st (fun j hj => step j (by omega) fun b hb => h4 j b hj hb) (impl_DoneOf_L0_x0 _ _ _ _ _ _ _ ⟨lt1 hi, lt0, lt2 hi, at_map Done.e h1, h2, trivial⟩)
    exact impl_DoneOf_p0 _ _ _ _ _ _ _ _ _ _ _ _ ⟨l, trivial⟩

/-! ### CreditsIn -/
def credF (n : Int) (l : Link) : Int := wrp (wrp (n + l.credits) + l.back)
def creditsIn (c : Cluster) : Int := c.links.foldl credF 0

theorem credF_eq (n : Int) (l : Link) : wrp (n + wrp (l.credits + l.back)) = credF n l := by
  simp only [credF, wrp, IntKind.wrap_i64]; omega

theorem Cluster.links_le {c : Cluster} (h : c.sz ≤ 1048576) : c.links.length ≤ 1048576 := by simp only [Cluster.sz, szS] at h; omega
theorem Cluster.workers_le {c : Cluster} (h : c.sz ≤ 1048576) : c.workers.length ≤ 1048576 := by simp only [Cluster.sz, szS] at h; omega

theorem spec_CreditsIn_ret (c : Cluster) (hc : c.sz ≤ 1048576) : Ret Try.prog 30 [.agg c.e] [.one (I (creditsIn c))] := by
  have hl := Cluster.links_le hc
  have l := loop_upto (P := Try.prog) (c := (loopOf Try.f30 0)) (exit_ne 0) c.links.length (fun i : Nat => spec_CreditsIn_L0 (c.graph.nodes.map Node.e) c.graph.workers c.graph.cap (c.workers.map Worker.e) (c.links.map Link.e) (c.tokens.map Token.e) (c.news.map News.e) i (foldTo credF 0 c.links i)) (fun i hi => by
    obtain ⟨a, ha⟩ := get_of hi
    rw [foldTo_succ ha]
    exact spec_CreditsIn_L0_s0 _ _ _ _ _ _ _ _ _ _ _ _ _ _ _ _ _ _ _ _ _ ⟨lt1 hi, lt0, lt2 hi, at_map Link.e ha, lt0, lt2 hi, at_map Link.e ha, up1 hi hl, trivial⟩) (spec_CreditsIn_L0_x1 _ _ _ _ _ _ _ _ _ ⟨ge1, trivial⟩)
  rw [foldTo_all, foldTo_zero] at l
  exact spec_CreditsIn_p0 _ _ _ _ _ _ _ _ ⟨l, trivial⟩

theorem impl_CreditsIn_ret (c : Cluster) (hc : c.sz ≤ 1048576) : Ret Try.prog 32 [.agg c.e] [.one (I (creditsIn c))] := by
  have hl := Cluster.links_le hc
  have l := loop_upto (P := Try.prog) (c := (loopOf Try.f32 0)) (exit_ne 0) c.links.length (fun i : Nat => impl_CreditsIn_L0 (c.links.map Link.e) i (foldTo credF 0 c.links i)) (fun i hi => by
    obtain ⟨a, ha⟩ := get_of hi
    rw [foldTo_succ ha, ← credF_eq]
    exact impl_CreditsIn_L0_s0 _ _ _ _ _ _ _ _ _ ⟨lt1 hi, lt0, lt2 hi, at_map Link.e ha, up1 hi hl, trivial⟩) (impl_CreditsIn_L0_x1 _ _ _ ⟨ge1, trivial⟩)
  rw [foldTo_all, foldTo_zero] at l
  exact impl_CreditsIn_p0 _ _ _ _ _ _ _ _ ⟨l, trivial⟩

/-! ### CreditsOk -/
def okCred (l : Link) : Bool := inR l.credits 0 l.cap && inR l.back 0 l.cap && decide (l.credits + l.back + l.queue.length = l.cap)

theorem Cluster.link_wf {c : Cluster} (h : c.wf) {l : Link} (hl : l ∈ c.links) : l.wf := h.links_ok.2 l hl
theorem Cluster.link_sz {c : Cluster} (h : c.sz ≤ 1048576) {l : Link} (hl : l ∈ c.links) : l.sz ≤ 1048576 := by
  have := szS_mem (sz := Link.sz) (xs := c.links) (m := 1048576) (by simp only [Cluster.sz] at h; omega) hl
  exact this
theorem Cluster.worker_sz {c : Cluster} (h : c.sz ≤ 1048576) {w : Worker} (hl : w ∈ c.workers) : w.sz ≤ 1048576 := by
  have := szS_mem (sz := Worker.sz) (xs := c.workers) (m := 1048576) (by simp only [Cluster.sz] at h; omega) hl
  exact this

theorem spec_CreditsOk_ret (c : Cluster) (hc : c.sz ≤ 1048576) (hw : c.wf) : Ret Try.prog 34 [.agg c.e] [.one (B (c.links.all okCred))] := by
  have hl := Cluster.links_le hc
  let st := fun i : Nat => spec_CreditsOk_L0 i (c.graph.nodes.map Node.e) c.graph.workers c.graph.cap (c.workers.map Worker.e) (c.links.map Link.e) (c.tokens.map Token.e) (c.news.map News.e)
  have step : ∀ i, i < c.links.length → (∀ b, c.links[i]? = some b → okCred b = true) → Tr Try.prog (loopOf Try.f34 0) (st i) .normal (st (i + 1)) := by
    intro i hi h
    obtain ⟨a, ha⟩ := get_of hi
    have h := h a ha
    have hq := Cluster.link_sz hc (mem_of ha)
    have hwa := Cluster.link_wf hw (mem_of ha)
    have hcap := hwa.cap_ok
    simp only [okCred, inR, Bool.and_eq_true, decide_eq_true_eq] at h
    simp only [inInt] at hcap
    simp only [Link.sz] at hq
    have e : IntKind.i64.wrap (IntKind.i64.wrap (a.credits + a.back) + (a.queue.length : Int)) = a.cap := by simp only [IntKind.wrap_i64]; omega
    refine spec_CreditsOk_L0_s3 _ _ _ _ _ _ _ _ _ _ _ _ _ _ _ _ ⟨lt1 hi, lt0, lt2 hi, at_map Link.e ha, spec_l01In_ret' _ _ _ true (by simp [inR]; omega), rfl, spec_l01In_ret' _ _ _ true (by simp [inR]; omega), rfl, ?_, up1 hi hl, trivial⟩
    rw [List.length_map, e]; simp
  rcases first_bad okCred c.links with h1 | ⟨i, a, ha, h2, h4⟩
  · rw [List.all_eq_true.2 h1]
    have l := loop_upto (exit_ne 0) c.links.length st (fun i hi => step i hi fun b hb => h1 b (mem_of hb)) (spec_CreditsOk_L0_x4 _ _ _ _ _ _ _ _ ⟨ge1, trivial⟩)
    exact spec_CreditsOk_p1 _ _ _ _ _ _ _ ⟨l, trivial⟩
  · have hall : c.links.all okCred = false := List.all_eq_false.2 ⟨a, mem_of ha, by simp [h2]⟩
    rw [hall]
    have hi := lt_of ha
    have out : Tr Try.prog (loopOf Try.f34 0) (st i) .ret (spec_CreditsOk_X0 false) := by
      have hq := Cluster.link_sz hc (mem_of ha)
      have hwa := Cluster.link_wf hw (mem_of ha)
      have hcap := hwa.cap_ok
      simp only [inInt] at hcap
      simp only [Link.sz] at hq
      by_cases h5 : inR a.credits 0 a.cap = true
      case neg => exact spec_CreditsOk_L0_x0 _ _ _ _ _ _ _ _ _ _ _ _ _ _ _ ⟨lt1 hi, lt0, lt2 hi, at_map Link.e ha, spec_l01In_ret' _ _ _ false (by simpa using h5), rfl, trivial⟩
      by_cases h6 : inR a.back 0 a.cap = true
      case neg => exact spec_CreditsOk_L0_x1 _ _ _ _ _ _ _ _ _ _ _ _ _ _ _ _ ⟨lt1 hi, lt0, lt2 hi, at_map Link.e ha, spec_l01In_ret' _ _ _ true h5, rfl, spec_l01In_ret' _ _ _ false (by simpa using h6), rfl, trivial⟩
      have h7 : ¬ (a.credits + a.back + a.queue.length = a.cap) := by
        intro e
        simp [okCred, h5, h6, e] at h2
      refine spec_CreditsOk_L0_x2 _ _ _ _ _ _ _ _ _ _ _ _ _ _ _ _ ⟨lt1 hi, lt0, lt2 hi, at_map Link.e ha, spec_l01In_ret' _ _ _ true h5, rfl, spec_l01In_ret' _ _ _ true h6, rfl, ?_, trivial⟩
      simp only [inR, decide_eq_true_eq] at h5 h6
      have e : ¬ IntKind.i64.wrap (IntKind.i64.wrap (a.credits + a.back) + (a.queue.length : Int)) = a.cap := by simp only [IntKind.wrap_i64]; omega
      rw [List.length_map]; simp [e]
    have l := loop_upto ret_ne i st (fun j hj => step j (by omega) fun b hb => h4 j b hj hb) out
    exact spec_CreditsOk_p0 _ _ _ _ _ _ _ _ ⟨l, trivial⟩

theorem impl_CreditsOk_ret (c : Cluster) (hc : c.sz ≤ 1048576) (hw : c.wf) : Ret Try.prog 35 [.agg c.e] [.one (B (c.links.all okCred))] := by
  have hl := Cluster.links_le hc
  let st := fun i : Nat => impl_CreditsOk_L0 (c.links.map Link.e) i
  have step : ∀ i, i < c.links.length → (∀ b, c.links[i]? = some b → okCred b = true) → Tr Try.prog (loopOf Try.f35 0) (st i) .normal (st (i + 1)) := by
    intro i hi h
    obtain ⟨a, ha⟩ := get_of hi
    have h := h a ha
    have hcap := (Cluster.link_wf hw (mem_of ha)).cap_ok
    simp only [okCred, inR, Bool.and_eq_true, decide_eq_true_eq] at h
    simp only [inInt] at hcap
    refine impl_CreditsOk_L0_s4 _ _ _ _ _ _ _ _ _ _ ⟨lt1 hi, lt0, lt2 hi, at_map Link.e ha, impl_within_ret' _ _ _ true (by simp [inR]; omega), rfl, impl_within_ret' _ _ _ true (by simp [inR]; omega), rfl, ⟨by omega, by omega⟩, by simp only [decide_eq_false_iff_not]; omega, ⟨by omega, by omega⟩, ⟨by omega, by omega⟩, ?_, up1 hi hl, trivial⟩
    rw [List.length_map]; simp; omega
  rcases first_bad okCred c.links with h1 | ⟨i, a, ha, h2, h4⟩
  · rw [List.all_eq_true.2 h1]
    have l := loop_upto (exit_ne 0) c.links.length st (fun i hi => step i hi fun b hb => h1 b (mem_of hb)) (impl_CreditsOk_L0_x5 _ _ ⟨ge1, trivial⟩)
    exact impl_CreditsOk_p1 _ _ _ _ _ _ _ ⟨l, trivial⟩
  · have hall : c.links.all okCred = false := List.all_eq_false.2 ⟨a, mem_of ha, by simp [h2]⟩
    rw [hall]
    have hi := lt_of ha
    have out : Tr Try.prog (loopOf Try.f35 0) (st i) .ret (impl_CreditsOk_X0 false) := by
      have hcap := (Cluster.link_wf hw (mem_of ha)).cap_ok
      simp only [inInt] at hcap
      by_cases h5 : inR a.credits 0 a.cap = true
      case neg => exact impl_CreditsOk_L0_x0 _ _ _ _ _ _ _ _ _ ⟨lt1 hi, lt0, lt2 hi, at_map Link.e ha, impl_within_ret' _ _ _ false (by simpa using h5), rfl, trivial⟩
      by_cases h6 : inR a.back 0 a.cap = true
      case neg => exact impl_CreditsOk_L0_x1 _ _ _ _ _ _ _ _ _ _ ⟨lt1 hi, lt0, lt2 hi, at_map Link.e ha, impl_within_ret' _ _ _ true h5, rfl, impl_within_ret' _ _ _ false (by simpa using h6), rfl, trivial⟩
      have h7 : ¬ (a.credits + a.back + a.queue.length = a.cap) := by
        intro e
        simp [okCred, h5, h6, e] at h2
      have g5 := h5
      have g6 := h6
      simp only [inR, decide_eq_true_eq] at g5 g6
      by_cases h8 : a.credits > a.cap - a.back
      · exact impl_CreditsOk_L0_x2 _ _ _ _ _ _ _ _ _ _ ⟨lt1 hi, lt0, lt2 hi, at_map Link.e ha, impl_within_ret' _ _ _ true h5, rfl, impl_within_ret' _ _ _ true h6, rfl, ⟨by omega, by omega⟩, by simpa using h8, trivial⟩
      · refine impl_CreditsOk_L0_x3 _ _ _ _ _ _ _ _ _ _ ⟨lt1 hi, lt0, lt2 hi, at_map Link.e ha, impl_within_ret' _ _ _ true h5, rfl, impl_within_ret' _ _ _ true h6, rfl, ⟨by omega, by omega⟩, by simpa using h8, ⟨by omega, by omega⟩, ⟨by omega, by omega⟩, ?_, trivial⟩
        rw [List.length_map]; simp; omega
    have l := loop_upto ret_ne i st (fun j hj => step j (by omega) fun b hb => h4 j b hj hb) out
    exact impl_CreditsOk_p0 _ _ _ _ _ _ _ _ ⟨l, trivial⟩

/-! ### OfEpoch, InFlight, DeficitOf, SumsOk -/
def ofEpoch (xs : List Record) (e : Int) : List Record := xs.filter fun r => r.stamp.epoch == e

theorem Record.flat (r : Record) : ∀ d ∈ r.e, ∃ x, d = .v x := by
  intro d hd
  simp only [Record.e, List.mem_cons, List.not_mem_nil, or_false] at hd
  rcases hd with rfl | rfl | rfl | rfl | rfl <;> exact ⟨_, rfl⟩

theorem filt_len {α : Type} (p : α → Bool) (xs : List α) (i : Nat) : ((xs.take i).filter p).length ≤ i :=
  Nat.le_trans (List.length_filter_le ..) (by simp; omega)

theorem spec_OfEpoch_ret (xs : List Record) (e : Int) (hx : xs.length ≤ 1048576) : Ret Try.prog 122 [.one (.sl 5 (xs.map Record.e)), .one (I e)] [.one (.sl 5 ((ofEpoch xs e).map Record.e))] := by
  let p := fun r : Record => r.stamp.epoch == e
  have l := loop_upto (P := Try.prog) (c := (loopOf Try.f122 0)) (exit_ne 0) xs.length (fun i : Nat => spec_OfEpoch_L0 (xs.map Record.e) e i (((xs.take i).filter p).map Record.e)) (fun i hi => by
    obtain ⟨a, ha⟩ := get_of hi
    have hf := filt_len p xs i
    have hs := filter_take p ha
    by_cases hp : p a = true
    · rw [if_pos hp] at hs
      rw [hs, List.map_append]
      exact spec_OfEpoch_L0_s0 _ _ _ _ _ _ _ _ _ _ _ _ _ _ ⟨lt1 hi, lt0, lt2 hi, at_map Record.e ha, hp, lt0, lt2 hi, at_map Record.e ha, by simp; omega, by simp; omega, flat_one a.flat, up1 hi hx, trivial⟩
    · rw [if_neg hp, List.append_nil] at hs
      rw [hs]
      exact spec_OfEpoch_L0_s1 _ _ _ _ _ _ _ _ _ ⟨lt1 hi, lt0, lt2 hi, at_map Record.e ha, Bool.eq_false_iff.2 hp, up1 hi hx, trivial⟩) (spec_OfEpoch_L0_x2 _ _ _ _ ⟨ge1, trivial⟩)
  rw [List.take_length] at l
  exact spec_OfEpoch_p0 _ _ _ ⟨l, trivial⟩

theorem impl_OfEpoch_ret (xs : List Record) (e : Int) (hx : xs.length ≤ 1048576) : Ret Try.prog 123 [.one (.sl 5 (xs.map Record.e)), .one (I e)] [.one (.sl 5 ((ofEpoch xs e).map Record.e))] := by
  let p := fun r : Record => r.stamp.epoch == e
  have l := loop_upto (P := Try.prog) (c := (loopOf Try.f123 0)) (exit_ne 0) xs.length (fun i : Nat => impl_OfEpoch_L0 (xs.map Record.e) e i (((xs.take i).filter p).map Record.e)) (fun i hi => by
    obtain ⟨a, ha⟩ := get_of hi
    have hf := filt_len p xs i
    have hs := filter_take p ha
    by_cases hp : p a = true
    · rw [if_pos hp] at hs
      rw [hs, List.map_append]
      exact impl_OfEpoch_L0_s0 _ _ _ _ _ _ _ _ _ ⟨lt1 hi, lt0, lt2 hi, at_map Record.e ha, hp, by simp; omega, by simp; omega, flat_one a.flat, up1 hi hx, trivial⟩
    · rw [if_neg hp, List.append_nil] at hs
      rw [hs]
      exact impl_OfEpoch_L0_s1 _ _ _ _ _ _ _ _ _ ⟨lt1 hi, lt0, lt2 hi, at_map Record.e ha, Bool.eq_false_iff.2 hp, up1 hi hx, trivial⟩) (impl_OfEpoch_L0_x2 _ _ _ _ ⟨ge1, trivial⟩)
  rw [List.take_length] at l
  exact impl_OfEpoch_p0 _ _ _ ⟨l, trivial⟩

def flight (e : Int) (l : Link) : Nat := (ofEpoch l.queue e).length

theorem spec_InFlight_ret (l : Link) (e : Int) (hl : l.sz ≤ 1048576) : Ret Try.prog 97 [.agg l.e, .one (I e)] [.one (I (flight e l))] := by
  have := spec_InFlight_p0 l.cap _ l.credits l.back l.sent l.got _ _ ⟨spec_OfEpoch_ret l.queue e hl, trivial⟩
  rw [List.length_map] at this
  exact this

theorem impl_InFlight_ret (l : Link) (e : Int) (hl : l.sz ≤ 1048576) : Ret Try.prog 99 [.agg l.e, .one (I e)] [.one (I (flight e l))] := by
  have := impl_InFlight_p0 l.cap _ l.credits l.back l.sent l.got _ _ ⟨impl_OfEpoch_ret l.queue e hl, trivial⟩
  rw [List.length_map] at this
  exact this

def defF (e : Int) (n : Int) (w : Worker) : Int := if inR e 0 (w.sums.length - 1) then wrp (n + w.sums.getD e.toNat 0) else n
def deficitOf (c : Cluster) (e : Int) : Int := c.workers.foldl (defF e) 0

theorem at_int {xs : List Int} {e : Int} (h : inR e 0 (xs.length - 1) = true) : 0 ≤ e ∧ e < (↑(xs.map eI).length : Int) ∧ (xs.map eI)[e.toNat]? = some [I (xs.getD e.toNat 0)] := by
  simp only [inR, decide_eq_true_eq] at h
  refine ⟨h.1, by rw [List.length_map]; omega, ?_⟩
  have : e.toNat < xs.length := by omega
  rw [List.getElem?_map, List.getElem?_eq_getElem this, List.getD_eq_getElem?_getD, List.getElem?_eq_getElem this]
  rfl

theorem spec_DeficitOf_ret (c : Cluster) (e : Int) (hc : c.sz ≤ 1048576) : Ret Try.prog 98 [.agg c.e, .one (I e)] [.one (I (deficitOf c e))] := by
  have hl := Cluster.workers_le hc
  have l := loop_upto (P := Try.prog) (c := (loopOf Try.f98 0)) (exit_ne 0) c.workers.length (fun i : Nat => spec_DeficitOf_L0 (c.graph.nodes.map Node.e) c.graph.workers c.graph.cap (c.workers.map Worker.e) (c.links.map Link.e) (c.tokens.map Token.e) (c.news.map News.e) e i (foldTo (defF e) 0 c.workers i)) (fun i hi => by
    obtain ⟨a, ha⟩ := get_of hi
    have hs := Cluster.worker_sz hc (mem_of ha)
    simp only [Worker.sz] at hs
    rw [foldTo_succ ha]
    by_cases h : inR e 0 (a.sums.length - 1) = true
    · obtain ⟨h1, h2, h3⟩ := at_int h
      rw [defF, if_pos h]
      exact spec_DeficitOf_L0_s0 _ _ _ _ _ _ _ _ _ _ _ _ _ _ _ _ _ _ _ _ _ _ _ _ _ _ _ _ ⟨lt1 hi, lt0, lt2 hi, at_map Worker.e ha, by rw [List.length_map]; exact ⟨by omega, by omega⟩, spec_l01In_ret' _ _ _ true (by rw [List.length_map]; exact h), rfl, lt0, lt2 hi, at_map Worker.e ha, h1, h2, h3, up1 hi hl, trivial⟩
    · rw [defF, if_neg h]
      exact spec_DeficitOf_L0_s1 _ _ _ _ _ _ _ _ _ _ _ _ _ _ _ _ _ _ _ ⟨lt1 hi, lt0, lt2 hi, at_map Worker.e ha, by rw [List.length_map]; exact ⟨by omega, by omega⟩, spec_l01In_ret' _ _ _ false (by rw [List.length_map]; simpa using h), rfl, up1 hi hl, trivial⟩) (spec_DeficitOf_L0_x2 _ _ _ _ _ _ _ _ _ _ ⟨ge1, trivial⟩)
  rw [foldTo_all, foldTo_zero] at l
  exact spec_DeficitOf_p0 _ _ _ _ _ _ _ _ _ ⟨l, trivial⟩

theorem impl_DeficitOf_ret (c : Cluster) (e : Int) (hc : c.sz ≤ 1048576) : Ret Try.prog 100 [.agg c.e, .one (I e)] [.one (I (deficitOf c e))] := by
  have hl := Cluster.workers_le hc
  have l := loop_upto (P := Try.prog) (c := (loopOf Try.f100 0)) (exit_ne 0) c.workers.length (fun i : Nat => impl_DeficitOf_L0 (c.workers.map Worker.e) e i (foldTo (defF e) 0 c.workers i)) (fun i hi => by
    obtain ⟨a, ha⟩ := get_of hi
    have hs := Cluster.worker_sz hc (mem_of ha)
    simp only [Worker.sz] at hs
    rw [foldTo_succ ha]
    by_cases h : inR e 0 (a.sums.length - 1) = true
    · obtain ⟨h1, h2, h3⟩ := at_int h
      rw [defF, if_pos h]
      exact impl_DeficitOf_L0_s0 _ _ _ _ _ _ _ _ _ _ _ _ _ _ ⟨lt1 hi, lt0, lt2 hi, at_map Worker.e ha, by rw [List.length_map]; exact ⟨by omega, by omega⟩, impl_within_ret' _ _ _ true (by rw [List.length_map]; exact h), rfl, h1, h2, h3, up1 hi hl, trivial⟩
    · rw [defF, if_neg h]
      exact impl_DeficitOf_L0_s1 _ _ _ _ _ _ _ _ _ _ _ _ _ ⟨lt1 hi, lt0, lt2 hi, at_map Worker.e ha, by rw [List.length_map]; exact ⟨by omega, by omega⟩, impl_within_ret' _ _ _ false (by rw [List.length_map]; simpa using h), rfl, up1 hi hl, trivial⟩) (impl_DeficitOf_L0_x2 _ _ _ _ ⟨ge1, trivial⟩)
  rw [foldTo_all, foldTo_zero] at l
  exact impl_DeficitOf_p0 _ _ _ _ _ _ _ _ _ ⟨l, trivial⟩

def sumsOk (c : Cluster) (e : Int) : Bool := deficitOf c e == ((c.links.map (flight e)).sum : Int)

theorem sum_le {α : Type} {f g : α → Nat} : ∀ {xs : List α}, (∀ a, f a ≤ g a) → (xs.map f).sum ≤ (xs.map g).sum
  | [], _ => Nat.le_refl _
  | x :: xs, h => by
    have := h x
    have := sum_le (xs := xs) h
    simp only [List.map_cons, List.sum_cons]; omega

theorem flight_le {c : Cluster} (e : Int) (hc : c.sz ≤ 1048576) : (c.links.map (flight e)).sum ≤ 1048576 := by
  have h : (c.links.map (flight e)).sum ≤ (c.links.map Link.sz).sum := sum_le fun l => List.length_filter_le ..
  simp only [Cluster.sz, szS] at hc
  omega

theorem spec_SumsOk_ret (c : Cluster) (e : Int) (hc : c.sz ≤ 1048576) : Ret Try.prog 46 [.agg c.e, .one (I e)] [.one (B (sumsOk c e))] := by
  have hl := Cluster.links_le hc
  have hb := flight_le e hc
  have l := loop_upto (P := Try.prog) (c := (loopOf Try.f46 0)) (exit_ne 0) c.links.length (fun i : Nat => spec_SumsOk_L0 (c.graph.nodes.map Node.e) c.graph.workers c.graph.cap (c.workers.map Worker.e) (c.links.map Link.e) (c.tokens.map Token.e) (c.news.map News.e) e i (sumTo (flight e) c.links i)) (fun i hi => by
    obtain ⟨a, ha⟩ := get_of hi
    have hs := sumTo_succ (sz := flight e) ha
    have h1 := sumTo_le (sz := flight e) (xs := c.links) (i := i + 1)
    rw [hs, Int.natCast_add]
    exact spec_SumsOk_L0_s0 _ _ _ _ _ _ _ _ _ _ _ _ _ _ _ _ _ ⟨lt1 hi, lt0, lt2 hi, at_map Link.e ha, spec_InFlight_ret a e (Cluster.link_sz hc (mem_of ha)), ⟨by omega, by omega⟩, up1 hi hl, trivial⟩) (spec_SumsOk_L0_x1 _ _ _ _ _ _ _ _ _ _ ⟨ge1, trivial⟩)
  rw [sumTo_all, sumTo_zero] at l
  exact spec_SumsOk_p0 _ _ _ _ _ _ _ _ _ _ ⟨l, spec_DeficitOf_ret c e hc, trivial⟩

theorem impl_SumsOk_ret (c : Cluster) (e : Int) (hc : c.sz ≤ 1048576) : Ret Try.prog 47 [.agg c.e, .one (I e)] [.one (B (sumsOk c e))] := by
  have hl := Cluster.links_le hc
  have hb := flight_le e hc
  have l := loop_upto (P := Try.prog) (c := (loopOf Try.f47 0)) (exit_ne 0) c.links.length (fun i : Nat => impl_SumsOk_L0 (c.links.map Link.e) e i (sumTo (flight e) c.links i) (c.graph.nodes.map Node.e) c.graph.workers c.graph.cap (c.workers.map Worker.e) (c.links.map Link.e) (c.tokens.map Token.e) (c.news.map News.e)) (fun i hi => by
    obtain ⟨a, ha⟩ := get_of hi
    have hs := sumTo_succ (sz := flight e) ha
    have h1 := sumTo_le (sz := flight e) (xs := c.links) (i := i + 1)
    rw [hs, Int.natCast_add]
    exact impl_SumsOk_L0_s0 _ _ _ _ _ _ _ _ _ _ _ _ _ _ _ _ _ _ ⟨lt1 hi, lt0, lt2 hi, at_map Link.e ha, impl_InFlight_ret a e (Cluster.link_sz hc (mem_of ha)), ⟨by omega, by omega⟩, up1 hi hl, trivial⟩) (impl_SumsOk_L0_x1 _ _ _ _ _ _ _ _ _ _ _ ⟨ge1, trivial⟩)
  rw [sumTo_all, sumTo_zero] at l
  exact impl_SumsOk_p0 _ _ _ _ _ _ _ _ _ _ _ _ _ _ _ _ _ ⟨l, impl_DeficitOf_ret c e hc, trivial⟩
end Go.Proofs.Ytcdpehhhkfdoaaa
