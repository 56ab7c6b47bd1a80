/- Who is done; who owns what: what program and reference compute. -/
import Derived.Test.YtcdpehhhkfdoaaaP1
import Derived.Test.YtcdpehhhkfdoaaaGF
set_option linter.unusedVariables false
set_option linter.unusedSimpArgs false
namespace Go.Proofs.Ytcdpehhhkfdoaaa
open Go.Sx Go.RowKit

def idxI {α : Type} (p : α → Bool) (xs : List α) : Int := match xs.findIdx? p with | some i => i | none => -1

theorem idxI_ge {α : Type} (p : α → Bool) (xs : List α) : decide (idxI p xs ≥ 0) = xs.any p := by
  unfold idxI
  cases h : xs.findIdx? p with
  | none =>
    have : xs.any p = false := by
      rw [List.any_eq_false]
      rw [List.findIdx?_eq_none_iff] at h
      exact fun a ha => by simp [h a ha]
    rw [this]; rfl
  | some i =>
    rw [List.findIdx?_eq_some_iff_getElem] at h
    obtain ⟨hi, h2, _⟩ := h
    have : xs.any p = true := List.any_eq_true.2 ⟨_, List.getElem_mem hi, h2⟩
    rw [this]; simp

theorem slices_IndexFunc_Worker_ret (xs : List Worker) (p : Worker → Bool) (g : Nat) (caps : List D) (hl : xs.length ≤ 1048576) (hc : canCall Try.prog g = true) (hp : ∀ x ∈ xs, Ret Try.prog g ([.agg x.e] ++ caps.map .one) [.one (B (p x))]) :
    Ret Try.prog 121 [.one (.sl 8 (xs.map Worker.e)), .one (.cl g caps)] [.one (I (idxI p xs))] := by
  have hp' : ∀ x ∈ xs, ∀ r, p x = r → Ret Try.prog g ([.agg x.e] ++ caps.map .one) [.one (B r)] := fun x hx r h => h ▸ hp x hx
  have l := loop_scan (P := Try.prog) (c := (loopOf Try.f121 0)) xs p (fun i => slices_IndexFunc_Worker_L0 (xs.map Worker.e) g caps i) (X := fun i _ => slices_IndexFunc_Worker_X0 i) ret_ne (exit_ne 0)
    (fun i a ha h => slices_IndexFunc_Worker_L0_s1 _ _ _ _ _ _ _ _ _ _ _ _ _ ⟨lt1 (lt_of ha), lt0, lt2 (lt_of ha), at_map Worker.e ha, hc, hp' a (mem_of ha) false h, rfl, up1 (lt_of ha) hl, trivial⟩)
    (fun i a ha h => slices_IndexFunc_Worker_L0_x0 _ _ _ _ _ _ _ _ _ _ _ _ _ ⟨lt1 (lt_of ha), lt0, lt2 (lt_of ha), at_map Worker.e ha, hc, hp' a (mem_of ha) true h, rfl, trivial⟩)
    (slices_IndexFunc_Worker_L0_x2 _ _ _ _ ⟨ge1, trivial⟩)
  rcases l with ⟨_, h1, _, h2⟩ | ⟨i, a, _, _, _, h1, _, h2⟩
  · simp only [idxI, h1]
    exact slices_IndexFunc_Worker_p1 _ _ _ ⟨h2, trivial⟩
  · simp only [idxI, h1]
    exact slices_IndexFunc_Worker_p0 _ _ _ _ ⟨h2, trivial⟩

theorem slices_ContainsFunc_Worker_ret (xs : List Worker) (p : Worker → Bool) (g : Nat) (caps : List D) (hl : xs.length ≤ 1048576) (hc : canCall Try.prog g = true) (hp : ∀ x ∈ xs, Ret Try.prog g ([.agg x.e] ++ caps.map .one) [.one (B (p x))]) :
    Ret Try.prog 94 [.one (.sl 8 (xs.map Worker.e)), .one (.cl g caps)] [.one (B (xs.any p))] := by
  rw [← idxI_ge]
  exact slices_ContainsFunc_Worker_p0 _ _ _ _ ⟨slices_IndexFunc_Worker_ret xs p g caps hl hc hp, trivial⟩
theorem slices_IndexFunc_Record_ret (xs : List Record) (p : Record → Bool) (g : Nat) (caps : List D) (hl : xs.length ≤ 1048576) (hc : canCall Try.prog g = true) (hp : ∀ x ∈ xs, Ret Try.prog g ([.agg x.e] ++ caps.map .one) [.one (B (p x))]) :
    Ret Try.prog 137 [.one (.sl 5 (xs.map Record.e)), .one (.cl g caps)] [.one (I (idxI p xs))] := by
  have hp' : ∀ x ∈ xs, ∀ r, p x = r → Ret Try.prog g ([.agg x.e] ++ caps.map .one) [.one (B r)] := fun x hx r h => h ▸ hp x hx
  have l := loop_scan (P := Try.prog) (c := (loopOf Try.f137 0)) xs p (fun i => slices_IndexFunc_Record_L0 (xs.map Record.e) g caps i) (X := fun i _ => slices_IndexFunc_Record_X0 i) ret_ne (exit_ne 0)
    (fun i a ha h => slices_IndexFunc_Record_L0_s1 _ _ _ _ _ _ _ _ _ _ ⟨lt1 (lt_of ha), lt0, lt2 (lt_of ha), at_map Record.e ha, hc, hp' a (mem_of ha) false h, rfl, up1 (lt_of ha) hl, trivial⟩)
    (fun i a ha h => slices_IndexFunc_Record_L0_x0 _ _ _ _ _ _ _ _ _ _ ⟨lt1 (lt_of ha), lt0, lt2 (lt_of ha), at_map Record.e ha, hc, hp' a (mem_of ha) true h, rfl, trivial⟩)
    (slices_IndexFunc_Record_L0_x2 _ _ _ _ ⟨ge1, trivial⟩)
  rcases l with ⟨_, h1, _, h2⟩ | ⟨i, a, _, _, _, h1, _, h2⟩
  · simp only [idxI, h1]
    exact slices_IndexFunc_Record_p1 _ _ _ ⟨h2, trivial⟩
  · simp only [idxI, h1]
    exact slices_IndexFunc_Record_p0 _ _ _ _ ⟨h2, trivial⟩

theorem slices_ContainsFunc_Record_ret (xs : List Record) (p : Record → Bool) (g : Nat) (caps : List D) (hl : xs.length ≤ 1048576) (hc : canCall Try.prog g = true) (hp : ∀ x ∈ xs, Ret Try.prog g ([.agg x.e] ++ caps.map .one) [.one (B (p x))]) :
    Ret Try.prog 125 [.one (.sl 5 (xs.map Record.e)), .one (.cl g caps)] [.one (B (xs.any p))] := by
  rw [← idxI_ge]
  exact slices_ContainsFunc_Record_p0 _ _ _ _ ⟨slices_IndexFunc_Record_ret xs p g caps hl hc hp, trivial⟩
theorem slices_IndexFunc_Done_ret (xs : List Done) (p : Done → Bool) (g : Nat) (caps : List D) (hl : xs.length ≤ 1048576) (hc : canCall Try.prog g = true) (hp : ∀ x ∈ xs, Ret Try.prog g ([.agg x.e] ++ caps.map .one) [.one (B (p x))]) :
    Ret Try.prog 138 [.one (.sl 2 (xs.map Done.e)), .one (.cl g caps)] [.one (I (idxI p xs))] := by
  have hp' : ∀ x ∈ xs, ∀ r, p x = r → Ret Try.prog g ([.agg x.e] ++ caps.map .one) [.one (B r)] := fun x hx r h => h ▸ hp x hx
  have l := loop_scan (P := Try.prog) (c := (loopOf Try.f138 0)) xs p (fun i => slices_IndexFunc_Done_L0 (xs.map Done.e) g caps i) (X := fun i _ => slices_IndexFunc_Done_X0 i) ret_ne (exit_ne 0)
    (fun i a ha h => slices_IndexFunc_Done_L0_s1 _ _ _ _ _ _ _ ⟨lt1 (lt_of ha), lt0, lt2 (lt_of ha), at_map Done.e ha, hc, hp' a (mem_of ha) false h, rfl, up1 (lt_of ha) hl, trivial⟩)
    (fun i a ha h => slices_IndexFunc_Done_L0_x0 _ _ _ _ _ _ _ ⟨lt1 (lt_of ha), lt0, lt2 (lt_of ha), at_map Done.e ha, hc, hp' a (mem_of ha) true h, rfl, trivial⟩)
    (slices_IndexFunc_Done_L0_x2 _ _ _ _ ⟨ge1, trivial⟩)
  rcases l with ⟨_, h1, _, h2⟩ | ⟨i, a, _, _, _, h1, _, h2⟩
  · simp only [idxI, h1]
    exact slices_IndexFunc_Done_p1 _ _ _ ⟨h2, trivial⟩
  · simp only [idxI, h1]
    exact slices_IndexFunc_Done_p0 _ _ _ _ ⟨h2, trivial⟩

theorem slices_ContainsFunc_Done_ret (xs : List Done) (p : Done → Bool) (g : Nat) (caps : List D) (hl : xs.length ≤ 1048576) (hc : canCall Try.prog g = true) (hp : ∀ x ∈ xs, Ret Try.prog g ([.agg x.e] ++ caps.map .one) [.one (B (p x))]) :
    Ret Try.prog 135 [.one (.sl 2 (xs.map Done.e)), .one (.cl g caps)] [.one (B (xs.any p))] := by
  rw [← idxI_ge]
  exact slices_ContainsFunc_Done_p0 _ _ _ _ ⟨slices_IndexFunc_Done_ret xs p g caps hl hc hp, trivial⟩

def isDone (w : Worker) (e : Int) : Bool := w.dones.any fun d => d.epoch == e

theorem Worker.dones_le {w : Worker} (h : w.sz ≤ 1048576) : w.dones.length ≤ 1048576 := by simp only [Worker.sz] at h; omega

theorem spec_IsDone_ret (w : Worker) (e : Int) (hw : w.sz ≤ 1048576) : Ret Try.prog 92 [.agg w.e, .one (I e)] [.one (B (isDone w e))] := by
  have hl := Worker.dones_le hw
  have l := loop_scan (P := Try.prog) (c := (loopOf Try.f92 0)) w.dones (fun d => d.epoch == e) (fun i => spec_IsDone_L0 (w.queue.map Record.e) (w.staged.map Record.e) (w.inputs.map Record.e) (w.cells.map Cell.e) (w.sums.map eI) (w.black.map eB) (w.caps.map eB) (w.dones.map Done.e) e i) (X := fun _ _ => spec_IsDone_X0 true) ret_ne (exit_ne 0)
    (fun i a ha h => spec_IsDone_L0_s1 _ _ _ _ _ _ _ _ _ _ _ _ ⟨lt1 (lt_of ha), lt0, lt2 (lt_of ha), at_map Done.e ha, h, up1 (lt_of ha) hl, trivial⟩)
    (fun i a ha h => spec_IsDone_L0_x0 _ _ _ _ _ _ _ _ _ _ _ _ ⟨lt1 (lt_of ha), lt0, lt2 (lt_of ha), at_map Done.e ha, h, trivial⟩)
    (spec_IsDone_L0_x2 _ _ _ _ _ _ _ _ _ _ ⟨ge1, trivial⟩)
  unfold isDone
  rcases l with ⟨_, _, h1, h2⟩ | ⟨i, a, _, _, _, _, h1, h2⟩
  · rw [h1]; exact spec_IsDone_p1 _ _ _ _ _ _ _ _ _ ⟨h2, trivial⟩
  · rw [h1]; exact spec_IsDone_p0 _ _ _ _ _ _ _ _ _ _ ⟨h2, trivial⟩
theorem spec_IsDone_ret' (w : Worker) (e : Int) (r : Bool) (h : isDone w e = r) (hw : w.sz ≤ 1048576) : Ret Try.prog 92 [.agg w.e, .one (I e)] [.one (B r)] := h ▸ spec_IsDone_ret w e hw

theorem impl_doneAt_ret (xs : List Done) (e : Int) (hl : xs.length ≤ 1048576) : Ret Try.prog 120 [.one (.sl 2 (xs.map Done.e)), .one (I e)] [.one (B (xs.any fun d => d.epoch == e))] :=
  impl_doneAt_p0 _ _ _ ⟨slices_ContainsFunc_Done_ret xs (fun d => d.epoch == e) _ _ hl (by kernel_rfl) (fun x _ => impl_doneAt_1_p0 _ _ _ trivial), trivial⟩

theorem impl_IsDone_ret (w : Worker) (e : Int) (hw : w.sz ≤ 1048576) : Ret Try.prog 93 [.agg w.e, .one (I e)] [.one (B (isDone w e))] :=
  impl_IsDone_p0 _ _ _ _ _ _ _ _ _ _ ⟨impl_doneAt_ret w.dones e (Worker.dones_le hw), trivial⟩

def roundsDone (c : Cluster) (e : Int) : Bool := match c.workers with | [] => false | w :: _ => isDone w e

theorem spec_RoundsDone_ret (c : Cluster) (e : Int) (hc : c.sz ≤ 1048576) : Ret Try.prog 36 [.agg c.e, .one (I e)] [.one (B (roundsDone c e))] := by
  obtain ⟨g, ws, ls, ts, ns⟩ := c
  cases ws with
  | nil => exact spec_RoundsDone_p1 _ _ _ _ _ _ _ _ ⟨by simp, trivial⟩
  | cons w ws =>
    have hw : w.sz ≤ 1048576 := Cluster.worker_sz hc (by simp)
    exact spec_RoundsDone_p0 _ _ _ _ _ _ _ _ _ _ _ _ _ _ _ _ _ ⟨by simp only [List.length_map, List.length_cons, gt_iff_lt, decide_eq_true_eq]; omega, by omega, by simp only [List.length_map, List.length_cons]; omega, rfl, spec_IsDone_ret w e hw, trivial⟩
theorem impl_RoundsDone_ret (c : Cluster) (e : Int) (hc : c.sz ≤ 1048576) : Ret Try.prog 37 [.agg c.e, .one (I e)] [.one (B (roundsDone c e))] := by
  obtain ⟨g, ws, ls, ts, ns⟩ := c
  cases ws with
  | nil => exact impl_RoundsDone_p1 _ _ _ _ _ _ _ _ ⟨by simp, trivial⟩
  | cons w ws =>
    have hw : w.sz ≤ 1048576 := Cluster.worker_sz hc (by simp)
    exact impl_RoundsDone_p0 _ _ _ _ _ _ _ _ _ _ _ _ _ _ _ _ _ ⟨by simp only [List.length_map, List.length_cons, gt_iff_lt, decide_eq_true_eq]; omega, by omega, by simp only [List.length_map, List.length_cons]; omega, rfl, impl_IsDone_ret w e hw, trivial⟩

def allDone (c : Cluster) (e : Int) : Bool := !(c.workers.any fun w => !isDone w e)

theorem spec_AllDone_ret (c : Cluster) (e : Int) (hc : c.sz ≤ 1048576) : Ret Try.prog 38 [.agg c.e, .one (I e)] [.one (B (allDone c e))] := by
  have hl := Cluster.workers_le hc
  have l := loop_scan (P := Try.prog) (c := (loopOf Try.f38 0)) c.workers (fun w => !isDone w e) (fun i => spec_AllDone_L0 (c.graph.nodes.map Node.e) c.graph.workers c.graph.cap (c.workers.map Worker.e) (c.links.map Link.e) (c.tokens.map Token.e) (c.news.map News.e) e i) (X := fun _ _ => spec_AllDone_X0 false) ret_ne (exit_ne 0)
    (fun i a ha h => spec_AllDone_L0_s1 _ _ _ _ _ _ _ _ _ _ _ _ _ _ _ _ _ _ ⟨lt1 (lt_of ha), lt0, lt2 (lt_of ha), at_map Worker.e ha, spec_IsDone_ret a e (Cluster.worker_sz hc (mem_of ha)), h, up1 (lt_of ha) hl, trivial⟩)
    (fun i a ha h => spec_AllDone_L0_x0 _ _ _ _ _ _ _ _ _ _ _ _ _ _ _ _ _ _ ⟨lt1 (lt_of ha), lt0, lt2 (lt_of ha), at_map Worker.e ha, spec_IsDone_ret a e (Cluster.worker_sz hc (mem_of ha)), h, trivial⟩)
    (spec_AllDone_L0_x2 _ _ _ _ _ _ _ _ _ ⟨ge1, trivial⟩)
  unfold allDone
  rcases l with ⟨_, _, h1, h2⟩ | ⟨i, a, _, _, _, _, h1, h2⟩
  · rw [h1]; exact spec_AllDone_p1 _ _ _ _ _ _ _ _ ⟨h2, trivial⟩
  · rw [h1]; exact spec_AllDone_p0 _ _ _ _ _ _ _ _ _ ⟨h2, trivial⟩

theorem impl_AllDone_ret (c : Cluster) (e : Int) (hc : c.sz ≤ 1048576) : Ret Try.prog 39 [.agg c.e, .one (I e)] [.one (B (allDone c e))] :=
  impl_AllDone_p0 _ _ _ _ _ _ _ _ _ ⟨slices_ContainsFunc_Worker_ret c.workers (fun w => !isDone w e) _ _ (Cluster.workers_le hc) (by kernel_rfl) (fun x hx => impl_AllDone_1_p0 _ _ _ _ _ _ _ _ _ _ ⟨impl_IsDone_ret x e (Cluster.worker_sz hc hx), trivial⟩), trivial⟩

def countTo (f : Int → Bool) : Nat → Int
  | 0 => 0
  | n + 1 => countTo f n + (if f n then 1 else 0)
theorem countTo_le (f : Int → Bool) : ∀ n, 0 ≤ countTo f n ∧ countTo f n ≤ n
  | 0 => by simp [countTo]
  | n + 1 => by
    have := countTo_le f n
    simp only [countTo]
    split <;> omega

def epochsDone (c : Cluster) : Int := countTo (allDone c) 4

theorem spec_AllDone_ret' (c : Cluster) (e : Int) (r : Bool) (h : allDone c e = r) (hc : c.sz ≤ 1048576) : Ret Try.prog 38 [.agg c.e, .one (I e)] [.one (B r)] := h ▸ spec_AllDone_ret c e hc

theorem spec_EpochsDone_ret (c : Cluster) (hc : c.sz ≤ 1048576) : Ret Try.prog 44 [.agg c.e] [.one (I (epochsDone c))] := by
  have l := loop_upto (P := Try.prog) (c := (loopOf Try.f44 0)) (exit_ne 0) 4 (fun i : Nat => spec_EpochsDone_L0 (c.graph.nodes.map Node.e) c.graph.workers c.graph.cap (c.workers.map Worker.e) (c.links.map Link.e) (c.tokens.map Token.e) (c.news.map News.e) i (countTo (allDone c) i)) (fun i hi => by
    have hb := countTo_le (allDone c) i
    by_cases h : allDone c i = true
    · simp only [countTo, if_pos h]
      exact spec_EpochsDone_L0_s0 _ _ _ _ _ _ _ _ _ _ ⟨by simp only [decide_eq_true_eq]; omega, spec_AllDone_ret' c i true h hc, rfl, ⟨by omega, by omega⟩, ⟨by omega, by omega⟩, trivial⟩
    · simp only [countTo, if_neg h, Int.add_zero]
      exact spec_EpochsDone_L0_s1 _ _ _ _ _ _ _ _ _ _ ⟨by simp only [decide_eq_true_eq]; omega, spec_AllDone_ret' c i false (by simpa using h) hc, rfl, ⟨by omega, by omega⟩, trivial⟩) (spec_EpochsDone_L0_x2 _ _ _ _ _ _ _ _ _ ⟨by simp, trivial⟩)
  exact spec_EpochsDone_p0 _ _ _ _ _ _ _ _ ⟨l, trivial⟩
theorem impl_AllDone_ret' (c : Cluster) (e : Int) (r : Bool) (h : allDone c e = r) (hc : c.sz ≤ 1048576) : Ret Try.prog 39 [.agg c.e, .one (I e)] [.one (B r)] := h ▸ impl_AllDone_ret c e hc

theorem impl_EpochsDone_ret (c : Cluster) (hc : c.sz ≤ 1048576) : Ret Try.prog 45 [.agg c.e] [.one (I (epochsDone c))] := by
  have l := loop_upto (P := Try.prog) (c := (loopOf Try.f45 0)) (exit_ne 0) 4 (fun i : Nat => impl_EpochsDone_L0 (c.graph.nodes.map Node.e) c.graph.workers c.graph.cap (c.workers.map Worker.e) (c.links.map Link.e) (c.tokens.map Token.e) (c.news.map News.e) i (countTo (allDone c) i)) (fun i hi => by
    have hb := countTo_le (allDone c) i
    by_cases h : allDone c i = true
    · simp only [countTo, if_pos h]
      exact impl_EpochsDone_L0_s0 _ _ _ _ _ _ _ _ _ _ ⟨by simp only [decide_eq_true_eq]; omega, impl_AllDone_ret' c i true h hc, rfl, ⟨by omega, by omega⟩, ⟨by omega, by omega⟩, trivial⟩
    · simp only [countTo, if_neg h, Int.add_zero]
      exact impl_EpochsDone_L0_s1 _ _ _ _ _ _ _ _ _ _ ⟨by simp only [decide_eq_true_eq]; omega, impl_AllDone_ret' c i false (by simpa using h) hc, rfl, ⟨by omega, by omega⟩, trivial⟩) (impl_EpochsDone_L0_x2 _ _ _ _ _ _ _ _ _ ⟨by simp, trivial⟩)
  exact impl_EpochsDone_p0 _ _ _ _ _ _ _ _ ⟨l, trivial⟩

/-! ### Owners -/
def ownerOf (key workers : Int) : Int := if workers < 1 then 0 else if key.tmod workers < 0 then key.tmod workers + workers else key.tmod workers

theorem tmod_gt (a b : Int) (h : 0 < b) : - b < a.tmod b := by
  rcases Int.le_total 0 a with ha | ha
  · have := Int.tmod_nonneg b ha; omega
  · have h1 : (-a).tmod b < b := Int.tmod_lt_of_pos _ h
    rw [Int.neg_tmod] at h1
    omega

theorem spec_OwnerOf_ret (key workers : Int) (hw : workers ≤ 9223372036854775807) : Ret Try.prog 124 [.one (I key), .one (I workers)] [.one (I (ownerOf key workers))] := by
  unfold ownerOf
  split
  · exact spec_OwnerOf_p0 _ _ ⟨by simpa using ‹workers < 1›, trivial⟩
  · rename_i h
    have h1 := tmod_gt key workers (by omega)
    have h2 : key.tmod workers < workers := Int.tmod_lt_of_pos _ (by omega)
    split
    · rename_i h3
      exact spec_OwnerOf_p1 _ _ ⟨by simp only [decide_eq_false_iff_not]; omega, by omega, by simpa using h3, ⟨by omega, by omega⟩, trivial⟩
    · rename_i h3
      exact spec_OwnerOf_p2 _ _ ⟨by simp only [decide_eq_false_iff_not]; omega, by omega, by simpa using h3, trivial⟩
theorem impl_OwnerOf_ret (key workers : Int) (hw : workers ≤ 9223372036854775807) : Ret Try.prog 127 [.one (I key), .one (I workers)] [.one (I (ownerOf key workers))] := by
  unfold ownerOf
  split
  · exact impl_OwnerOf_p0 _ _ ⟨by simpa using ‹workers < 1›, trivial⟩
  · rename_i h
    have h1 := tmod_gt key workers (by omega)
    have h2 : key.tmod workers < workers := Int.tmod_lt_of_pos _ (by omega)
    split
    · rename_i h3
      exact impl_OwnerOf_p1 _ _ ⟨by simp only [decide_eq_false_iff_not]; omega, by omega, by simpa using h3, ⟨by omega, by omega⟩, trivial⟩
    · rename_i h3
      exact impl_OwnerOf_p2 _ _ ⟨by simp only [decide_eq_false_iff_not]; omega, by omega, by simpa using h3, trivial⟩

def foreign (w n : Int) (r : Record) : Bool := ownerOf r.key n != w

theorem spec_l21Own_ret (c : Cluster) (xs : List Record) (w : Int) (hw : c.wf) (hl : xs.length ≤ 1048576) : Ret Try.prog 101 [.agg c.e, .one (.sl 5 (xs.map Record.e)), .one (I w)] [.one (B (!(xs.any (foreign w c.graph.workers))))] := by
  have hn := hw.graph_ok.workers_ok
  simp only [inInt] at hn
  have l := loop_scan (P := Try.prog) (c := (loopOf Try.f101 0)) xs (foreign w c.graph.workers) (fun i => spec_l21Own_L0 (c.graph.nodes.map Node.e) c.graph.workers c.graph.cap (c.workers.map Worker.e) (c.links.map Link.e) (c.tokens.map Token.e) (c.news.map News.e) (xs.map Record.e) w i) (X := fun _ _ => spec_l21Own_X0 false) ret_ne (exit_ne 0)
    (fun i a ha h => spec_l21Own_L0_s1 _ _ _ _ _ _ _ _ _ _ _ _ _ _ _ _ ⟨lt1 (lt_of ha), lt0, lt2 (lt_of ha), at_map Record.e ha, spec_OwnerOf_ret _ _ hn.2, h, up1 (lt_of ha) hl, trivial⟩)
    (fun i a ha h => spec_l21Own_L0_x0 _ _ _ _ _ _ _ _ _ _ _ _ _ _ _ _ ⟨lt1 (lt_of ha), lt0, lt2 (lt_of ha), at_map Record.e ha, spec_OwnerOf_ret _ _ hn.2, h, trivial⟩)
    (spec_l21Own_L0_x2 _ _ _ _ _ _ _ _ _ _ ⟨ge1, trivial⟩)
  rcases l with ⟨_, _, h1, h2⟩ | ⟨i, a, _, _, _, _, h1, h2⟩
  · rw [h1]; exact spec_l21Own_p1 _ _ _ _ _ _ _ _ _ ⟨h2, trivial⟩
  · rw [h1]; exact spec_l21Own_p0 _ _ _ _ _ _ _ _ _ _ ⟨h2, trivial⟩

theorem impl_ownedBy_ret (xs : List Record) (w n : Int) (hn : n ≤ 9223372036854775807) (hl : xs.length ≤ 1048576) : Ret Try.prog 102 [.one (.sl 5 (xs.map Record.e)), .one (I w), .one (I n)] [.one (B (!(xs.any (foreign w n))))] :=
  impl_ownedBy_p0 _ _ _ _ ⟨slices_ContainsFunc_Record_ret xs (foreign w n) _ _ hl (by kernel_rfl) (fun x _ => impl_ownedBy_1_p0 _ _ _ _ _ _ _ _ ⟨impl_OwnerOf_ret _ _ hn, trivial⟩), trivial⟩

/-- A worker that has what is not its own. -/
def badW (n : Int) (i : Nat) (w : Worker) : Bool := w.queue.any (foreign i n) || w.inputs.any (foreign i n)
def badL (n : Int) (i : Nat) (l : Link) : Bool := decide (n < 1) || l.queue.any (foreign ((i : Int).tmod n) n)
def ownersOk (c : Cluster) : Bool := !(anyI (badW c.graph.workers) 0 c.workers) && !(anyI (badL c.graph.workers) 0 c.links)

theorem Worker.queue_le {w : Worker} (h : w.sz ≤ 1048576) : w.queue.length ≤ 1048576 := by simp only [Worker.sz] at h; omega
theorem Worker.inputs_le {w : Worker} (h : w.sz ≤ 1048576) : w.inputs.length ≤ 1048576 := by simp only [Worker.sz] at h; omega

theorem spec_l21Own_ret' (c : Cluster) (xs : List Record) (w : Int) (r : Bool) (h : xs.any (foreign w c.graph.workers) = r) (hw : c.wf) (hl : xs.length ≤ 1048576) : Ret Try.prog 101 [.agg c.e, .one (.sl 5 (xs.map Record.e)), .one (I w)] [.one (B (!r))] := h ▸ spec_l21Own_ret c xs w hw hl
theorem impl_ownedBy_ret' (xs : List Record) (w n : Int) (r : Bool) (h : xs.any (foreign w n) = r) (hn : n ≤ 9223372036854775807) (hl : xs.length ≤ 1048576) : Ret Try.prog 102 [.one (.sl 5 (xs.map Record.e)), .one (I w), .one (I n)] [.one (B (!r))] := h ▸ impl_ownedBy_ret xs w n hn hl

theorem spec_OwnersOk_ret (c : Cluster) (hc : c.sz ≤ 1048576) (hw : c.wf) : Ret Try.prog 48 [.agg c.e] [.one (B (ownersOk c))] := by
  have l0 := loop_anyI (P := Try.prog) (c := (loopOf Try.f48 0)) c.workers (badW c.graph.workers) (fun i => spec_OwnersOk_L0 (c.graph.nodes.map Node.e) c.graph.workers c.graph.cap (c.workers.map Worker.e) (c.links.map Link.e) (c.tokens.map Token.e) (c.news.map News.e) i) (X := spec_OwnersOk_X0 false) ret_ne (exit_ne 0)
    (fun i a ha h => by
      simp only [badW, Bool.or_eq_false_iff] at h
      have hs := Cluster.worker_sz hc (mem_of ha)
      exact spec_OwnersOk_L0_s2 _ _ _ _ _ _ _ _ _ _ _ _ _ _ _ _ _ _ _ _ _ _ _ _ _ _ ⟨lt1 (lt_of ha), lt0, lt2 (lt_of ha), at_map Worker.e ha, spec_l21Own_ret' c _ _ false h.1 hw (Worker.queue_le hs), rfl, lt0, lt2 (lt_of ha), at_map Worker.e ha, spec_l21Own_ret' c _ _ false h.2 hw (Worker.inputs_le hs), rfl, up1 (lt_of ha) (Cluster.workers_le hc), trivial⟩)
    (fun i a ha h => by
      have hs := Cluster.worker_sz hc (mem_of ha)
      by_cases h1 : a.queue.any (foreign i c.graph.workers) = true
      · exact spec_OwnersOk_L0_x0 _ _ _ _ _ _ _ _ _ _ _ _ _ _ _ _ _ ⟨lt1 (lt_of ha), lt0, lt2 (lt_of ha), at_map Worker.e ha, spec_l21Own_ret' c _ _ true h1 hw (Worker.queue_le hs), rfl, trivial⟩
      · have h1' := Bool.eq_false_iff.2 h1
        simp only [badW, h1', Bool.false_or] at h
        exact spec_OwnersOk_L0_x1 _ _ _ _ _ _ _ _ _ _ _ _ _ _ _ _ _ _ _ _ _ _ _ _ _ _ ⟨lt1 (lt_of ha), lt0, lt2 (lt_of ha), at_map Worker.e ha, spec_l21Own_ret' c _ _ false h1' hw (Worker.queue_le hs), rfl, lt0, lt2 (lt_of ha), at_map Worker.e ha, spec_l21Own_ret' c _ _ true h hw (Worker.inputs_le hs), rfl, trivial⟩)
    (spec_OwnersOk_L0_x3 _ _ _ _ _ _ _ _ ⟨ge1, trivial⟩)
  have l1 := loop_anyI (P := Try.prog) (c := (loopOf Try.f48 1)) c.links (badL c.graph.workers) (fun i => spec_OwnersOk_L1 (c.graph.nodes.map Node.e) c.graph.workers c.graph.cap (c.workers.map Worker.e) (c.links.map Link.e) (c.tokens.map Token.e) (c.news.map News.e) i) (X := spec_OwnersOk_X1 false) ret_ne (exit_ne 2)
    (fun i a ha h => by
      simp only [badL, Bool.or_eq_false_iff, decide_eq_false_iff_not] at h
      have hs : a.queue.length ≤ 1048576 := Cluster.link_sz hc (mem_of ha)
      exact spec_OwnersOk_L1_s2 _ _ _ _ _ _ _ _ _ _ _ _ _ _ _ ⟨lt1 (lt_of ha), by simp only [decide_eq_false_iff_not]; omega, lt0, lt2 (lt_of ha), at_map Link.e ha, by omega, spec_l21Own_ret' c _ _ false h.2 hw hs, rfl, up1 (lt_of ha) (Cluster.links_le hc), trivial⟩)
    (fun i a ha h => by
      have hs : a.queue.length ≤ 1048576 := Cluster.link_sz hc (mem_of ha)
      by_cases h1 : c.graph.workers < 1
      · exact spec_OwnersOk_L1_x0 _ _ _ _ _ _ _ _ ⟨lt1 (lt_of ha), by simpa using h1, trivial⟩
      · have h2 : a.queue.any (foreign ((i : Int).tmod c.graph.workers) c.graph.workers) = true := by simpa [badL, h1] using h
        exact spec_OwnersOk_L1_x1 _ _ _ _ _ _ _ _ _ _ _ _ _ _ _ ⟨lt1 (lt_of ha), by simpa using h1, lt0, lt2 (lt_of ha), at_map Link.e ha, by omega, spec_l21Own_ret' c _ _ true h2 hw hs, rfl, trivial⟩)
    (spec_OwnersOk_L1_x3 _ _ _ _ _ _ _ _ ⟨ge1, trivial⟩)
  unfold ownersOk
  rcases l0 with ⟨e0, l0⟩ | ⟨e0, l0⟩
  · rcases l1 with ⟨e1, l1⟩ | ⟨e1, l1⟩
    · rw [e0, e1]; exact spec_OwnersOk_p2 _ _ _ _ _ _ _ ⟨l0, l1, trivial⟩
    · rw [e0, e1]; exact spec_OwnersOk_p1 _ _ _ _ _ _ _ _ ⟨l0, l1, trivial⟩
  · rw [e0]; exact spec_OwnersOk_p0 _ _ _ _ _ _ _ _ ⟨l0, trivial⟩

theorem impl_OwnersOk_ret (c : Cluster) (hc : c.sz ≤ 1048576) (hw : c.wf) : Ret Try.prog 49 [.agg c.e] [.one (B (ownersOk c))] := by
  have hn := hw.graph_ok.workers_ok
  simp only [inInt] at hn
  have hn := hn.2
  have l0 := loop_anyI (P := Try.prog) (c := (loopOf Try.f49 0)) c.workers (badW c.graph.workers) (fun i => impl_OwnersOk_L0 c.graph.workers (c.workers.map Worker.e) i (c.graph.nodes.map Node.e) c.graph.workers c.graph.cap (c.workers.map Worker.e) (c.links.map Link.e) (c.tokens.map Token.e) (c.news.map News.e)) (X := impl_OwnersOk_X0 false) ret_ne (exit_ne 0)
    (fun i a ha h => by
      simp only [badW, Bool.or_eq_false_iff] at h
      have hs := Cluster.worker_sz hc (mem_of ha)
      exact impl_OwnersOk_L0_s2 _ _ _ _ _ _ _ _ _ _ _ _ _ _ _ _ _ _ _ _ ⟨lt1 (lt_of ha), lt0, lt2 (lt_of ha), at_map Worker.e ha, impl_ownedBy_ret' _ _ _ false h.1 hn (Worker.queue_le hs), rfl, impl_ownedBy_ret' _ _ _ false h.2 hn (Worker.inputs_le hs), rfl, up1 (lt_of ha) (Cluster.workers_le hc), trivial⟩)
    (fun i a ha h => by
      have hs := Cluster.worker_sz hc (mem_of ha)
      by_cases h1 : a.queue.any (foreign i c.graph.workers) = true
      · exact impl_OwnersOk_L0_x0 _ _ _ _ _ _ _ _ _ _ _ _ _ _ _ _ _ _ _ ⟨lt1 (lt_of ha), lt0, lt2 (lt_of ha), at_map Worker.e ha, impl_ownedBy_ret' _ _ _ true h1 hn (Worker.queue_le hs), rfl, trivial⟩
      · have h1' := Bool.eq_false_iff.2 h1
        simp only [badW, h1', Bool.false_or] at h
        exact impl_OwnersOk_L0_x1 _ _ _ _ _ _ _ _ _ _ _ _ _ _ _ _ _ _ _ _ ⟨lt1 (lt_of ha), lt0, lt2 (lt_of ha), at_map Worker.e ha, impl_ownedBy_ret' _ _ _ false h1' hn (Worker.queue_le hs), rfl, impl_ownedBy_ret' _ _ _ true h hn (Worker.inputs_le hs), rfl, trivial⟩)
    (impl_OwnersOk_L0_x3 _ _ _ _ _ _ _ _ _ _ ⟨ge1, trivial⟩)
  unfold ownersOk
  by_cases h0 : c.links = []
  · -- no links
    have hlk : (c.links.map Link.e) = [] := by rw [h0]; rfl
    have l1 : LoopOk Try.prog (loopOf Try.f49 1) (impl_OwnersOk_L1 c.graph.workers (c.links.map Link.e) 0) (.exit 2) impl_OwnersOk_X1v5 :=
      .last (exit_ne 2) (impl_OwnersOk_L1_x2 _ _ _ ⟨by rw [hlk]; rfl, trivial⟩)
    have e1 : anyI (badL c.graph.workers) 0 c.links = false := by rw [h0]; rfl
    have hz : decide ((↑(c.links.map Link.e).length : Int) > 0) = false := by rw [hlk]; rfl
    rw [e1]
    rcases l0 with ⟨e0, l0⟩ | ⟨e0, l0⟩
    · rw [e0]; exact impl_OwnersOk_p6 _ _ _ _ _ _ _ _ _ _ _ _ _ _ ⟨hz, l0, l1, trivial⟩
    · rw [e0]; exact impl_OwnersOk_p4 _ _ _ _ _ _ _ _ ⟨hz, l0, trivial⟩
  · have hpos : 0 < c.links.length := List.length_pos_iff.2 h0
    have hz : decide ((↑(c.links.map Link.e).length : Int) > 0) = true := by simp only [List.length_map, gt_iff_lt, decide_eq_true_eq]; omega
    by_cases h1 : c.graph.workers < 1
    · have e1 : anyI (badL c.graph.workers) 0 c.links = true := by
        cases e : anyI (badL c.graph.workers) 0 c.links with
        | true => rfl
        | false =>
          obtain ⟨a, ha⟩ := get_of hpos
          have := anyI_false e 0 a ha
          simp [badL, h1] at this
      rw [e1, Bool.not_true, Bool.and_false]
      exact impl_OwnersOk_p0 _ _ _ _ _ _ _ ⟨hz, by simpa using h1, trivial⟩
    have l1 := loop_anyI (P := Try.prog) (c := (loopOf Try.f49 1)) c.links (badL c.graph.workers) (fun i => impl_OwnersOk_L1 c.graph.workers (c.links.map Link.e) i) (X := impl_OwnersOk_X1 false) ret_ne (exit_ne 2)
      (fun i a ha h => by
        simp only [badL, Bool.or_eq_false_iff, decide_eq_false_iff_not] at h
        have hs : a.queue.length ≤ 1048576 := Cluster.link_sz hc (mem_of ha)
        exact impl_OwnersOk_L1_s1 _ _ _ _ _ _ _ _ _ _ ⟨lt1 (lt_of ha), lt0, lt2 (lt_of ha), at_map Link.e ha, by omega, impl_ownedBy_ret' _ _ _ false h.2 hn hs, rfl, up1 (lt_of ha) (Cluster.links_le hc), trivial⟩)
      (fun i a ha h => by
        have hs : a.queue.length ≤ 1048576 := Cluster.link_sz hc (mem_of ha)
        have h2 : a.queue.any (foreign ((i : Int).tmod c.graph.workers) c.graph.workers) = true := by simpa [badL, h1] using h
        exact impl_OwnersOk_L1_x0 _ _ _ _ _ _ _ _ _ _ ⟨lt1 (lt_of ha), lt0, lt2 (lt_of ha), at_map Link.e ha, by omega, impl_ownedBy_ret' _ _ _ true h2 hn hs, rfl, trivial⟩)
      (impl_OwnersOk_L1_x2 _ _ _ ⟨ge1, trivial⟩)
    have hz1 : decide (c.graph.workers < 1) = false := by simpa using h1
    rcases l0 with ⟨e0, l0⟩ | ⟨e0, l0⟩
    · rcases l1 with ⟨e1, l1⟩ | ⟨e1, l1⟩
      · rw [e0, e1]; exact impl_OwnersOk_p3 _ _ _ _ _ _ _ _ _ _ _ _ _ _ ⟨hz, hz1, l0, l1, trivial⟩
      · rw [e0, e1]; exact impl_OwnersOk_p2 _ _ _ _ _ _ _ _ _ _ _ _ _ _ _ ⟨hz, hz1, l0, l1, trivial⟩
    · rw [e0]; exact impl_OwnersOk_p1 _ _ _ _ _ _ _ _ ⟨hz, hz1, l0, trivial⟩
end Go.Proofs.Ytcdpehhhkfdoaaa
