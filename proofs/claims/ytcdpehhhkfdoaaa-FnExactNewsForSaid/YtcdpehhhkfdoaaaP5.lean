/- NewsFor, CappedIn: what program and reference compute. -/
import Derived.Test.YtcdpehhhkfdoaaaP1
import Derived.Test.YtcdpehhhkfdoaaaGI
set_option linter.unusedVariables false
set_option linter.unusedSimpArgs false
namespace Go.Proofs.Ytcdpehhhkfdoaaa
open Go.Sx Go.RowKit

def newsFor (c : Cluster) (w : Int) : List News := c.news.filter fun n => n.dest == w

theorem News.flat (r : News) : ∀ d ∈ r.e, ∃ x, d = .v x := by
  intro d hd
  simp only [News.e, List.mem_cons, List.not_mem_nil, or_false] at hd
  rcases hd with rfl | rfl | rfl <;> exact ⟨_, rfl⟩

theorem eI_flat (n : Int) : ∀ d ∈ [I n], ∃ x, d = .v x := by
  intro d hd
  simp only [List.mem_cons, List.not_mem_nil, or_false] at hd
  subst hd; exact ⟨_, rfl⟩

theorem Cluster.news_le {c : Cluster} (h : c.sz ≤ 1048576) : c.news.length ≤ 1048576 := by simp only [Cluster.sz, szS] at h; omega
theorem newsFor_le {c : Cluster} {w : Int} (h : c.sz ≤ 1048576) : (newsFor c w).length ≤ 1048576 := Nat.le_trans (List.length_filter_le ..) (Cluster.news_le h)

theorem spec_NewsFor_ret (c : Cluster) (w : Int) (hc : c.sz ≤ 1048576) : Ret Try.prog 50 [.agg c.e, .one (I w)] [.one (.sl 3 ((newsFor c w).map News.e))] := by
  have hx := Cluster.news_le hc
  let p := fun r : News => r.dest == w
  have l := loop_upto (P := Try.prog) (c := (loopOf Try.f50 0)) (exit_ne 0) c.news.length (fun i : Nat => spec_NewsFor_L0 (c.graph.nodes.map Node.e) c.graph.workers c.graph.cap (c.workers.map Worker.e) (c.links.map Link.e) (c.tokens.map Token.e) (c.news.map News.e) w i (((c.news.take i).filter p).map News.e)) (fun i hi => by
    obtain ⟨a, ha⟩ := get_of hi
    have hf := filt_len p c.news i
    have hs := filter_take p ha
    by_cases hp : p a = true
    · rw [if_pos hp] at hs
      rw [hs, List.map_append]
      exact spec_NewsFor_L0_s0 _ _ _ _ _ _ _ _ _ _ _ _ _ _ _ _ ⟨lt1 hi, lt0, lt2 hi, at_map News.e ha, hp, lt0, lt2 hi, at_map News.e ha, by simp; omega, by simp; omega, flat_one a.flat, up1 hi hx, trivial⟩
    · rw [if_neg hp, List.append_nil] at hs
      rw [hs]
      exact spec_NewsFor_L0_s1 _ _ _ _ _ _ _ _ _ _ _ _ _ ⟨lt1 hi, lt0, lt2 hi, at_map News.e ha, Bool.eq_false_iff.2 hp, up1 hi hx, trivial⟩) (spec_NewsFor_L0_x2 _ _ _ _ _ _ _ _ _ _ ⟨ge1, trivial⟩)
  rw [List.take_length] at l
  exact spec_NewsFor_p0 _ _ _ _ _ _ _ _ _ ⟨l, trivial⟩

theorem impl_NewsFor_ret (c : Cluster) (w : Int) (hc : c.sz ≤ 1048576) : Ret Try.prog 51 [.agg c.e, .one (I w)] [.one (.sl 3 ((newsFor c w).map News.e))] := by
  have hx := Cluster.news_le hc
  let p := fun r : News => r.dest == w
  have l := loop_upto (P := Try.prog) (c := (loopOf Try.f51 0)) (exit_ne 0) c.news.length (fun i : Nat => impl_NewsFor_L0 (c.news.map News.e) w i (((c.news.take i).filter p).map News.e)) (fun i hi => by
    obtain ⟨a, ha⟩ := get_of hi
    have hf := filt_len p c.news i
    have hs := filter_take p ha
    by_cases hp : p a = true
    · rw [if_pos hp] at hs
      rw [hs, List.map_append]
      exact impl_NewsFor_L0_s0 _ _ _ _ _ _ _ ⟨lt1 hi, lt0, lt2 hi, at_map News.e ha, hp, by simp; omega, by simp; omega, flat_one a.flat, up1 hi hx, trivial⟩
    · rw [if_neg hp, List.append_nil] at hs
      rw [hs]
      exact impl_NewsFor_L0_s1 _ _ _ _ _ _ _ ⟨lt1 hi, lt0, lt2 hi, at_map News.e ha, Bool.eq_false_iff.2 hp, up1 hi hx, trivial⟩) (impl_NewsFor_L0_x2 _ _ _ _ ⟨ge1, trivial⟩)
  rw [List.take_length] at l
  exact impl_NewsFor_p0 _ _ _ _ _ _ _ _ _ ⟨l, trivial⟩

/-! ### CappedIn -/
def capTo (w : Worker) (n : Nat) : List Int := ((List.range n).map fun i : Nat => (i : Int)).filter fun e => (doneOf w e).1.capped
def cappedIn (c : Cluster) : List Int := match c.workers with | [] => [] | w :: _ => capTo w 4

theorem capTo_len (w : Worker) (n : Nat) : (capTo w n).length ≤ n := Nat.le_trans (List.length_filter_le ..) (by simp)
theorem cappedIn_le (c : Cluster) : (cappedIn c).length ≤ 4 := by
  unfold cappedIn
  split
  · simp
  · exact capTo_len ..
theorem capTo_succ (w : Worker) (n : Nat) : capTo w (n + 1) = capTo w n ++ (if (doneOf w n).1.capped then [(n : Int)] else []) := by
  simp only [capTo, List.range_succ, List.map_append, List.filter_append, List.map_cons, List.map_nil]
  congr 1
  simp only [List.filter_cons, List.filter_nil]
theorem doneOf_ok {w : Worker} {e : Int} (h : (doneOf w e).1.capped = true) : (doneOf w e).2 = true := by
  unfold doneOf at h ⊢
  split
  · rfl
  · rename_i h2; rw [h2] at h; cases h

theorem spec_CappedIn_ret (c : Cluster) (hc : c.sz ≤ 1048576) : Ret Try.prog 56 [.agg c.e] [.one (.sl 1 ((cappedIn c).map eI))] := by
  cases hw : c.workers with
  | nil =>
    simp only [cappedIn, Cluster.e, hw]
    exact spec_CappedIn_p0 _ _ _ _ _ _ _ _ ⟨(by exact LoopOk.last (exit_ne 0) (spec_CappedIn_L0_x3 _ _ _ _ _ _ _ _ _ ⟨rfl, rfl, trivial⟩)), trivial⟩
  | cons w ws =>
    have hww : w.sz ≤ 1048576 := by
      have h1 := hc
      simp only [Cluster.sz, szS] at h1
      have := le_sum (sz := Worker.sz) (xs := c.workers) (a := w) (by rw [hw]; exact List.mem_cons_self)
      omega
    have l := loop_upto (P := Try.prog) (c := (loopOf Try.f56 0)) (exit_ne 0) 4 (fun i : Nat => spec_CappedIn_L0 i ((capTo w i).map eI) (c.graph.nodes.map Node.e) c.graph.workers c.graph.cap (c.workers.map Worker.e) (c.links.map Link.e) (c.tokens.map Token.e) (c.news.map News.e)) (fun i hi => by
      have hf := capTo_len w i
      have hs := capTo_succ w i
      have hd := spec_DoneOf_ret w i hww
      have hg : (c.workers.map Worker.e)[(0 : Nat)]? = some w.e := by rw [hw]; rfl
      have hle : decide ((i : Int) ≤ 3) = true := by simp only [decide_eq_true_eq]; omega
      have hgt : decide ((↑(c.workers.map Worker.e).length : Int) > 0) = true := by rw [hw]; simp
      have hg0 : 0 < (↑(c.workers.map Worker.e).length : Int) := by rw [hw]; simp
      by_cases hp : (doneOf w i).1.capped = true
      · rw [if_pos hp] at hs
        rw [hs, List.map_append]
        exact spec_CappedIn_L0_s0 _ _ _ _ _ _ _ _ _ _ _ _ _ _ _ _ _ _ _ _ ⟨hle, hgt, by omega, hg0, hg, hd, doneOf_ok hp, hp, by simp; omega, by simp; omega, flat_one (eI_flat _), ⟨by omega, by omega⟩, trivial⟩
      · rw [if_neg hp, List.append_nil] at hs
        rw [hs]
        by_cases h2 : (doneOf w i).2 = true
        · exact spec_CappedIn_L0_s1 _ _ _ _ _ _ _ _ _ _ _ _ _ _ _ _ _ _ _ _ ⟨hle, hgt, by omega, hg0, hg, hd, h2, Bool.eq_false_iff.2 hp, ⟨by omega, by omega⟩, trivial⟩
        · exact spec_CappedIn_L0_s2 _ _ _ _ _ _ _ _ _ _ _ _ _ _ _ _ _ _ _ _ ⟨hle, hgt, by omega, hg0, hg, hd, Bool.eq_false_iff.2 h2, ⟨by omega, by omega⟩, trivial⟩) (spec_CappedIn_L0_x4 _ _ _ _ _ _ _ _ _ ⟨rfl, trivial⟩)
    simp only [cappedIn, hw]
    rw [hw] at l
    simp only [Cluster.e, hw]
    exact spec_CappedIn_p0 _ _ _ _ _ _ _ _ ⟨l, trivial⟩

theorem impl_CappedIn_ret (c : Cluster) (hc : c.sz ≤ 1048576) : Ret Try.prog 57 [.agg c.e] [.one (.sl 1 ((cappedIn c).map eI))] := by
  cases hw : c.workers with
  | nil =>
    simp only [cappedIn, Cluster.e, hw]
    exact impl_CappedIn_p0 _ _ _ _ _ _ _ ⟨rfl, trivial⟩
  | cons w ws =>
    have hww : w.sz ≤ 1048576 := by
      have h1 := hc
      simp only [Cluster.sz, szS] at h1
      have := le_sum (sz := Worker.sz) (xs := c.workers) (a := w) (by rw [hw]; exact List.mem_cons_self)
      omega
    have l := loop_upto (P := Try.prog) (c := (loopOf Try.f57 0)) (exit_ne 0) 4 (fun i : Nat => impl_CappedIn_L0 i ((capTo w i).map eI) (c.graph.nodes.map Node.e) c.graph.workers c.graph.cap (c.workers.map Worker.e) (c.links.map Link.e) (c.tokens.map Token.e) (c.news.map News.e)) (fun i hi => by
      have hf := capTo_len w i
      have hs := capTo_succ w i
      have hd := impl_DoneOf_ret w i hww
      have hg : (c.workers.map Worker.e)[(0 : Nat)]? = some w.e := by rw [hw]; rfl
      have hle : decide ((i : Int) ≤ 3) = true := by simp only [decide_eq_true_eq]; omega
      have hg0 : 0 < (↑(c.workers.map Worker.e).length : Int) := by rw [hw]; simp
      by_cases hp : (doneOf w i).1.capped = true
      · rw [if_pos hp] at hs
        rw [hs, List.map_append]
        exact impl_CappedIn_L0_s0 _ _ _ _ _ _ _ _ _ _ _ _ _ _ _ _ _ _ _ _ ⟨hle, by omega, hg0, hg, hd, hp, by simp; omega, by simp; omega, flat_one (eI_flat _), ⟨by omega, by omega⟩, trivial⟩
      · rw [if_neg hp, List.append_nil] at hs
        rw [hs]
        exact impl_CappedIn_L0_s1 _ _ _ _ _ _ _ _ _ _ _ _ _ _ _ _ _ _ _ _ ⟨hle, by omega, hg0, hg, hd, Bool.eq_false_iff.2 hp, ⟨by omega, by omega⟩, trivial⟩) (impl_CappedIn_L0_x2 _ _ _ _ _ _ _ _ _ ⟨rfl, trivial⟩)
    have hne : ((↑(c.workers.map Worker.e).length : Int) == 0) = false := by rw [hw]; simp; omega
    simp only [cappedIn, hw]
    rw [hw] at l hne
    simp only [Cluster.e, hw]
    exact impl_CappedIn_p1 _ _ _ _ _ _ _ _ ⟨hne, l, trivial⟩
end Go.Proofs.Ytcdpehhhkfdoaaa
