/- The runs alone: what program and reference compute; the laws AloneSteps, AloneRun, AloneOuts answer true. -/
import Derived.Test.YtenekpkjlgddnaaP16
import Derived.Test.YtenekpkjlgddnaaC6
import Derived.Test.YtenekpkjlgddnaaGH
import Derived.Test.YtenekpkjlgddnaaP72
import Derived.Test.YtenekpkjlgddnaaGZ
set_option linter.unusedVariables false
set_option linter.unusedSimpArgs false
namespace Go.Proofs.Ytenekpkjlgddnaa
open Go.Sx Go.RowKit

/-! ### The run -/

def alGo (g : Graph) : Nat → List Cell → List Record → (List Cell × List Record) × Nat
  | 0, cs, l => ((cs, l), 0)
  | _ + 1, cs, [] => ((cs, []), 0)
  | k + 1, cs, r :: l => ((alGo g k (stepOp g cs r).1 (l ++ (stepOp g cs r).2.1)).1, (alGo g k (stepOp g cs r).1 (l ++ (stepOp g cs r).2.1)).2 + 1)

theorem tail_list (r : Record) (l more : List Record) : List.take (((r :: l).map Record.e).length - 1) (List.drop 1 ((r :: l).map Record.e)) ++ more.map Record.e = (l ++ more).map Record.e := by
  rw [List.map_cons, List.drop_succ_cons, List.drop_zero, List.take_of_length_le (by simp), List.map_append]

/-- Whether a record was capped. -/
def cpGo (g : Graph) : Nat → List Cell → List Record → Bool → Bool
  | 0, _, _, b => b
  | _ + 1, _, [], b => b
  | k + 1, cs, r :: l, b => cpGo g k (stepOp g cs r).1 (l ++ (stepOp g cs r).2.1) (b || capped g r)

theorem spec_run (g : Graph) (hg : g.sz ≤ 8388608) (hok : graphOk g = true) : ∀ (k n : Nat) (cs : List Cell) (l : List Record) (b : Bool), n + k = 20000 → cs.length ≤ n → l.length ≤ 8388608 + 2 * n →
    ((alGo g k cs l).1.2 = [] ∧ LoopOk Try.prog (loopOf Try.f23 1) (spec_l23Run_L1 (g.nodes.map Node.e) g.workers g.cap (l.map Record.e) n (cs.map Cell.e) b) (.exit 2) (spec_l23Run_X1v7 ((alGo g k cs l).1.1.map Cell.e) ((n + (alGo g k cs l).2 : Nat) : Int) (cpGo g k cs l b))) ∨
    ((alGo g k cs l).1.2 ≠ [] ∧ LoopOk Try.prog (loopOf Try.f23 1) (spec_l23Run_L1 (g.nodes.map Node.e) g.workers g.cap (l.map Record.e) n (cs.map Cell.e) b) .ret (spec_l23Run_X1 ((alGo g k cs l).1.1.map Cell.e) ((n + (alGo g k cs l).2 : Nat) : Int) false (cpGo g k cs l b)))
  | 0, n, cs, l, b, hn, hcs, hl => by
    cases l with
    | nil => exact .inl ⟨rfl, .last (exit_ne 2) (spec_l23Run_L1_x3 _ _ _ _ _ _ _ ⟨rfl, trivial⟩)⟩
    | cons r l => exact .inr ⟨by simp [alGo], .last ret_ne (spec_l23Run_L1_x0 _ _ _ _ _ _ _ ⟨dT (by simp <;> omega), dT (by omega), trivial⟩)⟩
  | k + 1, n, cs, [], b, hn, hcs, hl => .inl ⟨rfl, .last (exit_ne 2) (spec_l23Run_L1_x3 _ _ _ _ _ _ _ ⟨rfl, trivial⟩)⟩
  | k + 1, n, cs, r :: l, b, hn, hcs, hl => by
    obtain ⟨h1, h2⟩ := step_len hok cs r
    have s := spec_StepOp_ret g cs r hg (by omega)
    rw [List.length_cons] at hl
    have first : Tr Try.prog (loopOf Try.f23 1) (spec_l23Run_L1 (g.nodes.map Node.e) g.workers g.cap ((r :: l).map Record.e) n (cs.map Cell.e) b) .normal (spec_l23Run_L1 (g.nodes.map Node.e) g.workers g.cap ((l ++ (stepOp g cs r).2.1).map Record.e) ((n + 1 : Nat) : Int) ((stepOp g cs r).1.map Cell.e) (b || capped g r)) := by
      cases b with
      | true => exact tr_to (fun q => spec_l23Run_L1 (g.nodes.map Node.e) g.workers g.cap q ((n + 1 : Nat) : Int) ((stepOp g cs r).1.map Cell.e) true) (spec_l23Run_L1_s1 _ _ _ _ _ _ _ _ _ _ _ _ _ _ _ ⟨dT (by simp <;> omega), dF (by omega), rfl, by omega, by simp <;> omega, rfl, s, by simp, by simp <;> omega, by simp, by simp <;> omega, by simp <;> omega, flat_map _ Record.flat _, ⟨by omega, by omega⟩, trivial⟩) (tail_list r l _)
      | false => exact tr_to (fun q => spec_l23Run_L1 (g.nodes.map Node.e) g.workers g.cap q ((n + 1 : Nat) : Int) ((stepOp g cs r).1.map Cell.e) (capped g r)) (spec_l23Run_L1_s2 _ _ _ _ _ _ _ _ _ _ _ _ _ _ _ _ _ _ _ _ _ ⟨dT (by simp <;> omega), dF (by omega), rfl, by omega, by simp <;> omega, rfl, spec_Capped_ret g r hg, by omega, by simp <;> omega, rfl, s, by simp, by simp <;> omega, by simp, by simp <;> omega, by simp <;> omega, flat_map _ Record.flat _, ⟨by omega, by omega⟩, trivial⟩) (tail_list r l _)
    have ih := spec_run g hg hok k (n + 1) (stepOp g cs r).1 (l ++ (stepOp g cs r).2.1) (b || capped g r) (by omega) (by omega) (by rw [List.length_append]; omega)
    simp only [alGo, cpGo]
    rw [show n + ((alGo g k (stepOp g cs r).1 (l ++ (stepOp g cs r).2.1)).2 + 1) = n + 1 + (alGo g k (stepOp g cs r).1 (l ++ (stepOp g cs r).2.1)).2 by omega]
    rcases ih with ⟨h3, h4⟩ | ⟨h3, h4⟩
    · exact .inl ⟨h3, .more first h4⟩
    · exact .inr ⟨h3, .more first h4⟩

/-! ### What it starts with -/

def fresh (r : Record) : Record := ⟨0, ⟨r.stamp.epoch, 0⟩, r.key, r.val⟩

def starts (xs : List Record) (e : Int) : List Record := ((ofEpoch e xs).filter recordOk).map fresh

theorem starts_le (xs : List Record) (e : Int) : (starts xs e).length ≤ xs.length := by
  simp only [starts, List.length_map, ofEpoch]
  exact Nat.le_trans (List.length_filter_le ..) (List.length_filter_le ..)

theorem impl_RecordOk_ret' (r : Record) (b : Bool) (h : recordOk r = b) : Ret Try.prog 41 [.agg r.e] [.one (B b)] := h ▸ impl_RecordOk_ret r

theorem spec_RecordOk_ret' (r : Record) (b : Bool) (h : recordOk r = b) : Ret Try.prog 49 [.agg r.e] [.one (B b)] := h ▸ spec_RecordOk_ret r

theorem fm_take (p : Record → Bool) {xs : List Record} {i : Nat} {a : Record} (h : xs[i]? = some a) : (((xs.take (i + 1)).filter p).map fresh).map Record.e = (((xs.take i).filter p).map fresh).map Record.e ++ (if p a then [[I 0, I a.stamp.epoch, I 0, I a.key, I a.val]] else []) := by
  rw [filter_take p h]
  split
  · simp only [List.map_append]; rfl
  · simp

theorem spec_starts (g : Graph) (e : Int) (xs : List Record) (hl : xs.length ≤ 8388608) : LoopOk Try.prog (loopOf Try.f23 0) (spec_l23Run_L0 (xs.map Record.e) e 0 [] (g.nodes.map Node.e) g.workers g.cap) (.exit 0) (spec_l23Run_X0 ((starts xs e).map Record.e) (g.nodes.map Node.e) g.workers g.cap) := by
  let p := fun r : Record => r.stamp.epoch == e && recordOk r
  have l := loop_upto (P := Try.prog) (c := (loopOf Try.f23 0)) (exit_ne 0) xs.length (fun i : Nat => spec_l23Run_L0 (xs.map Record.e) e i ((((xs.take i).filter p).map fresh).map Record.e) (g.nodes.map Node.e) g.workers g.cap) (fun i hi => by
    obtain ⟨a, ha⟩ := get_of hi
    have hf := filt_len p xs i
    rw [fm_take p ha]
    cases h1 : (a.stamp.epoch == e) with
    | false =>
      rw [if_neg (by simp [p, h1]), List.append_nil]
      exact spec_l23Run_L0_s2 _ _ _ _ _ _ _ _ _ _ _ _ ⟨lt1 hi, lt0, lt2 hi, at_map Record.e ha, h1, up1 hi hl, trivial⟩
    | true =>
      cases h2 : recordOk a with
      | true =>
        rw [if_pos (by simp only [p, h1, h2]; rfl)]
        exact spec_l23Run_L0_s0 _ _ _ _ _ _ _ _ _ _ _ _ _ _ _ _ _ _ _ _ _ _ _ ⟨lt1 hi, lt0, lt2 hi, at_map Record.e ha, h1, lt0, lt2 hi, at_map Record.e ha, spec_RecordOk_ret' a true h2, rfl, lt0, lt2 hi, at_map Record.e ha, by simp <;> omega, by simp <;> omega, flat_one (fresh a).flat, up1 hi hl, trivial⟩
      | false =>
        rw [if_neg (by simp [p, h2]), List.append_nil]
        exact spec_l23Run_L0_s1 _ _ _ _ _ _ _ _ _ _ _ _ _ _ _ _ _ _ ⟨lt1 hi, lt0, lt2 hi, at_map Record.e ha, h1, lt0, lt2 hi, at_map Record.e ha, spec_RecordOk_ret' a false h2, rfl, up1 hi hl, trivial⟩) (spec_l23Run_L0_x3 _ _ _ _ _ _ _ ⟨ge1, trivial⟩)
  rw [List.take_length] at l
  have e1 : (xs.filter p).map fresh = starts xs e := by simp only [starts, ofEpoch, List.filter_filter, p]; congr 2; funext r; rw [Bool.and_comm]
  rw [e1] at l
  exact l

def aloneRun (g : Graph) (xs : List Record) (e : Int) : List Cell × Int × Bool :=
  if graphOk g then ((alGo g 20000 [] (starts xs e)).1.1, ((alGo g 20000 [] (starts xs e)).2 : Int), decide ((alGo g 20000 [] (starts xs e)).1.2 = [])) else ([], 0, false)

def aloneCapped (g : Graph) (xs : List Record) (e : Int) : Bool := graphOk g && cpGo g 20000 [] (starts xs e) false

theorem spec_l23Run_full (g : Graph) (xs : List Record) (e : Int) (hg : g.sz ≤ 8388608) (hl : xs.length ≤ 8388608) : Ret Try.prog 23 [.agg g.e, .one (.sl 5 (xs.map Record.e)), .one (I e)] [.one (.sl 4 ((aloneRun g xs e).1.map Cell.e)), .one (I (aloneRun g xs e).2.1), .one (B (aloneRun g xs e).2.2), .one (B (aloneCapped g xs e))] := by
  have c := spec_GraphOk_ret g hg
  unfold aloneRun aloneCapped
  cases h : graphOk g with
  | false =>
    rw [h] at c
    exact spec_l23Run_p0 _ _ _ _ _ _ ⟨c, rfl, trivial⟩
  | true =>
    rw [h] at c
    have l0 := spec_starts g e xs hl
    have hs := starts_le xs e
    have l1 := spec_run g hg h 20000 0 [] (starts xs e) false rfl (by simp) (by omega)
    rw [if_pos rfl, Bool.true_and]
    rcases l1 with ⟨h1, l1⟩ | ⟨h1, l1⟩
    · rw [dT h1]
      rw [Nat.zero_add] at l1
      exact spec_l23Run_p2 _ _ _ _ _ _ _ _ _ _ _ _ _ ⟨c, rfl, l0, l1, trivial⟩
    · rw [dF h1]
      rw [Nat.zero_add] at l1
      exact spec_l23Run_p1 _ _ _ _ _ _ _ _ _ _ _ _ _ _ ⟨c, rfl, l0, l1, trivial⟩

theorem spec_AloneCapped_ret (g : Graph) (xs : List Record) (e : Int) (hg : g.sz ≤ 8388608) (hl : xs.length ≤ 8388608) : Ret Try.prog 8 [.agg g.e, .one (.sl 5 (xs.map Record.e)), .one (I e)] [.one (B (aloneCapped g xs e))] :=
  spec_AloneCapped_p0 _ _ _ _ _ _ _ _ _ ⟨spec_l23Run_full g xs e hg hl, trivial⟩

end Go.Proofs.Ytenekpkjlgddnaa

namespace Go.Proofs.Ytenekpkjlgddnaa
open Go.Sx Go.RowKit

/-- The closure notes whether a record was capped. -/
theorem tell_ret (g : Graph) (r : Record) (b : Bool) (hg : g.sz ≤ 8388608) : RetR Try.prog 27 [.ro (.agg r.e), .ref [B b] [B (b || capped g r)], .cur g.e g.e] (.vals []) := by
  cases b with
  | true => exact impl_AloneCapped_1_p0 _ _ _ _ _ _ _ _ _ ⟨rfl, trivial⟩
  | false => exact impl_AloneCapped_1_p1 _ _ _ _ _ _ _ _ _ _ ⟨rfl, impl_Capped_ret g r hg, trivial⟩

theorem impl_runR (g : Graph) (hg : g.sz ≤ 8388608) (hok : graphOk g = true) : ∀ (k n : Nat) (cs : List Cell) (l : List Record) (b : Bool), n + k = 20000 → cs.length ≤ n → l.length ≤ 8388608 + 2 * n →
    LoopOk Try.prog (loopOf Try.f26 1) (aloneR_L1 (g.nodes.map Node.e) (l.map Record.e) n (cs.map Cell.e) (g.nodes.map Node.e) g.workers g.cap b g.workers g.cap) (.exit 2) (aloneR_X1 (g.nodes.map Node.e) ((alGo g k cs l).1.1.map Cell.e) ((n + (alGo g k cs l).2 : Nat) : Int) ((alGo g k cs l).1.2.map Record.e) (cpGo g k cs l b) g.workers g.cap)
  | 0, n, cs, l, b, hn, hcs, hl => by
    cases l with
    | nil => exact .last (exit_ne 2) (aloneR_L1_x2 _ _ _ _ _ _ _ _ _ _ ⟨rfl, trivial⟩)
    | cons r l => exact .last (exit_ne 2) (aloneR_L1_x1 _ _ _ _ _ _ _ _ _ _ ⟨dT (by simp <;> omega), dF (by omega), trivial⟩)
  | k + 1, n, cs, [], b, hn, hcs, hl => .last (exit_ne 2) (aloneR_L1_x2 _ _ _ _ _ _ _ _ _ _ ⟨rfl, trivial⟩)
  | k + 1, n, cs, r :: l, b, hn, hcs, hl => by
    obtain ⟨h1, h2⟩ := step_len hok cs r
    have s := impl_StepOp_ret g cs r hg (by omega)
    rw [List.length_cons] at hl
    have ih := impl_runR g hg hok k (n + 1) (stepOp g cs r).1 (l ++ (stepOp g cs r).2.1) (b || capped g r) (by omega) (by omega) (by rw [List.length_append]; omega)
    simp only [alGo, cpGo]
    rw [show n + ((alGo g k (stepOp g cs r).1 (l ++ (stepOp g cs r).2.1)).2 + 1) = n + 1 + (alGo g k (stepOp g cs r).1 (l ++ (stepOp g cs r).2.1)).2 by omega]
    refine .more (tr_to (fun q => aloneR_L1 (g.nodes.map Node.e) q ((n + 1 : Nat) : Int) ((stepOp g cs r).1.map Cell.e) (g.nodes.map Node.e) g.workers g.cap (b || capped g r) g.workers g.cap) (aloneR_L1_s0 _ _ _ _ _ _ _ _ _ _ _ _ _ _ _ _ _ _ _ _ _ _ _ _ _ _ ⟨dT (by simp <;> omega), dT (by omega), by omega, by simp <;> omega, rfl, tell_ret g r b hg, by omega, by simp <;> omega, rfl, s, by simp, by simp <;> omega, by simp, by simp <;> omega, by simp <;> omega, flat_map _ Record.flat _, ⟨by omega, by omega⟩, trivial⟩) (tail_list r l _)) ih

theorem impl_startsR (g : Graph) (xs : List Record) (hl : xs.length ≤ 8388608) : LoopOk Try.prog (loopOf Try.f26 0) (aloneR_L0 (g.nodes.map Node.e) (xs.map Record.e) 0 [] (g.nodes.map Node.e) g.workers g.cap false g.workers g.cap) (.exit 0) (aloneR_X0 (g.nodes.map Node.e) (((xs.filter recordOk).map fresh).map Record.e) (g.nodes.map Node.e) g.workers g.cap false g.workers g.cap) := by
  have l := loop_upto (P := Try.prog) (c := (loopOf Try.f26 0)) (exit_ne 0) xs.length (fun i : Nat => aloneR_L0 (g.nodes.map Node.e) (xs.map Record.e) i ((((xs.take i).filter recordOk).map fresh).map Record.e) (g.nodes.map Node.e) g.workers g.cap false g.workers g.cap) (fun i hi => by
    obtain ⟨a, ha⟩ := get_of hi
    have hf := filt_len recordOk xs i
    rw [fm_take recordOk ha]
    cases hp : recordOk a with
    | true =>
      rw [if_pos rfl]
      exact aloneR_L0_s0 _ _ _ _ _ _ _ _ _ _ _ _ _ _ _ _ ⟨lt1 hi, lt0, lt2 hi, at_map Record.e ha, impl_RecordOk_ret' a true hp, rfl, by simp <;> omega, by simp <;> omega, flat_one (fresh a).flat, up1 hi hl, trivial⟩
    | false =>
      rw [if_neg (by simp), List.append_nil]
      exact aloneR_L0_s1 _ _ _ _ _ _ _ _ _ _ _ _ _ _ _ _ ⟨lt1 hi, lt0, lt2 hi, at_map Record.e ha, impl_RecordOk_ret' a false hp, rfl, up1 hi hl, trivial⟩) (aloneR_L0_x2 _ _ _ _ _ _ _ _ _ _ ⟨ge1, trivial⟩)
  rw [List.take_length] at l
  exact l

theorem impl_AloneCapped_ret (g : Graph) (xs : List Record) (e : Int) (hg : g.sz ≤ 8388608) (hl : xs.length ≤ 8388608) : Ret Try.prog 11 [.agg g.e, .one (.sl 5 (xs.map Record.e)), .one (I e)] [.one (B (aloneCapped g xs e))] := by
  have c := impl_GraphOk_ret g hg
  unfold aloneCapped
  cases h : graphOk g with
  | false =>
    rw [h] at c
    exact impl_AloneCapped_p0 _ _ _ _ _ _ _ _ _ _ _ ⟨aloneR_p0 _ _ _ _ _ _ _ _ _ _ ⟨c, rfl, trivial⟩, trivial⟩
  | true =>
    rw [h] at c
    have ho : (ofEpoch e xs).length ≤ 8388608 := Nat.le_trans (List.length_filter_le ..) hl
    have l0 := impl_startsR g (ofEpoch e xs) ho
    have hs := starts_le xs e
    have l1 := impl_runR g hg h 20000 0 [] (starts xs e) false rfl (by simp) (by omega)
    rw [Nat.zero_add] at l1
    rw [Bool.true_and]
    exact impl_AloneCapped_p0 _ _ _ _ _ _ _ _ _ _ _ ⟨aloneR_p1 _ _ _ _ _ _ _ _ _ _ _ _ _ _ _ _ _ _ _ _ _ _ _ _ ⟨c, rfl, impl_OfEpoch_ret xs e hl, l0, l1, trivial⟩, trivial⟩
end Go.Proofs.Ytenekpkjlgddnaa
