/- From a reading of an argument to a structure (printed by gentypes.py) -/
import Derived.Test.YtenekpkjlgddnaaT1
import Derived.Test.YtenekpkjlgddnaaR15
set_option linter.unusedVariables false
set_option linter.unusedSimpArgs false
namespace Go.Proofs.Ytenekpkjlgddnaa
open Go.Sx Go.RowKit

theorem Try.own : ownKnob Try.prog.godebug = none := by kernel_rfl
theorem Try.laidOut : laidOutB Try.prog = true := by kernel_rfl

theorem slice_of {P : Program} {t e : TypeId} {ds : List D} (hu : P.underlying t = some (.slice e)) (h : ShD P t ds) : ∃ es, ds = [.sl (P.cellsOf e) es] ∧ es.length ≤ maxLen ∧ ∀ x ∈ es, ShD P e x := by
  cases h <;> simp_all

theorem map_of {α : Type} (f : α → List D) (W : α → Prop) : ∀ {es : List (List D)}, (∀ ds ∈ es, ∃ a, ds = f a ∧ W a) → ∃ xs : List α, es = xs.map f ∧ ∀ a ∈ xs, W a
  | [], _ => ⟨[], rfl, by simp⟩
  | ds :: es, h => by
    obtain ⟨a, rfl, ha⟩ := h ds (by simp)
    obtain ⟨xs, rfl, hxs⟩ := map_of f W (es := es) fun x hx => h x (by simp [hx])
    refine ⟨a :: xs, rfl, fun b hb => ?_⟩
    rcases List.mem_cons.1 hb with rfl | hb
    · exact ha
    · exact hxs b hb

theorem list_of {α : Type} (f : α → List D) (W : α → Prop) {P : Program} {t e : TypeId} {k : Nat} (hu : P.underlying t = some (.slice e)) (hk : P.cellsOf e = k) (hel : ∀ ds, ShD P e ds → ∃ a, ds = f a ∧ W a) {ds : List D} (h : ShD P t ds) :
    ∃ xs : List α, ds = [.sl k (xs.map f)] ∧ (xs.length : Int) ≤ 9223372036854775807 ∧ ∀ a ∈ xs, W a := by
  obtain ⟨es, rfl, hl, he⟩ := slice_of hu h
  obtain ⟨xs, rfl, hxs⟩ := map_of f W fun ds hds => hel ds (he ds hds)
  refine ⟨xs, by rw [hk], ?_, hxs⟩
  have hm : maxLen = 9223372036854775807 := rfl
  rw [List.length_map] at hl
  omega

theorem lst1 {α : Type} {l : List α} (h : l.length = 1) : ∃ a0, l = [a0] := by
  match l, h with
  | [a0], _ => exact ⟨a0, rfl⟩
end Go.Proofs.Ytenekpkjlgddnaa
