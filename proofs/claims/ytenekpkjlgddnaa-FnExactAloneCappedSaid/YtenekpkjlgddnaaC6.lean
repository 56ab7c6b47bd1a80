/- OfEpoch: what program and reference compute. -/
import Derived.Test.YtenekpkjlgddnaaC0
set_option linter.unusedVariables false
set_option linter.unusedSimpArgs false
namespace Go.Proofs.Ytenekpkjlgddnaa
open Go.Sx Go.RowKit

def ofEpoch (e : Int) (xs : List Record) : List Record := xs.filter fun r => r.stamp.epoch == e

theorem impl_OfEpoch_ret (xs : List Record) (e : Int) (hl : xs.length ≤ 8388608) : Ret Try.prog 54 [.one (.sl 5 (xs.map Record.e)), .one (I e)] [.one (.sl 5 ((ofEpoch e xs).map Record.e))] := by
  let p := fun r : Record => r.stamp.epoch == e
  have l := loop_upto (P := Try.prog) (c := (loopOf Try.f54 0)) (exit_ne 0) xs.length (fun i : Nat => impl_OfEpoch_L0 (xs.map Record.e) e i (((xs.take i).filter p).map Record.e)) (fun i hi => by
    obtain ⟨a, ha⟩ := get_of hi
    have hf := filt_len p xs i
    have hs := filter_take p ha
    by_cases hp : p a = true
    · rw [if_pos hp] at hs
      rw [hs, List.map_append]
      exact impl_OfEpoch_L0_s0 _ _ _ _ _ _ _ _ _ ⟨lt1 hi, lt0, lt2 hi, at_map Record.e ha, hp, by simp; omega, by simp; omega, flat_one a.flat, up1 hi hl, trivial⟩
    · rw [if_neg hp, List.append_nil] at hs
      rw [hs]
      exact impl_OfEpoch_L0_s1 _ _ _ _ _ _ _ _ _ ⟨lt1 hi, lt0, lt2 hi, at_map Record.e ha, Bool.eq_false_iff.2 hp, up1 hi hl, trivial⟩) (impl_OfEpoch_L0_x2 _ _ _ _ ⟨ge1, trivial⟩)
  rw [List.take_length] at l
  exact impl_OfEpoch_p0 _ _ _ ⟨l, trivial⟩

end Go.Proofs.Ytenekpkjlgddnaa
