/- OfEpoch: what program and reference compute. -/
import Derived.Test.YtialmplmfcahpaaGreatC0
set_option linter.unusedVariables false
set_option linter.unusedSimpArgs false
namespace Go.Proofs.YtialmplmfcahpaaGreat
open Go.Sx Go.RowKit
def qfr (e : Int) (xs : List Record) : List Record := xs.filter fun r => r.stamp.epoch == e
theorem qBG (xs : List Record) (e : Int) (hl : xs.length ≤ 1048576) : Ret Tryz.prog 272 [.one (.sl 5 (xs.map Record.e)), .one (I e)] [.one (.sl 5 ((qfr e xs).map Record.e))] := by
  let p := fun r : Record => r.stamp.epoch == e
  have l := qaj (P := Tryz.prog) (c := (qaa Tryz.f272 0)) (qah 0) xs.length (fun i : Nat => qdN (xs.map Record.e) e i (((xs.take i).filter p).map Record.e)) (fun i hi => by
    obtain ⟨a, ha⟩ := qag hi
    have hf := qcS p xs i
    have hs := qcg p ha
    by_cases hp : p a = true
    · rw [if_pos hp] at hs
      rw [hs, List.map_append]
      exact qt0 _ _ _ _ _ _ _ _ _ ⟨lt1 hi, lt0, lt2 hi, qae Record.e ha, hp, by simp; omega, by simp; omega, qat a.flat, up1 hi hl, trivial⟩
    · rw [if_neg hp, List.append_nil] at hs
      rw [hs]
      exact qt1 _ _ _ _ _ _ _ _ _ ⟨lt1 hi, lt0, lt2 hi, qae Record.e ha, Bool.eq_false_iff.2 hp, up1 hi hl, trivial⟩) (qt2 _ _ _ _ ⟨ge1, trivial⟩)
  rw [List.take_length] at l
  exact qt3 _ _ _ ⟨l, trivial⟩
end Go.Proofs.YtialmplmfcahpaaGreat
