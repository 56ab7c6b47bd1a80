/- The functions to..: what they hand back is what came in (printed by gentypes.py) -/
import Derived.Test.YtbbjajmimckabaaT1
import Derived.Test.YtbbjajmimckabaaGB
set_option linter.unusedVariables false
set_option linter.unusedSimpArgs false
namespace Go.Proofs.Ytbbjajmimckabaa
open Go.Sx Go.RowKit

theorem laws_toIntS_ret (xs : List Int) (hx0 : xs.length ≤ 1048576) : Ret Try.prog 124 [.one (.sl 1 (xs.map eI))] [.one (.sl 1 (xs.map eI))] := by
  have hx : xs.length ≤ 1048576 := hx0
  have l := loop_upto (P := Try.prog) (c := loopOf Try.f124 0) (stE := laws_toIntS_X0 (xs.map eI)) (exit_ne 0) xs.length (fun i => laws_toIntS_L0 (xs.map eI) i (fillAt eI [I 0] xs i)) (fun i hi => by
    obtain ⟨a, ha⟩ := get_of hi
    have t : Tr Try.prog (loopOf Try.f124 0) (laws_toIntS_L0 (xs.map eI) i (fillAt eI [I 0] xs i)) .normal (laws_toIntS_L0 (xs.map eI) (i + 1 : Nat) ((fillAt eI [I 0] xs i).set ((i : Nat) : Int).toNat (eI a))) :=
      laws_toIntS_L0_s0 _ _ _ _ _ ⟨lt1 hi, lt0, lt2 hi, at_map eI ha, lt0, fillAt_lt hi, fillAt_get hi, up1 hi hx, trivial⟩
    rw [fillAt_set ha] at t
    exact t) (by
    have t := laws_toIntS_L0_x1 (xs.map eI) xs.length (fillAt eI [I 0] xs xs.length) ⟨ge1, trivial⟩
    rw [fillAt_all] at t ⊢
    exact t)
  rw [fillAt_zero] at l
  exact laws_toIntS_p0 _ _ ⟨by omega, by omega, by simp only [List.length_map]; omega, by simp only [List.length_map]; omega, l, trivial⟩

theorem laws_toStamp_ret (x : Stamp) : Ret Try.prog 49 [.agg x.e] [.agg x.e] := laws_toStamp_p0 _ _ trivial

theorem laws_toRecord_ret (x : Record) : Ret Try.prog 14 [.agg x.e] [.agg x.e] := laws_toRecord_p0 _ _ _ _ _ _ _ ⟨laws_toStamp_ret x.stamp, trivial⟩

theorem laws_toRecordS_ret (xs : List Record) (hx0 : xs.length ≤ 1048576) : Ret Try.prog 13 [.one (.sl 5 (xs.map Record.e))] [.one (.sl 5 (xs.map Record.e))] := by
  have hx : xs.length ≤ 1048576 := hx0
  have l := loop_upto (P := Try.prog) (c := loopOf Try.f13 0) (stE := laws_toRecordS_X0 (xs.map Record.e)) (exit_ne 0) xs.length (fun i => laws_toRecordS_L0 (xs.map Record.e) i (fillAt Record.e [I 0, I 0, I 0, I 0, I 0] xs i)) (fun i hi => by
    obtain ⟨a, ha⟩ := get_of hi
    have t : Tr Try.prog (loopOf Try.f13 0) (laws_toRecordS_L0 (xs.map Record.e) i (fillAt Record.e [I 0, I 0, I 0, I 0, I 0] xs i)) .normal (laws_toRecordS_L0 (xs.map Record.e) (i + 1 : Nat) ((fillAt Record.e [I 0, I 0, I 0, I 0, I 0] xs i).set ((i : Nat) : Int).toNat (Record.e a))) :=
      laws_toRecordS_L0_s0 _ _ _ _ _ _ _ _ _ _ _ _ _ _ _ _ _ _ ⟨lt1 hi, lt0, lt2 hi, at_map Record.e ha, laws_toRecord_ret a, lt0, fillAt_lt hi, fillAt_get hi, up1 hi hx, trivial⟩
    rw [fillAt_set ha] at t
    exact t) (by
    have t := laws_toRecordS_L0_x1 (xs.map Record.e) xs.length (fillAt Record.e [I 0, I 0, I 0, I 0, I 0] xs xs.length) ⟨ge1, trivial⟩
    rw [fillAt_all] at t ⊢
    exact t)
  rw [fillAt_zero] at l
  exact laws_toRecordS_p0 _ _ ⟨by omega, by omega, by simp only [List.length_map]; omega, by simp only [List.length_map]; omega, l, trivial⟩

theorem laws_toNode_ret (x : Node) (hx : x.sz ≤ 1048576) : Ret Try.prog 113 [.agg x.e] [.agg x.e] :=
  laws_toNode_p0 _ _ _ _ _ ⟨laws_toIntS_ret x.outs (by simp only [Node.sz] at hx; omega), trivial⟩

theorem laws_toNodeS_ret (xs : List Node) (hx0 : szS Node.sz xs ≤ 1048576) : Ret Try.prog 82 [.one (.sl 4 (xs.map Node.e))] [.one (.sl 4 (xs.map Node.e))] := by
  have hx : xs.length ≤ 1048576 := szS_len hx0
  have l := loop_upto (P := Try.prog) (c := loopOf Try.f82 0) (stE := laws_toNodeS_X0 (xs.map Node.e)) (exit_ne 0) xs.length (fun i => laws_toNodeS_L0 (xs.map Node.e) i (fillAt Node.e [I 0, I 0, I 0, D.v (Value.slice none 0 0)] xs i)) (fun i hi => by
    obtain ⟨a, ha⟩ := get_of hi
    have t : Tr Try.prog (loopOf Try.f82 0) (laws_toNodeS_L0 (xs.map Node.e) i (fillAt Node.e [I 0, I 0, I 0, D.v (Value.slice none 0 0)] xs i)) .normal (laws_toNodeS_L0 (xs.map Node.e) (i + 1 : Nat) ((fillAt Node.e [I 0, I 0, I 0, D.v (Value.slice none 0 0)] xs i).set ((i : Nat) : Int).toNat (Node.e a))) :=
      laws_toNodeS_L0_s0 _ _ _ _ _ _ _ _ _ _ _ _ _ _ _ ⟨lt1 hi, lt0, lt2 hi, at_map Node.e ha, laws_toNode_ret a (szS_mem hx0 (mem_of ha)), lt0, fillAt_lt hi, fillAt_get hi, up1 hi hx, trivial⟩
    rw [fillAt_set ha] at t
    exact t) (by
    have t := laws_toNodeS_L0_x1 (xs.map Node.e) xs.length (fillAt Node.e [I 0, I 0, I 0, D.v (Value.slice none 0 0)] xs xs.length) ⟨ge1, trivial⟩
    rw [fillAt_all] at t ⊢
    exact t)
  rw [fillAt_zero] at l
  exact laws_toNodeS_p0 _ _ ⟨by omega, by omega, by simp only [List.length_map]; omega, by simp only [List.length_map]; omega, l, trivial⟩

theorem laws_toGraph_ret (x : Graph) (hx : x.sz ≤ 1048576) : Ret Try.prog 41 [.agg x.e] [.agg x.e] :=
  laws_toGraph_p0 _ _ _ _ ⟨laws_toNodeS_ret x.nodes (by simp only [Graph.sz] at hx; omega), trivial⟩

end Go.Proofs.Ytbbjajmimckabaa
