/- The functions to..: what they hand back is what came in (printed by gentypes.py) -/
import Derived.Test.YtbbjajmimckabaaGreatT1
import Derived.Test.YtbbjajmimckabaaGreatGB
set_option linter.unusedVariables false
set_option linter.unusedSimpArgs false
namespace Go.Proofs.YtbbjajmimckabaaGreat
open Go.Sx Go.RowKit

theorem laws_toIntS_ret (xs : List Int) (hx0 : xs.length ≤ 1048576) : Ret Tryz.prog 104 [.one (.sl 1 (xs.map eI))] [.one (.sl 1 (xs.map eI))] := by
  have hx : xs.length ≤ 1048576 := hx0
  have l := loop_upto (P := Tryz.prog) (c := loopOf Tryz.f104 0) (stE := laws_toIntS_X0 (xs.map eI)) (exit_ne 0) xs.length (fun i => laws_toIntS_L0 (xs.map eI) i (fillAt eI [I 0] xs i)) (fun i hi => by
    obtain ⟨a, ha⟩ := get_of hi
    have t : Tr Tryz.prog (loopOf Tryz.f104 0) (laws_toIntS_L0 (xs.map eI) i (fillAt eI [I 0] xs i)) .normal (laws_toIntS_L0 (xs.map eI) (i + 1 : Nat) ((fillAt eI [I 0] xs i).set ((i : Nat) : Int).toNat (eI a))) :=
      laws_toIntS_L0_s0 _ _ _ _ _ ⟨lt1 hi, lt0, lt2 hi, at_map eI ha, lt0, fillAt_lt hi, fillAt_get hi, up1 hi hx, trivial⟩
    rw [fillAt_set ha] at t
    exact t) (by
    have t := laws_toIntS_L0_x1 (xs.map eI) xs.length (fillAt eI [I 0] xs xs.length) ⟨ge1, trivial⟩
    rw [fillAt_all] at t ⊢
    exact t)
  rw [fillAt_zero] at l
  exact laws_toIntS_p0 _ _ ⟨by omega, by omega, by simp only [List.length_map]; omega, by simp only [List.length_map]; omega, l, trivial⟩

theorem laws_toBoolS_ret (xs : List Bool) (hx0 : xs.length ≤ 1048576) : Ret Tryz.prog 105 [.one (.sl 1 (xs.map eB))] [.one (.sl 1 (xs.map eB))] := by
  have hx : xs.length ≤ 1048576 := hx0
  have l := loop_upto (P := Tryz.prog) (c := loopOf Tryz.f105 0) (stE := laws_toBoolS_X0 (xs.map eB)) (exit_ne 0) xs.length (fun i => laws_toBoolS_L0 (xs.map eB) i (fillAt eB [B false] xs i)) (fun i hi => by
    obtain ⟨a, ha⟩ := get_of hi
    have t : Tr Tryz.prog (loopOf Tryz.f105 0) (laws_toBoolS_L0 (xs.map eB) i (fillAt eB [B false] xs i)) .normal (laws_toBoolS_L0 (xs.map eB) (i + 1 : Nat) ((fillAt eB [B false] xs i).set ((i : Nat) : Int).toNat (eB a))) :=
      laws_toBoolS_L0_s0 _ _ _ _ _ ⟨lt1 hi, lt0, lt2 hi, at_map eB ha, lt0, fillAt_lt hi, fillAt_get hi, up1 hi hx, trivial⟩
    rw [fillAt_set ha] at t
    exact t) (by
    have t := laws_toBoolS_L0_x1 (xs.map eB) xs.length (fillAt eB [B false] xs xs.length) ⟨ge1, trivial⟩
    rw [fillAt_all] at t ⊢
    exact t)
  rw [fillAt_zero] at l
  exact laws_toBoolS_p0 _ _ ⟨by omega, by omega, by simp only [List.length_map]; omega, by simp only [List.length_map]; omega, l, trivial⟩

theorem laws_toStamp_ret (x : Stamp) : Ret Tryz.prog 145 [.agg x.e] [.agg x.e] := laws_toStamp_p0 _ _ trivial

theorem laws_toRecord_ret (x : Record) : Ret Tryz.prog 120 [.agg x.e] [.agg x.e] := laws_toRecord_p0 _ _ _ _ _ _ _ ⟨laws_toStamp_ret x.stamp, trivial⟩

theorem laws_toRecordS_ret (xs : List Record) (hx0 : xs.length ≤ 1048576) : Ret Tryz.prog 102 [.one (.sl 5 (xs.map Record.e))] [.one (.sl 5 (xs.map Record.e))] := by
  have hx : xs.length ≤ 1048576 := hx0
  have l := loop_upto (P := Tryz.prog) (c := loopOf Tryz.f102 0) (stE := laws_toRecordS_X0 (xs.map Record.e)) (exit_ne 0) xs.length (fun i => laws_toRecordS_L0 (xs.map Record.e) i (fillAt Record.e [I 0, I 0, I 0, I 0, I 0] xs i)) (fun i hi => by
    obtain ⟨a, ha⟩ := get_of hi
    have t : Tr Tryz.prog (loopOf Tryz.f102 0) (laws_toRecordS_L0 (xs.map Record.e) i (fillAt Record.e [I 0, I 0, I 0, I 0, I 0] xs i)) .normal (laws_toRecordS_L0 (xs.map Record.e) (i + 1 : Nat) ((fillAt Record.e [I 0, I 0, I 0, I 0, I 0] xs i).set ((i : Nat) : Int).toNat (Record.e a))) :=
      laws_toRecordS_L0_s0 _ _ _ _ _ _ _ _ _ _ _ _ _ _ _ _ _ _ ⟨lt1 hi, lt0, lt2 hi, at_map Record.e ha, laws_toRecord_ret a, lt0, fillAt_lt hi, fillAt_get hi, up1 hi hx, trivial⟩
    rw [fillAt_set ha] at t
    exact t) (by
    have t := laws_toRecordS_L0_x1 (xs.map Record.e) xs.length (fillAt Record.e [I 0, I 0, I 0, I 0, I 0] xs xs.length) ⟨ge1, trivial⟩
    rw [fillAt_all] at t ⊢
    exact t)
  rw [fillAt_zero] at l
  exact laws_toRecordS_p0 _ _ ⟨by omega, by omega, by simp only [List.length_map]; omega, by simp only [List.length_map]; omega, l, trivial⟩

theorem laws_toCell_ret (x : Cell) : Ret Tryz.prog 121 [.agg x.e] [.agg x.e] := laws_toCell_p0 _ _ _ _ trivial

theorem laws_toCellS_ret (xs : List Cell) (hx0 : xs.length ≤ 1048576) : Ret Tryz.prog 103 [.one (.sl 4 (xs.map Cell.e))] [.one (.sl 4 (xs.map Cell.e))] := by
  have hx : xs.length ≤ 1048576 := hx0
  have l := loop_upto (P := Tryz.prog) (c := loopOf Tryz.f103 0) (stE := laws_toCellS_X0 (xs.map Cell.e)) (exit_ne 0) xs.length (fun i => laws_toCellS_L0 (xs.map Cell.e) i (fillAt Cell.e [I 0, I 0, I 0, I 0] xs i)) (fun i hi => by
    obtain ⟨a, ha⟩ := get_of hi
    have t : Tr Tryz.prog (loopOf Tryz.f103 0) (laws_toCellS_L0 (xs.map Cell.e) i (fillAt Cell.e [I 0, I 0, I 0, I 0] xs i)) .normal (laws_toCellS_L0 (xs.map Cell.e) (i + 1 : Nat) ((fillAt Cell.e [I 0, I 0, I 0, I 0] xs i).set ((i : Nat) : Int).toNat (Cell.e a))) :=
      laws_toCellS_L0_s0 _ _ _ _ _ _ _ _ _ _ _ _ _ _ _ ⟨lt1 hi, lt0, lt2 hi, at_map Cell.e ha, laws_toCell_ret a, lt0, fillAt_lt hi, fillAt_get hi, up1 hi hx, trivial⟩
    rw [fillAt_set ha] at t
    exact t) (by
    have t := laws_toCellS_L0_x1 (xs.map Cell.e) xs.length (fillAt Cell.e [I 0, I 0, I 0, I 0] xs xs.length) ⟨ge1, trivial⟩
    rw [fillAt_all] at t ⊢
    exact t)
  rw [fillAt_zero] at l
  exact laws_toCellS_p0 _ _ ⟨by omega, by omega, by simp only [List.length_map]; omega, by simp only [List.length_map]; omega, l, trivial⟩

theorem laws_toDone_ret (x : Done) : Ret Tryz.prog 122 [.agg x.e] [.agg x.e] := laws_toDone_p0 _ _ trivial

theorem laws_toDoneS_ret (xs : List Done) (hx0 : xs.length ≤ 1048576) : Ret Tryz.prog 106 [.one (.sl 2 (xs.map Done.e))] [.one (.sl 2 (xs.map Done.e))] := by
  have hx : xs.length ≤ 1048576 := hx0
  have l := loop_upto (P := Tryz.prog) (c := loopOf Tryz.f106 0) (stE := laws_toDoneS_X0 (xs.map Done.e)) (exit_ne 0) xs.length (fun i => laws_toDoneS_L0 (xs.map Done.e) i (fillAt Done.e [I 0, B false] xs i)) (fun i hi => by
    obtain ⟨a, ha⟩ := get_of hi
    have t : Tr Tryz.prog (loopOf Tryz.f106 0) (laws_toDoneS_L0 (xs.map Done.e) i (fillAt Done.e [I 0, B false] xs i)) .normal (laws_toDoneS_L0 (xs.map Done.e) (i + 1 : Nat) ((fillAt Done.e [I 0, B false] xs i).set ((i : Nat) : Int).toNat (Done.e a))) :=
      laws_toDoneS_L0_s0 _ _ _ _ _ _ _ _ _ ⟨lt1 hi, lt0, lt2 hi, at_map Done.e ha, laws_toDone_ret a, lt0, fillAt_lt hi, fillAt_get hi, up1 hi hx, trivial⟩
    rw [fillAt_set ha] at t
    exact t) (by
    have t := laws_toDoneS_L0_x1 (xs.map Done.e) xs.length (fillAt Done.e [I 0, B false] xs xs.length) ⟨ge1, trivial⟩
    rw [fillAt_all] at t ⊢
    exact t)
  rw [fillAt_zero] at l
  exact laws_toDoneS_p0 _ _ ⟨by omega, by omega, by simp only [List.length_map]; omega, by simp only [List.length_map]; omega, l, trivial⟩

theorem laws_toToken_ret (x : Token) : Ret Tryz.prog 68 [.agg x.e] [.agg x.e] := laws_toToken_p0 _ _ _ _ _ trivial

theorem laws_toTokenS_ret (xs : List Token) (hx0 : xs.length ≤ 1048576) : Ret Tryz.prog 34 [.one (.sl 5 (xs.map Token.e))] [.one (.sl 5 (xs.map Token.e))] := by
  have hx : xs.length ≤ 1048576 := hx0
  have l := loop_upto (P := Tryz.prog) (c := loopOf Tryz.f34 0) (stE := laws_toTokenS_X0 (xs.map Token.e)) (exit_ne 0) xs.length (fun i => laws_toTokenS_L0 (xs.map Token.e) i (fillAt Token.e [B false, I 0, I 0, B false, B false] xs i)) (fun i hi => by
    obtain ⟨a, ha⟩ := get_of hi
    have t : Tr Tryz.prog (loopOf Tryz.f34 0) (laws_toTokenS_L0 (xs.map Token.e) i (fillAt Token.e [B false, I 0, I 0, B false, B false] xs i)) .normal (laws_toTokenS_L0 (xs.map Token.e) (i + 1 : Nat) ((fillAt Token.e [B false, I 0, I 0, B false, B false] xs i).set ((i : Nat) : Int).toNat (Token.e a))) :=
      laws_toTokenS_L0_s0 _ _ _ _ _ _ _ _ _ _ _ _ _ _ _ _ _ _ ⟨lt1 hi, lt0, lt2 hi, at_map Token.e ha, laws_toToken_ret a, lt0, fillAt_lt hi, fillAt_get hi, up1 hi hx, trivial⟩
    rw [fillAt_set ha] at t
    exact t) (by
    have t := laws_toTokenS_L0_x1 (xs.map Token.e) xs.length (fillAt Token.e [B false, I 0, I 0, B false, B false] xs xs.length) ⟨ge1, trivial⟩
    rw [fillAt_all] at t ⊢
    exact t)
  rw [fillAt_zero] at l
  exact laws_toTokenS_p0 _ _ ⟨by omega, by omega, by simp only [List.length_map]; omega, by simp only [List.length_map]; omega, l, trivial⟩

theorem laws_toNews_ret (x : News) : Ret Tryz.prog 69 [.agg x.e] [.agg x.e] := laws_toNews_p0 _ _ _ trivial

theorem laws_toNewsS_ret (xs : List News) (hx0 : xs.length ≤ 1048576) : Ret Tryz.prog 35 [.one (.sl 3 (xs.map News.e))] [.one (.sl 3 (xs.map News.e))] := by
  have hx : xs.length ≤ 1048576 := hx0
  have l := loop_upto (P := Tryz.prog) (c := loopOf Tryz.f35 0) (stE := laws_toNewsS_X0 (xs.map News.e)) (exit_ne 0) xs.length (fun i => laws_toNewsS_L0 (xs.map News.e) i (fillAt News.e [I 0, I 0, B false] xs i)) (fun i hi => by
    obtain ⟨a, ha⟩ := get_of hi
    have t : Tr Tryz.prog (loopOf Tryz.f35 0) (laws_toNewsS_L0 (xs.map News.e) i (fillAt News.e [I 0, I 0, B false] xs i)) .normal (laws_toNewsS_L0 (xs.map News.e) (i + 1 : Nat) ((fillAt News.e [I 0, I 0, B false] xs i).set ((i : Nat) : Int).toNat (News.e a))) :=
      laws_toNewsS_L0_s0 _ _ _ _ _ _ _ _ _ _ _ _ ⟨lt1 hi, lt0, lt2 hi, at_map News.e ha, laws_toNews_ret a, lt0, fillAt_lt hi, fillAt_get hi, up1 hi hx, trivial⟩
    rw [fillAt_set ha] at t
    exact t) (by
    have t := laws_toNewsS_L0_x1 (xs.map News.e) xs.length (fillAt News.e [I 0, I 0, B false] xs xs.length) ⟨ge1, trivial⟩
    rw [fillAt_all] at t ⊢
    exact t)
  rw [fillAt_zero] at l
  exact laws_toNewsS_p0 _ _ ⟨by omega, by omega, by simp only [List.length_map]; omega, by simp only [List.length_map]; omega, l, trivial⟩

theorem laws_toNode_ret (x : Node) (hx : x.sz ≤ 1048576) : Ret Tryz.prog 101 [.agg x.e] [.agg x.e] :=
  laws_toNode_p0 _ _ _ _ _ ⟨laws_toIntS_ret x.outs (by simp only [Node.sz] at hx; omega), trivial⟩

theorem laws_toNodeS_ret (xs : List Node) (hx0 : szS Node.sz xs ≤ 1048576) : Ret Tryz.prog 65 [.one (.sl 4 (xs.map Node.e))] [.one (.sl 4 (xs.map Node.e))] := by
  have hx : xs.length ≤ 1048576 := szS_len hx0
  have l := loop_upto (P := Tryz.prog) (c := loopOf Tryz.f65 0) (stE := laws_toNodeS_X0 (xs.map Node.e)) (exit_ne 0) xs.length (fun i => laws_toNodeS_L0 (xs.map Node.e) i (fillAt Node.e [I 0, I 0, I 0, D.v (Value.slice none 0 0)] xs i)) (fun i hi => by
    obtain ⟨a, ha⟩ := get_of hi
    have t : Tr Tryz.prog (loopOf Tryz.f65 0) (laws_toNodeS_L0 (xs.map Node.e) i (fillAt Node.e [I 0, I 0, I 0, D.v (Value.slice none 0 0)] xs i)) .normal (laws_toNodeS_L0 (xs.map Node.e) (i + 1 : Nat) ((fillAt Node.e [I 0, I 0, I 0, D.v (Value.slice none 0 0)] xs i).set ((i : Nat) : Int).toNat (Node.e a))) :=
      laws_toNodeS_L0_s0 _ _ _ _ _ _ _ _ _ _ _ _ _ _ _ ⟨lt1 hi, lt0, lt2 hi, at_map Node.e ha, laws_toNode_ret a (szS_mem hx0 (mem_of ha)), lt0, fillAt_lt hi, fillAt_get hi, up1 hi hx, trivial⟩
    rw [fillAt_set ha] at t
    exact t) (by
    have t := laws_toNodeS_L0_x1 (xs.map Node.e) xs.length (fillAt Node.e [I 0, I 0, I 0, D.v (Value.slice none 0 0)] xs xs.length) ⟨ge1, trivial⟩
    rw [fillAt_all] at t ⊢
    exact t)
  rw [fillAt_zero] at l
  exact laws_toNodeS_p0 _ _ ⟨by omega, by omega, by simp only [List.length_map]; omega, by simp only [List.length_map]; omega, l, trivial⟩

theorem laws_toLink_ret (x : Link) (hx : x.sz ≤ 1048576) : Ret Tryz.prog 67 [.agg x.e] [.agg x.e] :=
  laws_toLink_p0 _ _ _ _ _ _ _ ⟨laws_toRecordS_ret x.queue (by simp only [Link.sz] at hx; omega), trivial⟩

theorem laws_toLinkS_ret (xs : List Link) (hx0 : szS Link.sz xs ≤ 1048576) : Ret Tryz.prog 33 [.one (.sl 6 (xs.map Link.e))] [.one (.sl 6 (xs.map Link.e))] := by
  have hx : xs.length ≤ 1048576 := szS_len hx0
  have l := loop_upto (P := Tryz.prog) (c := loopOf Tryz.f33 0) (stE := laws_toLinkS_X0 (xs.map Link.e)) (exit_ne 0) xs.length (fun i => laws_toLinkS_L0 (xs.map Link.e) i (fillAt Link.e [I 0, D.v (Value.slice none 0 0), I 0, I 0, I 0, I 0] xs i)) (fun i hi => by
    obtain ⟨a, ha⟩ := get_of hi
    have t : Tr Tryz.prog (loopOf Tryz.f33 0) (laws_toLinkS_L0 (xs.map Link.e) i (fillAt Link.e [I 0, D.v (Value.slice none 0 0), I 0, I 0, I 0, I 0] xs i)) .normal (laws_toLinkS_L0 (xs.map Link.e) (i + 1 : Nat) ((fillAt Link.e [I 0, D.v (Value.slice none 0 0), I 0, I 0, I 0, I 0] xs i).set ((i : Nat) : Int).toNat (Link.e a))) :=
      laws_toLinkS_L0_s0 _ _ _ _ _ _ _ _ _ _ _ _ _ _ _ _ _ _ _ _ _ ⟨lt1 hi, lt0, lt2 hi, at_map Link.e ha, laws_toLink_ret a (szS_mem hx0 (mem_of ha)), lt0, fillAt_lt hi, fillAt_get hi, up1 hi hx, trivial⟩
    rw [fillAt_set ha] at t
    exact t) (by
    have t := laws_toLinkS_L0_x1 (xs.map Link.e) xs.length (fillAt Link.e [I 0, D.v (Value.slice none 0 0), I 0, I 0, I 0, I 0] xs xs.length) ⟨ge1, trivial⟩
    rw [fillAt_all] at t ⊢
    exact t)
  rw [fillAt_zero] at l
  exact laws_toLinkS_p0 _ _ ⟨by omega, by omega, by simp only [List.length_map]; omega, by simp only [List.length_map]; omega, l, trivial⟩

theorem laws_toGraph_ret (x : Graph) (hx : x.sz ≤ 1048576) : Ret Tryz.prog 31 [.agg x.e] [.agg x.e] :=
  laws_toGraph_p0 _ _ _ _ ⟨laws_toNodeS_ret x.nodes (by simp only [Graph.sz] at hx; omega), trivial⟩

theorem laws_toWorker_ret (x : Worker) (hx : x.sz ≤ 1048576) : Ret Tryz.prog 66 [.agg x.e] [.agg x.e] :=
  laws_toWorker_p0 _ _ _ _ _ _ _ _ _ _ _ _ _ _ _ _ ⟨laws_toRecordS_ret x.queue (by simp only [Worker.sz] at hx; omega), laws_toRecordS_ret x.staged (by simp only [Worker.sz] at hx; omega), laws_toRecordS_ret x.inputs (by simp only [Worker.sz] at hx; omega), laws_toCellS_ret x.cells (by simp only [Worker.sz] at hx; omega), laws_toIntS_ret x.sums (by simp only [Worker.sz] at hx; omega), laws_toBoolS_ret x.black (by simp only [Worker.sz] at hx; omega), laws_toBoolS_ret x.caps (by simp only [Worker.sz] at hx; omega), laws_toDoneS_ret x.dones (by simp only [Worker.sz] at hx; omega), trivial⟩

theorem laws_toWorkerS_ret (xs : List Worker) (hx0 : szS Worker.sz xs ≤ 1048576) : Ret Tryz.prog 32 [.one (.sl 8 (xs.map Worker.e))] [.one (.sl 8 (xs.map Worker.e))] := by
  have hx : xs.length ≤ 1048576 := szS_len hx0
  have l := loop_upto (P := Tryz.prog) (c := loopOf Tryz.f32 0) (stE := laws_toWorkerS_X0 (xs.map Worker.e)) (exit_ne 0) xs.length (fun i => laws_toWorkerS_L0 (xs.map Worker.e) i (fillAt Worker.e [D.v (Value.slice none 0 0), D.v (Value.slice none 0 0), D.v (Value.slice none 0 0), D.v (Value.slice none 0 0), D.v (Value.slice none 0 0), D.v (Value.slice none 0 0), D.v (Value.slice none 0 0), D.v (Value.slice none 0 0)] xs i)) (fun i hi => by
    obtain ⟨a, ha⟩ := get_of hi
    have t : Tr Tryz.prog (loopOf Tryz.f32 0) (laws_toWorkerS_L0 (xs.map Worker.e) i (fillAt Worker.e [D.v (Value.slice none 0 0), D.v (Value.slice none 0 0), D.v (Value.slice none 0 0), D.v (Value.slice none 0 0), D.v (Value.slice none 0 0), D.v (Value.slice none 0 0), D.v (Value.slice none 0 0), D.v (Value.slice none 0 0)] xs i)) .normal (laws_toWorkerS_L0 (xs.map Worker.e) (i + 1 : Nat) ((fillAt Worker.e [D.v (Value.slice none 0 0), D.v (Value.slice none 0 0), D.v (Value.slice none 0 0), D.v (Value.slice none 0 0), D.v (Value.slice none 0 0), D.v (Value.slice none 0 0), D.v (Value.slice none 0 0), D.v (Value.slice none 0 0)] xs i).set ((i : Nat) : Int).toNat (Worker.e a))) :=
      laws_toWorkerS_L0_s0 _ _ _ _ _ _ _ _ _ _ _ _ _ _ _ _ _ _ _ _ _ _ _ _ _ _ _ ⟨lt1 hi, lt0, lt2 hi, at_map Worker.e ha, laws_toWorker_ret a (szS_mem hx0 (mem_of ha)), lt0, fillAt_lt hi, fillAt_get hi, up1 hi hx, trivial⟩
    rw [fillAt_set ha] at t
    exact t) (by
    have t := laws_toWorkerS_L0_x1 (xs.map Worker.e) xs.length (fillAt Worker.e [D.v (Value.slice none 0 0), D.v (Value.slice none 0 0), D.v (Value.slice none 0 0), D.v (Value.slice none 0 0), D.v (Value.slice none 0 0), D.v (Value.slice none 0 0), D.v (Value.slice none 0 0), D.v (Value.slice none 0 0)] xs xs.length) ⟨ge1, trivial⟩
    rw [fillAt_all] at t ⊢
    exact t)
  rw [fillAt_zero] at l
  exact laws_toWorkerS_p0 _ _ ⟨by omega, by omega, by simp only [List.length_map]; omega, by simp only [List.length_map]; omega, l, trivial⟩

theorem laws_toCluster_ret (x : Cluster) (hx : x.sz ≤ 1048576) : Ret Tryz.prog 9 [.agg x.e] [.agg x.e] :=
  laws_toCluster_p0 _ _ _ _ _ _ _ _ _ _ _ _ _ _ ⟨laws_toGraph_ret x.graph (by simp only [Cluster.sz] at hx; omega), laws_toWorkerS_ret x.workers (by simp only [Cluster.sz] at hx; omega), laws_toLinkS_ret x.links (by simp only [Cluster.sz] at hx; omega), laws_toTokenS_ret x.tokens (by simp only [Cluster.sz] at hx; omega), laws_toNewsS_ret x.news (by simp only [Cluster.sz] at hx; omega), trivial⟩


end Go.Proofs.YtbbjajmimckabaaGreat
