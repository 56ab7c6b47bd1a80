/- The functions to..: what they hand back is what came in (printed by gentypes.py) -/
import Derived.Test.YtialmplmfcahpaaGreatT1
import Derived.Test.YtialmplmfcahpaaGreatGB
set_option linter.unusedVariables false
set_option linter.unusedSimpArgs false
namespace Go.Proofs.YtialmplmfcahpaaGreat
open Go.Sx Go.RowKit
theorem qlr (xs : List Int) (hx0 : xs.length ≤ 1048576) : Ret Tryz.prog 248 [.one (.sl 1 (xs.map eI))] [.one (.sl 1 (xs.map eI))] := by
 have hx : xs.length ≤ 1048576 := hx0
 have l := qaj (P := Tryz.prog) (c := qaa Tryz.f248 0) (stE := qf9 (xs.map eI)) (qah 0) xs.length (fun i => qdz (xs.map eI) i (qau eI [I 0] xs i)) (fun i hi => by
  obtain ⟨a, ha⟩ := qag hi
  have t : Tr Tryz.prog (qaa Tryz.f248 0) (qdz (xs.map eI) i (qau eI [I 0] xs i)) .normal (qdz (xs.map eI) (i + 1 : Nat) ((qau eI [I 0] xs i).set ((i : Nat) : Int).toNat (eI a))) :=
   qpS _ _ _ _ _ ⟨lt1 hi, lt0, lt2 hi, qae eI ha, lt0, qcb hi, qce hi, up1 hi hx, trivial⟩
  rw [qcf ha] at t
  exact t) (by
  have t := qpT (xs.map eI) xs.length (qau eI [I 0] xs xs.length) ⟨ge1, trivial⟩
  rw [qcd] at t ⊢
  exact t)
 rw [qcc] at l
 exact qpU _ _ ⟨by omega, by omega, by simp only [List.length_map]; omega, by simp only [List.length_map]; omega, l, trivial⟩
theorem qls (xs : List Bool) (hx0 : xs.length ≤ 1048576) : Ret Tryz.prog 249 [.one (.sl 1 (xs.map eB))] [.one (.sl 1 (xs.map eB))] := by
 have hx : xs.length ≤ 1048576 := hx0
 have l := qaj (P := Tryz.prog) (c := qaa Tryz.f249 0) (stE := qga (xs.map eB)) (qah 0) xs.length (fun i => qdA (xs.map eB) i (qau eB [B false] xs i)) (fun i hi => by
  obtain ⟨a, ha⟩ := qag hi
  have t : Tr Tryz.prog (qaa Tryz.f249 0) (qdA (xs.map eB) i (qau eB [B false] xs i)) .normal (qdA (xs.map eB) (i + 1 : Nat) ((qau eB [B false] xs i).set ((i : Nat) : Int).toNat (eB a))) :=
   qpV _ _ _ _ _ ⟨lt1 hi, lt0, lt2 hi, qae eB ha, lt0, qcb hi, qce hi, up1 hi hx, trivial⟩
  rw [qcf ha] at t
  exact t) (by
  have t := qpW (xs.map eB) xs.length (qau eB [B false] xs xs.length) ⟨ge1, trivial⟩
  rw [qcd] at t ⊢
  exact t)
 rw [qcc] at l
 exact qpX _ _ ⟨by omega, by omega, by simp only [List.length_map]; omega, by simp only [List.length_map]; omega, l, trivial⟩
theorem qqp (x : Stamp) : Ret Tryz.prog 197 [.agg x.e] [.agg x.e] := qpJ _ _ trivial
theorem qqq (x : Record) : Ret Tryz.prog 102 [.agg x.e] [.agg x.e] := qpK _ _ _ _ _ _ _ ⟨qqp x.stamp, trivial⟩
theorem qfg (xs : List Record) (hx0 : xs.length ≤ 1048576) : Ret Tryz.prog 30 [.one (.sl 5 (xs.map Record.e))] [.one (.sl 5 (xs.map Record.e))] := by
 have hx : xs.length ≤ 1048576 := hx0
 have l := qaj (P := Tryz.prog) (c := qaa Tryz.f30 0) (stE := qf7 (xs.map Record.e)) (qah 0) xs.length (fun i => qdx (xs.map Record.e) i (qau Record.e [I 0, I 0, I 0, I 0, I 0] xs i)) (fun i hi => by
  obtain ⟨a, ha⟩ := qag hi
  have t : Tr Tryz.prog (qaa Tryz.f30 0) (qdx (xs.map Record.e) i (qau Record.e [I 0, I 0, I 0, I 0, I 0] xs i)) .normal (qdx (xs.map Record.e) (i + 1 : Nat) ((qau Record.e [I 0, I 0, I 0, I 0, I 0] xs i).set ((i : Nat) : Int).toNat (Record.e a))) :=
   qpL _ _ _ _ _ _ _ _ _ _ _ _ _ _ _ _ _ _ ⟨lt1 hi, lt0, lt2 hi, qae Record.e ha, qqq a, lt0, qcb hi, qce hi, up1 hi hx, trivial⟩
  rw [qcf ha] at t
  exact t) (by
  have t := qpM (xs.map Record.e) xs.length (qau Record.e [I 0, I 0, I 0, I 0, I 0] xs xs.length) ⟨ge1, trivial⟩
  rw [qcd] at t ⊢
  exact t)
 rw [qcc] at l
 exact qpN _ _ ⟨by omega, by omega, by simp only [List.length_map]; omega, by simp only [List.length_map]; omega, l, trivial⟩
theorem qqr (x : Cell) : Ret Tryz.prog 293 [.agg x.e] [.agg x.e] := qpO _ _ _ _ trivial
theorem qqs (xs : List Cell) (hx0 : xs.length ≤ 1048576) : Ret Tryz.prog 247 [.one (.sl 4 (xs.map Cell.e))] [.one (.sl 4 (xs.map Cell.e))] := by
 have hx : xs.length ≤ 1048576 := hx0
 have l := qaj (P := Tryz.prog) (c := qaa Tryz.f247 0) (stE := qf8 (xs.map Cell.e)) (qah 0) xs.length (fun i => qdy (xs.map Cell.e) i (qau Cell.e [I 0, I 0, I 0, I 0] xs i)) (fun i hi => by
  obtain ⟨a, ha⟩ := qag hi
  have t : Tr Tryz.prog (qaa Tryz.f247 0) (qdy (xs.map Cell.e) i (qau Cell.e [I 0, I 0, I 0, I 0] xs i)) .normal (qdy (xs.map Cell.e) (i + 1 : Nat) ((qau Cell.e [I 0, I 0, I 0, I 0] xs i).set ((i : Nat) : Int).toNat (Cell.e a))) :=
   qpP _ _ _ _ _ _ _ _ _ _ _ _ _ _ _ ⟨lt1 hi, lt0, lt2 hi, qae Cell.e ha, qqr a, lt0, qcb hi, qce hi, up1 hi hx, trivial⟩
  rw [qcf ha] at t
  exact t) (by
  have t := qpQ (xs.map Cell.e) xs.length (qau Cell.e [I 0, I 0, I 0, I 0] xs xs.length) ⟨ge1, trivial⟩
  rw [qcd] at t ⊢
  exact t)
 rw [qcc] at l
 exact qpR _ _ ⟨by omega, by omega, by simp only [List.length_map]; omega, by simp only [List.length_map]; omega, l, trivial⟩
theorem qqt (x : Done) : Ret Tryz.prog 294 [.agg x.e] [.agg x.e] := qpY _ _ trivial
theorem qqu (xs : List Done) (hx0 : xs.length ≤ 1048576) : Ret Tryz.prog 250 [.one (.sl 2 (xs.map Done.e))] [.one (.sl 2 (xs.map Done.e))] := by
 have hx : xs.length ≤ 1048576 := hx0
 have l := qaj (P := Tryz.prog) (c := qaa Tryz.f250 0) (stE := qgb (xs.map Done.e)) (qah 0) xs.length (fun i => qdB (xs.map Done.e) i (qau Done.e [I 0, B false] xs i)) (fun i hi => by
  obtain ⟨a, ha⟩ := qag hi
  have t : Tr Tryz.prog (qaa Tryz.f250 0) (qdB (xs.map Done.e) i (qau Done.e [I 0, B false] xs i)) .normal (qdB (xs.map Done.e) (i + 1 : Nat) ((qau Done.e [I 0, B false] xs i).set ((i : Nat) : Int).toNat (Done.e a))) :=
   qpZ _ _ _ _ _ _ _ _ _ ⟨lt1 hi, lt0, lt2 hi, qae Done.e ha, qqt a, lt0, qcb hi, qce hi, up1 hi hx, trivial⟩
  rw [qcf ha] at t
  exact t) (by
  have t := qp0 (xs.map Done.e) xs.length (qau Done.e [I 0, B false] xs xs.length) ⟨ge1, trivial⟩
  rw [qcd] at t ⊢
  exact t)
 rw [qcc] at l
 exact qp1 _ _ ⟨by omega, by omega, by simp only [List.length_map]; omega, by simp only [List.length_map]; omega, l, trivial⟩
theorem qqv (x : Token) : Ret Tryz.prog 149 [.agg x.e] [.agg x.e] := qp2 _ _ _ _ _ trivial
theorem qqw (xs : List Token) (hx0 : xs.length ≤ 1048576) : Ret Tryz.prog 64 [.one (.sl 5 (xs.map Token.e))] [.one (.sl 5 (xs.map Token.e))] := by
 have hx : xs.length ≤ 1048576 := hx0
 have l := qaj (P := Tryz.prog) (c := qaa Tryz.f64 0) (stE := qgc (xs.map Token.e)) (qah 0) xs.length (fun i => qdC (xs.map Token.e) i (qau Token.e [B false, I 0, I 0, B false, B false] xs i)) (fun i hi => by
  obtain ⟨a, ha⟩ := qag hi
  have t : Tr Tryz.prog (qaa Tryz.f64 0) (qdC (xs.map Token.e) i (qau Token.e [B false, I 0, I 0, B false, B false] xs i)) .normal (qdC (xs.map Token.e) (i + 1 : Nat) ((qau Token.e [B false, I 0, I 0, B false, B false] xs i).set ((i : Nat) : Int).toNat (Token.e a))) :=
   qp3 _ _ _ _ _ _ _ _ _ _ _ _ _ _ _ _ _ _ ⟨lt1 hi, lt0, lt2 hi, qae Token.e ha, qqv a, lt0, qcb hi, qce hi, up1 hi hx, trivial⟩
  rw [qcf ha] at t
  exact t) (by
  have t := qp4 (xs.map Token.e) xs.length (qau Token.e [B false, I 0, I 0, B false, B false] xs xs.length) ⟨ge1, trivial⟩
  rw [qcd] at t ⊢
  exact t)
 rw [qcc] at l
 exact qp5 _ _ ⟨by omega, by omega, by simp only [List.length_map]; omega, by simp only [List.length_map]; omega, l, trivial⟩
theorem qqx (x : News) : Ret Tryz.prog 150 [.agg x.e] [.agg x.e] := qp6 _ _ _ trivial
theorem qqy (xs : List News) (hx0 : xs.length ≤ 1048576) : Ret Tryz.prog 65 [.one (.sl 3 (xs.map News.e))] [.one (.sl 3 (xs.map News.e))] := by
 have hx : xs.length ≤ 1048576 := hx0
 have l := qaj (P := Tryz.prog) (c := qaa Tryz.f65 0) (stE := qgd (xs.map News.e)) (qah 0) xs.length (fun i => qdD (xs.map News.e) i (qau News.e [I 0, I 0, B false] xs i)) (fun i hi => by
  obtain ⟨a, ha⟩ := qag hi
  have t : Tr Tryz.prog (qaa Tryz.f65 0) (qdD (xs.map News.e) i (qau News.e [I 0, I 0, B false] xs i)) .normal (qdD (xs.map News.e) (i + 1 : Nat) ((qau News.e [I 0, I 0, B false] xs i).set ((i : Nat) : Int).toNat (News.e a))) :=
   qp7 _ _ _ _ _ _ _ _ _ _ _ _ ⟨lt1 hi, lt0, lt2 hi, qae News.e ha, qqx a, lt0, qcb hi, qce hi, up1 hi hx, trivial⟩
  rw [qcf ha] at t
  exact t) (by
  have t := qp8 (xs.map News.e) xs.length (qau News.e [I 0, I 0, B false] xs xs.length) ⟨ge1, trivial⟩
  rw [qcd] at t ⊢
  exact t)
 rw [qcc] at l
 exact qp9 _ _ ⟨by omega, by omega, by simp only [List.length_map]; omega, by simp only [List.length_map]; omega, l, trivial⟩
theorem qlt (x : Pick) : Ret Tryz.prog 17 [.agg x.e] [.agg x.e] := qqo _ _ _ trivial
theorem qqz (x : Node) (hx : x.sz ≤ 1048576) : Ret Tryz.prog 246 [.agg x.e] [.agg x.e] :=
 qqa _ _ _ _ _ ⟨qlr x.outs (by simp only [Node.sz] at hx; omega), trivial⟩
theorem qqA (xs : List Node) (hx0 : szS Node.sz xs ≤ 1048576) : Ret Tryz.prog 146 [.one (.sl 4 (xs.map Node.e))] [.one (.sl 4 (xs.map Node.e))] := by
 have hx : xs.length ≤ 1048576 := qeA hx0
 have l := qaj (P := Tryz.prog) (c := qaa Tryz.f146 0) (stE := qge (xs.map Node.e)) (qah 0) xs.length (fun i => qdE (xs.map Node.e) i (qau Node.e [I 0, I 0, I 0, D.v (Value.slice none 0 0)] xs i)) (fun i hi => by
  obtain ⟨a, ha⟩ := qag hi
  have t : Tr Tryz.prog (qaa Tryz.f146 0) (qdE (xs.map Node.e) i (qau Node.e [I 0, I 0, I 0, D.v (Value.slice none 0 0)] xs i)) .normal (qdE (xs.map Node.e) (i + 1 : Nat) ((qau Node.e [I 0, I 0, I 0, D.v (Value.slice none 0 0)] xs i).set ((i : Nat) : Int).toNat (Node.e a))) :=
   qqb _ _ _ _ _ _ _ _ _ _ _ _ _ _ _ ⟨lt1 hi, lt0, lt2 hi, qae Node.e ha, qqz a (qcR hx0 (qaG ha)), lt0, qcb hi, qce hi, up1 hi hx, trivial⟩
  rw [qcf ha] at t
  exact t) (by
  have t := qqc (xs.map Node.e) xs.length (qau Node.e [I 0, I 0, I 0, D.v (Value.slice none 0 0)] xs xs.length) ⟨ge1, trivial⟩
  rw [qcd] at t ⊢
  exact t)
 rw [qcc] at l
 exact qqd _ _ ⟨by omega, by omega, by simp only [List.length_map]; omega, by simp only [List.length_map]; omega, l, trivial⟩
theorem qqB (x : Link) (hx : x.sz ≤ 1048576) : Ret Tryz.prog 148 [.agg x.e] [.agg x.e] :=
 qqe _ _ _ _ _ _ _ ⟨qfg x.queue (by simp only [Link.sz] at hx; omega), trivial⟩
theorem qqC (xs : List Link) (hx0 : szS Link.sz xs ≤ 1048576) : Ret Tryz.prog 63 [.one (.sl 6 (xs.map Link.e))] [.one (.sl 6 (xs.map Link.e))] := by
 have hx : xs.length ≤ 1048576 := qeA hx0
 have l := qaj (P := Tryz.prog) (c := qaa Tryz.f63 0) (stE := qgf (xs.map Link.e)) (qah 0) xs.length (fun i => qdF (xs.map Link.e) i (qau Link.e [I 0, D.v (Value.slice none 0 0), I 0, I 0, I 0, I 0] xs i)) (fun i hi => by
  obtain ⟨a, ha⟩ := qag hi
  have t : Tr Tryz.prog (qaa Tryz.f63 0) (qdF (xs.map Link.e) i (qau Link.e [I 0, D.v (Value.slice none 0 0), I 0, I 0, I 0, I 0] xs i)) .normal (qdF (xs.map Link.e) (i + 1 : Nat) ((qau Link.e [I 0, D.v (Value.slice none 0 0), I 0, I 0, I 0, I 0] xs i).set ((i : Nat) : Int).toNat (Link.e a))) :=
   qqf _ _ _ _ _ _ _ _ _ _ _ _ _ _ _ _ _ _ _ _ _ ⟨lt1 hi, lt0, lt2 hi, qae Link.e ha, qqB a (qcR hx0 (qaG ha)), lt0, qcb hi, qce hi, up1 hi hx, trivial⟩
  rw [qcf ha] at t
  exact t) (by
  have t := qqg (xs.map Link.e) xs.length (qau Link.e [I 0, D.v (Value.slice none 0 0), I 0, I 0, I 0, I 0] xs xs.length) ⟨ge1, trivial⟩
  rw [qcd] at t ⊢
  exact t)
 rw [qcc] at l
 exact qqh _ _ ⟨by omega, by omega, by simp only [List.length_map]; omega, by simp only [List.length_map]; omega, l, trivial⟩
theorem qqD (x : Graph) (hx : x.sz ≤ 1048576) : Ret Tryz.prog 61 [.agg x.e] [.agg x.e] :=
 qqi _ _ _ _ ⟨qqA x.nodes (by simp only [Graph.sz] at hx; omega), trivial⟩
theorem qqE (x : Worker) (hx : x.sz ≤ 1048576) : Ret Tryz.prog 147 [.agg x.e] [.agg x.e] :=
 qqj _ _ _ _ _ _ _ _ _ _ _ _ _ _ _ _ ⟨qfg x.queue (by simp only [Worker.sz] at hx; omega), qfg x.staged (by simp only [Worker.sz] at hx; omega), qfg x.inputs (by simp only [Worker.sz] at hx; omega), qqs x.cells (by simp only [Worker.sz] at hx; omega), qlr x.sums (by simp only [Worker.sz] at hx; omega), qls x.black (by simp only [Worker.sz] at hx; omega), qls x.caps (by simp only [Worker.sz] at hx; omega), qqu x.dones (by simp only [Worker.sz] at hx; omega), trivial⟩
theorem qqF (xs : List Worker) (hx0 : szS Worker.sz xs ≤ 1048576) : Ret Tryz.prog 62 [.one (.sl 8 (xs.map Worker.e))] [.one (.sl 8 (xs.map Worker.e))] := by
 have hx : xs.length ≤ 1048576 := qeA hx0
 have l := qaj (P := Tryz.prog) (c := qaa Tryz.f62 0) (stE := qgg (xs.map Worker.e)) (qah 0) xs.length (fun i => qdG (xs.map Worker.e) i (qau Worker.e [D.v (Value.slice none 0 0), D.v (Value.slice none 0 0), D.v (Value.slice none 0 0), D.v (Value.slice none 0 0), D.v (Value.slice none 0 0), D.v (Value.slice none 0 0), D.v (Value.slice none 0 0), D.v (Value.slice none 0 0)] xs i)) (fun i hi => by
  obtain ⟨a, ha⟩ := qag hi
  have t : Tr Tryz.prog (qaa Tryz.f62 0) (qdG (xs.map Worker.e) i (qau Worker.e [D.v (Value.slice none 0 0), D.v (Value.slice none 0 0), D.v (Value.slice none 0 0), D.v (Value.slice none 0 0), D.v (Value.slice none 0 0), D.v (Value.slice none 0 0), D.v (Value.slice none 0 0), D.v (Value.slice none 0 0)] xs i)) .normal (qdG (xs.map Worker.e) (i + 1 : Nat) ((qau Worker.e [D.v (Value.slice none 0 0), D.v (Value.slice none 0 0), D.v (Value.slice none 0 0), D.v (Value.slice none 0 0), D.v (Value.slice none 0 0), D.v (Value.slice none 0 0), D.v (Value.slice none 0 0), D.v (Value.slice none 0 0)] xs i).set ((i : Nat) : Int).toNat (Worker.e a))) :=
   qqk _ _ _ _ _ _ _ _ _ _ _ _ _ _ _ _ _ _ _ _ _ _ _ _ _ _ _ ⟨lt1 hi, lt0, lt2 hi, qae Worker.e ha, qqE a (qcR hx0 (qaG ha)), lt0, qcb hi, qce hi, up1 hi hx, trivial⟩
  rw [qcf ha] at t
  exact t) (by
  have t := qql (xs.map Worker.e) xs.length (qau Worker.e [D.v (Value.slice none 0 0), D.v (Value.slice none 0 0), D.v (Value.slice none 0 0), D.v (Value.slice none 0 0), D.v (Value.slice none 0 0), D.v (Value.slice none 0 0), D.v (Value.slice none 0 0), D.v (Value.slice none 0 0)] xs xs.length) ⟨ge1, trivial⟩
  rw [qcd] at t ⊢
  exact t)
 rw [qcc] at l
 exact qqm _ _ ⟨by omega, by omega, by simp only [List.length_map]; omega, by simp only [List.length_map]; omega, l, trivial⟩
theorem qgh (x : Cluster) (hx : x.sz ≤ 1048576) : Ret Tryz.prog 16 [.agg x.e] [.agg x.e] :=
 qqn _ _ _ _ _ _ _ _ _ _ _ _ _ _ ⟨qqD x.graph (by simp only [Cluster.sz] at hx; omega), qqF x.workers (by simp only [Cluster.sz] at hx; omega), qqC x.links (by simp only [Cluster.sz] at hx; omega), qqw x.tokens (by simp only [Cluster.sz] at hx; omega), qqy x.news (by simp only [Cluster.sz] at hx; omega), trivial⟩
end Go.Proofs.YtialmplmfcahpaaGreat
