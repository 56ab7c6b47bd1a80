/- PutCell, CellsIn, OutsOnly, OutCells: what program and reference compute. -/
import Derived.Test.YtialmplmfcahpaaGreatC1
import Derived.Test.YtialmplmfcahpaaGreatQ2
set_option linter.unusedVariables false
set_option linter.unusedSimpArgs false
namespace Go.Proofs.YtialmplmfcahpaaGreat
open Go.Sx Go.RowKit
def qbq (xs : List Cell) (x : Cell) : Bool := xs.any fun a => decide (a = x)
def qcw (xs : List Cell) (x : Cell) : Nat := (xs.findIdx? fun a => !decide (qdX a x < 0)).getD xs.length
def qa3 (xs : List Cell) (x : Cell) : List Cell := if qbq xs x then xs else xs.take (qcw xs x) ++ x :: xs.drop (qcw xs x)
theorem qjj (xs : List Cell) (x : Cell) : qcw xs x ≤ xs.length := by
  unfold qcw
  cases h : xs.findIdx? (fun a => !decide (qdX a x < 0)) with
  | none => simp
  | some i =>
    rw [List.findIdx?_eq_some_iff_getElem] at h
    have := h.1
    simp
    omega
theorem qjk (xs : List Cell) (x : Cell) : (qa3 xs x).length ≤ xs.length + 1 := by
  unfold qa3
  split
  · omega
  · have := qjj xs x
    simp
    omega
theorem qlT (xs : List Cell) (x : Cell) (hl : xs.length ≤ 1048576) : Ret Tryz.prog 243 [.one (.sl 4 (xs.map Cell.e)), .agg x.e] [.one (B (qbq xs x))] := by
  have l := qbB (P := Tryz.prog) (c := (qaa Tryz.f243 0)) xs (fun a => decide (a = x)) (fun i => qdU (xs.map Cell.e) x.op x.epoch x.key x.val i) (X := fun _ _ => qgw true) qaD (qah 0)
    (fun i a ha h => qu5 _ _ _ _ _ _ _ _ _ _ ⟨lt1 (lt_of ha), lt0, lt2 (lt_of ha), qae Cell.e ha, (qdP a x).trans h, up1 (lt_of ha) hl, trivial⟩)
    (fun i a ha h => qu4 _ _ _ _ _ _ _ _ _ _ ⟨lt1 (lt_of ha), lt0, lt2 (lt_of ha), qae Cell.e ha, (qdP a x).trans h, trivial⟩)
    (qu6 _ _ _ _ _ _ ⟨ge1, trivial⟩)
  unfold qbq
  rcases l with ⟨_, _, h1, h2⟩ | ⟨i, a, _, _, _, _, h1, h2⟩
  · rw [h1]; exact qu8 _ _ _ _ _ ⟨h2, trivial⟩
  · rw [h1]; exact qu7 _ _ _ _ _ _ ⟨h2, trivial⟩
theorem qlU (xs : List Cell) (x : Cell) (r : Bool) (h : qbq xs x = r) (hl : xs.length ≤ 1048576) : Ret Tryz.prog 243 [.one (.sl 4 (xs.map Cell.e)), .agg x.e] [.one (B r)] := h ▸ qlT xs x hl
def idxC (xs : List Cell) (x : Cell) : Int := match xs.findIdx? (fun a => decide (a = x)) with | some i => i | none => -1
theorem qv2 (xs : List Cell) (x : Cell) : decide (idxC xs x ≥ 0) = qbq xs x := by
  unfold idxC qbq
  cases h : xs.findIdx? (fun a => decide (a = x)) with
  | none =>
    have : xs.any (fun a => decide (a = x)) = false := by
      rw [List.any_eq_false]
      rw [List.findIdx?_eq_none_iff] at h
      exact fun a ha => by simpa using h a ha
    rw [this]; rfl
  | some i =>
    rw [List.findIdx?_eq_some_iff_getElem] at h
    obtain ⟨hi, h2, _⟩ := h
    have : xs.any (fun a => decide (a = x)) = true := List.any_eq_true.2 ⟨_, List.getElem_mem hi, h2⟩
    rw [this]; simp
theorem qv3 (xs : List Cell) (x : Cell) (hl : xs.length ≤ 1048576) : Ret Tryz.prog 315 [.one (.sl 4 (xs.map Cell.e)), .agg x.e] [.one (I (idxC xs x))] := by
  have l := qbB (P := Tryz.prog) (c := (qaa Tryz.f315 0)) xs (fun a => decide (a = x)) (fun i => qdQ (xs.map Cell.e) x.op x.epoch x.key x.val i) (X := fun i _ => qgs i) qaD (qah 0)
    (fun i a ha h => quf _ _ _ _ _ _ _ _ _ _ ⟨lt1 (lt_of ha), lt0, lt2 (lt_of ha), qae Cell.e ha, (qlG a x).trans h, up1 (lt_of ha) hl, trivial⟩)
    (fun i a ha h => que _ _ _ _ _ _ _ _ _ _ ⟨lt1 (lt_of ha), lt0, lt2 (lt_of ha), qae Cell.e ha, (qlG a x).trans h, trivial⟩)
    (qug _ _ _ _ _ _ ⟨ge1, trivial⟩)
  unfold idxC
  rcases l with ⟨_, h1, _, h2⟩ | ⟨i, a, _, _, _, h1, _, h2⟩
  · simp only [h1]; exact qui _ _ _ _ _ ⟨h2, trivial⟩
  · simp only [h1]; exact quh _ _ _ _ _ _ ⟨h2, trivial⟩
theorem qlV (xs : List Cell) (x : Cell) (hl : xs.length ≤ 1048576) : Ret Tryz.prog 256 [.one (.sl 4 (xs.map Cell.e)), .agg x.e] [.one (B (qbq xs x))] := by
  rw [← qv2]
  exact qub _ _ _ _ _ _ ⟨qud _ _ _ _ _ _ ⟨qv3 xs x hl, trivial⟩, trivial⟩
theorem qlW (xs : List Cell) (x : Cell) (r : Bool) (h : qbq xs x = r) (hl : xs.length ≤ 1048576) : Ret Tryz.prog 256 [.one (.sl 4 (xs.map Cell.e)), .agg x.e] [.one (B r)] := h ▸ qlV xs x hl
theorem qdc (xs : List Cell) (hl : xs.length ≤ 1048576) : Ret Tryz.prog 154 [.one (.sl 4 (xs.map Cell.e))] [.one (.sl 4 (xs.map Cell.e))] :=
  qua _ ⟨by simp; omega, by simp; omega, qaf _ Cell.flat _, trivial⟩
theorem qeN (xs : List Cell) (x : Cell) (hl : xs.length ≤ 1048576) : Ret Tryz.prog 244 [.one (.sl 4 (xs.map Cell.e)), .agg x.e] [.one (.sl 4 ((qa3 xs x).map Cell.e))] := by
  unfold qa3
  cases h : qbq xs x with
  | true =>
    rw [if_pos rfl]
    exact qu9 _ _ _ _ _ _ ⟨qlU xs x true h hl, rfl, by simp; omega, by simp; omega, qaf _ Cell.flat _, trivial⟩
  | false =>
    rw [if_neg (by simp)]
    have l : qac Tryz.prog (qaa Tryz.f244 0) (qdV (xs.map Cell.e) x.op x.epoch x.key x.val 0) (Ex.exit 0) (qeL (xs.map Cell.e) x.op x.epoch x.key x.val (qcw xs x)) := by
      have l := qbB (P := Tryz.prog) (c := (qaa Tryz.f244 0)) xs (fun a => !decide (qdX a x < 0)) (fun i => qdV (xs.map Cell.e) x.op x.epoch x.key x.val i) (X := fun i _ => qeL (xs.map Cell.e) x.op x.epoch x.key x.val i) (qah 0) (qah 0)
        (fun i a ha h => qva _ _ _ _ _ _ _ _ _ _ _ ⟨lt1 (lt_of ha), lt0, lt2 (lt_of ha), qae Cell.e ha, qlM a x, by simpa using h, up1 (lt_of ha) hl, trivial⟩)
        (fun i a ha h => qvb _ _ _ _ _ _ _ _ _ _ _ ⟨lt1 (lt_of ha), lt0, lt2 (lt_of ha), qae Cell.e ha, qlM a x, by simpa using h, trivial⟩)
        (qvc _ _ _ _ _ _ ⟨ge1, trivial⟩)
      unfold qcw
      rcases l with ⟨_, h1, _, h2⟩ | ⟨i, a, _, _, _, h1, _, h2⟩
      · rw [h1]; exact h2
      · rw [h1]; exact h2
    have hp := qjj xs x
    generalize qcw xs x = p at *
    refine qt9 (qvd _ _ _ _ _ _ _ ⟨qlU xs x false h hl, rfl, l, by simp, by simp, by simp; omega, by simp; omega, by simp; omega, ?_, by simp; omega, by simp; omega, qat x.flat, by simp, by simp; omega, by simp, by simp; omega, by simp; omega, ?_, trivial⟩) ?_
    · simp only [Option.getD_some, Int.toNat_natCast, Nat.sub_zero, List.drop_zero, ← List.map_take]
      exact qaf _ Cell.flat _
    · simp only [Option.getD_some, Int.toNat_natCast, ← List.map_take, ← List.map_drop]
      exact qaf _ Cell.flat _
    · simp only [Option.getD_some, Int.toNat_natCast, Nat.sub_zero, List.drop_zero, List.nil_append, ← List.map_take, ← List.map_drop, List.map_append, List.map_cons, List.append_assoc]
      congr 1
      rw [List.take_of_length_le (by simp)]
      rfl
theorem qjl (xs : List Cell) (x : Cell) (hl : xs.length ≤ 1048576) : Ret Tryz.prog 255 [.one (.sl 4 (xs.map Cell.e)), .agg x.e] [.one (.sl 4 ((qa3 xs x).map Cell.e))] := by
  have c := qdc xs hl
  unfold qa3
  cases h : qbq xs x with
  | true =>
    rw [if_pos rfl]
    exact quj _ _ _ _ _ _ _ ⟨c, qlW xs x true h hl, rfl, trivial⟩
  | false =>
    rw [if_neg (by simp)]
    have l : qac Tryz.prog (qaa Tryz.f255 0) (qdR (xs.map Cell.e) x.op x.epoch x.key x.val (xs.map Cell.e) 0) (Ex.exit 0) (qeJ x.op x.epoch x.key x.val (xs.map Cell.e) (qcw xs x)) := by
      have l := qbB (P := Tryz.prog) (c := (qaa Tryz.f255 0)) xs (fun a => !decide (qdX a x < 0)) (fun i => qdR (xs.map Cell.e) x.op x.epoch x.key x.val (xs.map Cell.e) i) (X := fun i _ => qeJ x.op x.epoch x.key x.val (xs.map Cell.e) i) (qah 0) (qah 0)
        (fun i a ha h => quk _ _ _ _ _ _ _ _ _ _ _ _ ⟨lt1 (lt_of ha), lt0, lt2 (lt_of ha), qae Cell.e ha, qlL a x, by simpa using h, up1 (lt_of ha) hl, trivial⟩)
        (fun i a ha h => qul _ _ _ _ _ _ _ _ _ _ _ _ ⟨lt1 (lt_of ha), lt0, lt2 (lt_of ha), qae Cell.e ha, qlL a x, by simpa using h, trivial⟩)
        (qum _ _ _ _ _ _ _ ⟨ge1, trivial⟩)
      unfold qcw
      rcases l with ⟨_, h1, _, h2⟩ | ⟨i, a, _, _, _, h1, _, h2⟩
      · rw [h1]; exact h2
      · rw [h1]; exact h2
    exact qun _ _ _ _ _ _ _ _ _ ⟨c, qlW xs x false h hl, rfl, l, qv1 xs x (qcw xs x) (qjj xs x) hl, trivial⟩
def qbn (out xs : List Cell) : List Cell := xs.foldl qa3 out
def qcW (c : Cluster) : List Cell := c.workers.foldl (fun out w => qbn out w.cells) []
theorem qjm : ∀ (xs out : List Cell), (qbn out xs).length ≤ out.length + xs.length
  | [], out => by simp [qbn]
  | x :: xs, out => by
    have h1 := qjk out x
    have h2 := qjm xs (qa3 out x)
    simp only [qbn, List.foldl_cons, List.length_cons] at h2 ⊢
    omega
theorem qjn : ∀ (ws : List Worker) (out : List Cell), (ws.foldl (fun out w => qbn out w.cells) out).length ≤ out.length + (ws.map Worker.sz).sum
  | [], out => by simp
  | w :: ws, out => by
    have h1 := qjm w.cells out
    have h2 := qjn ws (qbn out w.cells)
    have h3 : w.cells.length ≤ w.sz := by simp only [Worker.sz]; omega
    simp only [List.foldl_cons, List.map_cons, List.sum_cons]
    omega
theorem Cluster.workers_sz {c : Cluster} (h : c.sz ≤ 1048576) : (c.workers.map Worker.sz).sum ≤ 1048576 := by
  simp only [Cluster.sz, szS] at h
  omega
theorem qfo {c : Cluster} (h : c.sz ≤ 1048576) : (qcW c).length ≤ 1048576 := by
  have := qjn c.workers []
  have := Cluster.workers_sz h
  unfold qcW
  simp only [List.length_nil] at *
  omega
theorem qlX {c : Cluster} (h : c.sz ≤ 1048576) {i : Nat} {w : Worker} (hw : c.workers[i]? = some w) (j : Nat) : (qbn (qa7 (fun out w => qbn out w.cells) [] c.workers i) (w.cells.take j)).length ≤ 1048576 := by
  have h1 := qjm (w.cells.take j) (qa7 (fun out w => qbn out w.cells) [] c.workers i)
  have h2 := qjn (c.workers.take i) []
  have h3 := Cluster.workers_sz h
  have h4 : sumTo Worker.sz c.workers (i + 1) ≤ (c.workers.map Worker.sz).sum := qdw
  rw [qc7 hw] at h4
  have h5 : w.cells.length ≤ w.sz := by simp only [Worker.sz]; omega
  simp only [qa7, sumTo, List.length_nil, List.length_take] at *
  omega
theorem qlY {out xs : List Cell} {i : Nat} {a : Cell} (h : xs[i]? = some a) : qbn out (xs.take (i + 1)) = qa3 (qbn out (xs.take i)) a := by
  simp [qbn, List.take_add_one, h, List.foldl_append]
theorem qv4 (c : Cluster) (hc : c.sz ≤ 1048576) : Ret Tryz.prog 195 [.agg c.e] [.one (.sl 4 ((qcW c).map Cell.e))] := by
  have hl : c.workers.length ≤ 1048576 := by have h := hc; simp only [Cluster.sz, szS] at h; omega
  let f := fun (out : List Cell) (w : Worker) => qbn out w.cells
  have inner : ∀ (i : Nat) (w : Worker), c.workers[i]? = some w → qac Tryz.prog (qaa Tryz.f195 1) (qeM (c.graph.nodes.map Node.e) c.graph.workers c.graph.cap (c.workers.map Worker.e) (c.links.map Link.e) (c.tokens.map Token.e) (c.news.map News.e) i (0 : Nat) ((qa7 f [] c.workers i).map Cell.e)) (Ex.exit 2)
      (qgx (c.graph.nodes.map Node.e) c.graph.workers c.graph.cap (c.workers.map Worker.e) (c.links.map Link.e) (c.tokens.map Token.e) (c.news.map News.e) i ((qa7 f [] c.workers (i + 1)).map Cell.e)) := by
    intro i w hw
    have hwl : w.cells.length ≤ 1048576 := by
      have := qcQ (sz := Worker.sz) (qaG hw)
      have := Cluster.workers_sz hc
      have h5 : w.cells.length ≤ w.sz := by simp only [Worker.sz]; omega
      omega
    have l := qaj (P := Tryz.prog) (c := (qaa Tryz.f195 1)) (qah 2) w.cells.length (fun j : Nat => qeM (c.graph.nodes.map Node.e) c.graph.workers c.graph.cap (c.workers.map Worker.e) (c.links.map Link.e) (c.tokens.map Token.e) (c.news.map News.e) i j ((qbn (qa7 f [] c.workers i) (w.cells.take j)).map Cell.e)) (fun j hj => by
      obtain ⟨a, ha⟩ := qag hj
      have hle := qlX hc hw j
      rw [qlY ha]
      exact qvl _ _ _ _ _ _ _ _ _ _ _ _ _ _ _ _ _ _ _ _ _ _ _ _ _ _ _ _ _ _ _ ⟨lt0, lt2 (lt_of hw), qae Worker.e hw, lt1 hj, lt0, lt2 (lt_of hw), qae Worker.e hw, lt0, lt2 hj, qae Cell.e ha, qeN _ a hle, up1 hj hwl, trivial⟩) (qvm _ _ _ _ _ _ _ _ _ _ _ _ _ _ _ _ _ _ ⟨lt0, lt2 (lt_of hw), qae Worker.e hw, ge1, trivial⟩)
    rw [List.take_length] at l
    rw [qf1 hw]
    exact l
  have l := qaj (P := Tryz.prog) (c := (qaa Tryz.f195 0)) (qah 0) c.workers.length (fun i : Nat => qfm (c.graph.nodes.map Node.e) c.graph.workers c.graph.cap (c.workers.map Worker.e) (c.links.map Link.e) (c.tokens.map Token.e) (c.news.map News.e) i ((qa7 f [] c.workers i).map Cell.e)) (fun i hi => by
    obtain ⟨w, hw⟩ := qag hi
    exact qvn _ _ _ _ _ _ _ _ _ _ ⟨lt1 hi, inner i w hw, up1 hi hl, trivial⟩) (qvo _ _ _ _ _ _ _ _ _ ⟨ge1, trivial⟩)
  rw [qf2] at l
  exact qvp _ _ _ _ _ _ _ _ ⟨l, trivial⟩
theorem qv5 (c : Cluster) (hc : c.sz ≤ 1048576) : Ret Tryz.prog 200 [.agg c.e] [.one (.sl 4 ((qcW c).map Cell.e))] := by
  have hl : c.workers.length ≤ 1048576 := by have h := hc; simp only [Cluster.sz, szS] at h; omega
  let f := fun (out : List Cell) (w : Worker) => qbn out w.cells
  have inner : ∀ (i : Nat) (w : Worker), c.workers[i]? = some w → qac Tryz.prog (qaa Tryz.f200 1) (qeK (c.workers.map Worker.e) i (w.cells.map Cell.e) (0 : Nat) ((qa7 f [] c.workers i).map Cell.e)) (Ex.exit 2)
      (qgt (c.workers.map Worker.e) i ((qa7 f [] c.workers (i + 1)).map Cell.e)) := by
    intro i w hw
    have hwl : w.cells.length ≤ 1048576 := by
      have := qcQ (sz := Worker.sz) (qaG hw)
      have := Cluster.workers_sz hc
      have h5 : w.cells.length ≤ w.sz := by simp only [Worker.sz]; omega
      omega
    have l := qaj (P := Tryz.prog) (c := (qaa Tryz.f200 1)) (qah 2) w.cells.length (fun j : Nat => qeK (c.workers.map Worker.e) i (w.cells.map Cell.e) j ((qbn (qa7 f [] c.workers i) (w.cells.take j)).map Cell.e)) (fun j hj => by
      obtain ⟨a, ha⟩ := qag hj
      have hle := qlX hc hw j
      rw [qlY ha]
      exact quu _ _ _ _ _ _ _ _ _ _ ⟨lt1 hj, lt0, lt2 hj, qae Cell.e ha, qjl _ a hle, up1 hj hwl, trivial⟩) (quv _ _ _ _ _ ⟨ge1, trivial⟩)
    rw [List.take_length] at l
    rw [qf1 hw]
    exact l
  have l := qaj (P := Tryz.prog) (c := (qaa Tryz.f200 0)) (qah 0) c.workers.length (fun i : Nat => qfl (c.workers.map Worker.e) i ((qa7 f [] c.workers i).map Cell.e)) (fun i hi => by
    obtain ⟨w, hw⟩ := qag hi
    exact quw _ _ _ _ _ _ _ _ _ _ _ _ ⟨lt1 hi, lt0, lt2 hi, qae Worker.e hw, inner i w hw, up1 hi hl, trivial⟩) (qux _ _ _ ⟨ge1, trivial⟩)
  rw [qf2] at l
  exact quy _ _ _ _ _ _ _ _ ⟨l, trivial⟩
end Go.Proofs.YtialmplmfcahpaaGreat
