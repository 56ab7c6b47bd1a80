/- PutCell, CellsIn, OutsOnly, OutCells: what program and reference compute. -/
import Derived.Test.YtialmplmfcahpaaGreatC1
import Derived.Test.YtialmplmfcahpaaGreatQ2
set_option linter.unusedVariables false
set_option linter.unusedSimpArgs false
namespace Go.Proofs.YtialmplmfcahpaaGreat
open Go.Sx Go.RowKit Go.Proofs.Tryz
def qbr (xs : List Cell) (x : Cell) : Bool := xs.any fun a => decide (a = x)
def qcw (xs : List Cell) (x : Cell) : Nat := (xs.findIdx? fun a => !decide (qdX a x < 0)).getD xs.length
def qa3 (xs : List Cell) (x : Cell) : List Cell := if qbr xs x then xs else xs.take (qcw xs x) ++ x :: xs.drop (qcw xs x)
theorem qjq (xs : List Cell) (x : Cell) : qcw xs x ≤ xs.length := by
  unfold qcw
  cases h : xs.findIdx? (fun a => !decide (qdX a x < 0)) with
  | none => simp
  | some i =>
    rw [List.findIdx?_eq_some_iff_getElem] at h
    have := h.1
    simp
    omega
theorem qjr (xs : List Cell) (x : Cell) : (qa3 xs x).length ≤ xs.length + 1 := by
  unfold qa3
  split
  · omega
  · have := qjq xs x
    simp
    omega
theorem qmh (xs : List Cell) (x : Cell) (hl : xs.length ≤ 1048576) : Ret prog 243 [.one (.sl 4 (xs.map Cell.e)), .agg x.e] [.one (B (qbr xs x))] := by
  have l := qbB (P := prog) (c := (qaa f243 0)) xs (fun a => decide (a = x)) (fun i => qdU (xs.map Cell.e) x.op x.epoch x.key x.val i) (X := fun _ _ => qgw true) qaD (qah 0)
    (fun i a ha h => qu5 _ _ _ _ _ _ _ _ _ _ ⟨lt1 (lt_of ha), lt0, lt2 (lt_of ha), qae Cell.e ha, (qdP a x).trans h, up1 (lt_of ha) hl, trivial⟩)
    (fun i a ha h => qu4 _ _ _ _ _ _ _ _ _ _ ⟨lt1 (lt_of ha), lt0, lt2 (lt_of ha), qae Cell.e ha, (qdP a x).trans h, trivial⟩)
    (qu6 _ _ _ _ _ _ ⟨ge1, trivial⟩)
  unfold qbr
  rcases l with ⟨_, _, h1, h2⟩ | ⟨i, a, _, _, _, _, h1, h2⟩
  · rw [h1]; exact qu8 _ _ _ _ _ ⟨h2, trivial⟩
  · rw [h1]; exact qu7 _ _ _ _ _ _ ⟨h2, trivial⟩
theorem qmi (xs : List Cell) (x : Cell) (r : Bool) (h : qbr xs x = r) (hl : xs.length ≤ 1048576) : Ret prog 243 [.one (.sl 4 (xs.map Cell.e)), .agg x.e] [.one (B r)] := h ▸ qmh xs x hl
def idxC (xs : List Cell) (x : Cell) : Int := match xs.findIdx? (fun a => decide (a = x)) with | some i => i | none => -1
theorem qws (xs : List Cell) (x : Cell) : decide (idxC xs x ≥ 0) = qbr xs x := by
  unfold idxC qbr
  cases h : xs.findIdx? (fun a => decide (a = x)) with
  | none =>
    have : xs.any (fun a => decide (a = x)) = false := by
      rw [List.any_eq_false]
      rw [List.findIdx?_eq_none_iff] at h
      exact fun a ha => by simpa using h a ha
    rw [this]; rfl
  | some i =>
    rw [List.findIdx?_eq_some_iff_getElem] at h
    obtain ⟨hi, h2, _⟩ := h
    have : xs.any (fun a => decide (a = x)) = true := List.any_eq_true.2 ⟨_, List.getElem_mem hi, h2⟩
    rw [this]; simp
theorem qwt (xs : List Cell) (x : Cell) (hl : xs.length ≤ 1048576) : Ret prog 315 [.one (.sl 4 (xs.map Cell.e)), .agg x.e] [.one (I (idxC xs x))] := by
  have l := qbB (P := prog) (c := (qaa f315 0)) xs (fun a => decide (a = x)) (fun i => qdQ (xs.map Cell.e) x.op x.epoch x.key x.val i) (X := fun i _ => qgs i) qaD (qah 0)
    (fun i a ha h => quf _ _ _ _ _ _ _ _ _ _ ⟨lt1 (lt_of ha), lt0, lt2 (lt_of ha), qae Cell.e ha, (qlG a x).trans h, up1 (lt_of ha) hl, trivial⟩)
    (fun i a ha h => que _ _ _ _ _ _ _ _ _ _ ⟨lt1 (lt_of ha), lt0, lt2 (lt_of ha), qae Cell.e ha, (qlG a x).trans h, trivial⟩)
    (qug _ _ _ _ _ _ ⟨ge1, trivial⟩)
  unfold idxC
  rcases l with ⟨_, h1, _, h2⟩ | ⟨i, a, _, _, _, h1, _, h2⟩
  · simp only [h1]; exact qui _ _ _ _ _ ⟨h2, trivial⟩
  · simp only [h1]; exact quh _ _ _ _ _ _ ⟨h2, trivial⟩
theorem qmj (xs : List Cell) (x : Cell) (hl : xs.length ≤ 1048576) : Ret prog 256 [.one (.sl 4 (xs.map Cell.e)), .agg x.e] [.one (B (qbr xs x))] := by
  rw [← qws]
  exact qub _ _ _ _ _ _ ⟨qud _ _ _ _ _ _ ⟨qwt xs x hl, trivial⟩, trivial⟩
theorem qmk (xs : List Cell) (x : Cell) (r : Bool) (h : qbr xs x = r) (hl : xs.length ≤ 1048576) : Ret prog 256 [.one (.sl 4 (xs.map Cell.e)), .agg x.e] [.one (B r)] := h ▸ qmj xs x hl
theorem qdd (xs : List Cell) (hl : xs.length ≤ 1048576) : Ret prog 154 [.one (.sl 4 (xs.map Cell.e))] [.one (.sl 4 (xs.map Cell.e))] :=
  qua _ ⟨by simp; omega, by simp; omega, qaf _ Cell.flat _, trivial⟩
theorem qeN (xs : List Cell) (x : Cell) (hl : xs.length ≤ 1048576) : Ret prog 244 [.one (.sl 4 (xs.map Cell.e)), .agg x.e] [.one (.sl 4 ((qa3 xs x).map Cell.e))] := by
  unfold qa3
  cases h : qbr xs x with
  | true =>
    rw [if_pos rfl]
    exact qu9 _ _ _ _ _ _ ⟨qmi xs x true h hl, rfl, by simp; omega, by simp; omega, qaf _ Cell.flat _, trivial⟩
  | false =>
    rw [if_neg (by simp)]
    have l : qac prog (qaa f244 0) (qdV (xs.map Cell.e) x.op x.epoch x.key x.val 0) (Ex.exit 0) (qeL (xs.map Cell.e) x.op x.epoch x.key x.val (qcw xs x)) := by
      have l := qbB (P := prog) (c := (qaa f244 0)) xs (fun a => !decide (qdX a x < 0)) (fun i => qdV (xs.map Cell.e) x.op x.epoch x.key x.val i) (X := fun i _ => qeL (xs.map Cell.e) x.op x.epoch x.key x.val i) (qah 0) (qah 0)
        (fun i a ha h => qva _ _ _ _ _ _ _ _ _ _ _ ⟨lt1 (lt_of ha), lt0, lt2 (lt_of ha), qae Cell.e ha, qlM a x, by simpa using h, up1 (lt_of ha) hl, trivial⟩)
        (fun i a ha h => qvb _ _ _ _ _ _ _ _ _ _ _ ⟨lt1 (lt_of ha), lt0, lt2 (lt_of ha), qae Cell.e ha, qlM a x, by simpa using h, trivial⟩)
        (qvc _ _ _ _ _ _ ⟨ge1, trivial⟩)
      unfold qcw
      rcases l with ⟨_, h1, _, h2⟩ | ⟨i, a, _, _, _, h1, _, h2⟩
      · rw [h1]; exact h2
      · rw [h1]; exact h2
    have hp := qjq xs x
    generalize qcw xs x = p at *
    refine qt9 (qvd _ _ _ _ _ _ _ ⟨qmi xs x false h hl, rfl, l, by simp, by simp, by simp; omega, by simp; omega, by simp; omega, ?_, by simp; omega, by simp; omega, qat x.flat, by simp, by simp; omega, by simp, by simp; omega, by simp; omega, ?_, trivial⟩) ?_
    · simp only [Option.getD_some, Int.toNat_natCast, Nat.sub_zero, List.drop_zero, ← List.map_take]
      exact qaf _ Cell.flat _
    · simp only [Option.getD_some, Int.toNat_natCast, ← List.map_take, ← List.map_drop]
      exact qaf _ Cell.flat _
    · simp only [Option.getD_some, Int.toNat_natCast, Nat.sub_zero, List.drop_zero, List.nil_append, ← List.map_take, ← List.map_drop, List.map_append, List.map_cons, List.append_assoc]
      congr 1
      rw [List.take_of_length_le (by simp)]
      rfl
theorem qjs (xs : List Cell) (x : Cell) (hl : xs.length ≤ 1048576) : Ret prog 255 [.one (.sl 4 (xs.map Cell.e)), .agg x.e] [.one (.sl 4 ((qa3 xs x).map Cell.e))] := by
  have c := qdd xs hl
  unfold qa3
  cases h : qbr xs x with
  | true =>
    rw [if_pos rfl]
    exact quj _ _ _ _ _ _ _ ⟨c, qmk xs x true h hl, rfl, trivial⟩
  | false =>
    rw [if_neg (by simp)]
    have l : qac prog (qaa f255 0) (qdR (xs.map Cell.e) x.op x.epoch x.key x.val (xs.map Cell.e) 0) (Ex.exit 0) (qeJ x.op x.epoch x.key x.val (xs.map Cell.e) (qcw xs x)) := by
      have l := qbB (P := prog) (c := (qaa f255 0)) xs (fun a => !decide (qdX a x < 0)) (fun i => qdR (xs.map Cell.e) x.op x.epoch x.key x.val (xs.map Cell.e) i) (X := fun i _ => qeJ x.op x.epoch x.key x.val (xs.map Cell.e) i) (qah 0) (qah 0)
        (fun i a ha h => quk _ _ _ _ _ _ _ _ _ _ _ _ ⟨lt1 (lt_of ha), lt0, lt2 (lt_of ha), qae Cell.e ha, qlL a x, by simpa using h, up1 (lt_of ha) hl, trivial⟩)
        (fun i a ha h => qul _ _ _ _ _ _ _ _ _ _ _ _ ⟨lt1 (lt_of ha), lt0, lt2 (lt_of ha), qae Cell.e ha, qlL a x, by simpa using h, trivial⟩)
        (qum _ _ _ _ _ _ _ ⟨ge1, trivial⟩)
      unfold qcw
      rcases l with ⟨_, h1, _, h2⟩ | ⟨i, a, _, _, _, h1, _, h2⟩
      · rw [h1]; exact h2
      · rw [h1]; exact h2
    exact qun _ _ _ _ _ _ _ _ _ ⟨c, qmk xs x false h hl, rfl, l, qwr xs x (qcw xs x) (qjq xs x) hl, trivial⟩
end Go.Proofs.YtialmplmfcahpaaGreat
