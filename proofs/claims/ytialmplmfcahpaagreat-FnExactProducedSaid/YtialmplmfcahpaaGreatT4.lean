/- The functions eq..: they tell whether two are alike (printed by gentypes.py) -/
import Derived.Test.YtialmplmfcahpaaGreatT1
import Derived.Test.YtialmplmfcahpaaGreatGC
set_option linter.unusedVariables false
set_option linter.unusedSimpArgs false
namespace Go.Proofs.YtialmplmfcahpaaGreat
open Go.Sx Go.RowKit
theorem qsz (xs ys : List Int) (hx0 : xs.length ≤ 1048576) : Ret Tryz.prog 259 [.one (.sl 1 (xs.map eI)), .one (.sl 1 (ys.map eI))] [.one (B (decide (xs = ys)))] := by
 have hx : xs.length ≤ 1048576 := hx0
 by_cases hl : xs.length = ys.length
 case neg =>
  rw [decide_eq_false (fun e => hl (by rw [e]))]
  exact qq5 _ _ ⟨by simp only [List.length_map, bne_iff_ne, ne_eq]; omega, trivial⟩
 have step : ∀ i, i < xs.length → xs[i]? = ys[i]? → Tr Tryz.prog (qaa Tryz.f259 0) (qcn (xs.map eI) (ys.map eI) i) .normal (qcn (xs.map eI) (ys.map eI) (i + 1 : Nat)) := by
  intro i hi h
  obtain ⟨a, ha⟩ := qag hi
  have hb : ys[i]? = some a := h ▸ ha
  obtain ⟨b, he⟩ : ∃ b, b = a := ⟨a, rfl⟩
  rw [← he] at hb
  exact qq7 _ _ _ _ _ ⟨lt1 hi, lt0, lt2 hi, qae eI ha, lt0, lt2 (by omega), qae eI hb, by simp [he], up1 hi hx, trivial⟩
 have hz : ((↑(xs.map eI).length : Int) != (↑(ys.map eI).length : Int)) = false := by simp [hl]
 rcases qbP xs ys hl with he | ⟨i, a, b, ha, hb, hab, hlt⟩
 ·rw [decide_eq_true he]
  have l := qaj (qah 0) xs.length (fun i => qcn (xs.map eI) (ys.map eI) i) (fun i hi => step i hi (by rw [he])) (qq8 _ _ _ ⟨ge1, trivial⟩)
  exact qra _ _ ⟨hz, l, trivial⟩
 ·rw [decide_eq_false (fun e => by rw [e, hb] at ha; exact hab (Option.some.inj ha).symm)]
  have hi := lt_of ha
  have l := qaj qaD i (fun i => qcn (xs.map eI) (ys.map eI) i) (fun j hj => step j (by omega) (hlt j hj)) (qq6 _ _ _ _ _ ⟨lt1 hi, lt0, lt2 hi, qae eI ha, lt0, lt2 (by omega), qae eI hb, by simp [hab], trivial⟩)
  exact qq9 _ _ false ⟨hz, l, trivial⟩
theorem qdH (xs ys : List Int) (r : Bool) (h : decide (xs = ys) = r) (hx0 : xs.length ≤ 1048576) : Ret Tryz.prog 259 [.one (.sl 1 (xs.map eI)), .one (.sl 1 (ys.map eI))] [.one (B r)] := h ▸ qsz xs ys hx0
theorem qsA (xs ys : List Bool) (hx0 : xs.length ≤ 1048576) : Ret Tryz.prog 45 [.one (.sl 1 (xs.map eB)), .one (.sl 1 (ys.map eB))] [.one (B (decide (xs = ys)))] := by
 have hx : xs.length ≤ 1048576 := hx0
 by_cases hl : xs.length = ys.length
 case neg =>
  rw [decide_eq_false (fun e => hl (by rw [e]))]
  exact qrb _ _ ⟨by simp only [List.length_map, bne_iff_ne, ne_eq]; omega, trivial⟩
 have step : ∀ i, i < xs.length → xs[i]? = ys[i]? → Tr Tryz.prog (qaa Tryz.f45 0) (qco (xs.map eB) (ys.map eB) i) .normal (qco (xs.map eB) (ys.map eB) (i + 1 : Nat)) := by
  intro i hi h
  obtain ⟨a, ha⟩ := qag hi
  have hb : ys[i]? = some a := h ▸ ha
  obtain ⟨b, he⟩ : ∃ b, b = a := ⟨a, rfl⟩
  rw [← he] at hb
  exact qrd _ _ _ _ _ ⟨lt1 hi, lt0, lt2 hi, qae eB ha, lt0, lt2 (by omega), qae eB hb, by simp [he], up1 hi hx, trivial⟩
 have hz : ((↑(xs.map eB).length : Int) != (↑(ys.map eB).length : Int)) = false := by simp [hl]
 rcases qbP xs ys hl with he | ⟨i, a, b, ha, hb, hab, hlt⟩
 ·rw [decide_eq_true he]
  have l := qaj (qah 0) xs.length (fun i => qco (xs.map eB) (ys.map eB) i) (fun i hi => step i hi (by rw [he])) (qre _ _ _ ⟨ge1, trivial⟩)
  exact qrg _ _ ⟨hz, l, trivial⟩
 ·rw [decide_eq_false (fun e => by rw [e, hb] at ha; exact hab (Option.some.inj ha).symm)]
  have hi := lt_of ha
  have l := qaj qaD i (fun i => qco (xs.map eB) (ys.map eB) i) (fun j hj => step j (by omega) (hlt j hj)) (qrc _ _ _ _ _ ⟨lt1 hi, lt0, lt2 hi, qae eB ha, lt0, lt2 (by omega), qae eB hb, by revert hab; cases a <;> cases b <;> simp, trivial⟩)
  exact qrf _ _ false ⟨hz, l, trivial⟩
theorem qdI (xs ys : List Bool) (r : Bool) (h : decide (xs = ys) = r) (hx0 : xs.length ≤ 1048576) : Ret Tryz.prog 45 [.one (.sl 1 (xs.map eB)), .one (.sl 1 (ys.map eB))] [.one (B r)] := h ▸ qsA xs ys hx0
theorem qsB (x y : Stamp) : Ret Tryz.prog 158 [.agg x.e, .agg y.e] [.one (B (decide (x = y)))] := by
 obtain ⟨a0, a1⟩ := x
 obtain ⟨b0, b1⟩ := y
 by_cases h0 : a0 = b0
 case neg =>
  rw [decide_eq_false (by simp [h0])]
  exact qqG _ _ _ _ ⟨by simp [h0], trivial⟩
 by_cases h1 : a1 = b1
 case neg =>
  rw [decide_eq_false (by simp [h1])]
  exact qqH _ _ _ _ ⟨by simp [h0], by simp [h1], trivial⟩
 rw [decide_eq_true (by simp [h0, h1])]
 exact qqI _ _ _ _ ⟨by simp [h0], by simp [h1], trivial⟩
theorem qgi (x y : Stamp) (r : Bool) (h : decide (x = y) = r) : Ret Tryz.prog 158 [.agg x.e, .agg y.e] [.one (B r)] := h ▸ qsB x y
theorem qsC (x y : Record) : Ret Tryz.prog 68 [.agg x.e, .agg y.e] [.one (B (decide (x = y)))] := by
 obtain ⟨a0, a1, a2, a3⟩ := x
 obtain ⟨b0, b1, b2, b3⟩ := y
 by_cases h0 : a0 = b0
 case neg =>
  rw [decide_eq_false (by simp [h0])]
  exact qqJ _ _ _ _ _ _ _ _ _ _ ⟨by simp [h0], trivial⟩
 by_cases h1 : a1 = b1
 case neg =>
  rw [decide_eq_false (by simp [h1])]
  exact qqK _ _ _ _ _ _ _ _ _ _ _ ⟨by simp [h0], qgi a1 b1 false (by simp [h1]), rfl, trivial⟩
 by_cases h2 : a2 = b2
 case neg =>
  rw [decide_eq_false (by simp [h2])]
  exact qqL _ _ _ _ _ _ _ _ _ _ _ ⟨by simp [h0], qgi a1 b1 true (by simp [h1]), rfl, by simp [h2], trivial⟩
 by_cases h3 : a3 = b3
 case neg =>
  rw [decide_eq_false (by simp [h3])]
  exact qqM _ _ _ _ _ _ _ _ _ _ _ ⟨by simp [h0], qgi a1 b1 true (by simp [h1]), rfl, by simp [h2], by simp [h3], trivial⟩
 rw [decide_eq_true (by simp [h0, h1, h2, h3])]
 exact qqN _ _ _ _ _ _ _ _ _ _ _ ⟨by simp [h0], qgi a1 b1 true (by simp [h1]), rfl, by simp [h2], by simp [h3], trivial⟩
theorem qlu (x y : Record) (r : Bool) (h : decide (x = y) = r) : Ret Tryz.prog 68 [.agg x.e, .agg y.e] [.one (B r)] := h ▸ qsC x y
theorem qsD (xs ys : List Record) (hx0 : xs.length ≤ 1048576) : Ret Tryz.prog 19 [.one (.sl 5 (xs.map Record.e)), .one (.sl 5 (ys.map Record.e))] [.one (B (decide (xs = ys)))] := by
 have hx : xs.length ≤ 1048576 := hx0
 by_cases hl : xs.length = ys.length
 case neg =>
  rw [decide_eq_false (fun e => hl (by rw [e]))]
  exact qqO _ _ ⟨by simp only [List.length_map, bne_iff_ne, ne_eq]; omega, trivial⟩
 have step : ∀ i, i < xs.length → xs[i]? = ys[i]? → Tr Tryz.prog (qaa Tryz.f19 0) (qcl (xs.map Record.e) (ys.map Record.e) i) .normal (qcl (xs.map Record.e) (ys.map Record.e) (i + 1 : Nat)) := by
  intro i hi h
  obtain ⟨a, ha⟩ := qag hi
  have hb : ys[i]? = some a := h ▸ ha
  obtain ⟨b, he⟩ : ∃ b, b = a := ⟨a, rfl⟩
  rw [← he] at hb
  exact qqQ _ _ _ _ _ _ _ _ _ _ _ _ _ _ ⟨lt1 hi, lt0, lt2 hi, qae Record.e ha, lt0, lt2 (by omega), qae Record.e hb, qlu a b true (by simp [he]), rfl, up1 hi hx, trivial⟩
 have hz : ((↑(xs.map Record.e).length : Int) != (↑(ys.map Record.e).length : Int)) = false := by simp [hl]
 rcases qbP xs ys hl with he | ⟨i, a, b, ha, hb, hab, hlt⟩
 ·rw [decide_eq_true he]
  have l := qaj (qah 0) xs.length (fun i => qcl (xs.map Record.e) (ys.map Record.e) i) (fun i hi => step i hi (by rw [he])) (qqR _ _ _ ⟨ge1, trivial⟩)
  exact qqT _ _ ⟨hz, l, trivial⟩
 ·rw [decide_eq_false (fun e => by rw [e, hb] at ha; exact hab (Option.some.inj ha).symm)]
  have hi := lt_of ha
  have l := qaj qaD i (fun i => qcl (xs.map Record.e) (ys.map Record.e) i) (fun j hj => step j (by omega) (hlt j hj)) (qqP _ _ _ _ _ _ _ _ _ _ _ _ _ _ ⟨lt1 hi, lt0, lt2 hi, qae Record.e ha, lt0, lt2 (by omega), qae Record.e hb, qlu a b false (by simp [hab]), rfl, trivial⟩)
  exact qqS _ _ false ⟨hz, l, trivial⟩
theorem qaM (xs ys : List Record) (r : Bool) (h : decide (xs = ys) = r) (hx0 : xs.length ≤ 1048576) : Ret Tryz.prog 19 [.one (.sl 5 (xs.map Record.e)), .one (.sl 5 (ys.map Record.e))] [.one (B r)] := h ▸ qsD xs ys hx0
theorem qsE (x y : Cell) : Ret Tryz.prog 302 [.agg x.e, .agg y.e] [.one (B (decide (x = y)))] := by
 obtain ⟨a0, a1, a2, a3⟩ := x
 obtain ⟨b0, b1, b2, b3⟩ := y
 by_cases h0 : a0 = b0
 case neg =>
  rw [decide_eq_false (by simp [h0])]
  exact qqU _ _ _ _ _ _ _ _ ⟨by simp [h0], trivial⟩
 by_cases h1 : a1 = b1
 case neg =>
  rw [decide_eq_false (by simp [h1])]
  exact qqV _ _ _ _ _ _ _ _ ⟨by simp [h0], by simp [h1], trivial⟩
 by_cases h2 : a2 = b2
 case neg =>
  rw [decide_eq_false (by simp [h2])]
  exact qqW _ _ _ _ _ _ _ _ ⟨by simp [h0], by simp [h1], by simp [h2], trivial⟩
 by_cases h3 : a3 = b3
 case neg =>
  rw [decide_eq_false (by simp [h3])]
  exact qqX _ _ _ _ _ _ _ _ ⟨by simp [h0], by simp [h1], by simp [h2], by simp [h3], trivial⟩
 rw [decide_eq_true (by simp [h0, h1, h2, h3])]
 exact qqY _ _ _ _ _ _ _ _ ⟨by simp [h0], by simp [h1], by simp [h2], by simp [h3], trivial⟩
theorem qlv (x y : Cell) (r : Bool) (h : decide (x = y) = r) : Ret Tryz.prog 302 [.agg x.e, .agg y.e] [.one (B r)] := h ▸ qsE x y
theorem qsF (xs ys : List Cell) (hx0 : xs.length ≤ 1048576) : Ret Tryz.prog 258 [.one (.sl 4 (xs.map Cell.e)), .one (.sl 4 (ys.map Cell.e))] [.one (B (decide (xs = ys)))] := by
 have hx : xs.length ≤ 1048576 := hx0
 by_cases hl : xs.length = ys.length
 case neg =>
  rw [decide_eq_false (fun e => hl (by rw [e]))]
  exact qqZ _ _ ⟨by simp only [List.length_map, bne_iff_ne, ne_eq]; omega, trivial⟩
 have step : ∀ i, i < xs.length → xs[i]? = ys[i]? → Tr Tryz.prog (qaa Tryz.f258 0) (qcm (xs.map Cell.e) (ys.map Cell.e) i) .normal (qcm (xs.map Cell.e) (ys.map Cell.e) (i + 1 : Nat)) := by
  intro i hi h
  obtain ⟨a, ha⟩ := qag hi
  have hb : ys[i]? = some a := h ▸ ha
  obtain ⟨b, he⟩ : ∃ b, b = a := ⟨a, rfl⟩
  rw [← he] at hb
  exact qq1 _ _ _ _ _ _ _ _ _ _ _ _ ⟨lt1 hi, lt0, lt2 hi, qae Cell.e ha, lt0, lt2 (by omega), qae Cell.e hb, qlv a b true (by simp [he]), rfl, up1 hi hx, trivial⟩
 have hz : ((↑(xs.map Cell.e).length : Int) != (↑(ys.map Cell.e).length : Int)) = false := by simp [hl]
 rcases qbP xs ys hl with he | ⟨i, a, b, ha, hb, hab, hlt⟩
 ·rw [decide_eq_true he]
  have l := qaj (qah 0) xs.length (fun i => qcm (xs.map Cell.e) (ys.map Cell.e) i) (fun i hi => step i hi (by rw [he])) (qq2 _ _ _ ⟨ge1, trivial⟩)
  exact qq4 _ _ ⟨hz, l, trivial⟩
 ·rw [decide_eq_false (fun e => by rw [e, hb] at ha; exact hab (Option.some.inj ha).symm)]
  have hi := lt_of ha
  have l := qaj qaD i (fun i => qcm (xs.map Cell.e) (ys.map Cell.e) i) (fun j hj => step j (by omega) (hlt j hj)) (qq0 _ _ _ _ _ _ _ _ _ _ _ _ ⟨lt1 hi, lt0, lt2 hi, qae Cell.e ha, lt0, lt2 (by omega), qae Cell.e hb, qlv a b false (by simp [hab]), rfl, trivial⟩)
  exact qq3 _ _ false ⟨hz, l, trivial⟩
theorem qeD (xs ys : List Cell) (r : Bool) (h : decide (xs = ys) = r) (hx0 : xs.length ≤ 1048576) : Ret Tryz.prog 258 [.one (.sl 4 (xs.map Cell.e)), .one (.sl 4 (ys.map Cell.e))] [.one (B r)] := h ▸ qsF xs ys hx0
theorem qsG (x y : Done) : Ret Tryz.prog 303 [.agg x.e, .agg y.e] [.one (B (decide (x = y)))] := by
 obtain ⟨a0, a1⟩ := x
 obtain ⟨b0, b1⟩ := y
 by_cases h0 : a0 = b0
 case neg =>
  rw [decide_eq_false (by simp [h0])]
  exact qrh _ _ _ _ ⟨by simp [h0], trivial⟩
 by_cases h1 : a1 = b1
 case neg =>
  rw [decide_eq_false (by simp [h1])]
  exact qri _ _ _ _ ⟨by simp [h0], by revert h1; cases a1 <;> cases b1 <;> simp, trivial⟩
 rw [decide_eq_true (by simp [h0, h1])]
 exact qrj _ _ _ _ ⟨by simp [h0], by revert h1; cases a1 <;> cases b1 <;> simp, trivial⟩
theorem qlw (x y : Done) (r : Bool) (h : decide (x = y) = r) : Ret Tryz.prog 303 [.agg x.e, .agg y.e] [.one (B r)] := h ▸ qsG x y
theorem qsH (xs ys : List Done) (hx0 : xs.length ≤ 1048576) : Ret Tryz.prog 260 [.one (.sl 2 (xs.map Done.e)), .one (.sl 2 (ys.map Done.e))] [.one (B (decide (xs = ys)))] := by
 have hx : xs.length ≤ 1048576 := hx0
 by_cases hl : xs.length = ys.length
 case neg =>
  rw [decide_eq_false (fun e => hl (by rw [e]))]
  exact qrk _ _ ⟨by simp only [List.length_map, bne_iff_ne, ne_eq]; omega, trivial⟩
 have step : ∀ i, i < xs.length → xs[i]? = ys[i]? → Tr Tryz.prog (qaa Tryz.f260 0) (qcp (xs.map Done.e) (ys.map Done.e) i) .normal (qcp (xs.map Done.e) (ys.map Done.e) (i + 1 : Nat)) := by
  intro i hi h
  obtain ⟨a, ha⟩ := qag hi
  have hb : ys[i]? = some a := h ▸ ha
  obtain ⟨b, he⟩ : ∃ b, b = a := ⟨a, rfl⟩
  rw [← he] at hb
  exact qrm _ _ _ _ _ _ _ _ ⟨lt1 hi, lt0, lt2 hi, qae Done.e ha, lt0, lt2 (by omega), qae Done.e hb, qlw a b true (by simp [he]), rfl, up1 hi hx, trivial⟩
 have hz : ((↑(xs.map Done.e).length : Int) != (↑(ys.map Done.e).length : Int)) = false := by simp [hl]
 rcases qbP xs ys hl with he | ⟨i, a, b, ha, hb, hab, hlt⟩
 ·rw [decide_eq_true he]
  have l := qaj (qah 0) xs.length (fun i => qcp (xs.map Done.e) (ys.map Done.e) i) (fun i hi => step i hi (by rw [he])) (qrn _ _ _ ⟨ge1, trivial⟩)
  exact qrp _ _ ⟨hz, l, trivial⟩
 ·rw [decide_eq_false (fun e => by rw [e, hb] at ha; exact hab (Option.some.inj ha).symm)]
  have hi := lt_of ha
  have l := qaj qaD i (fun i => qcp (xs.map Done.e) (ys.map Done.e) i) (fun j hj => step j (by omega) (hlt j hj)) (qrl _ _ _ _ _ _ _ _ ⟨lt1 hi, lt0, lt2 hi, qae Done.e ha, lt0, lt2 (by omega), qae Done.e hb, qlw a b false (by simp [hab]), rfl, trivial⟩)
  exact qro _ _ false ⟨hz, l, trivial⟩
theorem qlx (xs ys : List Done) (r : Bool) (h : decide (xs = ys) = r) (hx0 : xs.length ≤ 1048576) : Ret Tryz.prog 260 [.one (.sl 2 (xs.map Done.e)), .one (.sl 2 (ys.map Done.e))] [.one (B r)] := h ▸ qsH xs ys hx0
theorem qsI (x y : Token) : Ret Tryz.prog 162 [.agg x.e, .agg y.e] [.one (B (decide (x = y)))] := by
 obtain ⟨a0, a1, a2, a3, a4⟩ := x
 obtain ⟨b0, b1, b2, b3, b4⟩ := y
 by_cases h0 : a0 = b0
 case neg =>
  rw [decide_eq_false (by simp [h0])]
  exact qrq _ _ _ _ _ _ _ _ _ _ ⟨by revert h0; cases a0 <;> cases b0 <;> simp, trivial⟩
 by_cases h1 : a1 = b1
 case neg =>
  rw [decide_eq_false (by simp [h1])]
  exact qrr _ _ _ _ _ _ _ _ _ _ ⟨by revert h0; cases a0 <;> cases b0 <;> simp, by simp [h1], trivial⟩
 by_cases h2 : a2 = b2
 case neg =>
  rw [decide_eq_false (by simp [h2])]
  exact qrs _ _ _ _ _ _ _ _ _ _ ⟨by revert h0; cases a0 <;> cases b0 <;> simp, by simp [h1], by simp [h2], trivial⟩
 by_cases h3 : a3 = b3
 case neg =>
  rw [decide_eq_false (by simp [h3])]
  exact qrt _ _ _ _ _ _ _ _ _ _ ⟨by revert h0; cases a0 <;> cases b0 <;> simp, by simp [h1], by simp [h2], by revert h3; cases a3 <;> cases b3 <;> simp, trivial⟩
 by_cases h4 : a4 = b4
 case neg =>
  rw [decide_eq_false (by simp [h4])]
  exact qru _ _ _ _ _ _ _ _ _ _ ⟨by revert h0; cases a0 <;> cases b0 <;> simp, by simp [h1], by simp [h2], by revert h3; cases a3 <;> cases b3 <;> simp, by revert h4; cases a4 <;> cases b4 <;> simp, trivial⟩
 rw [decide_eq_true (by simp [h0, h1, h2, h3, h4])]
 exact qrv _ _ _ _ _ _ _ _ _ _ ⟨by revert h0; cases a0 <;> cases b0 <;> simp, by simp [h1], by simp [h2], by revert h3; cases a3 <;> cases b3 <;> simp, by revert h4; cases a4 <;> cases b4 <;> simp, trivial⟩
theorem qly (x y : Token) (r : Bool) (h : decide (x = y) = r) : Ret Tryz.prog 162 [.agg x.e, .agg y.e] [.one (B r)] := h ▸ qsI x y
theorem qsJ (xs ys : List Token) (hx0 : xs.length ≤ 1048576) : Ret Tryz.prog 72 [.one (.sl 5 (xs.map Token.e)), .one (.sl 5 (ys.map Token.e))] [.one (B (decide (xs = ys)))] := by
 have hx : xs.length ≤ 1048576 := hx0
 by_cases hl : xs.length = ys.length
 case neg =>
  rw [decide_eq_false (fun e => hl (by rw [e]))]
  exact qrw _ _ ⟨by simp only [List.length_map, bne_iff_ne, ne_eq]; omega, trivial⟩
 have step : ∀ i, i < xs.length → xs[i]? = ys[i]? → Tr Tryz.prog (qaa Tryz.f72 0) (qcq (xs.map Token.e) (ys.map Token.e) i) .normal (qcq (xs.map Token.e) (ys.map Token.e) (i + 1 : Nat)) := by
  intro i hi h
  obtain ⟨a, ha⟩ := qag hi
  have hb : ys[i]? = some a := h ▸ ha
  obtain ⟨b, he⟩ : ∃ b, b = a := ⟨a, rfl⟩
  rw [← he] at hb
  exact qry _ _ _ _ _ _ _ _ _ _ _ _ _ _ ⟨lt1 hi, lt0, lt2 hi, qae Token.e ha, lt0, lt2 (by omega), qae Token.e hb, qly a b true (by simp [he]), rfl, up1 hi hx, trivial⟩
 have hz : ((↑(xs.map Token.e).length : Int) != (↑(ys.map Token.e).length : Int)) = false := by simp [hl]
 rcases qbP xs ys hl with he | ⟨i, a, b, ha, hb, hab, hlt⟩
 ·rw [decide_eq_true he]
  have l := qaj (qah 0) xs.length (fun i => qcq (xs.map Token.e) (ys.map Token.e) i) (fun i hi => step i hi (by rw [he])) (qrz _ _ _ ⟨ge1, trivial⟩)
  exact qrB _ _ ⟨hz, l, trivial⟩
 ·rw [decide_eq_false (fun e => by rw [e, hb] at ha; exact hab (Option.some.inj ha).symm)]
  have hi := lt_of ha
  have l := qaj qaD i (fun i => qcq (xs.map Token.e) (ys.map Token.e) i) (fun j hj => step j (by omega) (hlt j hj)) (qrx _ _ _ _ _ _ _ _ _ _ _ _ _ _ ⟨lt1 hi, lt0, lt2 hi, qae Token.e ha, lt0, lt2 (by omega), qae Token.e hb, qly a b false (by simp [hab]), rfl, trivial⟩)
  exact qrA _ _ false ⟨hz, l, trivial⟩
theorem qiU (xs ys : List Token) (r : Bool) (h : decide (xs = ys) = r) (hx0 : xs.length ≤ 1048576) : Ret Tryz.prog 72 [.one (.sl 5 (xs.map Token.e)), .one (.sl 5 (ys.map Token.e))] [.one (B r)] := h ▸ qsJ xs ys hx0
theorem qsK (x y : News) : Ret Tryz.prog 163 [.agg x.e, .agg y.e] [.one (B (decide (x = y)))] := by
 obtain ⟨a0, a1, a2⟩ := x
 obtain ⟨b0, b1, b2⟩ := y
 by_cases h0 : a0 = b0
 case neg =>
  rw [decide_eq_false (by simp [h0])]
  exact qrC _ _ _ _ _ _ ⟨by simp [h0], trivial⟩
 by_cases h1 : a1 = b1
 case neg =>
  rw [decide_eq_false (by simp [h1])]
  exact qrD _ _ _ _ _ _ ⟨by simp [h0], by simp [h1], trivial⟩
 by_cases h2 : a2 = b2
 case neg =>
  rw [decide_eq_false (by simp [h2])]
  exact qrE _ _ _ _ _ _ ⟨by simp [h0], by simp [h1], by revert h2; cases a2 <;> cases b2 <;> simp, trivial⟩
 rw [decide_eq_true (by simp [h0, h1, h2])]
 exact qrF _ _ _ _ _ _ ⟨by simp [h0], by simp [h1], by revert h2; cases a2 <;> cases b2 <;> simp, trivial⟩
theorem qlz (x y : News) (r : Bool) (h : decide (x = y) = r) : Ret Tryz.prog 163 [.agg x.e, .agg y.e] [.one (B r)] := h ▸ qsK x y
theorem qsL (xs ys : List News) (hx0 : xs.length ≤ 1048576) : Ret Tryz.prog 73 [.one (.sl 3 (xs.map News.e)), .one (.sl 3 (ys.map News.e))] [.one (B (decide (xs = ys)))] := by
 have hx : xs.length ≤ 1048576 := hx0
 by_cases hl : xs.length = ys.length
 case neg =>
  rw [decide_eq_false (fun e => hl (by rw [e]))]
  exact qrG _ _ ⟨by simp only [List.length_map, bne_iff_ne, ne_eq]; omega, trivial⟩
 have step : ∀ i, i < xs.length → xs[i]? = ys[i]? → Tr Tryz.prog (qaa Tryz.f73 0) (qcr (xs.map News.e) (ys.map News.e) i) .normal (qcr (xs.map News.e) (ys.map News.e) (i + 1 : Nat)) := by
  intro i hi h
  obtain ⟨a, ha⟩ := qag hi
  have hb : ys[i]? = some a := h ▸ ha
  obtain ⟨b, he⟩ : ∃ b, b = a := ⟨a, rfl⟩
  rw [← he] at hb
  exact qrI _ _ _ _ _ _ _ _ _ _ ⟨lt1 hi, lt0, lt2 hi, qae News.e ha, lt0, lt2 (by omega), qae News.e hb, qlz a b true (by simp [he]), rfl, up1 hi hx, trivial⟩
 have hz : ((↑(xs.map News.e).length : Int) != (↑(ys.map News.e).length : Int)) = false := by simp [hl]
 rcases qbP xs ys hl with he | ⟨i, a, b, ha, hb, hab, hlt⟩
 ·rw [decide_eq_true he]
  have l := qaj (qah 0) xs.length (fun i => qcr (xs.map News.e) (ys.map News.e) i) (fun i hi => step i hi (by rw [he])) (qrJ _ _ _ ⟨ge1, trivial⟩)
  exact qrL _ _ ⟨hz, l, trivial⟩
 ·rw [decide_eq_false (fun e => by rw [e, hb] at ha; exact hab (Option.some.inj ha).symm)]
  have hi := lt_of ha
  have l := qaj qaD i (fun i => qcr (xs.map News.e) (ys.map News.e) i) (fun j hj => step j (by omega) (hlt j hj)) (qrH _ _ _ _ _ _ _ _ _ _ ⟨lt1 hi, lt0, lt2 hi, qae News.e ha, lt0, lt2 (by omega), qae News.e hb, qlz a b false (by simp [hab]), rfl, trivial⟩)
  exact qrK _ _ false ⟨hz, l, trivial⟩
theorem qlA (xs ys : List News) (r : Bool) (h : decide (xs = ys) = r) (hx0 : xs.length ≤ 1048576) : Ret Tryz.prog 73 [.one (.sl 3 (xs.map News.e)), .one (.sl 3 (ys.map News.e))] [.one (B r)] := h ▸ qsL xs ys hx0
theorem qsM (x y : Node) (hx : x.sz ≤ 1048576) : Ret Tryz.prog 257 [.agg x.e, .agg y.e] [.one (B (decide (x = y)))] := by
 obtain ⟨a0, a1, a2, a3⟩ := x
 obtain ⟨b0, b1, b2, b3⟩ := y
 simp only [Node.sz] at hx
 by_cases h0 : a0 = b0
 case neg =>
  rw [decide_eq_false (by simp [h0])]
  exact qrM _ _ _ _ _ _ _ _ ⟨by simp [h0], trivial⟩
 by_cases h1 : a1 = b1
 case neg =>
  rw [decide_eq_false (by simp [h1])]
  exact qrN _ _ _ _ _ _ _ _ ⟨by simp [h0], by simp [h1], trivial⟩
 by_cases h2 : a2 = b2
 case neg =>
  rw [decide_eq_false (by simp [h2])]
  exact qrO _ _ _ _ _ _ _ _ ⟨by simp [h0], by simp [h1], by simp [h2], trivial⟩
 by_cases h3 : a3 = b3
 case neg =>
  rw [decide_eq_false (by simp [h3])]
  exact qrP _ _ _ _ _ _ _ _ _ ⟨by simp [h0], by simp [h1], by simp [h2], qdH a3 b3 false (by simp [h3]) (by omega), rfl, trivial⟩
 rw [decide_eq_true (by simp [h0, h1, h2, h3])]
 exact qrQ _ _ _ _ _ _ _ _ _ ⟨by simp [h0], by simp [h1], by simp [h2], qdH a3 b3 true (by simp [h3]) (by omega), rfl, trivial⟩
theorem qlB (x y : Node) (r : Bool) (h : decide (x = y) = r) (hx : x.sz ≤ 1048576) : Ret Tryz.prog 257 [.agg x.e, .agg y.e] [.one (B r)] := h ▸ qsM x y hx
theorem qsN (xs ys : List Node) (hx0 : szS Node.sz xs ≤ 1048576) : Ret Tryz.prog 159 [.one (.sl 4 (xs.map Node.e)), .one (.sl 4 (ys.map Node.e))] [.one (B (decide (xs = ys)))] := by
 have hx : xs.length ≤ 1048576 := qeA hx0
 by_cases hl : xs.length = ys.length
 case neg =>
  rw [decide_eq_false (fun e => hl (by rw [e]))]
  exact qrR _ _ ⟨by simp only [List.length_map, bne_iff_ne, ne_eq]; omega, trivial⟩
 have step : ∀ i, i < xs.length → xs[i]? = ys[i]? → Tr Tryz.prog (qaa Tryz.f159 0) (qcs (xs.map Node.e) (ys.map Node.e) i) .normal (qcs (xs.map Node.e) (ys.map Node.e) (i + 1 : Nat)) := by
  intro i hi h
  obtain ⟨a, ha⟩ := qag hi
  have hb : ys[i]? = some a := h ▸ ha
  obtain ⟨b, he⟩ : ∃ b, b = a := ⟨a, rfl⟩
  rw [← he] at hb
  exact qrT _ _ _ _ _ _ _ _ _ _ _ _ ⟨lt1 hi, lt0, lt2 hi, qae Node.e ha, lt0, lt2 (by omega), qae Node.e hb, qlB a b true (by simp [he]) (qcR hx0 (qaG ha)), rfl, up1 hi hx, trivial⟩
 have hz : ((↑(xs.map Node.e).length : Int) != (↑(ys.map Node.e).length : Int)) = false := by simp [hl]
 rcases qbP xs ys hl with he | ⟨i, a, b, ha, hb, hab, hlt⟩
 ·rw [decide_eq_true he]
  have l := qaj (qah 0) xs.length (fun i => qcs (xs.map Node.e) (ys.map Node.e) i) (fun i hi => step i hi (by rw [he])) (qrU _ _ _ ⟨ge1, trivial⟩)
  exact qrW _ _ ⟨hz, l, trivial⟩
 ·rw [decide_eq_false (fun e => by rw [e, hb] at ha; exact hab (Option.some.inj ha).symm)]
  have hi := lt_of ha
  have l := qaj qaD i (fun i => qcs (xs.map Node.e) (ys.map Node.e) i) (fun j hj => step j (by omega) (hlt j hj)) (qrS _ _ _ _ _ _ _ _ _ _ _ _ ⟨lt1 hi, lt0, lt2 hi, qae Node.e ha, lt0, lt2 (by omega), qae Node.e hb, qlB a b false (by simp [hab]) (qcR hx0 (qaG ha)), rfl, trivial⟩)
  exact qrV _ _ false ⟨hz, l, trivial⟩
theorem qgj (xs ys : List Node) (r : Bool) (h : decide (xs = ys) = r) (hx0 : szS Node.sz xs ≤ 1048576) : Ret Tryz.prog 159 [.one (.sl 4 (xs.map Node.e)), .one (.sl 4 (ys.map Node.e))] [.one (B r)] := h ▸ qsN xs ys hx0
theorem qsO (x y : Link) (hx : x.sz ≤ 1048576) : Ret Tryz.prog 161 [.agg x.e, .agg y.e] [.one (B (decide (x = y)))] := by
 obtain ⟨a0, a1, a2, a3, a4, a5⟩ := x
 obtain ⟨b0, b1, b2, b3, b4, b5⟩ := y
 simp only [Link.sz] at hx
 by_cases h0 : a0 = b0
 case neg =>
  rw [decide_eq_false (by simp [h0])]
  exact qrX _ _ _ _ _ _ _ _ _ _ _ _ ⟨by simp [h0], trivial⟩
 by_cases h1 : a1 = b1
 case neg =>
  rw [decide_eq_false (by simp [h1])]
  exact qrY _ _ _ _ _ _ _ _ _ _ _ _ _ ⟨by simp [h0], qaM a1 b1 false (by simp [h1]) (by omega), rfl, trivial⟩
 by_cases h2 : a2 = b2
 case neg =>
  rw [decide_eq_false (by simp [h2])]
  exact qrZ _ _ _ _ _ _ _ _ _ _ _ _ _ ⟨by simp [h0], qaM a1 b1 true (by simp [h1]) (by omega), rfl, by simp [h2], trivial⟩
 by_cases h3 : a3 = b3
 case neg =>
  rw [decide_eq_false (by simp [h3])]
  exact qr0 _ _ _ _ _ _ _ _ _ _ _ _ _ ⟨by simp [h0], qaM a1 b1 true (by simp [h1]) (by omega), rfl, by simp [h2], by simp [h3], trivial⟩
 by_cases h4 : a4 = b4
 case neg =>
  rw [decide_eq_false (by simp [h4])]
  exact qr1 _ _ _ _ _ _ _ _ _ _ _ _ _ ⟨by simp [h0], qaM a1 b1 true (by simp [h1]) (by omega), rfl, by simp [h2], by simp [h3], by simp [h4], trivial⟩
 by_cases h5 : a5 = b5
 case neg =>
  rw [decide_eq_false (by simp [h5])]
  exact qr2 _ _ _ _ _ _ _ _ _ _ _ _ _ ⟨by simp [h0], qaM a1 b1 true (by simp [h1]) (by omega), rfl, by simp [h2], by simp [h3], by simp [h4], by simp [h5], trivial⟩
 rw [decide_eq_true (by simp [h0, h1, h2, h3, h4, h5])]
 exact qr3 _ _ _ _ _ _ _ _ _ _ _ _ _ ⟨by simp [h0], qaM a1 b1 true (by simp [h1]) (by omega), rfl, by simp [h2], by simp [h3], by simp [h4], by simp [h5], trivial⟩
theorem qlC (x y : Link) (r : Bool) (h : decide (x = y) = r) (hx : x.sz ≤ 1048576) : Ret Tryz.prog 161 [.agg x.e, .agg y.e] [.one (B r)] := h ▸ qsO x y hx
theorem qsP (xs ys : List Link) (hx0 : szS Link.sz xs ≤ 1048576) : Ret Tryz.prog 71 [.one (.sl 6 (xs.map Link.e)), .one (.sl 6 (ys.map Link.e))] [.one (B (decide (xs = ys)))] := by
 have hx : xs.length ≤ 1048576 := qeA hx0
 by_cases hl : xs.length = ys.length
 case neg =>
  rw [decide_eq_false (fun e => hl (by rw [e]))]
  exact qr4 _ _ ⟨by simp only [List.length_map, bne_iff_ne, ne_eq]; omega, trivial⟩
 have step : ∀ i, i < xs.length → xs[i]? = ys[i]? → Tr Tryz.prog (qaa Tryz.f71 0) (qct (xs.map Link.e) (ys.map Link.e) i) .normal (qct (xs.map Link.e) (ys.map Link.e) (i + 1 : Nat)) := by
  intro i hi h
  obtain ⟨a, ha⟩ := qag hi
  have hb : ys[i]? = some a := h ▸ ha
  obtain ⟨b, he⟩ : ∃ b, b = a := ⟨a, rfl⟩
  rw [← he] at hb
  exact qr6 _ _ _ _ _ _ _ _ _ _ _ _ _ _ _ _ ⟨lt1 hi, lt0, lt2 hi, qae Link.e ha, lt0, lt2 (by omega), qae Link.e hb, qlC a b true (by simp [he]) (qcR hx0 (qaG ha)), rfl, up1 hi hx, trivial⟩
 have hz : ((↑(xs.map Link.e).length : Int) != (↑(ys.map Link.e).length : Int)) = false := by simp [hl]
 rcases qbP xs ys hl with he | ⟨i, a, b, ha, hb, hab, hlt⟩
 ·rw [decide_eq_true he]
  have l := qaj (qah 0) xs.length (fun i => qct (xs.map Link.e) (ys.map Link.e) i) (fun i hi => step i hi (by rw [he])) (qr7 _ _ _ ⟨ge1, trivial⟩)
  exact qr9 _ _ ⟨hz, l, trivial⟩
 ·rw [decide_eq_false (fun e => by rw [e, hb] at ha; exact hab (Option.some.inj ha).symm)]
  have hi := lt_of ha
  have l := qaj qaD i (fun i => qct (xs.map Link.e) (ys.map Link.e) i) (fun j hj => step j (by omega) (hlt j hj)) (qr5 _ _ _ _ _ _ _ _ _ _ _ _ _ _ _ _ ⟨lt1 hi, lt0, lt2 hi, qae Link.e ha, lt0, lt2 (by omega), qae Link.e hb, qlC a b false (by simp [hab]) (qcR hx0 (qaG ha)), rfl, trivial⟩)
  exact qr8 _ _ false ⟨hz, l, trivial⟩
theorem qgk (xs ys : List Link) (r : Bool) (h : decide (xs = ys) = r) (hx0 : szS Link.sz xs ≤ 1048576) : Ret Tryz.prog 71 [.one (.sl 6 (xs.map Link.e)), .one (.sl 6 (ys.map Link.e))] [.one (B r)] := h ▸ qsP xs ys hx0
theorem qsQ (x y : Graph) (hx : x.sz ≤ 1048576) : Ret Tryz.prog 69 [.agg x.e, .agg y.e] [.one (B (decide (x = y)))] := by
 obtain ⟨a0, a1, a2⟩ := x
 obtain ⟨b0, b1, b2⟩ := y
 simp only [Graph.sz] at hx
 by_cases h0 : a0 = b0
 case neg =>
  rw [decide_eq_false (by simp [h0])]
  exact qsa _ _ _ _ _ _ _ ⟨qgj a0 b0 false (by simp [h0]) (by omega), rfl, trivial⟩
 by_cases h1 : a1 = b1
 case neg =>
  rw [decide_eq_false (by simp [h1])]
  exact qsb _ _ _ _ _ _ _ ⟨qgj a0 b0 true (by simp [h0]) (by omega), rfl, by simp [h1], trivial⟩
 by_cases h2 : a2 = b2
 case neg =>
  rw [decide_eq_false (by simp [h2])]
  exact qsc _ _ _ _ _ _ _ ⟨qgj a0 b0 true (by simp [h0]) (by omega), rfl, by simp [h1], by simp [h2], trivial⟩
 rw [decide_eq_true (by simp [h0, h1, h2])]
 exact qsd _ _ _ _ _ _ _ ⟨qgj a0 b0 true (by simp [h0]) (by omega), rfl, by simp [h1], by simp [h2], trivial⟩
theorem qeE (x y : Graph) (r : Bool) (h : decide (x = y) = r) (hx : x.sz ≤ 1048576) : Ret Tryz.prog 69 [.agg x.e, .agg y.e] [.one (B r)] := h ▸ qsQ x y hx
theorem qsR (x y : Worker) (hx : x.sz ≤ 1048576) : Ret Tryz.prog 160 [.agg x.e, .agg y.e] [.one (B (decide (x = y)))] := by
 obtain ⟨a0, a1, a2, a3, a4, a5, a6, a7⟩ := x
 obtain ⟨b0, b1, b2, b3, b4, b5, b6, b7⟩ := y
 simp only [Worker.sz] at hx
 by_cases h0 : a0 = b0
 case neg =>
  rw [decide_eq_false (by simp [h0])]
  exact qse _ _ _ _ _ _ _ _ _ _ _ _ _ _ _ _ _ ⟨qaM a0 b0 false (by simp [h0]) (by omega), rfl, trivial⟩
 by_cases h1 : a1 = b1
 case neg =>
  rw [decide_eq_false (by simp [h1])]
  exact qsf _ _ _ _ _ _ _ _ _ _ _ _ _ _ _ _ _ _ ⟨qaM a0 b0 true (by simp [h0]) (by omega), rfl, qaM a1 b1 false (by simp [h1]) (by omega), rfl, trivial⟩
 by_cases h2 : a2 = b2
 case neg =>
  rw [decide_eq_false (by simp [h2])]
  exact qsg _ _ _ _ _ _ _ _ _ _ _ _ _ _ _ _ _ _ _ ⟨qaM a0 b0 true (by simp [h0]) (by omega), rfl, qaM a1 b1 true (by simp [h1]) (by omega), rfl, qaM a2 b2 false (by simp [h2]) (by omega), rfl, trivial⟩
 by_cases h3 : a3 = b3
 case neg =>
  rw [decide_eq_false (by simp [h3])]
  exact qsh _ _ _ _ _ _ _ _ _ _ _ _ _ _ _ _ _ _ _ _ ⟨qaM a0 b0 true (by simp [h0]) (by omega), rfl, qaM a1 b1 true (by simp [h1]) (by omega), rfl, qaM a2 b2 true (by simp [h2]) (by omega), rfl, qeD a3 b3 false (by simp [h3]) (by omega), rfl, trivial⟩
 by_cases h4 : a4 = b4
 case neg =>
  rw [decide_eq_false (by simp [h4])]
  exact qsi _ _ _ _ _ _ _ _ _ _ _ _ _ _ _ _ _ _ _ _ _ ⟨qaM a0 b0 true (by simp [h0]) (by omega), rfl, qaM a1 b1 true (by simp [h1]) (by omega), rfl, qaM a2 b2 true (by simp [h2]) (by omega), rfl, qeD a3 b3 true (by simp [h3]) (by omega), rfl, qdH a4 b4 false (by simp [h4]) (by omega), rfl, trivial⟩
 by_cases h5 : a5 = b5
 case neg =>
  rw [decide_eq_false (by simp [h5])]
  exact qsj _ _ _ _ _ _ _ _ _ _ _ _ _ _ _ _ _ _ _ _ _ _ ⟨qaM a0 b0 true (by simp [h0]) (by omega), rfl, qaM a1 b1 true (by simp [h1]) (by omega), rfl, qaM a2 b2 true (by simp [h2]) (by omega), rfl, qeD a3 b3 true (by simp [h3]) (by omega), rfl, qdH a4 b4 true (by simp [h4]) (by omega), rfl, qdI a5 b5 false (by simp [h5]) (by omega), rfl, trivial⟩
 by_cases h6 : a6 = b6
 case neg =>
  rw [decide_eq_false (by simp [h6])]
  exact qsk _ _ _ _ _ _ _ _ _ _ _ _ _ _ _ _ _ _ _ _ _ _ _ ⟨qaM a0 b0 true (by simp [h0]) (by omega), rfl, qaM a1 b1 true (by simp [h1]) (by omega), rfl, qaM a2 b2 true (by simp [h2]) (by omega), rfl, qeD a3 b3 true (by simp [h3]) (by omega), rfl, qdH a4 b4 true (by simp [h4]) (by omega), rfl, qdI a5 b5 true (by simp [h5]) (by omega), rfl, qdI a6 b6 false (by simp [h6]) (by omega), rfl, trivial⟩
 by_cases h7 : a7 = b7
 case neg =>
  rw [decide_eq_false (by simp [h7])]
  exact qsl _ _ _ _ _ _ _ _ _ _ _ _ _ _ _ _ _ _ _ _ _ _ _ _ ⟨qaM a0 b0 true (by simp [h0]) (by omega), rfl, qaM a1 b1 true (by simp [h1]) (by omega), rfl, qaM a2 b2 true (by simp [h2]) (by omega), rfl, qeD a3 b3 true (by simp [h3]) (by omega), rfl, qdH a4 b4 true (by simp [h4]) (by omega), rfl, qdI a5 b5 true (by simp [h5]) (by omega), rfl, qdI a6 b6 true (by simp [h6]) (by omega), rfl, qlx a7 b7 false (by simp [h7]) (by omega), rfl, trivial⟩
 rw [decide_eq_true (by simp [h0, h1, h2, h3, h4, h5, h6, h7])]
 exact qsm _ _ _ _ _ _ _ _ _ _ _ _ _ _ _ _ _ _ _ _ _ _ _ _ ⟨qaM a0 b0 true (by simp [h0]) (by omega), rfl, qaM a1 b1 true (by simp [h1]) (by omega), rfl, qaM a2 b2 true (by simp [h2]) (by omega), rfl, qeD a3 b3 true (by simp [h3]) (by omega), rfl, qdH a4 b4 true (by simp [h4]) (by omega), rfl, qdI a5 b5 true (by simp [h5]) (by omega), rfl, qdI a6 b6 true (by simp [h6]) (by omega), rfl, qlx a7 b7 true (by simp [h7]) (by omega), rfl, trivial⟩
theorem qlD (x y : Worker) (r : Bool) (h : decide (x = y) = r) (hx : x.sz ≤ 1048576) : Ret Tryz.prog 160 [.agg x.e, .agg y.e] [.one (B r)] := h ▸ qsR x y hx
theorem qsS (xs ys : List Worker) (hx0 : szS Worker.sz xs ≤ 1048576) : Ret Tryz.prog 70 [.one (.sl 8 (xs.map Worker.e)), .one (.sl 8 (ys.map Worker.e))] [.one (B (decide (xs = ys)))] := by
 have hx : xs.length ≤ 1048576 := qeA hx0
 by_cases hl : xs.length = ys.length
 case neg =>
  rw [decide_eq_false (fun e => hl (by rw [e]))]
  exact qsn _ _ ⟨by simp only [List.length_map, bne_iff_ne, ne_eq]; omega, trivial⟩
 have step : ∀ i, i < xs.length → xs[i]? = ys[i]? → Tr Tryz.prog (qaa Tryz.f70 0) (qcu (xs.map Worker.e) (ys.map Worker.e) i) .normal (qcu (xs.map Worker.e) (ys.map Worker.e) (i + 1 : Nat)) := by
  intro i hi h
  obtain ⟨a, ha⟩ := qag hi
  have hb : ys[i]? = some a := h ▸ ha
  obtain ⟨b, he⟩ : ∃ b, b = a := ⟨a, rfl⟩
  rw [← he] at hb
  exact qsp _ _ _ _ _ _ _ _ _ _ _ _ _ _ _ _ _ _ _ _ ⟨lt1 hi, lt0, lt2 hi, qae Worker.e ha, lt0, lt2 (by omega), qae Worker.e hb, qlD a b true (by simp [he]) (qcR hx0 (qaG ha)), rfl, up1 hi hx, trivial⟩
 have hz : ((↑(xs.map Worker.e).length : Int) != (↑(ys.map Worker.e).length : Int)) = false := by simp [hl]
 rcases qbP xs ys hl with he | ⟨i, a, b, ha, hb, hab, hlt⟩
 ·rw [decide_eq_true he]
  have l := qaj (qah 0) xs.length (fun i => qcu (xs.map Worker.e) (ys.map Worker.e) i) (fun i hi => step i hi (by rw [he])) (qsq _ _ _ ⟨ge1, trivial⟩)
  exact qss _ _ ⟨hz, l, trivial⟩
 ·rw [decide_eq_false (fun e => by rw [e, hb] at ha; exact hab (Option.some.inj ha).symm)]
  have hi := lt_of ha
  have l := qaj qaD i (fun i => qcu (xs.map Worker.e) (ys.map Worker.e) i) (fun j hj => step j (by omega) (hlt j hj)) (qso _ _ _ _ _ _ _ _ _ _ _ _ _ _ _ _ _ _ _ _ ⟨lt1 hi, lt0, lt2 hi, qae Worker.e ha, lt0, lt2 (by omega), qae Worker.e hb, qlD a b false (by simp [hab]) (qcR hx0 (qaG ha)), rfl, trivial⟩)
  exact qsr _ _ false ⟨hz, l, trivial⟩
theorem qfh (xs ys : List Worker) (r : Bool) (h : decide (xs = ys) = r) (hx0 : szS Worker.sz xs ≤ 1048576) : Ret Tryz.prog 70 [.one (.sl 8 (xs.map Worker.e)), .one (.sl 8 (ys.map Worker.e))] [.one (B r)] := h ▸ qsS xs ys hx0
theorem qsT (x y : Cluster) (hx : x.sz ≤ 1048576) : Ret Tryz.prog 20 [.agg x.e, .agg y.e] [.one (B (decide (x = y)))] := by
 obtain ⟨a0, a1, a2, a3, a4⟩ := x
 obtain ⟨b0, b1, b2, b3, b4⟩ := y
 simp only [Cluster.sz] at hx
 by_cases h0 : a0 = b0
 case neg =>
  rw [decide_eq_false (by simp [h0])]
  exact qst _ _ _ _ _ _ _ _ _ _ _ _ _ _ _ ⟨qeE a0 b0 false (by simp [h0]) (by omega), rfl, trivial⟩
 by_cases h1 : a1 = b1
 case neg =>
  rw [decide_eq_false (by simp [h1])]
  exact qsu _ _ _ _ _ _ _ _ _ _ _ _ _ _ _ _ ⟨qeE a0 b0 true (by simp [h0]) (by omega), rfl, qfh a1 b1 false (by simp [h1]) (by omega), rfl, trivial⟩
 by_cases h2 : a2 = b2
 case neg =>
  rw [decide_eq_false (by simp [h2])]
  exact qsv _ _ _ _ _ _ _ _ _ _ _ _ _ _ _ _ _ ⟨qeE a0 b0 true (by simp [h0]) (by omega), rfl, qfh a1 b1 true (by simp [h1]) (by omega), rfl, qgk a2 b2 false (by simp [h2]) (by omega), rfl, trivial⟩
 by_cases h3 : a3 = b3
 case neg =>
  rw [decide_eq_false (by simp [h3])]
  exact qsw _ _ _ _ _ _ _ _ _ _ _ _ _ _ _ _ _ _ ⟨qeE a0 b0 true (by simp [h0]) (by omega), rfl, qfh a1 b1 true (by simp [h1]) (by omega), rfl, qgk a2 b2 true (by simp [h2]) (by omega), rfl, qiU a3 b3 false (by simp [h3]) (by omega), rfl, trivial⟩
 by_cases h4 : a4 = b4
 case neg =>
  rw [decide_eq_false (by simp [h4])]
  exact qsx _ _ _ _ _ _ _ _ _ _ _ _ _ _ _ _ _ _ _ ⟨qeE a0 b0 true (by simp [h0]) (by omega), rfl, qfh a1 b1 true (by simp [h1]) (by omega), rfl, qgk a2 b2 true (by simp [h2]) (by omega), rfl, qiU a3 b3 true (by simp [h3]) (by omega), rfl, qlA a4 b4 false (by simp [h4]) (by omega), rfl, trivial⟩
 rw [decide_eq_true (by simp [h0, h1, h2, h3, h4])]
 exact qsy _ _ _ _ _ _ _ _ _ _ _ _ _ _ _ _ _ _ _ ⟨qeE a0 b0 true (by simp [h0]) (by omega), rfl, qfh a1 b1 true (by simp [h1]) (by omega), rfl, qgk a2 b2 true (by simp [h2]) (by omega), rfl, qiU a3 b3 true (by simp [h3]) (by omega), rfl, qlA a4 b4 true (by simp [h4]) (by omega), rfl, trivial⟩
theorem qgl (x y : Cluster) (r : Bool) (h : decide (x = y) = r) (hx : x.sz ≤ 1048576) : Ret Tryz.prog 20 [.agg x.e, .agg y.e] [.one (B r)] := h ▸ qsT x y hx
end Go.Proofs.YtialmplmfcahpaaGreat
