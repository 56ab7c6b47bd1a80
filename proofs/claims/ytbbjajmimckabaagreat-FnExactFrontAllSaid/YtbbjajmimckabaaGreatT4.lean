/- The functions eq..: they tell whether two are alike (printed by gentypes.py) -/
import Derived.Test.YtbbjajmimckabaaGreatT1
import Derived.Test.YtbbjajmimckabaaGreatGC
set_option linter.unusedVariables false
set_option linter.unusedSimpArgs false
namespace Go.Proofs.YtbbjajmimckabaaGreat
open Go.Sx Go.RowKit

theorem laws_eqIntS_ret (xs ys : List Int) (hx0 : xs.length ≤ 1048576) : Ret Tryz.prog 112 [.one (.sl 1 (xs.map eI)), .one (.sl 1 (ys.map eI))] [.one (B (decide (xs = ys)))] := by
  have hx : xs.length ≤ 1048576 := hx0
  by_cases hl : xs.length = ys.length
  case neg =>
    rw [decide_eq_false (fun e => hl (by rw [e]))]
    exact laws_eqIntS_p0 _ _ ⟨by simp only [List.length_map, bne_iff_ne, ne_eq]; omega, trivial⟩
  have step : ∀ i, i < xs.length → xs[i]? = ys[i]? → Tr Tryz.prog (loopOf Tryz.f112 0) (laws_eqIntS_L0 (xs.map eI) (ys.map eI) i) .normal (laws_eqIntS_L0 (xs.map eI) (ys.map eI) (i + 1 : Nat)) := by
    intro i hi h
    obtain ⟨a, ha⟩ := get_of hi
    have hb : ys[i]? = some a := h ▸ ha
    obtain ⟨b, he⟩ : ∃ b, b = a := ⟨a, rfl⟩
    rw [← he] at hb
    exact laws_eqIntS_L0_s1 _ _ _ _ _ ⟨lt1 hi, lt0, lt2 hi, at_map eI ha, lt0, lt2 (by omega), at_map eI hb, by simp [he], up1 hi hx, trivial⟩
  have hz : ((↑(xs.map eI).length : Int) != (↑(ys.map eI).length : Int)) = false := by simp [hl]
  rcases first_diff xs ys hl with he | ⟨i, a, b, ha, hb, hab, hlt⟩
  · rw [decide_eq_true he]
    have l := loop_upto (exit_ne 0) xs.length (fun i => laws_eqIntS_L0 (xs.map eI) (ys.map eI) i) (fun i hi => step i hi (by rw [he])) (laws_eqIntS_L0_x2 _ _ _ ⟨ge1, trivial⟩)
    exact laws_eqIntS_p2 _ _ ⟨hz, l, trivial⟩
  · rw [decide_eq_false (fun e => by rw [e, hb] at ha; exact hab (Option.some.inj ha).symm)]
    have hi := lt_of ha
    have l := loop_upto ret_ne i (fun i => laws_eqIntS_L0 (xs.map eI) (ys.map eI) i) (fun j hj => step j (by omega) (hlt j hj)) (laws_eqIntS_L0_x0 _ _ _ _ _ ⟨lt1 hi, lt0, lt2 hi, at_map eI ha, lt0, lt2 (by omega), at_map eI hb, by simp [hab], trivial⟩)
    exact laws_eqIntS_p1 _ _ false ⟨hz, l, trivial⟩

theorem laws_eqIntS_ret' (xs ys : List Int) (r : Bool) (h : decide (xs = ys) = r) (hx0 : xs.length ≤ 1048576) : Ret Tryz.prog 112 [.one (.sl 1 (xs.map eI)), .one (.sl 1 (ys.map eI))] [.one (B r)] := h ▸ laws_eqIntS_ret xs ys hx0

theorem laws_eqBoolS_ret (xs ys : List Bool) (hx0 : xs.length ≤ 1048576) : Ret Tryz.prog 113 [.one (.sl 1 (xs.map eB)), .one (.sl 1 (ys.map eB))] [.one (B (decide (xs = ys)))] := by
  have hx : xs.length ≤ 1048576 := hx0
  by_cases hl : xs.length = ys.length
  case neg =>
    rw [decide_eq_false (fun e => hl (by rw [e]))]
    exact laws_eqBoolS_p0 _ _ ⟨by simp only [List.length_map, bne_iff_ne, ne_eq]; omega, trivial⟩
  have step : ∀ i, i < xs.length → xs[i]? = ys[i]? → Tr Tryz.prog (loopOf Tryz.f113 0) (laws_eqBoolS_L0 (xs.map eB) (ys.map eB) i) .normal (laws_eqBoolS_L0 (xs.map eB) (ys.map eB) (i + 1 : Nat)) := by
    intro i hi h
    obtain ⟨a, ha⟩ := get_of hi
    have hb : ys[i]? = some a := h ▸ ha
    obtain ⟨b, he⟩ : ∃ b, b = a := ⟨a, rfl⟩
    rw [← he] at hb
    exact laws_eqBoolS_L0_s1 _ _ _ _ _ ⟨lt1 hi, lt0, lt2 hi, at_map eB ha, lt0, lt2 (by omega), at_map eB hb, by simp [he], up1 hi hx, trivial⟩
  have hz : ((↑(xs.map eB).length : Int) != (↑(ys.map eB).length : Int)) = false := by simp [hl]
  rcases first_diff xs ys hl with he | ⟨i, a, b, ha, hb, hab, hlt⟩
  · rw [decide_eq_true he]
    have l := loop_upto (exit_ne 0) xs.length (fun i => laws_eqBoolS_L0 (xs.map eB) (ys.map eB) i) (fun i hi => step i hi (by rw [he])) (laws_eqBoolS_L0_x2 _ _ _ ⟨ge1, trivial⟩)
    exact laws_eqBoolS_p2 _ _ ⟨hz, l, trivial⟩
  · rw [decide_eq_false (fun e => by rw [e, hb] at ha; exact hab (Option.some.inj ha).symm)]
    have hi := lt_of ha
    have l := loop_upto ret_ne i (fun i => laws_eqBoolS_L0 (xs.map eB) (ys.map eB) i) (fun j hj => step j (by omega) (hlt j hj)) (laws_eqBoolS_L0_x0 _ _ _ _ _ ⟨lt1 hi, lt0, lt2 hi, at_map eB ha, lt0, lt2 (by omega), at_map eB hb, by revert hab; cases a <;> cases b <;> simp, trivial⟩)
    exact laws_eqBoolS_p1 _ _ false ⟨hz, l, trivial⟩

theorem laws_eqBoolS_ret' (xs ys : List Bool) (r : Bool) (h : decide (xs = ys) = r) (hx0 : xs.length ≤ 1048576) : Ret Tryz.prog 113 [.one (.sl 1 (xs.map eB)), .one (.sl 1 (ys.map eB))] [.one (B r)] := h ▸ laws_eqBoolS_ret xs ys hx0

theorem laws_eqStamp_ret (x y : Stamp) : Ret Tryz.prog 52 [.agg x.e, .agg y.e] [.one (B (decide (x = y)))] := by
  obtain ⟨a0, a1⟩ := x
  obtain ⟨b0, b1⟩ := y
  by_cases h0 : a0 = b0
  case neg =>
    rw [decide_eq_false (by simp [h0])]
    exact laws_eqStamp_p0 _ _ _ _ ⟨by simp [h0], trivial⟩
  by_cases h1 : a1 = b1
  case neg =>
    rw [decide_eq_false (by simp [h1])]
    exact laws_eqStamp_p1 _ _ _ _ ⟨by simp [h0], by simp [h1], trivial⟩
  rw [decide_eq_true (by simp [h0, h1])]
  exact laws_eqStamp_p2 _ _ _ _ ⟨by simp [h0], by simp [h1], trivial⟩

theorem laws_eqStamp_ret' (x y : Stamp) (r : Bool) (h : decide (x = y) = r) : Ret Tryz.prog 52 [.agg x.e, .agg y.e] [.one (B r)] := h ▸ laws_eqStamp_ret x y

theorem laws_eqStampS_ret (xs ys : List Stamp) (hx0 : xs.length ≤ 1048576) : Ret Tryz.prog 20 [.one (.sl 2 (xs.map Stamp.e)), .one (.sl 2 (ys.map Stamp.e))] [.one (B (decide (xs = ys)))] := by
  have hx : xs.length ≤ 1048576 := hx0
  by_cases hl : xs.length = ys.length
  case neg =>
    rw [decide_eq_false (fun e => hl (by rw [e]))]
    exact laws_eqStampS_p0 _ _ ⟨by simp only [List.length_map, bne_iff_ne, ne_eq]; omega, trivial⟩
  have step : ∀ i, i < xs.length → xs[i]? = ys[i]? → Tr Tryz.prog (loopOf Tryz.f20 0) (laws_eqStampS_L0 (xs.map Stamp.e) (ys.map Stamp.e) i) .normal (laws_eqStampS_L0 (xs.map Stamp.e) (ys.map Stamp.e) (i + 1 : Nat)) := by
    intro i hi h
    obtain ⟨a, ha⟩ := get_of hi
    have hb : ys[i]? = some a := h ▸ ha
    obtain ⟨b, he⟩ : ∃ b, b = a := ⟨a, rfl⟩
    rw [← he] at hb
    exact laws_eqStampS_L0_s1 _ _ _ _ _ _ _ _ ⟨lt1 hi, lt0, lt2 hi, at_map Stamp.e ha, lt0, lt2 (by omega), at_map Stamp.e hb, laws_eqStamp_ret' a b true (by simp [he]), rfl, up1 hi hx, trivial⟩
  have hz : ((↑(xs.map Stamp.e).length : Int) != (↑(ys.map Stamp.e).length : Int)) = false := by simp [hl]
  rcases first_diff xs ys hl with he | ⟨i, a, b, ha, hb, hab, hlt⟩
  · rw [decide_eq_true he]
    have l := loop_upto (exit_ne 0) xs.length (fun i => laws_eqStampS_L0 (xs.map Stamp.e) (ys.map Stamp.e) i) (fun i hi => step i hi (by rw [he])) (laws_eqStampS_L0_x2 _ _ _ ⟨ge1, trivial⟩)
    exact laws_eqStampS_p2 _ _ ⟨hz, l, trivial⟩
  · rw [decide_eq_false (fun e => by rw [e, hb] at ha; exact hab (Option.some.inj ha).symm)]
    have hi := lt_of ha
    have l := loop_upto ret_ne i (fun i => laws_eqStampS_L0 (xs.map Stamp.e) (ys.map Stamp.e) i) (fun j hj => step j (by omega) (hlt j hj)) (laws_eqStampS_L0_x0 _ _ _ _ _ _ _ _ ⟨lt1 hi, lt0, lt2 hi, at_map Stamp.e ha, lt0, lt2 (by omega), at_map Stamp.e hb, laws_eqStamp_ret' a b false (by simp [hab]), rfl, trivial⟩)
    exact laws_eqStampS_p1 _ _ false ⟨hz, l, trivial⟩

theorem laws_eqStampS_ret' (xs ys : List Stamp) (r : Bool) (h : decide (xs = ys) = r) (hx0 : xs.length ≤ 1048576) : Ret Tryz.prog 20 [.one (.sl 2 (xs.map Stamp.e)), .one (.sl 2 (ys.map Stamp.e))] [.one (B r)] := h ▸ laws_eqStampS_ret xs ys hx0

theorem laws_eqRecord_ret (x y : Record) : Ret Tryz.prog 37 [.agg x.e, .agg y.e] [.one (B (decide (x = y)))] := by
  obtain ⟨a0, a1, a2, a3⟩ := x
  obtain ⟨b0, b1, b2, b3⟩ := y
  by_cases h0 : a0 = b0
  case neg =>
    rw [decide_eq_false (by simp [h0])]
    exact laws_eqRecord_p0 _ _ _ _ _ _ _ _ _ _ ⟨by simp [h0], trivial⟩
  by_cases h1 : a1 = b1
  case neg =>
    rw [decide_eq_false (by simp [h1])]
    exact laws_eqRecord_p1 _ _ _ _ _ _ _ _ _ _ _ ⟨by simp [h0], laws_eqStamp_ret' a1 b1 false (by simp [h1]), rfl, trivial⟩
  by_cases h2 : a2 = b2
  case neg =>
    rw [decide_eq_false (by simp [h2])]
    exact laws_eqRecord_p2 _ _ _ _ _ _ _ _ _ _ _ ⟨by simp [h0], laws_eqStamp_ret' a1 b1 true (by simp [h1]), rfl, by simp [h2], trivial⟩
  by_cases h3 : a3 = b3
  case neg =>
    rw [decide_eq_false (by simp [h3])]
    exact laws_eqRecord_p3 _ _ _ _ _ _ _ _ _ _ _ ⟨by simp [h0], laws_eqStamp_ret' a1 b1 true (by simp [h1]), rfl, by simp [h2], by simp [h3], trivial⟩
  rw [decide_eq_true (by simp [h0, h1, h2, h3])]
  exact laws_eqRecord_p4 _ _ _ _ _ _ _ _ _ _ _ ⟨by simp [h0], laws_eqStamp_ret' a1 b1 true (by simp [h1]), rfl, by simp [h2], by simp [h3], trivial⟩

theorem laws_eqRecord_ret' (x y : Record) (r : Bool) (h : decide (x = y) = r) : Ret Tryz.prog 37 [.agg x.e, .agg y.e] [.one (B r)] := h ▸ laws_eqRecord_ret x y

theorem laws_eqRecordS_ret (xs ys : List Record) (hx0 : xs.length ≤ 1048576) : Ret Tryz.prog 11 [.one (.sl 5 (xs.map Record.e)), .one (.sl 5 (ys.map Record.e))] [.one (B (decide (xs = ys)))] := by
  have hx : xs.length ≤ 1048576 := hx0
  by_cases hl : xs.length = ys.length
  case neg =>
    rw [decide_eq_false (fun e => hl (by rw [e]))]
    exact laws_eqRecordS_p0 _ _ ⟨by simp only [List.length_map, bne_iff_ne, ne_eq]; omega, trivial⟩
  have step : ∀ i, i < xs.length → xs[i]? = ys[i]? → Tr Tryz.prog (loopOf Tryz.f11 0) (laws_eqRecordS_L0 (xs.map Record.e) (ys.map Record.e) i) .normal (laws_eqRecordS_L0 (xs.map Record.e) (ys.map Record.e) (i + 1 : Nat)) := by
    intro i hi h
    obtain ⟨a, ha⟩ := get_of hi
    have hb : ys[i]? = some a := h ▸ ha
    obtain ⟨b, he⟩ : ∃ b, b = a := ⟨a, rfl⟩
    rw [← he] at hb
    exact laws_eqRecordS_L0_s1 _ _ _ _ _ _ _ _ _ _ _ _ _ _ ⟨lt1 hi, lt0, lt2 hi, at_map Record.e ha, lt0, lt2 (by omega), at_map Record.e hb, laws_eqRecord_ret' a b true (by simp [he]), rfl, up1 hi hx, trivial⟩
  have hz : ((↑(xs.map Record.e).length : Int) != (↑(ys.map Record.e).length : Int)) = false := by simp [hl]
  rcases first_diff xs ys hl with he | ⟨i, a, b, ha, hb, hab, hlt⟩
  · rw [decide_eq_true he]
    have l := loop_upto (exit_ne 0) xs.length (fun i => laws_eqRecordS_L0 (xs.map Record.e) (ys.map Record.e) i) (fun i hi => step i hi (by rw [he])) (laws_eqRecordS_L0_x2 _ _ _ ⟨ge1, trivial⟩)
    exact laws_eqRecordS_p2 _ _ ⟨hz, l, trivial⟩
  · rw [decide_eq_false (fun e => by rw [e, hb] at ha; exact hab (Option.some.inj ha).symm)]
    have hi := lt_of ha
    have l := loop_upto ret_ne i (fun i => laws_eqRecordS_L0 (xs.map Record.e) (ys.map Record.e) i) (fun j hj => step j (by omega) (hlt j hj)) (laws_eqRecordS_L0_x0 _ _ _ _ _ _ _ _ _ _ _ _ _ _ ⟨lt1 hi, lt0, lt2 hi, at_map Record.e ha, lt0, lt2 (by omega), at_map Record.e hb, laws_eqRecord_ret' a b false (by simp [hab]), rfl, trivial⟩)
    exact laws_eqRecordS_p1 _ _ false ⟨hz, l, trivial⟩

theorem laws_eqRecordS_ret' (xs ys : List Record) (r : Bool) (h : decide (xs = ys) = r) (hx0 : xs.length ≤ 1048576) : Ret Tryz.prog 11 [.one (.sl 5 (xs.map Record.e)), .one (.sl 5 (ys.map Record.e))] [.one (B r)] := h ▸ laws_eqRecordS_ret xs ys hx0

theorem laws_eqCell_ret (x y : Cell) : Ret Tryz.prog 134 [.agg x.e, .agg y.e] [.one (B (decide (x = y)))] := by
  obtain ⟨a0, a1, a2, a3⟩ := x
  obtain ⟨b0, b1, b2, b3⟩ := y
  by_cases h0 : a0 = b0
  case neg =>
    rw [decide_eq_false (by simp [h0])]
    exact laws_eqCell_p0 _ _ _ _ _ _ _ _ ⟨by simp [h0], trivial⟩
  by_cases h1 : a1 = b1
  case neg =>
    rw [decide_eq_false (by simp [h1])]
    exact laws_eqCell_p1 _ _ _ _ _ _ _ _ ⟨by simp [h0], by simp [h1], trivial⟩
  by_cases h2 : a2 = b2
  case neg =>
    rw [decide_eq_false (by simp [h2])]
    exact laws_eqCell_p2 _ _ _ _ _ _ _ _ ⟨by simp [h0], by simp [h1], by simp [h2], trivial⟩
  by_cases h3 : a3 = b3
  case neg =>
    rw [decide_eq_false (by simp [h3])]
    exact laws_eqCell_p3 _ _ _ _ _ _ _ _ ⟨by simp [h0], by simp [h1], by simp [h2], by simp [h3], trivial⟩
  rw [decide_eq_true (by simp [h0, h1, h2, h3])]
  exact laws_eqCell_p4 _ _ _ _ _ _ _ _ ⟨by simp [h0], by simp [h1], by simp [h2], by simp [h3], trivial⟩

theorem laws_eqCell_ret' (x y : Cell) (r : Bool) (h : decide (x = y) = r) : Ret Tryz.prog 134 [.agg x.e, .agg y.e] [.one (B r)] := h ▸ laws_eqCell_ret x y

theorem laws_eqCellS_ret (xs ys : List Cell) (hx0 : xs.length ≤ 1048576) : Ret Tryz.prog 111 [.one (.sl 4 (xs.map Cell.e)), .one (.sl 4 (ys.map Cell.e))] [.one (B (decide (xs = ys)))] := by
  have hx : xs.length ≤ 1048576 := hx0
  by_cases hl : xs.length = ys.length
  case neg =>
    rw [decide_eq_false (fun e => hl (by rw [e]))]
    exact laws_eqCellS_p0 _ _ ⟨by simp only [List.length_map, bne_iff_ne, ne_eq]; omega, trivial⟩
  have step : ∀ i, i < xs.length → xs[i]? = ys[i]? → Tr Tryz.prog (loopOf Tryz.f111 0) (laws_eqCellS_L0 (xs.map Cell.e) (ys.map Cell.e) i) .normal (laws_eqCellS_L0 (xs.map Cell.e) (ys.map Cell.e) (i + 1 : Nat)) := by
    intro i hi h
    obtain ⟨a, ha⟩ := get_of hi
    have hb : ys[i]? = some a := h ▸ ha
    obtain ⟨b, he⟩ : ∃ b, b = a := ⟨a, rfl⟩
    rw [← he] at hb
    exact laws_eqCellS_L0_s1 _ _ _ _ _ _ _ _ _ _ _ _ ⟨lt1 hi, lt0, lt2 hi, at_map Cell.e ha, lt0, lt2 (by omega), at_map Cell.e hb, laws_eqCell_ret' a b true (by simp [he]), rfl, up1 hi hx, trivial⟩
  have hz : ((↑(xs.map Cell.e).length : Int) != (↑(ys.map Cell.e).length : Int)) = false := by simp [hl]
  rcases first_diff xs ys hl with he | ⟨i, a, b, ha, hb, hab, hlt⟩
  · rw [decide_eq_true he]
    have l := loop_upto (exit_ne 0) xs.length (fun i => laws_eqCellS_L0 (xs.map Cell.e) (ys.map Cell.e) i) (fun i hi => step i hi (by rw [he])) (laws_eqCellS_L0_x2 _ _ _ ⟨ge1, trivial⟩)
    exact laws_eqCellS_p2 _ _ ⟨hz, l, trivial⟩
  · rw [decide_eq_false (fun e => by rw [e, hb] at ha; exact hab (Option.some.inj ha).symm)]
    have hi := lt_of ha
    have l := loop_upto ret_ne i (fun i => laws_eqCellS_L0 (xs.map Cell.e) (ys.map Cell.e) i) (fun j hj => step j (by omega) (hlt j hj)) (laws_eqCellS_L0_x0 _ _ _ _ _ _ _ _ _ _ _ _ ⟨lt1 hi, lt0, lt2 hi, at_map Cell.e ha, lt0, lt2 (by omega), at_map Cell.e hb, laws_eqCell_ret' a b false (by simp [hab]), rfl, trivial⟩)
    exact laws_eqCellS_p1 _ _ false ⟨hz, l, trivial⟩

theorem laws_eqCellS_ret' (xs ys : List Cell) (r : Bool) (h : decide (xs = ys) = r) (hx0 : xs.length ≤ 1048576) : Ret Tryz.prog 111 [.one (.sl 4 (xs.map Cell.e)), .one (.sl 4 (ys.map Cell.e))] [.one (B r)] := h ▸ laws_eqCellS_ret xs ys hx0

theorem laws_eqDone_ret (x y : Done) : Ret Tryz.prog 135 [.agg x.e, .agg y.e] [.one (B (decide (x = y)))] := by
  obtain ⟨a0, a1⟩ := x
  obtain ⟨b0, b1⟩ := y
  by_cases h0 : a0 = b0
  case neg =>
    rw [decide_eq_false (by simp [h0])]
    exact laws_eqDone_p0 _ _ _ _ ⟨by simp [h0], trivial⟩
  by_cases h1 : a1 = b1
  case neg =>
    rw [decide_eq_false (by simp [h1])]
    exact laws_eqDone_p1 _ _ _ _ ⟨by simp [h0], by revert h1; cases a1 <;> cases b1 <;> simp, trivial⟩
  rw [decide_eq_true (by simp [h0, h1])]
  exact laws_eqDone_p2 _ _ _ _ ⟨by simp [h0], by revert h1; cases a1 <;> cases b1 <;> simp, trivial⟩

theorem laws_eqDone_ret' (x y : Done) (r : Bool) (h : decide (x = y) = r) : Ret Tryz.prog 135 [.agg x.e, .agg y.e] [.one (B r)] := h ▸ laws_eqDone_ret x y

theorem laws_eqDoneS_ret (xs ys : List Done) (hx0 : xs.length ≤ 1048576) : Ret Tryz.prog 114 [.one (.sl 2 (xs.map Done.e)), .one (.sl 2 (ys.map Done.e))] [.one (B (decide (xs = ys)))] := by
  have hx : xs.length ≤ 1048576 := hx0
  by_cases hl : xs.length = ys.length
  case neg =>
    rw [decide_eq_false (fun e => hl (by rw [e]))]
    exact laws_eqDoneS_p0 _ _ ⟨by simp only [List.length_map, bne_iff_ne, ne_eq]; omega, trivial⟩
  have step : ∀ i, i < xs.length → xs[i]? = ys[i]? → Tr Tryz.prog (loopOf Tryz.f114 0) (laws_eqDoneS_L0 (xs.map Done.e) (ys.map Done.e) i) .normal (laws_eqDoneS_L0 (xs.map Done.e) (ys.map Done.e) (i + 1 : Nat)) := by
    intro i hi h
    obtain ⟨a, ha⟩ := get_of hi
    have hb : ys[i]? = some a := h ▸ ha
    obtain ⟨b, he⟩ : ∃ b, b = a := ⟨a, rfl⟩
    rw [← he] at hb
    exact laws_eqDoneS_L0_s1 _ _ _ _ _ _ _ _ ⟨lt1 hi, lt0, lt2 hi, at_map Done.e ha, lt0, lt2 (by omega), at_map Done.e hb, laws_eqDone_ret' a b true (by simp [he]), rfl, up1 hi hx, trivial⟩
  have hz : ((↑(xs.map Done.e).length : Int) != (↑(ys.map Done.e).length : Int)) = false := by simp [hl]
  rcases first_diff xs ys hl with he | ⟨i, a, b, ha, hb, hab, hlt⟩
  · rw [decide_eq_true he]
    have l := loop_upto (exit_ne 0) xs.length (fun i => laws_eqDoneS_L0 (xs.map Done.e) (ys.map Done.e) i) (fun i hi => step i hi (by rw [he])) (laws_eqDoneS_L0_x2 _ _ _ ⟨ge1, trivial⟩)
    exact laws_eqDoneS_p2 _ _ ⟨hz, l, trivial⟩
  · rw [decide_eq_false (fun e => by rw [e, hb] at ha; exact hab (Option.some.inj ha).symm)]
    have hi := lt_of ha
    have l := loop_upto ret_ne i (fun i => laws_eqDoneS_L0 (xs.map Done.e) (ys.map Done.e) i) (fun j hj => step j (by omega) (hlt j hj)) (laws_eqDoneS_L0_x0 _ _ _ _ _ _ _ _ ⟨lt1 hi, lt0, lt2 hi, at_map Done.e ha, lt0, lt2 (by omega), at_map Done.e hb, laws_eqDone_ret' a b false (by simp [hab]), rfl, trivial⟩)
    exact laws_eqDoneS_p1 _ _ false ⟨hz, l, trivial⟩

theorem laws_eqDoneS_ret' (xs ys : List Done) (r : Bool) (h : decide (xs = ys) = r) (hx0 : xs.length ≤ 1048576) : Ret Tryz.prog 114 [.one (.sl 2 (xs.map Done.e)), .one (.sl 2 (ys.map Done.e))] [.one (B r)] := h ▸ laws_eqDoneS_ret xs ys hx0

theorem laws_eqToken_ret (x y : Token) : Ret Tryz.prog 76 [.agg x.e, .agg y.e] [.one (B (decide (x = y)))] := by
  obtain ⟨a0, a1, a2, a3, a4⟩ := x
  obtain ⟨b0, b1, b2, b3, b4⟩ := y
  by_cases h0 : a0 = b0
  case neg =>
    rw [decide_eq_false (by simp [h0])]
    exact laws_eqToken_p0 _ _ _ _ _ _ _ _ _ _ ⟨by revert h0; cases a0 <;> cases b0 <;> simp, trivial⟩
  by_cases h1 : a1 = b1
  case neg =>
    rw [decide_eq_false (by simp [h1])]
    exact laws_eqToken_p1 _ _ _ _ _ _ _ _ _ _ ⟨by revert h0; cases a0 <;> cases b0 <;> simp, by simp [h1], trivial⟩
  by_cases h2 : a2 = b2
  case neg =>
    rw [decide_eq_false (by simp [h2])]
    exact laws_eqToken_p2 _ _ _ _ _ _ _ _ _ _ ⟨by revert h0; cases a0 <;> cases b0 <;> simp, by simp [h1], by simp [h2], trivial⟩
  by_cases h3 : a3 = b3
  case neg =>
    rw [decide_eq_false (by simp [h3])]
    exact laws_eqToken_p3 _ _ _ _ _ _ _ _ _ _ ⟨by revert h0; cases a0 <;> cases b0 <;> simp, by simp [h1], by simp [h2], by revert h3; cases a3 <;> cases b3 <;> simp, trivial⟩
  by_cases h4 : a4 = b4
  case neg =>
    rw [decide_eq_false (by simp [h4])]
    exact laws_eqToken_p4 _ _ _ _ _ _ _ _ _ _ ⟨by revert h0; cases a0 <;> cases b0 <;> simp, by simp [h1], by simp [h2], by revert h3; cases a3 <;> cases b3 <;> simp, by revert h4; cases a4 <;> cases b4 <;> simp, trivial⟩
  rw [decide_eq_true (by simp [h0, h1, h2, h3, h4])]
  exact laws_eqToken_p5 _ _ _ _ _ _ _ _ _ _ ⟨by revert h0; cases a0 <;> cases b0 <;> simp, by simp [h1], by simp [h2], by revert h3; cases a3 <;> cases b3 <;> simp, by revert h4; cases a4 <;> cases b4 <;> simp, trivial⟩

theorem laws_eqToken_ret' (x y : Token) (r : Bool) (h : decide (x = y) = r) : Ret Tryz.prog 76 [.agg x.e, .agg y.e] [.one (B r)] := h ▸ laws_eqToken_ret x y

theorem laws_eqTokenS_ret (xs ys : List Token) (hx0 : xs.length ≤ 1048576) : Ret Tryz.prog 41 [.one (.sl 5 (xs.map Token.e)), .one (.sl 5 (ys.map Token.e))] [.one (B (decide (xs = ys)))] := by
  have hx : xs.length ≤ 1048576 := hx0
  by_cases hl : xs.length = ys.length
  case neg =>
    rw [decide_eq_false (fun e => hl (by rw [e]))]
    exact laws_eqTokenS_p0 _ _ ⟨by simp only [List.length_map, bne_iff_ne, ne_eq]; omega, trivial⟩
  have step : ∀ i, i < xs.length → xs[i]? = ys[i]? → Tr Tryz.prog (loopOf Tryz.f41 0) (laws_eqTokenS_L0 (xs.map Token.e) (ys.map Token.e) i) .normal (laws_eqTokenS_L0 (xs.map Token.e) (ys.map Token.e) (i + 1 : Nat)) := by
    intro i hi h
    obtain ⟨a, ha⟩ := get_of hi
    have hb : ys[i]? = some a := h ▸ ha
    obtain ⟨b, he⟩ : ∃ b, b = a := ⟨a, rfl⟩
    rw [← he] at hb
    exact laws_eqTokenS_L0_s1 _ _ _ _ _ _ _ _ _ _ _ _ _ _ ⟨lt1 hi, lt0, lt2 hi, at_map Token.e ha, lt0, lt2 (by omega), at_map Token.e hb, laws_eqToken_ret' a b true (by simp [he]), rfl, up1 hi hx, trivial⟩
  have hz : ((↑(xs.map Token.e).length : Int) != (↑(ys.map Token.e).length : Int)) = false := by simp [hl]
  rcases first_diff xs ys hl with he | ⟨i, a, b, ha, hb, hab, hlt⟩
  · rw [decide_eq_true he]
    have l := loop_upto (exit_ne 0) xs.length (fun i => laws_eqTokenS_L0 (xs.map Token.e) (ys.map Token.e) i) (fun i hi => step i hi (by rw [he])) (laws_eqTokenS_L0_x2 _ _ _ ⟨ge1, trivial⟩)
    exact laws_eqTokenS_p2 _ _ ⟨hz, l, trivial⟩
  · rw [decide_eq_false (fun e => by rw [e, hb] at ha; exact hab (Option.some.inj ha).symm)]
    have hi := lt_of ha
    have l := loop_upto ret_ne i (fun i => laws_eqTokenS_L0 (xs.map Token.e) (ys.map Token.e) i) (fun j hj => step j (by omega) (hlt j hj)) (laws_eqTokenS_L0_x0 _ _ _ _ _ _ _ _ _ _ _ _ _ _ ⟨lt1 hi, lt0, lt2 hi, at_map Token.e ha, lt0, lt2 (by omega), at_map Token.e hb, laws_eqToken_ret' a b false (by simp [hab]), rfl, trivial⟩)
    exact laws_eqTokenS_p1 _ _ false ⟨hz, l, trivial⟩

theorem laws_eqTokenS_ret' (xs ys : List Token) (r : Bool) (h : decide (xs = ys) = r) (hx0 : xs.length ≤ 1048576) : Ret Tryz.prog 41 [.one (.sl 5 (xs.map Token.e)), .one (.sl 5 (ys.map Token.e))] [.one (B r)] := h ▸ laws_eqTokenS_ret xs ys hx0

theorem laws_eqNews_ret (x y : News) : Ret Tryz.prog 77 [.agg x.e, .agg y.e] [.one (B (decide (x = y)))] := by
  obtain ⟨a0, a1, a2⟩ := x
  obtain ⟨b0, b1, b2⟩ := y
  by_cases h0 : a0 = b0
  case neg =>
    rw [decide_eq_false (by simp [h0])]
    exact laws_eqNews_p0 _ _ _ _ _ _ ⟨by simp [h0], trivial⟩
  by_cases h1 : a1 = b1
  case neg =>
    rw [decide_eq_false (by simp [h1])]
    exact laws_eqNews_p1 _ _ _ _ _ _ ⟨by simp [h0], by simp [h1], trivial⟩
  by_cases h2 : a2 = b2
  case neg =>
    rw [decide_eq_false (by simp [h2])]
    exact laws_eqNews_p2 _ _ _ _ _ _ ⟨by simp [h0], by simp [h1], by revert h2; cases a2 <;> cases b2 <;> simp, trivial⟩
  rw [decide_eq_true (by simp [h0, h1, h2])]
  exact laws_eqNews_p3 _ _ _ _ _ _ ⟨by simp [h0], by simp [h1], by revert h2; cases a2 <;> cases b2 <;> simp, trivial⟩

theorem laws_eqNews_ret' (x y : News) (r : Bool) (h : decide (x = y) = r) : Ret Tryz.prog 77 [.agg x.e, .agg y.e] [.one (B r)] := h ▸ laws_eqNews_ret x y

theorem laws_eqNewsS_ret (xs ys : List News) (hx0 : xs.length ≤ 1048576) : Ret Tryz.prog 42 [.one (.sl 3 (xs.map News.e)), .one (.sl 3 (ys.map News.e))] [.one (B (decide (xs = ys)))] := by
  have hx : xs.length ≤ 1048576 := hx0
  by_cases hl : xs.length = ys.length
  case neg =>
    rw [decide_eq_false (fun e => hl (by rw [e]))]
    exact laws_eqNewsS_p0 _ _ ⟨by simp only [List.length_map, bne_iff_ne, ne_eq]; omega, trivial⟩
  have step : ∀ i, i < xs.length → xs[i]? = ys[i]? → Tr Tryz.prog (loopOf Tryz.f42 0) (laws_eqNewsS_L0 (xs.map News.e) (ys.map News.e) i) .normal (laws_eqNewsS_L0 (xs.map News.e) (ys.map News.e) (i + 1 : Nat)) := by
    intro i hi h
    obtain ⟨a, ha⟩ := get_of hi
    have hb : ys[i]? = some a := h ▸ ha
    obtain ⟨b, he⟩ : ∃ b, b = a := ⟨a, rfl⟩
    rw [← he] at hb
    exact laws_eqNewsS_L0_s1 _ _ _ _ _ _ _ _ _ _ ⟨lt1 hi, lt0, lt2 hi, at_map News.e ha, lt0, lt2 (by omega), at_map News.e hb, laws_eqNews_ret' a b true (by simp [he]), rfl, up1 hi hx, trivial⟩
  have hz : ((↑(xs.map News.e).length : Int) != (↑(ys.map News.e).length : Int)) = false := by simp [hl]
  rcases first_diff xs ys hl with he | ⟨i, a, b, ha, hb, hab, hlt⟩
  · rw [decide_eq_true he]
    have l := loop_upto (exit_ne 0) xs.length (fun i => laws_eqNewsS_L0 (xs.map News.e) (ys.map News.e) i) (fun i hi => step i hi (by rw [he])) (laws_eqNewsS_L0_x2 _ _ _ ⟨ge1, trivial⟩)
    exact laws_eqNewsS_p2 _ _ ⟨hz, l, trivial⟩
  · rw [decide_eq_false (fun e => by rw [e, hb] at ha; exact hab (Option.some.inj ha).symm)]
    have hi := lt_of ha
    have l := loop_upto ret_ne i (fun i => laws_eqNewsS_L0 (xs.map News.e) (ys.map News.e) i) (fun j hj => step j (by omega) (hlt j hj)) (laws_eqNewsS_L0_x0 _ _ _ _ _ _ _ _ _ _ ⟨lt1 hi, lt0, lt2 hi, at_map News.e ha, lt0, lt2 (by omega), at_map News.e hb, laws_eqNews_ret' a b false (by simp [hab]), rfl, trivial⟩)
    exact laws_eqNewsS_p1 _ _ false ⟨hz, l, trivial⟩

theorem laws_eqNewsS_ret' (xs ys : List News) (r : Bool) (h : decide (xs = ys) = r) (hx0 : xs.length ≤ 1048576) : Ret Tryz.prog 42 [.one (.sl 3 (xs.map News.e)), .one (.sl 3 (ys.map News.e))] [.one (B r)] := h ▸ laws_eqNewsS_ret xs ys hx0

theorem laws_eqNode_ret (x y : Node) (hx : x.sz ≤ 1048576) : Ret Tryz.prog 110 [.agg x.e, .agg y.e] [.one (B (decide (x = y)))] := by
  obtain ⟨a0, a1, a2, a3⟩ := x
  obtain ⟨b0, b1, b2, b3⟩ := y
  simp only [Node.sz] at hx
  by_cases h0 : a0 = b0
  case neg =>
    rw [decide_eq_false (by simp [h0])]
    exact laws_eqNode_p0 _ _ _ _ _ _ _ _ ⟨by simp [h0], trivial⟩
  by_cases h1 : a1 = b1
  case neg =>
    rw [decide_eq_false (by simp [h1])]
    exact laws_eqNode_p1 _ _ _ _ _ _ _ _ ⟨by simp [h0], by simp [h1], trivial⟩
  by_cases h2 : a2 = b2
  case neg =>
    rw [decide_eq_false (by simp [h2])]
    exact laws_eqNode_p2 _ _ _ _ _ _ _ _ ⟨by simp [h0], by simp [h1], by simp [h2], trivial⟩
  by_cases h3 : a3 = b3
  case neg =>
    rw [decide_eq_false (by simp [h3])]
    exact laws_eqNode_p3 _ _ _ _ _ _ _ _ _ ⟨by simp [h0], by simp [h1], by simp [h2], laws_eqIntS_ret' a3 b3 false (by simp [h3]) (by omega), rfl, trivial⟩
  rw [decide_eq_true (by simp [h0, h1, h2, h3])]
  exact laws_eqNode_p4 _ _ _ _ _ _ _ _ _ ⟨by simp [h0], by simp [h1], by simp [h2], laws_eqIntS_ret' a3 b3 true (by simp [h3]) (by omega), rfl, trivial⟩

theorem laws_eqNode_ret' (x y : Node) (r : Bool) (h : decide (x = y) = r) (hx : x.sz ≤ 1048576) : Ret Tryz.prog 110 [.agg x.e, .agg y.e] [.one (B r)] := h ▸ laws_eqNode_ret x y hx

theorem laws_eqNodeS_ret (xs ys : List Node) (hx0 : szS Node.sz xs ≤ 1048576) : Ret Tryz.prog 73 [.one (.sl 4 (xs.map Node.e)), .one (.sl 4 (ys.map Node.e))] [.one (B (decide (xs = ys)))] := by
  have hx : xs.length ≤ 1048576 := szS_len hx0
  by_cases hl : xs.length = ys.length
  case neg =>
    rw [decide_eq_false (fun e => hl (by rw [e]))]
    exact laws_eqNodeS_p0 _ _ ⟨by simp only [List.length_map, bne_iff_ne, ne_eq]; omega, trivial⟩
  have step : ∀ i, i < xs.length → xs[i]? = ys[i]? → Tr Tryz.prog (loopOf Tryz.f73 0) (laws_eqNodeS_L0 (xs.map Node.e) (ys.map Node.e) i) .normal (laws_eqNodeS_L0 (xs.map Node.e) (ys.map Node.e) (i + 1 : Nat)) := by
    intro i hi h
    obtain ⟨a, ha⟩ := get_of hi
    have hb : ys[i]? = some a := h ▸ ha
    obtain ⟨b, he⟩ : ∃ b, b = a := ⟨a, rfl⟩
    rw [← he] at hb
    exact laws_eqNodeS_L0_s1 _ _ _ _ _ _ _ _ _ _ _ _ ⟨lt1 hi, lt0, lt2 hi, at_map Node.e ha, lt0, lt2 (by omega), at_map Node.e hb, laws_eqNode_ret' a b true (by simp [he]) (szS_mem hx0 (mem_of ha)), rfl, up1 hi hx, trivial⟩
  have hz : ((↑(xs.map Node.e).length : Int) != (↑(ys.map Node.e).length : Int)) = false := by simp [hl]
  rcases first_diff xs ys hl with he | ⟨i, a, b, ha, hb, hab, hlt⟩
  · rw [decide_eq_true he]
    have l := loop_upto (exit_ne 0) xs.length (fun i => laws_eqNodeS_L0 (xs.map Node.e) (ys.map Node.e) i) (fun i hi => step i hi (by rw [he])) (laws_eqNodeS_L0_x2 _ _ _ ⟨ge1, trivial⟩)
    exact laws_eqNodeS_p2 _ _ ⟨hz, l, trivial⟩
  · rw [decide_eq_false (fun e => by rw [e, hb] at ha; exact hab (Option.some.inj ha).symm)]
    have hi := lt_of ha
    have l := loop_upto ret_ne i (fun i => laws_eqNodeS_L0 (xs.map Node.e) (ys.map Node.e) i) (fun j hj => step j (by omega) (hlt j hj)) (laws_eqNodeS_L0_x0 _ _ _ _ _ _ _ _ _ _ _ _ ⟨lt1 hi, lt0, lt2 hi, at_map Node.e ha, lt0, lt2 (by omega), at_map Node.e hb, laws_eqNode_ret' a b false (by simp [hab]) (szS_mem hx0 (mem_of ha)), rfl, trivial⟩)
    exact laws_eqNodeS_p1 _ _ false ⟨hz, l, trivial⟩

theorem laws_eqNodeS_ret' (xs ys : List Node) (r : Bool) (h : decide (xs = ys) = r) (hx0 : szS Node.sz xs ≤ 1048576) : Ret Tryz.prog 73 [.one (.sl 4 (xs.map Node.e)), .one (.sl 4 (ys.map Node.e))] [.one (B r)] := h ▸ laws_eqNodeS_ret xs ys hx0

theorem laws_eqLink_ret (x y : Link) (hx : x.sz ≤ 1048576) : Ret Tryz.prog 75 [.agg x.e, .agg y.e] [.one (B (decide (x = y)))] := by
  obtain ⟨a0, a1, a2, a3, a4, a5⟩ := x
  obtain ⟨b0, b1, b2, b3, b4, b5⟩ := y
  simp only [Link.sz] at hx
  by_cases h0 : a0 = b0
  case neg =>
    rw [decide_eq_false (by simp [h0])]
    exact laws_eqLink_p0 _ _ _ _ _ _ _ _ _ _ _ _ ⟨by simp [h0], trivial⟩
  by_cases h1 : a1 = b1
  case neg =>
    rw [decide_eq_false (by simp [h1])]
    exact laws_eqLink_p1 _ _ _ _ _ _ _ _ _ _ _ _ _ ⟨by simp [h0], laws_eqRecordS_ret' a1 b1 false (by simp [h1]) (by omega), rfl, trivial⟩
  by_cases h2 : a2 = b2
  case neg =>
    rw [decide_eq_false (by simp [h2])]
    exact laws_eqLink_p2 _ _ _ _ _ _ _ _ _ _ _ _ _ ⟨by simp [h0], laws_eqRecordS_ret' a1 b1 true (by simp [h1]) (by omega), rfl, by simp [h2], trivial⟩
  by_cases h3 : a3 = b3
  case neg =>
    rw [decide_eq_false (by simp [h3])]
    exact laws_eqLink_p3 _ _ _ _ _ _ _ _ _ _ _ _ _ ⟨by simp [h0], laws_eqRecordS_ret' a1 b1 true (by simp [h1]) (by omega), rfl, by simp [h2], by simp [h3], trivial⟩
  by_cases h4 : a4 = b4
  case neg =>
    rw [decide_eq_false (by simp [h4])]
    exact laws_eqLink_p4 _ _ _ _ _ _ _ _ _ _ _ _ _ ⟨by simp [h0], laws_eqRecordS_ret' a1 b1 true (by simp [h1]) (by omega), rfl, by simp [h2], by simp [h3], by simp [h4], trivial⟩
  by_cases h5 : a5 = b5
  case neg =>
    rw [decide_eq_false (by simp [h5])]
    exact laws_eqLink_p5 _ _ _ _ _ _ _ _ _ _ _ _ _ ⟨by simp [h0], laws_eqRecordS_ret' a1 b1 true (by simp [h1]) (by omega), rfl, by simp [h2], by simp [h3], by simp [h4], by simp [h5], trivial⟩
  rw [decide_eq_true (by simp [h0, h1, h2, h3, h4, h5])]
  exact laws_eqLink_p6 _ _ _ _ _ _ _ _ _ _ _ _ _ ⟨by simp [h0], laws_eqRecordS_ret' a1 b1 true (by simp [h1]) (by omega), rfl, by simp [h2], by simp [h3], by simp [h4], by simp [h5], trivial⟩

theorem laws_eqLink_ret' (x y : Link) (r : Bool) (h : decide (x = y) = r) (hx : x.sz ≤ 1048576) : Ret Tryz.prog 75 [.agg x.e, .agg y.e] [.one (B r)] := h ▸ laws_eqLink_ret x y hx

theorem laws_eqLinkS_ret (xs ys : List Link) (hx0 : szS Link.sz xs ≤ 1048576) : Ret Tryz.prog 40 [.one (.sl 6 (xs.map Link.e)), .one (.sl 6 (ys.map Link.e))] [.one (B (decide (xs = ys)))] := by
  have hx : xs.length ≤ 1048576 := szS_len hx0
  by_cases hl : xs.length = ys.length
  case neg =>
    rw [decide_eq_false (fun e => hl (by rw [e]))]
    exact laws_eqLinkS_p0 _ _ ⟨by simp only [List.length_map, bne_iff_ne, ne_eq]; omega, trivial⟩
  have step : ∀ i, i < xs.length → xs[i]? = ys[i]? → Tr Tryz.prog (loopOf Tryz.f40 0) (laws_eqLinkS_L0 (xs.map Link.e) (ys.map Link.e) i) .normal (laws_eqLinkS_L0 (xs.map Link.e) (ys.map Link.e) (i + 1 : Nat)) := by
    intro i hi h
    obtain ⟨a, ha⟩ := get_of hi
    have hb : ys[i]? = some a := h ▸ ha
    obtain ⟨b, he⟩ : ∃ b, b = a := ⟨a, rfl⟩
    rw [← he] at hb
    exact laws_eqLinkS_L0_s1 _ _ _ _ _ _ _ _ _ _ _ _ _ _ _ _ ⟨lt1 hi, lt0, lt2 hi, at_map Link.e ha, lt0, lt2 (by omega), at_map Link.e hb, laws_eqLink_ret' a b true (by simp [he]) (szS_mem hx0 (mem_of ha)), rfl, up1 hi hx, trivial⟩
  have hz : ((↑(xs.map Link.e).length : Int) != (↑(ys.map Link.e).length : Int)) = false := by simp [hl]
  rcases first_diff xs ys hl with he | ⟨i, a, b, ha, hb, hab, hlt⟩
  · rw [decide_eq_true he]
    have l := loop_upto (exit_ne 0) xs.length (fun i => laws_eqLinkS_L0 (xs.map Link.e) (ys.map Link.e) i) (fun i hi => step i hi (by rw [he])) (laws_eqLinkS_L0_x2 _ _ _ ⟨ge1, trivial⟩)
    exact laws_eqLinkS_p2 _ _ ⟨hz, l, trivial⟩
  · rw [decide_eq_false (fun e => by rw [e, hb] at ha; exact hab (Option.some.inj ha).symm)]
    have hi := lt_of ha
    have l := loop_upto ret_ne i (fun i => laws_eqLinkS_L0 (xs.map Link.e) (ys.map Link.e) i) (fun j hj => step j (by omega) (hlt j hj)) (laws_eqLinkS_L0_x0 _ _ _ _ _ _ _ _ _ _ _ _ _ _ _ _ ⟨lt1 hi, lt0, lt2 hi, at_map Link.e ha, lt0, lt2 (by omega), at_map Link.e hb, laws_eqLink_ret' a b false (by simp [hab]) (szS_mem hx0 (mem_of ha)), rfl, trivial⟩)
    exact laws_eqLinkS_p1 _ _ false ⟨hz, l, trivial⟩

theorem laws_eqLinkS_ret' (xs ys : List Link) (r : Bool) (h : decide (xs = ys) = r) (hx0 : szS Link.sz xs ≤ 1048576) : Ret Tryz.prog 40 [.one (.sl 6 (xs.map Link.e)), .one (.sl 6 (ys.map Link.e))] [.one (B r)] := h ▸ laws_eqLinkS_ret xs ys hx0

theorem laws_eqGraph_ret (x y : Graph) (hx : x.sz ≤ 1048576) : Ret Tryz.prog 38 [.agg x.e, .agg y.e] [.one (B (decide (x = y)))] := by
  obtain ⟨a0, a1, a2⟩ := x
  obtain ⟨b0, b1, b2⟩ := y
  simp only [Graph.sz] at hx
  by_cases h0 : a0 = b0
  case neg =>
    rw [decide_eq_false (by simp [h0])]
    exact laws_eqGraph_p0 _ _ _ _ _ _ _ ⟨laws_eqNodeS_ret' a0 b0 false (by simp [h0]) (by omega), rfl, trivial⟩
  by_cases h1 : a1 = b1
  case neg =>
    rw [decide_eq_false (by simp [h1])]
    exact laws_eqGraph_p1 _ _ _ _ _ _ _ ⟨laws_eqNodeS_ret' a0 b0 true (by simp [h0]) (by omega), rfl, by simp [h1], trivial⟩
  by_cases h2 : a2 = b2
  case neg =>
    rw [decide_eq_false (by simp [h2])]
    exact laws_eqGraph_p2 _ _ _ _ _ _ _ ⟨laws_eqNodeS_ret' a0 b0 true (by simp [h0]) (by omega), rfl, by simp [h1], by simp [h2], trivial⟩
  rw [decide_eq_true (by simp [h0, h1, h2])]
  exact laws_eqGraph_p3 _ _ _ _ _ _ _ ⟨laws_eqNodeS_ret' a0 b0 true (by simp [h0]) (by omega), rfl, by simp [h1], by simp [h2], trivial⟩

theorem laws_eqGraph_ret' (x y : Graph) (r : Bool) (h : decide (x = y) = r) (hx : x.sz ≤ 1048576) : Ret Tryz.prog 38 [.agg x.e, .agg y.e] [.one (B r)] := h ▸ laws_eqGraph_ret x y hx

theorem laws_eqWorker_ret (x y : Worker) (hx : x.sz ≤ 1048576) : Ret Tryz.prog 74 [.agg x.e, .agg y.e] [.one (B (decide (x = y)))] := by
  obtain ⟨a0, a1, a2, a3, a4, a5, a6, a7⟩ := x
  obtain ⟨b0, b1, b2, b3, b4, b5, b6, b7⟩ := y
  simp only [Worker.sz] at hx
  by_cases h0 : a0 = b0
  case neg =>
    rw [decide_eq_false (by simp [h0])]
    exact laws_eqWorker_p0 _ _ _ _ _ _ _ _ _ _ _ _ _ _ _ _ _ ⟨laws_eqRecordS_ret' a0 b0 false (by simp [h0]) (by omega), rfl, trivial⟩
  by_cases h1 : a1 = b1
  case neg =>
    rw [decide_eq_false (by simp [h1])]
    exact laws_eqWorker_p1 _ _ _ _ _ _ _ _ _ _ _ _ _ _ _ _ _ _ ⟨laws_eqRecordS_ret' a0 b0 true (by simp [h0]) (by omega), rfl, laws_eqRecordS_ret' a1 b1 false (by simp [h1]) (by omega), rfl, trivial⟩
  by_cases h2 : a2 = b2
  case neg =>
    rw [decide_eq_false (by simp [h2])]
    exact laws_eqWorker_p2 _ _ _ _ _ _ _ _ _ _ _ _ _ _ _ _ _ _ _ ⟨laws_eqRecordS_ret' a0 b0 true (by simp [h0]) (by omega), rfl, laws_eqRecordS_ret' a1 b1 true (by simp [h1]) (by omega), rfl, laws_eqRecordS_ret' a2 b2 false (by simp [h2]) (by omega), rfl, trivial⟩
  by_cases h3 : a3 = b3
  case neg =>
    rw [decide_eq_false (by simp [h3])]
    exact laws_eqWorker_p3 _ _ _ _ _ _ _ _ _ _ _ _ _ _ _ _ _ _ _ _ ⟨laws_eqRecordS_ret' a0 b0 true (by simp [h0]) (by omega), rfl, laws_eqRecordS_ret' a1 b1 true (by simp [h1]) (by omega), rfl, laws_eqRecordS_ret' a2 b2 true (by simp [h2]) (by omega), rfl, laws_eqCellS_ret' a3 b3 false (by simp [h3]) (by omega), rfl, trivial⟩
  by_cases h4 : a4 = b4
  case neg =>
    rw [decide_eq_false (by simp [h4])]
    exact laws_eqWorker_p4 _ _ _ _ _ _ _ _ _ _ _ _ _ _ _ _ _ _ _ _ _ ⟨laws_eqRecordS_ret' a0 b0 true (by simp [h0]) (by omega), rfl, laws_eqRecordS_ret' a1 b1 true (by simp [h1]) (by omega), rfl, laws_eqRecordS_ret' a2 b2 true (by simp [h2]) (by omega), rfl, laws_eqCellS_ret' a3 b3 true (by simp [h3]) (by omega), rfl, laws_eqIntS_ret' a4 b4 false (by simp [h4]) (by omega), rfl, trivial⟩
  by_cases h5 : a5 = b5
  case neg =>
    rw [decide_eq_false (by simp [h5])]
    exact laws_eqWorker_p5 _ _ _ _ _ _ _ _ _ _ _ _ _ _ _ _ _ _ _ _ _ _ ⟨laws_eqRecordS_ret' a0 b0 true (by simp [h0]) (by omega), rfl, laws_eqRecordS_ret' a1 b1 true (by simp [h1]) (by omega), rfl, laws_eqRecordS_ret' a2 b2 true (by simp [h2]) (by omega), rfl, laws_eqCellS_ret' a3 b3 true (by simp [h3]) (by omega), rfl, laws_eqIntS_ret' a4 b4 true (by simp [h4]) (by omega), rfl, laws_eqBoolS_ret' a5 b5 false (by simp [h5]) (by omega), rfl, trivial⟩
  by_cases h6 : a6 = b6
  case neg =>
    rw [decide_eq_false (by simp [h6])]
    exact laws_eqWorker_p6 _ _ _ _ _ _ _ _ _ _ _ _ _ _ _ _ _ _ _ _ _ _ _ ⟨laws_eqRecordS_ret' a0 b0 true (by simp [h0]) (by omega), rfl, laws_eqRecordS_ret' a1 b1 true (by simp [h1]) (by omega), rfl, laws_eqRecordS_ret' a2 b2 true (by simp [h2]) (by omega), rfl, laws_eqCellS_ret' a3 b3 true (by simp [h3]) (by omega), rfl, laws_eqIntS_ret' a4 b4 true (by simp [h4]) (by omega), rfl, laws_eqBoolS_ret' a5 b5 true (by simp [h5]) (by omega), rfl, laws_eqBoolS_ret' a6 b6 false (by simp [h6]) (by omega), rfl, trivial⟩
  by_cases h7 : a7 = b7
  case neg =>
    rw [decide_eq_false (by simp [h7])]
    exact laws_eqWorker_p7 _ _ _ _ _ _ _ _ _ _ _ _ _ _ _ _ _ _ _ _ _ _ _ _ ⟨laws_eqRecordS_ret' a0 b0 true (by simp [h0]) (by omega), rfl, laws_eqRecordS_ret' a1 b1 true (by simp [h1]) (by omega), rfl, laws_eqRecordS_ret' a2 b2 true (by simp [h2]) (by omega), rfl, laws_eqCellS_ret' a3 b3 true (by simp [h3]) (by omega), rfl, laws_eqIntS_ret' a4 b4 true (by simp [h4]) (by omega), rfl, laws_eqBoolS_ret' a5 b5 true (by simp [h5]) (by omega), rfl, laws_eqBoolS_ret' a6 b6 true (by simp [h6]) (by omega), rfl, laws_eqDoneS_ret' a7 b7 false (by simp [h7]) (by omega), rfl, trivial⟩
  rw [decide_eq_true (by simp [h0, h1, h2, h3, h4, h5, h6, h7])]
  exact laws_eqWorker_p8 _ _ _ _ _ _ _ _ _ _ _ _ _ _ _ _ _ _ _ _ _ _ _ _ ⟨laws_eqRecordS_ret' a0 b0 true (by simp [h0]) (by omega), rfl, laws_eqRecordS_ret' a1 b1 true (by simp [h1]) (by omega), rfl, laws_eqRecordS_ret' a2 b2 true (by simp [h2]) (by omega), rfl, laws_eqCellS_ret' a3 b3 true (by simp [h3]) (by omega), rfl, laws_eqIntS_ret' a4 b4 true (by simp [h4]) (by omega), rfl, laws_eqBoolS_ret' a5 b5 true (by simp [h5]) (by omega), rfl, laws_eqBoolS_ret' a6 b6 true (by simp [h6]) (by omega), rfl, laws_eqDoneS_ret' a7 b7 true (by simp [h7]) (by omega), rfl, trivial⟩

theorem laws_eqWorker_ret' (x y : Worker) (r : Bool) (h : decide (x = y) = r) (hx : x.sz ≤ 1048576) : Ret Tryz.prog 74 [.agg x.e, .agg y.e] [.one (B r)] := h ▸ laws_eqWorker_ret x y hx

theorem laws_eqWorkerS_ret (xs ys : List Worker) (hx0 : szS Worker.sz xs ≤ 1048576) : Ret Tryz.prog 39 [.one (.sl 8 (xs.map Worker.e)), .one (.sl 8 (ys.map Worker.e))] [.one (B (decide (xs = ys)))] := by
  have hx : xs.length ≤ 1048576 := szS_len hx0
  by_cases hl : xs.length = ys.length
  case neg =>
    rw [decide_eq_false (fun e => hl (by rw [e]))]
    exact laws_eqWorkerS_p0 _ _ ⟨by simp only [List.length_map, bne_iff_ne, ne_eq]; omega, trivial⟩
  have step : ∀ i, i < xs.length → xs[i]? = ys[i]? → Tr Tryz.prog (loopOf Tryz.f39 0) (laws_eqWorkerS_L0 (xs.map Worker.e) (ys.map Worker.e) i) .normal (laws_eqWorkerS_L0 (xs.map Worker.e) (ys.map Worker.e) (i + 1 : Nat)) := by
    intro i hi h
    obtain ⟨a, ha⟩ := get_of hi
    have hb : ys[i]? = some a := h ▸ ha
    obtain ⟨b, he⟩ : ∃ b, b = a := ⟨a, rfl⟩
    rw [← he] at hb
    exact laws_eqWorkerS_L0_s1 _ _ _ _ _ _ _ _ _ _ _ _ _ _ _ _ _ _ _ _ ⟨lt1 hi, lt0, lt2 hi, at_map Worker.e ha, lt0, lt2 (by omega), at_map Worker.e hb, laws_eqWorker_ret' a b true (by simp [he]) (szS_mem hx0 (mem_of ha)), rfl, up1 hi hx, trivial⟩
  have hz : ((↑(xs.map Worker.e).length : Int) != (↑(ys.map Worker.e).length : Int)) = false := by simp [hl]
  rcases first_diff xs ys hl with he | ⟨i, a, b, ha, hb, hab, hlt⟩
  · rw [decide_eq_true he]
    have l := loop_upto (exit_ne 0) xs.length (fun i => laws_eqWorkerS_L0 (xs.map Worker.e) (ys.map Worker.e) i) (fun i hi => step i hi (by rw [he])) (laws_eqWorkerS_L0_x2 _ _ _ ⟨ge1, trivial⟩)
    exact laws_eqWorkerS_p2 _ _ ⟨hz, l, trivial⟩
  · rw [decide_eq_false (fun e => by rw [e, hb] at ha; exact hab (Option.some.inj ha).symm)]
    have hi := lt_of ha
    have l := loop_upto ret_ne i (fun i => laws_eqWorkerS_L0 (xs.map Worker.e) (ys.map Worker.e) i) (fun j hj => step j (by omega) (hlt j hj)) (laws_eqWorkerS_L0_x0 _ _ _ _ _ _ _ _ _ _ _ _ _ _ _ _ _ _ _ _ ⟨lt1 hi, lt0, lt2 hi, at_map Worker.e ha, lt0, lt2 (by omega), at_map Worker.e hb, laws_eqWorker_ret' a b false (by simp [hab]) (szS_mem hx0 (mem_of ha)), rfl, trivial⟩)
    exact laws_eqWorkerS_p1 _ _ false ⟨hz, l, trivial⟩

theorem laws_eqWorkerS_ret' (xs ys : List Worker) (r : Bool) (h : decide (xs = ys) = r) (hx0 : szS Worker.sz xs ≤ 1048576) : Ret Tryz.prog 39 [.one (.sl 8 (xs.map Worker.e)), .one (.sl 8 (ys.map Worker.e))] [.one (B r)] := h ▸ laws_eqWorkerS_ret xs ys hx0

theorem laws_eqCluster_ret (x y : Cluster) (hx : x.sz ≤ 1048576) : Ret Tryz.prog 12 [.agg x.e, .agg y.e] [.one (B (decide (x = y)))] := by
  obtain ⟨a0, a1, a2, a3, a4⟩ := x
  obtain ⟨b0, b1, b2, b3, b4⟩ := y
  simp only [Cluster.sz] at hx
  by_cases h0 : a0 = b0
  case neg =>
    rw [decide_eq_false (by simp [h0])]
    exact laws_eqCluster_p0 _ _ _ _ _ _ _ _ _ _ _ _ _ _ _ ⟨laws_eqGraph_ret' a0 b0 false (by simp [h0]) (by omega), rfl, trivial⟩
  by_cases h1 : a1 = b1
  case neg =>
    rw [decide_eq_false (by simp [h1])]
    exact laws_eqCluster_p1 _ _ _ _ _ _ _ _ _ _ _ _ _ _ _ _ ⟨laws_eqGraph_ret' a0 b0 true (by simp [h0]) (by omega), rfl, laws_eqWorkerS_ret' a1 b1 false (by simp [h1]) (by omega), rfl, trivial⟩
  by_cases h2 : a2 = b2
  case neg =>
    rw [decide_eq_false (by simp [h2])]
    exact laws_eqCluster_p2 _ _ _ _ _ _ _ _ _ _ _ _ _ _ _ _ _ ⟨laws_eqGraph_ret' a0 b0 true (by simp [h0]) (by omega), rfl, laws_eqWorkerS_ret' a1 b1 true (by simp [h1]) (by omega), rfl, laws_eqLinkS_ret' a2 b2 false (by simp [h2]) (by omega), rfl, trivial⟩
  by_cases h3 : a3 = b3
  case neg =>
    rw [decide_eq_false (by simp [h3])]
    exact laws_eqCluster_p3 _ _ _ _ _ _ _ _ _ _ _ _ _ _ _ _ _ _ ⟨laws_eqGraph_ret' a0 b0 true (by simp [h0]) (by omega), rfl, laws_eqWorkerS_ret' a1 b1 true (by simp [h1]) (by omega), rfl, laws_eqLinkS_ret' a2 b2 true (by simp [h2]) (by omega), rfl, laws_eqTokenS_ret' a3 b3 false (by simp [h3]) (by omega), rfl, trivial⟩
  by_cases h4 : a4 = b4
  case neg =>
    rw [decide_eq_false (by simp [h4])]
    exact laws_eqCluster_p4 _ _ _ _ _ _ _ _ _ _ _ _ _ _ _ _ _ _ _ ⟨laws_eqGraph_ret' a0 b0 true (by simp [h0]) (by omega), rfl, laws_eqWorkerS_ret' a1 b1 true (by simp [h1]) (by omega), rfl, laws_eqLinkS_ret' a2 b2 true (by simp [h2]) (by omega), rfl, laws_eqTokenS_ret' a3 b3 true (by simp [h3]) (by omega), rfl, laws_eqNewsS_ret' a4 b4 false (by simp [h4]) (by omega), rfl, trivial⟩
  rw [decide_eq_true (by simp [h0, h1, h2, h3, h4])]
  exact laws_eqCluster_p5 _ _ _ _ _ _ _ _ _ _ _ _ _ _ _ _ _ _ _ ⟨laws_eqGraph_ret' a0 b0 true (by simp [h0]) (by omega), rfl, laws_eqWorkerS_ret' a1 b1 true (by simp [h1]) (by omega), rfl, laws_eqLinkS_ret' a2 b2 true (by simp [h2]) (by omega), rfl, laws_eqTokenS_ret' a3 b3 true (by simp [h3]) (by omega), rfl, laws_eqNewsS_ret' a4 b4 true (by simp [h4]) (by omega), rfl, trivial⟩

theorem laws_eqCluster_ret' (x y : Cluster) (r : Bool) (h : decide (x = y) = r) (hx : x.sz ≤ 1048576) : Ret Tryz.prog 12 [.agg x.e, .agg y.e] [.one (B r)] := h ▸ laws_eqCluster_ret x y hx


end Go.Proofs.YtbbjajmimckabaaGreat
