/- The functions eq..: they tell whether two are alike (printed by gentypes.py) -/
import Derived.Test.YtbbjajmimckabaaT1
import Derived.Test.YtbbjajmimckabaaGC
set_option linter.unusedVariables false
set_option linter.unusedSimpArgs false
namespace Go.Proofs.Ytbbjajmimckabaa
open Go.Sx Go.RowKit

theorem laws_eqIntS_ret (xs ys : List Int) (hx0 : xs.length ≤ 1048576) : Ret Try.prog 127 [.one (.sl 1 (xs.map eI)), .one (.sl 1 (ys.map eI))] [.one (B (decide (xs = ys)))] := by
  have hx : xs.length ≤ 1048576 := hx0
  by_cases hl : xs.length = ys.length
  case neg =>
    rw [decide_eq_false (fun e => hl (by rw [e]))]
    exact laws_eqIntS_p0 _ _ ⟨by simp only [List.length_map, bne_iff_ne, ne_eq]; omega, trivial⟩
  have step : ∀ i, i < xs.length → xs[i]? = ys[i]? → Tr Try.prog (loopOf Try.f127 0) (laws_eqIntS_L0 (xs.map eI) (ys.map eI) i) .normal (laws_eqIntS_L0 (xs.map eI) (ys.map eI) (i + 1 : Nat)) := by
    intro i hi h
    obtain ⟨a, ha⟩ := get_of hi
    have hb : ys[i]? = some a := h ▸ ha
    obtain ⟨b, he⟩ : ∃ b, b = a := ⟨a, rfl⟩
    rw [← he] at hb
    exact laws_eqIntS_L0_s1 _ _ _ _ _ ⟨lt1 hi, lt0, lt2 hi, at_map eI ha, lt0, lt2 (by omega), at_map eI hb, by simp [he], up1 hi hx, trivial⟩
  have hz : ((↑(xs.map eI).length : Int) != (↑(ys.map eI).length : Int)) = false := by simp [hl]
  rcases first_diff xs ys hl with he | ⟨i, a, b, ha, hb, hab, hlt⟩
  · rw [decide_eq_true he]
    have l := loop_upto (exit_ne 0) xs.length (fun i => laws_eqIntS_L0 (xs.map eI) (ys.map eI) i) (fun i hi => step i hi (by rw [he])) (laws_eqIntS_L0_x2 _ _ _ ⟨ge1, trivial⟩)
    exact laws_eqIntS_p2 _ _ ⟨hz, l, trivial⟩
  · rw [decide_eq_false (fun e => by rw [e, hb] at ha; exact hab (Option.some.inj ha).symm)]
    have hi := lt_of ha
    have l := loop_upto ret_ne i (fun i => laws_eqIntS_L0 (xs.map eI) (ys.map eI) i) (fun j hj => step j (by omega) (hlt j hj)) (laws_eqIntS_L0_x0 _ _ _ _ _ ⟨lt1 hi, lt0, lt2 hi, at_map eI ha, lt0, lt2 (by omega), at_map eI hb, by simp [hab], trivial⟩)
    exact laws_eqIntS_p1 _ _ false ⟨hz, l, trivial⟩

theorem laws_eqIntS_ret' (xs ys : List Int) (r : Bool) (h : decide (xs = ys) = r) (hx0 : xs.length ≤ 1048576) : Ret Try.prog 127 [.one (.sl 1 (xs.map eI)), .one (.sl 1 (ys.map eI))] [.one (B r)] := h ▸ laws_eqIntS_ret xs ys hx0

theorem laws_eqStamp_ret (x y : Stamp) : Ret Try.prog 63 [.agg x.e, .agg y.e] [.one (B (decide (x = y)))] := by
  obtain ⟨a0, a1⟩ := x
  obtain ⟨b0, b1⟩ := y
  by_cases h0 : a0 = b0
  case neg =>
    rw [decide_eq_false (by simp [h0])]
    exact laws_eqStamp_p0 _ _ _ _ ⟨by simp [h0], trivial⟩
  by_cases h1 : a1 = b1
  case neg =>
    rw [decide_eq_false (by simp [h1])]
    exact laws_eqStamp_p1 _ _ _ _ ⟨by simp [h0], by simp [h1], trivial⟩
  rw [decide_eq_true (by simp [h0, h1])]
  exact laws_eqStamp_p2 _ _ _ _ ⟨by simp [h0], by simp [h1], trivial⟩

theorem laws_eqStamp_ret' (x y : Stamp) (r : Bool) (h : decide (x = y) = r) : Ret Try.prog 63 [.agg x.e, .agg y.e] [.one (B r)] := h ▸ laws_eqStamp_ret x y

theorem laws_eqRecord_ret (x y : Record) : Ret Try.prog 24 [.agg x.e, .agg y.e] [.one (B (decide (x = y)))] := by
  obtain ⟨a0, a1, a2, a3⟩ := x
  obtain ⟨b0, b1, b2, b3⟩ := y
  by_cases h0 : a0 = b0
  case neg =>
    rw [decide_eq_false (by simp [h0])]
    exact laws_eqRecord_p0 _ _ _ _ _ _ _ _ _ _ ⟨by simp [h0], trivial⟩
  by_cases h1 : a1 = b1
  case neg =>
    rw [decide_eq_false (by simp [h1])]
    exact laws_eqRecord_p1 _ _ _ _ _ _ _ _ _ _ _ ⟨by simp [h0], laws_eqStamp_ret' a1 b1 false (by simp [h1]), rfl, trivial⟩
  by_cases h2 : a2 = b2
  case neg =>
    rw [decide_eq_false (by simp [h2])]
    exact laws_eqRecord_p2 _ _ _ _ _ _ _ _ _ _ _ ⟨by simp [h0], laws_eqStamp_ret' a1 b1 true (by simp [h1]), rfl, by simp [h2], trivial⟩
  by_cases h3 : a3 = b3
  case neg =>
    rw [decide_eq_false (by simp [h3])]
    exact laws_eqRecord_p3 _ _ _ _ _ _ _ _ _ _ _ ⟨by simp [h0], laws_eqStamp_ret' a1 b1 true (by simp [h1]), rfl, by simp [h2], by simp [h3], trivial⟩
  rw [decide_eq_true (by simp [h0, h1, h2, h3])]
  exact laws_eqRecord_p4 _ _ _ _ _ _ _ _ _ _ _ ⟨by simp [h0], laws_eqStamp_ret' a1 b1 true (by simp [h1]), rfl, by simp [h2], by simp [h3], trivial⟩

theorem laws_eqRecord_ret' (x y : Record) (r : Bool) (h : decide (x = y) = r) : Ret Try.prog 24 [.agg x.e, .agg y.e] [.one (B r)] := h ▸ laws_eqRecord_ret x y

theorem laws_eqRecordS_ret (xs ys : List Record) (hx0 : xs.length ≤ 1048576) : Ret Try.prog 16 [.one (.sl 5 (xs.map Record.e)), .one (.sl 5 (ys.map Record.e))] [.one (B (decide (xs = ys)))] := by
  have hx : xs.length ≤ 1048576 := hx0
  by_cases hl : xs.length = ys.length
  case neg =>
    rw [decide_eq_false (fun e => hl (by rw [e]))]
    exact laws_eqRecordS_p0 _ _ ⟨by simp only [List.length_map, bne_iff_ne, ne_eq]; omega, trivial⟩
  have step : ∀ i, i < xs.length → xs[i]? = ys[i]? → Tr Try.prog (loopOf Try.f16 0) (laws_eqRecordS_L0 (xs.map Record.e) (ys.map Record.e) i) .normal (laws_eqRecordS_L0 (xs.map Record.e) (ys.map Record.e) (i + 1 : Nat)) := by
    intro i hi h
    obtain ⟨a, ha⟩ := get_of hi
    have hb : ys[i]? = some a := h ▸ ha
    obtain ⟨b, he⟩ : ∃ b, b = a := ⟨a, rfl⟩
    rw [← he] at hb
    exact laws_eqRecordS_L0_s1 _ _ _ _ _ _ _ _ _ _ _ _ _ _ ⟨lt1 hi, lt0, lt2 hi, at_map Record.e ha, lt0, lt2 (by omega), at_map Record.e hb, laws_eqRecord_ret' a b true (by simp [he]), rfl, up1 hi hx, trivial⟩
  have hz : ((↑(xs.map Record.e).length : Int) != (↑(ys.map Record.e).length : Int)) = false := by simp [hl]
  rcases first_diff xs ys hl with he | ⟨i, a, b, ha, hb, hab, hlt⟩
  · rw [decide_eq_true he]
    have l := loop_upto (exit_ne 0) xs.length (fun i => laws_eqRecordS_L0 (xs.map Record.e) (ys.map Record.e) i) (fun i hi => step i hi (by rw [he])) (laws_eqRecordS_L0_x2 _ _ _ ⟨ge1, trivial⟩)
    exact laws_eqRecordS_p2 _ _ ⟨hz, l, trivial⟩
  · rw [decide_eq_false (fun e => by rw [e, hb] at ha; exact hab (Option.some.inj ha).symm)]
    have hi := lt_of ha
    have l := loop_upto ret_ne i (fun i => laws_eqRecordS_L0 (xs.map Record.e) (ys.map Record.e) i) (fun j hj => step j (by omega) (hlt j hj)) (laws_eqRecordS_L0_x0 _ _ _ _ _ _ _ _ _ _ _ _ _ _ ⟨lt1 hi, lt0, lt2 hi, at_map Record.e ha, lt0, lt2 (by omega), at_map Record.e hb, laws_eqRecord_ret' a b false (by simp [hab]), rfl, trivial⟩)
    exact laws_eqRecordS_p1 _ _ false ⟨hz, l, trivial⟩

theorem laws_eqRecordS_ret' (xs ys : List Record) (r : Bool) (h : decide (xs = ys) = r) (hx0 : xs.length ≤ 1048576) : Ret Try.prog 16 [.one (.sl 5 (xs.map Record.e)), .one (.sl 5 (ys.map Record.e))] [.one (B r)] := h ▸ laws_eqRecordS_ret xs ys hx0

theorem laws_eqCell_ret (x y : Cell) : Ret Try.prog 77 [.agg x.e, .agg y.e] [.one (B (decide (x = y)))] := by
  obtain ⟨a0, a1, a2, a3⟩ := x
  obtain ⟨b0, b1, b2, b3⟩ := y
  by_cases h0 : a0 = b0
  case neg =>
    rw [decide_eq_false (by simp [h0])]
    exact laws_eqCell_p0 _ _ _ _ _ _ _ _ ⟨by simp [h0], trivial⟩
  by_cases h1 : a1 = b1
  case neg =>
    rw [decide_eq_false (by simp [h1])]
    exact laws_eqCell_p1 _ _ _ _ _ _ _ _ ⟨by simp [h0], by simp [h1], trivial⟩
  by_cases h2 : a2 = b2
  case neg =>
    rw [decide_eq_false (by simp [h2])]
    exact laws_eqCell_p2 _ _ _ _ _ _ _ _ ⟨by simp [h0], by simp [h1], by simp [h2], trivial⟩
  by_cases h3 : a3 = b3
  case neg =>
    rw [decide_eq_false (by simp [h3])]
    exact laws_eqCell_p3 _ _ _ _ _ _ _ _ ⟨by simp [h0], by simp [h1], by simp [h2], by simp [h3], trivial⟩
  rw [decide_eq_true (by simp [h0, h1, h2, h3])]
  exact laws_eqCell_p4 _ _ _ _ _ _ _ _ ⟨by simp [h0], by simp [h1], by simp [h2], by simp [h3], trivial⟩

theorem laws_eqCell_ret' (x y : Cell) (r : Bool) (h : decide (x = y) = r) : Ret Try.prog 77 [.agg x.e, .agg y.e] [.one (B r)] := h ▸ laws_eqCell_ret x y

theorem laws_eqCellS_ret (xs ys : List Cell) (hx0 : xs.length ≤ 1048576) : Ret Try.prog 34 [.one (.sl 4 (xs.map Cell.e)), .one (.sl 4 (ys.map Cell.e))] [.one (B (decide (xs = ys)))] := by
  have hx : xs.length ≤ 1048576 := hx0
  by_cases hl : xs.length = ys.length
  case neg =>
    rw [decide_eq_false (fun e => hl (by rw [e]))]
    exact laws_eqCellS_p0 _ _ ⟨by simp only [List.length_map, bne_iff_ne, ne_eq]; omega, trivial⟩
  have step : ∀ i, i < xs.length → xs[i]? = ys[i]? → Tr Try.prog (loopOf Try.f34 0) (laws_eqCellS_L0 (xs.map Cell.e) (ys.map Cell.e) i) .normal (laws_eqCellS_L0 (xs.map Cell.e) (ys.map Cell.e) (i + 1 : Nat)) := by
    intro i hi h
    obtain ⟨a, ha⟩ := get_of hi
    have hb : ys[i]? = some a := h ▸ ha
    obtain ⟨b, he⟩ : ∃ b, b = a := ⟨a, rfl⟩
    rw [← he] at hb
    exact laws_eqCellS_L0_s1 _ _ _ _ _ _ _ _ _ _ _ _ ⟨lt1 hi, lt0, lt2 hi, at_map Cell.e ha, lt0, lt2 (by omega), at_map Cell.e hb, laws_eqCell_ret' a b true (by simp [he]), rfl, up1 hi hx, trivial⟩
  have hz : ((↑(xs.map Cell.e).length : Int) != (↑(ys.map Cell.e).length : Int)) = false := by simp [hl]
  rcases first_diff xs ys hl with he | ⟨i, a, b, ha, hb, hab, hlt⟩
  · rw [decide_eq_true he]
    have l := loop_upto (exit_ne 0) xs.length (fun i => laws_eqCellS_L0 (xs.map Cell.e) (ys.map Cell.e) i) (fun i hi => step i hi (by rw [he])) (laws_eqCellS_L0_x2 _ _ _ ⟨ge1, trivial⟩)
    exact laws_eqCellS_p2 _ _ ⟨hz, l, trivial⟩
  · rw [decide_eq_false (fun e => by rw [e, hb] at ha; exact hab (Option.some.inj ha).symm)]
    have hi := lt_of ha
    have l := loop_upto ret_ne i (fun i => laws_eqCellS_L0 (xs.map Cell.e) (ys.map Cell.e) i) (fun j hj => step j (by omega) (hlt j hj)) (laws_eqCellS_L0_x0 _ _ _ _ _ _ _ _ _ _ _ _ ⟨lt1 hi, lt0, lt2 hi, at_map Cell.e ha, lt0, lt2 (by omega), at_map Cell.e hb, laws_eqCell_ret' a b false (by simp [hab]), rfl, trivial⟩)
    exact laws_eqCellS_p1 _ _ false ⟨hz, l, trivial⟩

theorem laws_eqCellS_ret' (xs ys : List Cell) (r : Bool) (h : decide (xs = ys) = r) (hx0 : xs.length ≤ 1048576) : Ret Try.prog 34 [.one (.sl 4 (xs.map Cell.e)), .one (.sl 4 (ys.map Cell.e))] [.one (B r)] := h ▸ laws_eqCellS_ret xs ys hx0

theorem laws_eqNode_ret (x y : Node) (hx : x.sz ≤ 1048576) : Ret Try.prog 114 [.agg x.e, .agg y.e] [.one (B (decide (x = y)))] := by
  obtain ⟨a0, a1, a2, a3⟩ := x
  obtain ⟨b0, b1, b2, b3⟩ := y
  simp only [Node.sz] at hx
  by_cases h0 : a0 = b0
  case neg =>
    rw [decide_eq_false (by simp [h0])]
    exact laws_eqNode_p0 _ _ _ _ _ _ _ _ ⟨by simp [h0], trivial⟩
  by_cases h1 : a1 = b1
  case neg =>
    rw [decide_eq_false (by simp [h1])]
    exact laws_eqNode_p1 _ _ _ _ _ _ _ _ ⟨by simp [h0], by simp [h1], trivial⟩
  by_cases h2 : a2 = b2
  case neg =>
    rw [decide_eq_false (by simp [h2])]
    exact laws_eqNode_p2 _ _ _ _ _ _ _ _ ⟨by simp [h0], by simp [h1], by simp [h2], trivial⟩
  by_cases h3 : a3 = b3
  case neg =>
    rw [decide_eq_false (by simp [h3])]
    exact laws_eqNode_p3 _ _ _ _ _ _ _ _ _ ⟨by simp [h0], by simp [h1], by simp [h2], laws_eqIntS_ret' a3 b3 false (by simp [h3]) (by omega), rfl, trivial⟩
  rw [decide_eq_true (by simp [h0, h1, h2, h3])]
  exact laws_eqNode_p4 _ _ _ _ _ _ _ _ _ ⟨by simp [h0], by simp [h1], by simp [h2], laws_eqIntS_ret' a3 b3 true (by simp [h3]) (by omega), rfl, trivial⟩

theorem laws_eqNode_ret' (x y : Node) (r : Bool) (h : decide (x = y) = r) (hx : x.sz ≤ 1048576) : Ret Try.prog 114 [.agg x.e, .agg y.e] [.one (B r)] := h ▸ laws_eqNode_ret x y hx

theorem laws_eqNodeS_ret (xs ys : List Node) (hx0 : szS Node.sz xs ≤ 1048576) : Ret Try.prog 83 [.one (.sl 4 (xs.map Node.e)), .one (.sl 4 (ys.map Node.e))] [.one (B (decide (xs = ys)))] := by
  have hx : xs.length ≤ 1048576 := szS_len hx0
  by_cases hl : xs.length = ys.length
  case neg =>
    rw [decide_eq_false (fun e => hl (by rw [e]))]
    exact laws_eqNodeS_p0 _ _ ⟨by simp only [List.length_map, bne_iff_ne, ne_eq]; omega, trivial⟩
  have step : ∀ i, i < xs.length → xs[i]? = ys[i]? → Tr Try.prog (loopOf Try.f83 0) (laws_eqNodeS_L0 (xs.map Node.e) (ys.map Node.e) i) .normal (laws_eqNodeS_L0 (xs.map Node.e) (ys.map Node.e) (i + 1 : Nat)) := by
    intro i hi h
    obtain ⟨a, ha⟩ := get_of hi
    have hb : ys[i]? = some a := h ▸ ha
    obtain ⟨b, he⟩ : ∃ b, b = a := ⟨a, rfl⟩
    rw [← he] at hb
    exact laws_eqNodeS_L0_s1 _ _ _ _ _ _ _ _ _ _ _ _ ⟨lt1 hi, lt0, lt2 hi, at_map Node.e ha, lt0, lt2 (by omega), at_map Node.e hb, laws_eqNode_ret' a b true (by simp [he]) (szS_mem hx0 (mem_of ha)), rfl, up1 hi hx, trivial⟩
  have hz : ((↑(xs.map Node.e).length : Int) != (↑(ys.map Node.e).length : Int)) = false := by simp [hl]
  rcases first_diff xs ys hl with he | ⟨i, a, b, ha, hb, hab, hlt⟩
  · rw [decide_eq_true he]
    have l := loop_upto (exit_ne 0) xs.length (fun i => laws_eqNodeS_L0 (xs.map Node.e) (ys.map Node.e) i) (fun i hi => step i hi (by rw [he])) (laws_eqNodeS_L0_x2 _ _ _ ⟨ge1, trivial⟩)
    exact laws_eqNodeS_p2 _ _ ⟨hz, l, trivial⟩
  · rw [decide_eq_false (fun e => by rw [e, hb] at ha; exact hab (Option.some.inj ha).symm)]
    have hi := lt_of ha
    have l := loop_upto ret_ne i (fun i => laws_eqNodeS_L0 (xs.map Node.e) (ys.map Node.e) i) (fun j hj => step j (by omega) (hlt j hj)) (laws_eqNodeS_L0_x0 _ _ _ _ _ _ _ _ _ _ _ _ ⟨lt1 hi, lt0, lt2 hi, at_map Node.e ha, lt0, lt2 (by omega), at_map Node.e hb, laws_eqNode_ret' a b false (by simp [hab]) (szS_mem hx0 (mem_of ha)), rfl, trivial⟩)
    exact laws_eqNodeS_p1 _ _ false ⟨hz, l, trivial⟩

theorem laws_eqNodeS_ret' (xs ys : List Node) (r : Bool) (h : decide (xs = ys) = r) (hx0 : szS Node.sz xs ≤ 1048576) : Ret Try.prog 83 [.one (.sl 4 (xs.map Node.e)), .one (.sl 4 (ys.map Node.e))] [.one (B r)] := h ▸ laws_eqNodeS_ret xs ys hx0

theorem laws_eqGraph_ret (x y : Graph) (hx : x.sz ≤ 1048576) : Ret Try.prog 43 [.agg x.e, .agg y.e] [.one (B (decide (x = y)))] := by
  obtain ⟨a0, a1, a2⟩ := x
  obtain ⟨b0, b1, b2⟩ := y
  simp only [Graph.sz] at hx
  by_cases h0 : a0 = b0
  case neg =>
    rw [decide_eq_false (by simp [h0])]
    exact laws_eqGraph_p0 _ _ _ _ _ _ _ ⟨laws_eqNodeS_ret' a0 b0 false (by simp [h0]) (by omega), rfl, trivial⟩
  by_cases h1 : a1 = b1
  case neg =>
    rw [decide_eq_false (by simp [h1])]
    exact laws_eqGraph_p1 _ _ _ _ _ _ _ ⟨laws_eqNodeS_ret' a0 b0 true (by simp [h0]) (by omega), rfl, by simp [h1], trivial⟩
  by_cases h2 : a2 = b2
  case neg =>
    rw [decide_eq_false (by simp [h2])]
    exact laws_eqGraph_p2 _ _ _ _ _ _ _ ⟨laws_eqNodeS_ret' a0 b0 true (by simp [h0]) (by omega), rfl, by simp [h1], by simp [h2], trivial⟩
  rw [decide_eq_true (by simp [h0, h1, h2])]
  exact laws_eqGraph_p3 _ _ _ _ _ _ _ ⟨laws_eqNodeS_ret' a0 b0 true (by simp [h0]) (by omega), rfl, by simp [h1], by simp [h2], trivial⟩

theorem laws_eqGraph_ret' (x y : Graph) (r : Bool) (h : decide (x = y) = r) (hx : x.sz ≤ 1048576) : Ret Try.prog 43 [.agg x.e, .agg y.e] [.one (B r)] := h ▸ laws_eqGraph_ret x y hx

end Go.Proofs.Ytbbjajmimckabaa
