/- GraphOk, NodeOk, RecordOk, StampOk, NextTurn: what program and reference compute (the cases were put together by gentree.py). -/
import Derived.Test.YtbbjajmimckabaaP10
import Derived.Test.YtbbjajmimckabaaGQ
import Derived.Test.YtbbjajmimckabaaGR
set_option linter.unusedVariables false
set_option linter.unusedSimpArgs false
namespace Go.Proofs.Ytbbjajmimckabaa
open Go.Sx Go.RowKit

def stampOk (s : Stamp) : Bool := inR s.epoch 0 3 && inR s.turn 0 6
def itemOk (k v : Int) : Bool := inR k 0 99 && inR v 0 999
def recordOk (r : Record) : Bool := inR r.op 0 7 && stampOk r.stamp && itemOk r.key r.val
def nextTurn (s : Stamp) : Stamp × Bool := if stampOk s && decide (s.turn < 6) then (⟨s.epoch, s.turn + 1⟩, true) else (s, false)
def less (a b : Int) : Int := if b < a then b else a

def abOk (x : Node) : Bool :=
  if x.kind = 2 then inR x.a 0 999 && x.b == 0
  else if x.kind = 3 then inR x.a 1 10 && inR x.b 0 (IntKind.i64.wrap (x.a - 1))
  else if x.kind = 4 then inR x.a 0 99 && x.b == 0
  else inR x.kind 1 8 && x.a == 0 && x.b == 0
def okAll (l : List Int) : Bool := !(l.any fun k => !inR k 0 7)
def dupO (l : List Int) : Bool := decide (l.length = 2 ∧ l[0]? = l[1]?)
def nodeOk (x : Node) : Bool := abOk x && decide (x.outs.length ≤ 2) && !(x.kind == 8 && decide (0 < x.outs.length)) && !dupO x.outs && okAll x.outs

theorem look {α : Type} {xs : List α} {i : Int} (h0 : 0 ≤ i) (h1 : i < xs.length) : ∃ a, xs[i.toNat]? = some a := get_of (by omega)
theorem at_mapN {α : Type} {xs : List α} {i : Nat} {a : α} (f : α → List D) (h : xs[i]? = some a) : (xs.map f)[i]? = some (f a) := by simp [h]

theorem impl_NodeOk_loop (x : Node) (hx : x.outs.length ≤ 1048576) : (okAll x.outs = false ∧ LoopOk Try.prog (loopOf Try.f141 0) (impl_NodeOk_L0 (x.outs.map eI) 0) .ret (impl_NodeOk_X0 false)) ∨ (okAll x.outs = true ∧ LoopOk Try.prog (loopOf Try.f141 0) (impl_NodeOk_L0 (x.outs.map eI) 0) (.exit 1) impl_NodeOk_X0v2) := by
  have l := loop_scan (P := Try.prog) (c := (loopOf Try.f141 0)) x.outs (fun k => !inR k 0 7) (fun i => impl_NodeOk_L0 (x.outs.map eI) i) (X := fun _ _ => impl_NodeOk_X0 false) ret_ne (exit_ne 1)
    (fun i a ha h => impl_NodeOk_L0_s1 _ _ _ _ ⟨lt1 (lt_of ha), lt0, lt2 (lt_of ha), at_map eI ha, impl_within_ret a 0 7, h, up1 (lt_of ha) hx, trivial⟩)
    (fun i a ha h => impl_NodeOk_L0_x0 _ _ _ _ ⟨lt1 (lt_of ha), lt0, lt2 (lt_of ha), at_map eI ha, impl_within_ret a 0 7, h, trivial⟩)
    (impl_NodeOk_L0_x2 _ _ ⟨ge1, trivial⟩)
  unfold okAll
  rcases l with ⟨_, _, h1, h2⟩ | ⟨i, a, _, _, _, _, h1, h2⟩
  · exact .inr ⟨by rw [h1]; rfl, h2⟩
  · exact .inl ⟨by rw [h1]; rfl, h2⟩

theorem spec_NodeOk_loop (x : Node) (hx : x.outs.length ≤ 2) : ((okAll x.outs && !dupO x.outs) = false ∧ LoopOk Try.prog (loopOf Try.f135 0) (spec_NodeOk_L0 x.kind x.a x.b (x.outs.map eI) 0) .ret (spec_NodeOk_X0 false)) ∨ ((okAll x.outs && !dupO x.outs) = true ∧ LoopOk Try.prog (loopOf Try.f135 0) (spec_NodeOk_L0 x.kind x.a x.b (x.outs.map eI) 0) (.exit 1) spec_NodeOk_X0v2) := by
  obtain ⟨kd, a, b, outs⟩ := x
  have cl := fun k => spec_l01In_ret k 0 7
  match outs, hx with
  | [], _ => exact .inr ⟨rfl, .last (exit_ne 1) (spec_NodeOk_L0_x4 _ _ _ _ _ ⟨rfl, trivial⟩)⟩
  | [k], _ =>
    cases h1 : inR k 0 7 with
    | false => exact .inl ⟨by simp [okAll, h1], .last ret_ne (spec_NodeOk_L0_x0 _ _ _ _ _ _ _ ⟨rfl, by omega, by simp, rfl, cl k, by rw [h1]; rfl, trivial⟩)⟩
    | true =>
      refine .inr ⟨by simp [okAll, dupO, h1], .more (spec_NodeOk_L0_s3 _ _ _ _ _ _ _ ⟨rfl, by omega, by simp, rfl, cl k, by rw [h1]; rfl, rfl, ⟨by omega, by omega⟩, trivial⟩) (.last (exit_ne 1) (spec_NodeOk_L0_x4 _ _ _ _ _ ⟨rfl, trivial⟩))⟩
  | [k, m], _ =>
    cases h1 : inR k 0 7 with
    | false => exact .inl ⟨by simp [okAll, h1], .last ret_ne (spec_NodeOk_L0_x0 _ _ _ _ _ _ _ ⟨rfl, by omega, by simp, rfl, cl k, by rw [h1]; rfl, trivial⟩)⟩
    | true =>
      have first : Tr Try.prog (loopOf Try.f135 0) (spec_NodeOk_L0 kd a b ([k, m].map eI) 0) .normal (spec_NodeOk_L0 kd a b ([k, m].map eI) (0 + 1)) := spec_NodeOk_L0_s3 _ _ _ _ _ _ _ ⟨rfl, by omega, by simp, rfl, cl k, by rw [h1]; rfl, rfl, ⟨by omega, by omega⟩, trivial⟩
      cases h2 : inR m 0 7 with
      | false => exact .inl ⟨by simp [okAll, h1, h2], .more first (.last ret_ne (spec_NodeOk_L0_x0 _ _ _ _ _ _ _ ⟨rfl, by omega, by simp, rfl, cl m, by rw [h2]; rfl, trivial⟩))⟩
      | true =>
        cases h3 : (k == m) with
        | true => exact .inl ⟨by simp [okAll, dupO, h1, h2] at h3 ⊢; exact h3, .more first (.last ret_ne (spec_NodeOk_L0_x1 _ _ _ _ _ _ _ _ _ ⟨rfl, by omega, by simp, rfl, cl m, by rw [h2]; rfl, rfl, by omega, by simp, rfl, by omega, by simp, rfl, h3, trivial⟩))⟩
        | false => exact .inr ⟨by simp [okAll, dupO, h1, h2] at h3 ⊢; exact h3, .more first (.more (spec_NodeOk_L0_s2 _ _ _ _ _ _ _ _ _ ⟨rfl, by omega, by simp, rfl, cl m, by rw [h2]; rfl, rfl, by omega, by simp, rfl, by omega, by simp, rfl, h3, ⟨by omega, by omega⟩, trivial⟩) (.last (exit_ne 1) (spec_NodeOk_L0_x4 _ _ _ _ _ ⟨rfl, trivial⟩)))⟩

theorem spec_StampOk_ret (s : Stamp) : Ret Try.prog 136 [.agg s.e] [.one (B (stampOk s))] := by
  have c1 := spec_l01In_ret s.epoch 0 3
  cases h2 : (inR s.epoch 0 3) with
  | true =>
    have c3 := spec_l01In_ret s.turn 0 6
    rw [show stampOk s = inR s.turn 0 6 from by grind [stampOk]]
    exact spec_StampOk_p0 _ _ _ _ ⟨c1, h2, c3, trivial⟩
  | false =>
    rw [show stampOk s = false from by grind [stampOk]]
    exact spec_StampOk_p1 _ _ _ ⟨c1, h2, trivial⟩

theorem impl_StampOk_ret (s : Stamp) : Ret Try.prog 142 [.agg s.e] [.one (B (stampOk s))] := by
  have c1 := impl_within_ret s.epoch 0 3
  cases h2 : (inR s.epoch 0 3) with
  | true =>
    have c3 := impl_within_ret s.turn 0 6
    rw [show stampOk s = inR s.turn 0 6 from by grind [stampOk]]
    exact impl_StampOk_p0 _ _ _ _ ⟨c1, h2, c3, trivial⟩
  | false =>
    rw [show stampOk s = false from by grind [stampOk]]
    exact impl_StampOk_p1 _ _ _ ⟨c1, h2, trivial⟩

theorem impl_itemOk_ret (k v : Int) : Ret Try.prog 143 [.one (I k), .one (I v)] [.one (B (itemOk k v))] := by
  have c1 := impl_within_ret k 0 99
  cases h2 : (inR k 0 99) with
  | true =>
    have c3 := impl_within_ret v 0 999
    rw [show itemOk k v = inR v 0 999 from by grind [itemOk]]
    exact impl_itemOk_p0 _ _ _ _ ⟨c1, h2, c3, trivial⟩
  | false =>
    rw [show itemOk k v = false from by grind [itemOk]]
    exact impl_itemOk_p1 _ _ _ ⟨c1, h2, trivial⟩

theorem spec_RecordOk_ret (r : Record) : Ret Try.prog 110 [.agg r.e] [.one (B (recordOk r))] := by
  have c1 := spec_l01In_ret r.op 0 7
  cases h2 : (inR r.op 0 7) with
  | true =>
    have c3 := spec_StampOk_ret r.stamp
    cases h4 : (stampOk r.stamp) with
    | true =>
      have c5 := spec_l01In_ret r.key 0 99
      cases h6 : (inR r.key 0 99) with
      | true =>
        have c7 := spec_l01In_ret r.val 0 999
        rw [show recordOk r = inR r.val 0 999 from by grind [recordOk, itemOk]]
        exact spec_RecordOk_p0 _ _ _ _ _ _ _ _ _ ⟨c1, h2, c3, h4, c5, h6, c7, trivial⟩
      | false =>
        rw [show recordOk r = false from by grind [recordOk, itemOk]]
        exact spec_RecordOk_p1 _ _ _ _ _ _ _ _ ⟨c1, h2, c3, h4, c5, h6, trivial⟩
    | false =>
      rw [show recordOk r = false from by grind [recordOk, itemOk]]
      exact spec_RecordOk_p2 _ _ _ _ _ _ _ ⟨c1, h2, c3, h4, trivial⟩
  | false =>
    rw [show recordOk r = false from by grind [recordOk, itemOk]]
    exact spec_RecordOk_p3 _ _ _ _ _ _ ⟨c1, h2, trivial⟩

theorem impl_RecordOk_ret (r : Record) : Ret Try.prog 117 [.agg r.e] [.one (B (recordOk r))] := by
  have c1 := impl_within_ret r.op 0 7
  cases h2 : (inR r.op 0 7) with
  | true =>
    have c3 := impl_StampOk_ret r.stamp
    cases h4 : (stampOk r.stamp) with
    | true =>
      have c5 := impl_itemOk_ret r.key r.val
      rw [show recordOk r = itemOk r.key r.val from by grind [recordOk, itemOk]]
      exact impl_RecordOk_p0 _ _ _ _ _ _ _ _ ⟨c1, h2, c3, h4, c5, trivial⟩
    | false =>
      rw [show recordOk r = false from by grind [recordOk, itemOk]]
      exact impl_RecordOk_p1 _ _ _ _ _ _ _ ⟨c1, h2, c3, h4, trivial⟩
  | false =>
    rw [show recordOk r = false from by grind [recordOk, itemOk]]
    exact impl_RecordOk_p2 _ _ _ _ _ _ ⟨c1, h2, trivial⟩

theorem spec_NextTurn_ret (s : Stamp) : Ret Try.prog 137 [.agg s.e] [.agg ((nextTurn s).1).e, .one (B ((nextTurn s).2))] := by
  have c1 := spec_StampOk_ret s
  cases h2 : (stampOk s) with
  | true =>
    cases h3 : (decide (s.turn ≥ 6)) with
    | true =>
      rw [show nextTurn s = (s, false) from by grind [nextTurn, stampOk, inR]]
      exact spec_NextTurn_p1 _ _ _ ⟨c1, (by rw [h2]; rfl), h3, trivial⟩
    | false =>
      rw [show nextTurn s = ((⟨s.epoch, s.turn + 1⟩ : Stamp), true) from by grind [nextTurn, stampOk, inR]]
      exact spec_NextTurn_p2 _ _ _ ⟨c1, (by rw [h2]; rfl), h3, (by grind [stampOk, inR, inInt]), trivial⟩
  | false =>
    rw [show nextTurn s = (s, false) from by grind [nextTurn, stampOk, inR]]
    exact spec_NextTurn_p0 _ _ _ ⟨c1, (by rw [h2]; rfl), trivial⟩

theorem impl_NextTurn_ret (s : Stamp) : Ret Try.prog 146 [.agg s.e] [.agg ((nextTurn s).1).e, .one (B ((nextTurn s).2))] := by
  have c1 := impl_StampOk_ret s
  cases h2 : (stampOk s) with
  | true =>
    cases h3 : (s.turn == 6) with
    | true =>
      rw [show nextTurn s = (s, false) from by grind [nextTurn, stampOk, inR]]
      exact impl_NextTurn_p1 _ _ _ ⟨c1, (by rw [h2]; rfl), h3, trivial⟩
    | false =>
      rw [show nextTurn s = ((⟨s.epoch, s.turn + 1⟩ : Stamp), true) from by grind [nextTurn, stampOk, inR]]
      exact impl_NextTurn_p2 _ _ _ ⟨c1, (by rw [h2]; rfl), h3, (by grind [stampOk, inR, inInt]), trivial⟩
  | false =>
    rw [show nextTurn s = (s, false) from by grind [nextTurn, stampOk, inR]]
    exact impl_NextTurn_p0 _ _ _ ⟨c1, (by rw [h2]; rfl), trivial⟩

theorem spec_l02Less_ret (a b : Int) : Ret Try.prog 153 [.one (I a), .one (I b)] [.one (I (less a b))] := by
  cases h1 : (decide (b < a)) with
  | true =>
    rw [show less a b = b from by grind [less]]
    exact spec_l02Less_p0 _ _ ⟨h1, trivial⟩
  | false =>
    rw [show less a b = a from by grind [less]]
    exact spec_l02Less_p1 _ _ ⟨h1, trivial⟩

theorem spec_NodeOk_ret (x : Node) (hx : x.outs.length ≤ 1048576) : Ret Try.prog 135 [.agg x.e] [.one (B (nodeOk x))] := by
  cases h1 : (x.kind == 2) with
  | true =>
    have c2 := spec_l01In_ret x.a 0 999
    have c3 := spec_l01In_ret x.kind 1 8
    cases h4 : (inR x.kind 1 8) with
    | true =>
      cases h5 : (inR x.a 0 999) with
      | true =>
        cases h6 : (x.b == 0) with
        | true =>
          cases h7 : (decide ((↑(x.outs.map eI).length : Int) > 2)) with
          | true =>
            rw [show nodeOk x = false from by grind [nodeOk, abOk, dupO, inR]]
            exact spec_NodeOk_p3 _ _ _ _ _ _ ⟨h1, c2, c3, (by rw [h4]; rfl), (by rw [h5]; rfl), (by rw [h6]; rfl), h7, trivial⟩
          | false =>
            cases h8 : (x.kind == 8) with
            | true =>
              cases h9 : (decide ((↑(x.outs.map eI).length : Int) > 0)) with
              | true =>
                rw [show nodeOk x = false from by grind [nodeOk, abOk, dupO, inR]]
                exact spec_NodeOk_p4 _ _ _ _ _ _ ⟨h1, c2, c3, (by rw [h4]; rfl), (by rw [h5]; rfl), (by rw [h6]; rfl), h7, h8, h9, trivial⟩
              | false =>
                rcases spec_NodeOk_loop x (by grind) with ⟨hL, l⟩ | ⟨hL, l⟩
                · skip
                  rw [show nodeOk x = false from by grind [nodeOk, abOk, dupO, inR]]
                  exact spec_NodeOk_p5 _ _ _ _ _ _ _ ⟨h1, c2, c3, (by rw [h4]; rfl), (by rw [h5]; rfl), (by rw [h6]; rfl), h7, h8, h9, l, trivial⟩
                · skip
                  rw [show nodeOk x = true from by grind [nodeOk, abOk, dupO, inR]]
                  exact spec_NodeOk_p6 _ _ _ _ _ _ ⟨h1, c2, c3, (by rw [h4]; rfl), (by rw [h5]; rfl), (by rw [h6]; rfl), h7, h8, h9, l, trivial⟩
            | false =>
              rcases spec_NodeOk_loop x (by grind) with ⟨hL, l⟩ | ⟨hL, l⟩
              · skip
                rw [show nodeOk x = false from by grind [nodeOk, abOk, dupO, inR]]
                exact spec_NodeOk_p7 _ _ _ _ _ _ _ ⟨h1, c2, c3, (by rw [h4]; rfl), (by rw [h5]; rfl), (by rw [h6]; rfl), h7, h8, l, trivial⟩
              · skip
                rw [show nodeOk x = true from by grind [nodeOk, abOk, dupO, inR]]
                exact spec_NodeOk_p8 _ _ _ _ _ _ ⟨h1, c2, c3, (by rw [h4]; rfl), (by rw [h5]; rfl), (by rw [h6]; rfl), h7, h8, l, trivial⟩
        | false =>
          rw [show nodeOk x = false from by grind [nodeOk, abOk, dupO, inR]]
          exact spec_NodeOk_p2 _ _ _ _ _ _ ⟨h1, c2, c3, (by rw [h4]; rfl), (by rw [h5]; rfl), (by rw [h6]; rfl), trivial⟩
      | false =>
        rw [show nodeOk x = false from by grind [nodeOk, abOk, dupO, inR]]
        exact spec_NodeOk_p1 _ _ _ _ _ _ ⟨h1, c2, c3, (by rw [h4]; rfl), (by rw [h5]; rfl), trivial⟩
    | false =>
      rw [show nodeOk x = false from by grind [nodeOk, abOk, dupO, inR]]
      exact spec_NodeOk_p0 _ _ _ _ _ _ ⟨h1, c2, c3, (by rw [h4]; rfl), trivial⟩
  | false =>
    cases h10 : (x.kind == 3) with
    | true =>
      have c11 := spec_l01In_ret x.a 1 10
      have c12 := spec_l01In_ret x.b 0 (IntKind.i64.wrap (x.a - 1))
      have c13 := spec_l01In_ret x.kind 1 8
      cases h14 : (inR x.kind 1 8) with
      | true =>
        cases h15 : (inR x.a 1 10) with
        | true =>
          cases h16 : (inR x.b 0 (IntKind.i64.wrap (x.a - 1))) with
          | true =>
            cases h17 : (decide ((↑(x.outs.map eI).length : Int) > 2)) with
            | true =>
              rw [show nodeOk x = false from by grind [nodeOk, abOk, dupO, inR]]
              exact spec_NodeOk_p12 _ _ _ _ _ _ _ ⟨h1, h10, c11, c12, c13, (by rw [h14]; rfl), (by rw [h15]; rfl), (by rw [h16]; rfl), h17, trivial⟩
            | false =>
              cases h18 : (x.kind == 8) with
              | true =>
                cases h19 : (decide ((↑(x.outs.map eI).length : Int) > 0)) with
                | true =>
                  rw [show nodeOk x = false from by grind [nodeOk, abOk, dupO, inR]]
                  exact spec_NodeOk_p13 _ _ _ _ _ _ _ ⟨h1, h10, c11, c12, c13, (by rw [h14]; rfl), (by rw [h15]; rfl), (by rw [h16]; rfl), h17, h18, h19, trivial⟩
                | false =>
                  rcases spec_NodeOk_loop x (by grind) with ⟨hL, l⟩ | ⟨hL, l⟩
                  · skip
                    rw [show nodeOk x = false from by grind [nodeOk, abOk, dupO, inR]]
                    exact spec_NodeOk_p14 _ _ _ _ _ _ _ _ ⟨h1, h10, c11, c12, c13, (by rw [h14]; rfl), (by rw [h15]; rfl), (by rw [h16]; rfl), h17, h18, h19, l, trivial⟩
                  · skip
                    rw [show nodeOk x = true from by grind [nodeOk, abOk, dupO, inR]]
                    exact spec_NodeOk_p15 _ _ _ _ _ _ _ ⟨h1, h10, c11, c12, c13, (by rw [h14]; rfl), (by rw [h15]; rfl), (by rw [h16]; rfl), h17, h18, h19, l, trivial⟩
              | false =>
                rcases spec_NodeOk_loop x (by grind) with ⟨hL, l⟩ | ⟨hL, l⟩
                · skip
                  rw [show nodeOk x = false from by grind [nodeOk, abOk, dupO, inR]]
                  exact spec_NodeOk_p16 _ _ _ _ _ _ _ _ ⟨h1, h10, c11, c12, c13, (by rw [h14]; rfl), (by rw [h15]; rfl), (by rw [h16]; rfl), h17, h18, l, trivial⟩
                · skip
                  rw [show nodeOk x = true from by grind [nodeOk, abOk, dupO, inR]]
                  exact spec_NodeOk_p17 _ _ _ _ _ _ _ ⟨h1, h10, c11, c12, c13, (by rw [h14]; rfl), (by rw [h15]; rfl), (by rw [h16]; rfl), h17, h18, l, trivial⟩
          | false =>
            rw [show nodeOk x = false from by grind [nodeOk, abOk, dupO, inR]]
            exact spec_NodeOk_p11 _ _ _ _ _ _ _ ⟨h1, h10, c11, c12, c13, (by rw [h14]; rfl), (by rw [h15]; rfl), (by rw [h16]; rfl), trivial⟩
        | false =>
          rw [show nodeOk x = false from by grind [nodeOk, abOk, dupO, inR]]
          exact spec_NodeOk_p10 _ _ _ _ _ _ _ ⟨h1, h10, c11, c12, c13, (by rw [h14]; rfl), (by rw [h15]; rfl), trivial⟩
      | false =>
        rw [show nodeOk x = false from by grind [nodeOk, abOk, dupO, inR]]
        exact spec_NodeOk_p9 _ _ _ _ _ _ _ ⟨h1, h10, c11, c12, c13, (by rw [h14]; rfl), trivial⟩
    | false =>
      cases h20 : (x.kind == 4) with
      | true =>
        have c21 := spec_l01In_ret x.a 0 99
        have c22 := spec_l01In_ret x.kind 1 8
        cases h23 : (inR x.kind 1 8) with
        | true =>
          cases h24 : (inR x.a 0 99) with
          | true =>
            cases h25 : (x.b == 0) with
            | true =>
              cases h26 : (decide ((↑(x.outs.map eI).length : Int) > 2)) with
              | true =>
                rw [show nodeOk x = false from by grind [nodeOk, abOk, dupO, inR]]
                exact spec_NodeOk_p21 _ _ _ _ _ _ ⟨h1, h10, h20, c21, c22, (by rw [h23]; rfl), (by rw [h24]; rfl), (by rw [h25]; rfl), h26, trivial⟩
              | false =>
                cases h27 : (x.kind == 8) with
                | true =>
                  cases h28 : (decide ((↑(x.outs.map eI).length : Int) > 0)) with
                  | true =>
                    rw [show nodeOk x = false from by grind [nodeOk, abOk, dupO, inR]]
                    exact spec_NodeOk_p22 _ _ _ _ _ _ ⟨h1, h10, h20, c21, c22, (by rw [h23]; rfl), (by rw [h24]; rfl), (by rw [h25]; rfl), h26, h27, h28, trivial⟩
                  | false =>
                    rcases spec_NodeOk_loop x (by grind) with ⟨hL, l⟩ | ⟨hL, l⟩
                    · skip
                      rw [show nodeOk x = false from by grind [nodeOk, abOk, dupO, inR]]
                      exact spec_NodeOk_p23 _ _ _ _ _ _ _ ⟨h1, h10, h20, c21, c22, (by rw [h23]; rfl), (by rw [h24]; rfl), (by rw [h25]; rfl), h26, h27, h28, l, trivial⟩
                    · skip
                      rw [show nodeOk x = true from by grind [nodeOk, abOk, dupO, inR]]
                      exact spec_NodeOk_p24 _ _ _ _ _ _ ⟨h1, h10, h20, c21, c22, (by rw [h23]; rfl), (by rw [h24]; rfl), (by rw [h25]; rfl), h26, h27, h28, l, trivial⟩
                | false =>
                  rcases spec_NodeOk_loop x (by grind) with ⟨hL, l⟩ | ⟨hL, l⟩
                  · skip
                    rw [show nodeOk x = false from by grind [nodeOk, abOk, dupO, inR]]
                    exact spec_NodeOk_p25 _ _ _ _ _ _ _ ⟨h1, h10, h20, c21, c22, (by rw [h23]; rfl), (by rw [h24]; rfl), (by rw [h25]; rfl), h26, h27, l, trivial⟩
                  · skip
                    rw [show nodeOk x = true from by grind [nodeOk, abOk, dupO, inR]]
                    exact spec_NodeOk_p26 _ _ _ _ _ _ ⟨h1, h10, h20, c21, c22, (by rw [h23]; rfl), (by rw [h24]; rfl), (by rw [h25]; rfl), h26, h27, l, trivial⟩
            | false =>
              rw [show nodeOk x = false from by grind [nodeOk, abOk, dupO, inR]]
              exact spec_NodeOk_p20 _ _ _ _ _ _ ⟨h1, h10, h20, c21, c22, (by rw [h23]; rfl), (by rw [h24]; rfl), (by rw [h25]; rfl), trivial⟩
          | false =>
            rw [show nodeOk x = false from by grind [nodeOk, abOk, dupO, inR]]
            exact spec_NodeOk_p19 _ _ _ _ _ _ ⟨h1, h10, h20, c21, c22, (by rw [h23]; rfl), (by rw [h24]; rfl), trivial⟩
        | false =>
          rw [show nodeOk x = false from by grind [nodeOk, abOk, dupO, inR]]
          exact spec_NodeOk_p18 _ _ _ _ _ _ ⟨h1, h10, h20, c21, c22, (by rw [h23]; rfl), trivial⟩
      | false =>
        have c29 := spec_l01In_ret x.kind 1 8
        cases h30 : (inR x.kind 1 8) with
        | true =>
          cases h31 : (x.a == 0) with
          | true =>
            cases h32 : (x.b == 0) with
            | true =>
              cases h33 : (decide ((↑(x.outs.map eI).length : Int) > 2)) with
              | true =>
                rw [show nodeOk x = false from by grind [nodeOk, abOk, dupO, inR]]
                exact spec_NodeOk_p30 _ _ _ _ _ ⟨h1, h10, h20, c29, (by rw [h30]; rfl), (by rw [h31]; rfl), (by rw [h32]; rfl), h33, trivial⟩
              | false =>
                cases h34 : (x.kind == 8) with
                | true =>
                  cases h35 : (decide ((↑(x.outs.map eI).length : Int) > 0)) with
                  | true =>
                    rw [show nodeOk x = false from by grind [nodeOk, abOk, dupO, inR]]
                    exact spec_NodeOk_p31 _ _ _ _ _ ⟨h1, h10, h20, c29, (by rw [h30]; rfl), (by rw [h31]; rfl), (by rw [h32]; rfl), h33, h34, h35, trivial⟩
                  | false =>
                    rcases spec_NodeOk_loop x (by grind) with ⟨hL, l⟩ | ⟨hL, l⟩
                    · skip
                      rw [show nodeOk x = false from by grind [nodeOk, abOk, dupO, inR]]
                      exact spec_NodeOk_p32 _ _ _ _ _ _ ⟨h1, h10, h20, c29, (by rw [h30]; rfl), (by rw [h31]; rfl), (by rw [h32]; rfl), h33, h34, h35, l, trivial⟩
                    · skip
                      rw [show nodeOk x = true from by grind [nodeOk, abOk, dupO, inR]]
                      exact spec_NodeOk_p33 _ _ _ _ _ ⟨h1, h10, h20, c29, (by rw [h30]; rfl), (by rw [h31]; rfl), (by rw [h32]; rfl), h33, h34, h35, l, trivial⟩
                | false =>
                  rcases spec_NodeOk_loop x (by grind) with ⟨hL, l⟩ | ⟨hL, l⟩
                  · skip
                    rw [show nodeOk x = false from by grind [nodeOk, abOk, dupO, inR]]
                    exact spec_NodeOk_p34 _ _ _ _ _ _ ⟨h1, h10, h20, c29, (by rw [h30]; rfl), (by rw [h31]; rfl), (by rw [h32]; rfl), h33, h34, l, trivial⟩
                  · skip
                    rw [show nodeOk x = true from by grind [nodeOk, abOk, dupO, inR]]
                    exact spec_NodeOk_p35 _ _ _ _ _ ⟨h1, h10, h20, c29, (by rw [h30]; rfl), (by rw [h31]; rfl), (by rw [h32]; rfl), h33, h34, l, trivial⟩
            | false =>
              rw [show nodeOk x = false from by grind [nodeOk, abOk, dupO, inR]]
              exact spec_NodeOk_p29 _ _ _ _ _ ⟨h1, h10, h20, c29, (by rw [h30]; rfl), (by rw [h31]; rfl), (by rw [h32]; rfl), trivial⟩
          | false =>
            rw [show nodeOk x = false from by grind [nodeOk, abOk, dupO, inR]]
            exact spec_NodeOk_p28 _ _ _ _ _ ⟨h1, h10, h20, c29, (by rw [h30]; rfl), (by rw [h31]; rfl), trivial⟩
        | false =>
          rw [show nodeOk x = false from by grind [nodeOk, abOk, dupO, inR]]
          exact spec_NodeOk_p27 _ _ _ _ _ ⟨h1, h10, h20, c29, (by rw [h30]; rfl), trivial⟩

theorem impl_NodeOk_ret (x : Node) (hx : x.outs.length ≤ 1048576) : Ret Try.prog 141 [.agg x.e] [.one (B (nodeOk x))] := by
  cases h1 : (x.kind == 2) with
  | true =>
    have c2 := impl_within_ret x.a 0 999
    cases h3 : (inR x.a 0 999) with
    | true =>
      cases h4 : (x.b != 0) with
      | true =>
        rw [show nodeOk x = false from by grind [nodeOk, abOk, dupO, inR]]
        exact impl_NodeOk_p1 _ _ _ _ _ ⟨h1, c2, (by rw [h3]; rfl), h4, trivial⟩
      | false =>
        cases h5 : (decide ((↑(x.outs.map eI).length : Int) > 2)) with
        | true =>
          rw [show nodeOk x = false from by grind [nodeOk, abOk, dupO, inR]]
          exact impl_NodeOk_p2 _ _ _ _ _ ⟨h1, c2, (by rw [h3]; rfl), h4, h5, trivial⟩
        | false =>
          cases h6 : (x.kind == 8) with
          | true =>
            cases h7 : (decide ((↑(x.outs.map eI).length : Int) > 0)) with
            | true =>
              rw [show nodeOk x = false from by grind [nodeOk, abOk, dupO, inR]]
              exact impl_NodeOk_p3 _ _ _ _ _ ⟨h1, c2, (by rw [h3]; rfl), h4, h5, h6, h7, trivial⟩
            | false =>
              cases h8 : ((↑(x.outs.map eI).length : Int) == 2) with
              | true =>
                obtain ⟨y9, hy9⟩ := get_of (xs := x.outs) (i := 0) (by grind [inR, inInt])
                obtain ⟨y10, hy10⟩ := get_of (xs := x.outs) (i := 1) (by grind [inR, inInt])
                cases h11 : (y9 == y10) with
                | true =>
                  rw [show nodeOk x = false from by grind [nodeOk, abOk, dupO, inR]]
                  exact impl_NodeOk_p4 _ _ _ _ _ _ _ ⟨h1, c2, (by rw [h3]; rfl), h4, h5, h6, h7, h8, (by grind [inR, inInt]), (by grind [inR, inInt]), (at_mapN eI hy9), (by grind [inR, inInt]), (by grind [inR, inInt]), (at_mapN eI hy10), h11, trivial⟩
                | false =>
                  rcases impl_NodeOk_loop x hx with ⟨hL, l⟩ | ⟨hL, l⟩
                  · skip
                    rw [show nodeOk x = false from by grind [nodeOk, abOk, dupO, inR]]
                    exact impl_NodeOk_p5 _ _ _ _ _ _ _ _ ⟨h1, c2, (by rw [h3]; rfl), h4, h5, h6, h7, h8, (by grind [inR, inInt]), (by grind [inR, inInt]), (at_mapN eI hy9), (by grind [inR, inInt]), (by grind [inR, inInt]), (at_mapN eI hy10), h11, l, trivial⟩
                  · skip
                    rw [show nodeOk x = true from by grind [nodeOk, abOk, dupO, inR]]
                    exact impl_NodeOk_p6 _ _ _ _ _ _ _ ⟨h1, c2, (by rw [h3]; rfl), h4, h5, h6, h7, h8, (by grind [inR, inInt]), (by grind [inR, inInt]), (at_mapN eI hy9), (by grind [inR, inInt]), (by grind [inR, inInt]), (at_mapN eI hy10), h11, l, trivial⟩
              | false =>
                rcases impl_NodeOk_loop x hx with ⟨hL, l⟩ | ⟨hL, l⟩
                · skip
                  rw [show nodeOk x = false from by grind [nodeOk, abOk, dupO, inR]]
                  exact impl_NodeOk_p7 _ _ _ _ _ _ ⟨h1, c2, (by rw [h3]; rfl), h4, h5, h6, h7, h8, l, trivial⟩
                · skip
                  rw [show nodeOk x = true from by grind [nodeOk, abOk, dupO, inR]]
                  exact impl_NodeOk_p8 _ _ _ _ _ ⟨h1, c2, (by rw [h3]; rfl), h4, h5, h6, h7, h8, l, trivial⟩
          | false =>
            cases h12 : ((↑(x.outs.map eI).length : Int) == 2) with
            | true =>
              obtain ⟨y13, hy13⟩ := get_of (xs := x.outs) (i := 0) (by grind [inR, inInt])
              obtain ⟨y14, hy14⟩ := get_of (xs := x.outs) (i := 1) (by grind [inR, inInt])
              cases h15 : (y13 == y14) with
              | true =>
                rw [show nodeOk x = false from by grind [nodeOk, abOk, dupO, inR]]
                exact impl_NodeOk_p9 _ _ _ _ _ _ _ ⟨h1, c2, (by rw [h3]; rfl), h4, h5, h6, h12, (by grind [inR, inInt]), (by grind [inR, inInt]), (at_mapN eI hy13), (by grind [inR, inInt]), (by grind [inR, inInt]), (at_mapN eI hy14), h15, trivial⟩
              | false =>
                rcases impl_NodeOk_loop x hx with ⟨hL, l⟩ | ⟨hL, l⟩
                · skip
                  rw [show nodeOk x = false from by grind [nodeOk, abOk, dupO, inR]]
                  exact impl_NodeOk_p10 _ _ _ _ _ _ _ _ ⟨h1, c2, (by rw [h3]; rfl), h4, h5, h6, h12, (by grind [inR, inInt]), (by grind [inR, inInt]), (at_mapN eI hy13), (by grind [inR, inInt]), (by grind [inR, inInt]), (at_mapN eI hy14), h15, l, trivial⟩
                · skip
                  rw [show nodeOk x = true from by grind [nodeOk, abOk, dupO, inR]]
                  exact impl_NodeOk_p11 _ _ _ _ _ _ _ ⟨h1, c2, (by rw [h3]; rfl), h4, h5, h6, h12, (by grind [inR, inInt]), (by grind [inR, inInt]), (at_mapN eI hy13), (by grind [inR, inInt]), (by grind [inR, inInt]), (at_mapN eI hy14), h15, l, trivial⟩
            | false =>
              rcases impl_NodeOk_loop x hx with ⟨hL, l⟩ | ⟨hL, l⟩
              · skip
                rw [show nodeOk x = false from by grind [nodeOk, abOk, dupO, inR]]
                exact impl_NodeOk_p12 _ _ _ _ _ _ ⟨h1, c2, (by rw [h3]; rfl), h4, h5, h6, h12, l, trivial⟩
              · skip
                rw [show nodeOk x = true from by grind [nodeOk, abOk, dupO, inR]]
                exact impl_NodeOk_p13 _ _ _ _ _ ⟨h1, c2, (by rw [h3]; rfl), h4, h5, h6, h12, l, trivial⟩
    | false =>
      rw [show nodeOk x = false from by grind [nodeOk, abOk, dupO, inR]]
      exact impl_NodeOk_p0 _ _ _ _ _ ⟨h1, c2, (by rw [h3]; rfl), trivial⟩
  | false =>
    cases h16 : (x.kind == 3) with
    | true =>
      have c17 := impl_within_ret x.a 1 10
      cases h18 : (inR x.a 1 10) with
      | true =>
        have c19 := impl_within_ret x.b 0 (IntKind.i64.wrap (x.a - 1))
        cases h20 : (inR x.b 0 (IntKind.i64.wrap (x.a - 1))) with
        | true =>
          cases h21 : (decide ((↑(x.outs.map eI).length : Int) > 2)) with
          | true =>
            rw [show nodeOk x = false from by grind [nodeOk, abOk, dupO, inR]]
            exact impl_NodeOk_p16 _ _ _ _ _ _ ⟨h1, h16, c17, (by rw [h18]; rfl), c19, (by rw [h20]; rfl), h21, trivial⟩
          | false =>
            cases h22 : (x.kind == 8) with
            | true =>
              cases h23 : (decide ((↑(x.outs.map eI).length : Int) > 0)) with
              | true =>
                rw [show nodeOk x = false from by grind [nodeOk, abOk, dupO, inR]]
                exact impl_NodeOk_p17 _ _ _ _ _ _ ⟨h1, h16, c17, (by rw [h18]; rfl), c19, (by rw [h20]; rfl), h21, h22, h23, trivial⟩
              | false =>
                cases h24 : ((↑(x.outs.map eI).length : Int) == 2) with
                | true =>
                  obtain ⟨y25, hy25⟩ := get_of (xs := x.outs) (i := 0) (by grind [inR, inInt])
                  obtain ⟨y26, hy26⟩ := get_of (xs := x.outs) (i := 1) (by grind [inR, inInt])
                  cases h27 : (y25 == y26) with
                  | true =>
                    rw [show nodeOk x = false from by grind [nodeOk, abOk, dupO, inR]]
                    exact impl_NodeOk_p18 _ _ _ _ _ _ _ _ ⟨h1, h16, c17, (by rw [h18]; rfl), c19, (by rw [h20]; rfl), h21, h22, h23, h24, (by grind [inR, inInt]), (by grind [inR, inInt]), (at_mapN eI hy25), (by grind [inR, inInt]), (by grind [inR, inInt]), (at_mapN eI hy26), h27, trivial⟩
                  | false =>
                    rcases impl_NodeOk_loop x hx with ⟨hL, l⟩ | ⟨hL, l⟩
                    · skip
                      rw [show nodeOk x = false from by grind [nodeOk, abOk, dupO, inR]]
                      exact impl_NodeOk_p19 _ _ _ _ _ _ _ _ _ ⟨h1, h16, c17, (by rw [h18]; rfl), c19, (by rw [h20]; rfl), h21, h22, h23, h24, (by grind [inR, inInt]), (by grind [inR, inInt]), (at_mapN eI hy25), (by grind [inR, inInt]), (by grind [inR, inInt]), (at_mapN eI hy26), h27, l, trivial⟩
                    · skip
                      rw [show nodeOk x = true from by grind [nodeOk, abOk, dupO, inR]]
                      exact impl_NodeOk_p20 _ _ _ _ _ _ _ _ ⟨h1, h16, c17, (by rw [h18]; rfl), c19, (by rw [h20]; rfl), h21, h22, h23, h24, (by grind [inR, inInt]), (by grind [inR, inInt]), (at_mapN eI hy25), (by grind [inR, inInt]), (by grind [inR, inInt]), (at_mapN eI hy26), h27, l, trivial⟩
                | false =>
                  rcases impl_NodeOk_loop x hx with ⟨hL, l⟩ | ⟨hL, l⟩
                  · skip
                    rw [show nodeOk x = false from by grind [nodeOk, abOk, dupO, inR]]
                    exact impl_NodeOk_p21 _ _ _ _ _ _ _ ⟨h1, h16, c17, (by rw [h18]; rfl), c19, (by rw [h20]; rfl), h21, h22, h23, h24, l, trivial⟩
                  · skip
                    rw [show nodeOk x = true from by grind [nodeOk, abOk, dupO, inR]]
                    exact impl_NodeOk_p22 _ _ _ _ _ _ ⟨h1, h16, c17, (by rw [h18]; rfl), c19, (by rw [h20]; rfl), h21, h22, h23, h24, l, trivial⟩
            | false =>
              cases h28 : ((↑(x.outs.map eI).length : Int) == 2) with
              | true =>
                obtain ⟨y29, hy29⟩ := get_of (xs := x.outs) (i := 0) (by grind [inR, inInt])
                obtain ⟨y30, hy30⟩ := get_of (xs := x.outs) (i := 1) (by grind [inR, inInt])
                cases h31 : (y29 == y30) with
                | true =>
                  rw [show nodeOk x = false from by grind [nodeOk, abOk, dupO, inR]]
                  exact impl_NodeOk_p23 _ _ _ _ _ _ _ _ ⟨h1, h16, c17, (by rw [h18]; rfl), c19, (by rw [h20]; rfl), h21, h22, h28, (by grind [inR, inInt]), (by grind [inR, inInt]), (at_mapN eI hy29), (by grind [inR, inInt]), (by grind [inR, inInt]), (at_mapN eI hy30), h31, trivial⟩
                | false =>
                  rcases impl_NodeOk_loop x hx with ⟨hL, l⟩ | ⟨hL, l⟩
                  · skip
                    rw [show nodeOk x = false from by grind [nodeOk, abOk, dupO, inR]]
                    exact impl_NodeOk_p24 _ _ _ _ _ _ _ _ _ ⟨h1, h16, c17, (by rw [h18]; rfl), c19, (by rw [h20]; rfl), h21, h22, h28, (by grind [inR, inInt]), (by grind [inR, inInt]), (at_mapN eI hy29), (by grind [inR, inInt]), (by grind [inR, inInt]), (at_mapN eI hy30), h31, l, trivial⟩
                  · skip
                    rw [show nodeOk x = true from by grind [nodeOk, abOk, dupO, inR]]
                    exact impl_NodeOk_p25 _ _ _ _ _ _ _ _ ⟨h1, h16, c17, (by rw [h18]; rfl), c19, (by rw [h20]; rfl), h21, h22, h28, (by grind [inR, inInt]), (by grind [inR, inInt]), (at_mapN eI hy29), (by grind [inR, inInt]), (by grind [inR, inInt]), (at_mapN eI hy30), h31, l, trivial⟩
              | false =>
                rcases impl_NodeOk_loop x hx with ⟨hL, l⟩ | ⟨hL, l⟩
                · skip
                  rw [show nodeOk x = false from by grind [nodeOk, abOk, dupO, inR]]
                  exact impl_NodeOk_p26 _ _ _ _ _ _ _ ⟨h1, h16, c17, (by rw [h18]; rfl), c19, (by rw [h20]; rfl), h21, h22, h28, l, trivial⟩
                · skip
                  rw [show nodeOk x = true from by grind [nodeOk, abOk, dupO, inR]]
                  exact impl_NodeOk_p27 _ _ _ _ _ _ ⟨h1, h16, c17, (by rw [h18]; rfl), c19, (by rw [h20]; rfl), h21, h22, h28, l, trivial⟩
        | false =>
          rw [show nodeOk x = false from by grind [nodeOk, abOk, dupO, inR]]
          exact impl_NodeOk_p15 _ _ _ _ _ _ ⟨h1, h16, c17, (by rw [h18]; rfl), c19, (by rw [h20]; rfl), trivial⟩
      | false =>
        rw [show nodeOk x = false from by grind [nodeOk, abOk, dupO, inR]]
        exact impl_NodeOk_p14 _ _ _ _ _ ⟨h1, h16, c17, (by rw [h18]; rfl), trivial⟩
    | false =>
      cases h32 : (x.kind == 4) with
      | true =>
        have c33 := impl_within_ret x.a 0 99
        cases h34 : (inR x.a 0 99) with
        | true =>
          cases h35 : (x.b != 0) with
          | true =>
            rw [show nodeOk x = false from by grind [nodeOk, abOk, dupO, inR]]
            exact impl_NodeOk_p29 _ _ _ _ _ ⟨h1, h16, h32, c33, (by rw [h34]; rfl), h35, trivial⟩
          | false =>
            cases h36 : (decide ((↑(x.outs.map eI).length : Int) > 2)) with
            | true =>
              rw [show nodeOk x = false from by grind [nodeOk, abOk, dupO, inR]]
              exact impl_NodeOk_p30 _ _ _ _ _ ⟨h1, h16, h32, c33, (by rw [h34]; rfl), h35, h36, trivial⟩
            | false =>
              cases h37 : (x.kind == 8) with
              | true =>
                cases h38 : (decide ((↑(x.outs.map eI).length : Int) > 0)) with
                | true =>
                  rw [show nodeOk x = false from by grind [nodeOk, abOk, dupO, inR]]
                  exact impl_NodeOk_p31 _ _ _ _ _ ⟨h1, h16, h32, c33, (by rw [h34]; rfl), h35, h36, h37, h38, trivial⟩
                | false =>
                  cases h39 : ((↑(x.outs.map eI).length : Int) == 2) with
                  | true =>
                    obtain ⟨y40, hy40⟩ := get_of (xs := x.outs) (i := 0) (by grind [inR, inInt])
                    obtain ⟨y41, hy41⟩ := get_of (xs := x.outs) (i := 1) (by grind [inR, inInt])
                    cases h42 : (y40 == y41) with
                    | true =>
                      rw [show nodeOk x = false from by grind [nodeOk, abOk, dupO, inR]]
                      exact impl_NodeOk_p32 _ _ _ _ _ _ _ ⟨h1, h16, h32, c33, (by rw [h34]; rfl), h35, h36, h37, h38, h39, (by grind [inR, inInt]), (by grind [inR, inInt]), (at_mapN eI hy40), (by grind [inR, inInt]), (by grind [inR, inInt]), (at_mapN eI hy41), h42, trivial⟩
                    | false =>
                      rcases impl_NodeOk_loop x hx with ⟨hL, l⟩ | ⟨hL, l⟩
                      · skip
                        rw [show nodeOk x = false from by grind [nodeOk, abOk, dupO, inR]]
                        exact impl_NodeOk_p33 _ _ _ _ _ _ _ _ ⟨h1, h16, h32, c33, (by rw [h34]; rfl), h35, h36, h37, h38, h39, (by grind [inR, inInt]), (by grind [inR, inInt]), (at_mapN eI hy40), (by grind [inR, inInt]), (by grind [inR, inInt]), (at_mapN eI hy41), h42, l, trivial⟩
                      · skip
                        rw [show nodeOk x = true from by grind [nodeOk, abOk, dupO, inR]]
                        exact impl_NodeOk_p34 _ _ _ _ _ _ _ ⟨h1, h16, h32, c33, (by rw [h34]; rfl), h35, h36, h37, h38, h39, (by grind [inR, inInt]), (by grind [inR, inInt]), (at_mapN eI hy40), (by grind [inR, inInt]), (by grind [inR, inInt]), (at_mapN eI hy41), h42, l, trivial⟩
                  | false =>
                    rcases impl_NodeOk_loop x hx with ⟨hL, l⟩ | ⟨hL, l⟩
                    · skip
                      rw [show nodeOk x = false from by grind [nodeOk, abOk, dupO, inR]]
                      exact impl_NodeOk_p35 _ _ _ _ _ _ ⟨h1, h16, h32, c33, (by rw [h34]; rfl), h35, h36, h37, h38, h39, l, trivial⟩
                    · skip
                      rw [show nodeOk x = true from by grind [nodeOk, abOk, dupO, inR]]
                      exact impl_NodeOk_p36 _ _ _ _ _ ⟨h1, h16, h32, c33, (by rw [h34]; rfl), h35, h36, h37, h38, h39, l, trivial⟩
              | false =>
                cases h43 : ((↑(x.outs.map eI).length : Int) == 2) with
                | true =>
                  obtain ⟨y44, hy44⟩ := get_of (xs := x.outs) (i := 0) (by grind [inR, inInt])
                  obtain ⟨y45, hy45⟩ := get_of (xs := x.outs) (i := 1) (by grind [inR, inInt])
                  cases h46 : (y44 == y45) with
                  | true =>
                    rw [show nodeOk x = false from by grind [nodeOk, abOk, dupO, inR]]
                    exact impl_NodeOk_p37 _ _ _ _ _ _ _ ⟨h1, h16, h32, c33, (by rw [h34]; rfl), h35, h36, h37, h43, (by grind [inR, inInt]), (by grind [inR, inInt]), (at_mapN eI hy44), (by grind [inR, inInt]), (by grind [inR, inInt]), (at_mapN eI hy45), h46, trivial⟩
                  | false =>
                    rcases impl_NodeOk_loop x hx with ⟨hL, l⟩ | ⟨hL, l⟩
                    · skip
                      rw [show nodeOk x = false from by grind [nodeOk, abOk, dupO, inR]]
                      exact impl_NodeOk_p38 _ _ _ _ _ _ _ _ ⟨h1, h16, h32, c33, (by rw [h34]; rfl), h35, h36, h37, h43, (by grind [inR, inInt]), (by grind [inR, inInt]), (at_mapN eI hy44), (by grind [inR, inInt]), (by grind [inR, inInt]), (at_mapN eI hy45), h46, l, trivial⟩
                    · skip
                      rw [show nodeOk x = true from by grind [nodeOk, abOk, dupO, inR]]
                      exact impl_NodeOk_p39 _ _ _ _ _ _ _ ⟨h1, h16, h32, c33, (by rw [h34]; rfl), h35, h36, h37, h43, (by grind [inR, inInt]), (by grind [inR, inInt]), (at_mapN eI hy44), (by grind [inR, inInt]), (by grind [inR, inInt]), (at_mapN eI hy45), h46, l, trivial⟩
                | false =>
                  rcases impl_NodeOk_loop x hx with ⟨hL, l⟩ | ⟨hL, l⟩
                  · skip
                    rw [show nodeOk x = false from by grind [nodeOk, abOk, dupO, inR]]
                    exact impl_NodeOk_p40 _ _ _ _ _ _ ⟨h1, h16, h32, c33, (by rw [h34]; rfl), h35, h36, h37, h43, l, trivial⟩
                  · skip
                    rw [show nodeOk x = true from by grind [nodeOk, abOk, dupO, inR]]
                    exact impl_NodeOk_p41 _ _ _ _ _ ⟨h1, h16, h32, c33, (by rw [h34]; rfl), h35, h36, h37, h43, l, trivial⟩
        | false =>
          rw [show nodeOk x = false from by grind [nodeOk, abOk, dupO, inR]]
          exact impl_NodeOk_p28 _ _ _ _ _ ⟨h1, h16, h32, c33, (by rw [h34]; rfl), trivial⟩
      | false =>
        cases h47 : (x.kind == 1) with
        | true =>
          cases h48 : (x.a != 0) with
          | true =>
            rw [show nodeOk x = false from by grind [nodeOk, abOk, dupO, inR]]
            exact impl_NodeOk_p42 _ _ _ _ ⟨h1, h16, h32, h47, h47, h48, trivial⟩
          | false =>
            cases h49 : (x.b != 0) with
            | true =>
              rw [show nodeOk x = false from by grind [nodeOk, abOk, dupO, inR]]
              exact impl_NodeOk_p43 _ _ _ _ ⟨h1, h16, h32, h47, h47, h48, h49, trivial⟩
            | false =>
              cases h50 : (decide ((↑(x.outs.map eI).length : Int) > 2)) with
              | true =>
                rw [show nodeOk x = false from by grind [nodeOk, abOk, dupO, inR]]
                exact impl_NodeOk_p44 _ _ _ _ ⟨h1, h16, h32, h47, h47, h48, h49, h50, trivial⟩
              | false =>
                cases h51 : (x.kind == 8) with
                | true =>
                  cases h52 : (decide ((↑(x.outs.map eI).length : Int) > 0)) with
                  | true =>
                    rw [show nodeOk x = false from by grind [nodeOk, abOk, dupO, inR]]
                    exact impl_NodeOk_p45 _ _ _ _ ⟨h1, h16, h32, h47, h47, h48, h49, h50, h51, h52, trivial⟩
                  | false =>
                    cases h53 : ((↑(x.outs.map eI).length : Int) == 2) with
                    | true =>
                      obtain ⟨y54, hy54⟩ := get_of (xs := x.outs) (i := 0) (by grind [inR, inInt])
                      obtain ⟨y55, hy55⟩ := get_of (xs := x.outs) (i := 1) (by grind [inR, inInt])
                      cases h56 : (y54 == y55) with
                      | true =>
                        rw [show nodeOk x = false from by grind [nodeOk, abOk, dupO, inR]]
                        exact impl_NodeOk_p46 _ _ _ _ _ _ ⟨h1, h16, h32, h47, h47, h48, h49, h50, h51, h52, h53, (by grind [inR, inInt]), (by grind [inR, inInt]), (at_mapN eI hy54), (by grind [inR, inInt]), (by grind [inR, inInt]), (at_mapN eI hy55), h56, trivial⟩
                      | false =>
                        rcases impl_NodeOk_loop x hx with ⟨hL, l⟩ | ⟨hL, l⟩
                        · skip
                          rw [show nodeOk x = false from by grind [nodeOk, abOk, dupO, inR]]
                          exact impl_NodeOk_p47 _ _ _ _ _ _ _ ⟨h1, h16, h32, h47, h47, h48, h49, h50, h51, h52, h53, (by grind [inR, inInt]), (by grind [inR, inInt]), (at_mapN eI hy54), (by grind [inR, inInt]), (by grind [inR, inInt]), (at_mapN eI hy55), h56, l, trivial⟩
                        · skip
                          rw [show nodeOk x = true from by grind [nodeOk, abOk, dupO, inR]]
                          exact impl_NodeOk_p48 _ _ _ _ _ _ ⟨h1, h16, h32, h47, h47, h48, h49, h50, h51, h52, h53, (by grind [inR, inInt]), (by grind [inR, inInt]), (at_mapN eI hy54), (by grind [inR, inInt]), (by grind [inR, inInt]), (at_mapN eI hy55), h56, l, trivial⟩
                    | false =>
                      rcases impl_NodeOk_loop x hx with ⟨hL, l⟩ | ⟨hL, l⟩
                      · skip
                        rw [show nodeOk x = false from by grind [nodeOk, abOk, dupO, inR]]
                        exact impl_NodeOk_p49 _ _ _ _ _ ⟨h1, h16, h32, h47, h47, h48, h49, h50, h51, h52, h53, l, trivial⟩
                      · skip
                        rw [show nodeOk x = true from by grind [nodeOk, abOk, dupO, inR]]
                        exact impl_NodeOk_p50 _ _ _ _ ⟨h1, h16, h32, h47, h47, h48, h49, h50, h51, h52, h53, l, trivial⟩
                | false =>
                  cases h57 : ((↑(x.outs.map eI).length : Int) == 2) with
                  | true =>
                    obtain ⟨y58, hy58⟩ := get_of (xs := x.outs) (i := 0) (by grind [inR, inInt])
                    obtain ⟨y59, hy59⟩ := get_of (xs := x.outs) (i := 1) (by grind [inR, inInt])
                    cases h60 : (y58 == y59) with
                    | true =>
                      rw [show nodeOk x = false from by grind [nodeOk, abOk, dupO, inR]]
                      exact impl_NodeOk_p51 _ _ _ _ _ _ ⟨h1, h16, h32, h47, h47, h48, h49, h50, h51, h57, (by grind [inR, inInt]), (by grind [inR, inInt]), (at_mapN eI hy58), (by grind [inR, inInt]), (by grind [inR, inInt]), (at_mapN eI hy59), h60, trivial⟩
                    | false =>
                      rcases impl_NodeOk_loop x hx with ⟨hL, l⟩ | ⟨hL, l⟩
                      · skip
                        rw [show nodeOk x = false from by grind [nodeOk, abOk, dupO, inR]]
                        exact impl_NodeOk_p52 _ _ _ _ _ _ _ ⟨h1, h16, h32, h47, h47, h48, h49, h50, h51, h57, (by grind [inR, inInt]), (by grind [inR, inInt]), (at_mapN eI hy58), (by grind [inR, inInt]), (by grind [inR, inInt]), (at_mapN eI hy59), h60, l, trivial⟩
                      · skip
                        rw [show nodeOk x = true from by grind [nodeOk, abOk, dupO, inR]]
                        exact impl_NodeOk_p53 _ _ _ _ _ _ ⟨h1, h16, h32, h47, h47, h48, h49, h50, h51, h57, (by grind [inR, inInt]), (by grind [inR, inInt]), (at_mapN eI hy58), (by grind [inR, inInt]), (by grind [inR, inInt]), (at_mapN eI hy59), h60, l, trivial⟩
                  | false =>
                    rcases impl_NodeOk_loop x hx with ⟨hL, l⟩ | ⟨hL, l⟩
                    · skip
                      rw [show nodeOk x = false from by grind [nodeOk, abOk, dupO, inR]]
                      exact impl_NodeOk_p54 _ _ _ _ _ ⟨h1, h16, h32, h47, h47, h48, h49, h50, h51, h57, l, trivial⟩
                    · skip
                      rw [show nodeOk x = true from by grind [nodeOk, abOk, dupO, inR]]
                      exact impl_NodeOk_p55 _ _ _ _ ⟨h1, h16, h32, h47, h47, h48, h49, h50, h51, h57, l, trivial⟩
        | false =>
          cases h61 : (x.kind == 5) with
          | true =>
            cases h62 : (x.a != 0) with
            | true =>
              rw [show nodeOk x = false from by grind [nodeOk, abOk, dupO, inR]]
              exact impl_NodeOk_p56 _ _ _ _ ⟨h1, h16, h32, h47, h61, h61, h62, trivial⟩
            | false =>
              cases h63 : (x.b != 0) with
              | true =>
                rw [show nodeOk x = false from by grind [nodeOk, abOk, dupO, inR]]
                exact impl_NodeOk_p57 _ _ _ _ ⟨h1, h16, h32, h47, h61, h61, h62, h63, trivial⟩
              | false =>
                cases h64 : (decide ((↑(x.outs.map eI).length : Int) > 2)) with
                | true =>
                  rw [show nodeOk x = false from by grind [nodeOk, abOk, dupO, inR]]
                  exact impl_NodeOk_p58 _ _ _ _ ⟨h1, h16, h32, h47, h61, h61, h62, h63, h64, trivial⟩
                | false =>
                  cases h65 : (x.kind == 8) with
                  | true =>
                    cases h66 : (decide ((↑(x.outs.map eI).length : Int) > 0)) with
                    | true =>
                      rw [show nodeOk x = false from by grind [nodeOk, abOk, dupO, inR]]
                      exact impl_NodeOk_p59 _ _ _ _ ⟨h1, h16, h32, h47, h61, h61, h62, h63, h64, h65, h66, trivial⟩
                    | false =>
                      cases h67 : ((↑(x.outs.map eI).length : Int) == 2) with
                      | true =>
                        obtain ⟨y68, hy68⟩ := get_of (xs := x.outs) (i := 0) (by grind [inR, inInt])
                        obtain ⟨y69, hy69⟩ := get_of (xs := x.outs) (i := 1) (by grind [inR, inInt])
                        cases h70 : (y68 == y69) with
                        | true =>
                          rw [show nodeOk x = false from by grind [nodeOk, abOk, dupO, inR]]
                          exact impl_NodeOk_p60 _ _ _ _ _ _ ⟨h1, h16, h32, h47, h61, h61, h62, h63, h64, h65, h66, h67, (by grind [inR, inInt]), (by grind [inR, inInt]), (at_mapN eI hy68), (by grind [inR, inInt]), (by grind [inR, inInt]), (at_mapN eI hy69), h70, trivial⟩
                        | false =>
                          rcases impl_NodeOk_loop x hx with ⟨hL, l⟩ | ⟨hL, l⟩
                          · skip
                            rw [show nodeOk x = false from by grind [nodeOk, abOk, dupO, inR]]
                            exact impl_NodeOk_p61 _ _ _ _ _ _ _ ⟨h1, h16, h32, h47, h61, h61, h62, h63, h64, h65, h66, h67, (by grind [inR, inInt]), (by grind [inR, inInt]), (at_mapN eI hy68), (by grind [inR, inInt]), (by grind [inR, inInt]), (at_mapN eI hy69), h70, l, trivial⟩
                          · skip
                            rw [show nodeOk x = true from by grind [nodeOk, abOk, dupO, inR]]
                            exact impl_NodeOk_p62 _ _ _ _ _ _ ⟨h1, h16, h32, h47, h61, h61, h62, h63, h64, h65, h66, h67, (by grind [inR, inInt]), (by grind [inR, inInt]), (at_mapN eI hy68), (by grind [inR, inInt]), (by grind [inR, inInt]), (at_mapN eI hy69), h70, l, trivial⟩
                      | false =>
                        rcases impl_NodeOk_loop x hx with ⟨hL, l⟩ | ⟨hL, l⟩
                        · skip
                          rw [show nodeOk x = false from by grind [nodeOk, abOk, dupO, inR]]
                          exact impl_NodeOk_p63 _ _ _ _ _ ⟨h1, h16, h32, h47, h61, h61, h62, h63, h64, h65, h66, h67, l, trivial⟩
                        · skip
                          rw [show nodeOk x = true from by grind [nodeOk, abOk, dupO, inR]]
                          exact impl_NodeOk_p64 _ _ _ _ ⟨h1, h16, h32, h47, h61, h61, h62, h63, h64, h65, h66, h67, l, trivial⟩
                  | false =>
                    cases h71 : ((↑(x.outs.map eI).length : Int) == 2) with
                    | true =>
                      obtain ⟨y72, hy72⟩ := get_of (xs := x.outs) (i := 0) (by grind [inR, inInt])
                      obtain ⟨y73, hy73⟩ := get_of (xs := x.outs) (i := 1) (by grind [inR, inInt])
                      cases h74 : (y72 == y73) with
                      | true =>
                        rw [show nodeOk x = false from by grind [nodeOk, abOk, dupO, inR]]
                        exact impl_NodeOk_p65 _ _ _ _ _ _ ⟨h1, h16, h32, h47, h61, h61, h62, h63, h64, h65, h71, (by grind [inR, inInt]), (by grind [inR, inInt]), (at_mapN eI hy72), (by grind [inR, inInt]), (by grind [inR, inInt]), (at_mapN eI hy73), h74, trivial⟩
                      | false =>
                        rcases impl_NodeOk_loop x hx with ⟨hL, l⟩ | ⟨hL, l⟩
                        · skip
                          rw [show nodeOk x = false from by grind [nodeOk, abOk, dupO, inR]]
                          exact impl_NodeOk_p66 _ _ _ _ _ _ _ ⟨h1, h16, h32, h47, h61, h61, h62, h63, h64, h65, h71, (by grind [inR, inInt]), (by grind [inR, inInt]), (at_mapN eI hy72), (by grind [inR, inInt]), (by grind [inR, inInt]), (at_mapN eI hy73), h74, l, trivial⟩
                        · skip
                          rw [show nodeOk x = true from by grind [nodeOk, abOk, dupO, inR]]
                          exact impl_NodeOk_p67 _ _ _ _ _ _ ⟨h1, h16, h32, h47, h61, h61, h62, h63, h64, h65, h71, (by grind [inR, inInt]), (by grind [inR, inInt]), (at_mapN eI hy72), (by grind [inR, inInt]), (by grind [inR, inInt]), (at_mapN eI hy73), h74, l, trivial⟩
                    | false =>
                      rcases impl_NodeOk_loop x hx with ⟨hL, l⟩ | ⟨hL, l⟩
                      · skip
                        rw [show nodeOk x = false from by grind [nodeOk, abOk, dupO, inR]]
                        exact impl_NodeOk_p68 _ _ _ _ _ ⟨h1, h16, h32, h47, h61, h61, h62, h63, h64, h65, h71, l, trivial⟩
                      · skip
                        rw [show nodeOk x = true from by grind [nodeOk, abOk, dupO, inR]]
                        exact impl_NodeOk_p69 _ _ _ _ ⟨h1, h16, h32, h47, h61, h61, h62, h63, h64, h65, h71, l, trivial⟩
          | false =>
            cases h75 : (x.kind == 6) with
            | true =>
              cases h76 : (x.a != 0) with
              | true =>
                rw [show nodeOk x = false from by grind [nodeOk, abOk, dupO, inR]]
                exact impl_NodeOk_p70 _ _ _ _ ⟨h1, h16, h32, h47, h61, h75, h75, h76, trivial⟩
              | false =>
                cases h77 : (x.b != 0) with
                | true =>
                  rw [show nodeOk x = false from by grind [nodeOk, abOk, dupO, inR]]
                  exact impl_NodeOk_p71 _ _ _ _ ⟨h1, h16, h32, h47, h61, h75, h75, h76, h77, trivial⟩
                | false =>
                  cases h78 : (decide ((↑(x.outs.map eI).length : Int) > 2)) with
                  | true =>
                    rw [show nodeOk x = false from by grind [nodeOk, abOk, dupO, inR]]
                    exact impl_NodeOk_p72 _ _ _ _ ⟨h1, h16, h32, h47, h61, h75, h75, h76, h77, h78, trivial⟩
                  | false =>
                    cases h79 : (x.kind == 8) with
                    | true =>
                      cases h80 : (decide ((↑(x.outs.map eI).length : Int) > 0)) with
                      | true =>
                        rw [show nodeOk x = false from by grind [nodeOk, abOk, dupO, inR]]
                        exact impl_NodeOk_p73 _ _ _ _ ⟨h1, h16, h32, h47, h61, h75, h75, h76, h77, h78, h79, h80, trivial⟩
                      | false =>
                        cases h81 : ((↑(x.outs.map eI).length : Int) == 2) with
                        | true =>
                          obtain ⟨y82, hy82⟩ := get_of (xs := x.outs) (i := 0) (by grind [inR, inInt])
                          obtain ⟨y83, hy83⟩ := get_of (xs := x.outs) (i := 1) (by grind [inR, inInt])
                          cases h84 : (y82 == y83) with
                          | true =>
                            rw [show nodeOk x = false from by grind [nodeOk, abOk, dupO, inR]]
                            exact impl_NodeOk_p74 _ _ _ _ _ _ ⟨h1, h16, h32, h47, h61, h75, h75, h76, h77, h78, h79, h80, h81, (by grind [inR, inInt]), (by grind [inR, inInt]), (at_mapN eI hy82), (by grind [inR, inInt]), (by grind [inR, inInt]), (at_mapN eI hy83), h84, trivial⟩
                          | false =>
                            rcases impl_NodeOk_loop x hx with ⟨hL, l⟩ | ⟨hL, l⟩
                            · skip
                              rw [show nodeOk x = false from by grind [nodeOk, abOk, dupO, inR]]
                              exact impl_NodeOk_p75 _ _ _ _ _ _ _ ⟨h1, h16, h32, h47, h61, h75, h75, h76, h77, h78, h79, h80, h81, (by grind [inR, inInt]), (by grind [inR, inInt]), (at_mapN eI hy82), (by grind [inR, inInt]), (by grind [inR, inInt]), (at_mapN eI hy83), h84, l, trivial⟩
                            · skip
                              rw [show nodeOk x = true from by grind [nodeOk, abOk, dupO, inR]]
                              exact impl_NodeOk_p76 _ _ _ _ _ _ ⟨h1, h16, h32, h47, h61, h75, h75, h76, h77, h78, h79, h80, h81, (by grind [inR, inInt]), (by grind [inR, inInt]), (at_mapN eI hy82), (by grind [inR, inInt]), (by grind [inR, inInt]), (at_mapN eI hy83), h84, l, trivial⟩
                        | false =>
                          rcases impl_NodeOk_loop x hx with ⟨hL, l⟩ | ⟨hL, l⟩
                          · skip
                            rw [show nodeOk x = false from by grind [nodeOk, abOk, dupO, inR]]
                            exact impl_NodeOk_p77 _ _ _ _ _ ⟨h1, h16, h32, h47, h61, h75, h75, h76, h77, h78, h79, h80, h81, l, trivial⟩
                          · skip
                            rw [show nodeOk x = true from by grind [nodeOk, abOk, dupO, inR]]
                            exact impl_NodeOk_p78 _ _ _ _ ⟨h1, h16, h32, h47, h61, h75, h75, h76, h77, h78, h79, h80, h81, l, trivial⟩
                    | false =>
                      cases h85 : ((↑(x.outs.map eI).length : Int) == 2) with
                      | true =>
                        obtain ⟨y86, hy86⟩ := get_of (xs := x.outs) (i := 0) (by grind [inR, inInt])
                        obtain ⟨y87, hy87⟩ := get_of (xs := x.outs) (i := 1) (by grind [inR, inInt])
                        cases h88 : (y86 == y87) with
                        | true =>
                          rw [show nodeOk x = false from by grind [nodeOk, abOk, dupO, inR]]
                          exact impl_NodeOk_p79 _ _ _ _ _ _ ⟨h1, h16, h32, h47, h61, h75, h75, h76, h77, h78, h79, h85, (by grind [inR, inInt]), (by grind [inR, inInt]), (at_mapN eI hy86), (by grind [inR, inInt]), (by grind [inR, inInt]), (at_mapN eI hy87), h88, trivial⟩
                        | false =>
                          rcases impl_NodeOk_loop x hx with ⟨hL, l⟩ | ⟨hL, l⟩
                          · skip
                            rw [show nodeOk x = false from by grind [nodeOk, abOk, dupO, inR]]
                            exact impl_NodeOk_p80 _ _ _ _ _ _ _ ⟨h1, h16, h32, h47, h61, h75, h75, h76, h77, h78, h79, h85, (by grind [inR, inInt]), (by grind [inR, inInt]), (at_mapN eI hy86), (by grind [inR, inInt]), (by grind [inR, inInt]), (at_mapN eI hy87), h88, l, trivial⟩
                          · skip
                            rw [show nodeOk x = true from by grind [nodeOk, abOk, dupO, inR]]
                            exact impl_NodeOk_p81 _ _ _ _ _ _ ⟨h1, h16, h32, h47, h61, h75, h75, h76, h77, h78, h79, h85, (by grind [inR, inInt]), (by grind [inR, inInt]), (at_mapN eI hy86), (by grind [inR, inInt]), (by grind [inR, inInt]), (at_mapN eI hy87), h88, l, trivial⟩
                      | false =>
                        rcases impl_NodeOk_loop x hx with ⟨hL, l⟩ | ⟨hL, l⟩
                        · skip
                          rw [show nodeOk x = false from by grind [nodeOk, abOk, dupO, inR]]
                          exact impl_NodeOk_p82 _ _ _ _ _ ⟨h1, h16, h32, h47, h61, h75, h75, h76, h77, h78, h79, h85, l, trivial⟩
                        · skip
                          rw [show nodeOk x = true from by grind [nodeOk, abOk, dupO, inR]]
                          exact impl_NodeOk_p83 _ _ _ _ ⟨h1, h16, h32, h47, h61, h75, h75, h76, h77, h78, h79, h85, l, trivial⟩
            | false =>
              cases h89 : (x.kind == 7) with
              | true =>
                cases h90 : (x.a != 0) with
                | true =>
                  rw [show nodeOk x = false from by grind [nodeOk, abOk, dupO, inR]]
                  exact impl_NodeOk_p84 _ _ _ _ ⟨h1, h16, h32, h47, h61, h75, h89, h89, h90, trivial⟩
                | false =>
                  cases h91 : (x.b != 0) with
                  | true =>
                    rw [show nodeOk x = false from by grind [nodeOk, abOk, dupO, inR]]
                    exact impl_NodeOk_p85 _ _ _ _ ⟨h1, h16, h32, h47, h61, h75, h89, h89, h90, h91, trivial⟩
                  | false =>
                    cases h92 : (decide ((↑(x.outs.map eI).length : Int) > 2)) with
                    | true =>
                      rw [show nodeOk x = false from by grind [nodeOk, abOk, dupO, inR]]
                      exact impl_NodeOk_p86 _ _ _ _ ⟨h1, h16, h32, h47, h61, h75, h89, h89, h90, h91, h92, trivial⟩
                    | false =>
                      cases h93 : (x.kind == 8) with
                      | true =>
                        cases h94 : (decide ((↑(x.outs.map eI).length : Int) > 0)) with
                        | true =>
                          rw [show nodeOk x = false from by grind [nodeOk, abOk, dupO, inR]]
                          exact impl_NodeOk_p87 _ _ _ _ ⟨h1, h16, h32, h47, h61, h75, h89, h89, h90, h91, h92, h93, h94, trivial⟩
                        | false =>
                          cases h95 : ((↑(x.outs.map eI).length : Int) == 2) with
                          | true =>
                            obtain ⟨y96, hy96⟩ := get_of (xs := x.outs) (i := 0) (by grind [inR, inInt])
                            obtain ⟨y97, hy97⟩ := get_of (xs := x.outs) (i := 1) (by grind [inR, inInt])
                            cases h98 : (y96 == y97) with
                            | true =>
                              rw [show nodeOk x = false from by grind [nodeOk, abOk, dupO, inR]]
                              exact impl_NodeOk_p88 _ _ _ _ _ _ ⟨h1, h16, h32, h47, h61, h75, h89, h89, h90, h91, h92, h93, h94, h95, (by grind [inR, inInt]), (by grind [inR, inInt]), (at_mapN eI hy96), (by grind [inR, inInt]), (by grind [inR, inInt]), (at_mapN eI hy97), h98, trivial⟩
                            | false =>
                              rcases impl_NodeOk_loop x hx with ⟨hL, l⟩ | ⟨hL, l⟩
                              · skip
                                rw [show nodeOk x = false from by grind [nodeOk, abOk, dupO, inR]]
                                exact impl_NodeOk_p89 _ _ _ _ _ _ _ ⟨h1, h16, h32, h47, h61, h75, h89, h89, h90, h91, h92, h93, h94, h95, (by grind [inR, inInt]), (by grind [inR, inInt]), (at_mapN eI hy96), (by grind [inR, inInt]), (by grind [inR, inInt]), (at_mapN eI hy97), h98, l, trivial⟩
                              · skip
                                rw [show nodeOk x = true from by grind [nodeOk, abOk, dupO, inR]]
                                exact impl_NodeOk_p90 _ _ _ _ _ _ ⟨h1, h16, h32, h47, h61, h75, h89, h89, h90, h91, h92, h93, h94, h95, (by grind [inR, inInt]), (by grind [inR, inInt]), (at_mapN eI hy96), (by grind [inR, inInt]), (by grind [inR, inInt]), (at_mapN eI hy97), h98, l, trivial⟩
                          | false =>
                            rcases impl_NodeOk_loop x hx with ⟨hL, l⟩ | ⟨hL, l⟩
                            · skip
                              rw [show nodeOk x = false from by grind [nodeOk, abOk, dupO, inR]]
                              exact impl_NodeOk_p91 _ _ _ _ _ ⟨h1, h16, h32, h47, h61, h75, h89, h89, h90, h91, h92, h93, h94, h95, l, trivial⟩
                            · skip
                              rw [show nodeOk x = true from by grind [nodeOk, abOk, dupO, inR]]
                              exact impl_NodeOk_p92 _ _ _ _ ⟨h1, h16, h32, h47, h61, h75, h89, h89, h90, h91, h92, h93, h94, h95, l, trivial⟩
                      | false =>
                        cases h99 : ((↑(x.outs.map eI).length : Int) == 2) with
                        | true =>
                          obtain ⟨y100, hy100⟩ := get_of (xs := x.outs) (i := 0) (by grind [inR, inInt])
                          obtain ⟨y101, hy101⟩ := get_of (xs := x.outs) (i := 1) (by grind [inR, inInt])
                          cases h102 : (y100 == y101) with
                          | true =>
                            rw [show nodeOk x = false from by grind [nodeOk, abOk, dupO, inR]]
                            exact impl_NodeOk_p93 _ _ _ _ _ _ ⟨h1, h16, h32, h47, h61, h75, h89, h89, h90, h91, h92, h93, h99, (by grind [inR, inInt]), (by grind [inR, inInt]), (at_mapN eI hy100), (by grind [inR, inInt]), (by grind [inR, inInt]), (at_mapN eI hy101), h102, trivial⟩
                          | false =>
                            rcases impl_NodeOk_loop x hx with ⟨hL, l⟩ | ⟨hL, l⟩
                            · skip
                              rw [show nodeOk x = false from by grind [nodeOk, abOk, dupO, inR]]
                              exact impl_NodeOk_p94 _ _ _ _ _ _ _ ⟨h1, h16, h32, h47, h61, h75, h89, h89, h90, h91, h92, h93, h99, (by grind [inR, inInt]), (by grind [inR, inInt]), (at_mapN eI hy100), (by grind [inR, inInt]), (by grind [inR, inInt]), (at_mapN eI hy101), h102, l, trivial⟩
                            · skip
                              rw [show nodeOk x = true from by grind [nodeOk, abOk, dupO, inR]]
                              exact impl_NodeOk_p95 _ _ _ _ _ _ ⟨h1, h16, h32, h47, h61, h75, h89, h89, h90, h91, h92, h93, h99, (by grind [inR, inInt]), (by grind [inR, inInt]), (at_mapN eI hy100), (by grind [inR, inInt]), (by grind [inR, inInt]), (at_mapN eI hy101), h102, l, trivial⟩
                        | false =>
                          rcases impl_NodeOk_loop x hx with ⟨hL, l⟩ | ⟨hL, l⟩
                          · skip
                            rw [show nodeOk x = false from by grind [nodeOk, abOk, dupO, inR]]
                            exact impl_NodeOk_p96 _ _ _ _ _ ⟨h1, h16, h32, h47, h61, h75, h89, h89, h90, h91, h92, h93, h99, l, trivial⟩
                          · skip
                            rw [show nodeOk x = true from by grind [nodeOk, abOk, dupO, inR]]
                            exact impl_NodeOk_p97 _ _ _ _ ⟨h1, h16, h32, h47, h61, h75, h89, h89, h90, h91, h92, h93, h99, l, trivial⟩
              | false =>
                cases h103 : (x.kind == 8) with
                | true =>
                  cases h104 : (x.a != 0) with
                  | true =>
                    rw [show nodeOk x = false from by grind [nodeOk, abOk, dupO, inR]]
                    exact impl_NodeOk_p98 _ _ _ _ ⟨h1, h16, h32, h47, h61, h75, h89, h103, h104, trivial⟩
                  | false =>
                    cases h105 : (x.b != 0) with
                    | true =>
                      rw [show nodeOk x = false from by grind [nodeOk, abOk, dupO, inR]]
                      exact impl_NodeOk_p99 _ _ _ _ ⟨h1, h16, h32, h47, h61, h75, h89, h103, h104, h105, trivial⟩
                    | false =>
                      cases h106 : (decide ((↑(x.outs.map eI).length : Int) > 2)) with
                      | true =>
                        rw [show nodeOk x = false from by grind [nodeOk, abOk, dupO, inR]]
                        exact impl_NodeOk_p100 _ _ _ _ ⟨h1, h16, h32, h47, h61, h75, h89, h103, h104, h105, h106, trivial⟩
                      | false =>
                        cases h107 : (decide ((↑(x.outs.map eI).length : Int) > 0)) with
                        | true =>
                          rw [show nodeOk x = false from by grind [nodeOk, abOk, dupO, inR]]
                          exact impl_NodeOk_p101 _ _ _ _ ⟨h1, h16, h32, h47, h61, h75, h89, h103, h104, h105, h106, h103, h107, trivial⟩
                        | false =>
                          cases h108 : ((↑(x.outs.map eI).length : Int) == 2) with
                          | true =>
                            obtain ⟨y109, hy109⟩ := get_of (xs := x.outs) (i := 0) (by grind [inR, inInt])
                            obtain ⟨y110, hy110⟩ := get_of (xs := x.outs) (i := 1) (by grind [inR, inInt])
                            cases h111 : (y109 == y110) with
                            | true =>
                              rw [show nodeOk x = false from by grind [nodeOk, abOk, dupO, inR]]
                              exact impl_NodeOk_p102 _ _ _ _ _ _ ⟨h1, h16, h32, h47, h61, h75, h89, h103, h104, h105, h106, h103, h107, h108, (by grind [inR, inInt]), (by grind [inR, inInt]), (at_mapN eI hy109), (by grind [inR, inInt]), (by grind [inR, inInt]), (at_mapN eI hy110), h111, trivial⟩
                            | false =>
                              rcases impl_NodeOk_loop x hx with ⟨hL, l⟩ | ⟨hL, l⟩
                              · skip
                                rw [show nodeOk x = false from by grind [nodeOk, abOk, dupO, inR]]
                                exact impl_NodeOk_p103 _ _ _ _ _ _ _ ⟨h1, h16, h32, h47, h61, h75, h89, h103, h104, h105, h106, h103, h107, h108, (by grind [inR, inInt]), (by grind [inR, inInt]), (at_mapN eI hy109), (by grind [inR, inInt]), (by grind [inR, inInt]), (at_mapN eI hy110), h111, l, trivial⟩
                              · skip
                                rw [show nodeOk x = true from by grind [nodeOk, abOk, dupO, inR]]
                                exact impl_NodeOk_p104 _ _ _ _ _ _ ⟨h1, h16, h32, h47, h61, h75, h89, h103, h104, h105, h106, h103, h107, h108, (by grind [inR, inInt]), (by grind [inR, inInt]), (at_mapN eI hy109), (by grind [inR, inInt]), (by grind [inR, inInt]), (at_mapN eI hy110), h111, l, trivial⟩
                          | false =>
                            rcases impl_NodeOk_loop x hx with ⟨hL, l⟩ | ⟨hL, l⟩
                            · skip
                              rw [show nodeOk x = false from by grind [nodeOk, abOk, dupO, inR]]
                              exact impl_NodeOk_p105 _ _ _ _ _ ⟨h1, h16, h32, h47, h61, h75, h89, h103, h104, h105, h106, h103, h107, h108, l, trivial⟩
                            · skip
                              rw [show nodeOk x = true from by grind [nodeOk, abOk, dupO, inR]]
                              exact impl_NodeOk_p106 _ _ _ _ ⟨h1, h16, h32, h47, h61, h75, h89, h103, h104, h105, h106, h103, h107, h108, l, trivial⟩
                | false =>
                  rw [show nodeOk x = false from by grind [nodeOk, abOk, dupO, inR]]
                  exact impl_NodeOk_p107 _ _ _ _ ⟨h1, h16, h32, h47, h61, h75, h89, h103, trivial⟩

end Go.Proofs.Ytbbjajmimckabaa
