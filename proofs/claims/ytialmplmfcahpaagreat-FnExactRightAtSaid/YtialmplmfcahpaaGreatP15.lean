/- GraphOk, NodeOk, RecordOk, StampOk, NextTurn: what program and reference compute (the cases were put together by gentree.py). -/
import Derived.Test.YtialmplmfcahpaaGreatP10
import Derived.Test.YtialmplmfcahpaaGreatGQ
import Derived.Test.YtialmplmfcahpaaGreatGR
set_option linter.unusedVariables false
set_option linter.unusedSimpArgs false
namespace Go.Proofs.YtialmplmfcahpaaGreat
open Go.Sx Go.RowKit
def qaZ (s : Stamp) : Bool := inR s.epoch 0 3 && inR s.turn 0 6
def qaw (k v : Int) : Bool := inR k 0 99 && inR v 0 999
def qaR (r : Record) : Bool := inR r.op 0 7 && qaZ r.stamp && qaw r.key r.val
def qax (s : Stamp) : Stamp × Bool := if qaZ s && decide (s.turn < 6) then (⟨s.epoch, s.turn + 1⟩, true) else (s, false)
def less (a b : Int) : Int := if b < a then b else a
def abOk (x : Node) : Bool :=
  if x.kind = 2 then inR x.a 0 999 && x.b == 0
  else if x.kind = 3 then inR x.a 1 10 && inR x.b 0 (IntKind.i64.wrap (x.a - 1))
  else if x.kind = 4 then inR x.a 0 99 && x.b == 0
  else inR x.kind 1 8 && x.a == 0 && x.b == 0
def okAll (l : List Int) : Bool := !(l.any fun k => !inR k 0 7)
def dupO (l : List Int) : Bool := decide (l.length = 2 ∧ l[0]? = l[1]?)
def qab (x : Node) : Bool := abOk x && decide (x.outs.length ≤ 2) && !(x.kind == 8 && decide (0 < x.outs.length)) && !dupO x.outs && okAll x.outs
theorem look {α : Type} {xs : List α} {i : Int} (h0 : 0 ≤ i) (h1 : i < xs.length) : ∃ a, xs[i.toNat]? = some a := qag (by omega)
theorem qad {α : Type} {xs : List α} {i : Nat} {a : α} (f : α → List D) (h : xs[i]? = some a) : (xs.map f)[i]? = some (f a) := by simp [h]
theorem qaO (x : Node) (hx : x.outs.length ≤ 1048576) : (okAll x.outs = false ∧ qac Tryz.prog (qaa Tryz.f251 0) (qan (x.outs.map eI) 0) .ret (qap false)) ∨ (okAll x.outs = true ∧ qac Tryz.prog (qaa Tryz.f251 0) (qan (x.outs.map eI) 0) (.exit 1) qaq) := by
  have l := qbB (P := Tryz.prog) (c := (qaa Tryz.f251 0)) x.outs (fun k => !inR k 0 7) (fun i => qan (x.outs.map eI) i) (X := fun _ _ => qap false) qaD (qah 1)
    (fun i a ha h => qy3 _ _ _ _ ⟨lt1 (lt_of ha), lt0, lt2 (lt_of ha), qae eI ha, qbm a 0 7, h, up1 (lt_of ha) hx, trivial⟩)
    (fun i a ha h => qy2 _ _ _ _ ⟨lt1 (lt_of ha), lt0, lt2 (lt_of ha), qae eI ha, qbm a 0 7, h, trivial⟩)
    (qy4 _ _ ⟨ge1, trivial⟩)
  unfold okAll
  rcases l with ⟨_, _, h1, h2⟩ | ⟨i, a, _, _, _, _, h1, h2⟩
  · exact .inr ⟨by rw [h1]; rfl, h2⟩
  · exact .inl ⟨by rw [h1]; rfl, h2⟩
theorem qdf (x : Node) (hx : x.outs.length ≤ 2) : ((okAll x.outs && !dupO x.outs) = false ∧ qac Tryz.prog (qaa Tryz.f240 0) (qaT x.kind x.a x.b (x.outs.map eI) 0) .ret (qa9 false)) ∨ ((okAll x.outs && !dupO x.outs) = true ∧ qac Tryz.prog (qaa Tryz.f240 0) (qaT x.kind x.a x.b (x.outs.map eI) 0) (.exit 1) qbe) := by
  obtain ⟨kd, a, b, outs⟩ := x
  have cl := fun k => qa2 k 0 7
  match outs, hx with
  | [], _ => exact .inr ⟨rfl, .last (qah 1) (qjt _ _ _ _ _ ⟨rfl, trivial⟩)⟩
  | [k], _ =>
    cases h1 : inR k 0 7 with
    | false => exact .inl ⟨by simp [okAll, h1], .last qaD (qjs _ _ _ _ _ _ _ ⟨rfl, by omega, by simp, rfl, cl k, by rw [h1]; rfl, trivial⟩)⟩
    | true =>
      refine .inr ⟨by simp [okAll, dupO, h1], .more (ql5 _ _ _ _ _ _ _ ⟨rfl, by omega, by simp, rfl, cl k, by rw [h1]; rfl, rfl, ⟨by omega, by omega⟩, trivial⟩) (.last (qah 1) (qjt _ _ _ _ _ ⟨rfl, trivial⟩))⟩
  | [k, m], _ =>
    cases h1 : inR k 0 7 with
    | false => exact .inl ⟨by simp [okAll, h1], .last qaD (qjs _ _ _ _ _ _ _ ⟨rfl, by omega, by simp, rfl, cl k, by rw [h1]; rfl, trivial⟩)⟩
    | true =>
      have first : Tr Tryz.prog (qaa Tryz.f240 0) (qaT kd a b ([k, m].map eI) 0) .normal (qaT kd a b ([k, m].map eI) (0 + 1)) := ql5 _ _ _ _ _ _ _ ⟨rfl, by omega, by simp, rfl, cl k, by rw [h1]; rfl, rfl, ⟨by omega, by omega⟩, trivial⟩
      cases h2 : inR m 0 7 with
      | false => exact .inl ⟨by simp [okAll, h1, h2], .more first (.last qaD (qjs _ _ _ _ _ _ _ ⟨rfl, by omega, by simp, rfl, cl m, by rw [h2]; rfl, trivial⟩))⟩
      | true =>
        cases h3 : (k == m) with
        | true => exact .inl ⟨by simp [okAll, dupO, h1, h2] at h3 ⊢; exact h3, .more first (.last qaD (qyq _ _ _ _ _ _ _ _ _ ⟨rfl, by omega, by simp, rfl, cl m, by rw [h2]; rfl, rfl, by omega, by simp, rfl, by omega, by simp, rfl, h3, trivial⟩))⟩
        | false => exact .inr ⟨by simp [okAll, dupO, h1, h2] at h3 ⊢; exact h3, .more first (.more (qyr _ _ _ _ _ _ _ _ _ ⟨rfl, by omega, by simp, rfl, cl m, by rw [h2]; rfl, rfl, by omega, by simp, rfl, by omega, by simp, rfl, h3, ⟨by omega, by omega⟩, trivial⟩) (.last (qah 1) (qjt _ _ _ _ _ ⟨rfl, trivial⟩)))⟩
theorem ql6 (s : Stamp) : Ret Tryz.prog 241 [.agg s.e] [.one (B (qaZ s))] := by
  have c1 := qa2 s.epoch 0 3
  cases h2 : (inR s.epoch 0 3) with
  | true =>
    have c3 := qa2 s.turn 0 6
    rw [show qaZ s = inR s.turn 0 6 from by grind [qaZ]]
    exact qxU _ _ _ _ ⟨c1, h2, c3, trivial⟩
  | false =>
    rw [show qaZ s = false from by grind [qaZ]]
    exact qxV _ _ _ ⟨c1, h2, trivial⟩
theorem ql7 (s : Stamp) : Ret Tryz.prog 252 [.agg s.e] [.one (B (qaZ s))] := by
  have c1 := qbm s.epoch 0 3
  cases h2 : (inR s.epoch 0 3) with
  | true =>
    have c3 := qbm s.turn 0 6
    rw [show qaZ s = inR s.turn 0 6 from by grind [qaZ]]
    exact qxW _ _ _ _ ⟨c1, h2, c3, trivial⟩
  | false =>
    rw [show qaZ s = false from by grind [qaZ]]
    exact qxX _ _ _ ⟨c1, h2, trivial⟩
theorem qju (k v : Int) : Ret Tryz.prog 253 [.one (I k), .one (I v)] [.one (B (qaw k v))] := by
  have c1 := qbm k 0 99
  cases h2 : (inR k 0 99) with
  | true =>
    have c3 := qbm v 0 999
    rw [show qaw k v = inR v 0 999 from by grind [qaw]]
    exact qyj _ _ _ _ ⟨c1, h2, c3, trivial⟩
  | false =>
    rw [show qaw k v = false from by grind [qaw]]
    exact qyk _ _ _ ⟨c1, h2, trivial⟩
theorem ql8 (r : Record) : Ret Tryz.prog 141 [.agg r.e] [.one (B (qaR r))] := by
  have c1 := qa2 r.op 0 7
  cases h2 : (inR r.op 0 7) with
  | true =>
    have c3 := ql6 r.stamp
    cases h4 : (qaZ r.stamp) with
    | true =>
      have c5 := qa2 r.key 0 99
      cases h6 : (inR r.key 0 99) with
      | true =>
        have c7 := qa2 r.val 0 999
        rw [show qaR r = inR r.val 0 999 from by grind [qaR, qaw]]
        exact qxN _ _ _ _ _ _ _ _ _ ⟨c1, h2, c3, h4, c5, h6, c7, trivial⟩
      | false =>
        rw [show qaR r = false from by grind [qaR, qaw]]
        exact qxO _ _ _ _ _ _ _ _ ⟨c1, h2, c3, h4, c5, h6, trivial⟩
    | false =>
      rw [show qaR r = false from by grind [qaR, qaw]]
      exact qxP _ _ _ _ _ _ _ ⟨c1, h2, c3, h4, trivial⟩
  | false =>
    rw [show qaR r = false from by grind [qaR, qaw]]
    exact qxQ _ _ _ _ _ _ ⟨c1, h2, trivial⟩
theorem qjv (r : Record) : Ret Tryz.prog 152 [.agg r.e] [.one (B (qaR r))] := by
  have c1 := qbm r.op 0 7
  cases h2 : (inR r.op 0 7) with
  | true =>
    have c3 := ql7 r.stamp
    cases h4 : (qaZ r.stamp) with
    | true =>
      have c5 := qju r.key r.val
      rw [show qaR r = qaw r.key r.val from by grind [qaR, qaw]]
      exact qxR _ _ _ _ _ _ _ _ ⟨c1, h2, c3, h4, c5, trivial⟩
    | false =>
      rw [show qaR r = false from by grind [qaR, qaw]]
      exact qxS _ _ _ _ _ _ _ ⟨c1, h2, c3, h4, trivial⟩
  | false =>
    rw [show qaR r = false from by grind [qaR, qaw]]
    exact qxT _ _ _ _ _ _ ⟨c1, h2, trivial⟩
theorem qAK (a b : Int) : Ret Tryz.prog 242 [.one (I a), .one (I b)] [.one (I (less a b))] := by
  cases h1 : (decide (b < a)) with
  | true =>
    rw [show less a b = b from by grind [less]]
    exact qyh _ _ ⟨h1, trivial⟩
  | false =>
    rw [show less a b = a from by grind [less]]
    exact qyi _ _ ⟨h1, trivial⟩
theorem qma (x : Node) (hx : x.outs.length ≤ 1048576) : Ret Tryz.prog 240 [.agg x.e] [.one (B (qab x))] := by
  cases h1 : (x.kind == 2) with
  | true =>
    have c2 := qa2 x.a 0 999
    have c3 := qa2 x.kind 1 8
    cases h4 : (inR x.kind 1 8) with
    | true =>
      cases h5 : (inR x.a 0 999) with
      | true =>
        cases h6 : (x.b == 0) with
        | true =>
          cases h7 : (decide ((↑(x.outs.map eI).length : Int) > 2)) with
          | true =>
            rw [show qab x = false from by grind [qab, abOk, dupO, inR]]
            exact qyo _ _ _ _ _ _ ⟨h1, c2, c3, (by rw [h4]; rfl), (by rw [h5]; rfl), (by rw [h6]; rfl), h7, trivial⟩
          | false =>
            cases h8 : (x.kind == 8) with
            | true =>
              cases h9 : (decide ((↑(x.outs.map eI).length : Int) > 0)) with
              | true =>
                rw [show qab x = false from by grind [qab, abOk, dupO, inR]]
                exact qyp _ _ _ _ _ _ ⟨h1, c2, c3, (by rw [h4]; rfl), (by rw [h5]; rfl), (by rw [h6]; rfl), h7, h8, h9, trivial⟩
              | false =>
                rcases qdf x (by grind) with ⟨hL, l⟩ | ⟨hL, l⟩
                · skip
                  rw [show qab x = false from by grind [qab, abOk, dupO, inR]]
                  exact qys _ _ _ _ _ _ _ ⟨h1, c2, c3, (by rw [h4]; rfl), (by rw [h5]; rfl), (by rw [h6]; rfl), h7, h8, h9, l, trivial⟩
                · skip
                  rw [show qab x = true from by grind [qab, abOk, dupO, inR]]
                  exact qyt _ _ _ _ _ _ ⟨h1, c2, c3, (by rw [h4]; rfl), (by rw [h5]; rfl), (by rw [h6]; rfl), h7, h8, h9, l, trivial⟩
            | false =>
              rcases qdf x (by grind) with ⟨hL, l⟩ | ⟨hL, l⟩
              · skip
                rw [show qab x = false from by grind [qab, abOk, dupO, inR]]
                exact qyu _ _ _ _ _ _ _ ⟨h1, c2, c3, (by rw [h4]; rfl), (by rw [h5]; rfl), (by rw [h6]; rfl), h7, h8, l, trivial⟩
              · skip
                rw [show qab x = true from by grind [qab, abOk, dupO, inR]]
                exact qyv _ _ _ _ _ _ ⟨h1, c2, c3, (by rw [h4]; rfl), (by rw [h5]; rfl), (by rw [h6]; rfl), h7, h8, l, trivial⟩
        | false =>
          rw [show qab x = false from by grind [qab, abOk, dupO, inR]]
          exact qyn _ _ _ _ _ _ ⟨h1, c2, c3, (by rw [h4]; rfl), (by rw [h5]; rfl), (by rw [h6]; rfl), trivial⟩
      | false =>
        rw [show qab x = false from by grind [qab, abOk, dupO, inR]]
        exact qym _ _ _ _ _ _ ⟨h1, c2, c3, (by rw [h4]; rfl), (by rw [h5]; rfl), trivial⟩
    | false =>
      rw [show qab x = false from by grind [qab, abOk, dupO, inR]]
      exact qyl _ _ _ _ _ _ ⟨h1, c2, c3, (by rw [h4]; rfl), trivial⟩
  | false =>
    cases h10 : (x.kind == 3) with
    | true =>
      have c11 := qa2 x.a 1 10
      have c12 := qa2 x.b 0 (IntKind.i64.wrap (x.a - 1))
      have c13 := qa2 x.kind 1 8
      cases h14 : (inR x.kind 1 8) with
      | true =>
        cases h15 : (inR x.a 1 10) with
        | true =>
          cases h16 : (inR x.b 0 (IntKind.i64.wrap (x.a - 1))) with
          | true =>
            cases h17 : (decide ((↑(x.outs.map eI).length : Int) > 2)) with
            | true =>
              rw [show qab x = false from by grind [qab, abOk, dupO, inR]]
              exact qyz _ _ _ _ _ _ _ ⟨h1, h10, c11, c12, c13, (by rw [h14]; rfl), (by rw [h15]; rfl), (by rw [h16]; rfl), h17, trivial⟩
            | false =>
              cases h18 : (x.kind == 8) with
              | true =>
                cases h19 : (decide ((↑(x.outs.map eI).length : Int) > 0)) with
                | true =>
                  rw [show qab x = false from by grind [qab, abOk, dupO, inR]]
                  exact qyA _ _ _ _ _ _ _ ⟨h1, h10, c11, c12, c13, (by rw [h14]; rfl), (by rw [h15]; rfl), (by rw [h16]; rfl), h17, h18, h19, trivial⟩
                | false =>
                  rcases qdf x (by grind) with ⟨hL, l⟩ | ⟨hL, l⟩
                  · skip
                    rw [show qab x = false from by grind [qab, abOk, dupO, inR]]
                    exact qyB _ _ _ _ _ _ _ _ ⟨h1, h10, c11, c12, c13, (by rw [h14]; rfl), (by rw [h15]; rfl), (by rw [h16]; rfl), h17, h18, h19, l, trivial⟩
                  · skip
                    rw [show qab x = true from by grind [qab, abOk, dupO, inR]]
                    exact qyC _ _ _ _ _ _ _ ⟨h1, h10, c11, c12, c13, (by rw [h14]; rfl), (by rw [h15]; rfl), (by rw [h16]; rfl), h17, h18, h19, l, trivial⟩
              | false =>
                rcases qdf x (by grind) with ⟨hL, l⟩ | ⟨hL, l⟩
                · skip
                  rw [show qab x = false from by grind [qab, abOk, dupO, inR]]
                  exact qyD _ _ _ _ _ _ _ _ ⟨h1, h10, c11, c12, c13, (by rw [h14]; rfl), (by rw [h15]; rfl), (by rw [h16]; rfl), h17, h18, l, trivial⟩
                · skip
                  rw [show qab x = true from by grind [qab, abOk, dupO, inR]]
                  exact qyE _ _ _ _ _ _ _ ⟨h1, h10, c11, c12, c13, (by rw [h14]; rfl), (by rw [h15]; rfl), (by rw [h16]; rfl), h17, h18, l, trivial⟩
          | false =>
            rw [show qab x = false from by grind [qab, abOk, dupO, inR]]
            exact qyy _ _ _ _ _ _ _ ⟨h1, h10, c11, c12, c13, (by rw [h14]; rfl), (by rw [h15]; rfl), (by rw [h16]; rfl), trivial⟩
        | false =>
          rw [show qab x = false from by grind [qab, abOk, dupO, inR]]
          exact qyx _ _ _ _ _ _ _ ⟨h1, h10, c11, c12, c13, (by rw [h14]; rfl), (by rw [h15]; rfl), trivial⟩
      | false =>
        rw [show qab x = false from by grind [qab, abOk, dupO, inR]]
        exact qyw _ _ _ _ _ _ _ ⟨h1, h10, c11, c12, c13, (by rw [h14]; rfl), trivial⟩
    | false =>
      cases h20 : (x.kind == 4) with
      | true =>
        have c21 := qa2 x.a 0 99
        have c22 := qa2 x.kind 1 8
        cases h23 : (inR x.kind 1 8) with
        | true =>
          cases h24 : (inR x.a 0 99) with
          | true =>
            cases h25 : (x.b == 0) with
            | true =>
              cases h26 : (decide ((↑(x.outs.map eI).length : Int) > 2)) with
              | true =>
                rw [show qab x = false from by grind [qab, abOk, dupO, inR]]
                exact qyI _ _ _ _ _ _ ⟨h1, h10, h20, c21, c22, (by rw [h23]; rfl), (by rw [h24]; rfl), (by rw [h25]; rfl), h26, trivial⟩
              | false =>
                cases h27 : (x.kind == 8) with
                | true =>
                  cases h28 : (decide ((↑(x.outs.map eI).length : Int) > 0)) with
                  | true =>
                    rw [show qab x = false from by grind [qab, abOk, dupO, inR]]
                    exact qyJ _ _ _ _ _ _ ⟨h1, h10, h20, c21, c22, (by rw [h23]; rfl), (by rw [h24]; rfl), (by rw [h25]; rfl), h26, h27, h28, trivial⟩
                  | false =>
                    rcases qdf x (by grind) with ⟨hL, l⟩ | ⟨hL, l⟩
                    · skip
                      rw [show qab x = false from by grind [qab, abOk, dupO, inR]]
                      exact qyK _ _ _ _ _ _ _ ⟨h1, h10, h20, c21, c22, (by rw [h23]; rfl), (by rw [h24]; rfl), (by rw [h25]; rfl), h26, h27, h28, l, trivial⟩
                    · skip
                      rw [show qab x = true from by grind [qab, abOk, dupO, inR]]
                      exact qyL _ _ _ _ _ _ ⟨h1, h10, h20, c21, c22, (by rw [h23]; rfl), (by rw [h24]; rfl), (by rw [h25]; rfl), h26, h27, h28, l, trivial⟩
                | false =>
                  rcases qdf x (by grind) with ⟨hL, l⟩ | ⟨hL, l⟩
                  · skip
                    rw [show qab x = false from by grind [qab, abOk, dupO, inR]]
                    exact qyM _ _ _ _ _ _ _ ⟨h1, h10, h20, c21, c22, (by rw [h23]; rfl), (by rw [h24]; rfl), (by rw [h25]; rfl), h26, h27, l, trivial⟩
                  · skip
                    rw [show qab x = true from by grind [qab, abOk, dupO, inR]]
                    exact qyN _ _ _ _ _ _ ⟨h1, h10, h20, c21, c22, (by rw [h23]; rfl), (by rw [h24]; rfl), (by rw [h25]; rfl), h26, h27, l, trivial⟩
            | false =>
              rw [show qab x = false from by grind [qab, abOk, dupO, inR]]
              exact qyH _ _ _ _ _ _ ⟨h1, h10, h20, c21, c22, (by rw [h23]; rfl), (by rw [h24]; rfl), (by rw [h25]; rfl), trivial⟩
          | false =>
            rw [show qab x = false from by grind [qab, abOk, dupO, inR]]
            exact qyG _ _ _ _ _ _ ⟨h1, h10, h20, c21, c22, (by rw [h23]; rfl), (by rw [h24]; rfl), trivial⟩
        | false =>
          rw [show qab x = false from by grind [qab, abOk, dupO, inR]]
          exact qyF _ _ _ _ _ _ ⟨h1, h10, h20, c21, c22, (by rw [h23]; rfl), trivial⟩
      | false =>
        have c29 := qa2 x.kind 1 8
        cases h30 : (inR x.kind 1 8) with
        | true =>
          cases h31 : (x.a == 0) with
          | true =>
            cases h32 : (x.b == 0) with
            | true =>
              cases h33 : (decide ((↑(x.outs.map eI).length : Int) > 2)) with
              | true =>
                rw [show qab x = false from by grind [qab, abOk, dupO, inR]]
                exact qyR _ _ _ _ _ ⟨h1, h10, h20, c29, (by rw [h30]; rfl), (by rw [h31]; rfl), (by rw [h32]; rfl), h33, trivial⟩
              | false =>
                cases h34 : (x.kind == 8) with
                | true =>
                  cases h35 : (decide ((↑(x.outs.map eI).length : Int) > 0)) with
                  | true =>
                    rw [show qab x = false from by grind [qab, abOk, dupO, inR]]
                    exact qyS _ _ _ _ _ ⟨h1, h10, h20, c29, (by rw [h30]; rfl), (by rw [h31]; rfl), (by rw [h32]; rfl), h33, h34, h35, trivial⟩
                  | false =>
                    rcases qdf x (by grind) with ⟨hL, l⟩ | ⟨hL, l⟩
                    · skip
                      rw [show qab x = false from by grind [qab, abOk, dupO, inR]]
                      exact qyT _ _ _ _ _ _ ⟨h1, h10, h20, c29, (by rw [h30]; rfl), (by rw [h31]; rfl), (by rw [h32]; rfl), h33, h34, h35, l, trivial⟩
                    · skip
                      rw [show qab x = true from by grind [qab, abOk, dupO, inR]]
                      exact qyU _ _ _ _ _ ⟨h1, h10, h20, c29, (by rw [h30]; rfl), (by rw [h31]; rfl), (by rw [h32]; rfl), h33, h34, h35, l, trivial⟩
                | false =>
                  rcases qdf x (by grind) with ⟨hL, l⟩ | ⟨hL, l⟩
                  · skip
                    rw [show qab x = false from by grind [qab, abOk, dupO, inR]]
                    exact qyV _ _ _ _ _ _ ⟨h1, h10, h20, c29, (by rw [h30]; rfl), (by rw [h31]; rfl), (by rw [h32]; rfl), h33, h34, l, trivial⟩
                  · skip
                    rw [show qab x = true from by grind [qab, abOk, dupO, inR]]
                    exact qyW _ _ _ _ _ ⟨h1, h10, h20, c29, (by rw [h30]; rfl), (by rw [h31]; rfl), (by rw [h32]; rfl), h33, h34, l, trivial⟩
            | false =>
              rw [show qab x = false from by grind [qab, abOk, dupO, inR]]
              exact qyQ _ _ _ _ _ ⟨h1, h10, h20, c29, (by rw [h30]; rfl), (by rw [h31]; rfl), (by rw [h32]; rfl), trivial⟩
          | false =>
            rw [show qab x = false from by grind [qab, abOk, dupO, inR]]
            exact qyP _ _ _ _ _ ⟨h1, h10, h20, c29, (by rw [h30]; rfl), (by rw [h31]; rfl), trivial⟩
        | false =>
          rw [show qab x = false from by grind [qab, abOk, dupO, inR]]
          exact qyO _ _ _ _ _ ⟨h1, h10, h20, c29, (by rw [h30]; rfl), trivial⟩
theorem qmb (x : Node) (hx : x.outs.length ≤ 1048576) : Ret Tryz.prog 251 [.agg x.e] [.one (B (qab x))] := by
  cases h1 : (x.kind == 2) with
  | true =>
    have c2 := qbm x.a 0 999
    cases h3 : (inR x.a 0 999) with
    | true =>
      cases h4 : (x.b != 0) with
      | true =>
        rw [show qab x = false from by grind [qab, abOk, dupO, inR]]
        exact qyY _ _ _ _ _ ⟨h1, c2, (by rw [h3]; rfl), h4, trivial⟩
      | false =>
        cases h5 : (decide ((↑(x.outs.map eI).length : Int) > 2)) with
        | true =>
          rw [show qab x = false from by grind [qab, abOk, dupO, inR]]
          exact qyZ _ _ _ _ _ ⟨h1, c2, (by rw [h3]; rfl), h4, h5, trivial⟩
        | false =>
          cases h6 : (x.kind == 8) with
          | true =>
            cases h7 : (decide ((↑(x.outs.map eI).length : Int) > 0)) with
            | true =>
              rw [show qab x = false from by grind [qab, abOk, dupO, inR]]
              exact qy0 _ _ _ _ _ ⟨h1, c2, (by rw [h3]; rfl), h4, h5, h6, h7, trivial⟩
            | false =>
              cases h8 : ((↑(x.outs.map eI).length : Int) == 2) with
              | true =>
                obtain ⟨y9, hy9⟩ := qag (xs := x.outs) (i := 0) (by grind [inR, inInt])
                obtain ⟨y10, hy10⟩ := qag (xs := x.outs) (i := 1) (by grind [inR, inInt])
                cases h11 : (y9 == y10) with
                | true =>
                  rw [show qab x = false from by grind [qab, abOk, dupO, inR]]
                  exact qy1 _ _ _ _ _ _ _ ⟨h1, c2, (by rw [h3]; rfl), h4, h5, h6, h7, h8, (by grind [inR, inInt]), (by grind [inR, inInt]), (qad eI hy9), (by grind [inR, inInt]), (by grind [inR, inInt]), (qad eI hy10), h11, trivial⟩
                | false =>
                  rcases qaO x hx with ⟨hL, l⟩ | ⟨hL, l⟩
                  · skip
                    rw [show qab x = false from by grind [qab, abOk, dupO, inR]]
                    exact qy5 _ _ _ _ _ _ _ _ ⟨h1, c2, (by rw [h3]; rfl), h4, h5, h6, h7, h8, (by grind [inR, inInt]), (by grind [inR, inInt]), (qad eI hy9), (by grind [inR, inInt]), (by grind [inR, inInt]), (qad eI hy10), h11, l, trivial⟩
                  · skip
                    rw [show qab x = true from by grind [qab, abOk, dupO, inR]]
                    exact qy6 _ _ _ _ _ _ _ ⟨h1, c2, (by rw [h3]; rfl), h4, h5, h6, h7, h8, (by grind [inR, inInt]), (by grind [inR, inInt]), (qad eI hy9), (by grind [inR, inInt]), (by grind [inR, inInt]), (qad eI hy10), h11, l, trivial⟩
              | false =>
                rcases qaO x hx with ⟨hL, l⟩ | ⟨hL, l⟩
                · skip
                  rw [show qab x = false from by grind [qab, abOk, dupO, inR]]
                  exact qy7 _ _ _ _ _ _ ⟨h1, c2, (by rw [h3]; rfl), h4, h5, h6, h7, h8, l, trivial⟩
                · skip
                  rw [show qab x = true from by grind [qab, abOk, dupO, inR]]
                  exact qy8 _ _ _ _ _ ⟨h1, c2, (by rw [h3]; rfl), h4, h5, h6, h7, h8, l, trivial⟩
          | false =>
            cases h12 : ((↑(x.outs.map eI).length : Int) == 2) with
            | true =>
              obtain ⟨y13, hy13⟩ := qag (xs := x.outs) (i := 0) (by grind [inR, inInt])
              obtain ⟨y14, hy14⟩ := qag (xs := x.outs) (i := 1) (by grind [inR, inInt])
              cases h15 : (y13 == y14) with
              | true =>
                rw [show qab x = false from by grind [qab, abOk, dupO, inR]]
                exact qy9 _ _ _ _ _ _ _ ⟨h1, c2, (by rw [h3]; rfl), h4, h5, h6, h12, (by grind [inR, inInt]), (by grind [inR, inInt]), (qad eI hy13), (by grind [inR, inInt]), (by grind [inR, inInt]), (qad eI hy14), h15, trivial⟩
              | false =>
                rcases qaO x hx with ⟨hL, l⟩ | ⟨hL, l⟩
                · skip
                  rw [show qab x = false from by grind [qab, abOk, dupO, inR]]
                  exact qza _ _ _ _ _ _ _ _ ⟨h1, c2, (by rw [h3]; rfl), h4, h5, h6, h12, (by grind [inR, inInt]), (by grind [inR, inInt]), (qad eI hy13), (by grind [inR, inInt]), (by grind [inR, inInt]), (qad eI hy14), h15, l, trivial⟩
                · skip
                  rw [show qab x = true from by grind [qab, abOk, dupO, inR]]
                  exact qzb _ _ _ _ _ _ _ ⟨h1, c2, (by rw [h3]; rfl), h4, h5, h6, h12, (by grind [inR, inInt]), (by grind [inR, inInt]), (qad eI hy13), (by grind [inR, inInt]), (by grind [inR, inInt]), (qad eI hy14), h15, l, trivial⟩
            | false =>
              rcases qaO x hx with ⟨hL, l⟩ | ⟨hL, l⟩
              · skip
                rw [show qab x = false from by grind [qab, abOk, dupO, inR]]
                exact qzc _ _ _ _ _ _ ⟨h1, c2, (by rw [h3]; rfl), h4, h5, h6, h12, l, trivial⟩
              · skip
                rw [show qab x = true from by grind [qab, abOk, dupO, inR]]
                exact qzd _ _ _ _ _ ⟨h1, c2, (by rw [h3]; rfl), h4, h5, h6, h12, l, trivial⟩
    | false =>
      rw [show qab x = false from by grind [qab, abOk, dupO, inR]]
      exact qyX _ _ _ _ _ ⟨h1, c2, (by rw [h3]; rfl), trivial⟩
  | false =>
    cases h16 : (x.kind == 3) with
    | true =>
      have c17 := qbm x.a 1 10
      cases h18 : (inR x.a 1 10) with
      | true =>
        have c19 := qbm x.b 0 (IntKind.i64.wrap (x.a - 1))
        cases h20 : (inR x.b 0 (IntKind.i64.wrap (x.a - 1))) with
        | true =>
          cases h21 : (decide ((↑(x.outs.map eI).length : Int) > 2)) with
          | true =>
            rw [show qab x = false from by grind [qab, abOk, dupO, inR]]
            exact qzg _ _ _ _ _ _ ⟨h1, h16, c17, (by rw [h18]; rfl), c19, (by rw [h20]; rfl), h21, trivial⟩
          | false =>
            cases h22 : (x.kind == 8) with
            | true =>
              cases h23 : (decide ((↑(x.outs.map eI).length : Int) > 0)) with
              | true =>
                rw [show qab x = false from by grind [qab, abOk, dupO, inR]]
                exact qzh _ _ _ _ _ _ ⟨h1, h16, c17, (by rw [h18]; rfl), c19, (by rw [h20]; rfl), h21, h22, h23, trivial⟩
              | false =>
                cases h24 : ((↑(x.outs.map eI).length : Int) == 2) with
                | true =>
                  obtain ⟨y25, hy25⟩ := qag (xs := x.outs) (i := 0) (by grind [inR, inInt])
                  obtain ⟨y26, hy26⟩ := qag (xs := x.outs) (i := 1) (by grind [inR, inInt])
                  cases h27 : (y25 == y26) with
                  | true =>
                    rw [show qab x = false from by grind [qab, abOk, dupO, inR]]
                    exact qzi _ _ _ _ _ _ _ _ ⟨h1, h16, c17, (by rw [h18]; rfl), c19, (by rw [h20]; rfl), h21, h22, h23, h24, (by grind [inR, inInt]), (by grind [inR, inInt]), (qad eI hy25), (by grind [inR, inInt]), (by grind [inR, inInt]), (qad eI hy26), h27, trivial⟩
                  | false =>
                    rcases qaO x hx with ⟨hL, l⟩ | ⟨hL, l⟩
                    · skip
                      rw [show qab x = false from by grind [qab, abOk, dupO, inR]]
                      exact qzj _ _ _ _ _ _ _ _ _ ⟨h1, h16, c17, (by rw [h18]; rfl), c19, (by rw [h20]; rfl), h21, h22, h23, h24, (by grind [inR, inInt]), (by grind [inR, inInt]), (qad eI hy25), (by grind [inR, inInt]), (by grind [inR, inInt]), (qad eI hy26), h27, l, trivial⟩
                    · skip
                      rw [show qab x = true from by grind [qab, abOk, dupO, inR]]
                      exact qzk _ _ _ _ _ _ _ _ ⟨h1, h16, c17, (by rw [h18]; rfl), c19, (by rw [h20]; rfl), h21, h22, h23, h24, (by grind [inR, inInt]), (by grind [inR, inInt]), (qad eI hy25), (by grind [inR, inInt]), (by grind [inR, inInt]), (qad eI hy26), h27, l, trivial⟩
                | false =>
                  rcases qaO x hx with ⟨hL, l⟩ | ⟨hL, l⟩
                  · skip
                    rw [show qab x = false from by grind [qab, abOk, dupO, inR]]
                    exact qzl _ _ _ _ _ _ _ ⟨h1, h16, c17, (by rw [h18]; rfl), c19, (by rw [h20]; rfl), h21, h22, h23, h24, l, trivial⟩
                  · skip
                    rw [show qab x = true from by grind [qab, abOk, dupO, inR]]
                    exact qzm _ _ _ _ _ _ ⟨h1, h16, c17, (by rw [h18]; rfl), c19, (by rw [h20]; rfl), h21, h22, h23, h24, l, trivial⟩
            | false =>
              cases h28 : ((↑(x.outs.map eI).length : Int) == 2) with
              | true =>
                obtain ⟨y29, hy29⟩ := qag (xs := x.outs) (i := 0) (by grind [inR, inInt])
                obtain ⟨y30, hy30⟩ := qag (xs := x.outs) (i := 1) (by grind [inR, inInt])
                cases h31 : (y29 == y30) with
                | true =>
                  rw [show qab x = false from by grind [qab, abOk, dupO, inR]]
                  exact qzn _ _ _ _ _ _ _ _ ⟨h1, h16, c17, (by rw [h18]; rfl), c19, (by rw [h20]; rfl), h21, h22, h28, (by grind [inR, inInt]), (by grind [inR, inInt]), (qad eI hy29), (by grind [inR, inInt]), (by grind [inR, inInt]), (qad eI hy30), h31, trivial⟩
                | false =>
                  rcases qaO x hx with ⟨hL, l⟩ | ⟨hL, l⟩
                  · skip
                    rw [show qab x = false from by grind [qab, abOk, dupO, inR]]
                    exact qzo _ _ _ _ _ _ _ _ _ ⟨h1, h16, c17, (by rw [h18]; rfl), c19, (by rw [h20]; rfl), h21, h22, h28, (by grind [inR, inInt]), (by grind [inR, inInt]), (qad eI hy29), (by grind [inR, inInt]), (by grind [inR, inInt]), (qad eI hy30), h31, l, trivial⟩
                  · skip
                    rw [show qab x = true from by grind [qab, abOk, dupO, inR]]
                    exact qzp _ _ _ _ _ _ _ _ ⟨h1, h16, c17, (by rw [h18]; rfl), c19, (by rw [h20]; rfl), h21, h22, h28, (by grind [inR, inInt]), (by grind [inR, inInt]), (qad eI hy29), (by grind [inR, inInt]), (by grind [inR, inInt]), (qad eI hy30), h31, l, trivial⟩
              | false =>
                rcases qaO x hx with ⟨hL, l⟩ | ⟨hL, l⟩
                · skip
                  rw [show qab x = false from by grind [qab, abOk, dupO, inR]]
                  exact qzq _ _ _ _ _ _ _ ⟨h1, h16, c17, (by rw [h18]; rfl), c19, (by rw [h20]; rfl), h21, h22, h28, l, trivial⟩
                · skip
                  rw [show qab x = true from by grind [qab, abOk, dupO, inR]]
                  exact qzr _ _ _ _ _ _ ⟨h1, h16, c17, (by rw [h18]; rfl), c19, (by rw [h20]; rfl), h21, h22, h28, l, trivial⟩
        | false =>
          rw [show qab x = false from by grind [qab, abOk, dupO, inR]]
          exact qzf _ _ _ _ _ _ ⟨h1, h16, c17, (by rw [h18]; rfl), c19, (by rw [h20]; rfl), trivial⟩
      | false =>
        rw [show qab x = false from by grind [qab, abOk, dupO, inR]]
        exact qze _ _ _ _ _ ⟨h1, h16, c17, (by rw [h18]; rfl), trivial⟩
    | false =>
      cases h32 : (x.kind == 4) with
      | true =>
        have c33 := qbm x.a 0 99
        cases h34 : (inR x.a 0 99) with
        | true =>
          cases h35 : (x.b != 0) with
          | true =>
            rw [show qab x = false from by grind [qab, abOk, dupO, inR]]
            exact qzt _ _ _ _ _ ⟨h1, h16, h32, c33, (by rw [h34]; rfl), h35, trivial⟩
          | false =>
            cases h36 : (decide ((↑(x.outs.map eI).length : Int) > 2)) with
            | true =>
              rw [show qab x = false from by grind [qab, abOk, dupO, inR]]
              exact qzu _ _ _ _ _ ⟨h1, h16, h32, c33, (by rw [h34]; rfl), h35, h36, trivial⟩
            | false =>
              cases h37 : (x.kind == 8) with
              | true =>
                cases h38 : (decide ((↑(x.outs.map eI).length : Int) > 0)) with
                | true =>
                  rw [show qab x = false from by grind [qab, abOk, dupO, inR]]
                  exact qzv _ _ _ _ _ ⟨h1, h16, h32, c33, (by rw [h34]; rfl), h35, h36, h37, h38, trivial⟩
                | false =>
                  cases h39 : ((↑(x.outs.map eI).length : Int) == 2) with
                  | true =>
                    obtain ⟨y40, hy40⟩ := qag (xs := x.outs) (i := 0) (by grind [inR, inInt])
                    obtain ⟨y41, hy41⟩ := qag (xs := x.outs) (i := 1) (by grind [inR, inInt])
                    cases h42 : (y40 == y41) with
                    | true =>
                      rw [show qab x = false from by grind [qab, abOk, dupO, inR]]
                      exact qzw _ _ _ _ _ _ _ ⟨h1, h16, h32, c33, (by rw [h34]; rfl), h35, h36, h37, h38, h39, (by grind [inR, inInt]), (by grind [inR, inInt]), (qad eI hy40), (by grind [inR, inInt]), (by grind [inR, inInt]), (qad eI hy41), h42, trivial⟩
                    | false =>
                      rcases qaO x hx with ⟨hL, l⟩ | ⟨hL, l⟩
                      · skip
                        rw [show qab x = false from by grind [qab, abOk, dupO, inR]]
                        exact qzx _ _ _ _ _ _ _ _ ⟨h1, h16, h32, c33, (by rw [h34]; rfl), h35, h36, h37, h38, h39, (by grind [inR, inInt]), (by grind [inR, inInt]), (qad eI hy40), (by grind [inR, inInt]), (by grind [inR, inInt]), (qad eI hy41), h42, l, trivial⟩
                      · skip
                        rw [show qab x = true from by grind [qab, abOk, dupO, inR]]
                        exact qzy _ _ _ _ _ _ _ ⟨h1, h16, h32, c33, (by rw [h34]; rfl), h35, h36, h37, h38, h39, (by grind [inR, inInt]), (by grind [inR, inInt]), (qad eI hy40), (by grind [inR, inInt]), (by grind [inR, inInt]), (qad eI hy41), h42, l, trivial⟩
                  | false =>
                    rcases qaO x hx with ⟨hL, l⟩ | ⟨hL, l⟩
                    · skip
                      rw [show qab x = false from by grind [qab, abOk, dupO, inR]]
                      exact qzz _ _ _ _ _ _ ⟨h1, h16, h32, c33, (by rw [h34]; rfl), h35, h36, h37, h38, h39, l, trivial⟩
                    · skip
                      rw [show qab x = true from by grind [qab, abOk, dupO, inR]]
                      exact qzA _ _ _ _ _ ⟨h1, h16, h32, c33, (by rw [h34]; rfl), h35, h36, h37, h38, h39, l, trivial⟩
              | false =>
                cases h43 : ((↑(x.outs.map eI).length : Int) == 2) with
                | true =>
                  obtain ⟨y44, hy44⟩ := qag (xs := x.outs) (i := 0) (by grind [inR, inInt])
                  obtain ⟨y45, hy45⟩ := qag (xs := x.outs) (i := 1) (by grind [inR, inInt])
                  cases h46 : (y44 == y45) with
                  | true =>
                    rw [show qab x = false from by grind [qab, abOk, dupO, inR]]
                    exact qzB _ _ _ _ _ _ _ ⟨h1, h16, h32, c33, (by rw [h34]; rfl), h35, h36, h37, h43, (by grind [inR, inInt]), (by grind [inR, inInt]), (qad eI hy44), (by grind [inR, inInt]), (by grind [inR, inInt]), (qad eI hy45), h46, trivial⟩
                  | false =>
                    rcases qaO x hx with ⟨hL, l⟩ | ⟨hL, l⟩
                    · skip
                      rw [show qab x = false from by grind [qab, abOk, dupO, inR]]
                      exact qzC _ _ _ _ _ _ _ _ ⟨h1, h16, h32, c33, (by rw [h34]; rfl), h35, h36, h37, h43, (by grind [inR, inInt]), (by grind [inR, inInt]), (qad eI hy44), (by grind [inR, inInt]), (by grind [inR, inInt]), (qad eI hy45), h46, l, trivial⟩
                    · skip
                      rw [show qab x = true from by grind [qab, abOk, dupO, inR]]
                      exact qzD _ _ _ _ _ _ _ ⟨h1, h16, h32, c33, (by rw [h34]; rfl), h35, h36, h37, h43, (by grind [inR, inInt]), (by grind [inR, inInt]), (qad eI hy44), (by grind [inR, inInt]), (by grind [inR, inInt]), (qad eI hy45), h46, l, trivial⟩
                | false =>
                  rcases qaO x hx with ⟨hL, l⟩ | ⟨hL, l⟩
                  · skip
                    rw [show qab x = false from by grind [qab, abOk, dupO, inR]]
                    exact qzE _ _ _ _ _ _ ⟨h1, h16, h32, c33, (by rw [h34]; rfl), h35, h36, h37, h43, l, trivial⟩
                  · skip
                    rw [show qab x = true from by grind [qab, abOk, dupO, inR]]
                    exact qzF _ _ _ _ _ ⟨h1, h16, h32, c33, (by rw [h34]; rfl), h35, h36, h37, h43, l, trivial⟩
        | false =>
          rw [show qab x = false from by grind [qab, abOk, dupO, inR]]
          exact qzs _ _ _ _ _ ⟨h1, h16, h32, c33, (by rw [h34]; rfl), trivial⟩
      | false =>
        cases h47 : (x.kind == 1) with
        | true =>
          cases h48 : (x.a != 0) with
          | true =>
            rw [show qab x = false from by grind [qab, abOk, dupO, inR]]
            exact qzG _ _ _ _ ⟨h1, h16, h32, h47, h47, h48, trivial⟩
          | false =>
            cases h49 : (x.b != 0) with
            | true =>
              rw [show qab x = false from by grind [qab, abOk, dupO, inR]]
              exact qzH _ _ _ _ ⟨h1, h16, h32, h47, h47, h48, h49, trivial⟩
            | false =>
              cases h50 : (decide ((↑(x.outs.map eI).length : Int) > 2)) with
              | true =>
                rw [show qab x = false from by grind [qab, abOk, dupO, inR]]
                exact qzI _ _ _ _ ⟨h1, h16, h32, h47, h47, h48, h49, h50, trivial⟩
              | false =>
                cases h51 : (x.kind == 8) with
                | true =>
                  cases h52 : (decide ((↑(x.outs.map eI).length : Int) > 0)) with
                  | true =>
                    rw [show qab x = false from by grind [qab, abOk, dupO, inR]]
                    exact qzJ _ _ _ _ ⟨h1, h16, h32, h47, h47, h48, h49, h50, h51, h52, trivial⟩
                  | false =>
                    cases h53 : ((↑(x.outs.map eI).length : Int) == 2) with
                    | true =>
                      obtain ⟨y54, hy54⟩ := qag (xs := x.outs) (i := 0) (by grind [inR, inInt])
                      obtain ⟨y55, hy55⟩ := qag (xs := x.outs) (i := 1) (by grind [inR, inInt])
                      cases h56 : (y54 == y55) with
                      | true =>
                        rw [show qab x = false from by grind [qab, abOk, dupO, inR]]
                        exact qzK _ _ _ _ _ _ ⟨h1, h16, h32, h47, h47, h48, h49, h50, h51, h52, h53, (by grind [inR, inInt]), (by grind [inR, inInt]), (qad eI hy54), (by grind [inR, inInt]), (by grind [inR, inInt]), (qad eI hy55), h56, trivial⟩
                      | false =>
                        rcases qaO x hx with ⟨hL, l⟩ | ⟨hL, l⟩
                        · skip
                          rw [show qab x = false from by grind [qab, abOk, dupO, inR]]
                          exact qzL _ _ _ _ _ _ _ ⟨h1, h16, h32, h47, h47, h48, h49, h50, h51, h52, h53, (by grind [inR, inInt]), (by grind [inR, inInt]), (qad eI hy54), (by grind [inR, inInt]), (by grind [inR, inInt]), (qad eI hy55), h56, l, trivial⟩
                        · skip
                          rw [show qab x = true from by grind [qab, abOk, dupO, inR]]
                          exact qzM _ _ _ _ _ _ ⟨h1, h16, h32, h47, h47, h48, h49, h50, h51, h52, h53, (by grind [inR, inInt]), (by grind [inR, inInt]), (qad eI hy54), (by grind [inR, inInt]), (by grind [inR, inInt]), (qad eI hy55), h56, l, trivial⟩
                    | false =>
                      rcases qaO x hx with ⟨hL, l⟩ | ⟨hL, l⟩
                      · skip
                        rw [show qab x = false from by grind [qab, abOk, dupO, inR]]
                        exact qzN _ _ _ _ _ ⟨h1, h16, h32, h47, h47, h48, h49, h50, h51, h52, h53, l, trivial⟩
                      · skip
                        rw [show qab x = true from by grind [qab, abOk, dupO, inR]]
                        exact qzO _ _ _ _ ⟨h1, h16, h32, h47, h47, h48, h49, h50, h51, h52, h53, l, trivial⟩
                | false =>
                  cases h57 : ((↑(x.outs.map eI).length : Int) == 2) with
                  | true =>
                    obtain ⟨y58, hy58⟩ := qag (xs := x.outs) (i := 0) (by grind [inR, inInt])
                    obtain ⟨y59, hy59⟩ := qag (xs := x.outs) (i := 1) (by grind [inR, inInt])
                    cases h60 : (y58 == y59) with
                    | true =>
                      rw [show qab x = false from by grind [qab, abOk, dupO, inR]]
                      exact qzP _ _ _ _ _ _ ⟨h1, h16, h32, h47, h47, h48, h49, h50, h51, h57, (by grind [inR, inInt]), (by grind [inR, inInt]), (qad eI hy58), (by grind [inR, inInt]), (by grind [inR, inInt]), (qad eI hy59), h60, trivial⟩
                    | false =>
                      rcases qaO x hx with ⟨hL, l⟩ | ⟨hL, l⟩
                      · skip
                        rw [show qab x = false from by grind [qab, abOk, dupO, inR]]
                        exact qzQ _ _ _ _ _ _ _ ⟨h1, h16, h32, h47, h47, h48, h49, h50, h51, h57, (by grind [inR, inInt]), (by grind [inR, inInt]), (qad eI hy58), (by grind [inR, inInt]), (by grind [inR, inInt]), (qad eI hy59), h60, l, trivial⟩
                      · skip
                        rw [show qab x = true from by grind [qab, abOk, dupO, inR]]
                        exact qzR _ _ _ _ _ _ ⟨h1, h16, h32, h47, h47, h48, h49, h50, h51, h57, (by grind [inR, inInt]), (by grind [inR, inInt]), (qad eI hy58), (by grind [inR, inInt]), (by grind [inR, inInt]), (qad eI hy59), h60, l, trivial⟩
                  | false =>
                    rcases qaO x hx with ⟨hL, l⟩ | ⟨hL, l⟩
                    · skip
                      rw [show qab x = false from by grind [qab, abOk, dupO, inR]]
                      exact qzS _ _ _ _ _ ⟨h1, h16, h32, h47, h47, h48, h49, h50, h51, h57, l, trivial⟩
                    · skip
                      rw [show qab x = true from by grind [qab, abOk, dupO, inR]]
                      exact qzT _ _ _ _ ⟨h1, h16, h32, h47, h47, h48, h49, h50, h51, h57, l, trivial⟩
        | false =>
          cases h61 : (x.kind == 5) with
          | true =>
            cases h62 : (x.a != 0) with
            | true =>
              rw [show qab x = false from by grind [qab, abOk, dupO, inR]]
              exact qzU _ _ _ _ ⟨h1, h16, h32, h47, h61, h61, h62, trivial⟩
            | false =>
              cases h63 : (x.b != 0) with
              | true =>
                rw [show qab x = false from by grind [qab, abOk, dupO, inR]]
                exact qzV _ _ _ _ ⟨h1, h16, h32, h47, h61, h61, h62, h63, trivial⟩
              | false =>
                cases h64 : (decide ((↑(x.outs.map eI).length : Int) > 2)) with
                | true =>
                  rw [show qab x = false from by grind [qab, abOk, dupO, inR]]
                  exact qzW _ _ _ _ ⟨h1, h16, h32, h47, h61, h61, h62, h63, h64, trivial⟩
                | false =>
                  cases h65 : (x.kind == 8) with
                  | true =>
                    cases h66 : (decide ((↑(x.outs.map eI).length : Int) > 0)) with
                    | true =>
                      rw [show qab x = false from by grind [qab, abOk, dupO, inR]]
                      exact qzX _ _ _ _ ⟨h1, h16, h32, h47, h61, h61, h62, h63, h64, h65, h66, trivial⟩
                    | false =>
                      cases h67 : ((↑(x.outs.map eI).length : Int) == 2) with
                      | true =>
                        obtain ⟨y68, hy68⟩ := qag (xs := x.outs) (i := 0) (by grind [inR, inInt])
                        obtain ⟨y69, hy69⟩ := qag (xs := x.outs) (i := 1) (by grind [inR, inInt])
                        cases h70 : (y68 == y69) with
                        | true =>
                          rw [show qab x = false from by grind [qab, abOk, dupO, inR]]
                          exact qzY _ _ _ _ _ _ ⟨h1, h16, h32, h47, h61, h61, h62, h63, h64, h65, h66, h67, (by grind [inR, inInt]), (by grind [inR, inInt]), (qad eI hy68), (by grind [inR, inInt]), (by grind [inR, inInt]), (qad eI hy69), h70, trivial⟩
                        | false =>
                          rcases qaO x hx with ⟨hL, l⟩ | ⟨hL, l⟩
                          · skip
                            rw [show qab x = false from by grind [qab, abOk, dupO, inR]]
                            exact qzZ _ _ _ _ _ _ _ ⟨h1, h16, h32, h47, h61, h61, h62, h63, h64, h65, h66, h67, (by grind [inR, inInt]), (by grind [inR, inInt]), (qad eI hy68), (by grind [inR, inInt]), (by grind [inR, inInt]), (qad eI hy69), h70, l, trivial⟩
                          · skip
                            rw [show qab x = true from by grind [qab, abOk, dupO, inR]]
                            exact qz0 _ _ _ _ _ _ ⟨h1, h16, h32, h47, h61, h61, h62, h63, h64, h65, h66, h67, (by grind [inR, inInt]), (by grind [inR, inInt]), (qad eI hy68), (by grind [inR, inInt]), (by grind [inR, inInt]), (qad eI hy69), h70, l, trivial⟩
                      | false =>
                        rcases qaO x hx with ⟨hL, l⟩ | ⟨hL, l⟩
                        · skip
                          rw [show qab x = false from by grind [qab, abOk, dupO, inR]]
                          exact qz1 _ _ _ _ _ ⟨h1, h16, h32, h47, h61, h61, h62, h63, h64, h65, h66, h67, l, trivial⟩
                        · skip
                          rw [show qab x = true from by grind [qab, abOk, dupO, inR]]
                          exact qz2 _ _ _ _ ⟨h1, h16, h32, h47, h61, h61, h62, h63, h64, h65, h66, h67, l, trivial⟩
                  | false =>
                    cases h71 : ((↑(x.outs.map eI).length : Int) == 2) with
                    | true =>
                      obtain ⟨y72, hy72⟩ := qag (xs := x.outs) (i := 0) (by grind [inR, inInt])
                      obtain ⟨y73, hy73⟩ := qag (xs := x.outs) (i := 1) (by grind [inR, inInt])
                      cases h74 : (y72 == y73) with
                      | true =>
                        rw [show qab x = false from by grind [qab, abOk, dupO, inR]]
                        exact qz3 _ _ _ _ _ _ ⟨h1, h16, h32, h47, h61, h61, h62, h63, h64, h65, h71, (by grind [inR, inInt]), (by grind [inR, inInt]), (qad eI hy72), (by grind [inR, inInt]), (by grind [inR, inInt]), (qad eI hy73), h74, trivial⟩
                      | false =>
                        rcases qaO x hx with ⟨hL, l⟩ | ⟨hL, l⟩
                        · skip
                          rw [show qab x = false from by grind [qab, abOk, dupO, inR]]
                          exact qz4 _ _ _ _ _ _ _ ⟨h1, h16, h32, h47, h61, h61, h62, h63, h64, h65, h71, (by grind [inR, inInt]), (by grind [inR, inInt]), (qad eI hy72), (by grind [inR, inInt]), (by grind [inR, inInt]), (qad eI hy73), h74, l, trivial⟩
                        · skip
                          rw [show qab x = true from by grind [qab, abOk, dupO, inR]]
                          exact qz5 _ _ _ _ _ _ ⟨h1, h16, h32, h47, h61, h61, h62, h63, h64, h65, h71, (by grind [inR, inInt]), (by grind [inR, inInt]), (qad eI hy72), (by grind [inR, inInt]), (by grind [inR, inInt]), (qad eI hy73), h74, l, trivial⟩
                    | false =>
                      rcases qaO x hx with ⟨hL, l⟩ | ⟨hL, l⟩
                      · skip
                        rw [show qab x = false from by grind [qab, abOk, dupO, inR]]
                        exact qz6 _ _ _ _ _ ⟨h1, h16, h32, h47, h61, h61, h62, h63, h64, h65, h71, l, trivial⟩
                      · skip
                        rw [show qab x = true from by grind [qab, abOk, dupO, inR]]
                        exact qz7 _ _ _ _ ⟨h1, h16, h32, h47, h61, h61, h62, h63, h64, h65, h71, l, trivial⟩
          | false =>
            cases h75 : (x.kind == 6) with
            | true =>
              cases h76 : (x.a != 0) with
              | true =>
                rw [show qab x = false from by grind [qab, abOk, dupO, inR]]
                exact qz8 _ _ _ _ ⟨h1, h16, h32, h47, h61, h75, h75, h76, trivial⟩
              | false =>
                cases h77 : (x.b != 0) with
                | true =>
                  rw [show qab x = false from by grind [qab, abOk, dupO, inR]]
                  exact qz9 _ _ _ _ ⟨h1, h16, h32, h47, h61, h75, h75, h76, h77, trivial⟩
                | false =>
                  cases h78 : (decide ((↑(x.outs.map eI).length : Int) > 2)) with
                  | true =>
                    rw [show qab x = false from by grind [qab, abOk, dupO, inR]]
                    exact qAa _ _ _ _ ⟨h1, h16, h32, h47, h61, h75, h75, h76, h77, h78, trivial⟩
                  | false =>
                    cases h79 : (x.kind == 8) with
                    | true =>
                      cases h80 : (decide ((↑(x.outs.map eI).length : Int) > 0)) with
                      | true =>
                        rw [show qab x = false from by grind [qab, abOk, dupO, inR]]
                        exact qAb _ _ _ _ ⟨h1, h16, h32, h47, h61, h75, h75, h76, h77, h78, h79, h80, trivial⟩
                      | false =>
                        cases h81 : ((↑(x.outs.map eI).length : Int) == 2) with
                        | true =>
                          obtain ⟨y82, hy82⟩ := qag (xs := x.outs) (i := 0) (by grind [inR, inInt])
                          obtain ⟨y83, hy83⟩ := qag (xs := x.outs) (i := 1) (by grind [inR, inInt])
                          cases h84 : (y82 == y83) with
                          | true =>
                            rw [show qab x = false from by grind [qab, abOk, dupO, inR]]
                            exact qAc _ _ _ _ _ _ ⟨h1, h16, h32, h47, h61, h75, h75, h76, h77, h78, h79, h80, h81, (by grind [inR, inInt]), (by grind [inR, inInt]), (qad eI hy82), (by grind [inR, inInt]), (by grind [inR, inInt]), (qad eI hy83), h84, trivial⟩
                          | false =>
                            rcases qaO x hx with ⟨hL, l⟩ | ⟨hL, l⟩
                            · skip
                              rw [show qab x = false from by grind [qab, abOk, dupO, inR]]
                              exact qAd _ _ _ _ _ _ _ ⟨h1, h16, h32, h47, h61, h75, h75, h76, h77, h78, h79, h80, h81, (by grind [inR, inInt]), (by grind [inR, inInt]), (qad eI hy82), (by grind [inR, inInt]), (by grind [inR, inInt]), (qad eI hy83), h84, l, trivial⟩
                            · skip
                              rw [show qab x = true from by grind [qab, abOk, dupO, inR]]
                              exact qAe _ _ _ _ _ _ ⟨h1, h16, h32, h47, h61, h75, h75, h76, h77, h78, h79, h80, h81, (by grind [inR, inInt]), (by grind [inR, inInt]), (qad eI hy82), (by grind [inR, inInt]), (by grind [inR, inInt]), (qad eI hy83), h84, l, trivial⟩
                        | false =>
                          rcases qaO x hx with ⟨hL, l⟩ | ⟨hL, l⟩
                          · skip
                            rw [show qab x = false from by grind [qab, abOk, dupO, inR]]
                            exact qAf _ _ _ _ _ ⟨h1, h16, h32, h47, h61, h75, h75, h76, h77, h78, h79, h80, h81, l, trivial⟩
                          · skip
                            rw [show qab x = true from by grind [qab, abOk, dupO, inR]]
                            exact qAg _ _ _ _ ⟨h1, h16, h32, h47, h61, h75, h75, h76, h77, h78, h79, h80, h81, l, trivial⟩
                    | false =>
                      cases h85 : ((↑(x.outs.map eI).length : Int) == 2) with
                      | true =>
                        obtain ⟨y86, hy86⟩ := qag (xs := x.outs) (i := 0) (by grind [inR, inInt])
                        obtain ⟨y87, hy87⟩ := qag (xs := x.outs) (i := 1) (by grind [inR, inInt])
                        cases h88 : (y86 == y87) with
                        | true =>
                          rw [show qab x = false from by grind [qab, abOk, dupO, inR]]
                          exact qAh _ _ _ _ _ _ ⟨h1, h16, h32, h47, h61, h75, h75, h76, h77, h78, h79, h85, (by grind [inR, inInt]), (by grind [inR, inInt]), (qad eI hy86), (by grind [inR, inInt]), (by grind [inR, inInt]), (qad eI hy87), h88, trivial⟩
                        | false =>
                          rcases qaO x hx with ⟨hL, l⟩ | ⟨hL, l⟩
                          · skip
                            rw [show qab x = false from by grind [qab, abOk, dupO, inR]]
                            exact qAi _ _ _ _ _ _ _ ⟨h1, h16, h32, h47, h61, h75, h75, h76, h77, h78, h79, h85, (by grind [inR, inInt]), (by grind [inR, inInt]), (qad eI hy86), (by grind [inR, inInt]), (by grind [inR, inInt]), (qad eI hy87), h88, l, trivial⟩
                          · skip
                            rw [show qab x = true from by grind [qab, abOk, dupO, inR]]
                            exact qAj _ _ _ _ _ _ ⟨h1, h16, h32, h47, h61, h75, h75, h76, h77, h78, h79, h85, (by grind [inR, inInt]), (by grind [inR, inInt]), (qad eI hy86), (by grind [inR, inInt]), (by grind [inR, inInt]), (qad eI hy87), h88, l, trivial⟩
                      | false =>
                        rcases qaO x hx with ⟨hL, l⟩ | ⟨hL, l⟩
                        · skip
                          rw [show qab x = false from by grind [qab, abOk, dupO, inR]]
                          exact qAk _ _ _ _ _ ⟨h1, h16, h32, h47, h61, h75, h75, h76, h77, h78, h79, h85, l, trivial⟩
                        · skip
                          rw [show qab x = true from by grind [qab, abOk, dupO, inR]]
                          exact qAl _ _ _ _ ⟨h1, h16, h32, h47, h61, h75, h75, h76, h77, h78, h79, h85, l, trivial⟩
            | false =>
              cases h89 : (x.kind == 7) with
              | true =>
                cases h90 : (x.a != 0) with
                | true =>
                  rw [show qab x = false from by grind [qab, abOk, dupO, inR]]
                  exact qAm _ _ _ _ ⟨h1, h16, h32, h47, h61, h75, h89, h89, h90, trivial⟩
                | false =>
                  cases h91 : (x.b != 0) with
                  | true =>
                    rw [show qab x = false from by grind [qab, abOk, dupO, inR]]
                    exact qAn _ _ _ _ ⟨h1, h16, h32, h47, h61, h75, h89, h89, h90, h91, trivial⟩
                  | false =>
                    cases h92 : (decide ((↑(x.outs.map eI).length : Int) > 2)) with
                    | true =>
                      rw [show qab x = false from by grind [qab, abOk, dupO, inR]]
                      exact qAo _ _ _ _ ⟨h1, h16, h32, h47, h61, h75, h89, h89, h90, h91, h92, trivial⟩
                    | false =>
                      cases h93 : (x.kind == 8) with
                      | true =>
                        cases h94 : (decide ((↑(x.outs.map eI).length : Int) > 0)) with
                        | true =>
                          rw [show qab x = false from by grind [qab, abOk, dupO, inR]]
                          exact qAp _ _ _ _ ⟨h1, h16, h32, h47, h61, h75, h89, h89, h90, h91, h92, h93, h94, trivial⟩
                        | false =>
                          cases h95 : ((↑(x.outs.map eI).length : Int) == 2) with
                          | true =>
                            obtain ⟨y96, hy96⟩ := qag (xs := x.outs) (i := 0) (by grind [inR, inInt])
                            obtain ⟨y97, hy97⟩ := qag (xs := x.outs) (i := 1) (by grind [inR, inInt])
                            cases h98 : (y96 == y97) with
                            | true =>
                              rw [show qab x = false from by grind [qab, abOk, dupO, inR]]
                              exact qAq _ _ _ _ _ _ ⟨h1, h16, h32, h47, h61, h75, h89, h89, h90, h91, h92, h93, h94, h95, (by grind [inR, inInt]), (by grind [inR, inInt]), (qad eI hy96), (by grind [inR, inInt]), (by grind [inR, inInt]), (qad eI hy97), h98, trivial⟩
                            | false =>
                              rcases qaO x hx with ⟨hL, l⟩ | ⟨hL, l⟩
                              · skip
                                rw [show qab x = false from by grind [qab, abOk, dupO, inR]]
                                exact qAr _ _ _ _ _ _ _ ⟨h1, h16, h32, h47, h61, h75, h89, h89, h90, h91, h92, h93, h94, h95, (by grind [inR, inInt]), (by grind [inR, inInt]), (qad eI hy96), (by grind [inR, inInt]), (by grind [inR, inInt]), (qad eI hy97), h98, l, trivial⟩
                              · skip
                                rw [show qab x = true from by grind [qab, abOk, dupO, inR]]
                                exact qAs _ _ _ _ _ _ ⟨h1, h16, h32, h47, h61, h75, h89, h89, h90, h91, h92, h93, h94, h95, (by grind [inR, inInt]), (by grind [inR, inInt]), (qad eI hy96), (by grind [inR, inInt]), (by grind [inR, inInt]), (qad eI hy97), h98, l, trivial⟩
                          | false =>
                            rcases qaO x hx with ⟨hL, l⟩ | ⟨hL, l⟩
                            · skip
                              rw [show qab x = false from by grind [qab, abOk, dupO, inR]]
                              exact qAt _ _ _ _ _ ⟨h1, h16, h32, h47, h61, h75, h89, h89, h90, h91, h92, h93, h94, h95, l, trivial⟩
                            · skip
                              rw [show qab x = true from by grind [qab, abOk, dupO, inR]]
                              exact qAu _ _ _ _ ⟨h1, h16, h32, h47, h61, h75, h89, h89, h90, h91, h92, h93, h94, h95, l, trivial⟩
                      | false =>
                        cases h99 : ((↑(x.outs.map eI).length : Int) == 2) with
                        | true =>
                          obtain ⟨y100, hy100⟩ := qag (xs := x.outs) (i := 0) (by grind [inR, inInt])
                          obtain ⟨y101, hy101⟩ := qag (xs := x.outs) (i := 1) (by grind [inR, inInt])
                          cases h102 : (y100 == y101) with
                          | true =>
                            rw [show qab x = false from by grind [qab, abOk, dupO, inR]]
                            exact qAv _ _ _ _ _ _ ⟨h1, h16, h32, h47, h61, h75, h89, h89, h90, h91, h92, h93, h99, (by grind [inR, inInt]), (by grind [inR, inInt]), (qad eI hy100), (by grind [inR, inInt]), (by grind [inR, inInt]), (qad eI hy101), h102, trivial⟩
                          | false =>
                            rcases qaO x hx with ⟨hL, l⟩ | ⟨hL, l⟩
                            · skip
                              rw [show qab x = false from by grind [qab, abOk, dupO, inR]]
                              exact qAw _ _ _ _ _ _ _ ⟨h1, h16, h32, h47, h61, h75, h89, h89, h90, h91, h92, h93, h99, (by grind [inR, inInt]), (by grind [inR, inInt]), (qad eI hy100), (by grind [inR, inInt]), (by grind [inR, inInt]), (qad eI hy101), h102, l, trivial⟩
                            · skip
                              rw [show qab x = true from by grind [qab, abOk, dupO, inR]]
                              exact qAx _ _ _ _ _ _ ⟨h1, h16, h32, h47, h61, h75, h89, h89, h90, h91, h92, h93, h99, (by grind [inR, inInt]), (by grind [inR, inInt]), (qad eI hy100), (by grind [inR, inInt]), (by grind [inR, inInt]), (qad eI hy101), h102, l, trivial⟩
                        | false =>
                          rcases qaO x hx with ⟨hL, l⟩ | ⟨hL, l⟩
                          · skip
                            rw [show qab x = false from by grind [qab, abOk, dupO, inR]]
                            exact qAy _ _ _ _ _ ⟨h1, h16, h32, h47, h61, h75, h89, h89, h90, h91, h92, h93, h99, l, trivial⟩
                          · skip
                            rw [show qab x = true from by grind [qab, abOk, dupO, inR]]
                            exact qAz _ _ _ _ ⟨h1, h16, h32, h47, h61, h75, h89, h89, h90, h91, h92, h93, h99, l, trivial⟩
              | false =>
                cases h103 : (x.kind == 8) with
                | true =>
                  cases h104 : (x.a != 0) with
                  | true =>
                    rw [show qab x = false from by grind [qab, abOk, dupO, inR]]
                    exact qAA _ _ _ _ ⟨h1, h16, h32, h47, h61, h75, h89, h103, h104, trivial⟩
                  | false =>
                    cases h105 : (x.b != 0) with
                    | true =>
                      rw [show qab x = false from by grind [qab, abOk, dupO, inR]]
                      exact qAB _ _ _ _ ⟨h1, h16, h32, h47, h61, h75, h89, h103, h104, h105, trivial⟩
                    | false =>
                      cases h106 : (decide ((↑(x.outs.map eI).length : Int) > 2)) with
                      | true =>
                        rw [show qab x = false from by grind [qab, abOk, dupO, inR]]
                        exact qAC _ _ _ _ ⟨h1, h16, h32, h47, h61, h75, h89, h103, h104, h105, h106, trivial⟩
                      | false =>
                        cases h107 : (decide ((↑(x.outs.map eI).length : Int) > 0)) with
                        | true =>
                          rw [show qab x = false from by grind [qab, abOk, dupO, inR]]
                          exact qAD _ _ _ _ ⟨h1, h16, h32, h47, h61, h75, h89, h103, h104, h105, h106, h103, h107, trivial⟩
                        | false =>
                          cases h108 : ((↑(x.outs.map eI).length : Int) == 2) with
                          | true =>
                            obtain ⟨y109, hy109⟩ := qag (xs := x.outs) (i := 0) (by grind [inR, inInt])
                            obtain ⟨y110, hy110⟩ := qag (xs := x.outs) (i := 1) (by grind [inR, inInt])
                            cases h111 : (y109 == y110) with
                            | true =>
                              rw [show qab x = false from by grind [qab, abOk, dupO, inR]]
                              exact qAE _ _ _ _ _ _ ⟨h1, h16, h32, h47, h61, h75, h89, h103, h104, h105, h106, h103, h107, h108, (by grind [inR, inInt]), (by grind [inR, inInt]), (qad eI hy109), (by grind [inR, inInt]), (by grind [inR, inInt]), (qad eI hy110), h111, trivial⟩
                            | false =>
                              rcases qaO x hx with ⟨hL, l⟩ | ⟨hL, l⟩
                              · skip
                                rw [show qab x = false from by grind [qab, abOk, dupO, inR]]
                                exact qAF _ _ _ _ _ _ _ ⟨h1, h16, h32, h47, h61, h75, h89, h103, h104, h105, h106, h103, h107, h108, (by grind [inR, inInt]), (by grind [inR, inInt]), (qad eI hy109), (by grind [inR, inInt]), (by grind [inR, inInt]), (qad eI hy110), h111, l, trivial⟩
                              · skip
                                rw [show qab x = true from by grind [qab, abOk, dupO, inR]]
                                exact qAG _ _ _ _ _ _ ⟨h1, h16, h32, h47, h61, h75, h89, h103, h104, h105, h106, h103, h107, h108, (by grind [inR, inInt]), (by grind [inR, inInt]), (qad eI hy109), (by grind [inR, inInt]), (by grind [inR, inInt]), (qad eI hy110), h111, l, trivial⟩
                          | false =>
                            rcases qaO x hx with ⟨hL, l⟩ | ⟨hL, l⟩
                            · skip
                              rw [show qab x = false from by grind [qab, abOk, dupO, inR]]
                              exact qAH _ _ _ _ _ ⟨h1, h16, h32, h47, h61, h75, h89, h103, h104, h105, h106, h103, h107, h108, l, trivial⟩
                            · skip
                              rw [show qab x = true from by grind [qab, abOk, dupO, inR]]
                              exact qAI _ _ _ _ ⟨h1, h16, h32, h47, h61, h75, h89, h103, h104, h105, h106, h103, h107, h108, l, trivial⟩
                | false =>
                  rw [show qab x = false from by grind [qab, abOk, dupO, inR]]
                  exact qAJ _ _ _ _ ⟨h1, h16, h32, h47, h61, h75, h89, h103, trivial⟩
end Go.Proofs.YtialmplmfcahpaaGreat
