/- FnExactAbstractKind: the law returns true for every pick and every flag. No condition. -/
import Derived.Test.YtamiheofgejehaaRows
import Derived.WalkKit
import Derived.WalkSpells
import Derived.WalkLawsBesides
import Derived.ProofKit
import Derived.Lib.SmallJoins
namespace Go.Proofs.Ytamiheofgejehaa
open Go.ChangeShapes Go.WideShapes Go.ChangeAt Go.RowKit Go.Joins

theorem Try.own : ownKnob Try.prog.godebug = none := by kernel_rfl
theorem Try.laidOut : laidOutB Try.prog = true := by kernel_rfl
theorem Try.cells23 : Try.prog.cellsOf 23 = 3 := by kernel_rfl

def ak (k : Int) (d : Bool) : Int := if (d && k == 2) = true then 1 else if (d && k == 1) = true then 2 else 0

set_option maxHeartbeats 400000 in
theorem toPick_any (k a b : Int) (w : World) :
    Calls Try.prog 10 #[.agg #[.int .i64 k, .int .i64 a, .int .i64 b]] w fun e w' => e = .returned (.agg #[.int .i64 k, .int .i64 a, .int .i64 b]) ∧ Below w.heap.size w w' := by
  go_enter Try.func10, Try.ntmps10
  go_wp2
  exact bodyPost_ret (v := .agg #[.int .i64 k, .int .i64 a, .int .i64 b]) (by simp [results, Try.results10, go_sem]) rfl ⟨rfl, (((Below.refl _ _).alloc (Nat.le_refl _) _).alloc (by simp) _).alloc (by simp; omega) _⟩

set_option maxHeartbeats 400000 in
theorem specKind_any (k a b : Int) (d : Bool) (w : World) :
    Calls Try.prog 9 #[.agg #[.int .i64 k, .int .i64 a, .int .i64 b], .bool d] w fun e w' => e = .returned (.int .i64 (ak k d)) ∧ Below w.heap.size w w' := by
  go_enter Try.func9, Try.ntmps9
  go_wp2
  all_goals
    go_ret
    exact ⟨by simp [ak, *], (Below.refl _ _).alloc (Nat.le_refl _) _⟩

set_option maxHeartbeats 400000 in
theorem implKind_any (k a b : Int) (d : Bool) (w : World) :
    Calls Try.prog 11 #[.agg #[.int .i64 k, .int .i64 a, .int .i64 b], .bool d] w fun e w' => e = .returned (.int .i64 (ak k d)) ∧ Below w.heap.size w w' := by
  go_enter Try.func11, Try.ntmps11
  go_wp2
  all_goals
    go_ret
    exact ⟨by simp [ak, *], (Below.refl _ _).alloc (Nat.le_refl _) _⟩

theorem cell3 {B : Nat} {w0 w1 : World} (x y z : Value) (t : TypeId) (hb : Below (w0.heap.size + 1) (w0.alloc (.cells #[x, y, z] t)) w1) (hB : B = w0.heap.size) :
    w1.cell? ⟨B, 0, none⟩ = some x ∧ w1.cell? ⟨B, 1, none⟩ = some y ∧ w1.cell? ⟨B, 2, none⟩ = some z := by
  subst hB
  exact ⟨(hb.cell (p := ⟨w0.heap.size, 0, none⟩) (by simp)).trans (by go_simp), (hb.cell (p := ⟨w0.heap.size, 1, none⟩) (by simp)).trans (by go_simp), (hb.cell (p := ⟨w0.heap.size, 2, none⟩) (by simp)).trans (by go_simp)⟩

set_option maxHeartbeats 400000 in
theorem law1_any (k a b : Int) (d : Bool) (w : World) :
    Calls Try.prog 3 #[.agg #[.int .i64 k, .int .i64 a, .int .i64 b], .bool d] w fun e w' => e = .returned (.bool true) ∧ Below w.heap.size w w' := by
  go_enter Try.func3, Try.ntmps3
  go_wp2_with fail
  refine (toPick_any k a b _).mono ?_
  rintro e w1 ⟨rfl, hb1⟩
  go_wp2_with fail
  refine (specKind_any k a b d _).mono ?_
  rintro e w2 ⟨rfl, hb2⟩
  have hB2 : Below (w.heap.size + 1) (w.alloc (.cells #[.int .i64 k, .int .i64 a, .int .i64 b] 23)) w2 := by
    have h1 := hb1
    simp at h1
    exact h1.trans (hb2.mono (by have := hb1.size; simp at this; omega))
  obtain ⟨c1, c2, c3⟩ := cell3 _ _ _ _ hB2 rfl
  go_wp2_with fail
  refine (toPick_any k a b _).mono ?_
  rintro e w3 ⟨rfl, hb3⟩
  go_wp2_with fail
  refine (implKind_any k a b d _).mono ?_
  rintro e w4 ⟨rfl, hb4⟩
  go_wp2_with fail
  go_ret
  have hB4 : Below (w.heap.size + 1) (w.alloc (.cells #[.int .i64 k, .int .i64 a, .int .i64 b] 23)) w4 := by
    have s1 := hB2.size
    have s2 := hb3.size
    exact (hB2.trans (hb3.mono (by simp at s1; omega))).trans (hb4.mono (by simp at s1; omega))
  exact ⟨rfl, ((Below.refl _ _).alloc (Nat.le_refl _) _).trans (hB4.mono (by omega))⟩

/-- The law's bridge: a law that returned true and has left all old memory alone meets the row's post. -/
theorem trodAll_below {H : Type} {enc : TypeId × Value → H} {P : Program} (hl : laidOutB P = true) {W W' : World} (hb : Below W.heap.size W W') :
    ∀ (ts : List TypeId) (vs : List Value) (ds : List (DataW H)) (ps : List MemPlace), ts.all (fun t => P.readableRec t && decide (t < P.types.size)) = true →
      DataW.TrodAll enc P W 0 (fun _ => true) true ts vs ds ps → (∀ x ∈ ps, x.block < W.heap.size) →
      DataW.TrodAll enc P W' 0 (fun b => decide (b < W.heap.size)) true ts vs ds ps
  | [], vs, ds, ps, _, h, _ => by
    obtain ⟨rfl, rfl, rfl⟩ := trodAll_nil h
    exact trodAll_mk0
  | t :: ts, vs, ds, ps, ht, h, hlt => by
    obtain ⟨v, vs', d, ds', p, q, rfl, rfl, rfl, h0, hr⟩ := trodAll_cons h
    simp only [List.all_cons, Bool.and_eq_true, decide_eq_true_eq] at ht
    exact trodAll_cons_mk (Below.trod hl ht.1.1 ht.1.2 h0 hb (fun x hx => hlt x (List.mem_append_left _ hx)))
      (trodAll_below hl hb ts vs' ds' q ht.2 hr (fun x hx => hlt x (List.mem_append_right _ hx)))

theorem law_post {H : Type} {enc : TypeId × Value → H} {P : Program} (hl : laidOutB P = true) {f : Func} {s : ChangeSpec} {tb : TypeId} (hres : f.resultTypes = #[tb]) (hb : P.underlying tb = some .bool)
    (hp : f.params.toList.all (fun t => P.readableRec t && decide (t < P.types.size)) = true) (hvars : s.vars = [])
    {W W' : World} {args : Array Value} {ds gs : List (DataW H)} {before : List MemPlace} (hW : DataW.Whole enc P f.params.toList s.vars false W args.toList ds gs before)
    (hs : gs = [] → (s.fn H ds).results = [.lit (.bool true)] ∧ (s.fn H ds).args = ds ∧ (s.fn H ds).vars = [])
    (hbelow : Below W.heap.size W W') :
    ∃ v, Ending.returned (Value.bool true) = Ending.returned v ∧ s.post enc P f false true false false W args v W' := by
  have hW' := hW
  have hlt := hW.lt
  obtain ⟨p, q, hA, hV, rfl, hfz, hnd⟩ := hW
  rw [hvars] at hV
  obtain ⟨rfl, rfl⟩ := trodVars_none hV
  obtain ⟨h1, h2, h3⟩ := hs rfl
  refine ⟨_, rfl, ds, [], p ++ [], [], p, [], hW', ?_, ?_, ?_, hbelow.frame _, fun h => by cases h⟩
  · rw [List.append_nil, h1, hres]
    exact trodAll_mk1 (shut_bool hb true)
  · rw [List.append_nil, h2]
    exact trodAll_below hl hbelow _ _ _ _ hp hA (fun x hx => hlt x (by simpa using hx))
  · rw [List.append_nil, h3, hvars]
    rfl

set_option maxRecDepth 100000 in
theorem law1_lifted (os : Os) (started : os.Started) (H : Type) (enc : TypeId × Value → H) :
    ReturnsInHanded {} Try.checked os 3 .any (Rows.fnExactAbstractKindSpec.pre6 enc Try.prog Try.f3 Rows.fnExactAbstractKindRow.domain false) (Rows.fnExactAbstractKindSpec.post enc Try.prog Try.f3 false true false false) := by
  refine returnsInHanded_of_change (C := Try.checked) Try.own started (by kernel_rfl) Try.func3
    (ChangeSpec.witness6 (enc := enc) (C := Try.checked) false ⟨#[], #[.agg #[.int .i64 0, .int .i64 0, .int .i64 0], .bool false], []⟩ 8 (by kernel_rfl) (by kernel_rfl) (by kernel_rfl) (by kernel_rfl)) ?_
  intro W base args ds gs before hval0 hW hcnd _
  have hval : ∀ (j : Nat) t v, Try.f3.params[j]? = some t → args[j]? = some v → Value.okWide Try.prog W .any base t v := hval0
  have hW' : DataW.Whole enc Try.prog Try.f3.params.toList Rows.fnExactAbstractKindSpec.vars false W args.toList ds gs before := hW
  obtain ⟨p, q, hA0, hV, rfl, hfz, hnd⟩ := hW
  have hA : DataW.TrodAll enc Try.prog W 0 (fun _ => true) true Try.f3.params.toList args.toList ds p := hA0
  rw [Try.params3] at hA hval
  obtain ⟨v0, v1, d0, d1, p0, p1, rfl, rfl, rfl, h0, h1⟩ := trodAll_two hA
  obtain ⟨rfl, rfl⟩ := trodVars_none hV
  obtain ⟨c0, c1, c2, y0, y1, y2, m, rfl, _, _, hy0, hy1, hy2⟩ := open_agg3 Try.underlying23 (by kernel_rfl) Try.cells23 (hval 0 23 v0 rfl rfl) h0
  obtain ⟨k, e0, _, _⟩ := DataW.trod_int Try.underlying3 hy0
  obtain ⟨a, e1, _, _⟩ := DataW.trod_int Try.underlying3 hy1
  obtain ⟨b, e2, _, _⟩ := DataW.trod_int Try.underlying3 hy2
  simp at e0 e1 e2
  subst e0 e1 e2
  obtain ⟨d, rfl, _, _⟩ := open_bool Try.underlying4 (hval 1 4 v1 rfl rfl) h1
  refine (law1_any k a b d W).mono fun e W' ⟨he, hbelow⟩ => ?_
  subst he
  exact law_post Try.laidOut (tb := 4) (by kernel_rfl) Try.underlying4 (by kernel_rfl) rfl hW' (fun _ => ⟨rfl, rfl, rfl⟩) hbelow

theorem law1_holds : Rows.FnExactAbstractKindSaid :=
  OpenClaim.holds_of_wide 3 Try.f3 rfl rfl rfl rfl rfl rfl rfl ⟨rfl, rfl, rfl, rfl, rfl⟩ rfl rfl rfl rfl rfl (by kernel_rfl) Try.func3 (by kernel_rfl)
    (of_decide_eq_true (by kernel_rfl)) (by unfold Func.isWrapper; first | (rw [if_pos (by decide +kernel)]; kernel_rfl) | (rw [if_neg (by decide +kernel)]; exact ⟨rfl, rfl⟩))
    (fun os started H enc _ => law1_lifted os started H enc)

end Go.Proofs.Ytamiheofgejehaa
