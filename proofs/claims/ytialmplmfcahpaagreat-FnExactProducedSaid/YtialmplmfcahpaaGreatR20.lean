/- From the row's reading of the arguments to data. -/
import Derived.Test.YtialmplmfcahpaaGreatR15
import Derived.ChangeMaps5
import Derived.ChangeSame
import Derived.ChangeStays
import Derived.ProofKit
import Derived.Lib.SmallJoins
set_option linter.unusedVariables false
set_option linter.unusedSimpArgs false
namespace Go.Sx
open Go.RowKit
inductive ShD (P : Program) : TypeId → List D → Prop
  | bool (t : TypeId) (b : Bool) (h : P.underlying t = some .bool) : ShD P t [.v (.bool b)]
  | int (t : TypeId) (k : IntKind) (n : Int) (h : P.underlying t = some (.int k)) (hw : (Lit.int k n).wf = true) : ShD P t [.v (.int k n)]
  | str (t : TypeId) (s : ByteArray) (h : P.underlying t = some .string) (hs : s.size ≤ maxLen) : ShD P t [.v (.string s)]
  | sl (t e : TypeId) (es : List (List D)) (h : P.underlying t = some (.slice e)) (hl : es.length ≤ maxLen) (he : ∀ ds ∈ es, ShD P e ds) : ShD P t [.sl (P.cellsOf e) es]
  | struct (t : TypeId) (fs : Array Field) (ds : List D) (h : P.underlying t = some (.struct fs)) (hl : ds.length = P.cellsOf t) (hf : ∀ f ∈ fs.toList, ShD P f.type ((ds.drop f.offset).take (P.cellsOf f.type))) : ShD P t ds
def tiles (P : Program) : Nat → List Field → Nat → Bool
  | o, [], n => o == n
  | o, f :: r, n => f.offset == o && tiles P (o + P.cellsOf f.type) r n
def qc8 (P : Program) : Nat → TypeId → Bool
  | 0, _ => false
  | m + 1, t =>
    match P.underlying t with
    | some .bool | some (.int _) | some .string => true
    | some (.slice e) => decide (0 < P.cellsOf e) && qc8 P m e
    | some (.struct fs) => fs.toList.all (fun f => qc8 P m f.type) && tiles P 0 fs.toList (P.cellsOf t)
    | _ => false
def RepL (w : World) (ds : List D) (cs : List Value) : Prop := ds.length = cs.length ∧ ∀ (i : Nat) (d : D), ds[i]? = some d → ∃ v, cs[i]? = some v ∧ qbg w d v
theorem RepL.one {w : World} {d : D} {v : Value} (h : qbg w d v) : RepL w [d] [v] :=
  ⟨rfl, fun i d' hd => by
    cases i with
    | zero => simp at hd; subst hd; exact ⟨v, rfl, h⟩
    | succ i => simp at hd⟩
theorem RepL.append {w : World} {a b : List D} {x y : List Value} (h : RepL w a x) (k : RepL w b y) : RepL w (a ++ b) (x ++ y) := by
  refine ⟨by simp [h.1, k.1], fun i d hd => ?_⟩
  rw [List.getElem?_append] at hd ⊢
  rw [← h.1]
  split at hd
  · rename_i hi; rw [if_pos hi]; exact h.2 i d hd
  · rename_i hi; rw [if_neg hi]; exact k.2 _ d hd
theorem qii {P : Program} : ∀ {fl : List Field} {o n : Nat}, tiles P o fl n = true → o ≤ n ∧ ∀ f ∈ fl, o ≤ f.offset ∧ f.offset + P.cellsOf f.type ≤ n
  | [], o, n, h => by simp [tiles] at h; exact ⟨by omega, fun f hf => by cases hf⟩
  | f :: r, o, n, h => by
    simp only [tiles, Bool.and_eq_true, beq_iff_eq] at h
    obtain ⟨h1, h2⟩ := qii h.2
    refine ⟨by omega, fun g hg => ?_⟩
    rcases List.mem_cons.1 hg with rfl | hg
    · exact ⟨by omega, by omega⟩
    · have := h2 g hg; exact ⟨by omega, this.2⟩
theorem tile {P : Program} {w : World} {cs : List Value} : ∀ {fl : List Field} {o : Nat}, tiles P o fl cs.length = true →
    (∀ f ∈ fl, ∃ ds, ShD P f.type ds ∧ RepL w ds ((cs.drop f.offset).take (P.cellsOf f.type))) →
    ∃ ds, RepL w ds (cs.drop o) ∧ ∀ f ∈ fl, ShD P f.type ((ds.drop (f.offset - o)).take (P.cellsOf f.type))
  | [], o, h, _ => by
    simp only [tiles, beq_iff_eq] at h
    subst h
    exact ⟨[], ⟨by simp, fun i d hd => by simp at hd⟩, fun f hf => by cases hf⟩
  | f :: r, o, h, hf => by
    have hle := qii h
    simp only [tiles, Bool.and_eq_true, beq_iff_eq] at h
    obtain ⟨h0, h⟩ := h
    obtain ⟨ds, h1, h2⟩ := tile h fun g hg => hf g (by simp [hg])
    obtain ⟨d0, h3, h4⟩ := hf f (by simp)
    have hl0 : d0.length = P.cellsOf f.type := by
      rw [h4.1]
      have := (hle.2 f (by simp)).2
      simp; omega
    refine ⟨d0 ++ ds, ?_, ?_⟩
    · have : cs.drop o = (cs.drop f.offset).take (P.cellsOf f.type) ++ cs.drop (o + P.cellsOf f.type) := by
        rw [h0, ← List.drop_drop]
        exact (List.take_append_drop _ _).symm
      rw [this]
      exact h4.append h1
    · intro g hg
      rcases List.mem_cons.1 hg with rfl | hg
      · rw [h0, Nat.sub_self, List.drop_zero, List.take_append_of_le_length (by omega), List.take_of_length_le (by omega)]
        exact h3
      · have hg1 := h2 g hg
        have := (qii h).2 g hg
        rw [List.drop_append, List.drop_eq_nil_of_le (show d0.length ≤ g.offset - o by omega), List.nil_append, hl0]
        rwa [show g.offset - o - P.cellsOf f.type = g.offset - (o + P.cellsOf f.type) by omega]
section
variable {H : Type} {enc : TypeId × Value → H} {P : Program} {w : World} {base : Nat} {held : Bool}
theorem qf4 {a : Addr} {k : Nat} {cs : List Value} (h : w.cells? base a k = some cs) : cs.length = k ∧ ∀ i, i < k → w.cell? (a.add i) = cs[i]? := by
  unfold World.cells? at h
  split at h
  · exact ⟨by simpa using mapM_some_length h, fun i hi => mapM_some_get h i i (by simp [hi])⟩
  · cases h
theorem qij {a : Addr} {v : Value} (h : w.cell? a = some v) : ∃ arr ty fr, w.heap[a.block]? = some (.cells arr ty fr) ∧ a.spot = none ∧ arr[a.off]? = some v := by
  unfold World.cell? at h
  split at h
  · rename_i arr ty fr e
    split at h
    · cases h
    · rename_i hs
      refine ⟨arr, ty, fr, e, ?_, h⟩
      cases hsp : a.spot with
      | none => rfl
      | some x => simp [hsp] at hs
  · cases h
theorem qik : ∀ (m : Nat) (t : TypeId) (fuel : Nat) (cs : List Value) (x : DataW H × List MemPlace), qc8 P m t = true → DataW.trod enc P w base (fun _ => true) held fuel t cs = some x →
    ∃ ds, ShD P t ds ∧ RepL w ds cs
  | 0, _, _, _, _, h, _ => by cases h
  | m + 1, t, fuel, cs, x, hs, h => by
    unfold qc8 at hs
    split at hs
    · rename_i hu
      obtain ⟨b, rfl, _⟩ := DataW.trod_bool hu h
      exact ⟨_, .bool t b hu, .one (.v _ _ rfl)⟩
    · rename_i k hu
      obtain ⟨n, rfl, _, hw⟩ := DataW.trod_int hu h
      exact ⟨_, .int t k n hu hw, .one (.v _ _ rfl)⟩
    · rename_i hu
      obtain ⟨s, rfl, _, hw⟩ := DataW.trod_string hu h
      exact ⟨_, .str t s hu hw, .one (.v _ _ rfl)⟩
    · rename_i e hu
      simp only [Bool.and_eq_true, decide_eq_true_eq] at hs
      obtain ⟨hk0, hse⟩ := hs
      rcases DataW.trod_slice hu h with ⟨rfl, _⟩ | ⟨a, len, cap, elems, rest, n, _, rfl, _, _, hl, hc, hlen, hel, hsp, _⟩
      · exact ⟨_, .sl t e [] hu (by simp) (fun ds hds => by cases hds), .one (.nil _ _ _)⟩
      · obtain ⟨hrl, hrest⟩ := hsp rfl
        generalize hkk : P.cellsOf e = k at *
        have hall : ∀ i, i < cap → ∃ cs, w.cells? base (a.add (i * k)) k = some cs ∧ ∃ x, DataW.trod enc P w base (fun _ => true) held n e cs = some x := by
          intro i hi
          by_cases hil : i < len
          · have := hel i hil
            obtain ⟨y, hy⟩ : ∃ y, elems[i]? = some y := ⟨elems[i], List.getElem?_eq_getElem (by omega)⟩
            rw [hy, Option.bind_eq_some_iff] at this
            obtain ⟨cs, h1, h2⟩ := this
            exact ⟨cs, h1, y, h2⟩
          · have := hrest (i - len) (by omega)
            rw [show len + (i - len) = i by omega] at this
            obtain ⟨y, hy⟩ : ∃ y, rest[i - len]? = some y := ⟨rest[i - len], List.getElem?_eq_getElem (by omega)⟩
            rw [hy, Option.bind_eq_some_iff] at this
            obtain ⟨cs, h1, h2⟩ := this
            exact ⟨cs, h1, y, h2⟩
        by_cases hcap : cap = 0
        · subst hcap
          have : len = 0 := by omega
          subst this
          have := ShD.sl (P := P) t e [] hu (by simp) (fun ds hds => by cases hds)
          exact ⟨_, this, .one (.nil _ _ _)⟩
        · have helem : ∀ i, ∃ ds, i < len → ShD P e ds ∧ ∃ cs, w.cells? base (a.add (i * k)) k = some cs ∧ RepL w ds cs := by
            intro i
            by_cases hi : i < len
            · obtain ⟨cs, h1, x, h2⟩ := hall i (by omega)
              obtain ⟨ds, h3, h4⟩ := qik m e n cs x hse h2
              exact ⟨ds, fun _ => ⟨h3, cs, h1, h4⟩⟩
            · exact ⟨[], fun h => absurd h hi⟩
          obtain ⟨f, hf⟩ := Classical.skolem.1 helem
          obtain ⟨cl, hcl, _⟩ := hall (cap - 1) (by omega)
          obtain ⟨hcll, hclg⟩ := qf4 hcl
          have hlast := hclg (k - 1) (by omega)
          obtain ⟨vl, hvl⟩ : ∃ v, cl[k - 1]? = some v := ⟨cl[k - 1], List.getElem?_eq_getElem (by omega)⟩
          rw [hvl] at hlast
          obtain ⟨b, off, spot⟩ := a
          have hspot : spot = none := by
            obtain ⟨c0, hc0, _⟩ := hall 0 (by omega)
            obtain ⟨hc0l, hc0g⟩ := qf4 hc0
            have h0 := hc0g 0 hk0
            obtain ⟨v0, hv0⟩ : ∃ v, c0[0]? = some v := ⟨c0[0], List.getElem?_eq_getElem (by omega)⟩
            rw [hv0] at h0
            obtain ⟨_, _, _, _, h1, _⟩ := qij h0
            simpa [Addr.add] using h1
          subst hspot
          obtain ⟨arr, ty, fr, hb, _, hlast⟩ := qij hlast
          simp only [qb4] at hb hlast
          have hsz : off + cap * k ≤ arr.size := by
            have h1 := (Array.getElem?_eq_some_iff.1 hlast).1
            have h2 : cap * k = (cap - 1) * k + k := by rw [← Nat.succ_mul]; congr 1; omega
            omega
          have hes : ((List.range len).map f).length = len := by simp
          have hget : ∀ i j d, qao ((List.range len).map f) i j = some d → i < len ∧ (f i)[j]? = some d := by
            intro i j d hd
            unfold qao at hd
            rw [List.getElem?_map] at hd
            by_cases hi : i < len
            · rw [List.getElem?_range hi] at hd
              exact ⟨hi, by simpa using hd⟩
            · rw [List.getElem?_eq_none (by simpa using hi)] at hd
              simp at hd
          have hcell : ∀ i j d, qao ((List.range len).map f) i j = some d → ∃ u, arr[off + i * k + j]? = some u ∧ qbg w d u := by
            intro i j d hd
            obtain ⟨hi, hj⟩ := hget i j d hd
            obtain ⟨_, cs, h1, h2⟩ := hf i hi
            obtain ⟨hcl', hcg⟩ := qf4 h1
            obtain ⟨u, hu', hr⟩ := h2.2 j d hj
            have hjk : j < k := by rw [← hcl']; exact (List.getElem?_eq_some_iff.1 hu').1
            have := hcg j hjk
            rw [hu'] at this
            obtain ⟨arr2, ty2, fr2, hb2, _, hx⟩ := qij this
            simp only [qb4] at hb2 hx
            rw [hb] at hb2
            cases hb2
            exact ⟨u, hx, hr⟩
          have hrep : Rep w (fun _ => .imm) Tag.free.R (.sl k ((List.range len).map f)) (.slice (some ⟨b, off, none⟩) ((List.range len).map f).length cap) := by
            refine .row _ k _ b off cap arr ty fr (fun i j => arr.getD (off + i * k + j) undef) hb rfl (by omega) hsz ?_ ?_ ?_
            · intro e' he
              obtain ⟨i, hi, rfl⟩ := List.mem_map.1 he
              obtain ⟨_, cs, h1, h2⟩ := hf i (by simpa using hi)
              rw [h2.1]; exact (qf4 h1).1
            · intro i j d hd
              obtain ⟨u, h1, _⟩ := hcell i j d hd
              rw [h1]; simp [Array.getD_eq_getD_getElem?, h1]
            · intro i j d hd
              obtain ⟨u, h1, h2⟩ := hcell i j d hd
              have : arr.getD (off + i * k + j) undef = u := by simp [Array.getD_eq_getD_getElem?, h1]
              rw [this]
              exact h2
          rw [hes] at hrep
          have hsl := ShD.sl (P := P) t e ((List.range len).map f) hu (by rw [hes]; omega)
          rw [hkk] at hsl
          refine ⟨_, hsl ?_, .one hrep⟩
          intro ds hds
          obtain ⟨i, hi, rfl⟩ := List.mem_map.1 hds
          exact (hf i (by simpa using hi)).1
    · rename_i fs hu
      simp only [Bool.and_eq_true, List.all_eq_true] at hs
      obtain ⟨hs1, hs2⟩ := hs
      obtain ⟨xs, n, _, _, hl, hxl, hf⟩ := DataW.trod_struct hu h
      rw [← hl] at hs2
      obtain ⟨ds, h1, h2⟩ := tile (w := w) hs2 fun f hff => by
        obtain ⟨i, hi⟩ := List.mem_iff_getElem?.1 hff
        have := hf i f (by simpa using hi)
        have hi' : i < xs.length := by rw [hxl]; have := (List.getElem?_eq_some_iff.1 hi).1; simpa using this
        rw [List.getElem?_eq_getElem hi'] at this
        exact qik m f.type n _ _ (hs1 f hff) this
      rw [List.drop_zero] at h1
      exact ⟨ds, .struct t fs ds hu (by rw [h1.1, hl]) (by simpa using h2), h1⟩
    · cases hs
end
end Go.Sx
namespace Go.Sx
open Go.ChangeShapes Go.WideShapes Go.ChangeAt Go.RowKit Go.Joins
def aggT (P : Program) (t : TypeId) : Bool := match P.underlying t with | some (.struct _) => true | _ => false
def ShA (P : Program) (t : TypeId) : AD → Prop
  | .one d => ShD P t [d] ∧ aggT P t = false
  | .agg ds => ShD P t ds ∧ aggT P t = true
def ShAll (P : Program) : List TypeId → List AD → Prop
  | [], [] => True
  | t :: ts, a :: as => ShA P t a ∧ ShAll P ts as
  | _, _ => False
section
variable {H : Type} {enc : TypeId × Value → H} {P : Program} {w : World} {base b0 : Nat} {held : Bool} {r : Reach}
theorem qom {t : TypeId} {v : Value} {d : DataW H} {ps : List MemPlace} (hs : qc8 P 20 t = true) (hval : Value.okWide P w r b0 t v) (h : DataW.Trod enc P w base (fun _ => true) held t v d ps) :
    ∃ ad, ShA P t ad ∧ ArgOk w ad v := by
  obtain ⟨fuel, hf⟩ := h
  obtain ⟨ds, h1, h2⟩ := qik 20 t fuel _ _ hs hf
  have one : (∀ cs, v ≠ .agg cs) → aggT P t = false → ∃ ad, ShA P t ad ∧ ArgOk w ad v := by
    intro hv ha
    have hc : v.cells.toList = [v] := by
      cases v <;> first | rfl | (exact absurd rfl (hv _))
    rw [hc] at h2
    match ds, h1, h2 with
    | [d], h1, h2 =>
      obtain ⟨u, hu, hr⟩ := h2.2 0 d rfl
      simp at hu; subst hu
      exact ⟨.one d, ⟨h1, ha⟩, hr⟩
    | [], _, h2 => simp [RepL] at h2
    | _ :: _ :: _, _, h2 => simp [RepL] at h2
  rw [show (20 : Nat) = 19 + 1 from rfl] at hs
  unfold qc8 at hs
  unfold Value.okWide at hval
  split at hs
  · rename_i hu
    rw [hu] at hval
    refine one (fun cs e => ?_) (by simp [aggT, hu])
    subst e
    simp [Cell.okWide, Cell.ok, hu] at hval
  · rename_i hu
    rw [hu] at hval
    refine one (fun cs e => ?_) (by simp [aggT, hu])
    subst e
    simp [Cell.okWide, Cell.ok, hu] at hval
  · rename_i hu
    rw [hu] at hval
    refine one (fun cs e => ?_) (by simp [aggT, hu])
    subst e
    simp [Cell.okWide, Cell.ok, hu] at hval
  · rename_i hu
    rw [hu] at hval
    refine one (fun cs e => ?_) (by simp [aggT, hu])
    subst e
    simp [Cell.okWide, Cell.ok, hu] at hval
  · rename_i hu
    rw [hu] at hval
    obtain ⟨cs, rfl, _, _⟩ := hval
    refine ⟨.agg ds, ⟨h1, by simp [aggT, hu]⟩, cs, rfl, by have := h2.1; simpa [Value.cells] using this.symm, fun i d hd => ?_⟩
    obtain ⟨u, hu', hr⟩ := h2.2 i d hd
    exact ⟨u, by simpa [Value.cells] using hu', hr⟩
  · cases hs
theorem qla : ∀ (ts : List TypeId) (vs : List Value) (ds : List (DataW H)) (ps : List MemPlace), ts.all (qc8 P 20) = true → (∀ (j : Nat) t v, ts[j]? = some t → vs[j]? = some v → Value.okWide P w r b0 t v) →
    DataW.TrodAll enc P w base (fun _ => true) held ts vs ds ps → ∃ ads, ShAll P ts ads ∧ vs.length = ads.length ∧ ∀ (i : Nat) (ad : AD), ads[i]? = some ad → ∃ v, vs[i]? = some v ∧ ArgOk w ad v
  | [], [], [], _, _, _, _ => ⟨[], trivial, rfl, fun i ad h => by simp at h⟩
  | t :: ts, v :: vs, d :: ds, ps, hs, hval, h => by
    obtain ⟨p, q, h1, h2, _⟩ := h
    simp only [List.all_cons, Bool.and_eq_true] at hs
    obtain ⟨ad, ha1, ha2⟩ := qom hs.1 (hval 0 t v rfl rfl) h1
    obtain ⟨ads, h3, h4, h5⟩ := qla ts vs ds q hs.2 (fun j t v ht hv => hval (j + 1) t v (by simpa using ht) (by simpa using hv)) h2
    refine ⟨ad :: ads, ⟨ha1, h3⟩, by simp [h4], fun i ad' hi => ?_⟩
    cases i with
    | zero => simp at hi; subst hi; exact ⟨v, rfl, ha2⟩
    | succ i => simpa using h5 i ad' (by simpa using hi)
  | [], _ :: _, _, _, _, _, h => by simp [DataW.TrodAll] at h
  | [], [], _ :: _, _, _, _, h => by simp [DataW.TrodAll] at h
  | _ :: _, [], _, _, _, _, h => by simp [DataW.TrodAll] at h
  | _ :: _, _ :: _, [], _, _, _, h => by simp [DataW.TrodAll] at h
theorem qlb {H : Type} {enc : TypeId × Value → H} {P : Program} (hl : laidOutB P = true) {W W' : World} (hb : Below W.heap.size W W') :
    ∀ (ts : List TypeId) (vs : List Value) (ds : List (DataW H)) (ps : List MemPlace), ts.all (fun t => P.readableRec t && decide (t < P.types.size)) = true →
      DataW.TrodAll enc P W 0 (fun _ => true) true ts vs ds ps → (∀ x ∈ ps, x.block < W.heap.size) →
      DataW.TrodAll enc P W' 0 (fun b => decide (b < W.heap.size)) true ts vs ds ps
  | [], vs, ds, ps, _, h, _ => by
    obtain ⟨rfl, rfl, rfl⟩ := trodAll_nil h
    exact trodAll_mk0
  | t :: ts, vs, ds, ps, ht, h, hlt => by
    obtain ⟨v, vs', d, ds', p, q, rfl, rfl, rfl, h0, hr⟩ := trodAll_cons h
    simp only [List.all_cons, Bool.and_eq_true, decide_eq_true_eq] at ht
    exact trodAll_cons_mk (Below.trod hl ht.1.1 ht.1.2 h0 hb (fun x hx => hlt x (List.mem_append_left _ hx)))
      (qlb hl hb ts vs' ds' q ht.2 hr (fun x hx => hlt x (List.mem_append_right _ hx)))
theorem qlc : ∀ (ts : List TypeId) (vs : List Value) (ds : List (DataW H)) (ps : List MemPlace), DataW.TrodAll enc P w base (fun _ => true) held ts vs ds ps → ds.length = ts.length
  | [], [], [], _, _ => rfl
  | t :: ts, v :: vs, d :: ds, ps, h => by
    obtain ⟨p, q, _, h2, _⟩ := h
    simp [qlc ts vs ds q h2]
  | [], _ :: _, _, _, h => by simp [DataW.TrodAll] at h
  | [], [], _ :: _, _, h => by simp [DataW.TrodAll] at h
  | _ :: _, [], _, _, h => by simp [DataW.TrodAll] at h
  | _ :: _, _ :: _, [], _, h => by simp [DataW.TrodAll] at h
theorem qil (hl : laidOutB P = true) {f : Func} {fno : Nat} {s : ChangeSpec} {tb : TypeId} (hres : f.resultTypes = #[tb]) (hb : P.underlying tb = some .bool)
    (hp : f.params.toList.all (fun t => P.readableRec t && decide (t < P.types.size)) = true) (hst : f.params.toList.all (qc8 P 20) = true) (hvars : s.vars = [])
    {W : World} {args : Array Value} {ds gs : List (DataW H)} {before : List MemPlace} (hval : ∀ (j : Nat) t v, f.params[j]? = some t → args[j]? = some v → Value.okWide P W r b0 t v)
    (hW : DataW.Whole enc P f.params.toList s.vars false W args.toList ds gs before)
    (hs : ds.length = f.params.size → (s.fn H ds).results = [.lit (.bool true)] ∧ (s.fn H ds).args = ds ∧ (s.fn H ds).vars = [])
    (hlaw : ∀ ads, ShAll P f.params.toList ads → Ret P fno ads [.one (B true)]) :
    Calls P fno args W fun e W' => ∃ v, e = .returned v ∧ s.post enc P f false true false false W args v W' := by
  have hW' := hW
  have hlt := hW.lt
  obtain ⟨p, q, hA, hV, rfl, hfz, hnd⟩ := hW
  rw [hvars] at hV
  obtain ⟨rfl, rfl⟩ := trodVars_none hV
  obtain ⟨h1, h2, h3⟩ := hs (by have := qlc _ _ _ _ hA; simpa using this)
  obtain ⟨ads, hsh, hlen, hok⟩ := qla _ _ _ _ hst (fun j t v ht hv => hval j t v (by simpa using ht) (by simpa using hv)) hA
  refine (hlaw ads hsh W args ⟨by simpa using hlen, fun i ad hi => by simpa using hok i ad hi⟩).mono ?_
  rintro e W' ⟨v, rfl, hbelow, hr⟩
  have hv : v = .bool true := by
    obtain ⟨ω, _, _, h⟩ := hr
    simp only [qb7, qcM] at h
    cases h
    rfl
  subst hv
  refine ⟨_, rfl, ds, [], p ++ [], [], p, [], hW', ?_, ?_, ?_, hbelow.below.frame _, fun h => by cases h⟩
  · rw [List.append_nil, h1, hres]
    exact trodAll_mk1 (shut_bool hb true)
  · rw [List.append_nil, h2]
    exact qlb hl hbelow.below _ _ _ _ hp hA (fun x hx => hlt x (by simpa using hx))
  · rw [List.append_nil, h3, hvars]
    rfl
end
end Go.Sx
