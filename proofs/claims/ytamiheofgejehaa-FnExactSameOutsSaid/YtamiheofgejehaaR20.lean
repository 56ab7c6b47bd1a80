/- From the row's reading of the arguments to data. -/
import Derived.Test.YtamiheofgejehaaR17
import Derived.ChangeMaps5
import Derived.ChangeSame
import Derived.ChangeStays
set_option linter.unusedVariables false
set_option linter.unusedSimpArgs false
namespace Go.Sx
open Go.RowKit

inductive ShD (P : Program) : TypeId → List D → Prop
  | bool (t : TypeId) (b : Bool) (h : P.underlying t = some .bool) : ShD P t [.v (.bool b)]
  | int (t : TypeId) (k : IntKind) (n : Int) (h : P.underlying t = some (.int k)) (hw : (Lit.int k n).wf = true) : ShD P t [.v (.int k n)]
  | str (t : TypeId) (s : ByteArray) (h : P.underlying t = some .string) (hs : s.size ≤ maxLen) : ShD P t [.v (.string s)]
  | sl (t e : TypeId) (es : List (List D)) (h : P.underlying t = some (.slice e)) (hl : es.length ≤ maxLen) (he : ∀ ds ∈ es, ShD P e ds) : ShD P t [.sl (P.cellsOf e) es]
  | struct (t : TypeId) (fs : Array Field) (ds : List D) (h : P.underlying t = some (.struct fs)) (hl : ds.length = P.cellsOf t) (hf : ∀ f ∈ fs.toList, ShD P f.type ((ds.drop f.offset).take (P.cellsOf f.type))) : ShD P t ds

def tiles (P : Program) : Nat → List Field → Nat → Bool
  | o, [], n => o == n
  | o, f :: r, n => f.offset == o && tiles P (o + P.cellsOf f.type) r n

def simpleT (P : Program) : Nat → TypeId → Bool
  | 0, _ => false
  | m + 1, t =>
    match P.underlying t with
    | some .bool | some (.int _) | some .string => true
    | some (.slice e) => decide (0 < P.cellsOf e) && simpleT P m e
    | some (.struct fs) => fs.toList.all (fun f => simpleT P m f.type) && tiles P 0 fs.toList (P.cellsOf t)
    | _ => false

def RepL (w : World) (ds : List D) (cs : List Value) : Prop := ds.length = cs.length ∧ ∀ (i : Nat) (d : D), ds[i]? = some d → ∃ v, cs[i]? = some v ∧ FreeRep w d v

theorem RepL.one {w : World} {d : D} {v : Value} (h : FreeRep w d v) : RepL w [d] [v] :=
  ⟨rfl, fun i d' hd => by
    cases i with
    | zero => simp at hd; subst hd; exact ⟨v, rfl, h⟩
    | succ i => simp at hd⟩

theorem RepL.append {w : World} {a b : List D} {x y : List Value} (h : RepL w a x) (k : RepL w b y) : RepL w (a ++ b) (x ++ y) := by
  refine ⟨by simp [h.1, k.1], fun i d hd => ?_⟩
  rw [List.getElem?_append] at hd ⊢
  rw [← h.1]
  split at hd
  · rename_i hi; rw [if_pos hi]; exact h.2 i d hd
  · rename_i hi; rw [if_neg hi]; exact k.2 _ d hd

theorem tiles_le {P : Program} : ∀ {fl : List Field} {o n : Nat}, tiles P o fl n = true → o ≤ n ∧ ∀ f ∈ fl, o ≤ f.offset ∧ f.offset + P.cellsOf f.type ≤ n
  | [], o, n, h => by simp [tiles] at h; exact ⟨by omega, fun f hf => by cases hf⟩
  | f :: r, o, n, h => by
    simp only [tiles, Bool.and_eq_true, beq_iff_eq] at h
    obtain ⟨h1, h2⟩ := tiles_le h.2
    refine ⟨by omega, fun g hg => ?_⟩
    rcases List.mem_cons.1 hg with rfl | hg
    · exact ⟨by omega, by omega⟩
    · have := h2 g hg; exact ⟨by omega, this.2⟩

/-- The fields' data, put together. -/
theorem tile {P : Program} {w : World} {cs : List Value} : ∀ {fl : List Field} {o : Nat}, tiles P o fl cs.length = true →
    (∀ f ∈ fl, ∃ ds, ShD P f.type ds ∧ RepL w ds ((cs.drop f.offset).take (P.cellsOf f.type))) →
    ∃ ds, RepL w ds (cs.drop o) ∧ ∀ f ∈ fl, ShD P f.type ((ds.drop (f.offset - o)).take (P.cellsOf f.type))
  | [], o, h, _ => by
    simp only [tiles, beq_iff_eq] at h
    subst h
    exact ⟨[], ⟨by simp, fun i d hd => by simp at hd⟩, fun f hf => by cases hf⟩
  | f :: r, o, h, hf => by
    have hle := tiles_le h
    simp only [tiles, Bool.and_eq_true, beq_iff_eq] at h
    obtain ⟨h0, h⟩ := h
    obtain ⟨ds, h1, h2⟩ := tile h fun g hg => hf g (by simp [hg])
    obtain ⟨d0, h3, h4⟩ := hf f (by simp)
    have hl0 : d0.length = P.cellsOf f.type := by
      rw [h4.1]
      have := (hle.2 f (by simp)).2
      simp; omega
    refine ⟨d0 ++ ds, ?_, ?_⟩
    · have : cs.drop o = (cs.drop f.offset).take (P.cellsOf f.type) ++ cs.drop (o + P.cellsOf f.type) := by
        rw [h0, ← List.drop_drop]
        exact (List.take_append_drop _ _).symm
      rw [this]
      exact h4.append h1
    · intro g hg
      rcases List.mem_cons.1 hg with rfl | hg
      · rw [h0, Nat.sub_self, List.drop_zero, List.take_append_of_le_length (by omega), List.take_of_length_le (by omega)]
        exact h3
      · have hg1 := h2 g hg
        have := (tiles_le h).2 g hg
        rw [List.drop_append, List.drop_eq_nil_of_le (show d0.length ≤ g.offset - o by omega), List.nil_append, hl0]
        rwa [show g.offset - o - P.cellsOf f.type = g.offset - (o + P.cellsOf f.type) by omega]

section
variable {H : Type} {enc : TypeId × Value → H} {P : Program} {w : World} {base : Nat} {held : Bool}

theorem cells_get {a : Addr} {k : Nat} {cs : List Value} (h : w.cells? base a k = some cs) : cs.length = k ∧ ∀ i, i < k → w.cell? (a.add i) = cs[i]? := by
  unfold World.cells? at h
  split at h
  · exact ⟨by simpa using mapM_some_length h, fun i hi => mapM_some_get h i i (by simp [hi])⟩
  · cases h

theorem cell_some {a : Addr} {v : Value} (h : w.cell? a = some v) : ∃ arr ty fr, w.heap[a.block]? = some (.cells arr ty fr) ∧ a.spot = none ∧ arr[a.off]? = some v := by
  unfold World.cell? at h
  split at h
  · rename_i arr ty fr e
    split at h
    · cases h
    · rename_i hs
      refine ⟨arr, ty, fr, e, ?_, h⟩
      cases hsp : a.spot with
      | none => rfl
      | some x => simp [hsp] at hs
  · cases h

theorem trod_rep : ∀ (m : Nat) (t : TypeId) (fuel : Nat) (cs : List Value) (x : DataW H × List MemPlace), simpleT P m t = true → DataW.trod enc P w base (fun _ => true) held fuel t cs = some x →
    ∃ ds, ShD P t ds ∧ RepL w ds cs
  | 0, _, _, _, _, h, _ => by cases h
  | m + 1, t, fuel, cs, x, hs, h => by
    unfold simpleT at hs
    split at hs
    · rename_i hu
      obtain ⟨b, rfl, _⟩ := DataW.trod_bool hu h
      exact ⟨_, .bool t b hu, .one (.v _ _ rfl)⟩
    · rename_i k hu
      obtain ⟨n, rfl, _, hw⟩ := DataW.trod_int hu h
      exact ⟨_, .int t k n hu hw, .one (.v _ _ rfl)⟩
    · rename_i hu
      obtain ⟨s, rfl, _, hw⟩ := DataW.trod_string hu h
      exact ⟨_, .str t s hu hw, .one (.v _ _ rfl)⟩
    · rename_i e hu
      simp only [Bool.and_eq_true, decide_eq_true_eq] at hs
      obtain ⟨hk0, hse⟩ := hs
      rcases DataW.trod_slice hu h with ⟨rfl, _⟩ | ⟨a, len, cap, elems, rest, n, _, rfl, _, _, hl, hc, hlen, hel, hsp, _⟩
      · exact ⟨_, .sl t e [] hu (by simp) (fun ds hds => by cases hds), .one (.nil _ _ _)⟩
      · obtain ⟨hrl, hrest⟩ := hsp rfl
        generalize hkk : P.cellsOf e = k at *
        -- every element up to the room's end is there
        have hall : ∀ i, i < cap → ∃ cs, w.cells? base (a.add (i * k)) k = some cs ∧ ∃ x, DataW.trod enc P w base (fun _ => true) held n e cs = some x := by
          intro i hi
          by_cases hil : i < len
          · have := hel i hil
            obtain ⟨y, hy⟩ : ∃ y, elems[i]? = some y := ⟨elems[i], List.getElem?_eq_getElem (by omega)⟩
            rw [hy, Option.bind_eq_some_iff] at this
            obtain ⟨cs, h1, h2⟩ := this
            exact ⟨cs, h1, y, h2⟩
          · have := hrest (i - len) (by omega)
            rw [show len + (i - len) = i by omega] at this
            obtain ⟨y, hy⟩ : ∃ y, rest[i - len]? = some y := ⟨rest[i - len], List.getElem?_eq_getElem (by omega)⟩
            rw [hy, Option.bind_eq_some_iff] at this
            obtain ⟨cs, h1, h2⟩ := this
            exact ⟨cs, h1, y, h2⟩
        by_cases hcap : cap = 0
        · subst hcap
          have : len = 0 := by omega
          subst this
          have := ShD.sl (P := P) t e [] hu (by simp) (fun ds hds => by cases hds)
          exact ⟨_, this, .one (.nil _ _ _)⟩
        · have helem : ∀ i, ∃ ds, i < len → ShD P e ds ∧ ∃ cs, w.cells? base (a.add (i * k)) k = some cs ∧ RepL w ds cs := by
            intro i
            by_cases hi : i < len
            · obtain ⟨cs, h1, x, h2⟩ := hall i (by omega)
              obtain ⟨ds, h3, h4⟩ := trod_rep m e n cs x hse h2
              exact ⟨ds, fun _ => ⟨h3, cs, h1, h4⟩⟩
            · exact ⟨[], fun h => absurd h hi⟩
          obtain ⟨f, hf⟩ := Classical.skolem.1 helem
          -- the block
          obtain ⟨cl, hcl, _⟩ := hall (cap - 1) (by omega)
          obtain ⟨hcll, hclg⟩ := cells_get hcl
          have hlast := hclg (k - 1) (by omega)
          obtain ⟨vl, hvl⟩ : ∃ v, cl[k - 1]? = some v := ⟨cl[k - 1], List.getElem?_eq_getElem (by omega)⟩
          rw [hvl] at hlast
          obtain ⟨b, off, spot⟩ := a
          have hspot : spot = none := by
            obtain ⟨c0, hc0, _⟩ := hall 0 (by omega)
            obtain ⟨hc0l, hc0g⟩ := cells_get hc0
            have h0 := hc0g 0 hk0
            obtain ⟨v0, hv0⟩ : ∃ v, c0[0]? = some v := ⟨c0[0], List.getElem?_eq_getElem (by omega)⟩
            rw [hv0] at h0
            obtain ⟨_, _, _, _, h1, _⟩ := cell_some h0
            simpa [Addr.add] using h1
          subst hspot
          obtain ⟨arr, ty, fr, hb, _, hlast⟩ := cell_some hlast
          simp only [add_off] at hb hlast
          have hsz : off + cap * k ≤ arr.size := by
            have h1 := (Array.getElem?_eq_some_iff.1 hlast).1
            have h2 : cap * k = (cap - 1) * k + k := by rw [← Nat.succ_mul]; congr 1; omega
            omega
          have hes : ((List.range len).map f).length = len := by simp
          have hget : ∀ i j d, cellAt ((List.range len).map f) i j = some d → i < len ∧ (f i)[j]? = some d := by
            intro i j d hd
            unfold cellAt at hd
            rw [List.getElem?_map] at hd
            by_cases hi : i < len
            · rw [List.getElem?_range hi] at hd
              exact ⟨hi, by simpa using hd⟩
            · rw [List.getElem?_eq_none (by simpa using hi)] at hd
              simp at hd
          have hcell : ∀ i j d, cellAt ((List.range len).map f) i j = some d → ∃ u, arr[off + i * k + j]? = some u ∧ FreeRep w d u := by
            intro i j d hd
            obtain ⟨hi, hj⟩ := hget i j d hd
            obtain ⟨_, cs, h1, h2⟩ := hf i hi
            obtain ⟨hcl', hcg⟩ := cells_get h1
            obtain ⟨u, hu', hr⟩ := h2.2 j d hj
            have hjk : j < k := by rw [← hcl']; exact (List.getElem?_eq_some_iff.1 hu').1
            have := hcg j hjk
            rw [hu'] at this
            obtain ⟨arr2, ty2, fr2, hb2, _, hx⟩ := cell_some this
            simp only [add_off] at hb2 hx
            rw [hb] at hb2
            cases hb2
            exact ⟨u, hx, hr⟩
          have hrep : Rep w (fun _ => .imm) Tag.free.R (.sl k ((List.range len).map f)) (.slice (some ⟨b, off, none⟩) ((List.range len).map f).length cap) := by
            refine .row _ k _ b off cap arr ty fr (fun i j => arr.getD (off + i * k + j) undef) hb rfl (by omega) hsz ?_ ?_ ?_
            · intro e' he
              obtain ⟨i, hi, rfl⟩ := List.mem_map.1 he
              obtain ⟨_, cs, h1, h2⟩ := hf i (by simpa using hi)
              rw [h2.1]; exact (cells_get h1).1
            · intro i j d hd
              obtain ⟨u, h1, _⟩ := hcell i j d hd
              rw [h1]; simp [Array.getD_eq_getD_getElem?, h1]
            · intro i j d hd
              obtain ⟨u, h1, h2⟩ := hcell i j d hd
              have : arr.getD (off + i * k + j) undef = u := by simp [Array.getD_eq_getD_getElem?, h1]
              rw [this]
              exact h2
          rw [hes] at hrep
          have hsl := ShD.sl (P := P) t e ((List.range len).map f) hu (by rw [hes]; omega)
          rw [hkk] at hsl
          refine ⟨_, hsl ?_, .one hrep⟩
          intro ds hds
          obtain ⟨i, hi, rfl⟩ := List.mem_map.1 hds
          exact (hf i (by simpa using hi)).1
    · rename_i fs hu
      simp only [Bool.and_eq_true, List.all_eq_true] at hs
      obtain ⟨hs1, hs2⟩ := hs
      obtain ⟨xs, n, _, _, hl, hxl, hf⟩ := DataW.trod_struct hu h
      rw [← hl] at hs2
      obtain ⟨ds, h1, h2⟩ := tile (w := w) hs2 fun f hff => by
        obtain ⟨i, hi⟩ := List.mem_iff_getElem?.1 hff
        have := hf i f (by simpa using hi)
        have hi' : i < xs.length := by rw [hxl]; have := (List.getElem?_eq_some_iff.1 hi).1; simpa using this
        rw [List.getElem?_eq_getElem hi'] at this
        exact trod_rep m f.type n _ _ (hs1 f hff) this
      rw [List.drop_zero] at h1
      exact ⟨ds, .struct t fs ds hu (by rw [h1.1, hl]) (by simpa using h2), h1⟩
    · cases hs
end
end Go.Sx
