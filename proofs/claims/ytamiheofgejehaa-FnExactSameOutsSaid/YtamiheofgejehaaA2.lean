/- FnExactSameOuts: the law returns true for every two lists of cells. No condition. -/
import Derived.Test.YtamiheofgejehaaP1
import Derived.Test.YtamiheofgejehaaR21
set_option linter.unusedVariables false
set_option linter.unusedSimpArgs false
namespace Go.Proofs.Ytamiheofgejehaa
open Go.ChangeShapes Go.WideShapes Go.ChangeAt Go.RowKit Go.Joins Go.Sx

theorem Try.own : ownKnob Try.prog.godebug = none := by kernel_rfl
theorem Try.laidOut : laidOutB Try.prog = true := by kernel_rfl

theorem int_of {P : Program} {t : TypeId} {k : IntKind} {ds : List D} (hu : P.underlying t = some (.int k)) (h : ShD P t ds) : ∃ n, ds = [.v (.int k n)] ∧ (Lit.int k n).wf = true := by
  cases h <;> simp_all

theorem slice_of {P : Program} {t e : TypeId} {ds : List D} (hu : P.underlying t = some (.slice e)) (h : ShD P t ds) : ∃ es, ds = [.sl (P.cellsOf e) es] ∧ es.length ≤ maxLen ∧ ∀ x ∈ es, ShD P e x := by
  cases h <;> simp_all

theorem struct_of {P : Program} {t : TypeId} {fs : Array Field} {ds : List D} (hu : P.underlying t = some (.struct fs)) (h : ShD P t ds) : ds.length = P.cellsOf t ∧ ∀ f ∈ fs.toList, ShD P f.type ((ds.drop f.offset).take (P.cellsOf f.type)) := by
  cases h <;> simp_all

theorem Try.cells84 : Try.prog.cellsOf 84 = 4 := by kernel_rfl
theorem Try.cells3 : Try.prog.cellsOf 3 = 1 := by kernel_rfl

theorem list2 {α : Type} {l : List α} (h : l.length = 2) : ∃ a b, l = [a, b] := by
  match l, h with
  | [a, b], _ => exact ⟨a, b, rfl⟩
theorem list4 {α : Type} {l : List α} (h : l.length = 4) : ∃ a b c d, l = [a, b, c, d] := by
  match l, h with
  | [a, b, c, d], _ => exact ⟨a, b, c, d, rfl⟩

theorem cell_of {ds : List D} (h : ShD Try.prog 84 ds) : ∃ c : Cell, ds = encC c := by
  obtain ⟨hl, hf⟩ := struct_of Try.underlying84 h
  rw [Try.cells84] at hl
  obtain ⟨a, b, c, d, rfl⟩ := list4 hl
  have h0 := hf _ (List.mem_cons_self ..)
  have h1 := hf _ (List.mem_cons_of_mem _ (List.mem_cons_self ..))
  have h2 := hf _ (List.mem_cons_of_mem _ (List.mem_cons_of_mem _ (List.mem_cons_self ..)))
  have h3 := hf _ (List.mem_cons_of_mem _ (List.mem_cons_of_mem _ (List.mem_cons_of_mem _ (List.mem_cons_self ..))))
  simp only [Try.cells3] at h0 h1 h2 h3
  obtain ⟨n0, e0, _⟩ := int_of Try.underlying3 h0
  obtain ⟨n1, e1, _⟩ := int_of Try.underlying3 h1
  obtain ⟨n2, e2, _⟩ := int_of Try.underlying3 h2
  obtain ⟨n3, e3, _⟩ := int_of Try.underlying3 h3
  simp at e0 e1 e2 e3
  subst e0 e1 e2 e3
  exact ⟨⟨n0, n1, n2, n3⟩, rfl⟩

theorem map_of {α : Type} (f : α → List D) : ∀ {es : List (List D)}, (∀ ds ∈ es, ∃ a, ds = f a) → ∃ xs : List α, es = xs.map f
  | [], _ => ⟨[], rfl⟩
  | ds :: es, h => by
    obtain ⟨a, rfl⟩ := h ds (by simp)
    obtain ⟨xs, rfl⟩ := map_of f (es := es) fun x hx => h x (by simp [hx])
    exact ⟨a :: xs, rfl⟩

theorem cells_of {ad : AD} (h : ShA Try.prog 28 ad) : ∃ xs : List Cell, ad = .one (.sl 4 (xs.map encC)) ∧ xs.length ≤ maxLen := by
  cases ad with
  | agg ds => have := h.2; simp [aggT, Try.underlying28] at this
  | one d =>
    obtain ⟨es, e, hl, he⟩ := slice_of Try.underlying28 h.1
    rw [Try.cells84] at e
    obtain ⟨xs, rfl⟩ := map_of encC fun ds hds => cell_of (he ds hds)
    simp at e
    exact ⟨xs, by rw [e], by simpa using hl⟩

theorem law4_all (ads : List AD) (h : ShAll Try.prog Try.f4.params.toList ads) : Ret Try.prog 4 ads [.one (B true)] := by
  rw [Try.params4] at h
  match ads, h with
  | [a, b], ⟨ha, hb, _⟩ =>
    obtain ⟨xs, rfl, hx⟩ := cells_of ha
    obtain ⟨ys, rfl, hy⟩ := cells_of hb
    have hm : maxLen = 9223372036854775807 := rfl
    exact law4 xs ys (by omega) (by omega)

set_option maxRecDepth 100000 in
theorem law2_lifted (os : Os) (started : os.Started) (H : Type) (enc : TypeId × Value → H) :
    ReturnsInHanded {} Try.checked os 4 .any (Rows.fnExactSameOutsSpec.pre6 enc Try.prog Try.f4 Rows.fnExactSameOutsRow.domain false) (Rows.fnExactSameOutsSpec.post enc Try.prog Try.f4 false true false false) := by
  refine returnsInHanded_of_change (C := Try.checked) Try.own started (by kernel_rfl) Try.func4
    (ChangeSpec.witness6 (enc := enc) (C := Try.checked) false ⟨#[], #[.slice none 0 0, .slice none 0 0], []⟩ 8 (by kernel_rfl) (by kernel_rfl) (by kernel_rfl) (by kernel_rfl)) ?_
  intro W base args ds gs before hval0 hW hcnd _
  exact law_of_ret (fno := 4) Try.laidOut (tb := 4) (by kernel_rfl) Try.underlying4 (by kernel_rfl) (by kernel_rfl) rfl hval0 hW (fun h => by obtain ⟨a, b, rfl⟩ := list2 (l := ds) h; exact ⟨rfl, rfl, rfl⟩) law4_all

theorem law2_holds : Rows.FnExactSameOutsSaid :=
  OpenClaim.holds_of_wide 4 Try.f4 rfl rfl rfl rfl rfl rfl rfl ⟨rfl, rfl, rfl, rfl, rfl⟩ rfl rfl rfl rfl rfl (by kernel_rfl) Try.func4 (by kernel_rfl)
    (of_decide_eq_true (by kernel_rfl)) (by unfold Func.isWrapper; first | (rw [if_pos (by decide +kernel)]; kernel_rfl) | (rw [if_neg (by decide +kernel)]; exact ⟨rfl, rfl⟩))
    (fun os started H enc _ => law2_lifted os started H enc)

#print axioms law2_holds
end Go.Proofs.Ytamiheofgejehaa
