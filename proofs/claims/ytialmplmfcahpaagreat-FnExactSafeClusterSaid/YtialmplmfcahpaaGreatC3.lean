/- slices.IndexFunc, ContainsFunc at any type. -/
import Derived.Test.YtialmplmfcahpaaGreatC1
set_option linter.unusedVariables false
set_option linter.unusedSimpArgs false
namespace Go.Proofs.YtialmplmfcahpaaGreat
open Go.Sx Go.RowKit
def idxI {α : Type} (p : α → Bool) (xs : List α) : Int := match xs.findIdx? p with | some i => i | none => -1
theorem idxI_ge {α : Type} (p : α → Bool) (xs : List α) : decide (idxI p xs ≥ 0) = xs.any p := by
  unfold idxI
  cases h : xs.findIdx? p with
  | none =>
    have : xs.any p = false := by
      rw [List.any_eq_false]
      rw [List.findIdx?_eq_none_iff] at h
      exact fun a ha => by simp [h a ha]
    rw [this]; rfl
  | some i =>
    rw [List.findIdx?_eq_some_iff_getElem] at h
    obtain ⟨hi, h2, _⟩ := h
    have : xs.any p = true := List.any_eq_true.2 ⟨_, List.getElem_mem hi, h2⟩
    rw [this]; simp
theorem slices_IndexFunc_Worker_ret (xs : List Worker) (p : Worker → Bool) (g : Nat) (caps : List D) (hl : xs.length ≤ 1048576) (hc : qbk Tryz.prog g = true) (hp : ∀ x ∈ xs, Ret Tryz.prog g ([.agg x.e] ++ caps.map .one) [.one (B (p x))]) :
    Ret Tryz.prog 271 [.one (.sl 8 (xs.map Worker.e)), .one (.cl g caps)] [.one (I (idxI p xs))] := by
  have hp' : ∀ x ∈ xs, ∀ r, p x = r → Ret Tryz.prog g ([.agg x.e] ++ caps.map .one) [.one (B r)] := fun x hx r h => h ▸ hp x hx
  have l := qbB (P := Tryz.prog) (c := (qaa Tryz.f271 0)) xs p (fun i => slices_IndexFunc_Worker_L0 (xs.map Worker.e) g caps i) (X := fun i _ => slices_IndexFunc_Worker_X0 i) qaD (qah 0)
    (fun i a ha h => slices_IndexFunc_Worker_L0_s1 _ _ _ _ _ _ _ _ _ _ _ _ _ ⟨lt1 (lt_of ha), lt0, lt2 (lt_of ha), qae Worker.e ha, hc, hp' a (qaG ha) false h, rfl, up1 (lt_of ha) hl, trivial⟩)
    (fun i a ha h => slices_IndexFunc_Worker_L0_x0 _ _ _ _ _ _ _ _ _ _ _ _ _ ⟨lt1 (lt_of ha), lt0, lt2 (lt_of ha), qae Worker.e ha, hc, hp' a (qaG ha) true h, rfl, trivial⟩)
    (slices_IndexFunc_Worker_L0_x2 _ _ _ _ ⟨ge1, trivial⟩)
  rcases l with ⟨_, h1, _, h2⟩ | ⟨i, a, _, _, _, h1, _, h2⟩
  · simp only [idxI, h1]
    exact slices_IndexFunc_Worker_p1 _ _ _ ⟨h2, trivial⟩
  · simp only [idxI, h1]
    exact slices_IndexFunc_Worker_p0 _ _ _ _ ⟨h2, trivial⟩
theorem slices_ContainsFunc_Worker_ret (xs : List Worker) (p : Worker → Bool) (g : Nat) (caps : List D) (hl : xs.length ≤ 1048576) (hc : qbk Tryz.prog g = true) (hp : ∀ x ∈ xs, Ret Tryz.prog g ([.agg x.e] ++ caps.map .one) [.one (B (p x))]) :
    Ret Tryz.prog 186 [.one (.sl 8 (xs.map Worker.e)), .one (.cl g caps)] [.one (B (xs.any p))] := by
  rw [← idxI_ge]
  exact slices_ContainsFunc_Worker_p0 _ _ _ _ ⟨slices_IndexFunc_Worker_ret xs p g caps hl hc hp, trivial⟩
theorem slices_IndexFunc_Record_ret (xs : List Record) (p : Record → Bool) (g : Nat) (caps : List D) (hl : xs.length ≤ 1048576) (hc : qbk Tryz.prog g = true) (hp : ∀ x ∈ xs, Ret Tryz.prog g ([.agg x.e] ++ caps.map .one) [.one (B (p x))]) :
    Ret Tryz.prog 310 [.one (.sl 5 (xs.map Record.e)), .one (.cl g caps)] [.one (I (idxI p xs))] := by
  have hp' : ∀ x ∈ xs, ∀ r, p x = r → Ret Tryz.prog g ([.agg x.e] ++ caps.map .one) [.one (B r)] := fun x hx r h => h ▸ hp x hx
  have l := qbB (P := Tryz.prog) (c := (qaa Tryz.f310 0)) xs p (fun i => slices_IndexFunc_Record_L0 (xs.map Record.e) g caps i) (X := fun i _ => slices_IndexFunc_Record_X0 i) qaD (qah 0)
    (fun i a ha h => slices_IndexFunc_Record_L0_s1 _ _ _ _ _ _ _ _ _ _ ⟨lt1 (lt_of ha), lt0, lt2 (lt_of ha), qae Record.e ha, hc, hp' a (qaG ha) false h, rfl, up1 (lt_of ha) hl, trivial⟩)
    (fun i a ha h => slices_IndexFunc_Record_L0_x0 _ _ _ _ _ _ _ _ _ _ ⟨lt1 (lt_of ha), lt0, lt2 (lt_of ha), qae Record.e ha, hc, hp' a (qaG ha) true h, rfl, trivial⟩)
    (slices_IndexFunc_Record_L0_x2 _ _ _ _ ⟨ge1, trivial⟩)
  rcases l with ⟨_, h1, _, h2⟩ | ⟨i, a, _, _, _, h1, _, h2⟩
  · simp only [idxI, h1]
    exact slices_IndexFunc_Record_p1 _ _ _ ⟨h2, trivial⟩
  · simp only [idxI, h1]
    exact slices_IndexFunc_Record_p0 _ _ _ _ ⟨h2, trivial⟩
theorem slices_ContainsFunc_Record_ret (xs : List Record) (p : Record → Bool) (g : Nat) (caps : List D) (hl : xs.length ≤ 1048576) (hc : qbk Tryz.prog g = true) (hp : ∀ x ∈ xs, Ret Tryz.prog g ([.agg x.e] ++ caps.map .one) [.one (B (p x))]) :
    Ret Tryz.prog 269 [.one (.sl 5 (xs.map Record.e)), .one (.cl g caps)] [.one (B (xs.any p))] := by
  rw [← idxI_ge]
  exact slices_ContainsFunc_Record_p0 _ _ _ _ ⟨slices_IndexFunc_Record_ret xs p g caps hl hc hp, trivial⟩
theorem slices_IndexFunc_Done_ret (xs : List Done) (p : Done → Bool) (g : Nat) (caps : List D) (hl : xs.length ≤ 1048576) (hc : qbk Tryz.prog g = true) (hp : ∀ x ∈ xs, Ret Tryz.prog g ([.agg x.e] ++ caps.map .one) [.one (B (p x))]) :
    Ret Tryz.prog 311 [.one (.sl 2 (xs.map Done.e)), .one (.cl g caps)] [.one (I (idxI p xs))] := by
  have hp' : ∀ x ∈ xs, ∀ r, p x = r → Ret Tryz.prog g ([.agg x.e] ++ caps.map .one) [.one (B r)] := fun x hx r h => h ▸ hp x hx
  have l := qbB (P := Tryz.prog) (c := (qaa Tryz.f311 0)) xs p (fun i => slices_IndexFunc_Done_L0 (xs.map Done.e) g caps i) (X := fun i _ => slices_IndexFunc_Done_X0 i) qaD (qah 0)
    (fun i a ha h => slices_IndexFunc_Done_L0_s1 _ _ _ _ _ _ _ ⟨lt1 (lt_of ha), lt0, lt2 (lt_of ha), qae Done.e ha, hc, hp' a (qaG ha) false h, rfl, up1 (lt_of ha) hl, trivial⟩)
    (fun i a ha h => slices_IndexFunc_Done_L0_x0 _ _ _ _ _ _ _ ⟨lt1 (lt_of ha), lt0, lt2 (lt_of ha), qae Done.e ha, hc, hp' a (qaG ha) true h, rfl, trivial⟩)
    (slices_IndexFunc_Done_L0_x2 _ _ _ _ ⟨ge1, trivial⟩)
  rcases l with ⟨_, h1, _, h2⟩ | ⟨i, a, _, _, _, h1, _, h2⟩
  · simp only [idxI, h1]
    exact slices_IndexFunc_Done_p1 _ _ _ ⟨h2, trivial⟩
  · simp only [idxI, h1]
    exact slices_IndexFunc_Done_p0 _ _ _ _ ⟨h2, trivial⟩
theorem slices_ContainsFunc_Done_ret (xs : List Done) (p : Done → Bool) (g : Nat) (caps : List D) (hl : xs.length ≤ 1048576) (hc : qbk Tryz.prog g = true) (hp : ∀ x ∈ xs, Ret Tryz.prog g ([.agg x.e] ++ caps.map .one) [.one (B (p x))]) :
    Ret Tryz.prog 279 [.one (.sl 2 (xs.map Done.e)), .one (.cl g caps)] [.one (B (xs.any p))] := by
  rw [← idxI_ge]
  exact slices_ContainsFunc_Done_p0 _ _ _ _ ⟨slices_IndexFunc_Done_ret xs p g caps hl hc hp, trivial⟩
theorem slices_IndexFunc_News_ret (xs : List News) (p : News → Bool) (g : Nat) (caps : List D) (hl : xs.length ≤ 1048576) (hc : qbk Tryz.prog g = true) (hp : ∀ x ∈ xs, Ret Tryz.prog g ([.agg x.e] ++ caps.map .one) [.one (B (p x))]) :
    Ret Tryz.prog 109 [.one (.sl 3 (xs.map News.e)), .one (.cl g caps)] [.one (I (idxI p xs))] := by
  have hp' : ∀ x ∈ xs, ∀ r, p x = r → Ret Tryz.prog g ([.agg x.e] ++ caps.map .one) [.one (B r)] := fun x hx r h => h ▸ hp x hx
  have l := qbB (P := Tryz.prog) (c := (qaa Tryz.f109 0)) xs p (fun i => slices_IndexFunc_News_L0 (xs.map News.e) g caps i) (X := fun i _ => slices_IndexFunc_News_X0 i) qaD (qah 0)
    (fun i a ha h => slices_IndexFunc_News_L0_s1 _ _ _ _ _ _ _ _ ⟨lt1 (lt_of ha), lt0, lt2 (lt_of ha), qae News.e ha, hc, hp' a (qaG ha) false h, rfl, up1 (lt_of ha) hl, trivial⟩)
    (fun i a ha h => slices_IndexFunc_News_L0_x0 _ _ _ _ _ _ _ _ ⟨lt1 (lt_of ha), lt0, lt2 (lt_of ha), qae News.e ha, hc, hp' a (qaG ha) true h, rfl, trivial⟩)
    (slices_IndexFunc_News_L0_x2 _ _ _ _ ⟨ge1, trivial⟩)
  rcases l with ⟨_, h1, _, h2⟩ | ⟨i, a, _, _, _, h1, _, h2⟩
  · simp only [idxI, h1]
    exact slices_IndexFunc_News_p1 _ _ _ ⟨h2, trivial⟩
  · simp only [idxI, h1]
    exact slices_IndexFunc_News_p0 _ _ _ _ ⟨h2, trivial⟩
theorem slices_ContainsFunc_News_ret (xs : List News) (p : News → Bool) (g : Nat) (caps : List D) (hl : xs.length ≤ 1048576) (hc : qbk Tryz.prog g = true) (hp : ∀ x ∈ xs, Ret Tryz.prog g ([.agg x.e] ++ caps.map .one) [.one (B (p x))]) :
    Ret Tryz.prog 188 [.one (.sl 3 (xs.map News.e)), .one (.cl g caps)] [.one (B (xs.any p))] := by
  rw [← idxI_ge]
  exact slices_ContainsFunc_News_p0 _ _ _ _ ⟨slices_IndexFunc_News_ret xs p g caps hl hc hp, trivial⟩
end Go.Proofs.YtialmplmfcahpaaGreat
