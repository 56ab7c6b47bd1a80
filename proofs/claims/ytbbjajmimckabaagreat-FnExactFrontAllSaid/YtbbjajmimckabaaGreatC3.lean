/- slices.IndexFunc, ContainsFunc at any type. -/
import Derived.Test.YtbbjajmimckabaaGreatC0
set_option linter.unusedVariables false
set_option linter.unusedSimpArgs false
namespace Go.Proofs.YtbbjajmimckabaaGreat
open Go.Sx Go.RowKit

def idxI {α : Type} (p : α → Bool) (xs : List α) : Int := match xs.findIdx? p with | some i => i | none => -1

theorem idxI_ge {α : Type} (p : α → Bool) (xs : List α) : decide (idxI p xs ≥ 0) = xs.any p := by
  unfold idxI
  cases h : xs.findIdx? p with
  | none =>
    have : xs.any p = false := by
      rw [List.any_eq_false]
      rw [List.findIdx?_eq_none_iff] at h
      exact fun a ha => by simp [h a ha]
    rw [this]; rfl
  | some i =>
    rw [List.findIdx?_eq_some_iff_getElem] at h
    obtain ⟨hi, h2, _⟩ := h
    have : xs.any p = true := List.any_eq_true.2 ⟨_, List.getElem_mem hi, h2⟩
    rw [this]; simp

theorem slices_IndexFunc_Worker_ret (xs : List Worker) (p : Worker → Bool) (g : Nat) (caps : List D) (hl : xs.length ≤ 1048576) (hc : canCall Tryz.prog g = true) (hp : ∀ x ∈ xs, Ret Tryz.prog g ([.agg x.e] ++ caps.map .one) [.one (B (p x))]) :
    Ret Tryz.prog 91 [.one (.sl 8 (xs.map Worker.e)), .one (.cl g caps)] [.one (I (idxI p xs))] := by
  have hp' : ∀ x ∈ xs, ∀ r, p x = r → Ret Tryz.prog g ([.agg x.e] ++ caps.map .one) [.one (B r)] := fun x hx r h => h ▸ hp x hx
  have l := loop_scan (P := Tryz.prog) (c := (loopOf Tryz.f91 0)) xs p (fun i => slices_IndexFunc_Worker_L0 (xs.map Worker.e) g caps i) (X := fun i _ => slices_IndexFunc_Worker_X0 i) ret_ne (exit_ne 0)
    (fun i a ha h => slices_IndexFunc_Worker_L0_s1 _ _ _ _ _ _ _ _ _ _ _ _ _ ⟨lt1 (lt_of ha), lt0, lt2 (lt_of ha), at_map Worker.e ha, hc, hp' a (mem_of ha) false h, rfl, up1 (lt_of ha) hl, trivial⟩)
    (fun i a ha h => slices_IndexFunc_Worker_L0_x0 _ _ _ _ _ _ _ _ _ _ _ _ _ ⟨lt1 (lt_of ha), lt0, lt2 (lt_of ha), at_map Worker.e ha, hc, hp' a (mem_of ha) true h, rfl, trivial⟩)
    (slices_IndexFunc_Worker_L0_x2 _ _ _ _ ⟨ge1, trivial⟩)
  rcases l with ⟨_, h1, _, h2⟩ | ⟨i, a, _, _, _, h1, _, h2⟩
  · simp only [idxI, h1]
    exact slices_IndexFunc_Worker_p1 _ _ _ ⟨h2, trivial⟩
  · simp only [idxI, h1]
    exact slices_IndexFunc_Worker_p0 _ _ _ _ ⟨h2, trivial⟩

theorem slices_ContainsFunc_Worker_ret (xs : List Worker) (p : Worker → Bool) (g : Nat) (caps : List D) (hl : xs.length ≤ 1048576) (hc : canCall Tryz.prog g = true) (hp : ∀ x ∈ xs, Ret Tryz.prog g ([.agg x.e] ++ caps.map .one) [.one (B (p x))]) :
    Ret Tryz.prog 55 [.one (.sl 8 (xs.map Worker.e)), .one (.cl g caps)] [.one (B (xs.any p))] := by
  rw [← idxI_ge]
  exact slices_ContainsFunc_Worker_p0 _ _ _ _ ⟨slices_IndexFunc_Worker_ret xs p g caps hl hc hp, trivial⟩



theorem slices_IndexFunc_Done_ret (xs : List Done) (p : Done → Bool) (g : Nat) (caps : List D) (hl : xs.length ≤ 1048576) (hc : canCall Tryz.prog g = true) (hp : ∀ x ∈ xs, Ret Tryz.prog g ([.agg x.e] ++ caps.map .one) [.one (B (p x))]) :
    Ret Tryz.prog 144 [.one (.sl 2 (xs.map Done.e)), .one (.cl g caps)] [.one (I (idxI p xs))] := by
  have hp' : ∀ x ∈ xs, ∀ r, p x = r → Ret Tryz.prog g ([.agg x.e] ++ caps.map .one) [.one (B r)] := fun x hx r h => h ▸ hp x hx
  have l := loop_scan (P := Tryz.prog) (c := (loopOf Tryz.f144 0)) xs p (fun i => slices_IndexFunc_Done_L0 (xs.map Done.e) g caps i) (X := fun i _ => slices_IndexFunc_Done_X0 i) ret_ne (exit_ne 0)
    (fun i a ha h => slices_IndexFunc_Done_L0_s1 _ _ _ _ _ _ _ ⟨lt1 (lt_of ha), lt0, lt2 (lt_of ha), at_map Done.e ha, hc, hp' a (mem_of ha) false h, rfl, up1 (lt_of ha) hl, trivial⟩)
    (fun i a ha h => slices_IndexFunc_Done_L0_x0 _ _ _ _ _ _ _ ⟨lt1 (lt_of ha), lt0, lt2 (lt_of ha), at_map Done.e ha, hc, hp' a (mem_of ha) true h, rfl, trivial⟩)
    (slices_IndexFunc_Done_L0_x2 _ _ _ _ ⟨ge1, trivial⟩)
  rcases l with ⟨_, h1, _, h2⟩ | ⟨i, a, _, _, _, h1, _, h2⟩
  · simp only [idxI, h1]
    exact slices_IndexFunc_Done_p1 _ _ _ ⟨h2, trivial⟩
  · simp only [idxI, h1]
    exact slices_IndexFunc_Done_p0 _ _ _ _ ⟨h2, trivial⟩

theorem slices_ContainsFunc_Done_ret (xs : List Done) (p : Done → Bool) (g : Nat) (caps : List D) (hl : xs.length ≤ 1048576) (hc : canCall Tryz.prog g = true) (hp : ∀ x ∈ xs, Ret Tryz.prog g ([.agg x.e] ++ caps.map .one) [.one (B (p x))]) :
    Ret Tryz.prog 118 [.one (.sl 2 (xs.map Done.e)), .one (.cl g caps)] [.one (B (xs.any p))] := by
  rw [← idxI_ge]
  exact slices_ContainsFunc_Done_p0 _ _ _ _ ⟨slices_IndexFunc_Done_ret xs p g caps hl hc hp, trivial⟩

theorem slices_IndexFunc_News_ret (xs : List News) (p : News → Bool) (g : Nat) (caps : List D) (hl : xs.length ≤ 1048576) (hc : canCall Tryz.prog g = true) (hp : ∀ x ∈ xs, Ret Tryz.prog g ([.agg x.e] ++ caps.map .one) [.one (B (p x))]) :
    Ret Tryz.prog 93 [.one (.sl 3 (xs.map News.e)), .one (.cl g caps)] [.one (I (idxI p xs))] := by
  have hp' : ∀ x ∈ xs, ∀ r, p x = r → Ret Tryz.prog g ([.agg x.e] ++ caps.map .one) [.one (B r)] := fun x hx r h => h ▸ hp x hx
  have l := loop_scan (P := Tryz.prog) (c := (loopOf Tryz.f93 0)) xs p (fun i => slices_IndexFunc_News_L0 (xs.map News.e) g caps i) (X := fun i _ => slices_IndexFunc_News_X0 i) ret_ne (exit_ne 0)
    (fun i a ha h => slices_IndexFunc_News_L0_s1 _ _ _ _ _ _ _ _ ⟨lt1 (lt_of ha), lt0, lt2 (lt_of ha), at_map News.e ha, hc, hp' a (mem_of ha) false h, rfl, up1 (lt_of ha) hl, trivial⟩)
    (fun i a ha h => slices_IndexFunc_News_L0_x0 _ _ _ _ _ _ _ _ ⟨lt1 (lt_of ha), lt0, lt2 (lt_of ha), at_map News.e ha, hc, hp' a (mem_of ha) true h, rfl, trivial⟩)
    (slices_IndexFunc_News_L0_x2 _ _ _ _ ⟨ge1, trivial⟩)
  rcases l with ⟨_, h1, _, h2⟩ | ⟨i, a, _, _, _, h1, _, h2⟩
  · simp only [idxI, h1]
    exact slices_IndexFunc_News_p1 _ _ _ ⟨h2, trivial⟩
  · simp only [idxI, h1]
    exact slices_IndexFunc_News_p0 _ _ _ _ ⟨h2, trivial⟩

theorem slices_ContainsFunc_News_ret (xs : List News) (p : News → Bool) (g : Nat) (caps : List D) (hl : xs.length ≤ 1048576) (hc : canCall Tryz.prog g = true) (hp : ∀ x ∈ xs, Ret Tryz.prog g ([.agg x.e] ++ caps.map .one) [.one (B (p x))]) :
    Ret Tryz.prog 58 [.one (.sl 3 (xs.map News.e)), .one (.cl g caps)] [.one (B (xs.any p))] := by
  rw [← idxI_ge]
  exact slices_ContainsFunc_News_p0 _ _ _ _ ⟨slices_IndexFunc_News_ret xs p g caps hl hc hp, trivial⟩

theorem slices_IndexFunc_Stamp_ret (xs : List Stamp) (p : Stamp → Bool) (g : Nat) (caps : List D) (hl : xs.length ≤ 1048576) (hc : canCall Tryz.prog g = true) (hp : ∀ x ∈ xs, Ret Tryz.prog g ([.agg x.e] ++ caps.map .one) [.one (B (p x))]) :
    Ret Tryz.prog 115 [.one (.sl 2 (xs.map Stamp.e)), .one (.cl g caps)] [.one (I (idxI p xs))] := by
  have hp' : ∀ x ∈ xs, ∀ r, p x = r → Ret Tryz.prog g ([.agg x.e] ++ caps.map .one) [.one (B r)] := fun x hx r h => h ▸ hp x hx
  have l := loop_scan (P := Tryz.prog) (c := (loopOf Tryz.f115 0)) xs p (fun i => slices_IndexFunc_Stamp_L0 (xs.map Stamp.e) g caps i) (X := fun i _ => slices_IndexFunc_Stamp_X0 i) ret_ne (exit_ne 0)
    (fun i a ha h => slices_IndexFunc_Stamp_L0_s1 _ _ _ _ _ _ _ ⟨lt1 (lt_of ha), lt0, lt2 (lt_of ha), at_map Stamp.e ha, hc, hp' a (mem_of ha) false h, rfl, up1 (lt_of ha) hl, trivial⟩)
    (fun i a ha h => slices_IndexFunc_Stamp_L0_x0 _ _ _ _ _ _ _ ⟨lt1 (lt_of ha), lt0, lt2 (lt_of ha), at_map Stamp.e ha, hc, hp' a (mem_of ha) true h, rfl, trivial⟩)
    (slices_IndexFunc_Stamp_L0_x2 _ _ _ _ ⟨ge1, trivial⟩)
  rcases l with ⟨_, h1, _, h2⟩ | ⟨i, a, _, _, _, h1, _, h2⟩
  · simp only [idxI, h1]
    exact slices_IndexFunc_Stamp_p1 _ _ _ ⟨h2, trivial⟩
  · simp only [idxI, h1]
    exact slices_IndexFunc_Stamp_p0 _ _ _ _ ⟨h2, trivial⟩

theorem slices_ContainsFunc_Stamp_ret (xs : List Stamp) (p : Stamp → Bool) (g : Nat) (caps : List D) (hl : xs.length ≤ 1048576) (hc : canCall Tryz.prog g = true) (hp : ∀ x ∈ xs, Ret Tryz.prog g ([.agg x.e] ++ caps.map .one) [.one (B (p x))]) :
    Ret Tryz.prog 85 [.one (.sl 2 (xs.map Stamp.e)), .one (.cl g caps)] [.one (B (xs.any p))] := by
  rw [← idxI_ge]
  exact slices_ContainsFunc_Stamp_p0 _ _ _ _ ⟨slices_IndexFunc_Stamp_ret xs p g caps hl hc hp, trivial⟩



end Go.Proofs.YtbbjajmimckabaaGreat
