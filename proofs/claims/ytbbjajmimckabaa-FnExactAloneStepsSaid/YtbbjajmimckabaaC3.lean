/- slices.IndexFunc, ContainsFunc at any type. -/
import Derived.Test.YtbbjajmimckabaaC0
set_option linter.unusedVariables false
set_option linter.unusedSimpArgs false
namespace Go.Proofs.Ytbbjajmimckabaa
open Go.Sx Go.RowKit

def idxI {α : Type} (p : α → Bool) (xs : List α) : Int := match xs.findIdx? p with | some i => i | none => -1

theorem slices_IndexFunc_Cell_ret (xs : List Cell) (p : Cell → Bool) (g : Nat) (caps : List D) (hl : xs.length ≤ 1048576) (hc : canCall Try.prog g = true) (hp : ∀ x ∈ xs, Ret Try.prog g ([.agg x.e] ++ caps.map .one) [.one (B (p x))]) :
    Ret Try.prog 163 [.one (.sl 4 (xs.map Cell.e)), .one (.cl g caps)] [.one (I (idxI p xs))] := by
  have hp' : ∀ x ∈ xs, ∀ r, p x = r → Ret Try.prog g ([.agg x.e] ++ caps.map .one) [.one (B r)] := fun x hx r h => h ▸ hp x hx
  have l := loop_scan (P := Try.prog) (c := (loopOf Try.f163 0)) xs p (fun i => slices_IndexFunc_Cell_L0 (xs.map Cell.e) g caps i) (X := fun i _ => slices_IndexFunc_Cell_X0 i) ret_ne (exit_ne 0)
    (fun i a ha h => slices_IndexFunc_Cell_L0_s1 _ _ _ _ _ _ _ _ _ ⟨lt1 (lt_of ha), lt0, lt2 (lt_of ha), at_map Cell.e ha, hc, hp' a (mem_of ha) false h, rfl, up1 (lt_of ha) hl, trivial⟩)
    (fun i a ha h => slices_IndexFunc_Cell_L0_x0 _ _ _ _ _ _ _ _ _ ⟨lt1 (lt_of ha), lt0, lt2 (lt_of ha), at_map Cell.e ha, hc, hp' a (mem_of ha) true h, rfl, trivial⟩)
    (slices_IndexFunc_Cell_L0_x2 _ _ _ _ ⟨ge1, trivial⟩)
  rcases l with ⟨_, h1, _, h2⟩ | ⟨i, a, _, _, _, h1, _, h2⟩
  · simp only [idxI, h1]
    exact slices_IndexFunc_Cell_p1 _ _ _ ⟨h2, trivial⟩
  · simp only [idxI, h1]
    exact slices_IndexFunc_Cell_p0 _ _ _ _ ⟨h2, trivial⟩

end Go.Proofs.Ytbbjajmimckabaa
