/- slices.IndexFunc, ContainsFunc at any type. -/
import Derived.Test.YtialmplmfcahpaaGreatC1
set_option linter.unusedVariables false
set_option linter.unusedSimpArgs false
namespace Go.Proofs.YtialmplmfcahpaaGreat
open Go.Sx Go.RowKit
def idxI {α : Type} (p : α → Bool) (xs : List α) : Int := match xs.findIdx? p with | some i => i | none => -1
theorem qBi (xs : List Cell) (p : Cell → Bool) (g : Nat) (caps : List D) (hl : xs.length ≤ 1048576) (hc : qbk Tryz.prog g = true) (hp : ∀ x ∈ xs, Ret Tryz.prog g ([.agg x.e] ++ caps.map .one) [.one (B (p x))]) :
    Ret Tryz.prog 312 [.one (.sl 4 (xs.map Cell.e)), .one (.cl g caps)] [.one (I (idxI p xs))] := by
  have hp' : ∀ x ∈ xs, ∀ r, p x = r → Ret Tryz.prog g ([.agg x.e] ++ caps.map .one) [.one (B r)] := fun x hx r h => h ▸ hp x hx
  have l := qbB (P := Tryz.prog) (c := (qaa Tryz.f312 0)) xs p (fun i => qdO (xs.map Cell.e) g caps i) (X := fun i _ => qgp i) qaD (qah 0)
    (fun i a ha h => qt5 _ _ _ _ _ _ _ _ _ ⟨lt1 (lt_of ha), lt0, lt2 (lt_of ha), qae Cell.e ha, hc, hp' a (qaG ha) false h, rfl, up1 (lt_of ha) hl, trivial⟩)
    (fun i a ha h => qt4 _ _ _ _ _ _ _ _ _ ⟨lt1 (lt_of ha), lt0, lt2 (lt_of ha), qae Cell.e ha, hc, hp' a (qaG ha) true h, rfl, trivial⟩)
    (qt6 _ _ _ _ ⟨ge1, trivial⟩)
  rcases l with ⟨_, h1, _, h2⟩ | ⟨i, a, _, _, _, h1, _, h2⟩
  · simp only [idxI, h1]
    exact qt8 _ _ _ ⟨h2, trivial⟩
  · simp only [idxI, h1]
    exact qt7 _ _ _ _ ⟨h2, trivial⟩
end Go.Proofs.YtialmplmfcahpaaGreat
