/- GraphOk, Changed, LeastOf: what program and reference compute (cases put together by gentree.py). -/
import Derived.Test.YtialmplmfcahpaaGreatP15
set_option linter.unusedVariables false
set_option linter.unusedSimpArgs false
namespace Go.Proofs.YtialmplmfcahpaaGreat
open Go.Sx Go.RowKit
def qaX (g : Graph) (k : Int) : Int := match g.nodes[k.toNat]? with | some y => y.kind | none => 0
def qaJ (g : Graph) (i : Nat) (x : Node) (k : Int) : Bool :=
  decide ((g.nodes.length : Int) ≤ k) || (if x.kind = 7 then decide ((i : Int) < k) || (qaX g k != 5 && qaX g k != 6) else decide (k ≤ i))
def qbf (g : Graph) (i : Nat) (x : Node) : Bool := !qab x || (decide (x.kind = 1) != decide ((i : Int) = 0)) || x.outs.any (qaJ g i x)
def qaE (g : Graph) : Bool := inR g.nodes.length 1 8 && inR g.workers 1 4 && inR g.cap 1 4 && !(anyI (qbf g) 0 g.nodes)
theorem qmw {l : List Int} (h : okAll l = true) {k : Int} (hk : k ∈ l) : inR k 0 7 = true := by
  simp only [okAll, Bool.not_eq_true', List.any_eq_false] at h
  simpa using h k hk
theorem qmx (g : Graph) (hg : g.sz ≤ 1048576) (i : Nat) (hi : i < 8) (x : Node) (hx : g.nodes[i]? = some x) (hok : qab x = true) (j : Nat) (k : Int) (hk : x.outs[j]? = some k) (r : Bool) (hr : qaJ g i x k = r) : Tr Tryz.prog (qaa Tryz.f140 1) (qaV i (g.nodes.map Node.e) g.workers g.cap x.kind x.a x.b (x.outs.map eI) (j : Int)) (bif r then .ret else .normal) (bif r then qb2 false else qaV i (g.nodes.map Node.e) g.workers g.cap x.kind x.a x.b (x.outs.map eI) ((j + 1 : Nat) : Int)) := by
  have hj := lt_of hk
  have hl : x.outs.length ≤ 2 := by grind [qab]
  have hk0 : inR k 0 7 = true := qmw (by grind [qab]) (qaG hk)
  have hk1 : x.outs[(j : Int).toNat]? = some k := by simpa using hk
  have hj1 : decide ((j : Int) < (↑(x.outs.map eI).length : Int)) = true := lt1 hj
  rcases Bool.eq_false_or_eq_true (decide (k ≥ (↑(g.nodes.map Node.e).length : Int))) with h1 | h1
  · skip
    obtain rfl : r = true := by rw [← hr]; grind [qaJ, qaX, inR]
    exact qxr _ _ _ _ _ _ _ _ _ _ ⟨hj1, (by grind [inR, inInt, qab]), (by grind [inR, inInt, qab]), (qad eI hk1), h1, trivial⟩
  · skip
    rcases Bool.eq_false_or_eq_true (x.kind != 7) with h2 | h2
    · skip
      rcases Bool.eq_false_or_eq_true (decide (k ≤ (i : Int))) with h3 | h3
      · skip
        obtain rfl : r = true := by rw [← hr]; grind [qaJ, qaX, inR]
        exact qxs _ _ _ _ _ _ _ _ _ _ ⟨hj1, (by grind [inR, inInt, qab]), (by grind [inR, inInt, qab]), (qad eI hk1), h1, h2, h3, trivial⟩
      · skip
        obtain ⟨y4, hy4⟩ := look (xs := g.nodes) (i := k) (by grind [inR, inInt, qab]) (by grind [inR, inInt, qab])
        rcases Bool.eq_false_or_eq_true (x.kind == 7) with h5 | h5
        · skip
          rcases Bool.eq_false_or_eq_true (decide (k > (i : Int))) with h6 | h6
          · skip
            obtain rfl : r = true := by rw [← hr]; grind [qaJ, qaX, inR]
            exact qxt _ _ _ _ _ _ _ _ _ _ _ _ _ _ ⟨hj1, (by grind [inR, inInt, qab]), (by grind [inR, inInt, qab]), (qad eI hk1), h1, h2, h3, (by grind [inR, inInt, qab]), (by grind [inR, inInt, qab]), (qad Node.e hy4), h5, h6, trivial⟩
          · skip
            rcases Bool.eq_false_or_eq_true (y4.kind != 5) with h7 | h7
            · skip
              rcases Bool.eq_false_or_eq_true (y4.kind != 6) with h8 | h8
              · skip
                obtain rfl : r = true := by rw [← hr]; grind [qaJ, qaX, inR]
                exact qxu _ _ _ _ _ _ _ _ _ _ _ _ _ _ ⟨hj1, (by grind [inR, inInt, qab]), (by grind [inR, inInt, qab]), (qad eI hk1), h1, h2, h3, (by grind [inR, inInt, qab]), (by grind [inR, inInt, qab]), (qad Node.e hy4), h5, h6, h7, h8, trivial⟩
              · skip
                obtain rfl : r = false := by rw [← hr]; grind [qaJ, qaX, inR]
                exact qxv _ _ _ _ _ _ _ _ _ _ _ _ _ _ ⟨hj1, (by grind [inR, inInt, qab]), (by grind [inR, inInt, qab]), (qad eI hk1), h1, h2, h3, (by grind [inR, inInt, qab]), (by grind [inR, inInt, qab]), (qad Node.e hy4), h5, h6, h7, h8, (by grind [inR, inInt, qab]), trivial⟩
            · skip
              obtain rfl : r = false := by rw [← hr]; grind [qaJ, qaX, inR]
              exact qxw _ _ _ _ _ _ _ _ _ _ _ _ _ _ ⟨hj1, (by grind [inR, inInt, qab]), (by grind [inR, inInt, qab]), (qad eI hk1), h1, h2, h3, (by grind [inR, inInt, qab]), (by grind [inR, inInt, qab]), (qad Node.e hy4), h5, h6, h7, (by grind [inR, inInt, qab]), trivial⟩
        · skip
          obtain rfl : r = false := by rw [← hr]; grind [qaJ, qaX, inR]
          exact qxx _ _ _ _ _ _ _ _ _ _ _ _ _ _ ⟨hj1, (by grind [inR, inInt, qab]), (by grind [inR, inInt, qab]), (qad eI hk1), h1, h2, h3, (by grind [inR, inInt, qab]), (by grind [inR, inInt, qab]), (qad Node.e hy4), h5, (by grind [inR, inInt, qab]), trivial⟩
    · skip
      obtain ⟨y9, hy9⟩ := look (xs := g.nodes) (i := k) (by grind [inR, inInt, qab]) (by grind [inR, inInt, qab])
      rcases Bool.eq_false_or_eq_true (x.kind == 7) with h10 | h10
      · skip
        rcases Bool.eq_false_or_eq_true (decide (k > (i : Int))) with h11 | h11
        · skip
          obtain rfl : r = true := by rw [← hr]; grind [qaJ, qaX, inR]
          exact qxy _ _ _ _ _ _ _ _ _ _ _ _ _ _ ⟨hj1, (by grind [inR, inInt, qab]), (by grind [inR, inInt, qab]), (qad eI hk1), h1, h2, (by grind [inR, inInt, qab]), (by grind [inR, inInt, qab]), (qad Node.e hy9), h10, h11, trivial⟩
        · skip
          rcases Bool.eq_false_or_eq_true (y9.kind != 5) with h12 | h12
          · skip
            rcases Bool.eq_false_or_eq_true (y9.kind != 6) with h13 | h13
            · skip
              obtain rfl : r = true := by rw [← hr]; grind [qaJ, qaX, inR]
              exact qxz _ _ _ _ _ _ _ _ _ _ _ _ _ _ ⟨hj1, (by grind [inR, inInt, qab]), (by grind [inR, inInt, qab]), (qad eI hk1), h1, h2, (by grind [inR, inInt, qab]), (by grind [inR, inInt, qab]), (qad Node.e hy9), h10, h11, h12, h13, trivial⟩
            · skip
              obtain rfl : r = false := by rw [← hr]; grind [qaJ, qaX, inR]
              exact qxA _ _ _ _ _ _ _ _ _ _ _ _ _ _ ⟨hj1, (by grind [inR, inInt, qab]), (by grind [inR, inInt, qab]), (qad eI hk1), h1, h2, (by grind [inR, inInt, qab]), (by grind [inR, inInt, qab]), (qad Node.e hy9), h10, h11, h12, h13, (by grind [inR, inInt, qab]), trivial⟩
          · skip
            obtain rfl : r = false := by rw [← hr]; grind [qaJ, qaX, inR]
            exact qxB _ _ _ _ _ _ _ _ _ _ _ _ _ _ ⟨hj1, (by grind [inR, inInt, qab]), (by grind [inR, inInt, qab]), (qad eI hk1), h1, h2, (by grind [inR, inInt, qab]), (by grind [inR, inInt, qab]), (qad Node.e hy9), h10, h11, h12, (by grind [inR, inInt, qab]), trivial⟩
      · skip
        obtain rfl : r = false := by rw [← hr]; grind [qaJ, qaX, inR]
        exact qxC _ _ _ _ _ _ _ _ _ _ _ _ _ _ ⟨hj1, (by grind [inR, inInt, qab]), (by grind [inR, inInt, qab]), (qad eI hk1), h1, h2, (by grind [inR, inInt, qab]), (by grind [inR, inInt, qab]), (qad Node.e hy9), h10, (by grind [inR, inInt, qab]), trivial⟩
theorem qmy (g : Graph) (hg : g.sz ≤ 1048576) (i : Nat) (hi : i < 8) (x : Node) (hx : g.nodes[i]? = some x) (hok : qab x = true) (j : Nat) (k : Int) (hk : x.outs[j]? = some k) (r : Bool) (hr : qaJ g i x k = r) : Tr Tryz.prog (qaa Tryz.f151 1) (qaW (g.nodes.map Node.e) i (g.nodes.map Node.e) g.workers g.cap x.kind x.a x.b (x.outs.map eI) (j : Int)) (bif r then .ret else .normal) (bif r then qb3 false else qaW (g.nodes.map Node.e) i (g.nodes.map Node.e) g.workers g.cap x.kind x.a x.b (x.outs.map eI) ((j + 1 : Nat) : Int)) := by
  have hj := lt_of hk
  have hl : x.outs.length ≤ 2 := by grind [qab]
  have hk0 : inR k 0 7 = true := qmw (by grind [qab]) (qaG hk)
  have hk1 : x.outs[(j : Int).toNat]? = some k := by simpa using hk
  have hj1 : decide ((j : Int) < (↑(x.outs.map eI).length : Int)) = true := lt1 hj
  rcases Bool.eq_false_or_eq_true (decide (k ≥ (↑(g.nodes.map Node.e).length : Int))) with h1 | h1
  · skip
    obtain rfl : r = true := by rw [← hr]; grind [qaJ, qaX, inR]
    exact qxO _ _ _ _ _ _ _ _ _ _ _ ⟨hj1, (by grind [inR, inInt, qab]), (by grind [inR, inInt, qab]), (qad eI hk1), h1, trivial⟩
  · skip
    obtain ⟨y2, hy2⟩ := look (xs := g.nodes) (i := k) (by grind [inR, inInt, qab]) (by grind [inR, inInt, qab])
    rcases Bool.eq_false_or_eq_true (x.kind == 7) with h3 | h3
    · skip
      rcases Bool.eq_false_or_eq_true (decide (k > (i : Int))) with h4 | h4
      · skip
        obtain rfl : r = true := by rw [← hr]; grind [qaJ, qaX, inR]
        exact qxP _ _ _ _ _ _ _ _ _ _ _ _ _ _ _ ⟨hj1, (by grind [inR, inInt, qab]), (by grind [inR, inInt, qab]), (qad eI hk1), h1, (by grind [inR, inInt, qab]), (by grind [inR, inInt, qab]), (qad Node.e hy2), h3, h4, trivial⟩
      · skip
        rcases Bool.eq_false_or_eq_true (y2.kind != 5) with h5 | h5
        · skip
          rcases Bool.eq_false_or_eq_true (y2.kind != 6) with h6 | h6
          · skip
            obtain rfl : r = true := by rw [← hr]; grind [qaJ, qaX, inR]
            exact qxQ _ _ _ _ _ _ _ _ _ _ _ _ _ _ _ ⟨hj1, (by grind [inR, inInt, qab]), (by grind [inR, inInt, qab]), (qad eI hk1), h1, (by grind [inR, inInt, qab]), (by grind [inR, inInt, qab]), (qad Node.e hy2), h3, h4, h5, h6, trivial⟩
          · skip
            rcases Bool.eq_false_or_eq_true (x.kind != 7) with h7 | h7
            · skip
              rcases Bool.eq_false_or_eq_true (decide (k ≤ (i : Int))) with h8 | h8
              · skip
                obtain rfl : r = true := by rw [← hr]; grind [qaJ, qaX, inR]
                exact qxR _ _ _ _ _ _ _ _ _ _ _ _ _ _ _ ⟨hj1, (by grind [inR, inInt, qab]), (by grind [inR, inInt, qab]), (qad eI hk1), h1, (by grind [inR, inInt, qab]), (by grind [inR, inInt, qab]), (qad Node.e hy2), h3, h4, h5, h6, h7, h8, trivial⟩
              · skip
                obtain rfl : r = false := by rw [← hr]; grind [qaJ, qaX, inR]
                exact qxS _ _ _ _ _ _ _ _ _ _ _ _ _ _ _ ⟨hj1, (by grind [inR, inInt, qab]), (by grind [inR, inInt, qab]), (qad eI hk1), h1, (by grind [inR, inInt, qab]), (by grind [inR, inInt, qab]), (qad Node.e hy2), h3, h4, h5, h6, h7, h8, (by grind [inR, inInt, qab]), trivial⟩
            · skip
              obtain rfl : r = false := by rw [← hr]; grind [qaJ, qaX, inR]
              exact qxT _ _ _ _ _ _ _ _ _ _ _ _ _ _ _ ⟨hj1, (by grind [inR, inInt, qab]), (by grind [inR, inInt, qab]), (qad eI hk1), h1, (by grind [inR, inInt, qab]), (by grind [inR, inInt, qab]), (qad Node.e hy2), h3, h4, h5, h6, h7, (by grind [inR, inInt, qab]), trivial⟩
        · skip
          rcases Bool.eq_false_or_eq_true (x.kind != 7) with h9 | h9
          · skip
            rcases Bool.eq_false_or_eq_true (decide (k ≤ (i : Int))) with h10 | h10
            · skip
              obtain rfl : r = true := by rw [← hr]; grind [qaJ, qaX, inR]
              exact qxU _ _ _ _ _ _ _ _ _ _ _ _ _ _ _ ⟨hj1, (by grind [inR, inInt, qab]), (by grind [inR, inInt, qab]), (qad eI hk1), h1, (by grind [inR, inInt, qab]), (by grind [inR, inInt, qab]), (qad Node.e hy2), h3, h4, h5, h9, h10, trivial⟩
            · skip
              obtain rfl : r = false := by rw [← hr]; grind [qaJ, qaX, inR]
              exact qxV _ _ _ _ _ _ _ _ _ _ _ _ _ _ _ ⟨hj1, (by grind [inR, inInt, qab]), (by grind [inR, inInt, qab]), (qad eI hk1), h1, (by grind [inR, inInt, qab]), (by grind [inR, inInt, qab]), (qad Node.e hy2), h3, h4, h5, h9, h10, (by grind [inR, inInt, qab]), trivial⟩
          · skip
            obtain rfl : r = false := by rw [← hr]; grind [qaJ, qaX, inR]
            exact qxW _ _ _ _ _ _ _ _ _ _ _ _ _ _ _ ⟨hj1, (by grind [inR, inInt, qab]), (by grind [inR, inInt, qab]), (qad eI hk1), h1, (by grind [inR, inInt, qab]), (by grind [inR, inInt, qab]), (qad Node.e hy2), h3, h4, h5, h9, (by grind [inR, inInt, qab]), trivial⟩
    · skip
      rcases Bool.eq_false_or_eq_true (x.kind != 7) with h11 | h11
      · skip
        rcases Bool.eq_false_or_eq_true (decide (k ≤ (i : Int))) with h12 | h12
        · skip
          obtain rfl : r = true := by rw [← hr]; grind [qaJ, qaX, inR]
          exact qxX _ _ _ _ _ _ _ _ _ _ _ _ _ _ _ ⟨hj1, (by grind [inR, inInt, qab]), (by grind [inR, inInt, qab]), (qad eI hk1), h1, (by grind [inR, inInt, qab]), (by grind [inR, inInt, qab]), (qad Node.e hy2), h3, h11, h12, trivial⟩
        · skip
          obtain rfl : r = false := by rw [← hr]; grind [qaJ, qaX, inR]
          exact qxY _ _ _ _ _ _ _ _ _ _ _ _ _ _ _ ⟨hj1, (by grind [inR, inInt, qab]), (by grind [inR, inInt, qab]), (qad eI hk1), h1, (by grind [inR, inInt, qab]), (by grind [inR, inInt, qab]), (qad Node.e hy2), h3, h11, h12, (by grind [inR, inInt, qab]), trivial⟩
      · skip
        obtain rfl : r = false := by rw [← hr]; grind [qaJ, qaX, inR]
        exact qxZ _ _ _ _ _ _ _ _ _ _ _ _ _ _ _ ⟨hj1, (by grind [inR, inInt, qab]), (by grind [inR, inInt, qab]), (qad eI hk1), h1, (by grind [inR, inInt, qab]), (by grind [inR, inInt, qab]), (qad Node.e hy2), h3, h11, (by grind [inR, inInt, qab]), trivial⟩
theorem qA4 (g : Graph) (hg : g.sz ≤ 1048576) (i : Nat) (hi : i < 8) (x : Node) (hx : g.nodes[i]? = some x) (hok : qab x = true) :
    (x.outs.any (qaJ g i x) = true ∧ qac Tryz.prog (qaa Tryz.f140 1) (qaV i (g.nodes.map Node.e) g.workers g.cap x.kind x.a x.b (x.outs.map eI) 0) .ret (qb2 false)) ∨ (x.outs.any (qaJ g i x) = false ∧ qac Tryz.prog (qaa Tryz.f140 1) (qaV i (g.nodes.map Node.e) g.workers g.cap x.kind x.a x.b (x.outs.map eI) 0) (.exit 2) (qgO i (g.nodes.map Node.e) g.workers g.cap)) := by
  have l := qbB (P := Tryz.prog) (c := (qaa Tryz.f140 1)) x.outs (qaJ g i x) (fun j => qaV i (g.nodes.map Node.e) g.workers g.cap x.kind x.a x.b (x.outs.map eI) j) (X := fun _ _ => qb2 false) qaD (qah 2)
    (fun j k hk h => qmx g hg i hi x hx hok j k hk false h)
    (fun j k hk h => qmx g hg i hi x hx hok j k hk true h)
    (qxD _ _ _ _ _ _ _ _ _ ⟨ge1, trivial⟩)
  rcases l with ⟨_, _, h1, h2⟩ | ⟨j, k, _, _, _, _, h1, h2⟩
  · exact .inr ⟨h1, h2⟩
  · exact .inl ⟨h1, h2⟩
theorem qA5 (g : Graph) (hg : g.sz ≤ 1048576) (i : Nat) (hi : i < 8) (x : Node) (hx : g.nodes[i]? = some x) (hok : qab x = true) :
    (x.outs.any (qaJ g i x) = true ∧ qac Tryz.prog (qaa Tryz.f151 1) (qaW (g.nodes.map Node.e) i (g.nodes.map Node.e) g.workers g.cap x.kind x.a x.b (x.outs.map eI) 0) .ret (qb3 false)) ∨ (x.outs.any (qaJ g i x) = false ∧ qac Tryz.prog (qaa Tryz.f151 1) (qaW (g.nodes.map Node.e) i (g.nodes.map Node.e) g.workers g.cap x.kind x.a x.b (x.outs.map eI) 0) (.exit 2) (qgQ (g.nodes.map Node.e) i (g.nodes.map Node.e) g.workers g.cap)) := by
  have l := qbB (P := Tryz.prog) (c := (qaa Tryz.f151 1)) x.outs (qaJ g i x) (fun j => qaW (g.nodes.map Node.e) i (g.nodes.map Node.e) g.workers g.cap x.kind x.a x.b (x.outs.map eI) j) (X := fun _ _ => qb3 false) qaD (qah 2)
    (fun j k hk h => qmy g hg i hi x hx hok j k hk false h)
    (fun j k hk h => qmy g hg i hi x hx hok j k hk true h)
    (qx0 _ _ _ _ _ _ _ _ _ _ ⟨ge1, trivial⟩)
  rcases l with ⟨_, _, h1, h2⟩ | ⟨j, k, _, _, _, _, h1, h2⟩
  · exact .inr ⟨h1, h2⟩
  · exact .inl ⟨h1, h2⟩
theorem qmz (g : Graph) (hg : g.sz ≤ 1048576) (i : Nat) (hi : i < 8) (x : Node) (hx : g.nodes[i]? = some x) (r : Bool) (hr : qbf g i x = r) : Tr Tryz.prog (qaa Tryz.f140 0) (qbD ((i : Nat) : Int) (g.nodes.map Node.e) g.workers g.cap) (bif r then .ret else .normal) (bif r then qde false else qbD ((i + 1 : Nat) : Int) (g.nodes.map Node.e) g.workers g.cap) := by
  have hj := lt_of hx
  have ho := Graph.outs_le hg (qaG hx)
  have hk1 : g.nodes[(i : Int).toNat]? = some x := by simpa using hx
  have hj1 : decide ((i : Int) < (↑(g.nodes.map Node.e).length : Int)) = true := lt1 hj
  have c1 := qmu x (by grind)
  rcases Bool.eq_false_or_eq_true (qab x) with h2 | h2
  · skip
    rcases Bool.eq_false_or_eq_true ((x.kind == 1) == ((i : Int) == 0)) with h3 | h3
    · skip
      rcases qA4 g hg i hi x hx (by grind) with ⟨hL, l⟩ | ⟨hL, l⟩
      · skip
        obtain rfl : r = true := by rw [← hr]; grind [qbf]
        exact qxE _ _ _ _ _ _ _ _ _ _ ⟨hj1, (by grind [inR, inInt, qab]), (by grind [inR, inInt, qab]), (qad Node.e hk1), c1, (by rw [h2]; rfl), (by rw [h3]; rfl), l, trivial⟩
      · skip
        obtain rfl : r = false := by rw [← hr]; grind [qbf]
        exact qxF _ _ _ _ _ _ _ _ _ ⟨hj1, (by grind [inR, inInt, qab]), (by grind [inR, inInt, qab]), (qad Node.e hk1), c1, (by rw [h2]; rfl), (by rw [h3]; rfl), l, (by grind [inR, inInt, qab]), trivial⟩
    · skip
      obtain rfl : r = true := by rw [← hr]; grind [qbf]
      exact qxq _ _ _ _ _ _ _ _ _ ⟨hj1, (by grind [inR, inInt, qab]), (by grind [inR, inInt, qab]), (qad Node.e hk1), c1, (by rw [h2]; rfl), (by rw [h3]; rfl), trivial⟩
  · skip
    obtain rfl : r = true := by rw [← hr]; grind [qbf]
    exact qxp _ _ _ _ _ _ _ _ _ ⟨hj1, (by grind [inR, inInt, qab]), (by grind [inR, inInt, qab]), (qad Node.e hk1), c1, (by rw [h2]; rfl), trivial⟩
theorem qmA (g : Graph) (hg : g.sz ≤ 1048576) (i : Nat) (hi : i < 8) (x : Node) (hx : g.nodes[i]? = some x) (r : Bool) (hr : qbf g i x = r) : Tr Tryz.prog (qaa Tryz.f151 0) (qbE (g.nodes.map Node.e) ((i : Nat) : Int) (g.nodes.map Node.e) g.workers g.cap) (bif r then .ret else .normal) (bif r then qdf false else qbE (g.nodes.map Node.e) ((i + 1 : Nat) : Int) (g.nodes.map Node.e) g.workers g.cap) := by
  have hj := lt_of hx
  have ho := Graph.outs_le hg (qaG hx)
  have hk1 : g.nodes[(i : Int).toNat]? = some x := by simpa using hx
  have hj1 : decide ((i : Int) < (↑(g.nodes.map Node.e).length : Int)) = true := lt1 hj
  have c1 := qmv x (by grind)
  rcases Bool.eq_false_or_eq_true (qab x) with h2 | h2
  · skip
    rcases Bool.eq_false_or_eq_true ((x.kind == 1) == ((i : Int) == 0)) with h3 | h3
    · skip
      rcases qA5 g hg i hi x hx (by grind) with ⟨hL, l⟩ | ⟨hL, l⟩
      · skip
        obtain rfl : r = true := by rw [← hr]; grind [qbf]
        exact qx1 _ _ _ _ _ _ _ _ _ _ _ ⟨hj1, (by grind [inR, inInt, qab]), (by grind [inR, inInt, qab]), (qad Node.e hk1), c1, (by rw [h2]; rfl), (by rw [h3]; rfl), l, trivial⟩
      · skip
        obtain rfl : r = false := by rw [← hr]; grind [qbf]
        exact qx2 _ _ _ _ _ _ _ _ _ _ ⟨hj1, (by grind [inR, inInt, qab]), (by grind [inR, inInt, qab]), (qad Node.e hk1), c1, (by rw [h2]; rfl), (by rw [h3]; rfl), l, (by grind [inR, inInt, qab]), trivial⟩
    · skip
      obtain rfl : r = true := by rw [← hr]; grind [qbf]
      exact qxN _ _ _ _ _ _ _ _ _ _ ⟨hj1, (by grind [inR, inInt, qab]), (by grind [inR, inInt, qab]), (qad Node.e hk1), c1, (by rw [h2]; rfl), (by rw [h3]; rfl), trivial⟩
  · skip
    obtain rfl : r = true := by rw [← hr]; grind [qbf]
    exact qxM _ _ _ _ _ _ _ _ _ _ ⟨hj1, (by grind [inR, inInt, qab]), (by grind [inR, inInt, qab]), (qad Node.e hk1), c1, (by rw [h2]; rfl), trivial⟩
theorem qA6 (g : Graph) (hg : g.sz ≤ 1048576) (h8 : g.nodes.length ≤ 8) :
    (anyI (qbf g) 0 g.nodes = true ∧ qac Tryz.prog (qaa Tryz.f140 0) (qbD 0 (g.nodes.map Node.e) g.workers g.cap) .ret (qde false)) ∨ (anyI (qbf g) 0 g.nodes = false ∧ qac Tryz.prog (qaa Tryz.f140 0) (qbD 0 (g.nodes.map Node.e) g.workers g.cap) (.exit 0) qgP) := by
  have l := qf3 (P := Tryz.prog) (c := (qaa Tryz.f140 0)) g.nodes (qbf g) (fun i => qbD (i : Nat) (g.nodes.map Node.e) g.workers g.cap) (X := qde false) qaD (qah 0)
    (fun i x hx h => qmz g hg i (by have := lt_of hx; omega) x hx false h)
    (fun i x hx h => qmz g hg i (by have := lt_of hx; omega) x hx true h)
    (qxG _ _ _ _ ⟨ge1, trivial⟩)
  rcases l with ⟨h1, h2⟩ | ⟨h1, h2⟩
  · exact .inr ⟨h1, h2⟩
  · exact .inl ⟨h1, h2⟩
theorem qA7 (g : Graph) (hg : g.sz ≤ 1048576) (h8 : g.nodes.length ≤ 8) :
    (anyI (qbf g) 0 g.nodes = true ∧ qac Tryz.prog (qaa Tryz.f151 0) (qbE (g.nodes.map Node.e) 0 (g.nodes.map Node.e) g.workers g.cap) .ret (qdf false)) ∨ (anyI (qbf g) 0 g.nodes = false ∧ qac Tryz.prog (qaa Tryz.f151 0) (qbE (g.nodes.map Node.e) 0 (g.nodes.map Node.e) g.workers g.cap) (.exit 0) qgR) := by
  have l := qf3 (P := Tryz.prog) (c := (qaa Tryz.f151 0)) g.nodes (qbf g) (fun i => qbE (g.nodes.map Node.e) (i : Nat) (g.nodes.map Node.e) g.workers g.cap) (X := qdf false) qaD (qah 0)
    (fun i x hx h => qmA g hg i (by have := lt_of hx; omega) x hx false h)
    (fun i x hx h => qmA g hg i (by have := lt_of hx; omega) x hx true h)
    (qx3 _ _ _ _ _ ⟨ge1, trivial⟩)
  rcases l with ⟨h1, h2⟩ | ⟨h1, h2⟩
  · exact .inr ⟨h1, h2⟩
  · exact .inl ⟨h1, h2⟩
theorem qmB (g : Graph) (hg : g.sz ≤ 1048576) : Ret Tryz.prog 140 [.agg g.e] [.one (B (qaE g))] := by
  have c1 := qa2 (↑(g.nodes.map Node.e).length : Int) 1 8
  rcases Bool.eq_false_or_eq_true (inR (↑(g.nodes.map Node.e).length : Int) 1 8) with h2 | h2
  · skip
    have c3 := qa2 g.workers 1 4
    rcases Bool.eq_false_or_eq_true (inR g.workers 1 4) with h4 | h4
    · skip
      have c5 := qa2 g.cap 1 4
      rcases Bool.eq_false_or_eq_true (inR g.cap 1 4) with h6 | h6
      · skip
        rcases qA6 g hg (by grind [inR]) with ⟨hL, l⟩ | ⟨hL, l⟩
        · skip
          rw [show qaE g = false from by grind [qaE]]
          exact qxH _ _ _ _ _ _ _ ⟨c1, (by rw [h2]; rfl), c3, (by rw [h4]; rfl), c5, (by rw [h6]; rfl), l, trivial⟩
        · skip
          rw [show qaE g = true from by grind [qaE]]
          exact qxI _ _ _ _ _ _ ⟨c1, (by rw [h2]; rfl), c3, (by rw [h4]; rfl), c5, (by rw [h6]; rfl), l, trivial⟩
      · skip
        rw [show qaE g = false from by grind [qaE]]
        exact qxo _ _ _ _ _ _ ⟨c1, (by rw [h2]; rfl), c3, (by rw [h4]; rfl), c5, (by rw [h6]; rfl), trivial⟩
    · skip
      rw [show qaE g = false from by grind [qaE]]
      exact qxn _ _ _ _ _ ⟨c1, (by rw [h2]; rfl), c3, (by rw [h4]; rfl), trivial⟩
  · skip
    rw [show qaE g = false from by grind [qaE]]
    exact qxm _ _ _ _ ⟨c1, (by rw [h2]; rfl), trivial⟩
theorem qjC (g : Graph) (hg : g.sz ≤ 1048576) : Ret Tryz.prog 151 [.agg g.e] [.one (B (qaE g))] := by
  have c1 := qbm (↑(g.nodes.map Node.e).length : Int) 1 8
  rcases Bool.eq_false_or_eq_true (inR (↑(g.nodes.map Node.e).length : Int) 1 8) with h2 | h2
  · skip
    have c3 := qbm g.workers 1 4
    rcases Bool.eq_false_or_eq_true (inR g.workers 1 4) with h4 | h4
    · skip
      have c5 := qbm g.cap 1 4
      rcases Bool.eq_false_or_eq_true (inR g.cap 1 4) with h6 | h6
      · skip
        rcases qA7 g hg (by grind [inR]) with ⟨hL, l⟩ | ⟨hL, l⟩
        · skip
          rw [show qaE g = false from by grind [qaE]]
          exact qx4 _ _ _ _ _ _ _ ⟨c1, (by rw [h2]; rfl), c3, (by rw [h4]; rfl), c5, (by rw [h6]; rfl), l, trivial⟩
        · skip
          rw [show qaE g = true from by grind [qaE]]
          exact qx5 _ _ _ _ _ _ ⟨c1, (by rw [h2]; rfl), c3, (by rw [h4]; rfl), c5, (by rw [h6]; rfl), l, trivial⟩
      · skip
        rw [show qaE g = false from by grind [qaE]]
        exact qxL _ _ _ _ _ _ ⟨c1, (by rw [h2]; rfl), c3, (by rw [h4]; rfl), c5, (by rw [h6]; rfl), trivial⟩
    · skip
      rw [show qaE g = false from by grind [qaE]]
      exact qxK _ _ _ _ _ ⟨c1, (by rw [h2]; rfl), c3, (by rw [h4]; rfl), trivial⟩
  · skip
    rw [show qaE g = false from by grind [qaE]]
    exact qxJ _ _ _ _ ⟨c1, (by rw [h2]; rfl), trivial⟩
end Go.Proofs.YtialmplmfcahpaaGreat
