/- GraphOk, Changed, LeastOf: what program and reference compute (cases put together by gentree.py). -/
import Derived.Test.YtialmplmfcahpaaGreatP15
set_option linter.unusedVariables false
set_option linter.unusedSimpArgs false
namespace Go.Proofs.YtialmplmfcahpaaGreat
open Go.Sx Go.RowKit
def qaX (g : Graph) (k : Int) : Int := match g.nodes[k.toNat]? with | some y => y.kind | none => 0
def qaJ (g : Graph) (i : Nat) (x : Node) (k : Int) : Bool :=
  decide ((g.nodes.length : Int) ≤ k) || (if x.kind = 7 then decide ((i : Int) < k) || (qaX g k != 5 && qaX g k != 6) else decide (k ≤ i))
def qbf (g : Graph) (i : Nat) (x : Node) : Bool := !qab x || (decide (x.kind = 1) != decide ((i : Int) = 0)) || x.outs.any (qaJ g i x)
def qaE (g : Graph) : Bool := inR g.nodes.length 1 8 && inR g.workers 1 4 && inR g.cap 1 4 && !(anyI (qbf g) 0 g.nodes)
def qai (x : Node) (k v : Int) : Int × Int × Bool :=
  if qab x && qaw k v then
    if x.kind = 2 then (k, less (v + x.a) 999, true)
    else if x.kind = 4 then ((k + x.a).tmod 100, v, true)
    else if x.kind = 3 then (k, v, k.tmod x.a == x.b)
    else (k, v, x.kind != 8)
  else (k, v, false)
theorem qmc {l : List Int} (h : okAll l = true) {k : Int} (hk : k ∈ l) : inR k 0 7 = true := by
  simp only [okAll, Bool.not_eq_true', List.any_eq_false] at h
  simpa using h k hk
theorem qmd (g : Graph) (hg : g.sz ≤ 1048576) (i : Nat) (hi : i < 8) (x : Node) (hx : g.nodes[i]? = some x) (hok : qab x = true) (j : Nat) (k : Int) (hk : x.outs[j]? = some k) (r : Bool) (hr : qaJ g i x k = r) : Tr Tryz.prog (qaa Tryz.f140 1) (qaV i (g.nodes.map Node.e) g.workers g.cap x.kind x.a x.b (x.outs.map eI) (j : Int)) (bif r then .ret else .normal) (bif r then qb1 false else qaV i (g.nodes.map Node.e) g.workers g.cap x.kind x.a x.b (x.outs.map eI) ((j + 1 : Nat) : Int)) := by
  have hj := lt_of hk
  have hl : x.outs.length ≤ 2 := by grind [qab]
  have hk0 : inR k 0 7 = true := qmc (by grind [qab]) (qaG hk)
  have hk1 : x.outs[(j : Int).toNat]? = some k := by simpa using hk
  have hj1 : decide ((j : Int) < (↑(x.outs.map eI).length : Int)) = true := lt1 hj
  rcases Bool.eq_false_or_eq_true (decide (k ≥ (↑(g.nodes.map Node.e).length : Int))) with h1 | h1
  · skip
    obtain rfl : r = true := by rw [← hr]; grind [qaJ, qaX, inR]
    exact qw8 _ _ _ _ _ _ _ _ _ _ ⟨hj1, (by grind [inR, inInt, qab]), (by grind [inR, inInt, qab]), (qad eI hk1), h1, trivial⟩
  · skip
    rcases Bool.eq_false_or_eq_true (x.kind != 7) with h2 | h2
    · skip
      rcases Bool.eq_false_or_eq_true (decide (k ≤ (i : Int))) with h3 | h3
      · skip
        obtain rfl : r = true := by rw [← hr]; grind [qaJ, qaX, inR]
        exact qw9 _ _ _ _ _ _ _ _ _ _ ⟨hj1, (by grind [inR, inInt, qab]), (by grind [inR, inInt, qab]), (qad eI hk1), h1, h2, h3, trivial⟩
      · skip
        obtain ⟨y4, hy4⟩ := look (xs := g.nodes) (i := k) (by grind [inR, inInt, qab]) (by grind [inR, inInt, qab])
        rcases Bool.eq_false_or_eq_true (x.kind == 7) with h5 | h5
        · skip
          rcases Bool.eq_false_or_eq_true (decide (k > (i : Int))) with h6 | h6
          · skip
            obtain rfl : r = true := by rw [← hr]; grind [qaJ, qaX, inR]
            exact qxa _ _ _ _ _ _ _ _ _ _ _ _ _ _ ⟨hj1, (by grind [inR, inInt, qab]), (by grind [inR, inInt, qab]), (qad eI hk1), h1, h2, h3, (by grind [inR, inInt, qab]), (by grind [inR, inInt, qab]), (qad Node.e hy4), h5, h6, trivial⟩
          · skip
            rcases Bool.eq_false_or_eq_true (y4.kind != 5) with h7 | h7
            · skip
              rcases Bool.eq_false_or_eq_true (y4.kind != 6) with h8 | h8
              · skip
                obtain rfl : r = true := by rw [← hr]; grind [qaJ, qaX, inR]
                exact qxb _ _ _ _ _ _ _ _ _ _ _ _ _ _ ⟨hj1, (by grind [inR, inInt, qab]), (by grind [inR, inInt, qab]), (qad eI hk1), h1, h2, h3, (by grind [inR, inInt, qab]), (by grind [inR, inInt, qab]), (qad Node.e hy4), h5, h6, h7, h8, trivial⟩
              · skip
                obtain rfl : r = false := by rw [← hr]; grind [qaJ, qaX, inR]
                exact qxc _ _ _ _ _ _ _ _ _ _ _ _ _ _ ⟨hj1, (by grind [inR, inInt, qab]), (by grind [inR, inInt, qab]), (qad eI hk1), h1, h2, h3, (by grind [inR, inInt, qab]), (by grind [inR, inInt, qab]), (qad Node.e hy4), h5, h6, h7, h8, (by grind [inR, inInt, qab]), trivial⟩
            · skip
              obtain rfl : r = false := by rw [← hr]; grind [qaJ, qaX, inR]
              exact qxd _ _ _ _ _ _ _ _ _ _ _ _ _ _ ⟨hj1, (by grind [inR, inInt, qab]), (by grind [inR, inInt, qab]), (qad eI hk1), h1, h2, h3, (by grind [inR, inInt, qab]), (by grind [inR, inInt, qab]), (qad Node.e hy4), h5, h6, h7, (by grind [inR, inInt, qab]), trivial⟩
        · skip
          obtain rfl : r = false := by rw [← hr]; grind [qaJ, qaX, inR]
          exact qxe _ _ _ _ _ _ _ _ _ _ _ _ _ _ ⟨hj1, (by grind [inR, inInt, qab]), (by grind [inR, inInt, qab]), (qad eI hk1), h1, h2, h3, (by grind [inR, inInt, qab]), (by grind [inR, inInt, qab]), (qad Node.e hy4), h5, (by grind [inR, inInt, qab]), trivial⟩
    · skip
      obtain ⟨y9, hy9⟩ := look (xs := g.nodes) (i := k) (by grind [inR, inInt, qab]) (by grind [inR, inInt, qab])
      rcases Bool.eq_false_or_eq_true (x.kind == 7) with h10 | h10
      · skip
        rcases Bool.eq_false_or_eq_true (decide (k > (i : Int))) with h11 | h11
        · skip
          obtain rfl : r = true := by rw [← hr]; grind [qaJ, qaX, inR]
          exact qxf _ _ _ _ _ _ _ _ _ _ _ _ _ _ ⟨hj1, (by grind [inR, inInt, qab]), (by grind [inR, inInt, qab]), (qad eI hk1), h1, h2, (by grind [inR, inInt, qab]), (by grind [inR, inInt, qab]), (qad Node.e hy9), h10, h11, trivial⟩
        · skip
          rcases Bool.eq_false_or_eq_true (y9.kind != 5) with h12 | h12
          · skip
            rcases Bool.eq_false_or_eq_true (y9.kind != 6) with h13 | h13
            · skip
              obtain rfl : r = true := by rw [← hr]; grind [qaJ, qaX, inR]
              exact qxg _ _ _ _ _ _ _ _ _ _ _ _ _ _ ⟨hj1, (by grind [inR, inInt, qab]), (by grind [inR, inInt, qab]), (qad eI hk1), h1, h2, (by grind [inR, inInt, qab]), (by grind [inR, inInt, qab]), (qad Node.e hy9), h10, h11, h12, h13, trivial⟩
            · skip
              obtain rfl : r = false := by rw [← hr]; grind [qaJ, qaX, inR]
              exact qxh _ _ _ _ _ _ _ _ _ _ _ _ _ _ ⟨hj1, (by grind [inR, inInt, qab]), (by grind [inR, inInt, qab]), (qad eI hk1), h1, h2, (by grind [inR, inInt, qab]), (by grind [inR, inInt, qab]), (qad Node.e hy9), h10, h11, h12, h13, (by grind [inR, inInt, qab]), trivial⟩
          · skip
            obtain rfl : r = false := by rw [← hr]; grind [qaJ, qaX, inR]
            exact qxi _ _ _ _ _ _ _ _ _ _ _ _ _ _ ⟨hj1, (by grind [inR, inInt, qab]), (by grind [inR, inInt, qab]), (qad eI hk1), h1, h2, (by grind [inR, inInt, qab]), (by grind [inR, inInt, qab]), (qad Node.e hy9), h10, h11, h12, (by grind [inR, inInt, qab]), trivial⟩
      · skip
        obtain rfl : r = false := by rw [← hr]; grind [qaJ, qaX, inR]
        exact qxj _ _ _ _ _ _ _ _ _ _ _ _ _ _ ⟨hj1, (by grind [inR, inInt, qab]), (by grind [inR, inInt, qab]), (qad eI hk1), h1, h2, (by grind [inR, inInt, qab]), (by grind [inR, inInt, qab]), (qad Node.e hy9), h10, (by grind [inR, inInt, qab]), trivial⟩
theorem qme (g : Graph) (hg : g.sz ≤ 1048576) (i : Nat) (hi : i < 8) (x : Node) (hx : g.nodes[i]? = some x) (hok : qab x = true) (j : Nat) (k : Int) (hk : x.outs[j]? = some k) (r : Bool) (hr : qaJ g i x k = r) : Tr Tryz.prog (qaa Tryz.f151 1) (qaW (g.nodes.map Node.e) i (g.nodes.map Node.e) g.workers g.cap x.kind x.a x.b (x.outs.map eI) (j : Int)) (bif r then .ret else .normal) (bif r then qb2 false else qaW (g.nodes.map Node.e) i (g.nodes.map Node.e) g.workers g.cap x.kind x.a x.b (x.outs.map eI) ((j + 1 : Nat) : Int)) := by
  have hj := lt_of hk
  have hl : x.outs.length ≤ 2 := by grind [qab]
  have hk0 : inR k 0 7 = true := qmc (by grind [qab]) (qaG hk)
  have hk1 : x.outs[(j : Int).toNat]? = some k := by simpa using hk
  have hj1 : decide ((j : Int) < (↑(x.outs.map eI).length : Int)) = true := lt1 hj
  rcases Bool.eq_false_or_eq_true (decide (k ≥ (↑(g.nodes.map Node.e).length : Int))) with h1 | h1
  · skip
    obtain rfl : r = true := by rw [← hr]; grind [qaJ, qaX, inR]
    exact qxv _ _ _ _ _ _ _ _ _ _ _ ⟨hj1, (by grind [inR, inInt, qab]), (by grind [inR, inInt, qab]), (qad eI hk1), h1, trivial⟩
  · skip
    obtain ⟨y2, hy2⟩ := look (xs := g.nodes) (i := k) (by grind [inR, inInt, qab]) (by grind [inR, inInt, qab])
    rcases Bool.eq_false_or_eq_true (x.kind == 7) with h3 | h3
    · skip
      rcases Bool.eq_false_or_eq_true (decide (k > (i : Int))) with h4 | h4
      · skip
        obtain rfl : r = true := by rw [← hr]; grind [qaJ, qaX, inR]
        exact qxw _ _ _ _ _ _ _ _ _ _ _ _ _ _ _ ⟨hj1, (by grind [inR, inInt, qab]), (by grind [inR, inInt, qab]), (qad eI hk1), h1, (by grind [inR, inInt, qab]), (by grind [inR, inInt, qab]), (qad Node.e hy2), h3, h4, trivial⟩
      · skip
        rcases Bool.eq_false_or_eq_true (y2.kind != 5) with h5 | h5
        · skip
          rcases Bool.eq_false_or_eq_true (y2.kind != 6) with h6 | h6
          · skip
            obtain rfl : r = true := by rw [← hr]; grind [qaJ, qaX, inR]
            exact qxx _ _ _ _ _ _ _ _ _ _ _ _ _ _ _ ⟨hj1, (by grind [inR, inInt, qab]), (by grind [inR, inInt, qab]), (qad eI hk1), h1, (by grind [inR, inInt, qab]), (by grind [inR, inInt, qab]), (qad Node.e hy2), h3, h4, h5, h6, trivial⟩
          · skip
            rcases Bool.eq_false_or_eq_true (x.kind != 7) with h7 | h7
            · skip
              rcases Bool.eq_false_or_eq_true (decide (k ≤ (i : Int))) with h8 | h8
              · skip
                obtain rfl : r = true := by rw [← hr]; grind [qaJ, qaX, inR]
                exact qxy _ _ _ _ _ _ _ _ _ _ _ _ _ _ _ ⟨hj1, (by grind [inR, inInt, qab]), (by grind [inR, inInt, qab]), (qad eI hk1), h1, (by grind [inR, inInt, qab]), (by grind [inR, inInt, qab]), (qad Node.e hy2), h3, h4, h5, h6, h7, h8, trivial⟩
              · skip
                obtain rfl : r = false := by rw [← hr]; grind [qaJ, qaX, inR]
                exact qxz _ _ _ _ _ _ _ _ _ _ _ _ _ _ _ ⟨hj1, (by grind [inR, inInt, qab]), (by grind [inR, inInt, qab]), (qad eI hk1), h1, (by grind [inR, inInt, qab]), (by grind [inR, inInt, qab]), (qad Node.e hy2), h3, h4, h5, h6, h7, h8, (by grind [inR, inInt, qab]), trivial⟩
            · skip
              obtain rfl : r = false := by rw [← hr]; grind [qaJ, qaX, inR]
              exact qxA _ _ _ _ _ _ _ _ _ _ _ _ _ _ _ ⟨hj1, (by grind [inR, inInt, qab]), (by grind [inR, inInt, qab]), (qad eI hk1), h1, (by grind [inR, inInt, qab]), (by grind [inR, inInt, qab]), (qad Node.e hy2), h3, h4, h5, h6, h7, (by grind [inR, inInt, qab]), trivial⟩
        · skip
          rcases Bool.eq_false_or_eq_true (x.kind != 7) with h9 | h9
          · skip
            rcases Bool.eq_false_or_eq_true (decide (k ≤ (i : Int))) with h10 | h10
            · skip
              obtain rfl : r = true := by rw [← hr]; grind [qaJ, qaX, inR]
              exact qxB _ _ _ _ _ _ _ _ _ _ _ _ _ _ _ ⟨hj1, (by grind [inR, inInt, qab]), (by grind [inR, inInt, qab]), (qad eI hk1), h1, (by grind [inR, inInt, qab]), (by grind [inR, inInt, qab]), (qad Node.e hy2), h3, h4, h5, h9, h10, trivial⟩
            · skip
              obtain rfl : r = false := by rw [← hr]; grind [qaJ, qaX, inR]
              exact qxC _ _ _ _ _ _ _ _ _ _ _ _ _ _ _ ⟨hj1, (by grind [inR, inInt, qab]), (by grind [inR, inInt, qab]), (qad eI hk1), h1, (by grind [inR, inInt, qab]), (by grind [inR, inInt, qab]), (qad Node.e hy2), h3, h4, h5, h9, h10, (by grind [inR, inInt, qab]), trivial⟩
          · skip
            obtain rfl : r = false := by rw [← hr]; grind [qaJ, qaX, inR]
            exact qxD _ _ _ _ _ _ _ _ _ _ _ _ _ _ _ ⟨hj1, (by grind [inR, inInt, qab]), (by grind [inR, inInt, qab]), (qad eI hk1), h1, (by grind [inR, inInt, qab]), (by grind [inR, inInt, qab]), (qad Node.e hy2), h3, h4, h5, h9, (by grind [inR, inInt, qab]), trivial⟩
    · skip
      rcases Bool.eq_false_or_eq_true (x.kind != 7) with h11 | h11
      · skip
        rcases Bool.eq_false_or_eq_true (decide (k ≤ (i : Int))) with h12 | h12
        · skip
          obtain rfl : r = true := by rw [← hr]; grind [qaJ, qaX, inR]
          exact qxE _ _ _ _ _ _ _ _ _ _ _ _ _ _ _ ⟨hj1, (by grind [inR, inInt, qab]), (by grind [inR, inInt, qab]), (qad eI hk1), h1, (by grind [inR, inInt, qab]), (by grind [inR, inInt, qab]), (qad Node.e hy2), h3, h11, h12, trivial⟩
        · skip
          obtain rfl : r = false := by rw [← hr]; grind [qaJ, qaX, inR]
          exact qxF _ _ _ _ _ _ _ _ _ _ _ _ _ _ _ ⟨hj1, (by grind [inR, inInt, qab]), (by grind [inR, inInt, qab]), (qad eI hk1), h1, (by grind [inR, inInt, qab]), (by grind [inR, inInt, qab]), (qad Node.e hy2), h3, h11, h12, (by grind [inR, inInt, qab]), trivial⟩
      · skip
        obtain rfl : r = false := by rw [← hr]; grind [qaJ, qaX, inR]
        exact qxG _ _ _ _ _ _ _ _ _ _ _ _ _ _ _ ⟨hj1, (by grind [inR, inInt, qab]), (by grind [inR, inInt, qab]), (qad eI hk1), h1, (by grind [inR, inInt, qab]), (by grind [inR, inInt, qab]), (qad Node.e hy2), h3, h11, (by grind [inR, inInt, qab]), trivial⟩
theorem qAL (g : Graph) (hg : g.sz ≤ 1048576) (i : Nat) (hi : i < 8) (x : Node) (hx : g.nodes[i]? = some x) (hok : qab x = true) :
    (x.outs.any (qaJ g i x) = true ∧ qac Tryz.prog (qaa Tryz.f140 1) (qaV i (g.nodes.map Node.e) g.workers g.cap x.kind x.a x.b (x.outs.map eI) 0) .ret (qb1 false)) ∨ (x.outs.any (qaJ g i x) = false ∧ qac Tryz.prog (qaa Tryz.f140 1) (qaV i (g.nodes.map Node.e) g.workers g.cap x.kind x.a x.b (x.outs.map eI) 0) (.exit 2) (qgL i (g.nodes.map Node.e) g.workers g.cap)) := by
  have l := qbB (P := Tryz.prog) (c := (qaa Tryz.f140 1)) x.outs (qaJ g i x) (fun j => qaV i (g.nodes.map Node.e) g.workers g.cap x.kind x.a x.b (x.outs.map eI) j) (X := fun _ _ => qb1 false) qaD (qah 2)
    (fun j k hk h => qmd g hg i hi x hx hok j k hk false h)
    (fun j k hk h => qmd g hg i hi x hx hok j k hk true h)
    (qxk _ _ _ _ _ _ _ _ _ ⟨ge1, trivial⟩)
  rcases l with ⟨_, _, h1, h2⟩ | ⟨j, k, _, _, _, _, h1, h2⟩
  · exact .inr ⟨h1, h2⟩
  · exact .inl ⟨h1, h2⟩
theorem qAM (g : Graph) (hg : g.sz ≤ 1048576) (i : Nat) (hi : i < 8) (x : Node) (hx : g.nodes[i]? = some x) (hok : qab x = true) :
    (x.outs.any (qaJ g i x) = true ∧ qac Tryz.prog (qaa Tryz.f151 1) (qaW (g.nodes.map Node.e) i (g.nodes.map Node.e) g.workers g.cap x.kind x.a x.b (x.outs.map eI) 0) .ret (qb2 false)) ∨ (x.outs.any (qaJ g i x) = false ∧ qac Tryz.prog (qaa Tryz.f151 1) (qaW (g.nodes.map Node.e) i (g.nodes.map Node.e) g.workers g.cap x.kind x.a x.b (x.outs.map eI) 0) (.exit 2) (qgN (g.nodes.map Node.e) i (g.nodes.map Node.e) g.workers g.cap)) := by
  have l := qbB (P := Tryz.prog) (c := (qaa Tryz.f151 1)) x.outs (qaJ g i x) (fun j => qaW (g.nodes.map Node.e) i (g.nodes.map Node.e) g.workers g.cap x.kind x.a x.b (x.outs.map eI) j) (X := fun _ _ => qb2 false) qaD (qah 2)
    (fun j k hk h => qme g hg i hi x hx hok j k hk false h)
    (fun j k hk h => qme g hg i hi x hx hok j k hk true h)
    (qxH _ _ _ _ _ _ _ _ _ _ ⟨ge1, trivial⟩)
  rcases l with ⟨_, _, h1, h2⟩ | ⟨j, k, _, _, _, _, h1, h2⟩
  · exact .inr ⟨h1, h2⟩
  · exact .inl ⟨h1, h2⟩
theorem qmf (g : Graph) (hg : g.sz ≤ 1048576) (i : Nat) (hi : i < 8) (x : Node) (hx : g.nodes[i]? = some x) (r : Bool) (hr : qbf g i x = r) : Tr Tryz.prog (qaa Tryz.f140 0) (qbD ((i : Nat) : Int) (g.nodes.map Node.e) g.workers g.cap) (bif r then .ret else .normal) (bif r then qdd false else qbD ((i + 1 : Nat) : Int) (g.nodes.map Node.e) g.workers g.cap) := by
  have hj := lt_of hx
  have ho := Graph.outs_le hg (qaG hx)
  have hk1 : g.nodes[(i : Int).toNat]? = some x := by simpa using hx
  have hj1 : decide ((i : Int) < (↑(g.nodes.map Node.e).length : Int)) = true := lt1 hj
  have c1 := qma x (by grind)
  rcases Bool.eq_false_or_eq_true (qab x) with h2 | h2
  · skip
    rcases Bool.eq_false_or_eq_true ((x.kind == 1) == ((i : Int) == 0)) with h3 | h3
    · skip
      rcases qAL g hg i hi x hx (by grind) with ⟨hL, l⟩ | ⟨hL, l⟩
      · skip
        obtain rfl : r = true := by rw [← hr]; grind [qbf]
        exact qxl _ _ _ _ _ _ _ _ _ _ ⟨hj1, (by grind [inR, inInt, qab]), (by grind [inR, inInt, qab]), (qad Node.e hk1), c1, (by rw [h2]; rfl), (by rw [h3]; rfl), l, trivial⟩
      · skip
        obtain rfl : r = false := by rw [← hr]; grind [qbf]
        exact qxm _ _ _ _ _ _ _ _ _ ⟨hj1, (by grind [inR, inInt, qab]), (by grind [inR, inInt, qab]), (qad Node.e hk1), c1, (by rw [h2]; rfl), (by rw [h3]; rfl), l, (by grind [inR, inInt, qab]), trivial⟩
    · skip
      obtain rfl : r = true := by rw [← hr]; grind [qbf]
      exact qw7 _ _ _ _ _ _ _ _ _ ⟨hj1, (by grind [inR, inInt, qab]), (by grind [inR, inInt, qab]), (qad Node.e hk1), c1, (by rw [h2]; rfl), (by rw [h3]; rfl), trivial⟩
  · skip
    obtain rfl : r = true := by rw [← hr]; grind [qbf]
    exact qw6 _ _ _ _ _ _ _ _ _ ⟨hj1, (by grind [inR, inInt, qab]), (by grind [inR, inInt, qab]), (qad Node.e hk1), c1, (by rw [h2]; rfl), trivial⟩
theorem qmg (g : Graph) (hg : g.sz ≤ 1048576) (i : Nat) (hi : i < 8) (x : Node) (hx : g.nodes[i]? = some x) (r : Bool) (hr : qbf g i x = r) : Tr Tryz.prog (qaa Tryz.f151 0) (qbE (g.nodes.map Node.e) ((i : Nat) : Int) (g.nodes.map Node.e) g.workers g.cap) (bif r then .ret else .normal) (bif r then qde false else qbE (g.nodes.map Node.e) ((i + 1 : Nat) : Int) (g.nodes.map Node.e) g.workers g.cap) := by
  have hj := lt_of hx
  have ho := Graph.outs_le hg (qaG hx)
  have hk1 : g.nodes[(i : Int).toNat]? = some x := by simpa using hx
  have hj1 : decide ((i : Int) < (↑(g.nodes.map Node.e).length : Int)) = true := lt1 hj
  have c1 := qmb x (by grind)
  rcases Bool.eq_false_or_eq_true (qab x) with h2 | h2
  · skip
    rcases Bool.eq_false_or_eq_true ((x.kind == 1) == ((i : Int) == 0)) with h3 | h3
    · skip
      rcases qAM g hg i hi x hx (by grind) with ⟨hL, l⟩ | ⟨hL, l⟩
      · skip
        obtain rfl : r = true := by rw [← hr]; grind [qbf]
        exact qxI _ _ _ _ _ _ _ _ _ _ _ ⟨hj1, (by grind [inR, inInt, qab]), (by grind [inR, inInt, qab]), (qad Node.e hk1), c1, (by rw [h2]; rfl), (by rw [h3]; rfl), l, trivial⟩
      · skip
        obtain rfl : r = false := by rw [← hr]; grind [qbf]
        exact qxJ _ _ _ _ _ _ _ _ _ _ ⟨hj1, (by grind [inR, inInt, qab]), (by grind [inR, inInt, qab]), (qad Node.e hk1), c1, (by rw [h2]; rfl), (by rw [h3]; rfl), l, (by grind [inR, inInt, qab]), trivial⟩
    · skip
      obtain rfl : r = true := by rw [← hr]; grind [qbf]
      exact qxu _ _ _ _ _ _ _ _ _ _ ⟨hj1, (by grind [inR, inInt, qab]), (by grind [inR, inInt, qab]), (qad Node.e hk1), c1, (by rw [h2]; rfl), (by rw [h3]; rfl), trivial⟩
  · skip
    obtain rfl : r = true := by rw [← hr]; grind [qbf]
    exact qxt _ _ _ _ _ _ _ _ _ _ ⟨hj1, (by grind [inR, inInt, qab]), (by grind [inR, inInt, qab]), (qad Node.e hk1), c1, (by rw [h2]; rfl), trivial⟩
theorem qAN (g : Graph) (hg : g.sz ≤ 1048576) (h8 : g.nodes.length ≤ 8) :
    (anyI (qbf g) 0 g.nodes = true ∧ qac Tryz.prog (qaa Tryz.f140 0) (qbD 0 (g.nodes.map Node.e) g.workers g.cap) .ret (qdd false)) ∨ (anyI (qbf g) 0 g.nodes = false ∧ qac Tryz.prog (qaa Tryz.f140 0) (qbD 0 (g.nodes.map Node.e) g.workers g.cap) (.exit 0) qgM) := by
  have l := qf3 (P := Tryz.prog) (c := (qaa Tryz.f140 0)) g.nodes (qbf g) (fun i => qbD (i : Nat) (g.nodes.map Node.e) g.workers g.cap) (X := qdd false) qaD (qah 0)
    (fun i x hx h => qmf g hg i (by have := lt_of hx; omega) x hx false h)
    (fun i x hx h => qmf g hg i (by have := lt_of hx; omega) x hx true h)
    (qxn _ _ _ _ ⟨ge1, trivial⟩)
  rcases l with ⟨h1, h2⟩ | ⟨h1, h2⟩
  · exact .inr ⟨h1, h2⟩
  · exact .inl ⟨h1, h2⟩
theorem qAO (g : Graph) (hg : g.sz ≤ 1048576) (h8 : g.nodes.length ≤ 8) :
    (anyI (qbf g) 0 g.nodes = true ∧ qac Tryz.prog (qaa Tryz.f151 0) (qbE (g.nodes.map Node.e) 0 (g.nodes.map Node.e) g.workers g.cap) .ret (qde false)) ∨ (anyI (qbf g) 0 g.nodes = false ∧ qac Tryz.prog (qaa Tryz.f151 0) (qbE (g.nodes.map Node.e) 0 (g.nodes.map Node.e) g.workers g.cap) (.exit 0) qgO) := by
  have l := qf3 (P := Tryz.prog) (c := (qaa Tryz.f151 0)) g.nodes (qbf g) (fun i => qbE (g.nodes.map Node.e) (i : Nat) (g.nodes.map Node.e) g.workers g.cap) (X := qde false) qaD (qah 0)
    (fun i x hx h => qmg g hg i (by have := lt_of hx; omega) x hx false h)
    (fun i x hx h => qmg g hg i (by have := lt_of hx; omega) x hx true h)
    (qxK _ _ _ _ _ ⟨ge1, trivial⟩)
  rcases l with ⟨h1, h2⟩ | ⟨h1, h2⟩
  · exact .inr ⟨h1, h2⟩
  · exact .inl ⟨h1, h2⟩
theorem qmh (g : Graph) (hg : g.sz ≤ 1048576) : Ret Tryz.prog 140 [.agg g.e] [.one (B (qaE g))] := by
  have c1 := qa2 (↑(g.nodes.map Node.e).length : Int) 1 8
  rcases Bool.eq_false_or_eq_true (inR (↑(g.nodes.map Node.e).length : Int) 1 8) with h2 | h2
  · skip
    have c3 := qa2 g.workers 1 4
    rcases Bool.eq_false_or_eq_true (inR g.workers 1 4) with h4 | h4
    · skip
      have c5 := qa2 g.cap 1 4
      rcases Bool.eq_false_or_eq_true (inR g.cap 1 4) with h6 | h6
      · skip
        rcases qAN g hg (by grind [inR]) with ⟨hL, l⟩ | ⟨hL, l⟩
        · skip
          rw [show qaE g = false from by grind [qaE]]
          exact qxo _ _ _ _ _ _ _ ⟨c1, (by rw [h2]; rfl), c3, (by rw [h4]; rfl), c5, (by rw [h6]; rfl), l, trivial⟩
        · skip
          rw [show qaE g = true from by grind [qaE]]
          exact qxp _ _ _ _ _ _ ⟨c1, (by rw [h2]; rfl), c3, (by rw [h4]; rfl), c5, (by rw [h6]; rfl), l, trivial⟩
      · skip
        rw [show qaE g = false from by grind [qaE]]
        exact qw5 _ _ _ _ _ _ ⟨c1, (by rw [h2]; rfl), c3, (by rw [h4]; rfl), c5, (by rw [h6]; rfl), trivial⟩
    · skip
      rw [show qaE g = false from by grind [qaE]]
      exact qw4 _ _ _ _ _ ⟨c1, (by rw [h2]; rfl), c3, (by rw [h4]; rfl), trivial⟩
  · skip
    rw [show qaE g = false from by grind [qaE]]
    exact qw3 _ _ _ _ ⟨c1, (by rw [h2]; rfl), trivial⟩
theorem qjw (g : Graph) (hg : g.sz ≤ 1048576) : Ret Tryz.prog 151 [.agg g.e] [.one (B (qaE g))] := by
  have c1 := qbm (↑(g.nodes.map Node.e).length : Int) 1 8
  rcases Bool.eq_false_or_eq_true (inR (↑(g.nodes.map Node.e).length : Int) 1 8) with h2 | h2
  · skip
    have c3 := qbm g.workers 1 4
    rcases Bool.eq_false_or_eq_true (inR g.workers 1 4) with h4 | h4
    · skip
      have c5 := qbm g.cap 1 4
      rcases Bool.eq_false_or_eq_true (inR g.cap 1 4) with h6 | h6
      · skip
        rcases qAO g hg (by grind [inR]) with ⟨hL, l⟩ | ⟨hL, l⟩
        · skip
          rw [show qaE g = false from by grind [qaE]]
          exact qxL _ _ _ _ _ _ _ ⟨c1, (by rw [h2]; rfl), c3, (by rw [h4]; rfl), c5, (by rw [h6]; rfl), l, trivial⟩
        · skip
          rw [show qaE g = true from by grind [qaE]]
          exact qxM _ _ _ _ _ _ ⟨c1, (by rw [h2]; rfl), c3, (by rw [h4]; rfl), c5, (by rw [h6]; rfl), l, trivial⟩
      · skip
        rw [show qaE g = false from by grind [qaE]]
        exact qxs _ _ _ _ _ _ ⟨c1, (by rw [h2]; rfl), c3, (by rw [h4]; rfl), c5, (by rw [h6]; rfl), trivial⟩
    · skip
      rw [show qaE g = false from by grind [qaE]]
      exact qxr _ _ _ _ _ ⟨c1, (by rw [h2]; rfl), c3, (by rw [h4]; rfl), trivial⟩
  · skip
    rw [show qaE g = false from by grind [qaE]]
    exact qxq _ _ _ _ ⟨c1, (by rw [h2]; rfl), trivial⟩
theorem qmi (x : Node) (k v : Int) (hx : x.outs.length ≤ 1048576) : Ret Tryz.prog 142 [.agg x.e, .one (I k), .one (I v)] [.one (I ((qai x k v).1)), .one (I ((qai x k v).2.1)), .one (B ((qai x k v).2.2))] := by
  have c1 := qma x (by grind)
  rcases Bool.eq_false_or_eq_true (qab x) with h2 | h2
  · skip
    have c3 := qa2 k 0 99
    rcases Bool.eq_false_or_eq_true (inR k 0 99) with h4 | h4
    · skip
      have c5 := qa2 v 0 999
      rcases Bool.eq_false_or_eq_true (inR v 0 999) with h6 | h6
      · skip
        rcases Bool.eq_false_or_eq_true (x.kind == 2) with h7 | h7
        · skip
          have c8 := qAK (v + x.a) 999
          rw [show qai x k v = (k, less (v + x.a) 999, true) from by grind [qai, qaw, less, qab, abOk]]
          exact qx7 _ _ _ _ _ _ _ _ _ _ ⟨c1, (by rw [h2]; rfl), c3, (by rw [h4]; rfl), c5, (by rw [h6]; rfl), h7, (by grind [qab, abOk, inR, inInt, qaw]), c8, trivial⟩
        · skip
          rcases Bool.eq_false_or_eq_true (x.kind == 4) with h9 | h9
          · skip
            rw [show qai x k v = ((k + x.a).tmod 100, v, true) from by grind [qai, qaw, less, qab, abOk]]
            exact qx8 _ _ _ _ _ _ _ _ _ ⟨c1, (by rw [h2]; rfl), c3, (by rw [h4]; rfl), c5, (by rw [h6]; rfl), h7, h9, (by grind [qab, abOk, inR, inInt, qaw]), (by grind [qab, abOk, inR, inInt, qaw]), trivial⟩
          · skip
            rcases Bool.eq_false_or_eq_true (x.kind == 3) with h10 | h10
            · skip
              rw [show qai x k v = (k, v, k.tmod x.a == x.b) from by grind [qai, qaw, less, qab, abOk]]
              exact qx9 _ _ _ _ _ _ _ _ _ ⟨c1, (by rw [h2]; rfl), c3, (by rw [h4]; rfl), c5, (by rw [h6]; rfl), h7, h9, h10, (by grind [qab, abOk, inR, inInt, qaw]), trivial⟩
            · skip
              rw [show qai x k v = (k, v, x.kind != 8) from by grind [qai, qaw, less, qab, abOk]]
              exact qya _ _ _ _ _ _ _ _ _ ⟨c1, (by rw [h2]; rfl), c3, (by rw [h4]; rfl), c5, (by rw [h6]; rfl), h7, h9, h10, trivial⟩
      · skip
        rw [show qai x k v = (k, v, false) from by grind [qai, qaw, less, qab, abOk]]
        exact qx6 _ _ _ _ _ _ _ _ _ ⟨c1, (by rw [h2]; rfl), c3, (by rw [h4]; rfl), c5, (by rw [h6]; rfl), trivial⟩
    · skip
      rw [show qai x k v = (k, v, false) from by grind [qai, qaw, less, qab, abOk]]
      exact qx5 _ _ _ _ _ _ _ _ ⟨c1, (by rw [h2]; rfl), c3, (by rw [h4]; rfl), trivial⟩
  · skip
    rw [show qai x k v = (k, v, false) from by grind [qai, qaw, less, qab, abOk]]
    exact qx4 _ _ _ _ _ _ _ ⟨c1, (by rw [h2]; rfl), trivial⟩
theorem qmj (x : Node) (k v : Int) (hx : x.outs.length ≤ 1048576) : Ret Tryz.prog 155 [.agg x.e, .one (I k), .one (I v)] [.one (I ((qai x k v).1)), .one (I ((qai x k v).2.1)), .one (B ((qai x k v).2.2))] := by
  have c1 := qmb x (by grind)
  rcases Bool.eq_false_or_eq_true (qab x) with h2 | h2
  · skip
    have c3 := qju k v
    rcases Bool.eq_false_or_eq_true (qaw k v) with h4 | h4
    · skip
      rcases Bool.eq_false_or_eq_true (x.kind == 2) with h5 | h5
      · skip
        rw [show qai x k v = (k, if v + x.a < 999 then v + x.a else 999, true) from by grind [qai, qaw, less, qab, abOk]]
        exact qyd _ _ _ _ _ _ _ _ ⟨c1, (by rw [h2]; rfl), c3, (by rw [h4]; rfl), h5, (by grind [qab, abOk, inR, inInt, qaw]), trivial⟩
      · skip
        rcases Bool.eq_false_or_eq_true (x.kind == 4) with h6 | h6
        · skip
          rw [show qai x k v = ((k + x.a).tmod 100, v, true) from by grind [qai, qaw, less, qab, abOk]]
          exact qye _ _ _ _ _ _ _ _ ⟨c1, (by rw [h2]; rfl), c3, (by rw [h4]; rfl), h5, h6, (by grind [qab, abOk, inR, inInt, qaw]), (by grind [qab, abOk, inR, inInt, qaw]), trivial⟩
        · skip
          rcases Bool.eq_false_or_eq_true (x.kind == 3) with h7 | h7
          · skip
            rw [show qai x k v = (k, v, k.tmod x.a == x.b) from by grind [qai, qaw, less, qab, abOk]]
            exact qyf _ _ _ _ _ _ _ _ ⟨c1, (by rw [h2]; rfl), c3, (by rw [h4]; rfl), h5, h6, h7, (by grind [qab, abOk, inR, inInt, qaw]), trivial⟩
          · skip
            rw [show qai x k v = (k, v, x.kind != 8) from by grind [qai, qaw, less, qab, abOk]]
            exact qyg _ _ _ _ _ _ _ _ ⟨c1, (by rw [h2]; rfl), c3, (by rw [h4]; rfl), h5, h6, h7, trivial⟩
    · skip
      rw [show qai x k v = (k, v, false) from by grind [qai, qaw, less, qab, abOk]]
      exact qyc _ _ _ _ _ _ _ _ ⟨c1, (by rw [h2]; rfl), c3, (by rw [h4]; rfl), trivial⟩
  · skip
    rw [show qai x k v = (k, v, false) from by grind [qai, qaw, less, qab, abOk]]
    exact qyb _ _ _ _ _ _ _ ⟨c1, (by rw [h2]; rfl), trivial⟩
def qas (a b : Cell) : Bool := a.op == b.op && a.epoch == b.epoch && a.key == b.key
def qay (op ep key : Int) (s : Int × Bool) (a : Cell) : Int × Bool := if a.op = op ∧ a.epoch = ep ∧ a.key = key ∧ (s.2 = false ∨ a.val < s.1) then (a.val, true) else s
def qbu (xs : List Cell) (op ep key : Int) : Int × Bool := xs.foldl (qay op ep key) (0, false)
theorem qmk (a b : Cell) : Ret Tryz.prog 298 [.agg a.e, .agg b.e] [.one (B (qas a b))] := by
  rcases Bool.eq_false_or_eq_true (a.op == b.op) with h1 | h1
  · skip
    rcases Bool.eq_false_or_eq_true (a.epoch == b.epoch) with h2 | h2
    · skip
      rw [show qas a b = (a.key == b.key) from by grind [qas]]
      exact quD _ _ _ _ _ _ _ _ ⟨h1, h2, trivial⟩
    · skip
      rw [show qas a b = false from by grind [qas]]
      exact quE _ _ _ _ _ _ _ _ ⟨h1, h2, trivial⟩
  · skip
    rw [show qas a b = false from by grind [qas]]
    exact quF _ _ _ _ _ _ _ _ ⟨h1, trivial⟩
theorem qAP (xs : List Cell) (hl : xs.length ≤ 1048576) (op ep key m : Int) (f : Bool) (i : Nat) (a : Cell) (ha : xs[i]? = some a) : Tr Tryz.prog (qaa Tryz.f245 0) (qbh (xs.map Cell.e) op ep key i f m) .normal (qbh (xs.map Cell.e) op ep key ((i + 1 : Nat) : Int) (qay op ep key (m, f) a).2 (qay op ep key (m, f) a).1) := by
  have hj := lt_of ha
  have hk1 : xs[(i : Int).toNat]? = some a := by simpa using ha
  have hj1 : decide ((i : Int) < (↑(xs.map Cell.e).length : Int)) = true := lt1 hj
  rcases Bool.eq_false_or_eq_true (a.op == op) with h1 | h1
  · skip
    rcases Bool.eq_false_or_eq_true (a.epoch == ep) with h2 | h2
    · skip
      rcases Bool.eq_false_or_eq_true (a.key == key) with h3 | h3
      · skip
        rcases Bool.eq_false_or_eq_true (f) with h4 | h4
        · skip
          rcases Bool.eq_false_or_eq_true (decide (a.val < m)) with h5 | h5
          · skip
            rw [show qay op ep key (m, f) a = (a.val, true) from by grind [qay, qas]]
            exact qvv _ _ _ _ _ _ _ _ _ _ _ ⟨hj1, (by grind [inInt]), (by grind [inInt]), (qad Cell.e hk1), h1, h2, h3, (by rw [h4]; rfl), h5, (by grind [inInt]), trivial⟩
          · skip
            rw [show qay op ep key (m, f) a = (m, f) from by grind [qay, qas]]
            exact qvw _ _ _ _ _ _ _ _ _ _ _ ⟨hj1, (by grind [inInt]), (by grind [inInt]), (qad Cell.e hk1), h1, h2, h3, (by rw [h4]; rfl), h5, (by grind [inInt]), trivial⟩
        · skip
          rw [show qay op ep key (m, f) a = (a.val, true) from by grind [qay, qas]]
          exact qvu _ _ _ _ _ _ _ _ _ _ _ ⟨hj1, (by grind [inInt]), (by grind [inInt]), (qad Cell.e hk1), h1, h2, h3, (by rw [h4]; rfl), (by grind [inInt]), trivial⟩
      · skip
        rw [show qay op ep key (m, f) a = (m, f) from by grind [qay, qas]]
        exact qvx _ _ _ _ _ _ _ _ _ _ _ ⟨hj1, (by grind [inInt]), (by grind [inInt]), (qad Cell.e hk1), h1, h2, h3, (by grind [inInt]), trivial⟩
    · skip
      rw [show qay op ep key (m, f) a = (m, f) from by grind [qay, qas]]
      exact qvy _ _ _ _ _ _ _ _ _ _ _ ⟨hj1, (by grind [inInt]), (by grind [inInt]), (qad Cell.e hk1), h1, h2, (by grind [inInt]), trivial⟩
  · skip
    rw [show qay op ep key (m, f) a = (m, f) from by grind [qay, qas]]
    exact qvz _ _ _ _ _ _ _ _ _ _ _ ⟨hj1, (by grind [inInt]), (by grind [inInt]), (qad Cell.e hk1), h1, (by grind [inInt]), trivial⟩
theorem qAQ (xs : List Cell) (hl : xs.length ≤ 1048576) (op ep key m : Int) (f : Bool) (i : Nat) (a : Cell) (ha : xs[i]? = some a) : Tr Tryz.prog (qaa Tryz.f295 0) (qbC (xs.map Cell.e) op ep key i f m) .normal (qbC (xs.map Cell.e) op ep key ((i + 1 : Nat) : Int) (qay op ep key (m, f) a).2 (qay op ep key (m, f) a).1) := by
  have hj := lt_of ha
  have hk1 : xs[(i : Int).toNat]? = some a := by simpa using ha
  have hj1 : decide ((i : Int) < (↑(xs.map Cell.e).length : Int)) = true := lt1 hj
  have c1 := qmk a (⟨op, ep, key, 0⟩ : Cell)
  rcases Bool.eq_false_or_eq_true (qas a (⟨op, ep, key, 0⟩ : Cell)) with h2 | h2
  · skip
    rcases Bool.eq_false_or_eq_true (f) with h3 | h3
    · skip
      rcases Bool.eq_false_or_eq_true (decide (a.val < m)) with h4 | h4
      · skip
        rw [show qay op ep key (m, f) a = (a.val, true) from by grind [qay, qas]]
        exact quN _ _ _ _ _ _ _ _ _ _ _ _ ⟨hj1, (by grind [inInt]), (by grind [inInt]), (qad Cell.e hk1), c1, h2, (by rw [h3]; rfl), h4, (by grind [inInt]), trivial⟩
      · skip
        rw [show qay op ep key (m, f) a = (m, f) from by grind [qay, qas]]
        exact quO _ _ _ _ _ _ _ _ _ _ _ _ ⟨hj1, (by grind [inInt]), (by grind [inInt]), (qad Cell.e hk1), c1, h2, (by rw [h3]; rfl), h4, (by grind [inInt]), trivial⟩
    · skip
      rw [show qay op ep key (m, f) a = (a.val, true) from by grind [qay, qas]]
      exact quM _ _ _ _ _ _ _ _ _ _ _ _ ⟨hj1, (by grind [inInt]), (by grind [inInt]), (qad Cell.e hk1), c1, h2, (by rw [h3]; rfl), (by grind [inInt]), trivial⟩
  · skip
    rw [show qay op ep key (m, f) a = (m, f) from by grind [qay, qas]]
    exact quP _ _ _ _ _ _ _ _ _ _ _ _ ⟨hj1, (by grind [inInt]), (by grind [inInt]), (qad Cell.e hk1), c1, h2, (by grind [inInt]), trivial⟩
theorem qml (xs : List Cell) (op ep key : Int) (hl : xs.length ≤ 1048576) : Ret Tryz.prog 245 [.one (.sl 4 (xs.map Cell.e)), .one (I op), .one (I ep), .one (I key)] [.one (I (qbu xs op ep key).1), .one (B (qbu xs op ep key).2)] := by
  have l := qaj (P := Tryz.prog) (c := (qaa Tryz.f245 0)) (qah 0) xs.length (fun i : Nat => qbh (xs.map Cell.e) op ep key i (qa7 (qay op ep key) (0, false) xs i).2 (qa7 (qay op ep key) (0, false) xs i).1) (fun i hi => by
    obtain ⟨a, ha⟩ := qag hi
    rw [qf1 ha]
    exact qAP xs hl op ep key _ _ i a ha) (qvA _ _ _ _ _ _ _ ⟨ge1, trivial⟩)
  rw [qf2] at l
  exact qvB _ _ _ _ _ _ ⟨l, trivial⟩
theorem qAR (xs : List Cell) (op ep key : Int) (hl : xs.length ≤ 1048576) : Ret Tryz.prog 295 [.one (.sl 4 (xs.map Cell.e)), .one (I op), .one (I ep), .one (I key)] [.one (I (qbu xs op ep key).1), .one (B (qbu xs op ep key).2)] := by
  have l := qaj (P := Tryz.prog) (c := (qaa Tryz.f295 0)) (qah 0) xs.length (fun i : Nat => qbC (xs.map Cell.e) op ep key i (qa7 (qay op ep key) (0, false) xs i).2 (qa7 (qay op ep key) (0, false) xs i).1) (fun i hi => by
    obtain ⟨a, ha⟩ := qag hi
    rw [qf1 ha]
    exact qAQ xs hl op ep key _ _ i a ha) (quQ _ _ _ _ _ _ _ ⟨ge1, trivial⟩)
  rw [qf2] at l
  exact quR _ _ _ _ _ _ ⟨l, trivial⟩
end Go.Proofs.YtialmplmfcahpaaGreat
