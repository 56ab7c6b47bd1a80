/- GraphOk, Changed, LeastOf: what program and reference compute (cases put together by gentree.py). -/
import Derived.Test.YtdanpadojemjeaaGreatP15
import Derived.Test.YtdanpadojemjeaaGreatC0
import Derived.Test.YtdanpadojemjeaaGreatGS
set_option linter.unusedVariables false
set_option linter.unusedSimpArgs false
namespace Go.Proofs.YtdanpadojemjeaaGreat
open Go.Sx Go.RowKit
def qaP (g : Graph) (k : Int) : Int := match g.nodes[k.toNat]? with | some y => y.kind | none => 0
def qaz (g : Graph) (i : Nat) (x : Node) (k : Int) : Bool :=
  decide ((g.nodes.length : Int) ≤ k) || (if x.kind = 7 then decide ((i : Int) < k) || (qaP g k != 5 && qaP g k != 6) else decide (k ≤ i))
def qa8 (g : Graph) (i : Nat) (x : Node) : Bool := !qab x || (decide (x.kind = 1) != decide ((i : Int) = 0)) || x.outs.any (qaz g i x)
def qax (g : Graph) : Bool := inR g.nodes.length 1 8 && inR g.workers 1 4 && inR g.cap 1 4 && !(anyI (qa8 g) 0 g.nodes)
def qfD (x : Node) (k v : Int) : Int × Int × Bool :=
  if qab x && qbo k v then
    if x.kind = 2 then (k, less (v + x.a) 999, true)
    else if x.kind = 4 then ((k + x.a).tmod 100, v, true)
    else if x.kind = 3 then (k, v, k.tmod x.a == x.b)
    else (k, v, x.kind != 8)
  else (k, v, false)
theorem qml {l : List Int} (h : okAll l = true) {k : Int} (hk : k ∈ l) : inR k 0 7 = true := by
  simp only [okAll, Bool.not_eq_true', List.any_eq_false] at h
  simpa using h k hk
theorem qmm (g : Graph) (hg : g.sz ≤ 8388608) (i : Nat) (hi : i < 8) (x : Node) (hx : g.nodes[i]? = some x) (hok : qab x = true) (j : Nat) (k : Int) (hk : x.outs[j]? = some k) (r : Bool) (hr : qaz g i x k = r) : Tr Tryz.prog (qaa Tryz.f163 1) (qaN i (g.nodes.map Node.e) g.workers g.cap x.kind x.a x.b (x.outs.map eI) (j : Int)) (bif r then .ret else .normal) (bif r then qcC false else qaN i (g.nodes.map Node.e) g.workers g.cap x.kind x.a x.b (x.outs.map eI) ((j + 1 : Nat) : Int)) := by
  have hj := lt_of hk
  have hl : x.outs.length ≤ 2 := by grind [qab]
  have hk0 : inR k 0 7 = true := qml (by grind [qab]) (qap hk)
  have hk1 : x.outs[(j : Int).toNat]? = some k := by simpa using hk
  have hj1 : decide ((j : Int) < (↑(x.outs.map eI).length : Int)) = true := lt1 hj
  rcases Bool.eq_false_or_eq_true (decide (k ≥ (↑(g.nodes.map Node.e).length : Int))) with h1 | h1
  · skip
    obtain rfl : r = true := by rw [← hr]; grind [qaz, qaP, inR]
    exact qx5 ⟨hj1, (by grind [inR, inInt, qab]), (by grind [inR, inInt, qab]), (qad eI hk1), h1, trivial⟩
  · skip
    rcases Bool.eq_false_or_eq_true (x.kind != 7) with h2 | h2
    · skip
      rcases Bool.eq_false_or_eq_true (decide (k ≤ (i : Int))) with h3 | h3
      · skip
        obtain rfl : r = true := by rw [← hr]; grind [qaz, qaP, inR]
        exact qx6 ⟨hj1, (by grind [inR, inInt, qab]), (by grind [inR, inInt, qab]), (qad eI hk1), h1, h2, h3, trivial⟩
      · skip
        obtain ⟨y4, hy4⟩ := look (xs := g.nodes) (i := k) (by grind [inR, inInt, qab]) (by grind [inR, inInt, qab])
        rcases Bool.eq_false_or_eq_true (x.kind == 7) with h5 | h5
        · skip
          rcases Bool.eq_false_or_eq_true (decide (k > (i : Int))) with h6 | h6
          · skip
            obtain rfl : r = true := by rw [← hr]; grind [qaz, qaP, inR]
            exact qx7 ⟨hj1, (by grind [inR, inInt, qab]), (by grind [inR, inInt, qab]), (qad eI hk1), h1, h2, h3, (by grind [inR, inInt, qab]), (by grind [inR, inInt, qab]), (qad Node.e hy4), h5, h6, trivial⟩
          · skip
            rcases Bool.eq_false_or_eq_true (y4.kind != 5) with h7 | h7
            · skip
              rcases Bool.eq_false_or_eq_true (y4.kind != 6) with h8 | h8
              · skip
                obtain rfl : r = true := by rw [← hr]; grind [qaz, qaP, inR]
                exact qx8 ⟨hj1, (by grind [inR, inInt, qab]), (by grind [inR, inInt, qab]), (qad eI hk1), h1, h2, h3, (by grind [inR, inInt, qab]), (by grind [inR, inInt, qab]), (qad Node.e hy4), h5, h6, h7, h8, trivial⟩
              · skip
                obtain rfl : r = false := by rw [← hr]; grind [qaz, qaP, inR]
                exact qx9 ⟨hj1, (by grind [inR, inInt, qab]), (by grind [inR, inInt, qab]), (qad eI hk1), h1, h2, h3, (by grind [inR, inInt, qab]), (by grind [inR, inInt, qab]), (qad Node.e hy4), h5, h6, h7, h8, (by grind [inR, inInt, qab]), trivial⟩
            · skip
              obtain rfl : r = false := by rw [← hr]; grind [qaz, qaP, inR]
              exact qya ⟨hj1, (by grind [inR, inInt, qab]), (by grind [inR, inInt, qab]), (qad eI hk1), h1, h2, h3, (by grind [inR, inInt, qab]), (by grind [inR, inInt, qab]), (qad Node.e hy4), h5, h6, h7, (by grind [inR, inInt, qab]), trivial⟩
        · skip
          obtain rfl : r = false := by rw [← hr]; grind [qaz, qaP, inR]
          exact qyb ⟨hj1, (by grind [inR, inInt, qab]), (by grind [inR, inInt, qab]), (qad eI hk1), h1, h2, h3, (by grind [inR, inInt, qab]), (by grind [inR, inInt, qab]), (qad Node.e hy4), h5, (by grind [inR, inInt, qab]), trivial⟩
    · skip
      obtain ⟨y9, hy9⟩ := look (xs := g.nodes) (i := k) (by grind [inR, inInt, qab]) (by grind [inR, inInt, qab])
      rcases Bool.eq_false_or_eq_true (x.kind == 7) with h10 | h10
      · skip
        rcases Bool.eq_false_or_eq_true (decide (k > (i : Int))) with h11 | h11
        · skip
          obtain rfl : r = true := by rw [← hr]; grind [qaz, qaP, inR]
          exact qyc ⟨hj1, (by grind [inR, inInt, qab]), (by grind [inR, inInt, qab]), (qad eI hk1), h1, h2, (by grind [inR, inInt, qab]), (by grind [inR, inInt, qab]), (qad Node.e hy9), h10, h11, trivial⟩
        · skip
          rcases Bool.eq_false_or_eq_true (y9.kind != 5) with h12 | h12
          · skip
            rcases Bool.eq_false_or_eq_true (y9.kind != 6) with h13 | h13
            · skip
              obtain rfl : r = true := by rw [← hr]; grind [qaz, qaP, inR]
              exact qyd ⟨hj1, (by grind [inR, inInt, qab]), (by grind [inR, inInt, qab]), (qad eI hk1), h1, h2, (by grind [inR, inInt, qab]), (by grind [inR, inInt, qab]), (qad Node.e hy9), h10, h11, h12, h13, trivial⟩
            · skip
              obtain rfl : r = false := by rw [← hr]; grind [qaz, qaP, inR]
              exact qye ⟨hj1, (by grind [inR, inInt, qab]), (by grind [inR, inInt, qab]), (qad eI hk1), h1, h2, (by grind [inR, inInt, qab]), (by grind [inR, inInt, qab]), (qad Node.e hy9), h10, h11, h12, h13, (by grind [inR, inInt, qab]), trivial⟩
          · skip
            obtain rfl : r = false := by rw [← hr]; grind [qaz, qaP, inR]
            exact qyf ⟨hj1, (by grind [inR, inInt, qab]), (by grind [inR, inInt, qab]), (qad eI hk1), h1, h2, (by grind [inR, inInt, qab]), (by grind [inR, inInt, qab]), (qad Node.e hy9), h10, h11, h12, (by grind [inR, inInt, qab]), trivial⟩
      · skip
        obtain rfl : r = false := by rw [← hr]; grind [qaz, qaP, inR]
        exact qyg ⟨hj1, (by grind [inR, inInt, qab]), (by grind [inR, inInt, qab]), (qad eI hk1), h1, h2, (by grind [inR, inInt, qab]), (by grind [inR, inInt, qab]), (qad Node.e hy9), h10, (by grind [inR, inInt, qab]), trivial⟩
theorem qmn (g : Graph) (hg : g.sz ≤ 8388608) (i : Nat) (hi : i < 8) (x : Node) (hx : g.nodes[i]? = some x) (hok : qab x = true) (j : Nat) (k : Int) (hk : x.outs[j]? = some k) (r : Bool) (hr : qaz g i x k = r) : Tr Tryz.prog (qaa Tryz.f122 1) (qaO (g.nodes.map Node.e) i (g.nodes.map Node.e) g.workers g.cap x.kind x.a x.b (x.outs.map eI) (j : Int)) (bif r then .ret else .normal) (bif r then qcD false else qaO (g.nodes.map Node.e) i (g.nodes.map Node.e) g.workers g.cap x.kind x.a x.b (x.outs.map eI) ((j + 1 : Nat) : Int)) := by
  have hj := lt_of hk
  have hl : x.outs.length ≤ 2 := by grind [qab]
  have hk0 : inR k 0 7 = true := qml (by grind [qab]) (qap hk)
  have hk1 : x.outs[(j : Int).toNat]? = some k := by simpa using hk
  have hj1 : decide ((j : Int) < (↑(x.outs.map eI).length : Int)) = true := lt1 hj
  rcases Bool.eq_false_or_eq_true (decide (k ≥ (↑(g.nodes.map Node.e).length : Int))) with h1 | h1
  · skip
    obtain rfl : r = true := by rw [← hr]; grind [qaz, qaP, inR]
    exact qys ⟨hj1, (by grind [inR, inInt, qab]), (by grind [inR, inInt, qab]), (qad eI hk1), h1, trivial⟩
  · skip
    obtain ⟨y2, hy2⟩ := look (xs := g.nodes) (i := k) (by grind [inR, inInt, qab]) (by grind [inR, inInt, qab])
    rcases Bool.eq_false_or_eq_true (x.kind == 7) with h3 | h3
    · skip
      rcases Bool.eq_false_or_eq_true (decide (k > (i : Int))) with h4 | h4
      · skip
        obtain rfl : r = true := by rw [← hr]; grind [qaz, qaP, inR]
        exact qyt ⟨hj1, (by grind [inR, inInt, qab]), (by grind [inR, inInt, qab]), (qad eI hk1), h1, (by grind [inR, inInt, qab]), (by grind [inR, inInt, qab]), (qad Node.e hy2), h3, h4, trivial⟩
      · skip
        rcases Bool.eq_false_or_eq_true (y2.kind != 5) with h5 | h5
        · skip
          rcases Bool.eq_false_or_eq_true (y2.kind != 6) with h6 | h6
          · skip
            obtain rfl : r = true := by rw [← hr]; grind [qaz, qaP, inR]
            exact qyu ⟨hj1, (by grind [inR, inInt, qab]), (by grind [inR, inInt, qab]), (qad eI hk1), h1, (by grind [inR, inInt, qab]), (by grind [inR, inInt, qab]), (qad Node.e hy2), h3, h4, h5, h6, trivial⟩
          · skip
            rcases Bool.eq_false_or_eq_true (x.kind != 7) with h7 | h7
            · skip
              rcases Bool.eq_false_or_eq_true (decide (k ≤ (i : Int))) with h8 | h8
              · skip
                obtain rfl : r = true := by rw [← hr]; grind [qaz, qaP, inR]
                exact qyv ⟨hj1, (by grind [inR, inInt, qab]), (by grind [inR, inInt, qab]), (qad eI hk1), h1, (by grind [inR, inInt, qab]), (by grind [inR, inInt, qab]), (qad Node.e hy2), h3, h4, h5, h6, h7, h8, trivial⟩
              · skip
                obtain rfl : r = false := by rw [← hr]; grind [qaz, qaP, inR]
                exact qyw ⟨hj1, (by grind [inR, inInt, qab]), (by grind [inR, inInt, qab]), (qad eI hk1), h1, (by grind [inR, inInt, qab]), (by grind [inR, inInt, qab]), (qad Node.e hy2), h3, h4, h5, h6, h7, h8, (by grind [inR, inInt, qab]), trivial⟩
            · skip
              obtain rfl : r = false := by rw [← hr]; grind [qaz, qaP, inR]
              exact qyx ⟨hj1, (by grind [inR, inInt, qab]), (by grind [inR, inInt, qab]), (qad eI hk1), h1, (by grind [inR, inInt, qab]), (by grind [inR, inInt, qab]), (qad Node.e hy2), h3, h4, h5, h6, h7, (by grind [inR, inInt, qab]), trivial⟩
        · skip
          rcases Bool.eq_false_or_eq_true (x.kind != 7) with h9 | h9
          · skip
            rcases Bool.eq_false_or_eq_true (decide (k ≤ (i : Int))) with h10 | h10
            · skip
              obtain rfl : r = true := by rw [← hr]; grind [qaz, qaP, inR]
              exact qyy ⟨hj1, (by grind [inR, inInt, qab]), (by grind [inR, inInt, qab]), (qad eI hk1), h1, (by grind [inR, inInt, qab]), (by grind [inR, inInt, qab]), (qad Node.e hy2), h3, h4, h5, h9, h10, trivial⟩
            · skip
              obtain rfl : r = false := by rw [← hr]; grind [qaz, qaP, inR]
              exact qyz ⟨hj1, (by grind [inR, inInt, qab]), (by grind [inR, inInt, qab]), (qad eI hk1), h1, (by grind [inR, inInt, qab]), (by grind [inR, inInt, qab]), (qad Node.e hy2), h3, h4, h5, h9, h10, (by grind [inR, inInt, qab]), trivial⟩
          · skip
            obtain rfl : r = false := by rw [← hr]; grind [qaz, qaP, inR]
            exact qyA ⟨hj1, (by grind [inR, inInt, qab]), (by grind [inR, inInt, qab]), (qad eI hk1), h1, (by grind [inR, inInt, qab]), (by grind [inR, inInt, qab]), (qad Node.e hy2), h3, h4, h5, h9, (by grind [inR, inInt, qab]), trivial⟩
    · skip
      rcases Bool.eq_false_or_eq_true (x.kind != 7) with h11 | h11
      · skip
        rcases Bool.eq_false_or_eq_true (decide (k ≤ (i : Int))) with h12 | h12
        · skip
          obtain rfl : r = true := by rw [← hr]; grind [qaz, qaP, inR]
          exact qyB ⟨hj1, (by grind [inR, inInt, qab]), (by grind [inR, inInt, qab]), (qad eI hk1), h1, (by grind [inR, inInt, qab]), (by grind [inR, inInt, qab]), (qad Node.e hy2), h3, h11, h12, trivial⟩
        · skip
          obtain rfl : r = false := by rw [← hr]; grind [qaz, qaP, inR]
          exact qyC ⟨hj1, (by grind [inR, inInt, qab]), (by grind [inR, inInt, qab]), (qad eI hk1), h1, (by grind [inR, inInt, qab]), (by grind [inR, inInt, qab]), (qad Node.e hy2), h3, h11, h12, (by grind [inR, inInt, qab]), trivial⟩
      · skip
        obtain rfl : r = false := by rw [← hr]; grind [qaz, qaP, inR]
        exact qyD ⟨hj1, (by grind [inR, inInt, qab]), (by grind [inR, inInt, qab]), (qad eI hk1), h1, (by grind [inR, inInt, qab]), (by grind [inR, inInt, qab]), (qad Node.e hy2), h3, h11, (by grind [inR, inInt, qab]), trivial⟩
theorem qBr (g : Graph) (hg : g.sz ≤ 8388608) (i : Nat) (hi : i < 8) (x : Node) (hx : g.nodes[i]? = some x) (hok : qab x = true) :
    (x.outs.any (qaz g i x) = true ∧ qam Tryz.prog (qaa Tryz.f163 1) (qaN i (g.nodes.map Node.e) g.workers g.cap x.kind x.a x.b (x.outs.map eI) 0) .ret (qcC false)) ∨ (x.outs.any (qaz g i x) = false ∧ qam Tryz.prog (qaa Tryz.f163 1) (qaN i (g.nodes.map Node.e) g.workers g.cap x.kind x.a x.b (x.outs.map eI) 0) (.exit 2) (qiW i (g.nodes.map Node.e) g.workers g.cap)) := by
  have l := qaV (P := Tryz.prog) (c := (qaa Tryz.f163 1)) x.outs (qaz g i x) (fun j => qaN i (g.nodes.map Node.e) g.workers g.cap x.kind x.a x.b (x.outs.map eI) j) (X := fun _ _ => qcC false) qao (qaf 2)
    (fun j k hk h => qmm g hg i hi x hx hok j k hk false h)
    (fun j k hk h => qmm g hg i hi x hx hok j k hk true h)
    (qyh ⟨ge1, trivial⟩)
  rcases l with ⟨_, _, h1, h2⟩ | ⟨j, k, _, _, _, _, h1, h2⟩
  · exact .inr ⟨h1, h2⟩
  · exact .inl ⟨h1, h2⟩
theorem qBs (g : Graph) (hg : g.sz ≤ 8388608) (i : Nat) (hi : i < 8) (x : Node) (hx : g.nodes[i]? = some x) (hok : qab x = true) :
    (x.outs.any (qaz g i x) = true ∧ qam Tryz.prog (qaa Tryz.f122 1) (qaO (g.nodes.map Node.e) i (g.nodes.map Node.e) g.workers g.cap x.kind x.a x.b (x.outs.map eI) 0) .ret (qcD false)) ∨ (x.outs.any (qaz g i x) = false ∧ qam Tryz.prog (qaa Tryz.f122 1) (qaO (g.nodes.map Node.e) i (g.nodes.map Node.e) g.workers g.cap x.kind x.a x.b (x.outs.map eI) 0) (.exit 2) (qiY (g.nodes.map Node.e) i (g.nodes.map Node.e) g.workers g.cap)) := by
  have l := qaV (P := Tryz.prog) (c := (qaa Tryz.f122 1)) x.outs (qaz g i x) (fun j => qaO (g.nodes.map Node.e) i (g.nodes.map Node.e) g.workers g.cap x.kind x.a x.b (x.outs.map eI) j) (X := fun _ _ => qcD false) qao (qaf 2)
    (fun j k hk h => qmn g hg i hi x hx hok j k hk false h)
    (fun j k hk h => qmn g hg i hi x hx hok j k hk true h)
    (qyE ⟨ge1, trivial⟩)
  rcases l with ⟨_, _, h1, h2⟩ | ⟨j, k, _, _, _, _, h1, h2⟩
  · exact .inr ⟨h1, h2⟩
  · exact .inl ⟨h1, h2⟩
theorem qmo (g : Graph) (hg : g.sz ≤ 8388608) (i : Nat) (hi : i < 8) (x : Node) (hx : g.nodes[i]? = some x) (r : Bool) (hr : qa8 g i x = r) : Tr Tryz.prog (qaa Tryz.f163 0) (qbG ((i : Nat) : Int) (g.nodes.map Node.e) g.workers g.cap) (bif r then .ret else .normal) (bif r then qd0 false else qbG ((i + 1 : Nat) : Int) (g.nodes.map Node.e) g.workers g.cap) := by
  have hj := lt_of hx
  have ho := Graph.outs_le hg (qap hx)
  have hk1 : g.nodes[(i : Int).toNat]? = some x := by simpa using hx
  have hj1 : decide ((i : Int) < (↑(g.nodes.map Node.e).length : Int)) = true := lt1 hj
  have c1 := qBp x (by grind)
  rcases Bool.eq_false_or_eq_true (qab x) with h2 | h2
  · skip
    rcases Bool.eq_false_or_eq_true ((x.kind == 1) == ((i : Int) == 0)) with h3 | h3
    · skip
      rcases qBr g hg i hi x hx (by grind) with ⟨hL, l⟩ | ⟨hL, l⟩
      · skip
        obtain rfl : r = true := by rw [← hr]; grind [qa8]
        exact qyi ⟨hj1, (by grind [inR, inInt, qab]), (by grind [inR, inInt, qab]), (qad Node.e hk1), c1, (by rw [h2]; rfl), (by rw [h3]; rfl), l, trivial⟩
      · skip
        obtain rfl : r = false := by rw [← hr]; grind [qa8]
        exact qyj ⟨hj1, (by grind [inR, inInt, qab]), (by grind [inR, inInt, qab]), (qad Node.e hk1), c1, (by rw [h2]; rfl), (by rw [h3]; rfl), l, (by grind [inR, inInt, qab]), trivial⟩
    · skip
      obtain rfl : r = true := by rw [← hr]; grind [qa8]
      exact qx4 ⟨hj1, (by grind [inR, inInt, qab]), (by grind [inR, inInt, qab]), (qad Node.e hk1), c1, (by rw [h2]; rfl), (by rw [h3]; rfl), trivial⟩
  · skip
    obtain rfl : r = true := by rw [← hr]; grind [qa8]
    exact qx3 ⟨hj1, (by grind [inR, inInt, qab]), (by grind [inR, inInt, qab]), (qad Node.e hk1), c1, (by rw [h2]; rfl), trivial⟩
theorem qmp (g : Graph) (hg : g.sz ≤ 8388608) (i : Nat) (hi : i < 8) (x : Node) (hx : g.nodes[i]? = some x) (r : Bool) (hr : qa8 g i x = r) : Tr Tryz.prog (qaa Tryz.f122 0) (qbH (g.nodes.map Node.e) ((i : Nat) : Int) (g.nodes.map Node.e) g.workers g.cap) (bif r then .ret else .normal) (bif r then qd1 false else qbH (g.nodes.map Node.e) ((i + 1 : Nat) : Int) (g.nodes.map Node.e) g.workers g.cap) := by
  have hj := lt_of hx
  have ho := Graph.outs_le hg (qap hx)
  have hk1 : g.nodes[(i : Int).toNat]? = some x := by simpa using hx
  have hj1 : decide ((i : Int) < (↑(g.nodes.map Node.e).length : Int)) = true := lt1 hj
  have c1 := qBq x (by grind)
  rcases Bool.eq_false_or_eq_true (qab x) with h2 | h2
  · skip
    rcases Bool.eq_false_or_eq_true ((x.kind == 1) == ((i : Int) == 0)) with h3 | h3
    · skip
      rcases qBs g hg i hi x hx (by grind) with ⟨hL, l⟩ | ⟨hL, l⟩
      · skip
        obtain rfl : r = true := by rw [← hr]; grind [qa8]
        exact qyF ⟨hj1, (by grind [inR, inInt, qab]), (by grind [inR, inInt, qab]), (qad Node.e hk1), c1, (by rw [h2]; rfl), (by rw [h3]; rfl), l, trivial⟩
      · skip
        obtain rfl : r = false := by rw [← hr]; grind [qa8]
        exact qyG ⟨hj1, (by grind [inR, inInt, qab]), (by grind [inR, inInt, qab]), (qad Node.e hk1), c1, (by rw [h2]; rfl), (by rw [h3]; rfl), l, (by grind [inR, inInt, qab]), trivial⟩
    · skip
      obtain rfl : r = true := by rw [← hr]; grind [qa8]
      exact qyr ⟨hj1, (by grind [inR, inInt, qab]), (by grind [inR, inInt, qab]), (qad Node.e hk1), c1, (by rw [h2]; rfl), (by rw [h3]; rfl), trivial⟩
  · skip
    obtain rfl : r = true := by rw [← hr]; grind [qa8]
    exact qyq ⟨hj1, (by grind [inR, inInt, qab]), (by grind [inR, inInt, qab]), (qad Node.e hk1), c1, (by rw [h2]; rfl), trivial⟩
theorem qBt (g : Graph) (hg : g.sz ≤ 8388608) (h8 : g.nodes.length ≤ 8) :
    (anyI (qa8 g) 0 g.nodes = true ∧ qam Tryz.prog (qaa Tryz.f163 0) (qbG 0 (g.nodes.map Node.e) g.workers g.cap) .ret (qd0 false)) ∨ (anyI (qa8 g) 0 g.nodes = false ∧ qam Tryz.prog (qaa Tryz.f163 0) (qbG 0 (g.nodes.map Node.e) g.workers g.cap) (.exit 0) qiX) := by
  have l := qc6 (P := Tryz.prog) (c := (qaa Tryz.f163 0)) g.nodes (qa8 g) (fun i => qbG (i : Nat) (g.nodes.map Node.e) g.workers g.cap) (X := qd0 false) qao (qaf 0)
    (fun i x hx h => qmo g hg i (by have := lt_of hx; omega) x hx false h)
    (fun i x hx h => qmo g hg i (by have := lt_of hx; omega) x hx true h)
    (qyk ⟨ge1, trivial⟩)
  rcases l with ⟨h1, h2⟩ | ⟨h1, h2⟩
  · exact .inr ⟨h1, h2⟩
  · exact .inl ⟨h1, h2⟩
theorem qBu (g : Graph) (hg : g.sz ≤ 8388608) (h8 : g.nodes.length ≤ 8) :
    (anyI (qa8 g) 0 g.nodes = true ∧ qam Tryz.prog (qaa Tryz.f122 0) (qbH (g.nodes.map Node.e) 0 (g.nodes.map Node.e) g.workers g.cap) .ret (qd1 false)) ∨ (anyI (qa8 g) 0 g.nodes = false ∧ qam Tryz.prog (qaa Tryz.f122 0) (qbH (g.nodes.map Node.e) 0 (g.nodes.map Node.e) g.workers g.cap) (.exit 0) qiZ) := by
  have l := qc6 (P := Tryz.prog) (c := (qaa Tryz.f122 0)) g.nodes (qa8 g) (fun i => qbH (g.nodes.map Node.e) (i : Nat) (g.nodes.map Node.e) g.workers g.cap) (X := qd1 false) qao (qaf 0)
    (fun i x hx h => qmp g hg i (by have := lt_of hx; omega) x hx false h)
    (fun i x hx h => qmp g hg i (by have := lt_of hx; omega) x hx true h)
    (qyH ⟨ge1, trivial⟩)
  rcases l with ⟨h1, h2⟩ | ⟨h1, h2⟩
  · exact .inr ⟨h1, h2⟩
  · exact .inl ⟨h1, h2⟩
theorem qBv (g : Graph) (hg : g.sz ≤ 8388608) : Rt 163 [.agg g.e] [.one (B (qax g))] := by
  have c1 := qa0 (↑(g.nodes.map Node.e).length : Int) 1 8
  rcases Bool.eq_false_or_eq_true (inR (↑(g.nodes.map Node.e).length : Int) 1 8) with h2 | h2
  · skip
    have c3 := qa0 g.workers 1 4
    rcases Bool.eq_false_or_eq_true (inR g.workers 1 4) with h4 | h4
    · skip
      have c5 := qa0 g.cap 1 4
      rcases Bool.eq_false_or_eq_true (inR g.cap 1 4) with h6 | h6
      · skip
        rcases qBt g hg (by grind [inR]) with ⟨hL, l⟩ | ⟨hL, l⟩
        · skip
          rw [show qax g = false from by grind [qax]]
          exact qyl ⟨c1, (by rw [h2]; rfl), c3, (by rw [h4]; rfl), c5, (by rw [h6]; rfl), l, trivial⟩
        · skip
          rw [show qax g = true from by grind [qax]]
          exact qym ⟨c1, (by rw [h2]; rfl), c3, (by rw [h4]; rfl), c5, (by rw [h6]; rfl), l, trivial⟩
      · skip
        rw [show qax g = false from by grind [qax]]
        exact qx2 ⟨c1, (by rw [h2]; rfl), c3, (by rw [h4]; rfl), c5, (by rw [h6]; rfl), trivial⟩
    · skip
      rw [show qax g = false from by grind [qax]]
      exact qx1 ⟨c1, (by rw [h2]; rfl), c3, (by rw [h4]; rfl), trivial⟩
  · skip
    rw [show qax g = false from by grind [qax]]
    exact qx0 ⟨c1, (by rw [h2]; rfl), trivial⟩
theorem qBw (g : Graph) (hg : g.sz ≤ 8388608) : Rt 122 [.agg g.e] [.one (B (qax g))] := by
  have c1 := qa4 (↑(g.nodes.map Node.e).length : Int) 1 8
  rcases Bool.eq_false_or_eq_true (inR (↑(g.nodes.map Node.e).length : Int) 1 8) with h2 | h2
  · skip
    have c3 := qa4 g.workers 1 4
    rcases Bool.eq_false_or_eq_true (inR g.workers 1 4) with h4 | h4
    · skip
      have c5 := qa4 g.cap 1 4
      rcases Bool.eq_false_or_eq_true (inR g.cap 1 4) with h6 | h6
      · skip
        rcases qBu g hg (by grind [inR]) with ⟨hL, l⟩ | ⟨hL, l⟩
        · skip
          rw [show qax g = false from by grind [qax]]
          exact qyI ⟨c1, (by rw [h2]; rfl), c3, (by rw [h4]; rfl), c5, (by rw [h6]; rfl), l, trivial⟩
        · skip
          rw [show qax g = true from by grind [qax]]
          exact qyJ ⟨c1, (by rw [h2]; rfl), c3, (by rw [h4]; rfl), c5, (by rw [h6]; rfl), l, trivial⟩
      · skip
        rw [show qax g = false from by grind [qax]]
        exact qyp ⟨c1, (by rw [h2]; rfl), c3, (by rw [h4]; rfl), c5, (by rw [h6]; rfl), trivial⟩
    · skip
      rw [show qax g = false from by grind [qax]]
      exact qyo ⟨c1, (by rw [h2]; rfl), c3, (by rw [h4]; rfl), trivial⟩
  · skip
    rw [show qax g = false from by grind [qax]]
    exact qyn ⟨c1, (by rw [h2]; rfl), trivial⟩
def qi2 (a b : Cell) : Bool := a.op == b.op && a.epoch == b.epoch && a.key == b.key
def qBx (op ep key : Int) (s : Int × Bool) (a : Cell) : Int × Bool := if a.op = op ∧ a.epoch = ep ∧ a.key = key ∧ (s.2 = false ∨ a.val < s.1) then (a.val, true) else s
def qmq (xs : List Cell) (op ep key : Int) : Int × Bool := xs.foldl (qBx op ep key) (0, false)
end Go.Proofs.YtdanpadojemjeaaGreat
namespace Go.Proofs.YtdanpadojemjeaaGreat
open Go.Sx Go.RowKit
def qmr (xs : List Cell) (x : Cell) : List Cell × Bool :=
  if (qmq xs x.op x.epoch x.key).2 && decide ((qmq xs x.op x.epoch x.key).1 ≤ x.val) then (xs, false) else (qgD (xs.filter fun a => !qi2 x a) x, true)
def qeY (kind : Int) (xs : List Cell) (x : Cell) : List Cell × Bool :=
  if kind = 6 then (if ql3 xs x then (xs, false) else (qgD xs x, true))
  else if kind = 5 ∨ kind = 8 then qmr xs x
  else (xs, true)
def sends (x : Node) (s : Stamp) (key val : Int) : List Record := x.outs.map fun k => ⟨k, s, key, val⟩
def cellOf (r : Record) : Cell := ⟨r.op, r.stamp.epoch, r.key, r.val⟩
def qms (g : Graph) (cs : List Cell) (r : Record) (x : Node) : List Cell × List Record × Bool :=
  if qax g && qaH r then
    if !(qfD x r.key r.val).2.2 && x.kind != 8 then (cs, [], true)
    else if !(qeY x.kind cs ⟨r.op, r.stamp.epoch, r.key, r.val⟩).2 then ((qeY x.kind cs ⟨r.op, r.stamp.epoch, r.key, r.val⟩).1, [], true)
    else if x.kind = 7 then
      ((qeY x.kind cs ⟨r.op, r.stamp.epoch, r.key, r.val⟩).1, (bif (qgN r.stamp).2 then sends x (qgN r.stamp).1 (qfD x r.key r.val).1 (qfD x r.key r.val).2.1 else []), true)
    else ((qeY x.kind cs ⟨r.op, r.stamp.epoch, r.key, r.val⟩).1, sends x r.stamp (qfD x r.key r.val).1 (qfD x r.key r.val).2.1, true)
  else (cs, [], false)
end Go.Proofs.YtdanpadojemjeaaGreat
namespace Go.Proofs.YtdanpadojemjeaaGreat
open Go.Sx Go.RowKit
def qfE (g : Graph) (cs : List Cell) (r : Record) : List Cell × List Record × Bool := match qbv g r.op with | some x => qms g cs r x | none => (cs, [], false)
def qBy (g : Graph) (r : Record) (x : Node) : Bool := qax g && qaH r && x.kind == 7 && decide (0 < x.outs.length) && !(qgN r.stamp).2
def capped (g : Graph) (r : Record) : Bool := match qbv g r.op with | some x => qBy g r x | none => false
theorem qBz {g : Graph} (h : qax g = true) {op : Int} {x : Node} (hn : qbv g op = some x) : qab x = true := by
  simp only [qax, Bool.and_eq_true, Bool.not_eq_true'] at h
  unfold qbv at hn
  split at hn
  · have := qgr h.2 op.toNat x hn
    simp only [qa8, Bool.or_eq_false_iff, Bool.not_eq_false'] at this
    exact this.1.1
  · cases hn
theorem qBA {x : Node} (h : qab x = true) : x.outs.length ≤ 2 := by
  simp only [qab, Bool.and_eq_true, decide_eq_true_eq] at h
  exact h.1.1.1.2
theorem qBB (kind : Int) (cs : List Cell) (x : Cell) : (qeY kind cs x).1.length ≤ cs.length + 1 := by
  have h1 := ql4 cs x
  have h2 := ql4 (cs.filter fun a => !qi2 x a) x
  have h3 := List.length_filter_le (fun a => !qi2 x a) cs
  unfold qeY
  split
  · split <;> simp <;> omega
  · split
    · unfold qmr
      split <;> simp <;> omega
    · simp
theorem qBC {g : Graph} (hg : qax g = true) (cs : List Cell) (r : Record) : (qfE g cs r).1.length ≤ cs.length + 1 ∧ (qfE g cs r).2.1.length ≤ 2 := by
  unfold qfE
  cases h : qbv g r.op with
  | none => exact ⟨by simp, by simp⟩
  | some x =>
    have hx := qBA (qBz hg h)
    have hr := qBB x.kind cs ⟨r.op, r.stamp.epoch, r.key, r.val⟩
    have hs : ∀ s k v, (sends x s k v).length ≤ 2 := fun s k v => by simpa [sends] using hx
    simp only [qms]
    split
    · split
      · exact ⟨by simp, by simp⟩
      · split
        · exact ⟨hr, by simp⟩
        · split
          · refine ⟨hr, ?_⟩
            cases (qgN r.stamp).2 with
            | true => exact hs _ _ _
            | false => simp
          · exact ⟨hr, hs _ _ _⟩
    · exact ⟨by simp, by simp⟩
end Go.Proofs.YtdanpadojemjeaaGreat
