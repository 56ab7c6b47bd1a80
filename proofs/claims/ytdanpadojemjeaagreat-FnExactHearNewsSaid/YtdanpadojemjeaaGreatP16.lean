/- GraphOk, Changed, LeastOf: what program and reference compute (cases put together by gentree.py). -/
import Derived.Test.YtdanpadojemjeaaGreatP15
import Derived.Test.YtdanpadojemjeaaGreatC0
import Derived.Test.YtdanpadojemjeaaGreatGS
set_option linter.unusedVariables false
set_option linter.unusedSimpArgs false
namespace Go.Proofs.YtdanpadojemjeaaGreat
open Go.Sx Go.RowKit
def qaM (g : Graph) (k : Int) : Int := match g.nodes[k.toNat]? with | some y => y.kind | none => 0
def qax (g : Graph) (i : Nat) (x : Node) (k : Int) : Bool :=
  decide ((g.nodes.length : Int) ≤ k) || (if x.kind = 7 then decide ((i : Int) < k) || (qaM g k != 5 && qaM g k != 6) else decide (k ≤ i))
def qa6 (g : Graph) (i : Nat) (x : Node) : Bool := !qab x || (decide (x.kind = 1) != decide ((i : Int) = 0)) || x.outs.any (qax g i x)
def qav (g : Graph) : Bool := inR g.nodes.length 1 8 && inR g.workers 1 4 && inR g.cap 1 4 && !(anyI (qa6 g) 0 g.nodes)
def qfq (x : Node) (k v : Int) : Int × Int × Bool :=
  if qab x && qbm k v then
    if x.kind = 2 then (k, less (v + x.a) 999, true)
    else if x.kind = 4 then ((k + x.a).tmod 100, v, true)
    else if x.kind = 3 then (k, v, k.tmod x.a == x.b)
    else (k, v, x.kind != 8)
  else (k, v, false)
theorem ql2 {l : List Int} (h : okAll l = true) {k : Int} (hk : k ∈ l) : inR k 0 7 = true := by
  simp only [okAll, Bool.not_eq_true', List.any_eq_false] at h
  simpa using h k hk
theorem ql3 (g : Graph) (hg : g.sz ≤ 8388608) (i : Nat) (hi : i < 8) (x : Node) (hx : g.nodes[i]? = some x) (hok : qab x = true) (j : Nat) (k : Int) (hk : x.outs[j]? = some k) (r : Bool) (hr : qax g i x k = r) : Tr Tryz.prog (qaa Tryz.f163 1) (qaK i (g.nodes.map Node.e) g.workers g.cap x.kind x.a x.b (x.outs.map eI) (j : Int)) (bif r then .ret else .normal) (bif r then qcz false else qaK i (g.nodes.map Node.e) g.workers g.cap x.kind x.a x.b (x.outs.map eI) ((j + 1 : Nat) : Int)) := by
  have hj := lt_of hk
  have hl : x.outs.length ≤ 2 := by grind [qab]
  have hk0 : inR k 0 7 = true := ql2 (by grind [qab]) (qap hk)
  have hk1 : x.outs[(j : Int).toNat]? = some k := by simpa using hk
  have hj1 : decide ((j : Int) < (↑(x.outs.map eI).length : Int)) = true := lt1 hj
  rcases Bool.eq_false_or_eq_true (decide (k ≥ (↑(g.nodes.map Node.e).length : Int))) with h1 | h1
  · skip
    obtain rfl : r = true := by rw [← hr]; grind [qax, qaM, inR]
    exact qwS ⟨hj1, (by grind [inR, inInt, qab]), (by grind [inR, inInt, qab]), (qad eI hk1), h1, trivial⟩
  · skip
    rcases Bool.eq_false_or_eq_true (x.kind != 7) with h2 | h2
    · skip
      rcases Bool.eq_false_or_eq_true (decide (k ≤ (i : Int))) with h3 | h3
      · skip
        obtain rfl : r = true := by rw [← hr]; grind [qax, qaM, inR]
        exact qwT ⟨hj1, (by grind [inR, inInt, qab]), (by grind [inR, inInt, qab]), (qad eI hk1), h1, h2, h3, trivial⟩
      · skip
        obtain ⟨y4, hy4⟩ := look (xs := g.nodes) (i := k) (by grind [inR, inInt, qab]) (by grind [inR, inInt, qab])
        rcases Bool.eq_false_or_eq_true (x.kind == 7) with h5 | h5
        · skip
          rcases Bool.eq_false_or_eq_true (decide (k > (i : Int))) with h6 | h6
          · skip
            obtain rfl : r = true := by rw [← hr]; grind [qax, qaM, inR]
            exact qwU ⟨hj1, (by grind [inR, inInt, qab]), (by grind [inR, inInt, qab]), (qad eI hk1), h1, h2, h3, (by grind [inR, inInt, qab]), (by grind [inR, inInt, qab]), (qad Node.e hy4), h5, h6, trivial⟩
          · skip
            rcases Bool.eq_false_or_eq_true (y4.kind != 5) with h7 | h7
            · skip
              rcases Bool.eq_false_or_eq_true (y4.kind != 6) with h8 | h8
              · skip
                obtain rfl : r = true := by rw [← hr]; grind [qax, qaM, inR]
                exact qwV ⟨hj1, (by grind [inR, inInt, qab]), (by grind [inR, inInt, qab]), (qad eI hk1), h1, h2, h3, (by grind [inR, inInt, qab]), (by grind [inR, inInt, qab]), (qad Node.e hy4), h5, h6, h7, h8, trivial⟩
              · skip
                obtain rfl : r = false := by rw [← hr]; grind [qax, qaM, inR]
                exact qwW ⟨hj1, (by grind [inR, inInt, qab]), (by grind [inR, inInt, qab]), (qad eI hk1), h1, h2, h3, (by grind [inR, inInt, qab]), (by grind [inR, inInt, qab]), (qad Node.e hy4), h5, h6, h7, h8, (by grind [inR, inInt, qab]), trivial⟩
            · skip
              obtain rfl : r = false := by rw [← hr]; grind [qax, qaM, inR]
              exact qwX ⟨hj1, (by grind [inR, inInt, qab]), (by grind [inR, inInt, qab]), (qad eI hk1), h1, h2, h3, (by grind [inR, inInt, qab]), (by grind [inR, inInt, qab]), (qad Node.e hy4), h5, h6, h7, (by grind [inR, inInt, qab]), trivial⟩
        · skip
          obtain rfl : r = false := by rw [← hr]; grind [qax, qaM, inR]
          exact qwY ⟨hj1, (by grind [inR, inInt, qab]), (by grind [inR, inInt, qab]), (qad eI hk1), h1, h2, h3, (by grind [inR, inInt, qab]), (by grind [inR, inInt, qab]), (qad Node.e hy4), h5, (by grind [inR, inInt, qab]), trivial⟩
    · skip
      obtain ⟨y9, hy9⟩ := look (xs := g.nodes) (i := k) (by grind [inR, inInt, qab]) (by grind [inR, inInt, qab])
      rcases Bool.eq_false_or_eq_true (x.kind == 7) with h10 | h10
      · skip
        rcases Bool.eq_false_or_eq_true (decide (k > (i : Int))) with h11 | h11
        · skip
          obtain rfl : r = true := by rw [← hr]; grind [qax, qaM, inR]
          exact qwZ ⟨hj1, (by grind [inR, inInt, qab]), (by grind [inR, inInt, qab]), (qad eI hk1), h1, h2, (by grind [inR, inInt, qab]), (by grind [inR, inInt, qab]), (qad Node.e hy9), h10, h11, trivial⟩
        · skip
          rcases Bool.eq_false_or_eq_true (y9.kind != 5) with h12 | h12
          · skip
            rcases Bool.eq_false_or_eq_true (y9.kind != 6) with h13 | h13
            · skip
              obtain rfl : r = true := by rw [← hr]; grind [qax, qaM, inR]
              exact qw0 ⟨hj1, (by grind [inR, inInt, qab]), (by grind [inR, inInt, qab]), (qad eI hk1), h1, h2, (by grind [inR, inInt, qab]), (by grind [inR, inInt, qab]), (qad Node.e hy9), h10, h11, h12, h13, trivial⟩
            · skip
              obtain rfl : r = false := by rw [← hr]; grind [qax, qaM, inR]
              exact qw1 ⟨hj1, (by grind [inR, inInt, qab]), (by grind [inR, inInt, qab]), (qad eI hk1), h1, h2, (by grind [inR, inInt, qab]), (by grind [inR, inInt, qab]), (qad Node.e hy9), h10, h11, h12, h13, (by grind [inR, inInt, qab]), trivial⟩
          · skip
            obtain rfl : r = false := by rw [← hr]; grind [qax, qaM, inR]
            exact qw2 ⟨hj1, (by grind [inR, inInt, qab]), (by grind [inR, inInt, qab]), (qad eI hk1), h1, h2, (by grind [inR, inInt, qab]), (by grind [inR, inInt, qab]), (qad Node.e hy9), h10, h11, h12, (by grind [inR, inInt, qab]), trivial⟩
      · skip
        obtain rfl : r = false := by rw [← hr]; grind [qax, qaM, inR]
        exact qw3 ⟨hj1, (by grind [inR, inInt, qab]), (by grind [inR, inInt, qab]), (qad eI hk1), h1, h2, (by grind [inR, inInt, qab]), (by grind [inR, inInt, qab]), (qad Node.e hy9), h10, (by grind [inR, inInt, qab]), trivial⟩
theorem ql4 (g : Graph) (hg : g.sz ≤ 8388608) (i : Nat) (hi : i < 8) (x : Node) (hx : g.nodes[i]? = some x) (hok : qab x = true) (j : Nat) (k : Int) (hk : x.outs[j]? = some k) (r : Bool) (hr : qax g i x k = r) : Tr Tryz.prog (qaa Tryz.f122 1) (qaL (g.nodes.map Node.e) i (g.nodes.map Node.e) g.workers g.cap x.kind x.a x.b (x.outs.map eI) (j : Int)) (bif r then .ret else .normal) (bif r then qcA false else qaL (g.nodes.map Node.e) i (g.nodes.map Node.e) g.workers g.cap x.kind x.a x.b (x.outs.map eI) ((j + 1 : Nat) : Int)) := by
  have hj := lt_of hk
  have hl : x.outs.length ≤ 2 := by grind [qab]
  have hk0 : inR k 0 7 = true := ql2 (by grind [qab]) (qap hk)
  have hk1 : x.outs[(j : Int).toNat]? = some k := by simpa using hk
  have hj1 : decide ((j : Int) < (↑(x.outs.map eI).length : Int)) = true := lt1 hj
  rcases Bool.eq_false_or_eq_true (decide (k ≥ (↑(g.nodes.map Node.e).length : Int))) with h1 | h1
  · skip
    obtain rfl : r = true := by rw [← hr]; grind [qax, qaM, inR]
    exact qxf ⟨hj1, (by grind [inR, inInt, qab]), (by grind [inR, inInt, qab]), (qad eI hk1), h1, trivial⟩
  · skip
    obtain ⟨y2, hy2⟩ := look (xs := g.nodes) (i := k) (by grind [inR, inInt, qab]) (by grind [inR, inInt, qab])
    rcases Bool.eq_false_or_eq_true (x.kind == 7) with h3 | h3
    · skip
      rcases Bool.eq_false_or_eq_true (decide (k > (i : Int))) with h4 | h4
      · skip
        obtain rfl : r = true := by rw [← hr]; grind [qax, qaM, inR]
        exact qxg ⟨hj1, (by grind [inR, inInt, qab]), (by grind [inR, inInt, qab]), (qad eI hk1), h1, (by grind [inR, inInt, qab]), (by grind [inR, inInt, qab]), (qad Node.e hy2), h3, h4, trivial⟩
      · skip
        rcases Bool.eq_false_or_eq_true (y2.kind != 5) with h5 | h5
        · skip
          rcases Bool.eq_false_or_eq_true (y2.kind != 6) with h6 | h6
          · skip
            obtain rfl : r = true := by rw [← hr]; grind [qax, qaM, inR]
            exact qxh ⟨hj1, (by grind [inR, inInt, qab]), (by grind [inR, inInt, qab]), (qad eI hk1), h1, (by grind [inR, inInt, qab]), (by grind [inR, inInt, qab]), (qad Node.e hy2), h3, h4, h5, h6, trivial⟩
          · skip
            rcases Bool.eq_false_or_eq_true (x.kind != 7) with h7 | h7
            · skip
              rcases Bool.eq_false_or_eq_true (decide (k ≤ (i : Int))) with h8 | h8
              · skip
                obtain rfl : r = true := by rw [← hr]; grind [qax, qaM, inR]
                exact qxi ⟨hj1, (by grind [inR, inInt, qab]), (by grind [inR, inInt, qab]), (qad eI hk1), h1, (by grind [inR, inInt, qab]), (by grind [inR, inInt, qab]), (qad Node.e hy2), h3, h4, h5, h6, h7, h8, trivial⟩
              · skip
                obtain rfl : r = false := by rw [← hr]; grind [qax, qaM, inR]
                exact qxj ⟨hj1, (by grind [inR, inInt, qab]), (by grind [inR, inInt, qab]), (qad eI hk1), h1, (by grind [inR, inInt, qab]), (by grind [inR, inInt, qab]), (qad Node.e hy2), h3, h4, h5, h6, h7, h8, (by grind [inR, inInt, qab]), trivial⟩
            · skip
              obtain rfl : r = false := by rw [← hr]; grind [qax, qaM, inR]
              exact qxk ⟨hj1, (by grind [inR, inInt, qab]), (by grind [inR, inInt, qab]), (qad eI hk1), h1, (by grind [inR, inInt, qab]), (by grind [inR, inInt, qab]), (qad Node.e hy2), h3, h4, h5, h6, h7, (by grind [inR, inInt, qab]), trivial⟩
        · skip
          rcases Bool.eq_false_or_eq_true (x.kind != 7) with h9 | h9
          · skip
            rcases Bool.eq_false_or_eq_true (decide (k ≤ (i : Int))) with h10 | h10
            · skip
              obtain rfl : r = true := by rw [← hr]; grind [qax, qaM, inR]
              exact qxl ⟨hj1, (by grind [inR, inInt, qab]), (by grind [inR, inInt, qab]), (qad eI hk1), h1, (by grind [inR, inInt, qab]), (by grind [inR, inInt, qab]), (qad Node.e hy2), h3, h4, h5, h9, h10, trivial⟩
            · skip
              obtain rfl : r = false := by rw [← hr]; grind [qax, qaM, inR]
              exact qxm ⟨hj1, (by grind [inR, inInt, qab]), (by grind [inR, inInt, qab]), (qad eI hk1), h1, (by grind [inR, inInt, qab]), (by grind [inR, inInt, qab]), (qad Node.e hy2), h3, h4, h5, h9, h10, (by grind [inR, inInt, qab]), trivial⟩
          · skip
            obtain rfl : r = false := by rw [← hr]; grind [qax, qaM, inR]
            exact qxn ⟨hj1, (by grind [inR, inInt, qab]), (by grind [inR, inInt, qab]), (qad eI hk1), h1, (by grind [inR, inInt, qab]), (by grind [inR, inInt, qab]), (qad Node.e hy2), h3, h4, h5, h9, (by grind [inR, inInt, qab]), trivial⟩
    · skip
      rcases Bool.eq_false_or_eq_true (x.kind != 7) with h11 | h11
      · skip
        rcases Bool.eq_false_or_eq_true (decide (k ≤ (i : Int))) with h12 | h12
        · skip
          obtain rfl : r = true := by rw [← hr]; grind [qax, qaM, inR]
          exact qxo ⟨hj1, (by grind [inR, inInt, qab]), (by grind [inR, inInt, qab]), (qad eI hk1), h1, (by grind [inR, inInt, qab]), (by grind [inR, inInt, qab]), (qad Node.e hy2), h3, h11, h12, trivial⟩
        · skip
          obtain rfl : r = false := by rw [← hr]; grind [qax, qaM, inR]
          exact qxp ⟨hj1, (by grind [inR, inInt, qab]), (by grind [inR, inInt, qab]), (qad eI hk1), h1, (by grind [inR, inInt, qab]), (by grind [inR, inInt, qab]), (qad Node.e hy2), h3, h11, h12, (by grind [inR, inInt, qab]), trivial⟩
      · skip
        obtain rfl : r = false := by rw [← hr]; grind [qax, qaM, inR]
        exact qxq ⟨hj1, (by grind [inR, inInt, qab]), (by grind [inR, inInt, qab]), (qad eI hk1), h1, (by grind [inR, inInt, qab]), (by grind [inR, inInt, qab]), (qad Node.e hy2), h3, h11, (by grind [inR, inInt, qab]), trivial⟩
theorem qAe (g : Graph) (hg : g.sz ≤ 8388608) (i : Nat) (hi : i < 8) (x : Node) (hx : g.nodes[i]? = some x) (hok : qab x = true) :
    (x.outs.any (qax g i x) = true ∧ qam Tryz.prog (qaa Tryz.f163 1) (qaK i (g.nodes.map Node.e) g.workers g.cap x.kind x.a x.b (x.outs.map eI) 0) .ret (qcz false)) ∨ (x.outs.any (qax g i x) = false ∧ qam Tryz.prog (qaa Tryz.f163 1) (qaK i (g.nodes.map Node.e) g.workers g.cap x.kind x.a x.b (x.outs.map eI) 0) (.exit 2) (qiJ i (g.nodes.map Node.e) g.workers g.cap)) := by
  have l := qaQ (P := Tryz.prog) (c := (qaa Tryz.f163 1)) x.outs (qax g i x) (fun j => qaK i (g.nodes.map Node.e) g.workers g.cap x.kind x.a x.b (x.outs.map eI) j) (X := fun _ _ => qcz false) qao (qaf 2)
    (fun j k hk h => ql3 g hg i hi x hx hok j k hk false h)
    (fun j k hk h => ql3 g hg i hi x hx hok j k hk true h)
    (qw4 ⟨ge1, trivial⟩)
  rcases l with ⟨_, _, h1, h2⟩ | ⟨j, k, _, _, _, _, h1, h2⟩
  · exact .inr ⟨h1, h2⟩
  · exact .inl ⟨h1, h2⟩
theorem qAf (g : Graph) (hg : g.sz ≤ 8388608) (i : Nat) (hi : i < 8) (x : Node) (hx : g.nodes[i]? = some x) (hok : qab x = true) :
    (x.outs.any (qax g i x) = true ∧ qam Tryz.prog (qaa Tryz.f122 1) (qaL (g.nodes.map Node.e) i (g.nodes.map Node.e) g.workers g.cap x.kind x.a x.b (x.outs.map eI) 0) .ret (qcA false)) ∨ (x.outs.any (qax g i x) = false ∧ qam Tryz.prog (qaa Tryz.f122 1) (qaL (g.nodes.map Node.e) i (g.nodes.map Node.e) g.workers g.cap x.kind x.a x.b (x.outs.map eI) 0) (.exit 2) (qiL (g.nodes.map Node.e) i (g.nodes.map Node.e) g.workers g.cap)) := by
  have l := qaQ (P := Tryz.prog) (c := (qaa Tryz.f122 1)) x.outs (qax g i x) (fun j => qaL (g.nodes.map Node.e) i (g.nodes.map Node.e) g.workers g.cap x.kind x.a x.b (x.outs.map eI) j) (X := fun _ _ => qcA false) qao (qaf 2)
    (fun j k hk h => ql4 g hg i hi x hx hok j k hk false h)
    (fun j k hk h => ql4 g hg i hi x hx hok j k hk true h)
    (qxr ⟨ge1, trivial⟩)
  rcases l with ⟨_, _, h1, h2⟩ | ⟨j, k, _, _, _, _, h1, h2⟩
  · exact .inr ⟨h1, h2⟩
  · exact .inl ⟨h1, h2⟩
theorem ql5 (g : Graph) (hg : g.sz ≤ 8388608) (i : Nat) (hi : i < 8) (x : Node) (hx : g.nodes[i]? = some x) (r : Bool) (hr : qa6 g i x = r) : Tr Tryz.prog (qaa Tryz.f163 0) (qbB ((i : Nat) : Int) (g.nodes.map Node.e) g.workers g.cap) (bif r then .ret else .normal) (bif r then qdR false else qbB ((i + 1 : Nat) : Int) (g.nodes.map Node.e) g.workers g.cap) := by
  have hj := lt_of hx
  have ho := Graph.outs_le hg (qap hx)
  have hk1 : g.nodes[(i : Int).toNat]? = some x := by simpa using hx
  have hj1 : decide ((i : Int) < (↑(g.nodes.map Node.e).length : Int)) = true := lt1 hj
  have c1 := qAc x (by grind)
  rcases Bool.eq_false_or_eq_true (qab x) with h2 | h2
  · skip
    rcases Bool.eq_false_or_eq_true ((x.kind == 1) == ((i : Int) == 0)) with h3 | h3
    · skip
      rcases qAe g hg i hi x hx (by grind) with ⟨hL, l⟩ | ⟨hL, l⟩
      · skip
        obtain rfl : r = true := by rw [← hr]; grind [qa6]
        exact qw5 ⟨hj1, (by grind [inR, inInt, qab]), (by grind [inR, inInt, qab]), (qad Node.e hk1), c1, (by rw [h2]; rfl), (by rw [h3]; rfl), l, trivial⟩
      · skip
        obtain rfl : r = false := by rw [← hr]; grind [qa6]
        exact qw6 ⟨hj1, (by grind [inR, inInt, qab]), (by grind [inR, inInt, qab]), (qad Node.e hk1), c1, (by rw [h2]; rfl), (by rw [h3]; rfl), l, (by grind [inR, inInt, qab]), trivial⟩
    · skip
      obtain rfl : r = true := by rw [← hr]; grind [qa6]
      exact qwR ⟨hj1, (by grind [inR, inInt, qab]), (by grind [inR, inInt, qab]), (qad Node.e hk1), c1, (by rw [h2]; rfl), (by rw [h3]; rfl), trivial⟩
  · skip
    obtain rfl : r = true := by rw [← hr]; grind [qa6]
    exact qwQ ⟨hj1, (by grind [inR, inInt, qab]), (by grind [inR, inInt, qab]), (qad Node.e hk1), c1, (by rw [h2]; rfl), trivial⟩
theorem ql6 (g : Graph) (hg : g.sz ≤ 8388608) (i : Nat) (hi : i < 8) (x : Node) (hx : g.nodes[i]? = some x) (r : Bool) (hr : qa6 g i x = r) : Tr Tryz.prog (qaa Tryz.f122 0) (qbC (g.nodes.map Node.e) ((i : Nat) : Int) (g.nodes.map Node.e) g.workers g.cap) (bif r then .ret else .normal) (bif r then qdS false else qbC (g.nodes.map Node.e) ((i + 1 : Nat) : Int) (g.nodes.map Node.e) g.workers g.cap) := by
  have hj := lt_of hx
  have ho := Graph.outs_le hg (qap hx)
  have hk1 : g.nodes[(i : Int).toNat]? = some x := by simpa using hx
  have hj1 : decide ((i : Int) < (↑(g.nodes.map Node.e).length : Int)) = true := lt1 hj
  have c1 := qAd x (by grind)
  rcases Bool.eq_false_or_eq_true (qab x) with h2 | h2
  · skip
    rcases Bool.eq_false_or_eq_true ((x.kind == 1) == ((i : Int) == 0)) with h3 | h3
    · skip
      rcases qAf g hg i hi x hx (by grind) with ⟨hL, l⟩ | ⟨hL, l⟩
      · skip
        obtain rfl : r = true := by rw [← hr]; grind [qa6]
        exact qxs ⟨hj1, (by grind [inR, inInt, qab]), (by grind [inR, inInt, qab]), (qad Node.e hk1), c1, (by rw [h2]; rfl), (by rw [h3]; rfl), l, trivial⟩
      · skip
        obtain rfl : r = false := by rw [← hr]; grind [qa6]
        exact qxt ⟨hj1, (by grind [inR, inInt, qab]), (by grind [inR, inInt, qab]), (qad Node.e hk1), c1, (by rw [h2]; rfl), (by rw [h3]; rfl), l, (by grind [inR, inInt, qab]), trivial⟩
    · skip
      obtain rfl : r = true := by rw [← hr]; grind [qa6]
      exact qxe ⟨hj1, (by grind [inR, inInt, qab]), (by grind [inR, inInt, qab]), (qad Node.e hk1), c1, (by rw [h2]; rfl), (by rw [h3]; rfl), trivial⟩
  · skip
    obtain rfl : r = true := by rw [← hr]; grind [qa6]
    exact qxd ⟨hj1, (by grind [inR, inInt, qab]), (by grind [inR, inInt, qab]), (qad Node.e hk1), c1, (by rw [h2]; rfl), trivial⟩
theorem qAg (g : Graph) (hg : g.sz ≤ 8388608) (h8 : g.nodes.length ≤ 8) :
    (anyI (qa6 g) 0 g.nodes = true ∧ qam Tryz.prog (qaa Tryz.f163 0) (qbB 0 (g.nodes.map Node.e) g.workers g.cap) .ret (qdR false)) ∨ (anyI (qa6 g) 0 g.nodes = false ∧ qam Tryz.prog (qaa Tryz.f163 0) (qbB 0 (g.nodes.map Node.e) g.workers g.cap) (.exit 0) qiK) := by
  have l := qcZ (P := Tryz.prog) (c := (qaa Tryz.f163 0)) g.nodes (qa6 g) (fun i => qbB (i : Nat) (g.nodes.map Node.e) g.workers g.cap) (X := qdR false) qao (qaf 0)
    (fun i x hx h => ql5 g hg i (by have := lt_of hx; omega) x hx false h)
    (fun i x hx h => ql5 g hg i (by have := lt_of hx; omega) x hx true h)
    (qw7 ⟨ge1, trivial⟩)
  rcases l with ⟨h1, h2⟩ | ⟨h1, h2⟩
  · exact .inr ⟨h1, h2⟩
  · exact .inl ⟨h1, h2⟩
theorem qAh (g : Graph) (hg : g.sz ≤ 8388608) (h8 : g.nodes.length ≤ 8) :
    (anyI (qa6 g) 0 g.nodes = true ∧ qam Tryz.prog (qaa Tryz.f122 0) (qbC (g.nodes.map Node.e) 0 (g.nodes.map Node.e) g.workers g.cap) .ret (qdS false)) ∨ (anyI (qa6 g) 0 g.nodes = false ∧ qam Tryz.prog (qaa Tryz.f122 0) (qbC (g.nodes.map Node.e) 0 (g.nodes.map Node.e) g.workers g.cap) (.exit 0) qiM) := by
  have l := qcZ (P := Tryz.prog) (c := (qaa Tryz.f122 0)) g.nodes (qa6 g) (fun i => qbC (g.nodes.map Node.e) (i : Nat) (g.nodes.map Node.e) g.workers g.cap) (X := qdS false) qao (qaf 0)
    (fun i x hx h => ql6 g hg i (by have := lt_of hx; omega) x hx false h)
    (fun i x hx h => ql6 g hg i (by have := lt_of hx; omega) x hx true h)
    (qxu ⟨ge1, trivial⟩)
  rcases l with ⟨h1, h2⟩ | ⟨h1, h2⟩
  · exact .inr ⟨h1, h2⟩
  · exact .inl ⟨h1, h2⟩
theorem qAi (g : Graph) (hg : g.sz ≤ 8388608) : Rt 163 [.agg g.e] [.one (B (qav g))] := by
  have c1 := qaW (↑(g.nodes.map Node.e).length : Int) 1 8
  rcases Bool.eq_false_or_eq_true (inR (↑(g.nodes.map Node.e).length : Int) 1 8) with h2 | h2
  · skip
    have c3 := qaW g.workers 1 4
    rcases Bool.eq_false_or_eq_true (inR g.workers 1 4) with h4 | h4
    · skip
      have c5 := qaW g.cap 1 4
      rcases Bool.eq_false_or_eq_true (inR g.cap 1 4) with h6 | h6
      · skip
        rcases qAg g hg (by grind [inR]) with ⟨hL, l⟩ | ⟨hL, l⟩
        · skip
          rw [show qav g = false from by grind [qav]]
          exact qw8 ⟨c1, (by rw [h2]; rfl), c3, (by rw [h4]; rfl), c5, (by rw [h6]; rfl), l, trivial⟩
        · skip
          rw [show qav g = true from by grind [qav]]
          exact qw9 ⟨c1, (by rw [h2]; rfl), c3, (by rw [h4]; rfl), c5, (by rw [h6]; rfl), l, trivial⟩
      · skip
        rw [show qav g = false from by grind [qav]]
        exact qwP ⟨c1, (by rw [h2]; rfl), c3, (by rw [h4]; rfl), c5, (by rw [h6]; rfl), trivial⟩
    · skip
      rw [show qav g = false from by grind [qav]]
      exact qwO ⟨c1, (by rw [h2]; rfl), c3, (by rw [h4]; rfl), trivial⟩
  · skip
    rw [show qav g = false from by grind [qav]]
    exact qwN ⟨c1, (by rw [h2]; rfl), trivial⟩
theorem qAj (g : Graph) (hg : g.sz ≤ 8388608) : Rt 122 [.agg g.e] [.one (B (qav g))] := by
  have c1 := qa2 (↑(g.nodes.map Node.e).length : Int) 1 8
  rcases Bool.eq_false_or_eq_true (inR (↑(g.nodes.map Node.e).length : Int) 1 8) with h2 | h2
  · skip
    have c3 := qa2 g.workers 1 4
    rcases Bool.eq_false_or_eq_true (inR g.workers 1 4) with h4 | h4
    · skip
      have c5 := qa2 g.cap 1 4
      rcases Bool.eq_false_or_eq_true (inR g.cap 1 4) with h6 | h6
      · skip
        rcases qAh g hg (by grind [inR]) with ⟨hL, l⟩ | ⟨hL, l⟩
        · skip
          rw [show qav g = false from by grind [qav]]
          exact qxv ⟨c1, (by rw [h2]; rfl), c3, (by rw [h4]; rfl), c5, (by rw [h6]; rfl), l, trivial⟩
        · skip
          rw [show qav g = true from by grind [qav]]
          exact qxw ⟨c1, (by rw [h2]; rfl), c3, (by rw [h4]; rfl), c5, (by rw [h6]; rfl), l, trivial⟩
      · skip
        rw [show qav g = false from by grind [qav]]
        exact qxc ⟨c1, (by rw [h2]; rfl), c3, (by rw [h4]; rfl), c5, (by rw [h6]; rfl), trivial⟩
    · skip
      rw [show qav g = false from by grind [qav]]
      exact qxb ⟨c1, (by rw [h2]; rfl), c3, (by rw [h4]; rfl), trivial⟩
  · skip
    rw [show qav g = false from by grind [qav]]
    exact qxa ⟨c1, (by rw [h2]; rfl), trivial⟩
def qiP (a b : Cell) : Bool := a.op == b.op && a.epoch == b.epoch && a.key == b.key
def qAk (op ep key : Int) (s : Int × Bool) (a : Cell) : Int × Bool := if a.op = op ∧ a.epoch = ep ∧ a.key = key ∧ (s.2 = false ∨ a.val < s.1) then (a.val, true) else s
def ql7 (xs : List Cell) (op ep key : Int) : Int × Bool := xs.foldl (qAk op ep key) (0, false)
end Go.Proofs.YtdanpadojemjeaaGreat
namespace Go.Proofs.YtdanpadojemjeaaGreat
open Go.Sx Go.RowKit
def ql8 (xs : List Cell) (x : Cell) : List Cell × Bool :=
  if (ql7 xs x.op x.epoch x.key).2 && decide ((ql7 xs x.op x.epoch x.key).1 ≤ x.val) then (xs, false) else (qgn (xs.filter fun a => !qiP x a) x, true)
def qeN (kind : Int) (xs : List Cell) (x : Cell) : List Cell × Bool :=
  if kind = 6 then (if qlL xs x then (xs, false) else (qgn xs x, true))
  else if kind = 5 ∨ kind = 8 then ql8 xs x
  else (xs, true)
def sends (x : Node) (s : Stamp) (key val : Int) : List Record := x.outs.map fun k => ⟨k, s, key, val⟩
def cellOf (r : Record) : Cell := ⟨r.op, r.stamp.epoch, r.key, r.val⟩
def ql9 (g : Graph) (cs : List Cell) (r : Record) (x : Node) : List Cell × List Record × Bool :=
  if qav g && qaG r then
    if !(qfq x r.key r.val).2.2 && x.kind != 8 then (cs, [], true)
    else if !(qeN x.kind cs ⟨r.op, r.stamp.epoch, r.key, r.val⟩).2 then ((qeN x.kind cs ⟨r.op, r.stamp.epoch, r.key, r.val⟩).1, [], true)
    else if x.kind = 7 then
      ((qeN x.kind cs ⟨r.op, r.stamp.epoch, r.key, r.val⟩).1, (bif (qgy r.stamp).2 then sends x (qgy r.stamp).1 (qfq x r.key r.val).1 (qfq x r.key r.val).2.1 else []), true)
    else ((qeN x.kind cs ⟨r.op, r.stamp.epoch, r.key, r.val⟩).1, sends x r.stamp (qfq x r.key r.val).1 (qfq x r.key r.val).2.1, true)
  else (cs, [], false)
end Go.Proofs.YtdanpadojemjeaaGreat
namespace Go.Proofs.YtdanpadojemjeaaGreat
open Go.Sx Go.RowKit
def qfr (g : Graph) (cs : List Cell) (r : Record) : List Cell × List Record × Bool := match qbr g r.op with | some x => ql9 g cs r x | none => (cs, [], false)
def qAl (g : Graph) (r : Record) (x : Node) : Bool := qav g && qaG r && x.kind == 7 && decide (0 < x.outs.length) && !(qgy r.stamp).2
def capped (g : Graph) (r : Record) : Bool := match qbr g r.op with | some x => qAl g r x | none => false
theorem qAm {g : Graph} (h : qav g = true) {op : Int} {x : Node} (hn : qbr g op = some x) : qab x = true := by
  simp only [qav, Bool.and_eq_true, Bool.not_eq_true'] at h
  unfold qbr at hn
  split at hn
  · have := qgb h.2 op.toNat x hn
    simp only [qa6, Bool.or_eq_false_iff, Bool.not_eq_false'] at this
    exact this.1.1
  · cases hn
theorem qAn {x : Node} (h : qab x = true) : x.outs.length ≤ 2 := by
  simp only [qab, Bool.and_eq_true, decide_eq_true_eq] at h
  exact h.1.1.1.2
theorem qAo (kind : Int) (cs : List Cell) (x : Cell) : (qeN kind cs x).1.length ≤ cs.length + 1 := by
  have h1 := qlM cs x
  have h2 := qlM (cs.filter fun a => !qiP x a) x
  have h3 := List.length_filter_le (fun a => !qiP x a) cs
  unfold qeN
  split
  · split <;> simp <;> omega
  · split
    · unfold ql8
      split <;> simp <;> omega
    · simp
theorem qAp {g : Graph} (hg : qav g = true) (cs : List Cell) (r : Record) : (qfr g cs r).1.length ≤ cs.length + 1 ∧ (qfr g cs r).2.1.length ≤ 2 := by
  unfold qfr
  cases h : qbr g r.op with
  | none => exact ⟨by simp, by simp⟩
  | some x =>
    have hx := qAn (qAm hg h)
    have hr := qAo x.kind cs ⟨r.op, r.stamp.epoch, r.key, r.val⟩
    have hs : ∀ s k v, (sends x s k v).length ≤ 2 := fun s k v => by simpa [sends] using hx
    simp only [ql9]
    split
    · split
      · exact ⟨by simp, by simp⟩
      · split
        · exact ⟨hr, by simp⟩
        · split
          · refine ⟨hr, ?_⟩
            cases (qgy r.stamp).2 with
            | true => exact hs _ _ _
            | false => simp
          · exact ⟨hr, hs _ _ _⟩
    · exact ⟨by simp, by simp⟩
end Go.Proofs.YtdanpadojemjeaaGreat
