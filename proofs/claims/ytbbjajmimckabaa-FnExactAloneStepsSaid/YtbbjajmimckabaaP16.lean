/- GraphOk, Changed, LeastOf: what program and reference compute (cases put together by gentree.py). -/
import Derived.Test.YtbbjajmimckabaaP15
set_option linter.unusedVariables false
set_option linter.unusedSimpArgs false
namespace Go.Proofs.Ytbbjajmimckabaa
open Go.Sx Go.RowKit

def kindAt (g : Graph) (k : Int) : Int := match g.nodes[k.toNat]? with | some y => y.kind | none => 0
def edgeBad (g : Graph) (i : Nat) (x : Node) (k : Int) : Bool :=
  decide ((g.nodes.length : Int) ≤ k) || (if x.kind = 7 then decide ((i : Int) < k) || (kindAt g k != 5 && kindAt g k != 6) else decide (k ≤ i))
def nodeBad (g : Graph) (i : Nat) (x : Node) : Bool := !nodeOk x || (decide (x.kind = 1) != decide ((i : Int) = 0)) || x.outs.any (edgeBad g i x)
def graphOk (g : Graph) : Bool := inR g.nodes.length 1 8 && inR g.workers 1 4 && inR g.cap 1 4 && !(anyI (nodeBad g) 0 g.nodes)
def changed (x : Node) (k v : Int) : Int × Int × Bool :=
  if nodeOk x && itemOk k v then
    if x.kind = 2 then (k, less (v + x.a) 999, true)
    else if x.kind = 4 then ((k + x.a).tmod 100, v, true)
    else if x.kind = 3 then (k, v, k.tmod x.a == x.b)
    else (k, v, x.kind != 8)
  else (k, v, false)

theorem okAll_mem {l : List Int} (h : okAll l = true) {k : Int} (hk : k ∈ l) : inR k 0 7 = true := by
  simp only [okAll, Bool.not_eq_true', List.any_eq_false] at h
  simpa using h k hk

theorem spec_GraphOk_round1 (g : Graph) (hg : g.sz ≤ 1048576) (i : Nat) (hi : i < 8) (x : Node) (hx : g.nodes[i]? = some x) (hok : nodeOk x = true) (j : Nat) (k : Int) (hk : x.outs[j]? = some k) (r : Bool) (hr : edgeBad g i x k = r) : Tr Try.prog (loopOf Try.f109 1) (spec_GraphOk_L1 i (g.nodes.map Node.e) g.workers g.cap x.kind x.a x.b (x.outs.map eI) (j : Int)) (bif r then .ret else .normal) (bif r then spec_GraphOk_X1 false else spec_GraphOk_L1 i (g.nodes.map Node.e) g.workers g.cap x.kind x.a x.b (x.outs.map eI) ((j + 1 : Nat) : Int)) := by
  have hj := lt_of hk
  have hl : x.outs.length ≤ 2 := by grind [nodeOk]
  have hk0 : inR k 0 7 = true := okAll_mem (by grind [nodeOk]) (mem_of hk)
  have hk1 : x.outs[(j : Int).toNat]? = some k := by simpa using hk
  have hj1 : decide ((j : Int) < (↑(x.outs.map eI).length : Int)) = true := lt1 hj
  rcases Bool.eq_false_or_eq_true (decide (k ≥ (↑(g.nodes.map Node.e).length : Int))) with h1 | h1
  · skip
    obtain rfl : r = true := by rw [← hr]; grind [edgeBad, kindAt, inR]
    exact spec_GraphOk_L1_x0 _ _ _ _ _ _ _ _ _ _ ⟨hj1, (by grind [inR, inInt, nodeOk]), (by grind [inR, inInt, nodeOk]), (at_mapN eI hk1), h1, trivial⟩
  · skip
    rcases Bool.eq_false_or_eq_true (x.kind != 7) with h2 | h2
    · skip
      rcases Bool.eq_false_or_eq_true (decide (k ≤ (i : Int))) with h3 | h3
      · skip
        obtain rfl : r = true := by rw [← hr]; grind [edgeBad, kindAt, inR]
        exact spec_GraphOk_L1_x1 _ _ _ _ _ _ _ _ _ _ ⟨hj1, (by grind [inR, inInt, nodeOk]), (by grind [inR, inInt, nodeOk]), (at_mapN eI hk1), h1, h2, h3, trivial⟩
      · skip
        obtain ⟨y4, hy4⟩ := look (xs := g.nodes) (i := k) (by grind [inR, inInt, nodeOk]) (by grind [inR, inInt, nodeOk])
        rcases Bool.eq_false_or_eq_true (x.kind == 7) with h5 | h5
        · skip
          rcases Bool.eq_false_or_eq_true (decide (k > (i : Int))) with h6 | h6
          · skip
            obtain rfl : r = true := by rw [← hr]; grind [edgeBad, kindAt, inR]
            exact spec_GraphOk_L1_x2 _ _ _ _ _ _ _ _ _ _ _ _ _ _ ⟨hj1, (by grind [inR, inInt, nodeOk]), (by grind [inR, inInt, nodeOk]), (at_mapN eI hk1), h1, h2, h3, (by grind [inR, inInt, nodeOk]), (by grind [inR, inInt, nodeOk]), (at_mapN Node.e hy4), h5, h6, trivial⟩
          · skip
            rcases Bool.eq_false_or_eq_true (y4.kind != 5) with h7 | h7
            · skip
              rcases Bool.eq_false_or_eq_true (y4.kind != 6) with h8 | h8
              · skip
                obtain rfl : r = true := by rw [← hr]; grind [edgeBad, kindAt, inR]
                exact spec_GraphOk_L1_x3 _ _ _ _ _ _ _ _ _ _ _ _ _ _ ⟨hj1, (by grind [inR, inInt, nodeOk]), (by grind [inR, inInt, nodeOk]), (at_mapN eI hk1), h1, h2, h3, (by grind [inR, inInt, nodeOk]), (by grind [inR, inInt, nodeOk]), (at_mapN Node.e hy4), h5, h6, h7, h8, trivial⟩
              · skip
                obtain rfl : r = false := by rw [← hr]; grind [edgeBad, kindAt, inR]
                exact spec_GraphOk_L1_s4 _ _ _ _ _ _ _ _ _ _ _ _ _ _ ⟨hj1, (by grind [inR, inInt, nodeOk]), (by grind [inR, inInt, nodeOk]), (at_mapN eI hk1), h1, h2, h3, (by grind [inR, inInt, nodeOk]), (by grind [inR, inInt, nodeOk]), (at_mapN Node.e hy4), h5, h6, h7, h8, (by grind [inR, inInt, nodeOk]), trivial⟩
            · skip
              obtain rfl : r = false := by rw [← hr]; grind [edgeBad, kindAt, inR]
              exact spec_GraphOk_L1_s5 _ _ _ _ _ _ _ _ _ _ _ _ _ _ ⟨hj1, (by grind [inR, inInt, nodeOk]), (by grind [inR, inInt, nodeOk]), (at_mapN eI hk1), h1, h2, h3, (by grind [inR, inInt, nodeOk]), (by grind [inR, inInt, nodeOk]), (at_mapN Node.e hy4), h5, h6, h7, (by grind [inR, inInt, nodeOk]), trivial⟩
        · skip
          obtain rfl : r = false := by rw [← hr]; grind [edgeBad, kindAt, inR]
          exact spec_GraphOk_L1_s6 _ _ _ _ _ _ _ _ _ _ _ _ _ _ ⟨hj1, (by grind [inR, inInt, nodeOk]), (by grind [inR, inInt, nodeOk]), (at_mapN eI hk1), h1, h2, h3, (by grind [inR, inInt, nodeOk]), (by grind [inR, inInt, nodeOk]), (at_mapN Node.e hy4), h5, (by grind [inR, inInt, nodeOk]), trivial⟩
    · skip
      obtain ⟨y9, hy9⟩ := look (xs := g.nodes) (i := k) (by grind [inR, inInt, nodeOk]) (by grind [inR, inInt, nodeOk])
      rcases Bool.eq_false_or_eq_true (x.kind == 7) with h10 | h10
      · skip
        rcases Bool.eq_false_or_eq_true (decide (k > (i : Int))) with h11 | h11
        · skip
          obtain rfl : r = true := by rw [← hr]; grind [edgeBad, kindAt, inR]
          exact spec_GraphOk_L1_x7 _ _ _ _ _ _ _ _ _ _ _ _ _ _ ⟨hj1, (by grind [inR, inInt, nodeOk]), (by grind [inR, inInt, nodeOk]), (at_mapN eI hk1), h1, h2, (by grind [inR, inInt, nodeOk]), (by grind [inR, inInt, nodeOk]), (at_mapN Node.e hy9), h10, h11, trivial⟩
        · skip
          rcases Bool.eq_false_or_eq_true (y9.kind != 5) with h12 | h12
          · skip
            rcases Bool.eq_false_or_eq_true (y9.kind != 6) with h13 | h13
            · skip
              obtain rfl : r = true := by rw [← hr]; grind [edgeBad, kindAt, inR]
              exact spec_GraphOk_L1_x8 _ _ _ _ _ _ _ _ _ _ _ _ _ _ ⟨hj1, (by grind [inR, inInt, nodeOk]), (by grind [inR, inInt, nodeOk]), (at_mapN eI hk1), h1, h2, (by grind [inR, inInt, nodeOk]), (by grind [inR, inInt, nodeOk]), (at_mapN Node.e hy9), h10, h11, h12, h13, trivial⟩
            · skip
              obtain rfl : r = false := by rw [← hr]; grind [edgeBad, kindAt, inR]
              exact spec_GraphOk_L1_s9 _ _ _ _ _ _ _ _ _ _ _ _ _ _ ⟨hj1, (by grind [inR, inInt, nodeOk]), (by grind [inR, inInt, nodeOk]), (at_mapN eI hk1), h1, h2, (by grind [inR, inInt, nodeOk]), (by grind [inR, inInt, nodeOk]), (at_mapN Node.e hy9), h10, h11, h12, h13, (by grind [inR, inInt, nodeOk]), trivial⟩
          · skip
            obtain rfl : r = false := by rw [← hr]; grind [edgeBad, kindAt, inR]
            exact spec_GraphOk_L1_s10 _ _ _ _ _ _ _ _ _ _ _ _ _ _ ⟨hj1, (by grind [inR, inInt, nodeOk]), (by grind [inR, inInt, nodeOk]), (at_mapN eI hk1), h1, h2, (by grind [inR, inInt, nodeOk]), (by grind [inR, inInt, nodeOk]), (at_mapN Node.e hy9), h10, h11, h12, (by grind [inR, inInt, nodeOk]), trivial⟩
      · skip
        obtain rfl : r = false := by rw [← hr]; grind [edgeBad, kindAt, inR]
        exact spec_GraphOk_L1_s11 _ _ _ _ _ _ _ _ _ _ _ _ _ _ ⟨hj1, (by grind [inR, inInt, nodeOk]), (by grind [inR, inInt, nodeOk]), (at_mapN eI hk1), h1, h2, (by grind [inR, inInt, nodeOk]), (by grind [inR, inInt, nodeOk]), (at_mapN Node.e hy9), h10, (by grind [inR, inInt, nodeOk]), trivial⟩

theorem impl_GraphOk_round1 (g : Graph) (hg : g.sz ≤ 1048576) (i : Nat) (hi : i < 8) (x : Node) (hx : g.nodes[i]? = some x) (hok : nodeOk x = true) (j : Nat) (k : Int) (hk : x.outs[j]? = some k) (r : Bool) (hr : edgeBad g i x k = r) : Tr Try.prog (loopOf Try.f115 1) (impl_GraphOk_L1 (g.nodes.map Node.e) i (g.nodes.map Node.e) g.workers g.cap x.kind x.a x.b (x.outs.map eI) (j : Int)) (bif r then .ret else .normal) (bif r then impl_GraphOk_X1 false else impl_GraphOk_L1 (g.nodes.map Node.e) i (g.nodes.map Node.e) g.workers g.cap x.kind x.a x.b (x.outs.map eI) ((j + 1 : Nat) : Int)) := by
  have hj := lt_of hk
  have hl : x.outs.length ≤ 2 := by grind [nodeOk]
  have hk0 : inR k 0 7 = true := okAll_mem (by grind [nodeOk]) (mem_of hk)
  have hk1 : x.outs[(j : Int).toNat]? = some k := by simpa using hk
  have hj1 : decide ((j : Int) < (↑(x.outs.map eI).length : Int)) = true := lt1 hj
  rcases Bool.eq_false_or_eq_true (decide (k ≥ (↑(g.nodes.map Node.e).length : Int))) with h1 | h1
  · skip
    obtain rfl : r = true := by rw [← hr]; grind [edgeBad, kindAt, inR]
    exact impl_GraphOk_L1_x0 _ _ _ _ _ _ _ _ _ _ _ ⟨hj1, (by grind [inR, inInt, nodeOk]), (by grind [inR, inInt, nodeOk]), (at_mapN eI hk1), h1, trivial⟩
  · skip
    obtain ⟨y2, hy2⟩ := look (xs := g.nodes) (i := k) (by grind [inR, inInt, nodeOk]) (by grind [inR, inInt, nodeOk])
    rcases Bool.eq_false_or_eq_true (x.kind == 7) with h3 | h3
    · skip
      rcases Bool.eq_false_or_eq_true (decide (k > (i : Int))) with h4 | h4
      · skip
        obtain rfl : r = true := by rw [← hr]; grind [edgeBad, kindAt, inR]
        exact impl_GraphOk_L1_x1 _ _ _ _ _ _ _ _ _ _ _ _ _ _ _ ⟨hj1, (by grind [inR, inInt, nodeOk]), (by grind [inR, inInt, nodeOk]), (at_mapN eI hk1), h1, (by grind [inR, inInt, nodeOk]), (by grind [inR, inInt, nodeOk]), (at_mapN Node.e hy2), h3, h4, trivial⟩
      · skip
        rcases Bool.eq_false_or_eq_true (y2.kind != 5) with h5 | h5
        · skip
          rcases Bool.eq_false_or_eq_true (y2.kind != 6) with h6 | h6
          · skip
            obtain rfl : r = true := by rw [← hr]; grind [edgeBad, kindAt, inR]
            exact impl_GraphOk_L1_x2 _ _ _ _ _ _ _ _ _ _ _ _ _ _ _ ⟨hj1, (by grind [inR, inInt, nodeOk]), (by grind [inR, inInt, nodeOk]), (at_mapN eI hk1), h1, (by grind [inR, inInt, nodeOk]), (by grind [inR, inInt, nodeOk]), (at_mapN Node.e hy2), h3, h4, h5, h6, trivial⟩
          · skip
            rcases Bool.eq_false_or_eq_true (x.kind != 7) with h7 | h7
            · skip
              rcases Bool.eq_false_or_eq_true (decide (k ≤ (i : Int))) with h8 | h8
              · skip
                obtain rfl : r = true := by rw [← hr]; grind [edgeBad, kindAt, inR]
                exact impl_GraphOk_L1_x3 _ _ _ _ _ _ _ _ _ _ _ _ _ _ _ ⟨hj1, (by grind [inR, inInt, nodeOk]), (by grind [inR, inInt, nodeOk]), (at_mapN eI hk1), h1, (by grind [inR, inInt, nodeOk]), (by grind [inR, inInt, nodeOk]), (at_mapN Node.e hy2), h3, h4, h5, h6, h7, h8, trivial⟩
              · skip
                obtain rfl : r = false := by rw [← hr]; grind [edgeBad, kindAt, inR]
                exact impl_GraphOk_L1_s4 _ _ _ _ _ _ _ _ _ _ _ _ _ _ _ ⟨hj1, (by grind [inR, inInt, nodeOk]), (by grind [inR, inInt, nodeOk]), (at_mapN eI hk1), h1, (by grind [inR, inInt, nodeOk]), (by grind [inR, inInt, nodeOk]), (at_mapN Node.e hy2), h3, h4, h5, h6, h7, h8, (by grind [inR, inInt, nodeOk]), trivial⟩
            · skip
              obtain rfl : r = false := by rw [← hr]; grind [edgeBad, kindAt, inR]
              exact impl_GraphOk_L1_s5 _ _ _ _ _ _ _ _ _ _ _ _ _ _ _ ⟨hj1, (by grind [inR, inInt, nodeOk]), (by grind [inR, inInt, nodeOk]), (at_mapN eI hk1), h1, (by grind [inR, inInt, nodeOk]), (by grind [inR, inInt, nodeOk]), (at_mapN Node.e hy2), h3, h4, h5, h6, h7, (by grind [inR, inInt, nodeOk]), trivial⟩
        · skip
          rcases Bool.eq_false_or_eq_true (x.kind != 7) with h9 | h9
          · skip
            rcases Bool.eq_false_or_eq_true (decide (k ≤ (i : Int))) with h10 | h10
            · skip
              obtain rfl : r = true := by rw [← hr]; grind [edgeBad, kindAt, inR]
              exact impl_GraphOk_L1_x6 _ _ _ _ _ _ _ _ _ _ _ _ _ _ _ ⟨hj1, (by grind [inR, inInt, nodeOk]), (by grind [inR, inInt, nodeOk]), (at_mapN eI hk1), h1, (by grind [inR, inInt, nodeOk]), (by grind [inR, inInt, nodeOk]), (at_mapN Node.e hy2), h3, h4, h5, h9, h10, trivial⟩
            · skip
              obtain rfl : r = false := by rw [← hr]; grind [edgeBad, kindAt, inR]
              exact impl_GraphOk_L1_s7 _ _ _ _ _ _ _ _ _ _ _ _ _ _ _ ⟨hj1, (by grind [inR, inInt, nodeOk]), (by grind [inR, inInt, nodeOk]), (at_mapN eI hk1), h1, (by grind [inR, inInt, nodeOk]), (by grind [inR, inInt, nodeOk]), (at_mapN Node.e hy2), h3, h4, h5, h9, h10, (by grind [inR, inInt, nodeOk]), trivial⟩
          · skip
            obtain rfl : r = false := by rw [← hr]; grind [edgeBad, kindAt, inR]
            exact impl_GraphOk_L1_s8 _ _ _ _ _ _ _ _ _ _ _ _ _ _ _ ⟨hj1, (by grind [inR, inInt, nodeOk]), (by grind [inR, inInt, nodeOk]), (at_mapN eI hk1), h1, (by grind [inR, inInt, nodeOk]), (by grind [inR, inInt, nodeOk]), (at_mapN Node.e hy2), h3, h4, h5, h9, (by grind [inR, inInt, nodeOk]), trivial⟩
    · skip
      rcases Bool.eq_false_or_eq_true (x.kind != 7) with h11 | h11
      · skip
        rcases Bool.eq_false_or_eq_true (decide (k ≤ (i : Int))) with h12 | h12
        · skip
          obtain rfl : r = true := by rw [← hr]; grind [edgeBad, kindAt, inR]
          exact impl_GraphOk_L1_x9 _ _ _ _ _ _ _ _ _ _ _ _ _ _ _ ⟨hj1, (by grind [inR, inInt, nodeOk]), (by grind [inR, inInt, nodeOk]), (at_mapN eI hk1), h1, (by grind [inR, inInt, nodeOk]), (by grind [inR, inInt, nodeOk]), (at_mapN Node.e hy2), h3, h11, h12, trivial⟩
        · skip
          obtain rfl : r = false := by rw [← hr]; grind [edgeBad, kindAt, inR]
          exact impl_GraphOk_L1_s10 _ _ _ _ _ _ _ _ _ _ _ _ _ _ _ ⟨hj1, (by grind [inR, inInt, nodeOk]), (by grind [inR, inInt, nodeOk]), (at_mapN eI hk1), h1, (by grind [inR, inInt, nodeOk]), (by grind [inR, inInt, nodeOk]), (at_mapN Node.e hy2), h3, h11, h12, (by grind [inR, inInt, nodeOk]), trivial⟩
      · skip
        obtain rfl : r = false := by rw [← hr]; grind [edgeBad, kindAt, inR]
        exact impl_GraphOk_L1_s11 _ _ _ _ _ _ _ _ _ _ _ _ _ _ _ ⟨hj1, (by grind [inR, inInt, nodeOk]), (by grind [inR, inInt, nodeOk]), (at_mapN eI hk1), h1, (by grind [inR, inInt, nodeOk]), (by grind [inR, inInt, nodeOk]), (at_mapN Node.e hy2), h3, h11, (by grind [inR, inInt, nodeOk]), trivial⟩

theorem spec_GraphOk_inner (g : Graph) (hg : g.sz ≤ 1048576) (i : Nat) (hi : i < 8) (x : Node) (hx : g.nodes[i]? = some x) (hok : nodeOk x = true) :
    (x.outs.any (edgeBad g i x) = true ∧ LoopOk Try.prog (loopOf Try.f109 1) (spec_GraphOk_L1 i (g.nodes.map Node.e) g.workers g.cap x.kind x.a x.b (x.outs.map eI) 0) .ret (spec_GraphOk_X1 false)) ∨ (x.outs.any (edgeBad g i x) = false ∧ LoopOk Try.prog (loopOf Try.f109 1) (spec_GraphOk_L1 i (g.nodes.map Node.e) g.workers g.cap x.kind x.a x.b (x.outs.map eI) 0) (.exit 2) (spec_GraphOk_X1v4 i (g.nodes.map Node.e) g.workers g.cap)) := by
  have l := loop_scan (P := Try.prog) (c := (loopOf Try.f109 1)) x.outs (edgeBad g i x) (fun j => spec_GraphOk_L1 i (g.nodes.map Node.e) g.workers g.cap x.kind x.a x.b (x.outs.map eI) j) (X := fun _ _ => spec_GraphOk_X1 false) ret_ne (exit_ne 2)
    (fun j k hk h => spec_GraphOk_round1 g hg i hi x hx hok j k hk false h)
    (fun j k hk h => spec_GraphOk_round1 g hg i hi x hx hok j k hk true h)
    (spec_GraphOk_L1_x12 _ _ _ _ _ _ _ _ _ ⟨ge1, trivial⟩)
  rcases l with ⟨_, _, h1, h2⟩ | ⟨j, k, _, _, _, _, h1, h2⟩
  · exact .inr ⟨h1, h2⟩
  · exact .inl ⟨h1, h2⟩

theorem impl_GraphOk_inner (g : Graph) (hg : g.sz ≤ 1048576) (i : Nat) (hi : i < 8) (x : Node) (hx : g.nodes[i]? = some x) (hok : nodeOk x = true) :
    (x.outs.any (edgeBad g i x) = true ∧ LoopOk Try.prog (loopOf Try.f115 1) (impl_GraphOk_L1 (g.nodes.map Node.e) i (g.nodes.map Node.e) g.workers g.cap x.kind x.a x.b (x.outs.map eI) 0) .ret (impl_GraphOk_X1 false)) ∨ (x.outs.any (edgeBad g i x) = false ∧ LoopOk Try.prog (loopOf Try.f115 1) (impl_GraphOk_L1 (g.nodes.map Node.e) i (g.nodes.map Node.e) g.workers g.cap x.kind x.a x.b (x.outs.map eI) 0) (.exit 2) (impl_GraphOk_X1v4 (g.nodes.map Node.e) i (g.nodes.map Node.e) g.workers g.cap)) := by
  have l := loop_scan (P := Try.prog) (c := (loopOf Try.f115 1)) x.outs (edgeBad g i x) (fun j => impl_GraphOk_L1 (g.nodes.map Node.e) i (g.nodes.map Node.e) g.workers g.cap x.kind x.a x.b (x.outs.map eI) j) (X := fun _ _ => impl_GraphOk_X1 false) ret_ne (exit_ne 2)
    (fun j k hk h => impl_GraphOk_round1 g hg i hi x hx hok j k hk false h)
    (fun j k hk h => impl_GraphOk_round1 g hg i hi x hx hok j k hk true h)
    (impl_GraphOk_L1_x12 _ _ _ _ _ _ _ _ _ _ ⟨ge1, trivial⟩)
  rcases l with ⟨_, _, h1, h2⟩ | ⟨j, k, _, _, _, _, h1, h2⟩
  · exact .inr ⟨h1, h2⟩
  · exact .inl ⟨h1, h2⟩

theorem spec_GraphOk_round0 (g : Graph) (hg : g.sz ≤ 1048576) (i : Nat) (hi : i < 8) (x : Node) (hx : g.nodes[i]? = some x) (r : Bool) (hr : nodeBad g i x = r) : Tr Try.prog (loopOf Try.f109 0) (spec_GraphOk_L0 ((i : Nat) : Int) (g.nodes.map Node.e) g.workers g.cap) (bif r then .ret else .normal) (bif r then spec_GraphOk_X0 false else spec_GraphOk_L0 ((i + 1 : Nat) : Int) (g.nodes.map Node.e) g.workers g.cap) := by
  have hj := lt_of hx
  have ho := Graph.outs_le hg (mem_of hx)
  have hk1 : g.nodes[(i : Int).toNat]? = some x := by simpa using hx
  have hj1 : decide ((i : Int) < (↑(g.nodes.map Node.e).length : Int)) = true := lt1 hj
  have c1 := spec_NodeOk_ret x (by grind)
  rcases Bool.eq_false_or_eq_true (nodeOk x) with h2 | h2
  · skip
    rcases Bool.eq_false_or_eq_true ((x.kind == 1) == ((i : Int) == 0)) with h3 | h3
    · skip
      rcases spec_GraphOk_inner g hg i hi x hx (by grind) with ⟨hL, l⟩ | ⟨hL, l⟩
      · skip
        obtain rfl : r = true := by rw [← hr]; grind [nodeBad]
        exact spec_GraphOk_L0_x2 _ _ _ _ _ _ _ _ _ _ ⟨hj1, (by grind [inR, inInt, nodeOk]), (by grind [inR, inInt, nodeOk]), (at_mapN Node.e hk1), c1, (by rw [h2]; rfl), (by rw [h3]; rfl), l, trivial⟩
      · skip
        obtain rfl : r = false := by rw [← hr]; grind [nodeBad]
        exact spec_GraphOk_L0_s3 _ _ _ _ _ _ _ _ _ ⟨hj1, (by grind [inR, inInt, nodeOk]), (by grind [inR, inInt, nodeOk]), (at_mapN Node.e hk1), c1, (by rw [h2]; rfl), (by rw [h3]; rfl), l, (by grind [inR, inInt, nodeOk]), trivial⟩
    · skip
      obtain rfl : r = true := by rw [← hr]; grind [nodeBad]
      exact spec_GraphOk_L0_x1 _ _ _ _ _ _ _ _ _ ⟨hj1, (by grind [inR, inInt, nodeOk]), (by grind [inR, inInt, nodeOk]), (at_mapN Node.e hk1), c1, (by rw [h2]; rfl), (by rw [h3]; rfl), trivial⟩
  · skip
    obtain rfl : r = true := by rw [← hr]; grind [nodeBad]
    exact spec_GraphOk_L0_x0 _ _ _ _ _ _ _ _ _ ⟨hj1, (by grind [inR, inInt, nodeOk]), (by grind [inR, inInt, nodeOk]), (at_mapN Node.e hk1), c1, (by rw [h2]; rfl), trivial⟩

theorem impl_GraphOk_round0 (g : Graph) (hg : g.sz ≤ 1048576) (i : Nat) (hi : i < 8) (x : Node) (hx : g.nodes[i]? = some x) (r : Bool) (hr : nodeBad g i x = r) : Tr Try.prog (loopOf Try.f115 0) (impl_GraphOk_L0 (g.nodes.map Node.e) ((i : Nat) : Int) (g.nodes.map Node.e) g.workers g.cap) (bif r then .ret else .normal) (bif r then impl_GraphOk_X0 false else impl_GraphOk_L0 (g.nodes.map Node.e) ((i + 1 : Nat) : Int) (g.nodes.map Node.e) g.workers g.cap) := by
  have hj := lt_of hx
  have ho := Graph.outs_le hg (mem_of hx)
  have hk1 : g.nodes[(i : Int).toNat]? = some x := by simpa using hx
  have hj1 : decide ((i : Int) < (↑(g.nodes.map Node.e).length : Int)) = true := lt1 hj
  have c1 := impl_NodeOk_ret x (by grind)
  rcases Bool.eq_false_or_eq_true (nodeOk x) with h2 | h2
  · skip
    rcases Bool.eq_false_or_eq_true ((x.kind == 1) == ((i : Int) == 0)) with h3 | h3
    · skip
      rcases impl_GraphOk_inner g hg i hi x hx (by grind) with ⟨hL, l⟩ | ⟨hL, l⟩
      · skip
        obtain rfl : r = true := by rw [← hr]; grind [nodeBad]
        exact impl_GraphOk_L0_x2 _ _ _ _ _ _ _ _ _ _ _ ⟨hj1, (by grind [inR, inInt, nodeOk]), (by grind [inR, inInt, nodeOk]), (at_mapN Node.e hk1), c1, (by rw [h2]; rfl), (by rw [h3]; rfl), l, trivial⟩
      · skip
        obtain rfl : r = false := by rw [← hr]; grind [nodeBad]
        exact impl_GraphOk_L0_s3 _ _ _ _ _ _ _ _ _ _ ⟨hj1, (by grind [inR, inInt, nodeOk]), (by grind [inR, inInt, nodeOk]), (at_mapN Node.e hk1), c1, (by rw [h2]; rfl), (by rw [h3]; rfl), l, (by grind [inR, inInt, nodeOk]), trivial⟩
    · skip
      obtain rfl : r = true := by rw [← hr]; grind [nodeBad]
      exact impl_GraphOk_L0_x1 _ _ _ _ _ _ _ _ _ _ ⟨hj1, (by grind [inR, inInt, nodeOk]), (by grind [inR, inInt, nodeOk]), (at_mapN Node.e hk1), c1, (by rw [h2]; rfl), (by rw [h3]; rfl), trivial⟩
  · skip
    obtain rfl : r = true := by rw [← hr]; grind [nodeBad]
    exact impl_GraphOk_L0_x0 _ _ _ _ _ _ _ _ _ _ ⟨hj1, (by grind [inR, inInt, nodeOk]), (by grind [inR, inInt, nodeOk]), (at_mapN Node.e hk1), c1, (by rw [h2]; rfl), trivial⟩

theorem spec_GraphOk_outer (g : Graph) (hg : g.sz ≤ 1048576) (h8 : g.nodes.length ≤ 8) :
    (anyI (nodeBad g) 0 g.nodes = true ∧ LoopOk Try.prog (loopOf Try.f109 0) (spec_GraphOk_L0 0 (g.nodes.map Node.e) g.workers g.cap) .ret (spec_GraphOk_X0 false)) ∨ (anyI (nodeBad g) 0 g.nodes = false ∧ LoopOk Try.prog (loopOf Try.f109 0) (spec_GraphOk_L0 0 (g.nodes.map Node.e) g.workers g.cap) (.exit 0) spec_GraphOk_X0v5) := by
  have l := loop_anyI (P := Try.prog) (c := (loopOf Try.f109 0)) g.nodes (nodeBad g) (fun i => spec_GraphOk_L0 (i : Nat) (g.nodes.map Node.e) g.workers g.cap) (X := spec_GraphOk_X0 false) ret_ne (exit_ne 0)
    (fun i x hx h => spec_GraphOk_round0 g hg i (by have := lt_of hx; omega) x hx false h)
    (fun i x hx h => spec_GraphOk_round0 g hg i (by have := lt_of hx; omega) x hx true h)
    (spec_GraphOk_L0_x4 _ _ _ _ ⟨ge1, trivial⟩)
  rcases l with ⟨h1, h2⟩ | ⟨h1, h2⟩
  · exact .inr ⟨h1, h2⟩
  · exact .inl ⟨h1, h2⟩

theorem impl_GraphOk_outer (g : Graph) (hg : g.sz ≤ 1048576) (h8 : g.nodes.length ≤ 8) :
    (anyI (nodeBad g) 0 g.nodes = true ∧ LoopOk Try.prog (loopOf Try.f115 0) (impl_GraphOk_L0 (g.nodes.map Node.e) 0 (g.nodes.map Node.e) g.workers g.cap) .ret (impl_GraphOk_X0 false)) ∨ (anyI (nodeBad g) 0 g.nodes = false ∧ LoopOk Try.prog (loopOf Try.f115 0) (impl_GraphOk_L0 (g.nodes.map Node.e) 0 (g.nodes.map Node.e) g.workers g.cap) (.exit 0) impl_GraphOk_X0v5) := by
  have l := loop_anyI (P := Try.prog) (c := (loopOf Try.f115 0)) g.nodes (nodeBad g) (fun i => impl_GraphOk_L0 (g.nodes.map Node.e) (i : Nat) (g.nodes.map Node.e) g.workers g.cap) (X := impl_GraphOk_X0 false) ret_ne (exit_ne 0)
    (fun i x hx h => impl_GraphOk_round0 g hg i (by have := lt_of hx; omega) x hx false h)
    (fun i x hx h => impl_GraphOk_round0 g hg i (by have := lt_of hx; omega) x hx true h)
    (impl_GraphOk_L0_x4 _ _ _ _ _ ⟨ge1, trivial⟩)
  rcases l with ⟨h1, h2⟩ | ⟨h1, h2⟩
  · exact .inr ⟨h1, h2⟩
  · exact .inl ⟨h1, h2⟩

theorem spec_GraphOk_ret (g : Graph) (hg : g.sz ≤ 1048576) : Ret Try.prog 109 [.agg g.e] [.one (B (graphOk g))] := by
  have c1 := spec_l01In_ret (↑(g.nodes.map Node.e).length : Int) 1 8
  rcases Bool.eq_false_or_eq_true (inR (↑(g.nodes.map Node.e).length : Int) 1 8) with h2 | h2
  · skip
    have c3 := spec_l01In_ret g.workers 1 4
    rcases Bool.eq_false_or_eq_true (inR g.workers 1 4) with h4 | h4
    · skip
      have c5 := spec_l01In_ret g.cap 1 4
      rcases Bool.eq_false_or_eq_true (inR g.cap 1 4) with h6 | h6
      · skip
        rcases spec_GraphOk_outer g hg (by grind [inR]) with ⟨hL, l⟩ | ⟨hL, l⟩
        · skip
          rw [show graphOk g = false from by grind [graphOk]]
          exact spec_GraphOk_p3 _ _ _ _ _ _ _ ⟨c1, (by rw [h2]; rfl), c3, (by rw [h4]; rfl), c5, (by rw [h6]; rfl), l, trivial⟩
        · skip
          rw [show graphOk g = true from by grind [graphOk]]
          exact spec_GraphOk_p4 _ _ _ _ _ _ ⟨c1, (by rw [h2]; rfl), c3, (by rw [h4]; rfl), c5, (by rw [h6]; rfl), l, trivial⟩
      · skip
        rw [show graphOk g = false from by grind [graphOk]]
        exact spec_GraphOk_p2 _ _ _ _ _ _ ⟨c1, (by rw [h2]; rfl), c3, (by rw [h4]; rfl), c5, (by rw [h6]; rfl), trivial⟩
    · skip
      rw [show graphOk g = false from by grind [graphOk]]
      exact spec_GraphOk_p1 _ _ _ _ _ ⟨c1, (by rw [h2]; rfl), c3, (by rw [h4]; rfl), trivial⟩
  · skip
    rw [show graphOk g = false from by grind [graphOk]]
    exact spec_GraphOk_p0 _ _ _ _ ⟨c1, (by rw [h2]; rfl), trivial⟩

theorem impl_GraphOk_ret (g : Graph) (hg : g.sz ≤ 1048576) : Ret Try.prog 115 [.agg g.e] [.one (B (graphOk g))] := by
  have c1 := impl_within_ret (↑(g.nodes.map Node.e).length : Int) 1 8
  rcases Bool.eq_false_or_eq_true (inR (↑(g.nodes.map Node.e).length : Int) 1 8) with h2 | h2
  · skip
    have c3 := impl_within_ret g.workers 1 4
    rcases Bool.eq_false_or_eq_true (inR g.workers 1 4) with h4 | h4
    · skip
      have c5 := impl_within_ret g.cap 1 4
      rcases Bool.eq_false_or_eq_true (inR g.cap 1 4) with h6 | h6
      · skip
        rcases impl_GraphOk_outer g hg (by grind [inR]) with ⟨hL, l⟩ | ⟨hL, l⟩
        · skip
          rw [show graphOk g = false from by grind [graphOk]]
          exact impl_GraphOk_p3 _ _ _ _ _ _ _ ⟨c1, (by rw [h2]; rfl), c3, (by rw [h4]; rfl), c5, (by rw [h6]; rfl), l, trivial⟩
        · skip
          rw [show graphOk g = true from by grind [graphOk]]
          exact impl_GraphOk_p4 _ _ _ _ _ _ ⟨c1, (by rw [h2]; rfl), c3, (by rw [h4]; rfl), c5, (by rw [h6]; rfl), l, trivial⟩
      · skip
        rw [show graphOk g = false from by grind [graphOk]]
        exact impl_GraphOk_p2 _ _ _ _ _ _ ⟨c1, (by rw [h2]; rfl), c3, (by rw [h4]; rfl), c5, (by rw [h6]; rfl), trivial⟩
    · skip
      rw [show graphOk g = false from by grind [graphOk]]
      exact impl_GraphOk_p1 _ _ _ _ _ ⟨c1, (by rw [h2]; rfl), c3, (by rw [h4]; rfl), trivial⟩
  · skip
    rw [show graphOk g = false from by grind [graphOk]]
    exact impl_GraphOk_p0 _ _ _ _ ⟨c1, (by rw [h2]; rfl), trivial⟩

theorem spec_Changed_ret (x : Node) (k v : Int) (hx : x.outs.length ≤ 1048576) : Ret Try.prog 138 [.agg x.e, .one (I k), .one (I v)] [.one (I ((changed x k v).1)), .one (I ((changed x k v).2.1)), .one (B ((changed x k v).2.2))] := by
  have c1 := spec_NodeOk_ret x (by grind)
  rcases Bool.eq_false_or_eq_true (nodeOk x) with h2 | h2
  · skip
    have c3 := spec_l01In_ret k 0 99
    rcases Bool.eq_false_or_eq_true (inR k 0 99) with h4 | h4
    · skip
      have c5 := spec_l01In_ret v 0 999
      rcases Bool.eq_false_or_eq_true (inR v 0 999) with h6 | h6
      · skip
        rcases Bool.eq_false_or_eq_true (x.kind == 2) with h7 | h7
        · skip
          have c8 := spec_l02Less_ret (v + x.a) 999
          rw [show changed x k v = (k, less (v + x.a) 999, true) from by grind [changed, itemOk, less, nodeOk, abOk]]
          exact spec_Changed_p3 _ _ _ _ _ _ _ _ _ _ ⟨c1, (by rw [h2]; rfl), c3, (by rw [h4]; rfl), c5, (by rw [h6]; rfl), h7, (by grind [nodeOk, abOk, inR, inInt, itemOk]), c8, trivial⟩
        · skip
          rcases Bool.eq_false_or_eq_true (x.kind == 4) with h9 | h9
          · skip
            rw [show changed x k v = ((k + x.a).tmod 100, v, true) from by grind [changed, itemOk, less, nodeOk, abOk]]
            exact spec_Changed_p4 _ _ _ _ _ _ _ _ _ ⟨c1, (by rw [h2]; rfl), c3, (by rw [h4]; rfl), c5, (by rw [h6]; rfl), h7, h9, (by grind [nodeOk, abOk, inR, inInt, itemOk]), (by grind [nodeOk, abOk, inR, inInt, itemOk]), trivial⟩
          · skip
            rcases Bool.eq_false_or_eq_true (x.kind == 3) with h10 | h10
            · skip
              rw [show changed x k v = (k, v, k.tmod x.a == x.b) from by grind [changed, itemOk, less, nodeOk, abOk]]
              exact spec_Changed_p5 _ _ _ _ _ _ _ _ _ ⟨c1, (by rw [h2]; rfl), c3, (by rw [h4]; rfl), c5, (by rw [h6]; rfl), h7, h9, h10, (by grind [nodeOk, abOk, inR, inInt, itemOk]), trivial⟩
            · skip
              rw [show changed x k v = (k, v, x.kind != 8) from by grind [changed, itemOk, less, nodeOk, abOk]]
              exact spec_Changed_p6 _ _ _ _ _ _ _ _ _ ⟨c1, (by rw [h2]; rfl), c3, (by rw [h4]; rfl), c5, (by rw [h6]; rfl), h7, h9, h10, trivial⟩
      · skip
        rw [show changed x k v = (k, v, false) from by grind [changed, itemOk, less, nodeOk, abOk]]
        exact spec_Changed_p2 _ _ _ _ _ _ _ _ _ ⟨c1, (by rw [h2]; rfl), c3, (by rw [h4]; rfl), c5, (by rw [h6]; rfl), trivial⟩
    · skip
      rw [show changed x k v = (k, v, false) from by grind [changed, itemOk, less, nodeOk, abOk]]
      exact spec_Changed_p1 _ _ _ _ _ _ _ _ ⟨c1, (by rw [h2]; rfl), c3, (by rw [h4]; rfl), trivial⟩
  · skip
    rw [show changed x k v = (k, v, false) from by grind [changed, itemOk, less, nodeOk, abOk]]
    exact spec_Changed_p0 _ _ _ _ _ _ _ ⟨c1, (by rw [h2]; rfl), trivial⟩

theorem impl_Changed_ret (x : Node) (k v : Int) (hx : x.outs.length ≤ 1048576) : Ret Try.prog 144 [.agg x.e, .one (I k), .one (I v)] [.one (I ((changed x k v).1)), .one (I ((changed x k v).2.1)), .one (B ((changed x k v).2.2))] := by
  have c1 := impl_NodeOk_ret x (by grind)
  rcases Bool.eq_false_or_eq_true (nodeOk x) with h2 | h2
  · skip
    have c3 := impl_itemOk_ret k v
    rcases Bool.eq_false_or_eq_true (itemOk k v) with h4 | h4
    · skip
      rcases Bool.eq_false_or_eq_true (x.kind == 2) with h5 | h5
      · skip
        rw [show changed x k v = (k, if v + x.a < 999 then v + x.a else 999, true) from by grind [changed, itemOk, less, nodeOk, abOk]]
        exact impl_Changed_p2 _ _ _ _ _ _ _ _ ⟨c1, (by rw [h2]; rfl), c3, (by rw [h4]; rfl), h5, (by grind [nodeOk, abOk, inR, inInt, itemOk]), trivial⟩
      · skip
        rcases Bool.eq_false_or_eq_true (x.kind == 4) with h6 | h6
        · skip
          rw [show changed x k v = ((k + x.a).tmod 100, v, true) from by grind [changed, itemOk, less, nodeOk, abOk]]
          exact impl_Changed_p3 _ _ _ _ _ _ _ _ ⟨c1, (by rw [h2]; rfl), c3, (by rw [h4]; rfl), h5, h6, (by grind [nodeOk, abOk, inR, inInt, itemOk]), (by grind [nodeOk, abOk, inR, inInt, itemOk]), trivial⟩
        · skip
          rcases Bool.eq_false_or_eq_true (x.kind == 3) with h7 | h7
          · skip
            rw [show changed x k v = (k, v, k.tmod x.a == x.b) from by grind [changed, itemOk, less, nodeOk, abOk]]
            exact impl_Changed_p4 _ _ _ _ _ _ _ _ ⟨c1, (by rw [h2]; rfl), c3, (by rw [h4]; rfl), h5, h6, h7, (by grind [nodeOk, abOk, inR, inInt, itemOk]), trivial⟩
          · skip
            rw [show changed x k v = (k, v, x.kind != 8) from by grind [changed, itemOk, less, nodeOk, abOk]]
            exact impl_Changed_p5 _ _ _ _ _ _ _ _ ⟨c1, (by rw [h2]; rfl), c3, (by rw [h4]; rfl), h5, h6, h7, trivial⟩
    · skip
      rw [show changed x k v = (k, v, false) from by grind [changed, itemOk, less, nodeOk, abOk]]
      exact impl_Changed_p1 _ _ _ _ _ _ _ _ ⟨c1, (by rw [h2]; rfl), c3, (by rw [h4]; rfl), trivial⟩
  · skip
    rw [show changed x k v = (k, v, false) from by grind [changed, itemOk, less, nodeOk, abOk]]
    exact impl_Changed_p0 _ _ _ _ _ _ _ ⟨c1, (by rw [h2]; rfl), trivial⟩

/-! ### LeastOf -/
def sameSlot (a b : Cell) : Bool := a.op == b.op && a.epoch == b.epoch && a.key == b.key
def leastStep (op ep key : Int) (s : Int × Bool) (a : Cell) : Int × Bool := if a.op = op ∧ a.epoch = ep ∧ a.key = key ∧ (s.2 = false ∨ a.val < s.1) then (a.val, true) else s
def leastOf (xs : List Cell) (op ep key : Int) : Int × Bool := xs.foldl (leastStep op ep key) (0, false)

theorem impl_sameSlot_ret (a b : Cell) : Ret Try.prog 161 [.agg a.e, .agg b.e] [.one (B (sameSlot a b))] := by
  rcases Bool.eq_false_or_eq_true (a.op == b.op) with h1 | h1
  · skip
    rcases Bool.eq_false_or_eq_true (a.epoch == b.epoch) with h2 | h2
    · skip
      rw [show sameSlot a b = (a.key == b.key) from by grind [sameSlot]]
      exact impl_sameSlot_p0 _ _ _ _ _ _ _ _ ⟨h1, h2, trivial⟩
    · skip
      rw [show sameSlot a b = false from by grind [sameSlot]]
      exact impl_sameSlot_p1 _ _ _ _ _ _ _ _ ⟨h1, h2, trivial⟩
  · skip
    rw [show sameSlot a b = false from by grind [sameSlot]]
    exact impl_sameSlot_p2 _ _ _ _ _ _ _ _ ⟨h1, trivial⟩

theorem spec_LeastOf_round (xs : List Cell) (hl : xs.length ≤ 1048576) (op ep key m : Int) (f : Bool) (i : Nat) (a : Cell) (ha : xs[i]? = some a) : Tr Try.prog (loopOf Try.f154 0) (spec_LeastOf_L0 (xs.map Cell.e) op ep key i f m) .normal (spec_LeastOf_L0 (xs.map Cell.e) op ep key ((i + 1 : Nat) : Int) (leastStep op ep key (m, f) a).2 (leastStep op ep key (m, f) a).1) := by
  have hj := lt_of ha
  have hk1 : xs[(i : Int).toNat]? = some a := by simpa using ha
  have hj1 : decide ((i : Int) < (↑(xs.map Cell.e).length : Int)) = true := lt1 hj
  rcases Bool.eq_false_or_eq_true (a.op == op) with h1 | h1
  · skip
    rcases Bool.eq_false_or_eq_true (a.epoch == ep) with h2 | h2
    · skip
      rcases Bool.eq_false_or_eq_true (a.key == key) with h3 | h3
      · skip
        rcases Bool.eq_false_or_eq_true (f) with h4 | h4
        · skip
          rcases Bool.eq_false_or_eq_true (decide (a.val < m)) with h5 | h5
          · skip
            rw [show leastStep op ep key (m, f) a = (a.val, true) from by grind [leastStep, sameSlot]]
            exact spec_LeastOf_L0_s1 _ _ _ _ _ _ _ _ _ _ _ ⟨hj1, (by grind [inInt]), (by grind [inInt]), (at_mapN Cell.e hk1), h1, h2, h3, (by rw [h4]; rfl), h5, (by grind [inInt]), trivial⟩
          · skip
            rw [show leastStep op ep key (m, f) a = (m, f) from by grind [leastStep, sameSlot]]
            exact spec_LeastOf_L0_s2 _ _ _ _ _ _ _ _ _ _ _ ⟨hj1, (by grind [inInt]), (by grind [inInt]), (at_mapN Cell.e hk1), h1, h2, h3, (by rw [h4]; rfl), h5, (by grind [inInt]), trivial⟩
        · skip
          rw [show leastStep op ep key (m, f) a = (a.val, true) from by grind [leastStep, sameSlot]]
          exact spec_LeastOf_L0_s0 _ _ _ _ _ _ _ _ _ _ _ ⟨hj1, (by grind [inInt]), (by grind [inInt]), (at_mapN Cell.e hk1), h1, h2, h3, (by rw [h4]; rfl), (by grind [inInt]), trivial⟩
      · skip
        rw [show leastStep op ep key (m, f) a = (m, f) from by grind [leastStep, sameSlot]]
        exact spec_LeastOf_L0_s3 _ _ _ _ _ _ _ _ _ _ _ ⟨hj1, (by grind [inInt]), (by grind [inInt]), (at_mapN Cell.e hk1), h1, h2, h3, (by grind [inInt]), trivial⟩
    · skip
      rw [show leastStep op ep key (m, f) a = (m, f) from by grind [leastStep, sameSlot]]
      exact spec_LeastOf_L0_s4 _ _ _ _ _ _ _ _ _ _ _ ⟨hj1, (by grind [inInt]), (by grind [inInt]), (at_mapN Cell.e hk1), h1, h2, (by grind [inInt]), trivial⟩
  · skip
    rw [show leastStep op ep key (m, f) a = (m, f) from by grind [leastStep, sameSlot]]
    exact spec_LeastOf_L0_s5 _ _ _ _ _ _ _ _ _ _ _ ⟨hj1, (by grind [inInt]), (by grind [inInt]), (at_mapN Cell.e hk1), h1, (by grind [inInt]), trivial⟩

theorem impl_LeastOf_round (xs : List Cell) (hl : xs.length ≤ 1048576) (op ep key m : Int) (f : Bool) (i : Nat) (a : Cell) (ha : xs[i]? = some a) : Tr Try.prog (loopOf Try.f158 0) (impl_LeastOf_L0 (xs.map Cell.e) op ep key i f m) .normal (impl_LeastOf_L0 (xs.map Cell.e) op ep key ((i + 1 : Nat) : Int) (leastStep op ep key (m, f) a).2 (leastStep op ep key (m, f) a).1) := by
  have hj := lt_of ha
  have hk1 : xs[(i : Int).toNat]? = some a := by simpa using ha
  have hj1 : decide ((i : Int) < (↑(xs.map Cell.e).length : Int)) = true := lt1 hj
  have c1 := impl_sameSlot_ret a (⟨op, ep, key, 0⟩ : Cell)
  rcases Bool.eq_false_or_eq_true (sameSlot a (⟨op, ep, key, 0⟩ : Cell)) with h2 | h2
  · skip
    rcases Bool.eq_false_or_eq_true (f) with h3 | h3
    · skip
      rcases Bool.eq_false_or_eq_true (decide (a.val < m)) with h4 | h4
      · skip
        rw [show leastStep op ep key (m, f) a = (a.val, true) from by grind [leastStep, sameSlot]]
        exact impl_LeastOf_L0_s1 _ _ _ _ _ _ _ _ _ _ _ _ ⟨hj1, (by grind [inInt]), (by grind [inInt]), (at_mapN Cell.e hk1), c1, h2, (by rw [h3]; rfl), h4, (by grind [inInt]), trivial⟩
      · skip
        rw [show leastStep op ep key (m, f) a = (m, f) from by grind [leastStep, sameSlot]]
        exact impl_LeastOf_L0_s2 _ _ _ _ _ _ _ _ _ _ _ _ ⟨hj1, (by grind [inInt]), (by grind [inInt]), (at_mapN Cell.e hk1), c1, h2, (by rw [h3]; rfl), h4, (by grind [inInt]), trivial⟩
    · skip
      rw [show leastStep op ep key (m, f) a = (a.val, true) from by grind [leastStep, sameSlot]]
      exact impl_LeastOf_L0_s0 _ _ _ _ _ _ _ _ _ _ _ _ ⟨hj1, (by grind [inInt]), (by grind [inInt]), (at_mapN Cell.e hk1), c1, h2, (by rw [h3]; rfl), (by grind [inInt]), trivial⟩
  · skip
    rw [show leastStep op ep key (m, f) a = (m, f) from by grind [leastStep, sameSlot]]
    exact impl_LeastOf_L0_s3 _ _ _ _ _ _ _ _ _ _ _ _ ⟨hj1, (by grind [inInt]), (by grind [inInt]), (at_mapN Cell.e hk1), c1, h2, (by grind [inInt]), trivial⟩

theorem spec_LeastOf_ret (xs : List Cell) (op ep key : Int) (hl : xs.length ≤ 1048576) : Ret Try.prog 154 [.one (.sl 4 (xs.map Cell.e)), .one (I op), .one (I ep), .one (I key)] [.one (I (leastOf xs op ep key).1), .one (B (leastOf xs op ep key).2)] := by
  have l := loop_upto (P := Try.prog) (c := (loopOf Try.f154 0)) (exit_ne 0) xs.length (fun i : Nat => spec_LeastOf_L0 (xs.map Cell.e) op ep key i (foldTo (leastStep op ep key) (0, false) xs i).2 (foldTo (leastStep op ep key) (0, false) xs i).1) (fun i hi => by
    obtain ⟨a, ha⟩ := get_of hi
    rw [foldTo_succ ha]
    exact spec_LeastOf_round xs hl op ep key _ _ i a ha) (spec_LeastOf_L0_x6 _ _ _ _ _ _ _ ⟨ge1, trivial⟩)
  rw [foldTo_all] at l
  exact spec_LeastOf_p0 _ _ _ _ _ _ ⟨l, trivial⟩

theorem impl_LeastOf_ret (xs : List Cell) (op ep key : Int) (hl : xs.length ≤ 1048576) : Ret Try.prog 158 [.one (.sl 4 (xs.map Cell.e)), .one (I op), .one (I ep), .one (I key)] [.one (I (leastOf xs op ep key).1), .one (B (leastOf xs op ep key).2)] := by
  have l := loop_upto (P := Try.prog) (c := (loopOf Try.f158 0)) (exit_ne 0) xs.length (fun i : Nat => impl_LeastOf_L0 (xs.map Cell.e) op ep key i (foldTo (leastStep op ep key) (0, false) xs i).2 (foldTo (leastStep op ep key) (0, false) xs i).1) (fun i hi => by
    obtain ⟨a, ha⟩ := get_of hi
    rw [foldTo_succ ha]
    exact impl_LeastOf_round xs hl op ep key _ _ i a ha) (impl_LeastOf_L0_x4 _ _ _ _ _ _ _ ⟨ge1, trivial⟩)
  rw [foldTo_all] at l
  exact impl_LeastOf_p0 _ _ _ _ _ _ ⟨l, trivial⟩

end Go.Proofs.Ytbbjajmimckabaa
