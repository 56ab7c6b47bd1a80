/- GraphOk, Changed, LeastOf: what program and reference compute (cases put together by gentree.py). -/
import Derived.Test.YtenekpkjlgddnaaP15
import Derived.Test.YtenekpkjlgddnaaC0
import Derived.Test.YtenekpkjlgddnaaGS
set_option linter.unusedVariables false
set_option linter.unusedSimpArgs false
namespace Go.Proofs.Ytenekpkjlgddnaa
open Go.Sx Go.RowKit

def kindAt (g : Graph) (k : Int) : Int := match g.nodes[k.toNat]? with | some y => y.kind | none => 0
def edgeBad (g : Graph) (i : Nat) (x : Node) (k : Int) : Bool :=
  decide ((g.nodes.length : Int) ≤ k) || (if x.kind = 7 then decide ((i : Int) < k) || (kindAt g k != 5 && kindAt g k != 6) else decide (k ≤ i))
def nodeBad (g : Graph) (i : Nat) (x : Node) : Bool := !nodeOk x || (decide (x.kind = 1) != decide ((i : Int) = 0)) || x.outs.any (edgeBad g i x)
def graphOk (g : Graph) : Bool := inR g.nodes.length 1 8 && inR g.workers 1 4 && inR g.cap 1 4 && !(anyI (nodeBad g) 0 g.nodes)
def changed (x : Node) (k v : Int) : Int × Int × Bool :=
  if nodeOk x && itemOk k v then
    if x.kind = 2 then (k, less (v + x.a) 999, true)
    else if x.kind = 4 then ((k + x.a).tmod 100, v, true)
    else if x.kind = 3 then (k, v, k.tmod x.a == x.b)
    else (k, v, x.kind != 8)
  else (k, v, false)

theorem okAll_mem {l : List Int} (h : okAll l = true) {k : Int} (hk : k ∈ l) : inR k 0 7 = true := by
  simp only [okAll, Bool.not_eq_true', List.any_eq_false] at h
  simpa using h k hk

theorem spec_GraphOk_round1 (g : Graph) (hg : g.sz ≤ 8388608) (i : Nat) (hi : i < 8) (x : Node) (hx : g.nodes[i]? = some x) (hok : nodeOk x = true) (j : Nat) (k : Int) (hk : x.outs[j]? = some k) (r : Bool) (hr : edgeBad g i x k = r) : Tr Try.prog (loopOf Try.f48 1) (spec_GraphOk_L1 i (g.nodes.map Node.e) g.workers g.cap x.kind x.a x.b (x.outs.map eI) (j : Int)) (bif r then .ret else .normal) (bif r then spec_GraphOk_X1 false else spec_GraphOk_L1 i (g.nodes.map Node.e) g.workers g.cap x.kind x.a x.b (x.outs.map eI) ((j + 1 : Nat) : Int)) := by
  have hj := lt_of hk
  have hl : x.outs.length ≤ 2 := by grind [nodeOk]
  have hk0 : inR k 0 7 = true := okAll_mem (by grind [nodeOk]) (mem_of hk)
  have hk1 : x.outs[(j : Int).toNat]? = some k := by simpa using hk
  have hj1 : decide ((j : Int) < (↑(x.outs.map eI).length : Int)) = true := lt1 hj
  rcases Bool.eq_false_or_eq_true (decide (k ≥ (↑(g.nodes.map Node.e).length : Int))) with h1 | h1
  · skip
    obtain rfl : r = true := by rw [← hr]; grind [edgeBad, kindAt, inR]
    exact spec_GraphOk_L1_x0 _ _ _ _ _ _ _ _ _ _ ⟨hj1, (by grind [inR, inInt, nodeOk]), (by grind [inR, inInt, nodeOk]), (at_mapN eI hk1), h1, trivial⟩
  · skip
    rcases Bool.eq_false_or_eq_true (x.kind != 7) with h2 | h2
    · skip
      rcases Bool.eq_false_or_eq_true (decide (k ≤ (i : Int))) with h3 | h3
      · skip
        obtain rfl : r = true := by rw [← hr]; grind [edgeBad, kindAt, inR]
        exact spec_GraphOk_L1_x1 _ _ _ _ _ _ _ _ _ _ ⟨hj1, (by grind [inR, inInt, nodeOk]), (by grind [inR, inInt, nodeOk]), (at_mapN eI hk1), h1, h2, h3, trivial⟩
      · skip
        obtain ⟨y4, hy4⟩ := look (xs := g.nodes) (i := k) (by grind [inR, inInt, nodeOk]) (by grind [inR, inInt, nodeOk])
        rcases Bool.eq_false_or_eq_true (x.kind == 7) with h5 | h5
        · skip
          rcases Bool.eq_false_or_eq_true (decide (k > (i : Int))) with h6 | h6
          · skip
            obtain rfl : r = true := by rw [← hr]; grind [edgeBad, kindAt, inR]
            exact spec_GraphOk_L1_x2 _ _ _ _ _ _ _ _ _ _ _ _ _ _ ⟨hj1, (by grind [inR, inInt, nodeOk]), (by grind [inR, inInt, nodeOk]), (at_mapN eI hk1), h1, h2, h3, (by grind [inR, inInt, nodeOk]), (by grind [inR, inInt, nodeOk]), (at_mapN Node.e hy4), h5, h6, trivial⟩
          · skip
            rcases Bool.eq_false_or_eq_true (y4.kind != 5) with h7 | h7
            · skip
              rcases Bool.eq_false_or_eq_true (y4.kind != 6) with h8 | h8
              · skip
                obtain rfl : r = true := by rw [← hr]; grind [edgeBad, kindAt, inR]
                exact spec_GraphOk_L1_x3 _ _ _ _ _ _ _ _ _ _ _ _ _ _ ⟨hj1, (by grind [inR, inInt, nodeOk]), (by grind [inR, inInt, nodeOk]), (at_mapN eI hk1), h1, h2, h3, (by grind [inR, inInt, nodeOk]), (by grind [inR, inInt, nodeOk]), (at_mapN Node.e hy4), h5, h6, h7, h8, trivial⟩
              · skip
                obtain rfl : r = false := by rw [← hr]; grind [edgeBad, kindAt, inR]
                exact spec_GraphOk_L1_s4 _ _ _ _ _ _ _ _ _ _ _ _ _ _ ⟨hj1, (by grind [inR, inInt, nodeOk]), (by grind [inR, inInt, nodeOk]), (at_mapN eI hk1), h1, h2, h3, (by grind [inR, inInt, nodeOk]), (by grind [inR, inInt, nodeOk]), (at_mapN Node.e hy4), h5, h6, h7, h8, (by grind [inR, inInt, nodeOk]), trivial⟩
            · skip
              obtain rfl : r = false := by rw [← hr]; grind [edgeBad, kindAt, inR]
              exact spec_GraphOk_L1_s5 _ _ _ _ _ _ _ _ _ _ _ _ _ _ ⟨hj1, (by grind [inR, inInt, nodeOk]), (by grind [inR, inInt, nodeOk]), (at_mapN eI hk1), h1, h2, h3, (by grind [inR, inInt, nodeOk]), (by grind [inR, inInt, nodeOk]), (at_mapN Node.e hy4), h5, h6, h7, (by grind [inR, inInt, nodeOk]), trivial⟩
        · skip
          obtain rfl : r = false := by rw [← hr]; grind [edgeBad, kindAt, inR]
          exact spec_GraphOk_L1_s6 _ _ _ _ _ _ _ _ _ _ _ _ _ _ ⟨hj1, (by grind [inR, inInt, nodeOk]), (by grind [inR, inInt, nodeOk]), (at_mapN eI hk1), h1, h2, h3, (by grind [inR, inInt, nodeOk]), (by grind [inR, inInt, nodeOk]), (at_mapN Node.e hy4), h5, (by grind [inR, inInt, nodeOk]), trivial⟩
    · skip
      obtain ⟨y9, hy9⟩ := look (xs := g.nodes) (i := k) (by grind [inR, inInt, nodeOk]) (by grind [inR, inInt, nodeOk])
      rcases Bool.eq_false_or_eq_true (x.kind == 7) with h10 | h10
      · skip
        rcases Bool.eq_false_or_eq_true (decide (k > (i : Int))) with h11 | h11
        · skip
          obtain rfl : r = true := by rw [← hr]; grind [edgeBad, kindAt, inR]
          exact spec_GraphOk_L1_x7 _ _ _ _ _ _ _ _ _ _ _ _ _ _ ⟨hj1, (by grind [inR, inInt, nodeOk]), (by grind [inR, inInt, nodeOk]), (at_mapN eI hk1), h1, h2, (by grind [inR, inInt, nodeOk]), (by grind [inR, inInt, nodeOk]), (at_mapN Node.e hy9), h10, h11, trivial⟩
        · skip
          rcases Bool.eq_false_or_eq_true (y9.kind != 5) with h12 | h12
          · skip
            rcases Bool.eq_false_or_eq_true (y9.kind != 6) with h13 | h13
            · skip
              obtain rfl : r = true := by rw [← hr]; grind [edgeBad, kindAt, inR]
              exact spec_GraphOk_L1_x8 _ _ _ _ _ _ _ _ _ _ _ _ _ _ ⟨hj1, (by grind [inR, inInt, nodeOk]), (by grind [inR, inInt, nodeOk]), (at_mapN eI hk1), h1, h2, (by grind [inR, inInt, nodeOk]), (by grind [inR, inInt, nodeOk]), (at_mapN Node.e hy9), h10, h11, h12, h13, trivial⟩
            · skip
              obtain rfl : r = false := by rw [← hr]; grind [edgeBad, kindAt, inR]
              exact spec_GraphOk_L1_s9 _ _ _ _ _ _ _ _ _ _ _ _ _ _ ⟨hj1, (by grind [inR, inInt, nodeOk]), (by grind [inR, inInt, nodeOk]), (at_mapN eI hk1), h1, h2, (by grind [inR, inInt, nodeOk]), (by grind [inR, inInt, nodeOk]), (at_mapN Node.e hy9), h10, h11, h12, h13, (by grind [inR, inInt, nodeOk]), trivial⟩
          · skip
            obtain rfl : r = false := by rw [← hr]; grind [edgeBad, kindAt, inR]
            exact spec_GraphOk_L1_s10 _ _ _ _ _ _ _ _ _ _ _ _ _ _ ⟨hj1, (by grind [inR, inInt, nodeOk]), (by grind [inR, inInt, nodeOk]), (at_mapN eI hk1), h1, h2, (by grind [inR, inInt, nodeOk]), (by grind [inR, inInt, nodeOk]), (at_mapN Node.e hy9), h10, h11, h12, (by grind [inR, inInt, nodeOk]), trivial⟩
      · skip
        obtain rfl : r = false := by rw [← hr]; grind [edgeBad, kindAt, inR]
        exact spec_GraphOk_L1_s11 _ _ _ _ _ _ _ _ _ _ _ _ _ _ ⟨hj1, (by grind [inR, inInt, nodeOk]), (by grind [inR, inInt, nodeOk]), (at_mapN eI hk1), h1, h2, (by grind [inR, inInt, nodeOk]), (by grind [inR, inInt, nodeOk]), (at_mapN Node.e hy9), h10, (by grind [inR, inInt, nodeOk]), trivial⟩

theorem impl_GraphOk_round1 (g : Graph) (hg : g.sz ≤ 8388608) (i : Nat) (hi : i < 8) (x : Node) (hx : g.nodes[i]? = some x) (hok : nodeOk x = true) (j : Nat) (k : Int) (hk : x.outs[j]? = some k) (r : Bool) (hr : edgeBad g i x k = r) : Tr Try.prog (loopOf Try.f40 1) (impl_GraphOk_L1 (g.nodes.map Node.e) i (g.nodes.map Node.e) g.workers g.cap x.kind x.a x.b (x.outs.map eI) (j : Int)) (bif r then .ret else .normal) (bif r then impl_GraphOk_X1 false else impl_GraphOk_L1 (g.nodes.map Node.e) i (g.nodes.map Node.e) g.workers g.cap x.kind x.a x.b (x.outs.map eI) ((j + 1 : Nat) : Int)) := by
  have hj := lt_of hk
  have hl : x.outs.length ≤ 2 := by grind [nodeOk]
  have hk0 : inR k 0 7 = true := okAll_mem (by grind [nodeOk]) (mem_of hk)
  have hk1 : x.outs[(j : Int).toNat]? = some k := by simpa using hk
  have hj1 : decide ((j : Int) < (↑(x.outs.map eI).length : Int)) = true := lt1 hj
  rcases Bool.eq_false_or_eq_true (decide (k ≥ (↑(g.nodes.map Node.e).length : Int))) with h1 | h1
  · skip
    obtain rfl : r = true := by rw [← hr]; grind [edgeBad, kindAt, inR]
    exact impl_GraphOk_L1_x0 _ _ _ _ _ _ _ _ _ _ _ ⟨hj1, (by grind [inR, inInt, nodeOk]), (by grind [inR, inInt, nodeOk]), (at_mapN eI hk1), h1, trivial⟩
  · skip
    obtain ⟨y2, hy2⟩ := look (xs := g.nodes) (i := k) (by grind [inR, inInt, nodeOk]) (by grind [inR, inInt, nodeOk])
    rcases Bool.eq_false_or_eq_true (x.kind == 7) with h3 | h3
    · skip
      rcases Bool.eq_false_or_eq_true (decide (k > (i : Int))) with h4 | h4
      · skip
        obtain rfl : r = true := by rw [← hr]; grind [edgeBad, kindAt, inR]
        exact impl_GraphOk_L1_x1 _ _ _ _ _ _ _ _ _ _ _ _ _ _ _ ⟨hj1, (by grind [inR, inInt, nodeOk]), (by grind [inR, inInt, nodeOk]), (at_mapN eI hk1), h1, (by grind [inR, inInt, nodeOk]), (by grind [inR, inInt, nodeOk]), (at_mapN Node.e hy2), h3, h4, trivial⟩
      · skip
        rcases Bool.eq_false_or_eq_true (y2.kind != 5) with h5 | h5
        · skip
          rcases Bool.eq_false_or_eq_true (y2.kind != 6) with h6 | h6
          · skip
            obtain rfl : r = true := by rw [← hr]; grind [edgeBad, kindAt, inR]
            exact impl_GraphOk_L1_x2 _ _ _ _ _ _ _ _ _ _ _ _ _ _ _ ⟨hj1, (by grind [inR, inInt, nodeOk]), (by grind [inR, inInt, nodeOk]), (at_mapN eI hk1), h1, (by grind [inR, inInt, nodeOk]), (by grind [inR, inInt, nodeOk]), (at_mapN Node.e hy2), h3, h4, h5, h6, trivial⟩
          · skip
            rcases Bool.eq_false_or_eq_true (x.kind != 7) with h7 | h7
            · skip
              rcases Bool.eq_false_or_eq_true (decide (k ≤ (i : Int))) with h8 | h8
              · skip
                obtain rfl : r = true := by rw [← hr]; grind [edgeBad, kindAt, inR]
                exact impl_GraphOk_L1_x3 _ _ _ _ _ _ _ _ _ _ _ _ _ _ _ ⟨hj1, (by grind [inR, inInt, nodeOk]), (by grind [inR, inInt, nodeOk]), (at_mapN eI hk1), h1, (by grind [inR, inInt, nodeOk]), (by grind [inR, inInt, nodeOk]), (at_mapN Node.e hy2), h3, h4, h5, h6, h7, h8, trivial⟩
              · skip
                obtain rfl : r = false := by rw [← hr]; grind [edgeBad, kindAt, inR]
                exact impl_GraphOk_L1_s4 _ _ _ _ _ _ _ _ _ _ _ _ _ _ _ ⟨hj1, (by grind [inR, inInt, nodeOk]), (by grind [inR, inInt, nodeOk]), (at_mapN eI hk1), h1, (by grind [inR, inInt, nodeOk]), (by grind [inR, inInt, nodeOk]), (at_mapN Node.e hy2), h3, h4, h5, h6, h7, h8, (by grind [inR, inInt, nodeOk]), trivial⟩
            · skip
              obtain rfl : r = false := by rw [← hr]; grind [edgeBad, kindAt, inR]
              exact impl_GraphOk_L1_s5 _ _ _ _ _ _ _ _ _ _ _ _ _ _ _ ⟨hj1, (by grind [inR, inInt, nodeOk]), (by grind [inR, inInt, nodeOk]), (at_mapN eI hk1), h1, (by grind [inR, inInt, nodeOk]), (by grind [inR, inInt, nodeOk]), (at_mapN Node.e hy2), h3, h4, h5, h6, h7, (by grind [inR, inInt, nodeOk]), trivial⟩
        · skip
          rcases Bool.eq_false_or_eq_true (x.kind != 7) with h9 | h9
          · skip
            rcases Bool.eq_false_or_eq_true (decide (k ≤ (i : Int))) with h10 | h10
            · skip
              obtain rfl : r = true := by rw [← hr]; grind [edgeBad, kindAt, inR]
              exact impl_GraphOk_L1_x6 _ _ _ _ _ _ _ _ _ _ _ _ _ _ _ ⟨hj1, (by grind [inR, inInt, nodeOk]), (by grind [inR, inInt, nodeOk]), (at_mapN eI hk1), h1, (by grind [inR, inInt, nodeOk]), (by grind [inR, inInt, nodeOk]), (at_mapN Node.e hy2), h3, h4, h5, h9, h10, trivial⟩
            · skip
              obtain rfl : r = false := by rw [← hr]; grind [edgeBad, kindAt, inR]
              exact impl_GraphOk_L1_s7 _ _ _ _ _ _ _ _ _ _ _ _ _ _ _ ⟨hj1, (by grind [inR, inInt, nodeOk]), (by grind [inR, inInt, nodeOk]), (at_mapN eI hk1), h1, (by grind [inR, inInt, nodeOk]), (by grind [inR, inInt, nodeOk]), (at_mapN Node.e hy2), h3, h4, h5, h9, h10, (by grind [inR, inInt, nodeOk]), trivial⟩
          · skip
            obtain rfl : r = false := by rw [← hr]; grind [edgeBad, kindAt, inR]
            exact impl_GraphOk_L1_s8 _ _ _ _ _ _ _ _ _ _ _ _ _ _ _ ⟨hj1, (by grind [inR, inInt, nodeOk]), (by grind [inR, inInt, nodeOk]), (at_mapN eI hk1), h1, (by grind [inR, inInt, nodeOk]), (by grind [inR, inInt, nodeOk]), (at_mapN Node.e hy2), h3, h4, h5, h9, (by grind [inR, inInt, nodeOk]), trivial⟩
    · skip
      rcases Bool.eq_false_or_eq_true (x.kind != 7) with h11 | h11
      · skip
        rcases Bool.eq_false_or_eq_true (decide (k ≤ (i : Int))) with h12 | h12
        · skip
          obtain rfl : r = true := by rw [← hr]; grind [edgeBad, kindAt, inR]
          exact impl_GraphOk_L1_x9 _ _ _ _ _ _ _ _ _ _ _ _ _ _ _ ⟨hj1, (by grind [inR, inInt, nodeOk]), (by grind [inR, inInt, nodeOk]), (at_mapN eI hk1), h1, (by grind [inR, inInt, nodeOk]), (by grind [inR, inInt, nodeOk]), (at_mapN Node.e hy2), h3, h11, h12, trivial⟩
        · skip
          obtain rfl : r = false := by rw [← hr]; grind [edgeBad, kindAt, inR]
          exact impl_GraphOk_L1_s10 _ _ _ _ _ _ _ _ _ _ _ _ _ _ _ ⟨hj1, (by grind [inR, inInt, nodeOk]), (by grind [inR, inInt, nodeOk]), (at_mapN eI hk1), h1, (by grind [inR, inInt, nodeOk]), (by grind [inR, inInt, nodeOk]), (at_mapN Node.e hy2), h3, h11, h12, (by grind [inR, inInt, nodeOk]), trivial⟩
      · skip
        obtain rfl : r = false := by rw [← hr]; grind [edgeBad, kindAt, inR]
        exact impl_GraphOk_L1_s11 _ _ _ _ _ _ _ _ _ _ _ _ _ _ _ ⟨hj1, (by grind [inR, inInt, nodeOk]), (by grind [inR, inInt, nodeOk]), (at_mapN eI hk1), h1, (by grind [inR, inInt, nodeOk]), (by grind [inR, inInt, nodeOk]), (at_mapN Node.e hy2), h3, h11, (by grind [inR, inInt, nodeOk]), trivial⟩

theorem spec_GraphOk_inner (g : Graph) (hg : g.sz ≤ 8388608) (i : Nat) (hi : i < 8) (x : Node) (hx : g.nodes[i]? = some x) (hok : nodeOk x = true) :
    (x.outs.any (edgeBad g i x) = true ∧ LoopOk Try.prog (loopOf Try.f48 1) (spec_GraphOk_L1 i (g.nodes.map Node.e) g.workers g.cap x.kind x.a x.b (x.outs.map eI) 0) .ret (spec_GraphOk_X1 false)) ∨ (x.outs.any (edgeBad g i x) = false ∧ LoopOk Try.prog (loopOf Try.f48 1) (spec_GraphOk_L1 i (g.nodes.map Node.e) g.workers g.cap x.kind x.a x.b (x.outs.map eI) 0) (.exit 2) (spec_GraphOk_X1v4 i (g.nodes.map Node.e) g.workers g.cap)) := by
  have l := loop_scan (P := Try.prog) (c := (loopOf Try.f48 1)) x.outs (edgeBad g i x) (fun j => spec_GraphOk_L1 i (g.nodes.map Node.e) g.workers g.cap x.kind x.a x.b (x.outs.map eI) j) (X := fun _ _ => spec_GraphOk_X1 false) ret_ne (exit_ne 2)
    (fun j k hk h => spec_GraphOk_round1 g hg i hi x hx hok j k hk false h)
    (fun j k hk h => spec_GraphOk_round1 g hg i hi x hx hok j k hk true h)
    (spec_GraphOk_L1_x12 _ _ _ _ _ _ _ _ _ ⟨ge1, trivial⟩)
  rcases l with ⟨_, _, h1, h2⟩ | ⟨j, k, _, _, _, _, h1, h2⟩
  · exact .inr ⟨h1, h2⟩
  · exact .inl ⟨h1, h2⟩

theorem impl_GraphOk_inner (g : Graph) (hg : g.sz ≤ 8388608) (i : Nat) (hi : i < 8) (x : Node) (hx : g.nodes[i]? = some x) (hok : nodeOk x = true) :
    (x.outs.any (edgeBad g i x) = true ∧ LoopOk Try.prog (loopOf Try.f40 1) (impl_GraphOk_L1 (g.nodes.map Node.e) i (g.nodes.map Node.e) g.workers g.cap x.kind x.a x.b (x.outs.map eI) 0) .ret (impl_GraphOk_X1 false)) ∨ (x.outs.any (edgeBad g i x) = false ∧ LoopOk Try.prog (loopOf Try.f40 1) (impl_GraphOk_L1 (g.nodes.map Node.e) i (g.nodes.map Node.e) g.workers g.cap x.kind x.a x.b (x.outs.map eI) 0) (.exit 2) (impl_GraphOk_X1v4 (g.nodes.map Node.e) i (g.nodes.map Node.e) g.workers g.cap)) := by
  have l := loop_scan (P := Try.prog) (c := (loopOf Try.f40 1)) x.outs (edgeBad g i x) (fun j => impl_GraphOk_L1 (g.nodes.map Node.e) i (g.nodes.map Node.e) g.workers g.cap x.kind x.a x.b (x.outs.map eI) j) (X := fun _ _ => impl_GraphOk_X1 false) ret_ne (exit_ne 2)
    (fun j k hk h => impl_GraphOk_round1 g hg i hi x hx hok j k hk false h)
    (fun j k hk h => impl_GraphOk_round1 g hg i hi x hx hok j k hk true h)
    (impl_GraphOk_L1_x12 _ _ _ _ _ _ _ _ _ _ ⟨ge1, trivial⟩)
  rcases l with ⟨_, _, h1, h2⟩ | ⟨j, k, _, _, _, _, h1, h2⟩
  · exact .inr ⟨h1, h2⟩
  · exact .inl ⟨h1, h2⟩

theorem spec_GraphOk_round0 (g : Graph) (hg : g.sz ≤ 8388608) (i : Nat) (hi : i < 8) (x : Node) (hx : g.nodes[i]? = some x) (r : Bool) (hr : nodeBad g i x = r) : Tr Try.prog (loopOf Try.f48 0) (spec_GraphOk_L0 ((i : Nat) : Int) (g.nodes.map Node.e) g.workers g.cap) (bif r then .ret else .normal) (bif r then spec_GraphOk_X0 false else spec_GraphOk_L0 ((i + 1 : Nat) : Int) (g.nodes.map Node.e) g.workers g.cap) := by
  have hj := lt_of hx
  have ho := Graph.outs_le hg (mem_of hx)
  have hk1 : g.nodes[(i : Int).toNat]? = some x := by simpa using hx
  have hj1 : decide ((i : Int) < (↑(g.nodes.map Node.e).length : Int)) = true := lt1 hj
  have c1 := spec_NodeOk_ret x (by grind)
  rcases Bool.eq_false_or_eq_true (nodeOk x) with h2 | h2
  · skip
    rcases Bool.eq_false_or_eq_true ((x.kind == 1) == ((i : Int) == 0)) with h3 | h3
    · skip
      rcases spec_GraphOk_inner g hg i hi x hx (by grind) with ⟨hL, l⟩ | ⟨hL, l⟩
      · skip
        obtain rfl : r = true := by rw [← hr]; grind [nodeBad]
        exact spec_GraphOk_L0_x2 _ _ _ _ _ _ _ _ _ _ ⟨hj1, (by grind [inR, inInt, nodeOk]), (by grind [inR, inInt, nodeOk]), (at_mapN Node.e hk1), c1, (by rw [h2]; rfl), (by rw [h3]; rfl), l, trivial⟩
      · skip
        obtain rfl : r = false := by rw [← hr]; grind [nodeBad]
        exact spec_GraphOk_L0_s3 _ _ _ _ _ _ _ _ _ ⟨hj1, (by grind [inR, inInt, nodeOk]), (by grind [inR, inInt, nodeOk]), (at_mapN Node.e hk1), c1, (by rw [h2]; rfl), (by rw [h3]; rfl), l, (by grind [inR, inInt, nodeOk]), trivial⟩
    · skip
      obtain rfl : r = true := by rw [← hr]; grind [nodeBad]
      exact spec_GraphOk_L0_x1 _ _ _ _ _ _ _ _ _ ⟨hj1, (by grind [inR, inInt, nodeOk]), (by grind [inR, inInt, nodeOk]), (at_mapN Node.e hk1), c1, (by rw [h2]; rfl), (by rw [h3]; rfl), trivial⟩
  · skip
    obtain rfl : r = true := by rw [← hr]; grind [nodeBad]
    exact spec_GraphOk_L0_x0 _ _ _ _ _ _ _ _ _ ⟨hj1, (by grind [inR, inInt, nodeOk]), (by grind [inR, inInt, nodeOk]), (at_mapN Node.e hk1), c1, (by rw [h2]; rfl), trivial⟩

theorem impl_GraphOk_round0 (g : Graph) (hg : g.sz ≤ 8388608) (i : Nat) (hi : i < 8) (x : Node) (hx : g.nodes[i]? = some x) (r : Bool) (hr : nodeBad g i x = r) : Tr Try.prog (loopOf Try.f40 0) (impl_GraphOk_L0 (g.nodes.map Node.e) ((i : Nat) : Int) (g.nodes.map Node.e) g.workers g.cap) (bif r then .ret else .normal) (bif r then impl_GraphOk_X0 false else impl_GraphOk_L0 (g.nodes.map Node.e) ((i + 1 : Nat) : Int) (g.nodes.map Node.e) g.workers g.cap) := by
  have hj := lt_of hx
  have ho := Graph.outs_le hg (mem_of hx)
  have hk1 : g.nodes[(i : Int).toNat]? = some x := by simpa using hx
  have hj1 : decide ((i : Int) < (↑(g.nodes.map Node.e).length : Int)) = true := lt1 hj
  have c1 := impl_NodeOk_ret x (by grind)
  rcases Bool.eq_false_or_eq_true (nodeOk x) with h2 | h2
  · skip
    rcases Bool.eq_false_or_eq_true ((x.kind == 1) == ((i : Int) == 0)) with h3 | h3
    · skip
      rcases impl_GraphOk_inner g hg i hi x hx (by grind) with ⟨hL, l⟩ | ⟨hL, l⟩
      · skip
        obtain rfl : r = true := by rw [← hr]; grind [nodeBad]
        exact impl_GraphOk_L0_x2 _ _ _ _ _ _ _ _ _ _ _ ⟨hj1, (by grind [inR, inInt, nodeOk]), (by grind [inR, inInt, nodeOk]), (at_mapN Node.e hk1), c1, (by rw [h2]; rfl), (by rw [h3]; rfl), l, trivial⟩
      · skip
        obtain rfl : r = false := by rw [← hr]; grind [nodeBad]
        exact impl_GraphOk_L0_s3 _ _ _ _ _ _ _ _ _ _ ⟨hj1, (by grind [inR, inInt, nodeOk]), (by grind [inR, inInt, nodeOk]), (at_mapN Node.e hk1), c1, (by rw [h2]; rfl), (by rw [h3]; rfl), l, (by grind [inR, inInt, nodeOk]), trivial⟩
    · skip
      obtain rfl : r = true := by rw [← hr]; grind [nodeBad]
      exact impl_GraphOk_L0_x1 _ _ _ _ _ _ _ _ _ _ ⟨hj1, (by grind [inR, inInt, nodeOk]), (by grind [inR, inInt, nodeOk]), (at_mapN Node.e hk1), c1, (by rw [h2]; rfl), (by rw [h3]; rfl), trivial⟩
  · skip
    obtain rfl : r = true := by rw [← hr]; grind [nodeBad]
    exact impl_GraphOk_L0_x0 _ _ _ _ _ _ _ _ _ _ ⟨hj1, (by grind [inR, inInt, nodeOk]), (by grind [inR, inInt, nodeOk]), (at_mapN Node.e hk1), c1, (by rw [h2]; rfl), trivial⟩

theorem spec_GraphOk_outer (g : Graph) (hg : g.sz ≤ 8388608) (h8 : g.nodes.length ≤ 8) :
    (anyI (nodeBad g) 0 g.nodes = true ∧ LoopOk Try.prog (loopOf Try.f48 0) (spec_GraphOk_L0 0 (g.nodes.map Node.e) g.workers g.cap) .ret (spec_GraphOk_X0 false)) ∨ (anyI (nodeBad g) 0 g.nodes = false ∧ LoopOk Try.prog (loopOf Try.f48 0) (spec_GraphOk_L0 0 (g.nodes.map Node.e) g.workers g.cap) (.exit 0) spec_GraphOk_X0v5) := by
  have l := loop_anyI (P := Try.prog) (c := (loopOf Try.f48 0)) g.nodes (nodeBad g) (fun i => spec_GraphOk_L0 (i : Nat) (g.nodes.map Node.e) g.workers g.cap) (X := spec_GraphOk_X0 false) ret_ne (exit_ne 0)
    (fun i x hx h => spec_GraphOk_round0 g hg i (by have := lt_of hx; omega) x hx false h)
    (fun i x hx h => spec_GraphOk_round0 g hg i (by have := lt_of hx; omega) x hx true h)
    (spec_GraphOk_L0_x4 _ _ _ _ ⟨ge1, trivial⟩)
  rcases l with ⟨h1, h2⟩ | ⟨h1, h2⟩
  · exact .inr ⟨h1, h2⟩
  · exact .inl ⟨h1, h2⟩

theorem impl_GraphOk_outer (g : Graph) (hg : g.sz ≤ 8388608) (h8 : g.nodes.length ≤ 8) :
    (anyI (nodeBad g) 0 g.nodes = true ∧ LoopOk Try.prog (loopOf Try.f40 0) (impl_GraphOk_L0 (g.nodes.map Node.e) 0 (g.nodes.map Node.e) g.workers g.cap) .ret (impl_GraphOk_X0 false)) ∨ (anyI (nodeBad g) 0 g.nodes = false ∧ LoopOk Try.prog (loopOf Try.f40 0) (impl_GraphOk_L0 (g.nodes.map Node.e) 0 (g.nodes.map Node.e) g.workers g.cap) (.exit 0) impl_GraphOk_X0v5) := by
  have l := loop_anyI (P := Try.prog) (c := (loopOf Try.f40 0)) g.nodes (nodeBad g) (fun i => impl_GraphOk_L0 (g.nodes.map Node.e) (i : Nat) (g.nodes.map Node.e) g.workers g.cap) (X := impl_GraphOk_X0 false) ret_ne (exit_ne 0)
    (fun i x hx h => impl_GraphOk_round0 g hg i (by have := lt_of hx; omega) x hx false h)
    (fun i x hx h => impl_GraphOk_round0 g hg i (by have := lt_of hx; omega) x hx true h)
    (impl_GraphOk_L0_x4 _ _ _ _ _ ⟨ge1, trivial⟩)
  rcases l with ⟨h1, h2⟩ | ⟨h1, h2⟩
  · exact .inr ⟨h1, h2⟩
  · exact .inl ⟨h1, h2⟩

theorem spec_GraphOk_ret (g : Graph) (hg : g.sz ≤ 8388608) : Ret Try.prog 48 [.agg g.e] [.one (B (graphOk g))] := by
  have c1 := spec_l01In_ret (↑(g.nodes.map Node.e).length : Int) 1 8
  rcases Bool.eq_false_or_eq_true (inR (↑(g.nodes.map Node.e).length : Int) 1 8) with h2 | h2
  · skip
    have c3 := spec_l01In_ret g.workers 1 4
    rcases Bool.eq_false_or_eq_true (inR g.workers 1 4) with h4 | h4
    · skip
      have c5 := spec_l01In_ret g.cap 1 4
      rcases Bool.eq_false_or_eq_true (inR g.cap 1 4) with h6 | h6
      · skip
        rcases spec_GraphOk_outer g hg (by grind [inR]) with ⟨hL, l⟩ | ⟨hL, l⟩
        · skip
          rw [show graphOk g = false from by grind [graphOk]]
          exact spec_GraphOk_p3 _ _ _ _ _ _ _ ⟨c1, (by rw [h2]; rfl), c3, (by rw [h4]; rfl), c5, (by rw [h6]; rfl), l, trivial⟩
        · skip
          rw [show graphOk g = true from by grind [graphOk]]
          exact spec_GraphOk_p4 _ _ _ _ _ _ ⟨c1, (by rw [h2]; rfl), c3, (by rw [h4]; rfl), c5, (by rw [h6]; rfl), l, trivial⟩
      · skip
        rw [show graphOk g = false from by grind [graphOk]]
        exact spec_GraphOk_p2 _ _ _ _ _ _ ⟨c1, (by rw [h2]; rfl), c3, (by rw [h4]; rfl), c5, (by rw [h6]; rfl), trivial⟩
    · skip
      rw [show graphOk g = false from by grind [graphOk]]
      exact spec_GraphOk_p1 _ _ _ _ _ ⟨c1, (by rw [h2]; rfl), c3, (by rw [h4]; rfl), trivial⟩
  · skip
    rw [show graphOk g = false from by grind [graphOk]]
    exact spec_GraphOk_p0 _ _ _ _ ⟨c1, (by rw [h2]; rfl), trivial⟩

theorem impl_GraphOk_ret (g : Graph) (hg : g.sz ≤ 8388608) : Ret Try.prog 40 [.agg g.e] [.one (B (graphOk g))] := by
  have c1 := impl_within_ret (↑(g.nodes.map Node.e).length : Int) 1 8
  rcases Bool.eq_false_or_eq_true (inR (↑(g.nodes.map Node.e).length : Int) 1 8) with h2 | h2
  · skip
    have c3 := impl_within_ret g.workers 1 4
    rcases Bool.eq_false_or_eq_true (inR g.workers 1 4) with h4 | h4
    · skip
      have c5 := impl_within_ret g.cap 1 4
      rcases Bool.eq_false_or_eq_true (inR g.cap 1 4) with h6 | h6
      · skip
        rcases impl_GraphOk_outer g hg (by grind [inR]) with ⟨hL, l⟩ | ⟨hL, l⟩
        · skip
          rw [show graphOk g = false from by grind [graphOk]]
          exact impl_GraphOk_p3 _ _ _ _ _ _ _ ⟨c1, (by rw [h2]; rfl), c3, (by rw [h4]; rfl), c5, (by rw [h6]; rfl), l, trivial⟩
        · skip
          rw [show graphOk g = true from by grind [graphOk]]
          exact impl_GraphOk_p4 _ _ _ _ _ _ ⟨c1, (by rw [h2]; rfl), c3, (by rw [h4]; rfl), c5, (by rw [h6]; rfl), l, trivial⟩
      · skip
        rw [show graphOk g = false from by grind [graphOk]]
        exact impl_GraphOk_p2 _ _ _ _ _ _ ⟨c1, (by rw [h2]; rfl), c3, (by rw [h4]; rfl), c5, (by rw [h6]; rfl), trivial⟩
    · skip
      rw [show graphOk g = false from by grind [graphOk]]
      exact impl_GraphOk_p1 _ _ _ _ _ ⟨c1, (by rw [h2]; rfl), c3, (by rw [h4]; rfl), trivial⟩
  · skip
    rw [show graphOk g = false from by grind [graphOk]]
    exact impl_GraphOk_p0 _ _ _ _ ⟨c1, (by rw [h2]; rfl), trivial⟩

theorem spec_Changed_ret (x : Node) (k v : Int) (hx : x.outs.length ≤ 8388608) : Ret Try.prog 76 [.agg x.e, .one (I k), .one (I v)] [.one (I ((changed x k v).1)), .one (I ((changed x k v).2.1)), .one (B ((changed x k v).2.2))] := by
  have c1 := spec_NodeOk_ret x (by grind)
  rcases Bool.eq_false_or_eq_true (nodeOk x) with h2 | h2
  · skip
    have c3 := spec_l01In_ret k 0 99
    rcases Bool.eq_false_or_eq_true (inR k 0 99) with h4 | h4
    · skip
      have c5 := spec_l01In_ret v 0 999
      rcases Bool.eq_false_or_eq_true (inR v 0 999) with h6 | h6
      · skip
        rcases Bool.eq_false_or_eq_true (x.kind == 2) with h7 | h7
        · skip
          have c8 := spec_l02Less_ret (v + x.a) 999
          rw [show changed x k v = (k, less (v + x.a) 999, true) from by grind [changed, itemOk, less, nodeOk, abOk]]
          exact spec_Changed_p3 _ _ _ _ _ _ _ _ _ _ ⟨c1, (by rw [h2]; rfl), c3, (by rw [h4]; rfl), c5, (by rw [h6]; rfl), h7, (by grind [nodeOk, abOk, inR, inInt, itemOk]), c8, trivial⟩
        · skip
          rcases Bool.eq_false_or_eq_true (x.kind == 4) with h9 | h9
          · skip
            rw [show changed x k v = ((k + x.a).tmod 100, v, true) from by grind [changed, itemOk, less, nodeOk, abOk]]
            exact spec_Changed_p4 _ _ _ _ _ _ _ _ _ ⟨c1, (by rw [h2]; rfl), c3, (by rw [h4]; rfl), c5, (by rw [h6]; rfl), h7, h9, (by grind [nodeOk, abOk, inR, inInt, itemOk]), (by grind [nodeOk, abOk, inR, inInt, itemOk]), trivial⟩
          · skip
            rcases Bool.eq_false_or_eq_true (x.kind == 3) with h10 | h10
            · skip
              rw [show changed x k v = (k, v, k.tmod x.a == x.b) from by grind [changed, itemOk, less, nodeOk, abOk]]
              exact spec_Changed_p5 _ _ _ _ _ _ _ _ _ ⟨c1, (by rw [h2]; rfl), c3, (by rw [h4]; rfl), c5, (by rw [h6]; rfl), h7, h9, h10, (by grind [nodeOk, abOk, inR, inInt, itemOk]), trivial⟩
            · skip
              rw [show changed x k v = (k, v, x.kind != 8) from by grind [changed, itemOk, less, nodeOk, abOk]]
              exact spec_Changed_p6 _ _ _ _ _ _ _ _ _ ⟨c1, (by rw [h2]; rfl), c3, (by rw [h4]; rfl), c5, (by rw [h6]; rfl), h7, h9, h10, trivial⟩
      · skip
        rw [show changed x k v = (k, v, false) from by grind [changed, itemOk, less, nodeOk, abOk]]
        exact spec_Changed_p2 _ _ _ _ _ _ _ _ _ ⟨c1, (by rw [h2]; rfl), c3, (by rw [h4]; rfl), c5, (by rw [h6]; rfl), trivial⟩
    · skip
      rw [show changed x k v = (k, v, false) from by grind [changed, itemOk, less, nodeOk, abOk]]
      exact spec_Changed_p1 _ _ _ _ _ _ _ _ ⟨c1, (by rw [h2]; rfl), c3, (by rw [h4]; rfl), trivial⟩
  · skip
    rw [show changed x k v = (k, v, false) from by grind [changed, itemOk, less, nodeOk, abOk]]
    exact spec_Changed_p0 _ _ _ _ _ _ _ ⟨c1, (by rw [h2]; rfl), trivial⟩

theorem impl_Changed_ret (x : Node) (k v : Int) (hx : x.outs.length ≤ 8388608) : Ret Try.prog 45 [.agg x.e, .one (I k), .one (I v)] [.one (I ((changed x k v).1)), .one (I ((changed x k v).2.1)), .one (B ((changed x k v).2.2))] := by
  have c1 := impl_NodeOk_ret x (by grind)
  rcases Bool.eq_false_or_eq_true (nodeOk x) with h2 | h2
  · skip
    have c3 := impl_itemOk_ret k v
    rcases Bool.eq_false_or_eq_true (itemOk k v) with h4 | h4
    · skip
      rcases Bool.eq_false_or_eq_true (x.kind == 2) with h5 | h5
      · skip
        rw [show changed x k v = (k, if v + x.a < 999 then v + x.a else 999, true) from by grind [changed, itemOk, less, nodeOk, abOk]]
        exact impl_Changed_p2 _ _ _ _ _ _ _ _ ⟨c1, (by rw [h2]; rfl), c3, (by rw [h4]; rfl), h5, (by grind [nodeOk, abOk, inR, inInt, itemOk]), trivial⟩
      · skip
        rcases Bool.eq_false_or_eq_true (x.kind == 4) with h6 | h6
        · skip
          rw [show changed x k v = ((k + x.a).tmod 100, v, true) from by grind [changed, itemOk, less, nodeOk, abOk]]
          exact impl_Changed_p3 _ _ _ _ _ _ _ _ ⟨c1, (by rw [h2]; rfl), c3, (by rw [h4]; rfl), h5, h6, (by grind [nodeOk, abOk, inR, inInt, itemOk]), (by grind [nodeOk, abOk, inR, inInt, itemOk]), trivial⟩
        · skip
          rcases Bool.eq_false_or_eq_true (x.kind == 3) with h7 | h7
          · skip
            rw [show changed x k v = (k, v, k.tmod x.a == x.b) from by grind [changed, itemOk, less, nodeOk, abOk]]
            exact impl_Changed_p4 _ _ _ _ _ _ _ _ ⟨c1, (by rw [h2]; rfl), c3, (by rw [h4]; rfl), h5, h6, h7, (by grind [nodeOk, abOk, inR, inInt, itemOk]), trivial⟩
          · skip
            rw [show changed x k v = (k, v, x.kind != 8) from by grind [changed, itemOk, less, nodeOk, abOk]]
            exact impl_Changed_p5 _ _ _ _ _ _ _ _ ⟨c1, (by rw [h2]; rfl), c3, (by rw [h4]; rfl), h5, h6, h7, trivial⟩
    · skip
      rw [show changed x k v = (k, v, false) from by grind [changed, itemOk, less, nodeOk, abOk]]
      exact impl_Changed_p1 _ _ _ _ _ _ _ _ ⟨c1, (by rw [h2]; rfl), c3, (by rw [h4]; rfl), trivial⟩
  · skip
    rw [show changed x k v = (k, v, false) from by grind [changed, itemOk, less, nodeOk, abOk]]
    exact impl_Changed_p0 _ _ _ _ _ _ _ ⟨c1, (by rw [h2]; rfl), trivial⟩

/-! ### LeastOf -/
def sameSlot (a b : Cell) : Bool := a.op == b.op && a.epoch == b.epoch && a.key == b.key
def leastStep (op ep key : Int) (s : Int × Bool) (a : Cell) : Int × Bool := if a.op = op ∧ a.epoch = ep ∧ a.key = key ∧ (s.2 = false ∨ a.val < s.1) then (a.val, true) else s
def leastOf (xs : List Cell) (op ep key : Int) : Int × Bool := xs.foldl (leastStep op ep key) (0, false)

theorem impl_sameSlot_ret (a b : Cell) : Ret Try.prog 89 [.agg a.e, .agg b.e] [.one (B (sameSlot a b))] := by
  rcases Bool.eq_false_or_eq_true (a.op == b.op) with h1 | h1
  · skip
    rcases Bool.eq_false_or_eq_true (a.epoch == b.epoch) with h2 | h2
    · skip
      rw [show sameSlot a b = (a.key == b.key) from by grind [sameSlot]]
      exact impl_sameSlot_p0 _ _ _ _ _ _ _ _ ⟨h1, h2, trivial⟩
    · skip
      rw [show sameSlot a b = false from by grind [sameSlot]]
      exact impl_sameSlot_p1 _ _ _ _ _ _ _ _ ⟨h1, h2, trivial⟩
  · skip
    rw [show sameSlot a b = false from by grind [sameSlot]]
    exact impl_sameSlot_p2 _ _ _ _ _ _ _ _ ⟨h1, trivial⟩

theorem spec_LeastOf_round (xs : List Cell) (hl : xs.length ≤ 8388608) (op ep key m : Int) (f : Bool) (i : Nat) (a : Cell) (ha : xs[i]? = some a) : Tr Try.prog (loopOf Try.f96 0) (spec_LeastOf_L0 (xs.map Cell.e) op ep key i f m) .normal (spec_LeastOf_L0 (xs.map Cell.e) op ep key ((i + 1 : Nat) : Int) (leastStep op ep key (m, f) a).2 (leastStep op ep key (m, f) a).1) := by
  have hj := lt_of ha
  have hk1 : xs[(i : Int).toNat]? = some a := by simpa using ha
  have hj1 : decide ((i : Int) < (↑(xs.map Cell.e).length : Int)) = true := lt1 hj
  rcases Bool.eq_false_or_eq_true (a.op == op) with h1 | h1
  · skip
    rcases Bool.eq_false_or_eq_true (a.epoch == ep) with h2 | h2
    · skip
      rcases Bool.eq_false_or_eq_true (a.key == key) with h3 | h3
      · skip
        rcases Bool.eq_false_or_eq_true (f) with h4 | h4
        · skip
          rcases Bool.eq_false_or_eq_true (decide (a.val < m)) with h5 | h5
          · skip
            rw [show leastStep op ep key (m, f) a = (a.val, true) from by grind [leastStep, sameSlot]]
            exact spec_LeastOf_L0_s1 _ _ _ _ _ _ _ _ _ _ _ ⟨hj1, (by grind [inInt]), (by grind [inInt]), (at_mapN Cell.e hk1), h1, h2, h3, (by rw [h4]; rfl), h5, (by grind [inInt]), trivial⟩
          · skip
            rw [show leastStep op ep key (m, f) a = (m, f) from by grind [leastStep, sameSlot]]
            exact spec_LeastOf_L0_s2 _ _ _ _ _ _ _ _ _ _ _ ⟨hj1, (by grind [inInt]), (by grind [inInt]), (at_mapN Cell.e hk1), h1, h2, h3, (by rw [h4]; rfl), h5, (by grind [inInt]), trivial⟩
        · skip
          rw [show leastStep op ep key (m, f) a = (a.val, true) from by grind [leastStep, sameSlot]]
          exact spec_LeastOf_L0_s0 _ _ _ _ _ _ _ _ _ _ _ ⟨hj1, (by grind [inInt]), (by grind [inInt]), (at_mapN Cell.e hk1), h1, h2, h3, (by rw [h4]; rfl), (by grind [inInt]), trivial⟩
      · skip
        rw [show leastStep op ep key (m, f) a = (m, f) from by grind [leastStep, sameSlot]]
        exact spec_LeastOf_L0_s3 _ _ _ _ _ _ _ _ _ _ _ ⟨hj1, (by grind [inInt]), (by grind [inInt]), (at_mapN Cell.e hk1), h1, h2, h3, (by grind [inInt]), trivial⟩
    · skip
      rw [show leastStep op ep key (m, f) a = (m, f) from by grind [leastStep, sameSlot]]
      exact spec_LeastOf_L0_s4 _ _ _ _ _ _ _ _ _ _ _ ⟨hj1, (by grind [inInt]), (by grind [inInt]), (at_mapN Cell.e hk1), h1, h2, (by grind [inInt]), trivial⟩
  · skip
    rw [show leastStep op ep key (m, f) a = (m, f) from by grind [leastStep, sameSlot]]
    exact spec_LeastOf_L0_s5 _ _ _ _ _ _ _ _ _ _ _ ⟨hj1, (by grind [inInt]), (by grind [inInt]), (at_mapN Cell.e hk1), h1, (by grind [inInt]), trivial⟩

theorem impl_LeastOf_round (xs : List Cell) (hl : xs.length ≤ 8388608) (op ep key m : Int) (f : Bool) (i : Nat) (a : Cell) (ha : xs[i]? = some a) : Tr Try.prog (loopOf Try.f86 0) (impl_LeastOf_L0 (xs.map Cell.e) op ep key i f m) .normal (impl_LeastOf_L0 (xs.map Cell.e) op ep key ((i + 1 : Nat) : Int) (leastStep op ep key (m, f) a).2 (leastStep op ep key (m, f) a).1) := by
  have hj := lt_of ha
  have hk1 : xs[(i : Int).toNat]? = some a := by simpa using ha
  have hj1 : decide ((i : Int) < (↑(xs.map Cell.e).length : Int)) = true := lt1 hj
  have c1 := impl_sameSlot_ret a (⟨op, ep, key, 0⟩ : Cell)
  rcases Bool.eq_false_or_eq_true (sameSlot a (⟨op, ep, key, 0⟩ : Cell)) with h2 | h2
  · skip
    rcases Bool.eq_false_or_eq_true (f) with h3 | h3
    · skip
      rcases Bool.eq_false_or_eq_true (decide (a.val < m)) with h4 | h4
      · skip
        rw [show leastStep op ep key (m, f) a = (a.val, true) from by grind [leastStep, sameSlot]]
        exact impl_LeastOf_L0_s1 _ _ _ _ _ _ _ _ _ _ _ _ ⟨hj1, (by grind [inInt]), (by grind [inInt]), (at_mapN Cell.e hk1), c1, h2, (by rw [h3]; rfl), h4, (by grind [inInt]), trivial⟩
      · skip
        rw [show leastStep op ep key (m, f) a = (m, f) from by grind [leastStep, sameSlot]]
        exact impl_LeastOf_L0_s2 _ _ _ _ _ _ _ _ _ _ _ _ ⟨hj1, (by grind [inInt]), (by grind [inInt]), (at_mapN Cell.e hk1), c1, h2, (by rw [h3]; rfl), h4, (by grind [inInt]), trivial⟩
    · skip
      rw [show leastStep op ep key (m, f) a = (a.val, true) from by grind [leastStep, sameSlot]]
      exact impl_LeastOf_L0_s0 _ _ _ _ _ _ _ _ _ _ _ _ ⟨hj1, (by grind [inInt]), (by grind [inInt]), (at_mapN Cell.e hk1), c1, h2, (by rw [h3]; rfl), (by grind [inInt]), trivial⟩
  · skip
    rw [show leastStep op ep key (m, f) a = (m, f) from by grind [leastStep, sameSlot]]
    exact impl_LeastOf_L0_s3 _ _ _ _ _ _ _ _ _ _ _ _ ⟨hj1, (by grind [inInt]), (by grind [inInt]), (at_mapN Cell.e hk1), c1, h2, (by grind [inInt]), trivial⟩

theorem spec_LeastOf_ret (xs : List Cell) (op ep key : Int) (hl : xs.length ≤ 8388608) : Ret Try.prog 96 [.one (.sl 4 (xs.map Cell.e)), .one (I op), .one (I ep), .one (I key)] [.one (I (leastOf xs op ep key).1), .one (B (leastOf xs op ep key).2)] := by
  have l := loop_upto (P := Try.prog) (c := (loopOf Try.f96 0)) (exit_ne 0) xs.length (fun i : Nat => spec_LeastOf_L0 (xs.map Cell.e) op ep key i (foldTo (leastStep op ep key) (0, false) xs i).2 (foldTo (leastStep op ep key) (0, false) xs i).1) (fun i hi => by
    obtain ⟨a, ha⟩ := get_of hi
    rw [foldTo_succ ha]
    exact spec_LeastOf_round xs hl op ep key _ _ i a ha) (spec_LeastOf_L0_x6 _ _ _ _ _ _ _ ⟨ge1, trivial⟩)
  rw [foldTo_all] at l
  exact spec_LeastOf_p0 _ _ _ _ _ _ ⟨l, trivial⟩

theorem impl_LeastOf_ret (xs : List Cell) (op ep key : Int) (hl : xs.length ≤ 8388608) : Ret Try.prog 86 [.one (.sl 4 (xs.map Cell.e)), .one (I op), .one (I ep), .one (I key)] [.one (I (leastOf xs op ep key).1), .one (B (leastOf xs op ep key).2)] := by
  have l := loop_upto (P := Try.prog) (c := (loopOf Try.f86 0)) (exit_ne 0) xs.length (fun i : Nat => impl_LeastOf_L0 (xs.map Cell.e) op ep key i (foldTo (leastStep op ep key) (0, false) xs i).2 (foldTo (leastStep op ep key) (0, false) xs i).1) (fun i hi => by
    obtain ⟨a, ha⟩ := get_of hi
    rw [foldTo_succ ha]
    exact impl_LeastOf_round xs hl op ep key _ _ i a ha) (impl_LeastOf_L0_x4 _ _ _ _ _ _ _ ⟨ge1, trivial⟩)
  rw [foldTo_all] at l
  exact impl_LeastOf_p0 _ _ _ _ _ _ ⟨l, trivial⟩

end Go.Proofs.Ytenekpkjlgddnaa

namespace Go.Proofs.Ytenekpkjlgddnaa
open Go.Sx Go.RowKit

theorem retG_to {P : Program} {f : Nat} {args : List GA} {k : Nat} {l l' : List (List D)} (h : RetG P f args [.one (.sl k l)]) (hl : l = l') : RetG P f args [.one (.sl k l')] := hl ▸ h

theorem del_loop (xs : List Cell) (p : Cell → Bool) (g : Nat) (caps : List D) (hl : xs.length ≤ 8388608) (hc : canCall Try.prog g = true) (hp : ∀ x ∈ xs, ∀ r, p x = r → Ret Try.prog g ([.agg x.e] ++ caps.map .one) [.one (B r)]) :
    ∀ (n i : Nat) (ys : List Cell), n + i = xs.length → ys.length = xs.length → ys.drop i = xs.drop i → ys.take ((xs.take i).filter fun a => !p a).length = (xs.take i).filter (fun a => !p a) →
    ∃ zs : List Cell, LoopOk Try.prog (loopOf Try.f87 0) (slices_DeleteFunc_Cell_L0 g caps i ((xs.take i).filter fun a => !p a).length (ys.map Cell.e)) (.exit 0) (slices_DeleteFunc_Cell_X0 (zs.map Cell.e) (xs.filter fun a => !p a).length) ∧ zs.length = xs.length ∧ zs.take (xs.filter fun a => !p a).length = xs.filter (fun a => !p a)
  | 0, i, ys, hi, hy, _, ht => by
    have e : xs.take i = xs := List.take_of_length_le (by omega)
    rw [e] at ht ⊢
    exact ⟨ys, .last (exit_ne 0) (slices_DeleteFunc_Cell_L0_x2 _ _ _ _ _ ⟨dF (by simp; omega), trivial⟩), hy, ht⟩
  | n + 1, i, ys, hi, hy, hd, ht => by
    obtain ⟨a, ha⟩ := get_of (xs := xs) (i := i) (by omega)
    have hya : ys[i]? = some a := by
      have e1 : ys[i]? = (ys.drop i)[0]? := by simp
      have e2 : xs[i]? = (xs.drop i)[0]? := by simp
      rw [e1, hd, ← e2, ha]
    have hf := filter_take (fun a => !p a) ha
    have hle := filt_len (fun a => !p a) xs i
    have hdn : ys.drop (i + 1) = xs.drop (i + 1) := by
      have := congrArg (List.drop 1) hd
      simpa [List.drop_drop, Nat.add_comm] using this
    cases h : p a with
    | true =>
      rw [h] at hf
      simp only [Bool.not_true, Bool.false_eq_true, if_false, List.append_nil] at hf
      obtain ⟨zs, h1, h2, h3⟩ := del_loop xs p g caps hl hc hp n (i + 1) ys (by omega) hy hdn (by rw [hf]; exact ht)
      rw [hf] at h1
      exact ⟨zs, .more (slices_DeleteFunc_Cell_L0_s1 _ _ _ _ _ _ _ _ _ _ ⟨dT (by simp; omega), lt0, by simp; omega, at_map Cell.e hya, hc, hp a (mem_of ha) true h, rfl, ⟨by omega, by omega⟩, trivial⟩) h1, h2, h3⟩
    | false =>
      rw [h] at hf
      simp only [Bool.not_false, if_true] at hf
      generalize hj : ((xs.take i).filter fun a => !p a).length = j at *
      obtain ⟨b, hb⟩ := get_of (xs := ys) (i := j) (by omega)
      obtain ⟨zs, h1, h2, h3⟩ := del_loop xs p g caps hl hc hp n (i + 1) (ys.set j a) (by omega) (by simpa using hy) (by rw [List.drop_set_of_lt (by omega)]; exact hdn) (by
        rw [hf, List.length_append, hj, List.length_singleton, List.take_set, ← ht]
        have hjl : j < ys.length := by omega
        rw [List.take_succ_eq_append_getElem hjl, List.set_append_right _ _ (by simp; omega)]
        simp [List.length_take, Nat.min_eq_left (Nat.le_of_lt hjl)])
      rw [hf, List.length_append, hj, List.length_singleton] at h1
      refine ⟨zs, .more (tr_to (fun l => slices_DeleteFunc_Cell_L0 g caps ((i + 1 : Nat) : Int) ((j + 1 : Nat) : Int) l) (slices_DeleteFunc_Cell_L0_s0 _ _ _ _ _ _ _ _ _ _ _ _ _ _ ⟨dT (by simp; omega), lt0, by simp; omega, at_map Cell.e hya, hc, hp a (mem_of ha) false h, rfl, lt0, by simp; omega, at_map Cell.e hb, ⟨by omega, by omega⟩, ⟨by omega, by omega⟩, trivial⟩) ?_) h1, h2, h3⟩
      show List.set _ _ a.e = _
      rw [Int.toNat_natCast, ← List.map_set]

theorem slices_DeleteFunc_Cell_ret (xs : List Cell) (p : Cell → Bool) (g : Nat) (caps : List D) (hl : xs.length ≤ 8388608) (hc : canCall Try.prog g = true) (hp : ∀ x ∈ xs, Ret Try.prog g ([.agg x.e] ++ caps.map .one) [.one (B (p x))]) :
    RetG Try.prog 87 [.one (.gv 4 (xs.map Cell.e) none), .one (.ro (.cl g caps))] [.one (.sl 4 ((xs.filter fun a => !p a).map Cell.e))] := by
  have hp' : ∀ x ∈ xs, ∀ r, p x = r → Ret Try.prog g ([.agg x.e] ++ caps.map .one) [.one (B r)] := fun x hx r h => h ▸ hp x hx
  have ix := slices_IndexFunc_Cell_ret xs p g caps hl hc hp
  unfold idxI at ix
  cases h : xs.findIdx? p with
  | none =>
    rw [h] at ix
    rw [List.findIdx?_eq_none_iff] at h
    have e : (xs.filter fun a => !p a) = xs := List.filter_eq_self.2 fun a ha => by simp [h a ha]
    rw [e]
    exact slices_DeleteFunc_Cell_p0 _ _ _ _ ⟨ix, rfl, trivial⟩
  | some i =>
    rw [h] at ix
    change Ret _ _ _ [.one (I (i : Int))] at ix
    rw [List.findIdx?_eq_some_iff_getElem] at h
    obtain ⟨hi, h2, h3⟩ := h
    have hx : xs[i]? = some xs[i] := List.getElem?_eq_getElem hi
    have e0 : (xs.take i).filter (fun a => !p a) = xs.take i := List.filter_eq_self.2 fun a ha => by
      obtain ⟨j, hj, rfl⟩ := List.getElem_of_mem ha
      have hji : j < i := by simp at hj; omega
      have := h3 j hji
      simpa using this
    have e1 := filter_take (fun a => !p a) hx
    rw [h2] at e1
    simp only [Bool.not_true, Bool.false_eq_true, if_false, List.append_nil] at e1
    rw [e0] at e1
    have e2 : (xs.take i).length = i := by rw [List.length_take]; omega
    obtain ⟨zs, l, hz, ht⟩ := del_loop xs p g caps hl hc hp' (xs.length - (i + 1)) (i + 1) xs (by omega) rfl rfl (by rw [e1, e2])
    rw [e1, e2] at l
    have hlt : (xs.filter fun a => !p a).length < xs.length := by
      have e3 : xs.filter (fun a => !p a) = xs.take i ++ (xs.drop (i + 1)).filter fun a => !p a := by
        have := List.take_append_drop (i + 1) xs
        rw [← this, List.filter_append, this, e1]
      rw [e3, List.length_append, e2]
      have := List.length_filter_le (fun a => !p a) (xs.drop (i + 1))
      rw [List.length_drop] at this
      omega
    generalize xs.filter (fun a => !p a) = fs at *
    refine retG_to (slices_DeleteFunc_Cell_p1 _ _ _ _ _ _ ⟨ix, beq_eq_false_iff_ne.2 (by omega), ⟨by omega, by omega⟩, l, by simp, by simp; omega, flat_map _ Cell.flat _, by simp, by simp, by simp; omega, trivial⟩) ?_
    simp only [Option.getD_some, Int.toNat_natCast, Nat.sub_zero, List.drop_zero, ← List.map_take]
    rw [ht, List.take_append_of_le_length (by simp), List.take_of_length_le (by simp)]

/-! ### Recall -/
def remembers (k : Int) : Bool := k == 5 || k == 6 || k == 8
def better (xs : List Cell) (x : Cell) : List Cell × Bool :=
  if (leastOf xs x.op x.epoch x.key).2 && decide ((leastOf xs x.op x.epoch x.key).1 ≤ x.val) then (xs, false) else (putCell (xs.filter fun a => !sameSlot x a) x, true)
def recall (kind : Int) (xs : List Cell) (x : Cell) : List Cell × Bool :=
  if kind = 6 then (if hasCell xs x then (xs, false) else (putCell xs x, true))
  else if kind = 5 ∨ kind = 8 then better xs x
  else (xs, true)

theorem spec_Remembers_ret (k : Int) : Ret Try.prog 77 [.one (I k)] [.one (B (remembers k))] := by
  rcases Bool.eq_false_or_eq_true (k == 5) with h1 | h1
  · skip
    rw [show remembers k = true from by grind [remembers]]
    exact spec_Remembers_p0 _ ⟨h1, trivial⟩
  · skip
    rcases Bool.eq_false_or_eq_true (k == 6) with h2 | h2
    · skip
      rw [show remembers k = true from by grind [remembers]]
      exact spec_Remembers_p1 _ ⟨h1, h2, trivial⟩
    · skip
      rw [show remembers k = (k == 8) from by grind [remembers]]
      exact spec_Remembers_p2 _ ⟨h1, h2, trivial⟩

theorem impl_better_ret (xs : List Cell) (x : Cell) (hl : xs.length ≤ 8388608) : Ret Try.prog 67 [.one (.sl 4 (xs.map Cell.e)), .agg x.e] [.one (.sl 4 ((better xs x).1.map Cell.e)), .one (B (better xs x).2)] := by
  have c := impl_LeastOf_ret xs x.op x.epoch x.key hl
  have cp := impl_copyCells_ret xs hl
  have d := slices_DeleteFunc_Cell_ret xs (sameSlot x) 88 [D.ptr x.e] hl (by kernel_rfl) (fun y _ => impl_better_1_p0 _ _ _ _ _ _ _ _ _ ⟨impl_sameSlot_ret x y, trivial⟩)
  have pc := impl_PutCell_ret (xs.filter fun a => !sameSlot x a) x (Nat.le_trans (List.length_filter_le ..) hl)
  unfold better
  generalize leastOf xs x.op x.epoch x.key = m at *
  obtain ⟨v, f⟩ := m
  cases f with
  | false => exact impl_better_p2 _ _ _ _ _ _ _ _ _ _ ⟨c, rfl, cp, d, pc, trivial⟩
  | true =>
    by_cases h : v ≤ x.val
    · rw [dT h]
      exact impl_better_p0 _ _ _ _ _ _ _ _ ⟨c, rfl, dT h, cp, trivial⟩
    · rw [dF h]
      exact impl_better_p1 _ _ _ _ _ _ _ _ _ _ ⟨c, rfl, dF h, cp, d, pc, trivial⟩

theorem spec_Recall_round (xs acc : List Cell) (x : Cell) (hl : xs.length ≤ 8388608) (i : Nat) (hc : acc.length ≤ i) (a : Cell) (ha : xs[i]? = some a) : Tr Try.prog (loopOf Try.f78 0) (spec_Recall_L0 (xs.map Cell.e) x.op x.epoch x.key x.val i (acc.map Cell.e)) .normal (spec_Recall_L0 (xs.map Cell.e) x.op x.epoch x.key x.val ((i + 1 : Nat) : Int) ((acc ++ (bif sameSlot x a then [] else [a])).map Cell.e)) := by
  have hj := lt_of ha
  have hk1 : xs[(i : Int).toNat]? = some a := by simpa using ha
  have hj1 : decide ((i : Int) < (↑(xs.map Cell.e).length : Int)) = true := lt1 hj
  rcases Bool.eq_false_or_eq_true (a.op != x.op) with h1 | h1
  · skip
    have hs : sameSlot x a = false := by grind [sameSlot]
    rw [hs]
    rw [show (acc ++ (bif false then [] else [a])).map Cell.e = acc.map Cell.e ++ [a.e] from by simp]
    exact spec_Recall_L0_s0 _ _ _ _ _ _ _ _ _ _ _ _ _ _ _ ⟨hj1, (by first | omega | (simp only [List.length_map, List.length_cons, List.length_nil]; omega) | exact flat_one a.flat | (exact ⟨by omega, by omega⟩)), (by first | omega | (simp only [List.length_map, List.length_cons, List.length_nil]; omega) | exact flat_one a.flat | (exact ⟨by omega, by omega⟩)), (at_mapN Cell.e hk1), h1, (by first | omega | (simp only [List.length_map, List.length_cons, List.length_nil]; omega) | exact flat_one a.flat | (exact ⟨by omega, by omega⟩)), (by first | omega | (simp only [List.length_map, List.length_cons, List.length_nil]; omega) | exact flat_one a.flat | (exact ⟨by omega, by omega⟩)), (at_mapN Cell.e hk1), (by first | omega | (simp only [List.length_map, List.length_cons, List.length_nil]; omega) | exact flat_one a.flat | (exact ⟨by omega, by omega⟩)), (by first | omega | (simp only [List.length_map, List.length_cons, List.length_nil]; omega) | exact flat_one a.flat | (exact ⟨by omega, by omega⟩)), (by first | omega | (simp only [List.length_map, List.length_cons, List.length_nil]; omega) | exact flat_one a.flat | (exact ⟨by omega, by omega⟩)), (by first | omega | (simp only [List.length_map, List.length_cons, List.length_nil]; omega) | exact flat_one a.flat | (exact ⟨by omega, by omega⟩)), trivial⟩
  · skip
    rcases Bool.eq_false_or_eq_true (a.epoch != x.epoch) with h2 | h2
    · skip
      have hs : sameSlot x a = false := by grind [sameSlot]
      rw [hs]
      rw [show (acc ++ (bif false then [] else [a])).map Cell.e = acc.map Cell.e ++ [a.e] from by simp]
      exact spec_Recall_L0_s1 _ _ _ _ _ _ _ _ _ _ _ _ _ _ _ _ _ _ _ ⟨hj1, (by first | omega | (simp only [List.length_map, List.length_cons, List.length_nil]; omega) | exact flat_one a.flat | (exact ⟨by omega, by omega⟩)), (by first | omega | (simp only [List.length_map, List.length_cons, List.length_nil]; omega) | exact flat_one a.flat | (exact ⟨by omega, by omega⟩)), (at_mapN Cell.e hk1), h1, (by first | omega | (simp only [List.length_map, List.length_cons, List.length_nil]; omega) | exact flat_one a.flat | (exact ⟨by omega, by omega⟩)), (by first | omega | (simp only [List.length_map, List.length_cons, List.length_nil]; omega) | exact flat_one a.flat | (exact ⟨by omega, by omega⟩)), (at_mapN Cell.e hk1), h2, (by first | omega | (simp only [List.length_map, List.length_cons, List.length_nil]; omega) | exact flat_one a.flat | (exact ⟨by omega, by omega⟩)), (by first | omega | (simp only [List.length_map, List.length_cons, List.length_nil]; omega) | exact flat_one a.flat | (exact ⟨by omega, by omega⟩)), (at_mapN Cell.e hk1), (by first | omega | (simp only [List.length_map, List.length_cons, List.length_nil]; omega) | exact flat_one a.flat | (exact ⟨by omega, by omega⟩)), (by first | omega | (simp only [List.length_map, List.length_cons, List.length_nil]; omega) | exact flat_one a.flat | (exact ⟨by omega, by omega⟩)), (by first | omega | (simp only [List.length_map, List.length_cons, List.length_nil]; omega) | exact flat_one a.flat | (exact ⟨by omega, by omega⟩)), (by first | omega | (simp only [List.length_map, List.length_cons, List.length_nil]; omega) | exact flat_one a.flat | (exact ⟨by omega, by omega⟩)), trivial⟩
    · skip
      rcases Bool.eq_false_or_eq_true (a.key != x.key) with h3 | h3
      · skip
        have hs : sameSlot x a = false := by grind [sameSlot]
        rw [hs]
        rw [show (acc ++ (bif false then [] else [a])).map Cell.e = acc.map Cell.e ++ [a.e] from by simp]
        exact spec_Recall_L0_s2 _ _ _ _ _ _ _ _ _ _ _ _ _ _ _ _ _ _ _ _ _ _ _ ⟨hj1, (by first | omega | (simp only [List.length_map, List.length_cons, List.length_nil]; omega) | exact flat_one a.flat | (exact ⟨by omega, by omega⟩)), (by first | omega | (simp only [List.length_map, List.length_cons, List.length_nil]; omega) | exact flat_one a.flat | (exact ⟨by omega, by omega⟩)), (at_mapN Cell.e hk1), h1, (by first | omega | (simp only [List.length_map, List.length_cons, List.length_nil]; omega) | exact flat_one a.flat | (exact ⟨by omega, by omega⟩)), (by first | omega | (simp only [List.length_map, List.length_cons, List.length_nil]; omega) | exact flat_one a.flat | (exact ⟨by omega, by omega⟩)), (at_mapN Cell.e hk1), h2, (by first | omega | (simp only [List.length_map, List.length_cons, List.length_nil]; omega) | exact flat_one a.flat | (exact ⟨by omega, by omega⟩)), (by first | omega | (simp only [List.length_map, List.length_cons, List.length_nil]; omega) | exact flat_one a.flat | (exact ⟨by omega, by omega⟩)), (at_mapN Cell.e hk1), h3, (by first | omega | (simp only [List.length_map, List.length_cons, List.length_nil]; omega) | exact flat_one a.flat | (exact ⟨by omega, by omega⟩)), (by first | omega | (simp only [List.length_map, List.length_cons, List.length_nil]; omega) | exact flat_one a.flat | (exact ⟨by omega, by omega⟩)), (at_mapN Cell.e hk1), (by first | omega | (simp only [List.length_map, List.length_cons, List.length_nil]; omega) | exact flat_one a.flat | (exact ⟨by omega, by omega⟩)), (by first | omega | (simp only [List.length_map, List.length_cons, List.length_nil]; omega) | exact flat_one a.flat | (exact ⟨by omega, by omega⟩)), (by first | omega | (simp only [List.length_map, List.length_cons, List.length_nil]; omega) | exact flat_one a.flat | (exact ⟨by omega, by omega⟩)), (by first | omega | (simp only [List.length_map, List.length_cons, List.length_nil]; omega) | exact flat_one a.flat | (exact ⟨by omega, by omega⟩)), trivial⟩
      · skip
        have hs : sameSlot x a = true := by grind [sameSlot]
        rw [hs]
        rw [show (acc ++ (bif true then [] else [a])).map Cell.e = acc.map Cell.e from by simp]
        exact spec_Recall_L0_s3 _ _ _ _ _ _ _ _ _ _ _ _ _ _ _ _ _ _ _ ⟨hj1, (by first | omega | (simp only [List.length_map, List.length_cons, List.length_nil]; omega) | exact flat_one a.flat | (exact ⟨by omega, by omega⟩)), (by first | omega | (simp only [List.length_map, List.length_cons, List.length_nil]; omega) | exact flat_one a.flat | (exact ⟨by omega, by omega⟩)), (at_mapN Cell.e hk1), h1, (by first | omega | (simp only [List.length_map, List.length_cons, List.length_nil]; omega) | exact flat_one a.flat | (exact ⟨by omega, by omega⟩)), (by first | omega | (simp only [List.length_map, List.length_cons, List.length_nil]; omega) | exact flat_one a.flat | (exact ⟨by omega, by omega⟩)), (at_mapN Cell.e hk1), h2, (by first | omega | (simp only [List.length_map, List.length_cons, List.length_nil]; omega) | exact flat_one a.flat | (exact ⟨by omega, by omega⟩)), (by first | omega | (simp only [List.length_map, List.length_cons, List.length_nil]; omega) | exact flat_one a.flat | (exact ⟨by omega, by omega⟩)), (at_mapN Cell.e hk1), h3, (by first | omega | (simp only [List.length_map, List.length_cons, List.length_nil]; omega) | exact flat_one a.flat | (exact ⟨by omega, by omega⟩)), trivial⟩

theorem filter_bif (p : Cell → Bool) {xs : List Cell} {i : Nat} {a : Cell} (h : xs[i]? = some a) : (xs.take (i + 1)).filter (fun b => !p b) = (xs.take i).filter (fun b => !p b) ++ (bif p a then [] else [a]) := by
  rw [filter_take _ h]
  cases p a <;> rfl

theorem spec_Recall_loop (xs : List Cell) (x : Cell) (hl : xs.length ≤ 8388608) : LoopOk Try.prog (loopOf Try.f78 0) (spec_Recall_L0 (xs.map Cell.e) x.op x.epoch x.key x.val 0 []) (.exit 1) (spec_Recall_X0 x.op x.epoch x.key x.val ((xs.filter fun a => !sameSlot x a).map Cell.e)) := by
  have l := loop_upto (P := Try.prog) (c := (loopOf Try.f78 0)) (exit_ne 1) xs.length (fun i : Nat => spec_Recall_L0 (xs.map Cell.e) x.op x.epoch x.key x.val i (((xs.take i).filter fun a => !sameSlot x a).map Cell.e)) (fun i hi => by
    obtain ⟨a, ha⟩ := get_of hi
    rw [filter_bif (sameSlot x) ha]
    exact spec_Recall_round xs _ x hl i (filt_len _ xs i) a ha) (spec_Recall_L0_x4 _ _ _ _ _ _ _ ⟨ge1, trivial⟩)
  rw [List.take_length] at l
  exact l

theorem spec_Recall_ret (kind : Int) (xs : List Cell) (x : Cell) (hl : xs.length ≤ 8388608) : Ret Try.prog 78 [.one (I kind), .one (.sl 4 (xs.map Cell.e)), .agg x.e] [.one (.sl 4 (((recall kind xs x).1).map Cell.e)), .one (B ((recall kind xs x).2))] := by
  have hf := List.length_filter_le (fun a => !sameSlot x a) xs
  rcases Bool.eq_false_or_eq_true (kind == 6) with h1 | h1
  · skip
    have c2 := spec_HasCell_ret xs x (by omega)
    rcases Bool.eq_false_or_eq_true (hasCell xs x) with h3 | h3
    · skip
      rw [show recall kind xs x = (xs, false) from by grind [recall, better]]
      exact spec_Recall_p0 _ _ _ _ _ _ _ ⟨(by first | omega | (simp only [List.length_map, List.length_nil]; omega) | exact flat_map _ Cell.flat _ | grind [inInt]), (by first | omega | (simp only [List.length_map, List.length_nil]; omega) | exact flat_map _ Cell.flat _ | grind [inInt]), (by first | omega | (simp only [List.length_map, List.length_nil]; omega) | exact flat_map _ Cell.flat _ | grind [inInt]), h1, c2, h3, trivial⟩
    · skip
      have c4 := spec_PutCell_ret xs x (by omega)
      rw [show recall kind xs x = ((putCell xs x), true) from by grind [recall, better]]
      exact spec_Recall_p1 _ _ _ _ _ _ _ _ ⟨(by first | omega | (simp only [List.length_map, List.length_nil]; omega) | exact flat_map _ Cell.flat _ | grind [inInt]), (by first | omega | (simp only [List.length_map, List.length_nil]; omega) | exact flat_map _ Cell.flat _ | grind [inInt]), (by first | omega | (simp only [List.length_map, List.length_nil]; omega) | exact flat_map _ Cell.flat _ | grind [inInt]), h1, c2, h3, c4, trivial⟩
  · skip
    rcases Bool.eq_false_or_eq_true (kind == 5) with h5 | h5
    · skip
      have c6 := spec_LeastOf_ret xs x.op x.epoch x.key (by omega)
      rcases Bool.eq_false_or_eq_true ((leastOf xs x.op x.epoch x.key).2) with h7 | h7
      · skip
        rcases Bool.eq_false_or_eq_true (decide (((leastOf xs x.op x.epoch x.key).1) ≤ x.val)) with h8 | h8
        · skip
          rw [show recall kind xs x = (xs, false) from by grind [recall, better]]
          exact spec_Recall_p2 _ _ _ _ _ _ _ _ ⟨(by first | omega | (simp only [List.length_map, List.length_nil]; omega) | exact flat_map _ Cell.flat _ | grind [inInt]), (by first | omega | (simp only [List.length_map, List.length_nil]; omega) | exact flat_map _ Cell.flat _ | grind [inInt]), (by first | omega | (simp only [List.length_map, List.length_nil]; omega) | exact flat_map _ Cell.flat _ | grind [inInt]), h1, h5, h5, c6, h7, h8, trivial⟩
        · skip
          
          have c9 := spec_PutCell_ret (xs.filter fun a => !sameSlot x a) x (by omega)
          rw [show recall kind xs x = ((putCell (xs.filter fun a => !sameSlot x a) x), true) from by grind [recall, better]]
          exact spec_Recall_p3 _ _ _ _ _ _ _ _ _ _ ⟨(by first | omega | (simp only [List.length_map, List.length_nil]; omega) | exact flat_map _ Cell.flat _ | grind [inInt]), (by first | omega | (simp only [List.length_map, List.length_nil]; omega) | exact flat_map _ Cell.flat _ | grind [inInt]), (by first | omega | (simp only [List.length_map, List.length_nil]; omega) | exact flat_map _ Cell.flat _ | grind [inInt]), h1, h5, h5, c6, h7, h8, (spec_Recall_loop xs x hl), c9, trivial⟩
      · skip
        
        have c10 := spec_PutCell_ret (xs.filter fun a => !sameSlot x a) x (by omega)
        rw [show recall kind xs x = ((putCell (xs.filter fun a => !sameSlot x a) x), true) from by grind [recall, better]]
        exact spec_Recall_p4 _ _ _ _ _ _ _ _ _ _ ⟨(by first | omega | (simp only [List.length_map, List.length_nil]; omega) | exact flat_map _ Cell.flat _ | grind [inInt]), (by first | omega | (simp only [List.length_map, List.length_nil]; omega) | exact flat_map _ Cell.flat _ | grind [inInt]), (by first | omega | (simp only [List.length_map, List.length_nil]; omega) | exact flat_map _ Cell.flat _ | grind [inInt]), h1, h5, h5, c6, h7, (spec_Recall_loop xs x hl), c10, trivial⟩
    · skip
      rcases Bool.eq_false_or_eq_true (kind == 8) with h11 | h11
      · skip
        have c12 := spec_LeastOf_ret xs x.op x.epoch x.key (by omega)
        rcases Bool.eq_false_or_eq_true ((leastOf xs x.op x.epoch x.key).2) with h13 | h13
        · skip
          rcases Bool.eq_false_or_eq_true (decide (((leastOf xs x.op x.epoch x.key).1) ≤ x.val)) with h14 | h14
          · skip
            rw [show recall kind xs x = (xs, false) from by grind [recall, better]]
            exact spec_Recall_p5 _ _ _ _ _ _ _ _ ⟨(by first | omega | (simp only [List.length_map, List.length_nil]; omega) | exact flat_map _ Cell.flat _ | grind [inInt]), (by first | omega | (simp only [List.length_map, List.length_nil]; omega) | exact flat_map _ Cell.flat _ | grind [inInt]), (by first | omega | (simp only [List.length_map, List.length_nil]; omega) | exact flat_map _ Cell.flat _ | grind [inInt]), h1, h5, h11, c12, h13, h14, trivial⟩
          · skip
            
            have c15 := spec_PutCell_ret (xs.filter fun a => !sameSlot x a) x (by omega)
            rw [show recall kind xs x = ((putCell (xs.filter fun a => !sameSlot x a) x), true) from by grind [recall, better]]
            exact spec_Recall_p6 _ _ _ _ _ _ _ _ _ _ ⟨(by first | omega | (simp only [List.length_map, List.length_nil]; omega) | exact flat_map _ Cell.flat _ | grind [inInt]), (by first | omega | (simp only [List.length_map, List.length_nil]; omega) | exact flat_map _ Cell.flat _ | grind [inInt]), (by first | omega | (simp only [List.length_map, List.length_nil]; omega) | exact flat_map _ Cell.flat _ | grind [inInt]), h1, h5, h11, c12, h13, h14, (spec_Recall_loop xs x hl), c15, trivial⟩
        · skip
          
          have c16 := spec_PutCell_ret (xs.filter fun a => !sameSlot x a) x (by omega)
          rw [show recall kind xs x = ((putCell (xs.filter fun a => !sameSlot x a) x), true) from by grind [recall, better]]
          exact spec_Recall_p7 _ _ _ _ _ _ _ _ _ _ ⟨(by first | omega | (simp only [List.length_map, List.length_nil]; omega) | exact flat_map _ Cell.flat _ | grind [inInt]), (by first | omega | (simp only [List.length_map, List.length_nil]; omega) | exact flat_map _ Cell.flat _ | grind [inInt]), (by first | omega | (simp only [List.length_map, List.length_nil]; omega) | exact flat_map _ Cell.flat _ | grind [inInt]), h1, h5, h11, c12, h13, (spec_Recall_loop xs x hl), c16, trivial⟩
      · skip
        rw [show recall kind xs x = (xs, true) from by grind [recall, better]]
        exact spec_Recall_p8 _ _ _ _ _ _ ⟨(by first | omega | (simp only [List.length_map, List.length_nil]; omega) | exact flat_map _ Cell.flat _ | grind [inInt]), (by first | omega | (simp only [List.length_map, List.length_nil]; omega) | exact flat_map _ Cell.flat _ | grind [inInt]), (by first | omega | (simp only [List.length_map, List.length_nil]; omega) | exact flat_map _ Cell.flat _ | grind [inInt]), h1, h5, h11, trivial⟩

theorem impl_Recall_ret (kind : Int) (xs : List Cell) (x : Cell) (hl : xs.length ≤ 8388608) : Ret Try.prog 46 [.one (I kind), .one (.sl 4 (xs.map Cell.e)), .agg x.e] [.one (.sl 4 (((recall kind xs x).1).map Cell.e)), .one (B ((recall kind xs x).2))] := by
  rcases Bool.eq_false_or_eq_true (kind == 5) with h1 | h1
  · skip
    have c2 := impl_better_ret xs x (by omega)
    rw [show recall kind xs x = (((better xs x).1), (better xs x).2) from by grind [recall, better, putCell]]
    exact impl_Recall_p0 _ _ _ _ _ _ _ _ ⟨h1, h1, c2, trivial⟩
  · skip
    rcases Bool.eq_false_or_eq_true (kind == 8) with h3 | h3
    · skip
      have c4 := impl_better_ret xs x (by omega)
      rw [show recall kind xs x = (((better xs x).1), (better xs x).2) from by grind [recall, better, putCell]]
      exact impl_Recall_p1 _ _ _ _ _ _ _ _ ⟨h1, h3, c4, trivial⟩
    · skip
      rcases Bool.eq_false_or_eq_true (kind == 6) with h5 | h5
      · skip
        have c6 := impl_PutCell_ret xs x (by omega)
        have c7 := impl_HasCell_ret xs x (by omega)
        rw [show recall kind xs x = ((putCell xs x), !(hasCell xs x)) from by grind [recall, better, putCell]]
        exact impl_Recall_p2 _ _ _ _ _ _ _ _ ⟨h1, h3, h5, c6, c7, trivial⟩
      · skip
        have c8 := impl_copyCells_ret xs (by omega)
        rw [show recall kind xs x = (xs, true) from by grind [recall, better, putCell]]
        exact impl_Recall_p3 _ _ _ _ _ _ _ ⟨h1, h3, h5, c8, trivial⟩

/-! ### StepOp -/
def sends (x : Node) (s : Stamp) (key val : Int) : List Record := x.outs.map fun k => ⟨k, s, key, val⟩
def cellOf (r : Record) : Cell := ⟨r.op, r.stamp.epoch, r.key, r.val⟩
def stepAt (g : Graph) (cs : List Cell) (r : Record) (x : Node) : List Cell × List Record × Bool :=
  if graphOk g && recordOk r then
    if !(changed x r.key r.val).2.2 && x.kind != 8 then (cs, [], true)
    else if !(recall x.kind cs ⟨r.op, r.stamp.epoch, r.key, r.val⟩).2 then ((recall x.kind cs ⟨r.op, r.stamp.epoch, r.key, r.val⟩).1, [], true)
    else if x.kind = 7 then
      ((recall x.kind cs ⟨r.op, r.stamp.epoch, r.key, r.val⟩).1, (bif (nextTurn r.stamp).2 then sends x (nextTurn r.stamp).1 (changed x r.key r.val).1 (changed x r.key r.val).2.1 else []), true)
    else ((recall x.kind cs ⟨r.op, r.stamp.epoch, r.key, r.val⟩).1, sends x r.stamp (changed x r.key r.val).1 (changed x r.key r.val).2.1, true)
  else (cs, [], false)

theorem sends_take (x : Node) (s : Stamp) (key val : Int) {i : Nat} {k : Int} (h : x.outs[i]? = some k) : (((x.outs.take (i + 1)).map fun k => (⟨k, s, key, val⟩ : Record)).map Record.e) = (((x.outs.take i).map fun k => (⟨k, s, key, val⟩ : Record)).map Record.e) ++ [(⟨k, s, key, val⟩ : Record).e] := by
  simp [List.take_add_one, h]

theorem spec_StepOp_loop0 (x : Node) (hx : x.outs.length ≤ 8388608) (s : Stamp) (key val : Int) (nx : List (List D)) : LoopOk Try.prog (loopOf Try.f51 0) (spec_StepOp_L0 x.kind x.a x.b (x.outs.map eI) key val nx s.epoch s.turn 0 []) (.exit 0) (spec_StepOp_X0 nx ((sends x s key val).map Record.e)) := by
  have l := loop_upto (P := Try.prog) (c := (loopOf Try.f51 0)) (exit_ne 0) x.outs.length (fun i : Nat => spec_StepOp_L0 x.kind x.a x.b (x.outs.map eI) key val nx s.epoch s.turn i (((x.outs.take i).map fun k => (⟨k, s, key, val⟩ : Record)).map Record.e)) (fun i hi => by
    obtain ⟨k, hk⟩ := get_of hi
    rw [sends_take x s key val hk]
    exact spec_StepOp_L0_s0 _ _ _ _ _ _ _ _ _ _ _ _ ⟨lt1 hi, lt0, lt2 hi, at_map eI hk, by simp; omega, by simp; omega, flat_one (Record.flat ⟨k, s, key, val⟩), up1 hi hx, trivial⟩) (spec_StepOp_L0_x1 _ _ _ _ _ _ _ _ _ _ _ ⟨ge1, trivial⟩)
  rw [List.take_length] at l
  exact l

theorem spec_StepOp_loopv2 (x : Node) (hx : x.outs.length ≤ 8388608) (s : Stamp) (key val : Int) (nx : List (List D)) : LoopOk Try.prog (loopOf Try.f51 0) (spec_StepOp_L0v2 s.epoch s.turn x.kind x.a x.b (x.outs.map eI) key val nx 0 []) (.exit 0) (spec_StepOp_X0 nx ((sends x s key val).map Record.e)) := by
  have l := loop_upto (P := Try.prog) (c := (loopOf Try.f51 0)) (exit_ne 0) x.outs.length (fun i : Nat => spec_StepOp_L0v2 s.epoch s.turn x.kind x.a x.b (x.outs.map eI) key val nx i (((x.outs.take i).map fun k => (⟨k, s, key, val⟩ : Record)).map Record.e)) (fun i hi => by
    obtain ⟨k, hk⟩ := get_of hi
    rw [sends_take x s key val hk]
    exact spec_StepOp_L0v2_s0 _ _ _ _ _ _ _ _ _ _ _ _ ⟨lt1 hi, lt0, lt2 hi, at_map eI hk, by simp; omega, by simp; omega, flat_one (Record.flat ⟨k, s, key, val⟩), up1 hi hx, trivial⟩) (spec_StepOp_L0v2_x1 _ _ _ _ _ _ _ _ _ _ _ ⟨ge1, trivial⟩)
  rw [List.take_length] at l
  exact l

theorem spec_StepOp_loopv3 (x : Node) (hx : x.outs.length ≤ 8388608) (s : Stamp) (key val : Int) (nx : List (List D)) : LoopOk Try.prog (loopOf Try.f51 0) (spec_StepOp_L0v3 nx x.kind x.a x.b (x.outs.map eI) key val s.epoch s.turn 0 []) (.exit 0) (spec_StepOp_X0v4 nx ((sends x s key val).map Record.e)) := by
  have l := loop_upto (P := Try.prog) (c := (loopOf Try.f51 0)) (exit_ne 0) x.outs.length (fun i : Nat => spec_StepOp_L0v3 nx x.kind x.a x.b (x.outs.map eI) key val s.epoch s.turn i (((x.outs.take i).map fun k => (⟨k, s, key, val⟩ : Record)).map Record.e)) (fun i hi => by
    obtain ⟨k, hk⟩ := get_of hi
    rw [sends_take x s key val hk]
    exact spec_StepOp_L0v3_s0 _ _ _ _ _ _ _ _ _ _ _ _ ⟨lt1 hi, lt0, lt2 hi, at_map eI hk, by simp; omega, by simp; omega, flat_one (Record.flat ⟨k, s, key, val⟩), up1 hi hx, trivial⟩) (spec_StepOp_L0v3_x1 _ _ _ _ _ _ _ _ _ _ _ ⟨ge1, trivial⟩)
  rw [List.take_length] at l
  exact l

theorem spec_StepOp_loopv5 (x : Node) (hx : x.outs.length ≤ 8388608) (s : Stamp) (key val : Int) (nx : List (List D)) : LoopOk Try.prog (loopOf Try.f51 0) (spec_StepOp_L0v5 nx s.epoch s.turn x.kind x.a x.b (x.outs.map eI) key val 0 []) (.exit 0) (spec_StepOp_X0v4 nx ((sends x s key val).map Record.e)) := by
  have l := loop_upto (P := Try.prog) (c := (loopOf Try.f51 0)) (exit_ne 0) x.outs.length (fun i : Nat => spec_StepOp_L0v5 nx s.epoch s.turn x.kind x.a x.b (x.outs.map eI) key val i (((x.outs.take i).map fun k => (⟨k, s, key, val⟩ : Record)).map Record.e)) (fun i hi => by
    obtain ⟨k, hk⟩ := get_of hi
    rw [sends_take x s key val hk]
    exact spec_StepOp_L0v5_s0 _ _ _ _ _ _ _ _ _ _ _ _ ⟨lt1 hi, lt0, lt2 hi, at_map eI hk, by simp; omega, by simp; omega, flat_one (Record.flat ⟨k, s, key, val⟩), up1 hi hx, trivial⟩) (spec_StepOp_L0v5_x1 _ _ _ _ _ _ _ _ _ _ _ ⟨ge1, trivial⟩)
  rw [List.take_length] at l
  exact l

theorem impl_StepOp_loopv6 (x : Node) (hx : x.outs.length ≤ 8388608) (s : Stamp) (key val : Int) (nx : List (List D)) : LoopOk Try.prog (loopOf Try.f21 0) (impl_StepOp_L0v6 s.epoch s.turn (x.outs.map eI) key val nx 0 []) (.exit 0) (impl_StepOp_X0 nx ((sends x s key val).map Record.e)) := by
  have l := loop_upto (P := Try.prog) (c := (loopOf Try.f21 0)) (exit_ne 0) x.outs.length (fun i : Nat => impl_StepOp_L0v6 s.epoch s.turn (x.outs.map eI) key val nx i (((x.outs.take i).map fun k => (⟨k, s, key, val⟩ : Record)).map Record.e)) (fun i hi => by
    obtain ⟨k, hk⟩ := get_of hi
    rw [sends_take x s key val hk]
    exact impl_StepOp_L0v6_s0 _ _ _ _ _ _ _ _ _ ⟨lt1 hi, lt0, lt2 hi, at_map eI hk, rfl, by simp; omega, by simp; omega, flat_one (Record.flat ⟨k, s, key, val⟩), up1 hi hx, trivial⟩) (impl_StepOp_L0v6_x1 _ _ _ _ _ _ _ _ ⟨ge1, trivial⟩)
  rw [List.take_length] at l
  exact l

theorem impl_StepOp_loop0 (x : Node) (hx : x.outs.length ≤ 8388608) (b : Bool) (s : Stamp) (key val : Int) (nx : List (List D)) : LoopOk Try.prog (loopOf Try.f21 0) (impl_StepOp_L0 (x.outs.map eI) key val nx s.epoch s.turn b 0 []) (.exit 0) (impl_StepOp_X0 nx ((bif b then sends x s key val else []).map Record.e)) := by
  cases b with
  | true =>
    have l := loop_upto (P := Try.prog) (c := (loopOf Try.f21 0)) (exit_ne 0) x.outs.length (fun i : Nat => impl_StepOp_L0 (x.outs.map eI) key val nx s.epoch s.turn true i (((x.outs.take i).map fun k => (⟨k, s, key, val⟩ : Record)).map Record.e)) (fun i hi => by
      obtain ⟨k, hk⟩ := get_of hi
      rw [sends_take x s key val hk]
      exact impl_StepOp_L0_s0 _ _ _ _ _ _ _ _ _ _ ⟨lt1 hi, lt0, lt2 hi, at_map eI hk, rfl, by simp; omega, by simp; omega, flat_one (Record.flat ⟨k, s, key, val⟩), up1 hi hx, trivial⟩) (impl_StepOp_L0_x2 _ _ _ _ _ _ _ _ _ ⟨ge1, trivial⟩)
    rw [List.take_length] at l
    exact l
  | false =>
    exact loop_upto (P := Try.prog) (c := (loopOf Try.f21 0)) (exit_ne 0) x.outs.length (fun i : Nat => impl_StepOp_L0 (x.outs.map eI) key val nx s.epoch s.turn false i []) (fun i hi => by
      obtain ⟨k, hk⟩ := get_of hi
      exact impl_StepOp_L0_s1 _ _ _ _ _ _ _ _ _ _ ⟨lt1 hi, lt0, lt2 hi, at_map eI hk, rfl, up1 hi hx, trivial⟩) (impl_StepOp_L0_x2 _ _ _ _ _ _ _ _ _ ⟨ge1, trivial⟩)

theorem spec_StepOp_some (g : Graph) (cs : List Cell) (r : Record) (x : Node) (hg : g.sz ≤ 8388608) (hl : cs.length ≤ 8388608) (hn : nodeAt g r.op = some x) : Ret Try.prog 51 [.agg g.e, .one (.sl 4 (cs.map Cell.e)), .agg r.e] [.one (.sl 4 ((stepAt g cs r x).1.map Cell.e)), .one (.sl 5 ((stepAt g cs r x).2.1.map Record.e)), .one (B (stepAt g cs r x).2.2)] := by
  have hx := Graph.outs_le hg (nodeAt_mem hn)
  obtain ⟨hk0, hk2, _, _⟩ := nodeAt_some hn
  have hk1 : g.nodes[r.op.toNat]? = some x := by have := hn; unfold nodeAt at this; rwa [if_pos hk0] at this
  have c1 := spec_NodeOf_ret' g r.op (x, true) (by unfold nodeOf; rw [hn]) hg
  have c2 := spec_GraphOk_ret g hg
  rcases Bool.eq_false_or_eq_true (graphOk g) with h3 | h3
  · skip
    have c4 := spec_RecordOk_ret r
    rcases Bool.eq_false_or_eq_true (recordOk r) with h5 | h5
    · skip
      have c6 := spec_Changed_ret x r.key r.val hx
      rcases Bool.eq_false_or_eq_true ((changed x r.key r.val).2.2) with h7 | h7
      · skip
        have c8 := spec_Remembers_ret x.kind
        rcases Bool.eq_false_or_eq_true (remembers x.kind) with h9 | h9
        · skip
          have c10 := spec_Recall_ret x.kind cs (⟨r.op, r.stamp.epoch, r.key, r.val⟩ : Cell) (by omega)
          rcases Bool.eq_false_or_eq_true ((recall x.kind cs (⟨r.op, r.stamp.epoch, r.key, r.val⟩ : Cell)).2) with h11 | h11
          · skip
            rcases Bool.eq_false_or_eq_true (x.kind == 7) with h12 | h12
            · skip
              have c13 := spec_NextTurn_ret r.stamp
              rcases Bool.eq_false_or_eq_true ((nextTurn r.stamp).2) with h14 | h14
              · skip
                
                rw [show stepAt g cs r x = (((recall x.kind cs (⟨r.op, r.stamp.epoch, r.key, r.val⟩ : Cell)).1), (sends x ((nextTurn r.stamp).1) ((changed x r.key r.val).1) ((changed x r.key r.val).2.1)), true) from by grind [stepAt, remembers, recall]]
                exact spec_StepOp_p13 _ _ _ _ _ _ _ _ _ _ _ _ _ _ _ _ _ _ _ _ _ _ _ _ _ _ ⟨(by first | omega | (simp only [List.length_map, List.length_nil]; omega) | exact flat_map _ Cell.flat _ | grind [inInt]), (by first | omega | (simp only [List.length_map, List.length_nil]; omega) | exact flat_map _ Cell.flat _ | grind [inInt]), (by first | omega | (simp only [List.length_map, List.length_nil]; omega) | exact flat_map _ Cell.flat _ | grind [inInt]), c1, rfl, c2, (by rw [h3]; rfl), c4, (by rw [h5]; rfl), c6, (by rw [h7]; rfl), c8, h9, c10, (by rw [h11]; rfl), h12, c13, (by rw [h14]; rfl), (spec_StepOp_loop0 x hx ((nextTurn r.stamp).1) ((changed x r.key r.val).1) ((changed x r.key r.val).2.1) _), trivial⟩
              · skip
                rw [show stepAt g cs r x = (((recall x.kind cs (⟨r.op, r.stamp.epoch, r.key, r.val⟩ : Cell)).1), ([] : List Record), true) from by grind [stepAt, remembers, recall]]
                exact spec_StepOp_p12 _ _ _ _ _ _ _ _ _ _ _ _ _ _ _ _ _ _ _ _ _ _ _ _ _ ⟨(by first | omega | (simp only [List.length_map, List.length_nil]; omega) | exact flat_map _ Cell.flat _ | grind [inInt]), (by first | omega | (simp only [List.length_map, List.length_nil]; omega) | exact flat_map _ Cell.flat _ | grind [inInt]), (by first | omega | (simp only [List.length_map, List.length_nil]; omega) | exact flat_map _ Cell.flat _ | grind [inInt]), c1, rfl, c2, (by rw [h3]; rfl), c4, (by rw [h5]; rfl), c6, (by rw [h7]; rfl), c8, h9, c10, (by rw [h11]; rfl), h12, c13, (by rw [h14]; rfl), trivial⟩
            · skip
              
              rw [show stepAt g cs r x = (((recall x.kind cs (⟨r.op, r.stamp.epoch, r.key, r.val⟩ : Cell)).1), (sends x r.stamp ((changed x r.key r.val).1) ((changed x r.key r.val).2.1)), true) from by grind [stepAt, remembers, recall]]
              exact spec_StepOp_p14 _ _ _ _ _ _ _ _ _ _ _ _ _ _ _ _ _ _ _ _ _ _ _ ⟨(by first | omega | (simp only [List.length_map, List.length_nil]; omega) | exact flat_map _ Cell.flat _ | grind [inInt]), (by first | omega | (simp only [List.length_map, List.length_nil]; omega) | exact flat_map _ Cell.flat _ | grind [inInt]), (by first | omega | (simp only [List.length_map, List.length_nil]; omega) | exact flat_map _ Cell.flat _ | grind [inInt]), c1, rfl, c2, (by rw [h3]; rfl), c4, (by rw [h5]; rfl), c6, (by rw [h7]; rfl), c8, h9, c10, (by rw [h11]; rfl), h12, (spec_StepOp_loopv2 x hx r.stamp ((changed x r.key r.val).1) ((changed x r.key r.val).2.1) _), trivial⟩
          · skip
            rw [show stepAt g cs r x = (((recall x.kind cs (⟨r.op, r.stamp.epoch, r.key, r.val⟩ : Cell)).1), ([] : List Record), true) from by grind [stepAt, remembers, recall]]
            exact spec_StepOp_p11 _ _ _ _ _ _ _ _ _ _ _ _ _ _ _ _ _ _ _ _ _ _ ⟨(by first | omega | (simp only [List.length_map, List.length_nil]; omega) | exact flat_map _ Cell.flat _ | grind [inInt]), (by first | omega | (simp only [List.length_map, List.length_nil]; omega) | exact flat_map _ Cell.flat _ | grind [inInt]), (by first | omega | (simp only [List.length_map, List.length_nil]; omega) | exact flat_map _ Cell.flat _ | grind [inInt]), c1, rfl, c2, (by rw [h3]; rfl), c4, (by rw [h5]; rfl), c6, (by rw [h7]; rfl), c8, h9, c10, (by rw [h11]; rfl), trivial⟩
        · skip
          rcases Bool.eq_false_or_eq_true (x.kind == 7) with h15 | h15
          · skip
            have c16 := spec_NextTurn_ret r.stamp
            rcases Bool.eq_false_or_eq_true ((nextTurn r.stamp).2) with h17 | h17
            · skip
              
              rw [show stepAt g cs r x = (cs, (sends x ((nextTurn r.stamp).1) ((changed x r.key r.val).1) ((changed x r.key r.val).2.1)), true) from by grind [stepAt, remembers, recall]]
              exact spec_StepOp_p16 _ _ _ _ _ _ _ _ _ _ _ _ _ _ _ _ _ _ _ _ _ _ _ _ ⟨(by first | omega | (simp only [List.length_map, List.length_nil]; omega) | exact flat_map _ Cell.flat _ | grind [inInt]), (by first | omega | (simp only [List.length_map, List.length_nil]; omega) | exact flat_map _ Cell.flat _ | grind [inInt]), (by first | omega | (simp only [List.length_map, List.length_nil]; omega) | exact flat_map _ Cell.flat _ | grind [inInt]), c1, rfl, c2, (by rw [h3]; rfl), c4, (by rw [h5]; rfl), c6, (by rw [h7]; rfl), c8, h9, h15, c16, (by rw [h17]; rfl), (spec_StepOp_loopv3 x hx ((nextTurn r.stamp).1) ((changed x r.key r.val).1) ((changed x r.key r.val).2.1) _), trivial⟩
            · skip
              rw [show stepAt g cs r x = (cs, ([] : List Record), true) from by grind [stepAt, remembers, recall]]
              exact spec_StepOp_p15 _ _ _ _ _ _ _ _ _ _ _ _ _ _ _ _ _ _ _ _ _ _ _ ⟨(by first | omega | (simp only [List.length_map, List.length_nil]; omega) | exact flat_map _ Cell.flat _ | grind [inInt]), (by first | omega | (simp only [List.length_map, List.length_nil]; omega) | exact flat_map _ Cell.flat _ | grind [inInt]), (by first | omega | (simp only [List.length_map, List.length_nil]; omega) | exact flat_map _ Cell.flat _ | grind [inInt]), c1, rfl, c2, (by rw [h3]; rfl), c4, (by rw [h5]; rfl), c6, (by rw [h7]; rfl), c8, h9, h15, c16, (by rw [h17]; rfl), trivial⟩
          · skip
            
            rw [show stepAt g cs r x = (cs, (sends x r.stamp ((changed x r.key r.val).1) ((changed x r.key r.val).2.1)), true) from by grind [stepAt, remembers, recall]]
            exact spec_StepOp_p17 _ _ _ _ _ _ _ _ _ _ _ _ _ _ _ _ _ _ _ _ _ ⟨(by first | omega | (simp only [List.length_map, List.length_nil]; omega) | exact flat_map _ Cell.flat _ | grind [inInt]), (by first | omega | (simp only [List.length_map, List.length_nil]; omega) | exact flat_map _ Cell.flat _ | grind [inInt]), (by first | omega | (simp only [List.length_map, List.length_nil]; omega) | exact flat_map _ Cell.flat _ | grind [inInt]), c1, rfl, c2, (by rw [h3]; rfl), c4, (by rw [h5]; rfl), c6, (by rw [h7]; rfl), c8, h9, h15, (spec_StepOp_loopv5 x hx r.stamp ((changed x r.key r.val).1) ((changed x r.key r.val).2.1) _), trivial⟩
      · skip
        rcases Bool.eq_false_or_eq_true (x.kind != 8) with h18 | h18
        · skip
          rw [show stepAt g cs r x = (cs, ([] : List Record), true) from by grind [stepAt, remembers, recall]]
          exact spec_StepOp_p3 _ _ _ _ _ _ _ _ _ _ _ _ _ _ _ _ _ _ _ ⟨(by first | omega | (simp only [List.length_map, List.length_nil]; omega) | exact flat_map _ Cell.flat _ | grind [inInt]), (by first | omega | (simp only [List.length_map, List.length_nil]; omega) | exact flat_map _ Cell.flat _ | grind [inInt]), (by first | omega | (simp only [List.length_map, List.length_nil]; omega) | exact flat_map _ Cell.flat _ | grind [inInt]), c1, rfl, c2, (by rw [h3]; rfl), c4, (by rw [h5]; rfl), c6, (by rw [h7]; rfl), h18, trivial⟩
        · skip
          have c19 := spec_Remembers_ret x.kind
          rcases Bool.eq_false_or_eq_true (remembers x.kind) with h20 | h20
          · skip
            have c21 := spec_Recall_ret x.kind cs (⟨r.op, r.stamp.epoch, r.key, r.val⟩ : Cell) (by omega)
            rcases Bool.eq_false_or_eq_true ((recall x.kind cs (⟨r.op, r.stamp.epoch, r.key, r.val⟩ : Cell)).2) with h22 | h22
            · skip
              rcases Bool.eq_false_or_eq_true (x.kind == 7) with h23 | h23
              · skip
                have c24 := spec_NextTurn_ret r.stamp
                rcases Bool.eq_false_or_eq_true ((nextTurn r.stamp).2) with h25 | h25
                · skip
                  
                  rw [show stepAt g cs r x = (((recall x.kind cs (⟨r.op, r.stamp.epoch, r.key, r.val⟩ : Cell)).1), (sends x ((nextTurn r.stamp).1) ((changed x r.key r.val).1) ((changed x r.key r.val).2.1)), true) from by grind [stepAt, remembers, recall]]
                  exact spec_StepOp_p6 _ _ _ _ _ _ _ _ _ _ _ _ _ _ _ _ _ _ _ _ _ _ _ _ _ _ ⟨(by first | omega | (simp only [List.length_map, List.length_nil]; omega) | exact flat_map _ Cell.flat _ | grind [inInt]), (by first | omega | (simp only [List.length_map, List.length_nil]; omega) | exact flat_map _ Cell.flat _ | grind [inInt]), (by first | omega | (simp only [List.length_map, List.length_nil]; omega) | exact flat_map _ Cell.flat _ | grind [inInt]), c1, rfl, c2, (by rw [h3]; rfl), c4, (by rw [h5]; rfl), c6, (by rw [h7]; rfl), h18, c19, h20, c21, (by rw [h22]; rfl), h23, c24, (by rw [h25]; rfl), (spec_StepOp_loop0 x hx ((nextTurn r.stamp).1) ((changed x r.key r.val).1) ((changed x r.key r.val).2.1) _), trivial⟩
                · skip
                  rw [show stepAt g cs r x = (((recall x.kind cs (⟨r.op, r.stamp.epoch, r.key, r.val⟩ : Cell)).1), ([] : List Record), true) from by grind [stepAt, remembers, recall]]
                  exact spec_StepOp_p5 _ _ _ _ _ _ _ _ _ _ _ _ _ _ _ _ _ _ _ _ _ _ _ _ _ ⟨(by first | omega | (simp only [List.length_map, List.length_nil]; omega) | exact flat_map _ Cell.flat _ | grind [inInt]), (by first | omega | (simp only [List.length_map, List.length_nil]; omega) | exact flat_map _ Cell.flat _ | grind [inInt]), (by first | omega | (simp only [List.length_map, List.length_nil]; omega) | exact flat_map _ Cell.flat _ | grind [inInt]), c1, rfl, c2, (by rw [h3]; rfl), c4, (by rw [h5]; rfl), c6, (by rw [h7]; rfl), h18, c19, h20, c21, (by rw [h22]; rfl), h23, c24, (by rw [h25]; rfl), trivial⟩
              · skip
                
                rw [show stepAt g cs r x = (((recall x.kind cs (⟨r.op, r.stamp.epoch, r.key, r.val⟩ : Cell)).1), (sends x r.stamp ((changed x r.key r.val).1) ((changed x r.key r.val).2.1)), true) from by grind [stepAt, remembers, recall]]
                exact spec_StepOp_p7 _ _ _ _ _ _ _ _ _ _ _ _ _ _ _ _ _ _ _ _ _ _ _ ⟨(by first | omega | (simp only [List.length_map, List.length_nil]; omega) | exact flat_map _ Cell.flat _ | grind [inInt]), (by first | omega | (simp only [List.length_map, List.length_nil]; omega) | exact flat_map _ Cell.flat _ | grind [inInt]), (by first | omega | (simp only [List.length_map, List.length_nil]; omega) | exact flat_map _ Cell.flat _ | grind [inInt]), c1, rfl, c2, (by rw [h3]; rfl), c4, (by rw [h5]; rfl), c6, (by rw [h7]; rfl), h18, c19, h20, c21, (by rw [h22]; rfl), h23, (spec_StepOp_loopv2 x hx r.stamp ((changed x r.key r.val).1) ((changed x r.key r.val).2.1) _), trivial⟩
            · skip
              rw [show stepAt g cs r x = (((recall x.kind cs (⟨r.op, r.stamp.epoch, r.key, r.val⟩ : Cell)).1), ([] : List Record), true) from by grind [stepAt, remembers, recall]]
              exact spec_StepOp_p4 _ _ _ _ _ _ _ _ _ _ _ _ _ _ _ _ _ _ _ _ _ _ ⟨(by first | omega | (simp only [List.length_map, List.length_nil]; omega) | exact flat_map _ Cell.flat _ | grind [inInt]), (by first | omega | (simp only [List.length_map, List.length_nil]; omega) | exact flat_map _ Cell.flat _ | grind [inInt]), (by first | omega | (simp only [List.length_map, List.length_nil]; omega) | exact flat_map _ Cell.flat _ | grind [inInt]), c1, rfl, c2, (by rw [h3]; rfl), c4, (by rw [h5]; rfl), c6, (by rw [h7]; rfl), h18, c19, h20, c21, (by rw [h22]; rfl), trivial⟩
          · skip
            rcases Bool.eq_false_or_eq_true (x.kind == 7) with h26 | h26
            · skip
              have c27 := spec_NextTurn_ret r.stamp
              rcases Bool.eq_false_or_eq_true ((nextTurn r.stamp).2) with h28 | h28
              · skip
                
                rw [show stepAt g cs r x = (cs, (sends x ((nextTurn r.stamp).1) ((changed x r.key r.val).1) ((changed x r.key r.val).2.1)), true) from by grind [stepAt, remembers, recall]]
                exact spec_StepOp_p9 _ _ _ _ _ _ _ _ _ _ _ _ _ _ _ _ _ _ _ _ _ _ _ _ ⟨(by first | omega | (simp only [List.length_map, List.length_nil]; omega) | exact flat_map _ Cell.flat _ | grind [inInt]), (by first | omega | (simp only [List.length_map, List.length_nil]; omega) | exact flat_map _ Cell.flat _ | grind [inInt]), (by first | omega | (simp only [List.length_map, List.length_nil]; omega) | exact flat_map _ Cell.flat _ | grind [inInt]), c1, rfl, c2, (by rw [h3]; rfl), c4, (by rw [h5]; rfl), c6, (by rw [h7]; rfl), h18, c19, h20, h26, c27, (by rw [h28]; rfl), (spec_StepOp_loopv3 x hx ((nextTurn r.stamp).1) ((changed x r.key r.val).1) ((changed x r.key r.val).2.1) _), trivial⟩
              · skip
                rw [show stepAt g cs r x = (cs, ([] : List Record), true) from by grind [stepAt, remembers, recall]]
                exact spec_StepOp_p8 _ _ _ _ _ _ _ _ _ _ _ _ _ _ _ _ _ _ _ _ _ _ _ ⟨(by first | omega | (simp only [List.length_map, List.length_nil]; omega) | exact flat_map _ Cell.flat _ | grind [inInt]), (by first | omega | (simp only [List.length_map, List.length_nil]; omega) | exact flat_map _ Cell.flat _ | grind [inInt]), (by first | omega | (simp only [List.length_map, List.length_nil]; omega) | exact flat_map _ Cell.flat _ | grind [inInt]), c1, rfl, c2, (by rw [h3]; rfl), c4, (by rw [h5]; rfl), c6, (by rw [h7]; rfl), h18, c19, h20, h26, c27, (by rw [h28]; rfl), trivial⟩
            · skip
              
              rw [show stepAt g cs r x = (cs, (sends x r.stamp ((changed x r.key r.val).1) ((changed x r.key r.val).2.1)), true) from by grind [stepAt, remembers, recall]]
              exact spec_StepOp_p10 _ _ _ _ _ _ _ _ _ _ _ _ _ _ _ _ _ _ _ _ _ ⟨(by first | omega | (simp only [List.length_map, List.length_nil]; omega) | exact flat_map _ Cell.flat _ | grind [inInt]), (by first | omega | (simp only [List.length_map, List.length_nil]; omega) | exact flat_map _ Cell.flat _ | grind [inInt]), (by first | omega | (simp only [List.length_map, List.length_nil]; omega) | exact flat_map _ Cell.flat _ | grind [inInt]), c1, rfl, c2, (by rw [h3]; rfl), c4, (by rw [h5]; rfl), c6, (by rw [h7]; rfl), h18, c19, h20, h26, (spec_StepOp_loopv5 x hx r.stamp ((changed x r.key r.val).1) ((changed x r.key r.val).2.1) _), trivial⟩
    · skip
      rw [show stepAt g cs r x = (cs, ([] : List Record), false) from by grind [stepAt, remembers, recall]]
      exact spec_StepOp_p2 _ _ _ _ _ _ _ _ _ _ _ _ _ _ _ _ ⟨(by first | omega | (simp only [List.length_map, List.length_nil]; omega) | exact flat_map _ Cell.flat _ | grind [inInt]), (by first | omega | (simp only [List.length_map, List.length_nil]; omega) | exact flat_map _ Cell.flat _ | grind [inInt]), (by first | omega | (simp only [List.length_map, List.length_nil]; omega) | exact flat_map _ Cell.flat _ | grind [inInt]), c1, rfl, c2, (by rw [h3]; rfl), c4, (by rw [h5]; rfl), trivial⟩
  · skip
    rw [show stepAt g cs r x = (cs, ([] : List Record), false) from by grind [stepAt, remembers, recall]]
    exact spec_StepOp_p1 _ _ _ _ _ _ _ _ _ _ _ _ _ _ _ ⟨(by first | omega | (simp only [List.length_map, List.length_nil]; omega) | exact flat_map _ Cell.flat _ | grind [inInt]), (by first | omega | (simp only [List.length_map, List.length_nil]; omega) | exact flat_map _ Cell.flat _ | grind [inInt]), (by first | omega | (simp only [List.length_map, List.length_nil]; omega) | exact flat_map _ Cell.flat _ | grind [inInt]), c1, rfl, c2, (by rw [h3]; rfl), trivial⟩

theorem impl_StepOp_some (g : Graph) (cs : List Cell) (r : Record) (x : Node) (hg : g.sz ≤ 8388608) (hl : cs.length ≤ 8388608) (hn : nodeAt g r.op = some x) : Ret Try.prog 21 [.agg g.e, .one (.sl 4 (cs.map Cell.e)), .agg r.e] [.one (.sl 4 ((stepAt g cs r x).1.map Cell.e)), .one (.sl 5 ((stepAt g cs r x).2.1.map Record.e)), .one (B (stepAt g cs r x).2.2)] := by
  have hx := Graph.outs_le hg (nodeAt_mem hn)
  obtain ⟨hk0, hk2, _, _⟩ := nodeAt_some hn
  have hk1 : g.nodes[r.op.toNat]? = some x := by have := hn; unfold nodeAt at this; rwa [if_pos hk0] at this
  have c1 := impl_GraphOk_ret g hg
  rcases Bool.eq_false_or_eq_true (graphOk g) with h2 | h2
  · skip
    have c3 := impl_RecordOk_ret r
    rcases Bool.eq_false_or_eq_true (recordOk r) with h4 | h4
    · skip
      have c5 := impl_isNode_ret' g r.op true (by rw [hn]; rfl) hg
      have c6 := impl_Changed_ret x r.key r.val hx
      rcases Bool.eq_false_or_eq_true ((changed x r.key r.val).2.2) with h7 | h7
      · skip
        have c8 := impl_Recall_ret x.kind cs (⟨r.op, r.stamp.epoch, r.key, r.val⟩ : Cell) (by omega)
        rcases Bool.eq_false_or_eq_true ((recall x.kind cs (⟨r.op, r.stamp.epoch, r.key, r.val⟩ : Cell)).2) with h9 | h9
        · skip
          rcases Bool.eq_false_or_eq_true (x.kind == 7) with h10 | h10
          · skip
            have c11 := impl_NextTurn_ret r.stamp
            
            rw [show stepAt g cs r x = (((recall x.kind cs (⟨r.op, r.stamp.epoch, r.key, r.val⟩ : Cell)).1), (bif (nextTurn r.stamp).2 then sends x ((nextTurn r.stamp).1) ((changed x r.key r.val).1) ((changed x r.key r.val).2.1) else []), true) from by grind [stepAt, remembers, recall]]
            exact impl_StepOp_p8 _ _ _ _ _ _ _ _ _ _ _ _ _ _ _ _ _ _ _ _ _ _ _ _ _ ⟨c1, (by rw [h2]; rfl), c3, (by rw [h4]; rfl), c5, rfl, (by first | omega | (simp only [List.length_map, List.length_nil]; omega) | exact flat_map _ Cell.flat _ | grind [inInt]), (by first | omega | (simp only [List.length_map, List.length_nil]; omega) | exact flat_map _ Cell.flat _ | grind [inInt]), (at_mapN Node.e hk1), c6, (by rw [h7]; rfl), c8, (by rw [h9]; rfl), h10, c11, (impl_StepOp_loop0 x hx ((nextTurn r.stamp).2) ((nextTurn r.stamp).1) ((changed x r.key r.val).1) ((changed x r.key r.val).2.1) _), trivial⟩
          · skip
            
            rw [show stepAt g cs r x = (((recall x.kind cs (⟨r.op, r.stamp.epoch, r.key, r.val⟩ : Cell)).1), (sends x r.stamp ((changed x r.key r.val).1) ((changed x r.key r.val).2.1)), true) from by grind [stepAt, remembers, recall]]
            exact impl_StepOp_p9 _ _ _ _ _ _ _ _ _ _ _ _ _ _ _ _ _ _ _ _ _ _ ⟨c1, (by rw [h2]; rfl), c3, (by rw [h4]; rfl), c5, rfl, (by first | omega | (simp only [List.length_map, List.length_nil]; omega) | exact flat_map _ Cell.flat _ | grind [inInt]), (by first | omega | (simp only [List.length_map, List.length_nil]; omega) | exact flat_map _ Cell.flat _ | grind [inInt]), (at_mapN Node.e hk1), c6, (by rw [h7]; rfl), c8, (by rw [h9]; rfl), h10, (impl_StepOp_loopv6 x hx r.stamp ((changed x r.key r.val).1) ((changed x r.key r.val).2.1) _), trivial⟩
        · skip
          rw [show stepAt g cs r x = (((recall x.kind cs (⟨r.op, r.stamp.epoch, r.key, r.val⟩ : Cell)).1), ([] : List Record), true) from by grind [stepAt, remembers, recall]]
          exact impl_StepOp_p7 _ _ _ _ _ _ _ _ _ _ _ _ _ _ _ _ _ _ _ _ _ ⟨c1, (by rw [h2]; rfl), c3, (by rw [h4]; rfl), c5, rfl, (by first | omega | (simp only [List.length_map, List.length_nil]; omega) | exact flat_map _ Cell.flat _ | grind [inInt]), (by first | omega | (simp only [List.length_map, List.length_nil]; omega) | exact flat_map _ Cell.flat _ | grind [inInt]), (at_mapN Node.e hk1), c6, (by rw [h7]; rfl), c8, (by rw [h9]; rfl), trivial⟩
      · skip
        rcases Bool.eq_false_or_eq_true (x.kind != 8) with h12 | h12
        · skip
          have c13 := impl_copyCells_ret cs (by omega)
          rw [show stepAt g cs r x = (cs, ([] : List Record), true) from by grind [stepAt, remembers, recall]]
          exact impl_StepOp_p3 _ _ _ _ _ _ _ _ _ _ _ _ _ _ _ _ _ _ _ _ ⟨c1, (by rw [h2]; rfl), c3, (by rw [h4]; rfl), c5, rfl, (by first | omega | (simp only [List.length_map, List.length_nil]; omega) | exact flat_map _ Cell.flat _ | grind [inInt]), (by first | omega | (simp only [List.length_map, List.length_nil]; omega) | exact flat_map _ Cell.flat _ | grind [inInt]), (at_mapN Node.e hk1), c6, (by rw [h7]; rfl), h12, c13, trivial⟩
        · skip
          have c14 := impl_Recall_ret x.kind cs (⟨r.op, r.stamp.epoch, r.key, r.val⟩ : Cell) (by omega)
          rcases Bool.eq_false_or_eq_true ((recall x.kind cs (⟨r.op, r.stamp.epoch, r.key, r.val⟩ : Cell)).2) with h15 | h15
          · skip
            rcases Bool.eq_false_or_eq_true (x.kind == 7) with h16 | h16
            · skip
              have c17 := impl_NextTurn_ret r.stamp
              
              rw [show stepAt g cs r x = (((recall x.kind cs (⟨r.op, r.stamp.epoch, r.key, r.val⟩ : Cell)).1), (bif (nextTurn r.stamp).2 then sends x ((nextTurn r.stamp).1) ((changed x r.key r.val).1) ((changed x r.key r.val).2.1) else []), true) from by grind [stepAt, remembers, recall]]
              exact impl_StepOp_p5 _ _ _ _ _ _ _ _ _ _ _ _ _ _ _ _ _ _ _ _ _ _ _ _ _ ⟨c1, (by rw [h2]; rfl), c3, (by rw [h4]; rfl), c5, rfl, (by first | omega | (simp only [List.length_map, List.length_nil]; omega) | exact flat_map _ Cell.flat _ | grind [inInt]), (by first | omega | (simp only [List.length_map, List.length_nil]; omega) | exact flat_map _ Cell.flat _ | grind [inInt]), (at_mapN Node.e hk1), c6, (by rw [h7]; rfl), h12, c14, (by rw [h15]; rfl), h16, c17, (impl_StepOp_loop0 x hx ((nextTurn r.stamp).2) ((nextTurn r.stamp).1) ((changed x r.key r.val).1) ((changed x r.key r.val).2.1) _), trivial⟩
            · skip
              
              rw [show stepAt g cs r x = (((recall x.kind cs (⟨r.op, r.stamp.epoch, r.key, r.val⟩ : Cell)).1), (sends x r.stamp ((changed x r.key r.val).1) ((changed x r.key r.val).2.1)), true) from by grind [stepAt, remembers, recall]]
              exact impl_StepOp_p6 _ _ _ _ _ _ _ _ _ _ _ _ _ _ _ _ _ _ _ _ _ _ ⟨c1, (by rw [h2]; rfl), c3, (by rw [h4]; rfl), c5, rfl, (by first | omega | (simp only [List.length_map, List.length_nil]; omega) | exact flat_map _ Cell.flat _ | grind [inInt]), (by first | omega | (simp only [List.length_map, List.length_nil]; omega) | exact flat_map _ Cell.flat _ | grind [inInt]), (at_mapN Node.e hk1), c6, (by rw [h7]; rfl), h12, c14, (by rw [h15]; rfl), h16, (impl_StepOp_loopv6 x hx r.stamp ((changed x r.key r.val).1) ((changed x r.key r.val).2.1) _), trivial⟩
          · skip
            rw [show stepAt g cs r x = (((recall x.kind cs (⟨r.op, r.stamp.epoch, r.key, r.val⟩ : Cell)).1), ([] : List Record), true) from by grind [stepAt, remembers, recall]]
            exact impl_StepOp_p4 _ _ _ _ _ _ _ _ _ _ _ _ _ _ _ _ _ _ _ _ _ ⟨c1, (by rw [h2]; rfl), c3, (by rw [h4]; rfl), c5, rfl, (by first | omega | (simp only [List.length_map, List.length_nil]; omega) | exact flat_map _ Cell.flat _ | grind [inInt]), (by first | omega | (simp only [List.length_map, List.length_nil]; omega) | exact flat_map _ Cell.flat _ | grind [inInt]), (at_mapN Node.e hk1), c6, (by rw [h7]; rfl), h12, c14, (by rw [h15]; rfl), trivial⟩
    · skip
      have c18 := impl_copyCells_ret cs (by omega)
      rw [show stepAt g cs r x = (cs, ([] : List Record), false) from by grind [stepAt, remembers, recall]]
      exact impl_StepOp_p1 _ _ _ _ _ _ _ _ _ _ _ _ ⟨c1, (by rw [h2]; rfl), c3, (by rw [h4]; rfl), c18, trivial⟩
  · skip
    have c19 := impl_copyCells_ret cs (by omega)
    rw [show stepAt g cs r x = (cs, ([] : List Record), false) from by grind [stepAt, remembers, recall]]
    exact impl_StepOp_p0 _ _ _ _ _ _ _ _ _ _ _ ⟨c1, (by rw [h2]; rfl), c19, trivial⟩

end Go.Proofs.Ytenekpkjlgddnaa

namespace Go.Proofs.Ytenekpkjlgddnaa
open Go.Sx Go.RowKit

def stepOp (g : Graph) (cs : List Cell) (r : Record) : List Cell × List Record × Bool := match nodeAt g r.op with | some x => stepAt g cs r x | none => (cs, [], false)

theorem spec_StepOp_ret (g : Graph) (cs : List Cell) (r : Record) (hg : g.sz ≤ 8388608) (hl : cs.length ≤ 8388608) : Ret Try.prog 51 [.agg g.e, .one (.sl 4 (cs.map Cell.e)), .agg r.e] [.one (.sl 4 ((stepOp g cs r).1.map Cell.e)), .one (.sl 5 ((stepOp g cs r).2.1.map Record.e)), .one (B (stepOp g cs r).2.2)] := by
  unfold stepOp
  cases h : nodeAt g r.op with
  | some x => exact spec_StepOp_some g cs r x hg hl h
  | none => exact spec_StepOp_p0 _ _ _ _ _ _ _ _ _ _ _ _ _ _ ⟨by simp <;> omega, by simp <;> omega, flat_map _ Cell.flat _, spec_NodeOf_ret' g r.op (⟨0, 0, 0, []⟩, false) (by unfold nodeOf; rw [h]) hg, rfl, trivial⟩

theorem impl_StepOp_ret (g : Graph) (cs : List Cell) (r : Record) (hg : g.sz ≤ 8388608) (hl : cs.length ≤ 8388608) : Ret Try.prog 21 [.agg g.e, .one (.sl 4 (cs.map Cell.e)), .agg r.e] [.one (.sl 4 ((stepOp g cs r).1.map Cell.e)), .one (.sl 5 ((stepOp g cs r).2.1.map Record.e)), .one (B (stepOp g cs r).2.2)] := by
  unfold stepOp
  cases h : nodeAt g r.op with
  | some x => exact impl_StepOp_some g cs r x hg hl h
  | none =>
    have c1 := impl_GraphOk_ret g hg
    have c2 := impl_RecordOk_ret r
    have c3 := impl_isNode_ret' g r.op false (by rw [h]; rfl) hg
    have cp := impl_copyCells_ret cs hl
    generalize graphOk g = b1 at *
    generalize recordOk r = b2 at *
    cases b1 with
    | false => exact impl_StepOp_p0 _ _ _ _ _ _ _ _ _ _ _ ⟨c1, rfl, cp, trivial⟩
    | true =>
      cases b2 with
      | false => exact impl_StepOp_p1 _ _ _ _ _ _ _ _ _ _ _ _ ⟨c1, rfl, c2, rfl, cp, trivial⟩
      | true => exact impl_StepOp_p2 _ _ _ _ _ _ _ _ _ _ _ _ _ ⟨c1, rfl, c2, rfl, c3, rfl, cp, trivial⟩

def cappedAt (g : Graph) (r : Record) (x : Node) : Bool := graphOk g && recordOk r && x.kind == 7 && decide (0 < x.outs.length) && !(nextTurn r.stamp).2
def capped (g : Graph) (r : Record) : Bool := match nodeAt g r.op with | some x => cappedAt g r x | none => false

theorem spec_Capped_some (g : Graph) (r : Record) (x : Node) (hg : g.sz ≤ 8388608) (hn : nodeAt g r.op = some x) : Ret Try.prog 50 [.agg g.e, .agg r.e] [.one (B (cappedAt g r x))] := by
  have c1 := spec_NodeOf_ret' g r.op (x, true) (by unfold nodeOf; rw [hn]) hg
  have c2 := spec_NextTurn_ret r.stamp
  have c3 := spec_GraphOk_ret g hg
  rcases Bool.eq_false_or_eq_true (graphOk g) with h4 | h4
  · skip
    have c5 := spec_RecordOk_ret r
    rcases Bool.eq_false_or_eq_true (recordOk r) with h6 | h6
    · skip
      rcases Bool.eq_false_or_eq_true (x.kind == 7) with h7 | h7
      · skip
        rcases Bool.eq_false_or_eq_true (decide ((↑(x.outs.map eI).length : Int) > 0)) with h8 | h8
        · skip
          rw [show cappedAt g r x = (!((nextTurn r.stamp).2)) from by grind [cappedAt]]
          exact spec_Capped_p0 _ _ _ _ _ _ _ _ _ _ _ _ _ _ _ _ _ _ ⟨c1, c2, rfl, c3, h4, c5, h6, h7, h8, trivial⟩
        · skip
          rw [show cappedAt g r x = false from by grind [cappedAt]]
          exact spec_Capped_p1 _ _ _ _ _ _ _ _ _ _ _ _ _ _ _ _ _ _ ⟨c1, c2, rfl, c3, h4, c5, h6, h7, h8, trivial⟩
      · skip
        rw [show cappedAt g r x = false from by grind [cappedAt]]
        exact spec_Capped_p2 _ _ _ _ _ _ _ _ _ _ _ _ _ _ _ _ _ _ ⟨c1, c2, rfl, c3, h4, c5, h6, h7, trivial⟩
    · skip
      rw [show cappedAt g r x = false from by grind [cappedAt]]
      exact spec_Capped_p3 _ _ _ _ _ _ _ _ _ _ _ _ _ _ _ _ _ _ ⟨c1, c2, rfl, c3, h4, c5, h6, trivial⟩
  · skip
    rw [show cappedAt g r x = false from by grind [cappedAt]]
    exact spec_Capped_p4 _ _ _ _ _ _ _ _ _ _ _ _ _ _ _ _ _ ⟨c1, c2, rfl, c3, h4, trivial⟩

theorem spec_Capped_ret (g : Graph) (r : Record) (hg : g.sz ≤ 8388608) : Ret Try.prog 50 [.agg g.e, .agg r.e] [.one (B (capped g r))] := by
  unfold capped
  cases h : nodeAt g r.op with
  | some x => exact spec_Capped_some g r x hg h
  | none => exact spec_Capped_p5 _ _ _ _ _ _ _ _ _ _ _ _ _ _ _ _ ⟨spec_NodeOf_ret' g r.op (⟨0, 0, 0, []⟩, false) (by unfold nodeOf; rw [h]) hg, spec_NextTurn_ret r.stamp, rfl, trivial⟩

/-! ### How much a step adds -/
theorem node_ok {g : Graph} (h : graphOk g = true) {op : Int} {x : Node} (hn : nodeAt g op = some x) : nodeOk x = true := by
  simp only [graphOk, Bool.and_eq_true, Bool.not_eq_true'] at h
  unfold nodeAt at hn
  split at hn
  · have := anyI_false h.2 op.toNat x hn
    simp only [nodeBad, Bool.or_eq_false_iff, Bool.not_eq_false'] at this
    exact this.1.1
  · cases hn

theorem node_outs {x : Node} (h : nodeOk x = true) : x.outs.length ≤ 2 := by
  simp only [nodeOk, Bool.and_eq_true, decide_eq_true_eq] at h
  exact h.1.1.1.2

theorem recall_len (kind : Int) (cs : List Cell) (x : Cell) : (recall kind cs x).1.length ≤ cs.length + 1 := by
  have h1 := putCell_le cs x
  have h2 := putCell_le (cs.filter fun a => !sameSlot x a) x
  have h3 := List.length_filter_le (fun a => !sameSlot x a) cs
  unfold recall
  split
  · split <;> simp <;> omega
  · split
    · unfold better
      split <;> simp <;> omega
    · simp

theorem step_len {g : Graph} (hg : graphOk g = true) (cs : List Cell) (r : Record) : (stepOp g cs r).1.length ≤ cs.length + 1 ∧ (stepOp g cs r).2.1.length ≤ 2 := by
  unfold stepOp
  cases h : nodeAt g r.op with
  | none => exact ⟨by simp, by simp⟩
  | some x =>
    have hx := node_outs (node_ok hg h)
    have hr := recall_len x.kind cs ⟨r.op, r.stamp.epoch, r.key, r.val⟩
    have hs : ∀ s k v, (sends x s k v).length ≤ 2 := fun s k v => by simpa [sends] using hx
    simp only [stepAt]
    split
    · split
      · exact ⟨by simp, by simp⟩
      · split
        · exact ⟨hr, by simp⟩
        · split
          · refine ⟨hr, ?_⟩
            cases (nextTurn r.stamp).2 with
            | true => exact hs _ _ _
            | false => simp
          · exact ⟨hr, hs _ _ _⟩
    · exact ⟨by simp, by simp⟩
end Go.Proofs.Ytenekpkjlgddnaa
