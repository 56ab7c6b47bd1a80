/- slices.Insert of one cell: the elements with that one at place i, in the memory that was handed over or in new memory. -/
import Derived.Test.YtialmplmfcahpaaGreatR30
import Derived.Test.YtialmplmfcahpaaGreatT1
import Derived.Test.YtialmplmfcahpaaGreatRows
import Derived.WalkKit
import Derived.Deep.RegionLaw
import Derived.Shelf.RegionOpenPlain
import Derived.Lib.SliceRun
import Derived.Lib.JoinLaws
import Derived.Lib.Overlaps
import Derived.Lib.AppendZerosOnto
import Derived.Laws.Externs
import Derived.Deep.LoopGhost
import Derived.Lib.Walk
set_option linter.unusedVariables false
set_option linter.unusedSimpArgs false
namespace Go.Proofs.YtialmplmfcahpaaGreat
open Go.Sx Go.RowKit Go.Shelf Go.Lib
theorem qlQ {P : Program} (w : World) {ops : Array Oper} {rest : List Oper} {o : Oper} {a : Act} {Q : Exit → Act → World → Prop} (hgd : o.guard = none) (d s : Operand) (t t' : TypeId)
    (ho : o.op = .call { callee := .builtin .copy, args := #[d, s], argTypes := #[t, t'] }) (v u : Value) (hd : a.eval d = v) (hs : a.eval s = u) {v' : Value} {w' : World}
    (hr : (Builtin.copy_ #[t, t'] o.type #[v, u]).run P w = .ok v' w') (h : wpList P ops Q rest (a.put o.dst v') w') : wpList P ops Q (o :: rest) a w :=
  wpList_plain hgd fun _ hK => by
    unfold Oper.wp execOp
    simp only [ho, resolve, invoke, builtin, Sem.run_bind, Sem.run_pure, Result.andThen_ok, List.map_toArray, List.map_cons, List.map_nil, hd, hs, hr]
    exact hK _ _ h
theorem qlR {P : Program} {ops : Array Oper} {o : Oper} {a : Act} {w : World} {K : Act → World → Prop} {Q : Exit → Act → World → Prop} {E : Prop}
    (hg : o.guard = none) (d x : Operand) (dT sT : TypeId) (hop : o.op = Op.call { callee := Callee.builtin Builtin.copy, args := #[d, x], argTypes := #[dT, sT] })
    (v u : Value) (hd : a.eval d = v) (hx : a.eval x = u) {v' : Value} {w' : World} (hr : (Builtin.copy_ #[dT, sT] o.type #[v, u]).run P w = .ok v' w') (hK : K (a.put o.dst v') w') :
    if Region.wanted o (yielded ops a.tmps) = true then Oper.wp P o a w K Q else E := by
  have hw : Region.wanted o (yielded ops a.tmps) = true := by simp [Region.wanted, hg]
  rw [if_pos hw]
  unfold Oper.wp
  simp [execOp, hop, resolve, invoke, builtin, hd, hx, hr, Result.andThen]
  exact hK
theorem qjh {P : Program} (w : World) {ops : Array Oper} {rest : List Oper} {o : Oper} {a : Act} {Q : Exit → Act → World → Prop} (hgd : o.guard = none) (d s : Operand) (t t' : TypeId)
    (ho : o.op = .call { callee := .builtin .append, args := #[d, s], argTypes := #[t, t'] }) (v u : Value) (hd : a.eval d = v) (hs : a.eval s = u) {v' : Value} {w' : World}
    (hr : (Builtin.append_ #[t, t'] o.type #[v, u]).run P w = .ok v' w') (h : wpList P ops Q rest (a.put o.dst v') w') : wpList P ops Q (o :: rest) a w :=
  wpList_plain hgd fun _ hK => by
    unfold Oper.wp execOp
    simp only [ho, resolve, invoke, builtin, Sem.run_bind, Sem.run_pure, Result.andThen_ok, List.map_toArray, List.map_cons, List.map_nil, hd, hs, hr]
    exact hK _ _ h
set_option maxHeartbeats 4000000 in
set_option maxRecDepth 1000000 in
theorem qji (base : Option Addr) (n cap vb voff vc : Nat) (w w1 : World) (v : Value) (hn : n ≤ cap)
    (hrun : ∀ ty, (Builtin.append_ #[92, 92] ty #[.slice base n cap, .slice (some ⟨vb, voff, none⟩) 1 vc]).run Tryz.prog w = .ok v w1) :
    Calls Tryz.prog 300 #[.slice base n cap, .int .i64 n, .slice (some ⟨vb, voff, none⟩) 1 vc] w fun e w' => e = .returned v ∧ w' = w1 := by
  have mixed : Tryz.prog.follows .mixedOrders = true := by kernel_rfl
  go_enter Tryz.func300, Tryz.ntmps300
  cases base with
  | none =>
    go_wp2_with (at_builtin; refine qjh _ rfl _ _ _ _ rfl _ _ rfl rfl (hrun _) ?_)
    all_goals (go_ret; exact ⟨rfl, rfl⟩)
  | some a =>
    obtain ⟨ab, ao, asp⟩ := a
    go_wp2_with (at_builtin; refine qjh _ rfl _ _ _ _ rfl _ _ rfl rfl (hrun _) ?_)
    all_goals (go_ret; exact ⟨rfl, rfl⟩)
set_option maxHeartbeats 4000000 in
set_option maxRecDepth 1000000 in
theorem qvU (b off n cap i vb voff vc : Nat) (arr : Array Value) (tb : TypeId) (arv : Array Value) (tv : TypeId) (x : List Value) (w : World) (hb : w.heap[b]? = some (.cells arr tb (0, 0))) (hv : w.heap[vb]? = some (.cells arv tv (0, 0))) (hvb : vb ≠ b)
    (hi : i < n) (hn : n + 1 ≤ cap) (hfit : off + cap * 4 ≤ arr.size) (hxl : x.length = 4) (hxv : ∀ j v, x[j]? = some v → arv[voff + j]? = some v) (h1x : ∀ v ∈ x, v.oneCell' = true)
    (h1 : ∀ x v, off ≤ x → x < off + n * 4 → arr[x]? = some v → v.oneCell' = true) (hbig : n < 1048577) :
    Calls Tryz.prog 300 #[.slice (some ⟨b, off, none⟩) n cap, .int .i64 i, .slice (some ⟨vb, voff, none⟩) 1 vc] w fun e w' => e = .returned (.slice (some ⟨b, off, none⟩) (n + 1) cap) ∧
      w' = (w.drew.setRow b (laid arr (off + (i + 1) * 4) ((arr.toList.drop (off + i * 4)).take ((n - i) * 4)))).setRow b (laid (laid arr (off + (i + 1) * 4) ((arr.toList.drop (off + i * 4)).take ((n - i) * 4))) (off + i * 4) x) := by
  obtain ⟨mid, hmid⟩ : ∃ mid, mid = (arr.toList.drop (off + i * 4)).take ((n - i) * 4) := ⟨_, rfl⟩
  have hml : mid.length = (n - i) * 4 := by rw [hmid]; simp; omega
  have hm1 : ∀ u ∈ mid, u.oneCell' = true := by
    intro u hu
    obtain ⟨y, hy⟩ := List.mem_iff_getElem?.1 hu
    rw [hmid, List.getElem?_take] at hy
    split at hy
    · rw [List.getElem?_drop, Array.getElem?_toList] at hy
      exact h1 _ u (by omega) (by omega) hy
    · cases hy
  rw [← hmid]
  obtain ⟨A1, hA1⟩ : ∃ A1, A1 = laid arr (off + (i + 1) * 4) mid := ⟨_, rfl⟩
  have hs1 : A1.size = arr.size := by rw [hA1]; exact qbX (by omega)
  obtain ⟨W1, hW1⟩ : ∃ W1, W1 = w.drew.setRow b A1 := ⟨_, rfl⟩
  have hb1 : W1.heap[b]? = some (.cells A1 tb (0, 0)) := by rw [hW1]; exact setRow_heap w.drew b arr A1 tb (0, 0) hb
  have hv1 : W1.heap[vb]? = some (.cells arv tv (0, 0)) := by rw [hW1, setRow_other _ b vb _ hvb]; exact hv
  have hsz : (Tryz.prog.info? 174).map (·.size) = some 4 := by kernel_rfl
  have hun : Tryz.prog.underlying 92 = some (.slice 174) := by kernel_rfl
  have hcp1 : ∀ ty dc sc, (Builtin.copy_ #[92, 92] ty #[.slice (some ⟨b, off + (i + 1) * 4, none⟩) (n - i) dc, .slice (some ⟨b, off + i * 4, none⟩) (n + 1 - i) sc]).run Tryz.prog w.drew = .ok (goInt (Nat.min (n + 1 - i) (n - i))) W1 := by
    intro ty dc sc
    have hmin : Nat.min (n + 1 - i) (n - i) = n - i := by simp only [Nat.min_def]; split <;> omega
    rw [hW1, hA1]
    refine qfO w.drew _ _ ty _ 4 b (off + (i + 1) * 4) _ dc arr tb ⟨b, off + i * 4, none⟩ _ sc mid hun hsz hb (by rw [hmin, hml]) (fun j v hj => ?_) (by omega) hm1
    rw [hmid, List.getElem?_take] at hj
    split at hj
    · rw [List.getElem?_drop, Array.getElem?_toList] at hj
      rw [Addr.add_lit]
      have hb' : w.drew.heap[b]? = some (.cells arr tb (0, 0)) := hb
      simp [World.cell?, hb', hj]
    · cases hj
  obtain ⟨W2, hW2⟩ : ∃ W2, W2 = W1.setRow b (laid A1 (off + i * 4) x) := ⟨_, rfl⟩
  have hcp2 : ∀ ty dc, (Builtin.copy_ #[92, 92] ty #[.slice (some ⟨b, off + i * 4, none⟩) (n + 1 - i) dc, .slice (some ⟨vb, voff, none⟩) 1 vc]).run Tryz.prog W1 = .ok (goInt (Nat.min 1 (n + 1 - i))) W2 := by
    intro ty dc
    have hmin : Nat.min 1 (n + 1 - i) = 1 := by simp only [Nat.min_def]; split <;> omega
    rw [hW2]
    refine qfO W1 _ _ ty _ 4 b (off + i * 4) _ dc A1 tb ⟨vb, voff, none⟩ _ vc x hun hsz hb1 (by rw [hmin, hxl]) (fun j v hj => ?_) (by omega) h1x
    rw [Addr.add_lit]
    simp [World.cell?, hv1, hxv j v hj]
  have hov : ∀ lb cb, (callFunc 313 #[.slice (some ⟨vb, voff, none⟩) 1 vc, .slice (some ⟨b, off + (i + 1) * 4, none⟩) lb cb]).run Tryz.prog w = .ok (.value (.bool false)) w := fun lb cb => by
    rw [run_callFunc_extern (P := Tryz.prog) Tryz.func313 (by kernel_rfl) (by kernel_rfl) (by kernel_rfl) (e := Extern.SlicesOverlaps.overlaps #[92, 92] #[4]) (by kernel_rfl),
      Lib.run_overlaps_apart w 92 4 174 hun 4 (fun w => by simp [sizeOf, typeInfo]; kernel_rfl) ⟨vb, voff, none⟩ ⟨b, off + (i + 1) * 4, none⟩ 1 vc lb cb hvb tv tb arv.size arr.size (by simp [World.shape?, hv]) (by simp [World.shape?, hb]) (by omega) (by simp [World.frozen?, hv]) (by simp [World.frozen?, hv])]
    rfl
  have X : Aside (W2 = (w.drew.setRow b A1).setRow b (laid A1 (off + i * 4) x)) := by rw [hW2, hW1]; trivial
  have hin : i ≤ n := by omega
  have hw1 : IntKind.i64.wrap ((i : Int) + 1) = (i : Int) + 1 := by rw [IntKind.wrap_i64]; omega
  have hw2 : IntKind.i64.wrap ((n : Int) + 1) = (n : Int) + 1 := by rw [IntKind.wrap_i64]; omega
  have hb0 : (0 : Int) ≤ (i : Int) + 1 := by omega
  have htn : ((i : Int) + 1).toNat = i + 1 := by omega
  have htm : ((n : Int) + 1).toNat = n + 1 := by omega
  have hb2 : ¬ (cap = i + 1) := by omega
  have hb3 : (i : Int) + 1 ≤ (n : Int) + 1 := by omega
  have hb4 : ¬ (cap = i) := by omega
  have hb5 : (i : Int) ≤ (n : Int) + 1 := by omega
  have hz2 : ¬ ((i : Int) = (n : Int)) := by omega
  have mixed : Tryz.prog.follows .mixedOrders = true := by kernel_rfl
  clear hW1 hW2 hb1 hv1 hb hv hmid hml hm1 hs1 hsz hun h1 h1x hxv hxl
  go_enter Tryz.func300, Tryz.ntmps300
  go_wp2_with (simp only [hov])
  go_region_law_o (refine qlR rfl _ _ 92 92 rfl _ _ (by simp [Act.eval, Act.put]) (by simp [Act.eval, Act.put]) (hcp1 _ _ _) ?_)
  go_wp2_with (at_builtin; refine qlQ _ rfl _ _ 92 92 rfl _ _ rfl rfl (hcp2 _ _) ?_)
  go_ret
  exact ⟨rfl, by rw [← hA1]; exact X⟩
set_option maxHeartbeats 4000000 in
set_option maxRecDepth 1000000 in
theorem qvV (b off n cap i vb voff vc : Nat) (arr : Array Value) (tb : TypeId) (arv : Array Value) (tv : TypeId) (x : List Value) (w : World) (hb : w.heap[b]? = some (.cells arr tb (0, 0))) (hv : w.heap[vb]? = some (.cells arv tv (0, 0)))
    (hi : i < n) (hn : n ≤ cap) (hg : cap < n + 1) (hfit : off + cap * 4 ≤ arr.size) (hxl : x.length = 4) (hxv : ∀ j v, x[j]? = some v → arv[voff + j]? = some v) (h1x : ∀ v ∈ x, v.oneCell' = true)
    (h1 : ∀ x v, off ≤ x → x < off + n * 4 → arr[x]? = some v → v.oneCell' = true) (hbig : n < 1048577) :
    Calls Tryz.prog 300 #[.slice (some ⟨b, off, none⟩) n cap, .int .i64 i, .slice (some ⟨vb, voff, none⟩) 1 vc] w fun e w' => ∃ (G : Nat) (ROW : Array Value), n + 1 ≤ G ∧ ROW.size = G * 4 ∧ (∀ y, y < i * 4 → ROW[y]? = arr[off + y]?) ∧ e = .returned (.slice (some ⟨w.heap.size, 0, none⟩) (n + 1) G) ∧
      w' = (((w.drew.alloc (.cells ROW 174)).setRow w.heap.size (laid ROW (i * 4) x)).drew).setRow w.heap.size (laid (laid ROW (i * 4) x) ((i + 1) * 4) ((arr.toList.drop (off + i * 4)).take ((n - i) * 4))) := by
  obtain ⟨mid, hmid⟩ : ∃ mid, mid = (arr.toList.drop (off + i * 4)).take ((n - i) * 4) := ⟨_, rfl⟩
  have hml : mid.length = (n - i) * 4 := by rw [hmid]; simp; omega
  have hm1 : ∀ u ∈ mid, u.oneCell' = true := by
    intro u hu
    obtain ⟨y, hy⟩ := List.mem_iff_getElem?.1 hu
    rw [hmid, List.getElem?_take] at hy
    split at hy
    · rw [List.getElem?_drop, Array.getElem?_toList] at hy
      exact h1 _ u (by omega) (by omega) hy
    · cases hy
  rw [← hmid]
  have hun : Tryz.prog.underlying 92 = some (.slice 174) := by kernel_rfl
  have hui : Tryz.prog.underlying 3 = some (.int .i64) := by kernel_rfl
  have hsz : (Tryz.prog.info? 174).map (·.size) = some 4 := by kernel_rfl
  have hby : (Tryz.prog.info? 174).map (fun x => (x.bytes, x.zero)) = some (32, some (.agg #[.int .i64 0, .int .i64 0, .int .i64 0, .int .i64 0])) := by kernel_rfl
  obtain ⟨olds, holds⟩ : ∃ olds, olds = (arr.toList.drop off).take (i * 4) := ⟨_, rfl⟩
  have hol : olds.length = i * 4 := by rw [holds]; simp; omega
  obtain ⟨G, hG⟩ : ∃ G, G = grownCap w (n + 1) cap 174 := ⟨_, rfl⟩
  have hGn : n + 1 ≤ G := by rw [hG]; exact grownCap_ge w _ _ _
  have hG63 : G ≤ 9223372036854775807 := by
    have := grownCap_le_maxLen w (n + 1) cap 174 (by unfold maxLen; omega)
    rw [← hG] at this
    unfold maxLen at this
    omega
  obtain ⟨ROW, hROW⟩ : ∃ ROW : Array Value, ROW = olds.toArray ++ Builtin.zeroCells (Value.agg #[.int .i64 0, .int .i64 0, .int .i64 0, .int .i64 0]).cells (n + 1 - i) ++ Builtin.zeroCells (Value.agg #[.int .i64 0, .int .i64 0, .int .i64 0, .int .i64 0]).cells (G - (n + 1)) := ⟨_, rfl⟩
  have hRs : ROW.size = G * 4 := by
    rw [hROW]
    simp only [Array.size_append, List.size_toArray, size_zeroCells, hol]
    show i * 4 + (n + 1 - i) * 4 + (G - (n + 1)) * 4 = G * 4
    omega
  have hRo : ∀ y, y < i * 4 → ROW[y]? = arr[off + y]? := by
    intro y hy
    rw [hROW, Array.getElem?_append, if_pos (by simp [size_zeroCells]; omega), Array.getElem?_append, if_pos (by simp; omega)]
    simp only [List.getElem?_toArray]
    rw [holds, List.getElem?_take, if_pos hy, List.getElem?_drop, Array.getElem?_toList]
  obtain ⟨W0, hW0⟩ : ∃ W0, W0 = w.drew.alloc (.cells ROW 174) := ⟨_, rfl⟩
  have hN0 : W0.heap[w.heap.size]? = some (.cells ROW 174 (0, 0)) := by rw [hW0]; exact qbH w.drew _
  have hbl : b < w.heap.size := (Array.getElem?_eq_some_iff.1 hb).1
  have hvl : vb < w.heap.size := (Array.getElem?_eq_some_iff.1 hv).1
  have hb0 : W0.heap[b]? = some (.cells arr tb (0, 0)) := by rw [hW0, qdi w.drew _ hbl]; exact hb
  have hv0 : W0.heap[vb]? = some (.cells arv tv (0, 0)) := by rw [hW0, qdi w.drew _ hvl]; exact hv
  have hrz : ∀ ty, (Builtin.append_ #[92, 3] ty #[.slice (some ⟨b, off, none⟩) i cap, .int .i64 ((n : Int) + 1 - (i : Int))]).run Tryz.prog w = .ok (.slice (some ⟨w.heap.size, 0, none⟩) (n + 1) G) W0 := by
    intro ty
    cases hi0 : Tryz.prog.info? 174 with
    | none => rw [hi0] at hsz; cases hsz
    | some i0 =>
      rw [hi0] at hsz hby
      have h5 : i0.size = 4 := by simpa using hsz
      obtain ⟨h6, h7⟩ : i0.bytes = 32 ∧ i0.zero = some (.agg #[.int .i64 0, .int .i64 0, .int .i64 0, .int .i64 0]) := by simpa using hby
      have hold : (Builtin.firstCells i0.size i (.slice (some ⟨b, off, none⟩) i cap)).run Tryz.prog w.drew = .ok olds.toArray w.drew := by
        rw [h5]
        refine run_firstCells_some w.drew 4 i ⟨b, off, none⟩ i cap olds hol (fun j v hj => ?_)
        rw [Addr.add_lit]
        rw [holds, List.getElem?_take] at hj
        split at hj
        · rw [List.getElem?_drop, Array.getElem?_toList] at hj
          have hb' : w.drew.heap[b]? = some (.cells arr tb (0, 0)) := hb
          simp [World.cell?, hb', hj]
        · cases hj
      have hik : i + (n + 1 - i) = n + 1 := by omega
      have h := Lib.run_append_grow_zeros w 92 3 ty 174 i0 _ .i64 .i64 hun hui hi0 h7 (some ⟨b, off, none⟩) i cap olds hold (n + 1 - i) (by omega) (by omega) (by omega) (by omega) (by rw [h6]; omega) (by rw [h6, hik]; exact growslice_fits hg (by omega))
      rw [hik, ← hG, ← hROW, ← hW0] at h
      rw [show (n : Int) + 1 - (i : Int) = ((n + 1 - i : Nat) : Int) by omega]
      exact h
  obtain ⟨A1, hA1⟩ : ∃ A1, A1 = laid ROW (i * 4) x := ⟨_, rfl⟩
  have hs1 : A1.size = ROW.size := by rw [hA1]; exact qbX (by omega)
  obtain ⟨W1, hW1⟩ : ∃ W1, W1 = W0.setRow w.heap.size A1 := ⟨_, rfl⟩
  have hN1 : W1.heap[w.heap.size]? = some (.cells A1 174 (0, 0)) := by rw [hW1]; exact setRow_heap W0 _ ROW A1 _ (0, 0) hN0
  have hb1 : W1.heap[b]? = some (.cells arr tb (0, 0)) := by rw [hW1, setRow_other _ _ b _ (by omega)]; exact hb0
  have hcpA : ∀ ty dc, (Builtin.copy_ #[92, 92] ty #[.slice (some ⟨w.heap.size, i * 4, none⟩) (n + 1 - i) dc, .slice (some ⟨vb, voff, none⟩) 1 vc]).run Tryz.prog W0 = .ok (goInt (Nat.min 1 (n + 1 - i))) W1 := by
    intro ty dc
    have hmin : Nat.min 1 (n + 1 - i) = 1 := by simp only [Nat.min_def]; split <;> omega
    rw [hW1, hA1]
    refine qfO W0 _ _ ty _ 4 _ (i * 4) _ dc ROW _ ⟨vb, voff, none⟩ _ vc x hun hsz hN0 (by rw [hmin, hxl]) (fun j v hj => ?_) (by omega) h1x
    rw [Addr.add_lit]
    simp [World.cell?, hv0, hxv j v hj]
  obtain ⟨W2, hW2⟩ : ∃ W2, W2 = W1.drew.setRow w.heap.size (laid A1 ((i + 1) * 4) mid) := ⟨_, rfl⟩
  have hcpB : ∀ ty dc sc, (Builtin.copy_ #[92, 92] ty #[.slice (some ⟨w.heap.size, (i + 1) * 4, none⟩) (n - i) dc, .slice (some ⟨b, off + i * 4, none⟩) (n - i) sc]).run Tryz.prog W1.drew = .ok (goInt (Nat.min (n - i) (n - i))) W2 := by
    intro ty dc sc
    have hmin : Nat.min (n - i) (n - i) = n - i := Nat.min_self _
    rw [hW2]
    refine qfO W1.drew _ _ ty _ 4 _ ((i + 1) * 4) _ dc A1 _ ⟨b, off + i * 4, none⟩ _ sc mid hun hsz hN1 (by rw [hmin, hml]) (fun j v hj => ?_) (by omega) hm1
    rw [Addr.add_lit]
    rw [hmid, List.getElem?_take] at hj
    split at hj
    · rw [List.getElem?_drop, Array.getElem?_toList] at hj
      have hb' : W1.drew.heap[b]? = some (.cells arr tb (0, 0)) := hb1
      simp [World.cell?, hb', hj]
    · cases hj
  have X : Aside (W2 = (((w.drew.alloc (.cells ROW 174)).setRow w.heap.size A1).drew).setRow w.heap.size (laid A1 ((i + 1) * 4) mid)) := by rw [hW2, hW1, hW0]; trivial
  have Y : Aside (n + 1 ≤ G ∧ ROW.size = G * 4 ∧ ∀ y, y < i * 4 → ROW[y]? = arr[off + y]?) := ⟨hGn, hRs, hRo⟩
  have hz2 : ¬ ((i : Int) = (n : Int)) := by omega
  have hz3 : (cap : Int) < (n : Int) + 1 := by omega
  have hw1 : IntKind.i64.wrap ((i : Int) + 1) = (i : Int) + 1 := by rw [IntKind.wrap_i64]; omega
  have hw2 : IntKind.i64.wrap ((n : Int) + 1) = (n : Int) + 1 := by rw [IntKind.wrap_i64]; omega
  have hw3 : IntKind.i64.wrap ((n : Int) + 1 - (i : Int)) = (n : Int) + 1 - (i : Int) := by rw [IntKind.wrap_i64]; omega
  have hb00 : (0 : Int) ≤ (i : Int) + 1 := by omega
  have hin : i ≤ n := by omega
  have htn : ((i : Int) + 1).toNat = i + 1 := by omega
  have hb3 : (i : Int) ≤ (n : Int) := by omega
  have hb5 : (i : Int) ≤ (n : Int) + 1 := by omega
  have hb6 : (i : Int) + 1 ≤ (n : Int) + 1 := by omega
  have hGi : ¬ (G = i) := by omega
  have hGim : ¬ (G = i + 1) := by omega
  have hci : ¬ (cap = i) := by omega
  have hiG : i ≤ G := by omega
  have hic : i ≤ cap := by omega
  have mixed : Tryz.prog.follows .mixedOrders = true := by kernel_rfl
  clear hW1 hW2 hb1 hb hv hmid hml hm1 hs1 hsz hun h1 h1x hxv hxl hRo hRs hN0 hN1 hb0 hv0 hW0 hROW holds hol hui hby hG
  go_enter Tryz.func300, Tryz.ntmps300
  go_wp2_with (first
    | (at_builtin; refine qjh _ rfl _ _ _ _ rfl _ _ rfl rfl (hrz _) ?_)
    | (at_builtin; refine qlQ _ rfl _ _ 92 92 rfl _ _ rfl rfl (hcpA _ _) ?_))
  go_region_law_o (refine qlR rfl _ _ 92 92 rfl _ _ (by simp [Act.eval, Act.put]) (by simp [Act.eval, Act.put]) (hcpB _ _ _) ?_)
  go_wp2
  go_ret
  exact ⟨G, ROW, Y.1, Y.2.1, Y.2.2, rfl, by rw [← hA1]; exact X⟩
theorem qfn {w w' : World} {b off cap : Nat} {arr : Array Value} {tb : TypeId} {es : List (List Value)} (hr : Row w b off 4 cap arr tb es) {x : List Value} {i : Nat} (hi : i ≤ es.length) (hxl : x.length = 4) (hx1 : ∀ v ∈ x, v.oneCell' = true)
    {b' o cap' : Nat} {A : Array Value} {ty : TypeId} (hh : w'.heap[b']? = some (.cells A ty (0, 0))) (hc : es.length + 1 ≤ cap') (hfit : o + cap' * 4 ≤ A.size)
    (hA : ∀ p, p < i * 4 → A[o + p]? = arr[off + p]?) (hB : ∀ p, p < 4 → A[o + i * 4 + p]? = x[p]?) (hC : ∀ p, p < (es.length - i) * 4 → A[o + (i + 1) * 4 + p]? = arr[off + i * 4 + p]?) :
    Row w' b' o 4 cap' A ty (es.take i ++ x :: es.drop i) := by
  have hl : (es.take i ++ x :: es.drop i).length = es.length + 1 := by simp; omega
  have htl : (es.take i).length = i := by simp; omega
  refine ⟨hh, by rw [hl]; exact hc, hfit, ?_, ?_, ?_⟩
  · intro e he
    rcases List.mem_append.1 he with h | h
    · exact hr.len e (List.mem_of_mem_take h)
    · rcases List.mem_cons.1 h with rfl | h
      · exact hxl
      · exact hr.len e (List.mem_of_mem_drop h)
  · intro e he
    rcases List.mem_append.1 he with h | h
    · exact hr.one e (List.mem_of_mem_take h)
    · rcases List.mem_cons.1 h with rfl | h
      · exact hx1
      · exact hr.one e (List.mem_of_mem_drop h)
  · intro k j e v hk hj
    have hkl := (List.getElem?_eq_some_iff.1 hk).1
    rw [hl] at hkl
    by_cases h1 : k < i
    · rw [List.getElem?_append_left (by omega), List.getElem?_take, if_pos h1] at hk
      have hjl : j < 4 := by
        have := (List.getElem?_eq_some_iff.1 hj).1
        have := hr.len e (List.mem_of_getElem? hk)
        omega
      rw [Nat.add_assoc, hA _ (by omega), ← Nat.add_assoc]
      exact hr.cell k j e v hk hj
    · rw [List.getElem?_append_right (by omega), htl] at hk
      by_cases h2 : k = i
      · subst h2
        rw [Nat.sub_self, List.getElem?_cons_zero, Option.some.injEq] at hk
        subst hk
        have hjl := (List.getElem?_eq_some_iff.1 hj).1
        rw [hB j (by omega)]
        exact hj
      · obtain ⟨m, rfl⟩ : ∃ m, k = i + 1 + m := ⟨k - (i + 1), by omega⟩
        rw [show i + 1 + m - i = m + 1 by omega, List.getElem?_cons_succ, List.getElem?_drop] at hk
        have hjl : j < 4 := by
          have := (List.getElem?_eq_some_iff.1 hj).1
          have := hr.len e (List.mem_of_getElem? hk)
          omega
        have := hr.cell (i + m) j e v hk hj
        rw [← this, show o + (i + 1 + m) * 4 + j = o + (i + 1) * 4 + (m * 4 + j) by omega, hC _ (by omega)]
        congr 1
        omega
theorem qvW {w : World} {b off cap : Nat} {arr : Array Value} {tb : TypeId} {es : List (List Value)} (hr : Row w b off 4 cap arr tb es) : ∀ x v, off ≤ x → x < off + es.length * 4 → arr[x]? = some v → v.oneCell' = true := by
  intro x v hx1 hx2 hv
  have hlt : (x - off) / 4 < es.length := by omega
  have he := List.getElem?_eq_getElem hlt
  have hlen := hr.len _ (List.getElem_mem hlt)
  have hlt2 : (x - off) % 4 < (es[(x - off) / 4]).length := by omega
  have := hr.cell _ _ _ _ he (List.getElem?_eq_getElem hlt2)
  rw [show off + (x - off) / 4 * 4 + (x - off) % 4 = x by omega, hv] at this
  rw [Option.some.inj this]
  exact hr.one _ (List.getElem_mem hlt) _ (List.getElem_mem hlt2)
theorem qvX {w : World} {own : Nat → Prop} {b : Nat} (hb : own b) (A1 : Array Value) : Bel ⟨w, own, fun _ => (0, undef)⟩ (w.setRow b A1) := by
  refine ⟨rfl, rfl, rfl, by simp, fun k hk hg => ?_, Nat.le_refl _⟩
  have : k ≠ b := fun e => hg (by rw [e]; exact hb)
  rw [setRow_other _ b k _ this]
theorem qlS {w : World} {own : Nat → Prop} (o : Obj) : Bel ⟨w, own, fun _ => (0, undef)⟩ (w.drew.alloc o) := by
  refine ⟨rfl, rfl, rfl, by simp [World.alloc], fun k hk _ => ?_, ?_⟩
  · rw [qdi w.drew o hk]; rfl
  · show w.drawn ≤ w.drawn + 1
    omega
theorem qvY {w : World} {own : Nat → Prop} (o : Obj) (A1 A2 : Array Value) : Bel ⟨w, own, fun _ => (0, undef)⟩ ((((w.drew.alloc o).setRow w.heap.size A1).drew).setRow w.heap.size A2) := by
  refine ⟨rfl, rfl, rfl, by simp [World.alloc], fun k hk _ => ?_, ?_⟩
  · rw [setRow_other _ _ k _ (by simp only at hk; omega)]
    show ((w.drew.alloc o).setRow w.heap.size A1).heap[k]? = w.heap[k]?
    rw [setRow_other _ _ k _ (by simp only at hk; omega), qdi w.drew o hk]
    rfl
  · show w.drawn ≤ w.drawn + 1 + 1
    omega
theorem qvZ : ∃ i0, Tryz.prog.info? 174 = some i0 ∧ i0.size = 4 ∧ i0.bytes = 32 ∧ i0.zero = some (.agg #[.int .i64 0, .int .i64 0, .int .i64 0, .int .i64 0]) := by
  have hsz : (Tryz.prog.info? 174).map (fun x => (x.size, x.bytes, x.zero)) = some (4, 32, some (.agg #[.int .i64 0, .int .i64 0, .int .i64 0, .int .i64 0])) := by kernel_rfl
  cases h : Tryz.prog.info? 174 with
  | none => rw [h] at hsz; cases hsz
  | some i0 =>
    rw [h] at hsz
    simp only [Option.map_some, Option.some.injEq, Prod.mk.injEq] at hsz
    exact ⟨i0, rfl, hsz.1, hsz.2.1, hsz.2.2⟩
theorem qv0 (es : List (List Value)) (x : List Value) (i : Nat) (hi : i ≤ es.length) (hl : es.length ≤ 1048576) : RetG Tryz.prog 300 [.one (.gv 4 (fl es) none), .one (.ro (I i)), .one (.gv 4 (fl [x]) none)] [.one (.sl 4 (fl (es.take i ++ x :: es.drop i)))] := by
  rintro w vs ω ⟨hg, hn, ha⟩
  obtain ⟨y, hy, hy2⟩ := ha 0 _ rfl
  obtain ⟨u1, hu1, hu12⟩ := ha 1 _ rfl
  obtain ⟨z, hz, hz2⟩ := ha 2 _ rfl
  have e1 : u1 = .int .i64 i := Rep.eq_v hu12
  subst e1
  have hvs := args3 hn hy hu1 hz
  subst hvs
  have hun : Tryz.prog.underlying 92 = some (.slice 174) := by kernel_rfl
  obtain ⟨i0, hi0, h5, h6, h7⟩ := qvZ
  rcases hg.row hz2 with ⟨h, _⟩ | ⟨vb, voff, vc, arv, tv, hωv, rfl, hrv⟩
  · cases h
  have hxl : x.length = 4 := hrv.len x (by simp)
  have hx1 : ∀ v ∈ x, v.oneCell' = true := hrv.one x (by simp)
  have hxv : ∀ j v, x[j]? = some v → arv[voff + j]? = some v := fun j v hj => by simpa using hrv.cell 0 j x v rfl hj
  have hxw : ∀ j v, x[j]? = some v → w.cell? ((⟨vb, voff, none⟩ : Addr).add j) = some v := fun j v hj => by
    rw [Addr.add_lit]
    simp [World.cell?, hrv.heap, hxv j v hj]
  have fin : ∀ {e : Ending} {w' : World}, (∃ v, e = .returned v ∧ LeftRow w w' (fun b => ω b ≠ .imm) 4 (es.take i ++ x :: es.drop i) v) → ∃ v, e = .returned v ∧ Bel ⟨w, fun b => ω b ≠ .imm, fun _ => (0, undef)⟩ w' ∧
      ∃ ω' : Own, (∀ b, b < w.heap.size → ω b = .imm → ω' b = .imm) ∧ (∀ b, ω' b ≠ .imm → (∃ t q, ω' b = .tok t q) ∧ ∃ arr ty, w'.heap[b]? = some (.cells arr ty (0, 0))) ∧ Kept w' ω' [.one (.gv 4 (fl es) none), .one (.ro (I i)), .one (.gv 4 (fl [x]) none)] #[y, .int .i64 i, .slice (some ⟨vb, voff, none⟩) [x].length vc] ∧ qb7 w' ω' [.one (.sl 4 (fl (es.take i ++ x :: es.drop i)))] v := by
    rintro e w' ⟨v, he, hL⟩
    obtain ⟨ω', h2, h3, h4⟩ := hL.res
    refine ⟨v, he, hL.bel, ω', h2, h3, qlO ?_, h4⟩
    intro i' j' ga k es0 es' hga hc
    match i' with
    | 0 => simp at hga; subst hga; simp only [GA.cell] at hc; split at hc <;> simp at hc
    | 1 => simp at hga; subst hga; simp only [GA.cell] at hc; split at hc <;> simp at hc
    | 2 => simp at hga; subst hga; simp only [GA.cell] at hc; split at hc <;> simp at hc
    | _ + 3 => simp at hga
  rcases hg.row hy2 with ⟨rfl, a, rfl⟩ | ⟨b, off, cap, arr, tb, hω, rfl, hr⟩
  · -- no element
    have hi0' : i = 0 := by simpa using hi
    subst hi0'
    obtain ⟨G, hG⟩ : ∃ G, G = grownCap w 1 0 174 := ⟨_, rfl⟩
    have hGn : 1 ≤ G := by rw [hG]; exact grownCap_ge w _ _ _
    have hrun : ∀ ty, (Builtin.append_ #[92, 92] ty #[.slice a 0 0, .slice (some ⟨vb, voff, none⟩) 1 vc]).run Tryz.prog w = .ok (.slice (some ⟨w.heap.size, 0, none⟩) 1 G) (w.drew.alloc (.cells (x.toArray ++ Builtin.zeroCells (Value.agg #[.int .i64 0, .int .i64 0, .int .i64 0, .int .i64 0]).cells (G - 1)) 174)) := by
      intro ty
      cases a with
      | none =>
        have := run_append_nil (P := Tryz.prog) w 92 ty 174 i0 _ hun hi0 h7 ⟨vb, voff, none⟩ 1 vc x (by rw [h5, hxl]) hxw (by omega) (by omega) (by rw [h6]; omega)
        rw [← hG] at this
        exact this
      | some b0 =>
        have := run_append_grow (P := Tryz.prog) w 92 ty 174 i0 _ hun hi0 h7 b0 0 0 [] (by simp) (fun j v hv => by simp at hv) ⟨vb, voff, none⟩ 1 vc x (by rw [h5, hxl]) hxw (by omega) (by omega) (growslice_fits (by omega) (by rw [h6]; omega))
        simp only [Nat.zero_add, ← hG] at this
        simpa using this
    refine (qji a 0 0 vb voff vc w _ _ (Nat.le_refl _) hrun).mono ?_
    rintro e w' ⟨rfl, rfl⟩
    have row0 : Row w vb 0 4 0 arv tv [] := ⟨hrv.heap, Nat.le_refl _, by omega, by simp, by simp, by simp⟩
    refine fin ⟨_, rfl, qlS _, .inr ⟨w.heap.size, 0, G, _, _, .inr (Nat.le_refl _), rfl, qfn row0 (Nat.le_refl _) hxl hx1 (qbH w.drew _) hGn ?_ ?_ ?_ ?_⟩⟩
    · simp only [Array.size_append, List.size_toArray, size_zeroCells, hxl]
      show 0 + G * 4 ≤ 4 + (G - 1) * 4
      omega
    · intro p hp; simp at hp
    · intro p hp
      rw [Array.getElem?_append, if_pos (by simp; omega)]
      simp
    · intro p hp; simp at hp
  · have hne : vb ≠ b := by
      rintro rfl
      rw [hω] at hωv
      simp only [Owner.tok.injEq, gTok] at hωv
      omega
    have hown : ω b ≠ .imm := by rw [hω]; simp
    have hroom := hr.room
    have hfit := hr.fit
    have h1 := qvW hr
    rcases Nat.lt_or_ge i es.length with hlt | hge
    · rcases Nat.lt_or_ge cap (es.length + 1) with hcap | hcap
      · -- in between, no room
        refine (qvV b off es.length cap i vb voff vc arr tb arv tv x w hr.heap hrv.heap hlt hroom hcap hfit hxl hxv hx1 h1 (by omega)).mono ?_
        rintro e w' ⟨G, ROW, hG, hRs, hRo, rfl, rfl⟩
        have hl1 : i * 4 + x.length ≤ ROW.size := by omega
        have hs1 := qbX hl1
        have hml : ((arr.toList.drop (off + i * 4)).take ((es.length - i) * 4)).length = (es.length - i) * 4 := by simp; omega
        have hl2 : (i + 1) * 4 + ((arr.toList.drop (off + i * 4)).take ((es.length - i) * 4)).length ≤ (laid ROW (i * 4) x).size := by omega
        refine fin ⟨_, rfl, qvY _ _ _, .inr ⟨w.heap.size, 0, G, _, _, .inr (Nat.le_refl _), by simp; omega, qfn hr hi hxl hx1 (setRow_heap _ _ _ _ _ (0, 0) (setRow_heap (w.drew.alloc _) _ _ _ _ (0, 0) (qbH w.drew _))) hG ?_ ?_ ?_ ?_⟩⟩
        · rw [qbX hl2, hs1, hRs]; omega
        · intro p hp
          rw [Nat.zero_add, qbl hl2, if_neg (by omega), qbl hl1, if_neg (by omega)]
          exact hRo p hp
        · intro p hp
          rw [Nat.zero_add, qbl hl2, if_neg (by omega), qbl hl1, if_pos (by omega)]
          rw [show i * 4 + p - i * 4 = p by omega]
        · intro p hp
          rw [Nat.zero_add, qbl hl2, if_pos (by omega), List.getElem?_take, if_pos (by omega), List.getElem?_drop, Array.getElem?_toList]
          rw [show (i + 1) * 4 + p - (i + 1) * 4 = p by omega]
      · -- in between, there is room
        refine (qvU b off es.length cap i vb voff vc arr tb arv tv x w hr.heap hrv.heap hne hlt hcap hfit hxl hxv hx1 h1 (by omega)).mono ?_
        rintro e w' ⟨rfl, rfl⟩
        have hml : ((arr.toList.drop (off + i * 4)).take ((es.length - i) * 4)).length = (es.length - i) * 4 := by simp; omega
        have hl1 : off + (i + 1) * 4 + ((arr.toList.drop (off + i * 4)).take ((es.length - i) * 4)).length ≤ arr.size := by omega
        have hs1 := qbX hl1
        have hl2 : off + i * 4 + x.length ≤ (laid arr (off + (i + 1) * 4) ((arr.toList.drop (off + i * 4)).take ((es.length - i) * 4))).size := by omega
        refine fin ⟨_, rfl, qlP hown _ _, .inr ⟨b, off, cap, _, tb, .inl hown, by simp; omega, qfn hr hi hxl hx1 (setRow_heap _ _ _ _ _ (0, 0) (setRow_heap w.drew b arr _ tb (0, 0) hr.heap)) hcap ?_ ?_ ?_ ?_⟩⟩
        · rw [qbX hl2, hs1]; exact hfit
        · intro p hp
          rw [qbl hl2, if_neg (by omega), qbl hl1, if_neg (by omega)]
        · intro p hp
          rw [qbl hl2, if_pos (by omega)]
          rw [show off + i * 4 + p - (off + i * 4) = p by omega]
        · intro p hp
          rw [qbl hl2, if_neg (by omega), qbl hl1, if_pos (by omega), List.getElem?_take, if_pos (by omega), List.getElem?_drop, Array.getElem?_toList]
          rw [show off + (i + 1) * 4 + p - (off + (i + 1) * 4) = p by omega]
    · have hii : i = es.length := by omega
      subst hii
      rcases Nat.lt_or_ge cap (es.length + 1) with hcap | hcap
      · -- at the end, no room
        obtain ⟨olds, holds⟩ : ∃ olds, olds = (arr.toList.drop off).take (es.length * 4) := ⟨_, rfl⟩
        have hol : olds.length = es.length * 4 := by rw [holds]; simp; omega
        obtain ⟨G, hG⟩ : ∃ G, G = grownCap w (es.length + 1) cap 174 := ⟨_, rfl⟩
        have hGn : es.length + 1 ≤ G := by rw [hG]; exact grownCap_ge w _ _ _
        have hrun : ∀ ty, (Builtin.append_ #[92, 92] ty #[.slice (some ⟨b, off, none⟩) es.length cap, .slice (some ⟨vb, voff, none⟩) 1 vc]).run Tryz.prog w = .ok (.slice (some ⟨w.heap.size, 0, none⟩) (es.length + 1) G) (w.drew.alloc (.cells (olds.toArray ++ x.toArray ++ Builtin.zeroCells (Value.agg #[.int .i64 0, .int .i64 0, .int .i64 0, .int .i64 0]).cells (G - (es.length + 1))) 174)) := by
          intro ty
          have := run_append_grow (P := Tryz.prog) w 92 ty 174 i0 _ hun hi0 h7 ⟨b, off, none⟩ es.length cap olds (by rw [h5, hol]) (fun j v hj => by
            rw [holds, List.getElem?_take] at hj
            split at hj
            · rw [List.getElem?_drop, Array.getElem?_toList] at hj
              rw [Addr.add_lit]
              simp [World.cell?, hr.heap, hj]
            · cases hj) ⟨vb, voff, none⟩ 1 vc x (by rw [h5, hxl]) hxw (by omega) (by omega) (growslice_fits (by omega) (by rw [h6]; omega))
          rw [← hG] at this
          exact this
        refine (qji (some ⟨b, off, none⟩) es.length cap vb voff vc w _ _ hroom hrun).mono ?_
        rintro e w' ⟨rfl, rfl⟩
        refine fin ⟨_, rfl, qlS _, .inr ⟨w.heap.size, 0, G, _, _, .inr (Nat.le_refl _), by simp, qfn hr hi hxl hx1 (qbH w.drew _) hGn ?_ ?_ ?_ ?_⟩⟩
        · simp only [Array.size_append, List.size_toArray, size_zeroCells, hxl, hol]
          show 0 + G * 4 ≤ es.length * 4 + 4 + (G - (es.length + 1)) * 4
          omega
        · intro p hp
          rw [Nat.zero_add, Array.getElem?_append, if_pos (by simp [hol]; omega), Array.getElem?_append, if_pos (by simp [hol]; omega)]
          simp only [List.getElem?_toArray]
          rw [holds, List.getElem?_take, if_pos hp, List.getElem?_drop, Array.getElem?_toList]
        · intro p hp
          rw [Nat.zero_add, Array.getElem?_append, if_pos (by simp [hol]; omega), Array.getElem?_append, if_neg (by simp [hol])]
          simp only [List.getElem?_toArray, List.size_toArray, hol]
          rw [show es.length * 4 + p - es.length * 4 = p by omega]
        · intro p hp; simp at hp
      · -- at the end, there is room
        have hrun : ∀ ty, (Builtin.append_ #[92, 92] ty #[.slice (some ⟨b, off, none⟩) es.length cap, .slice (some ⟨vb, voff, none⟩) 1 vc]).run Tryz.prog w = .ok (.slice (some ⟨b, off, none⟩) (es.length + 1) cap) (w.setRow b (laid arr (off + es.length * 4) x)) := by
          intro ty
          have := qhF (P := Tryz.prog) (t := 92) (ty := ty) hun hi0 w b off es.length cap arr tb hr.heap ⟨vb, voff, none⟩ 1 vc x (by rw [h5, hxl]) hxw hx1 hcap (by rw [h5, hxl]; omega)
          rw [h5] at this
          exact this
        refine (qji (some ⟨b, off, none⟩) es.length cap vb voff vc w _ _ hroom hrun).mono ?_
        rintro e w' ⟨rfl, rfl⟩
        have hl1 : off + es.length * 4 + x.length ≤ arr.size := by omega
        refine fin ⟨_, rfl, qvX hown _, .inr ⟨b, off, cap, _, tb, .inl hown, by simp, qfn hr hi hxl hx1 (setRow_heap _ _ _ _ _ (0, 0) hr.heap) hcap ?_ ?_ ?_ ?_⟩⟩
        · rw [qbX hl1]; exact hfit
        · intro p hp
          rw [qbl hl1, if_neg (by omega)]
        · intro p hp
          rw [qbl hl1, if_pos (by omega)]
          rw [show off + es.length * 4 + p - (off + es.length * 4) = p by omega]
        · intro p hp; simp at hp
theorem Cell.e_fl (xs : List Cell) : xs.map Cell.e = fl (xs.map fun r => r.e.map D.unV) := by
  simp only [fl, List.map_map]
  rfl
theorem qv1 (xs : List Cell) (x : Cell) (i : Nat) (hi : i ≤ xs.length) (hl : xs.length ≤ 1048576) : RetG Tryz.prog 300 [.one (.gv 4 (xs.map Cell.e) none), .one (.ro (I i)), .one (.gv 4 [x.e] none)] [.one (.sl 4 ((xs.take i ++ x :: xs.drop i).map Cell.e))] := by
  have := qv0 (xs.map fun r => r.e.map D.unV) (x.e.map D.unV) i (by simpa using hi) (by simpa using hl)
  rw [Cell.e_fl, Cell.e_fl]
  simp only [List.map_append, List.map_cons, List.map_take, List.map_drop] at this ⊢
  exact this
end Go.Proofs.YtialmplmfcahpaaGreat
