/- slices.Delete at records: the elements but those from i to j, in the memory that was handed over. -/
import Derived.Test.YtbbjajmimckabaaR30
import Derived.Test.YtbbjajmimckabaaT1
import Derived.Test.YtbbjajmimckabaaRows
import Derived.WalkKit
import Derived.Deep.RegionLaw
import Derived.Shelf.RegionOpenPlain
import Derived.Lib.SliceRun
import Derived.Deep.LoopGhost
import Derived.Lib.Walk
set_option linter.unusedVariables false
set_option linter.unusedSimpArgs false
namespace Go.Proofs.Ytbbjajmimckabaa
open Go.Sx Go.RowKit Go.Shelf Go.Lib

/-- An append as one step of a region that draws. -/
theorem step_append_run {P : Program} {ops : Array Oper} {o : Oper} {a : Act} {w : World} {K : Act → World → Prop} {Q : Exit → Act → World → Prop} {E : Prop}
    (hg : o.guard = none) (x y : Operand) (tx ty : TypeId) (hop : o.op = Op.call { callee := Callee.builtin Builtin.append, args := #[x, y], argTypes := #[tx, ty] })
    (v u : Value) (hx : a.eval x = v) (hy : a.eval y = u) {v' : Value} {w' : World} (hr : (Builtin.append_ #[tx, ty] o.type #[v, u]).run P w = .ok v' w') (hK : K (a.put o.dst v') w') :
    if Region.wanted o (yielded ops a.tmps) = true then Oper.wp P o a w K Q else E := by
  have hw : Region.wanted o (yielded ops a.tmps) = true := by simp [Region.wanted, hg]
  rw [if_pos hw]
  unfold Oper.wp
  simp [execOp, hop, resolve, invoke, builtin, hx, hy, hr, Result.andThen]
  exact hK

theorem cellsFrom_get {arr : Array Value} {p m j : Nat} {v : Value} (h : ((arr.toList.drop p).take m)[j]? = some v) : arr[p + j]? = some v ∧ j < m := by
  rw [List.getElem?_take] at h
  split at h
  · rw [List.getElem?_drop, Array.getElem?_toList] at h
    exact ⟨h, ‹_›⟩
  · cases h

theorem cell_of_heap {w : World} {b : Nat} {arr : Array Value} {tb : TypeId} (hb : w.heap[b]? = some (.cells arr tb (0, 0))) {x : Nat} {v : Value} (h : arr[x]? = some v) : w.cell? ⟨b, x, none⟩ = some v := by
  simp [World.cell?, hb, h]

set_option maxHeartbeats 4000000 in
set_option maxRecDepth 1000000 in
theorem deleteRecord_raw (b off n cap i j : Nat) (arr : Array Value) (tb : TypeId) (w : World) (hb : w.heap[b]? = some (.cells arr tb (0, 0))) (hn : n ≤ cap) (hfit : off + cap * 5 ≤ arr.size) (hij : i < j) (hj : j ≤ n)
    (h1 : ∀ x v, off ≤ x → x < off + n * 5 → arr[x]? = some v → v.oneCell' = true) :
    Calls Try.prog 52 #[.slice (some ⟨b, off, none⟩) n cap, .int .i64 i, .int .i64 j] w fun e w' => e = .returned (.slice (some ⟨b, off, none⟩) (i + (n - j)) cap) ∧
      ∃ zs : List Value, zs.length = (n - (i + (n - j))) * 5 ∧ w' = (w.drew.setRow b (laid arr (off + i * 5) ((arr.toList.drop (off + j * 5)).take ((n - j) * 5)))).setRow b (laid (laid arr (off + i * 5) ((arr.toList.drop (off + j * 5)).take ((n - j) * 5))) (off + (i + (n - j)) * 5) zs) := by
  obtain ⟨news, hnews⟩ : ∃ news, news = (arr.toList.drop (off + j * 5)).take ((n - j) * 5) := ⟨_, rfl⟩
  have hnl : news.length = (n - j) * 5 := by rw [hnews]; simp; omega
  have hn1 : ∀ u ∈ news, u.oneCell' = true := by
    intro u hu
    obtain ⟨x, hx⟩ := List.mem_iff_getElem?.1 hu
    rw [hnews] at hx
    obtain ⟨h2, h3⟩ := cellsFrom_get hx
    exact h1 _ u (by omega) (by omega) h2
  rw [← hnews]
  obtain ⟨A1, hA1⟩ : ∃ A1, A1 = laid arr (off + i * 5) news := ⟨_, rfl⟩
  have hs1 : A1.size = arr.size := by rw [hA1]; exact laid_size (by omega)
  obtain ⟨W1, hW1⟩ : ∃ W1, W1 = w.drew.setRow b A1 := ⟨_, rfl⟩
  have hb1 : W1.heap[b]? = some (.cells A1 tb (0, 0)) := by rw [hW1]; exact setRow_heap w.drew b arr A1 tb (0, 0) hb
  obtain ⟨zs, hzl, hclr⟩ := run_clearK (P := Try.prog) W1 28 33 0 _ (by kernel_rfl) (by rfl) b (off + (i + (n - j)) * 5) (n - (i + (n - j))) (cap - (i + (n - j))) A1 tb hb1 (by show off + (i + (n - j)) * 5 + (n - (i + (n - j))) * 5 ≤ A1.size; omega) (by decide)
  rw [if_neg (by omega)] at hclr
  obtain ⟨W2, hW2⟩ : ∃ W2, W2 = W1.setRow b (laid A1 (off + (i + (n - j)) * 5) zs) := ⟨_, rfl⟩
  rw [← hW2] at hclr
  have hsz : (Try.prog.info? 33).map (·.size) = some 5 := by kernel_rfl
  have hun : Try.prog.underlying 28 = some (.slice 33) := by kernel_rfl
  have hap : ∀ ty, (Builtin.append_ #[28, 28] ty #[.slice (some ⟨b, off, none⟩) i cap, .slice (if cap = j then some ⟨b, off, none⟩ else some ⟨b, off + j * 5, none⟩) (n - j) (cap - j)]).run Try.prog w.drew = .ok (.slice (some ⟨b, off, none⟩) (i + (n - j)) cap) W1 := by
    intro ty
    cases hi : Try.prog.info? 33 with
    | none => rw [hi] at hsz; cases hsz
    | some i0 =>
      rw [hi] at hsz
      have h5 : i0.size = 5 := by simpa using hsz
      have key : ∀ ad : Addr, (∀ x u, news[x]? = some u → w.drew.cell? (ad.add x) = some u) → (Builtin.append_ #[28, 28] ty #[.slice (some ⟨b, off, none⟩) i cap, .slice (some ad) (n - j) (cap - j)]).run Try.prog w.drew = .ok (.slice (some ⟨b, off, none⟩) (i + (n - j)) cap) W1 := by
        intro ad had
        have := run_append_room' (P := Try.prog) (t := 28) (ty := ty) hun hi w.drew b off i cap arr tb hb ad (n - j) (cap - j) news (by rw [hnl, h5]) had hn1 (by omega) (by rw [h5]; omega)
        rw [this, hW1, hA1, h5]
        rfl
      split
      · refine key _ fun x u hx => ?_
        have h0 : news.length = 0 := by rw [hnl]; have : n - j = 0 := by omega
                                        rw [this]
        rw [List.length_eq_zero_iff.1 h0] at hx
        simp at hx
      · refine key _ fun x u hx => ?_
        rw [hnews] at hx
        obtain ⟨h2, _⟩ := cellsFrom_get hx
        rw [Addr.add_lit]
        exact cell_of_heap (w := w.drew) hb h2
  have X : Aside (W2 = (w.drew.setRow b A1).setRow b (laid A1 (off + (i + (n - j)) * 5) zs)) := by rw [hW2, hW1]; trivial
  have hLlt : i + (n - j) < n := by omega
  have hic : i ≤ cap := by omega
  have hjc : j ≤ cap := by omega
  have mixed : Try.prog.follows .mixedOrders = true := by kernel_rfl
  clear hW1 hW2 hb1 hb hnews hnl hn1 hs1 hsz hun h1
  go_enter Try.func52, Try.ntmps52
  go_wp2_with fail
  go_region_law_o (refine step_append_run rfl (.tmp 22) (.tmp 25) 28 28 rfl _ _ (by simp [Act.eval, Act.put]) (by simp [Act.eval, Act.put]) (hap _) ?_)
  go_wp2
  all_goals (go_ret; exact ⟨rfl, zs, hzl, by rw [← hA1]; exact X⟩)


theorem Record.e_v (r : Record) : r.e = (r.e.map D.unV).map .v := rfl

theorem Record.e_fl (xs : List Record) : xs.map Record.e = fl (xs.map fun r => r.e.map D.unV) := by
  simp only [fl, List.map_map]
  rfl

theorem slices_Delete_Record_es (es : List (List Value)) (i j : Nat) (hij : i < j) (hj : j ≤ es.length) : RetG Try.prog 52 [.one (.gv 5 (fl es) none), .one (.ro (I i)), .one (.ro (I j))] [.one (.sl 5 (fl (es.take i ++ es.drop j)))] := by
  rintro w vs ω ⟨hg, hn, ha⟩
  obtain ⟨y, hy, hy2⟩ := ha 0 _ rfl
  obtain ⟨u1, hu1, hu12⟩ := ha 1 _ rfl
  obtain ⟨u2, hu2, hu22⟩ := ha 2 _ rfl
  have e1 : u1 = .int .i64 i := Rep.eq_v hu12
  have e2 : u2 = .int .i64 j := Rep.eq_v hu22
  subst e1
  subst e2
  have hvs := args3 hn hy hu1 hu2
  subst hvs
  rcases hg.row hy2 with ⟨rfl, _⟩ | ⟨b, off, cap, arr, tb, hω, rfl, hr⟩
  · simp at hj; omega
  have hown : ω b ≠ .imm := by rw [hω]; simp
  have hroom := hr.room
  have hfit := hr.fit
  have h1 : ∀ x v, off ≤ x → x < off + es.length * 5 → arr[x]? = some v → v.oneCell' = true := by
    intro x v hx1 hx2 hv
    have hlt : (x - off) / 5 < es.length := by omega
    have he := List.getElem?_eq_getElem hlt
    have hlen := hr.len _ (List.getElem_mem hlt)
    have hlt2 : (x - off) % 5 < (es[(x - off) / 5]).length := by omega
    have := hr.cell _ _ _ _ he (List.getElem?_eq_getElem hlt2)
    rw [show off + (x - off) / 5 * 5 + (x - off) % 5 = x by omega, hv] at this
    rw [Option.some.inj this]
    exact hr.one _ (List.getElem_mem hlt) _ (List.getElem_mem hlt2)
  refine (deleteRecord_raw b off es.length cap i j arr tb w hr.heap hroom hfit hij hj h1).mono ?_
  rintro e w' ⟨rfl, zs, hzs, rfl⟩
  obtain ⟨news, hnews⟩ : ∃ news, news = (arr.toList.drop (off + j * 5)).take ((es.length - j) * 5) := ⟨_, rfl⟩
  rw [← hnews]
  have hnl : news.length = (es.length - j) * 5 := by rw [hnews]; simp; omega
  have hl1 : off + i * 5 + news.length ≤ arr.size := by omega
  have hs1 := laid_size hl1
  have hl2 : off + (i + (es.length - j)) * 5 + zs.length ≤ (laid arr (off + i * 5) news).size := by omega
  have hlen' : (es.take i ++ es.drop j).length = i + (es.length - j) := by simp; omega
  have hL : LeftRow w ((w.drew.setRow b (laid arr (off + i * 5) news)).setRow b (laid (laid arr (off + i * 5) news) (off + (i + (es.length - j)) * 5) zs)) (fun b => ω b ≠ .imm) 5 (es.take i ++ es.drop j) (.slice (some ⟨b, off, none⟩) (i + (es.length - j)) cap) := by
    refine ⟨bel_row2 hown _ _, .inr ⟨b, off, cap, _, tb, .inl hown, by rw [hlen'], ?_, by omega, by rw [laid_size hl2, hs1]; exact hfit, ?_, ?_, ?_⟩⟩
    · exact setRow_heap _ b _ _ tb (0, 0) (setRow_heap w.drew b arr _ tb (0, 0) hr.heap)
    · intro e he
      rcases List.mem_append.1 he with h | h
      · exact hr.len e (List.mem_of_mem_take h)
      · exact hr.len e (List.mem_of_mem_drop h)
    · intro e he
      rcases List.mem_append.1 he with h | h
      · exact hr.one e (List.mem_of_mem_take h)
      · exact hr.one e (List.mem_of_mem_drop h)
    · intro x y e v hx hv
      have hxl := (List.getElem?_eq_some_iff.1 hx).1
      rw [hlen'] at hxl
      have hy : y < 5 := by
        have h2 := (List.getElem?_eq_some_iff.1 hv).1
        have : e.length = 5 := by
          have := List.mem_of_getElem? hx
          rcases List.mem_append.1 this with h | h
          · exact hr.len e (List.mem_of_mem_take h)
          · exact hr.len e (List.mem_of_mem_drop h)
        omega
      rw [laid_get hl2, if_neg (by omega), laid_get hl1]
      by_cases hxi : x < i
      · rw [if_neg (by omega)]
        refine hr.cell x y e v ?_ hv
        rwa [List.getElem?_append_left (by simp; omega), List.getElem?_take, if_pos hxi] at hx
      · rw [if_pos (by omega), hnews, List.getElem?_take, if_pos (by omega), List.getElem?_drop, Array.getElem?_toList]
        have : (es.take i).length = i := by simp; omega
        rw [List.getElem?_append_right (by omega), this, List.getElem?_drop] at hx
        have := hr.cell (j + (x - i)) y e v hx hv
        rw [← this]
        congr 1
        omega
  obtain ⟨ω', h2, h3, h4⟩ := hL.res
  refine ⟨_, rfl, hL.bel, ω', h2, h3, kept_none ?_, h4⟩
  intro i' j' ga k es0 es' hga hc
  match i' with
  | 0 => simp at hga; subst hga; simp only [GA.cell] at hc; split at hc <;> simp at hc
  | 1 => simp at hga; subst hga; simp only [GA.cell] at hc; split at hc <;> simp at hc
  | 2 => simp at hga; subst hga; simp only [GA.cell] at hc; split at hc <;> simp at hc
  | _ + 3 => simp at hga

theorem slices_Delete_Record_ret (xs : List Record) (i j : Nat) (hij : i < j) (hj : j ≤ xs.length) : RetG Try.prog 52 [.one (.gv 5 (xs.map Record.e) none), .one (.ro (I i)), .one (.ro (I j))] [.one (.sl 5 ((xs.take i ++ xs.drop j).map Record.e))] := by
  have := slices_Delete_Record_es (xs.map fun r => r.e.map D.unV) i j hij (by simpa using hj)
  rw [Record.e_fl, Record.e_fl]
  simpa using this







end Go.Proofs.Ytbbjajmimckabaa
