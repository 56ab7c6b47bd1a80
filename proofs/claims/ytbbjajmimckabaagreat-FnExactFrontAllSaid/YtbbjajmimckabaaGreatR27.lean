/- Clearing the end of a tree of the call's own: 'clear(s[i:])', two operations in one step. -/
import Derived.Test.YtbbjajmimckabaaGreatR26
set_option linter.unusedVariables false
set_option linter.unusedSimpArgs false
namespace Go.Sx
open Go.RowKit

/-- An array over which 'cs' was laid from place o on. -/
def laid (arr : Array Value) (o : Nat) (cs : List Value) : Array Value := (arr.toList.take o ++ cs ++ arr.toList.drop (o + cs.length)).toArray

theorem laid_size {arr : Array Value} {o : Nat} {cs : List Value} (h : o + cs.length ≤ arr.size) : (laid arr o cs).size = arr.size := by
  simp [laid]; omega

theorem laid_get {arr : Array Value} {o : Nat} {cs : List Value} (h : o + cs.length ≤ arr.size) (x : Nat) :
    (laid arr o cs)[x]? = if o ≤ x ∧ x < o + cs.length then cs[x - o]? else arr[x]? := by
  simp only [laid, List.getElem?_toArray, List.append_assoc]
  have hl : (arr.toList.take o).length = o := by simp; omega
  split
  · rename_i hx
    rw [List.getElem?_append_right (by omega), List.getElem?_append_left (by omega), hl]
  · rename_i hx
    by_cases h1 : x < o
    · rw [List.getElem?_append_left (by omega), List.getElem?_take, if_pos h1, Array.getElem?_toList]
    · rw [List.getElem?_append_right (by omega), List.getElem?_append_right (by omega), hl, List.getElem?_drop, Array.getElem?_toList]
      congr 1
      omega

theorem run_copyK {P : Program} (w : World) (dT sT ty elem : TypeId) (k b o dLen dCap : Nat) (arr : Array Value) (tb : TypeId) (a : Addr) (sLen sCap : Nat) (cs : List Value)
    (hu : P.underlying dT = some (.slice elem)) (hs : (P.info? elem).map (·.size) = some k) (hb : w.heap[b]? = some (.cells arr tb (0, 0))) (hn : cs.length = Nat.min sLen dLen * k)
    (hsrc : ∀ j v, cs[j]? = some v → w.cell? (a.add j) = some v) (hfit : o + cs.length ≤ arr.size) (h1 : ∀ v ∈ cs, v.oneCell' = true) :
    (Builtin.copy_ #[dT, sT] ty #[.slice (some ⟨b, o, none⟩) dLen dCap, .slice (some a) sLen sCap]).run P w = .ok (goInt (Nat.min sLen dLen)) (w.setRow b (laid arr o cs)) := by
  have hf := run_firstCells_some (P := P) w k (Nat.min sLen dLen) a sLen sCap cs hn hsrc
  have hst := run_storeCells_at P b o tb cs 0 arr w hb (by simpa using hfit) h1
  simp only [Nat.add_zero] at hst
  cases hq : P.info? elem with
  | none => simp [hq] at hs
  | some i =>
    have hi : i.size = k := by simpa [hq] using hs
    subst hi
    simp [Builtin.copy_, run_underlying hu, Builtin.lenOf, sizeOf, typeInfo, hq, hf, hst, laid]

theorem run_clearK {P : Program} (w : World) (t e ty : TypeId) (z : Value) (ht : P.underlying t = some (.slice e)) (hv : (zeroValue e).run P w = .ok z w) (b o n c : Nat) (arr : Array Value) (tb : TypeId)
    (hb : w.heap[b]? = some (.cells arr tb (0, 0))) (hfit : o + n * z.cells.size ≤ arr.size) (h1 : ∀ v ∈ z.cells.toList, v.oneCell' = true) :
    ∃ zs : List Value, zs.length = n * z.cells.size ∧ (∀ m, m < n * z.cells.size → zs[m]? = z.cells[m % z.cells.size]?) ∧ (Builtin.clear_ #[t] ty #[.slice (some ⟨b, o, none⟩) n c]).run P w = .ok (.tuple #[]) (if n = 0 then w else w.setRow b (laid arr o zs)) := by
  refine ⟨(Builtin.zeroCells z.cells n).toList, by simp [Builtin.zeroCells], fun m hm => ?_, ?_⟩
  · have hpos : 0 < z.cells.size := by
      rcases Nat.eq_zero_or_pos z.cells.size with h | h
      · rw [h] at hm; simp at hm
      · exact h
    simp only [Builtin.zeroCells, Array.toList_map, Array.toList_range, List.getElem?_map, List.getElem?_range hm, Option.map_some]
    rw [getElem!_pos z.cells _ (Nat.mod_lt _ hpos), Array.getElem?_eq_getElem (Nat.mod_lt _ hpos)]
  have hone : ∀ v ∈ (Builtin.zeroCells z.cells n).toList, v.oneCell' = true := by
    intro v hv'
    simp only [Builtin.zeroCells, Array.toList_map, List.mem_map, Array.toList_range, List.mem_range] at hv'
    obtain ⟨i, hi, rfl⟩ := hv'
    have hpos : 0 < z.cells.size := by
      rcases Nat.eq_zero_or_pos z.cells.size with h | h
      · rw [h] at hi; simp at hi
      · exact h
    refine h1 _ ?_
    rw [getElem!_pos z.cells _ (Nat.mod_lt _ hpos)]
    simp
  have hst := run_storeCells_at P b o tb (Builtin.zeroCells z.cells n).toList 0 arr w hb (by simpa [Builtin.zeroCells] using hfit) hone
  simp only [Nat.add_zero] at hst
  cases n with
  | zero => simp [Builtin.clear_, run_underlying ht]
  | succ n => simp [Builtin.clear_, run_underlying ht, hv, hst, laid]


def clrLeaf (t k : Nat) (es' : List (List D)) : Leaf → Leaf
  | .sl (.own s) k' es => if s = t then .sl (.own t) k es' else .sl (.own s) k' es
  | l => Leaf.re (dropT t) (fun _ => true) l

def stepClear (P : Program) (st : St) (d : Nat) (t : TypeId) (x : Operand) (lo : Option Operand) (tc : TypeId) (ans : List Ans) : Stepped :=
  match elemOf P t, (st.ev x).leaf with
  | some (e, k), some (.sl (.own tk) k' es) =>
    match P.info? e with
    | some i =>
      match i.zero, optInt st lo with
      | some z, some l =>
        if k = k' ∧ t = tc ∧ z.cells.size = k ∧ z.cells.toList.all (fun v => v.oneCell') = true ∧ d < st.env.length then
          let st2 := st.map (clrLeaf tk k (es.take (l.getD 0).toNat ++ List.replicate (es.length - (l.getD 0).toNat) (z.cells.toList.map .v)))
          some (⟨st2.env.set d .und, st2.boxes⟩, ans, [0 ≤ l.getD 0, l.getD 0 < es.length, Flat es])
        else none
      | _, _ => none
    | none => none
  | _, _ => none

theorem RelAt.clear {P : Program} {w0 : Base} {st st' : St} {a : Act} {w : World} {ω : Own} {τ : Nat → Nat × Value} {d : Nat} {t tc : TypeId} {x : Operand} {lo : Option Operand} {ans ans' : List Ans} {obs : List Prop}
    (hrel : RelAt w0 st a w ω τ) (h : stepClear P st d t x lo tc ans = some (st', ans', obs)) (ho : Obs obs) :
    d < a.tmps.size ∧ ∃ y z w', (Instr.sliceAt t (a.eval x) (lo.map a.eval) none none).run P w = .ok y w ∧ (∀ ty, (Builtin.clear_ #[tc] ty #[y]).run P w = .ok z w') ∧ Rel w0 st' (a.put (some d) y) w' := by
  unfold stepClear at h
  split at h
  · rename_i e k tk k' es he hx
    split at h
    · rename_i i hi
      split at h
      · rename_i z l hz hlo
        split at h
        · rename_i hc
          obtain ⟨rfl, rfl, hzk, hz1, hdl⟩ := hc
          refine ⟨by rw [hrel.size]; exact hdl, ?_⟩
          simp only [Option.some.injEq, Prod.mk.injEq] at h
          obtain ⟨rfl, _, rfl⟩ := h
          obtain ⟨o1, o2, hflat, _⟩ := ho
          obtain ⟨hu, i2, hi2, hsz⟩ := elemOf_spec he
          obtain ⟨hr, hh⟩ := PV.leaf_sat hx (hrel.ev x)
          have h3 := optInt_sat hrel hlo
          have hl' : (lo.map a.eval = none ∧ l.getD 0 = 0) ∨ ∃ k, lo.map a.eval = some (.int k (l.getD 0)) := by
            rcases h3 with ⟨h, rfl⟩ | ⟨k, n, h, rfl⟩
            · exact .inl ⟨h, rfl⟩
            · exact .inr ⟨k, h⟩
          generalize hev : a.eval x = y0 at hr hh
          cases hr with
          | nil _ _ a0 => simp at o2; omega
          | row R k es b off cap arr ty fr us hb hR hcap hs hk hu' hd =>
            have hR' : ω b = .tok tk [] := hR
            obtain ⟨hown, arr0, ty0, hb0⟩ := hrel.owned b (by rw [hR']; simp)
            rw [hb] at hb0
            simp only [Option.some.injEq, Obj.cells.injEq] at hb0
            obtain ⟨rfl, rfl, rfl⟩ := hb0
            obtain ⟨L, hL⟩ : ∃ L, L = (l.getD 0).toNat := ⟨_, rfl⟩
            have hLl : L < es.length := by omega
            rw [← hL]
            have hfit : off + L * k + (es.length - L) * z.cells.size ≤ arr.size := by
              rw [hzk, Nat.add_assoc, ← Nat.add_mul, show L + (es.length - L) = es.length by omega]
              have := Nat.mul_le_mul_right k hcap
              omega
            have hzv : (zeroValue e).run P w = .ok z w := by simp [zeroValue, typeInfo, hi, hz]
            obtain ⟨zs, hzl, hzg, hclr⟩ : ∃ zs : List Value, zs.length = (es.length - L) * z.cells.size ∧ (∀ m, m < (es.length - L) * z.cells.size → zs[m]? = z.cells[m % z.cells.size]?) ∧
                ∀ ty, (Builtin.clear_ #[t] ty #[.slice (some ⟨b, off + L * k, none⟩) (es.length - L) (cap - L)]).run P w = .ok (.tuple #[]) (if es.length - L = 0 then w else w.setRow b (laid arr (off + L * k) zs)) := by
              obtain ⟨zs, h1, h2, h3⟩ := run_clearK (P := P) w t e 0 z hu hzv b (off + L * k) (es.length - L) (cap - L) arr ty hb hfit (List.all_eq_true.1 hz1)
              exact ⟨zs, h1, h2, fun ty' => h3⟩
            rw [if_neg (by omega)] at hclr
            rw [hzk] at hzl hzg
            have hl2 : off + L * k + zs.length ≤ arr.size := by rw [hzl, ← hzk]; exact hzk ▸ hfit
            refine ⟨.slice (some ⟨b, off + L * k, none⟩) (es.length - L) (cap - L), _, _, ?_, hclr, ?_⟩
            · simp only [Instr.sliceAt, Sem.run_bind, run_underlying hu, Result.andThen_ok, Instr.slice, Option.map_none]
              rw [run_sliceBounds (h := es.length) hl' (.inl ⟨rfl, rfl⟩) o1 (by omega) (by omega)]
              have hne : ¬ cap = L := by omega
              simp [sizeOf, typeInfo, hi2, hsz, ← hL, hne, Addr.add_lit]
            · -- what stands behind it
              have hhs := setRow_heap w b arr (laid arr (off + L * k) zs) ty (0, 0) hb
              have hnew : Rep (w.setRow b (laid arr (off + L * k) zs)) ω (Tag.own tk).R (.sl k (es.take L ++ List.replicate (es.length - L) (z.cells.toList.map .v))) (.slice (some ⟨b, off, none⟩) es.length cap) := by
                have hlen : (es.take L ++ List.replicate (es.length - L) (z.cells.toList.map D.v)).length = es.length := by simp; omega
                have hcell : ∀ x j d, cellAt (es.take L ++ List.replicate (es.length - L) (z.cells.toList.map D.v)) x j = some d → ∃ v, d = .v v ∧ (laid arr (off + L * k) zs)[off + x * k + j]? = some v ∧ v.oneCell' = true := by
                  intro x j d hdx
                  rw [cellAt_append] at hdx
                  have htl : (es.take L).length = L := by simp; omega
                  rw [htl] at hdx
                  split at hdx
                  · rename_i hxL
                    have hdx' : cellAt es x j = some d := by
                      unfold cellAt at hdx ⊢
                      rwa [List.getElem?_take, if_pos hxL] at hdx
                    obtain ⟨hxl, hjl⟩ := cellAt_lt hk hdx'
                    have hmem : ∃ v, d = .v v := by
                      unfold cellAt at hdx'
                      cases e1 : es[x]? with
                      | none => simp [e1] at hdx'
                      | some ds =>
                        simp only [e1, Option.bind_some] at hdx'
                        exact hflat ds (List.mem_of_getElem? e1) d (List.mem_of_getElem? hdx')
                    obtain ⟨v, rfl⟩ := hmem
                    have h4 := hd x j _ hdx'
                    have h5 := hu' x j _ hdx'
                    generalize us x j = u at h4 h5
                    cases h4 with
                    | v _ _ h6 =>
                      refine ⟨v, rfl, ?_, h6⟩
                      rw [laid_get hl2, if_neg ?_, h5]
                      have : (x + 1) * k ≤ L * k := Nat.mul_le_mul_right _ hxL
                      rw [Nat.add_mul] at this
                      omega
                  · rename_i hxL
                    unfold cellAt at hdx
                    rw [List.getElem?_replicate] at hdx
                    split at hdx
                    · rename_i hxn
                      simp only [Option.bind_some, List.getElem?_map, Option.map_eq_some_iff] at hdx
                      obtain ⟨v, hv, rfl⟩ := hdx
                      have hjk : j < k := by
                        have := (List.getElem?_eq_some_iff.1 hv).1
                        rw [Array.length_toList, hzk] at this
                        exact this
                      refine ⟨v, rfl, ?_, List.all_eq_true.1 hz1 v (List.mem_of_getElem? hv)⟩
                      obtain ⟨m, hm⟩ : ∃ m, x = L + m := ⟨x - L, by omega⟩
                      subst hm
                      have hmk : m * k + j < (es.length - L) * k := by
                        have : (m + 1) * k ≤ (es.length - L) * k := Nat.mul_le_mul_right _ (by omega)
                        rw [Nat.add_mul] at this
                        omega
                      have e1 : off + (L + m) * k + j = off + L * k + (m * k + j) := by rw [Nat.add_mul]; omega
                      rw [e1, laid_get hl2, if_pos (by omega), show off + L * k + (m * k + j) - (off + L * k) = m * k + j by omega, hzg _ hmk, show (m * k + j) % k = j by rw [Nat.mul_comm m k, Nat.mul_add_mod, Nat.mod_eq_of_lt hjk]]
                      simpa using hv
                    · simp at hdx
                have := Rep.row (w := w.setRow b (laid arr (off + L * k) zs)) (ω := ω) (Tag.own tk).R k (es.take L ++ List.replicate (es.length - L) (z.cells.toList.map .v)) b off cap _ ty (0, 0)
                  (fun x j => (laid arr (off + L * k) zs).getD (off + x * k + j) undef) hhs hR (by omega) (by rw [laid_size hl2]; exact hs)
                  (by
                    intro e' he'
                    rcases List.mem_append.1 he' with h | h
                    · exact hk e' (List.mem_of_mem_take h)
                    · rw [List.eq_of_mem_replicate h]; simp [hzk])
                  (fun x j d hdx => by obtain ⟨v, rfl, h1, _⟩ := hcell x j d hdx; simp [Array.getD_eq_getD_getElem?, h1])
                  (fun x j d hdx => by
                    obtain ⟨v, rfl, h1, h2⟩ := hcell x j d hdx
                    have : (laid arr (off + L * k) zs).getD (off + x * k + j) undef = v := by simp [Array.getD_eq_getD_getElem?, h1]
                    rw [this]
                    exact .v _ _ h2)
                rwa [hlen] at this
              have ev : Evolve w ω τ (w.setRow b (laid arr (off + L * k) zs)) ω τ (dropT tk) (fun _ => true) := by
                refine ⟨?_, ?_, fun id c _ hc => hc, rfl⟩
                · intro g g' c q hg _ hq
                  obtain ⟨rfl, hnt⟩ := dropT_R hg hq
                  exact ⟨hq, setRow_other w b c _ fun e => hnt [] (by rw [e]; exact hR')⟩
                · intro g g' y hg hy
                  cases g with
                  | free => simp only [dropT, Option.some.injEq] at hg; subst hg; trivial
                  | own x =>
                    simp only [dropT] at hg
                    split at hg
                    · cases hg
                    · simp only [Option.some.injEq] at hg; subst hg; exact hy
                  | ro x =>
                    simp only [dropT] at hg
                    split at hg
                    · cases hg
                    · simp only [Option.some.injEq] at hg; subst hg; trivial
              have hsat : ∀ lf v, Sat w ω τ lf v → Sat (w.setRow b (laid arr (off + L * k) zs)) ω τ (clrLeaf tk k (es.take L ++ List.replicate (es.length - L) (z.cells.toList.map .v)) lf) v := by
                intro lf v hsv
                by_cases hcase : ∃ s k' es', lf = .sl (.own s) k' es'
                · obtain ⟨s, k', es', rfl⟩ := hcase
                  simp only [clrLeaf]
                  split
                  · rename_i hst
                    subst hst
                    obtain ⟨_, h2⟩ := hsv
                    simp only [Tag.hdr] at h2 hh
                    rw [h2] at hh
                    simp only [Prod.mk.injEq] at hh
                    obtain ⟨rfl, rfl⟩ := hh
                    exact ⟨hnew, h2⟩
                  · rename_i hst
                    have := ev.sat (.sl (.own s) k' es') v hsv
                    simpa [Leaf.re, dropT, hst] using this
                · have h9 : clrLeaf tk k (es.take L ++ List.replicate (es.length - L) (z.cells.toList.map .v)) lf = Leaf.re (dropT tk) (fun _ => true) lf := by
                    unfold clrLeaf
                    split
                    · exact absurd ⟨_, _, _, rfl⟩ hcase
                    · rfl
                  rw [h9]
                  exact ev.sat lf v hsv
              have h1 : RelAt w0 (st.map (clrLeaf tk k (es.take L ++ List.replicate (es.length - L) (z.cells.toList.map .v)))) a (w.setRow b (laid arr (off + L * k) zs)) ω τ := by
                refine hrel.turn _ hsat (hrel.below.setRow hown _) ?_ (fun id c hc => ⟨hc, setRow_other w b c _ fun e => by rw [e, hR'] at hc; cases hc⟩) (fun id c hc => hc) (fun _ _ => rfl)
                intro c hc
                obtain ⟨h1, arr2, ty2, h2⟩ := hrel.owned c hc
                by_cases e : c = b
                · subst e; exact ⟨h1, _, ty, hhs⟩
                · exact ⟨h1, arr2, ty2, (setRow_other w b c _ e).trans h2⟩
              exact ⟨ω, τ, h1.put (p := .und) trivial⟩
        · cases h
      · cases h
    · cases h
  · cases h
end Go.Sx
