/- Slices that are written out. -/
import Derived.Test.YtamiheofgejehaaR7
set_option linter.unusedVariables false
set_option linter.unusedSimpArgs false
namespace Go.Sx
open Go.RowKit

def chunks (k : Nat) : Nat → List Leaf → List (List Leaf)
  | 0, _ => []
  | n + 1, ls => ls.take k :: chunks k n (ls.drop k)

theorem chunks_get (k : Nat) : ∀ (n : Nat) (ls : List Leaf) (i : Nat), (chunks k n ls)[i]? = if i < n then some ((ls.drop (i * k)).take k) else none
  | 0, ls, i => by simp [chunks]
  | n + 1, ls, 0 => by simp [chunks]
  | n + 1, ls, i + 1 => by
    simp only [chunks, List.getElem?_cons_succ, chunks_get k n]
    by_cases h : i < n
    · rw [if_pos h, if_pos (by omega), List.drop_drop]
      congr 3
      rw [Nat.add_mul]; omega
    · rw [if_neg h, if_neg (by omega)]

theorem chunks_length (k : Nat) : ∀ (n : Nat) (ls : List Leaf), (chunks k n ls).length = n
  | 0, _ => rfl
  | n + 1, ls => by simp [chunks, chunks_length k n]

/-- The trees that stand in a row of leaves, and where. -/
def movesIn (i : Nat) : Nat → List Leaf → Moves
  | _, [] => []
  | j, l :: ls => match l.tok with
    | some s => (s, (i, j)) :: movesIn i (j + 1) ls
    | none => movesIn i (j + 1) ls

def movesOf : Nat → List (List Leaf) → Moves
  | _, [] => []
  | i, e :: es => movesIn i 0 e ++ movesOf (i + 1) es

/-- No tree stands twice, and none is the new one. -/
def movesOk (t : Nat) (ms : Moves) : Bool := ms.all fun x => x.1 ≠ t && (match ms.at x.1 with | some p => p.1 == x.2.1 && p.2 == x.2.2 | none => false)

theorem mem_movesIn (i : Nat) : ∀ (ls : List Leaf) (j0 j : Nat) (l : Leaf) (s : Nat), ls[j]? = some l → l.tok = some s → (s, (i, j0 + j)) ∈ movesIn i j0 ls
  | [], _, _, _, _, h, _ => by simp at h
  | l0 :: ls, j0, 0, l, s, h, hs => by
    simp at h; subst h
    simp only [movesIn, hs]
    exact List.mem_cons_self
  | l0 :: ls, j0, j + 1, l, s, h, hs => by
    have := mem_movesIn i ls (j0 + 1) j l s (by simpa using h) hs
    rw [show j0 + 1 + j = j0 + (j + 1) by omega] at this
    simp only [movesIn]
    split
    · exact List.mem_cons_of_mem _ this
    · exact this

theorem mem_movesOf : ∀ (es : List (List Leaf)) (i0 i j : Nat) (e : List Leaf) (l : Leaf) (s : Nat), es[i]? = some e → e[j]? = some l → l.tok = some s → (s, (i0 + i, j)) ∈ movesOf i0 es
  | [], _, _, _, _, _, _, h, _, _ => by simp at h
  | e0 :: es, i0, 0, j, e, l, s, h, hl, hs => by
    simp at h; subst h
    simp only [movesOf]
    have := mem_movesIn i0 e0 0 j l s hl hs
    rw [Nat.zero_add] at this
    exact List.mem_append_left _ this
  | e0 :: es, i0, i + 1, j, e, l, s, h, hl, hs => by
    have := mem_movesOf es (i0 + 1) i j e l s (by simpa using h) hl hs
    rw [show i0 + 1 + i = i0 + (i + 1) by omega] at this
    simp only [movesOf]
    exact List.mem_append_right _ this

theorem movesOk_spec {t : Nat} {ms : Moves} (h : movesOk t ms = true) {s : Nat} {p : Nat × Nat} (hm : (s, p) ∈ ms) : s ≠ t ∧ ms.at s = some p := by
  have := List.all_eq_true.1 h _ hm
  simp only [Bool.and_eq_true, decide_eq_true_eq] at this
  refine ⟨this.1, ?_⟩
  have h2 := this.2
  split at h2
  · rename_i p' e
    simp only [Bool.and_eq_true, beq_iff_eq] at h2
    rw [e]
    congr 1
    exact Prod.ext h2.1 h2.2
  · cases h2

def stepBuildSlice (P : Program) (st : St) (d : Nat) (t : TypeId) (len : Nat) (parts : List (Nat × Operand)) (ans : List Ans) : Stepped :=
  match P.underlying t with
  | some (.slice e) =>
    match P.info? e with
    | some i =>
      match i.zero with
      | some z =>
        if i.size = z.cells.size ∧ 0 < i.size ∧ len * i.size ≤ 16777216 then
          match fillL (fun x => some (x * i.size, i.size)) ((List.replicate len (z.cells.toList.map Leaf.v)).flatten) (parts.map fun x => (x.1, st.ev x.2)) with
          | some r =>
            let ls := chunks i.size len r
            match ls.mapM (fun x => x.mapM Leaf.toD) with
            | some es => if movesOk d (movesOf 0 ls) then
                some (⟨(st.newTok d (movesOf 0 ls)).env.set d (.one (.sl (.own d) i.size es)), (st.newTok d (movesOf 0 ls)).boxes⟩, ans, []) else none
            | none => none
          | none => none
        else none
      | none => none
    | none => none
  | _ => none

/-- The elements of a slice that is written out, and what is moved into it. -/
def bsOf (P : Program) (st : St) (d : Nat) (t : TypeId) (len : Nat) (parts : List (Nat × Operand)) : Option (Nat × List (List D) × Moves) :=
  match P.underlying t with
  | some (.slice e) =>
    match P.info? e with
    | some i =>
      match i.zero with
      | some z =>
        if i.size = z.cells.size ∧ 0 < i.size ∧ len * i.size ≤ 16777216 then
          match fillL (fun x => some (x * i.size, i.size)) ((List.replicate len (z.cells.toList.map Leaf.v)).flatten) (parts.map fun x => (x.1, st.ev x.2)) with
          | some r =>
            match (chunks i.size len r).mapM (fun x => x.mapM Leaf.toD) with
            | some es => if movesOk d (movesOf 0 (chunks i.size len r)) then some (i.size, es, movesOf 0 (chunks i.size len r)) else none
            | none => none
          | none => none
        else none
      | none => none
    | none => none
  | _ => none

theorem bsOf_step {P : Program} {st : St} {d : Nat} {t : TypeId} {len : Nat} {parts : List (Nat × Operand)} {k : Nat} {es : List (List D)} {ms : Moves} (h : bsOf P st d t len parts = some (k, es, ms)) (ans : List Ans) :
    stepBuildSlice P st d t len parts ans = some (⟨(st.newTok d ms).env.set d (.one (.sl (.own d) k es)), (st.newTok d ms).boxes⟩, ans, []) := by
  unfold bsOf at h
  unfold stepBuildSlice
  split at h
  · rename_i e h1
    try rw [h1]
    split at h
    · rename_i i h2
      try simp only [h2]
      split at h
      · rename_i z h3
        try simp only [h3]
        split at h
        · rename_i hc
          try rw [if_pos hc]
          split at h
          · rename_i r h4
            try simp only [h4]
            split at h
            · rename_i es' h5
              try simp only [h5]
              split at h
              · rename_i h6
                simp only [Option.some.injEq, Prod.mk.injEq] at h
                obtain ⟨rfl, rfl, rfl⟩ := h
                try rw [if_pos h6]
              · cases h
            · cases h
          · cases h
        · cases h
      · cases h
    · cases h
  · cases h

theorem mapM_get {α β : Type} {f : α → Option β} : ∀ {xs : List α} {ys : List β}, xs.mapM f = some ys → ys.length = xs.length ∧ ∀ (i : Nat) (y : β), ys[i]? = some y → ∃ x, xs[i]? = some x ∧ f x = some y
  | [], ys, h => by simp at h; subst h; exact ⟨rfl, fun i y hy => by simp at hy⟩
  | x :: xs, ys, h => by
    rw [List.mapM_cons] at h
    cases e : f x with
    | none => simp [e] at h
    | some y0 =>
      cases e2 : xs.mapM f with
      | none => simp [e, e2] at h
      | some ys0 =>
        simp [e, e2] at h
        subst h
        obtain ⟨h1, h2⟩ := mapM_get e2
        refine ⟨by simp [h1], fun i y hy => ?_⟩
        cases i with
        | zero => simp at hy; subst hy; exact ⟨x, rfl, e⟩
        | succ i => exact h2 i y (by simpa using hy)

theorem flatten_replicate_get {α : Type} (e : List α) : ∀ (n i j : Nat), i < n → j < e.length → ((List.replicate n e).flatten)[i * e.length + j]? = e[j]?
  | 0, i, j, hi, _ => by omega
  | n + 1, 0, j, _, hj => by
    rw [List.replicate_succ, List.flatten_cons, List.getElem?_append, Nat.zero_mul, Nat.zero_add, if_pos hj]
  | n + 1, i + 1, j, hi, hj => by
    rw [List.replicate_succ, List.flatten_cons, List.getElem?_append, if_neg (by rw [Nat.add_mul]; omega)]
    have := flatten_replicate_get e n i j (by omega) hj
    rw [← this]
    congr 1
    rw [Nat.add_mul]; omega

theorem RelAt.buildSlice {P : Program} {w0 : World} {st st' : St} {a : Act} {w : World} {ω : Own} {τ : Nat → Nat × Value} {d : Nat} {t : TypeId} {len : Nat} {parts : Array (Nat × Operand)} {ans ans' : List Ans} {obs : List Prop}
    (hrel : RelAt w0 st a w ω τ) (h : stepBuildSlice P st d t len parts.toList ans = some (st', ans', obs)) :
    ∃ z w', (Instr.buildSlice t len (parts.map fun (i, x) => (i, a.eval x))).run P w = .ok z w' ∧ Rel w0 st' (a.put (some d) z) w' := by
  unfold stepBuildSlice at h
  split at h
  · rename_i e hu
    split at h
    · rename_i i hi
      split at h
      · rename_i z hz
        split at h
        · rename_i hc
          obtain ⟨hc1, hc2, hc3⟩ := hc
          split at h
          · rename_i r hr
            simp only at h
            split at h
            · rename_i es hes
              split at h
              · rename_i hmok
                simp only [Option.some.injEq, Prod.mk.injEq] at h
                obtain ⟨rfl, _, _⟩ := h
                have hzl : (z.cells.toList.map Leaf.v).length = i.size := by simp [hc1]
                have hflen : ((List.replicate len (z.cells.toList.map Leaf.v)).flatten).length = len * i.size := by simp [hc1]
                have hzs : SatL (Sat w ω τ) ((List.replicate len (z.cells.toList.map Leaf.v)).flatten) (madeCells z.cells (len * i.size)) := by
                  refine ⟨by simp [madeCells, hc1], fun x l hl => ?_⟩
                  have hlt : x < len * i.size := by
                    have := (List.getElem?_eq_some_iff.1 hl).1
                    omega
                  have hx : x = (x / i.size) * i.size + x % i.size := by rw [Nat.mul_comm]; exact (Nat.div_add_mod x i.size).symm
                  have hq : x / i.size < len := Nat.div_lt_of_lt_mul (by rw [Nat.mul_comm]; exact hlt)
                  have hm : x % i.size < i.size := Nat.mod_lt _ hc2
                  have h1 := flatten_replicate_get (z.cells.toList.map Leaf.v) len (x / i.size) (x % i.size) hq (by omega)
                  rw [hzl, ← hx, hl] at h1
                  have h2 := h1.symm
                  rw [List.getElem?_map, Option.map_eq_some_iff] at h2
                  obtain ⟨u, hu', rfl⟩ := h2
                  refine ⟨u, ?_, rfl⟩
                  have h3 := madeCells_get z.cells len (x / i.size) (x % i.size) hq (by omega)
                  rw [← hc1, ← hx] at h3
                  rw [h3]
                  simpa using hu'
                obtain ⟨out, hout, hosat⟩ := fillL_ok (vals := parts.toList.map fun x => (x.1, a.eval x.2)) (by simp) (fun j i' p hj => by
                  rw [List.getElem?_map, Option.map_eq_some_iff] at hj
                  obtain ⟨⟨i2, x⟩, hx, e⟩ := hj
                  simp only [Prod.mk.injEq] at e
                  obtain ⟨rfl, rfl⟩ := e
                  exact ⟨a.eval x, by simp only [List.getElem?_map, hx, Option.map_some], hrel.ev x⟩) hr hzs
                obtain ⟨hl1, hl2⟩ := mapM_get hes
                have hlen : es.length = len := by rw [hl1, chunks_length]
                have hcellr : ∀ x j dd, cellAt es x j = some dd → ∃ l, x < len ∧ j < i.size ∧ r[x * i.size + j]? = some l ∧ l.toD = some dd ∧ ∃ ee, (chunks i.size len r)[x]? = some ee ∧ ee[j]? = some l := by
                  intro x j dd hd
                  unfold cellAt at hd
                  cases hx : es[x]? with
                  | none => simp [hx] at hd
                  | some e' =>
                    rw [hx, Option.bind_some] at hd
                    obtain ⟨ee, h1, h2⟩ := hl2 x e' hx
                    obtain ⟨h3, h4⟩ := mapM_get h2
                    obtain ⟨l, h5, h6⟩ := h4 j dd hd
                    have h1' := h1
                    rw [chunks_get] at h1
                    split at h1
                    · simp only [Option.some.injEq] at h1
                      subst h1
                      have h5' := h5
                      rw [List.getElem?_take] at h5
                      split at h5
                      · rw [List.getElem?_drop] at h5
                        exact ⟨l, ‹_›, ‹_›, h5, h6, _, h1', h5'⟩
                      · cases h5
                    · cases h1
                have hrl : r.length = len * i.size := by
                  have := hosat.1
                  have h2 : out.size = (madeCells z.cells (len * i.size)).size := by
                    have := hosat.1
                    have h4 : ∀ (l0 : List (Nat × PV)) (ls0 r0 : List Leaf), fillL (fun x => some (x * i.size, i.size)) ls0 l0 = some r0 → r0.length = ls0.length := by
                      intro l0
                      induction l0 with
                      | nil => intro ls0 r0 h; simp [fillL] at h; rw [h]
                      | cons x l0 ih =>
                        intro ls0 r0 h
                        obtain ⟨x1, x2⟩ := x
                        simp only [fillL] at h
                        split at h
                        · split at h
                          · rename_i hh
                            rw [ih _ _ h, blit_length (by omega)]
                          · cases h
                        · cases h
                    have := h4 _ _ _ hr
                    simp [madeCells]
                    omega
                  simp [madeCells] at h2
                  omega
                have hnew : (w.alloc (.cells out e)).heap[w.heap.size]? = some (.cells out e (0, 0)) := heap_alloc_new' _ _
                have hN := hrel.newTok d (movesOf 0 (chunks i.size len r)) (k := i.size) (cap := len) (es := es) (w1 := w.alloc (.cells out e))
                  ((Below.refl _ _).alloc (Nat.le_refl _) _) hnew (by omega) (by rw [hosat.1, hrl]; exact Nat.le_refl _)
                  (fun e' he => by
                    obtain ⟨x, hx⟩ := List.mem_iff_getElem?.1 he
                    obtain ⟨ee, h1, h2⟩ := hl2 x e' hx
                    obtain ⟨h3, _⟩ := mapM_get h2
                    rw [h3]
                    rw [chunks_get] at h1
                    split at h1
                    · simp only [Option.some.injEq] at h1
                      subst h1
                      have : (x + 1) * i.size ≤ len * i.size := Nat.mul_le_mul_right _ (by omega)
                      rw [Nat.add_mul] at this
                      simp; omega
                    · cases h1)
                  (fun x j dd hd => by
                    obtain ⟨l, h1, h2, h3, h4, ee, h5, h6⟩ := hcellr x j dd hd
                    obtain ⟨u, h7, h8⟩ := hosat.2 _ _ h3
                    refine ⟨u, h7, l, h4, h8, fun s hs => ?_⟩
                    have := mem_movesOf (chunks i.size len r) 0 x j ee l s h5 h6 hs
                    rw [Nat.zero_add] at this
                    exact movesOk_spec hmok this)
                rw [hlen] at hN
                refine ⟨_, _, ?_, _, _, hN.1.put (p := .one (.sl (.own d) i.size es)) hN.2⟩
                have hz0 : ((Array.range (len * i.size)).map (fun x => (if len * i.size = 0 then (#[] : Array Value) else z.cells)[x % (if len * i.size = 0 then (#[] : Array Value) else z.cells).size]!)) = madeCells z.cells (len * i.size) := by
                  unfold madeCells
                  by_cases h0 : len * i.size = 0
                  · simp [h0]
                  · simp [h0]
                have e : (Array.map (fun (x : Nat × Operand) => (x.1, a.eval x.2)) parts).toList = parts.toList.map fun x => (x.1, a.eval x.2) := by simp
                have hlim : ¬ (len * i.size > 2 ^ 24) := by have : (2 : Nat) ^ 24 = 16777216 := by decide
                                                            omega
                simp only [Instr.buildSlice, Sem.run_bind, run_underlying hu, Result.andThen_ok, sizeOf, typeInfo, run_program, hi, Sem.run_pure]
                rw [if_neg hlim]
                by_cases h0 : len * i.size = 0
                · simp only [h0, if_true] at hz0 ⊢
                  simp only [Sem.run_pure, Sem.run_bind, Result.andThen_ok, e]
                  rw [h0] at hout
                  rw [hz0, hout]
                  simp [newRow]
                · simp only [h0, if_false] at hz0 ⊢
                  simp only [zeroValue, typeInfo, Sem.run_bind, run_program, Result.andThen_ok, hi, hz, Sem.run_pure, e]
                  rw [hz0, hout]
                  simp [newRow]
              · cases h
            · cases h
          · cases h
        · cases h
      · cases h
    · cases h
  · cases h
end Go.Sx
