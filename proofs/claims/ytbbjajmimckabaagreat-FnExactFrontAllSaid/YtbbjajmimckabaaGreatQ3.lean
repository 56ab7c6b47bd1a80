/- slices.SortFunc at structs, as a contract with the row handed over. -/
import Derived.Test.YtbbjajmimckabaaGreatR30
import Derived.Test.YtbbjajmimckabaaGreatT1
import Derived.Test.YtbbjajmimckabaaGreatS1
set_option linter.unusedVariables false
set_option linter.unusedSimpArgs false
namespace Go.Proofs.YtbbjajmimckabaaGreat
open Go.Sx Go.RowKit Go.Shelf Go.Lib Go.Sort

theorem blw_grow {w w' : World} (h : Blw w.heap.size w w') : ∃ q os, w' = grow (w.drewN q) os := by
  refine ⟨w'.drawn - w.drawn, w'.heap.extract w.heap.size w'.heap.size, ?_⟩
  have h1 := h.below.size
  have hh : w.heap ++ w'.heap.extract w.heap.size w'.heap.size = w'.heap := by
    apply Array.ext_getElem?
    intro i
    rw [Array.getElem?_append]
    by_cases hi : i < w.heap.size
    · rw [if_pos hi]; exact (h.below.block i hi).symm
    · rw [if_neg hi, Array.getElem?_extract]
      by_cases h2 : i < w'.heap.size
      · rw [if_pos (by simp; omega)]
        congr 1
        omega
      · rw [if_neg (by simp; omega)]
        exact (Array.getElem?_eq_none (by omega)).symm
  obtain ⟨heap, tape, drawn, os, output⟩ := w
  obtain ⟨heap', tape', drawn', os', output'⟩ := w'
  have e1 := h.below.os
  have e2 := h.below.tape
  have e3 := h.below.output
  have e4 := h.drawn
  simp only at e1 e2 e3 e4 hh h1
  subst e1 e2 e3
  simp only [grow, World.drewN, hh]
  congr 1
  omega

theorem sortK_heap {α : Type} [Inhabited α] {enc : α → List Value} {k b off n : Nat} {d : Array α} {os : Array Obj} {w : World} {arr : Array Value} {ty : TypeId} (hb : w.heap[b]? = some (.cells arr ty (0, 0))) :
    (sortWorldK enc k w b off n d os).heap[b]? = some (.cells (putCells id off (flatK enc k d) arr) ty (0, 0)) := by
  have hlt : b < w.heap.size := (Array.getElem?_eq_some_iff.1 hb).1
  have : b < (putRowK enc k (Sort.ahead w n) b off d).heap.size := by simpa [putRowK, putRow, mapBlock, Sort.ahead] using hlt
  simp only [sortWorldK, grow, Array.getElem?_append, if_pos this]
  simp [putRowK, putRow, mapBlock, Sort.ahead, Array.getElem?_modify, hb, onCells]

theorem sortK_bel {α : Type} [Inhabited α] {enc : α → List Value} {k b off n : Nat} {d : Array α} {os : Array Obj} {w : World} {own : Nat → Prop} (hb : own b) : Bel ⟨w, own, fun _ => (0, undef)⟩ (sortWorldK enc k w b off n d os) := by
  refine ⟨rfl, rfl, rfl, ?_, fun c hc hg => ?_, ?_⟩
  · simp [sortWorldK, grow, putRowK, putRow, mapBlock, Sort.ahead]
  · have hne : b ≠ c := fun e => hg (by rw [← e]; exact hb)
    have : c < (putRowK enc k (Sort.ahead w n) b off d).heap.size := by simpa [putRowK, putRow, mapBlock, Sort.ahead] using hc
    simp only [sortWorldK, grow, Array.getElem?_append, if_pos this]
    simp [putRowK, putRow, mapBlock, Sort.ahead, Array.getElem?_modify, hne]
  · show w.drawn ≤ w.drawn + n
    omega

theorem flatK_at {α : Type} [Inhabited α] {enc : α → List Value} {k : Nat} {xs : List α} (hk : ∀ x, (enc x).length = k) {i j : Nat} {e : List Value} {v : Value} (he : (xs.map enc)[i]? = some e) (hv : e[j]? = some v) :
    i * k + j < (flatK enc k xs.toArray).size ∧ (flatK enc k xs.toArray)[i * k + j]! = v := by
  rw [List.getElem?_map, Option.map_eq_some_iff] at he
  obtain ⟨x, hx, rfl⟩ := he
  have hi : i < xs.length := (List.getElem?_eq_some_iff.1 hx).1
  have hj : j < k := by have := (List.getElem?_eq_some_iff.1 hv).1; rwa [hk] at this
  have hlt : i * k + j < xs.length * k := by
    have : (i + 1) * k ≤ xs.length * k := Nat.mul_le_mul_right _ hi
    rw [Nat.add_mul] at this
    omega
  refine ⟨by simpa using hlt, ?_⟩
  rw [get_flatK _ _ _ _ (by simpa using hlt)]
  have e1 : (i * k + j) / k = i := by rw [Nat.mul_comm, Nat.mul_add_div (by omega), Nat.div_eq_of_lt hj]; rfl
  have e2 : (i * k + j) % k = j := by rw [Nat.mul_comm, Nat.mul_add_mod, Nat.mod_eq_of_lt hj]
  rw [e1, e2]
  have e3 : xs.toArray[i]! = x := by
    rw [getElem!_pos xs.toArray i (by simpa using hi)]
    rw [List.getElem?_eq_getElem hi] at hx
    simpa using hx
  rw [e3]
  have hj2 : j < (enc x).length := by rw [hk]; exact hj
  rw [getElem!_pos (enc x) j hj2]
  rw [List.getElem?_eq_getElem hj2] at hv
  exact Option.some.inj hv

theorem holdsK_row {α : Type} [Inhabited α] {enc : α → List Value} {k : Nat} {xs : List α} (hk : ∀ x, (enc x).length = k) {w : World} {b off cap : Nat} {arr : Array Value} {ty : TypeId} (hr : Row w b off k cap arr ty (xs.map enc)) : HoldsK enc k w b off xs.toArray := by
  intro j hj
  rw [size_flatK] at hj
  have hkpos : 0 < k := by
    rcases Nat.eq_zero_or_pos k with h | h
    · rw [h] at hj; simp at hj
    · exact h
  have hi : j / k < xs.length := by
    have := Nat.div_lt_iff_lt_mul hkpos |>.2 (by simpa using hj)
    simpa using this
  have he : (xs.map enc)[j / k]? = some (enc xs[j / k]) := by simp [hi]
  have hjm : j % k < (enc xs[j / k]).length := by rw [hk]; exact Nat.mod_lt _ hkpos
  have hv := List.getElem?_eq_getElem hjm
  obtain ⟨_, h2⟩ := flatK_at hk he hv
  have h3 := hr.cell _ _ _ _ he hv
  have ej : j / k * k + j % k = j := by rw [Nat.mul_comm]; exact Nat.div_add_mod j k
  rw [ej] at h2
  rw [Nat.add_assoc, ej] at h3
  refine ⟨?_, by simp [World.frozen?, hr.heap]⟩
  simp only [id, h2]
  simp [World.cell?, hr.heap, h3]

theorem row_sorted {α : Type} [Inhabited α] {enc : α → List Value} {k : Nat} {xs ys : List α} (hk : ∀ x, (enc x).length = k) (h1 : ∀ x, ∀ v ∈ enc x, v.oneCell' = true) {w : World} {b off cap n : Nat} {arr : Array Value} {ty : TypeId} {os : Array Obj}
    (hr : Row w b off k cap arr ty (xs.map enc)) (hl : ys.length = xs.length) : Row (sortWorldK enc k w b off n ys.toArray os) b off k cap (putCells id off (flatK enc k ys.toArray) arr) ty (ys.map enc) := by
  have hroom := hr.room
  have hfit := hr.fit
  rw [List.length_map] at hroom
  refine ⟨sortK_heap hr.heap, by rw [List.length_map, hl]; exact hroom, by simpa [putCells] using hfit, ?_, ?_, ?_⟩
  · intro e he
    obtain ⟨x, _, rfl⟩ := List.mem_map.1 he
    exact hk x
  · intro e he
    obtain ⟨x, _, rfl⟩ := List.mem_map.1 he
    exact h1 x
  · intro i j e v he hv
    obtain ⟨h2, h3⟩ := flatK_at hk he hv
    rw [size_flatK] at h2
    have hcap : ys.length * k ≤ cap * k := Nat.mul_le_mul_right _ (by omega)
    have h2' : i * k + j < ys.length * k := by simpa using h2
    have hlt : off + i * k + j < arr.size := by omega
    simp only [putCells, Array.getElem?_mapIdx, Array.getElem?_eq_getElem hlt, Option.map_some]
    rw [if_pos ⟨by omega, by rw [size_flatK]; simp only [List.size_toArray]; omega⟩, show off + i * k + j - off = i * k + j by omega, h3]
    rfl

instance : Inhabited Record := ⟨(by constructor <;> first | exact (0 : Int) | exact ⟨0, 0⟩)⟩

def encRecord (x : Record) : List Value := x.e.map D.unV

theorem slices_SortFunc_Record_ret (xs : List Record) (cf : Record → Record → Int) (hO : SWO (ltOf cf)) (hT : ∀ x y, (ltOf cf) x y = false → (ltOf cf) y x = false → x = y) (g : Nat) (eg : ∀ args w, (callFunc g args).run Tryz.prog w = .ok (.enter g args) w)
    (hg : ∀ a b, Ret Tryz.prog g [.agg a.e, .agg b.e] [.one (I (cf a b))]) (hl : xs.length ≤ 1048576) :
    RetG Tryz.prog 71 [.one (.gv 5 (xs.map Record.e) (some ((xs.mergeSort fun x y => !(ltOf cf) y x).map Record.e))), .one (.ro (.cl g []))] [] := by
  have hk : ∀ x, (encRecord x).length = 5 := fun x => rfl
  have hone : ∀ x : Record, ∀ d ∈ x.e, ∃ v, d = .v v ∧ v.oneCell' = true := by
    intro x d hd
    simp only [Record.e, List.mem_cons, List.not_mem_nil, or_false] at hd
    rcases hd with rfl | rfl | rfl | rfl | rfl <;> exact ⟨_, rfl, rfl⟩
  have h1 : ∀ x, ∀ v ∈ encRecord x, v.oneCell' = true := by
    intro x v hv
    obtain ⟨d, hd, rfl⟩ := List.mem_map.1 hv
    obtain ⟨v, rfl, h⟩ := hone x d hd
    exact h
  have efl : ∀ l : List Record, l.map Record.e = fl (l.map encRecord) := by
    intro l
    simp only [fl, List.map_map]
    rfl
  rintro w vs ω ⟨hgv, hn, ha⟩
  obtain ⟨y, hy, hy2⟩ := ha 0 _ rfl
  obtain ⟨u, hu, hu2⟩ := ha 1 _ rfl
  have hu3 : u = .func (.func g) #[] #[] := by
    have hu4 : Rep w ω Tag.free.R (.cl g []) u := hu2
    cases hu4 with
    | cl R g caps cs us hs hu hd =>
      have : cs = #[] := Array.eq_empty_of_size_eq_zero (by simpa using hs)
      rw [this]
  subst hu3
  have hvs := args2 hn hy hu
  subst hvs
  have hy3 : Rep w ω (Tag.own (gTok 0 0)).R (.sl 5 (fl (xs.map encRecord))) y := by rw [← efl]; exact hy2
  have hperm : (xs.mergeSort fun x y => !(ltOf cf) y x).length = xs.length := (List.mergeSort_perm xs _).length_eq
  have kept : ∀ {w' : World} {b off cap : Nat} {A : Array Value} {ty : TypeId}, ω b = .tok (gTok 0 0) [] → Row w' b off 5 cap A ty ((xs.mergeSort fun x y => !(ltOf cf) y x).map encRecord) → y = .slice (some ⟨b, off, none⟩) xs.length cap →
      Kept w' ω [.one (.gv 5 (xs.map Record.e) (some ((xs.mergeSort fun x y => !(ltOf cf) y x).map Record.e))), .one (.ro (.cl g []))] #[y, .func (.func g) #[] #[]] := by
    intro w' b off cap A ty hω hr hyy i j ga k es es' hga hc
    match i with
    | 0 =>
      simp only [List.getElem?_cons_zero, Option.some.injEq] at hga
      subst hga
      simp only [GA.cell] at hc
      split at hc
      · rename_i hj
        subst hj
        simp only [Option.some.injEq, GC.gv.injEq] at hc
        obtain ⟨rfl, _, rfl⟩ := hc
        have := hr.rep (ω := ω) (R := (Tag.own (gTok 0 0)).R) hω
        rw [efl]
        rw [List.length_map, hperm, ← hyy] at this
        have e : cellOf ((#[y, .func (.func g) #[] #[]] : Array Value).getD 0 undef) 0 = y := by
          rw [hyy]; rfl
        rw [e]
        exact this
      · cases hc
    | 1 => simp at hga; subst hga; simp only [GA.cell] at hc; split at hc <;> simp at hc
    | _ + 2 => simp at hga
  rcases hgv.row hy3 with ⟨he, a, rfl⟩ | ⟨b, off, cap, arr, tb, hω, hyy, hr⟩
  · -- no element
    have hxs : xs = [] := by simpa using he
    subst hxs
    have hcon := AnyF.slices_SortFunc_none Tryz.sortRecord a 0 (.func (.func g) #[] #[]) w
    change Calls Tryz.prog 71 _ _ _ at hcon
    refine hcon.mono ?_
    rintro e w' ⟨rfl, rfl⟩
    refine ⟨_, rfl, Bel.refl _, ω, fun _ _ h => h, fun c hc => ?_, ?_, ⟨#[], rfl, rfl, fun i ad h => by simp at h⟩⟩
    · obtain ⟨⟨t, q, h2, _⟩, h3⟩ := hgv c hc
      exact ⟨⟨t, q, h2⟩, h3⟩
    · intro i j ga k es es' hga hc
      match i with
      | 0 =>
        simp only [List.getElem?_cons_zero, Option.some.injEq] at hga
        subst hga
        simp only [GA.cell] at hc
        split at hc
        · rename_i hj
          subst hj
          simp only [Option.some.injEq, GC.gv.injEq] at hc
          obtain ⟨rfl, _, rfl⟩ := hc
          simp only [List.mergeSort_nil, List.map_nil]
          exact Rep.nil _ _ a
        · cases hc
      | 1 => simp at hga; subst hga; simp only [GA.cell] at hc; split at hc <;> simp at hc
      | _ + 2 => simp at hga
  · have hown : ω b ≠ .imm := by rw [hω]; simp
    rw [List.length_map] at hyy
    have hcmp : CmpLays Tryz.prog g #[] encRecord 5 cf b off xs.toArray.size w := by
      intro m os dk _ x y
      have harg : ∀ z : Record, ArgOk (sortWorldK encRecord 5 w b off m dk os) (.agg z.e) (.agg (encRecord z).toArray) := by
        intro z
        refine ⟨_, rfl, by simp [encRecord], fun i d hd => ?_⟩
        obtain ⟨v, rfl, hv⟩ := hone z d (List.mem_of_getElem? hd)
        exact ⟨v, by simp [encRecord, hd, D.unV], .v _ _ hv⟩
      have := hg x y (sortWorldK encRecord 5 w b off m dk os) #[.agg (encRecord x).toArray, .agg (encRecord y).toArray] ⟨rfl, fun i ad hi => by
        match i with
        | 0 => simp at hi; subst hi; exact ⟨_, rfl, harg x⟩
        | 1 => simp at hi; subst hi; exact ⟨_, rfl, harg y⟩
        | _ + 2 => simp at hi⟩
      simp only [Array.append_empty]
      refine this.mono ?_
      rintro e w' ⟨v, rfl, hb, ⟨ω2, _, _, hres⟩⟩
      have : v = .int .i64 (cf x y) := Rep.eq_v hres
      subst this
      exact ⟨rfl, blw_grow hb⟩
    have hcon := AnyQ.slices_SortFunc_total Tryz.sortRecord 5 Tryz.isAgg79 Tryz.sizeOf79 encRecord hk h1 cf hO g #[] b off cap xs.toArray w eg hcmp (holdsK_row hk hr) (Array.getElem?_eq_some_iff.1 hr.heap).1 (by simp; omega) hT
    change Calls Tryz.prog 71 _ _ _ at hcon
    rw [hyy]
    refine hcon.mono ?_
    rintro e w' ⟨rfl, n, os, rfl⟩
    have hr' := row_sorted (n := n) (os := os) hk h1 hr hperm
    refine ⟨_, rfl, sortK_bel hown, ω, fun _ _ h => h, fun c hc => ?_, ?_, ⟨#[], rfl, rfl, fun i ad h => by simp at h⟩⟩
    · obtain ⟨⟨t, q, h2, _⟩, arr2, ty2, h3⟩ := hgv c hc
      refine ⟨⟨t, q, h2⟩, ?_⟩
      by_cases hcb : c = b
      · subst hcb; exact ⟨_, _, hr'.heap⟩
      · have hcl : c < w.heap.size := (Array.getElem?_eq_some_iff.1 h3).1
        have hB : Bel ⟨w, fun x => x = b, fun _ => (0, undef)⟩ (sortWorldK encRecord 5 w b off n (xs.mergeSort fun x y => !(ltOf cf) y x).toArray os) := sortK_bel rfl
        exact ⟨arr2, ty2, (hB.block c hcl hcb).trans h3⟩
    · have := kept hω hr' hyy
      rwa [hyy] at this

instance : Inhabited Stamp := ⟨(by constructor <;> first | exact (0 : Int) | exact ⟨0, 0⟩)⟩

def encStamp (x : Stamp) : List Value := x.e.map D.unV

theorem slices_SortFunc_Stamp_ret (xs : List Stamp) (cf : Stamp → Stamp → Int) (hO : SWO (ltOf cf)) (hT : ∀ x y, (ltOf cf) x y = false → (ltOf cf) y x = false → x = y) (g : Nat) (eg : ∀ args w, (callFunc g args).run Tryz.prog w = .ok (.enter g args) w)
    (hg : ∀ a b, Ret Tryz.prog g [.agg a.e, .agg b.e] [.one (I (cf a b))]) (hl : xs.length ≤ 1048576) :
    RetG Tryz.prog 89 [.one (.gv 2 (xs.map Stamp.e) (some ((xs.mergeSort fun x y => !(ltOf cf) y x).map Stamp.e))), .one (.ro (.cl g []))] [] := by
  have hk : ∀ x, (encStamp x).length = 2 := fun x => rfl
  have hone : ∀ x : Stamp, ∀ d ∈ x.e, ∃ v, d = .v v ∧ v.oneCell' = true := by
    intro x d hd
    simp only [Stamp.e, List.mem_cons, List.not_mem_nil, or_false] at hd
    rcases hd with rfl | rfl <;> exact ⟨_, rfl, rfl⟩
  have h1 : ∀ x, ∀ v ∈ encStamp x, v.oneCell' = true := by
    intro x v hv
    obtain ⟨d, hd, rfl⟩ := List.mem_map.1 hv
    obtain ⟨v, rfl, h⟩ := hone x d hd
    exact h
  have efl : ∀ l : List Stamp, l.map Stamp.e = fl (l.map encStamp) := by
    intro l
    simp only [fl, List.map_map]
    rfl
  rintro w vs ω ⟨hgv, hn, ha⟩
  obtain ⟨y, hy, hy2⟩ := ha 0 _ rfl
  obtain ⟨u, hu, hu2⟩ := ha 1 _ rfl
  have hu3 : u = .func (.func g) #[] #[] := by
    have hu4 : Rep w ω Tag.free.R (.cl g []) u := hu2
    cases hu4 with
    | cl R g caps cs us hs hu hd =>
      have : cs = #[] := Array.eq_empty_of_size_eq_zero (by simpa using hs)
      rw [this]
  subst hu3
  have hvs := args2 hn hy hu
  subst hvs
  have hy3 : Rep w ω (Tag.own (gTok 0 0)).R (.sl 2 (fl (xs.map encStamp))) y := by rw [← efl]; exact hy2
  have hperm : (xs.mergeSort fun x y => !(ltOf cf) y x).length = xs.length := (List.mergeSort_perm xs _).length_eq
  have kept : ∀ {w' : World} {b off cap : Nat} {A : Array Value} {ty : TypeId}, ω b = .tok (gTok 0 0) [] → Row w' b off 2 cap A ty ((xs.mergeSort fun x y => !(ltOf cf) y x).map encStamp) → y = .slice (some ⟨b, off, none⟩) xs.length cap →
      Kept w' ω [.one (.gv 2 (xs.map Stamp.e) (some ((xs.mergeSort fun x y => !(ltOf cf) y x).map Stamp.e))), .one (.ro (.cl g []))] #[y, .func (.func g) #[] #[]] := by
    intro w' b off cap A ty hω hr hyy i j ga k es es' hga hc
    match i with
    | 0 =>
      simp only [List.getElem?_cons_zero, Option.some.injEq] at hga
      subst hga
      simp only [GA.cell] at hc
      split at hc
      · rename_i hj
        subst hj
        simp only [Option.some.injEq, GC.gv.injEq] at hc
        obtain ⟨rfl, _, rfl⟩ := hc
        have := hr.rep (ω := ω) (R := (Tag.own (gTok 0 0)).R) hω
        rw [efl]
        rw [List.length_map, hperm, ← hyy] at this
        have e : cellOf ((#[y, .func (.func g) #[] #[]] : Array Value).getD 0 undef) 0 = y := by
          rw [hyy]; rfl
        rw [e]
        exact this
      · cases hc
    | 1 => simp at hga; subst hga; simp only [GA.cell] at hc; split at hc <;> simp at hc
    | _ + 2 => simp at hga
  rcases hgv.row hy3 with ⟨he, a, rfl⟩ | ⟨b, off, cap, arr, tb, hω, hyy, hr⟩
  · -- no element
    have hxs : xs = [] := by simpa using he
    subst hxs
    have hcon := AnyF.slices_SortFunc_none Tryz.sortStamp a 0 (.func (.func g) #[] #[]) w
    change Calls Tryz.prog 89 _ _ _ at hcon
    refine hcon.mono ?_
    rintro e w' ⟨rfl, rfl⟩
    refine ⟨_, rfl, Bel.refl _, ω, fun _ _ h => h, fun c hc => ?_, ?_, ⟨#[], rfl, rfl, fun i ad h => by simp at h⟩⟩
    · obtain ⟨⟨t, q, h2, _⟩, h3⟩ := hgv c hc
      exact ⟨⟨t, q, h2⟩, h3⟩
    · intro i j ga k es es' hga hc
      match i with
      | 0 =>
        simp only [List.getElem?_cons_zero, Option.some.injEq] at hga
        subst hga
        simp only [GA.cell] at hc
        split at hc
        · rename_i hj
          subst hj
          simp only [Option.some.injEq, GC.gv.injEq] at hc
          obtain ⟨rfl, _, rfl⟩ := hc
          simp only [List.mergeSort_nil, List.map_nil]
          exact Rep.nil _ _ a
        · cases hc
      | 1 => simp at hga; subst hga; simp only [GA.cell] at hc; split at hc <;> simp at hc
      | _ + 2 => simp at hga
  · have hown : ω b ≠ .imm := by rw [hω]; simp
    rw [List.length_map] at hyy
    have hcmp : CmpLays Tryz.prog g #[] encStamp 2 cf b off xs.toArray.size w := by
      intro m os dk _ x y
      have harg : ∀ z : Stamp, ArgOk (sortWorldK encStamp 2 w b off m dk os) (.agg z.e) (.agg (encStamp z).toArray) := by
        intro z
        refine ⟨_, rfl, by simp [encStamp], fun i d hd => ?_⟩
        obtain ⟨v, rfl, hv⟩ := hone z d (List.mem_of_getElem? hd)
        exact ⟨v, by simp [encStamp, hd, D.unV], .v _ _ hv⟩
      have := hg x y (sortWorldK encStamp 2 w b off m dk os) #[.agg (encStamp x).toArray, .agg (encStamp y).toArray] ⟨rfl, fun i ad hi => by
        match i with
        | 0 => simp at hi; subst hi; exact ⟨_, rfl, harg x⟩
        | 1 => simp at hi; subst hi; exact ⟨_, rfl, harg y⟩
        | _ + 2 => simp at hi⟩
      simp only [Array.append_empty]
      refine this.mono ?_
      rintro e w' ⟨v, rfl, hb, ⟨ω2, _, _, hres⟩⟩
      have : v = .int .i64 (cf x y) := Rep.eq_v hres
      subst this
      exact ⟨rfl, blw_grow hb⟩
    have hcon := AnyQ.slices_SortFunc_total Tryz.sortStamp 2 Tryz.isAgg77 Tryz.sizeOf77 encStamp hk h1 cf hO g #[] b off cap xs.toArray w eg hcmp (holdsK_row hk hr) (Array.getElem?_eq_some_iff.1 hr.heap).1 (by simp; omega) hT
    change Calls Tryz.prog 89 _ _ _ at hcon
    rw [hyy]
    refine hcon.mono ?_
    rintro e w' ⟨rfl, n, os, rfl⟩
    have hr' := row_sorted (n := n) (os := os) hk h1 hr hperm
    refine ⟨_, rfl, sortK_bel hown, ω, fun _ _ h => h, fun c hc => ?_, ?_, ⟨#[], rfl, rfl, fun i ad h => by simp at h⟩⟩
    · obtain ⟨⟨t, q, h2, _⟩, arr2, ty2, h3⟩ := hgv c hc
      refine ⟨⟨t, q, h2⟩, ?_⟩
      by_cases hcb : c = b
      · subst hcb; exact ⟨_, _, hr'.heap⟩
      · have hcl : c < w.heap.size := (Array.getElem?_eq_some_iff.1 h3).1
        have hB : Bel ⟨w, fun x => x = b, fun _ => (0, undef)⟩ (sortWorldK encStamp 2 w b off n (xs.mergeSort fun x y => !(ltOf cf) y x).toArray os) := sortK_bel rfl
        exact ⟨arr2, ty2, (hB.block c hcl hcb).trans h3⟩
    · have := kept hω hr' hyy
      rwa [hyy] at this

end Go.Proofs.YtbbjajmimckabaaGreat
