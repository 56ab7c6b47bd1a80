/- Arguments that are handed over: trees of slices that the callee may write. -/
import Derived.Test.YtbbjajmimckabaaGreatR17
set_option linter.unusedVariables false
set_option linter.unusedSimpArgs false
namespace Go.Sx
open Go.RowKit

def GC.leaf (t : Nat) : GC → Leaf
  | .ro d => d.leaf .free
  | .gv k es _ => .sl (.own t) k es

def gLeaves (i : Nat) : Nat → List GC → List Leaf
  | _, [] => []
  | j, c :: cs => c.leaf (gTok i j) :: gLeaves i (j + 1) cs

def GA.al (i : Nat) : GA → AL
  | .one c => .one (c.leaf (gTok i 0))
  | .agg cs => .agg (gLeaves i 0 cs)

def gEnv : Nat → List GA → List PV
  | _, [] => []
  | i, a :: as => .al (a.al i) :: gEnv (i + 1) as

def initG (args : List GA) (ntmps : Nat) : St := ⟨gEnv 0 args ++ List.replicate (ntmps - args.length) .und, []⟩

/-- What stands at the end where it was handed over. -/
def GC.post : GC → Leaf → GC
  | .gv k es (some _), .sl (.own _) k' es' => if k' = k then .gv k es (some es') else .gv k es none
  | .gv k es _, _ => .gv k es none
  | c, _ => c

def gFits (args : List GA) : Bool := args.all fun | .one _ => true | .agg cs => decide (cs.length ≤ 100)

def gK (args : List GA) (t : Nat) : Nat :=
  match (args[(t - giv) / 100]?).bind (GA.cell ((t - giv) % 100)) with
  | some (.gv k _ _) => k
  | _ => 0

def gH (args : List GA) (vs : Array Value) (t : Nat) : Nat × Value := (gK args t, cellOf (vs.getD ((t - giv) / 100) undef) ((t - giv) % 100))

theorem gH_at {args : List GA} {vs : Array Value} {i j : Nat} (hj : j < 100) {ga : GA} (ha : args[i]? = some ga) {k : Nat} {es : List (List D)} {post : Option (List (List D))} (hc : ga.cell j = some (.gv k es post)) :
    gH args vs (gTok i j) = (k, cellOf (vs.getD i undef) j) := by
  have e1 : (gTok i j - giv) / 100 = i := by simp only [gTok]; omega
  have e2 : (gTok i j - giv) % 100 = j := by simp only [gTok]; omega
  simp only [gH, gK, e1, e2, ha, Option.bind_some, hc]

theorem gLeaves_get (i : Nat) : ∀ (cs : List GC) (j x : Nat), (gLeaves i j cs)[x]? = (cs[x]?).map fun c => c.leaf (gTok i (j + x))
  | [], j, x => by simp [gLeaves]
  | c :: cs, j, 0 => by simp [gLeaves]
  | c :: cs, j, x + 1 => by
    simp only [gLeaves, List.getElem?_cons_succ, gLeaves_get i cs (j + 1) x]
    rw [show j + 1 + x = j + (x + 1) by omega]

theorem gLeaves_length (i : Nat) : ∀ (cs : List GC) (j : Nat), (gLeaves i j cs).length = cs.length
  | [], _ => rfl
  | c :: cs, j => by simp [gLeaves, gLeaves_length i cs (j + 1)]

theorem gEnv_get : ∀ (as : List GA) (i x : Nat), (gEnv i as)[x]? = (as[x]?).map fun a => .al (a.al (i + x))
  | [], i, x => by simp [gEnv]
  | a :: as, i, 0 => by simp [gEnv]
  | a :: as, i, x + 1 => by
    simp only [gEnv, List.getElem?_cons_succ, gEnv_get as (i + 1) x]
    rw [show i + 1 + x = i + (x + 1) by omega]

theorem gEnv_length : ∀ (as : List GA) (i : Nat), (gEnv i as).length = as.length
  | [], _ => rfl
  | a :: as, i => by simp [gEnv, gEnv_length as (i + 1)]

theorem GcOk.sat {w : World} {ω : Own} {τ : Nat → Nat × Value} {t : Nat} {c : GC} {y : Value} (h : GcOk w ω t c y) (hτ : ∀ k es post, c = .gv k es post → τ t = (k, y)) : Sat w ω τ (c.leaf t) y := by
  cases c with
  | ro d => exact D.leaf_sat (t := .free) (p := (0, 0)) h
  | gv k es post => exact ⟨h, hτ k es post rfl⟩

theorem initG_rel {w : World} {ω : Own} {args : List GA} {vs : Array Value} (hfit : gFits args = true) (h : GasOk w ω args vs) (ntmps : Nat) :
    Rel ⟨w, fun b => ω b ≠ .imm, gH args vs⟩ (initG args ntmps) { tmps := vs ++ Array.replicate (ntmps - vs.size) undef, defers := [] } w := by
  obtain ⟨hg, hn, ha⟩ := h
  refine ⟨ω, gH args vs, rfl, by simp [initG, hn, gEnv_length], Bel.refl _, fun b hb => ⟨.inr hb, (hg b hb).2⟩, fun _ _ => rfl, ?_, fun id ls hl => by simp [initG, getBox] at hl⟩
  intro i p hp
  simp only [initG] at hp
  rw [List.getElem?_append, gEnv_length] at hp
  split at hp
  · rename_i hi
    rw [gEnv_get, Option.map_eq_some_iff] at hp
    obtain ⟨ga, hga, rfl⟩ := hp
    rw [Nat.zero_add]
    obtain ⟨v, hv, hok⟩ := ha i ga hga
    have hi' : i < vs.size := by omega
    refine ⟨v, by rw [Array.getElem?_append, if_pos hi', hv], ?_⟩
    have hvi : vs.getD i undef = v := by simp [Array.getD_eq_getD_getElem?, hv]
    cases ga with
    | one c =>
      refine GcOk.sat hok fun k es post hc => ?_
      have := gH_at (args := args) (vs := vs) (i := i) (j := 0) (by omega) hga (k := k) (es := es) (post := post) (by simp [GA.cell, hc])
      rw [this, hvi]
      subst hc
      have hr : Rep w ω (Tag.own (gTok i 0)).R (.sl k es) v := hok
      obtain ⟨b, c, rfl⟩ := hr.len
      rfl
    | agg cs =>
      obtain ⟨us, rfl, hlen, hcs⟩ := hok
      refine ⟨us, rfl, by rw [gLeaves_length]; exact hlen, fun j l hl => ?_⟩
      rw [gLeaves_get, Option.map_eq_some_iff] at hl
      obtain ⟨c, hc, rfl⟩ := hl
      rw [Nat.zero_add]
      obtain ⟨u, hu, hok⟩ := hcs j c hc
      have hj : j < 100 := by
        have h1 := List.all_eq_true.1 hfit _ (List.mem_of_getElem? hga)
        simp only [decide_eq_true_eq] at h1
        have := (List.getElem?_eq_some_iff.1 hc).1
        omega
      refine ⟨u, hu, GcOk.sat hok fun k es post e => ?_⟩
      rw [gH_at (args := args) (vs := vs) hj hga (k := k) (es := es) (post := post) (by simp only [GA.cell, hc, e]), hvi]
      simp [cellOf, Value.cells, Array.getD_eq_getD_getElem?, hu]
  · rename_i hi
    rw [List.getElem?_replicate] at hp
    split at hp
    · rename_i hlt
      simp only [Option.some.injEq] at hp
      subst hp
      refine ⟨undef, ?_, trivial⟩
      rw [Array.getElem?_append, if_neg (by omega), Array.getElem?_replicate, if_pos (by omega)]
    · cases hp
end Go.Sx
