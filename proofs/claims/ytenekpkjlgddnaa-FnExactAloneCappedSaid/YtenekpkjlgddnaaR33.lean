/- The contract of a function that is handed pointers to variables, out of a run of its body. -/
import Derived.Test.YtenekpkjlgddnaaR15
import Derived.Test.YtenekpkjlgddnaaR31
set_option linter.unusedVariables false
set_option linter.unusedSimpArgs false
namespace Go.Sx
open Go.RowKit

def raId (i : Nat) : Nat := giv + i

/-- The token of a slice that stays. -/
def pTok (i j : Nat) : Nat := giv + 100 + (100 * i + j)

def RA.al (i : Nat) : RA → AL
  | .ro (.one (.sl k es)) => .one (.sv (pTok i 0) k es)
  | .ro a => a.arg
  | .refp _ _ _ => .one (.ptr (raId i) 0)
  | .fn g ks => .one (.clo g (ks.map raId))

def D.pinLeaf (t : Nat) : D → Leaf
  | .sl k es => .sv t k es
  | _ => .und

def raLeaves (i : Nat) (pn : List Bool) : Nat → List D → List Leaf
  | _, [] => []
  | j, d :: ds => (if stays pn j then d.pinLeaf (pTok i j) else d.resLeaf (rTok i j)) :: raLeaves i pn (j + 1) ds

theorem raLeaves_get (i : Nat) (pn : List Bool) : ∀ (ds : List D) (j x : Nat), (raLeaves i pn j ds)[x]? = (ds[x]?).map fun d => if stays pn (j + x) then d.pinLeaf (pTok i (j + x)) else d.resLeaf (rTok i (j + x))
  | [], _, _ => by simp [raLeaves]
  | d :: ds, j, 0 => by simp [raLeaves]
  | d :: ds, j, x + 1 => by
    simp only [raLeaves, List.getElem?_cons_succ, raLeaves_get i pn ds (j + 1) x]
    rw [show j + 1 + x = j + (x + 1) by omega]

theorem raLeaves_length (i : Nat) (pn : List Bool) : ∀ (ds : List D) (j : Nat), (raLeaves i pn j ds).length = ds.length
  | [], _ => rfl
  | d :: ds, j => by simp [raLeaves, raLeaves_length i pn ds (j + 1)]

def raEnv : Nat → List RA → List PV
  | _, [] => []
  | i, a :: as => .al (a.al i) :: raEnv (i + 1) as

def raBoxes : Nat → List RA → List (Nat × List Leaf)
  | _, [] => []
  | i, .refp pn pre _ :: as => (raId i, raLeaves i pn 0 pre) :: raBoxes (i + 1) as
  | i, .ro _ :: as => raBoxes (i + 1) as
  | i, .fn _ _ :: as => raBoxes (i + 1) as

def initR (args : List RA) (ntmps : Nat) : St := ⟨(raEnv 0 args).take (realN args) ++ List.replicate (ntmps - realN args) .und, raBoxes 0 args⟩

theorem raEnv_get : ∀ (as : List RA) (i x : Nat), (raEnv i as)[x]? = (as[x]?).map fun a => .al (a.al (i + x))
  | [], i, x => by simp [raEnv]
  | a :: as, i, 0 => by simp [raEnv]
  | a :: as, i, x + 1 => by
    simp only [raEnv, List.getElem?_cons_succ, raEnv_get as (i + 1) x]
    rw [show i + 1 + x = i + (x + 1) by omega]

theorem raEnv_length : ∀ (as : List RA) (i : Nat), (raEnv i as).length = as.length
  | [], _ => rfl
  | a :: as, i => by simp [raEnv, raEnv_length as (i + 1)]

theorem raBoxes_get {id : Nat} {ls : List Leaf} : ∀ {as : List RA} {i : Nat}, getBox id (raBoxes i as) = some ls → ∃ x pn pre post, as[x]? = some (.refp pn pre post) ∧ id = raId (i + x) ∧ ls = raLeaves (i + x) pn 0 pre
  | [], i, h => by cases h
  | .ro _ :: as, i, h => by
    obtain ⟨x, pn, pre, post, h1, h2, h3⟩ := raBoxes_get (as := as) (i := i + 1) h
    exact ⟨x + 1, pn, pre, post, by simpa using h1, by rw [h2, show i + 1 + x = i + (x + 1) by omega], by rw [h3, show i + 1 + x = i + (x + 1) by omega]⟩
  | .fn _ _ :: as, i, h => by
    obtain ⟨x, pn, pre, post, h1, h2, h3⟩ := raBoxes_get (as := as) (i := i + 1) h
    exact ⟨x + 1, pn, pre, post, by simpa using h1, by rw [h2, show i + 1 + x = i + (x + 1) by omega], by rw [h3, show i + 1 + x = i + (x + 1) by omega]⟩
  | .refp pn pre post :: as, i, h => by
    simp only [raBoxes, getBox] at h
    split at h
    · rename_i e
      exact ⟨0, pn, pre, post, rfl, e.symm, (Option.some.inj h).symm⟩
    · obtain ⟨x, pn', pre, post, h1, h2, h3⟩ := raBoxes_get (as := as) (i := i + 1) h
      exact ⟨x + 1, pn', pre, post, by simpa using h1, by rw [h2, show i + 1 + x = i + (x + 1) by omega], by rw [h3, show i + 1 + x = i + (x + 1) by omega]⟩

def rFits (args : List RA) : Bool := decide (args.length < 49) && args.all fun
  | .ro _ => true
  | .refp pn pre post => decide (pn.length < 100) && decide (pre.length < 100) && decide (post.length < 100)
  | .fn _ ks => ks.all fun k => match args[k]? with | some (.refp _ _ _) => true | _ => false

/-- The block that a pointer leads to. -/
def blkOf : Value → Nat
  | .pointer (some p) => p.block
  | _ => 0

def tauR (args : List RA) (w : World) (vs : Array Value) (t : Nat) : Nat × Value :=
  if giv + 100 ≤ t then
    match args[(t - (giv + 100)) / 100]? with
    | some (.refp _ pre _) => (((pre[(t - (giv + 100)) % 100]?).map D.slK).getD 0, varCell w (vs.getD ((t - (giv + 100)) / 100) undef) ((t - (giv + 100)) % 100))
    | some (.ro (.one d)) => (d.slK, vs.getD ((t - (giv + 100)) / 100) undef)
    | _ => (0, undef)
  else if giv ≤ t then (blkOf (vs.getD (t - giv) undef), undef) else
  match args[(t - 900000000) / 100]? with
  | some (.refp _ pre _) => (((pre[(t - 900000000) % 100]?).map D.slK).getD 0, varCell w (vs.getD ((t - 900000000) / 100) undef) ((t - 900000000) % 100))
  | _ => (0, undef)

def ownR (ω : Own) : Own := fun b => match ω b with | .box i => .box (raId i) | o => o

theorem ownR_tok {ω : Own} {b t : Nat} {q : List (Nat × Nat)} (h : ω b = .tok t q) : ownR ω b = .tok t q := by simp only [ownR, h]
theorem ownR_imm {ω : Own} {b : Nat} : ownR ω b = .imm ↔ ω b = .imm := by
  simp only [ownR]
  cases ω b <;> simp
theorem ownR_box {ω : Own} {b i : Nat} : ownR ω b = .box (raId i) ↔ ω b = .box i := by
  simp only [ownR]
  cases ω b with
  | imm => simp
  | box j => simp only [raId, Owner.box.injEq]; omega
  | tok t q => simp

theorem tauR_ref {args : List RA} {w : World} {vs : Array Value} {i j : Nat} {pn : List Bool} {pre post : List D} (h : args[i]? = some (.refp pn pre post)) (hj : j < 100) :
    tauR args w vs (pTok i j) = (((pre[j]?).map D.slK).getD 0, varCell w (vs.getD i undef) j) := by
  have e1 : (pTok i j - (giv + 100)) / 100 = i := by simp only [pTok]; omega
  have e2 : (pTok i j - (giv + 100)) % 100 = j := by simp only [pTok]; omega
  unfold tauR
  rw [if_pos (by simp only [pTok]; omega), e1, e2, h]

theorem tauR_ro {args : List RA} {w : World} {vs : Array Value} {i : Nat} {d : D} (h : args[i]? = some (.ro (.one d))) : tauR args w vs (pTok i 0) = (d.slK, vs.getD i undef) := by
  have e1 : (pTok i 0 - (giv + 100)) / 100 = i := by simp only [pTok]; omega
  unfold tauR
  rw [if_pos (by simp only [pTok]; omega), e1, h]

theorem initR_rel {w : World} {ω : Own} {args : List RA} {vs : Array Value} (hfit : rFits args = true) (h : RasOk w ω args vs) (hfn : FnsOk args vs) (ntmps : Nat) :
    Rel ⟨w, fun b => ω b ≠ .imm, tauR args w vs⟩ (initR args ntmps) { tmps := vs.extract 0 (realN args) ++ Array.replicate (ntmps - (vs.extract 0 (realN args)).size) undef, defers := [] } w := by
  have hrn : realN args ≤ args.length := Nat.sub_le _ _
  obtain ⟨hun, hbx, hn, ha⟩ := h
  simp only [rFits, Bool.and_eq_true, decide_eq_true_eq, List.all_eq_true] at hfit
  have hfree : ∀ {d : D} {y : Value}, Rep w ω Tag.free.R d y → Rep w (ownR ω) Tag.free.R d y := fun h => h.frame fun b q _ hq => ⟨ownR_imm.2 hq, rfl⟩
  have hsz : (vs.extract 0 (realN args)).size = realN args := by simp [hn]; omega
  refine ⟨ownR ω, tauR args w vs, rfl, by rw [hsz]; simp [initR, raEnv_length, hn], Bel.refl _, fun b hb => ?_, fun _ _ => rfl, ?_, ?_, fun id ls hl => ?_⟩
  · have : ω b ≠ .imm := fun e => hb (ownR_imm.2 e)
    exact ⟨.inr this, hun b this⟩
  · intro id b hi hb
    simp only [ownR] at hb
    cases e : ω b with
    | imm => rw [e] at hb; cases hb
    | tok t q => rw [e] at hb; cases hb
    | box i =>
      rw [e] at hb
      simp only [Owner.box.injEq] at hb
      subst hb
      obtain ⟨pn, pre, post, h1⟩ := hbx b i e
      obtain ⟨v, hv, ⟨b1, arr, ty, rfl, h2, h3, _⟩, _⟩ := ha i _ h1
      have := h3 b e
      subst this
      have hi49 : i < 49 := by
        have := (List.getElem?_eq_some_iff.1 h1).1
        omega
      simp only [tauR]
      rw [if_neg (by simp only [raId]; omega), if_pos hi, show raId i - giv = i by simp [raId], Array.getD_eq_getD_getElem?, hv]
      rfl
  · intro i p hp
    simp only [initR] at hp
    rw [List.getElem?_append, List.length_take, raEnv_length, Nat.min_eq_left hrn] at hp
    split at hp
    · rename_i hi
      rw [List.getElem?_take, if_pos hi, raEnv_get, Option.map_eq_some_iff] at hp
      obtain ⟨ra, hra, rfl⟩ := hp
      rw [Nat.zero_add]
      obtain ⟨v, hv, hok⟩ := ha i ra hra
      have hi' : i < vs.size := by omega
      refine ⟨v, by rw [Array.getElem?_append, if_pos (by rw [hsz]; exact hi), Array.getElem?_extract, if_pos (by omega), Nat.zero_add, hv], ?_⟩
      cases ra with
      | fn g ks =>
        have h1 := hfn i g ks hra
        rw [hv] at h1
        cases h1
        refine ⟨ks.map fun k => blkOf (vs.getD k undef), ?_, by simp, fun j id hj => ?_⟩
        · congr 2
          rw [List.map_map]
          refine List.map_congr_left fun k hk => ?_
          have h2 := hfit.2 _ (List.mem_of_getElem? hra)
          have h3 := List.all_eq_true.1 h2 k hk
          split at h3
          · rename_i pn pre post hk2
            obtain ⟨v2, hv2, ⟨b2, _, _, rfl, _⟩, _⟩ := ha k _ hk2
            simp [Array.getD_eq_getD_getElem?, hv2, ptrTo, blkOf]
          · cases h3
        · rw [List.getElem?_map, Option.map_eq_some_iff] at hj
          obtain ⟨k, hk, rfl⟩ := hj
          have h2 := hfit.2 _ (List.mem_of_getElem? hra)
          have h3 := List.all_eq_true.1 h2 k (List.mem_of_getElem? hk)
          split at h3
          · rename_i pn pre post hk2
            obtain ⟨v2, hv2, ⟨b2, _, _, rfl, h5, _⟩, _⟩ := ha k _ hk2
            refine ⟨b2, ?_, ownR_box.2 h5⟩
            simp [hk, Array.getD_eq_getD_getElem?, hv2, ptrTo, blkOf]
          · cases h3
      | refp pn pre post =>
        obtain ⟨⟨b, arr, ty, rfl, h2, _⟩, _⟩ := hok
        exact ⟨b, ownR_box.2 h2, rfl⟩
      | ro ad =>
        cases ad with
        | one d =>
          cases d with
          | sl k es =>
            refine ⟨hfree hok, fun _ => ?_⟩
            rw [tauR_ro hra, Array.getD_eq_getD_getElem?, hv]
            rfl
          | v x => exact D.leaf_sat (τ := tauR args w vs) (p := (0, 0)) (t := .free) (hfree hok)
          | ptr ds => exact D.leaf_sat (τ := tauR args w vs) (p := (0, 0)) (t := .free) (hfree hok)
          | cl g cs => exact D.leaf_sat (τ := tauR args w vs) (p := (0, 0)) (t := .free) (hfree hok)
        | agg ds =>
          obtain ⟨us, rfl, hlen, hcs⟩ := hok
          refine ⟨us, rfl, by simpa using hlen, fun j l hl => ?_⟩
          rw [List.getElem?_map, Option.map_eq_some_iff] at hl
          obtain ⟨d, hd, rfl⟩ := hl
          obtain ⟨u, h1, h2⟩ := hcs j d hd
          exact ⟨u, h1, D.leaf_sat (p := (0, 0)) (t := .free) (hfree h2)⟩
    · rename_i hi
      rw [List.getElem?_replicate] at hp
      split at hp
      · rename_i hlt
        simp only [Option.some.injEq] at hp
        subst hp
        refine ⟨undef, ?_, trivial⟩
        rw [Array.getElem?_append, if_neg (by rw [hsz]; omega), Array.getElem?_replicate, if_pos (by rw [hsz]; omega)]
      · cases hp
  · obtain ⟨i, pn, pre, post, h1, rfl, rfl⟩ := raBoxes_get hl
    rw [Nat.zero_add]
    obtain ⟨v, hv, ⟨b, arr, ty, rfl, h2, h3, h4, h5, h6⟩, h7⟩ := ha i _ h1
    refine ⟨b, arr, ty, ownR_box.2 h2, fun b' hb' => h3 b' (ownR_box.1 hb'), h4, by rw [raLeaves_length]; exact h5, fun j l hl => ?_⟩
    rw [raLeaves_get, Option.map_eq_some_iff] at hl
    obtain ⟨d, hd, rfl⟩ := hl
    rw [Nat.zero_add]
    obtain ⟨u, hu, hr⟩ := h6 j d hd
    have hj : j < 100 := by
      have e1 := hfit.2 _ (List.mem_of_getElem? h1)
      simp only [Bool.and_eq_true, decide_eq_true_eq] at e1
      have := (List.getElem?_eq_some_iff.1 hd).1
      omega
    refine ⟨u, hu, ?_⟩
    cases hst : stays pn j with
    | true =>
      rw [if_pos rfl]
      have h8 := h7 j d hd hst
      have e : varCell w (ptrTo b) j = u := by simp [varCell, ptrTo, h4, Array.getD_eq_getD_getElem?, hu]
      rw [e] at h8
      cases d with
      | sl k es =>
        refine ⟨hfree h8, fun _ => ?_⟩
        rw [tauR_ref h1 hj, Array.getD_eq_getD_getElem?, hv]
        simp only [Option.getD_some, e, hd, Option.map_some]
        rfl
      | _ => exact trivial
    | false =>
    rw [if_neg (by simp)]
    replace hr := hr hst
    cases d with
    | v x =>
      have e : u = x := by cases hr; rfl
      subst e
      unfold D.resLeaf
      split
      · rename_i h; cases h; exact rfl
      · rename_i h; cases h; exact rfl
      · rename_i h; cases h
      · exact trivial
      · exact trivial
    | ptr ds => exact trivial
    | cl g caps => exact trivial
    | sl k es =>
      refine ⟨hr.frame fun c q _ hq => ⟨ownR_tok hq, rfl⟩, ?_⟩
      have e1 : (rTok i j - 900000000) / 100 = i := by simp only [rTok]; omega
      have e2 : (rTok i j - 900000000) % 100 = j := by simp only [rTok]; omega
      have hi : i < 49 := by
        have := (List.getElem?_eq_some_iff.1 h1).1
        omega
      simp only [Tag.hdr, tauR]
      rw [if_neg (by simp only [rTok, giv]; omega), if_neg (by simp only [rTok, giv]; omega)]
      simp only [e1, e2, h1, hd]
      simp [varCell, ptrTo, h4, Array.getD_eq_getD_getElem?, hv, hu, D.slK]

/-- Slices that stay, each under the token that is asked for, are left out. -/
def unpin : List (Option Nat) → List Leaf → Option (List Leaf)
  | [], ls => some ls
  | some t :: ts, .sv s _ _ :: ls => if s = t then (unpin ts ls).map fun r => .v (.bool true) :: r else none
  | none :: ts, l :: ls => (unpin ts ls).map fun r => l :: r
  | none :: ts, [] => unpin ts []
  | some _ :: _, _ => none

theorem unpin_ok : ∀ {ts : List (Option Nat)} {ls ls' : List Leaf}, unpin ts ls = some ls' → ls'.length = ls.length ∧ (∀ (j t : Nat), ts[j]? = some (some t) → ∃ k es, ls[j]? = some (.sv t k es)) ∧ ∀ j, ts.getD j none = none → ls'[j]? = ls[j]?
  | [], ls, ls', h => by
    simp only [unpin, Option.some.injEq] at h
    subst h
    exact ⟨rfl, fun j t h => by simp at h, fun _ _ => rfl⟩
  | some t :: ts, .sv s k es :: ls, ls', h => by
    simp only [unpin] at h
    split at h
    · rename_i e
      subst e
      rw [Option.map_eq_some_iff] at h
      obtain ⟨r, h1, rfl⟩ := h
      obtain ⟨g1, g2, g3⟩ := unpin_ok h1
      refine ⟨by simp [g1], fun j t hj => ?_, fun j hj => ?_⟩
      · cases j with
        | zero =>
          simp only [List.getElem?_cons_zero, Option.some.injEq] at hj
          subst hj
          exact ⟨k, es, rfl⟩
        | succ j => exact g2 j t (by simpa using hj)
      · cases j with
        | zero => simp at hj
        | succ j => simpa using g3 j (by simpa using hj)
    · cases h
  | none :: ts, l :: ls, ls', h => by
    simp only [unpin, Option.map_eq_some_iff] at h
    obtain ⟨r, h1, rfl⟩ := h
    obtain ⟨g1, g2, g3⟩ := unpin_ok h1
    refine ⟨by simp [g1], fun j t hj => ?_, fun j hj => ?_⟩
    · cases j with
      | zero => simp at hj
      | succ j => exact g2 j t (by simpa using hj)
    · cases j with
      | zero => rfl
      | succ j => simpa using g3 j (by simpa using hj)
  | none :: ts, [], ls', h => by
    simp only [unpin] at h
    obtain ⟨g1, g2, g3⟩ := unpin_ok h
    refine ⟨g1, fun j t hj => ?_, fun j hj => ?_⟩
    · cases j with
      | zero => simp at hj
      | succ j => obtain ⟨k, es, h⟩ := g2 j t (by simpa using hj); simp at h
    · have : ls' = [] := List.eq_nil_of_length_eq_zero g1
      rw [this]

/-- Their data. -/
def fixD : List (Option Nat) → List Leaf → List D → List D
  | some _ :: ts, .sv _ k es :: ls, _ :: ds => .sl k es :: fixD ts ls ds
  | _ :: ts, _ :: ls, d :: ds => d :: fixD ts ls ds
  | _, _, ds => ds

theorem fixD_ok : ∀ (ts : List (Option Nat)) (ls : List Leaf) (ds : List D), (fixD ts ls ds).length = ds.length ∧ ∀ j, ts.getD j none = none → (fixD ts ls ds)[j]? = ds[j]? := by
  intro ts ls ds
  fun_induction fixD ts ls ds with
  | case1 t ts s k es ls d ds ih =>
    refine ⟨by simp [ih.1], fun j hj => ?_⟩
    cases j with
    | zero => simp at hj
    | succ j => simpa using ih.2 j (by simpa using hj)
  | case2 x ts l ls d ds _ ih =>
    refine ⟨by simp [ih.1], fun j hj => ?_⟩
    cases j with
    | zero => rfl
    | succ j => simpa using ih.2 j (by simpa using hj)
  | case3 => exact ⟨rfl, fun _ _ => rfl⟩

def pnToks (i : Nat) : Nat → List Bool → List (Option Nat)
  | _, [] => []
  | j, b :: r => (if b then some (pTok i j) else none) :: pnToks i (j + 1) r

theorem pnToks_get (i : Nat) : ∀ (pn : List Bool) (j x : Nat), (pnToks i j pn)[x]? = (pn[x]?).map fun b => if b then some (pTok i (j + x)) else none
  | [], _, _ => by simp [pnToks]
  | b :: r, j, 0 => by simp [pnToks]
  | b :: r, j, x + 1 => by
    simp only [pnToks, List.getElem?_cons_succ, pnToks_get i r (j + 1) x]
    rw [show j + 1 + x = j + (x + 1) by omega]

/-- The variables at the end, and the trees in them. -/
def refsEnd (st : St) : Nat → List RA → Option (List RA × Toks)
  | _, [] => some ([], [])
  | i, .ro a :: as => (refsEnd st (i + 1) as).map fun r => (.ro a :: r.1, r.2)
  | i, .fn g ks :: as => (refsEnd st (i + 1) as).map fun r => (.fn g ks :: r.1, r.2)
  | i, .refp pn pre post :: as =>
    match getBox (raId i) st.boxes with
    | some ls =>
      match unpin (pnToks i 0 pn) ls with
      | some ls' =>
        match resLs (bTok i 0) ls' post, refsEnd st (i + 1) as with
        | some (ds, ts), some r => some (.refp pn pre (fixD (pnToks i 0 pn) ls ds) :: r.1, ts ++ r.2)
        | _, _ => none
      | none => none
    | none => none

theorem refsEnd_ok {st : St} : ∀ {as as' : List RA} {i : Nat} {ts : Toks}, refsEnd st i as = some (as', ts) → as'.length = as.length ∧ ∀ (x : Nat) (pn : List Bool) (pre post : List D), as'[x]? = some (.refp pn pre post) →
    ∃ ls ls' ds hint ts', getBox (raId (i + x)) st.boxes = some ls ∧ unpin (pnToks (i + x) 0 pn) ls = some ls' ∧ resLs (bTok (i + x) 0) ls' hint = some (ds, ts') ∧ post = fixD (pnToks (i + x) 0 pn) ls ds ∧ ∀ y ∈ ts', y ∈ ts
  | [], as', i, ts, h => by
    simp only [refsEnd, Option.some.injEq, Prod.mk.injEq] at h
    obtain ⟨rfl, rfl⟩ := h
    exact ⟨rfl, fun x pn pre post h => by simp at h⟩
  | .ro a :: as, as', i, ts, h => by
    simp only [refsEnd, Option.map_eq_some_iff] at h
    obtain ⟨⟨r1, r2⟩, h1, h⟩ := h
    simp only [Prod.mk.injEq] at h
    obtain ⟨rfl, rfl⟩ := h
    obtain ⟨k1, k2⟩ := refsEnd_ok h1
    refine ⟨by simp [k1], fun x pn pre post hx => ?_⟩
    cases x with
    | zero => simp at hx
    | succ x =>
      have := k2 x pn pre post (by simpa using hx)
      rwa [show i + 1 + x = i + (x + 1) by omega] at this
  | .fn g ks :: as, as', i, ts, h => by
    simp only [refsEnd, Option.map_eq_some_iff] at h
    obtain ⟨⟨r1, r2⟩, h1, h⟩ := h
    simp only [Prod.mk.injEq] at h
    obtain ⟨rfl, rfl⟩ := h
    obtain ⟨k1, k2⟩ := refsEnd_ok h1
    refine ⟨by simp [k1], fun x pn pre post hx => ?_⟩
    cases x with
    | zero => simp at hx
    | succ x =>
      have := k2 x pn pre post (by simpa using hx)
      rwa [show i + 1 + x = i + (x + 1) by omega] at this
  | .refp pn pre post :: as, as', i, ts, h => by
    simp only [refsEnd] at h
    split at h
    · rename_i ls e1
      split at h
      · rename_i ls' e0
        split at h
        · rename_i ds ts1 r e2 e3
          simp only [Option.some.injEq, Prod.mk.injEq] at h
          obtain ⟨rfl, rfl⟩ := h
          obtain ⟨k1, k2⟩ := refsEnd_ok e3
          refine ⟨by simp [k1], fun x pn' pre' post' hx => ?_⟩
          cases x with
          | zero =>
            simp only [List.getElem?_cons_zero, Option.some.injEq, RA.refp.injEq] at hx
            obtain ⟨rfl, rfl, rfl⟩ := hx
            exact ⟨ls, ls', ds, post, ts1, e1, e0, e2, rfl, fun y hy => List.mem_append_left _ hy⟩
          | succ x =>
            obtain ⟨ls, ls', ds, hint, ts', g1, g0, g2, g4, g3⟩ := k2 x pn' pre' post' (by simpa using hx)
            rw [show i + 1 + x = i + (x + 1) by omega] at g1 g2 g0 g4
            exact ⟨ls, ls', ds, hint, ts', g1, g0, g2, g4, fun y hy => List.mem_append_right _ (g3 y hy)⟩
        · cases h
      · cases h
    · cases h

def srcToks (src : List (Option Nat)) : List (Option Nat) := src.map fun x => x.map fun a => pTok a 0

def srcOk (args : List RA) : RR → Bool
  | .vals _ => true
  | .newp src _ => src.all fun
    | some a => match args[a]? with | some (.ro (.one _)) => true | _ => false
    | none => true

/-- What comes back, the trees in it, and the box of a new variable. -/
def resRR (P : Program) (st : St) (rv : List ResultVar) : RR → Option (RR × Toks × Option Nat)
  | .vals hint =>
    match rv.mapM (resVar P st) with
    | some ps => (resPs 0 ps hint).map fun r => (.vals r.1, r.2, none)
    | none => none
  | .newp src hint =>
    match rv.mapM (resVar P st) with
    | some [.al (.one (.ptr id 0))] =>
      match getBox id st.boxes with
      | some ls =>
        match unpin (srcToks src) ls with
        | some ls' => if id < giv then (resLs (bTok 49 0) ls' hint).map fun r => (.newp src (fixD (srcToks src) ls r.1), r.2, some id) else none
        | none => none
      | none => none
    | _ => none

def endR (P : Program) (st : St) (rv : List ResultVar) (args : List RA) (hint : RR) : Option (RR × List RA) :=
  match resRR P st rv hint, refsEnd st 0 args with
  | some (r, ts, _), some (as, ts2) => if rFits args && srcOk args r && toksOk (ts ++ ts2) then some (r, as) else none
  | _, _ => none

def resOwnR (ω : Own) (ts : Toks) (nw : Option Nat) : Own := fun b =>
  match ω b with
  | .tok t q => match ts.at t with | some n => .tok n q | none => .imm
  | .box id => if nw = some id then .box 49 else if giv ≤ id ∧ id < giv + 49 then .box (id - giv) else .imm
  | .imm => .imm

theorem resOwnR_tok {ω : Own} {ts : Toks} {nw : Option Nat} {b n : Nat} {q : List (Nat × Nat)} (h : resOwn ω ts b = .tok n q) : resOwnR ω ts nw b = .tok n q := by
  simp only [resOwn] at h
  simp only [resOwnR]
  cases e : ω b with
  | imm => rw [e] at h; cases h
  | box id => rw [e] at h; cases h
  | tok t q' => rw [e] at h; exact h

theorem CellRes.toR {w : World} {ω : Own} {ts : Toks} {nw : Option Nat} {r : Nat} {d : AD} {y : Value} (h : CellRes w (resOwn ω ts) r d y) : CellRes w (resOwnR ω ts nw) r d y := by
  cases d with
  | one d => exact Rep.frame h fun b q _ hq => ⟨resOwnR_tok hq, rfl⟩
  | agg ds =>
    obtain ⟨vs, e, hn, hj⟩ := h
    exact ⟨vs, e, hn, fun j d hd => by
      obtain ⟨u, hu, hr⟩ := hj j d hd
      exact ⟨u, hu, hr.frame fun b q _ hq => ⟨resOwnR_tok hq, rfl⟩⟩⟩

/-- A variable at the end. -/
theorem var_end {w : World} {ω : Own} {τ : Nat → Nat × Value} {ts : Toks} {nw : Option Nat} {id i : Nat} {ls ls' : List Leaf} {hint ds : List D} {ts' : Toks} {ks : List (Option Nat)} {pn : List Bool} (hts : ∀ t n, (t, n) ∈ ts → ts.at t = some n)
    (hb : BoxOk w ω τ id ls) (hun : unpin ks ls = some ls') (hkp : ∀ j, stays pn j = false → ks.getD j none = none) (hr : resLs (bTok i 0) ls' hint = some (ds, ts')) (hsub : ∀ y ∈ ts', y ∈ ts) (hid : ∀ b, ω b = .box id → resOwnR ω ts nw b = .box i) (huq : ∀ b, resOwnR ω ts nw b = .box i → ω b = .box id) :
    ∀ {y : Value}, (∃ b, ω b = .box id ∧ y = ptrTo b) → VarAt w (resOwnR ω ts nw) i pn (bTok i) (fixD ks ls ds) y ∧ ∀ (j t : Nat), ks[j]? = some (some t) → giv ≤ t → (τ t).2 = varCell w y j := by
  rintro y ⟨b', hb', rfl⟩
  obtain ⟨b, arr, ty, h1, h2, h3, h4⟩ := hb
  have := h2 b' hb'
  subst this
  obtain ⟨h5, h6⟩ := resLs_ok (w := w) (ω := ω) (τ := τ) hts hr hsub
  obtain ⟨u1, u2, u3⟩ := unpin_ok hun
  obtain ⟨f1, f2⟩ := fixD_ok ks ls ds
  refine ⟨⟨b', arr, ty, rfl, hid b' hb', fun c hc => h2 c (huq c hc), h3, by have := h4.1; omega, fun j d hd => ?_⟩, fun j t hj ht => ?_⟩
  · have hjl : j < ls.length := by
      have := (List.getElem?_eq_some_iff.1 hd).1
      omega
    obtain ⟨u, hu, hs⟩ := h4.2 j _ (List.getElem?_eq_getElem hjl)
    refine ⟨u, hu, fun hst => ?_⟩
    have hk := hkp j hst
    rw [f2 j hk] at hd
    obtain ⟨l, hl, hl2⟩ := h6 j d hd
    rw [u3 j hk, List.getElem?_eq_getElem hjl] at hl
    cases hl
    have := hl2 u hs
    rw [show bTok i 0 + j = bTok i j by simp only [bTok]; omega] at this
    exact this.frame fun b q _ hq => ⟨resOwnR_tok hq, rfl⟩
  · obtain ⟨k, es, hl⟩ := u2 j t hj
    obtain ⟨u, hu, hs⟩ := h4.2 j _ hl
    rw [hs.2 ht]
    simp [varCell, ptrTo, h3, Array.getD_eq_getD_getElem?, hu]

theorem retR_of_run {P : Program} {f : FuncId} {fn : Func} {c : Code} {args : List RA} {r : RR} {ans ans' : List Ans} {obs : List Prop} {e : Ex} {st : St} (hf : P.funcs[f]? = some fn) (hb : fn.body = some c)
    (hrun : run P c (initR args fn.ntmps) ans = some (e, st, ans', obs)) (ho : Obs obs) (he : e = .ret ∨ e = .normal) (hres : endR P st fn.results.toList args r = some (r, args)) : RetR P f args r := by
  intro w vs ωg hargs hfns
  unfold endR at hres
  split at hres
  · rename_i r1 ts nw as ts2 hr1 hr2
    split at hres
    · rename_i hok
      simp only [Option.some.injEq, Prod.mk.injEq] at hres
      obtain ⟨rfl, rfl⟩ := hres
      rw [Bool.and_eq_true, Bool.and_eq_true] at hok
      obtain ⟨⟨hfit, hsrc⟩, hok⟩ := hok
      have hts : ∀ t n, (t, n) ∈ ts ++ ts2 → Toks.at t (ts ++ ts2) = some n := fun t n h => toksOk_spec hok h
      refine calls_of_wp hf hb (Code.wp_mono (fun e' a' w' hp => ?_) (run_ok c hrun ho _ _ w (initR_rel hfit hargs hfns fn.ntmps)))
      obtain ⟨rfl, ω, τ, hrel⟩ := hp
      have hlen49 : r1 = r1 ∧ as.length < 49 := by
        simp only [rFits, Bool.and_eq_true, decide_eq_true_eq] at hfit
        exact ⟨rfl, hfit.1⟩
      have hnw : ∀ id, nw = some id → id < giv := by
        intro id e
        subst e
        unfold resRR at hr1
        split at hr1
        · split at hr1
          · rw [Option.map_eq_some_iff] at hr1
            obtain ⟨_, _, h⟩ := hr1
            simp only [Prod.mk.injEq] at h
            exact absurd h.2.2 (by simp)
          · cases hr1
        · split at hr1
          · split at hr1
            · split at hr1
              · split at hr1
                · rename_i hlt
                  rw [Option.map_eq_some_iff] at hr1
                  obtain ⟨_, _, h⟩ := hr1
                  simp only [Prod.mk.injEq, Option.some.injEq] at h
                  rw [← h.2.2]; exact hlt
                · cases hr1
              · cases hr1
            · cases hr1
          · cases hr1
      have hm : ∃ v, (results fn a'.tmps).run P w' = .ok v w' ∧ RROk w' (resOwnR ω (ts ++ ts2) nw) vs r1 v := by
        have hvals : ∀ {ps : List PV}, fn.results.toList.mapM (resVar P st) = some ps → ∃ zs : List Value, (results fn a'.tmps).run P w' = .ok (if h : zs.toArray.size = 1 then zs.toArray[0] else .tuple zs.toArray) w' ∧ zs.length = ps.length ∧ ∀ (i : Nat) (p : PV), ps[i]? = some p → ∃ z, zs[i]? = some z ∧ SatP (Sat w' ω τ) p z := by
          intro ps hps
          obtain ⟨zs, h1, h2, h3⟩ := mapM_results hrel hps
          have hm := run_arr_mapM (P := P) _ fn.results w' _ h1
          refine ⟨zs, ?_, h2, h3⟩
          rw [results_eq, Sem.run_bind, hm]
          rfl
        unfold resRR at hr1
        split at hr1
        · rename_i hint
          split at hr1
          · rename_i ps hps
            rw [Option.map_eq_some_iff] at hr1
            obtain ⟨⟨ds, ts1⟩, hds, h⟩ := hr1
            simp only [Prod.mk.injEq, RR.vals.injEq] at h
            obtain ⟨rfl, rfl, rfl⟩ := h
            obtain ⟨zs, h1, h2, h3⟩ := hvals hps
            obtain ⟨h4, h5⟩ := resPs_ok (w := w') (ω := ω) (τ := τ) hts hds (fun x hx => List.mem_append_left _ hx)
            have hcell : ∀ (j : Nat) (d : AD), ds[j]? = some d → ∃ z, zs[j]? = some z ∧ CellRes w' (resOwnR ω (ts1 ++ ts2) none) j d z := by
              intro j d hd
              obtain ⟨p, hp, hp2⟩ := h5 j d hd
              obtain ⟨z, hz, hz2⟩ := h3 j p hp
              have := hp2 z hz2
              rw [Nat.zero_add] at this
              exact ⟨z, hz, this.toR⟩
            have hzl : zs.length = ds.length := by omega
            refine ⟨_, h1, ?_⟩
            show ResAll _ _ _ _
            generalize hv : (if h : zs.toArray.size = 1 then zs.toArray[0] else Value.tuple zs.toArray) = v
            unfold ResAll
            split
            · rename_i ad
              obtain ⟨z, hz, hc⟩ := hcell 0 ad rfl
              have h1 : zs.length = 1 := by rw [hzl]; rfl
              have hz0 : zs = [z] := by
                match zs, h1, hz with
                | [z0], _, hz => simp at hz; rw [hz]
              have hvz : v = z := by
                rw [← hv]
                simp [hz0]
              rw [hvz]
              exact hc
            · rename_i hne
              have h1 : ¬ zs.toArray.size = 1 := by
                intro h
                simp at h
                rw [hzl] at h
                obtain ⟨d, hd⟩ := List.length_eq_one_iff.1 h
                exact hne d hd
              rw [dif_neg h1] at hv
              exact ⟨zs.toArray, hv.symm, by simpa using hzl, fun r ad hr => by obtain ⟨z, hz, hc⟩ := hcell r ad hr; exact ⟨z, by simpa using hz, hc⟩⟩
          · cases hr1
        · rename_i src hint
          split at hr1
          · rename_i id hps
            split at hr1
            · rename_i ls hbx
              split at hr1
              case h_2 => cases hr1
              rename_i ls' hun
              split at hr1
              · rename_i hlt
                rw [Option.map_eq_some_iff] at hr1
                obtain ⟨⟨ds, ts1⟩, hds, h⟩ := hr1
                simp only [Prod.mk.injEq, RR.newp.injEq, true_and] at h
                obtain ⟨rfl, rfl, rfl⟩ := h
                obtain ⟨zs, h1, h2, h3⟩ := hvals hps
                obtain ⟨z, hz, b, hzb, hzp⟩ := h3 0 _ rfl
                have hz0 : zs = [z] := by
                  match zs, h2, hz with
                  | [z0], _, hz => simp at hz; rw [hz]
                subst hz0
                refine ⟨z, by simpa using h1, ?_⟩
                have hve := var_end (pn := srcPn src) (nw := some id) (i := 49) hts (hrel.boxes id ls hbx) hun (fun j hj => by
                  simp only [stays, srcPn, List.getD_eq_getElem?_getD, List.getElem?_map] at hj
                  simp only [srcToks, List.getD_eq_getElem?_getD, List.getElem?_map]
                  cases e : src[j]? with
                  | none => rfl
                  | some x => cases x with
                    | none => rfl
                    | some a => rw [e] at hj; cases hj) hds (fun y hy => List.mem_append_left _ hy) (fun b hb => by simp only [resOwnR, hb, if_true]) (fun b hb => ?_) ⟨b, hzb, hzp⟩
                · refine ⟨hve.1, fun j x hx => ?_⟩
                  have h4 := hve.2 j (pTok x 0) (by simp [srcToks, hx]) (by simp only [pTok]; omega)
                  have h5 := List.all_eq_true.1 hsrc _ (List.mem_of_getElem? hx)
                  simp only at h5
                  split at h5
                  · rename_i d hd
                    rw [hrel.fixed _ (by simp only [pTok]; omega)] at h4
                    change (tauR as w vs (pTok x 0)).2 = _ at h4
                    rw [tauR_ro hd] at h4
                    have h6 : x < vs.size := by
                      have := (List.getElem?_eq_some_iff.1 hd).1
                      have := hargs.2.2.1
                      omega
                    rw [← h4, Array.getElem?_eq_getElem h6, Array.getD_eq_getD_getElem?, Array.getElem?_eq_getElem h6]
                    rfl
                  · cases h5
                simp only [resOwnR] at hb
                cases e : ω b with
                | imm => rw [e] at hb; cases hb
                | tok t q => rw [e] at hb; simp only at hb; split at hb <;> cases hb
                | box id' =>
                  rw [e] at hb
                  simp only at hb
                  split at hb
                  · rename_i e2
                    rw [Option.some.inj e2]
                  · split at hb
                    · simp only [Owner.box.injEq] at hb; omega
                    · cases hb
              · cases hr1
            · cases hr1
          · cases hr1
      obtain ⟨v, hv1, hv2⟩ := hm
      have hR : ∃ v, (results fn a'.tmps).run P w' = .ok v w' ∧ ∃ u, Ending.returned v = .returned u ∧ Bel ⟨w, fun b => ωg b ≠ .imm, fun _ => (0, undef)⟩ w' ∧
          ∃ ω' : Own, (∀ b, b < w.heap.size → ωg b = .imm → ω' b = .imm) ∧ Unfrozen w' ω' ∧ (∀ (i : Nat) (pn : List Bool) (pre post : List D) (y : Value), as[i]? = some (.refp pn pre post) → vs[i]? = some y → VarAt w' ω' i pn (bTok i) post y ∧ ∀ j, stays pn j = true → varCell w' y j = varCell w y j) ∧ RROk w' ω' vs r1 u := by
        refine ⟨v, hv1, v, rfl, ⟨hrel.below.os, hrel.below.tape, hrel.below.output, hrel.below.size, hrel.below.block, hrel.below.drawn⟩, resOwnR ω (ts ++ ts2) nw, fun b hb hg => ?_, fun b hb => ?_, ?_, hv2⟩
        · have : ω b = .imm := by
            cases e : ω b with
            | imm => rfl
            | box id =>
              rcases (hrel.owned b (by simp [e])).1 with h | h
              · exact absurd hb (by have h : w.heap.size ≤ b := h; omega)
              · exact absurd hg h
            | tok t q =>
              rcases (hrel.owned b (by simp [e])).1 with h | h
              · exact absurd hb (by have h : w.heap.size ≤ b := h; omega)
              · exact absurd hg h
          simp only [resOwnR, this]
        · have : ω b ≠ .imm := fun e => hb (by simp only [resOwnR, e])
          exact (hrel.owned b this).2
        · intro i pn pre post y hra hy
          obtain ⟨ls, ls', ds, hint, ts', g1, g0, g2, rfl, g3⟩ := (refsEnd_ok hr2).2 i pn pre post hra
          simp only [Nat.zero_add] at g1 g2 g0 hra ⊢
          have hi : i < 49 := by
            have := (List.getElem?_eq_some_iff.1 hra).1
            omega
          have hne : nw ≠ some (raId i) := fun e => by have := hnw _ e; simp only [raId] at this; omega
          -- the pointer is still the same
          obtain ⟨b0, arr0, ty0, hb1, hb2, hb3, hb4⟩ := hrel.boxes _ ls g1
          obtain ⟨y', hy', ⟨b1, _, _, hyp, _⟩, _⟩ := hargs.2.2.2 i _ hra
          rw [hy] at hy'
          have := Option.some.inj hy'
          subst this
          have hpin := hrel.pinned (raId i) b0 (by simp [raId]) hb1
          simp only [tauR] at hpin
          rw [if_neg (by simp only [raId]; omega), if_pos (by simp [raId]), show raId i - giv = i by simp [raId], Array.getD_eq_getD_getElem?, hy, hyp] at hpin
          have hpin : b1 = b0 := hpin
          subst hpin
          have hkj : ∀ j, stays pn j = true → (pnToks i 0 pn)[j]? = some (some (pTok i j)) := fun j hj => by
            simp only [stays, List.getD_eq_getElem?_getD] at hj
            rw [pnToks_get, Nat.zero_add]
            cases e : pn[j]? with
            | none => rw [e] at hj; cases hj
            | some x =>
              rw [e] at hj
              simp only [Option.getD_some] at hj
              simp [hj]
          have hve := var_end (pn := pn) (nw := nw) (i := i) hts ⟨b1, arr0, ty0, hb1, hb2, hb3, hb4⟩ g0 (fun j hj => by
            simp only [stays, List.getD_eq_getElem?_getD] at hj
            rw [List.getD_eq_getElem?_getD, pnToks_get]
            cases e : pn[j]? with
            | none => rfl
            | some x =>
              rw [e] at hj
              simp only [Option.getD_some] at hj
              simp [hj]) g2 (fun y hy => List.mem_append_right _ (g3 y hy)) (fun b hb => ?_) (fun b hb => ?_) ⟨b1, hb1, hyp⟩
          · refine ⟨hve.1, fun j hj => ?_⟩
            have hj100 : j < 100 := by
              simp only [rFits, Bool.and_eq_true, decide_eq_true_eq, List.all_eq_true] at hfit
              have h4 := hfit.2 _ (List.mem_of_getElem? hra)
              simp only [Bool.and_eq_true, decide_eq_true_eq] at h4
              simp only [stays, List.getD_eq_getElem?_getD] at hj
              rcases Nat.lt_or_ge j pn.length with h | h
              · omega
              · rw [List.getElem?_eq_none h] at hj; cases hj
            have h4 := hve.2 j (pTok i j) (hkj j hj) (by simp only [pTok]; omega)
            rw [hrel.fixed _ (by simp only [pTok]; omega)] at h4
            change (tauR as w vs (pTok i j)).2 = _ at h4
            rw [tauR_ref hra hj100] at h4
            rw [← h4]
            simp only [Array.getD_eq_getD_getElem?, hy, Option.getD_some]
          · simp only [resOwnR, hb]
            rw [if_neg hne, if_pos ⟨by simp [raId], by simp only [raId]; omega⟩]
            simp [raId]
          · simp only [resOwnR] at hb
            cases e : ω b with
            | imm => rw [e] at hb; cases hb
            | tok t q => rw [e] at hb; simp only at hb; split at hb <;> cases hb
            | box id' =>
              rw [e] at hb
              simp only at hb
              split at hb
              · simp only [Owner.box.injEq] at hb; omega
              · split at hb
                · simp only [Owner.box.injEq] at hb
                  simp only [raId, Owner.box.injEq]
                  omega
                · cases hb
      obtain ⟨v, h6, h7⟩ := hR
      rcases he with rfl | rfl
      · exact ⟨hrel.defers, v, h6, h7⟩
      · exact ⟨hrel.defers, v, h6, h7⟩
    · cases hres
  · cases hres
def outR (P : Program) (c : Code) (ntmps : Nat) (rv : List ResultVar) (args : List RA) (hint : RR) (ans : List Ans) : Option (RR × List RA × List Prop) :=
  match run P c (initR args ntmps) ans with
  | some (.ret, st, _, obs) => (endR P st rv args hint).map fun r => (r.1, r.2, obs)
  | some (.normal, st, _, obs) => (endR P st rv args hint).map fun r => (r.1, r.2, obs)
  | _ => none

/-- The contract of a function that turns variables: its run, computed, and what that owes. -/
theorem RetR.of {P : Program} {f : FuncId} {fn : Func} {args : List RA} {r : RR} (ans : List Ans) (obs : List Prop) (hf : P.funcs[f]? = some fn) (hb : fn.body.isSome = true)
    (h : outR P (codeOf fn) fn.ntmps fn.results.toList args r ans = some (r, args, obs)) (ho : Obs obs) : RetR P f args r := by
  obtain ⟨c, hc⟩ := Option.isSome_iff_exists.1 hb
  have hcode : codeOf fn = c := by simp [codeOf, hc]
  unfold outR at h
  rw [hcode] at h
  split at h
  · rename_i st a obs' hr
    rw [Option.map_eq_some_iff] at h
    obtain ⟨⟨rs1, rs2⟩, h1, h⟩ := h
    simp only [Prod.mk.injEq] at h
    obtain ⟨rfl, rfl, rfl⟩ := h
    exact retR_of_run hf hc hr ho (.inl rfl) h1
  · rename_i st a obs' hr
    rw [Option.map_eq_some_iff] at h
    obtain ⟨⟨rs1, rs2⟩, h1, h⟩ := h
    simp only [Prod.mk.injEq] at h
    obtain ⟨rfl, rfl, rfl⟩ := h
    exact retR_of_run hf hc hr ho (.inr rfl) h1
  · cases h
end Go.Sx
