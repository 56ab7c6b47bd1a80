/- The operations that only compute: what each leaves in its slot. -/
import Derived.Test.YtamiheofgejehaaR2
set_option linter.unusedVariables false
set_option linter.unusedSimpArgs false
namespace Go.Sx
open Go.RowKit

/-- An argument or a result, as data: one cell, or a struct. -/
inductive AD where
  | one (d : D)
  | agg (ds : List D)

/-- How a piece of code is left. -/
inductive Ex where
  | normal
  | exit (id : Nat)
  | ret

/-- What the user answers where a run can not be computed. -/
inductive Ans where
  | own
  | res (rs : List AD)
  | loop (nils : List (Nat × Nat × Nat)) (keep boxes : List Nat) (e : Ex) (st : St)
  | br (b : Bool)
  | el (ds : List D)
  | wr
  | eq (c : Bool)
  | num (n : Int)
  | pv (p : PV)

def Obs : List Prop → Prop
  | [] => True
  | p :: r => p ∧ Obs r

theorem Obs.append : ∀ {a b : List Prop}, Obs (a ++ b) → Obs a ∧ Obs b
  | [], _, h => ⟨trivial, h⟩
  | _ :: _, _, h => ⟨⟨h.1, (Obs.append h.2).1⟩, (Obs.append h.2).2⟩

abbrev Got := Option (PV × List Ans × List Prop)

def cval : Value → PV
  | .agg cs => .agg (cs.toList.map .v)
  | v => .one (.v v)

def St.ev (st : St) : Operand → PV
  | .tmp t => st.env.getD t .und
  | .const v => cval v
  | _ => .und

theorem cval_sat (w : World) (ω : Own) (τ : Nat → Nat × Value) (v : Value) : SatP (Sat w ω τ) (cval v) v := by
  unfold cval
  split
  · rename_i cs
    refine ⟨cs, rfl, by simp, fun i l hl => ?_⟩
    rw [List.getElem?_map, Option.map_eq_some_iff] at hl
    obtain ⟨u, hu, rfl⟩ := hl
    exact ⟨u, by simpa using hu, rfl⟩
  · exact rfl

theorem RelAt.ev {w0 : World} {st : St} {a : Act} {w : World} {ω : Own} {τ : Nat → Nat × Value} (h : RelAt w0 st a w ω τ) (x : Operand) : SatP (Sat w ω τ) (st.ev x) (a.eval x) := by
  cases x with
  | tmp t =>
    simp only [St.ev, Act.eval]
    cases e : st.env[t]? with
    | none =>
      rw [List.getD_eq_getElem?_getD, e]
      exact trivial
    | some p =>
      obtain ⟨v, hv, hs⟩ := h.env t p e
      rw [List.getD_eq_getElem?_getD, e]
      simpa [Array.getD_eq_getD_getElem?, hv] using hs
  | const v => exact cval_sat w ω τ v
  | global g => exact trivial
  | func f => exact trivial

/-- The value of a leaf that has no memory. -/
def Leaf.val : Leaf → Option Value
  | .v x => some x
  | .sb c => some (.bool c)
  | _ => none

theorem Leaf.val_sat {w : World} {ω : Own} {τ : Nat → Nat × Value} {l : Leaf} {x y : Value} (h : l.val = some x) (hs : Sat w ω τ l y) : y = x := by
  cases l <;> simp [Leaf.val] at h
  · subst h; exact hs
  · subst h; exact hs

def PV.leaf : PV → Option Leaf
  | .al (.one l) => some l
  | _ => none

theorem PV.leaf_sat {S : Leaf → Value → Prop} {p : PV} {l : Leaf} {y : Value} (h : p.leaf = some l) (hs : SatP S p y) : S l y := by
  cases p with
  | tup as => cases h
  | al a =>
    cases a with
    | agg ls => cases h
    | one l' => simp only [PV.leaf, Option.some.injEq] at h; subst h; exact hs

def PV.int (p : PV) : Option (IntKind × Int) :=
  match p.leaf with
  | some (.v (.int k n)) => some (k, n)
  | _ => none

theorem PV.int_sat {w : World} {ω : Own} {τ : Nat → Nat × Value} {p : PV} {k : IntKind} {n : Int} {y : Value} (h : p.int = some (k, n)) (hs : SatP (Sat w ω τ) p y) : y = .int k n := by
  unfold PV.int at h
  split at h
  · rename_i k' n' e
    simp only [Option.some.injEq, Prod.mk.injEq] at h
    obtain ⟨rfl, rfl⟩ := h
    exact PV.leaf_sat e hs
  · cases h

def PV.vals : PV → Option (List Value)
  | .al (.agg ls) => ls.mapM Leaf.val
  | _ => none

theorem mapM_vals {w : World} {ω : Own} {τ : Nat → Nat × Value} : ∀ {ls : List Leaf} {xs : List Value}, ls.mapM Leaf.val = some xs → ∀ {vs : List Value}, vs.length = ls.length → (∀ (i : Nat) (l : Leaf), ls[i]? = some l → ∃ u, vs[i]? = some u ∧ Sat w ω τ l u) → vs = xs
  | [], xs, h, vs, hn, _ => by
    simp at h; subst h
    exact List.eq_nil_of_length_eq_zero hn
  | l :: ls, xs, h, vs, hn, hs => by
    rw [List.mapM_cons] at h
    cases e : l.val with
    | none => simp [e] at h
    | some x =>
      cases e2 : ls.mapM Leaf.val with
      | none => simp [e, e2] at h
      | some ys =>
        simp [e, e2] at h
        subst h
        cases vs with
        | nil => simp at hn
        | cons v vs =>
          obtain ⟨u, hu, hsat⟩ := hs 0 l rfl
          simp at hu
          subst hu
          rw [Leaf.val_sat e hsat]
          congr 1
          exact mapM_vals e2 (by simpa using hn) (fun i l' hl => by have := hs (i + 1) l' (by simpa using hl); simpa using this)

theorem PV.vals_sat {w : World} {ω : Own} {τ : Nat → Nat × Value} {p : PV} {xs : List Value} {y : Value} (h : p.vals = some xs) (hs : SatP (Sat w ω τ) p y) : y = .agg xs.toArray := by
  cases p with
  | tup as => cases h
  | al a =>
    cases a with
    | one l => cases h
    | agg ls =>
      obtain ⟨vs, rfl, hn, hv⟩ := hs
      have := mapM_vals (w := w) (ω := ω) (τ := τ) h (vs := vs.toList) (by simpa using hn) (fun i l hl => by obtain ⟨u, h1, h2⟩ := hv i l hl; exact ⟨u, by simpa using h1, h2⟩)
      rw [← this]

def inInt (k : IntKind) (e : Int) : Prop :=
  match k with
  | .i64 => -9223372036854775808 ≤ e ∧ e ≤ 9223372036854775807
  | k => k.wrap e = e

theorem inInt.wrap {k : IntKind} {e : Int} (h : inInt k e) : k.wrap e = e := by
  cases k <;> first | exact h | (simp only [inInt] at h; rw [IntKind.wrap_i64]; omega)

def arith (k : IntKind) (e : Int) (ans : List Ans) : Got :=
  match ans with
  | .wr :: r => some (.one (.v (.int k (k.wrap e))), r, [])
  | _ => some (.one (.v (.int k e)), ans, [inInt k e])

theorem arith_ok {w : World} {ω : Own} {τ : Nat → Nat × Value} {k : IntKind} {e : Int} {ans ans' : List Ans} {p : PV} {obs : List Prop} (h : arith k e ans = some (p, ans', obs)) (ho : Obs obs) : SatP (Sat w ω τ) p (.int k (k.wrap e)) := by
  unfold arith at h
  split at h
  · simp only [Option.some.injEq, Prod.mk.injEq] at h
    obtain ⟨rfl, _, _⟩ := h
    exact rfl
  · simp only [Option.some.injEq, Prod.mk.injEq] at h
    obtain ⟨rfl, _, rfl⟩ := h
    rw [ho.1.wrap]
    exact rfl

/-- '==' and its kin on whatever two values, told by the user. -/
def BinRun (P : Program) (op : BinOp) (t : TypeId) (x y : Operand) (u v : Value) (c : Value) : Prop :=
  ∀ w : World, ((do eqGuard op t x y u v; binOp op t u v : Sem Value)).run P w = .ok c w

def binInt (op : BinOp) (k : IntKind) (x y : Int) (ans : List Ans) : Got :=
  match op with
  | .add => arith k (x + y) ans
  | .sub => arith k (x - y) ans
  | .mul => arith k (x * y) ans
  | .quo => (arith k (x.tdiv y) ans).map fun r => (r.1, r.2.1, (y ≠ 0) :: r.2.2)
  | .rem => some (.one (.v (.int k (x.tmod y))), ans, [y ≠ 0])
  | .eql => some (.one (.sb (x == y)), ans, [])
  | .neq => some (.one (.sb (x != y)), ans, [])
  | .lss => some (.one (.sb (decide (x < y))), ans, [])
  | .leq => some (.one (.sb (decide (x ≤ y))), ans, [])
  | .gtr => some (.one (.sb (decide (x > y))), ans, [])
  | .geq => some (.one (.sb (decide (x ≥ y))), ans, [])
  | _ => none

theorem binInt_ok {P : Program} {w : World} {ω : Own} {τ : Nat → Nat × Value} {op : BinOp} {k : IntKind} {x y : Int} {ans ans' : List Ans} {p : PV} {obs : List Prop} (t : TypeId) (ox oy : Operand)
    (h : binInt op k x y ans = some (p, ans', obs)) (ho : Obs obs) :
    ∃ v, ((do eqGuard op t ox oy (.int k x) (.int k y); binOp op t (.int k x) (.int k y) : Sem Value)).run P w = .ok v w ∧ SatP (Sat w ω τ) p v := by
  rw [eqGuard_at_int]
  simp only [Sem.run_bind, Sem.run_pure, Result.andThen_ok]
  cases op <;> simp only [binInt, Option.some.injEq, Prod.mk.injEq, reduceCtorEq] at h
  case add => exact ⟨_, by rw [binOp_add]; rfl, arith_ok h ho⟩
  case sub => exact ⟨_, by rw [binOp_sub]; rfl, arith_ok h ho⟩
  case mul => exact ⟨_, by rw [binOp_mul]; rfl, arith_ok h ho⟩
  case quo =>
    rw [Option.map_eq_some_iff] at h
    obtain ⟨⟨p', a', o'⟩, h1, h2⟩ := h
    simp only [Prod.mk.injEq] at h2
    obtain ⟨rfl, rfl, rfl⟩ := h2
    refine ⟨_, ?_, arith_ok h1 ho.2⟩
    rw [binOp_quo]
    simp [Op.intDiv, ho.1]
  case rem =>
    obtain ⟨rfl, _, rfl⟩ := h
    refine ⟨_, ?_, rfl⟩
    rw [binOp_rem]
    simp [Op.intDiv, ho.1]
  case eql => obtain ⟨rfl, _, rfl⟩ := h; exact ⟨_, by rw [binOp_eql]; rfl, rfl⟩
  case neq => obtain ⟨rfl, _, rfl⟩ := h; exact ⟨_, by rw [binOp_neq]; rfl, rfl⟩
  case lss => obtain ⟨rfl, _, rfl⟩ := h; exact ⟨_, by rw [binOp_lss]; rfl, rfl⟩
  case leq => obtain ⟨rfl, _, rfl⟩ := h; exact ⟨_, by rw [binOp_leq]; rfl, rfl⟩
  case gtr => obtain ⟨rfl, _, rfl⟩ := h; exact ⟨_, by rw [binOp_gtr]; rfl, rfl⟩
  case geq => obtain ⟨rfl, _, rfl⟩ := h; exact ⟨_, by rw [binOp_geq]; rfl, rfl⟩

/-- The single value behind a PV that has no memory. -/
def PV.value (p : PV) : Option Value :=
  match p with
  | .al (.one l) => l.val
  | p => p.vals.map fun xs => .agg xs.toArray

theorem PV.value_sat {w : World} {ω : Own} {τ : Nat → Nat × Value} {p : PV} {x y : Value} (h : p.value = some x) (hs : SatP (Sat w ω τ) p y) : y = x := by
  unfold PV.value at h
  split at h
  · exact Leaf.val_sat h hs
  · rw [Option.map_eq_some_iff] at h
    obtain ⟨xs, h1, rfl⟩ := h
    exact PV.vals_sat h1 hs

def isAggT (P : Program) (t : TypeId) : Option Bool :=
  match P.underlying t with
  | some (.struct _) | some (.array _ _) => some true
  | some _ => some false
  | none => none

theorem isAggT_run {P : Program} {t : TypeId} {b : Bool} (h : isAggT P t = some b) (w : World) : (isAgg t).run P w = .ok b w := by
  unfold isAggT at h
  unfold isAgg
  split at h
  · rename_i hu; simp only [Option.some.injEq] at h; subst h; simp [run_underlying hu]
  · rename_i hu; simp only [Option.some.injEq] at h; subst h; simp [run_underlying hu]
  · rename_i d h1 h2 hu
    simp only [Option.some.injEq] at h; subst h
    rw [Sem.run_bind, run_underlying hu]
    cases d <;> first | rfl | (exact absurd rfl (h1 _)) | (exact absurd rfl (h2 _ _))
  · cases h

/-- Equality of values without memory, computed. -/
def partP (P : Program) (t : TypeId) (cs : Array Value) (off : Nat) : Option Value :=
  match isAggT P t, P.info? t with
  | some true, some i => some (.agg (cs.extract off (off + i.size)))
  | some false, _ => cs[off]?
  | _, _ => none

theorem partP_run {P : Program} {t : TypeId} {cs : Array Value} {off : Nat} {v : Value} (h : partP P t cs off = some v) (w : World) : (part t cs off).run P w = .ok v w := by
  unfold partP at h
  split at h
  · rename_i i e1 e2
    simp only [Option.some.injEq] at h
    subst h
    simp [part, isAggT_run e1, sizeOf, typeInfo, e2]
  · rename_i e1
    simp [part, isAggT_run e1, h]
  · cases h

def eqFs (P : Program) (f : TypeId → Value → Value → Option Bool) (xs ys : Array Value) : List Field → Option Bool
  | [] => some true
  | fd :: r =>
    if fd.name = "_" then none else
    match partP P fd.type xs fd.offset, partP P fd.type ys fd.offset with
    | some a, some b =>
      match f fd.type a b with
      | some c =>
        match r with
        | [] => some c
        | r => (eqFs P f xs ys r).map fun c' => c && c'
      | none => none
    | _, _ => none

def eqP (P : Program) : Nat → TypeId → Value → Value → Option Bool
  | 0, _, _, _ => none
  | m + 1, t, x, y =>
    match P.underlying t, x, y with
    | some .bool, .bool a, .bool b => some (a == b)
    | some (.int _), .int k a, .int k' b => if k = k' then some (a == b) else none
    | some .string, .string a, .string b => some (a.toList == b.toList)
    | some (.struct fs), .agg xs, .agg ys => if P.stoodInHeld t then none else eqFs P (eqP P m) xs ys fs.toList
    | _, _, _ => none

theorem eqFs_run {P : Program} {d : Nat} {f : TypeId → Value → Value → Option Bool} (hf : ∀ t x y c, f t x y = some c → ∀ w, (Op.equalIn d t x y).run P w = .ok c w) {xs ys : Array Value} :
    ∀ {fs : List Field} {c : Bool}, eqFs P f xs ys fs = some c → ∀ w, (Op.eqFields d xs ys fs).run P w = .ok c w
  | [], c, h, w => by simp only [eqFs, Option.some.injEq] at h; subst h; simp [Op.eqFields]
  | fd :: r, c, h, w => by
    simp only [eqFs] at h
    split at h
    · cases h
    · rename_i hn
      split at h
      · rename_i a b e1 e2
        split at h
        · rename_i c1 e3
          simp only [Op.eqFields, if_pos (show fd.name ≠ "_" from hn), Sem.run_bind, partP_run e1, partP_run e2, Result.andThen_ok, hf _ _ _ _ e3, Sem.run_ite]
          split at h
          · simp only [Option.some.injEq] at h
            subst h
            cases c1 <;> simp [Op.eqFields]
          · rw [Option.map_eq_some_iff] at h
            obtain ⟨c2, h1, rfl⟩ := h
            have := eqFs_run hf h1 w
            cases c1 <;> simp [this]
        · cases h
      · cases h

theorem eqP_run {P : Program} : ∀ {m : Nat} {t : TypeId} {x y : Value} {c : Bool}, eqP P m t x y = some c → ∀ (d : Nat) (w : World), (Op.equalIn (d + m) t x y).run P w = .ok c w
  | 0, _, _, _, _, h, _, _ => by cases h
  | m + 1, t, x, y, c, h, d, w => by
    rw [show d + (m + 1) = (d + m) + 1 from rfl]
    simp only [eqP] at h
    split at h
    · rename_i a b e
      simp only [Option.some.injEq] at h
      subst h
      exact run_equalIn_bool w _ t a b e
    · rename_i k' k a k2 b e
      split at h
      · rename_i hk
        subst hk
        simp only [Option.some.injEq] at h
        subst h
        exact run_equalIn_int w _ t k k' a b e
      · cases h
    · rename_i a b e
      simp only [Option.some.injEq] at h
      subst h
      exact run_equalIn_string w _ t a b e
    · rename_i fs xs ys e
      split at h
      · cases h
      · rename_i hs
        have hfs : P.fieldsOf t = fs := by simp [Program.fieldsOf, e]
        rw [run_equalIn_struct w _ t xs ys (by rw [hfs]; exact e) (by simpa using hs), hfs]
        exact eqFs_run (fun t x y c h w => eqP_run h d w) h w
    · cases h

def eqBin (P : Program) (op : BinOp) (t : TypeId) (u v : Value) : Option Bool :=
  match op, u, v with
  | .eql, .agg xs, .agg ys => if P.eqGuardType P.depth t then none else eqP P 20 t (.agg xs) (.agg ys)
  | .neq, .agg xs, .agg ys => if P.eqGuardType P.depth t then none else (eqP P 20 t (.agg xs) (.agg ys)).map fun c => !c
  | .eql, .bool a, .bool b => match P.underlying t with | some .bool => some (a == b) | _ => none
  | .neq, .bool a, .bool b => match P.underlying t with | some .bool => some (!(a == b)) | _ => none
  | .eql, .string a, .string b => match P.underlying t with | some .string => some (a.toList == b.toList) | _ => none
  | .neq, .string a, .string b => match P.underlying t with | some .string => some (!(a.toList == b.toList)) | _ => none
  | _, _, _ => none

theorem eqBin_ok {P : Program} {op : BinOp} {t : TypeId} {x y : Operand} {u v : Value} {c : Bool} (h : eqBin P op t u v = some c) : BinRun P op t x y u v (.bool c) := by
  intro w
  have h20 : ∀ {x y : Value} {c : Bool}, eqP P 20 t x y = some c → (Op.equalIn 10000 t x y).run P w = .ok c w := fun h => eqP_run h 9980 w
  unfold eqBin at h
  split at h
  · rename_i xs ys
    split at h
    · cases h
    · rename_i hg
      simp [run_eqGuard_agg w .eql t x y xs ys (by simpa using hg), run_eql_struct, h20 h]
  · rename_i xs ys
    split at h
    · cases h
    · rename_i hg
      rw [Option.map_eq_some_iff] at h
      obtain ⟨c', h1, rfl⟩ := h
      simp [run_eqGuard_agg w .neq t x y xs ys (by simpa using hg), run_neq_struct, h20 h1]
  · rename_i a b
    split at h
    · rename_i e
      simp only [Option.some.injEq] at h
      subst h
      simp [eqGuard, binOp, run_equal_bool w t a b e]
    · cases h
  · rename_i a b
    split at h
    · rename_i e
      simp only [Option.some.injEq] at h
      subst h
      simp [eqGuard, binOp, run_equal_bool w t a b e]
    · cases h
  · rename_i a b
    split at h
    · simp only [Option.some.injEq] at h
      subst h
      simp [eqGuard, binOp, Op.stringOp, beq_toListBytes]
    · cases h
  · rename_i a b
    split at h
    · simp only [Option.some.injEq] at h
      subst h
      simp [eqGuard, binOp, Op.stringOp, beq_toListBytes]
    · cases h
  · cases h

def stepBin (P : Program) (op : BinOp) (t : TypeId) (x y : Operand) (p q : PV) (ans : List Ans) : Got :=
  match p.int, q.int with
  | some (k, a), some (k', b) => if k = k' then binInt op k a b ans else none
  | _, _ =>
    match (match p.value, q.value with | some u, some v => eqBin P op t u v | _, _ => none) with
    | some c => some (.one (.sb c), ans, [])
    | none =>
    match p.value, q.value, ans with
    | some u, some v, .eq c :: r => some (.one (.sb c), r, [BinRun P op t x y u v (.bool c)])
    | some u, some v, .pv (.al (.one (.v c))) :: r => some (.one (.v c), r, [BinRun P op t x y u v c])
    | _, _, _ => none

theorem stepBin_ok {P : Program} {w : World} {ω : Own} {τ : Nat → Nat × Value} {op : BinOp} {t : TypeId} {x y : Operand} {p q r : PV} {u v : Value} {ans ans' : List Ans} {obs : List Prop}
    (hp : SatP (Sat w ω τ) p u) (hq : SatP (Sat w ω τ) q v) (h : stepBin P op t x y p q ans = some (r, ans', obs)) (ho : Obs obs) :
    ∃ z, ((do eqGuard op t x y u v; binOp op t u v : Sem Value)).run P w = .ok z w ∧ SatP (Sat w ω τ) r z := by
  unfold stepBin at h
  split at h
  · rename_i k a k' b e1 e2
    split at h
    · rename_i hk
      subst hk
      rw [PV.int_sat e1 hp, PV.int_sat e2 hq]
      exact binInt_ok t x y h ho
    · cases h
  · split at h
    · rename_i c e0
      simp only [Option.some.injEq, Prod.mk.injEq] at h
      obtain ⟨rfl, _, _⟩ := h
      split at e0
      · rename_i u' v' e1 e2
        rw [PV.value_sat e1 hp, PV.value_sat e2 hq]
        exact ⟨_, eqBin_ok e0 w, rfl⟩
      · cases e0
    · split at h
      · rename_i u' v' c r' e1 e2
        simp only [Option.some.injEq, Prod.mk.injEq] at h
        obtain ⟨rfl, _, rfl⟩ := h
        rw [PV.value_sat e1 hp, PV.value_sat e2 hq]
        exact ⟨_, ho.1 w, rfl⟩
      · rename_i u' v' c r' e1 e2
        simp only [Option.some.injEq, Prod.mk.injEq] at h
        obtain ⟨rfl, _, rfl⟩ := h
        rw [PV.value_sat e1 hp, PV.value_sat e2 hq]
        exact ⟨_, ho.1 w, rfl⟩
      · cases h
end Go.Sx
