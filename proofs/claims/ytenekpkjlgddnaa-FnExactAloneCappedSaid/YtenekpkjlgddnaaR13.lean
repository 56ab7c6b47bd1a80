/- Every operation, one after the other. -/
import Derived.Test.YtenekpkjlgddnaaR26
import Derived.Test.YtenekpkjlgddnaaR31
import Derived.Orders
set_option linter.unusedVariables false
set_option linter.unusedSimpArgs false
namespace Go.Sx
open Go.RowKit

def stepCall (P : Program) (st : St) (d : Option Nat) (f : FuncId) (args : List Operand) (ans : List Ans) : Stepped :=
  match P.funcs[f]?, args.mapM (fun x => (st.ev x).argD st.boxes), ans with
  | some fn, some ads, .res rs :: r =>
    if (fn.name == "runtime.NumGoroutine") = false ∧ fn.body.isNone = false ∧ resFits rs = true ∧ 10000 * (d.getD 0 + 1) + 10000 ≤ giv then
      let t := 10000 * (d.getD 0 + 1)
      match d with
      | some d => some (⟨(st.cal t).env.set d (resPV t rs), (st.cal t).boxes⟩, r, [Ret P f ads rs])
      | none => some (st.cal t, r, [Ret P f ads rs])
    else none
  | _, _, _ => none

/-- A call of a function value. -/
def stepCallV (P : Program) (st : St) (d : Option Nat) (f : Operand) (args : List Operand) (ans : List Ans) : Stepped :=
  match (st.ev f).leaf.bind (Leaf.argD st.boxes), args.mapM (fun x => (st.ev x).argD st.boxes), ans with
  | some (.cl g caps), some ads, .res rs :: r =>
    if resFits rs = true ∧ 10000 * (d.getD 0 + 1) + 10000 ≤ giv then
      let t := 10000 * (d.getD 0 + 1)
      match d with
      | some d => some (⟨(st.cal t).env.set d (resPV t rs), (st.cal t).boxes⟩, r, [canCall P g = true, Ret P g (ads ++ caps.map .one) rs])
      | none => some (st.cal t, r, [canCall P g = true, Ret P g (ads ++ caps.map .one) rs])
    else none
  | _, _, _ => none

/-- Is the next call answered with arguments that are handed over? -/
def isG : List Ans → Bool
  | .resG _ _ _ _ :: _ => true
  | _ => false

/-- .. or with variables that the callee turns? -/
def isR : List Ans → Bool
  | .resR _ _ :: _ => true
  | _ => false

/-- Is the next cut answered with 'it takes the tree's place'? -/
def isOwn : List Ans → Bool
  | .own :: _ => true
  | _ => false

def opStep (P : Program) (st : St) (o : Oper) (ans : List Ans) : Stepped :=
  match o.dst, o.op with
  | some d, .box _ x => stepBox st d (st.ev x) ans
  | some d, .alloc ty => stepAlloc P st d ty ans
  | some d, .makeSlice t l c => stepMake P st d t (st.ev l) (st.ev c) ans
  | some d, .buildSlice t n parts => stepBuildSlice P st d t n parts.toList ans
  | none, .store ty x y =>
    match (st.ev x).leaf with
    | some (.ptr id off) => stepStoreBox P st ty id off (st.ev y) ans
    | some (.ep (.own t) k es i j) => stepStoreElem P st ty t k es i j (st.ev y) ans
    | some (.sn t i j k es (.at_ a b)) => stepStoreSn P st ty t i j k es a b (st.ev y) ans
    | _ => none
  | d, .call ⟨.value (.func f), args, _⟩ => if isR ans then stepCallR P st d f args.toList ans else if isG ans then stepCallG P st d f args.toList ans else stepCall P st d f args.toList ans
  | d, .call ⟨.value (.tmp x), args, _⟩ => if isR ans then stepCallVR P st d (.tmp x) args.toList ans else stepCallV P st d (.tmp x) args.toList ans
  | some d, .call ⟨.builtin .append, ⟨[x, y]⟩, ⟨[t, t']⟩⟩ =>
    if t = t' then
      match (st.ev x).leaf with
      | some (.sn s i j k es .here) => stepAppendSn P st d t s i j k es y ans
      | _ => stepAppend P st d t x y ans
    else none
  | some d, .slice t x lo hi mx => if isOwn ans then stepCut P st d t (st.ev x) lo hi mx ans.tail else (pureStep P st (.slice t x lo hi mx) ans).map fun r => (⟨st.env.set d r.1, st.boxes⟩, r.2.1, r.2.2)
  | some d, op => (pureStep P st op ans).map fun r => (⟨st.env.set d r.1, st.boxes⟩, r.2.1, r.2.2)
  | none, op => (pureStep P st op ans).map fun r => (st, r.2.1, r.2.2)

theorem Calls.of {P : Program} {o : Oper} {a : Act} {w : World} {next : Act → World → Prop} {Q : Exit → Act → World → Prop} {z : Value} {w' : World} (h : (execOp a.eval o).run P w = .ok (.value z) w') (hn : next (a.put o.dst z) w') :
    o.wp P a w next Q := by
  unfold Oper.wp
  rw [h]
  exact hn

theorem opStep_ok {P : Program} {w0 : Base} {st st' : St} {o : Oper} {ans ans' : List Ans} {obs : List Prop} (h : opStep P st o ans = some (st', ans', obs)) (ho : Obs obs) {a : Act} {w : World} (hrel : Rel w0 st a w)
    {next : Act → World → Prop} {Q : Exit → Act → World → Prop} (hnext : ∀ a' w', Rel w0 st' a' w' → next a' w') : o.wp P a w next Q := by
  obtain ⟨ω, τ, hrel⟩ := hrel
  obtain ⟨dst, op, type, pos, after, guard⟩ := o
  simp only [opStep] at h
  split at h
  · rename_i d ty x
    obtain ⟨z, w', h1, h2⟩ := RelAt.box (P := P) hrel (hrel.ev x) h ty
    exact Calls.of (run_v h1) (hnext _ _ h2)
  · rename_i d ty
    obtain ⟨z, w', h1, h2⟩ := RelAt.alloc hrel h
    exact Calls.of (run_v h1) (hnext _ _ h2)
  · rename_i d t l c
    obtain ⟨z, w', h1, h2⟩ := hrel.make (hrel.ev l) (hrel.ev c) h ho
    exact Calls.of (run_v h1) (hnext _ _ h2)
  · rename_i d t n parts
    obtain ⟨z, w', h1, h2⟩ := hrel.buildSlice h
    exact Calls.of (run_v h1) (hnext _ _ h2)
  · rename_i ty x y
    have fin : ∀ w', (Instr.storeAt ty (a.eval x) (a.eval y)).run P w = .ok () w' → Rel w0 st' a w' → Oper.wp P ⟨none, .store ty x y, type, pos, after, guard⟩ a w next Q := by
      intro w' h1 h2
      unfold Oper.wp execOp
      simp only [Sem.run_bind, h1, Result.andThen_ok, Sem.run_pure, Oper.upon]
      exact hnext _ _ h2
    split at h
    · rename_i id off e
      obtain ⟨b, hb, hx⟩ := PV.leaf_sat e (hrel.ev x)
      obtain ⟨w', h1, h2⟩ := hrel.storeAtBox (P := P) hb (hrel.ev y) h
      exact fin w' (by rw [hx]; exact h1) h2
    · rename_i t k es i j e
      obtain ⟨w', h1, h2⟩ := hrel.storeElem (P := P) (PV.leaf_sat e (hrel.ev x)) (hrel.ev y) h ho
      exact fin w' h1 h2
    · rename_i t i j k es xx yy e
      obtain ⟨w', h1, h2⟩ := hrel.storeSn (P := P) (PV.leaf_sat e (hrel.ev x)) (hrel.ev y) h ho
      exact fin w' h1 h2
    · cases h
  · rename_i f args ts
    split at h
    · exact stepCallR_ok hrel h ho hnext
    split at h
    · exact stepCallG_ok hrel h ho hnext
    rename_i hisr hisg
    clear hisr
    unfold stepCall at h
    clear hisg
    split at h
    · rename_i fn ads rs r hfn hads
      split at h
      · rename_i hc
        obtain ⟨hc1, hc2, hc3, hcg⟩ := hc
        obtain ⟨hl, hg⟩ := mapM_get hads
        have hargs : ArgsOk w ads (args.map a.eval) := by
          refine ⟨by simp [hl], fun i ad hi => ?_⟩
          obtain ⟨x, hx, hx2⟩ := hg i ad hi
          refine ⟨a.eval x, ?_, PV.argD_sat hrel.boxes hx2 (hrel.ev x)⟩
          rw [Array.getElem?_map]
          rw [Array.getElem?_toList] at hx
          rw [hx]; rfl
        have hrun : (execOp a.eval ⟨dst, .call ⟨.value (.func f), args, ts⟩, type, pos, after, guard⟩).run P w = .ok (.enter f (args.map a.eval)) w := by
          have hc1' : fn.name ≠ "runtime.NumGoroutine" := by simpa using hc1
          have hc2' : fn.body ≠ none := by intro e; rw [e] at hc2; cases hc2
          simp [execOp, resolve, Act.eval, Deferred.ofValue, invoke, callFunc, hfn, hc1', hc2']
        have key : ∀ (obs' : List Prop), obs = obs' → Obs obs' → obs' = [Ret P f ads rs] → ∀ (K : Act → World → Prop), (∀ v w', Blw w.heap.size w w' → ResOk w w' rs v → K (a.put dst v) w') →
            Oper.wp P ⟨dst, .call ⟨.value (.func f), args, ts⟩, type, pos, after, guard⟩ a w K Q := by
          intro obs' _ ho' e K hK
          subst e
          unfold Oper.wp
          rw [hrun]
          simp only [Oper.upon]
          refine (ho'.1 w _ hargs).mono ?_
          rintro e w' ⟨v, rfl, hb, hr⟩
          exact hK v w' hb hr
        simp only at h
        cases dst with
        | none =>
          simp only [Option.some.injEq, Prod.mk.injEq] at h
          obtain ⟨rfl, _, rfl⟩ := h
          refine key _ rfl ho rfl next fun v w' hb hr => hnext _ _ ?_
          obtain ⟨ω', τ', h1, _⟩ := hrel.called (10000 * (Option.getD none 0 + 1)) hc3 hcg hb hr
          exact ⟨ω', τ', h1⟩
        | some d =>
          simp only [Option.some.injEq, Prod.mk.injEq] at h
          obtain ⟨rfl, _, rfl⟩ := h
          refine key _ rfl ho rfl next fun v w' hb hr => hnext _ _ ?_
          obtain ⟨ω', τ', h1, h2⟩ := hrel.called (10000 * (Option.getD (some d) 0 + 1)) hc3 hcg hb hr
          exact ⟨ω', τ', h1.put h2⟩
      · cases h
    · cases h
  · rename_i x args ts
    split at h
    · exact stepCallVR_ok hrel h ho hnext
    rename_i hisr
    clear hisr
    unfold stepCallV at h
    split at h
    · rename_i g caps ads rs r hf hads
      split at h
      · rename_i hc
        obtain ⟨hc3, hcg⟩ := hc
        obtain ⟨hl, hg⟩ := mapM_get hads
        have hl2 : ads.length = args.size := by rw [hl, Array.length_toList]
        -- the function value
        rw [Option.bind_eq_some_iff] at hf
        obtain ⟨lf, hlf, hlf2⟩ := hf
        have hfun : FreeRep w (.cl g caps) (a.eval (.tmp x)) := Leaf.argD_sat hrel.boxes hlf2 (PV.leaf_sat hlf (hrel.ev (.tmp x)))
        have hfun' : ∃ cs : Array Value, a.eval (.tmp x) = .func (.func g) #[] cs ∧ cs.size = caps.length ∧ ∀ (j : Nat) (d : D), caps[j]? = some d → ∃ u, cs[j]? = some u ∧ FreeRep w d u := by
          generalize a.eval (.tmp x) = y at hfun
          cases hfun with
          | cl R g caps cs us hs hu hd => exact ⟨cs, rfl, hs, fun j d hj => ⟨us j, hu j d hj, (hd j d hj).free⟩⟩
        obtain ⟨cs, hcs, hcn, hcv⟩ := hfun'
        have hargs : ArgsOk w (ads ++ caps.map .one) (args.map a.eval ++ cs) := by
          refine ⟨by simp [hl, hcn], fun i ad hi => ?_⟩
          rw [List.getElem?_append] at hi
          rw [Array.getElem?_append]
          split at hi
          · rename_i hi2
            rw [if_pos (by simp; omega)]
            obtain ⟨y, hy, hy2⟩ := hg i ad hi
            refine ⟨a.eval y, ?_, PV.argD_sat hrel.boxes hy2 (hrel.ev y)⟩
            rw [Array.getElem?_map]
            rw [Array.getElem?_toList] at hy
            rw [hy]; rfl
          · rename_i hi2
            rw [if_neg (by simp; omega)]
            rw [List.getElem?_map, Option.map_eq_some_iff] at hi
            obtain ⟨d, hd, rfl⟩ := hi
            obtain ⟨u, hu1, hu2⟩ := hcv _ d hd
            refine ⟨u, ?_, hu2⟩
            rw [← hu1]
            congr 1
            simp; omega
        have hrun : canCall P g = true → (execOp a.eval ⟨dst, .call ⟨.value (.tmp x), args, ts⟩, type, pos, after, guard⟩).run P w = .ok (.enter g (args.map a.eval ++ cs)) w := by
          intro hcc
          unfold canCall at hcc
          split at hcc
          · rename_i fn hfn
            simp only [Bool.and_eq_true, Bool.not_eq_true', beq_eq_false_iff_ne, ne_eq] at hcc
            have hc2' : fn.body ≠ none := by intro e; rw [e] at hcc; simp at hcc
            simp [execOp, resolve, hcs, Deferred.ofValue, invoke, callFunc, hfn, hcc.1, hc2']
          · cases hcc
        have key : ∀ (obs' : List Prop), obs = obs' → Obs obs' → obs' = [canCall P g = true, Ret P g (ads ++ caps.map .one) rs] → ∀ (K : Act → World → Prop), (∀ v w', Blw w.heap.size w w' → ResOk w w' rs v → K (a.put dst v) w') →
            Oper.wp P ⟨dst, .call ⟨.value (.tmp x), args, ts⟩, type, pos, after, guard⟩ a w K Q := by
          intro obs' _ ho' e K hK
          subst e
          unfold Oper.wp
          rw [hrun ho'.1]
          simp only [Oper.upon]
          refine (ho'.2.1 w _ hargs).mono ?_
          rintro e w' ⟨v, rfl, hb, hr⟩
          exact hK v w' hb hr
        simp only at h
        cases dst with
        | none =>
          simp only [Option.some.injEq, Prod.mk.injEq] at h
          obtain ⟨rfl, _, rfl⟩ := h
          refine key _ rfl ho rfl next fun v w' hb hr => hnext _ _ ?_
          obtain ⟨ω', τ', h1, _⟩ := hrel.called (10000 * (Option.getD none 0 + 1)) hc3 hcg hb hr
          exact ⟨ω', τ', h1⟩
        | some d =>
          simp only [Option.some.injEq, Prod.mk.injEq] at h
          obtain ⟨rfl, _, rfl⟩ := h
          refine key _ rfl ho rfl next fun v w' hb hr => hnext _ _ ?_
          obtain ⟨ω', τ', h1, h2⟩ := hrel.called (10000 * (Option.getD (some d) 0 + 1)) hc3 hcg hb hr
          exact ⟨ω', τ', h1.put h2⟩
      · cases h
    · cases h
  · rename_i d x y t t'
    split at h
    · rename_i htt
      subst htt
      have hap : ∃ z w', (Builtin.append_ #[t, t] type #[a.eval x, a.eval y]).run P w = .ok z w' ∧ Rel w0 st' (a.put (some d) z) w' := by
        split at h
        · rename_i s i j k es e
          exact hrel.appendSn (P := P) (ty := type) (PV.leaf_sat e (hrel.ev x)) h ho
        · exact hrel.stepAppend (ty := type) h ho
      obtain ⟨z, w', h1, h2⟩ := hap
      refine Calls.of (z := z) (w' := w') ?_ (hnext _ _ h2)
      have : (execOp a.eval ⟨some d, .call ⟨.builtin .append, ⟨[x, y]⟩, ⟨[t, t]⟩⟩, type, pos, after, guard⟩) = (builtin .append ⟨[t, t]⟩ type (Array.map (fun | .const _ => true | _ => false) ⟨[x, y]⟩) (Array.map a.eval ⟨[x, y]⟩)) := by
        simp only [execOp, resolve]
        rfl
      rw [this]
      exact run_v (by simpa using h1)
    · cases h
  · rename_i d t x lo hi mx
    split at h
    · obtain ⟨z, h1, h2⟩ := hrel.stepCut (P := P) (hrel.ev x) h ho
      exact Calls.of (run_v h1) (hnext _ _ h2)
    · rw [Option.map_eq_some_iff] at h
      obtain ⟨⟨r1, r2, r3⟩, h1, h⟩ := h
      simp only [Prod.mk.injEq] at h
      obtain ⟨rfl, rfl, rfl⟩ := h
      obtain ⟨z, h2, h3⟩ := pureStep_ok (o := ⟨_, _, type, pos, after, guard⟩) hrel h1 ho
      exact Calls.of h2 (hnext _ _ ⟨ω, τ, hrel.put h3⟩)
  · rw [Option.map_eq_some_iff] at h
    obtain ⟨⟨r1, r2, r3⟩, h1, h⟩ := h
    simp only [Prod.mk.injEq] at h
    obtain ⟨rfl, rfl, rfl⟩ := h
    obtain ⟨z, h2, h3⟩ := pureStep_ok (o := ⟨_, _, type, pos, after, guard⟩) hrel h1 ho
    exact Calls.of h2 (hnext _ _ ⟨ω, τ, hrel.put h3⟩)
  · rw [Option.map_eq_some_iff] at h
    obtain ⟨⟨r1, r2, r3⟩, h1, h⟩ := h
    simp only [Prod.mk.injEq] at h
    obtain ⟨rfl, rfl, rfl⟩ := h
    obtain ⟨z, h2, h3⟩ := pureStep_ok (o := ⟨_, _, type, pos, after, guard⟩) hrel h1 ho
    exact Calls.of h2 (hnext _ _ ⟨ω, τ, hrel⟩)

/-- A step where the order is drawn: a new variable is a pointer to memory until the region ends. -/
def opStepD (P : Program) (st : St) (o : Oper) (ans : List Ans) : Stepped :=
  match o.dst, o.op with
  | some d, .alloc ty => stepNp P st d ty ans
  | none, .store ty (.tmp s) y => stepStoreNp P st ty s (st.ev y) ans
  | _, _ => opStep P st o ans

theorem opStepD_ok {P : Program} {w0 : Base} {st st' : St} {o : Oper} {ans ans' : List Ans} {obs : List Prop} (h : opStepD P st o ans = some (st', ans', obs)) (ho : Obs obs) {a : Act} {w : World} (hrel : Rel w0 st a w)
    {next : Act → World → Prop} {Q : Exit → Act → World → Prop} (hnext : ∀ a' w', Rel w0 st' a' w' → next a' w') : o.wp P a w next Q := by
  obtain ⟨dst, op, type, pos, after, guard⟩ := o
  unfold opStepD at h
  split at h
  · rename_i d ty e1 e2
    simp only at e1 e2
    subst e1
    subst e2
    obtain ⟨ω, τ, hrel⟩ := hrel
    obtain ⟨z, w', h1, h2⟩ := RelAt.allocNp hrel h
    exact Calls.of (run_v h1) (hnext _ _ h2)
  · rename_i ty s y e1 e2
    simp only at e1 e2
    subst e1
    subst e2
    obtain ⟨ω, τ, hrel⟩ := hrel
    obtain ⟨w', h1, h2⟩ := hrel.storeNp (P := P) (hrel.ev y) h
    unfold Oper.wp execOp
    simp only [Sem.run_bind, h1, Result.andThen_ok, Sem.run_pure, Oper.upon]
    exact hnext _ _ h2
  · exact opStep_ok h ho hrel hnext

/-- The slot of an operation that is not carried out. -/
def skipOp (st : St) (dst : Option Nat) : St :=
  match dst with
  | some d => ⟨st.env.set d (.one (.v undef)), st.boxes⟩
  | none => st

theorem skipOp_ok {w0 : Base} {st : St} {a : Act} {w : World} {dst : Option Nat} (h : Rel w0 st a w) : Rel w0 (skipOp st dst) (a.put dst undef) w := by
  obtain ⟨ω, τ, h⟩ := h
  cases dst with
  | none => exact ⟨ω, τ, h⟩
  | some d => exact ⟨ω, τ, h.put (p := .one (.v undef)) rfl⟩

/-- Is the operation carried out? A test that is not decided is answered, and stands decided from there on. -/
def wantStep (ops : Array Oper) (st : St) (o : Oper) (ans : List Ans) : Option (Bool × St × List Ans × List Prop) :=
  match o.guard with
  | none => some (true, st, ans, [])
  | some (j, want) =>
    match (ops[j]?).bind (·.dst) with
    | some s =>
      match (st.env.getD s .und).leaf with
      | some (.v (.bool b)) => some (b == want, st, ans, [])
      | some (.v (.tuple _)) => some (false, st, ans, [])
      | some (.sb c) =>
        match ans with
        | .br b :: r => some (b == want, ⟨st.env.set s (.one (.v (.bool b))), st.boxes⟩, r, [c = b])
        | _ => none
      | _ => none
    | none => none

theorem wantStep_ok {ops : Array Oper} {w0 : Base} {st st' : St} {o : Oper} {ans ans' : List Ans} {obs : List Prop} {b : Bool} (h : wantStep ops st o ans = some (b, st', ans', obs)) (ho : Obs obs) {a : Act} {w : World} (hrel : Rel w0 st a w) :
    Region.wanted o (yielded ops a.tmps) = b ∧ Rel w0 st' a w := by
  obtain ⟨ω, τ, hrel⟩ := hrel
  unfold wantStep at h
  split at h
  · rename_i hg
    simp only [Option.some.injEq, Prod.mk.injEq] at h
    obtain ⟨rfl, rfl, _, _⟩ := h
    exact ⟨by simp [Region.wanted, hg], ω, τ, hrel⟩
  · rename_i j want hg
    split at h
    · rename_i s hs
      have hsat : ∀ l, (st.env.getD s .und).leaf = some l → ∀ x, (∀ y, Sat w ω τ l y → y = x) → (l = .und → False) → a.tmps[s]? = some x := by
        intro l hl x hx hne
        rw [List.getD_eq_getElem?_getD] at hl
        cases e : st.env[s]? with
        | none =>
          rw [e] at hl
          simp only [Option.getD_none, PV.leaf, Option.some.injEq] at hl
          exact absurd hl.symm hne
        | some p =>
          rw [e] at hl
          obtain ⟨v, h1, h2⟩ := hrel.env s p e
          rw [h1, hx v (PV.leaf_sat hl h2)]
      split at h
      · rename_i b' hl
        simp only [Option.some.injEq, Prod.mk.injEq] at h
        obtain ⟨rfl, rfl, _, _⟩ := h
        have := hsat _ hl (.bool b') (fun y hy => hy) (fun h => by cases h)
        exact ⟨by simp [Region.wanted, hg, yielded, hs, this], ω, τ, hrel⟩
      · rename_i vs hl
        simp only [Option.some.injEq, Prod.mk.injEq] at h
        obtain ⟨rfl, rfl, _, _⟩ := h
        have := hsat _ hl (.tuple vs) (fun y hy => hy) (fun h => by cases h)
        exact ⟨by simp [Region.wanted, hg, yielded, hs, this], ω, τ, hrel⟩
      · rename_i c hl
        split at h
        · rename_i b' r
          simp only [Option.some.injEq, Prod.mk.injEq] at h
          obtain ⟨rfl, rfl, _, rfl⟩ := h
          have hcb : c = b' := ho.1
          subst hcb
          have := hsat _ hl (.bool c) (fun y hy => hy) (fun h => by cases h)
          refine ⟨by simp [Region.wanted, hg, yielded, hs, this], ω, τ, ?_⟩
          have hput := hrel.put (d := s) (p := .one (.v (.bool c))) (v := .bool c) rfl
          have e : a.put (some s) (.bool c) = a := by
            simp only [Act.put]
            have : a.tmps.setIfInBounds s (.bool c) = a.tmps := by
              apply Array.ext
              · simp
              · intro i h1 h2
                rw [Array.getElem_setIfInBounds]
                split
                · rename_i hi
                  subst hi
                  rw [Array.getElem?_eq_getElem h2] at this
                  exact (Option.some.inj this).symm
                · rfl
            rw [this]
          rwa [e] at hput
        · cases h
      · cases h
    · cases h

/-- One operation: carried out or not. -/
def oneOp (P : Program) (ops : Array Oper) (o : Oper) (st : St) (ans : List Ans) : Stepped :=
  match wantStep ops st o ans with
  | some (true, st1, ans1, obs1) => (opStep P st1 o ans1).map fun r => (r.1, r.2.1, obs1 ++ r.2.2)
  | some (false, st1, ans1, obs1) => some (skipOp st1 o.dst, ans1, obs1)
  | none => none

theorem oneOp_ok {P : Program} {ops : Array Oper} {w0 : Base} {Q : Exit → Act → World → Prop} {o : Oper} {rest : List Oper} {st st' : St} {ans ans' : List Ans} {obs : List Prop} (h : oneOp P ops o st ans = some (st', ans', obs)) (ho : Obs obs)
    {a : Act} {w : World} (hrel : Rel w0 st a w) (hK : ∀ a' w', Rel w0 st' a' w' → wpList P ops Q rest a' w') : wpList P ops Q (o :: rest) a w := by
  unfold oneOp at h
  split at h
  · rename_i st1 ans1 obs1 hw
    rw [Option.map_eq_some_iff] at h
    obtain ⟨⟨r1, r2, r3⟩, h1, h⟩ := h
    simp only [Prod.mk.injEq] at h
    obtain ⟨rfl, rfl, rfl⟩ := h
    obtain ⟨o1, o2⟩ := ho.append
    obtain ⟨hwant, hr1⟩ := wantStep_ok hw o1 hrel
    refine wpList_step fun K hKK => ?_
    rw [if_pos hwant]
    exact opStep_ok h1 o2 hr1 fun a' w' hr' => hKK _ _ (hK _ _ hr')
  · rename_i st1 ans1 obs1 hw
    simp only [Option.some.injEq, Prod.mk.injEq] at h
    obtain ⟨rfl, rfl, rfl⟩ := h
    obtain ⟨hwant, hr1⟩ := wantStep_ok hw ho hrel
    refine wpList_step fun K hKK => ?_
    rw [if_neg (by rw [hwant]; simp)]
    exact hKK _ _ (hK _ _ (skipOp_ok hr1))
  · cases h

/-- 'clear(s[i:])': two operations. -/
def clearPair (o o2 : Oper) : Option (Nat × TypeId × Operand × Option Operand × TypeId) :=
  match o.dst, o.op, o.guard, o2.dst, o2.op, o2.guard with
  | some d, .slice t x lo none none, none, none, .call ⟨.builtin .clear, ⟨[.tmp d']⟩, ⟨[tc]⟩⟩, none => if d = d' then some (d, t, x, lo, tc) else none
  | _, _, _, _, _, _ => none

theorem clearPair_ok {P : Program} {ops : Array Oper} {w0 : Base} {Q : Exit → Act → World → Prop} {o o2 : Oper} {rest : List Oper} {d : Nat} {t tc : TypeId} {x : Operand} {lo : Option Operand} (hp : clearPair o o2 = some (d, t, x, lo, tc))
    {st st' : St} {ans ans' : List Ans} {obs : List Prop} (h : stepClear P st d t x lo tc ans = some (st', ans', obs)) (ho : Obs obs)
    {a : Act} {w : World} (hrel : Rel w0 st a w) (hK : ∀ a' w', Rel w0 st' a' w' → wpList P ops Q rest a' w') : wpList P ops Q (o :: o2 :: rest) a w := by
  obtain ⟨dst, op, type, pos, after, guard⟩ := o
  obtain ⟨dst2, op2, type2, pos2, after2, guard2⟩ := o2
  unfold clearPair at hp
  split at hp
  · rename_i d0 t0 x0 lo0 d' tc0 e1 e2 e3 e4 e5 e6
    simp only at e1 e2 e3 e4 e5 e6
    subst e1 e2 e3 e4 e5 e6
    split at hp
    · rename_i hd
      subst hd
      simp only [Option.some.injEq, Prod.mk.injEq] at hp
      obtain ⟨rfl, rfl, rfl, rfl, rfl⟩ := hp
      obtain ⟨ω, τ, hrel⟩ := hrel
      obtain ⟨hlt, y, z, w', h1, h2, h3⟩ := hrel.clear h ho
      refine wpList_plain rfl fun K hKK => Calls.of (run_v (by simpa using h1)) (hKK _ _ ?_)
      refine wpList_plain rfl fun K hKK => ?_
      have hev : (a.put (some d0) y).eval (.tmp d0) = y := by
        simp only [Act.eval, Act.put, Array.getD_eq_getD_getElem?, Array.getElem?_setIfInBounds]
        simp [hlt]
      refine Calls.of (z := z) (w' := w') ?_ (hKK _ _ (hK _ _ h3))
      simp only [execOp, resolve, invoke, builtin, Sem.run_bind, Sem.run_pure, Result.andThen_ok, List.map_toArray, List.map_cons, List.map_nil, hev, h2]
    · cases hp
  · cases hp

def runOps (P : Program) (ops : Array Oper) : List Oper → St → List Ans → Stepped
  | [], st, ans => some (st, ans, [])
  | [o], st, ans => oneOp P ops o st ans
  | o :: o2 :: rest, st, ans =>
    match clearPair o o2 with
    | some (d, t, x, lo, tc) =>
      match stepClear P st d t x lo tc ans with
      | some (st1, ans1, obs1) => (runOps P ops rest st1 ans1).map fun r => (r.1, r.2.1, obs1 ++ r.2.2)
      | none => none
    | none =>
      match oneOp P ops o st ans with
      | some (st1, ans1, obs1) => (runOps P ops (o2 :: rest) st1 ans1).map fun r => (r.1, r.2.1, obs1 ++ r.2.2)
      | none => none

theorem runOps_ok {P : Program} {ops : Array Oper} {w0 : Base} {Q : Exit → Act → World → Prop} : ∀ (l : List Oper) {st st' : St} {ans ans' : List Ans} {obs : List Prop}, runOps P ops l st ans = some (st', ans', obs) → Obs obs →
    ∀ {a : Act} {w : World}, Rel w0 st a w → (∀ a' w', Rel w0 st' a' w' → Q .normal a' w') → wpList P ops Q l a w
  | [], st, st', ans, ans', obs, h, _, a, w, hrel, hQ => by
    simp only [runOps, Option.some.injEq, Prod.mk.injEq] at h
    obtain ⟨rfl, _, _⟩ := h
    exact hQ _ _ hrel
  | [o], st, st', ans, ans', obs, h, ho, a, w, hrel, hQ => by
    simp only [runOps] at h
    exact oneOp_ok h ho hrel fun a' w' hr' => hQ _ _ hr'
  | o :: o2 :: rest, st, st', ans, ans', obs, h, ho, a, w, hrel, hQ => by
    simp only [runOps] at h
    split at h
    · rename_i d t x lo tc hp
      split at h
      · rename_i st1 ans1 obs1 h1
        rw [Option.map_eq_some_iff] at h
        obtain ⟨⟨r1, r2, r3⟩, h2, h⟩ := h
        simp only [Prod.mk.injEq] at h
        obtain ⟨rfl, rfl, rfl⟩ := h
        obtain ⟨o1, o3⟩ := ho.append
        exact clearPair_ok hp h1 o1 hrel fun a' w' hr' => runOps_ok rest h2 o3 hr' hQ
      · cases h
    · split at h
      · rename_i st1 ans1 obs1 h1
        rw [Option.map_eq_some_iff] at h
        obtain ⟨⟨r1, r2, r3⟩, h2, h⟩ := h
        simp only [Prod.mk.injEq] at h
        obtain ⟨rfl, rfl, rfl⟩ := h
        obtain ⟨o1, o3⟩ := ho.append
        exact oneOp_ok h1 o1 hrel fun a' w' hr' => runOps_ok (o2 :: rest) h2 o3 hr' hQ
      · cases h
end Go.Sx

namespace Go.Sx
open Go.RowKit

/-- A range of tokens. -/
abbrev Rng := List (Nat × Nat)
def Rng.has (r : Rng) (s : Nat) : Bool := r.any fun x => decide (x.1 ≤ s) && decide (s < x.2)

def Tag.ment (r : Rng) : Tag → Bool
  | .free => false
  | .own s => r.has s
  | .ro s => r.has s
def NC.ment (r : Rng) : NC → Bool
  | .sl t _ _ => t.ment r
  | _ => false

def Leaf.ment (r : Rng) : Leaf → Bool
  | .sl t _ _ => t.ment r
  | .ep t _ _ _ _ => t.ment r
  | .sn t _ _ _ _ _ => r.has t
  | .np t vs => r.has t || vs.any (NC.ment r)
  | _ => false
def AL.ment (r : Rng) : AL → Bool
  | .one l => l.ment r
  | .agg ls => ls.any (Leaf.ment r)
def PV.ment (r : Rng) : PV → Bool
  | .al a => a.ment r
  | .tup as => as.any (AL.ment r)

def KeepsBut (g : Tag → Option Tag) (r : Rng) : Prop := ∀ t : Tag, t.ment r = false → g t = some t

theorem Leaf.re_id {g : Tag → Option Tag} {r : Rng} (hg : KeepsBut g r) {l : Leaf} (h : l.ment r = false) : l.re g (fun _ => true) = l := by
  cases l with
  | sl t k es => simp only [Leaf.ment] at h; simp only [Leaf.re, hg t h]
  | ep t k es i j => simp only [Leaf.ment] at h; simp only [Leaf.re, hg t h]
  | ptr id off => simp [Leaf.re]
  | clo f ids => simp [Leaf.re]
  | sn t i j k es m => simp only [Leaf.ment] at h; simp only [Leaf.re, hg (.own t) h, if_true]
  | np t vs =>
    simp only [Leaf.ment, Bool.or_eq_false_iff] at h
    simp only [Leaf.re, hg (.own t) h.1, if_true]
    congr 1
    conv => rhs; rw [← List.map_id vs]
    refine List.map_congr_left fun c hc => ?_
    have := List.any_eq_false.1 h.2 c hc
    cases c with
    | und => rfl
    | v x => rfl
    | sl t' k es => simp only [NC.re, hg t' (by simpa [NC.ment] using this), id]
  | _ => rfl

theorem re_map_id {g : Tag → Option Tag} {r : Rng} (hg : KeepsBut g r) {ls : List Leaf} (h : ls.any (Leaf.ment r) = false) : ls.map (Leaf.re g fun _ => true) = ls := by
  conv => rhs; rw [← List.map_id ls]
  refine List.map_congr_left fun l hl => ?_
  rw [List.any_eq_false] at h
  exact Leaf.re_id hg (by simpa using h l hl)

theorem AL.re_id {g : Tag → Option Tag} {r : Rng} (hg : KeepsBut g r) {a : AL} (h : a.ment r = false) : a.map (Leaf.re g fun _ => true) = a := by
  cases a with
  | one l => simp only [AL.ment] at h; simp only [AL.map, Leaf.re_id hg h]
  | agg ls => simp only [AL.ment] at h; simp only [AL.map, re_map_id hg h]

theorem PV.re_id {g : Tag → Option Tag} {r : Rng} (hg : KeepsBut g r) {p : PV} (h : p.ment r = false) : p.map (Leaf.re g fun _ => true) = p := by
  cases p with
  | al a => simp only [PV.ment] at h; simp only [PV.map, AL.re_id hg h]
  | tup as =>
    simp only [PV.ment] at h
    simp only [PV.map]
    congr 1
    conv => rhs; rw [← List.map_id as]
    refine List.map_congr_left fun a ha => ?_
    rw [List.any_eq_false] at h
    exact AL.re_id hg (by simpa using h a ha)

/-- What one operation does in a region that draws: the value of its slot, a slot that it uses up, the tokens that it touches. -/
structure Eff where
  dst : Option Nat
  p : PV
  use : List Nat
  rng : Rng

abbrev Drawn := Option (Eff × (Tag → Option Tag) × List Ans × List Prop)

def opSlot : Operand → Option Nat
  | .tmp t => some t
  | _ => none

/-- The token of the tree that an append takes over. -/
def mvRng : Option Nat → Rng
  | none => []
  | some s => [(s, s + 1)]

def apOf (P : Program) (st : St) (d : Nat) (t : TypeId) (x y : Operand) (ans : List Ans) : Drawn :=
  match elemOf P t with
  | some (e, k) =>
    match P.info? e with
    | some i =>
      match i.zero, (st.ev x).leaf, x with
      | some z, some (.sl (.own tk) k' es), .tmp s =>
        match apSrc tk k (st.ev y) ans with
        | some (es2, mv, ans', obs) =>
          if k' = k ∧ z.cells.size = k ∧ 0 < k ∧ tk < giv then
            some (⟨some d, .one (.sl (.own tk) k (es ++ es2)), [s], (tk, tk + 1) :: mvRng mv⟩, apTag tk mv, ans', ((es.length + es2.length) * i.bytes ≤ 140737488355328) :: (es.length + es2.length ≤ 9223372036854775807) :: obs)
          else none
        | _ => none
      | some z, some (.v (.slice none 0 0)), _ =>
        match apSrc d k ((st.ev y).map (Leaf.re (mvTag d []) fun _ => true)) ans with
        | some (es2, mv, ans', obs) =>
          if z.cells.size = k ∧ 0 < k ∧ d < giv then
            some (⟨some d, .one (.sl (.own d) k ([] ++ es2)), [], (d, d + 1) :: mvRng mv⟩, (fun g => (mvTag d [] g).bind (apTag d mv)), ans', (((([] : List (List D)).length) + es2.length) * i.bytes ≤ 140737488355328) :: (([] : List (List D)).length + es2.length ≤ 9223372036854775807) :: obs)
          else none
        | _ => none
      | _, _, _ => none
    | none => none
  | none => none

/-- A cut that takes a tree's place. -/
def cutD (P : Program) (st : St) (d : Nat) (t : TypeId) (x : Operand) (lo hi mx : Option Operand) (ans : List Ans) : Drawn :=
  match elemOf P t, (st.ev x).leaf, mx, x with
  | some (_, k), some (.sl (.own s) k' es), none, .tmp s0 =>
    if k = k' ∧ s < giv then
      match optInt st lo, optInt st hi with
      | some l, some h => some (⟨some d, .one (.sl (.own s) k ((es.drop (l.getD 0).toNat).take ((h.getD es.length).toNat - (l.getD 0).toNat))), [s0], [(s, s + 1)]⟩, cutTag s s, ans, [0 ≤ l.getD 0, l.getD 0 ≤ h.getD es.length, h.getD es.length ≤ es.length])
      | _, _ => none
    else none
  | _, _, _, _ => none

theorem keeps_cut (s : Nat) : KeepsBut (cutTag s s) [(s, s + 1)] := by
  intro t h
  cases t with
  | free => rfl
  | own x =>
    have : x ≠ s := by rintro rfl; simp [Tag.ment, Rng.has] at h
    simp [cutTag, this]
  | ro x =>
    have : x ≠ s := by rintro rfl; simp [Tag.ment, Rng.has] at h
    simp [cutTag, this]

/-- A slice that is made. -/
def mkOf (P : Program) (d : Nat) (t : TypeId) (p q : PV) (ans : List Ans) : Drawn :=
  match P.underlying t with
  | some (.slice e) =>
    match P.info? e, p.int, q.int with
    | some i, some (_, l), some (_, c) =>
      match i.zero with
      | some z =>
        if i.size = z.cells.size ∧ 0 < i.size ∧ z.cells.all (·.oneCell') = true ∧ d < giv then
          some (⟨some d, .one (.sl (.own d) i.size (List.replicate l.toNat (z.cells.toList.map .v))), [], [(d, d + 1)]⟩, mvTag d [], ans, [0 ≤ l, l ≤ c, (i.bytes : Int) * c ≤ 281474976710656, c ≤ 9223372036854775807])
        else none
      | none => none
    | _, _, _ => none
  | _ => none

def dStep (P : Program) (st : St) (o : Oper) (ans : List Ans) : Drawn :=
  match o.dst, o.op with
  | some d, .call ⟨.value (.func f), args, _⟩ =>
    match P.funcs[f]?, args.toList.mapM (fun x => (st.ev x).argD st.boxes), ans with
    | some fn, some ads, .res rs :: r =>
      if (fn.name == "runtime.NumGoroutine") = false ∧ fn.body.isNone = false ∧ resFits rs = true ∧ 10000 * (d + 1) + 10000 ≤ giv then
        some (⟨some d, resPV (10000 * (d + 1)) rs, [], [(10000 * (d + 1), 10000 * (d + 1) + 10000)]⟩, calTag (10000 * (d + 1)), r, [Ret P f ads rs])
      else none
    | _, _, _ => none
  | some d, .buildSlice t n parts =>
    match bsOf P st d t n parts.toList with
    | some (k, es, ms) => some (⟨some d, .one (.sl (.own d) k es), [], (d, d + 1) :: ms.map fun x => (x.1, x.1 + 1)⟩, mvTag d ms, ans, [])
    | _ => none
  | some d, .call ⟨.builtin .append, ⟨[x, y]⟩, ⟨[t, t']⟩⟩ => if t = t' then apOf P st d t x y ans else none
  | some _, .box _ _ => none
  | some d, .alloc ty =>
    match P.info? ty with
    | some i => match i.zero with
      | some z => if d < giv then some (⟨some d, .one (.np d (z.cells.toList.map .v)), [], [(d, d + 1)]⟩, mvTag d [], ans, []) else none
      | none => none
    | none => none
  | some d, .makeSlice t l c => mkOf P d t (st.ev l) (st.ev c) ans
  | some d, .slice t x lo hi mx => if isOwn ans then cutD P st d t x lo hi mx ans.tail else (pureStep P st (.slice t x lo hi mx) ans).map fun r => (⟨some d, r.1, [], []⟩, some, r.2.1, r.2.2)
  | some d, op => (pureStep P st op ans).map fun r => (⟨some d, r.1, [], []⟩, some, r.2.1, r.2.2)
  | none, .store ty (.tmp s) y =>
    match (st.env.getD s .und).leaf, ncs (st.ev y), P.info? ty with
    | some (.np t vs), some cs, some i =>
      if cs.length = i.size ∧ cs.length ≤ vs.length then
        some (⟨some s, .one (.np t ((cs ++ vs.drop cs.length).map (NC.re (dropT t)))), [], [(t, t + 1)]⟩, dropT t, ans, [])
      else none
    | _, _, _ => none
  | none, _ => none

theorem keeps_drop (s : Nat) : KeepsBut (dropT s) [(s, s + 1)] := by
  intro t h
  cases t with
  | free => rfl
  | own x =>
    have : x ≠ s := by rintro rfl; simp [Tag.ment, Rng.has] at h
    simp [dropT, this]
  | ro x =>
    have : x ≠ s := by rintro rfl; simp [Tag.ment, Rng.has] at h
    simp [dropT, this]

theorem nc_some : NC.re some = id := by funext c; cases c <;> rfl

theorem ev_map (st : St) (f : Leaf → Leaf) (hf : ∀ x, f (.v x) = .v x) (hu : f .und = .und) (hd : ∀ d, f (.fd d) = .fd d) (x : Operand) : (st.map f).ev x = (st.ev x).map f := by
  cases x with
  | tmp t =>
    simp only [St.ev, St.map]
    rw [List.getD_eq_getElem?_getD, List.getD_eq_getElem?_getD, List.getElem?_map]
    cases st.env[t]? with
    | none => simp [PV.map, AL.map, hu]
    | some p => rfl
  | const v =>
    simp only [St.ev, cval]
    split
    · simp [PV.map, AL.map, hf]
    · simp [PV.map, AL.map, hf]
  | global g => simp [St.ev, PV.map, AL.map, hu]
  | func f' => simp [St.ev, PV.map, AL.map, hd]

theorem Leaf.re_re (g1 g2 : Tag → Option Tag) (h2 : ∀ g t, g2 g = some (.own t) → g = .own t) (l : Leaf) : Leaf.re g2 (fun _ => true) (Leaf.re g1 (fun _ => true) l) = Leaf.re (fun t => (g1 t).bind g2) (fun _ => true) l := by
  cases l with
  | sl t k es => simp only [Leaf.re]; cases g1 t <;> simp [Leaf.re]
  | ep t k es i j => simp only [Leaf.re]; cases g1 t <;> simp [Leaf.re]
  | clo f ids => simp [Leaf.re]
  | sn t i j k es m =>
    simp only [Leaf.re]
    cases e1 : g1 (.own t) with
    | none => simp [Leaf.re]
    | some x =>
      simp only [Option.bind_some]
      cases x with
      | own s =>
        simp only
        by_cases hs : s = t
        · subst hs; simp only [if_true, Leaf.re]
        · rw [if_neg hs]
          simp only [Leaf.re]
          cases e2 : g2 (.own s) with
          | none => rfl
          | some y =>
            cases y with
            | own u =>
              simp only
              by_cases hu : u = t
              · subst hu
                have := h2 _ _ e2
                simp only [Tag.own.injEq] at this
                exact absurd this hs
              · rw [if_neg hu]
            | _ => rfl
      | free =>
        simp only [Leaf.re]
        cases e2 : g2 .free with
        | none => rfl
        | some y =>
          cases y with
          | own u => exact absurd (h2 _ _ e2) (by simp)
          | _ => rfl
      | ro s =>
        simp only [Leaf.re]
        cases e2 : g2 (.ro s) with
        | none => rfl
        | some y =>
          cases y with
          | own u => exact absurd (h2 _ _ e2) (by simp)
          | _ => rfl
  | np t vs =>
    simp only [Leaf.re]
    cases e1 : g1 (.own t) with
    | none => simp [Leaf.re]
    | some x =>
      simp only [Option.bind_some]
      cases x with
      | own s =>
        simp only
        by_cases hs : s = t
        · subst hs
          simp only [if_true, Leaf.re]
          have hcs : (vs.map (NC.re g1)).map (NC.re g2) = vs.map (NC.re fun t => (g1 t).bind g2) := by
            rw [List.map_map]
            refine List.map_congr_left fun c _ => ?_
            cases c with
            | und => rfl
            | v x => rfl
            | sl t' k es =>
              simp only [Function.comp, NC.re]
              cases e3 : g1 t' with
              | none => rfl
              | some t2 => simp only [Option.bind_some, NC.re]
          rw [hcs]
        · rw [if_neg hs]
          simp only [Leaf.re]
          cases e2 : g2 (.own s) with
          | none => rfl
          | some y =>
            cases y with
            | own u =>
              simp only
              by_cases hu : u = t
              · subst hu
                have := h2 _ _ e2
                simp only [Tag.own.injEq] at this
                exact absurd this hs
              · rw [if_neg hu]
            | _ => rfl
      | free =>
        simp only [Leaf.re]
        cases e2 : g2 .free with
        | none => rfl
        | some y =>
          cases y with
          | own u => exact absurd (h2 _ _ e2) (by simp)
          | _ => rfl
      | ro s =>
        simp only [Leaf.re]
        cases e2 : g2 (.ro s) with
        | none => rfl
        | some y =>
          cases y with
          | own u => exact absurd (h2 _ _ e2) (by simp)
          | _ => rfl
  | ptr id off => simp [Leaf.re]
  | _ => rfl

theorem AL.map_map (f g : Leaf → Leaf) (a : AL) : (a.map f).map g = a.map (g ∘ f) := by cases a <;> simp [AL.map]
theorem PV.map_map (f g : Leaf → Leaf) (p : PV) : (p.map f).map g = p.map (g ∘ f) := by
  cases p with
  | al a => simp [PV.map, AL.map_map]
  | tup as => simp only [PV.map, List.map_map]; congr 1; refine List.map_congr_left fun a _ => ?_; simp [AL.map_map]
theorem St.map_map (f g : Leaf → Leaf) (s : St) : (s.map f).map g = s.map (g ∘ f) := by
  simp only [St.map, List.map_map]
  congr 1
  · refine List.map_congr_left fun p _ => ?_
    simp [PV.map_map]
  · refine List.map_congr_left fun x _ => ?_
    simp

theorem keeps_some (r : Rng) : KeepsBut some r := fun _ _ => rfl
theorem Rng.cons_has {a b s : Nat} {r : Rng} (h : Rng.has ((a, b) :: r) s = false) : (s < a ∨ b ≤ s) ∧ Rng.has r s = false := by
  simp only [Rng.has, List.any_cons, Bool.or_eq_false_iff, Bool.and_eq_false_iff, decide_eq_false_iff_not] at h
  exact ⟨by omega, h.2⟩
theorem keeps_cal (t : Nat) : KeepsBut (calTag t) [(t, t + 10000)] := by
  intro g hg
  cases g with
  | free => rfl
  | own s =>
    obtain ⟨h1, _⟩ := Rng.cons_has hg
    simp only [calTag]
    rw [if_neg (by omega)]
  | ro s =>
    obtain ⟨h1, _⟩ := Rng.cons_has hg
    simp only [calTag]
    rw [if_neg (by omega)]
theorem mvs_none {s : Nat} : ∀ {ms : Moves}, (Rng.has (ms.map fun x => (x.1, x.1 + 1)) s) = false → (ms.at s).isSome = false
  | [], _ => rfl
  | (i, p) :: r, h => by
    simp only [Rng.has, List.map_cons, List.any_cons, Bool.or_eq_false_iff, Bool.and_eq_false_iff, decide_eq_false_iff_not] at h
    simp only [Moves.at]
    rw [if_neg (by omega)]
    exact mvs_none (by simpa only [Rng.has] using h.2)
theorem keeps_mv (t : Nat) (ms : Moves) : KeepsBut (mvTag t ms) ((t, t + 1) :: ms.map fun x => (x.1, x.1 + 1)) := by
  intro g hg
  cases g with
  | free => rfl
  | own s =>
    obtain ⟨h1, h2⟩ := Rng.cons_has hg
    simp only [mvTag]
    rw [if_neg (by omega), mvs_none h2]; rfl
  | ro s =>
    obtain ⟨h1, h2⟩ := Rng.cons_has hg
    simp only [mvTag]
    rw [if_neg (by omega), mvs_none h2]; rfl
theorem mvRng_ne {mv : Option Nat} {s : Nat} (h : Rng.has (mvRng mv) s = false) : mv ≠ some s := by
  rintro rfl
  simp [Rng.has, mvRng] at h
theorem keeps_ap (t : Nat) (mv : Option Nat) : KeepsBut (apTag t mv) ((t, t + 1) :: mvRng mv) := by
  intro g hg
  cases g with
  | free => rfl
  | own s =>
    obtain ⟨h1, h2⟩ := Rng.cons_has hg
    simp only [apTag]
    rw [if_neg (by omega), if_neg (mvRng_ne h2)]
  | ro s =>
    obtain ⟨h1, h2⟩ := Rng.cons_has hg
    simp only [apTag]
    rw [if_neg (by omega), if_neg (mvRng_ne h2)]
theorem keeps_mv0 (t : Nat) (r : Rng) : KeepsBut (mvTag t []) ((t, t + 1) :: r) := by
  intro g hg
  cases g with
  | free => rfl
  | own s =>
    obtain ⟨h1, h2⟩ := Rng.cons_has hg
    simp only [mvTag]
    rw [if_neg (by omega)]; rfl
  | ro s =>
    obtain ⟨h1, h2⟩ := Rng.cons_has hg
    simp only [mvTag]
    rw [if_neg (by omega)]; rfl

theorem apOf_keeps {P : Program} {st : St} {d : Nat} {t : TypeId} {x y : Operand} {ans ans' : List Ans} {e : Eff} {g : Tag → Option Tag} {obs : List Prop} (h : apOf P st d t x y ans = some (e, g, ans', obs)) : KeepsBut g e.rng ∧ e.dst = some d := by
  unfold apOf at h
  split at h
  · split at h
    · split at h
      · split at h
        · split at h
          · simp only [Option.some.injEq, Prod.mk.injEq] at h
            obtain ⟨rfl, rfl, _, _⟩ := h
            exact ⟨keeps_ap _ _, rfl⟩
          · cases h
        · cases h
      · split at h
        · split at h
          · simp only [Option.some.injEq, Prod.mk.injEq] at h
            obtain ⟨rfl, rfl, _, _⟩ := h
            exact ⟨fun t ht => by simp only [keeps_mv0 d _ t ht, Option.bind_some]; exact keeps_ap d _ t ht, rfl⟩
          · cases h
        · cases h
      · cases h
    · cases h
  · cases h

/-- Such a step is a step. -/
theorem dStep_op {P : Program} {st : St} {o : Oper} {ans ans' : List Ans} {e : Eff} {g : Tag → Option Tag} {obs : List Prop} (h : dStep P st o ans = some (e, g, ans', obs)) :
    KeepsBut g e.rng ∧ ∃ d, e.dst = some d ∧ opStepD P st o ans = some (⟨(st.map (Leaf.re g fun _ => true)).env.set d e.p, (st.map (Leaf.re g fun _ => true)).boxes⟩, ans', obs) := by
  obtain ⟨dst, op, type, pos, after, guard⟩ := o
  have hid : ∀ st : St, st.map (Leaf.re some fun _ => true) = st := by
    intro st
    have : (Leaf.re some fun _ => true) = _root_.id := by
      funext l
      cases l <;> simp [Leaf.re, nc_some]
    rw [this]
    simp only [St.map]
    have h1 : PV.map _root_.id = _root_.id := by
      funext p
      cases p with
      | al a => cases a <;> simp [PV.map, AL.map]
      | tup as =>
        simp only [PV.map, id]
        congr 1
        have : AL.map _root_.id = _root_.id := by funext a; cases a <;> simp [AL.map]
        rw [this]; simp
    rw [h1]
    simp
  simp only [dStep] at h
  split at h
  · rename_i d f args ts
    split at h
    · rename_i fn ads rs r h1 h2
      split at h
      · rename_i hc
        simp only [Option.some.injEq, Prod.mk.injEq] at h
        obtain ⟨rfl, rfl, rfl, rfl⟩ := h
        refine ⟨keeps_cal _, d, rfl, ?_⟩
        simp only [opStepD, opStep, isG, Bool.false_eq_true, if_false, stepCall, h1, h2, Option.getD_some]
        rw [if_pos hc]
        rfl
      · cases h
    · cases h
  · rename_i d t n parts
    split at h
    · rename_i k es ms hb
      simp only [Option.some.injEq, Prod.mk.injEq] at h
      obtain ⟨rfl, rfl, rfl, rfl⟩ := h
      refine ⟨keeps_mv _ _, d, rfl, ?_⟩
      simp only [opStepD, opStep]
      exact bsOf_step hb ans
    · cases h
  · rename_i d x y t t'
    split at h
    · rename_i htt
      subst htt
      refine ⟨(apOf_keeps h).1, d, (apOf_keeps h).2, ?_⟩
      simp only [opStepD, opStep, if_true, Sx.stepAppend]
      unfold apOf at h
      split at h
      · rename_i ee k he
        simp only [he]
        split at h
        · rename_i i hi
          simp only [hi]
          split at h
          · rename_i z tk k' es s hz hl
            split at h
            · rename_i es2 mv a2 o2 hs
              split at h
              · rename_i hc
                obtain ⟨rfl, hc⟩ := hc
                simp only [Option.some.injEq, Prod.mk.injEq] at h
                obtain ⟨rfl, rfl, rfl, rfl⟩ := h
                simp only [apTok, hl, if_true, hz, hs]
                rw [if_pos hc]
                rfl
              · cases h
            · cases h
          · rename_i z _ hz hl
            split at h
            · rename_i es2 mv a2 o2 hs
              split at h
              · rename_i hc
                simp only [Option.some.injEq, Prod.mk.injEq] at h
                obtain ⟨rfl, rfl, rfl, rfl⟩ := h
                have hev : (st.newTok d []).ev y = (st.ev y).map (Leaf.re (mvTag d []) fun _ => true) := ev_map st _ (fun _ => rfl) rfl (fun _ => rfl) y
                simp only [apTok, hl, hz, hev, hs]
                rw [if_pos hc]
                have : (st.newTok d []).ap d mv = st.map (Leaf.re (fun g => (mvTag d [] g).bind (apTag d mv)) fun _ => true) := by
                  simp only [St.newTok, St.ap, St.map_map]
                  congr 1
                  funext l
                  refine Leaf.re_re _ _ (fun g t h => ?_) l
                  cases g with
                  | free => simp [apTag] at h
                  | own s =>
                    simp only [apTag] at h
                    split at h
                    · simp at h
                    · split at h
                      · cases h
                      · simpa using h
                  | ro s =>
                    simp only [apTag] at h
                    split at h
                    · cases h
                    · split at h
                      · cases h
                      · simp at h
                rw [this]
              · cases h
            · cases h
          · cases h
        · cases h
      · cases h
    · cases h
  · cases h
  · rename_i d ty
    split at h
    · rename_i i hi
      split at h
      · rename_i z hz
        split at h
        · rename_i hd
          simp only [Option.some.injEq, Prod.mk.injEq] at h
          obtain ⟨rfl, rfl, rfl, rfl⟩ := h
          refine ⟨keeps_mv0 _ _, d, rfl, ?_⟩
          simp only [opStepD, stepNp, hi, hz]
          rw [if_pos hd]
          rfl
        · cases h
      · cases h
    · cases h
  · rename_i d t l c
    unfold mkOf at h
    split at h
    · rename_i e hu
      split at h
      · rename_i i k1 l' k2 c' hi e1 e2
        split at h
        · rename_i z hz
          split at h
          · rename_i hc
            simp only [Option.some.injEq, Prod.mk.injEq] at h
            obtain ⟨rfl, rfl, rfl, rfl⟩ := h
            refine ⟨keeps_mv0 _ _, d, rfl, ?_⟩
            simp only [opStepD, opStep, stepMake, hu, hi, e1, e2, hz]
            rw [if_pos hc]
            rfl
          · cases h
        · cases h
      · cases h
    · cases h
  · rename_i d t x lo hi mx
    split at h
    · rename_i ho
      unfold cutD at h
      split at h
      · rename_i e k s k' es s0 e1 e2
        split at h
        · rename_i hc
          obtain ⟨rfl, hs⟩ := hc
          split at h
          · rename_i l hh e3 e4
            simp only [Option.some.injEq, Prod.mk.injEq] at h
            obtain ⟨rfl, rfl, rfl, rfl⟩ := h
            refine ⟨keeps_cut _, d, rfl, ?_⟩
            simp only [opStepD, opStep, ho, if_true, stepCut, e1, e2, e3, e4, cutTok, hs, true_and]
          · cases h
        · cases h
      · cases h
    · rename_i ho
      rw [Option.map_eq_some_iff] at h
      obtain ⟨⟨r1, r2, r3⟩, h1, h⟩ := h
      simp only [Prod.mk.injEq] at h
      obtain ⟨rfl, rfl, rfl, rfl⟩ := h
      refine ⟨keeps_some _, d, rfl, ?_⟩
      rw [hid]
      simp only [opStepD, opStep]
      rw [if_neg ho, h1]
      rfl
  · rename_i d n1 n2 n3 n4 n5 n6 n7
    rw [Option.map_eq_some_iff] at h
    obtain ⟨⟨r1, r2, r3⟩, h1, h⟩ := h
    simp only [Prod.mk.injEq] at h
    obtain ⟨rfl, rfl, rfl, rfl⟩ := h
    refine ⟨keeps_some _, d, rfl, ?_⟩
    rw [hid]
    have hD : opStepD P st ⟨some d, op, type, pos, after, guard⟩ ans = opStep P st ⟨some d, op, type, pos, after, guard⟩ ans := by
      unfold opStepD
      split
      · rename_i e1 e2
        exact (n5 _ e2).elim
      · rename_i e1 e2
        cases e1
      · rfl
    rw [hD]
    unfold opStep
    split
    all_goals first
      | exact (n4 _ _ (by assumption)).elim
      | exact (n5 _ (by assumption)).elim
      | exact (n6 _ _ _ (by assumption)).elim
      | exact (n2 _ _ _ (by assumption)).elim
      | exact (n1 _ _ _ (by assumption)).elim
      | exact (n3 _ _ _ _ (by assumption)).elim
      | exact (n7 _ _ _ _ _ (by assumption)).elim
      | (simp_all; done)
      | (exfalso; rename_i e; subst e; simp [pureStep] at h1)
      | (exfalso; simp_all [pureStep])
  · rename_i ty s y
    split at h
    · rename_i tk vs v i e1 e2 e3
      split at h
      · rename_i hc
        simp only [Option.some.injEq, Prod.mk.injEq] at h
        obtain ⟨rfl, rfl, rfl, rfl⟩ := h
        refine ⟨keeps_drop _, s, rfl, ?_⟩
        simp only [opStepD, stepStoreNp, e1, e2, e3]
        rw [if_pos hc]
      · cases h
    · cases h
  · cases h

theorem Rel.weaken {w0 : Base} {st st' : St} {a : Act} {w : World} (h : Rel w0 st a w) (hn : st'.env.length = st.env.length) (hb : st'.boxes = st.boxes)
    (he : ∀ (i : Nat) (p : PV), st'.env[i]? = some p → p = .und ∨ st.env[i]? = some p) : Rel w0 st' a w := by
  obtain ⟨ω, τ, h⟩ := h
  refine ⟨ω, τ, h.defers, h.size.trans hn.symm, h.below, h.owned, h.fixed, h.pinned, fun i p hp => ?_, by rw [hb]; exact h.boxes⟩
  rcases he i p hp with rfl | h2
  · have : i < a.tmps.size := by
      rw [h.size, ← hn]
      exact (List.getElem?_eq_some_iff.1 hp).1
    exact ⟨a.tmps[i], by simp [this], trivial⟩
  · exact h.env i p h2

/-- What an operation does to a slot. -/
def Eff.touch (e : Eff) (t : Nat) : Option PV := if e.dst = some t then some e.p else if t ∈ e.use then some .und else none

def setUse (env : List PV) : List Nat → List PV
  | s :: us => setUse (env.set s .und) us
  | [] => env

theorem setUse_length : ∀ (us : List Nat) (env : List PV), (setUse env us).length = env.length
  | [], env => rfl
  | s :: us, env => by simp [setUse, setUse_length us]

theorem setUse_get : ∀ (us : List Nat) (env : List PV) (t : Nat), (setUse env us)[t]? = (env[t]?).map fun p => if t ∈ us then .und else p
  | [], env, t => by simp [setUse]
  | s :: us, env, t => by
    simp only [setUse, setUse_get us, List.getElem?_set, List.mem_cons]
    by_cases h : s = t
    · subst h
      by_cases hl : s < env.length
      · simp [hl]
      · simp [hl]
    · rw [if_neg h]
      have h' : ¬ t = s := fun e => h e.symm
      simp only [h', false_or]

def Eff.apply (e : Eff) (env : List PV) : List PV :=
  match e.dst with
  | some d => (setUse env e.use).set d e.p
  | none => env

theorem Eff.apply_get {e : Eff} (hd : e.dst ≠ none) (env : List PV) (t : Nat) : (e.apply env)[t]? = (env[t]?).map fun p => (e.touch t).getD p := by
  unfold Eff.apply Eff.touch
  split
  · rename_i d hd'
    have hs : ∀ (t : Nat), (setUse env e.use)[t]? = (env[t]?).map fun p => if t ∈ e.use then .und else p := setUse_get e.use env
    rw [List.getElem?_set, hs t]
    by_cases h : d = t
    · subst h
      by_cases hl : d < env.length
      · have : d < (setUse env e.use).length := by rw [setUse_length]; exact hl
        simp [this, hl, hd']
      · have : ¬ d < (setUse env e.use).length := by rw [setUse_length]; exact hl
        simp [this, hl]
    · rw [if_neg h]
      cases henv : env[t]? with
      | none => simp
      | some p =>
        have hne : ¬ (e.dst = some t) := by rw [hd']; simpa using h
        simp only [Option.map_some, Option.some.injEq, if_neg hne]
        by_cases hu : t ∈ e.use
        · simp [hu]
        · simp [hu]
  · exact absurd ‹_› hd

/-- The slots after those operations that have come up. -/
def lastT (L : Nat → Bool) (t : Nat) : Nat → List Eff → PV → PV
  | _, [], acc => acc
  | k, e :: es, acc => lastT L t (k + 1) es (if L k then (e.touch t).getD acc else acc)

theorem lastT_congr {L L' : Nat → Bool} {t : Nat} : ∀ {es : List Eff} {k : Nat} {acc : PV}, (∀ (j : Nat) (e : Eff), es[j]? = some e → e.touch t ≠ none → L (k + j) = L' (k + j)) → lastT L t k es acc = lastT L' t k es acc
  | [], _, _, _ => rfl
  | e :: es, k, acc, h => by
    simp only [lastT]
    have h0 : (if L k then (e.touch t).getD acc else acc) = (if L' k then (e.touch t).getD acc else acc) := by
      cases ht : e.touch t with
      | none => simp
      | some p => have := h 0 e rfl (by simp [ht]); rw [Nat.add_zero] at this; rw [this]
    rw [h0]
    exact lastT_congr fun j e' hj ht => by have := h (j + 1) e' (by simpa using hj) ht; rwa [show k + (j + 1) = k + 1 + j by omega] at this

/-- The operation i has come up, and none behind it touches the slot. -/
theorem lastT_at {L : Nat → Bool} {t : Nat} {p : PV} : ∀ {es : List Eff} {k i : Nat} {acc : PV} {e : Eff}, es[i]? = some e → e.touch t = some p → L (k + i) = true →
    (∀ (j : Nat) (e' : Eff), i < j → es[j]? = some e' → e'.touch t ≠ none → L (k + j) = false) → lastT L t k es acc = p
  | [], _, _, _, _, h, _, _, _ => by simp at h
  | e0 :: es, k, 0, acc, e, h, ht, hL, hno => by
    simp at h; subst h
    simp only [lastT]
    rw [Nat.add_zero] at hL
    rw [hL, ht]
    simp only [if_true, Option.getD_some]
    have : ∀ (es : List Eff) (k : Nat), (∀ (j : Nat) (e' : Eff), es[j]? = some e' → e'.touch t ≠ none → L (k + j) = false) → lastT L t k es p = p := by
      intro es
      induction es with
      | nil => intro k _; rfl
      | cons e1 es ih =>
        intro k h
        simp only [lastT]
        have h1 : (if L k then (e1.touch t).getD p else p) = p := by
          cases ht : e1.touch t with
          | none => simp
          | some q => have := h 0 e1 rfl (by simp [ht]); rw [Nat.add_zero] at this; simp [this]
        rw [h1]
        exact ih (k + 1) fun j e' hj ht' => by have := h (j + 1) e' (by simpa using hj) ht'; rwa [show k + (j + 1) = k + 1 + j by omega] at this
    exact this es (k + 1) fun j e' hj ht' => by have := hno (j + 1) e' (by omega) (by simpa using hj) ht'; rwa [show k + (j + 1) = k + 1 + j by omega] at this
  | e0 :: es, k, i + 1, acc, e, h, ht, hL, hno => by
    simp only [lastT]
    exact lastT_at (i := i) (by simpa using h) ht (by rwa [show k + 1 + i = k + (i + 1) by omega]) fun j e' hj hj' ht' => by
      have := hno (j + 1) e' (by omega) (by simpa using hj') ht'
      rwa [show k + (j + 1) = k + 1 + j by omega] at this

def stOf (env0 : List PV) (bs : List (Nat × List Leaf)) (L : Nat → Bool) (es : List Eff) : St := ⟨env0.zipIdx.map fun x => lastT L x.2 0 es x.1, bs⟩

theorem stOf_get {env0 : List PV} {bs : List (Nat × List Leaf)} {L : Nat → Bool} {es : List Eff} (t : Nat) : (stOf env0 bs L es).env[t]? = (env0[t]?).map fun p => lastT L t 0 es p := by
  simp only [stOf, List.getElem?_map, List.getElem?_zipIdx, Nat.zero_add]
  cases env0[t]? <;> rfl

theorem stOf_length {env0 : List PV} {bs : List (Nat × List Leaf)} {L : Nat → Bool} {es : List Eff} : (stOf env0 bs L es).env.length = env0.length := by simp [stOf]

def guardSlot (ops : Array Oper) (o : Oper) : Option Nat := o.guard.bind fun x => (ops[x.1]?).bind (·.dst)

/-- The slots that an operation looks at. -/
def reads (ops : Array Oper) (o : Oper) : List Nat := o.op.operands.toList.filterMap opSlot ++ (guardSlot ops o).toList

def skipEff (d : Nat) : Eff := ⟨some d, .one (.v undef), [], []⟩

/-- .. with all slots used up that lead to what it touches. -/
def ext (e : Eff) (env : List PV) : Eff :=
  if e.rng.isEmpty then e else { e with use := e.use ++ (env.zipIdx.filterMap fun x => if x.1.ment e.rng && !(e.dst == some x.2) then some x.2 else none) }

theorem ext_use (e : Eff) (env : List PV) : ∃ u, ext e env = { e with use := u } := by
  unfold ext
  split
  · exact ⟨e.use, rfl⟩
  · exact ⟨_, rfl⟩

/-! ### append onto a slice in a tree -/
structure SnI where
  t : Nat
  i : Nat
  j : Nat
  k : Nat
  kT : Nat
  es : List (List D)
  esT : List (List D)

def rootB (t : Nat) (bs : List (Nat × List Leaf)) : Option (Nat × List (List D)) :=
  (bs.find? fun x => (x.2.findSome? (rootL t)).isSome).bind fun x => (getBox x.1 bs).bind fun ls => ls.findSome? (rootL t)

theorem rootB_ok {w0 : Base} {st : St} {a : Act} {w : World} {ω : Own} {τ : Nat → Nat × Value} (h : RelAt w0 st a w ω τ) {t kT : Nat} {esT : List (List D)} (e : rootB t st.boxes = some (kT, esT)) : ∃ v, Sat w ω τ (.sl (.own t) kT esT) v := by
  unfold rootB at e
  rw [Option.bind_eq_some_iff] at e
  obtain ⟨x, _, e⟩ := e
  rw [Option.bind_eq_some_iff] at e
  obtain ⟨ls, hb, e⟩ := e
  obtain ⟨l, hl, e⟩ := List.exists_of_findSome?_eq_some e
  obtain ⟨b, arr, ty, _, _, _, hs⟩ := h.boxes _ ls hb
  obtain ⟨n, hn⟩ := List.mem_iff_getElem?.1 hl
  obtain ⟨u, _, hu⟩ := hs.2 n l hn
  exact ⟨u, rootL_ok e hu⟩

def snInfo (st : St) (o : Oper) : Option SnI :=
  match o.dst, o.op with
  | some _, .call ⟨.builtin .append, ⟨[x, _]⟩, ⟨[_, _]⟩⟩ =>
    match (st.ev x).leaf with
    | some (.sn s i j k es .here) =>
      match rootB s st.boxes with
      | some (kT, esT) => some ⟨s, i, j, k, kT, es, esT⟩
      | none => none
    | _ => none
  | _, _ => none

def snD (P : Program) (st : St) (o : Oper) (ans : List Ans) : Option (Eff × List Ans × List Prop) :=
  match snInfo st o, o.dst, o.op with
  | some v, some d, .call ⟨.builtin .append, ⟨[_, y]⟩, ⟨[t, t']⟩⟩ =>
    if t = t' then (appendSnR P t v.t v.i v.j v.k v.es v.esT (st.ev y) ans).map fun r => (⟨some d, r.1, [], []⟩, r.2.1, r.2.2) else none
  | _, _, _ => none

/-- What has to hold of a leaf for the append to leave it as it is. -/
def SnI.fix (v : SnI) : Leaf → Option (List Prop)
  | .sl (.own s) k0 es0 => if s = v.t then (if k0 = v.kT then some [es0 = v.esT] else none) else some []
  | .ep (.own s) k0 es0 _ _ => if s = v.t then (if k0 = v.kT then some [es0 = v.esT] else none) else some []
  | .sl (.ro s) _ _ => if s = v.t then none else some []
  | .ep (.ro s) _ _ _ _ => if s = v.t then none else some []
  | .sn s a b k0 es0 m => if s = v.t ∧ b = v.j then (if k0 = v.k ∧ m.home = true then some [a = v.i, es0 = v.es] else none) else some []
  | .np _ _ => none
  | _ => some []

def SnI.Fixed (v : SnI) (l : Leaf) : Prop := snLeaf v.t v.i v.j v.k v.es v.kT v.esT l = l ∧ ∀ a ∈ l.idx v.t v.j, a = v.i

theorem SnI.fix_ok {v : SnI} {l : Leaf} {obs : List Prop} (h : v.fix l = some obs) (ho : Obs obs) : v.Fixed l := by
  obtain ⟨t, i, j, k, kT, es, esT⟩ := v
  unfold SnI.Fixed
  simp only
  cases l with
  | sl g k0 es0 =>
    refine ⟨?_, fun a ha => by simp [Leaf.idx] at ha⟩
    cases g with
    | free => rfl
    | own s =>
      simp only [SnI.fix] at h
      split at h
      · rename_i hs
        subst hs
        split at h
        · rename_i hk
          subst hk
          cases h
          have e : es0 = esT := ho.1
          subst e
          simp [snLeaf]
        · cases h
      · rename_i hs
        simp [snLeaf, hs]
    | ro s =>
      simp only [SnI.fix] at h
      split at h
      · cases h
      · rename_i hs
        simp [snLeaf, hs]
  | ep g k0 es0 x y =>
    refine ⟨?_, fun a ha => by simp [Leaf.idx] at ha⟩
    cases g with
    | free => rfl
    | own s =>
      simp only [SnI.fix] at h
      split at h
      · rename_i hs
        subst hs
        split at h
        · rename_i hk
          subst hk
          cases h
          have e : es0 = esT := ho.1
          subst e
          simp [snLeaf]
        · cases h
      · rename_i hs
        simp [snLeaf, hs]
    | ro s =>
      simp only [SnI.fix] at h
      split at h
      · cases h
      · rename_i hs
        simp [snLeaf, hs]
  | sn s a b k0 es0 m =>
    simp only [SnI.fix] at h
    split at h
    · rename_i hs
      obtain ⟨rfl, rfl⟩ := hs
      split at h
      · rename_i hk
        cases h
        have e1 : a = i := ho.1
        have e2 : es0 = es := ho.2.1
        subst e1
        subst e2
        refine ⟨?_, fun x hx => ?_⟩
        · obtain ⟨rfl, hm⟩ := hk
          simp [snLeaf, hm]
        · simpa [Leaf.idx] using hx
      · cases h
    · rename_i hs
      refine ⟨?_, fun x hx => ?_⟩
      · simp only [snLeaf]
        rw [if_neg hs]
      · simp [Leaf.idx, hs] at hx
  | np t vs => cases h
  | _ => exact ⟨rfl, fun a ha => by simp [Leaf.idx] at ha⟩

def AL.lv : AL → List Leaf
  | .one l => [l]
  | .agg ls => ls
def PV.lv : PV → List Leaf
  | .al a => a.lv
  | .tup as => as.flatMap AL.lv

theorem AL.lv_all {p : Leaf → Prop} {a : AL} (h : ∀ l ∈ a.lv, p l) : a.All p := by
  cases a with
  | one l => exact h l (by simp [AL.lv])
  | agg ls => exact h
theorem PV.lv_all {p : Leaf → Prop} {q : PV} (h : ∀ l ∈ q.lv, p l) : q.All p := by
  cases q with
  | al a => exact AL.lv_all h
  | tup as => exact fun a ha => AL.lv_all fun l hl => h l (List.mem_flatMap.2 ⟨a, ha, hl⟩)

def SnI.fixes (v : SnI) : List Leaf → Option (List Prop)
  | [] => some []
  | l :: r =>
    match v.fix l, SnI.fixes v r with
    | some a, some b => some (a ++ b)
    | _, _ => none

theorem SnI.fixes_ok {v : SnI} : ∀ {ls : List Leaf} {obs : List Prop}, v.fixes ls = some obs → Obs obs → ∀ l ∈ ls, v.Fixed l
  | [], _, _, _, l, hl => by cases hl
  | l0 :: r, obs, h, ho, l, hl => by
    simp only [SnI.fixes] at h
    split at h
    · rename_i a b h1 h2
      cases h
      obtain ⟨o1, o2⟩ := ho.append
      rcases List.mem_cons.1 hl with rfl | hl
      · exact SnI.fix_ok h1 o1
      · exact SnI.fixes_ok h2 o2 l hl
    · cases h

def snObs (bs : List (Nat × List Leaf)) (all : Nat → List Leaf) : Nat → List Oper → List PV → List Eff → Option (List Prop)
  | i, o :: os, env, e :: es =>
    match snInfo ⟨env, bs⟩ o with
    | some v =>
      match v.fixes (all i), snObs bs all (i + 1) os (e.apply env) es with
      | some a, some b => some (a ++ b)
      | _, _ => none
    | none => snObs bs all (i + 1) os (e.apply env) es
  | _, _, _, _ => some []

theorem snObs_ok {bs : List (Nat × List Leaf)} {all : Nat → List Leaf} : ∀ {l : List Oper} {es : List Eff} {env : List PV} {i0 : Nat} {obs : List Prop}, snObs bs all i0 l env es = some obs → Obs obs →
    ∀ (i : Nat) (o : Oper), l[i]? = some o → i < es.length → ∀ v, snInfo ⟨(es.take i).foldl (fun env e => e.apply env) env, bs⟩ o = some v → ∀ lf ∈ all (i0 + i), v.Fixed lf
  | [], _, _, _, _, _, _, i, o, hi, _, _, _, _, _ => by simp at hi
  | _ :: _, [], _, _, _, _, _, i, o, _, hl, _, _, _, _ => by simp at hl
  | o0 :: os, e :: es, env, i0, obs, h, ho, i, o, hi, hl, v, hv, lf, hlf => by
    simp only [snObs] at h
    cases i with
    | zero =>
      simp only [List.getElem?_cons_zero, Option.some.injEq] at hi
      subst hi
      simp only [List.take_zero, List.foldl_nil] at hv
      rw [hv] at h
      simp only at h
      split at h
      · rename_i a b h1 h2
        cases h
        exact SnI.fixes_ok h1 ho.append.1 lf hlf
      · cases h
    | succ i =>
      have go : ∀ {b : List Prop}, snObs bs all (i0 + 1) os (e.apply env) es = some b → Obs b → v.Fixed lf := fun h2 o2 =>
        snObs_ok h2 o2 i o (by simpa using hi) (by simpa using hl) v (by simpa using hv) lf (by rw [show i0 + 1 + i = i0 + (i + 1) by omega]; exact hlf)
      split at h
      · split at h
        · rename_i a b h1 h2
          cases h
          exact go h2 ho.append.2
        · cases h
      · exact go h ho

def drawRun (P : Program) (ops : Array Oper) (gs : List Nat) (bs : List (Nat × List Leaf)) : List Oper → List PV → List Ans → Option (List Eff × List PV × List Ans × List Prop)
  | [], env, ans => some ([], env, ans, [])
  | o :: rest, env, ans =>
    match wantStep ops ⟨env, bs⟩ o [] with
    | some (true, _, _, _) =>
      match dStep P ⟨env, bs⟩ o ans with
      | some (e, _, ans1, obs1) =>
        match (match o.dst with | some d => gs.contains d | none => false), e.p.leaf, ans1 with
        | true, some (.sb c), .br b :: r =>
          (drawRun P ops gs bs rest (Eff.apply { ext e env with p := .one (.v (.bool b)) } env) r).map fun x => ({ ext e env with p := .one (.v (.bool b)) } :: x.1, x.2.1, x.2.2.1, (c = b) :: (obs1 ++ x.2.2.2))
        | _, _, _ => (drawRun P ops gs bs rest ((ext e env).apply env) ans1).map fun x => (ext e env :: x.1, x.2.1, x.2.2.1, obs1 ++ x.2.2.2)
      | none =>
        match snD P ⟨env, bs⟩ o ans with
        | some (e, ans1, obs1) => (drawRun P ops gs bs rest (e.apply env) ans1).map fun x => (e :: x.1, x.2.1, x.2.2.1, obs1 ++ x.2.2.2)
        | none => none
    | some (false, _, _, _) =>
      match o.dst with
      | some d => (drawRun P ops gs bs rest ((skipEff d).apply env) ans).map fun x => (skipEff d :: x.1, x.2.1, x.2.2.1, x.2.2.2)
      | none => none
    | none => none

/-- What a run says of one operation, in the state before it. -/
def Fact (P : Program) (ops : Array Oper) (bs : List (Nat × List Leaf)) (env : List PV) (o : Oper) (e : Eff) : Prop :=
  (∃ st1 a1 o1, wantStep ops ⟨env, bs⟩ o [] = some (false, st1, a1, o1) ∧ ∃ d, o.dst = some d ∧ e = skipEff d) ∨
  (∃ st1 a1 o1, wantStep ops ⟨env, bs⟩ o [] = some (true, st1, a1, o1) ∧ ∃ ans e0 g ans' obs, dStep P ⟨env, bs⟩ o ans = some (e0, g, ans', obs) ∧ Obs obs ∧
    ∃ u, (e = { e0 with use := u } ∨ ∃ c b, e0.p = .one (.sb c) ∧ c = b ∧ e = { e0 with use := u, p := .one (.v (.bool b)) })) ∨
  (∃ st1 a1 o1, wantStep ops ⟨env, bs⟩ o [] = some (true, st1, a1, o1) ∧ ∃ ans ans' obs, snD P ⟨env, bs⟩ o ans = some (e, ans', obs) ∧ Obs obs)

theorem drawRun_facts {P : Program} {ops : Array Oper} {gs : List Nat} {bs : List (Nat × List Leaf)} : ∀ {l : List Oper} {env env' : List PV} {ans ans' : List Ans} {es : List Eff} {obs : List Prop},
    drawRun P ops gs bs l env ans = some (es, env', ans', obs) → Obs obs →
    es.length = l.length ∧ env' = es.foldl (fun env e => e.apply env) env ∧ ∀ (i : Nat) (o : Oper), l[i]? = some o → ∃ e, es[i]? = some e ∧ Fact P ops bs ((es.take i).foldl (fun env e => e.apply env) env) o e
  | [], env, env', ans, ans', es, obs, h, _ => by
    simp only [drawRun, Option.some.injEq, Prod.mk.injEq] at h
    obtain ⟨rfl, rfl, _, _⟩ := h
    exact ⟨rfl, rfl, fun i o ho => by simp at ho⟩
  | o :: rest, env, env', ans, ans', es, obs, h, ho => by
    have fin : ∀ (e : Eff) (es0 : List Eff) (env1 : List PV), (es0.length = rest.length ∧ env1 = es0.foldl (fun env e => e.apply env) (e.apply env) ∧ ∀ (i : Nat) (o : Oper), rest[i]? = some o → ∃ e', es0[i]? = some e' ∧ Fact P ops bs ((es0.take i).foldl (fun env e => e.apply env) (e.apply env)) o e') →
        Fact P ops bs env o e → (e :: es0).length = (o :: rest).length ∧ env1 = (e :: es0).foldl (fun env e => e.apply env) env ∧ ∀ (i : Nat) (o' : Oper), (o :: rest)[i]? = some o' → ∃ e', (e :: es0)[i]? = some e' ∧ Fact P ops bs (((e :: es0).take i).foldl (fun env e => e.apply env) env) o' e' := by
      intro e es0 env1 ⟨h1, h2, h3⟩ hf
      refine ⟨by simp [h1], h2, fun i o' ho' => ?_⟩
      cases i with
      | zero => simp at ho'; subst ho'; exact ⟨e, rfl, hf⟩
      | succ i => exact h3 i o' (by simpa using ho')
    simp only [drawRun] at h
    split at h
    · rename_i st1 a1 o1 hw
      split at h
      · rename_i e g ans1 obs1 hd
        split at h
        · rename_i c b r hg hl
          rw [Option.map_eq_some_iff] at h
          obtain ⟨⟨x1, x2, x3, x4⟩, h1, h⟩ := h
          simp only [Prod.mk.injEq] at h
          obtain ⟨rfl, rfl, _, rfl⟩ := h
          have o23 : (c = b) ∧ Obs x4 := ⟨ho.1, (Obs.append ho.2).2⟩
          have o1' := (Obs.append ho.2).1
          refine fin _ _ _ (drawRun_facts h1 o23.2) (.inr (.inl ⟨_, _, _, hw, _, _, _, _, _, hd, o1', (ext_use e env).choose, .inr ⟨c, b, ?_, ?_, ?_⟩⟩))
          · cases hp : e.p with
            | al a =>
              rw [hp] at hl
              cases a with
              | one l => simp only [PV.leaf, Option.some.injEq] at hl; rw [hl]
              | agg ls => cases hl
            | tup as => rw [hp] at hl; cases hl
          · exact o23.1
          · conv => lhs; rw [(ext_use e env).choose_spec]
        · rw [Option.map_eq_some_iff] at h
          obtain ⟨⟨x1, x2, x3, x4⟩, h1, h⟩ := h
          simp only [Prod.mk.injEq] at h
          obtain ⟨rfl, rfl, _, rfl⟩ := h
          obtain ⟨o1', o2⟩ := ho.append
          exact fin _ _ _ (drawRun_facts h1 o2) (.inr (.inl ⟨_, _, _, hw, _, _, _, _, _, hd, o1', (ext_use e env).choose, .inl (ext_use e env).choose_spec⟩))
      · split at h
        · rename_i e ans1 obs1 hsn
          rw [Option.map_eq_some_iff] at h
          obtain ⟨⟨x1, x2, x3, x4⟩, h1, h⟩ := h
          simp only [Prod.mk.injEq] at h
          obtain ⟨rfl, rfl, _, rfl⟩ := h
          obtain ⟨o1', o2⟩ := ho.append
          exact fin _ _ _ (drawRun_facts h1 o2) (.inr (.inr ⟨_, _, _, hw, _, _, _, hsn, o1'⟩))
        · cases h
    · rename_i st1 a1 o1 hw
      split at h
      · rename_i d hd
        rw [Option.map_eq_some_iff] at h
        obtain ⟨⟨x1, x2, x3, x4⟩, h1, h⟩ := h
        simp only [Prod.mk.injEq] at h
        obtain ⟨rfl, rfl, _, rfl⟩ := h
        exact fin _ _ _ (drawRun_facts h1 ho) (.inl ⟨_, _, _, hw, d, hd, rfl⟩)
      · cases h
    · cases h
end Go.Sx

namespace Go.Sx
open Go.RowKit

theorem fillL_congr_parts {st st' : St} {parts : List (Nat × Operand)} (h : ∀ x ∈ parts, st.ev x.2 = st'.ev x.2) : (parts.map fun x => (x.1, st.ev x.2)) = parts.map fun x => (x.1, st'.ev x.2) :=
  List.map_congr_left fun x hx => by rw [h x hx]

theorem pureStep_congr {P : Program} {st st' : St} {op : Op} {ans : List Ans} (hb : st.boxes = st'.boxes) (h : ∀ x ∈ op.operands.toList, st.ev x = st'.ev x) : pureStep P st op ans = pureStep P st' op ans := by
  cases op <;> simp only [pureStep, Op.operands, List.mem_cons, List.mem_nil_iff, forall_eq_or_imp, or_false, forall_eq] at h ⊢
  case load t x => simp only [stepLoad, h, hb]
  case slice t x lo hi mx =>
    have hx : st.ev x = st'.ev x := h x (by simp)
    have ho : ∀ o : Option Operand, (∀ y, o = some y → st.ev y = st'.ev y) → optInt st o = optInt st' o := by
      intro o ho
      cases o with
      | none => rfl
      | some y => simp only [optInt, ho y rfl]
    simp only [stepSlice, hx]
    rw [ho lo (fun y e => h y (by simp [e])), ho hi (fun y e => h y (by simp [e]))]
  case build t ps =>
    have : (ps.toList.map fun x => (x.1, st.ev x.2)) = ps.toList.map fun x => (x.1, st'.ev x.2) := fillL_congr_parts fun x hx => h x.2 (by simp; exact ⟨x.1, by simpa using hx⟩)
    simp only [stepBuild, this]
  case call c =>
    obtain ⟨callee, args, ts⟩ := c
    cases callee with
    | value f => rfl
    | invoke r i => rfl
    | builtin b =>
      simp only [Call.operands] at h
      have h' : ∀ x ∈ args.toList, st.ev x = st'.ev x := fun x hx => h x (by simpa using hx)
      simp only
      generalize args.toList = l at h'
      unfold stepBuiltin
      split
      · rw [h' _ (by simp)]
      · rw [h' _ (by simp), h' _ (by simp)]
      · rw [h' _ (by simp), h' _ (by simp)]
      · rfl
  case makeFunc fn first captured =>
    have hc : captured.toList.map st.ev = captured.toList.map st'.ev := List.map_congr_left fun x hx => h x (by simp; right; simpa using hx)
    simp only [stepMakeFunc, hc]
  all_goals simp [h]

theorem dStep_congr {P : Program} {st st' : St} {o : Oper} {ans : List Ans} (hb : st.boxes = st'.boxes) (h : ∀ x ∈ o.op.operands.toList, st.ev x = st'.ev x) : dStep P st o ans = dStep P st' o ans := by
  obtain ⟨dst, op, type, pos, after, guard⟩ := o
  simp only at h
  cases dst with
  | none =>
    cases op with
    | store ty x y =>
      cases x with
      | tmp s =>
        have hx : st.ev (.tmp s) = st'.ev (.tmp s) := h (.tmp s) (by simp [Op.operands])
        have hy : st.ev y = st'.ev y := h y (by simp [Op.operands])
        simp only [St.ev] at hx
        simp only [dStep, hx, hy]
      | _ => rfl
    | _ => rfl
  | some d =>
    unfold dStep
    split
    · rename_i f args ts e1 e2
      simp only at e1 e2
      subst e2
      have h' : ∀ x ∈ args.toList, st.ev x = st'.ev x := fun x hx => h x (by simp [Op.operands, Call.operands]; right; simpa using hx)
      have : args.toList.mapM (fun x => (st.ev x).argD st.boxes) = args.toList.mapM (fun x => (st'.ev x).argD st'.boxes) := by
        rw [← hb]
        generalize args.toList = l at h'
        generalize st.boxes = bs
        induction l with
        | nil => rfl
        | cons x l ih => simp only [List.mapM_cons, h' x (by simp), ih fun y hy => h' y (by simp [hy])]
      rw [this]
    · rename_i t n parts e1 e2
      simp only at e1 e2
      subst e2
      have : (parts.toList.map fun x => (x.1, st.ev x.2)) = parts.toList.map fun x => (x.1, st'.ev x.2) := fillL_congr_parts fun x hx => h x.2 (by simp [Op.operands]; exact ⟨x.1, by simpa using hx⟩)
      simp only [bsOf, this]
    · rename_i x y t t' e1 e2
      simp only at e1 e2
      subst e2
      have hx : st.ev x = st'.ev x := h x (by simp [Op.operands, Call.operands])
      have hy : st.ev y = st'.ev y := h y (by simp [Op.operands, Call.operands])
      simp only [apOf, hx, hy]
    · rfl
    · rfl
    · rename_i t l c e1 e2
      simp only at e1 e2
      subst e2
      rw [h l (by simp [Op.operands]), h c (by simp [Op.operands])]
    · rename_i t x lo hi mx e1 e2
      simp only at e1 e2
      subst e2
      have hx : st.ev x = st'.ev x := h x (by simp [Op.operands])
      have ho : ∀ o : Option Operand, (∀ y, o = some y → st.ev y = st'.ev y) → optInt st o = optInt st' o := by
        intro o ho
        cases o with
        | none => rfl
        | some y => simp only [optInt, ho y rfl]
      rw [pureStep_congr hb h]
      simp only [cutD, hx]
      rw [ho lo (fun y e => h y (by simp [Op.operands, e])), ho hi (fun y e => h y (by simp [Op.operands, e]))]
    · rw [pureStep_congr hb h]
    · rename_i e1 e2
      cases e1
    · rfl

theorem ev_of {st st' : St} {x : Operand} (h : ∀ t, opSlot x = some t → st.env.getD t .und = st'.env.getD t .und) : st.ev x = st'.ev x := by
  cases x with
  | tmp t => simpa [St.ev] using h t rfl
  | _ => rfl

/-- The operation i is bound to come ahead of j. -/
def anc (ms : List Nat) (i j : Nat) : Bool := (ms.getD j 0).testBit i

def edgeMask (ms : List Nat) : List Edge → Nat
  | [] => 0
  | e :: r => if Region.binds .any e then (2 ^ e.on ||| ms.getD e.on 0) ||| edgeMask ms r else edgeMask ms r

def mksGo : List Oper → List Nat → List Nat
  | [], acc => acc
  | o :: r, acc => mksGo r (acc ++ [edgeMask acc o.after.toList])

theorem edgeMask_spec {ms : List Nat} {i : Nat} : ∀ {l : List Edge}, (edgeMask ms l).testBit i = true → ∃ e ∈ l, Region.binds .any e = true ∧ (i = e.on ∨ anc ms i e.on = true)
  | [], h => by simp [edgeMask] at h
  | e :: r, h => by
    simp only [edgeMask] at h
    split at h
    · rename_i hb
      rw [Nat.testBit_or, Nat.testBit_or, Bool.or_eq_true, Bool.or_eq_true, Nat.testBit_two_pow, decide_eq_true_eq] at h
      rcases h with (h | h) | h
      · exact ⟨e, by simp, hb, .inl h.symm⟩
      · exact ⟨e, by simp, hb, .inr h⟩
      · obtain ⟨e', h1, h2⟩ := edgeMask_spec h
        exact ⟨e', by simp [h1], h2⟩
    · obtain ⟨e', h1, h2⟩ := edgeMask_spec h
      exact ⟨e', by simp [h1], h2⟩

/-- Every entry of a list, with its place. -/
def allAt {α : Type} (f : Nat → α → Bool) : Nat → List α → Bool
  | _, [] => true
  | k, x :: r => f k x && allAt f (k + 1) r

theorem allAt_spec {α : Type} {f : Nat → α → Bool} : ∀ {l : List α} {k : Nat}, allAt f k l = true → ∀ (i : Nat) (x : α), l[i]? = some x → f (k + i) x = true
  | [], _, _, i, x, h => by simp at h
  | y :: r, k, h, 0, x, hx => by
    simp only [allAt, Bool.and_eq_true] at h
    simp at hx; subst hx
    exact h.1
  | y :: r, k, h, i + 1, x, hx => by
    simp only [allAt, Bool.and_eq_true] at h
    have := allAt_spec h.2 i x (by simpa using hx)
    rwa [show k + 1 + i = k + (i + 1) by omega] at this

def masksOk (ms : List Nat) (os : List Oper) : Bool :=
  allAt (fun j o => ms.getD j 0 == edgeMask ms o.after.toList && o.after.toList.all fun e => !Region.binds .any e || decide (e.on < j)) 0 os

theorem masksOk_edge {ms : List Nat} {ops : Array Oper} (h : masksOk ms ops.toList = true) {j : Nat} {o : Oper} (ho : ops[j]? = some o) : (∀ e ∈ o.after, Region.binds .any e = true → e.on < j) ∧
    ∀ i, anc ms i j = true → ∃ e ∈ o.after, Region.binds .any e = true ∧ (i = e.on ∨ anc ms i e.on = true) := by
  have := allAt_spec h j o (by simpa using ho)
  simp only [Nat.zero_add, Bool.and_eq_true, beq_iff_eq, List.all_eq_true, Bool.or_eq_true, Bool.not_eq_true', decide_eq_true_eq] at this
  refine ⟨fun e he hb => (this.2 e (by simpa using he)).resolve_left (by simp [hb]), fun i hi => ?_⟩
  unfold anc at hi
  rw [this.1] at hi
  obtain ⟨e, h1, h2⟩ := edgeMask_spec hi
  exact ⟨e, by simpa using h1, h2⟩

def Closed (ops : Array Oper) (listed : Array Bool) : Prop :=
  ∀ (j : Nat) (o : Oper), listed.getD j false = true → ops[j]? = some o → ∀ e ∈ o.after, Region.binds .any e = true → listed.getD e.on false = true

theorem getD_lt {listed : Array Bool} {j : Nat} (h : listed.getD j false = true) : j < listed.size := by
  rcases Nat.lt_or_ge j listed.size with h' | h'
  · exact h'
  · simp [Array.getElem?_eq_none h'] at h

theorem anc_listed {ms : List Nat} {ops : Array Oper} {listed : Array Bool} (h : masksOk ms ops.toList = true) (hc : Closed ops listed) (hs : listed.size = ops.size) {i : Nat} : ∀ (j : Nat), listed.getD j false = true → anc ms i j = true → listed.getD i false = true := by
  intro j
  induction j using Nat.strongRecOn with
  | ind j ih =>
    intro hj ha
    have hlt : j < ops.size := hs ▸ getD_lt hj
    have ho : ops[j]? = some ops[j] := Array.getElem?_eq_getElem hlt
    obtain ⟨h1, h2⟩ := masksOk_edge h ho
    obtain ⟨e, he, hb, he2⟩ := h2 i ha
    have hel := hc j _ hj ho e he hb
    rcases he2 with rfl | he2
    · exact hel
    · exact ih e.on (h1 e he hb) hel he2

theorem ready_anc {ms : List Nat} {ops : Array Oper} {listed : Array Bool} (h : masksOk ms ops.toList = true) (hc : Closed ops listed) (hs : listed.size = ops.size) {i k : Nat} (hi : i ∈ Region.ready .any ops listed) (ha : anc ms k i = true) : listed.getD k false = true := by
  rw [mem_ready] at hi
  obtain ⟨_, o, ho, he⟩ := hi
  obtain ⟨_, h2⟩ := masksOk_edge h ho
  obtain ⟨e, he1, hb, he2⟩ := h2 k ha
  rcases he2 with rfl | he2
  · exact he e he1 hb
  · exact anc_listed h hc hs _ (he e he1 hb) he2

theorem Closed.ready {ops : Array Oper} {listed : Array Bool} (hc : Closed ops listed) {i : Nat} (hi : i ∈ Region.ready .any ops listed) : Closed ops (listed.setIfInBounds i true) := by
  intro j o hj ho e he hb
  rw [mem_ready] at hi
  obtain ⟨_, oi, hoi, hie⟩ := hi
  by_cases hij : i = j
  · subst hij
    rw [hoi] at ho
    cases ho
    exact getD_set_true (hie e he hb)
  · rw [getD_set_ne false hij] at hj
    exact getD_set_true (hc j o hj ho e he hb)

/-- Where none is ready, all have come up. -/
theorem ready_nil {ms : List Nat} {ops : Array Oper} {listed : Array Bool} (h : masksOk ms ops.toList = true) (hs : listed.size = ops.size) (hr : Region.ready .any ops listed = []) : ∀ j, j < ops.size → listed.getD j false = true := by
  intro j
  induction j using Nat.strongRecOn with
  | ind j ih =>
    intro hlt
    have ho : ops[j]? = some ops[j] := Array.getElem?_eq_getElem hlt
    obtain ⟨h1, _⟩ := masksOk_edge h ho
    cases hl : listed.getD j false with
    | true => rfl
    | false =>
      have : j ∈ Region.ready .any ops listed := by
        rw [mem_ready]
        refine ⟨?_, _, ho, fun e he hb => ih e.on (h1 e he hb) (Nat.lt_trans (h1 e he hb) hlt)⟩
        have hlt' : j < listed.size := hs ▸ hlt
        simp [Array.getElem?_eq_getElem hlt'] at hl ⊢
        exact hl
      rw [hr] at this
      cases this

def slotsOf (e : Eff) : List Nat := e.dst.toList ++ e.use

def namesOf (ops : Array Oper) (o : Oper) (e : Eff) : List Nat := slotsOf e ++ reads ops o

def ordd (ms : List Nat) (i k : Nat) : Bool := if k < i then anc ms k i else anc ms i k

def chkOrd (ops : Array Oper) (ms : List Nat) (es : List Eff) : Bool :=
  allAt (fun i x => allAt (fun k e => k == i || ordd ms i k || !((slotsOf e).any fun t => (namesOf ops x.1 x.2).contains t)) 0 es) 0 (ops.toList.zip es)

/-- Is this slot used up ahead of the i-th operation, by one from place lo on? -/
def usedUp (ms : List Nat) (es : List Eff) (i lo : Nat) (s : Option Nat) : Bool := es.zipIdx.any fun y => decide (lo ≤ y.2) && anc ms y.2 i && (match s with | some t => y.1.use.contains t | none => false)

theorem usedUp_spec {ms : List Nat} {es : List Eff} {i lo : Nat} {s : Option Nat} (h : usedUp ms es i lo s = true) : ∃ m y t, es[m]? = some y ∧ lo ≤ m ∧ anc ms m i = true ∧ t ∈ y.use ∧ s = some t := by
  unfold usedUp at h
  rw [List.any_eq_true] at h
  obtain ⟨⟨y, m⟩, h1, h2⟩ := h
  rw [List.mem_zipIdx_iff_getElem?] at h1
  simp only [Bool.and_eq_true, decide_eq_true_eq] at h2
  cases s with
  | none => simp at h2
  | some t => exact ⟨m, y, t, h1, h2.1.1, h2.1.2, by simpa using h2.2, rfl⟩

def chkTok (ms : List Nat) (es : List Eff) (env0 : List PV) (bs : List (Nat × List Leaf)) : Bool :=
  allAt (fun i e => e.rng.isEmpty ||
    (allAt (fun j x => j == i || anc ms i j || !x.p.ment e.rng || (match x.dst with | some t => e.use.contains t | none => false) || x.dst == e.dst || usedUp ms es i (j + 1) x.dst) 0 es &&
      allAt (fun t p => !p.ment e.rng || e.use.contains t || usedUp ms es i 0 (some t) || e.dst == some t) 0 env0 &&
      bs.all fun x => !x.2.any (Leaf.ment e.rng))) 0 es

theorem touch_slots {e : Eff} {t : Nat} (h : e.touch t ≠ none) : t ∈ slotsOf e := by
  unfold Eff.touch at h
  split at h
  · rename_i hd; simp [slotsOf, hd]
  · split at h
    · rename_i hu; simp [slotsOf, hu]
    · exact absurd rfl h

theorem chkOrd_spec {ops : Array Oper} {ms : List Nat} {es : List Eff} (h : chkOrd ops ms es = true) {i k : Nat} {o : Oper} {ei ek : Eff} (ho : ops[i]? = some o) (hi : es[i]? = some ei) (hk : es[k]? = some ek) (hne : k ≠ i) {t : Nat}
    (ht : ek.touch t ≠ none) (hn : t ∈ namesOf ops o ei) : ordd ms i k = true := by
  have h1 := allAt_spec h i (o, ei) (by
    rw [List.getElem?_zip_eq_some]
    exact ⟨by simpa using ho, hi⟩)
  have h2 := allAt_spec h1 k ek hk
  simp only [Nat.zero_add, Bool.or_eq_true, beq_iff_eq, Bool.not_eq_true'] at h2
  rcases h2 with (h2 | h2) | h2
  · exact absurd h2 hne
  · exact h2
  · rw [List.any_eq_false] at h2
    have := h2 t (touch_slots ht)
    simp only [List.contains_iff_mem] at this
    exact absurd hn this

theorem Tag.ment_empty {r : Rng} (h : r.isEmpty = true) (t : Tag) : t.ment r = false := by
  cases t with
  | free => rfl
  | own s => rw [List.isEmpty_iff] at h; subst h; rfl
  | ro s => rw [List.isEmpty_iff] at h; subst h; rfl
theorem Leaf.ment_empty {r : Rng} (h : r.isEmpty = true) (l : Leaf) : l.ment r = false := by
  cases l with
  | sn t i j k es m => exact Tag.ment_empty h (.own t)
  | np t vs =>
    simp only [Leaf.ment, Bool.or_eq_false_iff]
    refine ⟨Tag.ment_empty h (.own t), List.any_eq_false.2 fun c _ => ?_⟩
    cases c with
    | und => simp [NC.ment]
    | v x => simp [NC.ment]
    | sl t k es => simp [NC.ment, Tag.ment_empty h]
  | _ => simp [Leaf.ment, Tag.ment_empty h]
theorem AL.ment_empty {r : Rng} (h : r.isEmpty = true) (a : AL) : a.ment r = false := by
  cases a <;> simp [AL.ment, Leaf.ment_empty h]
theorem PV.ment_empty {r : Rng} (h : r.isEmpty = true) (p : PV) : p.ment r = false := by
  cases p <;> simp [PV.ment, AL.ment_empty h]

theorem chkTok_spec {ms : List Nat} {es : List Eff} {env0 : List PV} {bs : List (Nat × List Leaf)} (h : chkTok ms es env0 bs = true) {i : Nat} {e : Eff} (hi : es[i]? = some e) :
    (∀ (j : Nat) (x : Eff), es[j]? = some x → j ≠ i → anc ms i j = true ∨ x.p.ment e.rng = false ∨ (∃ t, x.dst = some t ∧ t ∈ e.use) ∨ x.dst = e.dst ∨ usedUp ms es i (j + 1) x.dst = true) ∧
    (∀ (t : Nat) (p : PV), env0[t]? = some p → ((p.ment e.rng = false ∨ t ∈ e.use) ∨ usedUp ms es i 0 (some t) = true) ∨ e.dst = some t) ∧ ∀ x ∈ bs, x.2.any (Leaf.ment e.rng) = false := by
  have h1 := allAt_spec h i e hi
  simp only [Bool.or_eq_true, decide_eq_true_eq] at h1
  rcases h1 with h1 | h1
  · refine ⟨fun j x _ _ => .inr (.inl (PV.ment_empty h1 _)), fun t p _ => .inl (.inl (.inl (PV.ment_empty h1 _))), fun x _ => ?_⟩
    rw [List.any_eq_false]
    intro l _
    simp [Leaf.ment_empty h1]
  · simp only [Bool.and_eq_true] at h1
    obtain ⟨⟨h1, h2⟩, h3⟩ := h1
    refine ⟨fun j x hx hne => ?_, fun t p hp => ?_, fun x hx => ?_⟩
    · have := allAt_spec h1 j x hx
      simp only [Nat.zero_add, Bool.or_eq_true, beq_iff_eq, Bool.not_eq_true', Bool.and_eq_true] at this
      rcases this with ((((h4 | h4) | h4) | h4) | h4) | h4
      rotate_left 4
      · exact .inr (.inr (.inr (.inl h4)))
      · exact .inr (.inr (.inr (.inr h4)))
      · exact absurd h4 hne
      · exact .inl h4
      · exact .inr (.inl h4)
      · refine .inr (.inr (.inl ?_))
        split at h4
        · rename_i t ht
          exact ⟨t, ht, by simpa using h4⟩
        · cases h4
    · have := allAt_spec h2 t p hp
      simp only [Nat.zero_add, Bool.or_eq_true, Bool.not_eq_true', List.contains_iff_mem, beq_iff_eq] at this
      exact this
    · rw [List.all_eq_true] at h3
      simpa using h3 x hx

theorem lastT_cases {L : Nat → Bool} {t : Nat} : ∀ {es : List Eff} {k : Nat} {acc : PV}, (lastT L t k es acc = acc ∧ ∀ (m : Nat) (y : Eff), es[m]? = some y → L (k + m) = true → y.touch t = none) ∨ lastT L t k es acc = .und ∨
    ∃ j e, es[j]? = some e ∧ L (k + j) = true ∧ e.dst = some t ∧ lastT L t k es acc = e.p ∧ ∀ (m : Nat) (y : Eff), es[m]? = some y → j < m → L (k + m) = true → y.touch t = none
  | [], _, _ => .inl ⟨rfl, fun m y h => by simp at h⟩
  | e :: es, k, acc => by
    simp only [lastT]
    rcases lastT_cases (L := L) (t := t) (es := es) (k := k + 1) (acc := if L k then (e.touch t).getD acc else acc) with ⟨h, hn⟩ | h | ⟨j, e', h1, h2, h3, h4, h5⟩
    · have tail : ∀ (m : Nat) (y : Eff), (e :: es)[m + 1]? = some y → L (k + (m + 1)) = true → y.touch t = none := fun m y hy hl => hn m y (by simpa using hy) (by rwa [show k + 1 + m = k + (m + 1) by omega])
      by_cases hL : L k = true
      · rw [if_pos hL] at h ⊢
        unfold Eff.touch at h ⊢
        by_cases hd : e.dst = some t
        · rw [if_pos hd] at h ⊢
          refine .inr (.inr ⟨0, e, rfl, hL, hd, h, fun m y hy hm hl => ?_⟩)
          cases m with
          | zero => omega
          | succ m => exact tail m y hy hl
        · rw [if_neg hd] at h ⊢
          by_cases hu : t ∈ e.use
          · rw [if_pos hu] at h ⊢
            exact .inr (.inl h)
          · rw [if_neg hu] at h ⊢
            refine .inl ⟨h, fun m y hy hl => ?_⟩
            cases m with
            | zero =>
              simp only [List.getElem?_cons_zero, Option.some.injEq] at hy
              subst hy
              rw [if_neg hd, if_neg hu]
            | succ m => exact tail m y hy hl
      · rw [if_neg hL] at h ⊢
        refine .inl ⟨h, fun m y hy hl => ?_⟩
        cases m with
        | zero => exact absurd hl (by simpa using hL)
        | succ m => exact tail m y hy hl
    · exact .inr (.inl h)
    · refine .inr (.inr ⟨j + 1, e', by simpa using h1, by rwa [show k + (j + 1) = k + 1 + j by omega], h3, h4, fun m y hy hm hl => ?_⟩)
      cases m with
      | zero => omega
      | succ m => exact h5 m y (by simpa using hy) (by omega) (by rwa [show k + 1 + m = k + (m + 1) by omega])

theorem lastT_step {t : Nat} : ∀ {es : List Eff} {k i : Nat} {acc : PV} {e : Eff}, es[i]? = some e →
    lastT (fun j => decide (j < k + i + 1)) t k es acc = (e.touch t).getD (lastT (fun j => decide (j < k + i)) t k es acc)
  | [], _, _, _, _, h => by simp at h
  | e0 :: es, k, 0, acc, e, h => by
    simp at h; subst h
    have hno : ∀ (es : List Eff) (k m : Nat) (acc : PV), m ≤ k → lastT (fun j => decide (j < m)) t k es acc = acc := by
      intro es
      induction es with
      | nil => intro k m acc _; rfl
      | cons e1 es ih =>
        intro k m acc hm
        simp only [lastT]
        rw [if_neg (by simpa using hm)]
        exact ih (k + 1) m acc (by omega)
    simp only [lastT]
    rw [if_pos (by simp), if_neg (by simp), hno _ _ _ _ (by omega), hno _ _ _ _ (by omega)]
  | e0 :: es, k, i + 1, acc, e, h => by
    simp only [lastT]
    rw [if_pos (by simp; omega), if_pos (by simp)]
    have := lastT_step (t := t) (es := es) (k := k + 1) (i := i) (acc := (e0.touch t).getD acc) (by simpa using h)
    rw [show k + 1 + i + 1 = k + (i + 1) + 1 by omega, show k + 1 + i = k + (i + 1) by omega] at this
    exact this

/-- The text order's states. -/
theorem text_state {env0 : List PV} {bs : List (Nat × List Leaf)} {es : List Eff} (hd : ∀ (i : Nat) (e : Eff), es[i]? = some e → e.dst ≠ none) : ∀ (i : Nat), i ≤ es.length →
    (es.take i).foldl (fun env e => e.apply env) env0 = (stOf env0 bs (fun j => decide (j < i)) es).env
  | 0, _ => by
    apply List.ext_getElem?
    intro t
    rw [stOf_get]
    have hno : ∀ (es : List Eff) (k : Nat) (acc : PV), lastT (fun j => decide (j < 0)) t k es acc = acc := by
      intro es
      induction es with
      | nil => intro k acc; rfl
      | cons e1 es ih => intro k acc; simp only [lastT]; rw [if_neg (by simp)]; exact ih _ _
    cases h : env0[t]? with
    | none => simp [h]
    | some p => have := hno es 0 p; simp only [h, List.take_zero, List.foldl_nil, Option.map_some, this]
  | i + 1, hi => by
    have hlt : i < es.length := by omega
    have he : es[i]? = some es[i] := List.getElem?_eq_getElem hlt
    have ih := text_state (env0 := env0) (bs := bs) hd i (by omega)
    rw [List.take_add_one, he, Option.toList_some, List.foldl_append, ih]
    simp only [List.foldl_cons, List.foldl_nil]
    apply List.ext_getElem?
    intro t
    rw [Eff.apply_get (hd i _ he), stOf_get, stOf_get]
    cases h : env0[t]? with
    | none => rfl
    | some p =>
      have := lastT_step (t := t) (es := es) (k := 0) (i := i) (acc := p) he
      simp only [Nat.zero_add] at this
      simp [this]

theorem wantStep_nil {ops : Array Oper} {st st' : St} {o : Oper} {st1 : St} {a1 : List Ans} {o1 : List Prop} {b : Bool} (h : wantStep ops st o [] = some (b, st1, a1, o1)) (hs : ∀ t ∈ reads ops o, st.env.getD t .und = st'.env.getD t .und) :
    wantStep ops st' o [] = some (b, st', [], []) := by
  unfold wantStep at h ⊢
  cases hg : o.guard with
  | none => rw [hg] at h; simp only [Option.some.injEq, Prod.mk.injEq] at h; simp [← h.1]
  | some g =>
    obtain ⟨j, want⟩ := g
    rw [hg] at h
    simp only at h ⊢
    cases hd : (ops[j]?).bind (·.dst) with
    | none => rw [hd] at h; cases h
    | some s =>
      rw [hd] at h
      simp only at h ⊢
      have : s ∈ reads ops o := by simp [reads, guardSlot, hg, hd]
      rw [hs s this] at h
      split at h
      · rename_i e; simp only [Option.some.injEq, Prod.mk.injEq] at h; simp [e, ← h.1]
      · rename_i e; simp only [Option.some.injEq, Prod.mk.injEq] at h; simp [e, ← h.1]
      · cases h
      · cases h

theorem snD_spec {P : Program} {st : St} {o : Oper} {ans ans' : List Ans} {e : Eff} {obs : List Prop} (h : snD P st o ans = some (e, ans', obs)) :
    ∃ (v : SnI) (d : Nat) (x y : Operand) (t : TypeId), snInfo st o = some v ∧ o.dst = some d ∧ o.op = .call ⟨.builtin .append, ⟨[x, y]⟩, ⟨[t, t]⟩⟩ ∧ appendSnR P t v.t v.i v.j v.k v.es v.esT (st.ev y) ans = some (e.p, ans', obs) ∧
      e = ⟨some d, e.p, [], []⟩ ∧ (st.ev x).leaf = some (.sn v.t v.i v.j v.k v.es .here) ∧ rootB v.t st.boxes = some (v.kT, v.esT) := by
  obtain ⟨dst, op, type, pos, after, guard⟩ := o
  unfold snD at h
  split at h
  · rename_i v d x' y t t' hi hd hop
    simp only at hd hop
    subst hd
    subst hop
    split at h
    · rename_i htt
      subst htt
      rw [Option.map_eq_some_iff] at h
      obtain ⟨⟨r1, r2, r3⟩, h1, h⟩ := h
      simp only [Prod.mk.injEq] at h
      obtain ⟨rfl, rfl, rfl⟩ := h
      have hi2 := hi
      simp only [snInfo] at hi2
      split at hi2
      · rename_i s i j k es hl
        split at hi2
        · rename_i kT esT hb
          cases hi2
          exact ⟨_, d, x', y, t, hi, rfl, rfl, h1, rfl, hl, hb⟩
        · cases hi2
      · cases hi2
    · cases h
  · cases h

theorem snInfo_congr {st st' : St} {o : Oper} (hb : st.boxes = st'.boxes) (h : ∀ x ∈ o.op.operands.toList, st.ev x = st'.ev x) : snInfo st o = snInfo st' o := by
  obtain ⟨dst, op, type, pos, after, guard⟩ := o
  simp only at h
  unfold snInfo
  simp only
  split
  · rename_i x y t t'
    have hx : st.ev x = st'.ev x := h x (by simp [Op.operands, Call.operands])
    rw [hx, hb]
  · rfl

theorem snD_congr {P : Program} {st st' : St} {o : Oper} {ans : List Ans} (hb : st.boxes = st'.boxes) (h : ∀ x ∈ o.op.operands.toList, st.ev x = st'.ev x) : snD P st o ans = snD P st' o ans := by
  unfold snD
  rw [snInfo_congr hb h]
  split
  · rename_i v d x y t t' h1 h2 h3
    rw [h y (by rw [h3]; simp [Op.operands, Call.operands])]
  · rfl

theorem idx_of_all {v : SnI} {q : PV} (h : q.All v.Fixed) : ∀ a ∈ q.idx v.t v.j, a = v.i := by
  have one : ∀ {a : AL}, a.All v.Fixed → ∀ x ∈ a.idx v.t v.j, x = v.i := by
    intro a ha x hx
    cases a with
    | one l => exact ha.2 x hx
    | agg ls =>
      obtain ⟨l, hl, hx⟩ := List.mem_flatMap.1 hx
      exact (ha l hl).2 x hx
  intro x hx
  cases q with
  | al a => exact one h x hx
  | tup as =>
    obtain ⟨a, ha, hx⟩ := List.mem_flatMap.1 hx
    exact one (h a ha) x hx

theorem map_of_all {v : SnI} {q : PV} (h : q.All v.Fixed) : q.map (snLeaf v.t v.i v.j v.k v.es v.kT v.esT) = q := by
  have ls : ∀ {ls : List Leaf}, (∀ l ∈ ls, v.Fixed l) → ls.map (snLeaf v.t v.i v.j v.k v.es v.kT v.esT) = ls := by
    intro ls hl
    conv => rhs; rw [← List.map_id ls]
    exact List.map_congr_left fun l hm => (hl l hm).1
  have one : ∀ {a : AL}, a.All v.Fixed → a.map (snLeaf v.t v.i v.j v.k v.es v.kT v.esT) = a := by
    intro a ha
    cases a with
    | one l => simp only [AL.map]; rw [ha.1]
    | agg l => simp only [AL.map]; rw [ls ha]
  cases q with
  | al a => simp only [PV.map]; rw [one h]
  | tup as =>
    simp only [PV.map]
    congr 1
    conv => rhs; rw [← List.map_id as]
    exact List.map_congr_left fun a hm => one (h a hm)

theorem Fact.dst {P : Program} {ops : Array Oper} {bs : List (Nat × List Leaf)} {env : List PV} {o : Oper} {e : Eff} (h : Fact P ops bs env o e) : e.dst ≠ none := by
  rcases h with ⟨_, _, _, _, d, hd, rfl⟩ | ⟨_, _, _, _, ans, e0, g, ans', obs, h1, _, h2⟩ | ⟨_, _, _, _, ans, ans', obs, h1, _⟩
  rotate_left 2
  · obtain ⟨v, d, x, y, t, _, _, _, _, he, _⟩ := snD_spec h1
    rw [he]; simp
  · simp [skipEff]
  · obtain ⟨_, d, h4, _⟩ := dStep_op h1
    obtain ⟨u, h2⟩ := h2
    rcases h2 with rfl | ⟨c, b, _, _, rfl⟩
    · simp only [h4]; simp
    · simp only [h4]; simp

theorem Rel.bool {w0 : Base} {env : List PV} {bs : List (Nat × List Leaf)} {d : Nat} {c : Bool} {a : Act} {w : World} (h : Rel w0 ⟨env.set d (.one (.sb c)), bs⟩ a w) : Rel w0 ⟨env.set d (.one (.v (.bool c))), bs⟩ a w := by
  obtain ⟨ω, τ, h⟩ := h
  refine ⟨ω, τ, h.defers, by have := h.size; simpa using this, h.below, h.owned, h.fixed, h.pinned, fun i p hp => ?_, h.boxes⟩
  by_cases hi : d = i
  · subst hi
    rw [List.getElem?_set] at hp
    split at hp
    · split at hp
      · rename_i hl
        simp only [Option.some.injEq] at hp
        subst hp
        obtain ⟨v, h1, h2⟩ := h.env d (.one (.sb c)) (by simp [hl])
        exact ⟨v, h1, h2⟩
      · cases hp
    · rename_i hne; exact absurd rfl hne
  · exact h.env i p (by simpa [List.getElem?_set, hi] using hp)

section
variable {P : Program} {ops : Array Oper} {bs : List (Nat × List Leaf)} {env0 : List PV} {es : List Eff} {ms : List Nat}

def lst (listed : Array Bool) (j : Nat) : Bool := listed.getD j false

/-- What a region's run must bring along. -/
structure Drawable (P : Program) (ops : Array Oper) (bs : List (Nat × List Leaf)) (env0 : List PV) (es : List Eff) (ms : List Nat) : Prop where
  len : es.length ≤ ops.size
  facts : ∀ (i : Nat) (o : Oper), i < es.length → ops[i]? = some o → ∃ e, es[i]? = some e ∧ Fact P ops bs (stOf env0 bs (fun j => decide (j < i)) es).env o e
  masks : masksOk ms ops.toList = true
  sn : ∀ (i : Nat) (o : Oper) (v : SnI), i < es.length → ops[i]? = some o → snInfo ⟨(stOf env0 bs (fun j => decide (j < i)) es).env, bs⟩ o = some v →
    (∀ q ∈ env0, q.All v.Fixed) ∧ (∀ (j : Nat) (x : Eff), es[j]? = some x → j ≠ i → x.p.All v.Fixed) ∧ ∀ x ∈ bs, ∀ l ∈ x.2, v.Fixed l
  ord : chkOrd ops ms es = true
  tok : chkTok ms es env0 bs = true

/-- What the operation names is as in the text's order. -/
theorem Drawable.same (h : Drawable P ops bs env0 es ms) {listed : Array Bool} (hc : Closed ops listed) (hs : listed.size = ops.size) {i : Nat} (hi : i ∈ Region.ready .any ops listed) {o : Oper} (ho : ops[i]? = some o) {e : Eff} (he : es[i]? = some e)
    {t : Nat} (ht : t ∈ namesOf ops o e) : (stOf env0 bs (lst listed) es).env.getD t .und = (stOf env0 bs (fun j => decide (j < i)) es).env.getD t .und := by
  rw [List.getD_eq_getElem?_getD, List.getD_eq_getElem?_getD, stOf_get, stOf_get]
  have hun : listed.getD i false = false := by
    have h0 := (mem_ready.1 hi).1
    have hlt : i < listed.size := hs ▸ (Array.getElem?_eq_some_iff.1 ho).1
    simp [Array.getElem?_eq_getElem hlt] at h0 ⊢
    exact h0
  cases henv : env0[t]? with
  | none => rfl
  | some p =>
    simp only [Option.map_some, Option.getD_some]
    refine lastT_congr fun j ej hj htj => ?_
    rw [Nat.zero_add]
    by_cases hji : j = i
    · subst hji; simp [lst, hun]
    · have := chkOrd_spec h.ord ho he hj hji htj ht
      unfold ordd at this
      split at this
      · rename_i hlt
        have := ready_anc h.masks hc hs hi this
        simp [lst, hlt, this]
      · rename_i hlt
        cases hlj : listed.getD j false with
        | false => simp [lst, hlj, hlt]
        | true => have := anc_listed h.masks hc hs j hlj this; rw [hun] at this; cases this

theorem lst_set {listed : Array Bool} {i : Nat} (hlt : i < listed.size) (j : Nat) : lst (listed.setIfInBounds i true) j = (if j = i then true else lst listed j) := by
  unfold lst
  split
  · rename_i h; subst h; simp [hlt]
  · rename_i h; rw [getD_set_ne false (Ne.symm h)]

theorem Drawable.keep (h : Drawable P ops bs env0 es ms) {listed : Array Bool} {i : Nat} (hlt : i < listed.size) {e : Eff} (he : es[i]? = some e) {t : Nat} (ht : e.touch t = none) (p : PV) :
    lastT (lst (listed.setIfInBounds i true)) t 0 es p = lastT (lst listed) t 0 es p := by
  refine lastT_congr fun j ej hj htj => ?_
  rw [Nat.zero_add, lst_set hlt, if_neg]
  rintro rfl
  rw [he] at hj; cases hj
  exact htj ht

theorem Drawable.last (h : Drawable P ops bs env0 es ms) {listed : Array Bool} (hc : Closed ops listed) (hs : listed.size = ops.size) {i : Nat} (hi : i ∈ Region.ready .any ops listed) {o : Oper} (ho : ops[i]? = some o) {e : Eff} (he : es[i]? = some e)
    {t : Nat} {q : PV} (ht : e.touch t = some q) (p : PV) : lastT (lst (listed.setIfInBounds i true)) t 0 es p = q := by
  have hlt : i < listed.size := hs ▸ (Array.getElem?_eq_some_iff.1 ho).1
  have hun : listed.getD i false = false := by
    have h0 := (mem_ready.1 hi).1
    simp [Array.getElem?_eq_getElem hlt] at h0 ⊢
    exact h0
  refine lastT_at he ht (by rw [Nat.zero_add, lst_set hlt, if_pos rfl]) fun j ej hj hje htj => ?_
  rw [Nat.zero_add, lst_set hlt, if_neg (by omega)]
  have := chkOrd_spec h.ord ho he hje (by omega) htj (t := t) (by
    unfold namesOf
    exact List.mem_append_left _ (touch_slots (by rw [ht]; simp)))
  unfold ordd at this
  rw [if_neg (by omega)] at this
  cases hlj : lst listed j with
  | false => rfl
  | true => have := anc_listed h.masks hc hs j hlj this; rw [hun] at this; cases this

theorem Drawable.step (h : Drawable P ops bs env0 es ms) {listed : Array Bool} (hc : Closed ops listed) (hs : listed.size = ops.size) {i : Nat} (hi : i ∈ Region.ready .any ops listed) (hie : i < es.length) {w0 : Base} {w : World} {a : Act}
    (hr : Rel w0 (stOf env0 bs (lst listed) es) a w) {Q : Exit → Act → World → Prop} {K : Act → World → Prop} (hK : ∀ a' w', Rel w0 (stOf env0 bs (lst (listed.setIfInBounds i true)) es) a' w' → K a' w') : wpOp P ops Q i K a w := by
  obtain ⟨h0, o, ho, hedges⟩ := mem_ready.1 hi
  obtain ⟨e, he, hf⟩ := h.facts i o hie ho
  have hlt : i < listed.size := hs ▸ (Array.getElem?_eq_some_iff.1 ho).1
  have hsame := fun t ht => h.same hc hs hi ho he (t := t) ht
  have hreads : ∀ t ∈ reads ops o, (stOf env0 bs (fun j => decide (j < i)) es).env.getD t .und = (stOf env0 bs (lst listed) es).env.getD t .und := fun t ht => (hsame t (List.mem_append_right _ ht)).symm
  unfold wpOp
  rw [ho]
  simp only
  rcases hf with ⟨st1, a1, o1, hw, d, hd, rfl⟩ | ⟨st1, a1, o1, hw, ans, e0, g, ans', obs, hds, hobs, hee⟩ | ⟨st1, a1, o1, hw, ans, ans', obs, hsn, hobs⟩
  rotate_left 2
  · have hw' := wantStep_nil hw (st' := stOf env0 bs (lst listed) es) hreads
    obtain ⟨hwant, _⟩ := wantStep_ok hw' trivial hr
    rw [if_pos hwant]
    left
    have hevs : ∀ x ∈ o.op.operands.toList, (stOf env0 bs (lst listed) es).ev x = St.ev ⟨(stOf env0 bs (fun j => decide (j < i)) es).env, bs⟩ x := fun x hx => ev_of fun t ht => (hreads t (by
      unfold reads
      exact List.mem_append_left _ (List.mem_filterMap.2 ⟨x, hx, ht⟩))).symm
    have hcong : snD P (stOf env0 bs (lst listed) es) o ans = some (e, ans', obs) := by
      rw [← hsn]
      exact snD_congr rfl hevs
    obtain ⟨v, d, x, y, t, hinfo, hd, hop, hap, he2, hx, hroot⟩ := snD_spec hcong
    have hinfo0 : snInfo ⟨(stOf env0 bs (fun j => decide (j < i)) es).env, bs⟩ o = some v := by
      rw [← hinfo]
      exact (snInfo_congr (st := stOf env0 bs (lst listed) es) (st' := ⟨(stOf env0 bs (fun j => decide (j < i)) es).env, bs⟩) rfl hevs).symm
    obtain ⟨hf1, hf2, hf3⟩ := h.sn i o v hie ho hinfo0
    have hun : listed.getD i false = false := by
      simp [Array.getElem?_eq_getElem hlt] at h0 ⊢
      exact h0
    have hfix : ∀ q ∈ (stOf env0 bs (lst listed) es).env, q.All v.Fixed := by
      intro q hq
      simp only [stOf] at hq
      rw [List.mem_map] at hq
      obtain ⟨⟨p0, n⟩, hm, rfl⟩ := hq
      have hp0 : p0 ∈ env0 := by
        rw [List.mem_zipIdx_iff_getElem?] at hm
        exact List.mem_of_getElem? hm
      simp only
      rcases lastT_cases (L := lst listed) (t := n) (es := es) (k := 0) (acc := p0) with ⟨h1, _⟩ | h1 | ⟨j, ej, h1, h2, _, h4, _⟩
      · rw [h1]; exact hf1 _ hp0
      · rw [h1]; exact ⟨rfl, fun a ha => by simp [Leaf.idx] at ha⟩
      · rw [h4]
        refine hf2 j ej h1 ?_
        rintro rfl
        rw [Nat.zero_add] at h2
        unfold lst at h2
        rw [hun] at h2
        cases h2
    have hmap : (stOf env0 bs (lst listed) es).map (snLeaf v.t v.i v.j v.k v.es v.kT v.esT) = stOf env0 bs (lst listed) es := by
      have e1 : (stOf env0 bs (lst listed) es).env.map (PV.map (snLeaf v.t v.i v.j v.k v.es v.kT v.esT)) = (stOf env0 bs (lst listed) es).env := by
        conv => rhs; rw [← List.map_id (stOf env0 bs (lst listed) es).env]
        exact List.map_congr_left fun q hq => map_of_all (hfix q hq)
      have e2 : bs.map (fun x => (x.1, x.2.map (snLeaf v.t v.i v.j v.k v.es v.kT v.esT))) = bs := by
        conv => rhs; rw [← List.map_id bs]
        refine List.map_congr_left fun x hx => ?_
        obtain ⟨x1, x2⟩ := x
        simp only [id]
        congr 1
        conv => rhs; rw [← List.map_id x2]
        exact List.map_congr_left fun l hl => (hf3 _ hx l hl).1
      unfold St.map
      rw [e1]
      show St.mk _ (bs.map _) = _
      rw [e2]
      rfl
    have hidx : ∀ a ∈ (stOf env0 bs (lst listed) es).idx v.t v.j, a = v.i := by
      intro a' ha
      unfold St.idx at ha
      rcases List.mem_append.1 ha with ha | ha
      · obtain ⟨q, hq, ha⟩ := List.mem_flatMap.1 ha
        exact idx_of_all (hfix q hq) a' ha
      · obtain ⟨z, hz, ha⟩ := List.mem_flatMap.1 ha
        obtain ⟨l, hl, ha⟩ := List.mem_flatMap.1 ha
        exact (hf3 z hz l hl).2 a' ha
    obtain ⟨ω, τ, hr1⟩ := hr
    obtain ⟨z, w', h1, h2⟩ := hr1.appendSnR (P := P) (d := d) (ty := o.type) (kT := v.kT) (x := x) (y := y) (PV.leaf_sat hx (hr1.ev x)) hap hobs (rootB_ok hr1 hroot) hidx
    rw [hmap] at h2
    obtain ⟨dst, op, type, pos, after, guard⟩ := o
    simp only at hd hop
    subst hd
    subst hop
    refine Calls.of (z := z) (w' := w') ?_ (hK _ _ ?_)
    · have : (execOp a.eval ⟨some d, .call ⟨.builtin .append, ⟨[x, y]⟩, ⟨[t, t]⟩⟩, type, pos, after, guard⟩) = (builtin .append ⟨[t, t]⟩ type (Array.map (fun | .const _ => true | _ => false) ⟨[x, y]⟩) (Array.map a.eval ⟨[x, y]⟩)) := by
        simp only [execOp, resolve]
        rfl
      rw [this]
      exact run_v (by simpa using h1)
    · refine h2.weaken (by simp [stOf_length]) rfl ?_
      intro n p hp
      right
      rw [stOf_get, Option.map_eq_some_iff] at hp
      obtain ⟨p0, hp0, rfl⟩ := hp
      rw [List.getElem?_set]
      have hed : e.dst = some d := by rw [he2]
      have hus : e.use = [] := by rw [he2]
      by_cases hdt : d = n
      · subst hdt
        have : d < env0.length := (List.getElem?_eq_some_iff.1 hp0).1
        rw [if_pos rfl, if_pos (by simp [stOf_length, this]), h.last hc hs hi ho he (q := e.p) (by simp [Eff.touch, hed])]
      · rw [if_neg hdt, stOf_get, hp0, Option.map_some, h.keep hlt he (by simp [Eff.touch, hed, hdt, hus])]
  · have hw' := wantStep_nil hw (st' := stOf env0 bs (lst listed) es) hreads
    obtain ⟨hwant, _⟩ := wantStep_ok hw' trivial hr
    rw [if_neg (by rw [hwant]; simp)]
    refine hK _ _ ((skipOp_ok hr).weaken ?_ ?_ ?_)
    · simp [stOf_length, skipOp, hd]
    · simp [stOf, skipOp, hd]
    · intro t p hp
      rw [stOf_get, Option.map_eq_some_iff] at hp
      obtain ⟨p0, hp0, rfl⟩ := hp
      right
      simp only [skipOp, hd]
      rw [List.getElem?_set]
      by_cases hdt : d = t
      · subst hdt
        have : d < env0.length := (List.getElem?_eq_some_iff.1 hp0).1
        rw [if_pos rfl, if_pos (by rw [stOf_length]; exact this), h.last hc hs hi ho he (q := .one (.v undef)) (by simp [Eff.touch, skipEff])]
      · rw [if_neg hdt, stOf_get, hp0, Option.map_some, h.keep hlt he (by simp [Eff.touch, skipEff, hdt])]
  · have hw' := wantStep_nil hw (st' := stOf env0 bs (lst listed) es) hreads
    obtain ⟨hwant, _⟩ := wantStep_ok hw' trivial hr
    rw [if_pos hwant]
    left
    have hcong : dStep P (stOf env0 bs (lst listed) es) o ans = some (e0, g, ans', obs) := by
      rw [← hds]
      refine dStep_congr rfl fun x hx => ev_of fun t ht => (hreads t ?_).symm
      unfold reads
      exact List.mem_append_left _ (List.mem_filterMap.2 ⟨x, hx, ht⟩)
    obtain ⟨hg, d, hdst, hop⟩ := dStep_op hcong
    obtain ⟨u, hee⟩ := hee
    have hrng : e.rng = e0.rng ∧ e.dst = e0.dst := by
      rcases hee with rfl | ⟨c, b, _, _, rfl⟩
      · exact ⟨rfl, rfl⟩
      · exact ⟨rfl, rfl⟩
    obtain ⟨hrng, hdst'⟩ := hrng
    rw [← hrng] at hg
    obtain ⟨htok1, htok2, htok3⟩ := chkTok_spec h.tok he
    have hboxes : ((stOf env0 bs (lst listed) es).map (Leaf.re g fun _ => true)).boxes = bs := by
      simp only [St.map, stOf]
      conv => rhs; rw [← List.map_id bs]
      refine List.map_congr_left fun x hx => ?_
      obtain ⟨x1, x2⟩ := x
      simp only [id, re_map_id hg (htok3 _ hx)]
    refine opStepD_ok hop hobs hr fun a' w' hr' => hK _ _ ?_
    rw [hboxes] at hr'
    have hr2 : Rel w0 ⟨((stOf env0 bs (lst listed) es).map (Leaf.re g fun _ => true)).env.set d e.p, bs⟩ a' w' := by
      rcases hee with rfl | ⟨c, b, hp, hcb, rfl⟩
      · exact hr'
      · rw [hp] at hr'
        subst hcb
        exact hr'.bool
    refine hr2.weaken (by simp [stOf_length, St.map]) rfl ?_
    intro t p hp
    rw [stOf_get, Option.map_eq_some_iff] at hp
    obtain ⟨p0, hp0, rfl⟩ := hp
    rw [List.getElem?_set]
    have hed : e.dst = some d := hdst'.trans hdst
    by_cases hdt : d = t
    · subst hdt
      right
      have : d < env0.length := (List.getElem?_eq_some_iff.1 hp0).1
      rw [if_pos rfl, if_pos (by simp [St.map, stOf_length, this]), h.last hc hs hi ho he (q := e.p) (by simp [Eff.touch, hed])]
    · rw [if_neg hdt]
      by_cases hut : t ∈ e.use
      · left
        exact h.last hc hs hi ho he (by simp [Eff.touch, hed, hdt, hut]) p0
      · have hkeep := h.keep hlt he (t := t) (by simp [Eff.touch, hed, hdt, hut]) p0
        rw [hkeep]
        have hment : lastT (lst listed) t 0 es p0 = .und ∨ (lastT (lst listed) t 0 es p0).ment e.rng = false := by
          rcases lastT_cases (L := lst listed) (t := t) (es := es) (k := 0) (acc := p0) with ⟨h1, hno⟩ | h1 | ⟨j, ej, h1, h2, h3, h4, hno⟩
          · right; rw [h1]
            rcases htok2 t p0 hp0 with (h5 | h5) | h5
            rotate_left 2
            · rw [hed] at h5; exact absurd (Option.some.inj h5) hdt
            · exact h5.resolve_right hut
            · obtain ⟨m, y, t', hm, _, ha, hu, ht⟩ := usedUp_spec h5
              cases ht
              have := hno m y hm (by rw [Nat.zero_add]; exact ready_anc h.masks hc hs hi ha)
              unfold Eff.touch at this
              rw [if_pos hu] at this
              split at this <;> cases this
          · exact .inl h1
          · right
            rw [h4]
            rw [Nat.zero_add] at h2
            have hun : listed.getD i false = false := by
              simp [Array.getElem?_eq_getElem hlt] at h0 ⊢
              exact h0
            have hji : j ≠ i := by rintro rfl; unfold lst at h2; rw [hun] at h2; cases h2
            rcases htok1 j ej h1 hji with h5 | h5 | h5 | h5 | h5
            rotate_left 3
            · rw [h3, hed] at h5
              exact absurd (Option.some.inj h5).symm hdt
            · obtain ⟨m, y, t', hm, hlo, ha, hu, ht⟩ := usedUp_spec h5
              rw [h3] at ht
              cases ht
              have := hno m y hm (by omega) (by rw [Nat.zero_add]; exact ready_anc h.masks hc hs hi ha)
              unfold Eff.touch at this
              rw [if_pos hu] at this
              split at this <;> cases this
            · have := anc_listed h.masks hc hs j h2 h5
              rw [hun] at this; cases this
            · exact h5
            · obtain ⟨t', h6, h7⟩ := h5
              rw [h3] at h6
              cases h6
              exact absurd h7 hut
        rcases hment with h1 | h1
        · exact .inl h1
        · right
          simp only [St.map, List.getElem?_map]
          rw [stOf_get, hp0]
          simp only [Option.map_some, PV.re_id hg h1]

/-- The last operations: each comes behind all others. -/
def Behind (ops : Array Oper) (ms : List Nat) (k : Nat) : Prop := ∀ i, k ≤ i → i < ops.size → ∀ j, j < i → anc ms j i = true

theorem Drawable.any (h : Drawable P ops bs env0 es ms) (hb : Behind ops ms es.length) {w0 : Base} {Q : Exit → Act → World → Prop}
    (hQ : ∀ (fuel : Nat) {listed : Array Bool}, Closed ops listed → listed.size = ops.size → (∀ j, j < es.length → listed.getD j false = true) → (∀ j, es.length ≤ j → listed.getD j false = false) → listed.count false ≤ fuel →
      ∀ {a : Act} {w : World}, Rel w0 (stOf env0 bs (fun j => decide (j < es.length)) es) a w → wpAny P .any ops Q fuel listed a w) :
    ∀ (fuel : Nat) {listed : Array Bool}, Closed ops listed → listed.size = ops.size → (∀ j, es.length ≤ j → listed.getD j false = false) → listed.count false ≤ fuel →
    ∀ {a : Act} {w : World}, Rel w0 (stOf env0 bs (lst listed) es) a w → wpAny P .any ops Q fuel listed a w := by
  intro fuel
  induction fuel with
  | zero =>
    intro listed hc hs hun hcnt a w hr
    by_cases hall : ∀ j, j < es.length → listed.getD j false = true
    · refine hQ 0 hc hs hall hun hcnt ?_
      have : stOf env0 bs (lst listed) es = stOf env0 bs (fun j => decide (j < es.length)) es := by
        unfold stOf
        congr 1
        refine List.map_congr_left fun x _ => ?_
        refine lastT_congr fun j e hj _ => ?_
        have hlt : j < es.length := (List.getElem?_eq_some_iff.1 hj).1
        rw [Nat.zero_add]
        simp only [lst, hall j hlt, hlt, decide_true]
      rwa [← this]
    · exfalso
      apply hall
      intro j hj
      have hlt : j < listed.size := hs ▸ Nat.lt_of_lt_of_le hj h.len
      cases hf : listed[j] with
      | true => simp [Array.getElem?_eq_getElem hlt, hf]
      | false =>
        have : 0 < listed.count false := by
          rw [Array.count_pos_iff]
          exact hf ▸ Array.getElem_mem hlt
        omega
  | succ fuel ih =>
    intro listed hc hs hun hcnt a w hr
    by_cases hall : ∀ j, j < es.length → listed.getD j false = true
    · refine hQ _ hc hs hall hun hcnt ?_
      have : stOf env0 bs (lst listed) es = stOf env0 bs (fun j => decide (j < es.length)) es := by
        unfold stOf
        congr 1
        refine List.map_congr_left fun x _ => ?_
        refine lastT_congr fun j e hj _ => ?_
        have hlt : j < es.length := (List.getElem?_eq_some_iff.1 hj).1
        rw [Nat.zero_add]
        simp only [lst, hall j hlt, hlt, decide_true]
      rwa [← this]
    · refine ⟨fun hnil => absurd (fun j hj => ready_nil h.masks hs hnil j (Nat.lt_of_lt_of_le hj h.len)) hall, fun i hi => ?_⟩
      have hie : i < es.length := by
        rcases Nat.lt_or_ge i es.length with h1 | h1
        · exact h1
        · exfalso
          obtain ⟨_, o, ho, _⟩ := mem_ready.1 hi
          have hlt : i < ops.size := (Array.getElem?_eq_some_iff.1 ho).1
          exact hall fun j hj => ready_anc h.masks hc hs hi (hb i h1 hlt j (Nat.lt_of_lt_of_le hj h1))
      refine h.step hc hs hi hie hr fun a' w' hr' => ih (hc.ready hi) (by simpa using hs) (fun j hj => ?_) ?_ hr'
      · rw [getD_set_ne false (by omega)]
        exact hun j hj
      · obtain ⟨h1, o, ho, _⟩ := mem_ready.1 hi
        have hlt : i < listed.size := hs ▸ (Array.getElem?_eq_some_iff.1 ho).1
        have hf : listed[i] = false := by simpa [Array.getElem?_eq_getElem hlt] using h1
        have : (listed.setIfInBounds i true).count false = listed.count false - 1 := by
          have e : listed.setIfInBounds i true = listed.set i true hlt := by unfold Array.setIfInBounds; rw [dif_pos hlt]
          rw [e, Array.count_set]
          simp [hf]
        omega

end

/-! ### The operations that come behind all others -/
def sufRun (P : Program) (ops : Array Oper) : List Oper → St → List Ans → Stepped
  | [], st, ans => some (st, ans, [])
  | o :: rest, st, ans =>
    match oneOp P ops o st ans with
    | some (st1, ans1, obs1) => (sufRun P ops rest st1 ans1).map fun r => (r.1, r.2.1, obs1 ++ r.2.2)
    | none => none

theorem oneOp_wp {P : Program} {ops : Array Oper} {w0 : Base} {Q : Exit → Act → World → Prop} {o : Oper} {i : Nat} (hi : ops[i]? = some o) {st st' : St} {ans ans' : List Ans} {obs : List Prop} (h : oneOp P ops o st ans = some (st', ans', obs)) (ho : Obs obs)
    {a : Act} {w : World} (hrel : Rel w0 st a w) {K : Act → World → Prop} (hK : ∀ a' w', Rel w0 st' a' w' → K a' w') : wpOp P ops Q i K a w := by
  unfold wpOp
  rw [hi]
  simp only
  unfold oneOp at h
  split at h
  · rename_i st1 ans1 obs1 hw
    rw [Option.map_eq_some_iff] at h
    obtain ⟨⟨r1, r2, r3⟩, h1, h⟩ := h
    simp only [Prod.mk.injEq] at h
    obtain ⟨rfl, rfl, rfl⟩ := h
    obtain ⟨o1, o2⟩ := ho.append
    obtain ⟨hwant, hr1⟩ := wantStep_ok hw o1 hrel
    rw [if_pos hwant]
    exact .inl (opStep_ok h1 o2 hr1 fun a' w' hr' => hK _ _ hr')
  · rename_i st1 ans1 obs1 hw
    simp only [Option.some.injEq, Prod.mk.injEq] at h
    obtain ⟨rfl, rfl, rfl⟩ := h
    obtain ⟨hwant, hr1⟩ := wantStep_ok hw ho hrel
    rw [if_neg (by rw [hwant]; simp)]
    exact hK _ _ (skipOp_ok hr1)
  · cases h

theorem suf_any {P : Program} {ops : Array Oper} {ms : List Nat} {k : Nat} (hm : masksOk ms ops.toList = true) (hb : Behind ops ms k) {w0 : Base} {Q : Exit → Act → World → Prop} : ∀ (fuel n : Nat) {listed : Array Bool}, k ≤ n → n ≤ ops.size →
    Closed ops listed → listed.size = ops.size → (∀ j, j < n → listed.getD j false = true) → (∀ j, n ≤ j → listed.getD j false = false) → listed.count false ≤ fuel →
    ∀ {st st' : St} {ans ans' : List Ans} {obs : List Prop}, sufRun P ops (ops.toList.drop n) st ans = some (st', ans', obs) → Obs obs →
    ∀ {a : Act} {w : World}, Rel w0 st a w → (∀ a' w', Rel w0 st' a' w' → Q .normal a' w') → wpAny P .any ops Q fuel listed a w := by
  have fin : ∀ {listed : Array Bool} {n : Nat}, n = ops.size → listed.size = ops.size → (∀ j, j < n → listed.getD j false = true) → Region.ready .any ops listed = [] := by
    intro listed n hn hs h1
    rw [List.eq_nil_iff_forall_not_mem]
    intro j hj
    obtain ⟨h2, o, ho, _⟩ := mem_ready.1 hj
    have hlt : j < ops.size := (Array.getElem?_eq_some_iff.1 ho).1
    have h3 := h1 j (hn ▸ hlt)
    have hlt2 : j < listed.size := hs ▸ hlt
    simp [Array.getElem?_eq_getElem hlt2] at h2 h3
    rw [h2] at h3; cases h3
  intro fuel
  induction fuel with
  | zero =>
    intro n listed hkn hn hc hs h1 h2 hcnt st st' ans ans' obs h ho a w hr hQ
    have hn' : n = ops.size := by
      rcases Nat.lt_or_ge n ops.size with hlt | hge
      · have hlt2 : n < listed.size := hs ▸ hlt
        have hf : listed[n] = false := by simpa [Array.getElem?_eq_getElem hlt2] using h2 n (Nat.le_refl _)
        have : 0 < listed.count false := by
          rw [Array.count_pos_iff]
          exact hf ▸ Array.getElem_mem hlt2
        omega
      · omega
    rw [List.drop_eq_nil_of_le (by simp [hn'])] at h
    simp only [sufRun, Option.some.injEq, Prod.mk.injEq] at h
    obtain ⟨rfl, _, _⟩ := h
    exact ⟨fin hn' hs h1, hQ _ _ hr⟩
  | succ fuel ih =>
    intro n listed hkn hn hc hs h1 h2 hcnt st st' ans ans' obs h ho a w hr hQ
    rcases Nat.lt_or_ge n ops.size with hlt | hge
    · have hlt2 : n < listed.size := hs ▸ hlt
      have hd : ops.toList.drop n = ops[n] :: ops.toList.drop (n + 1) := by
        rw [List.drop_eq_getElem_cons (by simpa using hlt)]
        simp
      rw [hd] at h
      simp only [sufRun] at h
      split at h
      · rename_i st1 ans1 obs1 h3
        rw [Option.map_eq_some_iff] at h
        obtain ⟨⟨r1, r2, r3⟩, h4, h⟩ := h
        simp only [Prod.mk.injEq] at h
        obtain ⟨rfl, rfl, rfl⟩ := h
        obtain ⟨o1, o2⟩ := ho.append
        refine ⟨fun hnil => ?_, fun i hi => ?_⟩
        · exfalso
          have := ready_nil hm hs hnil n hlt
          rw [h2 n (Nat.le_refl _)] at this
          cases this
        · have hin : i = n := by
            obtain ⟨h5, o, ho', _⟩ := mem_ready.1 hi
            have hi1 : i < ops.size := (Array.getElem?_eq_some_iff.1 ho').1
            have hi2 : i < listed.size := hs ▸ hi1
            rcases Nat.lt_trichotomy i n with h6 | h6 | h6
            · have h7 := h1 i h6
              simp [Array.getElem?_eq_getElem hi2] at h5 h7
              rw [h5] at h7; cases h7
            · exact h6
            · have := ready_anc hm hc hs hi (hb i (by omega) hi1 n h6)
              rw [h2 n (Nat.le_refl _)] at this
              cases this
          subst hin
          refine oneOp_wp (Array.getElem?_eq_getElem hlt) h3 o1 hr fun a' w' hr' => ih (i + 1) (by omega) (by omega) (hc.ready hi) (by simpa using hs) (fun j hj => ?_) (fun j hj => ?_) ?_ h4 o2 hr' hQ
          · by_cases hji : j = i
            · subst hji
              have hz : j < (listed.setIfInBounds j true).size := by simpa using hlt2
              simp [Array.getElem?_eq_getElem hz]
            · rw [getD_set_ne false (Ne.symm hji)]
              exact h1 j (by omega)
          · rw [getD_set_ne false (by omega)]
            exact h2 j (by omega)
          · have hf : listed[i] = false := by simpa [Array.getElem?_eq_getElem hlt2] using h2 i (Nat.le_refl _)
            have : (listed.setIfInBounds i true).count false = listed.count false - 1 := by
              have e : listed.setIfInBounds i true = listed.set i true hlt2 := by unfold Array.setIfInBounds; rw [dif_pos hlt2]
              rw [e, Array.count_set]
              simp [hf]
            omega
      · cases h
    · have hn' : n = ops.size := by omega
      rw [List.drop_eq_nil_of_le (by simp [hn'])] at h
      simp only [sufRun, Option.some.injEq, Prod.mk.injEq] at h
      obtain ⟨rfl, _, _⟩ := h
      have hnil := fin hn' hs h1
      refine ⟨fun _ => hQ _ _ hr, fun i hi => ?_⟩
      rw [hnil] at hi
      cases hi

/-- Where they begin. -/
def sufGo (ms : List Nat) : Nat → Nat
  | 0 => 0
  | i + 1 => if ms.getD i 0 == 2 ^ i - 1 then sufGo ms i else i + 1

theorem sufGo_le (ms : List Nat) : ∀ n, sufGo ms n ≤ n
  | 0 => Nat.le_refl _
  | n + 1 => by
    unfold sufGo
    split
    · exact Nat.le_trans (sufGo_le ms n) (Nat.le_succ n)
    · exact Nat.le_refl _

theorem sufGo_anc (ms : List Nat) : ∀ n i, sufGo ms n ≤ i → i < n → ∀ j, j < i → anc ms j i = true
  | 0, _, _, h, _, _ => absurd h (Nat.not_lt_zero _)
  | n + 1, i, h1, h2, j, hj => by
    unfold sufGo at h1
    split at h1
    · rename_i he
      by_cases hin : i = n
      · subst hin
        unfold anc
        rw [eq_of_beq he, Nat.testBit_two_pow_sub_one, decide_eq_true hj]
      · exact sufGo_anc ms n i h1 (by omega) j hj
    · omega

theorem Sat.drew {w : World} {ω : Own} {τ : Nat → Nat × Value} {l : Leaf} {y : Value} (h : Sat w ω τ l y) : Sat w.drew ω τ l y := by
  have hf : ∀ {R : List (Nat × Nat) → Owner → Prop} {d : D} {y : Value}, Rep w ω R d y → Rep w.drew ω R d y := fun h => h.frame fun _ _ _ hq => ⟨hq, rfl⟩
  cases l with
  | sl t k es => exact ⟨hf h.1, h.2⟩
  | ep t k es i j =>
    obtain ⟨b, off, cap, h1, h2, h3, h4⟩ := h
    exact ⟨b, off, cap, h1, h2, hf h3, h4⟩
  | rp ds off =>
    obtain ⟨b, h1, h2⟩ := h
    exact ⟨b, h1, hf h2⟩
  | fd d => exact hf h
  | sv t k es => exact ⟨hf h.1, h.2⟩
  | sn t i j k es m =>
    obtain ⟨u, hu, h1, hm⟩ := h
    exact ⟨u, hu, hf h1, hm⟩
  | np t vs =>
    obtain ⟨b, ty, arr, h1, h2, h3, hn, hv⟩ := h
    refine ⟨b, ty, arr, h1, h2, h3, hn, fun j c hc => ?_⟩
    obtain ⟨u, hu1, hu2⟩ := hv j c hc
    refine ⟨u, hu1, ?_⟩
    cases c with
    | und => exact trivial
    | v x => exact hu2
    | sl t k es => exact ⟨hf hu2.1, hu2.2⟩
  | _ => exact h

theorem Rel.drew {w0 : Base} {st : St} {a : Act} {w : World} (h : Rel w0 st a w) : Rel w0 st a w.drew := by
  obtain ⟨ω, τ, h⟩ := h
  have hi : ∀ p : PV, p.map _root_.id = p := by
    intro p
    cases p with
    | al a => cases a <;> simp [PV.map, AL.map]
    | tup as =>
      simp only [PV.map]
      congr 1
      have : AL.map _root_.id = _root_.id := by funext a; cases a <;> simp [AL.map]
      rw [this]; simp
  refine ⟨ω, τ, h.defers, h.size, h.below.next (Blw.refl _ _).drew, h.owned, h.fixed, h.pinned, fun i p hp => ?_, fun id ls hl => ?_⟩
  · obtain ⟨v, h1, h2⟩ := h.env i p hp
    have := SatP.map (S' := Sat w.drew ω τ) (f := _root_.id) (fun l v hs => Sat.drew hs) h2
    rw [hi] at this
    exact ⟨v, h1, this⟩
  · obtain ⟨b, arr, ty, h1, h2, h3, h4⟩ := h.boxes id ls hl
    have := SatL.map (S' := Sat w.drew ω τ) (f := _root_.id) (fun l v hs => Sat.drew hs) h4
    rw [List.map_id] at this
    exact ⟨b, arr, ty, h1, h2, h3, this⟩

/-- The slots that hold a pointer to new memory, their own. -/
def npSlots : Nat → List PV → List Nat
  | _, [] => []
  | i, p :: r => match p.leaf with | some (.np t _) => if t = i then i :: npSlots (i + 1) r else npSlots (i + 1) r | _ => npSlots (i + 1) r

/-- The variables of the call's own that are written to among these operations. -/
def ownStores (env : List PV) : List Oper → List Nat
  | [] => []
  | o :: r =>
    match o.dst, o.op with
    | none, .store _ (.tmp s) _ =>
      match (env.getD s .und).leaf with
      | some (.ptr d 0) => if d = s ∧ s < giv ∧ !(ownStores env r).contains s then s :: ownStores env r else ownStores env r
      | _ => ownStores env r
    | _, _ => ownStores env r

/-- All leaves that there may be but the i-th operation's own. -/
def othersOf (env0 : List PV) (bs : List (Nat × List Leaf)) (es : List Eff) (i : Nat) : List Leaf :=
  env0.flatMap PV.lv ++ (bs.flatMap (·.2) ++ (es.zipIdx.filter fun x => x.2 != i).flatMap fun x => x.1.p.lv)

/-- Runs a region whose order is drawn. -/
def drawStep (P : Program) (ops : Array Oper) (st : St) (ans : List Ans) : Stepped :=
  let gs := ops.toList.filterMap (guardSlot ops)
  let ms := mksGo ops.toList []
  let k := sufGo ms ops.size
  match boxNps (ownStores st.env (ops.toList.take k)) st with
  | some st0 =>
    match drawRun P ops gs st0.boxes (ops.toList.take k) st0.env ans with
    | some (es, env', ans1, obs1) =>
      if P.follows .mixedOrders && masksOk ms ops.toList && chkOrd ops ms es && chkTok ms es st0.env st0.boxes then
        match npBoxes (npSlots 0 env') ⟨env', st0.boxes⟩, snObs st0.boxes (othersOf st0.env st0.boxes es) 0 (ops.toList.take k) st0.env es with
        | some st2, some obs2 => (sufRun P ops (ops.toList.drop k) st2 ans1).map fun r => (r.1, r.2.1, obs1 ++ (obs2 ++ r.2.2))
        | _, _ => none
      else none
    | none => none
  | none => none

theorem drawStep_ok {P : Program} {ops : Array Oper} {st st' : St} {ans ans' : List Ans} {obs : List Prop} (h : drawStep P ops st ans = some (st', ans', obs)) (ho : Obs obs) {w0 : Base} {a : Act} {w : World} (hr : Rel w0 st a w) {id : Nat}
    {Q : Exit → Act → World → Prop} (hQ : ∀ a' w', Rel w0 st' a' w' → Q .normal a' w') : (Code.region id ops true).wp P Q a w := by
  unfold drawStep at h
  simp only at h
  split at h
  case h_2 => cases h
  rename_i st0 hst0
  replace hr := boxNps_ok hr hst0
  clear hst0
  revert hr h
  generalize st0 = st
  intro h hr
  split at h
  · rename_i es env' ans1 obs1 hrun
    split at h
    · rename_i hc
      split at h
      rotate_left
      · cases h
      rename_i st2 obs2 hnp hsnO
      rw [Option.map_eq_some_iff] at h
      obtain ⟨⟨r1, r2, r3⟩, hsuf, h⟩ := h
      simp only [Prod.mk.injEq] at h
      obtain ⟨rfl, rfl, rfl⟩ := h
      obtain ⟨ho1, ho2⟩ := ho.append
      obtain ⟨hoS, ho2⟩ := ho2.append
      simp only [Bool.and_eq_true] at hc
      obtain ⟨⟨⟨hm, hmask⟩, hord⟩, htok⟩ := hc
      have hkle := sufGo_le (mksGo ops.toList []) ops.size
      obtain ⟨hlen, hend, hfacts⟩ := drawRun_facts hrun ho1
      have hlen' : es.length = sufGo (mksGo ops.toList []) ops.size := by
        rw [hlen, List.length_take, Array.length_toList]
        omega
      have htake : ∀ (i : Nat), i < es.length → (ops.toList.take (sufGo (mksGo ops.toList []) ops.size))[i]? = ops[i]? := by
        intro i hi
        rw [List.getElem?_take, if_pos (by omega), Array.getElem?_toList]
      have hd : ∀ (i : Nat) (e : Eff), es[i]? = some e → e.dst ≠ none := by
        intro i e hi
        have hlt : i < (ops.toList.take (sufGo (mksGo ops.toList []) ops.size)).length := hlen ▸ (List.getElem?_eq_some_iff.1 hi).1
        obtain ⟨e', h1, h2⟩ := hfacts i _ (List.getElem?_eq_getElem hlt)
        rw [hi] at h1; cases h1
        exact h2.dst
      have hD : Drawable P ops st.boxes st.env es (mksGo ops.toList []) := by
        refine ⟨by omega, fun i o hie hi => ?_, hmask, fun i o v hie hi hv => ?_, hord, htok⟩
        rotate_left
        · have hsO := snObs_ok hsnO hoS i o (by rw [htake i hie]; exact hi) hie v (by
            rw [← text_state (bs := st.boxes) hd i (by omega)] at hv
            exact hv)
          rw [Nat.zero_add] at hsO
          refine ⟨fun q hq => PV.lv_all fun l hl => hsO l ?_, fun j x hj hne => PV.lv_all fun l hl => hsO l ?_, fun x hx l hl => hsO l ?_⟩
          · exact List.mem_append_left _ (List.mem_flatMap.2 ⟨q, hq, hl⟩)
          · refine List.mem_append_right _ (List.mem_append_right _ (List.mem_flatMap.2 ⟨(x, j), List.mem_filter.2 ⟨?_, by simpa using hne⟩, hl⟩))
            rw [List.mem_zipIdx_iff_getElem?]
            exact hj
          · exact List.mem_append_right _ (List.mem_append_left _ (List.mem_flatMap.2 ⟨x, hx, hl⟩))
        obtain ⟨e, h1, h2⟩ := hfacts i o (by rw [htake i hie]; exact hi)
        refine ⟨e, h1, ?_⟩
        rwa [text_state (bs := st.boxes) hd i (by omega)] at h2
      have hB : Behind ops (mksGo ops.toList []) es.length := fun i h1 h2 j hj => sufGo_anc _ _ i (by omega) h2 j hj
      refine wp_region_any hm (hD.any hB (w0 := w0) ?_ ops.size ?_ (by simp) ?_ ?_ ?_)
      · intro fuel listed hcl hs hl1 hl2 hcnt a' w' hr'
        refine suf_any hmask hB fuel es.length (Nat.le_refl _) (by omega) hcl hs hl1 hl2 hcnt (st := st2) (by rw [hlen']; exact hsuf) ho2 (npBoxes_ok ?_ hnp) hQ
        have := text_state (env0 := st.env) (bs := st.boxes) hd es.length (Nat.le_refl _)
        rw [List.take_length, ← hend] at this
        rw [this]
        exact hr'
      · intro j o hj
        have := getD_lt hj
        simp at this
        simp [this] at hj
      · intro j _
        by_cases hj : j < ops.size
        · simp [hj]
        · simp [hj]
      · simp [Array.count_replicate]
      · have : stOf st.env st.boxes (lst (Array.replicate ops.size false)) es = st := by
          have hno : ∀ (es : List Eff) (t k : Nat) (acc : PV), lastT (lst (Array.replicate ops.size false)) t k es acc = acc := by
            intro es
            induction es with
            | nil => intro t k acc; rfl
            | cons e1 es ih =>
              intro t k acc
              simp only [lastT]
              rw [if_neg, ih]
              unfold lst
              intro hc
              have := getD_lt hc
              simp at this
              simp [this] at hc
          obtain ⟨env, bs⟩ := st
          unfold stOf
          congr 1
          simp only [hno]
          apply List.ext_getElem?
          intro t
          simp
        rw [this]
        exact hr.drew
    · cases h
  · cases h

end Go.Sx

namespace Go.Sx
open Go.RowKit

/-- The region leads from the one state to the other, in every order. -/
def RegOk (P : Program) (ops : Array Oper) (st st' : St) : Prop :=
  ∀ (w0 : Base) (a : Act) (w : World) (id : Nat) (Q : Exit → Act → World → Prop), Rel w0 st a w → (∀ a' w', Rel w0 st' a' w' → Q .normal a' w') → (Code.region id ops true).wp P Q a w

/-- May it come up behind the operations of this set? -/
def mayCome (o : Oper) (m : Nat) : Bool := o.after.toList.all fun e => !Region.binds .any e || m.testBit e.on

def nexts (m : Nat) : Nat → List Oper → List (Nat × Oper)
  | _, [] => []
  | i, o :: r => if !m.testBit i && mayCome o m then (i, o) :: nexts m (i + 1) r else nexts m (i + 1) r

/-- The state behind the operations of this set, as the text has them. -/
def runM (P : Program) (ops : Array Oper) (A : List (List Ans)) (m : Nat) : Nat → List Oper → St → St
  | _, [], st => st
  | i, o :: r, st => if m.testBit i then (match oneOp P ops o st (A.getD i []) with | some x => runM P ops A m (i + 1) r x.1 | none => st) else runM P ops A m (i + 1) r st

def addM (x : Nat) (l : List Nat) : List Nat := if l.any (Nat.beq x) then l else x :: l

def moreM : Nat → List (Nat × Oper) → List Nat → List Nat
  | _, [], l => l
  | m, x :: r, l => addM (m ||| 2 ^ x.1) (moreM m r l)

def nextM (ops : List Oper) : List Nat → List Nat
  | [] => []
  | m :: r => moreM m (nexts m 0 ops) (nextM ops r)

abbrev Edge1 := Option (St × List Ans × List Prop)

def edL1 (P : Program) (ops : Array Oper) (A : List (List Ans)) (st : St) : List (Nat × Oper) → List Edge1
  | [] => []
  | x :: r => oneOp P ops x.2 st (A.getD x.1 []) :: edL1 P ops A st r
def edR1 (P : Program) (ops : Array Oper) (A : List (List Ans)) (O : List (List Prop)) (st0 : St) (m : Nat) : List (Nat × Oper) → List Edge1
  | [] => []
  | x :: r => some (runM P ops A (m ||| 2 ^ x.1) 0 ops.toList st0, [], O.getD x.1 []) :: edR1 P ops A O st0 m r
def edL2 (P : Program) (ops : Array Oper) (A : List (List Ans)) (st0 : St) : List Nat → List (List Edge1)
  | [] => []
  | m :: r => edL1 P ops A (runM P ops A m 0 ops.toList st0) (nexts m 0 ops.toList) :: edL2 P ops A st0 r
def edR2 (P : Program) (ops : Array Oper) (A : List (List Ans)) (O : List (List Prop)) (st0 : St) : List Nat → List (List Edge1)
  | [] => []
  | m :: r => edR1 P ops A O st0 m (nexts m 0 ops.toList) :: edR2 P ops A O st0 r
def edL (P : Program) (ops : Array Oper) (A : List (List Ans)) (st0 : St) : Nat → List Nat → List (List (List Edge1))
  | 0, _ => []
  | n + 1, l => edL2 P ops A st0 l :: edL P ops A st0 n (nextM ops.toList l)
def edR (P : Program) (ops : Array Oper) (A : List (List Ans)) (O : List (List Prop)) (st0 : St) : Nat → List Nat → List (List (List Edge1))
  | 0, _ => []
  | n + 1, l => edR2 P ops A O st0 l :: edR P ops A O st0 n (nextM ops.toList l)

theorem edge1_ok {P : Program} {ops : Array Oper} {A : List (List Ans)} {O : List (List Prop)} {st0 st : St} {m : Nat} : ∀ {l : List (Nat × Oper)}, edL1 P ops A st l = edR1 P ops A O st0 m l →
    ∀ x ∈ l, oneOp P ops x.2 st (A.getD x.1 []) = some (runM P ops A (m ||| 2 ^ x.1) 0 ops.toList st0, [], O.getD x.1 [])
  | [], _, x, hx => by cases hx
  | y :: r, h, x, hx => by
    simp only [edL1, edR1, List.cons.injEq] at h
    rcases List.mem_cons.1 hx with rfl | hx
    · exact h.1
    · exact edge1_ok h.2 x hx

theorem edge2_ok {P : Program} {ops : Array Oper} {A : List (List Ans)} {O : List (List Prop)} {st0 : St} : ∀ {l : List Nat}, edL2 P ops A st0 l = edR2 P ops A O st0 l →
    ∀ m ∈ l, ∀ x ∈ nexts m 0 ops.toList, oneOp P ops x.2 (runM P ops A m 0 ops.toList st0) (A.getD x.1 []) = some (runM P ops A (m ||| 2 ^ x.1) 0 ops.toList st0, [], O.getD x.1 [])
  | [], _, m, hm => by cases hm
  | m0 :: r, h, m, hm => by
    simp only [edL2, edR2, List.cons.injEq] at h
    rcases List.mem_cons.1 hm with rfl | hm
    · exact edge1_ok h.1
    · exact edge2_ok h.2 m hm

theorem mem_addM {x : Nat} {l : List Nat} : x ∈ addM x l := by
  unfold addM
  split
  · rename_i h
    obtain ⟨y, hy, he⟩ := List.any_eq_true.1 h
    rwa [Nat.eq_of_beq_eq_true he]
  · exact List.mem_cons_self
theorem mem_addM_of {x y : Nat} {l : List Nat} (h : y ∈ l) : y ∈ addM x l := by
  unfold addM
  split
  · exact h
  · exact List.mem_cons_of_mem _ h
theorem mem_moreM {m : Nat} {x : Nat × Oper} : ∀ {r : List (Nat × Oper)} {l : List Nat}, x ∈ r → (m ||| 2 ^ x.1) ∈ moreM m r l
  | [], _, h => by cases h
  | y :: r, l, h => by
    simp only [moreM]
    rcases List.mem_cons.1 h with rfl | h
    · exact mem_addM
    · exact mem_addM_of (mem_moreM h)
theorem mem_moreM_of {m k : Nat} : ∀ {r : List (Nat × Oper)} {l : List Nat}, k ∈ l → k ∈ moreM m r l
  | [], _, h => h
  | _ :: _, _, h => mem_addM_of (mem_moreM_of h)
theorem mem_nextM {ops : List Oper} {m : Nat} {x : Nat × Oper} : ∀ {l : List Nat}, m ∈ l → x ∈ nexts m 0 ops → (m ||| 2 ^ x.1) ∈ nextM ops l
  | [], h, _ => by cases h
  | k :: r, h, hx => by
    simp only [nextM]
    rcases List.mem_cons.1 h with rfl | h
    · exact mem_moreM hx
    · exact mem_moreM_of (mem_nextM h hx)

theorem mem_nexts {m : Nat} : ∀ {l : List Oper} {i j : Nat} {o : Oper}, l[j]? = some o → m.testBit (i + j) = false → mayCome o m = true → (i + j, o) ∈ nexts m i l
  | [], _, _, _, h, _, _ => by simp at h
  | y :: r, i, 0, o, h, h1, h2 => by
    simp only [List.getElem?_cons_zero, Option.some.injEq] at h
    subst h
    simp only [nexts]
    rw [if_pos (by rw [Nat.add_zero] at h1; simp [h1, h2])]
    exact List.mem_cons_self
  | y :: r, i, j + 1, o, h, h1, h2 => by
    have := mem_nexts (m := m) (l := r) (i := i + 1) (j := j) (o := o) (by simpa using h) (by rwa [show i + 1 + j = i + (j + 1) by omega]) h2
    rw [show i + 1 + j = i + (j + 1) by omega] at this
    simp only [nexts]
    split
    · exact List.mem_cons_of_mem _ this
    · exact this

theorem runM_congr {P : Program} {ops : Array Oper} {A : List (List Ans)} {m k : Nat} : ∀ {l : List Oper} {i : Nat} {st : St}, (∀ j, i ≤ j → j < i + l.length → m.testBit j = k.testBit j) → runM P ops A m i l st = runM P ops A k i l st
  | [], _, _, _ => rfl
  | o :: r, i, st, h => by
    simp only [runM]
    rw [h i (Nat.le_refl _) (by simp)]
    split
    · split
      · exact runM_congr fun j h1 h2 => h j (by omega) (by simp only [List.length_cons]; omega)
      · rfl
    · exact runM_congr fun j h1 h2 => h j (by omega) (by simp only [List.length_cons]; omega)

theorem obs_getD : ∀ {O : List (List Prop)} (i : Nat), Obs O.flatten → Obs (O.getD i [])
  | [], i, _ => by simp [Obs]
  | o :: r, 0, h => by
    rw [List.flatten_cons] at h
    exact (Obs.append h).1
  | o :: r, i + 1, h => by
    rw [List.flatten_cons] at h
    exact obs_getD i (Obs.append h).2

theorem every_any {P : Program} {ops : Array Oper} {ms : List Nat} {A : List (List Ans)} {O : List (List Prop)} {st0 : St} {w0 : Base} {Q : Exit → Act → World → Prop} (hm : masksOk ms ops.toList = true) (ho : Obs O.flatten)
    (hQ : ∀ a' w', Rel w0 (runM P ops A (2 ^ ops.size - 1) 0 ops.toList st0) a' w' → Q .normal a' w') : ∀ (fuel : Nat) {l : List Nat}, edL P ops A st0 fuel l = edR P ops A O st0 fuel l →
    ∀ {m : Nat} {listed : Array Bool}, m ∈ l → listed.size = ops.size → (∀ j, j < ops.size → listed.getD j false = m.testBit j) → listed.count false ≤ fuel →
    ∀ {a : Act} {w : World}, Rel w0 (runM P ops A m 0 ops.toList st0) a w → wpAny P .any ops Q fuel listed a w := by
  have fin : ∀ {m : Nat} {listed : Array Bool}, (∀ j, j < ops.size → listed.getD j false = m.testBit j) → (∀ j, j < ops.size → listed.getD j false = true) →
      ∀ {a : Act} {w : World}, Rel w0 (runM P ops A m 0 ops.toList st0) a w → Q .normal a w := by
    intro m listed h1 h2 a w hr
    refine hQ a w ?_
    rw [runM_congr (m := 2 ^ ops.size - 1) (k := m)]
    · exact hr
    · intro j _ hj
      have hj' : j < ops.size := by simpa using hj
      rw [← h1 j hj', h2 j hj', Nat.testBit_two_pow_sub_one, decide_eq_true hj']
  intro fuel
  induction fuel with
  | zero =>
    intro l _ m listed _ hs h1 hcnt a w hr
    have hall : ∀ j, j < ops.size → listed.getD j false = true := by
      intro j hj
      cases hl : listed.getD j false with
      | true => rfl
      | false =>
        exfalso
        have hlt2 : j < listed.size := hs ▸ hj
        have hf : listed[j] = false := by simpa [Array.getElem?_eq_getElem hlt2] using hl
        have : 0 < listed.count false := by
          rw [Array.count_pos_iff]
          exact hf ▸ Array.getElem_mem hlt2
        omega
    refine ⟨?_, fin h1 hall hr⟩
    rw [List.eq_nil_iff_forall_not_mem]
    intro j hj
    obtain ⟨h2, o, ho', _⟩ := mem_ready.1 hj
    have hlt : j < ops.size := (Array.getElem?_eq_some_iff.1 ho').1
    have h3 := hall j hlt
    have hlt2 : j < listed.size := hs ▸ hlt
    simp [Array.getElem?_eq_getElem hlt2] at h2 h3
    rw [h2] at h3; cases h3
  | succ fuel ih =>
    intro l he m listed hml hs h1 hcnt a w hr
    simp only [edL, edR, List.cons.injEq] at he
    refine ⟨fun hnil => fin h1 (ready_nil hm hs hnil) hr, fun i hi => ?_⟩
    obtain ⟨h5, o, ho', hed⟩ := mem_ready.1 hi
    have hlt : i < ops.size := (Array.getElem?_eq_some_iff.1 ho').1
    have hlt2 : i < listed.size := hs ▸ hlt
    have hfi : listed.getD i false = false := by
      simp [Array.getElem?_eq_getElem hlt2] at h5 ⊢
      exact h5
    have hmc : mayCome o m = true := by
      unfold mayCome
      rw [List.all_eq_true]
      intro e hel
      cases hb : Region.binds .any e with
      | false => rfl
      | true =>
        have h6 := hed e (by simpa using hel) hb
        have h7 : e.on < listed.size := getD_lt h6
        rw [h1 e.on (hs ▸ h7)] at h6
        simp [h6]
    have hnx : (i, o) ∈ nexts m 0 ops.toList := by
      have := mem_nexts (m := m) (l := ops.toList) (i := 0) (j := i) (o := o) (by simpa using ho') (by rw [Nat.zero_add, ← h1 i hlt, hfi]) hmc
      rwa [Nat.zero_add] at this
    have hone := edge2_ok he.1 m hml _ hnx
    refine oneOp_wp ho' hone (obs_getD i ho) hr fun a' w' hr' => ih he.2 (mem_nextM hml hnx) (by simpa using hs) (fun j hj => ?_) ?_ hr'
    · rw [Nat.testBit_or, Nat.testBit_two_pow]
      by_cases hji : j = i
      · subst hji
        have hz : j < (listed.setIfInBounds j true).size := by simpa using hlt2
        simp [Array.getElem?_eq_getElem hz]
      · rw [getD_set_ne false (Ne.symm hji), h1 j hj, decide_eq_false (Ne.symm hji), Bool.or_false]
    · have hf : listed[i] = false := by simpa [Array.getElem?_eq_getElem hlt2] using hfi
      have : (listed.setIfInBounds i true).count false = listed.count false - 1 := by
        have e : listed.setIfInBounds i true = listed.set i true hlt2 := by unfold Array.setIfInBounds; rw [dif_pos hlt2]
        rw [e, Array.count_set]
        simp [hf]
      omega

theorem RegOk.of {P : Program} {ops : Array Oper} {st st' : St} (A : List (List Ans)) (O : List (List Prop)) (hc : (P.follows .mixedOrders && masksOk (mksGo ops.toList []) ops.toList) = true)
    (he : edL P ops A st ops.size [0] = edR P ops A O st ops.size [0]) (hf : runM P ops A (2 ^ ops.size - 1) 0 ops.toList st = st') (ho : Obs O.flatten) : RegOk P ops st st' := by
  intro w0 a w id Q hr hQ
  simp only [Bool.and_eq_true] at hc
  have hz : ∀ {l : List Oper} {i : Nat}, runM P ops A 0 i l st = st := by
    intro l
    induction l with
    | nil => intro i; rfl
    | cons o r ih => intro i; simp only [runM, Nat.zero_testBit, Bool.false_eq_true, if_false]; exact ih
  refine wp_region_any hc.1 (every_any hc.2 ho (fun a' w' h => hQ a' w' (hf ▸ h)) ops.size he (m := 0) List.mem_cons_self (by simp) (fun j hj => by simp [hj]) (by simp [Array.count_replicate]) ?_)
  rw [hz]
  exact hr.drew

/-- A region that draws: answered as a whole, or run. -/
def regStep (P : Program) (ops : Array Oper) (st : St) (ans : List Ans) : Stepped :=
  match ans with
  | .reg st' :: r => some (st', r, [RegOk P ops st st'])
  | _ => drawStep P ops st ans

theorem regStep_ok {P : Program} {ops : Array Oper} {st st' : St} {ans ans' : List Ans} {obs : List Prop} (h : regStep P ops st ans = some (st', ans', obs)) (ho : Obs obs) {w0 : Base} {a : Act} {w : World} (hr : Rel w0 st a w) {id : Nat}
    {Q : Exit → Act → World → Prop} (hQ : ∀ a' w', Rel w0 st' a' w' → Q .normal a' w') : (Code.region id ops true).wp P Q a w := by
  unfold regStep at h
  split at h
  · simp only [Option.some.injEq, Prod.mk.injEq] at h
    obtain ⟨rfl, _, rfl⟩ := h
    exact ho.1 w0 a w id Q hr hQ
  · exact drawStep_ok h ho hr hQ

end Go.Sx
