/- Every operation, one after the other. -/
import Derived.Test.YtamiheofgejehaaR12
set_option linter.unusedVariables false
set_option linter.unusedSimpArgs false
namespace Go.Sx
open Go.RowKit

def stepCall (P : Program) (st : St) (d : Option Nat) (f : FuncId) (args : List Operand) (ans : List Ans) : Stepped :=
  match P.funcs[f]?, args.mapM (fun x => (st.ev x).argD), ans with
  | some fn, some ads, .res rs :: r =>
    if (fn.name == "runtime.NumGoroutine") = false ∧ fn.body.isNone = false ∧ resFits rs = true then
      let t := 10000 * (d.getD 0 + 1)
      match d with
      | some d => some (⟨(st.cal t).env.set d (resPV t rs), (st.cal t).boxes⟩, r, [Ret P f ads rs])
      | none => some (st.cal t, r, [Ret P f ads rs])
    else none
  | _, _, _ => none

def opStep (P : Program) (st : St) (o : Oper) (ans : List Ans) : Stepped :=
  match o.dst, o.op with
  | some d, .box _ x => stepBox st d (st.ev x) ans
  | some d, .alloc ty => stepAlloc P st d ty ans
  | some d, .makeSlice t l c => stepMake P st d t (st.ev l) (st.ev c) ans
  | some d, .buildSlice t n parts => stepBuildSlice P st d t n parts.toList ans
  | none, .store ty x y =>
    match (st.ev x).leaf with
    | some (.ptr id off) => stepStoreBox P st ty id off (st.ev y) ans
    | some (.ep (.own t) k es i j) => stepStoreElem P st ty t k es i j (st.ev y) ans
    | _ => none
  | d, .call ⟨.value (.func f), args, _⟩ => stepCall P st d f args.toList ans
  | some d, .call ⟨.builtin .append, ⟨[x, y]⟩, ⟨[t, t']⟩⟩ => if t = t' then stepAppend P st d t x y ans else none
  | some d, op => (pureStep P st op ans).map fun r => (⟨st.env.set d r.1, st.boxes⟩, r.2.1, r.2.2)
  | none, op => (pureStep P st op ans).map fun r => (st, r.2.1, r.2.2)

theorem Calls.of {P : Program} {o : Oper} {a : Act} {w : World} {next : Act → World → Prop} {Q : Exit → Act → World → Prop} {z : Value} {w' : World} (h : (execOp a.eval o).run P w = .ok (.value z) w') (hn : next (a.put o.dst z) w') :
    o.wp P a w next Q := by
  unfold Oper.wp
  rw [h]
  exact hn

theorem opStep_ok {P : Program} {w0 : World} {st st' : St} {o : Oper} {ans ans' : List Ans} {obs : List Prop} (h : opStep P st o ans = some (st', ans', obs)) (ho : Obs obs) {a : Act} {w : World} (hrel : Rel w0 st a w)
    {next : Act → World → Prop} {Q : Exit → Act → World → Prop} (hnext : ∀ a' w', Rel w0 st' a' w' → next a' w') : o.wp P a w next Q := by
  obtain ⟨ω, τ, hrel⟩ := hrel
  obtain ⟨dst, op, type, pos, after, guard⟩ := o
  simp only [opStep] at h
  split at h
  · rename_i d ty x
    obtain ⟨z, w', h1, h2⟩ := RelAt.box (P := P) hrel (hrel.ev x) h ty
    exact Calls.of (run_v h1) (hnext _ _ h2)
  · rename_i d ty
    obtain ⟨z, w', h1, h2⟩ := RelAt.alloc hrel h
    exact Calls.of (run_v h1) (hnext _ _ h2)
  · rename_i d t l c
    obtain ⟨z, w', h1, h2⟩ := hrel.make (hrel.ev l) (hrel.ev c) h ho
    exact Calls.of (run_v h1) (hnext _ _ h2)
  · rename_i d t n parts
    obtain ⟨z, w', h1, h2⟩ := hrel.buildSlice h
    exact Calls.of (run_v h1) (hnext _ _ h2)
  · rename_i ty x y
    have fin : ∀ w', (Instr.storeAt ty (a.eval x) (a.eval y)).run P w = .ok () w' → Rel w0 st' a w' → Oper.wp P ⟨none, .store ty x y, type, pos, after, guard⟩ a w next Q := by
      intro w' h1 h2
      unfold Oper.wp execOp
      simp only [Sem.run_bind, h1, Result.andThen_ok, Sem.run_pure, Oper.upon]
      exact hnext _ _ h2
    split at h
    · rename_i id off e
      obtain ⟨b, hb, hx⟩ := PV.leaf_sat e (hrel.ev x)
      obtain ⟨w', h1, h2⟩ := hrel.storeAtBox (P := P) hb (hrel.ev y) h
      exact fin w' (by rw [hx]; exact h1) h2
    · rename_i t k es i j e
      obtain ⟨w', h1, h2⟩ := hrel.storeElem (P := P) (PV.leaf_sat e (hrel.ev x)) (hrel.ev y) h ho
      exact fin w' h1 h2
    · cases h
  · rename_i f args ts
    unfold stepCall at h
    split at h
    · rename_i fn ads rs r hfn hads
      split at h
      · rename_i hc
        obtain ⟨hc1, hc2, hc3⟩ := hc
        obtain ⟨hl, hg⟩ := mapM_get hads
        have hargs : ArgsOk w ads (args.map a.eval) := by
          refine ⟨by simp [hl], fun i ad hi => ?_⟩
          obtain ⟨x, hx, hx2⟩ := hg i ad hi
          refine ⟨a.eval x, ?_, PV.argD_sat hx2 (hrel.ev x)⟩
          rw [Array.getElem?_map]
          rw [Array.getElem?_toList] at hx
          rw [hx]; rfl
        have hrun : (execOp a.eval ⟨dst, .call ⟨.value (.func f), args, ts⟩, type, pos, after, guard⟩).run P w = .ok (.enter f (args.map a.eval)) w := by
          have hc1' : fn.name ≠ "runtime.NumGoroutine" := by simpa using hc1
          have hc2' : fn.body ≠ none := by intro e; rw [e] at hc2; cases hc2
          simp [execOp, resolve, Act.eval, Deferred.ofValue, invoke, callFunc, hfn, hc1', hc2']
        have key : ∀ (obs' : List Prop), obs = obs' → Obs obs' → obs' = [Ret P f ads rs] → ∀ (K : Act → World → Prop), (∀ v w', Below w.heap.size w w' → ResOk w w' rs v → K (a.put dst v) w') →
            Oper.wp P ⟨dst, .call ⟨.value (.func f), args, ts⟩, type, pos, after, guard⟩ a w K Q := by
          intro obs' _ ho' e K hK
          subst e
          unfold Oper.wp
          rw [hrun]
          simp only [Oper.upon]
          refine (ho'.1 w _ hargs).mono ?_
          rintro e w' ⟨v, rfl, hb, hr⟩
          exact hK v w' hb hr
        simp only at h
        cases dst with
        | none =>
          simp only [Option.some.injEq, Prod.mk.injEq] at h
          obtain ⟨rfl, _, rfl⟩ := h
          refine key _ rfl ho rfl next fun v w' hb hr => hnext _ _ ?_
          obtain ⟨ω', τ', h1, _⟩ := hrel.called (10000 * (Option.getD none 0 + 1)) hc3 hb hr
          exact ⟨ω', τ', h1⟩
        | some d =>
          simp only [Option.some.injEq, Prod.mk.injEq] at h
          obtain ⟨rfl, _, rfl⟩ := h
          refine key _ rfl ho rfl next fun v w' hb hr => hnext _ _ ?_
          obtain ⟨ω', τ', h1, h2⟩ := hrel.called (10000 * (Option.getD (some d) 0 + 1)) hc3 hb hr
          exact ⟨ω', τ', h1.put h2⟩
      · cases h
    · cases h
  · rename_i d x y t t'
    split at h
    · rename_i htt
      subst htt
      obtain ⟨z, w', h1, h2⟩ := hrel.stepAppend (ty := type) h ho
      refine Calls.of (z := z) (w' := w') ?_ (hnext _ _ h2)
      have : (execOp a.eval ⟨some d, .call ⟨.builtin .append, ⟨[x, y]⟩, ⟨[t, t]⟩⟩, type, pos, after, guard⟩) = (builtin .append ⟨[t, t]⟩ type (Array.map (fun | .const _ => true | _ => false) ⟨[x, y]⟩) (Array.map a.eval ⟨[x, y]⟩)) := by
        simp only [execOp, resolve]
        rfl
      rw [this]
      exact run_v (by simpa using h1)
    · cases h
  · rw [Option.map_eq_some_iff] at h
    obtain ⟨⟨r1, r2, r3⟩, h1, h⟩ := h
    simp only [Prod.mk.injEq] at h
    obtain ⟨rfl, rfl, rfl⟩ := h
    obtain ⟨z, h2, h3⟩ := pureStep_ok (o := ⟨_, _, type, pos, after, guard⟩) hrel h1 ho
    exact Calls.of h2 (hnext _ _ ⟨ω, τ, hrel.put h3⟩)
  · rw [Option.map_eq_some_iff] at h
    obtain ⟨⟨r1, r2, r3⟩, h1, h⟩ := h
    simp only [Prod.mk.injEq] at h
    obtain ⟨rfl, rfl, rfl⟩ := h
    obtain ⟨z, h2, h3⟩ := pureStep_ok (o := ⟨_, _, type, pos, after, guard⟩) hrel h1 ho
    exact Calls.of h2 (hnext _ _ ⟨ω, τ, hrel⟩)

/-- The slot of an operation that is not carried out. -/
def skipOp (st : St) (dst : Option Nat) : St :=
  match dst with
  | some d => ⟨st.env.set d (.one (.v undef)), st.boxes⟩
  | none => st

theorem skipOp_ok {w0 : World} {st : St} {a : Act} {w : World} {dst : Option Nat} (h : Rel w0 st a w) : Rel w0 (skipOp st dst) (a.put dst undef) w := by
  obtain ⟨ω, τ, h⟩ := h
  cases dst with
  | none => exact ⟨ω, τ, h⟩
  | some d => exact ⟨ω, τ, h.put (p := .one (.v undef)) rfl⟩

/-- Is the operation carried out? A test that is not decided is answered, and stands decided from there on. -/
def wantStep (ops : Array Oper) (st : St) (o : Oper) (ans : List Ans) : Option (Bool × St × List Ans × List Prop) :=
  match o.guard with
  | none => some (true, st, ans, [])
  | some (j, want) =>
    match (ops[j]?).bind (·.dst) with
    | some s =>
      match (st.env.getD s .und).leaf with
      | some (.v (.bool b)) => some (b == want, st, ans, [])
      | some (.v (.tuple _)) => some (false, st, ans, [])
      | some (.sb c) =>
        match ans with
        | .br b :: r => some (b == want, ⟨st.env.set s (.one (.v (.bool b))), st.boxes⟩, r, [c = b])
        | _ => none
      | _ => none
    | none => none

theorem wantStep_ok {ops : Array Oper} {w0 : World} {st st' : St} {o : Oper} {ans ans' : List Ans} {obs : List Prop} {b : Bool} (h : wantStep ops st o ans = some (b, st', ans', obs)) (ho : Obs obs) {a : Act} {w : World} (hrel : Rel w0 st a w) :
    Region.wanted o (yielded ops a.tmps) = b ∧ Rel w0 st' a w := by
  obtain ⟨ω, τ, hrel⟩ := hrel
  unfold wantStep at h
  split at h
  · rename_i hg
    simp only [Option.some.injEq, Prod.mk.injEq] at h
    obtain ⟨rfl, rfl, _, _⟩ := h
    exact ⟨by simp [Region.wanted, hg], ω, τ, hrel⟩
  · rename_i j want hg
    split at h
    · rename_i s hs
      have hsat : ∀ l, (st.env.getD s .und).leaf = some l → ∀ x, (∀ y, Sat w ω τ l y → y = x) → (l = .und → False) → a.tmps[s]? = some x := by
        intro l hl x hx hne
        rw [List.getD_eq_getElem?_getD] at hl
        cases e : st.env[s]? with
        | none =>
          rw [e] at hl
          simp only [Option.getD_none, PV.leaf, Option.some.injEq] at hl
          exact absurd hl.symm hne
        | some p =>
          rw [e] at hl
          obtain ⟨v, h1, h2⟩ := hrel.env s p e
          rw [h1, hx v (PV.leaf_sat hl h2)]
      split at h
      · rename_i b' hl
        simp only [Option.some.injEq, Prod.mk.injEq] at h
        obtain ⟨rfl, rfl, _, _⟩ := h
        have := hsat _ hl (.bool b') (fun y hy => hy) (fun h => by cases h)
        exact ⟨by simp [Region.wanted, hg, yielded, hs, this], ω, τ, hrel⟩
      · rename_i vs hl
        simp only [Option.some.injEq, Prod.mk.injEq] at h
        obtain ⟨rfl, rfl, _, _⟩ := h
        have := hsat _ hl (.tuple vs) (fun y hy => hy) (fun h => by cases h)
        exact ⟨by simp [Region.wanted, hg, yielded, hs, this], ω, τ, hrel⟩
      · rename_i c hl
        split at h
        · rename_i b' r
          simp only [Option.some.injEq, Prod.mk.injEq] at h
          obtain ⟨rfl, rfl, _, rfl⟩ := h
          have hcb : c = b' := ho.1
          subst hcb
          have := hsat _ hl (.bool c) (fun y hy => hy) (fun h => by cases h)
          refine ⟨by simp [Region.wanted, hg, yielded, hs, this], ω, τ, ?_⟩
          have hput := hrel.put (d := s) (p := .one (.v (.bool c))) (v := .bool c) rfl
          have e : a.put (some s) (.bool c) = a := by
            simp only [Act.put]
            have : a.tmps.setIfInBounds s (.bool c) = a.tmps := by
              apply Array.ext
              · simp
              · intro i h1 h2
                rw [Array.getElem_setIfInBounds]
                split
                · rename_i hi
                  subst hi
                  rw [Array.getElem?_eq_getElem h2] at this
                  exact (Option.some.inj this).symm
                · rfl
            rw [this]
          rwa [e] at hput
        · cases h
      · cases h
    · cases h

def runOps (P : Program) (ops : Array Oper) : List Oper → St → List Ans → Stepped
  | [], st, ans => some (st, ans, [])
  | o :: rest, st, ans =>
    match wantStep ops st o ans with
    | some (true, st1, ans1, obs1) =>
      match opStep P st1 o ans1 with
      | some (st2, ans2, obs2) => (runOps P ops rest st2 ans2).map fun r => (r.1, r.2.1, obs1 ++ (obs2 ++ r.2.2))
      | none => none
    | some (false, st1, ans1, obs1) => (runOps P ops rest (skipOp st1 o.dst) ans1).map fun r => (r.1, r.2.1, obs1 ++ r.2.2)
    | none => none

theorem runOps_ok {P : Program} {ops : Array Oper} {w0 : World} {Q : Exit → Act → World → Prop} : ∀ (l : List Oper) {st st' : St} {ans ans' : List Ans} {obs : List Prop}, runOps P ops l st ans = some (st', ans', obs) → Obs obs →
    ∀ {a : Act} {w : World}, Rel w0 st a w → (∀ a' w', Rel w0 st' a' w' → Q .normal a' w') → wpList P ops Q l a w
  | [], st, st', ans, ans', obs, h, _, a, w, hrel, hQ => by
    simp only [runOps, Option.some.injEq, Prod.mk.injEq] at h
    obtain ⟨rfl, _, _⟩ := h
    exact hQ _ _ hrel
  | o :: rest, st, st', ans, ans', obs, h, ho, a, w, hrel, hQ => by
    simp only [runOps] at h
    split at h
    · rename_i st1 ans1 obs1 hw
      split at h
      · rename_i st2 ans2 obs2 hop
        rw [Option.map_eq_some_iff] at h
        obtain ⟨⟨r1, r2, r3⟩, h1, h⟩ := h
        simp only [Prod.mk.injEq] at h
        obtain ⟨rfl, rfl, rfl⟩ := h
        obtain ⟨o1, o23⟩ := ho.append
        obtain ⟨o2, o3⟩ := o23.append
        obtain ⟨hwant, hr1⟩ := wantStep_ok hw o1 hrel
        refine wpList_step fun K hK => ?_
        rw [if_pos hwant]
        exact opStep_ok hop o2 hr1 fun a' w' hr' => hK _ _ (runOps_ok rest h1 o3 hr' hQ)
      · cases h
    · rename_i st1 ans1 obs1 hw
      rw [Option.map_eq_some_iff] at h
      obtain ⟨⟨r1, r2, r3⟩, h1, h⟩ := h
      simp only [Prod.mk.injEq] at h
      obtain ⟨rfl, rfl, rfl⟩ := h
      obtain ⟨o1, o3⟩ := ho.append
      obtain ⟨hwant, hr1⟩ := wantStep_ok hw o1 hrel
      refine wpList_step fun K hK => ?_
      rw [if_neg (by rw [hwant]; simp)]
      exact hK _ _ (runOps_ok rest h1 o3 (skipOp_ok hr1) hQ)
    · cases h
end Go.Sx
