/- Every operation, one after the other. -/
import Derived.Test.YtialmplmfcahpaaGreatR26
set_option linter.unusedVariables false
set_option linter.unusedSimpArgs false
namespace Go.Sx
open Go.RowKit
def qhW (P : Program) (st : St) (d : Option Nat) (f : FuncId) (args : List Operand) (ans : List Ans) : Stepped :=
  match P.funcs[f]?, args.mapM (fun x => (st.ev x).argD st.boxes), ans with
  | some fn, some ads, .res rs :: r =>
    if (fn.name == "runtime.NumGoroutine") = false ∧ fn.body.isNone = false ∧ qc2 rs = true ∧ 10000 * (d.getD 0 + 1) + 10000 ≤ giv then
      let t := 10000 * (d.getD 0 + 1)
      match d with
      | some d => some (⟨(st.cal t).env.set d (resPV t rs), (st.cal t).boxes⟩, r, [Ret P f ads rs])
      | none => some (st.cal t, r, [Ret P f ads rs])
    else none
  | _, _, _ => none
def qkG (P : Program) (st : St) (d : Option Nat) (f : Operand) (args : List Operand) (ans : List Ans) : Stepped :=
  match (st.ev f).leaf.bind (Leaf.argD st.boxes), args.mapM (fun x => (st.ev x).argD st.boxes), ans with
  | some (.cl g caps), some ads, .res rs :: r =>
    if qc2 rs = true ∧ 10000 * (d.getD 0 + 1) + 10000 ≤ giv then
      let t := 10000 * (d.getD 0 + 1)
      match d with
      | some d => some (⟨(st.cal t).env.set d (resPV t rs), (st.cal t).boxes⟩, r, [qbk P g = true, Ret P g (ads ++ caps.map .one) rs])
      | none => some (st.cal t, r, [qbk P g = true, Ret P g (ads ++ caps.map .one) rs])
    else none
  | _, _, _ => none
def isG : List Ans → Bool
  | .resG _ _ _ _ :: _ => true
  | _ => false
def isOwn : List Ans → Bool
  | .own :: _ => true
  | _ => false
def qbY (P : Program) (st : St) (o : Oper) (ans : List Ans) : Stepped :=
  match o.dst, o.op with
  | some d, .box _ x => qhw st d (st.ev x) ans
  | some d, .alloc ty => qhx P st d ty ans
  | some d, .makeSlice t l c => qhA P st d t (st.ev l) (st.ev c) ans
  | some d, .buildSlice t n parts => qe3 P st d t n parts.toList ans
  | none, .store ty x y =>
    match (st.ev x).leaf with
    | some (.ptr id off) => qhy P st ty id off (st.ev y) ans
    | some (.ep (.own t) k es i j) => qhJ P st ty t k es i j (st.ev y) ans
    | _ => none
  | d, .call ⟨.value (.func f), args, _⟩ => if isG ans then qhU P st d f args.toList ans else qhW P st d f args.toList ans
  | d, .call ⟨.value (.tmp x), args, _⟩ => qkG P st d (.tmp x) args.toList ans
  | some d, .call ⟨.builtin .append, ⟨[x, y]⟩, ⟨[t, t']⟩⟩ =>
    if t = t' then
      stepAppend P st d t x y ans
    else none
  | some d, .slice t x lo hi mx => if isOwn ans then stepCut P st d t (st.ev x) lo hi mx ans.tail else (qbJ P st (.slice t x lo hi mx) ans).map fun r => (⟨st.env.set d r.1, st.boxes⟩, r.2.1, r.2.2)
  | some d, op => (qbJ P st op ans).map fun r => (⟨st.env.set d r.1, st.boxes⟩, r.2.1, r.2.2)
  | none, op => (qbJ P st op ans).map fun r => (st, r.2.1, r.2.2)
theorem Calls.of {P : Program} {o : Oper} {a : Act} {w : World} {next : Act → World → Prop} {Q : Exit → Act → World → Prop} {z : Value} {w' : World} (h : (execOp a.eval o).run P w = .ok (.value z) w') (hn : next (a.put o.dst z) w') :
    o.wp P a w next Q := by
  unfold Oper.wp
  rw [h]
  exact hn
theorem qkH {P : Program} {w0 : Base} {st st' : St} {o : Oper} {ans ans' : List Ans} {obs : List Prop} (h : qbY P st o ans = some (st', ans', obs)) (ho : Obs obs) {a : Act} {w : World} (hrel : Rel w0 st a w)
    {next : Act → World → Prop} {Q : Exit → Act → World → Prop} (hnext : ∀ a' w', Rel w0 st' a' w' → next a' w') : o.wp P a w next Q := by
  obtain ⟨ω, τ, hrel⟩ := hrel
  obtain ⟨dst, op, type, pos, after, guard⟩ := o
  simp only [qbY] at h
  split at h
  · rename_i d ty x
    obtain ⟨z, w', h1, h2⟩ := RelAt.box (P := P) hrel (hrel.ev x) h ty
    exact Calls.of (run_v h1) (hnext _ _ h2)
  · rename_i d ty
    obtain ⟨z, w', h1, h2⟩ := RelAt.alloc hrel h
    exact Calls.of (run_v h1) (hnext _ _ h2)
  · rename_i d t l c
    obtain ⟨z, w', h1, h2⟩ := hrel.make (hrel.ev l) (hrel.ev c) h ho
    exact Calls.of (run_v h1) (hnext _ _ h2)
  · rename_i d t n parts
    obtain ⟨z, w', h1, h2⟩ := hrel.buildSlice h
    exact Calls.of (run_v h1) (hnext _ _ h2)
  · rename_i ty x y
    have fin : ∀ w', (Instr.storeAt ty (a.eval x) (a.eval y)).run P w = .ok () w' → Rel w0 st' a w' → Oper.wp P ⟨none, .store ty x y, type, pos, after, guard⟩ a w next Q := by
      intro w' h1 h2
      unfold Oper.wp execOp
      simp only [Sem.run_bind, h1, Result.andThen_ok, Sem.run_pure, Oper.upon]
      exact hnext _ _ h2
    split at h
    · rename_i id off e
      obtain ⟨b, hb, hx⟩ := PV.leaf_sat e (hrel.ev x)
      obtain ⟨w', h1, h2⟩ := hrel.storeAtBox (P := P) hb (hrel.ev y) h
      exact fin w' (by rw [hx]; exact h1) h2
    · rename_i t k es i j e
      obtain ⟨w', h1, h2⟩ := hrel.storeElem (P := P) (PV.leaf_sat e (hrel.ev x)) (hrel.ev y) h ho
      exact fin w' h1 h2
    · cases h
  · rename_i f args ts
    split at h
    · exact qn4 hrel h ho hnext
    rename_i hisg
    unfold qhW at h
    clear hisg
    split at h
    · rename_i fn ads rs r hfn hads
      split at h
      · rename_i hc
        obtain ⟨hc1, hc2, hc3, hcg⟩ := hc
        obtain ⟨hl, hg⟩ := qbW hads
        have hargs : qfK w ads (args.map a.eval) := by
          refine ⟨by simp [hl], fun i ad hi => ?_⟩
          obtain ⟨x, hx, hx2⟩ := hg i ad hi
          refine ⟨a.eval x, ?_, PV.argD_sat hrel.boxes hx2 (hrel.ev x)⟩
          rw [Array.getElem?_map]
          rw [Array.getElem?_toList] at hx
          rw [hx]; rfl
        have hrun : (execOp a.eval ⟨dst, .call ⟨.value (.func f), args, ts⟩, type, pos, after, guard⟩).run P w = .ok (.enter f (args.map a.eval)) w := by
          have hc1' : fn.name ≠ "runtime.NumGoroutine" := by simpa using hc1
          have hc2' : fn.body ≠ none := by intro e; rw [e] at hc2; cases hc2
          simp [execOp, resolve, Act.eval, Deferred.ofValue, invoke, callFunc, hfn, hc1', hc2']
        have key : ∀ (obs' : List Prop), obs = obs' → Obs obs' → obs' = [Ret P f ads rs] → ∀ (K : Act → World → Prop), (∀ v w', Blw w.heap.size w w' → ResOk w w' rs v → K (a.put dst v) w') →
            Oper.wp P ⟨dst, .call ⟨.value (.func f), args, ts⟩, type, pos, after, guard⟩ a w K Q := by
          intro obs' _ ho' e K hK
          subst e
          unfold Oper.wp
          rw [hrun]
          simp only [Oper.upon]
          refine (ho'.1 w _ hargs).mono ?_
          rintro e w' ⟨v, rfl, hb, hr⟩
          exact hK v w' hb hr
        simp only at h
        cases dst with
        | none =>
          simp only [Option.some.injEq, Prod.mk.injEq] at h
          obtain ⟨rfl, _, rfl⟩ := h
          refine key _ rfl ho rfl next fun v w' hb hr => hnext _ _ ?_
          obtain ⟨ω', τ', h1, _⟩ := hrel.called (10000 * (Option.getD none 0 + 1)) hc3 hcg hb hr
          exact ⟨ω', τ', h1⟩
        | some d =>
          simp only [Option.some.injEq, Prod.mk.injEq] at h
          obtain ⟨rfl, _, rfl⟩ := h
          refine key _ rfl ho rfl next fun v w' hb hr => hnext _ _ ?_
          obtain ⟨ω', τ', h1, h2⟩ := hrel.called (10000 * (Option.getD (some d) 0 + 1)) hc3 hcg hb hr
          exact ⟨ω', τ', h1.put h2⟩
      · cases h
    · cases h
  · rename_i x args ts
    unfold qkG at h
    split at h
    · rename_i g caps ads rs r hf hads
      split at h
      · rename_i hc
        obtain ⟨hc3, hcg⟩ := hc
        obtain ⟨hl, hg⟩ := qbW hads
        have hl2 : ads.length = args.size := by rw [hl, Array.length_toList]
        rw [Option.bind_eq_some_iff] at hf
        obtain ⟨lf, hlf, hlf2⟩ := hf
        have hfun : qbg w (.cl g caps) (a.eval (.tmp x)) := Leaf.argD_sat hrel.boxes hlf2 (PV.leaf_sat hlf (hrel.ev (.tmp x)))
        have hfun' : ∃ cs : Array Value, a.eval (.tmp x) = .func (.func g) #[] cs ∧ cs.size = caps.length ∧ ∀ (j : Nat) (d : D), caps[j]? = some d → ∃ u, cs[j]? = some u ∧ qbg w d u := by
          generalize a.eval (.tmp x) = y at hfun
          cases hfun with
          | cl R g caps cs us hs hu hd => exact ⟨cs, rfl, hs, fun j d hj => ⟨us j, hu j d hj, (hd j d hj).free⟩⟩
        obtain ⟨cs, hcs, hcn, hcv⟩ := hfun'
        have hargs : qfK w (ads ++ caps.map .one) (args.map a.eval ++ cs) := by
          refine ⟨by simp [hl, hcn], fun i ad hi => ?_⟩
          rw [List.getElem?_append] at hi
          rw [Array.getElem?_append]
          split at hi
          · rename_i hi2
            rw [if_pos (by simp; omega)]
            obtain ⟨y, hy, hy2⟩ := hg i ad hi
            refine ⟨a.eval y, ?_, PV.argD_sat hrel.boxes hy2 (hrel.ev y)⟩
            rw [Array.getElem?_map]
            rw [Array.getElem?_toList] at hy
            rw [hy]; rfl
          · rename_i hi2
            rw [if_neg (by simp; omega)]
            rw [List.getElem?_map, Option.map_eq_some_iff] at hi
            obtain ⟨d, hd, rfl⟩ := hi
            obtain ⟨u, hu1, hu2⟩ := hcv _ d hd
            refine ⟨u, ?_, hu2⟩
            rw [← hu1]
            congr 1
            simp; omega
        have hrun : qbk P g = true → (execOp a.eval ⟨dst, .call ⟨.value (.tmp x), args, ts⟩, type, pos, after, guard⟩).run P w = .ok (.enter g (args.map a.eval ++ cs)) w := by
          intro hcc
          unfold qbk at hcc
          split at hcc
          · rename_i fn hfn
            simp only [Bool.and_eq_true, Bool.not_eq_true', beq_eq_false_iff_ne, ne_eq] at hcc
            have hc2' : fn.body ≠ none := by intro e; rw [e] at hcc; simp at hcc
            simp [execOp, resolve, hcs, Deferred.ofValue, invoke, callFunc, hfn, hcc.1, hc2']
          · cases hcc
        have key : ∀ (obs' : List Prop), obs = obs' → Obs obs' → obs' = [qbk P g = true, Ret P g (ads ++ caps.map .one) rs] → ∀ (K : Act → World → Prop), (∀ v w', Blw w.heap.size w w' → ResOk w w' rs v → K (a.put dst v) w') →
            Oper.wp P ⟨dst, .call ⟨.value (.tmp x), args, ts⟩, type, pos, after, guard⟩ a w K Q := by
          intro obs' _ ho' e K hK
          subst e
          unfold Oper.wp
          rw [hrun ho'.1]
          simp only [Oper.upon]
          refine (ho'.2.1 w _ hargs).mono ?_
          rintro e w' ⟨v, rfl, hb, hr⟩
          exact hK v w' hb hr
        simp only at h
        cases dst with
        | none =>
          simp only [Option.some.injEq, Prod.mk.injEq] at h
          obtain ⟨rfl, _, rfl⟩ := h
          refine key _ rfl ho rfl next fun v w' hb hr => hnext _ _ ?_
          obtain ⟨ω', τ', h1, _⟩ := hrel.called (10000 * (Option.getD none 0 + 1)) hc3 hcg hb hr
          exact ⟨ω', τ', h1⟩
        | some d =>
          simp only [Option.some.injEq, Prod.mk.injEq] at h
          obtain ⟨rfl, _, rfl⟩ := h
          refine key _ rfl ho rfl next fun v w' hb hr => hnext _ _ ?_
          obtain ⟨ω', τ', h1, h2⟩ := hrel.called (10000 * (Option.getD (some d) 0 + 1)) hc3 hcg hb hr
          exact ⟨ω', τ', h1.put h2⟩
      · cases h
    · cases h
  · rename_i d x y t t'
    split at h
    · rename_i htt
      subst htt
      have hap : ∃ z w', (Builtin.append_ #[t, t] type #[a.eval x, a.eval y]).run P w = .ok z w' ∧ Rel w0 st' (a.put (some d) z) w' := by
        exact hrel.stepAppend (ty := type) h ho
      obtain ⟨z, w', h1, h2⟩ := hap
      refine Calls.of (z := z) (w' := w') ?_ (hnext _ _ h2)
      have : (execOp a.eval ⟨some d, .call ⟨.builtin .append, ⟨[x, y]⟩, ⟨[t, t]⟩⟩, type, pos, after, guard⟩) = (builtin .append ⟨[t, t]⟩ type (Array.map (fun | .const _ => true | _ => false) ⟨[x, y]⟩) (Array.map a.eval ⟨[x, y]⟩)) := by
        simp only [execOp, resolve]
        rfl
      rw [this]
      exact run_v (by simpa using h1)
    · cases h
  · rename_i d t x lo hi mx
    split at h
    · obtain ⟨z, h1, h2⟩ := hrel.stepCut (P := P) (hrel.ev x) h ho
      exact Calls.of (run_v h1) (hnext _ _ h2)
    · rw [Option.map_eq_some_iff] at h
      obtain ⟨⟨r1, r2, r3⟩, h1, h⟩ := h
      simp only [Prod.mk.injEq] at h
      obtain ⟨rfl, rfl, rfl⟩ := h
      obtain ⟨z, h2, h3⟩ := qhv (o := ⟨_, _, type, pos, after, guard⟩) hrel h1 ho
      exact Calls.of h2 (hnext _ _ ⟨ω, τ, hrel.put h3⟩)
  · rw [Option.map_eq_some_iff] at h
    obtain ⟨⟨r1, r2, r3⟩, h1, h⟩ := h
    simp only [Prod.mk.injEq] at h
    obtain ⟨rfl, rfl, rfl⟩ := h
    obtain ⟨z, h2, h3⟩ := qhv (o := ⟨_, _, type, pos, after, guard⟩) hrel h1 ho
    exact Calls.of h2 (hnext _ _ ⟨ω, τ, hrel.put h3⟩)
  · rw [Option.map_eq_some_iff] at h
    obtain ⟨⟨r1, r2, r3⟩, h1, h⟩ := h
    simp only [Prod.mk.injEq] at h
    obtain ⟨rfl, rfl, rfl⟩ := h
    obtain ⟨z, h2, h3⟩ := qhv (o := ⟨_, _, type, pos, after, guard⟩) hrel h1 ho
    exact Calls.of h2 (hnext _ _ ⟨ω, τ, hrel⟩)
def qbN (P : Program) (st : St) (o : Oper) (ans : List Ans) : Stepped :=
  match o.dst, o.op with
  | some d, .alloc ty => qfM P st d ty ans
  | none, .store ty (.tmp s) y => qfN P st ty s (st.ev y) ans
  | _, _ => qbY P st o ans
theorem qn6 {P : Program} {w0 : Base} {st st' : St} {o : Oper} {ans ans' : List Ans} {obs : List Prop} (h : qbN P st o ans = some (st', ans', obs)) (ho : Obs obs) {a : Act} {w : World} (hrel : Rel w0 st a w)
    {next : Act → World → Prop} {Q : Exit → Act → World → Prop} (hnext : ∀ a' w', Rel w0 st' a' w' → next a' w') : o.wp P a w next Q := by
  obtain ⟨dst, op, type, pos, after, guard⟩ := o
  unfold qbN at h
  split at h
  · rename_i d ty e1 e2
    simp only at e1 e2
    subst e1
    subst e2
    obtain ⟨ω, τ, hrel⟩ := hrel
    obtain ⟨z, w', h1, h2⟩ := RelAt.allocNp hrel h
    exact Calls.of (run_v h1) (hnext _ _ h2)
  · rename_i ty s y e1 e2
    simp only at e1 e2
    subst e1
    subst e2
    obtain ⟨ω, τ, hrel⟩ := hrel
    obtain ⟨w', h1, h2⟩ := hrel.storeNp (P := P) (hrel.ev y) h
    unfold Oper.wp execOp
    simp only [Sem.run_bind, h1, Result.andThen_ok, Sem.run_pure, Oper.upon]
    exact hnext _ _ h2
  · exact qkH h ho hrel hnext
def qfb (st : St) (dst : Option Nat) : St :=
  match dst with
  | some d => ⟨st.env.set d (.one (.v undef)), st.boxes⟩
  | none => st
theorem qkI {w0 : Base} {st : St} {a : Act} {w : World} {dst : Option Nat} (h : Rel w0 st a w) : Rel w0 (qfb st dst) (a.put dst undef) w := by
  obtain ⟨ω, τ, h⟩ := h
  cases dst with
  | none => exact ⟨ω, τ, h⟩
  | some d => exact ⟨ω, τ, h.put (p := .one (.v undef)) rfl⟩
def qcN (ops : Array Oper) (st : St) (o : Oper) (ans : List Ans) : Option (Bool × St × List Ans × List Prop) :=
  match o.guard with
  | none => some (true, st, ans, [])
  | some (j, want) =>
    match (ops[j]?).bind (·.dst) with
    | some s =>
      match (st.env.getD s .und).leaf with
      | some (.v (.bool b)) => some (b == want, st, ans, [])
      | some (.v (.tuple _)) => some (false, st, ans, [])
      | some (.sb c) =>
        match ans with
        | .br b :: r => some (b == want, ⟨st.env.set s (.one (.v (.bool b))), st.boxes⟩, r, [c = b])
        | _ => none
      | _ => none
    | none => none
theorem qfQ {ops : Array Oper} {w0 : Base} {st st' : St} {o : Oper} {ans ans' : List Ans} {obs : List Prop} {b : Bool} (h : qcN ops st o ans = some (b, st', ans', obs)) (ho : Obs obs) {a : Act} {w : World} (hrel : Rel w0 st a w) :
    Region.wanted o (yielded ops a.tmps) = b ∧ Rel w0 st' a w := by
  obtain ⟨ω, τ, hrel⟩ := hrel
  unfold qcN at h
  split at h
  · rename_i hg
    simp only [Option.some.injEq, Prod.mk.injEq] at h
    obtain ⟨rfl, rfl, _, _⟩ := h
    exact ⟨by simp [Region.wanted, hg], ω, τ, hrel⟩
  · rename_i j want hg
    split at h
    · rename_i s hs
      have hsat : ∀ l, (st.env.getD s .und).leaf = some l → ∀ x, (∀ y, Sat w ω τ l y → y = x) → (l = .und → False) → a.tmps[s]? = some x := by
        intro l hl x hx hne
        rw [List.getD_eq_getElem?_getD] at hl
        cases e : st.env[s]? with
        | none =>
          rw [e] at hl
          simp only [Option.getD_none, PV.leaf, Option.some.injEq] at hl
          exact absurd hl.symm hne
        | some p =>
          rw [e] at hl
          obtain ⟨v, h1, h2⟩ := hrel.env s p e
          rw [h1, hx v (PV.leaf_sat hl h2)]
      split at h
      · rename_i b' hl
        simp only [Option.some.injEq, Prod.mk.injEq] at h
        obtain ⟨rfl, rfl, _, _⟩ := h
        have := hsat _ hl (.bool b') (fun y hy => hy) (fun h => by cases h)
        exact ⟨by simp [Region.wanted, hg, yielded, hs, this], ω, τ, hrel⟩
      · rename_i vs hl
        simp only [Option.some.injEq, Prod.mk.injEq] at h
        obtain ⟨rfl, rfl, _, _⟩ := h
        have := hsat _ hl (.tuple vs) (fun y hy => hy) (fun h => by cases h)
        exact ⟨by simp [Region.wanted, hg, yielded, hs, this], ω, τ, hrel⟩
      · rename_i c hl
        split at h
        · rename_i b' r
          simp only [Option.some.injEq, Prod.mk.injEq] at h
          obtain ⟨rfl, rfl, _, rfl⟩ := h
          have hcb : c = b' := ho.1
          subst hcb
          have := hsat _ hl (.bool c) (fun y hy => hy) (fun h => by cases h)
          refine ⟨by simp [Region.wanted, hg, yielded, hs, this], ω, τ, ?_⟩
          have hput := hrel.put (d := s) (p := .one (.v (.bool c))) (v := .bool c) rfl
          have e : a.put (some s) (.bool c) = a := by
            simp only [Act.put]
            have : a.tmps.setIfInBounds s (.bool c) = a.tmps := by
              apply Array.ext
              · simp
              · intro i h1 h2
                rw [Array.getElem_setIfInBounds]
                split
                · rename_i hi
                  subst hi
                  rw [Array.getElem?_eq_getElem h2] at this
                  exact (Option.some.inj this).symm
                · rfl
            rw [this]
          rwa [e] at hput
        · cases h
      · cases h
    · cases h
def oneOp (P : Program) (ops : Array Oper) (o : Oper) (st : St) (ans : List Ans) : Stepped :=
  match qcN ops st o ans with
  | some (true, st1, ans1, obs1) => (qbY P st1 o ans1).map fun r => (r.1, r.2.1, obs1 ++ r.2.2)
  | some (false, st1, ans1, obs1) => some (qfb st1 o.dst, ans1, obs1)
  | none => none
theorem qkJ {P : Program} {ops : Array Oper} {w0 : Base} {Q : Exit → Act → World → Prop} {o : Oper} {rest : List Oper} {st st' : St} {ans ans' : List Ans} {obs : List Prop} (h : oneOp P ops o st ans = some (st', ans', obs)) (ho : Obs obs)
    {a : Act} {w : World} (hrel : Rel w0 st a w) (hK : ∀ a' w', Rel w0 st' a' w' → wpList P ops Q rest a' w') : wpList P ops Q (o :: rest) a w := by
  unfold oneOp at h
  split at h
  · rename_i st1 ans1 obs1 hw
    rw [Option.map_eq_some_iff] at h
    obtain ⟨⟨r1, r2, r3⟩, h1, h⟩ := h
    simp only [Prod.mk.injEq] at h
    obtain ⟨rfl, rfl, rfl⟩ := h
    obtain ⟨o1, o2⟩ := ho.append
    obtain ⟨hwant, hr1⟩ := qfQ hw o1 hrel
    refine wpList_step fun K hKK => ?_
    rw [if_pos hwant]
    exact qkH h1 o2 hr1 fun a' w' hr' => hKK _ _ (hK _ _ hr')
  · rename_i st1 ans1 obs1 hw
    simp only [Option.some.injEq, Prod.mk.injEq] at h
    obtain ⟨rfl, rfl, rfl⟩ := h
    obtain ⟨hwant, hr1⟩ := qfQ hw ho hrel
    refine wpList_step fun K hKK => ?_
    rw [if_neg (by rw [hwant]; simp)]
    exact hKK _ _ (hK _ _ (qkI hr1))
  · cases h
def qhX (o o2 : Oper) : Option (Nat × TypeId × Operand × Option Operand × TypeId) :=
  match o.dst, o.op, o.guard, o2.dst, o2.op, o2.guard with
  | some d, .slice t x lo none none, none, none, .call ⟨.builtin .clear, ⟨[.tmp d']⟩, ⟨[tc]⟩⟩, none => if d = d' then some (d, t, x, lo, tc) else none
  | _, _, _, _, _, _ => none
theorem qn7 {P : Program} {ops : Array Oper} {w0 : Base} {Q : Exit → Act → World → Prop} {o o2 : Oper} {rest : List Oper} {d : Nat} {t tc : TypeId} {x : Operand} {lo : Option Operand} (hp : qhX o o2 = some (d, t, x, lo, tc))
    {st st' : St} {ans ans' : List Ans} {obs : List Prop} (h : qfP P st d t x lo tc ans = some (st', ans', obs)) (ho : Obs obs)
    {a : Act} {w : World} (hrel : Rel w0 st a w) (hK : ∀ a' w', Rel w0 st' a' w' → wpList P ops Q rest a' w') : wpList P ops Q (o :: o2 :: rest) a w := by
  obtain ⟨dst, op, type, pos, after, guard⟩ := o
  obtain ⟨dst2, op2, type2, pos2, after2, guard2⟩ := o2
  unfold qhX at hp
  split at hp
  · rename_i d0 t0 x0 lo0 d' tc0 e1 e2 e3 e4 e5 e6
    simp only at e1 e2 e3 e4 e5 e6
    subst e1 e2 e3 e4 e5 e6
    split at hp
    · rename_i hd
      subst hd
      simp only [Option.some.injEq, Prod.mk.injEq] at hp
      obtain ⟨rfl, rfl, rfl, rfl, rfl⟩ := hp
      obtain ⟨ω, τ, hrel⟩ := hrel
      obtain ⟨hlt, y, z, w', h1, h2, h3⟩ := hrel.clear h ho
      refine wpList_plain rfl fun K hKK => Calls.of (run_v (by simpa using h1)) (hKK _ _ ?_)
      refine wpList_plain rfl fun K hKK => ?_
      have hev : (a.put (some d0) y).eval (.tmp d0) = y := by
        simp only [Act.eval, Act.put, Array.getD_eq_getD_getElem?, Array.getElem?_setIfInBounds]
        simp [hlt]
      refine Calls.of (z := z) (w' := w') ?_ (hKK _ _ (hK _ _ h3))
      simp only [execOp, resolve, invoke, builtin, Sem.run_bind, Sem.run_pure, Result.andThen_ok, List.map_toArray, List.map_cons, List.map_nil, hev, h2]
    · cases hp
  · cases hp
def qdp (P : Program) (ops : Array Oper) : List Oper → St → List Ans → Stepped
  | [], st, ans => some (st, ans, [])
  | [o], st, ans => oneOp P ops o st ans
  | o :: o2 :: rest, st, ans =>
    match qhX o o2 with
    | some (d, t, x, lo, tc) =>
      match qfP P st d t x lo tc ans with
      | some (st1, ans1, obs1) => (qdp P ops rest st1 ans1).map fun r => (r.1, r.2.1, obs1 ++ r.2.2)
      | none => none
    | none =>
      match oneOp P ops o st ans with
      | some (st1, ans1, obs1) => (qdp P ops (o2 :: rest) st1 ans1).map fun r => (r.1, r.2.1, obs1 ++ r.2.2)
      | none => none
theorem qhY {P : Program} {ops : Array Oper} {w0 : Base} {Q : Exit → Act → World → Prop} : ∀ (l : List Oper) {st st' : St} {ans ans' : List Ans} {obs : List Prop}, qdp P ops l st ans = some (st', ans', obs) → Obs obs →
    ∀ {a : Act} {w : World}, Rel w0 st a w → (∀ a' w', Rel w0 st' a' w' → Q .normal a' w') → wpList P ops Q l a w
  | [], st, st', ans, ans', obs, h, _, a, w, hrel, hQ => by
    simp only [qdp, Option.some.injEq, Prod.mk.injEq] at h
    obtain ⟨rfl, _, _⟩ := h
    exact hQ _ _ hrel
  | [o], st, st', ans, ans', obs, h, ho, a, w, hrel, hQ => by
    simp only [qdp] at h
    exact qkJ h ho hrel fun a' w' hr' => hQ _ _ hr'
  | o :: o2 :: rest, st, st', ans, ans', obs, h, ho, a, w, hrel, hQ => by
    simp only [qdp] at h
    split at h
    · rename_i d t x lo tc hp
      split at h
      · rename_i st1 ans1 obs1 h1
        rw [Option.map_eq_some_iff] at h
        obtain ⟨⟨r1, r2, r3⟩, h2, h⟩ := h
        simp only [Prod.mk.injEq] at h
        obtain ⟨rfl, rfl, rfl⟩ := h
        obtain ⟨o1, o3⟩ := ho.append
        exact qn7 hp h1 o1 hrel fun a' w' hr' => qhY rest h2 o3 hr' hQ
      · cases h
    · split at h
      · rename_i st1 ans1 obs1 h1
        rw [Option.map_eq_some_iff] at h
        obtain ⟨⟨r1, r2, r3⟩, h2, h⟩ := h
        simp only [Prod.mk.injEq] at h
        obtain ⟨rfl, rfl, rfl⟩ := h
        obtain ⟨o1, o3⟩ := ho.append
        exact qkJ h1 o1 hrel fun a' w' hr' => qhY (o2 :: rest) h2 o3 hr' hQ
      · cases h
end Go.Sx
