/- How a contract is shown: a run that the kernel computes, and what it owes. -/
import Derived.Test.YtamiheofgejehaaR16
set_option linter.unusedVariables false
set_option linter.unusedSimpArgs false
namespace Go.Sx
open Go.RowKit

def outc (P : Program) (c : Code) (ntmps : Nat) (rv : List ResultVar) (args hint : List AD) (ans : List Ans) : Option (List AD × List Prop) :=
  match run P c (initSt args ntmps) ans with
  | some (.ret, st, _, obs) => (resOf P st rv hint).map fun rs => (rs, obs)
  | some (.normal, st, _, obs) => (resOf P st rv hint).map fun rs => (rs, obs)
  | _ => none

def codeOf (fn : Func) : Code := fn.body.getD .skip

/-- The contract of a function: its run, computed, and what that owes. -/
theorem Ret.of {P : Program} {f : FuncId} {fn : Func} {args rs : List AD} (ans : List Ans) (obs : List Prop) (hf : P.funcs[f]? = some fn) (hb : fn.body.isSome = true)
    (h : outc P (codeOf fn) fn.ntmps fn.results.toList args rs ans = some (rs, obs)) (ho : Obs obs) : Ret P f args rs := by
  obtain ⟨c, hc⟩ := Option.isSome_iff_exists.1 hb
  have hcode : codeOf fn = c := by simp [codeOf, hc]
  unfold outc at h
  rw [hcode] at h
  split at h
  · rename_i st a obs' hr
    rw [Option.map_eq_some_iff] at h
    obtain ⟨rs', h1, h⟩ := h
    simp only [Prod.mk.injEq] at h
    obtain ⟨rfl, rfl⟩ := h
    exact ret_of_run hf hc hr ho (.inl rfl) h1
  · rename_i st a obs' hr
    rw [Option.map_eq_some_iff] at h
    obtain ⟨rs', h1, h⟩ := h
    simp only [Prod.mk.injEq] at h
    obtain ⟨rfl, rfl⟩ := h
    exact ret_of_run hf hc hr ho (.inr rfl) h1
  · cases h

def loopc (P : Program) (body : Code) (st : St) (ans : List Ans) (ks bs : List Nat) : Option (Ex × St × List Prop) :=
  (run P body st ans).map fun r => (r.1, r.2.1.keep ks bs, r.2.2.2)

theorem Tr.of_loopc {P : Program} {body : Code} {st st' : St} {ans : List Ans} {ks bs : List Nat} {e : Ex} {obs : List Prop} (h : loopc P body st ans ks bs = some (e, st', obs)) (ho : Obs obs) : Tr P body st e st' := by
  unfold loopc at h
  rw [Option.map_eq_some_iff] at h
  obtain ⟨⟨r1, r2, r3, r4⟩, h1, h⟩ := h
  simp only [Prod.mk.injEq] at h
  obtain ⟨rfl, rfl, rfl⟩ := h
  intro w0 a w hr
  exact Code.wp_mono (fun e' a' w' ⟨h1, h2⟩ => ⟨h1, h2.keep ks bs⟩) (run_ok body h1 ho w0 a w hr)

theorem LoopOk.step {P : Program} {body : Code} {st st1 st' : St} {e : Ex} (ans : List Ans) (ks bs : List Nat) (obs : List Prop) (h : loopc P body st ans ks bs = some (.normal, st1, obs)) (ho : Obs obs) (h2 : LoopOk P body st1 e st') : LoopOk P body st e st' :=
  .more (Tr.of_loopc h ho) h2

theorem LoopOk.done {P : Program} {body : Code} {st st' : St} {e : Ex} (ans : List Ans) (ks bs : List Nat) (obs : List Prop) (he : e.exit' ≠ .normal) (h : loopc P body st ans ks bs = some (e, st', obs)) (ho : Obs obs) : LoopOk P body st e st' :=
  .last he (Tr.of_loopc h ho)

theorem exit_ne (i : Nat) : (Ex.exit i).exit' ≠ .normal := fun h => by cases h
theorem ret_ne : Ex.ret.exit' ≠ .normal := fun h => by cases h

/-- The bodies of the loops of a piece of code, the outer before the inner. -/
def loopsIn : Code → List Code
  | .seq a b => loopsIn a ++ loopsIn b
  | .cond _ a b => loopsIn a ++ loopsIn b
  | .block _ b => loopsIn b
  | .loop b => b :: loopsIn b
  | .scope b => loopsIn b
  | _ => []

def loopOf (fn : Func) (i : Nat) : Code := (loopsIn (codeOf fn)).getD i .skip

/-- A frame of n slots of which these are known. -/
def envOf (n : Nat) (l : List (Nat × PV)) : List PV := l.foldl (fun e x => e.set x.1 x.2) (List.replicate n .und)
abbrev I (n : Int) : D := .v (.int .i64 n)
abbrev B (b : Bool) : D := .v (.bool b)
abbrev Str (s : ByteArray) : D := .v (.string s)
end Go.Sx
