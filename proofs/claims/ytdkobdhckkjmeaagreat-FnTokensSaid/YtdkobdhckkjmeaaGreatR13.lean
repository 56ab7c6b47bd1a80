import Derived.Test.YtdkobdhckkjmeaaGreatR26
import Derived.Test.YtdkobdhckkjmeaaGreatR31
import Derived.Orders
set_option linter.unusedVariables false
set_option linter.unusedSimpArgs false
namespace Go.Sx
open Go.RowKit
def qlv(P:Program)(st:St)(d:Option Nat)(f:FuncId)(args:List Operand)(ans:List Ans):Stepped:=
 match P.funcs[f]?,args.mapM (fun x=>(st.ev x).argD st.boxes),ans with
 | some fn,some ads,.res rs::r=>
  if (fn.name == "runtime.NumGoroutine") = false ∧ fn.body.isNone = false ∧ qd4 rs = true ∧ 10000 * (d.getD 0 + 1) + 10000 ≤ giv then
   let t:=10000*(d.getD 0+1)
   match d with
   | some d=>some (⟨(st.cal t).env.set d (resPV t rs),(st.cal t).boxes⟩,r,[Ret P f ads rs])
   | none=>some (st.cal t,r,[Ret P f ads rs])
  else none
 | _,_,_=>none
def qoV(P:Program)(st:St)(d:Option Nat)(f:Operand)(args:List Operand)(ans:List Ans):Stepped:=
 match (st.ev f).leaf.bind (Leaf.argD st.boxes),args.mapM (fun x=>(st.ev x).argD st.boxes),ans with
 | some (.cl g caps),some ads,.res rs::r=>
  if qd4 rs=true∧10000*(d.getD 0+1)+10000≤giv then
   let t:=10000*(d.getD 0+1)
   match d with
   | some d=>some (⟨(st.cal t).env.set d (resPV t rs),(st.cal t).boxes⟩,r,[qaT P g=true,Ret P g (ads++caps.map .one) rs])
   | none=>some (st.cal t,r,[qaT P g=true,Ret P g (ads++caps.map .one) rs])
  else none
 | _,_,_=>none
def isG:List Ans→Bool
 | .resG _ _ _ _::_=>true
 | _=>false
def isR:List Ans→Bool
 | .resR _ _::_=>true
 | _=>false
def isOwn:List Ans→Bool
 | .own::_=>true
 | _=>false
def qcS(P:Program)(st:St)(o:Oper)(ans:List Ans):Stepped:=
 match o.dst,o.op with
 | some d,.box _ x=>qkW st d (st.ev x) ans
 | some d,.alloc ty=>qkX P st d ty ans
 | some d,.makeSlice t l c=>qiI P st d t (st.ev l) (st.ev c) ans
 | some d,.buildSlice t n parts=>qg6 P st d t n parts.toList ans
 | none,.store ty x y=>
  match (st.ev x).leaf with
  | some (.ptr id off)=>qkY P st ty id off (st.ev y) ans
  | some (.ep (.own t) k es i j)=>qk6 P st ty t k es i j (st.ev y) ans
  | some (.sn t i j k es (.at_ a b))=>qli P st ty t i j k es a b (st.ev y) ans
  | _=>none
 | d,.call ⟨.value (.func f),args,_⟩=>if isR ans then qls P st d f args.toList ans else if isG ans then qld P st d f args.toList ans else qlv P st d f args.toList ans
 | d,.call ⟨.value (.tmp x),args,_⟩=>if isR ans then qlt P st d (.tmp x) args.toList ans else qoV P st d (.tmp x) args.toList ans
 | some d,.call ⟨.builtin .append,⟨[x,y]⟩,⟨[t,t']⟩⟩=>
  if t=t' then
   match (st.ev x).leaf with
   | some (.sn s i j k es .here)=>qlj P st d t s i j k es y ans
   | _=>stepAppend P st d t x y ans
  else none
 | some d,.slice t x lo hi mx=>if isOwn ans then stepCut P st d t (st.ev x) lo hi mx ans.tail else (qcO P st (.slice t x lo hi mx) ans).map fun r=>(⟨st.env.set d r.1,st.boxes⟩,r.2.1,r.2.2)
 | some d,op=>(qcO P st op ans).map fun r=>(⟨st.env.set d r.1,st.boxes⟩,r.2.1,r.2.2)
 | none,op=>(qcO P st op ans).map fun r=>(st,r.2.1,r.2.2)
theorem Calls.of{P:Program}{o:Oper}{a:Act}{w:World}{next:Act→World→Prop}{Q:Exit→Act→World→Prop}{z:Value}{w':World}(h:(execOp a.eval o).run P w=.ok (.value z) w')(hn:next (a.put o.dst z) w'):
  o.wp P a w next Q:=by
 unfold Oper.wp;rw[h];exact hn
theorem qlw{P:Program}{w0:Base}{st st':St}{o:Oper}{ans ans':List Ans}{obs:List Prop}(h:qcS P st o ans=some (st',ans',obs))(ho:Obs obs){a:Act}{w:World}(hrel:Rel w0 st a w)
  {next:Act→World→Prop} {Q:Exit→Act→World→Prop} (hnext:∀a' w',Rel w0 st' a' w'→next a' w'):o.wp P a w next Q:=by
 obtain⟨ω,τ,hrel⟩:=hrel;obtain⟨dst,op,type,pos,after,guard⟩:=o;simp only[qcS]at h;split at h
 ·rename_i d ty x;obtain⟨z,w',h1,h2⟩:=RelAt.box (P:=P) hrel (hrel.ev x) h ty;exact Calls.of (run_v h1) (hnext _ _ h2)
 ·rename_i d ty;obtain⟨z,w',h1,h2⟩:=RelAt.alloc hrel h;exact Calls.of (run_v h1) (hnext _ _ h2)
 ·rename_i d t l c;obtain⟨z,w',h1,h2⟩:=hrel.make (hrel.ev l) (hrel.ev c) h ho;exact Calls.of (run_v h1) (hnext _ _ h2)
 ·rename_i d t n parts;obtain⟨z,w',h1,h2⟩:=hrel.buildSlice h;exact Calls.of (run_v h1) (hnext _ _ h2)
 ·rename_i ty x y;have fin:∀w',(Instr.storeAt ty (a.eval x) (a.eval y)).run P w=.ok () w'→Rel w0 st' a w'→Oper.wp P ⟨none,.store ty x y,type,pos,after,guard⟩ a w next Q:=by
   intro w' h1 h2;unfold Oper.wp execOp;simp only[Sem.run_bind,h1,Result.andThen_ok,Sem.run_pure,Oper.upon];exact hnext _ _ h2
  split at h
  ·rename_i id off e;obtain⟨b,hb,hx⟩:=PV.leaf_sat e (hrel.ev x);obtain⟨w',h1,h2⟩:=hrel.storeAtBox (P:=P) hb (hrel.ev y) h;exact fin w' (by rw[hx];exact h1) h2
  ·rename_i t k es i j e;obtain⟨w',h1,h2⟩:=hrel.storeElem (P:=P) (PV.leaf_sat e (hrel.ev x)) (hrel.ev y) h ho;exact fin w' h1 h2
  ·rename_i t i j k es xx yy e;obtain⟨w',h1,h2⟩:=hrel.storeSn (P:=P) (PV.leaf_sat e (hrel.ev x)) (hrel.ev y) h ho;exact fin w' h1 h2
  ·cases h
 ·rename_i f args ts;split at h
  ·exact qvg hrel h ho hnext
  split at h
  ·exact qu9 hrel h ho hnext
  rename_i hisr hisg;clear hisr;unfold qlv at h;clear hisg;split at h
  ·rename_i fn ads rs r hfn hads;split at h
   ·rename_i hc;obtain⟨hc1,hc2,hc3,hcg⟩:=hc;obtain⟨hl,hg⟩:=qct hads;have hargs:qiN w ads (args.map a.eval):=by
     refine⟨by simp[hl],fun i ad hi=>?_⟩;obtain⟨x,hx,hx2⟩:=hg i ad hi;refine⟨a.eval x,?_,PV.argD_sat hrel.boxes hx2 (hrel.ev x)⟩;rw[zco];rw[zH]at hx;rw[hx];rfl
    have hrun:(execOp a.eval ⟨dst,.call ⟨.value (.func f),args,ts⟩,type,pos,after,guard⟩).run P w=.ok (.enter f (args.map a.eval)) w:=by
     have hc1' : fn.name ≠ "runtime.NumGoroutine" := by simpa using hc1
     have hc2':fn.body≠none:=by intro e;rw[e]at hc2;cases hc2
     simp[execOp,resolve,Act.eval,Deferred.ofValue,invoke,callFunc,hfn,hc1',hc2']
    have key:∀(obs':List Prop),obs=obs'→Obs obs'→obs'=[Ret P f ads rs]→∀(K:Act→World→Prop),(∀v w',Blw w.heap.size w w'→ResOk w w' rs v→K (a.put dst v) w')→
      Oper.wp P ⟨dst,.call ⟨.value (.func f),args,ts⟩,type,pos,after,guard⟩ a w K Q:=by
     intro obs' _ ho' e K hK;subst e;unfold Oper.wp;rw[hrun];simp only[Oper.upon];refine (ho'.1 w _ hrel.below.laid hargs).mono ?_;rintro e w' ⟨v,rfl,hb,hr⟩;exact hK v w' hb hr
    simp only at h;cases dst with
    | none=>
     simp only[za,zd]at h;obtain⟨rfl,_,rfl⟩:=h;refine key _ rfl ho rfl next fun v w' hb hr=>hnext _ _ ?_
     obtain⟨ω',τ',h1,_⟩:=hrel.called (10000*(Option.getD none 0+1)) hc3 hcg hb hr;exact⟨ω',τ',h1⟩
    | some d=>
     simp only[za,zd]at h;obtain⟨rfl,_,rfl⟩:=h;refine key _ rfl ho rfl next fun v w' hb hr=>hnext _ _ ?_
     obtain⟨ω',τ',h1,h2⟩:=hrel.called (10000*(Option.getD (some d) 0+1)) hc3 hcg hb hr;exact⟨ω',τ',h1.put h2⟩
   ·cases h
  ·cases h
 ·rename_i x args ts;split at h
  ·exact qvh hrel h ho hnext
  rename_i hisr;clear hisr;unfold qoV at h;split at h
  ·rename_i g caps ads rs r hf hads;split at h
   ·rename_i hc;obtain⟨hc3,hcg⟩:=hc;obtain⟨hl,hg⟩:=qct hads;have hl2:ads.length=args.size:=by rw[hl,zbx]
    rw[zah]at hf;obtain⟨lf,hlf,hlf2⟩:=hf;have hfun:qbU w (.cl g caps) (a.eval (.tmp x)):=Leaf.argD_sat hrel.boxes hlf2 (PV.leaf_sat hlf (hrel.ev (.tmp x)));have hfun':∃cs:Array Value,a.eval (.tmp x)=.func (.func g) #[] cs∧cs.size=caps.length∧∀(j:Nat) (d:D),caps[j]?=some d→∃u,cs[j]?=some u∧qbU w d u:=by
     generalize a.eval (.tmp x)=y at hfun;cases hfun with
     | cl R g caps cs us hs hu hd=>exact⟨cs,rfl,hs,fun j d hj=>⟨us j,hu j d hj,(hd j d hj).free⟩⟩
    obtain⟨cs,hcs,hcn,hcv⟩:=hfun';have hargs:qiN w (ads++caps.map .one) (args.map a.eval++cs):=by
     refine⟨by simp[hl,hcn],fun i ad hi=>?_⟩;rw[zT]at hi;rw[zK];split at hi
     ·rename_i hi2;rw[zp (by simp;omega)];obtain⟨y,hy,hy2⟩:=hg i ad hi;refine⟨a.eval y,?_,PV.argD_sat hrel.boxes hy2 (hrel.ev y)⟩;rw[zco];rw[zH]at hy;rw[hy];rfl
     ·rename_i hi2;rw[zo (by simp;omega)];rw[zr,zc]at hi;obtain⟨d,hd,rfl⟩:=hi;obtain⟨u,hu1,hu2⟩:=hcv _ d hd;refine⟨u,?_,hu2⟩;rw[←hu1]
      congr 1
      simp;omega
    have hrun:qaT P g=true→(execOp a.eval ⟨dst,.call ⟨.value (.tmp x),args,ts⟩,type,pos,after,guard⟩).run P w=.ok (.enter g (args.map a.eval++cs)) w:=by
     intro hcc;unfold qaT at hcc;split at hcc
     ·rename_i fn hfn;simp only[zj,zS,zbq,zcc]at hcc;have hc2':fn.body≠none:=by intro e;rw[e]at hcc;simp at hcc
      simp[execOp,resolve,hcs,Deferred.ofValue,invoke,callFunc,hfn,hcc.1,hc2']
     ·cases hcc
    have key:∀(obs':List Prop),obs=obs'→Obs obs'→obs'=[qaT P g=true,Ret P g (ads++caps.map .one) rs]→∀(K:Act→World→Prop),(∀v w',Blw w.heap.size w w'→ResOk w w' rs v→K (a.put dst v) w')→
      Oper.wp P ⟨dst,.call ⟨.value (.tmp x),args,ts⟩,type,pos,after,guard⟩ a w K Q:=by
     intro obs' _ ho' e K hK;subst e;unfold Oper.wp;rw[hrun ho'.1];simp only[Oper.upon];refine (ho'.2.1 w _ hrel.below.laid hargs).mono ?_;rintro e w' ⟨v,rfl,hb,hr⟩;exact hK v w' hb hr
    simp only at h;cases dst with
    | none=>
     simp only[za,zd]at h;obtain⟨rfl,_,rfl⟩:=h;refine key _ rfl ho rfl next fun v w' hb hr=>hnext _ _ ?_
     obtain⟨ω',τ',h1,_⟩:=hrel.called (10000*(Option.getD none 0+1)) hc3 hcg hb hr;exact⟨ω',τ',h1⟩
    | some d=>
     simp only[za,zd]at h;obtain⟨rfl,_,rfl⟩:=h;refine key _ rfl ho rfl next fun v w' hb hr=>hnext _ _ ?_
     obtain⟨ω',τ',h1,h2⟩:=hrel.called (10000*(Option.getD (some d) 0+1)) hc3 hcg hb hr;exact⟨ω',τ',h1.put h2⟩
   ·cases h
  ·cases h
 ·rename_i d x y t t';split at h
  ·rename_i htt;subst htt;have hap:∃z w',(Builtin.append_ #[t,t] type #[a.eval x,a.eval y]).run P w=.ok z w'∧Rel w0 st' (a.put (some d) z) w':=by
    split at h
    ·rename_i s i j k es e;exact hrel.appendSn (P:=P) (ty:=type) (PV.leaf_sat e (hrel.ev x)) h ho
    ·exact hrel.stepAppend (ty:=type) h ho
   obtain⟨z,w',h1,h2⟩:=hap;refine Calls.of (z:=z) (w':=w') ?_ (hnext _ _ h2);have:(execOp a.eval ⟨some d,.call ⟨.builtin .append,⟨[x,y]⟩,⟨[t,t]⟩⟩,type,pos,after,guard⟩)=(builtin .append ⟨[t,t]⟩ type (Array.map (fun | .const _=>true | _=>false) ⟨[x,y]⟩) (Array.map a.eval ⟨[x,y]⟩)):=by
    simp only[execOp,resolve];rfl
   rw[this];exact run_v (by simpa using h1)
  ·cases h
 ·rename_i d t x lo hi mx;split at h
  ·obtain⟨z,h1,h2⟩:=hrel.stepCut (P:=P) (hrel.ev x) h ho;exact Calls.of (run_v h1) (hnext _ _ h2)
  ·rw[zc]at h;obtain⟨⟨r1,r2,r3⟩,h1,h⟩:=h;simp only[zd]at h;obtain⟨rfl,rfl,rfl⟩:=h;obtain⟨z,h2,h3⟩:=qkV (o:=⟨_,_,type,pos,after,guard⟩) hrel h1 ho;exact Calls.of h2 (hnext _ _ ⟨ω,τ,hrel.put h3⟩)
 ·rw[zc]at h;obtain⟨⟨r1,r2,r3⟩,h1,h⟩:=h;simp only[zd]at h;obtain⟨rfl,rfl,rfl⟩:=h;obtain⟨z,h2,h3⟩:=qkV (o:=⟨_,_,type,pos,after,guard⟩) hrel h1 ho;exact Calls.of h2 (hnext _ _ ⟨ω,τ,hrel.put h3⟩)
 ·rw[zc]at h;obtain⟨⟨r1,r2,r3⟩,h1,h⟩:=h;simp only[zd]at h;obtain⟨rfl,rfl,rfl⟩:=h;obtain⟨z,h2,h3⟩:=qkV (o:=⟨_,_,type,pos,after,guard⟩) hrel h1 ho;exact Calls.of h2 (hnext _ _ ⟨ω,τ,hrel⟩)
def qcE(P:Program)(st:St)(o:Oper)(ans:List Ans):Stepped:=
 match o.dst,o.op with
 | some d,.alloc ty=>qiR P st d ty ans
 | none,.store ty (.tmp s) y=>qiT P st ty s (st.ev y) ans
 | _,_=>qcS P st o ans
theorem qvi{P:Program}{w0:Base}{st st':St}{o:Oper}{ans ans':List Ans}{obs:List Prop}(h:qcE P st o ans=some (st',ans',obs))(ho:Obs obs){a:Act}{w:World}(hrel:Rel w0 st a w)
  {next:Act→World→Prop} {Q:Exit→Act→World→Prop} (hnext:∀a' w',Rel w0 st' a' w'→next a' w'):o.wp P a w next Q:=by
 obtain⟨dst,op,type,pos,after,guard⟩:=o;unfold qcE at h;split at h
 ·rename_i d ty e1 e2;simp only at e1 e2;subst e1;subst e2;obtain⟨ω,τ,hrel⟩:=hrel;obtain⟨z,w',h1,h2⟩:=RelAt.allocNp hrel h;exact Calls.of (run_v h1) (hnext _ _ h2)
 ·rename_i ty s y e1 e2;simp only at e1 e2;subst e1;subst e2;obtain⟨ω,τ,hrel⟩:=hrel;obtain⟨w',h1,h2⟩:=hrel.storeNp (P:=P) (hrel.ev y) h;unfold Oper.wp execOp;simp only[Sem.run_bind,h1,Result.andThen_ok,Sem.run_pure,Oper.upon];exact hnext _ _ h2
 ·exact qlw h ho hrel hnext
def qhh(st:St)(dst:Option Nat):St:=
 match dst with
 | some d=>⟨st.env.set d (.one (.v undef)),st.boxes⟩
 | none=>st
theorem qlx{w0:Base}{st:St}{a:Act}{w:World}{dst:Option Nat}(h:Rel w0 st a w):Rel w0 (qhh st dst) (a.put dst undef) w:=by
 obtain⟨ω,τ,h⟩:=h;cases dst with
 | none=>exact⟨ω,τ,h⟩
 | some d=>exact⟨ω,τ,h.put (p:=.one (.v undef)) rfl⟩
def qdk(ops:Array Oper)(st:St)(o:Oper)(ans:List Ans):Option (Bool×St×List Ans×List Prop):=
 match o.guard with
 | none=>some (true,st,ans,[])
 | some (j,want)=>
  match (ops[j]?).bind (·.dst) with
  | some s=>
   match (st.env.getD s .und).leaf with
   | some (.v (.bool b))=>some (b==want,st,ans,[])
   | some (.v (.tuple _))=>some (false,st,ans,[])
   | some (.sb c)=>
    match ans with
    | .br b::r=>some (b==want,⟨st.env.set s (.one (.v (.bool b))),st.boxes⟩,r,[c=b])
    | _=>none
   | _=>none
  | none=>none
theorem qeT{ops:Array Oper}{w0:Base}{st st':St}{o:Oper}{ans ans':List Ans}{obs:List Prop}{b:Bool}(h:qdk ops st o ans=some (b,st',ans',obs))(ho:Obs obs){a:Act}{w:World}(hrel:Rel w0 st a w):
  Region.wanted o (yielded ops a.tmps)=b∧Rel w0 st' a w:=by
 obtain⟨ω,τ,hrel⟩:=hrel;unfold qdk at h;split at h
 ·rename_i hg;simp only[za,zd]at h;obtain⟨rfl,rfl,_,_⟩:=h;exact⟨by simp[Region.wanted,hg],ω,τ,hrel⟩
 ·rename_i j want hg;split at h
  ·rename_i s hs;have hsat:∀l,(st.env.getD s .und).leaf=some l→∀x,(∀y,Sat w ω τ l y→y=x)→(l=.und→False)→a.tmps[s]?=some x:=by
    intro l hl x hx hne;rw[zN]at hl;cases e:st.env[s]? with
    | none=>
     rw[e]at hl;simp only[Option.getD_none,PV.leaf,za]at hl;exact absurd hl.symm hne
    | some p=>
     rw[e]at hl;obtain⟨v,h1,h2⟩:=hrel.env s p e;rw[h1,hx v (PV.leaf_sat hl h2)]
   split at h
   ·rename_i b' hl;simp only[za,zd]at h;obtain⟨rfl,rfl,_,_⟩:=h;have:=hsat _ hl (.bool b') (fun y hy=>hy) (fun h=>by cases h);exact⟨by simp[Region.wanted,hg,yielded,hs,this],ω,τ,hrel⟩
   ·rename_i vs hl;simp only[za,zd]at h;obtain⟨rfl,rfl,_,_⟩:=h;have:=hsat _ hl (.tuple vs) (fun y hy=>hy) (fun h=>by cases h);exact⟨by simp[Region.wanted,hg,yielded,hs,this],ω,τ,hrel⟩
   ·rename_i c hl;split at h
    ·rename_i b' r;simp only[za,zd]at h;obtain⟨rfl,rfl,_,rfl⟩:=h;have hcb:c=b':=ho.1;subst hcb;have:=hsat _ hl (.bool c) (fun y hy=>hy) (fun h=>by cases h);refine⟨by simp[Region.wanted,hg,yielded,hs,this],ω,τ,?_⟩;have hput:=hrel.put (d:=s) (p:=.one (.v (.bool c))) (v:=.bool c) rfl;have e:a.put (some s) (.bool c)=a:=by
      simp only[Act.put];have:a.tmps.setIfInBounds s (.bool c)=a.tmps:=by
       apply Array.ext
       ·simp
       ·intro i h1 h2;rw[Array.getElem_setIfInBounds];split
        ·rename_i hi;subst hi;rw[zD h2]at this;exact (zx this).symm
        ·rfl
      rw[this]
     rwa[e]at hput
    ·cases h
   ·cases h
  ·cases h
def oneOp(P:Program)(ops:Array Oper)(o:Oper)(st:St)(ans:List Ans):Stepped:=
 match qdk ops st o ans with
 | some (true,st1,ans1,obs1)=>(qcS P st1 o ans1).map fun r=>(r.1,r.2.1,obs1++r.2.2)
 | some (false,st1,ans1,obs1)=>some (qhh st1 o.dst,ans1,obs1)
 | none=>none
theorem qoW{P:Program}{ops:Array Oper}{w0:Base}{Q:Exit→Act→World→Prop}{o:Oper}{rest:List Oper}{st st':St}{ans ans':List Ans}{obs:List Prop}(h:oneOp P ops o st ans=some (st',ans',obs))(ho:Obs obs)
  {a:Act} {w:World} (hrel:Rel w0 st a w) (hK:∀a' w',Rel w0 st' a' w'→wpList P ops Q rest a' w'):wpList P ops Q (o::rest) a w:=by
 unfold oneOp at h;split at h
 ·rename_i st1 ans1 obs1 hw;rw[zc]at h;obtain⟨⟨r1,r2,r3⟩,h1,h⟩:=h;simp only[zd]at h;obtain⟨rfl,rfl,rfl⟩:=h;obtain⟨o1,o2⟩:=ho.append;obtain⟨hwant,hr1⟩:=qeT hw o1 hrel;refine wpList_step fun K hKK=>?_
  rw[zp hwant];exact qlw h1 o2 hr1 fun a' w' hr'=>hKK _ _ (hK _ _ hr')
 ·rename_i st1 ans1 obs1 hw;simp only[za,zd]at h;obtain⟨rfl,rfl,rfl⟩:=h;obtain⟨hwant,hr1⟩:=qeT hw ho hrel;refine wpList_step fun K hKK=>?_
  rw[zo (by rw[hwant];simp)];exact hKK _ _ (hK _ _ (qlx hr1))
 ·cases h
def qly(o o2:Oper):Option (Nat×TypeId×Operand×Option Operand×TypeId):=
 match o.dst,o.op,o.guard,o2.dst,o2.op,o2.guard with
 | some d,.slice t x lo none none,none,none,.call ⟨.builtin .clear,⟨[.tmp d']⟩,⟨[tc]⟩⟩,none=>if d=d' then some (d,t,x,lo,tc) else none
 | _,_,_,_,_,_=>none
theorem qvj{P:Program}{ops:Array Oper}{w0:Base}{Q:Exit→Act→World→Prop}{o o2:Oper}{rest:List Oper}{d:Nat}{t tc:TypeId}{x:Operand}{lo:Option Operand}(hp:qly o o2=some (d,t,x,lo,tc))
  {st st':St} {ans ans':List Ans} {obs:List Prop} (h:qiV P st d t x lo tc ans=some (st',ans',obs)) (ho:Obs obs)
  {a:Act} {w:World} (hrel:Rel w0 st a w) (hK:∀a' w',Rel w0 st' a' w'→wpList P ops Q rest a' w'):wpList P ops Q (o::o2::rest) a w:=by
 obtain⟨dst,op,type,pos,after,guard⟩:=o;obtain⟨dst2,op2,type2,pos2,after2,guard2⟩:=o2;unfold qly at hp;split at hp
 ·rename_i d0 t0 x0 lo0 d' tc0 e1 e2 e3 e4 e5 e6;simp only at e1 e2 e3 e4 e5 e6;subst e1 e2 e3 e4 e5 e6;split at hp
  ·rename_i hd;subst hd;simp only[za,zd]at hp;obtain⟨rfl,rfl,rfl,rfl,rfl⟩:=hp;obtain⟨ω,τ,hrel⟩:=hrel;obtain⟨hlt,y,z,w',h1,h2,h3⟩:=hrel.clear h ho;refine wpList_plain rfl fun K hKK=>Calls.of (run_v (by simpa using h1)) (hKK _ _ ?_)
   refine wpList_plain rfl fun K hKK=>?_
   have hev:(a.put (some d0) y).eval (.tmp d0)=y:=by
    simp only[Act.eval,Act.put,zl,Array.getElem?_setIfInBounds];simp[hlt]
   refine Calls.of (z:=z) (w':=w') ?_ (hKK _ _ (hK _ _ h3));simp only[execOp,resolve,invoke,builtin,Sem.run_bind,Sem.run_pure,Result.andThen_ok,List.map_toArray,zav,List.map_nil,hev,h2]
  ·cases hp
 ·cases hp
def qeU(P:Program)(ops:Array Oper):List Oper→St→List Ans→Stepped
 | [],st,ans=>some (st,ans,[])
 | [o],st,ans=>oneOp P ops o st ans
 | o::o2::rest,st,ans=>
  match qly o o2 with
  | some (d,t,x,lo,tc)=>
   match qiV P st d t x lo tc ans with
   | some (st1,ans1,obs1)=>(qeU P ops rest st1 ans1).map fun r=>(r.1,r.2.1,obs1++r.2.2)
   | none=>none
  | none=>
   match oneOp P ops o st ans with
   | some (st1,ans1,obs1)=>(qeU P ops (o2::rest) st1 ans1).map fun r=>(r.1,r.2.1,obs1++r.2.2)
   | none=>none
theorem qlz{P:Program}{ops:Array Oper}{w0:Base}{Q:Exit→Act→World→Prop}:∀(l:List Oper) {st st':St} {ans ans':List Ans} {obs:List Prop},qeU P ops l st ans=some (st',ans',obs)→Obs obs→
  ∀{a:Act} {w:World},Rel w0 st a w→(∀a' w',Rel w0 st' a' w'→Q .normal a' w')→wpList P ops Q l a w
 | [],st,st',ans,ans',obs,h,_,a,w,hrel,hQ=>by
  simp only[qeU,za,zd]at h;obtain⟨rfl,_,_⟩:=h;exact hQ _ _ hrel
 | [o],st,st',ans,ans',obs,h,ho,a,w,hrel,hQ=>by
  simp only[qeU]at h;exact qoW h ho hrel fun a' w' hr'=>hQ _ _ hr'
 | o::o2::rest,st,st',ans,ans',obs,h,ho,a,w,hrel,hQ=>by
  simp only[qeU]at h;split at h
  ·rename_i d t x lo tc hp;split at h
   ·rename_i st1 ans1 obs1 h1;rw[zc]at h;obtain⟨⟨r1,r2,r3⟩,h2,h⟩:=h;simp only[zd]at h;obtain⟨rfl,rfl,rfl⟩:=h;obtain⟨o1,o3⟩:=ho.append;exact qvj hp h1 o1 hrel fun a' w' hr'=>qlz rest h2 o3 hr' hQ
   ·cases h
  ·split at h
   ·rename_i st1 ans1 obs1 h1;rw[zc]at h;obtain⟨⟨r1,r2,r3⟩,h2,h⟩:=h;simp only[zd]at h;obtain⟨rfl,rfl,rfl⟩:=h;obtain⟨o1,o3⟩:=ho.append;exact qoW h1 o1 hrel fun a' w' hr'=>qlz (o2::rest) h2 o3 hr' hQ
   ·cases h
end Go.Sx
namespace Go.Sx
open Go.RowKit
abbrev Rng:=List (Nat×Nat)
def Rng.has(r:Rng)(s:Nat):Bool:=r.any fun x=>decide (x.1≤s)&&decide (s<x.2)
def Tag.ment(r:Rng):Tag→Bool
 | .free=>false
 | .own s=>r.has s
 | .ro s=>r.has s
def NC.ment(r:Rng):NC→Bool
 | .sl t _ _=>t.ment r
 | _=>false
def Leaf.ment(r:Rng):Leaf→Bool
 | .sl t _ _=>t.ment r
 | .ep t _ _ _ _=>t.ment r
 | .sn t _ _ _ _ _=>r.has t
 | .np t vs=>r.has t||vs.any (NC.ment r)
 | _=>false
def AL.ment(r:Rng):AL→Bool
 | .one l=>l.ment r
 | .agg ls=>ls.any (Leaf.ment r)
def PV.ment(r:Rng):PV→Bool
 | .al a=>a.ment r
 | .tup as=>as.any (AL.ment r)
def qcF(g:Tag→Option Tag)(r:Rng):Prop:=∀t:Tag,t.ment r=false→g t=some t
theorem Leaf.re_id{g:Tag→Option Tag}{r:Rng}(hg:qcF g r){l:Leaf}(h:l.ment r=false):l.re g (fun _=>true)=l:=by
 cases l with
 | sl t k es=>simp only[Leaf.ment]at h;simp only[Leaf.re,hg t h]
 | ep t k es i j=>simp only[Leaf.ment]at h;simp only[Leaf.re,hg t h]
 | ptr id off=>simp[Leaf.re]
 | clo f ids=>simp[Leaf.re]
 | sn t i j k es m=>simp only[Leaf.ment]at h;simp only[Leaf.re,hg (.own t) h,zbb]
 | np t vs=>
  simp only[Leaf.ment,zy]at h;simp only[Leaf.re,hg (.own t) h.1,zbb]
  congr 1
  conv=>rhs;rw[←zcf vs]
  refine zW fun c hc=>?_
  have:=zP.1 h.2 c hc;cases c with
  | und=>rfl
  | v x=>rfl
  | sl t' k es=>simp only[NC.re,hg t' (by simpa[NC.ment]using this),id]
 | _=>rfl
theorem qoX{g:Tag→Option Tag}{r:Rng}(hg:qcF g r){ls:List Leaf}(h:ls.any (Leaf.ment r)=false):ls.map (Leaf.re g fun _=>true)=ls:=by
 conv=>rhs;rw[←zcf ls]
 refine zW fun l hl=>?_
 rw[zP]at h;exact Leaf.re_id hg (by simpa using h l hl)
theorem AL.re_id{g:Tag→Option Tag}{r:Rng}(hg:qcF g r){a:AL}(h:a.ment r=false):a.map (Leaf.re g fun _=>true)=a:=by
 cases a with
 | one l=>simp only[AL.ment]at h;simp only[AL.map,Leaf.re_id hg h]
 | agg ls=>simp only[AL.ment]at h;simp only[AL.map,qoX hg h]
theorem PV.re_id{g:Tag→Option Tag}{r:Rng}(hg:qcF g r){p:PV}(h:p.ment r=false):p.map (Leaf.re g fun _=>true)=p:=by
 cases p with
 | al a=>simp only[PV.ment]at h;simp only[PV.map,AL.re_id hg h]
 | tup as=>
  simp only[PV.ment]at h;simp only[PV.map]
  congr 1
  conv=>rhs;rw[←zcf as]
  refine zW fun a ha=>?_
  rw[zP]at h;exact AL.re_id hg (by simpa using h a ha)
structure Eff where
 dst:Option Nat
 p:PV
 use:List Nat
 rng:Rng
abbrev Drawn:=Option (Eff×(Tag→Option Tag)×List Ans×List Prop)
def qoY:Operand→Option Nat
 | .tmp t=>some t
 | _=>none
def mvRng:Option Nat→Rng
 | none=>[]
 | some s=>[(s,s+1)]
def apOf(P:Program)(st:St)(d:Nat)(t:TypeId)(x y:Operand)(ans:List Ans):Drawn:=
 match qc0 P t with
 | some (e,k)=>
  match P.info? e with
  | some i=>
   match i.zero,(st.ev x).leaf,x with
   | some z,some (.sl (.own tk) k' es),.tmp s=>
    match apSrc tk k (st.ev y) ans with
    | some (es2,mv,ans',obs)=>
     if k'=k∧z.cells.size=k∧0<k∧tk<giv then
      some (⟨some d,.one (.sl (.own tk) k (es++es2)),[s],(tk,tk+1)::mvRng mv⟩,apTag tk mv,ans',((es.length+es2.length)*i.bytes≤140737488355328)::(es.length+es2.length≤9223372036854775807)::obs)
     else none
    | _=>none
   | some z,some (.v (.slice none 0 0)),_=>
    match apSrc d k ((st.ev y).map (Leaf.re (mvTag d []) fun _=>true)) ans with
    | some (es2,mv,ans',obs)=>
     if z.cells.size=k∧0<k∧d<giv then
      some (⟨some d,.one (.sl (.own d) k ([]++es2)),[],(d,d+1)::mvRng mv⟩,(fun g=>(mvTag d [] g).bind (apTag d mv)),ans',(((([]:List (List D)).length)+es2.length)*i.bytes≤140737488355328)::(([]:List (List D)).length+es2.length≤9223372036854775807)::obs)
     else none
    | _=>none
   | _,_,_=>none
  | none=>none
 | none=>none
def cutD(P:Program)(st:St)(d:Nat)(t:TypeId)(x:Operand)(lo hi mx:Option Operand)(ans:List Ans):Drawn:=
 match qc0 P t,(st.ev x).leaf,mx,x with
 | some (_,k),some (.sl (.own s) k' es),none,.tmp s0=>
  if k=k'∧s<giv then
   match qb3 st lo,qb3 st hi with
   | some l,some h=>some (⟨some d,.one (.sl (.own s) k ((es.drop (l.getD 0).toNat).take ((h.getD es.length).toNat-(l.getD 0).toNat))),[s0],[(s,s+1)]⟩,qbK s s,ans,[0≤l.getD 0,l.getD 0≤h.getD es.length,h.getD es.length≤es.length])
   | _,_=>none
  else none
 | _,_,_,_=>none
theorem qvk(s:Nat):qcF (qbK s s) [(s,s+1)]:=by
 intro t h;cases t with
 | free=>rfl
 | own x=>
  have:x≠s:=by rintro rfl;simp[Tag.ment,Rng.has]at h
  simp[qbK,this]
 | ro x=>
  have:x≠s:=by rintro rfl;simp[Tag.ment,Rng.has]at h
  simp[qbK,this]
def mkOf(P:Program)(d:Nat)(t:TypeId)(p q:PV)(ans:List Ans):Drawn:=
 match P.underlying t with
 | some (.slice e)=>
  match P.info? e,p.int,q.int with
  | some i,some (_,l),some (_,c)=>
   match i.zero with
   | some z=>
    if i.size=z.cells.size∧0<i.size∧z.cells.all (·.oneCell')=true∧d<giv then
     some (⟨some d,.one (.sl (.own d) i.size (List.replicate l.toNat (z.cells.toList.map .v))),[],[(d,d+1)]⟩,mvTag d [],ans,[0≤l,l≤c,(i.bytes:Int)*c≤281474976710656,c≤9223372036854775807])
    else none
   | none=>none
  | _,_,_=>none
 | _=>none
def dStep(P:Program)(st:St)(o:Oper)(ans:List Ans):Drawn:=
 match o.dst,o.op with
 | some d,.call ⟨.value (.func f),args,_⟩=>
  match P.funcs[f]?,args.toList.mapM (fun x=>(st.ev x).argD st.boxes),ans with
  | some fn,some ads,.res rs::r=>
   if (fn.name == "runtime.NumGoroutine") = false ∧ fn.body.isNone = false ∧ qd4 rs = true ∧ 10000 * (d + 1) + 10000 ≤ giv then
    some (⟨some d,resPV (10000*(d+1)) rs,[],[(10000*(d+1),10000*(d+1)+10000)]⟩,qa2 (10000*(d+1)),r,[Ret P f ads rs])
   else none
  | _,_,_=>none
 | some d,.buildSlice t n parts=>
  match bsOf P st d t n parts.toList with
  | some (k,es,ms)=>some (⟨some d,.one (.sl (.own d) k es),[],(d,d+1)::ms.map fun x=>(x.1,x.1+1)⟩,mvTag d ms,ans,[])
  | _=>none
 | some d,.call ⟨.builtin .append,⟨[x,y]⟩,⟨[t,t']⟩⟩=>if t=t' then apOf P st d t x y ans else none
 | some _,.box _ _=>none
 | some d,.alloc ty=>
  match P.info? ty with
  | some i=>match i.zero with
   | some z=>if d<giv then some (⟨some d,.one (.np d (z.cells.toList.map .v)),[],[(d,d+1)]⟩,mvTag d [],ans,[]) else none
   | none=>none
  | none=>none
 | some d,.makeSlice t l c=>mkOf P d t (st.ev l) (st.ev c) ans
 | some d,.slice t x lo hi mx=>if isOwn ans then cutD P st d t x lo hi mx ans.tail else (qcO P st (.slice t x lo hi mx) ans).map fun r=>(⟨some d,r.1,[],[]⟩,some,r.2.1,r.2.2)
 | some d,op=>(qcO P st op ans).map fun r=>(⟨some d,r.1,[],[]⟩,some,r.2.1,r.2.2)
 | none,.store ty (.tmp s) y=>
  match (st.env.getD s .und).leaf,ncs (st.ev y),P.info? ty with
  | some (.np t vs),some cs,some i=>
   if cs.length=i.size∧cs.length≤vs.length then
    some (⟨some s,.one (.np t ((cs++vs.drop cs.length).map (NC.re (dropT t)))),[],[(t,t+1)]⟩,dropT t,ans,[])
   else none
  | _,_,_=>none
 | none,_=>none
theorem qvl(s:Nat):qcF (dropT s) [(s,s+1)]:=by
 intro t h;cases t with
 | free=>rfl
 | own x=>
  have:x≠s:=by rintro rfl;simp[Tag.ment,Rng.has]at h
  simp[dropT,this]
 | ro x=>
  have:x≠s:=by rintro rfl;simp[Tag.ment,Rng.has]at h
  simp[dropT,this]
theorem qvm:NC.re some=id:=by funext c;cases c<;>rfl
theorem qvn(st:St)(f:Leaf→Leaf)(hf:∀x,f (.v x)=.v x)(hu:f .und=.und)(hd:∀d,f (.fd d)=.fd d)(x:Operand):(st.map f).ev x=(st.ev x).map f:=by
 cases x with
 | tmp t=>
  simp only[St.ev,St.map];rw[zN,zN,zr];cases st.env[t]? with
  | none=>simp[PV.map,AL.map,hu]
  | some p=>rfl
 | const v=>
  simp only[St.ev,cval];split
  ·simp[PV.map,AL.map,hf]
  ·simp[PV.map,AL.map,hf]
 | global g=>simp[St.ev,PV.map,AL.map,hu]
 | func f'=>simp[St.ev,PV.map,AL.map,hd]
theorem Leaf.re_re(g1 g2:Tag→Option Tag)(h2:∀g t,g2 g=some (.own t)→g=.own t)(l:Leaf):Leaf.re g2 (fun _=>true) (Leaf.re g1 (fun _=>true) l)=Leaf.re (fun t=>(g1 t).bind g2) (fun _=>true) l:=by
 cases l with
 | sl t k es=>simp only[Leaf.re];cases g1 t<;>simp[Leaf.re]
 | ep t k es i j=>simp only[Leaf.re];cases g1 t<;>simp[Leaf.re]
 | clo f ids=>simp[Leaf.re]
 | sn t i j k es m=>
  simp only[Leaf.re];cases e1:g1 (.own t) with
  | none=>simp[Leaf.re]
  | some x=>
   simp only[zan];cases x with
   | own s=>
    simp only;by_cases hs:s=t
    ·subst hs;simp only[zbb,Leaf.re]
    ·rw[zo hs];simp only[Leaf.re];cases e2:g2 (.own s) with
     | none=>rfl
     | some y=>
      cases y with
      | own u=>
       simp only;by_cases hu:u=t
       ·subst hu;have:=h2 _ _ e2;simp only[Tag.own.injEq]at this;exact absurd this hs
       ·rw[zo hu]
      | _=>rfl
   | free=>
    simp only[Leaf.re];cases e2:g2 .free with
    | none=>rfl
    | some y=>
     cases y with
     | own u=>exact absurd (h2 _ _ e2) (by simp)
     | _=>rfl
   | ro s=>
    simp only[Leaf.re];cases e2:g2 (.ro s) with
    | none=>rfl
    | some y=>
     cases y with
     | own u=>exact absurd (h2 _ _ e2) (by simp)
     | _=>rfl
 | np t vs=>
  simp only[Leaf.re];cases e1:g1 (.own t) with
  | none=>simp[Leaf.re]
  | some x=>
   simp only[zan];cases x with
   | own s=>
    simp only;by_cases hs:s=t
    ·subst hs;simp only[zbb,Leaf.re];have hcs:(vs.map (NC.re g1)).map (NC.re g2)=vs.map (NC.re fun t=>(g1 t).bind g2):=by
      rw[List.map_map];refine zW fun c _=>?_
      cases c with
      | und=>rfl
      | v x=>rfl
      | sl t' k es=>
       simp only[Function.comp,NC.re];cases e3:g1 t' with
       | none=>rfl
       | some t2=>simp only[zan,NC.re]
     rw[hcs]
    ·rw[zo hs];simp only[Leaf.re];cases e2:g2 (.own s) with
     | none=>rfl
     | some y=>
      cases y with
      | own u=>
       simp only;by_cases hu:u=t
       ·subst hu;have:=h2 _ _ e2;simp only[Tag.own.injEq]at this;exact absurd this hs
       ·rw[zo hu]
      | _=>rfl
   | free=>
    simp only[Leaf.re];cases e2:g2 .free with
    | none=>rfl
    | some y=>
     cases y with
     | own u=>exact absurd (h2 _ _ e2) (by simp)
     | _=>rfl
   | ro s=>
    simp only[Leaf.re];cases e2:g2 (.ro s) with
    | none=>rfl
    | some y=>
     cases y with
     | own u=>exact absurd (h2 _ _ e2) (by simp)
     | _=>rfl
 | ptr id off=>simp[Leaf.re]
 | _=>rfl
theorem AL.map_map(f g:Leaf→Leaf)(a:AL):(a.map f).map g=a.map (g ∘ f):=by cases a<;>simp[AL.map]
theorem PV.map_map(f g:Leaf→Leaf)(p:PV):(p.map f).map g=p.map (g ∘ f):=by
 cases p with
 | al a=>simp[PV.map,AL.map_map]
 | tup as=>simp only[PV.map,List.map_map];congr 1;refine zW fun a _=>?_;simp[AL.map_map]
theorem St.map_map(f g:Leaf→Leaf)(s:St):(s.map f).map g=s.map (g ∘ f):=by
 simp only[St.map,List.map_map]
 congr 1
 ·refine zW fun p _=>?_
  simp[PV.map_map]
 ·refine zW fun x _=>?_
  simp
theorem qoZ(r:Rng):qcF some r:=fun _ _=>rfl
theorem Rng.cons_has{a b s:Nat}{r:Rng}(h:Rng.has ((a,b)::r) s=false):(s<a∨b≤s)∧Rng.has r s=false:=by
 simp only[Rng.has,zcg,zy,Bool.and_eq_false_iff,zf]at h;exact⟨by omega,h.2⟩
theorem qvo(t:Nat):qcF (qa2 t) [(t,t+10000)]:=by
 intro g hg;cases g with
 | free=>rfl
 | own s=>
  obtain⟨h1,_⟩:=Rng.cons_has hg;simp only[qa2];rw[zo (by omega)]
 | ro s=>
  obtain⟨h1,_⟩:=Rng.cons_has hg;simp only[qa2];rw[zo (by omega)]
theorem qlA{s:Nat}:∀{ms:Moves},(Rng.has (ms.map fun x=>(x.1,x.1+1)) s)=false→(ms.at s).isSome=false
 | [],_=>rfl
 | (i,p)::r,h=>by
  simp only[Rng.has,zav,zcg,zy,Bool.and_eq_false_iff,zf]at h;simp only[Moves.at];rw[zo (by omega)];exact qlA (by simpa only[Rng.has]using h.2)
theorem qvp(t:Nat)(ms:Moves):qcF (mvTag t ms) ((t,t+1)::ms.map fun x=>(x.1,x.1+1)):=by
 intro g hg;cases g with
 | free=>rfl
 | own s=>
  obtain⟨h1,h2⟩:=Rng.cons_has hg;simp only[mvTag];rw[zo (by omega),qlA h2];rfl
 | ro s=>
  obtain⟨h1,h2⟩:=Rng.cons_has hg;simp only[mvTag];rw[zo (by omega),qlA h2];rfl
theorem qo0{mv:Option Nat}{s:Nat}(h:Rng.has (mvRng mv) s=false):mv≠some s:=by
 rintro rfl;simp[Rng.has,mvRng]at h
theorem qo1(t:Nat)(mv:Option Nat):qcF (apTag t mv) ((t,t+1)::mvRng mv):=by
 intro g hg;cases g with
 | free=>rfl
 | own s=>
  obtain⟨h1,h2⟩:=Rng.cons_has hg;simp only[apTag];rw[zo (by omega),zo (qo0 h2)]
 | ro s=>
  obtain⟨h1,h2⟩:=Rng.cons_has hg;simp only[apTag];rw[zo (by omega),zo (qo0 h2)]
theorem qlB(t:Nat)(r:Rng):qcF (mvTag t []) ((t,t+1)::r):=by
 intro g hg;cases g with
 | free=>rfl
 | own s=>
  obtain⟨h1,h2⟩:=Rng.cons_has hg;simp only[mvTag];rw[zo (by omega)];rfl
 | ro s=>
  obtain⟨h1,h2⟩:=Rng.cons_has hg;simp only[mvTag];rw[zo (by omega)];rfl
theorem qo2{P:Program}{st:St}{d:Nat}{t:TypeId}{x y:Operand}{ans ans':List Ans}{e:Eff}{g:Tag→Option Tag}{obs:List Prop}(h:apOf P st d t x y ans=some (e,g,ans',obs)):qcF g e.rng∧e.dst=some d:=by
 unfold apOf at h;split at h
 ·split at h
  ·split at h
   ·split at h
    ·split at h
     ·simp only[za,zd]at h;obtain⟨rfl,rfl,_,_⟩:=h;exact⟨qo1 _ _,rfl⟩
     ·cases h
    ·cases h
   ·split at h
    ·split at h
     ·simp only[za,zd]at h;obtain⟨rfl,rfl,_,_⟩:=h;exact⟨fun t ht=>by simp only[qlB d _ t ht,zan];exact qo1 d _ t ht,rfl⟩
     ·cases h
    ·cases h
   ·cases h
  ·cases h
 ·cases h
theorem qo3{P:Program}{st:St}{o:Oper}{ans ans':List Ans}{e:Eff}{g:Tag→Option Tag}{obs:List Prop}(h:dStep P st o ans=some (e,g,ans',obs)):
  qcF g e.rng∧∃d,e.dst=some d∧qcE P st o ans=some (⟨(st.map (Leaf.re g fun _=>true)).env.set d e.p,(st.map (Leaf.re g fun _=>true)).boxes⟩,ans',obs):=by
 obtain⟨dst,op,type,pos,after,guard⟩:=o;have hid:∀st:St,st.map (Leaf.re some fun _=>true)=st:=by
  intro st;have:(Leaf.re some fun _=>true)=_root_.id:=by
   funext l;cases l<;>simp[Leaf.re,qvm]
  rw[this];simp only[St.map];have h1:PV.map _root_.id=_root_.id:=by
   funext p;cases p with
   | al a=>cases a<;>simp[PV.map,AL.map]
   | tup as=>
    simp only[PV.map,id]
    congr 1
    have:AL.map _root_.id=_root_.id:=by funext a;cases a<;>simp[AL.map]
    rw[this];simp
  rw[h1];simp
 simp only[dStep]at h;split at h
 ·rename_i d f args ts;split at h
  ·rename_i fn ads rs r h1 h2;split at h
   ·rename_i hc;simp only[za,zd]at h;obtain⟨rfl,rfl,rfl,rfl⟩:=h;refine⟨qvo _,d,rfl,?_⟩;simp only[qcE,qcS,isG,zao,zci,qlv,h1,h2,zV];rw[zp hc];rfl
   ·cases h
  ·cases h
 ·rename_i d t n parts;split at h
  ·rename_i k es ms hb;simp only[za,zd]at h;obtain⟨rfl,rfl,rfl,rfl⟩:=h;refine⟨qvp _ _,d,rfl,?_⟩;simp only[qcE,qcS];exact qu1 hb ans
  ·cases h
 ·rename_i d x y t t';split at h
  ·rename_i htt;subst htt;refine⟨(qo2 h).1,d,(qo2 h).2,?_⟩;simp only[qcE,qcS,zbb,Sx.stepAppend];unfold apOf at h;split at h
   ·rename_i ee k he;simp only[he];split at h
    ·rename_i i hi;simp only[hi];split at h
     ·rename_i z tk k' es s hz hl;split at h
      ·rename_i es2 mv a2 o2 hs;split at h
       ·rename_i hc;obtain⟨rfl,hc⟩:=hc;simp only[za,zd]at h;obtain⟨rfl,rfl,rfl,rfl⟩:=h;simp only[apTok,hl,zbb,hz,hs];rw[zp hc];rfl
       ·cases h
      ·cases h
     ·rename_i z _ hz hl;split at h
      ·rename_i es2 mv a2 o2 hs;split at h
       ·rename_i hc;simp only[za,zd]at h;obtain⟨rfl,rfl,rfl,rfl⟩:=h;have hev:(st.newTok d []).ev y=(st.ev y).map (Leaf.re (mvTag d []) fun _=>true):=qvn st _ (fun _=>rfl) rfl (fun _=>rfl) y;simp only[apTok,hl,hz,hev,hs];rw[zp hc];have:(st.newTok d []).ap d mv=st.map (Leaf.re (fun g=>(mvTag d [] g).bind (apTag d mv)) fun _=>true):=by
         simp only[St.newTok,St.ap,St.map_map]
         congr 1
         funext l;refine Leaf.re_re _ _ (fun g t h=>?_) l;cases g with
         | free=>simp[apTag]at h
         | own s=>
          simp only[apTag]at h;split at h
          ·simp at h
          ·split at h
           ·cases h
           ·simpa using h
         | ro s=>
          simp only[apTag]at h;split at h
          ·cases h
          ·split at h
           ·cases h
           ·simp at h
        rw[this]
       ·cases h
      ·cases h
     ·cases h
    ·cases h
   ·cases h
  ·cases h
 ·cases h
 ·rename_i d ty;split at h
  ·rename_i i hi;split at h
   ·rename_i z hz;split at h
    ·rename_i hd;simp only[za,zd]at h;obtain⟨rfl,rfl,rfl,rfl⟩:=h;refine⟨qlB _ _,d,rfl,?_⟩;simp only[qcE,qiR,hi,hz];rw[zp hd];rfl
    ·cases h
   ·cases h
  ·cases h
 ·rename_i d t l c;unfold mkOf at h;split at h
  ·rename_i e hu;split at h
   ·rename_i i k1 l' k2 c' hi e1 e2;split at h
    ·rename_i z hz;split at h
     ·rename_i hc;simp only[za,zd]at h;obtain⟨rfl,rfl,rfl,rfl⟩:=h;refine⟨qlB _ _,d,rfl,?_⟩;simp only[qcE,qcS,qiI,hu,hi,e1,e2,hz];rw[zp hc];rfl
     ·cases h
    ·cases h
   ·cases h
  ·cases h
 ·rename_i d t x lo hi mx;split at h
  ·rename_i ho;unfold cutD at h;split at h
   ·rename_i e k s k' es s0 e1 e2;split at h
    ·rename_i hc;obtain⟨rfl,hs⟩:=hc;split at h
     ·rename_i l hh e3 e4;simp only[za,zd]at h;obtain⟨rfl,rfl,rfl,rfl⟩:=h;refine⟨qvk _,d,rfl,?_⟩;simp only[qcE,qcS,ho,zbb,stepCut,e1,e2,e3,e4,qcD,hs,true_and]
     ·cases h
    ·cases h
   ·cases h
  ·rename_i ho;rw[zc]at h;obtain⟨⟨r1,r2,r3⟩,h1,h⟩:=h;simp only[zd]at h;obtain⟨rfl,rfl,rfl,rfl⟩:=h;refine⟨qoZ _,d,rfl,?_⟩;rw[hid];simp only[qcE,qcS];rw[zo ho,h1];rfl
 ·rename_i d n1 n2 n3 n4 n5 n6 n7;rw[zc]at h;obtain⟨⟨r1,r2,r3⟩,h1,h⟩:=h;simp only[zd]at h;obtain⟨rfl,rfl,rfl,rfl⟩:=h;refine⟨qoZ _,d,rfl,?_⟩;rw[hid];have hD:qcE P st ⟨some d,op,type,pos,after,guard⟩ ans=qcS P st ⟨some d,op,type,pos,after,guard⟩ ans:=by
   unfold qcE;split
   ·rename_i e1 e2;exact (n5 _ e2).elim
   ·rename_i e1 e2;cases e1
   ·rfl
  rw[hD];unfold qcS;split
  all_goals first
   | exact (n4 _ _ (by assumption)).elim
   | exact (n5 _ (by assumption)).elim
   | exact (n6 _ _ _ (by assumption)).elim
   | exact (n2 _ _ _ (by assumption)).elim
   | exact (n1 _ _ _ (by assumption)).elim
   | exact (n3 _ _ _ _ (by assumption)).elim
   | exact (n7 _ _ _ _ _ (by assumption)).elim
   | (simp_all;done)
   | (exfalso;rename_i e;subst e;simp[qcO]at h1)
   | (exfalso;simp_all[qcO])
 ·rename_i ty s y;split at h
  ·rename_i tk vs v i e1 e2 e3;split at h
   ·rename_i hc;simp only[za,zd]at h;obtain⟨rfl,rfl,rfl,rfl⟩:=h;refine⟨qvl _,s,rfl,?_⟩;simp only[qcE,qiT,e1,e2,e3];rw[zp hc]
   ·cases h
  ·cases h
 ·cases h
theorem Rel.weaken{w0:Base}{st st':St}{a:Act}{w:World}(h:Rel w0 st a w)(hn:st'.env.length=st.env.length)(hb:st'.boxes=st.boxes)
  (he:∀(i:Nat) (p:PV),st'.env[i]?=some p→p=.und∨st.env[i]?=some p):Rel w0 st' a w:=by
 obtain⟨ω,τ,h⟩:=h;refine⟨ω,τ,h.defers,h.size.trans hn.symm,h.below,h.owned,h.fixed,h.pinned,fun i p hp=>?_,by rw[hb];exact h.boxes⟩;rcases he i p hp with rfl | h2
 ·have:i<a.tmps.size:=by
   rw[h.size,←hn];exact (zk.1 hp).1
  exact⟨a.tmps[i],by simp[this],trivial⟩
 ·exact h.env i p h2
def Eff.touch(e:Eff)(t:Nat):Option PV:=if e.dst=some t then some e.p else if t∈e.use then some .und else none
def qdl(env:List PV):List Nat→List PV
 | s::us=>qdl (env.set s .und) us
 | []=>env
theorem qlC:∀(us:List Nat) (env:List PV),(qdl env us).length=env.length
 | [],env=>rfl
 | s::us,env=>by simp[qdl,qlC us]
theorem qo4:∀(us:List Nat) (env:List PV) (t:Nat),(qdl env us)[t]?=(env[t]?).map fun p=>if t∈us then .und else p
 | [],env,t=>by simp[qdl]
 | s::us,env,t=>by
  simp only[qdl,qo4 us,zad,zL];by_cases h:s=t
  ·subst h;by_cases hl:s<env.length
   ·simp[hl]
   ·simp[hl]
  ·rw[zo h];have h':¬t=s:=fun e=>h e.symm
   simp only[h',false_or]
def Eff.apply(e:Eff)(env:List PV):List PV:=
 match e.dst with
 | some d=>(qdl env e.use).set d e.p
 | none=>env
theorem Eff.apply_get{e:Eff}(hd:e.dst≠none)(env:List PV)(t:Nat):(e.apply env)[t]?=(env[t]?).map fun p=>(e.touch t).getD p:=by
 unfold Eff.apply Eff.touch;split
 ·rename_i d hd';have hs:∀(t:Nat),(qdl env e.use)[t]?=(env[t]?).map fun p=>if t∈e.use then .und else p:=qo4 e.use env
  rw[zad,hs t];by_cases h:d=t
  ·subst h;by_cases hl:d<env.length
   ·have:d<(qdl env e.use).length:=by rw[qlC];exact hl
    simp[this,hl,hd']
   ·have:¬d<(qdl env e.use).length:=by rw[qlC];exact hl
    simp[this,hl]
  ·rw[zo h];cases henv:env[t]? with
   | none=>simp
   | some p=>
    have hne:¬(e.dst=some t):=by rw[hd'];simpa using h
    simp only[zaw,za,zo hne];by_cases hu:t∈e.use
    ·simp[hu]
    ·simp[hu]
 ·exact absurd ‹_› hd
def lastT(L:Nat→Bool)(t:Nat):Nat→List Eff→PV→PV
 | _,[],acc=>acc
 | k,e::es,acc=>lastT L t (k+1) es (if L k then (e.touch t).getD acc else acc)
theorem qhi{L L':Nat→Bool}{t:Nat}:∀{es:List Eff} {k:Nat} {acc:PV},(∀(j:Nat) (e:Eff),es[j]?=some e→e.touch t≠none→L (k+j)=L' (k+j))→lastT L t k es acc=lastT L' t k es acc
 | [],_,_,_=>rfl
 | e::es,k,acc,h=>by
  simp only[lastT];have h0:(if L k then (e.touch t).getD acc else acc)=(if L' k then (e.touch t).getD acc else acc):=by
   cases ht:e.touch t with
   | none=>simp
   | some p=>have:=h 0 e rfl (by simp[ht]);rw[zbj]at this;rw[this]
  rw[h0];exact qhi fun j e' hj ht=>by have:=h (j+1) e' (by simpa using hj) ht;rwa[show k+(j+1)=k+1+j by omega]at this
theorem qo5{L:Nat→Bool}{t:Nat}{p:PV}:∀{es:List Eff} {k i:Nat} {acc:PV} {e:Eff},es[i]?=some e→e.touch t=some p→L (k+i)=true→
  (∀(j:Nat) (e':Eff),i<j→es[j]?=some e'→e'.touch t≠none→L (k+j)=false)→lastT L t k es acc=p
 | [],_,_,_,_,h,_,_,_=>by simp at h
 | e0::es,k,0,acc,e,h,ht,hL,hno=>by
  simp at h;subst h;simp only[lastT];rw[zbj]at hL;rw[hL,ht];simp only[zbb,zV];have:∀(es:List Eff) (k:Nat),(∀(j:Nat) (e':Eff),es[j]?=some e'→e'.touch t≠none→L (k+j)=false)→lastT L t k es p=p:=by
   intro es;induction es with
   | nil=>intro k _;rfl
   | cons e1 es ih=>
    intro k h;simp only[lastT];have h1:(if L k then (e1.touch t).getD p else p)=p:=by
     cases ht:e1.touch t with
     | none=>simp
     | some q=>have:=h 0 e1 rfl (by simp[ht]);rw[zbj]at this;simp[this]
    rw[h1];exact ih (k+1) fun j e' hj ht'=>by have:=h (j+1) e' (by simpa using hj) ht';rwa[show k+(j+1)=k+1+j by omega]at this
  exact this es (k+1) fun j e' hj ht'=>by have:=hno (j+1) e' (by omega) (by simpa using hj) ht';rwa[show k+(j+1)=k+1+j by omega]at this
 | e0::es,k,i+1,acc,e,h,ht,hL,hno=>by
  simp only[lastT];exact qo5 (i:=i) (by simpa using h) ht (by rwa[show k+1+i=k+(i+1) by omega]) fun j e' hj hj' ht'=>by
   have:=hno (j+1) e' (by omega) (by simpa using hj') ht';rwa[show k+(j+1)=k+1+j by omega]at this
def stOf(env0:List PV)(bs:List (Nat×List Leaf))(L:Nat→Bool)(es:List Eff):St:=⟨env0.zipIdx.map fun x=>lastT L x.2 0 es x.1,bs⟩
theorem qc4{env0:List PV}{bs:List (Nat×List Leaf)}{L:Nat→Bool}{es:List Eff}(t:Nat):(stOf env0 bs L es).env[t]?=(env0[t]?).map fun p=>lastT L t 0 es p:=by
 simp only[stOf,zr,List.getElem?_zipIdx,zv];cases env0[t]?<;>rfl
theorem qf6{env0:List PV}{bs:List (Nat×List Leaf)}{L:Nat→Bool}{es:List Eff}:(stOf env0 bs L es).env.length=env0.length:=by simp[stOf]
def qlD(ops:Array Oper)(o:Oper):Option Nat:=o.guard.bind fun x=>(ops[x.1]?).bind (·.dst)
def reads(ops:Array Oper)(o:Oper):List Nat:=o.op.operands.toList.filterMap qoY++(qlD ops o).toList
def qf7(d:Nat):Eff:=⟨some d,.one (.v undef),[],[]⟩
def ext(e:Eff)(env:List PV):Eff:=
 if e.rng.isEmpty then e else { e with use:=e.use++(env.zipIdx.filterMap fun x=>if x.1.ment e.rng&&!(e.dst==some x.2) then some x.2 else none) }
theorem qi5(e:Eff)(env:List PV):∃u,ext e env={ e with use:=u }:=by
 unfold ext;split
 ·exact⟨e.use,rfl⟩
 ·exact⟨_,rfl⟩
structure SnI where
 t:Nat
 i:Nat
 j:Nat
 k:Nat
 kT:Nat
 es:List (List D)
 esT:List (List D)
def rootB(t:Nat)(bs:List (Nat×List Leaf)):Option (Nat×List (List D)):=
 (bs.find? fun x=>(x.2.findSome? (rootL t)).isSome).bind fun x=>(qap x.1 bs).bind fun ls=>ls.findSome? (rootL t)
theorem qvq{w0:Base}{st:St}{a:Act}{w:World}{ω:Own}{τ:Nat→Nat×Value}(h:RelAt w0 st a w ω τ){t kT:Nat}{esT:List (List D)}(e:rootB t st.boxes=some (kT,esT)):∃v,Sat w ω τ (.sl (.own t) kT esT) v:=by
 unfold rootB at e;rw[zah]at e;obtain⟨x,_,e⟩:=e;rw[zah]at e;obtain⟨ls,hb,e⟩:=e;obtain⟨l,hl,e⟩:=List.exists_of_findSome?_eq_some e;obtain⟨b,arr,ty,_,_,_,hs⟩:=h.boxes _ ls hb;obtain⟨n,hn⟩:=zak.1 hl;obtain⟨u,_,hu⟩:=hs.2 n l hn;exact⟨u,qlh e hu⟩
def qdm(st:St)(o:Oper):Option SnI:=
 match o.dst,o.op with
 | some _,.call ⟨.builtin .append,⟨[x,_]⟩,⟨[_,_]⟩⟩=>
  match (st.ev x).leaf with
  | some (.sn s i j k es .here)=>
   match rootB s st.boxes with
   | some (kT,esT)=>some ⟨s,i,j,k,kT,es,esT⟩
   | none=>none
  | _=>none
 | _,_=>none
def snD(P:Program)(st:St)(o:Oper)(ans:List Ans):Option (Eff×List Ans×List Prop):=
 match qdm st o,o.dst,o.op with
 | some v,some d,.call ⟨.builtin .append,⟨[_,y]⟩,⟨[t,t']⟩⟩=>
  if t=t' then (appendSnR P t v.t v.i v.j v.k v.es v.esT (st.ev y) ans).map fun r=>(⟨some d,r.1,[],[]⟩,r.2.1,r.2.2) else none
 | _,_,_=>none
def SnI.fix(v:SnI):Leaf→Option (List Prop)
 | .sl (.own s) k0 es0=>if s=v.t then (if k0=v.kT then some [es0=v.esT] else none) else some []
 | .ep (.own s) k0 es0 _ _=>if s=v.t then (if k0=v.kT then some [es0=v.esT] else none) else some []
 | .sl (.ro s) _ _=>if s=v.t then none else some []
 | .ep (.ro s) _ _ _ _=>if s=v.t then none else some []
 | .sn s a b k0 es0 m=>if s=v.t∧b=v.j then (if k0=v.k∧m.home=true then some [a=v.i,es0=v.es] else none) else some []
 | .np _ _=>none
 | _=>some []
def SnI.Fixed(v:SnI)(l:Leaf):Prop:=qa8 v.t v.i v.j v.k v.es v.kT v.esT l=l∧∀a∈l.idx v.t v.j,a=v.i
theorem SnI.fix_ok{v:SnI}{l:Leaf}{obs:List Prop}(h:v.fix l=some obs)(ho:Obs obs):v.Fixed l:=by
 obtain⟨t,i,j,k,kT,es,esT⟩:=v;unfold SnI.Fixed;simp only;cases l with
 | sl g k0 es0=>
  refine⟨?_,fun a ha=>by simp[Leaf.idx]at ha⟩;cases g with
  | free=>rfl
  | own s=>
   simp only[SnI.fix]at h;split at h
   ·rename_i hs;subst hs;split at h
    ·rename_i hk;subst hk;cases h;have e:es0=esT:=ho.1;subst e;simp[qa8]
    ·cases h
   ·rename_i hs;simp[qa8,hs]
  | ro s=>
   simp only[SnI.fix]at h;split at h
   ·cases h
   ·rename_i hs;simp[qa8,hs]
 | ep g k0 es0 x y=>
  refine⟨?_,fun a ha=>by simp[Leaf.idx]at ha⟩;cases g with
  | free=>rfl
  | own s=>
   simp only[SnI.fix]at h;split at h
   ·rename_i hs;subst hs;split at h
    ·rename_i hk;subst hk;cases h;have e:es0=esT:=ho.1;subst e;simp[qa8]
    ·cases h
   ·rename_i hs;simp[qa8,hs]
  | ro s=>
   simp only[SnI.fix]at h;split at h
   ·cases h
   ·rename_i hs;simp[qa8,hs]
 | sn s a b k0 es0 m=>
  simp only[SnI.fix]at h;split at h
  ·rename_i hs;obtain⟨rfl,rfl⟩:=hs;split at h
   ·rename_i hk;cases h;have e1:a=i:=ho.1;have e2:es0=es:=ho.2.1;subst e1;subst e2;refine⟨?_,fun x hx=>?_⟩
    ·obtain⟨rfl,hm⟩:=hk;simp[qa8,hm]
    ·simpa[Leaf.idx]using hx
   ·cases h
  ·rename_i hs;refine⟨?_,fun x hx=>?_⟩
   ·simp only[qa8];rw[zo hs]
   ·simp[Leaf.idx,hs]at hx
 | np t vs=>cases h
 | _=>exact⟨rfl,fun a ha=>by simp[Leaf.idx]at ha⟩
def AL.lv:AL→List Leaf
 | .one l=>[l]
 | .agg ls=>ls
def PV.lv:PV→List Leaf
 | .al a=>a.lv
 | .tup as=>as.flatMap AL.lv
theorem AL.lv_all{p:Leaf→Prop}{a:AL}(h:∀l∈a.lv,p l):a.All p:=by
 cases a with
 | one l=>exact h l (by simp[AL.lv])
 | agg ls=>exact h
theorem PV.lv_all{p:Leaf→Prop}{q:PV}(h:∀l∈q.lv,p l):q.All p:=by
 cases q with
 | al a=>exact AL.lv_all h
 | tup as=>exact fun a ha=>AL.lv_all fun l hl=>h l (zar.2 ⟨a,ha,hl⟩)
def SnI.fixes(v:SnI):List Leaf→Option (List Prop)
 | []=>some []
 | l::r=>
  match v.fix l,SnI.fixes v r with
  | some a,some b=>some (a++b)
  | _,_=>none
theorem SnI.fixes_ok{v:SnI}:∀{ls:List Leaf} {obs:List Prop},v.fixes ls=some obs→Obs obs→∀l∈ls,v.Fixed l
 | [],_,_,_,l,hl=>by cases hl
 | l0::r,obs,h,ho,l,hl=>by
  simp only[SnI.fixes]at h;split at h
  ·rename_i a b h1 h2;cases h;obtain⟨o1,o2⟩:=ho.append;rcases zL.1 hl with rfl | hl
   ·exact SnI.fix_ok h1 o1
   ·exact SnI.fixes_ok h2 o2 l hl
  ·cases h
def snObs(bs:List (Nat×List Leaf))(all:Nat→List Leaf):Nat→List Oper→List PV→List Eff→Option (List Prop)
 | i,o::os,env,e::es=>
  match qdm ⟨env,bs⟩ o with
  | some v=>
   match v.fixes (all i),snObs bs all (i+1) os (e.apply env) es with
   | some a,some b=>some (a++b)
   | _,_=>none
  | none=>snObs bs all (i+1) os (e.apply env) es
 | _,_,_,_=>some []
theorem qo6{bs:List (Nat×List Leaf)}{all:Nat→List Leaf}:∀{l:List Oper} {es:List Eff} {env:List PV} {i0:Nat} {obs:List Prop},snObs bs all i0 l env es=some obs→Obs obs→
  ∀(i:Nat) (o:Oper),l[i]?=some o→i<es.length→∀v,qdm ⟨(es.take i).foldl (fun env e=>e.apply env) env,bs⟩ o=some v→∀lf∈all (i0+i),v.Fixed lf
 | [],_,_,_,_,_,_,i,o,hi,_,_,_,_,_=>by simp at hi
 | _::_,[],_,_,_,_,_,i,o,_,hl,_,_,_,_=>by simp at hl
 | o0::os,e::es,env,i0,obs,h,ho,i,o,hi,hl,v,hv,lf,hlf=>by
  simp only[snObs]at h;cases i with
  | zero=>
   simp only[zag,za]at hi;subst hi;simp only[List.take_zero,List.foldl_nil]at hv;rw[hv]at h;simp only at h;split at h
   ·rename_i a b h1 h2;cases h;exact SnI.fixes_ok h1 ho.append.1 lf hlf
   ·cases h
  | succ i=>
   have go:∀{b:List Prop},snObs bs all (i0+1) os (e.apply env) es=some b→Obs b→v.Fixed lf:=fun h2 o2=>
    qo6 h2 o2 i o (by simpa using hi) (by simpa using hl) v (by simpa using hv) lf (by rw[show i0+1+i=i0+(i+1) by omega];exact hlf)
   split at h
   ·split at h
    ·rename_i a b h1 h2;cases h;exact go h2 ho.append.2
    ·cases h
   ·exact go h ho
def qd8(P:Program)(ops:Array Oper)(gs:List Nat)(bs:List (Nat×List Leaf)):List Oper→List PV→List Ans→Option (List Eff×List PV×List Ans×List Prop)
 | [],env,ans=>some ([],env,ans,[])
 | o::rest,env,ans=>
  match qdk ops ⟨env,bs⟩ o [] with
  | some (true,_,_,_)=>
   match dStep P ⟨env,bs⟩ o ans with
   | some (e,_,ans1,obs1)=>
    match (match o.dst with | some d=>gs.contains d | none=>false),e.p.leaf,ans1 with
    | true,some (.sb c),.br b::r=>
     (qd8 P ops gs bs rest (Eff.apply { ext e env with p:=.one (.v (.bool b)) } env) r).map fun x=>({ ext e env with p:=.one (.v (.bool b)) }::x.1,x.2.1,x.2.2.1,(c=b)::(obs1++x.2.2.2))
    | _,_,_=>(qd8 P ops gs bs rest ((ext e env).apply env) ans1).map fun x=>(ext e env::x.1,x.2.1,x.2.2.1,obs1++x.2.2.2)
   | none=>
    match snD P ⟨env,bs⟩ o ans with
    | some (e,ans1,obs1)=>(qd8 P ops gs bs rest (e.apply env) ans1).map fun x=>(e::x.1,x.2.1,x.2.2.1,obs1++x.2.2.2)
    | none=>none
  | some (false,_,_,_)=>
   match o.dst with
   | some d=>(qd8 P ops gs bs rest ((qf7 d).apply env) ans).map fun x=>(qf7 d::x.1,x.2.1,x.2.2.1,x.2.2.2)
   | none=>none
  | none=>none
def Fact(P:Program)(ops:Array Oper)(bs:List (Nat×List Leaf))(env:List PV)(o:Oper)(e:Eff):Prop:=
 (∃st1 a1 o1,qdk ops ⟨env,bs⟩ o []=some (false,st1,a1,o1)∧∃d,o.dst=some d∧e=qf7 d)∨
 (∃st1 a1 o1,qdk ops ⟨env,bs⟩ o []=some (true,st1,a1,o1)∧∃ans e0 g ans' obs,dStep P ⟨env,bs⟩ o ans=some (e0,g,ans',obs)∧Obs obs∧
  ∃u,(e={ e0 with use:=u }∨∃c b,e0.p=.one (.sb c)∧c=b∧e={ e0 with use:=u,p:=.one (.v (.bool b)) }))∨
 (∃st1 a1 o1,qdk ops ⟨env,bs⟩ o []=some (true,st1,a1,o1)∧∃ans ans' obs,snD P ⟨env,bs⟩ o ans=some (e,ans',obs)∧Obs obs)
theorem qhj{P:Program}{ops:Array Oper}{gs:List Nat}{bs:List (Nat×List Leaf)}:∀{l:List Oper} {env env':List PV} {ans ans':List Ans} {es:List Eff} {obs:List Prop},
  qd8 P ops gs bs l env ans=some (es,env',ans',obs)→Obs obs→
  es.length=l.length∧env'=es.foldl (fun env e=>e.apply env) env∧∀(i:Nat) (o:Oper),l[i]?=some o→∃e,es[i]?=some e∧Fact P ops bs ((es.take i).foldl (fun env e=>e.apply env) env) o e
 | [],env,env',ans,ans',es,obs,h,_=>by
  simp only[qd8,za,zd]at h;obtain⟨rfl,rfl,_,_⟩:=h;exact⟨rfl,rfl,fun i o ho=>by simp at ho⟩
 | o::rest,env,env',ans,ans',es,obs,h,ho=>by
  have fin:∀(e:Eff) (es0:List Eff) (env1:List PV),(es0.length=rest.length∧env1=es0.foldl (fun env e=>e.apply env) (e.apply env)∧∀(i:Nat) (o:Oper),rest[i]?=some o→∃e',es0[i]?=some e'∧Fact P ops bs ((es0.take i).foldl (fun env e=>e.apply env) (e.apply env)) o e')→
    Fact P ops bs env o e→(e::es0).length=(o::rest).length∧env1=(e::es0).foldl (fun env e=>e.apply env) env∧∀(i:Nat) (o':Oper),(o::rest)[i]?=some o'→∃e',(e::es0)[i]?=some e'∧Fact P ops bs (((e::es0).take i).foldl (fun env e=>e.apply env) env) o' e':=by
   intro e es0 env1 ⟨h1,h2,h3⟩ hf;refine⟨by simp[h1],h2,fun i o' ho'=>?_⟩;cases i with
   | zero=>simp at ho';subst ho';exact⟨e,rfl,hf⟩
   | succ i=>exact h3 i o' (by simpa using ho')
  simp only[qd8]at h;split at h
  ·rename_i st1 a1 o1 hw;split at h
   ·rename_i e g ans1 obs1 hd;split at h
    ·rename_i c b r hg hl;rw[zc]at h;obtain⟨⟨x1,x2,x3,x4⟩,h1,h⟩:=h;simp only[zd]at h;obtain⟨rfl,rfl,_,rfl⟩:=h;have o23:(c=b)∧Obs x4:=⟨ho.1,(Obs.append ho.2).2⟩
     have o1':=(Obs.append ho.2).1;refine fin _ _ _ (qhj h1 o23.2) (.inr (.inl ⟨_,_,_,hw,_,_,_,_,_,hd,o1',(qi5 e env).choose,.inr ⟨c,b,?_,?_,?_⟩⟩))
     ·cases hp:e.p with
      | al a=>
       rw[hp]at hl;cases a with
       | one l=>simp only[PV.leaf,za]at hl;rw[hl]
       | agg ls=>cases hl
      | tup as=>rw[hp]at hl;cases hl
     ·exact o23.1
     ·conv=>lhs;rw[(qi5 e env).choose_spec]
    ·rw[zc]at h;obtain⟨⟨x1,x2,x3,x4⟩,h1,h⟩:=h;simp only[zd]at h;obtain⟨rfl,rfl,_,rfl⟩:=h;obtain⟨o1',o2⟩:=ho.append;exact fin _ _ _ (qhj h1 o2) (.inr (.inl ⟨_,_,_,hw,_,_,_,_,_,hd,o1',(qi5 e env).choose,.inl (qi5 e env).choose_spec⟩))
   ·split at h
    ·rename_i e ans1 obs1 hsn;rw[zc]at h;obtain⟨⟨x1,x2,x3,x4⟩,h1,h⟩:=h;simp only[zd]at h;obtain⟨rfl,rfl,_,rfl⟩:=h;obtain⟨o1',o2⟩:=ho.append;exact fin _ _ _ (qhj h1 o2) (.inr (.inr ⟨_,_,_,hw,_,_,_,hsn,o1'⟩))
    ·cases h
  ·rename_i st1 a1 o1 hw;split at h
   ·rename_i d hd;rw[zc]at h;obtain⟨⟨x1,x2,x3,x4⟩,h1,h⟩:=h;simp only[zd]at h;obtain⟨rfl,rfl,_,rfl⟩:=h;exact fin _ _ _ (qhj h1 ho) (.inl ⟨_,_,_,hw,d,hd,rfl⟩)
   ·cases h
  ·cases h
end Go.Sx
namespace Go.Sx
open Go.RowKit
theorem qo7{st st':St}{parts:List (Nat×Operand)}(h:∀x∈parts,st.ev x.2=st'.ev x.2):(parts.map fun x=>(x.1,st.ev x.2))=parts.map fun x=>(x.1,st'.ev x.2):=
 zW fun x hx=>by rw[h x hx]
theorem qo8{P:Program}{st st':St}{op:Op}{ans:List Ans}(hb:st.boxes=st'.boxes)(h:∀x∈op.operands.toList,st.ev x=st'.ev x):qcO P st op ans=qcO P st' op ans:=by
 cases op<;>simp only[qcO,Op.operands,zL,List.mem_nil_iff,forall_eq_or_imp,or_false,forall_eq]at h ⊢
 case load t x=>simp only[qiA,h,hb]
 case slice t x lo hi mx=>
  have hx:st.ev x=st'.ev x:=h x (by simp);have ho:∀o:Option Operand,(∀y,o=some y→st.ev y=st'.ev y)→qb3 st o=qb3 st' o:=by
   intro o ho;cases o with
   | none=>rfl
   | some y=>simp only[qb3,ho y rfl]
  simp only[qiB,hx];rw[ho lo (fun y e=>h y (by simp[e])),ho hi (fun y e=>h y (by simp[e]))]
 case build t ps=>
  have:(ps.toList.map fun x=>(x.1,st.ev x.2))=ps.toList.map fun x=>(x.1,st'.ev x.2):=qo7 fun x hx=>h x.2 (by simp;exact⟨x.1,by simpa using hx⟩)
  simp only[qiC,this]
 case call c=>
  obtain⟨callee,args,ts⟩:=c;cases callee with
  | value f=>rfl
  | invoke r i=>rfl
  | builtin b=>
   simp only[Call.operands]at h;have h':∀x∈args.toList,st.ev x=st'.ev x:=fun x hx=>h x (by simpa using hx)
   simp only;generalize args.toList=l at h';unfold qiF;split
   ·rw[h' _ (by simp)]
   ·rw[h' _ (by simp),h' _ (by simp)]
   ·rw[h' _ (by simp),h' _ (by simp)]
   ·rfl
 case makeFunc fn first captured=>
  have hc:captured.toList.map st.ev=captured.toList.map st'.ev:=zW fun x hx=>h x (by simp;right;simpa using hx)
  simp only[qiE,hc]
 all_goals simp[h]
theorem qvr{P:Program}{st st':St}{o:Oper}{ans:List Ans}(hb:st.boxes=st'.boxes)(h:∀x∈o.op.operands.toList,st.ev x=st'.ev x):dStep P st o ans=dStep P st' o ans:=by
 obtain⟨dst,op,type,pos,after,guard⟩:=o;simp only at h;cases dst with
 | none=>
  cases op with
  | store ty x y=>
   cases x with
   | tmp s=>
    have hx:st.ev (.tmp s)=st'.ev (.tmp s):=h (.tmp s) (by simp[Op.operands]);have hy:st.ev y=st'.ev y:=h y (by simp[Op.operands]);simp only[St.ev]at hx;simp only[dStep,hx,hy]
   | _=>rfl
  | _=>rfl
 | some d=>
  unfold dStep;split
  ·rename_i f args ts e1 e2;simp only at e1 e2;subst e2;have h':∀x∈args.toList,st.ev x=st'.ev x:=fun x hx=>h x (by simp[Op.operands,Call.operands];right;simpa using hx)
   have:args.toList.mapM (fun x=>(st.ev x).argD st.boxes)=args.toList.mapM (fun x=>(st'.ev x).argD st'.boxes):=by
    rw[←hb];generalize args.toList=l at h';generalize st.boxes=bs;induction l with
    | nil=>rfl
    | cons x l ih=>simp only[zch,h' x (by simp),ih fun y hy=>h' y (by simp[hy])]
   rw[this]
  ·rename_i t n parts e1 e2;simp only at e1 e2;subst e2;have:(parts.toList.map fun x=>(x.1,st.ev x.2))=parts.toList.map fun x=>(x.1,st'.ev x.2):=qo7 fun x hx=>h x.2 (by simp[Op.operands];exact⟨x.1,by simpa using hx⟩)
   simp only[bsOf,this]
  ·rename_i x y t t' e1 e2;simp only at e1 e2;subst e2;have hx:st.ev x=st'.ev x:=h x (by simp[Op.operands,Call.operands]);have hy:st.ev y=st'.ev y:=h y (by simp[Op.operands,Call.operands]);simp only[apOf,hx,hy]
  ·rfl
  ·rfl
  ·rename_i t l c e1 e2;simp only at e1 e2;subst e2;rw[h l (by simp[Op.operands]),h c (by simp[Op.operands])]
  ·rename_i t x lo hi mx e1 e2;simp only at e1 e2;subst e2;have hx:st.ev x=st'.ev x:=h x (by simp[Op.operands]);have ho:∀o:Option Operand,(∀y,o=some y→st.ev y=st'.ev y)→qb3 st o=qb3 st' o:=by
    intro o ho;cases o with
    | none=>rfl
    | some y=>simp only[qb3,ho y rfl]
   rw[qo8 hb h];simp only[cutD,hx];rw[ho lo (fun y e=>h y (by simp[Op.operands,e])),ho hi (fun y e=>h y (by simp[Op.operands,e]))]
  ·rw[qo8 hb h]
  ·rename_i e1 e2;cases e1
  ·rfl
theorem ev_of{st st':St}{x:Operand}(h:∀t,qoY x=some t→st.env.getD t .und=st'.env.getD t .und):st.ev x=st'.ev x:=by
 cases x with
 | tmp t=>simpa[St.ev]using h t rfl
 | _=>rfl
def anc(ms:List Nat)(i j:Nat):Bool:=(ms.getD j 0).testBit i
def qeV(ms:List Nat):List Edge→Nat
 | []=>0
 | e::r=>if Region.binds .any e then (2 ^ e.on ||| ms.getD e.on 0) ||| qeV ms r else qeV ms r
def mksGo:List Oper→List Nat→List Nat
 | [],acc=>acc
 | o::r,acc=>mksGo r (acc++[qeV acc o.after.toList])
theorem qlE{ms:List Nat}{i:Nat}:∀{l:List Edge},(qeV ms l).testBit i=true→∃e∈l,Region.binds .any e=true∧(i=e.on∨anc ms i e.on=true)
 | [],h=>by simp[qeV]at h
 | e::r,h=>by
  simp only[qeV]at h;split at h
  ·rename_i hb;rw[Nat.testBit_or,Nat.testBit_or,zbi,zbi,Nat.testBit_two_pow,zi]at h;rcases h with (h | h) | h
   ·exact⟨e,by simp,hb,.inl h.symm⟩
   ·exact⟨e,by simp,hb,.inr h⟩
   ·obtain⟨e',h1,h2⟩:=qlE h;exact⟨e',by simp[h1],h2⟩
  ·obtain⟨e',h1,h2⟩:=qlE h;exact⟨e',by simp[h1],h2⟩
def allAt{α:Type}(f:Nat→α→Bool):Nat→List α→Bool
 | _,[]=>true
 | k,x::r=>f k x&&allAt f (k+1) r
theorem qeW{α:Type}{f:Nat→α→Bool}:∀{l:List α} {k:Nat},allAt f k l=true→∀(i:Nat) (x:α),l[i]?=some x→f (k+i) x=true
 | [],_,_,i,x,h=>by simp at h
 | y::r,k,h,0,x,hx=>by
  simp only[allAt,zj]at h;simp at hx;subst hx;exact h.1
 | y::r,k,h,i+1,x,hx=>by
  simp only[allAt,zj]at h;have:=qeW h.2 i x (by simpa using hx);rwa[show k+1+i=k+(i+1) by omega]at this
def qdM(ms:List Nat)(os:List Oper):Bool:=
 allAt (fun j o=>ms.getD j 0==qeV ms o.after.toList&&o.after.toList.all fun e=>!Region.binds .any e||decide (e.on<j)) 0 os
theorem qlF{ms:List Nat}{ops:Array Oper}(h:qdM ms ops.toList=true){j:Nat}{o:Oper}(ho:ops[j]?=some o):(∀e∈o.after,Region.binds .any e=true→e.on<j)∧
  ∀i,anc ms i j=true→∃e∈o.after,Region.binds .any e=true∧(i=e.on∨anc ms i e.on=true):=by
 have:=qeW h j o (by simpa using ho);simp only[zv,zj,zE,zM,zbi,zS,zi]at this;refine⟨fun e he hb=>(this.2 e (by simpa using he)).resolve_left (by simp[hb]),fun i hi=>?_⟩;unfold anc at hi;rw[this.1]at hi;obtain⟨e,h1,h2⟩:=qlE hi;exact⟨e,by simpa using h1,h2⟩
def qc5(ops:Array Oper)(listed:Array Bool):Prop:=
 ∀(j:Nat) (o:Oper),listed.getD j false=true→ops[j]?=some o→∀e∈o.after,Region.binds .any e=true→listed.getD e.on false=true
theorem qi6{listed:Array Bool}{j:Nat}(h:listed.getD j false=true):j<listed.size:=by
 rcases zbp j listed.size with h' | h'
 ·exact h'
 ·simp[zcn h']at h
theorem qi7{ms:List Nat}{ops:Array Oper}{listed:Array Bool}(h:qdM ms ops.toList=true)(hc:qc5 ops listed)(hs:listed.size=ops.size){i:Nat}:∀(j:Nat),listed.getD j false=true→anc ms i j=true→listed.getD i false=true:=by
 intro j;induction j using Nat.strongRecOn with
 | ind j ih=>
  intro hj ha;have hlt:j<ops.size:=hs▸qi6 hj;have ho:ops[j]?=some ops[j]:=zD hlt;obtain⟨h1,h2⟩:=qlF h ho;obtain⟨e,he,hb,he2⟩:=h2 i ha;have hel:=hc j _ hj ho e he hb;rcases he2 with rfl | he2
  ·exact hel
  ·exact ih e.on (h1 e he hb) hel he2
theorem qhk{ms:List Nat}{ops:Array Oper}{listed:Array Bool}(h:qdM ms ops.toList=true)(hc:qc5 ops listed)(hs:listed.size=ops.size){i k:Nat}(hi:i∈Region.ready .any ops listed)(ha:anc ms k i=true):listed.getD k false=true:=by
 rw[mem_ready]at hi;obtain⟨_,o,ho,he⟩:=hi;obtain⟨_,h2⟩:=qlF h ho;obtain⟨e,he1,hb,he2⟩:=h2 k ha;rcases he2 with rfl | he2
 ·exact he e he1 hb
 ·exact qi7 h hc hs _ (he e he1 hb) he2
theorem qc5.ready{ops:Array Oper}{listed:Array Bool}(hc:qc5 ops listed){i:Nat}(hi:i∈Region.ready .any ops listed):qc5 ops (listed.setIfInBounds i true):=by
 intro j o hj ho e he hb;rw[mem_ready]at hi;obtain⟨_,oi,hoi,hie⟩:=hi;by_cases hij:i=j
 ·subst hij;rw[hoi]at ho;cases ho;exact getD_set_true (hie e he hb)
 ·rw[getD_set_ne false hij]at hj;exact getD_set_true (hc j o hj ho e he hb)
theorem qlG{ms:List Nat}{ops:Array Oper}{listed:Array Bool}(h:qdM ms ops.toList=true)(hs:listed.size=ops.size)(hr:Region.ready .any ops listed=[]):∀j,j<ops.size→listed.getD j false=true:=by
 intro j;induction j using Nat.strongRecOn with
 | ind j ih=>
  intro hlt;have ho:ops[j]?=some ops[j]:=zD hlt;obtain⟨h1,_⟩:=qlF h ho;cases hl:listed.getD j false with
  | true=>rfl
  | false=>
   have:j∈Region.ready .any ops listed:=by
    rw[mem_ready];refine⟨?_,_,ho,fun e he hb=>ih e.on (h1 e he hb) (Nat.lt_trans (h1 e he hb) hlt)⟩;have hlt':j<listed.size:=hs▸hlt;simp[zD hlt']at hl ⊢;exact hl
   rw[hr]at this;cases this
def qhl(e:Eff):List Nat:=e.dst.toList++e.use
def qi8(ops:Array Oper)(o:Oper)(e:Eff):List Nat:=qhl e++reads ops o
def ordd(ms:List Nat)(i k:Nat):Bool:=if k<i then anc ms k i else anc ms i k
def qlH(ops:Array Oper)(ms:List Nat)(es:List Eff):Bool:=
 allAt (fun i x=>allAt (fun k e=>k==i||ordd ms i k||!((qhl e).any fun t=>(qi8 ops x.1 x.2).contains t)) 0 es) 0 (ops.toList.zip es)
def qf8(ms:List Nat)(es:List Eff)(i lo:Nat)(s:Option Nat):Bool:=es.zipIdx.any fun y=>decide (lo≤y.2)&&anc ms y.2 i&&(match s with | some t=>y.1.use.contains t | none=>false)
theorem qo9{ms:List Nat}{es:List Eff}{i lo:Nat}{s:Option Nat}(h:qf8 ms es i lo s=true):∃m y t,es[m]?=some y∧lo≤m∧anc ms m i=true∧t∈y.use∧s=some t:=by
 unfold qf8 at h;rw[zcj]at h;obtain⟨⟨y,m⟩,h1,h2⟩:=h;rw[List.mem_zipIdx_iff_getElem?]at h1;simp only[zj,zi]at h2;cases s with
 | none=>simp at h2
 | some t=>exact⟨m,y,t,h1,h2.1.1,h2.1.2,by simpa using h2.2,rfl⟩
def qlI(ms:List Nat)(es:List Eff)(env0:List PV)(bs:List (Nat×List Leaf)):Bool:=
 allAt (fun i e=>e.rng.isEmpty||
  (allAt (fun j x=>j==i||anc ms i j||!x.p.ment e.rng||(match x.dst with | some t=>e.use.contains t | none=>false)||x.dst==e.dst||qf8 ms es i (j+1) x.dst) 0 es&&
   allAt (fun t p=>!p.ment e.rng||e.use.contains t||qf8 ms es i 0 (some t)||e.dst==some t) 0 env0&&
   bs.all fun x=>!x.2.any (Leaf.ment e.rng))) 0 es
theorem qpa{e:Eff}{t:Nat}(h:e.touch t≠none):t∈qhl e:=by
 unfold Eff.touch at h;split at h
 ·rename_i hd;simp[qhl,hd]
 ·split at h
  ·rename_i hu;simp[qhl,hu]
  ·exact absurd rfl h
theorem qpb{ops:Array Oper}{ms:List Nat}{es:List Eff}(h:qlH ops ms es=true){i k:Nat}{o:Oper}{ei ek:Eff}(ho:ops[i]?=some o)(hi:es[i]?=some ei)(hk:es[k]?=some ek)(hne:k≠i){t:Nat}
  (ht:ek.touch t≠none) (hn:t∈qi8 ops o ei):ordd ms i k=true:=by
 have h1:=qeW h i (o,ei) (by
  rw[List.getElem?_zip_eq_some];exact⟨by simpa using ho,hi⟩)
 have h2:=qeW h1 k ek hk;simp only[zv,zbi,zE,zS]at h2;rcases h2 with (h2 | h2) | h2
 ·exact absurd h2 hne
 ·exact h2
 ·rw[zP]at h2;have:=h2 t (qpa ht);simp only[List.contains_iff_mem]at this;exact absurd hn this
theorem Tag.ment_empty{r:Rng}(h:r.isEmpty=true)(t:Tag):t.ment r=false:=by
 cases t with
 | free=>rfl
 | own s=>rw[List.isEmpty_iff]at h;subst h;rfl
 | ro s=>rw[List.isEmpty_iff]at h;subst h;rfl
theorem Leaf.ment_empty{r:Rng}(h:r.isEmpty=true)(l:Leaf):l.ment r=false:=by
 cases l with
 | sn t i j k es m=>exact Tag.ment_empty h (.own t)
 | np t vs=>
  simp only[Leaf.ment,zy];refine⟨Tag.ment_empty h (.own t),zP.2 fun c _=>?_⟩;cases c with
  | und=>simp[NC.ment]
  | v x=>simp[NC.ment]
  | sl t k es=>simp[NC.ment,Tag.ment_empty h]
 | _=>simp[Leaf.ment,Tag.ment_empty h]
theorem AL.ment_empty{r:Rng}(h:r.isEmpty=true)(a:AL):a.ment r=false:=by
 cases a<;>simp[AL.ment,Leaf.ment_empty h]
theorem PV.ment_empty{r:Rng}(h:r.isEmpty=true)(p:PV):p.ment r=false:=by
 cases p<;>simp[PV.ment,AL.ment_empty h]
theorem qvs{ms:List Nat}{es:List Eff}{env0:List PV}{bs:List (Nat×List Leaf)}(h:qlI ms es env0 bs=true){i:Nat}{e:Eff}(hi:es[i]?=some e):
  (∀(j:Nat) (x:Eff),es[j]?=some x→j≠i→anc ms i j=true∨x.p.ment e.rng=false∨(∃t,x.dst=some t∧t∈e.use)∨x.dst=e.dst∨qf8 ms es i (j+1) x.dst=true)∧
  (∀(t:Nat) (p:PV),env0[t]?=some p→((p.ment e.rng=false∨t∈e.use)∨qf8 ms es i 0 (some t)=true)∨e.dst=some t)∧∀x∈bs,x.2.any (Leaf.ment e.rng)=false:=by
 have h1:=qeW h i e hi;simp only[zbi,zi]at h1;rcases h1 with h1 | h1
 ·refine⟨fun j x _ _=>.inr (.inl (PV.ment_empty h1 _)),fun t p _=>.inl (.inl (.inl (PV.ment_empty h1 _))),fun x _=>?_⟩;rw[zP];intro l _;simp[Leaf.ment_empty h1]
 ·simp only[zj]at h1;obtain⟨⟨h1,h2⟩,h3⟩:=h1;refine⟨fun j x hx hne=>?_,fun t p hp=>?_,fun x hx=>?_⟩
  ·have:=qeW h1 j x hx;simp only[zv,zbi,zE,zS,zj]at this;rcases this with ((((h4 | h4) | h4) | h4) | h4) | h4
   rotate_left 4
   ·exact .inr (.inr (.inr (.inl h4)))
   ·exact .inr (.inr (.inr (.inr h4)))
   ·exact absurd h4 hne
   ·exact .inl h4
   ·exact .inr (.inl h4)
   ·refine .inr (.inr (.inl ?_));split at h4
    ·rename_i t ht;exact⟨t,ht,by simpa using h4⟩
    ·cases h4
  ·have:=qeW h2 t p hp;simp only[zv,zbi,zS,List.contains_iff_mem,zE]at this;exact this
  ·rw[zM]at h3;simpa using h3 x hx
theorem qlJ{L:Nat→Bool}{t:Nat}:∀{es:List Eff} {k:Nat} {acc:PV},(lastT L t k es acc=acc∧∀(m:Nat) (y:Eff),es[m]?=some y→L (k+m)=true→y.touch t=none)∨lastT L t k es acc=.und∨
  ∃j e,es[j]?=some e∧L (k+j)=true∧e.dst=some t∧lastT L t k es acc=e.p∧∀(m:Nat) (y:Eff),es[m]?=some y→j<m→L (k+m)=true→y.touch t=none
 | [],_,_=>.inl ⟨rfl,fun m y h=>by simp at h⟩
 | e::es,k,acc=>by
  simp only[lastT];rcases qlJ (L:=L) (t:=t) (es:=es) (k:=k+1) (acc:=if L k then (e.touch t).getD acc else acc) with⟨h,hn⟩ | h | ⟨j,e',h1,h2,h3,h4,h5⟩
  ·have tail:∀(m:Nat) (y:Eff),(e::es)[m+1]?=some y→L (k+(m+1))=true→y.touch t=none:=fun m y hy hl=>hn m y (by simpa using hy) (by rwa[show k+1+m=k+(m+1) by omega])
   by_cases hL:L k=true
   ·rw[zp hL]at h ⊢;unfold Eff.touch at h ⊢;by_cases hd:e.dst=some t
    ·rw[zp hd]at h ⊢;refine .inr (.inr ⟨0,e,rfl,hL,hd,h,fun m y hy hm hl=>?_⟩);cases m with
     | zero=>omega
     | succ m=>exact tail m y hy hl
    ·rw[zo hd]at h ⊢;by_cases hu:t∈e.use
     ·rw[zp hu]at h ⊢;exact .inr (.inl h)
     ·rw[zo hu]at h ⊢;refine .inl ⟨h,fun m y hy hl=>?_⟩;cases m with
      | zero=>
       simp only[zag,za]at hy;subst hy;rw[zo hd,zo hu]
      | succ m=>exact tail m y hy hl
   ·rw[zo hL]at h ⊢;refine .inl ⟨h,fun m y hy hl=>?_⟩;cases m with
    | zero=>exact absurd hl (by simpa using hL)
    | succ m=>exact tail m y hy hl
  ·exact .inr (.inl h)
  ·refine .inr (.inr ⟨j+1,e',by simpa using h1,by rwa[show k+(j+1)=k+1+j by omega],h3,h4,fun m y hy hm hl=>?_⟩);cases m with
   | zero=>omega
   | succ m=>exact h5 m y (by simpa using hy) (by omega) (by rwa[show k+1+m=k+(m+1) by omega])
theorem qpc{t:Nat}:∀{es:List Eff} {k i:Nat} {acc:PV} {e:Eff},es[i]?=some e→
  lastT (fun j=>decide (j<k+i+1)) t k es acc=(e.touch t).getD (lastT (fun j=>decide (j<k+i)) t k es acc)
 | [],_,_,_,_,h=>by simp at h
 | e0::es,k,0,acc,e,h=>by
  simp at h;subst h;have hno:∀(es:List Eff) (k m:Nat) (acc:PV),m≤k→lastT (fun j=>decide (j<m)) t k es acc=acc:=by
   intro es;induction es with
   | nil=>intro k m acc _;rfl
   | cons e1 es ih=>
    intro k m acc hm;simp only[lastT];rw[zo (by simpa using hm)];exact ih (k+1) m acc (by omega)
  simp only[lastT];rw[zp (by simp),zo (by simp),hno _ _ _ _ (by omega),hno _ _ _ _ (by omega)]
 | e0::es,k,i+1,acc,e,h=>by
  simp only[lastT];rw[zp (by simp;omega),zp (by simp)];have:=qpc (t:=t) (es:=es) (k:=k+1) (i:=i) (acc:=(e0.touch t).getD acc) (by simpa using h);rw[show k+1+i+1=k+(i+1)+1 by omega,show k+1+i=k+(i+1) by omega]at this;exact this
theorem qi9{env0:List PV}{bs:List (Nat×List Leaf)}{es:List Eff}(hd:∀(i:Nat) (e:Eff),es[i]?=some e→e.dst≠none):∀(i:Nat),i≤es.length→
  (es.take i).foldl (fun env e=>e.apply env) env0=(stOf env0 bs (fun j=>decide (j<i)) es).env
 | 0,_=>by
  apply List.ext_getElem?;intro t;rw[qc4];have hno:∀(es:List Eff) (k:Nat) (acc:PV),lastT (fun j=>decide (j<0)) t k es acc=acc:=by
   intro es;induction es with
   | nil=>intro k acc;rfl
   | cons e1 es ih=>intro k acc;simp only[lastT];rw[zo (by simp)];exact ih _ _
  cases h:env0[t]? with
  | none=>simp[h]
  | some p=>have:=hno es 0 p;simp only[h,List.take_zero,List.foldl_nil,zaw,this]
 | i+1,hi=>by
  have hlt:i<es.length:=by omega
  have he:es[i]?=some es[i]:=zu hlt;have ih:=qi9 (env0:=env0) (bs:=bs) hd i (by omega);rw[zbe,he,zcp,List.foldl_append,ih];simp only[List.foldl_cons,List.foldl_nil];apply List.ext_getElem?;intro t;rw[Eff.apply_get (hd i _ he),qc4,qc4];cases h:env0[t]? with
  | none=>rfl
  | some p=>
   have:=qpc (t:=t) (es:=es) (k:=0) (i:=i) (acc:=p) he;simp only[zv]at this;simp[this]
theorem qlK{ops:Array Oper}{st st':St}{o:Oper}{st1:St}{a1:List Ans}{o1:List Prop}{b:Bool}(h:qdk ops st o []=some (b,st1,a1,o1))(hs:∀t∈reads ops o,st.env.getD t .und=st'.env.getD t .und):
  qdk ops st' o []=some (b,st',[],[]):=by
 unfold qdk at h ⊢;cases hg:o.guard with
 | none=>rw[hg]at h;simp only[za,zd]at h;simp[←h.1]
 | some g=>
  obtain⟨j,want⟩:=g;rw[hg]at h;simp only at h ⊢;cases hd:(ops[j]?).bind (·.dst) with
  | none=>rw[hd]at h;cases h
  | some s=>
   rw[hd]at h;simp only at h ⊢;have:s∈reads ops o:=by simp[reads,qlD,hg,hd]
   rw[hs s this]at h;split at h
   ·rename_i e;simp only[za,zd]at h;simp[e,←h.1]
   ·rename_i e;simp only[za,zd]at h;simp[e,←h.1]
   ·cases h
   ·cases h
theorem qpd{P:Program}{st:St}{o:Oper}{ans ans':List Ans}{e:Eff}{obs:List Prop}(h:snD P st o ans=some (e,ans',obs)):
  ∃(v:SnI) (d:Nat) (x y:Operand) (t:TypeId),qdm st o=some v∧o.dst=some d∧o.op=.call ⟨.builtin .append,⟨[x,y]⟩,⟨[t,t]⟩⟩∧appendSnR P t v.t v.i v.j v.k v.es v.esT (st.ev y) ans=some (e.p,ans',obs)∧
   e=⟨some d,e.p,[],[]⟩∧(st.ev x).leaf=some (.sn v.t v.i v.j v.k v.es .here)∧rootB v.t st.boxes=some (v.kT,v.esT):=by
 obtain⟨dst,op,type,pos,after,guard⟩:=o;unfold snD at h;split at h
 ·rename_i v d x' y t t' hi hd hop;simp only at hd hop;subst hd;subst hop;split at h
  ·rename_i htt;subst htt;rw[zc]at h;obtain⟨⟨r1,r2,r3⟩,h1,h⟩:=h;simp only[zd]at h;obtain⟨rfl,rfl,rfl⟩:=h;have hi2:=hi;simp only[qdm]at hi2;split at hi2
   ·rename_i s i j k es hl;split at hi2
    ·rename_i kT esT hb;cases hi2;exact⟨_,d,x',y,t,hi,rfl,rfl,h1,rfl,hl,hb⟩
    ·cases hi2
   ·cases hi2
  ·cases h
 ·cases h
theorem qpe{st st':St}{o:Oper}(hb:st.boxes=st'.boxes)(h:∀x∈o.op.operands.toList,st.ev x=st'.ev x):qdm st o=qdm st' o:=by
 obtain⟨dst,op,type,pos,after,guard⟩:=o;simp only at h;unfold qdm;simp only;split
 ·rename_i x y t t';have hx:st.ev x=st'.ev x:=h x (by simp[Op.operands,Call.operands]);rw[hx,hb]
 ·rfl
theorem qvt{P:Program}{st st':St}{o:Oper}{ans:List Ans}(hb:st.boxes=st'.boxes)(h:∀x∈o.op.operands.toList,st.ev x=st'.ev x):snD P st o ans=snD P st' o ans:=by
 unfold snD;rw[qpe hb h];split
 ·rename_i v d x y t t' h1 h2 h3;rw[h y (by rw[h3];simp[Op.operands,Call.operands])]
 ·rfl
theorem qvu{v:SnI}{q:PV}(h:q.All v.Fixed):∀a∈q.idx v.t v.j,a=v.i:=by
 have one:∀{a:AL},a.All v.Fixed→∀x∈a.idx v.t v.j,x=v.i:=by
  intro a ha x hx;cases a with
  | one l=>exact ha.2 x hx
  | agg ls=>
   obtain⟨l,hl,hx⟩:=zar.1 hx;exact (ha l hl).2 x hx
 intro x hx;cases q with
 | al a=>exact one h x hx
 | tup as=>
  obtain⟨a,ha,hx⟩:=zar.1 hx;exact one (h a ha) x hx
theorem qvv{v:SnI}{q:PV}(h:q.All v.Fixed):q.map (qa8 v.t v.i v.j v.k v.es v.kT v.esT)=q:=by
 have ls:∀{ls:List Leaf},(∀l∈ls,v.Fixed l)→ls.map (qa8 v.t v.i v.j v.k v.es v.kT v.esT)=ls:=by
  intro ls hl
  conv=>rhs;rw[←zcf ls]
  exact zW fun l hm=>(hl l hm).1
 have one:∀{a:AL},a.All v.Fixed→a.map (qa8 v.t v.i v.j v.k v.es v.kT v.esT)=a:=by
  intro a ha;cases a with
  | one l=>simp only[AL.map];rw[ha.1]
  | agg l=>simp only[AL.map];rw[ls ha]
 cases q with
 | al a=>simp only[PV.map];rw[one h]
 | tup as=>
  simp only[PV.map]
  congr 1
  conv=>rhs;rw[←zcf as]
  exact zW fun a hm=>one (h a hm)
theorem Fact.dst{P:Program}{ops:Array Oper}{bs:List (Nat×List Leaf)}{env:List PV}{o:Oper}{e:Eff}(h:Fact P ops bs env o e):e.dst≠none:=by
 rcases h with⟨_,_,_,_,d,hd,rfl⟩ | ⟨_,_,_,_,ans,e0,g,ans',obs,h1,_,h2⟩ | ⟨_,_,_,_,ans,ans',obs,h1,_⟩
 rotate_left 2
 ·obtain⟨v,d,x,y,t,_,_,_,_,he,_⟩:=qpd h1;rw[he];simp
 ·simp[qf7]
 ·obtain⟨_,d,h4,_⟩:=qo3 h1;obtain⟨u,h2⟩:=h2;rcases h2 with rfl | ⟨c,b,_,_,rfl⟩
  ·simp only[h4];simp
  ·simp only[h4];simp
theorem Rel.bool{w0:Base}{env:List PV}{bs:List (Nat×List Leaf)}{d:Nat}{c:Bool}{a:Act}{w:World}(h:Rel w0 ⟨env.set d (.one (.sb c)),bs⟩ a w):Rel w0 ⟨env.set d (.one (.v (.bool c))),bs⟩ a w:=by
 obtain⟨ω,τ,h⟩:=h;refine⟨ω,τ,h.defers,by have:=h.size;simpa using this,h.below,h.owned,h.fixed,h.pinned,fun i p hp=>?_,h.boxes⟩;by_cases hi:d=i
 ·subst hi;rw[zad]at hp;split at hp
  ·split at hp
   ·rename_i hl;simp only[za]at hp;subst hp;obtain⟨v,h1,h2⟩:=h.env d (.one (.sb c)) (by simp[hl]);exact⟨v,h1,h2⟩
   ·cases hp
  ·rename_i hne;exact absurd rfl hne
 ·exact h.env i p (by simpa[zad,hi]using hp)
section
variable {P : Program} {ops : Array Oper} {bs : List (Nat × List Leaf)} {env0 : List PV} {es : List Eff} {ms : List Nat}
def lst(listed:Array Bool)(j:Nat):Bool:=listed.getD j false
structure Drawable (P:Program) (ops:Array Oper) (bs:List (Nat×List Leaf)) (env0:List PV) (es:List Eff) (ms:List Nat):Prop where
 len:es.length≤ops.size
 facts:∀(i:Nat) (o:Oper),i<es.length→ops[i]?=some o→∃e,es[i]?=some e∧Fact P ops bs (stOf env0 bs (fun j=>decide (j<i)) es).env o e
 masks:qdM ms ops.toList=true
 sn:∀(i:Nat) (o:Oper) (v:SnI),i<es.length→ops[i]?=some o→qdm ⟨(stOf env0 bs (fun j=>decide (j<i)) es).env,bs⟩ o=some v→
  (∀q∈env0,q.All v.Fixed)∧(∀(j:Nat) (x:Eff),es[j]?=some x→j≠i→x.p.All v.Fixed)∧∀x∈bs,∀l∈x.2,v.Fixed l
 ord:qlH ops ms es=true
 tok:qlI ms es env0 bs=true
theorem Drawable.same(h:Drawable P ops bs env0 es ms){listed:Array Bool}(hc:qc5 ops listed)(hs:listed.size=ops.size){i:Nat}(hi:i∈Region.ready .any ops listed){o:Oper}(ho:ops[i]?=some o){e:Eff}(he:es[i]?=some e)
  {t:Nat} (ht:t∈qi8 ops o e):(stOf env0 bs (lst listed) es).env.getD t .und=(stOf env0 bs (fun j=>decide (j<i)) es).env.getD t .und:=by
 rw[zN,zN,qc4,qc4];have hun:listed.getD i false=false:=by
  have h0:=(mem_ready.1 hi).1;have hlt:i<listed.size:=hs▸(zz.1 ho).1;simp[zD hlt]at h0 ⊢;exact h0
 cases henv:env0[t]? with
 | none=>rfl
 | some p=>
  simp only[zaw,zV];refine qhi fun j ej hj htj=>?_
  rw[zv];by_cases hji:j=i
  ·subst hji;simp[lst,hun]
  ·have:=qpb h.ord ho he hj hji htj ht;unfold ordd at this;split at this
   ·rename_i hlt;have:=qhk h.masks hc hs hi this;simp[lst,hlt,this]
   ·rename_i hlt;cases hlj:listed.getD j false with
    | false=>simp[lst,hlj,hlt]
    | true=>have:=qi7 h.masks hc hs j hlj this;rw[hun]at this;cases this
theorem qlL{listed:Array Bool}{i:Nat}(hlt:i<listed.size)(j:Nat):lst (listed.setIfInBounds i true) j=(if j=i then true else lst listed j):=by
 unfold lst;split
 ·rename_i h;subst h;simp[hlt]
 ·rename_i h;rw[getD_set_ne false (Ne.symm h)]
theorem Drawable.keep(h:Drawable P ops bs env0 es ms){listed:Array Bool}{i:Nat}(hlt:i<listed.size){e:Eff}(he:es[i]?=some e){t:Nat}(ht:e.touch t=none)(p:PV):
  lastT (lst (listed.setIfInBounds i true)) t 0 es p=lastT (lst listed) t 0 es p:=by
 refine qhi fun j ej hj htj=>?_
 rw[zv,qlL hlt,zo];rintro rfl;rw[he]at hj;cases hj;exact htj ht
theorem Drawable.last(h:Drawable P ops bs env0 es ms){listed:Array Bool}(hc:qc5 ops listed)(hs:listed.size=ops.size){i:Nat}(hi:i∈Region.ready .any ops listed){o:Oper}(ho:ops[i]?=some o){e:Eff}(he:es[i]?=some e)
  {t:Nat} {q:PV} (ht:e.touch t=some q) (p:PV):lastT (lst (listed.setIfInBounds i true)) t 0 es p=q:=by
 have hlt:i<listed.size:=hs▸(zz.1 ho).1;have hun:listed.getD i false=false:=by
  have h0:=(mem_ready.1 hi).1;simp[zD hlt]at h0 ⊢;exact h0
 refine qo5 he ht (by rw[zv,qlL hlt,zp rfl]) fun j ej hj hje htj=>?_
 rw[zv,qlL hlt,zo (by omega)];have:=qpb h.ord ho he hje (by omega) htj (t:=t) (by
  unfold qi8;exact zI _ (qpa (by rw[ht];simp)))
 unfold ordd at this;rw[zo (by omega)]at this;cases hlj:lst listed j with
 | false=>rfl
 | true=>have:=qi7 h.masks hc hs j hlj this;rw[hun]at this;cases this
theorem Drawable.step(h:Drawable P ops bs env0 es ms){listed:Array Bool}(hc:qc5 ops listed)(hs:listed.size=ops.size){i:Nat}(hi:i∈Region.ready .any ops listed)(hie:i<es.length){w0:Base}{w:World}{a:Act}
  (hr:Rel w0 (stOf env0 bs (lst listed) es) a w) {Q:Exit→Act→World→Prop} {K:Act→World→Prop} (hK:∀a' w',Rel w0 (stOf env0 bs (lst (listed.setIfInBounds i true)) es) a' w'→K a' w'):wpOp P ops Q i K a w:=by
 obtain⟨h0,o,ho,hedges⟩:=mem_ready.1 hi;obtain⟨e,he,hf⟩:=h.facts i o hie ho;have hlt:i<listed.size:=hs▸(zz.1 ho).1;have hsame:=fun t ht=>h.same hc hs hi ho he (t:=t) ht
 have hreads:∀t∈reads ops o,(stOf env0 bs (fun j=>decide (j<i)) es).env.getD t .und=(stOf env0 bs (lst listed) es).env.getD t .und:=fun t ht=>(hsame t (zJ _ ht)).symm
 unfold wpOp;rw[ho];simp only;rcases hf with⟨st1,a1,o1,hw,d,hd,rfl⟩ | ⟨st1,a1,o1,hw,ans,e0,g,ans',obs,hds,hobs,hee⟩ | ⟨st1,a1,o1,hw,ans,ans',obs,hsn,hobs⟩
 rotate_left 2
 ·have hw':=qlK hw (st':=stOf env0 bs (lst listed) es) hreads;obtain⟨hwant,_⟩:=qeT hw' trivial hr;rw[zp hwant];left;have hevs:∀x∈o.op.operands.toList,(stOf env0 bs (lst listed) es).ev x=St.ev ⟨(stOf env0 bs (fun j=>decide (j<i)) es).env,bs⟩ x:=fun x hx=>ev_of fun t ht=>(hreads t (by
   unfold reads;exact zI _ (List.mem_filterMap.2 ⟨x,hx,ht⟩))).symm
  have hcong:snD P (stOf env0 bs (lst listed) es) o ans=some (e,ans',obs):=by
   rw[←hsn];exact qvt rfl hevs
  obtain⟨v,d,x,y,t,hinfo,hd,hop,hap,he2,hx,hroot⟩:=qpd hcong;have hinfo0:qdm ⟨(stOf env0 bs (fun j=>decide (j<i)) es).env,bs⟩ o=some v:=by
   rw[←hinfo];exact (qpe (st:=stOf env0 bs (lst listed) es) (st':=⟨(stOf env0 bs (fun j=>decide (j<i)) es).env,bs⟩) rfl hevs).symm
  obtain⟨hf1,hf2,hf3⟩:=h.sn i o v hie ho hinfo0;have hun:listed.getD i false=false:=by
   simp[zD hlt]at h0 ⊢;exact h0
  have hfix:∀q∈(stOf env0 bs (lst listed) es).env,q.All v.Fixed:=by
   intro q hq;simp only[stOf]at hq;rw[zbm]at hq;obtain⟨⟨p0,n⟩,hm,rfl⟩:=hq;have hp0:p0∈env0:=by
    rw[List.mem_zipIdx_iff_getElem?]at hm;exact zw hm
   simp only;rcases qlJ (L:=lst listed) (t:=n) (es:=es) (k:=0) (acc:=p0) with⟨h1,_⟩ | h1 | ⟨j,ej,h1,h2,_,h4,_⟩
   ·rw[h1];exact hf1 _ hp0
   ·rw[h1];exact⟨rfl,fun a ha=>by simp[Leaf.idx]at ha⟩
   ·rw[h4];refine hf2 j ej h1 ?_;rintro rfl;rw[zv]at h2;unfold lst at h2;rw[hun]at h2;cases h2
  have hmap:(stOf env0 bs (lst listed) es).map (qa8 v.t v.i v.j v.k v.es v.kT v.esT)=stOf env0 bs (lst listed) es:=by
   have e1:(stOf env0 bs (lst listed) es).env.map (PV.map (qa8 v.t v.i v.j v.k v.es v.kT v.esT))=(stOf env0 bs (lst listed) es).env:=by
    conv=>rhs;rw[←zcf (stOf env0 bs (lst listed) es).env]
    exact zW fun q hq=>qvv (hfix q hq)
   have e2:bs.map (fun x=>(x.1,x.2.map (qa8 v.t v.i v.j v.k v.es v.kT v.esT)))=bs:=by
    conv=>rhs;rw[←zcf bs]
    refine zW fun x hx=>?_
    obtain⟨x1,x2⟩:=x;simp only[id]
    congr 1
    conv=>rhs;rw[←zcf x2]
    exact zW fun l hl=>(hf3 _ hx l hl).1
   unfold St.map;rw[e1];show St.mk _ (bs.map _)=_;rw[e2];rfl
  have hidx:∀a∈(stOf env0 bs (lst listed) es).idx v.t v.j,a=v.i:=by
   intro a' ha;unfold St.idx at ha;rcases zaz.1 ha with ha | ha
   ·obtain⟨q,hq,ha⟩:=zar.1 ha;exact qvu (hfix q hq) a' ha
   ·obtain⟨z,hz,ha⟩:=zar.1 ha;obtain⟨l,hl,ha⟩:=zar.1 ha;exact (hf3 z hz l hl).2 a' ha
  obtain⟨ω,τ,hr1⟩:=hr;obtain⟨z,w',h1,h2⟩:=hr1.appendSnR (P:=P) (d:=d) (ty:=o.type) (kT:=v.kT) (x:=x) (y:=y) (PV.leaf_sat hx (hr1.ev x)) hap hobs (qvq hr1 hroot) hidx;rw[hmap]at h2;obtain⟨dst,op,type,pos,after,guard⟩:=o;simp only at hd hop;subst hd;subst hop;refine Calls.of (z:=z) (w':=w') ?_ (hK _ _ ?_)
  ·have:(execOp a.eval ⟨some d,.call ⟨.builtin .append,⟨[x,y]⟩,⟨[t,t]⟩⟩,type,pos,after,guard⟩)=(builtin .append ⟨[t,t]⟩ type (Array.map (fun | .const _=>true | _=>false) ⟨[x,y]⟩) (Array.map a.eval ⟨[x,y]⟩)):=by
    simp only[execOp,resolve];rfl
   rw[this];exact run_v (by simpa using h1)
  ·refine h2.weaken (by simp[qf6]) rfl ?_;intro n p hp;right;rw[qc4,zc]at hp;obtain⟨p0,hp0,rfl⟩:=hp;rw[zad];have hed:e.dst=some d:=by rw[he2]
   have hus:e.use=[]:=by rw[he2]
   by_cases hdt:d=n
   ·subst hdt;have:d<env0.length:=(zk.1 hp0).1;rw[zp rfl,zp (by simp[qf6,this]),h.last hc hs hi ho he (q:=e.p) (by simp[Eff.touch,hed])]
   ·rw[zo hdt,qc4,hp0,zaw,h.keep hlt he (by simp[Eff.touch,hed,hdt,hus])]
 ·have hw':=qlK hw (st':=stOf env0 bs (lst listed) es) hreads;obtain⟨hwant,_⟩:=qeT hw' trivial hr;rw[zo (by rw[hwant];simp)];refine hK _ _ ((qlx hr).weaken ?_ ?_ ?_)
  ·simp[qf6,qhh,hd]
  ·simp[stOf,qhh,hd]
  ·intro t p hp;rw[qc4,zc]at hp;obtain⟨p0,hp0,rfl⟩:=hp;right;simp only[qhh,hd];rw[zad];by_cases hdt:d=t
   ·subst hdt;have:d<env0.length:=(zk.1 hp0).1;rw[zp rfl,zp (by rw[qf6];exact this),h.last hc hs hi ho he (q:=.one (.v undef)) (by simp[Eff.touch,qf7])]
   ·rw[zo hdt,qc4,hp0,zaw,h.keep hlt he (by simp[Eff.touch,qf7,hdt])]
 ·have hw':=qlK hw (st':=stOf env0 bs (lst listed) es) hreads;obtain⟨hwant,_⟩:=qeT hw' trivial hr;rw[zp hwant];left;have hcong:dStep P (stOf env0 bs (lst listed) es) o ans=some (e0,g,ans',obs):=by
   rw[←hds];refine qvr rfl fun x hx=>ev_of fun t ht=>(hreads t ?_).symm
   unfold reads;exact zI _ (List.mem_filterMap.2 ⟨x,hx,ht⟩)
  obtain⟨hg,d,hdst,hop⟩:=qo3 hcong;obtain⟨u,hee⟩:=hee;have hrng:e.rng=e0.rng∧e.dst=e0.dst:=by
   rcases hee with rfl | ⟨c,b,_,_,rfl⟩
   ·exact⟨rfl,rfl⟩
   ·exact⟨rfl,rfl⟩
  obtain⟨hrng,hdst'⟩:=hrng;rw[←hrng]at hg;obtain⟨htok1,htok2,htok3⟩:=qvs h.tok he;have hboxes:((stOf env0 bs (lst listed) es).map (Leaf.re g fun _=>true)).boxes=bs:=by
   simp only[St.map,stOf]
   conv=>rhs;rw[←zcf bs]
   refine zW fun x hx=>?_
   obtain⟨x1,x2⟩:=x;simp only[id,qoX hg (htok3 _ hx)]
  refine qvi hop hobs hr fun a' w' hr'=>hK _ _ ?_
  rw[hboxes]at hr';have hr2:Rel w0 ⟨((stOf env0 bs (lst listed) es).map (Leaf.re g fun _=>true)).env.set d e.p,bs⟩ a' w':=by
   rcases hee with rfl | ⟨c,b,hp,hcb,rfl⟩
   ·exact hr'
   ·rw[hp]at hr';subst hcb;exact hr'.bool
  refine hr2.weaken (by simp[qf6,St.map]) rfl ?_;intro t p hp;rw[qc4,zc]at hp;obtain⟨p0,hp0,rfl⟩:=hp;rw[zad];have hed:e.dst=some d:=hdst'.trans hdst;by_cases hdt:d=t
  ·subst hdt;right;have:d<env0.length:=(zk.1 hp0).1;rw[zp rfl,zp (by simp[St.map,qf6,this]),h.last hc hs hi ho he (q:=e.p) (by simp[Eff.touch,hed])]
  ·rw[zo hdt];by_cases hut:t∈e.use
   ·left;exact h.last hc hs hi ho he (by simp[Eff.touch,hed,hdt,hut]) p0
   ·have hkeep:=h.keep hlt he (t:=t) (by simp[Eff.touch,hed,hdt,hut]) p0;rw[hkeep];have hment:lastT (lst listed) t 0 es p0=.und∨(lastT (lst listed) t 0 es p0).ment e.rng=false:=by
     rcases qlJ (L:=lst listed) (t:=t) (es:=es) (k:=0) (acc:=p0) with⟨h1,hno⟩ | h1 | ⟨j,ej,h1,h2,h3,h4,hno⟩
     ·right;rw[h1];rcases htok2 t p0 hp0 with (h5 | h5) | h5
      rotate_left 2
      ·rw[hed]at h5;exact absurd (zx h5) hdt
      ·exact h5.resolve_right hut
      ·obtain⟨m,y,t',hm,_,ha,hu,ht⟩:=qo9 h5;cases ht;have:=hno m y hm (by rw[zv];exact qhk h.masks hc hs hi ha);unfold Eff.touch at this;rw[zp hu]at this;split at this<;>cases this
     ·exact .inl h1
     ·right;rw[h4];rw[zv]at h2;have hun:listed.getD i false=false:=by
       simp[zD hlt]at h0 ⊢;exact h0
      have hji:j≠i:=by rintro rfl;unfold lst at h2;rw[hun]at h2;cases h2
      rcases htok1 j ej h1 hji with h5 | h5 | h5 | h5 | h5
      rotate_left 3
      ·rw[h3,hed]at h5;exact absurd (zx h5).symm hdt
      ·obtain⟨m,y,t',hm,hlo,ha,hu,ht⟩:=qo9 h5;rw[h3]at ht;cases ht;have:=hno m y hm (by omega) (by rw[zv];exact qhk h.masks hc hs hi ha);unfold Eff.touch at this;rw[zp hu]at this;split at this<;>cases this
      ·have:=qi7 h.masks hc hs j h2 h5;rw[hun]at this;cases this
      ·exact h5
      ·obtain⟨t',h6,h7⟩:=h5;rw[h3]at h6;cases h6;exact absurd h7 hut
    rcases hment with h1 | h1
    ·exact .inl h1
    ·right;simp only[St.map,zr];rw[qc4,hp0];simp only[zaw,PV.re_id hg h1]
def qlM(ops:Array Oper)(ms:List Nat)(k:Nat):Prop:=∀i,k≤i→i<ops.size→∀j,j<i→anc ms j i=true
theorem Drawable.any(h:Drawable P ops bs env0 es ms)(hb:qlM ops ms es.length){w0:Base}{Q:Exit→Act→World→Prop}
  (hQ:∀(fuel:Nat) {listed:Array Bool},qc5 ops listed→listed.size=ops.size→(∀j,j<es.length→listed.getD j false=true)→(∀j,es.length≤j→listed.getD j false=false)→listed.count false≤fuel→
   ∀{a:Act} {w:World},Rel w0 (stOf env0 bs (fun j=>decide (j<es.length)) es) a w→wpAny P .any ops Q fuel listed a w):
  ∀(fuel:Nat) {listed:Array Bool},qc5 ops listed→listed.size=ops.size→(∀j,es.length≤j→listed.getD j false=false)→listed.count false≤fuel→
  ∀{a:Act} {w:World},Rel w0 (stOf env0 bs (lst listed) es) a w→wpAny P .any ops Q fuel listed a w:=by
 intro fuel;induction fuel with
 | zero=>
  intro listed hc hs hun hcnt a w hr;by_cases hall:∀j,j<es.length→listed.getD j false=true
  ·refine hQ 0 hc hs hall hun hcnt ?_;have:stOf env0 bs (lst listed) es=stOf env0 bs (fun j=>decide (j<es.length)) es:=by
    unfold stOf
    congr 1
    refine zW fun x _=>?_
    refine qhi fun j e hj _=>?_
    have hlt:j<es.length:=(zk.1 hj).1;rw[zv];simp only[lst,hall j hlt,hlt,decide_true]
   rwa[←this]
  ·exfalso;apply hall;intro j hj;have hlt:j<listed.size:=hs▸zbz hj h.len;cases hf:listed[j] with
   | true=>simp[zD hlt,hf]
   | false=>
    have:0<listed.count false:=by
     rw[Array.count_pos_iff];exact hf▸Array.getElem_mem hlt
    omega
 | succ fuel ih=>
  intro listed hc hs hun hcnt a w hr;by_cases hall:∀j,j<es.length→listed.getD j false=true
  ·refine hQ _ hc hs hall hun hcnt ?_;have:stOf env0 bs (lst listed) es=stOf env0 bs (fun j=>decide (j<es.length)) es:=by
    unfold stOf
    congr 1
    refine zW fun x _=>?_
    refine qhi fun j e hj _=>?_
    have hlt:j<es.length:=(zk.1 hj).1;rw[zv];simp only[lst,hall j hlt,hlt,decide_true]
   rwa[←this]
  ·refine⟨fun hnil=>absurd (fun j hj=>qlG h.masks hs hnil j (zbz hj h.len)) hall,fun i hi=>?_⟩;have hie:i<es.length:=by
    rcases zbp i es.length with h1 | h1
    ·exact h1
    ·exfalso;obtain⟨_,o,ho,_⟩:=mem_ready.1 hi;have hlt:i<ops.size:=(zz.1 ho).1;exact hall fun j hj=>qhk h.masks hc hs hi (hb i h1 hlt j (zbz hj h1))
   refine h.step hc hs hi hie hr fun a' w' hr'=>ih (hc.ready hi) (by simpa using hs) (fun j hj=>?_) ?_ hr'
   ·rw[getD_set_ne false (by omega)];exact hun j hj
   ·obtain⟨h1,o,ho,_⟩:=mem_ready.1 hi;have hlt:i<listed.size:=hs▸(zz.1 ho).1;have hf:listed[i]=false:=by simpa[zD hlt]using h1
    have:(listed.setIfInBounds i true).count false=listed.count false-1:=by
     have e:listed.setIfInBounds i true=listed.set i true hlt:=by unfold Array.setIfInBounds;rw[dif_pos hlt]
     rw[e,Array.count_set];simp[hf]
    omega
end
def qf9(P:Program)(ops:Array Oper):List Oper→St→List Ans→Stepped
 | [],st,ans=>some (st,ans,[])
 | o::rest,st,ans=>
  match oneOp P ops o st ans with
  | some (st1,ans1,obs1)=>(qf9 P ops rest st1 ans1).map fun r=>(r.1,r.2.1,obs1++r.2.2)
  | none=>none
theorem qpf{P:Program}{ops:Array Oper}{w0:Base}{Q:Exit→Act→World→Prop}{o:Oper}{i:Nat}(hi:ops[i]?=some o){st st':St}{ans ans':List Ans}{obs:List Prop}(h:oneOp P ops o st ans=some (st',ans',obs))(ho:Obs obs)
  {a:Act} {w:World} (hrel:Rel w0 st a w) {K:Act→World→Prop} (hK:∀a' w',Rel w0 st' a' w'→K a' w'):wpOp P ops Q i K a w:=by
 unfold wpOp;rw[hi];simp only;unfold oneOp at h;split at h
 ·rename_i st1 ans1 obs1 hw;rw[zc]at h;obtain⟨⟨r1,r2,r3⟩,h1,h⟩:=h;simp only[zd]at h;obtain⟨rfl,rfl,rfl⟩:=h;obtain⟨o1,o2⟩:=ho.append;obtain⟨hwant,hr1⟩:=qeT hw o1 hrel;rw[zp hwant];exact .inl (qlw h1 o2 hr1 fun a' w' hr'=>hK _ _ hr')
 ·rename_i st1 ans1 obs1 hw;simp only[za,zd]at h;obtain⟨rfl,rfl,rfl⟩:=h;obtain⟨hwant,hr1⟩:=qeT hw ho hrel;rw[zo (by rw[hwant];simp)];exact hK _ _ (qlx hr1)
 ·cases h
theorem qvw{P:Program}{ops:Array Oper}{ms:List Nat}{k:Nat}(hm:qdM ms ops.toList=true)(hb:qlM ops ms k){w0:Base}{Q:Exit→Act→World→Prop}:∀(fuel n:Nat) {listed:Array Bool},k≤n→n≤ops.size→
  qc5 ops listed→listed.size=ops.size→(∀j,j<n→listed.getD j false=true)→(∀j,n≤j→listed.getD j false=false)→listed.count false≤fuel→
  ∀{st st':St} {ans ans':List Ans} {obs:List Prop},qf9 P ops (ops.toList.drop n) st ans=some (st',ans',obs)→Obs obs→
  ∀{a:Act} {w:World},Rel w0 st a w→(∀a' w',Rel w0 st' a' w'→Q .normal a' w')→wpAny P .any ops Q fuel listed a w:=by
 have fin:∀{listed:Array Bool} {n:Nat},n=ops.size→listed.size=ops.size→(∀j,j<n→listed.getD j false=true)→Region.ready .any ops listed=[]:=by
  intro listed n hn hs h1;rw[List.eq_nil_iff_forall_not_mem];intro j hj;obtain⟨h2,o,ho,_⟩:=mem_ready.1 hj;have hlt:j<ops.size:=(zz.1 ho).1;have h3:=h1 j (hn▸hlt);have hlt2:j<listed.size:=hs▸hlt;simp[zD hlt2]at h2 h3;rw[h2]at h3;cases h3
 intro fuel;induction fuel with
 | zero=>
  intro n listed hkn hn hc hs h1 h2 hcnt st st' ans ans' obs h ho a w hr hQ;have hn':n=ops.size:=by
   rcases zbp n ops.size with hlt | hge
   ·have hlt2:n<listed.size:=hs▸hlt;have hf:listed[n]=false:=by simpa[zD hlt2]using h2 n (zO _)
    have:0<listed.count false:=by
     rw[Array.count_pos_iff];exact hf▸Array.getElem_mem hlt2
    omega
   ·omega
  rw[List.drop_eq_nil_of_le (by simp[hn'])]at h;simp only[qf9,za,zd]at h;obtain⟨rfl,_,_⟩:=h;exact⟨fin hn' hs h1,hQ _ _ hr⟩
 | succ fuel ih=>
  intro n listed hkn hn hc hs h1 h2 hcnt st st' ans ans' obs h ho a w hr hQ;rcases zbp n ops.size with hlt | hge
  ·have hlt2:n<listed.size:=hs▸hlt;have hd:ops.toList.drop n=ops[n]::ops.toList.drop (n+1):=by
    rw[List.drop_eq_getElem_cons (by simpa using hlt)];simp
   rw[hd]at h;simp only[qf9]at h;split at h
   ·rename_i st1 ans1 obs1 h3;rw[zc]at h;obtain⟨⟨r1,r2,r3⟩,h4,h⟩:=h;simp only[zd]at h;obtain⟨rfl,rfl,rfl⟩:=h;obtain⟨o1,o2⟩:=ho.append;refine⟨fun hnil=>?_,fun i hi=>?_⟩
    ·exfalso;have:=qlG hm hs hnil n hlt;rw[h2 n (zO _)]at this;cases this
    ·have hin:i=n:=by
      obtain⟨h5,o,ho',_⟩:=mem_ready.1 hi;have hi1:i<ops.size:=(zz.1 ho').1;have hi2:i<listed.size:=hs▸hi1;rcases Nat.lt_trichotomy i n with h6 | h6 | h6
      ·have h7:=h1 i h6;simp[zD hi2]at h5 h7;rw[h5]at h7;cases h7
      ·exact h6
      ·have:=qhk hm hc hs hi (hb i (by omega) hi1 n h6);rw[h2 n (zO _)]at this;cases this
     subst hin;refine qpf (zD hlt) h3 o1 hr fun a' w' hr'=>ih (i+1) (by omega) (by omega) (hc.ready hi) (by simpa using hs) (fun j hj=>?_) (fun j hj=>?_) ?_ h4 o2 hr' hQ
     ·by_cases hji:j=i
      ·subst hji;have hz:j<(listed.setIfInBounds j true).size:=by simpa using hlt2
       simp[zD hz]
      ·rw[getD_set_ne false (Ne.symm hji)];exact h1 j (by omega)
     ·rw[getD_set_ne false (by omega)];exact h2 j (by omega)
     ·have hf:listed[i]=false:=by simpa[zD hlt2]using h2 i (zO _)
      have:(listed.setIfInBounds i true).count false=listed.count false-1:=by
       have e:listed.setIfInBounds i true=listed.set i true hlt2:=by unfold Array.setIfInBounds;rw[dif_pos hlt2]
       rw[e,Array.count_set];simp[hf]
      omega
   ·cases h
  ·have hn':n=ops.size:=by omega
   rw[List.drop_eq_nil_of_le (by simp[hn'])]at h;simp only[qf9,za,zd]at h;obtain⟨rfl,_,_⟩:=h;have hnil:=fin hn' hs h1;refine⟨fun _=>hQ _ _ hr,fun i hi=>?_⟩;rw[hnil]at hi;cases hi
def sufGo(ms:List Nat):Nat→Nat
 | 0=>0
 | i+1=>if ms.getD i 0==2 ^ i-1 then sufGo ms i else i+1
theorem qpg(ms:List Nat):∀n,sufGo ms n≤n
 | 0=>zO _
 | n+1=>by
  unfold sufGo;split
  ·exact zce (qpg ms n) (Nat.le_succ n)
  ·exact zO _
theorem qph(ms:List Nat):∀n i,sufGo ms n≤i→i<n→∀j,j<i→anc ms j i=true
 | 0,_,_,h,_,_=>absurd h (Nat.not_lt_zero _)
 | n+1,i,h1,h2,j,hj=>by
  unfold sufGo at h1;split at h1
  ·rename_i he;by_cases hin:i=n
   ·subst hin;unfold anc;rw[eq_of_beq he,Nat.testBit_two_pow_sub_one,zap hj]
   ·exact qph ms n i h1 (by omega) j hj
  ·omega
theorem Sat.drew{w:World}{ω:Own}{τ:Nat→Nat×Value}{l:Leaf}{y:Value}(h:Sat w ω τ l y):Sat w.drew ω τ l y:=by
 have hf:∀{R:List (Nat×Nat)→Owner→Prop} {d:D} {y:Value},Rep w ω R d y→Rep w.drew ω R d y:=fun h=>h.frame fun _ _ _ hq=>⟨hq,rfl⟩
 cases l with
 | sl t k es=>exact⟨hf h.1,h.2⟩
 | ep t k es i j=>
  obtain⟨b,off,cap,h1,h2,h3,h4⟩:=h;exact⟨b,off,cap,h1,h2,hf h3,h4⟩
 | rp ds off=>
  obtain⟨b,h1,h2⟩:=h;exact⟨b,h1,hf h2⟩
 | fd d=>exact hf h
 | sv t k es=>exact⟨hf h.1,h.2⟩
 | sn t i j k es m=>
  obtain⟨u,hu,h1,hm⟩:=h;exact⟨u,hu,hf h1,hm⟩
 | np t vs=>
  obtain⟨b,ty,arr,h1,h2,h3,hn,hv⟩:=h;refine⟨b,ty,arr,h1,h2,h3,hn,fun j c hc=>?_⟩;obtain⟨u,hu1,hu2⟩:=hv j c hc;refine⟨u,hu1,?_⟩;cases c with
  | und=>exact trivial
  | v x=>exact hu2
  | sl t k es=>exact⟨hf hu2.1,hu2.2⟩
 | _=>exact h
theorem Rel.drew{w0:Base}{st:St}{a:Act}{w:World}(h:Rel w0 st a w):Rel w0 st a w.drew:=by
 obtain⟨ω,τ,h⟩:=h;have hi:∀p:PV,p.map _root_.id=p:=by
  intro p;cases p with
  | al a=>cases a<;>simp[PV.map,AL.map]
  | tup as=>
   simp only[PV.map]
   congr 1
   have:AL.map _root_.id=_root_.id:=by funext a;cases a<;>simp[AL.map]
   rw[this];simp
 refine⟨ω,τ,h.defers,h.size,h.below.next (Blw.refl _ _).drew,h.owned,h.fixed,h.pinned,fun i p hp=>?_,fun id ls hl=>?_⟩
 ·obtain⟨v,h1,h2⟩:=h.env i p hp;have:=SatP.map (S':=Sat w.drew ω τ) (f:=_root_.id) (fun l v hs=>Sat.drew hs) h2;rw[hi]at this;exact⟨v,h1,this⟩
 ·obtain⟨b,arr,ty,h1,h2,h3,h4⟩:=h.boxes id ls hl;have:=SatL.map (S':=Sat w.drew ω τ) (f:=_root_.id) (fun l v hs=>Sat.drew hs) h4;rw[zcf]at this;exact⟨b,arr,ty,h1,h2,h3,this⟩
def qja:Nat→List PV→List Nat
 | _,[]=>[]
 | i,p::r=>match p.leaf with | some (.np t _)=>if t=i then i::qja (i+1) r else qja (i+1) r | _=>qja (i+1) r
def qga(env:List PV):List Oper→List Nat
 | []=>[]
 | o::r=>
  match o.dst,o.op with
  | none,.store _ (.tmp s) _=>
   match (env.getD s .und).leaf with
   | some (.ptr d 0)=>if d=s∧s<giv∧!(qga env r).contains s then s::qga env r else qga env r
   | _=>qga env r
  | _,_=>qga env r
def qvx(env0:List PV)(bs:List (Nat×List Leaf))(es:List Eff)(i:Nat):List Leaf:=
 env0.flatMap PV.lv++(bs.flatMap (·.2)++(es.zipIdx.filter fun x=>x.2 != i).flatMap fun x=>x.1.p.lv)
def qlN(P:Program)(ops:Array Oper)(st:St)(ans:List Ans):Stepped:=
 let gs:=ops.toList.filterMap (qlD ops)
 let ms:=mksGo ops.toList []
 let k:=sufGo ms ops.size
 match qhd (qga st.env (ops.toList.take k)) st with
 | some st0=>
  match qd8 P ops gs st0.boxes (ops.toList.take k) st0.env ans with
  | some (es,env',ans1,obs1)=>
   if P.follows .mixedOrders&&qdM ms ops.toList&&qlH ops ms es&&qlI ms es st0.env st0.boxes then
    match qhe (qja 0 env') ⟨env',st0.boxes⟩,snObs st0.boxes (qvx st0.env st0.boxes es) 0 (ops.toList.take k) st0.env es with
    | some st2,some obs2=>(qf9 P ops (ops.toList.drop k) st2 ans1).map fun r=>(r.1,r.2.1,obs1++(obs2++r.2.2))
    | _,_=>none
   else none
  | none=>none
 | none=>none
theorem qvy{P:Program}{ops:Array Oper}{st st':St}{ans ans':List Ans}{obs:List Prop}(h:qlN P ops st ans=some (st',ans',obs))(ho:Obs obs){w0:Base}{a:Act}{w:World}(hr:Rel w0 st a w){id:Nat}
  {Q:Exit→Act→World→Prop} (hQ:∀a' w',Rel w0 st' a' w'→Q .normal a' w'):(Code.region id ops true).wp P Q a w:=by
 unfold qlN at h;simp only at h;split at h
 case h_2=>cases h
 rename_i st0 hst0;replace hr:=qoG hr hst0;clear hst0;revert hr h;generalize st0=st;intro h hr;split at h
 ·rename_i es env' ans1 obs1 hrun;split at h
  ·rename_i hc;split at h
   rotate_left
   ·cases h
   rename_i st2 obs2 hnp hsnO;rw[zc]at h;obtain⟨⟨r1,r2,r3⟩,hsuf,h⟩:=h;simp only[zd]at h;obtain⟨rfl,rfl,rfl⟩:=h;obtain⟨ho1,ho2⟩:=ho.append;obtain⟨hoS,ho2⟩:=ho2.append;simp only[zj]at hc;obtain⟨⟨⟨hm,hmask⟩,hord⟩,htok⟩:=hc;have hkle:=qpg (mksGo ops.toList []) ops.size;obtain⟨hlen,hend,hfacts⟩:=qhj hrun ho1;have hlen':es.length=sufGo (mksGo ops.toList []) ops.size:=by
    rw[hlen,zay,zbx];omega
   have htake:∀(i:Nat),i<es.length→(ops.toList.take (sufGo (mksGo ops.toList []) ops.size))[i]?=ops[i]?:=by
    intro i hi;rw[zF,zp (by omega),zH]
   have hd:∀(i:Nat) (e:Eff),es[i]?=some e→e.dst≠none:=by
    intro i e hi;have hlt:i<(ops.toList.take (sufGo (mksGo ops.toList []) ops.size)).length:=hlen▸(zk.1 hi).1;obtain⟨e',h1,h2⟩:=hfacts i _ (zu hlt);rw[hi]at h1;cases h1;exact h2.dst
   have hD:Drawable P ops st.boxes st.env es (mksGo ops.toList []):=by
    refine⟨by omega,fun i o hie hi=>?_,hmask,fun i o v hie hi hv=>?_,hord,htok⟩
    rotate_left
    ·have hsO:=qo6 hsnO hoS i o (by rw[htake i hie];exact hi) hie v (by
      rw[←qi9 (bs:=st.boxes) hd i (by omega)]at hv;exact hv)
     rw[zv]at hsO;refine⟨fun q hq=>PV.lv_all fun l hl=>hsO l ?_,fun j x hj hne=>PV.lv_all fun l hl=>hsO l ?_,fun x hx l hl=>hsO l ?_⟩
     ·exact zI _ (zar.2 ⟨q,hq,hl⟩)
     ·refine zJ _ (zJ _ (zar.2 ⟨(x,j),List.mem_filter.2 ⟨?_,by simpa using hne⟩,hl⟩));rw[List.mem_zipIdx_iff_getElem?];exact hj
     ·exact zJ _ (zI _ (zar.2 ⟨x,hx,hl⟩))
    obtain⟨e,h1,h2⟩:=hfacts i o (by rw[htake i hie];exact hi);refine⟨e,h1,?_⟩;rwa[qi9 (bs:=st.boxes) hd i (by omega)]at h2
   have hB:qlM ops (mksGo ops.toList []) es.length:=fun i h1 h2 j hj=>qph _ _ i (by omega) h2 j hj
   refine wp_region_any hm (hD.any hB (w0:=w0) ?_ ops.size ?_ (by simp) ?_ ?_ ?_)
   ·intro fuel listed hcl hs hl1 hl2 hcnt a' w' hr';refine qvw hmask hB fuel es.length (zO _) (by omega) hcl hs hl1 hl2 hcnt (st:=st2) (by rw[hlen'];exact hsuf) ho2 (qoH ?_ hnp) hQ;have:=qi9 (env0:=st.env) (bs:=st.boxes) hd es.length (zO _);rw[zC,←hend]at this;rw[this];exact hr'
   ·intro j o hj;have:=qi6 hj;simp at this;simp[this]at hj
   ·intro j _;by_cases hj:j<ops.size
    ·simp[hj]
    ·simp[hj]
   ·simp[Array.count_replicate]
   ·have:stOf st.env st.boxes (lst (Array.replicate ops.size false)) es=st:=by
     have hno:∀(es:List Eff) (t k:Nat) (acc:PV),lastT (lst (Array.replicate ops.size false)) t k es acc=acc:=by
      intro es;induction es with
      | nil=>intro t k acc;rfl
      | cons e1 es ih=>
       intro t k acc;simp only[lastT];rw[zo,ih];unfold lst;intro hc;have:=qi6 hc;simp at this;simp[this]at hc
     obtain⟨env,bs⟩:=st;unfold stOf
     congr 1
     simp only[hno];apply List.ext_getElem?;intro t;simp
    rw[this];exact hr.drew
  ·cases h
 ·cases h
end Go.Sx
namespace Go.Sx
open Go.RowKit
def RegOk(P:Program)(ops:Array Oper)(st st':St):Prop:=
 ∀(w0:Base) (a:Act) (w:World) (id:Nat) (Q:Exit→Act→World→Prop),Rel w0 st a w→(∀a' w',Rel w0 st' a' w'→Q .normal a' w')→(Code.region id ops true).wp P Q a w
def qjb(o:Oper)(m:Nat):Bool:=o.after.toList.all fun e=>!Region.binds .any e||m.testBit e.on
def nexts(m:Nat):Nat→List Oper→List (Nat×Oper)
 | _,[]=>[]
 | i,o::r=>if !m.testBit i&&qjb o m then (i,o)::nexts m (i+1) r else nexts m (i+1) r
def runM(P:Program)(ops:Array Oper)(A:List (List Ans))(m:Nat):Nat→List Oper→St→St
 | _,[],st=>st
 | i,o::r,st=>if m.testBit i then (match oneOp P ops o st (A.getD i []) with | some x=>runM P ops A m (i+1) r x.1 | none=>st) else runM P ops A m (i+1) r st
def addM(x:Nat)(l:List Nat):List Nat:=if l.any (Nat.beq x) then l else x::l
def moreM:Nat→List (Nat×Oper)→List Nat→List Nat
 | _,[],l=>l
 | m,x::r,l=>addM (m ||| 2 ^ x.1) (moreM m r l)
def nextM(ops:List Oper):List Nat→List Nat
 | []=>[]
 | m::r=>moreM m (nexts m 0 ops) (nextM ops r)
abbrev Edge1:=Option (St×List Ans×List Prop)
def edL1(P:Program)(ops:Array Oper)(A:List (List Ans))(st:St):List (Nat×Oper)→List Edge1
 | []=>[]
 | x::r=>oneOp P ops x.2 st (A.getD x.1 [])::edL1 P ops A st r
def edR1(P:Program)(ops:Array Oper)(A:List (List Ans))(O:List (List Prop))(st0:St)(m:Nat):List (Nat×Oper)→List Edge1
 | []=>[]
 | x::r=>some (runM P ops A (m ||| 2 ^ x.1) 0 ops.toList st0,[],O.getD x.1 [])::edR1 P ops A O st0 m r
def edL2(P:Program)(ops:Array Oper)(A:List (List Ans))(st0:St):List Nat→List (List Edge1)
 | []=>[]
 | m::r=>edL1 P ops A (runM P ops A m 0 ops.toList st0) (nexts m 0 ops.toList)::edL2 P ops A st0 r
def edR2(P:Program)(ops:Array Oper)(A:List (List Ans))(O:List (List Prop))(st0:St):List Nat→List (List Edge1)
 | []=>[]
 | m::r=>edR1 P ops A O st0 m (nexts m 0 ops.toList)::edR2 P ops A O st0 r
def edL(P:Program)(ops:Array Oper)(A:List (List Ans))(st0:St):Nat→List Nat→List (List (List Edge1))
 | 0,_=>[]
 | n+1,l=>edL2 P ops A st0 l::edL P ops A st0 n (nextM ops.toList l)
def edR(P:Program)(ops:Array Oper)(A:List (List Ans))(O:List (List Prop))(st0:St):Nat→List Nat→List (List (List Edge1))
 | 0,_=>[]
 | n+1,l=>edR2 P ops A O st0 l::edR P ops A O st0 n (nextM ops.toList l)
theorem qpi{P:Program}{ops:Array Oper}{A:List (List Ans)}{O:List (List Prop)}{st0 st:St}{m:Nat}:∀{l:List (Nat×Oper)},edL1 P ops A st l=edR1 P ops A O st0 m l→
  ∀x∈l,oneOp P ops x.2 st (A.getD x.1 [])=some (runM P ops A (m ||| 2 ^ x.1) 0 ops.toList st0,[],O.getD x.1 [])
 | [],_,x,hx=>by cases hx
 | y::r,h,x,hx=>by
  simp only[edL1,edR1,zbr]at h;rcases zL.1 hx with rfl | hx
  ·exact h.1
  ·exact qpi h.2 x hx
theorem qpj{P:Program}{ops:Array Oper}{A:List (List Ans)}{O:List (List Prop)}{st0:St}:∀{l:List Nat},edL2 P ops A st0 l=edR2 P ops A O st0 l→
  ∀m∈l,∀x∈nexts m 0 ops.toList,oneOp P ops x.2 (runM P ops A m 0 ops.toList st0) (A.getD x.1 [])=some (runM P ops A (m ||| 2 ^ x.1) 0 ops.toList st0,[],O.getD x.1 [])
 | [],_,m,hm=>by cases hm
 | m0::r,h,m,hm=>by
  simp only[edL2,edR2,zbr]at h;rcases zL.1 hm with rfl | hm
  ·exact qpi h.1
  ·exact qpj h.2 m hm
theorem qvz{x:Nat}{l:List Nat}:x∈addM x l:=by
 unfold addM;split
 ·rename_i h;obtain⟨y,hy,he⟩:=zcj.1 h;rwa[Nat.eq_of_beq_eq_true he]
 ·exact zm
theorem qpk{x y:Nat}{l:List Nat}(h:y∈l):y∈addM x l:=by
 unfold addM;split
 ·exact h
 ·exact zg _ h
theorem qpl{m:Nat}{x:Nat×Oper}:∀{r:List (Nat×Oper)} {l:List Nat},x∈r→(m ||| 2 ^ x.1)∈moreM m r l
 | [],_,h=>by cases h
 | y::r,l,h=>by
  simp only[moreM];rcases zL.1 h with rfl | h
  ·exact qvz
  ·exact qpk (qpl h)
theorem qpm{m k:Nat}:∀{r:List (Nat×Oper)} {l:List Nat},k∈l→k∈moreM m r l
 | [],_,h=>h
 | _::_,_,h=>qpk (qpm h)
theorem qpn{ops:List Oper}{m:Nat}{x:Nat×Oper}:∀{l:List Nat},m∈l→x∈nexts m 0 ops→(m ||| 2 ^ x.1)∈nextM ops l
 | [],h,_=>by cases h
 | k::r,h,hx=>by
  simp only[nextM];rcases zL.1 h with rfl | h
  ·exact qpl hx
  ·exact qpm (qpn h hx)
theorem qpo{m:Nat}:∀{l:List Oper} {i j:Nat} {o:Oper},l[j]?=some o→m.testBit (i+j)=false→qjb o m=true→(i+j,o)∈nexts m i l
 | [],_,_,_,h,_,_=>by simp at h
 | y::r,i,0,o,h,h1,h2=>by
  simp only[zag,za]at h;subst h;simp only[nexts];rw[zp (by rw[zbj]at h1;simp[h1,h2])];exact zm
 | y::r,i,j+1,o,h,h1,h2=>by
  have:=qpo (m:=m) (l:=r) (i:=i+1) (j:=j) (o:=o) (by simpa using h) (by rwa[show i+1+j=i+(j+1) by omega]) h2;rw[show i+1+j=i+(j+1) by omega]at this;simp only[nexts];split
  ·exact zg _ this
  ·exact this
theorem qlO{P:Program}{ops:Array Oper}{A:List (List Ans)}{m k:Nat}:∀{l:List Oper} {i:Nat} {st:St},(∀j,i≤j→j<i+l.length→m.testBit j=k.testBit j)→runM P ops A m i l st=runM P ops A k i l st
 | [],_,_,_=>rfl
 | o::r,i,st,h=>by
  simp only[runM];rw[h i (zO _) (by simp)];split
  ·split
   ·exact qlO fun j h1 h2=>h j (by omega) (by simp only[zq];omega)
   ·rfl
  ·exact qlO fun j h1 h2=>h j (by omega) (by simp only[zq];omega)
theorem qpp:∀{O:List (List Prop)} (i:Nat),Obs O.flatten→Obs (O.getD i [])
 | [],i,_=>by simp[Obs]
 | o::r,0,h=>by
  rw[List.flatten_cons]at h;exact (Obs.append h).1
 | o::r,i+1,h=>by
  rw[List.flatten_cons]at h;exact qpp i (Obs.append h).2
theorem qvA{P:Program}{ops:Array Oper}{ms:List Nat}{A:List (List Ans)}{O:List (List Prop)}{st0:St}{w0:Base}{Q:Exit→Act→World→Prop}(hm:qdM ms ops.toList=true)(ho:Obs O.flatten)
  (hQ:∀a' w',Rel w0 (runM P ops A (2 ^ ops.size-1) 0 ops.toList st0) a' w'→Q .normal a' w'):∀(fuel:Nat) {l:List Nat},edL P ops A st0 fuel l=edR P ops A O st0 fuel l→
  ∀{m:Nat} {listed:Array Bool},m∈l→listed.size=ops.size→(∀j,j<ops.size→listed.getD j false=m.testBit j)→listed.count false≤fuel→
  ∀{a:Act} {w:World},Rel w0 (runM P ops A m 0 ops.toList st0) a w→wpAny P .any ops Q fuel listed a w:=by
 have fin:∀{m:Nat} {listed:Array Bool},(∀j,j<ops.size→listed.getD j false=m.testBit j)→(∀j,j<ops.size→listed.getD j false=true)→
   ∀{a:Act} {w:World},Rel w0 (runM P ops A m 0 ops.toList st0) a w→Q .normal a w:=by
  intro m listed h1 h2 a w hr;refine hQ a w ?_;rw[qlO (m:=2 ^ ops.size-1) (k:=m)]
  ·exact hr
  ·intro j _ hj;have hj':j<ops.size:=by simpa using hj
   rw[←h1 j hj',h2 j hj',Nat.testBit_two_pow_sub_one,zap hj']
 intro fuel;induction fuel with
 | zero=>
  intro l _ m listed _ hs h1 hcnt a w hr;have hall:∀j,j<ops.size→listed.getD j false=true:=by
   intro j hj;cases hl:listed.getD j false with
   | true=>rfl
   | false=>
    exfalso;have hlt2:j<listed.size:=hs▸hj;have hf:listed[j]=false:=by simpa[zD hlt2]using hl
    have:0<listed.count false:=by
     rw[Array.count_pos_iff];exact hf▸Array.getElem_mem hlt2
    omega
  refine⟨?_,fin h1 hall hr⟩;rw[List.eq_nil_iff_forall_not_mem];intro j hj;obtain⟨h2,o,ho',_⟩:=mem_ready.1 hj;have hlt:j<ops.size:=(zz.1 ho').1;have h3:=hall j hlt;have hlt2:j<listed.size:=hs▸hlt;simp[zD hlt2]at h2 h3;rw[h2]at h3;cases h3
 | succ fuel ih=>
  intro l he m listed hml hs h1 hcnt a w hr;simp only[edL,edR,zbr]at he;refine⟨fun hnil=>fin h1 (qlG hm hs hnil) hr,fun i hi=>?_⟩;obtain⟨h5,o,ho',hed⟩:=mem_ready.1 hi;have hlt:i<ops.size:=(zz.1 ho').1;have hlt2:i<listed.size:=hs▸hlt;have hfi:listed.getD i false=false:=by
   simp[zD hlt2]at h5 ⊢;exact h5
  have hmc:qjb o m=true:=by
   unfold qjb;rw[zM];intro e hel;cases hb:Region.binds .any e with
   | false=>rfl
   | true=>
    have h6:=hed e (by simpa using hel) hb;have h7:e.on<listed.size:=qi6 h6;rw[h1 e.on (hs▸h7)]at h6;simp[h6]
  have hnx:(i,o)∈nexts m 0 ops.toList:=by
   have:=qpo (m:=m) (l:=ops.toList) (i:=0) (j:=i) (o:=o) (by simpa using ho') (by rw[zv,←h1 i hlt,hfi]) hmc;rwa[zv]at this
  have hone:=qpj he.1 m hml _ hnx;refine qpf ho' hone (qpp i ho) hr fun a' w' hr'=>ih he.2 (qpn hml hnx) (by simpa using hs) (fun j hj=>?_) ?_ hr'
  ·rw[Nat.testBit_or,Nat.testBit_two_pow];by_cases hji:j=i
   ·subst hji;have hz:j<(listed.setIfInBounds j true).size:=by simpa using hlt2
    simp[zD hz]
   ·rw[getD_set_ne false (Ne.symm hji),h1 j hj,zt (Ne.symm hji),Bool.or_false]
  ·have hf:listed[i]=false:=by simpa[zD hlt2]using hfi
   have:(listed.setIfInBounds i true).count false=listed.count false-1:=by
    have e:listed.setIfInBounds i true=listed.set i true hlt2:=by unfold Array.setIfInBounds;rw[dif_pos hlt2]
    rw[e,Array.count_set];simp[hf]
   omega
theorem RegOk.of{P:Program}{ops:Array Oper}{st st':St}(A:List (List Ans))(O:List (List Prop))(hc:(P.follows .mixedOrders&&qdM (mksGo ops.toList []) ops.toList)=true)
  (he:edL P ops A st ops.size [0]=edR P ops A O st ops.size [0]) (hf:runM P ops A (2 ^ ops.size-1) 0 ops.toList st=st') (ho:Obs O.flatten):RegOk P ops st st':=by
 intro w0 a w id Q hr hQ;simp only[zj]at hc;have hz:∀{l:List Oper} {i:Nat},runM P ops A 0 i l st=st:=by
  intro l;induction l with
  | nil=>intro i;rfl
  | cons o r ih=>intro i;simp only[runM,Nat.zero_testBit,zao,zci];exact ih
 refine wp_region_any hc.1 (qvA hc.2 ho (fun a' w' h=>hQ a' w' (hf▸h)) ops.size he (m:=0) zm (by simp) (fun j hj=>by simp[hj]) (by simp[Array.count_replicate]) ?_);rw[hz];exact hr.drew
def qlP(P:Program)(ops:Array Oper)(st:St)(ans:List Ans):Stepped:=
 match ans with
 | .reg st'::r=>some (st',r,[RegOk P ops st st'])
 | _=>qlN P ops st ans
theorem qvB{P:Program}{ops:Array Oper}{st st':St}{ans ans':List Ans}{obs:List Prop}(h:qlP P ops st ans=some (st',ans',obs))(ho:Obs obs){w0:Base}{a:Act}{w:World}(hr:Rel w0 st a w){id:Nat}
  {Q:Exit→Act→World→Prop} (hQ:∀a' w',Rel w0 st' a' w'→Q .normal a' w'):(Code.region id ops true).wp P Q a w:=by
 unfold qlP at h;split at h
 ·simp only[za,zd]at h;obtain⟨rfl,_,rfl⟩:=h;exact ho.1 w0 a w id Q hr hQ
 ·exact qvy h ho hr hQ
