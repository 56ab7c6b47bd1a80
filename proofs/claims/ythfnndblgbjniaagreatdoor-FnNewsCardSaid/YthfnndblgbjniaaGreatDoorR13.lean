import Derived.Test.YthfnndblgbjniaaGreatDoorR26
import Derived.Test.YthfnndblgbjniaaGreatDoorR31
import Derived.Orders
set_option linter.unusedVariables false
set_option linter.unusedSimpArgs false
namespace Go.Sx
open Go.RowKit
def Iz(P:Program)(st:aD)(d:Option Nat)(f:FuncId)(args:List Operand)(ans:List b'):Stepped:=
 match P.funcs[f]?,args.mapM (fun x=>(st.bj x).iG st.boxes),ans with
 | some fn,some fD,.res rs::r=>
  if (fn.name == "runtime.NumGoroutine") = false /\ fn.body.isNone = false /\ s5 rs = true /\ 10000 * (d.getD 0 + 1) + 10000 <= cX then
   let t:=10000*(d.getD 0+1)
   match d with
   | some d=>some (⟨(st.tA t).env.set d (rF t rs),(st.tA t).boxes⟩,r,[hI P f fD rs])
   | none=>some (st.tA t,r,[hI P f fD rs])
  else none
 | _,_,_=>none
def N9(P:Program)(st:aD)(d:Option Nat)(f:Operand)(args:List Operand)(ans:List b'):Stepped:=
 match (st.bj f).leaf.bind (aC.iG st.boxes),args.mapM (fun x=>(st.bj x).iG st.boxes),ans with
 | some (.bI g bB),some fD,.res rs::r=>
  if s5 rs=true/\10000*(d.getD 0+1)+10000<=cX then
   let t:=10000*(d.getD 0+1)
   match d with
   | some d=>some (⟨(st.tA t).env.set d (rF t rs),(st.tA t).boxes⟩,r,[h9 P g=true,hI P g (fD++bB.map .one) rs])
   | none=>some (st.tA t,r,[h9 P g=true,hI P g (fD++bB.map .one) rs])
  else none
 | _,_,_=>none
def M4:List b'->Bool
 | .s7 _ _ _ _::_=>true
 | _=>false
def M6:List b'->Bool
 | .cY _ _::_=>true
 | _=>false
def M5:List b'->Bool
 | .own::_=>true
 | _=>false
def nU(P:Program)(st:aD)(o:Oper)(ans:List b'):Stepped:=
 match o.dst,o.op with
 | some d,.box _ x=>Hq st d (st.bj x) ans
 | some d,.alloc ty=>Hr P st d ty ans
 | some d,.makeSlice t l c=>BU P st d t (st.bj l) (st.bj c) ans
 | some d,.buildSlice t n parts=>yB P st d t n parts.toList ans
 | none,.store ty x y=>
  match (st.bj x).leaf with
  | some (.ptr id off)=>Hs P st ty id off (st.bj y) ans
  | some (.cU (.own t) k es i j)=>G2 P st ty t k es i j (st.bj y) ans
  | some (.aL t i j k es (.at_ a b))=>Il P st ty t i j k es a b (st.bj y) ans
  | _=>none
 | d,.call ⟨.value (.func f),args,_⟩=>if M6 ans then Iw P st d f args.toList ans else if M4 ans then G9 P st d f args.toList ans else Iz P st d f args.toList ans
 | d,.call ⟨.value (.tmp x),args,_⟩=>if M6 ans then Ix P st d (.tmp x) args.toList ans else N9 P st d (.tmp x) args.toList ans
 | some d,.call ⟨.builtin .append,⟨[x,y]⟩,⟨[t,di]⟩⟩=>
  if t=di then
   match (st.bj x).leaf with
   | some (.aL s i j k es .here)=>Im P st d t s i j k es y ans
   | _=>wW P st d t x y ans
  else none
 | some d,.slice t x cP hi hP=>if M5 ans then wX P st d t (st.bj x) cP hi hP ans.tail else (oU P st (.slice t x cP hi hP) ans).map fun r=>(⟨st.env.set d r.1,st.boxes⟩,r.2.1,r.2.2)
 | some d,op=>(oU P st op ans).map fun r=>(⟨st.env.set d r.1,st.boxes⟩,r.2.1,r.2.2)
 | none,op=>(oU P st op ans).map fun r=>(st,r.2.1,r.2.2)
variable{P:Program}{o:Oper}{a:Act}{w:World}{Q:Exit->Act->World->Prop}
theorem Calls.of{next:Act->World->Prop}{z:Value}{aP:World}(h:(execOp a.eval o).run P w=.ok (.value z) aP)(a7:next (a.put o.dst z) aP):
  o.wp P a w next Q:=by
 unfold Oper.wp;rw[h];exact a7
variable{w0:dY}{st bl:aD}{ans cf:List b'}{obs:List Prop}
theorem IA(h:nU P st o ans=some (bl,cf,obs))(a6:cv obs)(aW:Rel w0 st a w)
  {next:Act->World->Prop} {Q:Exit->Act->World->Prop} (kg:∀cC aP,Rel w0 bl cC aP->next cC aP):o.wp P a w next Q:=by
 obtain⟨ω,τ,aW⟩:=aW;obtain⟨dst,op,type,pos,after,guard⟩:=o;simp only[nU]at h;split at h
 ·rename_i d ty x;obtain⟨z,aP,U,aa⟩:=cy.box (P:=P) aW (aW.bj x) h ty;exact Calls.of (hS U) (kg _ _ aa)
 ·rename_i d ty;obtain⟨z,aP,U,aa⟩:=cy.alloc aW h;exact Calls.of (hS U) (kg _ _ aa)
 ·rename_i d t l c;obtain⟨z,aP,U,aa⟩:=aW.make (aW.bj l) (aW.bj c) h a6;exact Calls.of (hS U) (kg _ _ aa)
 ·rename_i d t n parts;obtain⟨z,aP,U,aa⟩:=aW.buildSlice h;exact Calls.of (hS U) (kg _ _ aa)
 ·rename_i ty x y;have fin:∀aP,(Instr.storeAt ty (a.eval x) (a.eval y)).run P w=.ok () aP->Rel w0 bl a aP->Oper.wp P ⟨none,.store ty x y,type,pos,after,guard⟩ a w next Q:=by
   intro aP U aa;unfold Oper.wp execOp;simp only[Sem.run_bind,U,Result.andThen_ok,Sem.run_pure,Oper.upon];exact kg _ _ aa
  split at h
  ·rename_i id off e;obtain⟨b,aw,ao⟩:=aE.dt e (aW.bj x);obtain⟨aP,U,aa⟩:=aW.art (P:=P) aw (aW.bj y) h;grind
  ·rename_i t k es i j e;obtain⟨aP,U,aa⟩:=aW.arv (P:=P) (aE.dt e (aW.bj x)) (aW.bj y) h a6;grind
  ·rename_i t i j k es arI LI e;obtain⟨aP,U,aa⟩:=aW.arx (P:=P) (aE.dt e (aW.bj x)) (aW.bj y) h a6;grind
  cases h
 ·rename_i f args ts;split at h
  ·grind[aiG]
  split at h
  ·grind[aiz]
  rename_i Fp V7;clear Fp;unfold Iz at h;clear V7;split at h
  ·rename_i fn fD rs r jt E5;split at h
   ·rename_i ap;obtain⟨kB,kf,jR,qM⟩:=ap;obtain⟨au,ay⟩:=lU E5;have k4:BC w fD (args.map a.eval):=by
     refine⟨by simp[au],fun i cl hi=>?_⟩;obtain⟨x,ao,iO⟩:=ay i cl hi;refine⟨a.eval x,?_,aE.vo aW.boxes iO (aW.bj x)⟩;grind
    have fO:(execOp a.eval ⟨dst,.call ⟨.value (.func f),args,ts⟩,type,pos,after,guard⟩).run P w=.ok (.enter f (args.map a.eval)) w:=by
     have VC : fn.name ≠ "runtime.NumGoroutine" := by grind
     have qL:fn.body≠none:=by grind
     simp[execOp,resolve,Act.eval,Deferred.ofValue,invoke,callFunc,jt,VC,qL]
    have key:∀(ld:List Prop),obs=ld->cv ld->ld=[hI P f fD rs]->∀(K:Act->World->Prop),(∀v aP,fC w.heap.size w aP->tr w aP rs v->K (a.put dst v) aP)->
      Oper.wp P ⟨dst,.call ⟨.value (.func f),args,ts⟩,type,pos,after,guard⟩ a w K Q:=by
     intro ld _ kE e K ii;subst e;unfold Oper.wp;rw[fO];simp only[Oper.upon];refine (kE.1 w _ aW.below.laid k4).mono ?_;grind
    simp only at h;cases dst with
    | none=>
     simp only[aT,bq]at h;obtain⟨rfl,_,rfl⟩:=h;refine key _ rfl a6 rfl next fun v aP aw aI=>kg _ _ ?_
     obtain⟨a',cL,U,_⟩:=aW.called (10000*(Option.getD none 0+1)) jR qM aw aI;exact⟨a',cL,U⟩
    | some d=>
     simp only[aT,bq]at h;obtain⟨rfl,_,rfl⟩:=h;refine key _ rfl a6 rfl next fun v aP aw aI=>kg _ _ ?_
     obtain⟨a',cL,U,aa⟩:=aW.called (10000*(Option.getD (some d) 0+1)) jR qM aw aI;exact⟨a',cL,U.put aa⟩
   cases h
  cases h
 ·rename_i x args ts;split at h
  ·grind[ajM]
  rename_i Fp;clear Fp;unfold N9 at h;split at h
  ·rename_i g bB fD rs r b7 E5;split at h
   ·rename_i ap;obtain⟨jR,qM⟩:=ap;obtain⟨au,ay⟩:=lU E5;have c2:fD.length=args.size:=by grind
    rw[kW]at b7;obtain⟨jx,Fw,Wf⟩:=b7;have Mt:jX w (.bI g bB) (a.eval (.tmp x)):=aC.vo aW.boxes Wf (aE.dt Fw (aW.bj (.tmp x)));have VT:∃cs:Array Value,a.eval (.tmp x)=.func (.func g) #[] cs/\cs.size=bB.length/\∀(j:Nat) (d:D),bB[j]?=some d->∃u,cs[j]?=some u/\jX w d u:=by
     generalize a.eval (.tmp x)=y at Mt;cases Mt with
     | bI R g bB cs us aj hu aF=>exact⟨cs,rfl,aj,fun j d bm=>⟨us j,hu j d bm,(aF j d bm).free⟩⟩
    obtain⟨cs,nv,asO,VJ⟩:=VT;have k4:BC w (fD++bB.map .one) (args.map a.eval++cs):=by
     refine⟨by grind,fun i cl hi=>?_⟩;rw[n5]at hi;rw[kU];split at hi
     ·rename_i lM;rw[bU (by simp;omega)];obtain⟨y,bO,jv⟩:=ay i cl hi;refine⟨a.eval y,?_,aE.vo aW.boxes jv (aW.bj y)⟩;grind
     rename_i lM;rw[bE (by simp;omega)];rw[dk,b0]at hi;obtain⟨d,aF,rfl⟩:=hi;obtain⟨u,gq,eV⟩:=VJ _ d aF;refine⟨u,?_,eV⟩;grind
    have fO:h9 P g=true->(execOp a.eval ⟨dst,.call ⟨.value (.tmp x),args,ts⟩,type,pos,after,guard⟩).run P w=.ok (.enter g (args.map a.eval++cs)) w:=by
     intro xI;unfold h9 at xI;split at xI
     ·rename_i fn jt;simp only[cJ,hT,Al,l']at xI;have qL:fn.body≠none:=by grind
      simp[execOp,resolve,nv,Deferred.ofValue,invoke,callFunc,jt,xI.1,qL]
     cases xI
    have key:∀(ld:List Prop),obs=ld->cv ld->ld=[h9 P g=true,hI P g (fD++bB.map .one) rs]->∀(K:Act->World->Prop),(∀v aP,fC w.heap.size w aP->tr w aP rs v->K (a.put dst v) aP)->
      Oper.wp P ⟨dst,.call ⟨.value (.tmp x),args,ts⟩,type,pos,after,guard⟩ a w K Q:=by
     intro ld _ kE e K ii;subst e;unfold Oper.wp;rw[fO kE.1];simp only[Oper.upon];refine (kE.2.1 w _ aW.below.laid k4).mono ?_;grind
    simp only at h;cases dst with
    | none=>
     simp only[aT,bq]at h;obtain⟨rfl,_,rfl⟩:=h;refine key _ rfl a6 rfl next fun v aP aw aI=>kg _ _ ?_
     obtain⟨a',cL,U,_⟩:=aW.called (10000*(Option.getD none 0+1)) jR qM aw aI;exact⟨a',cL,U⟩
    | some d=>
     simp only[aT,bq]at h;obtain⟨rfl,_,rfl⟩:=h;refine key _ rfl a6 rfl next fun v aP aw aI=>kg _ _ ?_
     obtain⟨a',cL,U,aa⟩:=aW.called (10000*(Option.getD (some d) 0+1)) jR qM aw aI;exact⟨a',cL,U.put aa⟩
   cases h
  cases h
 ·rename_i d x y t di;split at h
  ·rename_i x2;subst x2;have sa:∃z aP,(Builtin.append_ #[t,t] type #[a.eval x,a.eval y]).run P w=.ok z aP/\Rel w0 bl (a.put (some d) z) aP:=by
    split at h
    ·rename_i s i j k es e;exact aW.U1 (P:=P) (ty:=type) (aE.dt e (aW.bj x)) h a6
    exact aW.wW (ty:=type) h a6
   obtain⟨z,aP,U,aa⟩:=sa;refine Calls.of (z:=z) (aP:=aP) ?_ (kg _ _ aa);have:(execOp a.eval ⟨some d,.call ⟨.builtin .append,⟨[x,y]⟩,⟨[t,t]⟩⟩,type,pos,after,guard⟩)=(builtin .append ⟨[t,t]⟩ type (Array.map (fun | .const _=>true | _=>false) ⟨[x,y]⟩) (Array.map a.eval ⟨[x,y]⟩)):=by
    simp only[execOp,resolve];rfl
   rw[this];exact hS (by grind)
  cases h
 ·rename_i d t x cP hi hP;split at h
  ·obtain⟨z,U,aa⟩:=aW.wX (P:=P) (aW.bj x) h a6;exact Calls.of (hS U) (kg _ _ aa)
  rw[b0]at h;obtain⟨⟨bF,bY,cg⟩,U,h⟩:=h;simp only[bq]at h;obtain⟨rfl,rfl,rfl⟩:=h;obtain⟨z,aa,aA⟩:=Hp (o:=⟨_,_,type,pos,after,guard⟩) aW U a6;exact Calls.of aa (kg _ _ ⟨ω,τ,aW.put aA⟩)
 ·rw[b0]at h;obtain⟨⟨bF,bY,cg⟩,U,h⟩:=h;simp only[bq]at h;obtain⟨rfl,rfl,rfl⟩:=h;obtain⟨z,aa,aA⟩:=Hp (o:=⟨_,_,type,pos,after,guard⟩) aW U a6;exact Calls.of aa (kg _ _ ⟨ω,τ,aW.put aA⟩)
 rw[b0]at h;obtain⟨⟨bF,bY,cg⟩,U,h⟩:=h;simp only[bq]at h;obtain⟨rfl,rfl,rfl⟩:=h;obtain⟨z,aa,aA⟩:=Hp (o:=⟨_,_,type,pos,after,guard⟩) aW U a6;exact Calls.of aa (kg _ _ ⟨ω,τ,aW⟩)
def mJ(P:Program)(st:aD)(o:Oper)(ans:List b'):Stepped:=
 match o.dst,o.op with
 | some d,.alloc ty=>BG P st d ty ans
 | none,.store ty (.tmp s) y=>BI P st ty s (st.bj y) ans
 | _,_=>nU P st o ans
theorem ajN(h:mJ P st o ans=some (bl,cf,obs))(a6:cv obs)(aW:Rel w0 st a w)
  {next:Act->World->Prop} {Q:Exit->Act->World->Prop} (kg:∀cC aP,Rel w0 bl cC aP->next cC aP):o.wp P a w next Q:=by
 obtain⟨dst,op,type,pos,after,guard⟩:=o;unfold mJ at h;split at h
 ·rename_i d ty e1 e2;simp only at e1 e2;subst e1;subst e2;obtain⟨ω,τ,aW⟩:=aW;obtain⟨z,aP,U,aa⟩:=cy.U0 aW h;exact Calls.of (hS U) (kg _ _ aa)
 ·rename_i ty s y e1 e2;simp only at e1 e2;subst e1;subst e2;obtain⟨ω,τ,aW⟩:=aW;obtain⟨aP,U,aa⟩:=aW.arw (P:=P) (aW.bj y) h;unfold Oper.wp execOp;simp only[Sem.run_bind,U,Result.andThen_ok,Sem.run_pure,Oper.upon];exact kg _ _ aa
 grind[IA]
def yN(st:aD)(dst:Option Nat):aD:=
 match dst with
 | some d=>⟨st.env.set d (.one (.v undef)),st.boxes⟩
 | none=>st
theorem IB{dst:Option Nat}(h:Rel w0 st a w):Rel w0 (yN st dst) (a.put dst undef) w:=by
 obtain⟨ω,τ,h⟩:=h;cases dst with
 | none=>exact⟨ω,τ,h⟩
 | some d=>exact⟨ω,τ,h.put (p:=.one (.v undef)) rfl⟩
def p'(ops:Array Oper)(st:aD)(o:Oper)(ans:List b'):Option (Bool×aD×List b'×List Prop):=
 match o.guard with
 | none=>some (true,st,ans,[])
 | some (j,want)=>
  match (ops[j]?).bind (·.dst) with
  | some s=>
   match (st.env.getD s .cp).leaf with
   | some (.v (.bool b))=>some (b==want,st,ans,[])
   | some (.v (.tuple _))=>some (false,st,ans,[])
   | some (.a1 c)=>
    match ans with
    | .na b::r=>some (b==want,⟨st.env.set s (.one (.v (.bool b))),st.boxes⟩,r,[c=b])
    | _=>none
   | _=>none
  | none=>none
variable{ops:Array Oper}
theorem uO{b:Bool}(h:p' ops st o ans=some (b,bl,cf,obs))(a6:cv obs)(aW:Rel w0 st a w):
  Region.wanted o (yielded ops a.tmps)=b/\Rel w0 bl a w:=by
 obtain⟨ω,τ,aW⟩:=aW;unfold p' at h;split at h
 ·rename_i ay;simp only[aT,bq]at h;obtain⟨rfl,rfl,_,_⟩:=h;exact⟨by simp[Region.wanted,ay],ω,τ,aW⟩
 rename_i j want ay;split at h
 ·rename_i s aj;have ec:∀l,(st.env.getD s .cp).leaf=some l->∀x,(∀y,Sat w ω τ l y->y=x)->(l=.cp->False)->a.tmps[s]?=some x:=by
   intro l au x ao c1;rw[jJ]at au;cases e:st.env[s]? with
   | none=>
    grind[aE.leaf,aT,absurd]
   | some p=>
    rw[e]at au;obtain⟨v,U,aa⟩:=aW.env s p e;grind[aE.dt]
  split at h
  ·rename_i de au;simp only[aT,bq]at h;obtain⟨rfl,rfl,_,_⟩:=h;have:=ec _ au (.bool de) (fun y bO=>bO) (fun h=>by cases h);exact⟨by grind[Region.wanted,yielded],ω,τ,aW⟩
  ·rename_i vs au;simp only[aT,bq]at h;obtain⟨rfl,rfl,_,_⟩:=h;have:=ec _ au (.tuple vs) (fun y bO=>bO) (fun h=>by cases h);exact⟨by grind[Region.wanted,yielded],ω,τ,aW⟩
  ·rename_i c au;split at h
   ·rename_i de r;simp only[aT,bq]at h;obtain⟨rfl,rfl,_,rfl⟩:=h;have h0:c=de:=a6.1;subst h0;have:=ec _ au (.bool c) (fun y bO=>bO) (fun h=>by cases h);refine⟨by grind[Region.wanted,yielded],ω,τ,?_⟩;have MK:=aW.put (d:=s) (p:=.one (.v (.bool c))) (v:=.bool c) rfl;have e:a.put (some s) (.bool c)=a:=by
     simp only[Act.put];have:a.tmps.setIfInBounds s (.bool c)=a.tmps:=by
      grind
     rw[this]
    grind
   cases h
  cases h
 cases h
def oQ(P:Program)(ops:Array Oper)(o:Oper)(st:aD)(ans:List b'):Stepped:=
 match p' ops st o ans with
 | some (true,dx,eQ,fm)=>(nU P dx o eQ).map fun r=>(r.1,r.2.1,fm++r.2.2)
 | some (false,dx,eQ,fm)=>some (yN dx o.dst,eQ,fm)
 | none=>none
theorem N'{rest:List Oper}(h:oQ P ops o st ans=some (bl,cf,obs))(a6:cv obs)
  {a:Act} {w:World} (aW:Rel w0 st a w) (ii:∀cC aP,Rel w0 bl cC aP->wpList P ops Q rest cC aP):wpList P ops Q (o::rest) a w:=by
 unfold oQ at h;split at h
 ·rename_i dx eQ fm hw;rw[b0]at h;obtain⟨⟨bF,bY,cg⟩,U,h⟩:=h;simp only[bq]at h;obtain⟨rfl,rfl,rfl⟩:=h;obtain⟨cx,cd⟩:=a6.append;obtain⟨pO,gB⟩:=uO hw cx aW;refine wpList_step fun K xE=>?_
  rw[bU pO];grind[IA]
 ·rename_i dx eQ fm hw;simp only[aT,bq]at h;obtain⟨rfl,rfl,rfl⟩:=h;obtain⟨pO,gB⟩:=uO hw a6 aW;refine wpList_step fun K xE=>?_
  rw[bE (by grind)];grind[IB]
 cases h
def IC(o cd:Oper):Option (Nat×TypeId×Operand×Option Operand×TypeId):=
 match o.dst,o.op,o.guard,cd.dst,cd.op,cd.guard with
 | some d,.slice t x cP none none,none,none,.call ⟨.builtin .clear,⟨[.tmp dn]⟩,⟨[fU]⟩⟩,none=>if d=dn then some (d,t,x,cP,fU) else none
 | _,_,_,_,_,_=>none
theorem ajO{cd:Oper}{rest:List Oper}{d:Nat}{t fU:TypeId}{x:Operand}{cP:Option Operand}(hp:IC o cd=some (d,t,x,cP,fU))
  {st bl:aD} {ans cf:List b'} {obs:List Prop} (h:Cw P st d t x cP fU ans=some (bl,cf,obs)) (a6:cv obs)
  {a:Act} {w:World} (aW:Rel w0 st a w) (ii:∀cC aP,Rel w0 bl cC aP->wpList P ops Q rest cC aP):wpList P ops Q (o::cd::rest) a w:=by
 obtain⟨dst,op,type,pos,after,guard⟩:=o;obtain⟨asr,atC,type2,atG,ase,asG⟩:=cd;unfold IC at hp;split at hp
 ·rename_i d0 t0 ha atv dn atN e1 e2 ch dP gT k2;simp only at e1 e2 ch dP gT k2;subst e1 e2 ch dP gT k2;split at hp
  ·rename_i aF;subst aF;simp only[aT,bq]at hp;obtain⟨rfl,rfl,rfl,rfl,rfl⟩:=hp;obtain⟨ω,τ,aW⟩:=aW;obtain⟨bM,y,z,aP,U,aa,aA⟩:=aW.clear h a6;refine wpList_plain rfl fun K xE=>Calls.of (hS (by simpa using U)) (xE _ _ ?_)
   refine wpList_plain rfl fun K xE=>?_
   have pJ:(a.put (some d0) y).eval (.tmp d0)=y:=by
    simp_all[Act.eval,Act.put]
   refine Calls.of (z:=z) (aP:=aP) ?_ (xE _ _ (ii _ _ aA));simp only[execOp,resolve,invoke,builtin,Sem.run_bind,Sem.run_pure,Result.andThen_ok,List.map_toArray,lu,List.map_nil,pJ,aa]
  cases hp
 cases hp
def uP(P:Program)(ops:Array Oper):List Oper->aD->List b'->Stepped
 | [],st,ans=>some (st,ans,[])
 | [o],st,ans=>oQ P ops o st ans
 | o::cd::rest,st,ans=>
  match IC o cd with
  | some (d,t,x,cP,fU)=>
   match Cw P st d t x cP fU ans with
   | some (dx,eQ,fm)=>(uP P ops rest dx eQ).map fun r=>(r.1,r.2.1,fm++r.2.2)
   | none=>none
  | none=>
   match oQ P ops o st ans with
   | some (dx,eQ,fm)=>(uP P ops (cd::rest) dx eQ).map fun r=>(r.1,r.2.1,fm++r.2.2)
   | none=>none
theorem ID:∀(l:List Oper) {st bl:aD} {ans cf:List b'} {obs:List Prop},uP P ops l st ans=some (bl,cf,obs)->cv obs->
  ∀{a:Act} {w:World},Rel w0 st a w->(∀cC aP,Rel w0 bl cC aP->Q .normal cC aP)->wpList P ops Q l a w
 | [],st,bl,ans,cf,obs,h,_,a,w,aW,hW=>by
  simp only[uP,aT,bq]at h;obtain⟨rfl,_,_⟩:=h;exact hW _ _ aW
 | [o],st,bl,ans,cf,obs,h,a6,a,w,aW,hW=>by
  simp only[uP]at h;exact N' h a6 aW fun cC aP eh=>hW _ _ eh
 | o::cd::rest,st,bl,ans,cf,obs,h,a6,a,w,aW,hW=>by
  simp only[uP]at h;split at h
  ·rename_i d t x cP fU hp;split at h
   ·rename_i dx eQ fm U;rw[b0]at h;obtain⟨⟨bF,bY,cg⟩,aa,h⟩:=h;simp only[bq]at h;obtain⟨rfl,rfl,rfl⟩:=h;obtain⟨cx,cD⟩:=a6.append;exact ajO hp U cx aW fun cC aP eh=>ID rest aa cD eh hW
   cases h
  split at h
  ·rename_i dx eQ fm U;rw[b0]at h;obtain⟨⟨bF,bY,cg⟩,aa,h⟩:=h;simp only[bq]at h;obtain⟨rfl,rfl,rfl⟩:=h;obtain⟨cx,cD⟩:=a6.append;exact N' U cx aW fun cC aP eh=>ID (cd::rest) aa cD eh hW
  cases h
end Go.Sx
namespace Go.Sx
open Go.RowKit
abbrev fu:=List (Nat×Nat)
def fu.has(r:fu)(s:Nat):Bool:=r.any fun x=>decide (x.1<=s)&&decide (s<x.2)
def Tag.ed(r:fu):Tag->Bool
 | .free=>false
 | .own s=>r.has s
 | .ro s=>r.has s
def eB.ed(r:fu):eB->Bool
 | .J t _ _=>t.ed r
 | _=>false
def aC.ed(r:fu):aC->Bool
 | .J t _ _=>t.ed r
 | .cU t _ _ _ _=>t.ed r
 | .aL t _ _ _ _ _=>r.has t
 | .eS t vs=>r.has t||vs.any (eB.ed r)
 | _=>false
def bg.ed(r:fu):bg->Bool
 | .one l=>l.ed r
 | .agg ls=>ls.any (aC.ed r)
def aE.ed(r:fu):aE->Bool
 | .az a=>a.ed r
 | .ek as=>as.any (bg.ed r)
def mK(g:Tag->Option Tag)(r:fu):Prop:=∀t:Tag,t.ed r=false->g t=some t
variable{g:Tag->Option Tag}{r:fu}
theorem aC.u4(ay:mK g r){l:aC}(h:l.ed r=false):l.cB g (fun _=>true)=l:=by
 cases l with
 | J t k es=>simp only[aC.ed]at h;simp only[aC.cB,ay t h]
 | cU t k es i j=>simp only[aC.ed]at h;simp only[aC.cB,ay t h]
 | ptr id off=>simp[aC.cB]
 | fK f ids=>simp[aC.cB]
 | aL t i j k es m=>simp only[aC.ed]at h;simp only[aC.cB,ay (.own t) h,gO]
 | eS t vs=>
  simp only[aC.ed,gh]at h;simp only[aC.cB,ay (.own t) h.1,gO]
  congr 1
  conv=>rhs;rw[<-pu vs]
  refine ks fun c ap=>?_
  have:=hv.1 h.2 c ap;cases c with
  | cp=>rfl
  | v x=>rfl
  | J di k es=>simp only[eB.cB,ay di (by grind[eB.ed]),id]
 | _=>rfl
theorem NA(ay:mK g r){ls:List aC}(h:ls.any (aC.ed r)=false):ls.map (aC.cB g fun _=>true)=ls:=by
 conv=>rhs;rw[<-pu ls]
 grind[ks,hv,aC.u4]
theorem bg.u4(ay:mK g r){a:bg}(h:a.ed r=false):a.map (aC.cB g fun _=>true)=a:=by
 cases a with
 | one l=>grind[bg.ed,bg.map,aC.u4]
 | agg ls=>grind[bg.ed,bg.map,NA]
theorem aE.u4(ay:mK g r){p:aE}(h:p.ed r=false):p.map (aC.cB g fun _=>true)=p:=by
 cases p with
 | az a=>grind[aE.ed,aE.map,bg.u4]
 | ek as=>
  simp only[aE.ed]at h;simp only[aE.map]
  congr 1
  conv=>rhs;rw[<-pu as]
  grind[ks,hv,bg.u4]
structure dc where
 dst:Option Nat
 p:aE
 use:List Nat
 l4:fu
abbrev kY:=Option (dc×(Tag->Option Tag)×List b'×List Prop)
def NB:Operand->Option Nat
 | .tmp t=>some t
 | _=>none
def yh:Option Nat->fu
 | none=>[]
 | some s=>[(s,s+1)]
def xh(P:Program)(st:aD)(d:Nat)(t:TypeId)(x y:Operand)(ans:List b'):kY:=
 match pc P t with
 | some (e,k)=>
  match P.info? e with
  | some i=>
   match i.zero,(st.bj x).leaf,x with
   | some z,some (.J (.own gf) cm es),.tmp s=>
    match tx gf k (st.bj y) ans with
    | some (bL,dA,cf,obs)=>
     if cm=k/\z.cells.size=k/\0<k/\gf<cX then
      some (⟨some d,.one (.J (.own gf) k (es++bL)),[s],(gf,gf+1)::yh dA⟩,gS gf dA,cf,((es.length+bL.length)*i.bytes<=140737488355328)::(es.length+bL.length<=9223372036854775807)::obs)
     else none
    | _=>none
   | some z,some (.v (.slice none 0 0)),_=>
    match tx d k ((st.bj y).map (aC.cB (hk d []) fun _=>true)) ans with
    | some (bL,dA,cf,obs)=>
     if z.cells.size=k/\0<k/\d<cX then
      some (⟨some d,.one (.J (.own d) k ([]++bL)),[],(d,d+1)::yh dA⟩,(fun g=>(hk d [] g).bind (gS d dA)),cf,(((([]:List (List D)).length)+bL.length)*i.bytes<=140737488355328)::(([]:List (List D)).length+bL.length<=9223372036854775807)::obs)
     else none
    | _=>none
   | _,_,_=>none
  | none=>none
 | none=>none
def EA(P:Program)(st:aD)(d:Nat)(t:TypeId)(x:Operand)(cP hi hP:Option Operand)(ans:List b'):kY:=
 match pc P t,(st.bj x).leaf,hP,x with
 | some (_,k),some (.J (.own s) cm es),none,.tmp kR=>
  if k=cm/\s<cX then
   match kL st cP,kL st hi with
   | some l,some h=>some (⟨some d,.one (.J (.own s) k ((es.drop (l.getD 0).toNat).take ((h.getD es.length).toNat-(l.getD 0).toNat))),[kR],[(s,s+1)]⟩,jg s s,ans,[0<=l.getD 0,l.getD 0<=h.getD es.length,h.getD es.length<=es.length])
   | _,_=>none
  else none
 | _,_,_,_=>none
variable{s:Nat}
theorem ajP:mK (jg s s) [(s,s+1)]:=by
 intro t h;cases t with
 | free=>rfl
 | own x=>
  have:x≠s:=by rintro rfl;grind[Tag.ed,fu.has]
  grind[jg]
 | ro x=>
  simp_all[Tag.ed,fu.has,jg]
def Nf(P:Program)(d:Nat)(t:TypeId)(p q:aE)(ans:List b'):kY:=
 match P.underlying t with
 | some (.slice e)=>
  match P.info? e,p.int,q.int with
  | some i,some (_,l),some (_,c)=>
   match i.zero with
   | some z=>
    if i.size=z.cells.size/\0<i.size/\z.cells.all (·.oneCell')=true/\d<cX then
     some (⟨some d,.one (.J (.own d) i.size (List.replicate l.toNat (z.cells.toList.map .v))),[],[(d,d+1)]⟩,hk d [],ans,[0<=l,l<=c,(i.bytes:Int)*c<=281474976710656,c<=9223372036854775807])
    else none
   | none=>none
  | _,_,_=>none
 | _=>none
def qA(P:Program)(st:aD)(o:Oper)(ans:List b'):kY:=
 match o.dst,o.op with
 | some d,.call ⟨.value (.func f),args,_⟩=>
  match P.funcs[f]?,args.toList.mapM (fun x=>(st.bj x).iG st.boxes),ans with
  | some fn,some fD,.res rs::r=>
   if (fn.name == "runtime.NumGoroutine") = false /\ fn.body.isNone = false /\ s5 rs = true /\ 10000 * (d + 1) + 10000 <= cX then
    some (⟨some d,rF (10000*(d+1)) rs,[],[(10000*(d+1),10000*(d+1)+10000)]⟩,fF (10000*(d+1)),r,[hI P f fD rs])
   else none
  | _,_,_=>none
 | some d,.buildSlice t n parts=>
  match AF P st d t n parts.toList with
  | some (k,es,ms)=>some (⟨some d,.one (.J (.own d) k es),[],(d,d+1)::ms.map fun x=>(x.1,x.1+1)⟩,hk d ms,ans,[])
  | _=>none
 | some d,.call ⟨.builtin .append,⟨[x,y]⟩,⟨[t,di]⟩⟩=>if t=di then xh P st d t x y ans else none
 | some _,.box _ _=>none
 | some d,.alloc ty=>
  match P.info? ty with
  | some i=>match i.zero with
   | some z=>if d<cX then some (⟨some d,.one (.eS d (z.cells.toList.map .v)),[],[(d,d+1)]⟩,hk d [],ans,[]) else none
   | none=>none
  | none=>none
 | some d,.makeSlice t l c=>Nf P d t (st.bj l) (st.bj c) ans
 | some d,.slice t x cP hi hP=>if M5 ans then EA P st d t x cP hi hP ans.tail else (oU P st (.slice t x cP hi hP) ans).map fun r=>(⟨some d,r.1,[],[]⟩,some,r.2.1,r.2.2)
 | some d,op=>(oU P st op ans).map fun r=>(⟨some d,r.1,[],[]⟩,some,r.2.1,r.2.2)
 | none,.store ty (.tmp s) y=>
  match (st.env.getD s .cp).leaf,GH (st.bj y),P.info? ty with
  | some (.eS t vs),some cs,some i=>
   if cs.length=i.size/\cs.length<=vs.length then
    some (⟨some s,.one (.eS t ((cs++vs.drop cs.length).map (eB.cB (eR t)))),[],[(t,t+1)]⟩,eR t,ans,[])
   else none
  | _,_,_=>none
 | none,_=>none
theorem ajQ:mK (eR s) [(s,s+1)]:=by
 intro t h;cases t with
 | free=>rfl
 | own x=>
  have:x≠s:=by rintro rfl;grind[Tag.ed,fu.has]
  grind[eR]
 | ro x=>
  have:x≠s:=by rintro rfl;grind[Tag.ed,fu.has]
  grind[eR]
theorem ajR:eB.cB some=id:=by funext c;cases c<;>rfl
theorem ajS(st:aD)(f:aC->aC)(b7:∀x,f (.v x)=.v x)(hu:f .cp=.cp)(aF:∀d,f (.fd d)=.fd d)(x:Operand):(st.map f).bj x=(st.bj x).map f:=by
 cases x with
 | tmp t=>
  simp only[aD.bj,aD.map];rw[jJ,jJ,dk];cases st.env[t]? with
  | none=>simp[aE.map,bg.map,hu]
  | some p=>rfl
 | const v=>
  simp only[aD.bj,AL];split
  ·simp[aE.map,bg.map,b7]
  grind[aE.map,bg.map]
 | global g=>simp[aD.bj,aE.map,bg.map,hu]
 | func asB=>simp[aD.bj,aE.map,bg.map,aF]
theorem aC.arm(g1 g2:Tag->Option Tag)(aa:∀g t,g2 g=some (.own t)->g=.own t)(l:aC):aC.cB g2 (fun _=>true) (aC.cB g1 (fun _=>true) l)=aC.cB (fun t=>(g1 t).bind g2) (fun _=>true) l:=by
 cases l with
 | J t k es=>grind[aC.cB]
 | cU t k es i j=>grind[aC.cB]
 | fK f ids=>simp[aC.cB]
 | aL t i j k es m=>
  simp only[aC.cB];cases e1:g1 (.own t) with
  | none=>grind
  | some x=>
   simp only[l8];grind
 | eS t vs=>
  simp only[aC.cB];cases e1:g1 (.own t) with
  | none=>grind
  | some x=>
   simp only[l8];cases x with
   | own s=>
    simp only;by_cases aj:s=t
    ·subst aj;simp only[gO,aC.cB];have nv:(vs.map (eB.cB g1)).map (eB.cB g2)=vs.map (eB.cB fun t=>(g1 t).bind g2):=by
      rw[List.map_map];refine ks fun c _=>?_
      cases c with
      | cp=>rfl
      | v x=>rfl
      | J di k es=>
       simp only[Function.comp,eB.cB];grind
     rw[nv]
    grind
   | free=>
    grind
   | ro s=>
    grind
 | ptr id off=>simp[aC.cB]
 | _=>rfl
theorem bg.map_map(f g:aC->aC)(a:bg):(a.map f).map g=a.map (g ∘ f):=by cases a<;>simp[bg.map]
theorem aE.map_map(f g:aC->aC)(p:aE):(p.map f).map g=p.map (g ∘ f):=by
 cases p with
 | az a=>simp[aE.map,bg.map_map]
 | ek as=>simp only[aE.map,List.map_map];simp_all[congr,ks,bg.map_map]
theorem aD.map_map(f g:aC->aC)(s:aD):(s.map f).map g=s.map (g ∘ f):=by
 simp only[aD.map,List.map_map]
 congr 1
 ·grind[ks,aE.map_map]
 simp_all
theorem NC(r:fu):mK some r:=fun _ _=>rfl
theorem fu.r4{a b:Nat}(h:fu.has ((a,b)::r) s=false):(s<a\/b<=s)/\fu.has r s=false:=by
 grind[fu.has,gh,Bool.and_eq_false_iff,n']
variable{t:Nat}
theorem ajT:mK (fF t) [(t,t+10000)]:=by
 intro g ay;cases g with
 | free=>rfl
 | own s=>
  obtain⟨U,_⟩:=fu.r4 ay;simp only[fF];grind
 | ro s=>
  obtain⟨U,_⟩:=fu.r4 ay;simp only[fF];grind
theorem IE:∀{ms:gH},(fu.has (ms.map fun x=>(x.1,x.1+1)) s)=false->(ms.at s).isSome=false
 | [],_=>rfl
 | (i,p)::r,h=>by
  simp only[fu.has,lu,Am,gh,Bool.and_eq_false_iff,n']at h;simp only[gH.at];rw[bE (by omega)];exact IE (by simpa only[fu.has]using h.2)
theorem ajU{ms:gH}:mK (hk t ms) ((t,t+1)::ms.map fun x=>(x.1,x.1+1)):=by
 intro g ay;cases g with
 | free=>rfl
 | own s=>
  obtain⟨U,aa⟩:=fu.r4 ay;simp only[hk];rw[bE (by omega),IE aa];rfl
 | ro s=>
  obtain⟨U,aa⟩:=fu.r4 ay;simp only[hk];rw[bE (by omega),IE aa];rfl
theorem ND{dA:Option Nat}(h:fu.has (yh dA) s=false):dA≠some s:=by
 rintro rfl;grind[fu.has,yh]
theorem NE(t:Nat)(dA:Option Nat):mK (gS t dA) ((t,t+1)::yh dA):=by
 intro g ay;cases g with
 | free=>rfl
 | own s=>
  obtain⟨U,aa⟩:=fu.r4 ay;simp only[gS];rw[bE (by omega),bE (ND aa)]
 | ro s=>
  obtain⟨U,aa⟩:=fu.r4 ay;simp only[gS];rw[bE (by omega),bE (ND aa)]
theorem IF(t:Nat)(r:fu):mK (hk t []) ((t,t+1)::r):=by
 intro g ay;cases g with
 | free=>rfl
 | own s=>
  obtain⟨U,aa⟩:=fu.r4 ay;simp only[hk];rw[bE (by omega)];rfl
 | ro s=>
  obtain⟨U,aa⟩:=fu.r4 ay;simp only[hk];rw[bE (by omega)];rfl
variable{P:Program}{st:aD}{e:dc}{obs:List Prop}
theorem NF{d:Nat}{t:TypeId}{x y:Operand}{ans cf:List b'}(h:xh P st d t x y ans=some (e,g,cf,obs)):mK g e.l4/\e.dst=some d:=by
 unfold xh at h;split at h
 ·split at h
  ·split at h
   ·split at h
    ·split at h
     ·simp only[aT,bq]at h;obtain⟨rfl,rfl,_,_⟩:=h;simp_all[NE]
     cases h
    cases h
   ·split at h
    ·split at h
     ·simp only[aT,bq]at h;obtain⟨rfl,rfl,_,_⟩:=h;exact⟨fun t bZ=>by simp only[IF d _ t bZ,l8];exact NE d _ t bZ,rfl⟩
     cases h
    cases h
   cases h
  cases h
 cases h
theorem NG{o:Oper}{ans cf:List b'}(h:qA P st o ans=some (e,g,cf,obs)):
  mK g e.l4/\∃d,e.dst=some d/\mJ P st o ans=some (⟨(st.map (aC.cB g fun _=>true)).env.set d e.p,(st.map (aC.cB g fun _=>true)).boxes⟩,cf,obs):=by
 obtain⟨dst,op,type,pos,after,guard⟩:=o;have hid:∀st:aD,st.map (aC.cB some fun _=>true)=st:=by
  intro st;have:(aC.cB some fun _=>true)=_root_.id:=by
   funext l;cases l<;>simp[aC.cB,ajR]
  rw[this];simp only[aD.map];have U:aE.map _root_.id=_root_.id:=by
   funext p;cases p with
   | az a=>cases a<;>simp[aE.map,bg.map]
   | ek as=>
    simp only[aE.map,id]
    congr 1
    have:bg.map _root_.id=_root_.id:=by funext a;cases a<;>simp[bg.map]
    simp_all
  simp_all
 simp only[qA]at h;split at h
 ·rename_i d f args ts;split at h
  ·rename_i fn fD rs r U aa;split at h
   ·rename_i ap;simp only[aT,bq]at h;obtain⟨rfl,rfl,rfl,rfl⟩:=h;refine⟨ajT,d,rfl,?_⟩;simp only[mJ,nU,M4,ql,mY,Iz,U,aa,j5];rw[bU ap];rfl
   cases h
  cases h
 ·rename_i d t n parts;split at h
  ·rename_i k es ms aw;simp only[aT,bq]at h;obtain⟨rfl,rfl,rfl,rfl⟩:=h;refine⟨ajU,d,rfl,?_⟩;simp only[mJ,nU];exact ai1 aw ans
  cases h
 ·rename_i d x y t di;split at h
  ·rename_i x2;subst x2;refine⟨(NF h).1,d,(NF h).2,?_⟩;simp only[mJ,nU,gO,Sx.wW];unfold xh at h;split at h
   ·rename_i tB k he;simp only[he];split at h
    ·rename_i i hi;simp only[hi];split at h
     ·rename_i z gf cm es s bk au;split at h
      ·rename_i bL dA a2 cd aj;split at h
       ·rename_i ap;obtain⟨rfl,ap⟩:=ap;simp only[aT,bq]at h;obtain⟨rfl,rfl,rfl,rfl⟩:=h;simp only[AA,au,gO,bk,aj];rw[bU ap];rfl
       cases h
      cases h
     ·rename_i z _ bk au;split at h
      ·rename_i bL dA a2 cd aj;split at h
       ·rename_i ap;simp only[aT,bq]at h;obtain⟨rfl,rfl,rfl,rfl⟩:=h;have pJ:(st.h5 d []).bj y=(st.bj y).map (aC.cB (hk d []) fun _=>true):=ajS st _ (fun _=>rfl) rfl (fun _=>rfl) y;simp only[AA,au,bk,pJ,aj];rw[bU ap];have:(st.h5 d []).vn d dA=st.map (aC.cB (fun g=>(hk d [] g).bind (gS d dA)) fun _=>true):=by
         simp only[aD.h5,aD.vn,aD.map_map]
         congr 1
         funext l;refine aC.arm _ _ (fun g t h=>?_) l;cases g with
         | free=>grind[gS]
         | own s=>
          grind[gS]
         | ro s=>
          grind[gS]
        rw[this]
       cases h
      cases h
     cases h
    cases h
   cases h
  cases h
 ·cases h
 ·rename_i d ty;split at h
  ·rename_i i hi;split at h
   ·rename_i z bk;split at h
    ·rename_i aF;simp only[aT,bq]at h;obtain⟨rfl,rfl,rfl,rfl⟩:=h;refine⟨IF _ _,d,rfl,?_⟩;simp only[mJ,BG,hi,bk];rw[bU aF];rfl
    cases h
   cases h
  cases h
 ·rename_i d t l c;unfold Nf at h;split at h
  ·rename_i e hu;split at h
   ·rename_i i c6 gD b8 iH hi e1 e2;split at h
    ·rename_i z bk;split at h
     ·rename_i ap;simp only[aT,bq]at h;obtain⟨rfl,rfl,rfl,rfl⟩:=h;refine⟨IF _ _,d,rfl,?_⟩;simp only[mJ,nU,BU,hu,hi,e1,e2,bk];rw[bU ap];rfl
     cases h
    cases h
   cases h
  cases h
 ·rename_i d t x cP hi hP;split at h
  ·rename_i a6;unfold EA at h;split at h
   ·rename_i e k s cm es kR e1 e2;split at h
    ·rename_i ap;obtain⟨rfl,aj⟩:=ap;split at h
     ·rename_i l bH ch dP;simp only[aT,bq]at h;obtain⟨rfl,rfl,rfl,rfl⟩:=h;refine⟨ajP,d,rfl,?_⟩;simp_all[mJ,nU,gO,wX,mI,true_and]
     cases h
    cases h
   cases h
  rename_i a6;rw[b0]at h;obtain⟨⟨bF,bY,cg⟩,U,h⟩:=h;simp only[bq]at h;obtain⟨rfl,rfl,rfl,rfl⟩:=h;simp_all[NC,mJ,nU,bE]
 ·rename_i d je jy la kJ mC n6 tY;rw[b0]at h;obtain⟨⟨bF,bY,cg⟩,U,h⟩:=h;simp only[bq]at h;obtain⟨rfl,rfl,rfl,rfl⟩:=h;refine⟨NC _,d,rfl,?_⟩;rw[hid];have Ma:mJ P st ⟨some d,op,type,pos,after,guard⟩ ans=nU P st ⟨some d,op,type,pos,after,guard⟩ ans:=by
   simp_all[mJ]
  grind[nU,oU]
 ·rename_i ty s y;split at h
  ·rename_i gf vs v i e1 e2 ch;split at h
   ·rename_i ap;simp only[aT,bq]at h;obtain⟨rfl,rfl,rfl,rfl⟩:=h;refine⟨ajQ,s,rfl,?_⟩;simp only[mJ,BI,e1,e2,ch];grind
   cases h
  cases h
 cases h
theorem Rel.weaken{w0:dY}{bl:aD}{a:Act}{w:World}(h:Rel w0 st a w)(a7:bl.env.length=st.env.length)(aw:bl.boxes=st.boxes)
  (he:∀(i:Nat) (p:aE),bl.env[i]?=some p->p=.cp\/st.env[i]?=some p):Rel w0 bl a w:=by
 obtain⟨ω,τ,h⟩:=h;refine⟨ω,τ,h.defers,h.size.trans a7.symm,h.below,h.owned,h.fixed,h.pinned,fun i p hp=>?_,by rw[aw];exact h.boxes⟩;rcases he i p hp with rfl | aa
 ·have:i<a.tmps.size:=by
   rw[h.size,<-a7];grind
  exact⟨a.tmps[i],by simp[this],ad⟩
 exact h.env i p aa
def dc.fI(e:dc)(t:Nat):Option aE:=if e.dst=some t then some e.p else if t∈e.use then some .cp else none
def wh(env:List aE):List Nat->List aE
 | s::us=>wh (env.set s .cp) us
 | []=>env
theorem NH:∀(us:List Nat) (env:List aE) (t:Nat),(wh env us)[t]?=(env[t]?).map fun p=>if t∈us then .cp else p
 | [],env,t=>by simp[wh]
 | s::us,env,t=>by
  simp only[wh,NH us,l7,ep];grind
def dc.apply(e:dc)(env:List aE):List aE:=
 match e.dst with
 | some d=>(wh env e.use).set d e.p
 | none=>env
theorem dc.apply_get(aF:e.dst≠none)(env:List aE)(t:Nat):(e.apply env)[t]?=(env[t]?).map fun p=>(e.fI t).getD p:=by
 unfold dc.apply dc.fI;split
 ·rename_i d dX;have aj:∀(t:Nat),(wh env e.use)[t]?=(env[t]?).map fun p=>if t∈e.use then .cp else p:=NH e.use env
  grind
 grind
def gr(L:Nat->Bool)(t:Nat):Nat->List dc->aE->aE
 | _,[],acc=>acc
 | k,e::es,acc=>gr L t (k+1) es (if L k then (e.fI t).getD acc else acc)
variable{L:Nat->Bool}
theorem yO{L':Nat->Bool}:∀{es:List dc} {k:Nat} {acc:aE},(∀(j:Nat) (e:dc),es[j]?=some e->e.fI t≠none->L (k+j)=L' (k+j))->gr L t k es acc=gr L' t k es acc
 | [],_,_,_=>rfl
 | e::es,k,acc,h=>by
  simp only[gr];have bV:(if L k then (e.fI t).getD acc else acc)=(if L' k then (e.fI t).getD acc else acc):=by
   cases bZ:e.fI t with
   | none=>simp
   | some p=>have:=h 0 e rfl (by simp[bZ]);grind
  rw[bV];exact yO fun j e' bm bZ=>by have:=h (j+1) e' (by grind) bZ;grind
theorem NI{p:aE}:∀{es:List dc} {k i:Nat} {acc:aE} {e:dc},es[i]?=some e->e.fI t=some p->L (k+i)=true->
  (∀(j:Nat) (e':dc),i<j->es[j]?=some e'->e'.fI t≠none->L (k+j)=false)->gr L t k es acc=p
 | [],_,_,_,_,h,_,_,_=>by simp at h
 | bD::es,k,0,acc,e,h,bZ,cz,kh=>by
  simp at h;subst h;simp only[gr];rw[mX]at cz;rw[cz,bZ];simp only[gO,j5];have:∀(es:List dc) (k:Nat),(∀(j:Nat) (e':dc),es[j]?=some e'->e'.fI t≠none->L (k+j)=false)->gr L t k es p=p:=by
   intro es;induction es with
   | nil=>intro k _;rfl
   | cons e1 es d'=>
    intro k h;simp only[gr];have U:(if L k then (e1.fI t).getD p else p)=p:=by
     cases bZ:e1.fI t with
     | none=>simp
     | some q=>have:=h 0 e1 rfl (by simp[bZ]);grind
    rw[U];exact d' (k+1) fun j e' bm x1=>by have:=h (j+1) e' (by grind) x1;grind
  exact this es (k+1) fun j e' bm x1=>by have:=kh (j+1) e' (by omega) (by grind) x1;grind
 | bD::es,k,i+1,acc,e,h,bZ,cz,kh=>by
  simp only[gr];exact NI (i:=i) (by simpa using h) bZ (by rwa[show k+1+i=k+(i+1) by omega]) fun j e' bm xP x1=>by
   have:=kh (j+1) e' (by omega) (by simpa using xP) x1;rwa[show k+(j+1)=k+1+j by omega]at this
def eG(env0:List aE)(bs:List (Nat×List aC))(L:Nat->Bool)(es:List dc):aD:=⟨env0.zipIdx.map fun x=>gr L x.2 0 es x.1,bs⟩
variable{bs:List (Nat×List aC)}
theorem oX{env0:List aE}{es:List dc}(t:Nat):(eG env0 bs L es).env[t]?=(env0[t]?).map fun p=>gr L t 0 es p:=by
 simp only[eG,dk,List.getElem?_zipIdx,dL];grind
theorem wi{env0:List aE}{es:List dc}:(eG env0 bs L es).env.length=env0.length:=by simp[eG]
def IG(ops:Array Oper)(o:Oper):Option Nat:=o.guard.bind fun x=>(ops[x.1]?).bind (·.dst)
def reads(ops:Array Oper)(o:Oper):List Nat:=o.op.operands.toList.filterMap NB++(IG ops o).toList
def wv(d:Nat):dc:=⟨some d,.one (.v undef),[],[]⟩
def ext(e:dc)(env:List aE):dc:=
 if e.l4.isEmpty then e else { e with use:=e.use++(env.zipIdx.filterMap fun x=>if x.1.ed e.l4&&!(e.dst==some x.2) then some x.2 else none) }
theorem IH(e:dc)(env:List aE):∃u,ext e env={ e with use:=u }:=by
 unfold ext;split
 ·grind
 grind
structure hc where
 t:Nat
 i:Nat
 j:Nat
 k:Nat
 kT:Nat
 es:List (List D)
 esT:List (List D)
def Dj(t:Nat)(bs:List (Nat×List aC)):Option (Nat×List (List D)):=
 (bs.find? fun x=>(x.2.findSome? (rG t)).isSome).bind fun x=>(dh x.1 bs).bind fun ls=>ls.findSome? (rG t)
theorem ajV{w0:dY}{a:Act}{w:World}{ω:Own}{τ:Nat->Nat×Value}(h:cy w0 st a w ω τ){kT:Nat}{esT:List (List D)}(e:Dj t st.boxes=some (kT,esT)):∃v,Sat w ω τ (.J (.own t) kT esT) v:=by
 unfold Dj at e;rw[kW]at e;obtain⟨x,_,e⟩:=e;rw[kW]at e;obtain⟨ls,aw,e⟩:=e;obtain⟨l,au,e⟩:=List.exists_of_findSome?_eq_some e;obtain⟨b,arr,ty,_,_,_,aj⟩:=h.boxes _ ls aw;obtain⟨n,a7⟩:=pr.1 au;obtain⟨u,_,hu⟩:=aj.2 n l a7;exact⟨u,Ik e hu⟩
def qa(st:aD)(o:Oper):Option hc:=
 match o.dst,o.op with
 | some _,.call ⟨.builtin .append,⟨[x,_]⟩,⟨[_,_]⟩⟩=>
  match (st.bj x).leaf with
  | some (.aL s i j k es .here)=>
   match Dj s st.boxes with
   | some (kT,esT)=>some ⟨s,i,j,k,kT,es,esT⟩
   | none=>none
  | _=>none
 | _,_=>none
def s9(P:Program)(st:aD)(o:Oper)(ans:List b'):Option (dc×List b'×List Prop):=
 match qa st o,o.dst,o.op with
 | some v,some d,.call ⟨.builtin .append,⟨[_,y]⟩,⟨[t,di]⟩⟩=>
  if t=di then (r0 P t v.t v.i v.j v.k v.es v.esT (st.bj y) ans).map fun r=>(⟨some d,r.1,[],[]⟩,r.2.1,r.2.2) else none
 | _,_,_=>none
def hc.fix(v:hc):aC->Option (List Prop)
 | .J (.own s) dE du=>if s=v.t then (if dE=v.kT then some [du=v.esT] else none) else some []
 | .cU (.own s) dE du _ _=>if s=v.t then (if dE=v.kT then some [du=v.esT] else none) else some []
 | .J (.ro s) _ _=>if s=v.t then none else some []
 | .cU (.ro s) _ _ _ _=>if s=v.t then none else some []
 | .aL s a b dE du m=>if s=v.t/\b=v.j then (if dE=v.k/\m.home=true then some [a=v.i,du=v.es] else none) else some []
 | .eS _ _=>none
 | _=>some []
def hc.lx(v:hc)(l:aC):Prop:=gu v.t v.i v.j v.k v.es v.kT v.esT l=l/\∀a∈l.idx v.t v.j,a=v.i
theorem hc.Vi{v:hc}{l:aC}(h:v.fix l=some obs)(a6:cv obs):v.lx l:=by
 obtain⟨t,i,j,k,kT,es,esT⟩:=v;unfold hc.lx;simp only;cases l with
 | J g dE du=>
  refine⟨?_,fun a ai=>by grind[aC.idx]⟩;cases g with
  | free=>rfl
  | own s=>
   simp only[hc.fix]at h;split at h
   ·rename_i aj;subst aj;split at h
    ·rename_i bc;subst bc;cases h;have e:du=esT:=a6.1;grind[gu]
    cases h
   grind[gu]
  | ro s=>
   grind[hc.fix,gu]
 | cU g dE du x y=>
  refine⟨?_,fun a ai=>by grind[aC.idx]⟩;cases g with
  | free=>rfl
  | own s=>
   simp only[hc.fix]at h;split at h
   ·rename_i aj;subst aj;split at h
    ·rename_i bc;subst bc;cases h;have e:du=esT:=a6.1;grind[gu]
    cases h
   grind[gu]
  | ro s=>
   grind[hc.fix,gu]
 | aL s a b dE du m=>
  simp only[hc.fix]at h;split at h
  ·rename_i aj;obtain⟨rfl,rfl⟩:=aj;split at h
   ·rename_i bc;cases h;have e1:a=i:=a6.1;have e2:du=es:=a6.2.1;simp_all[gu,aC.idx]
   cases h
  simp_all[gu,bE,aC.idx]
 | eS t vs=>cases h
 | _=>exact⟨rfl,fun a ai=>by grind[aC.idx]⟩
def bg.sl:bg->List aC
 | .one l=>[l]
 | .agg ls=>ls
def aE.sl:aE->List aC
 | .az a=>a.sl
 | .ek as=>as.flatMap bg.sl
theorem bg.yf{p:aC->Prop}{a:bg}(h:∀l∈a.sl,p l):a.j9 p:=by
 cases a with
 | one l=>exact h l (by simp[bg.sl])
 | agg ls=>exact h
theorem aE.yf{p:aC->Prop}{q:aE}(h:∀l∈q.sl,p l):q.j9 p:=by
 cases q with
 | az a=>exact bg.yf h
 | ek as=>exact fun a ai=>bg.yf fun l au=>h l (mW.2 ⟨a,ai,au⟩)
def hc.fixes(v:hc):List aC->Option (List Prop)
 | []=>some []
 | l::r=>
  match v.fix l,hc.fixes v r with
  | some a,some b=>some (a++b)
  | _,_=>none
theorem hc.L5{v:hc}:∀{ls:List aC} {obs:List Prop},v.fixes ls=some obs->cv obs->∀l∈ls,v.lx l
 | [],_,_,_,l,au=>by cases au
 | fk::r,obs,h,a6,l,au=>by
  simp only[hc.fixes]at h;split at h
  ·rename_i a b U aa;cases h;obtain⟨cx,cd⟩:=a6.append;rcases ep.1 au with rfl | au
   ·grind[hc.Vi]
   exact hc.L5 aa cd l au
  cases h
def wV(bs:List (Nat×List aC))(all:Nat->List aC):Nat->List Oper->List aE->List dc->Option (List Prop)
 | i,o::os,env,e::es=>
  match qa ⟨env,bs⟩ o with
  | some v=>
   match v.fixes (all i),wV bs all (i+1) os (e.apply env) es with
   | some a,some b=>some (a++b)
   | _,_=>none
  | none=>wV bs all (i+1) os (e.apply env) es
 | _,_,_,_=>some []
theorem NJ{all:Nat->List aC}:∀{l:List Oper} {es:List dc} {env:List aE} {i0:Nat} {obs:List Prop},wV bs all i0 l env es=some obs->cv obs->
  ∀(i:Nat) (o:Oper),l[i]?=some o->i<es.length->∀v,qa ⟨(es.take i).foldl (fun env e=>e.apply env) env,bs⟩ o=some v->∀jx∈all (i0+i),v.lx jx
 | [],_,_,_,_,_,_,i,o,hi,_,_,_,_,_=>by simp at hi
 | _::_,[],_,_,_,_,_,i,o,_,au,_,_,_,_=>by simp at au
 | Bs::os,e::es,env,i0,obs,h,a6,i,o,hi,au,v,br,jx,Fw=>by
  simp only[wV]at h;cases i with
  | zero=>
   simp only[kV,aT]at hi;subst hi;simp only[List.take_zero,List.foldl_nil]at br;rw[br]at h;simp only at h;split at h
   ·rename_i a b U aa;cases h;exact hc.L5 U a6.append.1 jx Fw
   cases h
  | succ i=>
   have go:∀{b:List Prop},wV bs all (i0+1) os (e.apply env) es=some b->cv b->v.lx jx:=fun aa cd=>
    NJ aa cd i o (by grind) (by grind) v (by grind) jx (by grind)
   split at h
   ·split at h
    ·rename_i a b U aa;cases h;exact go aa a6.append.2
    cases h
   grind
def sF(P:Program)(ops:Array Oper)(gs:List Nat)(bs:List (Nat×List aC)):List Oper->List aE->List b'->Option (List dc×List aE×List b'×List Prop)
 | [],env,ans=>some ([],env,ans,[])
 | o::rest,env,ans=>
  match p' ops ⟨env,bs⟩ o [] with
  | some (true,_,_,_)=>
   match qA P ⟨env,bs⟩ o ans with
   | some (e,_,eQ,fm)=>
    match (match o.dst with | some d=>gs.contains d | none=>false),e.p.leaf,eQ with
    | true,some (.a1 c),.na b::r=>
     (sF P ops gs bs rest (dc.apply { ext e env with p:=.one (.v (.bool b)) } env) r).map fun x=>({ ext e env with p:=.one (.v (.bool b)) }::x.1,x.2.1,x.2.2.1,(c=b)::(fm++x.2.2.2))
    | _,_,_=>(sF P ops gs bs rest ((ext e env).apply env) eQ).map fun x=>(ext e env::x.1,x.2.1,x.2.2.1,fm++x.2.2.2)
   | none=>
    match s9 P ⟨env,bs⟩ o ans with
    | some (e,eQ,fm)=>(sF P ops gs bs rest (e.apply env) eQ).map fun x=>(e::x.1,x.2.1,x.2.2.1,fm++x.2.2.2)
    | none=>none
  | some (false,_,_,_)=>
   match o.dst with
   | some d=>(sF P ops gs bs rest ((wv d).apply env) ans).map fun x=>(wv d::x.1,x.2.1,x.2.2.1,x.2.2.2)
   | none=>none
  | none=>none
def Fact(P:Program)(ops:Array Oper)(bs:List (Nat×List aC))(env:List aE)(o:Oper)(e:dc):Prop:=
 (∃dx e3 cx,p' ops ⟨env,bs⟩ o []=some (false,dx,e3,cx)/\∃d,o.dst=some d/\e=wv d)\/
 (∃dx e3 cx,p' ops ⟨env,bs⟩ o []=some (true,dx,e3,cx)/\∃ans bD g cf obs,qA P ⟨env,bs⟩ o ans=some (bD,g,cf,obs)/\cv obs/\
  ∃u,(e={ bD with use:=u }\/∃c b,bD.p=.one (.a1 c)/\c=b/\e={ bD with use:=u,p:=.one (.v (.bool b)) }))\/
 (∃dx e3 cx,p' ops ⟨env,bs⟩ o []=some (true,dx,e3,cx)/\∃ans cf obs,s9 P ⟨env,bs⟩ o ans=some (e,cf,obs)/\cv obs)
theorem yP{ops:Array Oper}{gs:List Nat}:∀{l:List Oper} {env r6:List aE} {ans cf:List b'} {es:List dc} {obs:List Prop},
  sF P ops gs bs l env ans=some (es,r6,cf,obs)->cv obs->
  es.length=l.length/\r6=es.foldl (fun env e=>e.apply env) env/\∀(i:Nat) (o:Oper),l[i]?=some o->∃e,es[i]?=some e/\Fact P ops bs ((es.take i).foldl (fun env e=>e.apply env) env) o e
 | [],env,r6,ans,cf,es,obs,h,_=>by
  simp_all[sF,aT,bq]
 | o::rest,env,r6,ans,cf,es,obs,h,a6=>by
  have fin:∀(e:dc) (du:List dc) (EE:List aE),(du.length=rest.length/\EE=du.foldl (fun env e=>e.apply env) (e.apply env)/\∀(i:Nat) (o:Oper),rest[i]?=some o->∃e',du[i]?=some e'/\Fact P ops bs ((du.take i).foldl (fun env e=>e.apply env) (e.apply env)) o e')->
    Fact P ops bs env o e->(e::du).length=(o::rest).length/\EE=(e::du).foldl (fun env e=>e.apply env) env/\∀(i:Nat) (oN:Oper),(o::rest)[i]?=some oN->∃e',(e::du)[i]?=some e'/\Fact P ops bs (((e::du).take i).foldl (fun env e=>e.apply env) env) oN e':=by
   intro e du EE ⟨U,aa,aA⟩ b7;refine⟨by simp[U],aa,fun i oN kE=>?_⟩;cases i with
   | zero=>grind
   | succ i=>grind
  simp only[sF]at h;split at h
  ·rename_i dx e3 cx hw;split at h
   ·rename_i e g eQ fm aF;split at h
    ·rename_i c b r ay au;rw[b0]at h;obtain⟨⟨n4,j4,vh,te⟩,U,h⟩:=h;simp only[bq]at h;obtain⟨rfl,rfl,_,rfl⟩:=h;have Nk:(c=b)/\cv te:=⟨a6.1,(cv.append a6.2).2⟩
     have yj:=(cv.append a6.2).1;refine fin _ _ _ (yP U Nk.2) (.inr (.inl ⟨_,_,_,hw,_,_,_,_,_,aF,yj,(IH e env).choose,.inr ⟨c,b,?_,?_,?_⟩⟩))
     ·cases hp:e.p with
      | az a=>
       rw[hp]at au;cases a with
       | one l=>grind[aE.leaf,aT]
       | agg ls=>cases au
      | ek as=>rw[hp]at au;cases au
     ·exact Nk.1
     grind
    rw[b0]at h;obtain⟨⟨n4,j4,vh,te⟩,U,h⟩:=h;simp only[bq]at h;obtain⟨rfl,rfl,_,rfl⟩:=h;obtain⟨yj,cd⟩:=a6.append;exact fin _ _ _ (yP U cd) (.inr (.inl ⟨_,_,_,hw,_,_,_,_,_,aF,yj,(IH e env).choose,.inl (IH e env).choose_spec⟩))
   split at h
   ·rename_i e eQ fm FL;rw[b0]at h;obtain⟨⟨n4,j4,vh,te⟩,U,h⟩:=h;simp only[bq]at h;obtain⟨rfl,rfl,_,rfl⟩:=h;obtain⟨yj,cd⟩:=a6.append;exact fin _ _ _ (yP U cd) (.inr (.inr ⟨_,_,_,hw,_,_,_,FL,yj⟩))
   cases h
  ·rename_i dx e3 cx hw;split at h
   ·rename_i d aF;rw[b0]at h;obtain⟨⟨n4,j4,vh,te⟩,U,h⟩:=h;simp only[bq]at h;obtain⟨rfl,rfl,_,rfl⟩:=h;exact fin _ _ _ (yP U a6) (.inl ⟨_,_,_,hw,d,aF,rfl⟩)
   cases h
  cases h
end Go.Sx
namespace Go.Sx
open Go.RowKit
variable{st bl:aD}
theorem Pd{parts:List (Nat×Operand)}(h:∀x∈parts,st.bj x.2=bl.bj x.2):(parts.map fun x=>(x.1,st.bj x.2))=parts.map fun x=>(x.1,bl.bj x.2):=
 ks fun x ao=>by rw[h x ao]
variable{P:Program}{ans:List b'}
theorem Pe{op:Op}(aw:st.boxes=bl.boxes)(h:∀x∈op.operands.toList,st.bj x=bl.bj x):oU P st op ans=oU P bl op ans:=by
 cases op<;>simp only[oU,Op.operands,ep,List.mem_nil_iff,forall_eq_or_imp,or_false,forall_eq]at h ⊢
 case load t x=>grind[BL]
 case slice t x cP hi hP=>
  have ao:st.bj x=bl.bj x:=h x (by simp);have a6:∀o:Option Operand,(∀y,o=some y->st.bj y=bl.bj y)->kL st o=kL bl o:=by
   intro o a6;cases o with
   | none=>rfl
   | some y=>simp_all[kL]
  simp_all[BM]
 case build t ct=>
  have:(ct.toList.map fun x=>(x.1,st.bj x.2))=ct.toList.map fun x=>(x.1,bl.bj x.2):=Pd fun x ao=>h x.2 (by grind)
  grind[BN]
 case call c=>
  obtain⟨callee,args,ts⟩:=c;cases callee with
  | value f=>rfl
  | invoke r i=>rfl
  | builtin b=>
   simp only[Call.operands]at h;have qG:∀x∈args.toList,st.bj x=bl.bj x:=fun x ao=>h x (by grind)
   simp only;generalize args.toList=l at qG;unfold BQ;grind
 case makeFunc fn first captured=>
  have ap:captured.toList.map st.bj=captured.toList.map bl.bj:=ks fun x ao=>h x (by grind)
  simp only[BP,ap]
 all_goals simp[h]
variable{o:Oper}
theorem ajW(aw:st.boxes=bl.boxes)(h:∀x∈o.op.operands.toList,st.bj x=bl.bj x):qA P st o ans=qA P bl o ans:=by
 obtain⟨dst,op,type,pos,after,guard⟩:=o;simp only at h;cases dst with
 | none=>
  cases op with
  | store ty x y=>
   cases x with
   | tmp s=>
    simp_all[Op.operands,aD.bj,qA]
   | _=>rfl
  | _=>rfl
 | some d=>
  unfold qA;split
  ·rename_i f args ts e1 e2;simp only at e1 e2;subst e2;have qG:∀x∈args.toList,st.bj x=bl.bj x:=fun x ao=>h x (by grind[Op.operands,Call.operands])
   have:args.toList.mapM (fun x=>(st.bj x).iG st.boxes)=args.toList.mapM (fun x=>(bl.bj x).iG bl.boxes):=by
    rw[<-aw];generalize args.toList=l at qG;generalize st.boxes=bs;induction l with
    | nil=>rfl
    | cons x l d'=>grind
   rw[this]
  ·rename_i t n parts e1 e2;simp only at e1 e2;subst e2;have:(parts.toList.map fun x=>(x.1,st.bj x.2))=parts.toList.map fun x=>(x.1,bl.bj x.2):=Pd fun x ao=>h x.2 (by grind[Op.operands])
   grind[AF]
  ·rename_i x y t di e1 e2;simp only at e1 e2;subst e2;have ao:st.bj x=bl.bj x:=h x (by simp[Op.operands,Call.operands]);have bO:st.bj y=bl.bj y:=h y (by simp[Op.operands,Call.operands]);simp only[xh,ao,bO]
  ·rfl
  ·rfl
  ·grind[Op.operands]
  ·rename_i t x cP hi hP e1 e2;simp only at e1 e2;subst e2;have ao:st.bj x=bl.bj x:=h x (by simp[Op.operands]);have a6:∀o:Option Operand,(∀y,o=some y->st.bj y=bl.bj y)->kL st o=kL bl o:=by
    intro o a6;cases o with
    | none=>rfl
    | some y=>simp_all[kL]
   rw[Pe aw h];simp only[EA,ao];rw[a6 cP (fun y e=>h y (by simp[Op.operands,e])),a6 hi (fun y e=>h y (by simp[Op.operands,e]))]
  ·rw[Pe aw h]
  ·grind
  rfl
theorem L4{x:Operand}(h:∀t,NB x=some t->st.env.getD t .cp=bl.env.getD t .cp):st.bj x=bl.bj x:=by
 cases x with
 | tmp t=>simpa[aD.bj]using h t rfl
 | _=>rfl
def k1(ms:List Nat)(i j:Nat):Bool:=(ms.getD j 0).testBit i
def uQ(ms:List Nat):List Edge->Nat
 | []=>0
 | e::r=>if Region.binds .any e then (2 ^ e.on ||| ms.getD e.on 0) ||| uQ ms r else uQ ms r
def pV:List Oper->List Nat->List Nat
 | [],acc=>acc
 | o::r,acc=>pV r (acc++[uQ acc o.after.toList])
variable{ms:List Nat}{i:Nat}
theorem II:∀{l:List Edge},(uQ ms l).testBit i=true->∃e∈l,Region.binds .any e=true/\(i=e.on\/k1 ms i e.on=true)
 | [],h=>by grind[uQ]
 | e::r,h=>by
  simp only[uQ]at h;split at h
  ·rename_i aw;rw[Nat.testBit_or,Nat.testBit_or,pt,pt,Nat.testBit_two_pow,cW]at h;rcases h with (h | h) | h
   ·grind
   ·exact⟨e,by simp,aw,.inr h⟩
   obtain⟨e',U,aa⟩:=II h;exact⟨e',by simp[U],aa⟩
  obtain⟨e',U,aa⟩:=II h;exact⟨e',by simp[U],aa⟩
def py{α:Type}(f:Nat->α->Bool):Nat->List α->Bool
 | _,[]=>true
 | k,x::r=>f k x&&py f (k+1) r
theorem uR{α:Type}{f:Nat->α->Bool}:∀{l:List α} {k:Nat},py f k l=true->∀(i:Nat) (x:α),l[i]?=some x->f (k+i) x=true
 | [],_,_,i,x,h=>by simp at h
 | y::r,k,h,0,x,ao=>by
  simp_all[py,cJ]
 | y::r,k,h,i+1,x,ao=>by
  simp only[py,cJ]at h;have:=uR h.2 i x (by simpa using ao);rwa[show k+1+i=k+(i+1) by omega]at this
def qb(ms:List Nat)(os:List Oper):Bool:=
 py (fun j o=>ms.getD j 0==uQ ms o.after.toList&&o.after.toList.all fun e=>!Region.binds .any e||decide (e.on<j)) 0 os
variable{ops:Array Oper}
theorem HQ(h:qb ms ops.toList=true){j:Nat}(a6:ops[j]?=some o):(∀e∈o.after,Region.binds .any e=true->e.on<j)/\
  ∀i,k1 ms i j=true->∃e∈o.after,Region.binds .any e=true/\(i=e.on\/k1 ms i e.on=true):=by
 have:=uR h j o (by grind);simp only[dL,cJ,jl,fp,pt,hT,cW]at this;grind[k1,II]
def oY(ops:Array Oper)(listed:Array Bool):Prop:=
 ∀(j:Nat) (o:Oper),listed.getD j false=true->ops[j]?=some o->∀e∈o.after,Region.binds .any e=true->listed.getD e.on false=true
variable{listed:Array Bool}
theorem CG{j:Nat}(h:listed.getD j false=true):j<listed.size:=by
 grind
theorem CH(h:qb ms ops.toList=true)(ap:oY ops listed)(aj:listed.size=ops.size):∀(j:Nat),listed.getD j false=true->k1 ms i j=true->listed.getD i false=true:=by
 intro j;induction j using Nat.strongRecOn with
 | ind j d'=>
  intro bm ai;have bM:j<ops.size:=aj▸CG bm;have a6:ops[j]?=some ops[j]:=jI bM;obtain⟨U,aa⟩:=HQ h a6;obtain⟨e,he,aw,pI⟩:=aa i ai;have vH:=ap j _ bm a6 e he aw;grind
variable{k:Nat}
theorem yQ(h:qb ms ops.toList=true)(ap:oY ops listed)(aj:listed.size=ops.size)(hi:i∈Region.ready .any ops listed)(ai:k1 ms k i=true):listed.getD k false=true:=by
 rw[mem_ready]at hi;obtain⟨_,o,a6,he⟩:=hi;obtain⟨_,aa⟩:=HQ h a6;obtain⟨e,A3,aw,pI⟩:=aa k ai;rcases pI with rfl | pI
 ·grind
 grind[CH]
theorem oY.ready(ap:oY ops listed)(hi:i∈Region.ready .any ops listed):oY ops (listed.setIfInBounds i true):=by
 intro j o bm a6 e he aw;rw[mem_ready]at hi;obtain⟨_,atB,atf,ny⟩:=hi;by_cases nz:i=j
 ·grind[getD_set_true]
 rw[getD_set_ne false nz]at bm;exact getD_set_true (ap j o bm a6 e he aw)
theorem HR(h:qb ms ops.toList=true)(aj:listed.size=ops.size)(aI:Region.ready .any ops listed=[]):∀j,j<ops.size->listed.getD j false=true:=by
 intro j;induction j using Nat.strongRecOn with
 | ind j d'=>
  intro bM;have a6:ops[j]?=some ops[j]:=jI bM;obtain⟨U,_⟩:=HQ h a6;cases au:listed.getD j false with
  | true=>rfl
  | false=>
   have:j∈Region.ready .any ops listed:=by
    grind[mem_ready,Nat.lt_trans]
   grind
def yR(e:dc):List Nat:=e.dst.toList++e.use
def CI(ops:Array Oper)(o:Oper)(e:dc):List Nat:=yR e++reads ops o
def Bu(ms:List Nat)(i k:Nat):Bool:=if k<i then k1 ms k i else k1 ms i k
def HS(ops:Array Oper)(ms:List Nat)(es:List dc):Bool:=
 py (fun i x=>py (fun k e=>k==i||Bu ms i k||!((yR e).any fun t=>(CI ops x.1 x.2).contains t)) 0 es) 0 (ops.toList.zip es)
def ww(ms:List Nat)(es:List dc)(i cP:Nat)(s:Option Nat):Bool:=es.zipIdx.any fun y=>decide (cP<=y.2)&&k1 ms y.2 i&&(match s with | some t=>y.1.use.contains t | none=>false)
variable{es:List dc}
theorem Pf{cP:Nat}{s:Option Nat}(h:ww ms es i cP s=true):∃m y t,es[m]?=some y/\cP<=m/\k1 ms m i=true/\t∈y.use/\s=some t:=by
 unfold ww at h;grind
def HT(ms:List Nat)(es:List dc)(env0:List aE)(bs:List (Nat×List aC)):Bool:=
 py (fun i e=>e.l4.isEmpty||
  (py (fun j x=>j==i||k1 ms i j||!x.p.ed e.l4||(match x.dst with | some t=>e.use.contains t | none=>false)||x.dst==e.dst||ww ms es i (j+1) x.dst) 0 es&&
   py (fun t p=>!p.ed e.l4||e.use.contains t||ww ms es i 0 (some t)||e.dst==some t) 0 env0&&
   bs.all fun x=>!x.2.any (aC.ed e.l4))) 0 es
variable{e:dc}
theorem Pg{t:Nat}(h:e.fI t≠none):t∈yR e:=by
 unfold dc.fI at h;split at h
 ·grind[yR]
 simp_all[yR,absurd]
theorem Ph(h:HS ops ms es=true){k3 ED:dc}(a6:ops[i]?=some o)(hi:es[i]?=some k3)(bc:es[k]?=some ED)(c1:k≠i){t:Nat}
  (bZ:ED.fI t≠none) (a7:t∈CI ops o k3):Bu ms i k=true:=by
 have U:=uR h i (o,k3) (by
  grind)
 have aa:=uR U k ED bc;simp only[dL,pt,jl,hT]at aa;rcases aa with (aa | aa) | aa
 ·grind
 ·exact aa
 simp_all[hv,Pg,List.contains_iff_mem,absurd]
variable{r:fu}
theorem Tag.oL(h:r.isEmpty=true)(t:Tag):t.ed r=false:=by
 cases t with
 | free=>rfl
 | own s=>rw[List.isEmpty_iff]at h;subst h;rfl
 | ro s=>rw[List.isEmpty_iff]at h;subst h;rfl
theorem aC.oL(h:r.isEmpty=true)(l:aC):l.ed r=false:=by
 cases l with
 | aL t i j k es m=>exact Tag.oL h (.own t)
 | eS t vs=>
  simp only[aC.ed,gh];refine⟨Tag.oL h (.own t),hv.2 fun c _=>?_⟩;cases c with
  | cp=>simp[eB.ed]
  | v x=>simp[eB.ed]
  | J t k es=>simp[eB.ed,Tag.oL h]
 | _=>simp[aC.ed,Tag.oL h]
theorem bg.oL(h:r.isEmpty=true)(a:bg):a.ed r=false:=by
 cases a<;>simp[bg.ed,aC.oL h]
theorem aE.oL(h:r.isEmpty=true)(p:aE):p.ed r=false:=by
 cases p<;>simp[aE.ed,bg.oL h]
variable{bs:List (Nat×List aC)}
theorem ajX{env0:List aE}(h:HT ms es env0 bs=true)(hi:es[i]?=some e):
  (∀(j:Nat) (x:dc),es[j]?=some x->j≠i->k1 ms i j=true\/x.p.ed e.l4=false\/(∃t,x.dst=some t/\t∈e.use)\/x.dst=e.dst\/ww ms es i (j+1) x.dst=true)/\
  (∀(t:Nat) (p:aE),env0[t]?=some p->((p.ed e.l4=false\/t∈e.use)\/ww ms es i 0 (some t)=true)\/e.dst=some t)/\∀x∈bs,x.2.any (aC.ed e.l4)=false:=by
 have U:=uR h i e hi;simp only[pt,cW]at U;rcases U with U | U
 ·grind[aE.oL,hv,aC.oL]
 simp only[cJ]at U;obtain⟨⟨U,aa⟩,aA⟩:=U;refine⟨fun j x ao c1=>?_,fun t p hp=>?_,fun x ao=>?_⟩
 ·have:=uR U j x ao;grind
 ·have:=uR aa t p hp;grind
 grind
theorem HU{L:Nat->Bool}{t:Nat}:∀{es:List dc} {k:Nat} {acc:aE},(gr L t k es acc=acc/\∀(m:Nat) (y:dc),es[m]?=some y->L (k+m)=true->y.fI t=none)\/gr L t k es acc=.cp\/
  ∃j e,es[j]?=some e/\L (k+j)=true/\e.dst=some t/\gr L t k es acc=e.p/\∀(m:Nat) (y:dc),es[m]?=some y->j<m->L (k+m)=true->y.fI t=none
 | [],_,_=>.inl ⟨rfl,fun m y h=>by simp at h⟩
 | e::es,k,acc=>by
  simp only[gr];rcases HU (L:=L) (t:=t) (es:=es) (k:=k+1) (acc:=if L k then (e.fI t).getD acc else acc) with⟨h,a7⟩ | h | ⟨j,e',U,aa,aA,aO,a8⟩
  ·have tail:∀(m:Nat) (y:dc),(e::es)[m+1]?=some y->L (k+(m+1))=true->y.fI t=none:=fun m y bO au=>a7 m y (by grind) (by grind)
   by_cases cz:L k=true
   ·rw[bU cz]at h ⊢;unfold dc.fI at h ⊢;by_cases aF:e.dst=some t
    ·rw[bU aF]at h ⊢;refine .inr (.inr ⟨0,e,rfl,cz,aF,h,fun m y bO hm au=>?_⟩);cases m with
     | zero=>omega
     | succ m=>exact tail m y bO au
    rw[bE aF]at h ⊢;by_cases hu:t∈e.use
    ·grind
    rw[bE hu]at h ⊢;refine .inl ⟨h,fun m y bO au=>?_⟩;cases m with
    | zero=>
     grind
    | succ m=>exact tail m y bO au
   grind
  ·grind
  refine .inr (.inr ⟨j+1,e',by grind,by grind,aA,aO,fun m y bO hm au=>?_⟩);grind
theorem Pj{t:Nat}:∀{es:List dc} {k i:Nat} {acc:aE} {e:dc},es[i]?=some e->
  gr (fun j=>decide (j<k+i+1)) t k es acc=(e.fI t).getD (gr (fun j=>decide (j<k+i)) t k es acc)
 | [],_,_,_,_,h=>by simp at h
 | bD::es,k,0,acc,e,h=>by
  simp at h;subst h;have kh:∀(es:List dc) (k m:Nat) (acc:aE),m<=k->gr (fun j=>decide (j<m)) t k es acc=acc:=by
   intro es;induction es with
   | nil=>intro k m acc _;rfl
   | cons e1 es d'=>
    intro k m acc hm;simp only[gr];rw[bE (by grind)];exact d' (k+1) m acc (by omega)
  simp_all[gr,bU,bE]
 | bD::es,k,i+1,acc,e,h=>by
  simp only[gr];rw[bU (by simp;omega),bU (by simp)];have:=Pj (t:=t) (es:=es) (k:=k+1) (i:=i) (acc:=(bD.fI t).getD acc) (by simpa using h);rw[show k+1+i+1=k+(i+1)+1 by omega,show k+1+i=k+(i+1) by omega]at this;exact this
theorem CJ{env0:List aE}{bs:List (Nat×List aC)}(aF:∀(i:Nat) (e:dc),es[i]?=some e->e.dst≠none):∀(i:Nat),i<=es.length->
  (es.take i).foldl (fun env e=>e.apply env) env0=(eG env0 bs (fun j=>decide (j<i)) es).env
 | 0,_=>by
  apply List.ext_getElem?;intro t;rw[oX];have kh:∀(es:List dc) (k:Nat) (acc:aE),gr (fun j=>decide (j<0)) t k es acc=acc:=by
   intro es;induction es with
   | nil=>intro k acc;rfl
   | cons e1 es d'=>simp_all[gr,bE]
  grind
 | i+1,hi=>by
  have bM:i<es.length:=by omega
  have he:es[i]?=some es[i]:=ih bM;have d':=CJ (env0:=env0) (bs:=bs) aF i (by omega);rw[rS,he,Ao,List.foldl_append,d'];simp only[List.foldl_cons,List.foldl_nil];apply List.ext_getElem?;intro t;rw[dc.apply_get (aF i _ he),oX,oX];cases h:env0[t]? with
  | none=>rfl
  | some p=>
   have:=Pj (t:=t) (es:=es) (k:=0) (i:=i) (acc:=p) he;grind
theorem HV{bl:aD}{dx:aD}{e3:List b'}{cx:List Prop}{b:Bool}(h:p' ops st o []=some (b,dx,e3,cx))(aj:∀t∈reads ops o,st.env.getD t .cp=bl.env.getD t .cp):
  p' ops bl o []=some (b,bl,[],[]):=by
 unfold p' at h ⊢;cases ay:o.guard with
 | none=>grind
 | some g=>
  obtain⟨j,want⟩:=g;rw[ay]at h;simp only at h ⊢;cases aF:(ops[j]?).bind (·.dst) with
  | none=>grind
  | some s=>
   grind[reads,IG,aT,bq]
variable{cf:List b'}{obs:List Prop}
theorem Pk(h:s9 P st o ans=some (e,cf,obs)):
  ∃(v:hc) (d:Nat) (x y:Operand) (t:TypeId),qa st o=some v/\o.dst=some d/\o.op=.call ⟨.builtin .append,⟨[x,y]⟩,⟨[t,t]⟩⟩/\r0 P t v.t v.i v.j v.k v.es v.esT (st.bj y) ans=some (e.p,cf,obs)/\
   e=⟨some d,e.p,[],[]⟩/\(st.bj x).leaf=some (.aL v.t v.i v.j v.k v.es .here)/\Dj v.t st.boxes=some (v.kT,v.esT):=by
 obtain⟨dst,op,type,pos,after,guard⟩:=o;unfold s9 at h;split at h
 ·rename_i v d fV y t di hi aF qT;simp only at aF qT;subst aF;subst qT;split at h
  ·rename_i x2;subst x2;rw[b0]at h;obtain⟨⟨bF,bY,cg⟩,U,h⟩:=h;simp only[bq]at h;obtain⟨rfl,rfl,rfl⟩:=h;have lM:=hi;simp only[qa]at lM;grind
  cases h
 cases h
theorem Pl{st bl:aD}(aw:st.boxes=bl.boxes)(h:∀x∈o.op.operands.toList,st.bj x=bl.bj x):qa st o=qa bl o:=by
 obtain⟨dst,op,type,pos,after,guard⟩:=o;simp only at h;unfold qa;simp only;split
 ·grind[Op.operands,Call.operands]
 rfl
theorem ajY(aw:st.boxes=bl.boxes)(h:∀x∈o.op.operands.toList,st.bj x=bl.bj x):s9 P st o ans=s9 P bl o ans:=by
 unfold s9;rw[Pl aw h];split
 ·grind[Op.operands,Call.operands]
 rfl
theorem ajZ{v:hc}{q:aE}(h:q.j9 v.lx):∀a∈q.idx v.t v.j,a=v.i:=by
 have one:∀{a:bg},a.j9 v.lx->∀x∈a.idx v.t v.j,x=v.i:=by
  intro a ai x ao;cases a with
  | one l=>exact ai.2 x ao
  | agg ls=>
   obtain⟨l,au,ao⟩:=mW.1 ao;exact (ai l au).2 x ao
 intro x ao;cases q with
 | az a=>exact one h x ao
 | ek as=>
  obtain⟨a,ai,ao⟩:=mW.1 ao;exact one (h a ai) x ao
theorem aj0{v:hc}{q:aE}(h:q.j9 v.lx):q.map (gu v.t v.i v.j v.k v.es v.kT v.esT)=q:=by
 have ls:∀{ls:List aC},(∀l∈ls,v.lx l)->ls.map (gu v.t v.i v.j v.k v.es v.kT v.esT)=ls:=by
  intro ls au
  conv=>rhs;rw[<-pu ls]
  exact ks fun l hm=>(au l hm).1
 have one:∀{a:bg},a.j9 v.lx->a.map (gu v.t v.i v.j v.k v.es v.kT v.esT)=a:=by
  intro a ai;cases a with
  | one l=>simp only[bg.map];rw[ai.1]
  | agg l=>simp only[bg.map];rw[ls ai]
 cases q with
 | az a=>simp only[aE.map];rw[one h]
 | ek as=>
  simp only[aE.map]
  congr 1
  conv=>rhs;rw[<-pu as]
  exact ks fun a hm=>one (h a hm)
theorem Fact.dst{env:List aE}(h:Fact P ops bs env o e):e.dst≠none:=by
 rcases h with⟨_,_,_,_,d,aF,rfl⟩ | ⟨_,_,_,_,ans,bD,g,cf,obs,U,_,aa⟩ | ⟨_,_,_,_,ans,cf,obs,U,_⟩
 rotate_left 2
 ·grind[Pk]
 ·simp[wv]
 obtain⟨_,d,aO,_⟩:=NG U;grind
variable{w0:dY}{a:Act}{w:World}
theorem Rel.bool{env:List aE}{d:Nat}{c:Bool}(h:Rel w0 ⟨env.set d (.one (.a1 c)),bs⟩ a w):Rel w0 ⟨env.set d (.one (.v (.bool c))),bs⟩ a w:=by
 obtain⟨ω,τ,h⟩:=h;refine⟨ω,τ,h.defers,by have:=h.size;grind,h.below,h.owned,h.fixed,h.pinned,fun i p hp=>?_,h.boxes⟩;by_cases hi:d=i
 ·subst hi;rw[l7]at hp;split at hp
  ·split at hp
   ·rename_i au;simp only[aT]at hp;subst hp;obtain⟨v,U,aa⟩:=h.env d (.one (.a1 c)) (by simp[au]);exact⟨v,U,aa⟩
   cases hp
  grind
 exact h.env i p (by grind)
section
variable {P : Program} {ops : Array Oper} {bs : List (Nat × List aC)} {env0 : List aE} {es : List dc} {ms : List Nat}
def eM(listed:Array Bool)(j:Nat):Bool:=listed.getD j false
structure oa (P:Program) (ops:Array Oper) (bs:List (Nat×List aC)) (env0:List aE) (es:List dc) (ms:List Nat):Prop where
 len:es.length<=ops.size
 facts:∀(i:Nat) (o:Oper),i<es.length->ops[i]?=some o->∃e,es[i]?=some e/\Fact P ops bs (eG env0 bs (fun j=>decide (j<i)) es).env o e
 masks:qb ms ops.toList=true
 aL:∀(i:Nat) (o:Oper) (v:hc),i<es.length->ops[i]?=some o->qa ⟨(eG env0 bs (fun j=>decide (j<i)) es).env,bs⟩ o=some v->
  (∀q∈env0,q.j9 v.lx)/\(∀(j:Nat) (x:dc),es[j]?=some x->j≠i->x.p.j9 v.lx)/\∀x∈bs,∀l∈x.2,v.lx l
 ord:HS ops ms es=true
 tok:HT ms es env0 bs=true
variable{listed:Array Bool}{i:Nat}{e:dc}
theorem oa.same(h:oa P ops bs env0 es ms)(ap:oY ops listed)(aj:listed.size=ops.size)(hi:i∈Region.ready .any ops listed){o:Oper}(a6:ops[i]?=some o)(he:es[i]?=some e)
  {t:Nat} (bZ:t∈CI ops o e):(eG env0 bs (eM listed) es).env.getD t .cp=(eG env0 bs (fun j=>decide (j<i)) es).env.getD t .cp:=by
 rw[jJ,jJ,oX,oX];have kG:listed.getD i false=false:=by
  have bV:=(mem_ready.1 hi).1;grind
 cases asS:env0[t]? with
 | none=>rfl
 | some p=>
  simp only[rP,j5];refine yO fun j vu bm Bi=>?_
  rw[dL];by_cases qR:j=i
  ·grind[eM]
  have:=Ph h.ord a6 he bm qR Bi bZ;unfold Bu at this;split at this
  ·rename_i bM;have:=yQ h.masks ap aj hi this;grind[eM]
  rename_i bM;cases Fx:listed.getD j false with
  | false=>grind[eM]
  | true=>have:=CH h.masks ap aj j Fx this;grind
theorem HW(bM:i<listed.size)(j:Nat):eM (listed.setIfInBounds i true) j=(if j=i then true else eM listed j):=by
 unfold eM;split
 ·simp_all
 simp_all[getD_set_ne,false,Ne.symm]
theorem oa.fa(h:oa P ops bs env0 es ms)(bM:i<listed.size)(he:es[i]?=some e){t:Nat}(bZ:e.fI t=none)(p:aE):
  gr (eM (listed.setIfInBounds i true)) t 0 es p=gr (eM listed) t 0 es p:=by
 refine yO fun j vu bm Bi=>?_
 rw[dL,HW bM,bE];grind
theorem oa.last(h:oa P ops bs env0 es ms)(ap:oY ops listed)(aj:listed.size=ops.size)(hi:i∈Region.ready .any ops listed){o:Oper}(a6:ops[i]?=some o)(he:es[i]?=some e)
  {t:Nat} {q:aE} (bZ:e.fI t=some q) (p:aE):gr (eM (listed.setIfInBounds i true)) t 0 es p=q:=by
 have bM:i<listed.size:=aj▸(iV.1 a6).1;have kG:listed.getD i false=false:=by
  have bV:=(mem_ready.1 hi).1;grind
 refine NI he bZ (by rw[dL,HW bM,bU rfl]) fun j vu bm V' Bi=>?_
 rw[dL,HW bM,bE (by omega)];have:=Ph h.ord a6 he V' (by omega) Bi (t:=t) (by
  grind[CI,hG,Pg])
 unfold Bu at this;rw[bE (by omega)]at this;cases Fx:eM listed j with
 | false=>rfl
 | true=>have:=CH h.masks ap aj j Fx this;grind
theorem oa.step(h:oa P ops bs env0 es ms)(ap:oY ops listed)(aj:listed.size=ops.size)(hi:i∈Region.ready .any ops listed)(ny:i<es.length){w0:dY}{w:World}{a:Act}
  (aI:Rel w0 (eG env0 bs (eM listed) es) a w) {Q:Exit->Act->World->Prop} {K:Act->World->Prop} (ii:∀cC aP,Rel w0 (eG env0 bs (eM (listed.setIfInBounds i true)) es) cC aP->K cC aP):wpOp P ops Q i K a w:=by
 obtain⟨bV,o,a6,asQ⟩:=mem_ready.1 hi;obtain⟨e,he,b7⟩:=h.facts i o ny a6;have bM:i<listed.size:=aj▸(iV.1 a6).1;have WC:=fun t bZ=>h.same ap aj hi a6 he (t:=t) bZ
 have xX:∀t∈reads ops o,(eG env0 bs (fun j=>decide (j<i)) es).env.getD t .cp=(eG env0 bs (eM listed) es).env.getD t .cp:=fun t bZ=>(WC t (ig _ bZ)).symm
 unfold wpOp;rw[a6];simp only;rcases b7 with⟨dx,e3,cx,hw,d,aF,rfl⟩ | ⟨dx,e3,cx,hw,ans,bD,g,cf,obs,er,FE,Fh⟩ | ⟨dx,e3,cx,hw,ans,cf,obs,FL,FE⟩
 rotate_left 2
 ·have x5:=HV hw (bl:=eG env0 bs (eM listed) es) xX;obtain⟨pO,_⟩:=uO x5 trivial aI;rw[bU pO];left;have Mo:∀x∈o.op.operands.toList,(eG env0 bs (eM listed) es).bj x=aD.bj ⟨(eG env0 bs (fun j=>decide (j<i)) es).env,bs⟩ x:=fun x ao=>L4 fun t bZ=>(xX t (by
   grind[reads,hG])).symm
  have E':s9 P (eG env0 bs (eM listed) es) o ans=some (e,cf,obs):=by
   rw[<-FL];exact ajY rfl Mo
  obtain⟨v,d,x,y,t,V5,aF,qT,sa,pI,ao,mu⟩:=Pk E';have V6:qa ⟨(eG env0 bs (fun j=>decide (j<i)) es).env,bs⟩ o=some v:=by
   rw[<-V5];exact (Pl (st:=eG env0 bs (eM listed) es) (bl:=⟨(eG env0 bs (fun j=>decide (j<i)) es).env,bs⟩) rfl Mo).symm
  obtain⟨asT,VP,Mp⟩:=h.aL i o v ny a6 V6;have kG:listed.getD i false=false:=by
   grind
  have se:∀q∈(eG env0 bs (eM listed) es).env,q.j9 v.lx:=by
   intro q aM;simp only[eG]at aM;rw[kX]at aM;obtain⟨⟨ki,n⟩,hm,rfl⟩:=aM;have mr:ki∈env0:=by
    grind
   simp only;rcases HU (L:=eM listed) (t:=n) (es:=es) (k:=0) (acc:=ki) with⟨U,_⟩ | U | ⟨j,vu,U,aa,_,aO,_⟩
   ·grind
   ·rw[U];exact⟨rfl,fun a ai=>by grind[aC.idx]⟩
   rw[aO];refine VP j vu U ?_;rintro rfl;rw[dL]at aa;grind[eM]
  have Wi:(eG env0 bs (eM listed) es).map (gu v.t v.i v.j v.k v.es v.kT v.esT)=eG env0 bs (eM listed) es:=by
   have e1:(eG env0 bs (eM listed) es).env.map (aE.map (gu v.t v.i v.j v.k v.es v.kT v.esT))=(eG env0 bs (eM listed) es).env:=by
    conv=>rhs;rw[<-pu (eG env0 bs (eM listed) es).env]
    grind[ks,aj0]
   have e2:bs.map (fun x=>(x.1,x.2.map (gu v.t v.i v.j v.k v.es v.kT v.esT)))=bs:=by
    conv=>rhs;rw[<-pu bs]
    refine ks fun x ao=>?_
    obtain⟨n4,j4⟩:=x;simp only[id]
    congr 1
    conv=>rhs;rw[<-pu j4]
    exact ks fun l au=>(Mp _ ao l au).1
   unfold aD.map;rw[e1];show aD.mk _ (bs.map _)=_;rw[e2];rfl
  have nx:∀a∈(eG env0 bs (eM listed) es).idx v.t v.j,a=v.i:=by
   intro cC ai;unfold aD.idx at ai;rcases lv.1 ai with ai | ai
   ·grind[ajZ]
   obtain⟨z,bk,ai⟩:=mW.1 ai;obtain⟨l,au,ai⟩:=mW.1 ai;exact (Mp z bk l au).2 cC ai
  obtain⟨ω,τ,gB⟩:=aI;obtain⟨z,aP,U,aa⟩:=gB.r0 (P:=P) (d:=d) (ty:=o.type) (kT:=v.kT) (x:=x) (y:=y) (aE.dt ao (gB.bj x)) sa FE (ajV gB mu) nx;rw[Wi]at aa;obtain⟨dst,op,type,pos,after,guard⟩:=o;simp only at aF qT;subst aF;subst qT;refine Calls.of (z:=z) (aP:=aP) ?_ (ii _ _ ?_)
  ·have:(execOp a.eval ⟨some d,.call ⟨.builtin .append,⟨[x,y]⟩,⟨[t,t]⟩⟩,type,pos,after,guard⟩)=(builtin .append ⟨[t,t]⟩ type (Array.map (fun | .const _=>true | _=>false) ⟨[x,y]⟩) (Array.map a.eval ⟨[x,y]⟩)):=by
    simp only[execOp,resolve];rfl
   rw[this];exact hS (by grind)
  refine aa.weaken (by simp[wi]) rfl ?_;intro n p hp;right;rw[oX,b0]at hp;obtain⟨ki,mr,rfl⟩:=hp;rw[l7];have Fg:e.dst=some d:=by rw[pI]
  have tS:e.use=[]:=by rw[pI]
  by_cases sc:d=n
  ·subst sc;have:d<env0.length:=(fA.1 mr).1;rw[bU rfl,bU (by grind[wi]),h.last ap aj hi a6 he (q:=e.p) (by grind[dc.fI])]
  rw[bE sc,oX,mr,rP,h.fa bM he (by grind[dc.fI])]
 ·have x5:=HV hw (bl:=eG env0 bs (eM listed) es) xX;obtain⟨pO,_⟩:=uO x5 trivial aI;rw[bE (by grind)];refine ii _ _ ((IB aI).weaken ?_ ?_ ?_)
  ·simp[wi,yN,aF]
  ·simp[eG,yN,aF]
  intro t p hp;rw[oX,b0]at hp;obtain⟨ki,mr,rfl⟩:=hp;right;simp only[yN,aF];rw[l7];by_cases sc:d=t
  ·subst sc;have:d<env0.length:=(fA.1 mr).1;rw[bU rfl,bU (by grind[wi]),h.last ap aj hi a6 he (q:=.one (.v undef)) (by simp[dc.fI,wv])]
  rw[bE sc,oX,mr,rP,h.fa bM he (by grind[dc.fI,wv])]
 have x5:=HV hw (bl:=eG env0 bs (eM listed) es) xX;obtain⟨pO,_⟩:=uO x5 trivial aI;rw[bU pO];left;have E':qA P (eG env0 bs (eM listed) es) o ans=some (bD,g,cf,obs):=by
  rw[<-er];refine ajW rfl fun x ao=>L4 fun t bZ=>(xX t ?_).symm
  grind[reads,hG]
 obtain⟨ay,d,Fe,qT⟩:=NG E';obtain⟨u,Fh⟩:=Fh;have vO:e.l4=bD.l4/\e.dst=bD.dst:=by
  grind
 obtain⟨vO,VM⟩:=vO;rw[<-vO]at ay;obtain⟨WJ,WK,atj⟩:=ajX h.tok he;have Vz:((eG env0 bs (eM listed) es).map (aC.cB g fun _=>true)).boxes=bs:=by
  simp only[aD.map,eG]
  conv=>rhs;rw[<-pu bs]
  grind[ks,id,NA]
 refine ajN qT FE aI fun cC aP eh=>ii _ _ ?_
 rw[Vz]at eh;have lO:Rel w0 ⟨((eG env0 bs (eM listed) es).map (aC.cB g fun _=>true)).env.set d e.p,bs⟩ cC aP:=by
  rcases Fh with rfl | ⟨c,b,hp,h0,rfl⟩
  ·exact eh
  rw[hp]at eh;subst h0;exact eh.bool
 refine lO.weaken (by simp[wi,aD.map]) rfl ?_;intro t p hp;rw[oX,b0]at hp;obtain⟨ki,mr,rfl⟩:=hp;rw[l7];have Fg:e.dst=some d:=VM.trans Fe;by_cases sc:d=t
 ·subst sc;right;have:d<env0.length:=(fA.1 mr).1;rw[bU rfl,bU (by grind[aD.map,wi]),h.last ap aj hi a6 he (q:=e.p) (by grind[dc.fI])]
 rw[bE sc];by_cases atl:t∈e.use
 ·left;exact h.last ap aj hi a6 he (by grind[dc.fI]) ki
 have Fs:=h.fa bM he (t:=t) (by grind[dc.fI]) ki;rw[Fs];have ata:gr (eM listed) t 0 es ki=.cp\/(gr (eM listed) t 0 es ki).ed e.l4=false:=by
  rcases HU (L:=eM listed) (t:=t) (es:=es) (k:=0) (acc:=ki) with⟨U,kh⟩ | U | ⟨j,vu,U,aa,aA,aO,kh⟩
  ·right;rw[U];rcases WK t ki mr with (a8 | a8) | a8
   rotate_left 2
   ·grind
   ·grind
   obtain⟨m,y,di,hm,_,ai,hu,bZ⟩:=Pf a8;cases bZ;have:=kh m y hm (by rw[dL];exact yQ h.masks ap aj hi ai);unfold dc.fI at this;grind
  ·exact .inl U
  right;rw[aO];rw[dL]at aa;have kG:listed.getD i false=false:=by
   grind
  have qR:j≠i:=by grind
  rcases WJ j vu U qR with a8 | a8 | a8 | a8 | a8
  rotate_left 3
  ·grind
  ·obtain⟨m,y,di,hm,My,ai,hu,bZ⟩:=Pf a8;rw[aA]at bZ;cases bZ;have:=kh m y hm (by omega) (by rw[dL];exact yQ h.masks ap aj hi ai);unfold dc.fI at this;grind
  ·have:=CH h.masks ap aj j aa a8;grind
  ·exact a8
  grind
 grind[aD.map,oX,aE.u4]
def HX(ops:Array Oper)(ms:List Nat)(k:Nat):Prop:=∀i,k<=i->i<ops.size->∀j,j<i->k1 ms j i=true
theorem oa.any(h:oa P ops bs env0 es ms)(aw:HX ops ms es.length){w0:dY}{Q:Exit->Act->World->Prop}
  (hW:∀(gl:Nat) {listed:Array Bool},oY ops listed->listed.size=ops.size->(∀j,j<es.length->listed.getD j false=true)->(∀j,es.length<=j->listed.getD j false=false)->listed.count false<=gl->
   ∀{a:Act} {w:World},Rel w0 (eG env0 bs (fun j=>decide (j<es.length)) es) a w->wpAny P .any ops Q gl listed a w):
  ∀(gl:Nat) {listed:Array Bool},oY ops listed->listed.size=ops.size->(∀j,es.length<=j->listed.getD j false=false)->listed.count false<=gl->
  ∀{a:Act} {w:World},Rel w0 (eG env0 bs (eM listed) es) a w->wpAny P .any ops Q gl listed a w:=by
 intro gl;induction gl with
 | zero=>
  intro listed ap aj kG qO a w aI;by_cases gV:∀j,j<es.length->listed.getD j false=true
  ·refine hW 0 ap aj gV kG qO ?_;have:eG env0 bs (eM listed) es=eG env0 bs (fun j=>decide (j<es.length)) es:=by
    unfold eG
    congr 1
    refine ks fun x _=>?_
    refine yO fun j e bm _=>?_
    have bM:j<es.length:=(fA.1 bm).1;simp_all[dL,eM,decide_true]
   grind
  exfalso;apply gV;intro j bm;have bM:j<listed.size:=aj▸w' bm h.len;cases b7:listed[j] with
  | true=>simp[jI bM,b7]
  | false=>
   have:0<listed.count false:=by
    grind[Array.count_pos_iff,Array.getElem_mem]
   omega
 | succ gl d'=>
  intro listed ap aj kG qO a w aI;by_cases gV:∀j,j<es.length->listed.getD j false=true
  ·refine hW _ ap aj gV kG qO ?_;have:eG env0 bs (eM listed) es=eG env0 bs (fun j=>decide (j<es.length)) es:=by
    unfold eG
    congr 1
    refine ks fun x _=>?_
    refine yO fun j e bm _=>?_
    have bM:j<es.length:=(fA.1 bm).1;simp_all[dL,eM,decide_true]
   grind
  refine⟨fun vM=>absurd (fun j bm=>HR h.masks aj vM j (w' bm h.len)) gV,fun i hi=>?_⟩;have ny:i<es.length:=by
   rcases qn i es.length with U | U
   ·exact U
   exfalso;obtain⟨_,o,a6,_⟩:=mem_ready.1 hi;have bM:i<ops.size:=(iV.1 a6).1;exact gV fun j bm=>yQ h.masks ap aj hi (aw i U bM j (w' bm U))
  refine h.step ap aj hi ny aI fun cC aP eh=>d' (ap.ready hi) (by grind) (fun j bm=>?_) ?_ eh
  ·rw[getD_set_ne false (by omega)];grind
  obtain⟨U,o,a6,_⟩:=mem_ready.1 hi;have bM:i<listed.size:=aj▸(iV.1 a6).1;have b7:listed[i]=false:=by simpa[jI bM]using U
  grind
end
def wx(P:Program)(ops:Array Oper):List Oper->aD->List b'->Stepped
 | [],st,ans=>some (st,ans,[])
 | o::rest,st,ans=>
  match oQ P ops o st ans with
  | some (dx,eQ,fm)=>(wx P ops rest dx eQ).map fun r=>(r.1,r.2.1,fm++r.2.2)
  | none=>none
theorem Pm{Q:Exit->Act->World->Prop}(hi:ops[i]?=some o)(h:oQ P ops o st ans=some (bl,cf,obs))(a6:cv obs)
  {a:Act} {w:World} (aW:Rel w0 st a w) {K:Act->World->Prop} (ii:∀cC aP,Rel w0 bl cC aP->K cC aP):wpOp P ops Q i K a w:=by
 unfold wpOp;rw[hi];simp only;unfold oQ at h;split at h
 ·rename_i dx eQ fm hw;rw[b0]at h;obtain⟨⟨bF,bY,cg⟩,U,h⟩:=h;simp only[bq]at h;obtain⟨rfl,rfl,rfl⟩:=h;obtain⟨cx,cd⟩:=a6.append;obtain⟨pO,gB⟩:=uO hw cx aW;rw[bU pO];grind[IA]
 ·rename_i dx eQ fm hw;simp only[aT,bq]at h;obtain⟨rfl,rfl,rfl⟩:=h;obtain⟨pO,gB⟩:=uO hw a6 aW;simp_all[bE,IB]
 cases h
theorem aj1(hm:qb ms ops.toList=true)(aw:HX ops ms k){Q:Exit->Act->World->Prop}:∀(gl n:Nat) {listed:Array Bool},k<=n->n<=ops.size->
  oY ops listed->listed.size=ops.size->(∀j,j<n->listed.getD j false=true)->(∀j,n<=j->listed.getD j false=false)->listed.count false<=gl->
  ∀{st bl:aD} {ans cf:List b'} {obs:List Prop},wx P ops (ops.toList.drop n) st ans=some (bl,cf,obs)->cv obs->
  ∀{a:Act} {w:World},Rel w0 st a w->(∀cC aP,Rel w0 bl cC aP->Q .normal cC aP)->wpAny P .any ops Q gl listed a w:=by
 have fin:∀{listed:Array Bool} {n:Nat},n=ops.size->listed.size=ops.size->(∀j,j<n->listed.getD j false=true)->Region.ready .any ops listed=[]:=by
  intro listed n a7 aj U;rw[List.eq_nil_iff_forall_not_mem];intro j bm;obtain⟨aa,o,a6,_⟩:=mem_ready.1 bm;grind
 intro gl;induction gl with
 | zero=>
  intro n listed Wb a7 ap aj U aa qO st bl ans cf obs h a6 a w aI hW;have xT:n=ops.size:=by
   rcases qn n ops.size with bM | ox
   ·have ju:n<listed.size:=aj▸bM;have b7:listed[n]=false:=by simpa[jI ju]using aa n (ht _)
    have:0<listed.count false:=by
     grind[Array.count_pos_iff,Array.getElem_mem]
    omega
   omega
  rw[List.drop_eq_nil_of_le (by simp[xT])]at h;simp only[wx,aT,bq]at h;obtain⟨rfl,_,_⟩:=h;exact⟨fin xT aj U,hW _ _ aI⟩
 | succ gl d'=>
  intro n listed Wb a7 ap aj U aa qO st bl ans cf obs h a6 a w aI hW;rcases qn n ops.size with bM | ox
  ·have ju:n<listed.size:=aj▸bM;have aF:ops.toList.drop n=ops[n]::ops.toList.drop (n+1):=by
    grind[List.drop_eq_getElem_cons]
   rw[aF]at h;simp only[wx]at h;split at h
   ·rename_i dx eQ fm aA;rw[b0]at h;obtain⟨⟨bF,bY,cg⟩,aO,h⟩:=h;simp only[bq]at h;obtain⟨rfl,rfl,rfl⟩:=h;obtain⟨cx,cd⟩:=a6.append;refine⟨fun vM=>?_,fun i hi=>?_⟩
    ·exfalso;have:=HR hm aj vM n bM;grind
    have oz:i=n:=by
     obtain⟨a8,o,kE,_⟩:=mem_ready.1 hi;have vK:i<ops.size:=(iV.1 kE).1;have lM:i<listed.size:=aj▸vK;rcases Nat.lt_trichotomy i n with bG | bG | bG
     ·grind
     ·exact bG
     have:=yQ hm ap aj hi (aw i (by omega) vK n bG);grind
    subst oz;refine Pm (jI bM) aA cx aI fun cC aP eh=>d' (i+1) (by omega) (by omega) (ap.ready hi) (by grind) (fun j bm=>?_) (fun j bm=>?_) ?_ aO cd eh hW
    ·by_cases qR:j=i
     ·simp_all
     rw[getD_set_ne false (Ne.symm qR)];grind
    ·rw[getD_set_ne false (by omega)];grind
    have b7:listed[i]=false:=by simpa[jI ju]using aa i (ht _)
    grind
   cases h
  have xT:n=ops.size:=by omega
  rw[List.drop_eq_nil_of_le (by simp[xT])]at h;simp only[wx,aT,bq]at h;obtain⟨rfl,_,_⟩:=h;have vM:=fin xT aj U;refine⟨fun _=>hW _ _ aI,fun i hi=>?_⟩;grind
def rJ(ms:List Nat):Nat->Nat
 | 0=>0
 | i+1=>if ms.getD i 0==2 ^ i-1 then rJ ms i else i+1
theorem Pn(ms:List Nat):∀n,rJ ms n<=n
 | 0=>ht _
 | n+1=>by
  unfold rJ;split
  ·exact rU (Pn ms n) (Nat.le_succ n)
  grind
theorem Po(ms:List Nat):∀n i,rJ ms n<=i->i<n->∀j,j<i->k1 ms j i=true
 | 0,_,_,h,_,_=>absurd h (Nat.not_lt_zero _)
 | n+1,i,U,aa,j,bm=>by
  unfold rJ at U;split at U
  ·rename_i he;by_cases oz:i=n
   ·subst oz;unfold k1;grind
   exact Po ms n i U (by omega) j bm
  omega
theorem Sat.drew{ω:Own}{τ:Nat->Nat×Value}{l:aC}{y:Value}(h:Sat w ω τ l y):Sat w.drew ω τ l y:=by
 have b7:∀{R:List (Nat×Nat)->c4->Prop} {d:D} {y:Value},bS w ω R d y->bS w.drew ω R d y:=fun h=>h.frame fun _ _ _ aM=>⟨aM,rfl⟩
 cases l with
 | J t k es=>exact⟨b7 h.1,h.2⟩
 | cU t k es i j=>
  obtain⟨b,off,cap,U,aa,aA,aO⟩:=h;exact⟨b,off,cap,U,aa,b7 aA,aO⟩
 | gZ ds off=>
  obtain⟨b,U,aa⟩:=h;exact⟨b,U,b7 aa⟩
 | fd d=>exact b7 h
 | c9 t k es=>exact⟨b7 h.1,h.2⟩
 | aL t i j k es m=>
  obtain⟨u,hu,U,hm⟩:=h;exact⟨u,hu,b7 U,hm⟩
 | eS t vs=>
  obtain⟨b,ty,arr,U,aa,aA,a7,br⟩:=h;refine⟨b,ty,arr,U,aa,aA,a7,fun j c ap=>?_⟩;obtain⟨u,gq,eV⟩:=br j c ap;refine⟨u,gq,?_⟩;cases c with
  | cp=>exact trivial
  | v x=>exact eV
  | J t k es=>exact⟨b7 eV.1,eV.2⟩
 | _=>exact h
theorem Rel.drew(h:Rel w0 st a w):Rel w0 st a w.drew:=by
 obtain⟨ω,τ,h⟩:=h;have hi:∀p:aE,p.map _root_.id=p:=by
  intro p;cases p with
  | az a=>cases a<;>simp[aE.map,bg.map]
  | ek as=>
   simp only[aE.map]
   congr 1
   have:bg.map _root_.id=_root_.id:=by funext a;cases a<;>simp[bg.map]
   simp_all
 refine⟨ω,τ,h.defers,h.size,h.below.next (fC.refl _ _).drew,h.owned,h.fixed,h.pinned,fun i p hp=>?_,fun id ls au=>?_⟩
 ·obtain⟨v,U,aa⟩:=h.env i p hp;have:=cH.map (jo:=Sat w.drew ω τ) (f:=_root_.id) (fun l v aj=>Sat.drew aj) aa;grind
 obtain⟨b,arr,ty,U,aa,aA,aO⟩:=h.boxes id ls au;have:=i'.map (jo:=Sat w.drew ω τ) (f:=_root_.id) (fun l v aj=>Sat.drew aj) aO;rw[pu]at this;exact⟨b,arr,ty,U,aa,aA,this⟩
def CK:Nat->List aE->List Nat
 | _,[]=>[]
 | i,p::r=>match p.leaf with | some (.eS t _)=>if t=i then i::CK (i+1) r else CK (i+1) r | _=>CK (i+1) r
def wy(env:List aE):List Oper->List Nat
 | []=>[]
 | o::r=>
  match o.dst,o.op with
  | none,.store _ (.tmp s) _=>
   match (env.getD s .cp).leaf with
   | some (.ptr d 0)=>if d=s/\s<cX/\!(wy env r).contains s then s::wy env r else wy env r
   | _=>wy env r
  | _,_=>wy env r
def aj2(env0:List aE)(bs:List (Nat×List aC))(es:List dc)(i:Nat):List aC:=
 env0.flatMap aE.sl++(bs.flatMap (·.2)++(es.zipIdx.filter fun x=>x.2 != i).flatMap fun x=>x.1.p.sl)
def HY(P:Program)(ops:Array Oper)(st:aD)(ans:List b'):Stepped:=
 let gs:=ops.toList.filterMap (IG ops)
 let ms:=pV ops.toList []
 let k:=rJ ms ops.size
 match yI (wy st.env (ops.toList.take k)) st with
 | some fc=>
  match sF P ops gs fc.boxes (ops.toList.take k) fc.env ans with
  | some (es,r6,eQ,fm)=>
   if P.follows .mixedOrders&&qb ms ops.toList&&HS ops ms es&&HT ms es fc.env fc.boxes then
    match yJ (CK 0 r6) ⟨r6,fc.boxes⟩,wV fc.boxes (aj2 fc.env fc.boxes es) 0 (ops.toList.take k) fc.env es with
    | some mU,some vY=>(wx P ops (ops.toList.drop k) mU eQ).map fun r=>(r.1,r.2.1,fm++(vY++r.2.2))
    | _,_=>none
   else none
  | none=>none
 | none=>none
theorem aj3(h:HY P ops st ans=some (bl,cf,obs))(a6:cv obs)(aI:Rel w0 st a w){id:Nat}
  {Q:Exit->Act->World->Prop} (hW:∀cC aP,Rel w0 bl cC aP->Q .normal cC aP):(Code.region id ops true).wp P Q a w:=by
 unfold HY at h;simp only at h;split at h
 case h_2=>cases h
 rename_i fc MT;replace aI:=NT aI MT;clear MT;revert aI h;generalize fc=st;intro h aI;split at h
 ·rename_i es r6 eQ fm fO;split at h
  ·rename_i ap;split at h
   rotate_left
   ·cases h
   rename_i mU vY FA WE;rw[b0]at h;obtain⟨⟨bF,bY,cg⟩,WH,h⟩:=h;simp only[bq]at h;obtain⟨rfl,rfl,rfl⟩:=h;obtain⟨FB,FC⟩:=a6.append;obtain⟨Wr,FC⟩:=FC.append;simp only[cJ]at ap;obtain⟨⟨⟨hm,Mz⟩,Wt⟩,iN⟩:=ap;have as4:=Pn (pV ops.toList []) ops.size;obtain⟨hlen,xM,VQ⟩:=yP fO FB;have A6:es.length=rJ (pV ops.toList []) ops.size:=by
    grind
   have ati:∀(i:Nat),i<es.length->(ops.toList.take (rJ (pV ops.toList []) ops.size))[i]?=ops[i]?:=by
    grind
   have aF:∀(i:Nat) (e:dc),es[i]?=some e->e.dst≠none:=by
    intro i e hi;have bM:i<(ops.toList.take (rJ (pV ops.toList []) ops.size)).length:=hlen▸(fA.1 hi).1;obtain⟨e',U,aa⟩:=VQ i _ (ih bM);rw[hi]at U;cases U;exact aa.dst
   have Ma:oa P ops st.boxes st.env es (pV ops.toList []):=by
    refine⟨by omega,fun i o ny hi=>?_,Mz,fun i o v ny hi br=>?_,Wt,iN⟩
    rotate_left
    ·have Bh:=NJ WE Wr i o (by grind) ny v (by
      grind[CJ])
     rw[dL]at Bh;refine⟨fun q aM=>aE.yf fun l au=>Bh l ?_,fun j x bm c1=>aE.yf fun l au=>Bh l ?_,fun x ao l au=>Bh l ?_⟩
     ·exact hG _ (mW.2 ⟨q,aM,au⟩)
     ·refine ig _ (ig _ (mW.2 ⟨(x,j),List.mem_filter.2 ⟨?_,by grind⟩,au⟩));grind
     exact ig _ (hG _ (mW.2 ⟨x,ao,au⟩))
    grind[CJ]
   have vE:HX ops (pV ops.toList []) es.length:=fun i U aa j bm=>Po _ _ i (by omega) aa j bm
   refine wp_region_any hm (Ma.any vE (w0:=w0) ?_ ops.size ?_ (by simp) ?_ ?_ ?_)
   ·intro gl listed qN aj nA c2 qO cC aP eh;refine aj1 Mz vE gl es.length (ht _) (by omega) qN aj nA c2 qO (st:=mU) (by rw[A6];exact WH) FC (NU ?_ FA) hW;have:=CJ (env0:=st.env) (bs:=st.boxes) aF es.length (ht _);rw[jH,<-xM]at this;rw[this];exact eh
   ·intro j o bm;have:=CG bm;simp_all
   ·intro j _;by_cases bm:j<ops.size
    ·simp[bm]
    simp[bm]
   ·simp_all
   have:eG st.env st.boxes (eM (Array.replicate ops.size false)) es=st:=by
    have kh:∀(es:List dc) (t k:Nat) (acc:aE),gr (eM (Array.replicate ops.size false)) t k es acc=acc:=by
     intro es;induction es with
     | nil=>intro t k acc;rfl
     | cons e1 es d'=>
      intro t k acc;simp only[gr];rw[bE,d'];unfold eM;intro ap;have:=CG ap;simp_all
    obtain⟨env,bs⟩:=st;unfold eG;simp_all
   rw[this];exact aI.drew
  cases h
 cases h
end Go.Sx
namespace Go.Sx
open Go.RowKit
def dm(P:Program)(ops:Array Oper)(st bl:aD):Prop:=
 ∀(w0:dY) (a:Act) (w:World) (id:Nat) (Q:Exit->Act->World->Prop),Rel w0 st a w->(∀cC aP,Rel w0 bl cC aP->Q .normal cC aP)->(Code.region id ops true).wp P Q a w
def CL(o:Oper)(m:Nat):Bool:=o.after.toList.all fun e=>!Region.binds .any e||m.testBit e.on
def oM(m:Nat):Nat->List Oper->List (Nat×Oper)
 | _,[]=>[]
 | i,o::r=>if !m.testBit i&&CL o m then (i,o)::oM m (i+1) r else oM m (i+1) r
def runM(P:Program)(ops:Array Oper)(A:List (List b'))(m:Nat):Nat->List Oper->aD->aD
 | _,[],st=>st
 | i,o::r,st=>if m.testBit i then (match oQ P ops o st (A.getD i []) with | some x=>runM P ops A m (i+1) r x.1 | none=>st) else runM P ops A m (i+1) r st
def xg(x:Nat)(l:List Nat):List Nat:=if l.any (Nat.beq x) then l else x::l
def yg:Nat->List (Nat×Oper)->List Nat->List Nat
 | _,[],l=>l
 | m,x::r,l=>xg (m ||| 2 ^ x.1) (yg m r l)
def yi(ops:List Oper):List Nat->List Nat
 | []=>[]
 | m::r=>yg m (oM m 0 ops) (yi ops r)
abbrev vl:=Option (aD×List b'×List Prop)
def AM(P:Program)(ops:Array Oper)(A:List (List b'))(st:aD):List (Nat×Oper)->List vl
 | []=>[]
 | x::r=>oQ P ops x.2 st (A.getD x.1 [])::AM P ops A st r
def AO(P:Program)(ops:Array Oper)(A:List (List b'))(O:List (List Prop))(fc:aD)(m:Nat):List (Nat×Oper)->List vl
 | []=>[]
 | x::r=>some (runM P ops A (m ||| 2 ^ x.1) 0 ops.toList fc,[],O.getD x.1 [])::AO P ops A O fc m r
def AN(P:Program)(ops:Array Oper)(A:List (List b'))(fc:aD):List Nat->List (List vl)
 | []=>[]
 | m::r=>AM P ops A (runM P ops A m 0 ops.toList fc) (oM m 0 ops.toList)::AN P ops A fc r
def AP(P:Program)(ops:Array Oper)(A:List (List b'))(O:List (List Prop))(fc:aD):List Nat->List (List vl)
 | []=>[]
 | m::r=>AO P ops A O fc m (oM m 0 ops.toList)::AP P ops A O fc r
def xl(P:Program)(ops:Array Oper)(A:List (List b'))(fc:aD):Nat->List Nat->List (List (List vl))
 | 0,_=>[]
 | n+1,l=>AN P ops A fc l::xl P ops A fc n (yi ops.toList l)
def xm(P:Program)(ops:Array Oper)(A:List (List b'))(O:List (List Prop))(fc:aD):Nat->List Nat->List (List (List vl))
 | 0,_=>[]
 | n+1,l=>AP P ops A O fc l::xm P ops A O fc n (yi ops.toList l)
variable{P:Program}{ops:Array Oper}{A:List (List b')}{O:List (List Prop)}{fc st:aD}{m:Nat}
theorem Pp:∀{l:List (Nat×Oper)},AM P ops A st l=AO P ops A O fc m l->
  ∀x∈l,oQ P ops x.2 st (A.getD x.1 [])=some (runM P ops A (m ||| 2 ^ x.1) 0 ops.toList fc,[],O.getD x.1 [])
 | [],_,x,ao=>by cases ao
 | y::r,h,x,ao=>by
  simp only[AM,AO,qo]at h;rcases ep.1 ao with rfl | ao
  ·exact h.1
  exact Pp h.2 x ao
theorem Pq:∀{l:List Nat},AN P ops A fc l=AP P ops A O fc l->
  ∀m∈l,∀x∈oM m 0 ops.toList,oQ P ops x.2 (runM P ops A m 0 ops.toList fc) (A.getD x.1 [])=some (runM P ops A (m ||| 2 ^ x.1) 0 ops.toList fc,[],O.getD x.1 [])
 | [],_,m,hm=>by cases hm
 | m0::r,h,m,hm=>by
  simp only[AN,AP,qo]at h;rcases ep.1 hm with rfl | hm
  ·exact Pp h.1
  exact Pq h.2 m hm
theorem aj4{x:Nat}{l:List Nat}:x∈xg x l:=by
 unfold xg;split
 ·rename_i h;obtain⟨y,bO,he⟩:=rV.1 h;rwa[Nat.eq_of_beq_eq_true he]
 exact jn
theorem Pr{x y:Nat}{l:List Nat}(h:y∈l):y∈xg x l:=by
 unfold xg;split
 ·exact h
 exact hb _ h
theorem Ps{x:Nat×Oper}:∀{r:List (Nat×Oper)} {l:List Nat},x∈r->(m ||| 2 ^ x.1)∈yg m r l
 | [],_,h=>by cases h
 | y::r,l,h=>by
  simp only[yg];rcases ep.1 h with rfl | h
  ·exact aj4
  exact Pr (Ps h)
theorem Pt{k:Nat}:∀{r:List (Nat×Oper)} {l:List Nat},k∈l->k∈yg m r l
 | [],_,h=>h
 | _::_,_,h=>Pr (Pt h)
theorem Pu{ops:List Oper}{x:Nat×Oper}:∀{l:List Nat},m∈l->x∈oM m 0 ops->(m ||| 2 ^ x.1)∈yi ops l
 | [],h,_=>by cases h
 | k::r,h,ao=>by
  simp only[yi];rcases ep.1 h with rfl | h
  ·exact Ps ao
  exact Pt (Pu h ao)
theorem Pv{m:Nat}:∀{l:List Oper} {i j:Nat} {o:Oper},l[j]?=some o->m.testBit (i+j)=false->CL o m=true->(i+j,o)∈oM m i l
 | [],_,_,_,h,_,_=>by simp at h
 | y::r,i,0,o,h,U,aa=>by
  simp only[kV,aT]at h;subst h;simp only[oM];rw[bU (by rw[mX]at U;simp[U,aa])];exact jn
 | y::r,i,j+1,o,h,U,aa=>by
  have:=Pv (m:=m) (l:=r) (i:=i+1) (j:=j) (o:=o) (by simpa using h) (by rwa[show i+1+j=i+(j+1) by omega]) aa;rw[show i+1+j=i+(j+1) by omega]at this;simp only[oM];split
  ·exact hb _ this
  exact this
theorem HZ{m k:Nat}:∀{l:List Oper} {i:Nat} {st:aD},(∀j,i<=j->j<i+l.length->m.testBit j=k.testBit j)->runM P ops A m i l st=runM P ops A k i l st
 | [],_,_,_=>rfl
 | o::r,i,st,h=>by
  simp only[runM];rw[h i (ht _) (by simp)];split
  ·split
   ·exact HZ fun j U aa=>h j (by omega) (by simp only[gP];omega)
   rfl
  exact HZ fun j U aa=>h j (by omega) (by simp only[gP];omega)
theorem Pw:∀{O:List (List Prop)} (i:Nat),cv O.flatten->cv (O.getD i [])
 | [],i,_=>by simp[cv]
 | o::r,0,h=>by
  rw[List.flatten_cons]at h;exact (cv.append h).1
 | o::r,i+1,h=>by
  rw[List.flatten_cons]at h;exact Pw i (cv.append h).2
theorem aj5{ms:List Nat}{w0:dY}{Q:Exit->Act->World->Prop}(hm:qb ms ops.toList=true)(a6:cv O.flatten)
  (hW:∀cC aP,Rel w0 (runM P ops A (2 ^ ops.size-1) 0 ops.toList fc) cC aP->Q .normal cC aP):∀(gl:Nat) {l:List Nat},xl P ops A fc gl l=xm P ops A O fc gl l->
  ∀{m:Nat} {listed:Array Bool},m∈l->listed.size=ops.size->(∀j,j<ops.size->listed.getD j false=m.testBit j)->listed.count false<=gl->
  ∀{a:Act} {w:World},Rel w0 (runM P ops A m 0 ops.toList fc) a w->wpAny P .any ops Q gl listed a w:=by
 have fin:∀{m:Nat} {listed:Array Bool},(∀j,j<ops.size->listed.getD j false=m.testBit j)->(∀j,j<ops.size->listed.getD j false=true)->
   ∀{a:Act} {w:World},Rel w0 (runM P ops A m 0 ops.toList fc) a w->Q .normal a w:=by
  intro m listed U aa a w aI;refine hW a w ?_;rw[HZ (m:=2 ^ ops.size-1) (k:=m)]
  ·exact aI
  intro j _ bm;have xP:j<ops.size:=by simpa using bm
  rw[<-U j xP,aa j xP,Nat.testBit_two_pow_sub_one,j7 xP]
 intro gl;induction gl with
 | zero=>
  intro l _ m listed _ aj U qO a w aI;have gV:∀j,j<ops.size->listed.getD j false=true:=by
   intro j bm;cases au:listed.getD j false with
   | true=>rfl
   | false=>
    exfalso;have ju:j<listed.size:=aj▸bm;have b7:listed[j]=false:=by simpa[jI ju]using au
    have:0<listed.count false:=by
     rw[Array.count_pos_iff];exact b7▸Array.getElem_mem ju
    omega
  refine⟨?_,fin U gV aI⟩;rw[List.eq_nil_iff_forall_not_mem];intro j bm;obtain⟨aa,o,kE,_⟩:=mem_ready.1 bm;have bM:j<ops.size:=(iV.1 kE).1;have aA:=gV j bM;have ju:j<listed.size:=aj▸bM;simp[jI ju]at aa aA;rw[aa]at aA;cases aA
 | succ gl d'=>
  intro l he m listed MB aj U qO a w aI;simp only[xl,xm,qo]at he;refine⟨fun vM=>fin U (HR hm aj vM) aI,fun i hi=>?_⟩;obtain⟨a8,o,kE,Fg⟩:=mem_ready.1 hi;have bM:i<ops.size:=(iV.1 kE).1;have ju:i<listed.size:=aj▸bM;have Mr:listed.getD i false=false:=by
   simp[jI ju]at a8 ⊢;exact a8
  have Wj:CL o m=true:=by
   unfold CL;rw[fp];intro e vH;cases aw:Region.binds .any e with
   | false=>rfl
   | true=>
    have bG:=Fg e (by simpa using vH) aw;have b9:e.on<listed.size:=CG bG;rw[U e.on (aj▸b9)]at bG;simp[bG]
  have MF:(i,o)∈oM m 0 ops.toList:=by
   have:=Pv (m:=m) (l:=ops.toList) (i:=0) (j:=i) (o:=o) (by simpa using kE) (by rw[dL,<-U i bM,Mr]) Wj;rwa[dL]at this
  have oB:=Pq he.1 m MB _ MF;refine Pm kE oB (Pw i a6) aI fun cC aP eh=>d' he.2 (Pu MB MF) (by simpa using aj) (fun j bm=>?_) ?_ eh
  ·rw[Nat.testBit_or,Nat.testBit_two_pow];by_cases qR:j=i
   ·subst qR;have bk:j<(listed.setIfInBounds j true).size:=by simpa using ju
    simp[jI bk]
   rw[getD_set_ne false (Ne.symm qR),U j bm,ma (Ne.symm qR),Bool.or_false]
  have b7:listed[i]=false:=by simpa[jI ju]using Mr
  have:(listed.setIfInBounds i true).count false=listed.count false-1:=by
   have e:listed.setIfInBounds i true=listed.set i true ju:=by unfold Array.setIfInBounds;rw[dif_pos ju]
   rw[e,Array.count_set];simp[b7]
  omega
theorem dm.of{bl:aD}(A:List (List b'))(O:List (List Prop))(ap:(P.follows .mixedOrders&&qb (pV ops.toList []) ops.toList)=true)
  (he:xl P ops A st ops.size [0]=xm P ops A O st ops.size [0]) (b7:runM P ops A (2 ^ ops.size-1) 0 ops.toList st=bl) (a6:cv O.flatten):dm P ops st bl:=by
 intro w0 a w id Q aI hW;simp only[cJ]at ap;have bk:∀{l:List Oper} {i:Nat},runM P ops A 0 i l st=st:=by
  intro l;induction l with
  | nil=>intro i;rfl
  | cons o r d'=>intro i;simp only[runM,Nat.zero_testBit,ql,mY];exact d'
 refine wp_region_any ap.1 (aj5 ap.2 a6 (fun cC aP h=>hW cC aP (b7▸h)) ops.size he (m:=0) jn (by simp) (fun j bm=>by simp[bm]) (by simp[Array.count_replicate]) ?_);rw[bk];exact aI.drew
def H0(P:Program)(ops:Array Oper)(st:aD)(ans:List b'):Stepped:=
 match ans with
 | .fT bl::r=>some (bl,r,[dm P ops st bl])
 | _=>HY P ops st ans
theorem aj6{bl:aD}{ans cf:List b'}{obs:List Prop}(h:H0 P ops st ans=some (bl,cf,obs))(a6:cv obs){w0:dY}{a:Act}{w:World}(aI:Rel w0 st a w){id:Nat}
  {Q:Exit->Act->World->Prop} (hW:∀cC aP,Rel w0 bl cC aP->Q .normal cC aP):(Code.region id ops true).wp P Q a w:=by
 unfold H0 at h;split at h
 ·simp only[aT,bq]at h;obtain⟨rfl,_,rfl⟩:=h;exact a6.1 w0 a w id Q aI hW
 exact aj3 h a6 aI hW
