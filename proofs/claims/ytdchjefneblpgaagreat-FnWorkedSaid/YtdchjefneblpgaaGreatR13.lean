import Derived.Test.YtdchjefneblpgaaGreatR26
import Derived.Test.YtdchjefneblpgaaGreatR31
import Derived.Orders
set_option linter.unusedVariables false
set_option linter.unusedSimpArgs false
namespace Go.Sx
open Go.RowKit
def I4(P:Program)(st:aD)(d:Option Nat)(f:FuncId)(args:List Operand)(ans:List b4):Stepped:=
 match P.funcs[f]?,args.mapM (fun x=>(st.bh x).jb st.boxes),ans with
 | some fn,some fH,.res rs::r=>
  if (fn.name == "runtime.NumGoroutine") = false /\ fn.body.isNone = false /\ sX rs = true /\ 10000 * (d.getD 0 + 1) + 10000 <= cX then
   let t:=10000*(d.getD 0+1)
   match d with
   | some d=>some (⟨(st.tY t).env.set d (r4 t rs),(st.tY t).boxes⟩,r,[hA P f fH rs])
   | none=>some (st.tY t,r,[hA P f fH rs])
  else none
 | _,_,_=>none
def OL(P:Program)(st:aD)(d:Option Nat)(f:Operand)(args:List Operand)(ans:List b4):Stepped:=
 match (st.bh f).leaf.bind (az.jb st.boxes),args.mapM (fun x=>(st.bh x).jb st.boxes),ans with
 | some (.cl g br),some fH,.res rs::r=>
  if sX rs=true/\10000*(d.getD 0+1)+10000<=cX then
   let t:=10000*(d.getD 0+1)
   match d with
   | some d=>some (⟨(st.tY t).env.set d (r4 t rs),(st.tY t).boxes⟩,r,[iv P g=true,hA P g (fH++br.map .one) rs])
   | none=>some (st.tY t,r,[iv P g=true,hA P g (fH++br.map .one) rs])
  else none
 | _,_,_=>none
def NG:List b4->Bool
 | .qE _ _ _ _::_=>true
 | _=>false
def NI:List b4->Bool
 | .dg _ _::_=>true
 | _=>false
def NH:List b4->Bool
 | .own::_=>true
 | _=>false
def oh(P:Program)(st:aD)(o:Oper)(ans:List b4):Stepped:=
 match o.dst,o.op with
 | some d,.box _ x=>HT st d (st.bh x) ans
 | some d,.alloc ty=>HU P st d ty ans
 | some d,.makeSlice t l c=>Cj P st d t (st.bh l) (st.bh c) ans
 | some d,.buildSlice t n parts=>y9 P st d t n parts.toList ans
 | none,.store ty x y=>
  match (st.bh x).leaf with
  | some (.ptr id off)=>HV P st ty id off (st.bh y) ans
  | some (.cB (.own t) k es i j)=>H5 P st ty t k es i j (st.bh y) ans
  | some (.aO t i j k es (.at_ a b))=>IQ P st ty t i j k es a b (st.bh y) ans
  | _=>none
 | d,.call ⟨.value (.func f),args,_⟩=>if NI ans then I1 P st d f args.toList ans else if NG ans then HB P st d f args.toList ans else I4 P st d f args.toList ans
 | d,.call ⟨.value (.tmp x),args,_⟩=>if NI ans then I2 P st d (.tmp x) args.toList ans else OL P st d (.tmp x) args.toList ans
 | some d,.call ⟨.builtin .append,⟨[x,y]⟩,⟨[t,c5]⟩⟩=>
  if t=c5 then
   match (st.bh x).leaf with
   | some (.aO s i j k es .here)=>IS P st d t s i j k es y ans
   | _=>xi P st d t x y ans
  else none
 | some d,.slice t x cP hi h0=>if NH ans then xj P st d t (st.bh x) cP hi h0 ans.tail else (pt P st (.slice t x cP hi h0) ans).map fun r=>(⟨st.env.set d r.1,st.boxes⟩,r.2.1,r.2.2)
 | some d,op=>(pt P st op ans).map fun r=>(⟨st.env.set d r.1,st.boxes⟩,r.2.1,r.2.2)
 | none,op=>(pt P st op ans).map fun r=>(st,r.2.1,r.2.2)
variable{P:Program}{o:Oper}{a:Act}{w:World}{Q:Exit->Act->World->Prop}
theorem Calls.of{next:Act->World->Prop}{z:Value}{aM:World}(h:(execOp a.eval o).run P w=.ok (.value z) aM)(a8:next (a.put o.dst z) aM):
  o.wp P a w next Q:=by
 unfold Oper.wp;rw[h];exact a8
variable{w0:ee}{st bn:aD}{ans b':List b4}{obs:List Prop}
theorem I5(h:oh P st o ans=some (bn,b',obs))(aZ:cA obs)(aU:Rel w0 st a w)
  {next:Act->World->Prop} {Q:Exit->Act->World->Prop} (kq:∀cx aM,Rel w0 bn cx aM->next cx aM):o.wp P a w next Q:=by
 obtain⟨ω,τ,aU⟩:=aU;obtain⟨dst,op,type,pos,after,guard⟩:=o;simp only[oh]at h;split at h
 ·rename_i d ty x;obtain⟨z,aM,h1,U⟩:=cr.box (P:=P) aU (aU.bh x) h ty;exact Calls.of (h7 h1) (kq _ _ U)
 ·rename_i d ty;obtain⟨z,aM,h1,U⟩:=cr.alloc aU h;exact Calls.of (h7 h1) (kq _ _ U)
 ·rename_i d t l c;obtain⟨z,aM,h1,U⟩:=aU.make (aU.bh l) (aU.bh c) h aZ;exact Calls.of (h7 h1) (kq _ _ U)
 ·rename_i d t n parts;obtain⟨z,aM,h1,U⟩:=aU.buildSlice h;exact Calls.of (h7 h1) (kq _ _ U)
 ·rename_i ty x y;have fin:∀aM,(Instr.storeAt ty (a.eval x) (a.eval y)).run P w=.ok () aM->Rel w0 bn a aM->Oper.wp P ⟨none,.store ty x y,type,pos,after,guard⟩ a w next Q:=by
   intro aM h1 U;unfold Oper.wp execOp;simp only[Sem.run_bind,h1,Result.andThen_ok,Sem.run_pure,Oper.upon];exact kq _ _ U
  split at h
  ·rename_i id off e;obtain⟨b,aw,ak⟩:=aE.du e (aU.bh x);obtain⟨aM,h1,U⟩:=aU.asm (P:=P) aw (aU.bh y) h;grind
  ·rename_i t k es i j e;obtain⟨aM,h1,U⟩:=aU.aso (P:=P) (aE.du e (aU.bh x)) (aU.bh y) h aZ;grind
  ·rename_i t i j k es asD Mc e;obtain⟨aM,h1,U⟩:=aU.asq (P:=P) (aE.du e (aU.bh x)) (aU.bh y) h aZ;grind
  cases h
 ·rename_i f args ts;split at h
  ·grind[ajm]
  split at h
  ·grind[ajO]
  rename_i FW WX;clear FW;unfold I4 at h;clear WX;split at h
  ·rename_i fn fH rs r kp FA;split at h
   ·rename_i al;obtain⟨kU,ko,j6,q'⟩:=al;obtain⟨ap,av⟩:=mc FA;have lo:Cn w fH (args.map a.eval):=by
     refine⟨by simp[ap],fun i cj hi=>?_⟩;obtain⟨x,ak,ji⟩:=av i cj hi;refine⟨a.eval x,?_,aE.vF aU.boxes ji (aU.bh x)⟩;grind
    have e5:(execOp a.eval ⟨dst,.call ⟨.value (.func f),args,ts⟩,type,pos,after,guard⟩).run P w=.ok (.enter f (args.map a.eval)) w:=by
     have Wj : fn.name ≠ "runtime.NumGoroutine" := by grind
     have q9:fn.body≠none:=by grind
     simp[execOp,resolve,Act.eval,Deferred.ofValue,invoke,callFunc,kp,Wj,q9]
    have key:∀(lx:List Prop),obs=lx->cA lx->lx=[hA P f fH rs]->∀(K:Act->World->Prop),(∀v aM,fP w.heap.size w aM->vD w aM rs v->K (a.put dst v) aM)->
      Oper.wp P ⟨dst,.call ⟨.value (.func f),args,ts⟩,type,pos,after,guard⟩ a w K Q:=by
     intro lx _ kW e K ho;subst e;unfold Oper.wp;rw[e5];simp only[Oper.upon];refine (kW.1 w _ aU.below.laid lo).mono ?_;grind
    simp only at h;cases dst with
    | none=>
     simp only[aS,bq]at h;obtain⟨rfl,_,rfl⟩:=h;refine key _ rfl aZ rfl next fun v aM aw aH=>kq _ _ ?_
     obtain⟨a7,cI,h1,_⟩:=aU.called (10000*(Option.getD none 0+1)) j6 q' aw aH;exact⟨a7,cI,h1⟩
    | some d=>
     simp only[aS,bq]at h;obtain⟨rfl,_,rfl⟩:=h;refine key _ rfl aZ rfl next fun v aM aw aH=>kq _ _ ?_
     obtain⟨a7,cI,h1,U⟩:=aU.called (10000*(Option.getD (some d) 0+1)) j6 q' aw aH;exact⟨a7,cI,h1.put U⟩
   cases h
  cases h
 ·rename_i x args ts;split at h
  ·grind[ajn]
  rename_i FW;clear FW;unfold OL at h;split at h
  ·rename_i g br fH rs r b0 FA;split at h
   ·rename_i al;obtain⟨j6,q'⟩:=al;obtain⟨ap,av⟩:=mc FA;have cR:fH.length=args.size:=by grind
    rw[lf]at b0;obtain⟨jU,F1,W7⟩:=b0;have M0:kv w (.cl g br) (a.eval (.tmp x)):=az.vF aU.boxes W7 (aE.du F1 (aU.bh (.tmp x)));have WG:∃cs:Array Value,a.eval (.tmp x)=.func (.func g) #[] cs/\cs.size=br.length/\∀(j:Nat) (d:D),br[j]?=some d->∃u,cs[j]?=some u/\kv w d u:=by
     generalize a.eval (.tmp x)=y at M0;cases M0 with
     | cl R g br cs us ai hu aG=>exact⟨cs,rfl,ai,fun j d bg=>⟨us j,hu j d bg,(aG j d bg).free⟩⟩
    obtain⟨cs,nV,atJ,Wu⟩:=WG;have lo:Cn w (fH++br.map .one) (args.map a.eval++cs):=by
     refine⟨by grind,fun i cj hi=>?_⟩;rw[ow]at hi;rw[iD];split at hi
     ·rename_i l2;rw[bM (by simp;omega)];obtain⟨y,bD,ks⟩:=av i cj hi;refine⟨a.eval y,?_,aE.vF aU.boxes ks (aU.bh y)⟩;grind
     rename_i l2;rw[bG (by simp;omega)];rw[dr,bX]at hi;obtain⟨d,aG,rfl⟩:=hi;obtain⟨u,gv,fc⟩:=Wu _ d aG;refine⟨u,?_,fc⟩;grind
    have e5:iv P g=true->(execOp a.eval ⟨dst,.call ⟨.value (.tmp x),args,ts⟩,type,pos,after,guard⟩).run P w=.ok (.enter g (args.map a.eval++cs)) w:=by
     intro ye;unfold iv at ye;split at ye
     ·rename_i fn kp;simp only[cF,h8,xt,kL]at ye;have q9:fn.body≠none:=by grind
      simp[execOp,resolve,nV,Deferred.ofValue,invoke,callFunc,kp,ye.1,q9]
     cases ye
    have key:∀(lx:List Prop),obs=lx->cA lx->lx=[iv P g=true,hA P g (fH++br.map .one) rs]->∀(K:Act->World->Prop),(∀v aM,fP w.heap.size w aM->vD w aM rs v->K (a.put dst v) aM)->
      Oper.wp P ⟨dst,.call ⟨.value (.tmp x),args,ts⟩,type,pos,after,guard⟩ a w K Q:=by
     intro lx _ kW e K ho;subst e;unfold Oper.wp;rw[e5 kW.1];simp only[Oper.upon];refine (kW.2.1 w _ aU.below.laid lo).mono ?_;grind
    simp only at h;cases dst with
    | none=>
     simp only[aS,bq]at h;obtain⟨rfl,_,rfl⟩:=h;refine key _ rfl aZ rfl next fun v aM aw aH=>kq _ _ ?_
     obtain⟨a7,cI,h1,_⟩:=aU.called (10000*(Option.getD none 0+1)) j6 q' aw aH;exact⟨a7,cI,h1⟩
    | some d=>
     simp only[aS,bq]at h;obtain⟨rfl,_,rfl⟩:=h;refine key _ rfl aZ rfl next fun v aM aw aH=>kq _ _ ?_
     obtain⟨a7,cI,h1,U⟩:=aU.called (10000*(Option.getD (some d) 0+1)) j6 q' aw aH;exact⟨a7,cI,h1.put U⟩
   cases h
  cases h
 ·rename_i d x y t c5;split at h
  ·rename_i yA;subst yA;have vV:∃z aM,(Builtin.append_ #[t,t] type #[a.eval x,a.eval y]).run P w=.ok z aM/\Rel w0 bn (a.put (some d) z) aM:=by
    split at h
    ·rename_i s i j k es e;exact aU.Vz (P:=P) (ty:=type) (aE.du e (aU.bh x)) h aZ
    exact aU.xi (ty:=type) h aZ
   obtain⟨z,aM,h1,U⟩:=vV;refine Calls.of (z:=z) (aM:=aM) ?_ (kq _ _ U);have:(execOp a.eval ⟨some d,.call ⟨.builtin .append,⟨[x,y]⟩,⟨[t,t]⟩⟩,type,pos,after,guard⟩)=(builtin .append ⟨[t,t]⟩ type (Array.map (fun | .const _=>true | _=>false) ⟨[x,y]⟩) (Array.map a.eval ⟨[x,y]⟩)):=by
    simp only[execOp,resolve];rfl
   rw[this];exact h7 (by grind)
  cases h
 ·rename_i d t x cP hi h0;split at h
  ·obtain⟨z,h1,U⟩:=aU.xj (P:=P) (aU.bh x) h aZ;exact Calls.of (h7 h1) (kq _ _ U)
  rw[bX]at h;obtain⟨⟨bK,b2,cg⟩,h1,h⟩:=h;simp only[bq]at h;obtain⟨rfl,rfl,rfl⟩:=h;obtain⟨z,U,ax⟩:=HS (o:=⟨_,_,type,pos,after,guard⟩) aU h1 aZ;exact Calls.of U (kq _ _ ⟨ω,τ,aU.put ax⟩)
 ·rw[bX]at h;obtain⟨⟨bK,b2,cg⟩,h1,h⟩:=h;simp only[bq]at h;obtain⟨rfl,rfl,rfl⟩:=h;obtain⟨z,U,ax⟩:=HS (o:=⟨_,_,type,pos,after,guard⟩) aU h1 aZ;exact Calls.of U (kq _ _ ⟨ω,τ,aU.put ax⟩)
 rw[bX]at h;obtain⟨⟨bK,b2,cg⟩,h1,h⟩:=h;simp only[bq]at h;obtain⟨rfl,rfl,rfl⟩:=h;obtain⟨z,U,ax⟩:=HS (o:=⟨_,_,type,pos,after,guard⟩) aU h1 aZ;exact Calls.of U (kq _ _ ⟨ω,τ,aU⟩)
def nm(P:Program)(st:aD)(o:Oper)(ans:List b4):Stepped:=
 match o.dst,o.op with
 | some d,.alloc ty=>C7 P st d ty ans
 | none,.store ty (.tmp s) y=>C9 P st ty s (st.bh y) ans
 | _,_=>oh P st o ans
theorem ajo(h:nm P st o ans=some (bn,b',obs))(aZ:cA obs)(aU:Rel w0 st a w)
  {next:Act->World->Prop} {Q:Exit->Act->World->Prop} (kq:∀cx aM,Rel w0 bn cx aM->next cx aM):o.wp P a w next Q:=by
 obtain⟨dst,op,type,pos,after,guard⟩:=o;unfold nm at h;split at h
 ·rename_i d ty e1 e2;simp only at e1 e2;subst e1;subst e2;obtain⟨ω,τ,aU⟩:=aU;obtain⟨z,aM,h1,U⟩:=cr.Vy aU h;exact Calls.of (h7 h1) (kq _ _ U)
 ·rename_i ty s y e1 e2;simp only at e1 e2;subst e1;subst e2;obtain⟨ω,τ,aU⟩:=aU;obtain⟨aM,h1,U⟩:=aU.asp (P:=P) (aU.bh y) h;unfold Oper.wp execOp;simp only[Sem.run_bind,h1,Result.andThen_ok,Sem.run_pure,Oper.upon];exact kq _ _ U
 grind[I5]
def zk(st:aD)(dst:Option Nat):aD:=
 match dst with
 | some d=>⟨st.env.set d (.one (.v undef)),st.boxes⟩
 | none=>st
theorem I6{dst:Option Nat}(h:Rel w0 st a w):Rel w0 (zk st dst) (a.put dst undef) w:=by
 obtain⟨ω,τ,h⟩:=h;cases dst with
 | none=>exact⟨ω,τ,h⟩
 | some d=>exact⟨ω,τ,h.put (p:=.one (.v undef)) rfl⟩
def qu(ops:Array Oper)(st:aD)(o:Oper)(ans:List b4):Option (Bool×aD×List b4×List Prop):=
 match o.guard with
 | none=>some (true,st,ans,[])
 | some (j,want)=>
  match (ops[j]?).bind (·.dst) with
  | some s=>
   match (st.env.getD s .ck).leaf with
   | some (.v (.bool b))=>some (b==want,st,ans,[])
   | some (.v (.tuple _))=>some (false,st,ans,[])
   | some (.a' c)=>
    match ans with
    | .nJ b::r=>some (b==want,⟨st.env.set s (.one (.v (.bool b))),st.boxes⟩,r,[c=b])
    | _=>none
   | _=>none
  | none=>none
variable{ops:Array Oper}
theorem vg{b:Bool}(h:qu ops st o ans=some (b,bn,b',obs))(aZ:cA obs)(aU:Rel w0 st a w):
  Region.wanted o (yielded ops a.tmps)=b/\Rel w0 bn a w:=by
 obtain⟨ω,τ,aU⟩:=aU;unfold qu at h;split at h
 ·rename_i av;simp only[aS,bq]at h;obtain⟨rfl,rfl,_,_⟩:=h;exact⟨by simp[Region.wanted,av],ω,τ,aU⟩
 rename_i j want av;split at h
 ·rename_i s ai;have ei:∀l,(st.env.getD s .ck).leaf=some l->∀x,(∀y,Sat w ω τ l y->y=x)->(l=.ck->False)->a.tmps[s]?=some x:=by
   intro l ap x ak c3;rw[jZ]at ap;cases e:st.env[s]? with
   | none=>
    grind[aE.leaf,aS,absurd]
   | some p=>
    rw[e]at ap;obtain⟨v,h1,U⟩:=aU.env s p e;grind[aE.du]
  split at h
  ·rename_i da ap;simp only[aS,bq]at h;obtain⟨rfl,rfl,_,_⟩:=h;have:=ei _ ap (.bool da) (fun y bD=>bD) (fun h=>by cases h);exact⟨by grind[Region.wanted,yielded],ω,τ,aU⟩
  ·rename_i vs ap;simp only[aS,bq]at h;obtain⟨rfl,rfl,_,_⟩:=h;have:=ei _ ap (.tuple vs) (fun y bD=>bD) (fun h=>by cases h);exact⟨by grind[Region.wanted,yielded],ω,τ,aU⟩
  ·rename_i c ap;split at h
   ·rename_i da r;simp only[aS,bq]at h;obtain⟨rfl,rfl,_,rfl⟩:=h;have ig:c=da:=aZ.1;subst ig;have:=ei _ ap (.bool c) (fun y bD=>bD) (fun h=>by cases h);refine⟨by grind[Region.wanted,yielded],ω,τ,?_⟩;have Nj:=aU.put (d:=s) (p:=.one (.v (.bool c))) (v:=.bool c) rfl;have e:a.put (some s) (.bool c)=a:=by
     simp only[Act.put];have:a.tmps.setIfInBounds s (.bool c)=a.tmps:=by
      grind
     rw[this]
    grind
   cases h
  cases h
 cases h
def pj(P:Program)(ops:Array Oper)(o:Oper)(st:aD)(ans:List b4):Stepped:=
 match qu ops st o ans with
 | some (true,st1,eT,fq)=>(oh P st1 o eT).map fun r=>(r.1,r.2.1,fq++r.2.2)
 | some (false,st1,eT,fq)=>some (zk st1 o.dst,eT,fq)
 | none=>none
theorem OM{rest:List Oper}(h:pj P ops o st ans=some (bn,b',obs))(aZ:cA obs)
  {a:Act} {w:World} (aU:Rel w0 st a w) (ho:∀cx aM,Rel w0 bn cx aM->wpList P ops Q rest cx aM):wpList P ops Q (o::rest) a w:=by
 unfold pj at h;split at h
 ·rename_i st1 eT fq hw;rw[bX]at h;obtain⟨⟨bK,b2,cg⟩,h1,h⟩:=h;simp only[bq]at h;obtain⟨rfl,rfl,rfl⟩:=h;obtain⟨cy,ca⟩:=aZ.append;obtain⟨p8,gJ⟩:=vg hw cy aU;refine wpList_step fun K ya=>?_
  rw[bM p8];grind[I5]
 ·rename_i st1 eT fq hw;simp only[aS,bq]at h;obtain⟨rfl,rfl,rfl⟩:=h;obtain⟨p8,gJ⟩:=vg hw aZ aU;refine wpList_step fun K ya=>?_
  rw[bG (by grind)];grind[I6]
 cases h
def I7(o ca:Oper):Option (Nat×TypeId×Operand×Option Operand×TypeId):=
 match o.dst,o.op,o.guard,ca.dst,ca.op,ca.guard with
 | some d,.slice t x cP none none,none,none,.call ⟨.builtin .clear,⟨[.tmp dn]⟩,⟨[fY]⟩⟩,none=>if d=dn then some (d,t,x,cP,fY) else none
 | _,_,_,_,_,_=>none
theorem ajp{ca:Oper}{rest:List Oper}{d:Nat}{t fY:TypeId}{x:Operand}{cP:Option Operand}(hp:I7 o ca=some (d,t,x,cP,fY))
  {st bn:aD} {ans b':List b4} {obs:List Prop} (h:Da P st d t x cP fY ans=some (bn,b',obs)) (aZ:cA obs)
  {a:Act} {w:World} (aU:Rel w0 st a w) (ho:∀cx aM,Rel w0 bn cx aM->wpList P ops Q rest cx aM):wpList P ops Q (o::ca::rest) a w:=by
 obtain⟨dst,op,type,pos,after,guard⟩:=o;obtain⟨atk,auA,type2,auE,as7,atw⟩:=ca;unfold I7 at hp;split at hp
 ·rename_i d0 t0 hf aus dn auL e1 e2 cb d' g' ll;simp only at e1 e2 cb d' g' ll;subst e1 e2 cb d' g' ll;split at hp
  ·rename_i aG;subst aG;simp only[aS,bq]at hp;obtain⟨rfl,rfl,rfl,rfl,rfl⟩:=hp;obtain⟨ω,τ,aU⟩:=aU;obtain⟨bJ,y,z,aM,h1,U,ax⟩:=aU.clear h aZ;refine wpList_plain rfl fun K ya=>Calls.of (h7 (by simpa using h1)) (ya _ _ ?_)
   refine wpList_plain rfl fun K ya=>?_
   have p2:(a.put (some d0) y).eval (.tmp d0)=y:=by
    simp_all[Act.eval,Act.put]
   refine Calls.of (z:=z) (aM:=aM) ?_ (ya _ _ (ho _ _ ax));simp only[execOp,resolve,invoke,builtin,Sem.run_bind,Sem.run_pure,Result.andThen_ok,List.map_toArray,lL,List.map_nil,p2,U]
  cases hp
 cases hp
def vh(P:Program)(ops:Array Oper):List Oper->aD->List b4->Stepped
 | [],st,ans=>some (st,ans,[])
 | [o],st,ans=>pj P ops o st ans
 | o::ca::rest,st,ans=>
  match I7 o ca with
  | some (d,t,x,cP,fY)=>
   match Da P st d t x cP fY ans with
   | some (st1,eT,fq)=>(vh P ops rest st1 eT).map fun r=>(r.1,r.2.1,fq++r.2.2)
   | none=>none
  | none=>
   match pj P ops o st ans with
   | some (st1,eT,fq)=>(vh P ops (ca::rest) st1 eT).map fun r=>(r.1,r.2.1,fq++r.2.2)
   | none=>none
theorem I8:∀(l:List Oper) {st bn:aD} {ans b':List b4} {obs:List Prop},vh P ops l st ans=some (bn,b',obs)->cA obs->
  ∀{a:Act} {w:World},Rel w0 st a w->(∀cx aM,Rel w0 bn cx aM->Q .normal cx aM)->wpList P ops Q l a w
 | [],st,bn,ans,b',obs,h,_,a,w,aU,ic=>by
  simp only[vh,aS,bq]at h;obtain⟨rfl,_,_⟩:=h;exact ic _ _ aU
 | [o],st,bn,ans,b',obs,h,aZ,a,w,aU,ic=>by
  simp only[vh]at h;exact OM h aZ aU fun cx aM er=>ic _ _ er
 | o::ca::rest,st,bn,ans,b',obs,h,aZ,a,w,aU,ic=>by
  simp only[vh]at h;split at h
  ·rename_i d t x cP fY hp;split at h
   ·rename_i st1 eT fq h1;rw[bX]at h;obtain⟨⟨bK,b2,cg⟩,U,h⟩:=h;simp only[bq]at h;obtain⟨rfl,rfl,rfl⟩:=h;obtain⟨cy,cC⟩:=aZ.append;exact ajp hp h1 cy aU fun cx aM er=>I8 rest U cC er ic
   cases h
  split at h
  ·rename_i st1 eT fq h1;rw[bX]at h;obtain⟨⟨bK,b2,cg⟩,U,h⟩:=h;simp only[bq]at h;obtain⟨rfl,rfl,rfl⟩:=h;obtain⟨cy,cC⟩:=aZ.append;exact OM h1 cy aU fun cx aM er=>I8 (ca::rest) U cC er ic
  cases h
end Go.Sx
namespace Go.Sx
open Go.RowKit
abbrev fz:=List (Nat×Nat)
def fz.has(r:fz)(s:Nat):Bool:=r.any fun x=>decide (x.1<=s)&&decide (s<x.2)
def Tag.ej(r:fz):Tag->Bool
 | .free=>false
 | .own s=>r.has s
 | .ro s=>r.has s
def eD.ej(r:fz):eD->Bool
 | .J t _ _=>t.ej r
 | _=>false
def az.ej(r:fz):az->Bool
 | .J t _ _=>t.ej r
 | .cB t _ _ _ _=>t.ej r
 | .aO t _ _ _ _ _=>r.has t
 | .eX t vs=>r.has t||vs.any (eD.ej r)
 | _=>false
def bm.ej(r:fz):bm->Bool
 | .one l=>l.ej r
 | .agg ls=>ls.any (az.ej r)
def aE.ej(r:fz):aE->Bool
 | .aF a=>a.ej r
 | .fv as=>as.any (bm.ej r)
def nn(g:Tag->Option Tag)(r:fz):Prop:=∀t:Tag,t.ej r=false->g t=some t
variable{g:Tag->Option Tag}{r:fz}
theorem az.vq(av:nn g r){l:az}(h:l.ej r=false):l.ct g (fun _=>true)=l:=by
 cases l with
 | J t k es=>simp only[az.ej]at h;simp only[az.ct,av t h]
 | cB t k es i j=>simp only[az.ej]at h;simp only[az.ct,av t h]
 | ptr id off=>simp[az.ct]
 | fR f ids=>simp[az.ct]
 | aO t i j k es m=>simp only[az.ej]at h;simp only[az.ct,av (.own t) h,gC]
 | eX t vs=>
  simp only[az.ej,gn]at h;simp only[az.ct,av (.own t) h.1,gC]
  congr 1
  conv=>rhs;rw[<-qO vs]
  refine kH fun c al=>?_
  have:=hg.1 h.2 c al;cases c with
  | ck=>rfl
  | v x=>rfl
  | J c5 k es=>simp only[eD.ct,av c5 (by grind[eD.ej]),id]
 | _=>rfl
theorem ON(av:nn g r){ls:List az}(h:ls.any (az.ej r)=false):ls.map (az.ct g fun _=>true)=ls:=by
 conv=>rhs;rw[<-qO ls]
 grind[kH,hg,az.vq]
theorem bm.vq(av:nn g r){a:bm}(h:a.ej r=false):a.map (az.ct g fun _=>true)=a:=by
 cases a with
 | one l=>grind[bm.ej,bm.map,az.vq]
 | agg ls=>grind[bm.ej,bm.map,ON]
theorem aE.vq(av:nn g r){p:aE}(h:p.ej r=false):p.map (az.ct g fun _=>true)=p:=by
 cases p with
 | aF a=>grind[aE.ej,aE.map,bm.vq]
 | fv as=>
  simp only[aE.ej]at h;simp only[aE.map]
  congr 1
  conv=>rhs;rw[<-qO as]
  grind[kH,hg,bm.vq]
structure de where
 dst:Option Nat
 p:aE
 use:List Nat
 mn:fz
abbrev lg:=Option (de×(Tag->Option Tag)×List b4×List Prop)
def OO:Operand->Option Nat
 | .tmp t=>some t
 | _=>none
def yP:Option Nat->fz
 | none=>[]
 | some s=>[(s,s+1)]
def xM(P:Program)(st:aD)(d:Nat)(t:TypeId)(x y:Operand)(ans:List b4):lg:=
 match ps P t with
 | some (e,k)=>
  match P.info? e with
  | some i=>
   match i.zero,(st.bh x).leaf,x with
   | some z,some (.J (.own gm) ci es),.tmp s=>
    match tV gm k (st.bh y) ans with
    | some (bL,dD,b',obs)=>
     if ci=k/\z.cells.size=k/\0<k/\gm<cX then
      some (⟨some d,.one (.J (.own gm) k (es++bL)),[s],(gm,gm+1)::yP dD⟩,gZ gm dD,b',((es.length+bL.length)*i.bytes<=140737488355328)::(es.length+bL.length<=9223372036854775807)::obs)
     else none
    | _=>none
   | some z,some (.v (.slice none 0 0)),_=>
    match tV d k ((st.bh y).map (az.ct (hr d []) fun _=>true)) ans with
    | some (bL,dD,b',obs)=>
     if z.cells.size=k/\0<k/\d<cX then
      some (⟨some d,.one (.J (.own d) k ([]++bL)),[],(d,d+1)::yP dD⟩,(fun g=>(hr d [] g).bind (gZ d dD)),b',(((([]:List (List D)).length)+bL.length)*i.bytes<=140737488355328)::(([]:List (List D)).length+bL.length<=9223372036854775807)::obs)
     else none
    | _=>none
   | _,_,_=>none
  | none=>none
 | none=>none
def E9(P:Program)(st:aD)(d:Nat)(t:TypeId)(x:Operand)(cP hi h0:Option Operand)(ans:List b4):lg:=
 match ps P t,(st.bh x).leaf,h0,x with
 | some (_,k),some (.J (.own s) ci es),none,.tmp iU=>
  if k=ci/\s<cX then
   match k1 st cP,k1 st hi with
   | some l,some h=>some (⟨some d,.one (.J (.own s) k ((es.drop (l.getD 0).toNat).take ((h.getD es.length).toNat-(l.getD 0).toNat))),[iU],[(s,s+1)]⟩,jF s s,ans,[0<=l.getD 0,l.getD 0<=h.getD es.length,h.getD es.length<=es.length])
   | _,_=>none
  else none
 | _,_,_,_=>none
variable{s:Nat}
theorem ajq:nn (jF s s) [(s,s+1)]:=by
 intro t h;cases t with
 | free=>rfl
 | own x=>
  have:x≠s:=by rintro rfl;grind[Tag.ej,fz.has]
  grind[jF]
 | ro x=>
  simp_all[Tag.ej,fz.has,jF]
def NP(P:Program)(d:Nat)(t:TypeId)(p q:aE)(ans:List b4):lg:=
 match P.underlying t with
 | some (.slice e)=>
  match P.info? e,p.int,q.int with
  | some i,some (_,l),some (_,c)=>
   match i.zero with
   | some z=>
    if i.size=z.cells.size/\0<i.size/\z.cells.all (·.oneCell')=true/\d<cX then
     some (⟨some d,.one (.J (.own d) i.size (List.replicate l.toNat (z.cells.toList.map .v))),[],[(d,d+1)]⟩,hr d [],ans,[0<=l,l<=c,(i.bytes:Int)*c<=281474976710656,c<=9223372036854775807])
    else none
   | none=>none
  | _,_,_=>none
 | _=>none
def qY(P:Program)(st:aD)(o:Oper)(ans:List b4):lg:=
 match o.dst,o.op with
 | some d,.call ⟨.value (.func f),args,_⟩=>
  match P.funcs[f]?,args.toList.mapM (fun x=>(st.bh x).jb st.boxes),ans with
  | some fn,some fH,.res rs::r=>
   if (fn.name == "runtime.NumGoroutine") = false /\ fn.body.isNone = false /\ sX rs = true /\ 10000 * (d + 1) + 10000 <= cX then
    some (⟨some d,r4 (10000*(d+1)) rs,[],[(10000*(d+1),10000*(d+1)+10000)]⟩,fL (10000*(d+1)),r,[hA P f fH rs])
   else none
  | _,_,_=>none
 | some d,.buildSlice t n parts=>
  match Bj P st d t n parts.toList with
  | some (k,es,ms)=>some (⟨some d,.one (.J (.own d) k es),[],(d,d+1)::ms.map fun x=>(x.1,x.1+1)⟩,hr d ms,ans,[])
  | _=>none
 | some d,.call ⟨.builtin .append,⟨[x,y]⟩,⟨[t,c5]⟩⟩=>if t=c5 then xM P st d t x y ans else none
 | some _,.box _ _=>none
 | some d,.alloc ty=>
  match P.info? ty with
  | some i=>match i.zero with
   | some z=>if d<cX then some (⟨some d,.one (.eX d (z.cells.toList.map .v)),[],[(d,d+1)]⟩,hr d [],ans,[]) else none
   | none=>none
  | none=>none
 | some d,.makeSlice t l c=>NP P d t (st.bh l) (st.bh c) ans
 | some d,.slice t x cP hi h0=>if NH ans then E9 P st d t x cP hi h0 ans.tail else (pt P st (.slice t x cP hi h0) ans).map fun r=>(⟨some d,r.1,[],[]⟩,some,r.2.1,r.2.2)
 | some d,op=>(pt P st op ans).map fun r=>(⟨some d,r.1,[],[]⟩,some,r.2.1,r.2.2)
 | none,.store ty (.tmp s) y=>
  match (st.env.getD s .ck).leaf,He (st.bh y),P.info? ty with
  | some (.eX t vs),some cs,some i=>
   if cs.length=i.size/\cs.length<=vs.length then
    some (⟨some s,.one (.eX t ((cs++vs.drop cs.length).map (eD.ct (eU t)))),[],[(t,t+1)]⟩,eU t,ans,[])
   else none
  | _,_,_=>none
 | none,_=>none
theorem akB:nn (eU s) [(s,s+1)]:=by
 intro t h;cases t with
 | free=>rfl
 | own x=>
  have:x≠s:=by rintro rfl;grind[Tag.ej,fz.has]
  grind[eU]
 | ro x=>
  have:x≠s:=by rintro rfl;grind[Tag.ej,fz.has]
  grind[eU]
theorem akC:eD.ct some=id:=by funext c;cases c<;>rfl
theorem akD(st:aD)(f:az->az)(b0:∀x,f (.v x)=.v x)(hu:f .ck=.ck)(aG:∀d,f (.fd d)=.fd d)(x:Operand):(st.map f).bh x=(st.bh x).map f:=by
 cases x with
 | tmp t=>
  simp only[aD.bh,aD.map];rw[jZ,jZ,dr];cases st.env[t]? with
  | none=>simp[aE.map,bm.map,hu]
  | some p=>rfl
 | const v=>
  simp only[aD.bh,Bp];split
  ·simp[aE.map,bm.map,b0]
  grind[aE.map,bm.map]
 | global g=>simp[aD.bh,aE.map,bm.map,hu]
 | func atr=>simp[aD.bh,aE.map,bm.map,aG]
theorem az.asc(g1 g2:Tag->Option Tag)(U:∀g t,g2 g=some (.own t)->g=.own t)(l:az):az.ct g2 (fun _=>true) (az.ct g1 (fun _=>true) l)=az.ct (fun t=>(g1 t).bind g2) (fun _=>true) l:=by
 cases l with
 | J t k es=>grind[az.ct]
 | cB t k es i j=>grind[az.ct]
 | fR f ids=>simp[az.ct]
 | aO t i j k es m=>
  simp only[az.ct];cases e1:g1 (.own t) with
  | none=>grind
  | some x=>
   simp only[oy];grind
 | eX t vs=>
  simp only[az.ct];cases e1:g1 (.own t) with
  | none=>grind
  | some x=>
   simp only[oy];cases x with
   | own s=>
    simp only;by_cases ai:s=t
    ·subst ai;simp only[gC,az.ct];have nV:(vs.map (eD.ct g1)).map (eD.ct g2)=vs.map (eD.ct fun t=>(g1 t).bind g2):=by
      rw[List.map_map];refine kH fun c _=>?_
      cases c with
      | ck=>rfl
      | v x=>rfl
      | J c5 k es=>
       simp only[Function.comp,eD.ct];grind
     rw[nV]
    grind
   | free=>
    grind
   | ro s=>
    grind
 | ptr id off=>simp[az.ct]
 | _=>rfl
theorem bm.map_map(f g:az->az)(a:bm):(a.map f).map g=a.map (g ∘ f):=by cases a<;>simp[bm.map]
theorem aE.map_map(f g:az->az)(p:aE):(p.map f).map g=p.map (g ∘ f):=by
 cases p with
 | aF a=>simp[aE.map,bm.map_map]
 | fv as=>simp only[aE.map,List.map_map];simp_all[congr,kH,bm.map_map]
theorem aD.map_map(f g:az->az)(s:aD):(s.map f).map g=s.map (g ∘ f):=by
 simp only[aD.map,List.map_map]
 congr 1
 ·grind[kH,aE.map_map]
 simp_all
theorem OP(r:fz):nn some r:=fun _ _=>rfl
theorem fz.sm{a b:Nat}(h:fz.has ((a,b)::r) s=false):(s<a\/b<=s)/\fz.has r s=false:=by
 grind[fz.has,gn,Bool.and_eq_false_iff,mu]
variable{t:Nat}
theorem akE:nn (fL t) [(t,t+10000)]:=by
 intro g av;cases g with
 | free=>rfl
 | own s=>
  obtain⟨h1,_⟩:=fz.sm av;simp only[fL];grind
 | ro s=>
  obtain⟨h1,_⟩:=fz.sm av;simp only[fL];grind
theorem I9:∀{ms:gS},(fz.has (ms.map fun x=>(x.1,x.1+1)) s)=false->(ms.at s).isSome=false
 | [],_=>rfl
 | (i,p)::r,h=>by
  simp only[fz.has,lL,xw,gn,Bool.and_eq_false_iff,mu]at h;simp only[gS.at];rw[bG (by omega)];exact I9 (by simpa only[fz.has]using h.2)
theorem akF{ms:gS}:nn (hr t ms) ((t,t+1)::ms.map fun x=>(x.1,x.1+1)):=by
 intro g av;cases g with
 | free=>rfl
 | own s=>
  obtain⟨h1,U⟩:=fz.sm av;simp only[hr];rw[bG (by omega),I9 U];rfl
 | ro s=>
  obtain⟨h1,U⟩:=fz.sm av;simp only[hr];rw[bG (by omega),I9 U];rfl
theorem OQ{dD:Option Nat}(h:fz.has (yP dD) s=false):dD≠some s:=by
 rintro rfl;grind[fz.has,yP]
theorem OR(t:Nat)(dD:Option Nat):nn (gZ t dD) ((t,t+1)::yP dD):=by
 intro g av;cases g with
 | free=>rfl
 | own s=>
  obtain⟨h1,U⟩:=fz.sm av;simp only[gZ];rw[bG (by omega),bG (OQ U)]
 | ro s=>
  obtain⟨h1,U⟩:=fz.sm av;simp only[gZ];rw[bG (by omega),bG (OQ U)]
theorem I'(t:Nat)(r:fz):nn (hr t []) ((t,t+1)::r):=by
 intro g av;cases g with
 | free=>rfl
 | own s=>
  obtain⟨h1,U⟩:=fz.sm av;simp only[hr];rw[bG (by omega)];rfl
 | ro s=>
  obtain⟨h1,U⟩:=fz.sm av;simp only[hr];rw[bG (by omega)];rfl
variable{P:Program}{st:aD}{e:de}{obs:List Prop}
theorem OS{d:Nat}{t:TypeId}{x y:Operand}{ans b':List b4}(h:xM P st d t x y ans=some (e,g,b',obs)):nn g e.mn/\e.dst=some d:=by
 unfold xM at h;split at h
 ·split at h
  ·split at h
   ·split at h
    ·split at h
     ·simp only[aS,bq]at h;obtain⟨rfl,rfl,_,_⟩:=h;simp_all[OR]
     cases h
    cases h
   ·split at h
    ·split at h
     ·simp only[aS,bq]at h;obtain⟨rfl,rfl,_,_⟩:=h;exact⟨fun t bU=>by simp only[I' d _ t bU,oy];exact OR d _ t bU,rfl⟩
     cases h
    cases h
   cases h
  cases h
 cases h
theorem Of{o:Oper}{ans b':List b4}(h:qY P st o ans=some (e,g,b',obs)):
  nn g e.mn/\∃d,e.dst=some d/\nm P st o ans=some (⟨(st.map (az.ct g fun _=>true)).env.set d e.p,(st.map (az.ct g fun _=>true)).boxes⟩,b',obs):=by
 obtain⟨dst,op,type,pos,after,guard⟩:=o;have gh:∀st:aD,st.map (az.ct some fun _=>true)=st:=by
  intro st;have:(az.ct some fun _=>true)=_root_.id:=by
   funext l;cases l<;>simp[az.ct,akC]
  rw[this];simp only[aD.map];have h1:aE.map _root_.id=_root_.id:=by
   funext p;cases p with
   | aF a=>cases a<;>simp[aE.map,bm.map]
   | fv as=>
    simp only[aE.map,id]
    congr 1
    have:bm.map _root_.id=_root_.id:=by funext a;cases a<;>simp[bm.map]
    simp_all
  simp_all
 simp only[qY]at h;split at h
 ·rename_i d f args ts;split at h
  ·rename_i fn fH rs r h1 U;split at h
   ·rename_i al;simp only[aS,bq]at h;obtain⟨rfl,rfl,rfl,rfl⟩:=h;refine⟨akE,d,rfl,?_⟩;simp only[nm,oh,NG,oz,lN,I4,h1,U,jM];rw[bM al];rfl
   cases h
  cases h
 ·rename_i d t n parts;split at h
  ·rename_i k es ms aw;simp only[aS,bq]at h;obtain⟨rfl,rfl,rfl,rfl⟩:=h;refine⟨akF,d,rfl,?_⟩;simp only[nm,oh];exact ajG aw ans
  cases h
 ·rename_i d x y t c5;split at h
  ·rename_i yA;subst yA;refine⟨(OS h).1,d,(OS h).2,?_⟩;simp only[nm,oh,gC,Sx.xi];unfold xM at h;split at h
   ·rename_i tZ k he;simp only[he];split at h
    ·rename_i i hi;simp only[hi];split at h
     ·rename_i z gm ci es s bk ap;split at h
      ·rename_i bL dD a2 ca ai;split at h
       ·rename_i al;obtain⟨rfl,al⟩:=al;simp only[aS,bq]at h;obtain⟨rfl,rfl,rfl,rfl⟩:=h;simp only[Bf,ap,gC,bk,ai];rw[bM al];rfl
       cases h
      cases h
     ·rename_i z _ bk ap;split at h
      ·rename_i bL dD a2 ca ai;split at h
       ·rename_i al;simp only[aS,bq]at h;obtain⟨rfl,rfl,rfl,rfl⟩:=h;have p2:(st.il d []).bh y=(st.bh y).map (az.ct (hr d []) fun _=>true):=akD st _ (fun _=>rfl) rfl (fun _=>rfl) y;simp only[Bf,ap,bk,p2,ai];rw[bM al];have:(st.il d []).vE d dD=st.map (az.ct (fun g=>(hr d [] g).bind (gZ d dD)) fun _=>true):=by
         simp only[aD.il,aD.vE,aD.map_map]
         congr 1
         funext l;refine az.asc _ _ (fun g t h=>?_) l;cases g with
         | free=>grind[gZ]
         | own s=>
          grind[gZ]
         | ro s=>
          grind[gZ]
        rw[this]
       cases h
      cases h
     cases h
    cases h
   cases h
  cases h
 ·cases h
 ·rename_i d ty;split at h
  ·rename_i i hi;split at h
   ·rename_i z bk;split at h
    ·rename_i aG;simp only[aS,bq]at h;obtain⟨rfl,rfl,rfl,rfl⟩:=h;refine⟨I' _ _,d,rfl,?_⟩;simp only[nm,C7,hi,bk];rw[bM aG];rfl
    cases h
   cases h
  cases h
 ·rename_i d t l c;unfold NP at h;split at h
  ·rename_i e hu;split at h
   ·rename_i i c4 fU b8 jc hi e1 e2;split at h
    ·rename_i z bk;split at h
     ·rename_i al;simp only[aS,bq]at h;obtain⟨rfl,rfl,rfl,rfl⟩:=h;refine⟨I' _ _,d,rfl,?_⟩;simp only[nm,oh,Cj,hu,hi,e1,e2,bk];rw[bM al];rfl
     cases h
    cases h
   cases h
  cases h
 ·rename_i d t x cP hi h0;split at h
  ·rename_i aZ;unfold E9 at h;split at h
   ·rename_i e k s ci es iU e1 e2;split at h
    ·rename_i al;obtain⟨rfl,ai⟩:=al;split at h
     ·rename_i l bH cb d';simp only[aS,bq]at h;obtain⟨rfl,rfl,rfl,rfl⟩:=h;refine⟨ajq,d,rfl,?_⟩;simp_all[nm,oh,gC,xj,nj,true_and]
     cases h
    cases h
   cases h
  rename_i aZ;rw[bX]at h;obtain⟨⟨bK,b2,cg⟩,h1,h⟩:=h;simp only[bq]at h;obtain⟨rfl,rfl,rfl,rfl⟩:=h;simp_all[OP,nm,oh,bG]
 ·rename_i d kt lv n' k0 mY n6 n7;rw[bX]at h;obtain⟨⟨bK,b2,cg⟩,h1,h⟩:=h;simp only[bq]at h;obtain⟨rfl,rfl,rfl,rfl⟩:=h;refine⟨OP _,d,rfl,?_⟩;rw[gh];have MH:nm P st ⟨some d,op,type,pos,after,guard⟩ ans=oh P st ⟨some d,op,type,pos,after,guard⟩ ans:=by
   simp_all[nm]
  grind[oh,pt]
 ·rename_i ty s y;split at h
  ·rename_i gm vs v i e1 e2 cb;split at h
   ·rename_i al;simp only[aS,bq]at h;obtain⟨rfl,rfl,rfl,rfl⟩:=h;refine⟨akB,s,rfl,?_⟩;simp only[nm,C9,e1,e2,cb];grind
   cases h
  cases h
 cases h
theorem Rel.weaken{w0:ee}{bn:aD}{a:Act}{w:World}(h:Rel w0 st a w)(a8:bn.env.length=st.env.length)(aw:bn.boxes=st.boxes)
  (he:∀(i:Nat) (p:aE),bn.env[i]?=some p->p=.ck\/st.env[i]?=some p):Rel w0 bn a w:=by
 obtain⟨ω,τ,h⟩:=h;refine⟨ω,τ,h.defers,h.size.trans a8.symm,h.below,h.owned,h.fixed,h.pinned,fun i p hp=>?_,by rw[aw];exact h.boxes⟩;rcases he i p hp with rfl | U
 ·have:i<a.tmps.size:=by
   rw[h.size,<-a8];grind
  exact⟨a.tmps[i],by simp[this],aa⟩
 exact h.env i p U
def de.fN(e:de)(t:Nat):Option aE:=if e.dst=some t then some e.p else if t∈e.use then some .ck else none
def wF(env:List aE):List Nat->List aE
 | s::us=>wF (env.set s .ck) us
 | []=>env
theorem Og:∀(us:List Nat) (env:List aE) (t:Nat),(wF env us)[t]?=(env[t]?).map fun p=>if t∈us then .ck else p
 | [],env,t=>by simp[wF]
 | s::us,env,t=>by
  simp only[wF,Og us,nD,ev];grind
def de.apply(e:de)(env:List aE):List aE:=
 match e.dst with
 | some d=>(wF env e.use).set d e.p
 | none=>env
theorem de.apply_get(aG:e.dst≠none)(env:List aE)(t:Nat):(e.apply env)[t]?=(env[t]?).map fun p=>(e.fN t).getD p:=by
 unfold de.apply de.fN;split
 ·rename_i d eb;have ai:∀(t:Nat),(wF env e.use)[t]?=(env[t]?).map fun p=>if t∈e.use then .ck else p:=Og e.use env
  grind
 grind
def gw(L:Nat->Bool)(t:Nat):Nat->List de->aE->aE
 | _,[],acc=>acc
 | k,e::es,acc=>gw L t (k+1) es (if L k then (e.fN t).getD acc else acc)
variable{L:Nat->Bool}
theorem zl{L':Nat->Bool}:∀{es:List de} {k:Nat} {acc:aE},(∀(j:Nat) (e:de),es[j]?=some e->e.fN t≠none->L (k+j)=L' (k+j))->gw L t k es acc=gw L' t k es acc
 | [],_,_,_=>rfl
 | e::es,k,acc,h=>by
  simp only[gw];have b5:(if L k then (e.fN t).getD acc else acc)=(if L' k then (e.fN t).getD acc else acc):=by
   cases bU:e.fN t with
   | none=>simp
   | some p=>have:=h 0 e rfl (by simp[bU]);grind
  rw[b5];exact zl fun j e' bg bU=>by have:=h (j+1) e' (by grind) bU;grind
theorem Oh{p:aE}:∀{es:List de} {k i:Nat} {acc:aE} {e:de},es[i]?=some e->e.fN t=some p->L (k+i)=true->
  (∀(j:Nat) (e':de),i<j->es[j]?=some e'->e'.fN t≠none->L (k+j)=false)->gw L t k es acc=p
 | [],_,_,_,_,h,_,_,_=>by simp at h
 | bB::es,k,0,acc,e,h,bU,cv,kr=>by
  simp at h;subst h;simp only[gw];rw[mr]at cv;rw[cv,bU];simp only[gC,jM];have:∀(es:List de) (k:Nat),(∀(j:Nat) (e':de),es[j]?=some e'->e'.fN t≠none->L (k+j)=false)->gw L t k es p=p:=by
   intro es;induction es with
   | nil=>intro k _;rfl
   | cons e1 es eH=>
    intro k h;simp only[gw];have h1:(if L k then (e1.fN t).getD p else p)=p:=by
     cases bU:e1.fN t with
     | none=>simp
     | some q=>have:=h 0 e1 rfl (by simp[bU]);grind
    rw[h1];exact eH (k+1) fun j e' bg yy=>by have:=h (j+1) e' (by grind) yy;grind
  exact this es (k+1) fun j e' bg yy=>by have:=kr (j+1) e' (by omega) (by grind) yy;grind
 | bB::es,k,i+1,acc,e,h,bU,cv,kr=>by
  simp only[gw];exact Oh (i:=i) (by simpa using h) bU (by rwa[show k+1+i=k+(i+1) by omega]) fun j e' bg yk yy=>by
   have:=kr (j+1) e' (by omega) (by simpa using yk) yy;rwa[show k+(j+1)=k+1+j by omega]at this
def eK(env0:List aE)(bs:List (Nat×List az))(L:Nat->Bool)(es:List de):aD:=⟨env0.zipIdx.map fun x=>gw L x.2 0 es x.1,bs⟩
variable{bs:List (Nat×List az)}
theorem pw{env0:List aE}{es:List de}(t:Nat):(eK env0 bs L es).env[t]?=(env0[t]?).map fun p=>gw L t 0 es p:=by
 simp only[eK,dr,List.getElem?_zipIdx,dF];grind
theorem wQ{env0:List aE}{es:List de}:(eK env0 bs L es).env.length=env0.length:=by simp[eK]
def Ja(ops:Array Oper)(o:Oper):Option Nat:=o.guard.bind fun x=>(ops[x.1]?).bind (·.dst)
def reads(ops:Array Oper)(o:Oper):List Nat:=o.op.operands.toList.filterMap OO++(Ja ops o).toList
def wR(d:Nat):de:=⟨some d,.one (.v undef),[],[]⟩
def ext(e:de)(env:List aE):de:=
 if e.mn.isEmpty then e else { e with use:=e.use++(env.zipIdx.filterMap fun x=>if x.1.ej e.mn&&!(e.dst==some x.2) then some x.2 else none) }
theorem Jb(e:de)(env:List aE):∃u,ext e env={ e with use:=u }:=by
 unfold ext;split
 ·grind
 grind
structure hh where
 t:Nat
 i:Nat
 j:Nat
 k:Nat
 kT:Nat
 es:List (List D)
 esT:List (List D)
def DV(t:Nat)(bs:List (Nat×List az)):Option (Nat×List (List D)):=
 (bs.find? fun x=>(x.2.findSome? (r5 t)).isSome).bind fun x=>(df x.1 bs).bind fun ls=>ls.findSome? (r5 t)
theorem akG{w0:ee}{a:Act}{w:World}{ω:Own}{τ:Nat->Nat×Value}(h:cr w0 st a w ω τ){kT:Nat}{esT:List (List D)}(e:DV t st.boxes=some (kT,esT)):∃v,Sat w ω τ (.J (.own t) kT esT) v:=by
 unfold DV at e;rw[lf]at e;obtain⟨x,_,e⟩:=e;rw[lf]at e;obtain⟨ls,aw,e⟩:=e;obtain⟨l,ap,e⟩:=List.exists_of_findSome?_eq_some e;obtain⟨b,arr,ty,_,_,_,ai⟩:=h.boxes _ ls aw;obtain⟨n,a8⟩:=ox.1 ap;obtain⟨u,_,hu⟩:=ai.2 n l a8;exact⟨u,IP e hu⟩
def qv(st:aD)(o:Oper):Option hh:=
 match o.dst,o.op with
 | some _,.call ⟨.builtin .append,⟨[x,_]⟩,⟨[_,_]⟩⟩=>
  match (st.bh x).leaf with
  | some (.aO s i j k es .here)=>
   match DV s st.boxes with
   | some (kT,esT)=>some ⟨s,i,j,k,kT,es,esT⟩
   | none=>none
  | _=>none
 | _,_=>none
def tz(P:Program)(st:aD)(o:Oper)(ans:List b4):Option (de×List b4×List Prop):=
 match qv st o,o.dst,o.op with
 | some v,some d,.call ⟨.builtin .append,⟨[_,y]⟩,⟨[t,c5]⟩⟩=>
  if t=c5 then (si P t v.t v.i v.j v.k v.es v.esT (st.bh y) ans).map fun r=>(⟨some d,r.1,[],[]⟩,r.2.1,r.2.2) else none
 | _,_,_=>none
def hh.fix(v:hh):az->Option (List Prop)
 | .J (.own s) dq dx=>if s=v.t then (if dq=v.kT then some [dx=v.esT] else none) else some []
 | .cB (.own s) dq dx _ _=>if s=v.t then (if dq=v.kT then some [dx=v.esT] else none) else some []
 | .J (.ro s) _ _=>if s=v.t then none else some []
 | .cB (.ro s) _ _ _ _=>if s=v.t then none else some []
 | .aO s a b dq dx m=>if s=v.t/\b=v.j then (if dq=v.k/\m.home=true then some [a=v.i,dx=v.es] else none) else some []
 | .eX _ _=>none
 | _=>some []
def hh.lO(v:hh)(l:az):Prop:=gx v.t v.i v.j v.k v.es v.kT v.esT l=l/\∀a∈l.idx v.t v.j,a=v.i
theorem hh.VY{v:hh}{l:az}(h:v.fix l=some obs)(aZ:cA obs):v.lO l:=by
 obtain⟨t,i,j,k,kT,es,esT⟩:=v;unfold hh.lO;simp only;cases l with
 | J g dq dx=>
  refine⟨?_,fun a ag=>by grind[az.idx]⟩;cases g with
  | free=>rfl
  | own s=>
   simp only[hh.fix]at h;split at h
   ·rename_i ai;subst ai;split at h
    ·rename_i hk;subst hk;cases h;have e:dx=esT:=aZ.1;grind[gx]
    cases h
   grind[gx]
  | ro s=>
   grind[hh.fix,gx]
 | cB g dq dx x y=>
  refine⟨?_,fun a ag=>by grind[az.idx]⟩;cases g with
  | free=>rfl
  | own s=>
   simp only[hh.fix]at h;split at h
   ·rename_i ai;subst ai;split at h
    ·rename_i hk;subst hk;cases h;have e:dx=esT:=aZ.1;grind[gx]
    cases h
   grind[gx]
  | ro s=>
   grind[hh.fix,gx]
 | aO s a b dq dx m=>
  simp only[hh.fix]at h;split at h
  ·rename_i ai;obtain⟨rfl,rfl⟩:=ai;split at h
   ·rename_i hk;cases h;have e1:a=i:=aZ.1;have e2:dx=es:=aZ.2.1;simp_all[gx,az.idx]
   cases h
  simp_all[gx,bG,az.idx]
 | eX t vs=>cases h
 | _=>exact⟨rfl,fun a ag=>by grind[az.idx]⟩
def bm.sI:bm->List az
 | .one l=>[l]
 | .agg ls=>ls
def aE.sI:aE->List az
 | .aF a=>a.sI
 | .fv as=>as.flatMap bm.sI
theorem bm.yN{p:az->Prop}{a:bm}(h:∀l∈a.sI,p l):a.ki p:=by
 cases a with
 | one l=>exact h l (by simp[bm.sI])
 | agg ls=>exact h
theorem aE.yN{p:az->Prop}{q:aE}(h:∀l∈q.sI,p l):q.ki p:=by
 cases q with
 | aF a=>exact bm.yN h
 | fv as=>exact fun a ag=>bm.yN fun l ap=>h l (nF.2 ⟨a,ag,ap⟩)
def hh.fixes(v:hh):List az->Option (List Prop)
 | []=>some []
 | l::r=>
  match v.fix l,hh.fixes v r with
  | some a,some b=>some (a++b)
  | _,_=>none
theorem hh.MC{v:hh}:∀{ls:List az} {obs:List Prop},v.fixes ls=some obs->cA obs->∀l∈ls,v.lO l
 | [],_,_,_,l,ap=>by cases ap
 | fo::r,obs,h,aZ,l,ap=>by
  simp only[hh.fixes]at h;split at h
  ·rename_i a b h1 U;cases h;obtain⟨cy,ca⟩:=aZ.append;rcases ev.1 ap with rfl | ap
   ·grind[hh.VY]
   exact hh.MC U ca l ap
  cases h
def xh(bs:List (Nat×List az))(all:Nat->List az):Nat->List Oper->List aE->List de->Option (List Prop)
 | i,o::os,env,e::es=>
  match qv ⟨env,bs⟩ o with
  | some v=>
   match v.fixes (all i),xh bs all (i+1) os (e.apply env) es with
   | some a,some b=>some (a++b)
   | _,_=>none
  | none=>xh bs all (i+1) os (e.apply env) es
 | _,_,_,_=>some []
theorem Oi{all:Nat->List az}:∀{l:List Oper} {es:List de} {env:List aE} {i0:Nat} {obs:List Prop},xh bs all i0 l env es=some obs->cA obs->
  ∀(i:Nat) (o:Oper),l[i]?=some o->i<es.length->∀v,qv ⟨(es.take i).foldl (fun env e=>e.apply env) env,bs⟩ o=some v->∀jU∈all (i0+i),v.lO jU
 | [],_,_,_,_,_,_,i,o,hi,_,_,_,_,_=>by simp at hi
 | _::_,[],_,_,_,_,_,i,o,_,ap,_,_,_,_=>by simp at ap
 | Ca::os,e::es,env,i0,obs,h,aZ,i,o,hi,ap,v,bz,jU,F1=>by
  simp only[xh]at h;cases i with
  | zero=>
   simp only[kJ,aS]at hi;subst hi;simp only[List.take_zero,List.foldl_nil]at bz;rw[bz]at h;simp only at h;split at h
   ·rename_i a b h1 U;cases h;exact hh.MC h1 aZ.append.1 jU F1
   cases h
  | succ i=>
   have go:∀{b:List Prop},xh bs all (i0+1) os (e.apply env) es=some b->cA b->v.lO jU:=fun U ca=>
    Oi U ca i o (by grind) (by grind) v (by grind) jU (by grind)
   split at h
   ·split at h
    ·rename_i a b h1 U;cases h;exact go U aZ.append.2
    cases h
   grind
def s4(P:Program)(ops:Array Oper)(gs:List Nat)(bs:List (Nat×List az)):List Oper->List aE->List b4->Option (List de×List aE×List b4×List Prop)
 | [],env,ans=>some ([],env,ans,[])
 | o::rest,env,ans=>
  match qu ops ⟨env,bs⟩ o [] with
  | some (true,_,_,_)=>
   match qY P ⟨env,bs⟩ o ans with
   | some (e,_,eT,fq)=>
    match (match o.dst with | some d=>gs.contains d | none=>false),e.p.leaf,eT with
    | true,some (.a' c),.nJ b::r=>
     (s4 P ops gs bs rest (de.apply { ext e env with p:=.one (.v (.bool b)) } env) r).map fun x=>({ ext e env with p:=.one (.v (.bool b)) }::x.1,x.2.1,x.2.2.1,(c=b)::(fq++x.2.2.2))
    | _,_,_=>(s4 P ops gs bs rest ((ext e env).apply env) eT).map fun x=>(ext e env::x.1,x.2.1,x.2.2.1,fq++x.2.2.2)
   | none=>
    match tz P ⟨env,bs⟩ o ans with
    | some (e,eT,fq)=>(s4 P ops gs bs rest (e.apply env) eT).map fun x=>(e::x.1,x.2.1,x.2.2.1,fq++x.2.2.2)
    | none=>none
  | some (false,_,_,_)=>
   match o.dst with
   | some d=>(s4 P ops gs bs rest ((wR d).apply env) ans).map fun x=>(wR d::x.1,x.2.1,x.2.2.1,x.2.2.2)
   | none=>none
  | none=>none
def Fact(P:Program)(ops:Array Oper)(bs:List (Nat×List az))(env:List aE)(o:Oper)(e:de):Prop:=
 (∃st1 eE cy,qu ops ⟨env,bs⟩ o []=some (false,st1,eE,cy)/\∃d,o.dst=some d/\e=wR d)\/
 (∃st1 eE cy,qu ops ⟨env,bs⟩ o []=some (true,st1,eE,cy)/\∃ans bB g b' obs,qY P ⟨env,bs⟩ o ans=some (bB,g,b',obs)/\cA obs/\
  ∃u,(e={ bB with use:=u }\/∃c b,bB.p=.one (.a' c)/\c=b/\e={ bB with use:=u,p:=.one (.v (.bool b)) }))\/
 (∃st1 eE cy,qu ops ⟨env,bs⟩ o []=some (true,st1,eE,cy)/\∃ans b' obs,tz P ⟨env,bs⟩ o ans=some (e,b',obs)/\cA obs)
theorem zm{ops:Array Oper}{gs:List Nat}:∀{l:List Oper} {env so:List aE} {ans b':List b4} {es:List de} {obs:List Prop},
  s4 P ops gs bs l env ans=some (es,so,b',obs)->cA obs->
  es.length=l.length/\so=es.foldl (fun env e=>e.apply env) env/\∀(i:Nat) (o:Oper),l[i]?=some o->∃e,es[i]?=some e/\Fact P ops bs ((es.take i).foldl (fun env e=>e.apply env) env) o e
 | [],env,so,ans,b',es,obs,h,_=>by
  simp_all[s4,aS,bq]
 | o::rest,env,so,ans,b',es,obs,h,aZ=>by
  have fin:∀(e:de) (dx:List de) (Fa:List aE),(dx.length=rest.length/\Fa=dx.foldl (fun env e=>e.apply env) (e.apply env)/\∀(i:Nat) (o:Oper),rest[i]?=some o->∃e',dx[i]?=some e'/\Fact P ops bs ((dx.take i).foldl (fun env e=>e.apply env) (e.apply env)) o e')->
    Fact P ops bs env o e->(e::dx).length=(o::rest).length/\Fa=(e::dx).foldl (fun env e=>e.apply env) env/\∀(i:Nat) (pg:Oper),(o::rest)[i]?=some pg->∃e',(e::dx)[i]?=some e'/\Fact P ops bs (((e::dx).take i).foldl (fun env e=>e.apply env) env) pg e':=by
   intro e dx Fa ⟨h1,U,ax⟩ b0;refine⟨by simp[h1],U,fun i pg kW=>?_⟩;cases i with
   | zero=>grind
   | succ i=>grind
  simp only[s4]at h;split at h
  ·rename_i st1 eE cy hw;split at h
   ·rename_i e g eT fq aG;split at h
    ·rename_i c b r av ap;rw[bX]at h;obtain⟨⟨ov,kf,vy,tD⟩,h1,h⟩:=h;simp only[bq]at h;obtain⟨rfl,rfl,_,rfl⟩:=h;have NU:(c=b)/\cA tD:=⟨aZ.1,(cA.append aZ.2).2⟩
     have yR:=(cA.append aZ.2).1;refine fin _ _ _ (zm h1 NU.2) (.inr (.inl ⟨_,_,_,hw,_,_,_,_,_,aG,yR,(Jb e env).choose,.inr ⟨c,b,?_,?_,?_⟩⟩))
     ·cases hp:e.p with
      | aF a=>
       rw[hp]at ap;cases a with
       | one l=>grind[aE.leaf,aS]
       | agg ls=>cases ap
      | fv as=>rw[hp]at ap;cases ap
     ·exact NU.1
     grind
    rw[bX]at h;obtain⟨⟨ov,kf,vy,tD⟩,h1,h⟩:=h;simp only[bq]at h;obtain⟨rfl,rfl,_,rfl⟩:=h;obtain⟨yR,ca⟩:=aZ.append;exact fin _ _ _ (zm h1 ca) (.inr (.inl ⟨_,_,_,hw,_,_,_,_,_,aG,yR,(Jb e env).choose,.inl (Jb e env).choose_spec⟩))
   split at h
   ·rename_i e eT fq Gd;rw[bX]at h;obtain⟨⟨ov,kf,vy,tD⟩,h1,h⟩:=h;simp only[bq]at h;obtain⟨rfl,rfl,_,rfl⟩:=h;obtain⟨yR,ca⟩:=aZ.append;exact fin _ _ _ (zm h1 ca) (.inr (.inr ⟨_,_,_,hw,_,_,_,Gd,yR⟩))
   cases h
  ·rename_i st1 eE cy hw;split at h
   ·rename_i d aG;rw[bX]at h;obtain⟨⟨ov,kf,vy,tD⟩,h1,h⟩:=h;simp only[bq]at h;obtain⟨rfl,rfl,_,rfl⟩:=h;exact fin _ _ _ (zm h1 aZ) (.inl ⟨_,_,_,hw,d,aG,rfl⟩)
   cases h
  cases h
end Go.Sx
namespace Go.Sx
open Go.RowKit
variable{st bn:aD}
theorem Oj{parts:List (Nat×Operand)}(h:∀x∈parts,st.bh x.2=bn.bh x.2):(parts.map fun x=>(x.1,st.bh x.2))=parts.map fun x=>(x.1,bn.bh x.2):=
 kH fun x ak=>by rw[h x ak]
variable{P:Program}{ans:List b4}
theorem Ol{op:Op}(aw:st.boxes=bn.boxes)(h:∀x∈op.operands.toList,st.bh x=bn.bh x):pt P st op ans=pt P bn op ans:=by
 cases op<;>simp only[pt,Op.operands,ev,List.mem_nil_iff,forall_eq_or_imp,or_false,forall_eq]at h ⊢
 case load t x=>grind[Cr]
 case slice t x cP hi h0=>
  have ak:st.bh x=bn.bh x:=h x (by simp);have aZ:∀o:Option Operand,(∀y,o=some y->st.bh y=bn.bh y)->k1 st o=k1 bn o:=by
   intro o aZ;cases o with
   | none=>rfl
   | some y=>simp_all[k1]
  simp_all[Cs]
 case build t cn=>
  have:(cn.toList.map fun x=>(x.1,st.bh x.2))=cn.toList.map fun x=>(x.1,bn.bh x.2):=Oj fun x ak=>h x.2 (by grind)
  grind[Ct]
 case call c=>
  obtain⟨callee,args,ts⟩:=c;cases callee with
  | value f=>rfl
  | invoke r i=>rfl
  | builtin b=>
   simp only[Call.operands]at h;have q4:∀x∈args.toList,st.bh x=bn.bh x:=fun x ak=>h x (by grind)
   simp only;generalize args.toList=l at q4;unfold Cg;grind
 case makeFunc fn first captured=>
  have al:captured.toList.map st.bh=captured.toList.map bn.bh:=kH fun x ak=>h x (by grind)
  simp only[Cf,al]
 all_goals simp[h]
variable{o:Oper}
theorem akH(aw:st.boxes=bn.boxes)(h:∀x∈o.op.operands.toList,st.bh x=bn.bh x):qY P st o ans=qY P bn o ans:=by
 obtain⟨dst,op,type,pos,after,guard⟩:=o;simp only at h;cases dst with
 | none=>
  cases op with
  | store ty x y=>
   cases x with
   | tmp s=>
    simp_all[Op.operands,aD.bh,qY]
   | _=>rfl
  | _=>rfl
 | some d=>
  unfold qY;split
  ·rename_i f args ts e1 e2;simp only at e1 e2;subst e2;have q4:∀x∈args.toList,st.bh x=bn.bh x:=fun x ak=>h x (by grind[Op.operands,Call.operands])
   have:args.toList.mapM (fun x=>(st.bh x).jb st.boxes)=args.toList.mapM (fun x=>(bn.bh x).jb bn.boxes):=by
    rw[<-aw];generalize args.toList=l at q4;generalize st.boxes=bs;induction l with
    | nil=>rfl
    | cons x l eH=>grind
   rw[this]
  ·rename_i t n parts e1 e2;simp only at e1 e2;subst e2;have:(parts.toList.map fun x=>(x.1,st.bh x.2))=parts.toList.map fun x=>(x.1,bn.bh x.2):=Oj fun x ak=>h x.2 (by grind[Op.operands])
   grind[Bj]
  ·rename_i x y t c5 e1 e2;simp only at e1 e2;subst e2;have ak:st.bh x=bn.bh x:=h x (by simp[Op.operands,Call.operands]);have bD:st.bh y=bn.bh y:=h y (by simp[Op.operands,Call.operands]);simp only[xM,ak,bD]
  ·rfl
  ·rfl
  ·grind[Op.operands]
  ·rename_i t x cP hi h0 e1 e2;simp only at e1 e2;subst e2;have ak:st.bh x=bn.bh x:=h x (by simp[Op.operands]);have aZ:∀o:Option Operand,(∀y,o=some y->st.bh y=bn.bh y)->k1 st o=k1 bn o:=by
    intro o aZ;cases o with
    | none=>rfl
    | some y=>simp_all[k1]
   rw[Ol aw h];simp only[E9,ak];rw[aZ cP (fun y e=>h y (by simp[Op.operands,e])),aZ hi (fun y e=>h y (by simp[Op.operands,e]))]
  ·rw[Ol aw h]
  ·grind
  rfl
theorem MB{x:Operand}(h:∀t,OO x=some t->st.env.getD t .ck=bn.env.getD t .ck):st.bh x=bn.bh x:=by
 cases x with
 | tmp t=>simpa[aD.bh]using h t rfl
 | _=>rfl
def lj(ms:List Nat)(i j:Nat):Bool:=(ms.getD j 0).testBit i
def vi(ms:List Nat):List Edge->Nat
 | []=>0
 | e::r=>if Region.binds .any e then (2 ^ e.on ||| ms.getD e.on 0) ||| vi ms r else vi ms r
def qf:List Oper->List Nat->List Nat
 | [],acc=>acc
 | o::r,acc=>qf r (acc++[vi acc o.after.toList])
variable{ms:List Nat}{i:Nat}
theorem Jc:∀{l:List Edge},(vi ms l).testBit i=true->∃e∈l,Region.binds .any e=true/\(i=e.on\/lj ms i e.on=true)
 | [],h=>by grind[vi]
 | e::r,h=>by
  simp only[vi]at h;split at h
  ·rename_i aw;rw[Nat.testBit_or,Nat.testBit_or,pS,pS,Nat.testBit_two_pow,cU]at h;rcases h with (h | h) | h
   ·grind
   ·exact⟨e,by simp,aw,.inr h⟩
   obtain⟨e',h1,U⟩:=Jc h;exact⟨e',by simp[h1],U⟩
  obtain⟨e',h1,U⟩:=Jc h;exact⟨e',by simp[h1],U⟩
def pV{α:Type}(f:Nat->α->Bool):Nat->List α->Bool
 | _,[]=>true
 | k,x::r=>f k x&&pV f (k+1) r
theorem vj{α:Type}{f:Nat->α->Bool}:∀{l:List α} {k:Nat},pV f k l=true->∀(i:Nat) (x:α),l[i]?=some x->f (k+i) x=true
 | [],_,_,i,x,h=>by simp at h
 | y::r,k,h,0,x,ak=>by
  simp_all[pV,cF]
 | y::r,k,h,i+1,x,ak=>by
  simp only[pV,cF]at h;have:=vj h.2 i x (by simpa using ak);rwa[show k+1+i=k+(i+1) by omega]at this
def qw(ms:List Nat)(os:List Oper):Bool:=
 pV (fun j o=>ms.getD j 0==vi ms o.after.toList&&o.after.toList.all fun e=>!Region.binds .any e||decide (e.on<j)) 0 os
variable{ops:Array Oper}
theorem Jd(h:qw ms ops.toList=true){j:Nat}(aZ:ops[j]?=some o):(∀e∈o.after,Region.binds .any e=true->e.on<j)/\
  ∀i,lj ms i j=true->∃e∈o.after,Region.binds .any e=true/\(i=e.on\/lj ms i e.on=true):=by
 have:=vj h j o (by grind);simp only[dF,cF,hP,fx,pS,h8,cU]at this;grind[lj,Jc]
def px(ops:Array Oper)(bS:Array Bool):Prop:=
 ∀(j:Nat) (o:Oper),bS.getD j false=true->ops[j]?=some o->∀e∈o.after,Region.binds .any e=true->bS.getD e.on false=true
variable{bS:Array Bool}
theorem Dk{j:Nat}(h:bS.getD j false=true):j<bS.size:=by
 grind
theorem Dl(h:qw ms ops.toList=true)(al:px ops bS)(ai:bS.size=ops.size):∀(j:Nat),bS.getD j false=true->lj ms i j=true->bS.getD i false=true:=by
 intro j;induction j using Nat.strongRecOn with
 | ind j eH=>
  intro bg ag;have bJ:j<ops.size:=ai▸Dk bg;have aZ:ops[j]?=some ops[j]:=lb bJ;obtain⟨h1,U⟩:=Jd h aZ;obtain⟨e,he,aw,p1⟩:=U i ag;have vY:=al j _ bg aZ e he aw;grind
variable{k:Nat}
theorem yV(h:qw ms ops.toList=true)(al:px ops bS)(ai:bS.size=ops.size)(hi:i∈Region.ready .any ops bS)(ag:lj ms k i=true):bS.getD k false=true:=by
 rw[mem_ready]at hi;obtain⟨_,o,aZ,he⟩:=hi;obtain⟨_,U⟩:=Jd h aZ;obtain⟨e,BJ,aw,p1⟩:=U k ag;rcases p1 with rfl | p1
 ·grind
 grind[Dl]
theorem px.ready(al:px ops bS)(hi:i∈Region.ready .any ops bS):px ops (bS.setIfInBounds i true):=by
 intro j o bg aZ e he aw;rw[mem_ready]at hi;obtain⟨_,auz,auc,nZ⟩:=hi;by_cases uk:i=j
 ·grind[getD_set_true]
 rw[getD_set_ne false uk]at bg;exact getD_set_true (al j o bg aZ e he aw)
theorem Je(h:qw ms ops.toList=true)(ai:bS.size=ops.size)(aH:Region.ready .any ops bS=[]):∀j,j<ops.size->bS.getD j false=true:=by
 intro j;induction j using Nat.strongRecOn with
 | ind j eH=>
  intro bJ;have aZ:ops[j]?=some ops[j]:=lb bJ;obtain⟨h1,_⟩:=Jd h aZ;cases ap:bS.getD j false with
  | true=>rfl
  | false=>
   have:j∈Region.ready .any ops bS:=by
    grind[mem_ready,Nat.lt_trans]
   grind
def yW(e:de):List Nat:=e.dst.toList++e.use
def Dm(ops:Array Oper)(o:Oper)(e:de):List Nat:=yW e++reads ops o
def Cc(ms:List Nat)(i k:Nat):Bool:=if k<i then lj ms k i else lj ms i k
def Io(ops:Array Oper)(ms:List Nat)(es:List de):Bool:=
 pV (fun i x=>pV (fun k e=>k==i||Cc ms i k||!((yW e).any fun t=>(Dm ops x.1 x.2).contains t)) 0 es) 0 (ops.toList.zip es)
def wS(ms:List Nat)(es:List de)(i cP:Nat)(s:Option Nat):Bool:=es.zipIdx.any fun y=>decide (cP<=y.2)&&lj ms y.2 i&&(match s with | some t=>y.1.use.contains t | none=>false)
variable{es:List de}
theorem Om{cP:Nat}{s:Option Nat}(h:wS ms es i cP s=true):∃m y t,es[m]?=some y/\cP<=m/\lj ms m i=true/\t∈y.use/\s=some t:=by
 unfold wS at h;grind
def Ip(ms:List Nat)(es:List de)(env0:List aE)(bs:List (Nat×List az)):Bool:=
 pV (fun i e=>e.mn.isEmpty||
  (pV (fun j x=>j==i||lj ms i j||!x.p.ej e.mn||(match x.dst with | some t=>e.use.contains t | none=>false)||x.dst==e.dst||wS ms es i (j+1) x.dst) 0 es&&
   pV (fun t p=>!p.ej e.mn||e.use.contains t||wS ms es i 0 (some t)||e.dst==some t) 0 env0&&
   bs.all fun x=>!x.2.any (az.ej e.mn))) 0 es
variable{e:de}
theorem On{t:Nat}(h:e.fN t≠none):t∈yW e:=by
 unfold de.fN at h;split at h
 ·grind[yW]
 simp_all[yW,absurd]
theorem Oo(h:Io ops ms es=true){lm E':de}(aZ:ops[i]?=some o)(hi:es[i]?=some lm)(hk:es[k]?=some E')(c3:k≠i){t:Nat}
  (bU:E'.fN t≠none) (a8:t∈Dm ops o lm):Cc ms i k=true:=by
 have h1:=vj h i (o,lm) (by
  grind)
 have U:=vj h1 k E' hk;simp only[dF,pS,hP,h8]at U;rcases U with (U | U) | U
 ·grind
 ·exact U
 simp_all[hg,On,List.contains_iff_mem,absurd]
variable{r:fz}
theorem Tag.pe(h:r.isEmpty=true)(t:Tag):t.ej r=false:=by
 cases t with
 | free=>rfl
 | own s=>rw[List.isEmpty_iff]at h;subst h;rfl
 | ro s=>rw[List.isEmpty_iff]at h;subst h;rfl
theorem az.pe(h:r.isEmpty=true)(l:az):l.ej r=false:=by
 cases l with
 | aO t i j k es m=>exact Tag.pe h (.own t)
 | eX t vs=>
  simp only[az.ej,gn];refine⟨Tag.pe h (.own t),hg.2 fun c _=>?_⟩;cases c with
  | ck=>simp[eD.ej]
  | v x=>simp[eD.ej]
  | J t k es=>simp[eD.ej,Tag.pe h]
 | _=>simp[az.ej,Tag.pe h]
theorem bm.pe(h:r.isEmpty=true)(a:bm):a.ej r=false:=by
 cases a<;>simp[bm.ej,az.pe h]
theorem aE.pe(h:r.isEmpty=true)(p:aE):p.ej r=false:=by
 cases p<;>simp[aE.ej,bm.pe h]
variable{bs:List (Nat×List az)}
theorem akI{env0:List aE}(h:Ip ms es env0 bs=true)(hi:es[i]?=some e):
  (∀(j:Nat) (x:de),es[j]?=some x->j≠i->lj ms i j=true\/x.p.ej e.mn=false\/(∃t,x.dst=some t/\t∈e.use)\/x.dst=e.dst\/wS ms es i (j+1) x.dst=true)/\
  (∀(t:Nat) (p:aE),env0[t]?=some p->((p.ej e.mn=false\/t∈e.use)\/wS ms es i 0 (some t)=true)\/e.dst=some t)/\∀x∈bs,x.2.any (az.ej e.mn)=false:=by
 have h1:=vj h i e hi;simp only[pS,cU]at h1;rcases h1 with h1 | h1
 ·grind[aE.pe,hg,az.pe]
 simp only[cF]at h1;obtain⟨⟨h1,U⟩,ax⟩:=h1;refine⟨fun j x ak c3=>?_,fun t p hp=>?_,fun x ak=>?_⟩
 ·have:=vj h1 j x ak;grind
 ·have:=vj U t p hp;grind
 grind
theorem Iq{L:Nat->Bool}{t:Nat}:∀{es:List de} {k:Nat} {acc:aE},(gw L t k es acc=acc/\∀(m:Nat) (y:de),es[m]?=some y->L (k+m)=true->y.fN t=none)\/gw L t k es acc=.ck\/
  ∃j e,es[j]?=some e/\L (k+j)=true/\e.dst=some t/\gw L t k es acc=e.p/\∀(m:Nat) (y:de),es[m]?=some y->j<m->L (k+m)=true->y.fN t=none
 | [],_,_=>.inl ⟨rfl,fun m y h=>by simp at h⟩
 | e::es,k,acc=>by
  simp only[gw];rcases Iq (L:=L) (t:=t) (es:=es) (k:=k+1) (acc:=if L k then (e.fN t).getD acc else acc) with⟨h,a8⟩ | h | ⟨j,e',h1,U,ax,aI,aX⟩
  ·have tail:∀(m:Nat) (y:de),(e::es)[m+1]?=some y->L (k+(m+1))=true->y.fN t=none:=fun m y bD ap=>a8 m y (by grind) (by grind)
   by_cases cv:L k=true
   ·rw[bM cv]at h ⊢;unfold de.fN at h ⊢;by_cases aG:e.dst=some t
    ·rw[bM aG]at h ⊢;refine .inr (.inr ⟨0,e,rfl,cv,aG,h,fun m y bD hm ap=>?_⟩);cases m with
     | zero=>omega
     | succ m=>exact tail m y bD ap
    rw[bG aG]at h ⊢;by_cases hu:t∈e.use
    ·grind
    rw[bG hu]at h ⊢;refine .inl ⟨h,fun m y bD ap=>?_⟩;cases m with
    | zero=>
     grind
    | succ m=>exact tail m y bD ap
   grind
  ·grind
  refine .inr (.inr ⟨j+1,e',by grind,by grind,ax,aI,fun m y bD hm ap=>?_⟩);grind
theorem Oq{t:Nat}:∀{es:List de} {k i:Nat} {acc:aE} {e:de},es[i]?=some e->
  gw (fun j=>decide (j<k+i+1)) t k es acc=(e.fN t).getD (gw (fun j=>decide (j<k+i)) t k es acc)
 | [],_,_,_,_,h=>by simp at h
 | bB::es,k,0,acc,e,h=>by
  simp at h;subst h;have kr:∀(es:List de) (k m:Nat) (acc:aE),m<=k->gw (fun j=>decide (j<m)) t k es acc=acc:=by
   intro es;induction es with
   | nil=>intro k m acc _;rfl
   | cons e1 es eH=>
    intro k m acc hm;simp only[gw];rw[bG (by grind)];exact eH (k+1) m acc (by omega)
  simp_all[gw,bM,bG]
 | bB::es,k,i+1,acc,e,h=>by
  simp only[gw];rw[bM (by simp;omega),bM (by simp)];have:=Oq (t:=t) (es:=es) (k:=k+1) (i:=i) (acc:=(bB.fN t).getD acc) (by simpa using h);rw[show k+1+i+1=k+(i+1)+1 by omega,show k+1+i=k+(i+1) by omega]at this;exact this
theorem Dn{env0:List aE}{bs:List (Nat×List az)}(aG:∀(i:Nat) (e:de),es[i]?=some e->e.dst≠none):∀(i:Nat),i<=es.length->
  (es.take i).foldl (fun env e=>e.apply env) env0=(eK env0 bs (fun j=>decide (j<i)) es).env
 | 0,_=>by
  apply List.ext_getElem?;intro t;rw[pw];have kr:∀(es:List de) (k:Nat) (acc:aE),gw (fun j=>decide (j<0)) t k es acc=acc:=by
   intro es;induction es with
   | nil=>intro k acc;rfl
   | cons e1 es eH=>simp_all[gw,bG]
  grind
 | i+1,hi=>by
  have bJ:i<es.length:=by omega
  have he:es[i]?=some es[i]:=iZ bJ;have eH:=Dn (env0:=env0) (bs:=bs) aG i (by omega);rw[vA,he,EP,List.foldl_append,eH];simp only[List.foldl_cons,List.foldl_nil];apply List.ext_getElem?;intro t;rw[de.apply_get (aG i _ he),pw,pw];cases h:env0[t]? with
  | none=>rfl
  | some p=>
   have:=Oq (t:=t) (es:=es) (k:=0) (i:=i) (acc:=p) he;grind
theorem Ir{bn:aD}{st1:aD}{eE:List b4}{cy:List Prop}{b:Bool}(h:qu ops st o []=some (b,st1,eE,cy))(ai:∀t∈reads ops o,st.env.getD t .ck=bn.env.getD t .ck):
  qu ops bn o []=some (b,bn,[],[]):=by
 unfold qu at h ⊢;cases av:o.guard with
 | none=>grind
 | some g=>
  obtain⟨j,want⟩:=g;rw[av]at h;simp only at h ⊢;cases aG:(ops[j]?).bind (·.dst) with
  | none=>grind
  | some s=>
   grind[reads,Ja,aS,bq]
variable{b':List b4}{obs:List Prop}
theorem PV(h:tz P st o ans=some (e,b',obs)):
  ∃(v:hh) (d:Nat) (x y:Operand) (t:TypeId),qv st o=some v/\o.dst=some d/\o.op=.call ⟨.builtin .append,⟨[x,y]⟩,⟨[t,t]⟩⟩/\si P t v.t v.i v.j v.k v.es v.esT (st.bh y) ans=some (e.p,b',obs)/\
   e=⟨some d,e.p,[],[]⟩/\(st.bh x).leaf=some (.aO v.t v.i v.j v.k v.es .here)/\DV v.t st.boxes=some (v.kT,v.esT):=by
 obtain⟨dst,op,type,pos,after,guard⟩:=o;unfold tz at h;split at h
 ·rename_i v d fZ y t c5 hi aG ri;simp only at aG ri;subst aG;subst ri;split at h
  ·rename_i yA;subst yA;rw[bX]at h;obtain⟨⟨bK,b2,cg⟩,h1,h⟩:=h;simp only[bq]at h;obtain⟨rfl,rfl,rfl⟩:=h;have l2:=hi;simp only[qv]at l2;grind
  cases h
 cases h
theorem PW{st bn:aD}(aw:st.boxes=bn.boxes)(h:∀x∈o.op.operands.toList,st.bh x=bn.bh x):qv st o=qv bn o:=by
 obtain⟨dst,op,type,pos,after,guard⟩:=o;simp only at h;unfold qv;simp only;split
 ·grind[Op.operands,Call.operands]
 rfl
theorem akJ(aw:st.boxes=bn.boxes)(h:∀x∈o.op.operands.toList,st.bh x=bn.bh x):tz P st o ans=tz P bn o ans:=by
 unfold tz;rw[PW aw h];split
 ·grind[Op.operands,Call.operands]
 rfl
theorem akK{v:hh}{q:aE}(h:q.ki v.lO):∀a∈q.idx v.t v.j,a=v.i:=by
 have one:∀{a:bm},a.ki v.lO->∀x∈a.idx v.t v.j,x=v.i:=by
  intro a ag x ak;cases a with
  | one l=>exact ag.2 x ak
  | agg ls=>
   obtain⟨l,ap,ak⟩:=nF.1 ak;exact (ag l ap).2 x ak
 intro x ak;cases q with
 | aF a=>exact one h x ak
 | fv as=>
  obtain⟨a,ag,ak⟩:=nF.1 ak;exact one (h a ag) x ak
theorem akL{v:hh}{q:aE}(h:q.ki v.lO):q.map (gx v.t v.i v.j v.k v.es v.kT v.esT)=q:=by
 have ls:∀{ls:List az},(∀l∈ls,v.lO l)->ls.map (gx v.t v.i v.j v.k v.es v.kT v.esT)=ls:=by
  intro ls ap
  conv=>rhs;rw[<-qO ls]
  exact kH fun l hm=>(ap l hm).1
 have one:∀{a:bm},a.ki v.lO->a.map (gx v.t v.i v.j v.k v.es v.kT v.esT)=a:=by
  intro a ag;cases a with
  | one l=>simp only[bm.map];rw[ag.1]
  | agg l=>simp only[bm.map];rw[ls ag]
 cases q with
 | aF a=>simp only[aE.map];rw[one h]
 | fv as=>
  simp only[aE.map]
  congr 1
  conv=>rhs;rw[<-qO as]
  exact kH fun a hm=>one (h a hm)
theorem Fact.dst{env:List aE}(h:Fact P ops bs env o e):e.dst≠none:=by
 rcases h with⟨_,_,_,_,d,aG,rfl⟩ | ⟨_,_,_,_,ans,bB,g,b',obs,h1,_,U⟩ | ⟨_,_,_,_,ans,b',obs,h1,_⟩
 rotate_left 2
 ·grind[PV]
 ·simp[wR]
 obtain⟨_,d,aI,_⟩:=Of h1;grind
variable{w0:ee}{a:Act}{w:World}
theorem Rel.bool{env:List aE}{d:Nat}{c:Bool}(h:Rel w0 ⟨env.set d (.one (.a' c)),bs⟩ a w):Rel w0 ⟨env.set d (.one (.v (.bool c))),bs⟩ a w:=by
 obtain⟨ω,τ,h⟩:=h;refine⟨ω,τ,h.defers,by have:=h.size;grind,h.below,h.owned,h.fixed,h.pinned,fun i p hp=>?_,h.boxes⟩;by_cases hi:d=i
 ·subst hi;rw[nD]at hp;split at hp
  ·split at hp
   ·rename_i ap;simp only[aS]at hp;subst hp;obtain⟨v,h1,U⟩:=h.env d (.one (.a' c)) (by simp[ap]);exact⟨v,h1,U⟩
   cases hp
  grind
 exact h.env i p (by grind)
section
variable {P : Program} {ops : Array Oper} {bs : List (Nat × List az)} {env0 : List aE} {es : List de} {ms : List Nat}
def eQ(bS:Array Bool)(j:Nat):Bool:=bS.getD j false
structure oC (P:Program) (ops:Array Oper) (bs:List (Nat×List az)) (env0:List aE) (es:List de) (ms:List Nat):Prop where
 len:es.length<=ops.size
 facts:∀(i:Nat) (o:Oper),i<es.length->ops[i]?=some o->∃e,es[i]?=some e/\Fact P ops bs (eK env0 bs (fun j=>decide (j<i)) es).env o e
 masks:qw ms ops.toList=true
 aO:∀(i:Nat) (o:Oper) (v:hh),i<es.length->ops[i]?=some o->qv ⟨(eK env0 bs (fun j=>decide (j<i)) es).env,bs⟩ o=some v->
  (∀q∈env0,q.ki v.lO)/\(∀(j:Nat) (x:de),es[j]?=some x->j≠i->x.p.ki v.lO)/\∀x∈bs,∀l∈x.2,v.lO l
 ord:Io ops ms es=true
 tok:Ip ms es env0 bs=true
variable{bS:Array Bool}{i:Nat}{e:de}
theorem oC.same(h:oC P ops bs env0 es ms)(al:px ops bS)(ai:bS.size=ops.size)(hi:i∈Region.ready .any ops bS){o:Oper}(aZ:ops[i]?=some o)(he:es[i]?=some e)
  {t:Nat} (bU:t∈Dm ops o e):(eK env0 bs (eQ bS) es).env.getD t .ck=(eK env0 bs (fun j=>decide (j<i)) es).env.getD t .ck:=by
 rw[jZ,jZ,pw,pw];have gT:bS.getD i false=false:=by
  have b5:=(mem_ready.1 hi).1;grind
 cases atO:env0[t]? with
 | none=>rfl
 | some p=>
  simp only[qL,jM];refine zl fun j vJ bg BZ=>?_
  rw[dF];by_cases re:j=i
  ·grind[eQ]
  have:=Oo h.ord aZ he bg re BZ bU;unfold Cc at this;split at this
  ·rename_i bJ;have:=yV h.masks al ai hi this;grind[eQ]
  rename_i bJ;cases F2:bS.getD j false with
  | false=>grind[eQ]
  | true=>have:=Dl h.masks al ai j F2 this;grind
theorem Is(bJ:i<bS.size)(j:Nat):eQ (bS.setIfInBounds i true) j=(if j=i then true else eQ bS j):=by
 unfold eQ;split
 ·simp_all
 simp_all[getD_set_ne,false,Ne.symm]
theorem oC.fe(h:oC P ops bs env0 es ms)(bJ:i<bS.size)(he:es[i]?=some e){t:Nat}(bU:e.fN t=none)(p:aE):
  gw (eQ (bS.setIfInBounds i true)) t 0 es p=gw (eQ bS) t 0 es p:=by
 refine zl fun j vJ bg BZ=>?_
 rw[dF,Is bJ,bG];grind
theorem oC.last(h:oC P ops bs env0 es ms)(al:px ops bS)(ai:bS.size=ops.size)(hi:i∈Region.ready .any ops bS){o:Oper}(aZ:ops[i]?=some o)(he:es[i]?=some e)
  {t:Nat} {q:aE} (bU:e.fN t=some q) (p:aE):gw (eQ (bS.setIfInBounds i true)) t 0 es p=q:=by
 have bJ:i<bS.size:=ai▸(iE.1 aZ).1;have gT:bS.getD i false=false:=by
  have b5:=(mem_ready.1 hi).1;grind
 refine Oh he bU (by rw[dF,Is bJ,bM rfl]) fun j vJ bg W0 BZ=>?_
 rw[dF,Is bJ,bG (by omega)];have:=Oo h.ord aZ he W0 (by omega) BZ (t:=t) (by
  grind[Dm,hQ,On])
 unfold Cc at this;rw[bG (by omega)]at this;cases F2:eQ bS j with
 | false=>rfl
 | true=>have:=Dl h.masks al ai j F2 this;grind
theorem oC.step(h:oC P ops bs env0 es ms)(al:px ops bS)(ai:bS.size=ops.size)(hi:i∈Region.ready .any ops bS)(nZ:i<es.length){w0:ee}{w:World}{a:Act}
  (aH:Rel w0 (eK env0 bs (eQ bS) es) a w) {Q:Exit->Act->World->Prop} {K:Act->World->Prop} (ho:∀cx aM,Rel w0 (eK env0 bs (eQ (bS.setIfInBounds i true)) es) cx aM->K cx aM):wpOp P ops Q i K a w:=by
 obtain⟨b5,o,aZ,atM⟩:=mem_ready.1 hi;obtain⟨e,he,b0⟩:=h.facts i o nZ aZ;have bJ:i<bS.size:=ai▸(iE.1 aZ).1;have Xx:=fun t bU=>h.same al ai hi aZ he (t:=t) bU
 have yu:∀t∈reads ops o,(eK env0 bs (fun j=>decide (j<i)) es).env.getD t .ck=(eK env0 bs (eQ bS) es).env.getD t .ck:=fun t bU=>(Xx t (iC _ bU)).symm
 unfold wpOp;rw[aZ];simp only;rcases b0 with⟨st1,eE,cy,hw,d,aG,rfl⟩ | ⟨st1,eE,cy,hw,ans,bB,g,b',obs,ey,F7,FN⟩ | ⟨st1,eE,cy,hw,ans,b',obs,Gd,F7⟩
 rotate_left 2
 ·have yC:=Ir hw (bn:=eK env0 bs (eQ bS) es) yu;obtain⟨p8,_⟩:=vg yC trivial aH;rw[bM p8];left;have MV:∀x∈o.op.operands.toList,(eK env0 bs (eQ bS) es).bh x=aD.bh ⟨(eK env0 bs (fun j=>decide (j<i)) es).env,bs⟩ x:=fun x ak=>MB fun t bU=>(yu t (by
   grind[reads,hQ])).symm
  have FG:tz P (eK env0 bs (eQ bS) es) o ans=some (e,b',obs):=by
   rw[<-Gd];exact akJ rfl MV
  obtain⟨v,d,x,y,t,WV,aG,ri,vV,p1,ak,mP⟩:=PV FG;have WW:qv ⟨(eK env0 bs (fun j=>decide (j<i)) es).env,bs⟩ o=some v:=by
   rw[<-WV];exact (PW (st:=eK env0 bs (eQ bS) es) (bn:=⟨(eK env0 bs (fun j=>decide (j<i)) es).env,bs⟩) rfl MV).symm
  obtain⟨atP,WB,MW⟩:=h.aO i o v nZ aZ WW;have gT:bS.getD i false=false:=by
   grind
  have sx:∀q∈(eK env0 bs (eQ bS) es).env,q.ki v.lO:=by
   intro q aK;simp only[eK]at aK;rw[kK]at aK;obtain⟨⟨j9,n⟩,hm,rfl⟩:=aK;have mO:j9∈env0:=by
    grind
   simp only;rcases Iq (L:=eQ bS) (t:=n) (es:=es) (k:=0) (acc:=j9) with⟨h1,_⟩ | h1 | ⟨j,vJ,h1,U,_,aI,_⟩
   ·grind
   ·rw[h1];exact⟨rfl,fun a ag=>by grind[az.idx]⟩
   rw[aI];refine WB j vJ h1 ?_;rintro rfl;rw[dF]at U;grind[eQ]
  have Xa:(eK env0 bs (eQ bS) es).map (gx v.t v.i v.j v.k v.es v.kT v.esT)=eK env0 bs (eQ bS) es:=by
   have e1:(eK env0 bs (eQ bS) es).env.map (aE.map (gx v.t v.i v.j v.k v.es v.kT v.esT))=(eK env0 bs (eQ bS) es).env:=by
    conv=>rhs;rw[<-qO (eK env0 bs (eQ bS) es).env]
    grind[kH,akL]
   have e2:bs.map (fun x=>(x.1,x.2.map (gx v.t v.i v.j v.k v.es v.kT v.esT)))=bs:=by
    conv=>rhs;rw[<-qO bs]
    refine kH fun x ak=>?_
    obtain⟨ov,kf⟩:=x;simp only[id]
    congr 1
    conv=>rhs;rw[<-qO kf]
    exact kH fun l ap=>(MW _ ak l ap).1
   unfold aD.map;rw[e1];show aD.mk _ (bs.map _)=_;rw[e2];rfl
  have nY:∀a∈(eK env0 bs (eQ bS) es).idx v.t v.j,a=v.i:=by
   intro cx ag;unfold aD.idx at ag;rcases lM.1 ag with ag | ag
   ·grind[akK]
   obtain⟨z,bk,ag⟩:=nF.1 ag;obtain⟨l,ap,ag⟩:=nF.1 ag;exact (MW z bk l ap).2 cx ag
  obtain⟨ω,τ,gJ⟩:=aH;obtain⟨z,aM,h1,U⟩:=gJ.si (P:=P) (d:=d) (ty:=o.type) (kT:=v.kT) (x:=x) (y:=y) (aE.du ak (gJ.bh x)) vV F7 (akG gJ mP) nY;rw[Xa]at U;obtain⟨dst,op,type,pos,after,guard⟩:=o;simp only at aG ri;subst aG;subst ri;refine Calls.of (z:=z) (aM:=aM) ?_ (ho _ _ ?_)
  ·have:(execOp a.eval ⟨some d,.call ⟨.builtin .append,⟨[x,y]⟩,⟨[t,t]⟩⟩,type,pos,after,guard⟩)=(builtin .append ⟨[t,t]⟩ type (Array.map (fun | .const _=>true | _=>false) ⟨[x,y]⟩) (Array.map a.eval ⟨[x,y]⟩)):=by
    simp only[execOp,resolve];rfl
   rw[this];exact h7 (by grind)
  refine U.weaken (by simp[wQ]) rfl ?_;intro n p hp;right;rw[pw,bX]at hp;obtain⟨j9,mO,rfl⟩:=hp;rw[nD];have FM:e.dst=some d:=by rw[p1]
  have ux:e.use=[]:=by rw[p1]
  by_cases sw:d=n
  ·subst sw;have:d<env0.length:=(fy.1 mO).1;rw[bM rfl,bM (by grind[wQ]),h.last al ai hi aZ he (q:=e.p) (by grind[de.fN])]
  rw[bG sw,pw,mO,qL,h.fe bJ he (by grind[de.fN])]
 ·have yC:=Ir hw (bn:=eK env0 bs (eQ bS) es) yu;obtain⟨p8,_⟩:=vg yC trivial aH;rw[bG (by grind)];refine ho _ _ ((I6 aH).weaken ?_ ?_ ?_)
  ·simp[wQ,zk,aG]
  ·simp[eK,zk,aG]
  intro t p hp;rw[pw,bX]at hp;obtain⟨j9,mO,rfl⟩:=hp;right;simp only[zk,aG];rw[nD];by_cases sw:d=t
  ·subst sw;have:d<env0.length:=(fy.1 mO).1;rw[bM rfl,bM (by grind[wQ]),h.last al ai hi aZ he (q:=.one (.v undef)) (by simp[de.fN,wR])]
  rw[bG sw,pw,mO,qL,h.fe bJ he (by grind[de.fN,wR])]
 have yC:=Ir hw (bn:=eK env0 bs (eQ bS) es) yu;obtain⟨p8,_⟩:=vg yC trivial aH;rw[bM p8];left;have FG:qY P (eK env0 bs (eQ bS) es) o ans=some (bB,g,b',obs):=by
  rw[<-ey];refine akH rfl fun x ak=>MB fun t bU=>(yu t ?_).symm
  grind[reads,hQ]
 obtain⟨av,d,FK,ri⟩:=Of FG;obtain⟨u,FN⟩:=FN;have wc:e.mn=bB.mn/\e.dst=bB.dst:=by
  grind
 obtain⟨wc,Wy⟩:=wc;rw[<-wc]at av;obtain⟨XE,XF,auh⟩:=akI h.tok he;have Wf:((eK env0 bs (eQ bS) es).map (az.ct g fun _=>true)).boxes=bs:=by
  simp only[aD.map,eK]
  conv=>rhs;rw[<-qO bs]
  grind[kH,id,ON]
 refine ajo ri F7 aH fun cx aM er=>ho _ _ ?_
 rw[Wf]at er;have l5:Rel w0 ⟨((eK env0 bs (eQ bS) es).map (az.ct g fun _=>true)).env.set d e.p,bs⟩ cx aM:=by
  rcases FN with rfl | ⟨c,b,hp,ig,rfl⟩
  ·exact er
  rw[hp]at er;subst ig;exact er.bool
 refine l5.weaken (by simp[wQ,aD.map]) rfl ?_;intro t p hp;rw[pw,bX]at hp;obtain⟨j9,mO,rfl⟩:=hp;rw[nD];have FM:e.dst=some d:=Wy.trans FK;by_cases sw:d=t
 ·subst sw;right;have:d<env0.length:=(fy.1 mO).1;rw[bM rfl,bM (by grind[aD.map,wQ]),h.last al ai hi aZ he (q:=e.p) (by grind[de.fN])]
 rw[bG sw];by_cases auj:t∈e.use
 ·left;exact h.last al ai hi aZ he (by grind[de.fN]) j9
 have FY:=h.fe bJ he (t:=t) (by grind[de.fN]) j9;rw[FY];have at7:gw (eQ bS) t 0 es j9=.ck\/(gw (eQ bS) t 0 es j9).ej e.mn=false:=by
  rcases Iq (L:=eQ bS) (t:=t) (es:=es) (k:=0) (acc:=j9) with⟨h1,kr⟩ | h1 | ⟨j,vJ,h1,U,ax,aI,kr⟩
  ·right;rw[h1];rcases XF t j9 mO with (aX | aX) | aX
   rotate_left 2
   ·grind
   ·grind
   obtain⟨m,y,c5,hm,_,ag,hu,bU⟩:=Om aX;cases bU;have:=kr m y hm (by rw[dF];exact yV h.masks al ai hi ag);unfold de.fN at this;grind
  ·exact .inl h1
  right;rw[aI];rw[dF]at U;have gT:bS.getD i false=false:=by
   grind
  have re:j≠i:=by grind
  rcases XE j vJ h1 re with aX | aX | aX | aX | aX
  rotate_left 3
  ·grind
  ·obtain⟨m,y,c5,hm,M7,ag,hu,bU⟩:=Om aX;rw[ax]at bU;cases bU;have:=kr m y hm (by omega) (by rw[dF];exact yV h.masks al ai hi ag);unfold de.fN at this;grind
  ·have:=Dl h.masks al ai j U aX;grind
  ·exact aX
  grind
 grind[aD.map,pw,aE.vq]
def It(ops:Array Oper)(ms:List Nat)(k:Nat):Prop:=∀i,k<=i->i<ops.size->∀j,j<i->lj ms j i=true
theorem oC.any(h:oC P ops bs env0 es ms)(aw:It ops ms es.length){w0:ee}{Q:Exit->Act->World->Prop}
  (ic:∀(gG:Nat) {bS:Array Bool},px ops bS->bS.size=ops.size->(∀j,j<es.length->bS.getD j false=true)->(∀j,es.length<=j->bS.getD j false=false)->bS.count false<=gG->
   ∀{a:Act} {w:World},Rel w0 (eK env0 bs (fun j=>decide (j<es.length)) es) a w->wpAny P .any ops Q gG bS a w):
  ∀(gG:Nat) {bS:Array Bool},px ops bS->bS.size=ops.size->(∀j,es.length<=j->bS.getD j false=false)->bS.count false<=gG->
  ∀{a:Act} {w:World},Rel w0 (eK env0 bs (eQ bS) es) a w->wpAny P .any ops Q gG bS a w:=by
 intro gG;induction gG with
 | zero=>
  intro bS al ai gT ra a w aH;by_cases hD:∀j,j<es.length->bS.getD j false=true
  ·refine ic 0 al ai hD gT ra ?_;have:eK env0 bs (eQ bS) es=eK env0 bs (fun j=>decide (j<es.length)) es:=by
    unfold eK
    congr 1
    refine kH fun x _=>?_
    refine zl fun j e bg _=>?_
    have bJ:j<es.length:=(fy.1 bg).1;simp_all[dF,eQ,decide_true]
   grind
  exfalso;apply hD;intro j bg;have bJ:j<bS.size:=ai▸xv bg h.len;cases b0:bS[j] with
  | true=>simp[lb bJ,b0]
  | false=>
   have:0<bS.count false:=by
    grind[Array.count_pos_iff,Array.getElem_mem]
   omega
 | succ gG eH=>
  intro bS al ai gT ra a w aH;by_cases hD:∀j,j<es.length->bS.getD j false=true
  ·refine ic _ al ai hD gT ra ?_;have:eK env0 bs (eQ bS) es=eK env0 bs (fun j=>decide (j<es.length)) es:=by
    unfold eK
    congr 1
    refine kH fun x _=>?_
    refine zl fun j e bg _=>?_
    have bJ:j<es.length:=(fy.1 bg).1;simp_all[dF,eQ,decide_true]
   grind
  refine⟨fun wa=>absurd (fun j bg=>Je h.masks ai wa j (xv bg h.len)) hD,fun i hi=>?_⟩;have nZ:i<es.length:=by
   rcases oB i es.length with h1 | h1
   ·exact h1
   exfalso;obtain⟨_,o,aZ,_⟩:=mem_ready.1 hi;have bJ:i<ops.size:=(iE.1 aZ).1;exact hD fun j bg=>yV h.masks al ai hi (aw i h1 bJ j (xv bg h1))
  refine h.step al ai hi nZ aH fun cx aM er=>eH (al.ready hi) (by grind) (fun j bg=>?_) ?_ er
  ·rw[getD_set_ne false (by omega)];grind
  obtain⟨h1,o,aZ,_⟩:=mem_ready.1 hi;have bJ:i<bS.size:=ai▸(iE.1 aZ).1;have b0:bS[i]=false:=by simpa[lb bJ]using h1
  grind
end
def wT(P:Program)(ops:Array Oper):List Oper->aD->List b4->Stepped
 | [],st,ans=>some (st,ans,[])
 | o::rest,st,ans=>
  match pj P ops o st ans with
  | some (st1,eT,fq)=>(wT P ops rest st1 eT).map fun r=>(r.1,r.2.1,fq++r.2.2)
  | none=>none
theorem PX{Q:Exit->Act->World->Prop}(hi:ops[i]?=some o)(h:pj P ops o st ans=some (bn,b',obs))(aZ:cA obs)
  {a:Act} {w:World} (aU:Rel w0 st a w) {K:Act->World->Prop} (ho:∀cx aM,Rel w0 bn cx aM->K cx aM):wpOp P ops Q i K a w:=by
 unfold wpOp;rw[hi];simp only;unfold pj at h;split at h
 ·rename_i st1 eT fq hw;rw[bX]at h;obtain⟨⟨bK,b2,cg⟩,h1,h⟩:=h;simp only[bq]at h;obtain⟨rfl,rfl,rfl⟩:=h;obtain⟨cy,ca⟩:=aZ.append;obtain⟨p8,gJ⟩:=vg hw cy aU;rw[bM p8];grind[I5]
 ·rename_i st1 eT fq hw;simp only[aS,bq]at h;obtain⟨rfl,rfl,rfl⟩:=h;obtain⟨p8,gJ⟩:=vg hw aZ aU;simp_all[bG,I6]
 cases h
theorem akM(hm:qw ms ops.toList=true)(aw:It ops ms k){Q:Exit->Act->World->Prop}:∀(gG n:Nat) {bS:Array Bool},k<=n->n<=ops.size->
  px ops bS->bS.size=ops.size->(∀j,j<n->bS.getD j false=true)->(∀j,n<=j->bS.getD j false=false)->bS.count false<=gG->
  ∀{st bn:aD} {ans b':List b4} {obs:List Prop},wT P ops (ops.toList.drop n) st ans=some (bn,b',obs)->cA obs->
  ∀{a:Act} {w:World},Rel w0 st a w->(∀cx aM,Rel w0 bn cx aM->Q .normal cx aM)->wpAny P .any ops Q gG bS a w:=by
 have fin:∀{bS:Array Bool} {n:Nat},n=ops.size->bS.size=ops.size->(∀j,j<n->bS.getD j false=true)->Region.ready .any ops bS=[]:=by
  intro bS n a8 ai h1;rw[List.eq_nil_iff_forall_not_mem];intro j bg;obtain⟨U,o,aZ,_⟩:=mem_ready.1 bg;grind
 intro gG;induction gG with
 | zero=>
  intro n bS W2 a8 al ai h1 U ra st bn ans b' obs h aZ a w aH ic;have yp:n=ops.size:=by
   rcases oB n ops.size with bJ | nW
   ·have jS:n<bS.size:=ai▸bJ;have b0:bS[n]=false:=by simpa[lb jS]using U n (ga _)
    have:0<bS.count false:=by
     grind[Array.count_pos_iff,Array.getElem_mem]
    omega
   omega
  rw[List.drop_eq_nil_of_le (by simp[yp])]at h;simp only[wT,aS,bq]at h;obtain⟨rfl,_,_⟩:=h;exact⟨fin yp ai h1,ic _ _ aH⟩
 | succ gG eH=>
  intro n bS W2 a8 al ai h1 U ra st bn ans b' obs h aZ a w aH ic;rcases oB n ops.size with bJ | nW
  ·have jS:n<bS.size:=ai▸bJ;have aG:ops.toList.drop n=ops[n]::ops.toList.drop (n+1):=by
    grind[List.drop_eq_getElem_cons]
   rw[aG]at h;simp only[wT]at h;split at h
   ·rename_i st1 eT fq ax;rw[bX]at h;obtain⟨⟨bK,b2,cg⟩,aI,h⟩:=h;simp only[bq]at h;obtain⟨rfl,rfl,rfl⟩:=h;obtain⟨cy,ca⟩:=aZ.append;refine⟨fun wa=>?_,fun i hi=>?_⟩
    ·exfalso;have:=Je hm ai wa n bJ;grind
    have mN:i=n:=by
     obtain⟨aX,o,kW,_⟩:=mem_ready.1 hi;have v8:i<ops.size:=(iE.1 kW).1;have l2:i<bS.size:=ai▸v8;rcases Nat.lt_trichotomy i n with bx | bx | bx
     ·grind
     ·exact bx
     have:=yV hm al ai hi (aw i (by omega) v8 n bx);grind
    subst mN;refine PX (lb bJ) ax cy aH fun cx aM er=>eH (i+1) (by omega) (by omega) (al.ready hi) (by grind) (fun j bg=>?_) (fun j bg=>?_) ?_ aI ca er ic
    ·by_cases re:j=i
     ·simp_all
     rw[getD_set_ne false (Ne.symm re)];grind
    ·rw[getD_set_ne false (by omega)];grind
    have b0:bS[i]=false:=by simpa[lb jS]using U i (ga _)
    grind
   cases h
  have yp:n=ops.size:=by omega
  rw[List.drop_eq_nil_of_le (by simp[yp])]at h;simp only[wT,aS,bq]at h;obtain⟨rfl,_,_⟩:=h;have wa:=fin yp ai h1;refine⟨fun _=>ic _ _ aH,fun i hi=>?_⟩;grind
def r8(ms:List Nat):Nat->Nat
 | 0=>0
 | i+1=>if ms.getD i 0==2 ^ i-1 then r8 ms i else i+1
theorem PY(ms:List Nat):∀n,r8 ms n<=n
 | 0=>ga _
 | n+1=>by
  unfold r8;split
  ·exact sc (PY ms n) (Nat.le_succ n)
  grind
theorem PZ(ms:List Nat):∀n i,r8 ms n<=i->i<n->∀j,j<i->lj ms j i=true
 | 0,_,_,h,_,_=>absurd h (Nat.not_lt_zero _)
 | n+1,i,h1,U,j,bg=>by
  unfold r8 at h1;split at h1
  ·rename_i he;by_cases mN:i=n
   ·subst mN;unfold lj;grind
   exact PZ ms n i h1 (by omega) j bg
  omega
theorem Sat.drew{ω:Own}{τ:Nat->Nat×Value}{l:az}{y:Value}(h:Sat w ω τ l y):Sat w.drew ω τ l y:=by
 have b0:∀{R:List (Nat×Nat)->c0->Prop} {d:D} {y:Value},bQ w ω R d y->bQ w.drew ω R d y:=fun h=>h.frame fun _ _ _ aK=>⟨aK,rfl⟩
 cases l with
 | J t k es=>exact⟨b0 h.1,h.2⟩
 | cB t k es i j=>
  obtain⟨b,off,cap,h1,U,ax,aI⟩:=h;exact⟨b,off,cap,h1,U,b0 ax,aI⟩
 | hc ds off=>
  obtain⟨b,h1,U⟩:=h;exact⟨b,h1,b0 U⟩
 | fd d=>exact b0 h
 | c' t k es=>exact⟨b0 h.1,h.2⟩
 | aO t i j k es m=>
  obtain⟨u,hu,h1,hm⟩:=h;exact⟨u,hu,b0 h1,hm⟩
 | eX t vs=>
  obtain⟨b,ty,arr,h1,U,ax,a8,bz⟩:=h;refine⟨b,ty,arr,h1,U,ax,a8,fun j c al=>?_⟩;obtain⟨u,gv,fc⟩:=bz j c al;refine⟨u,gv,?_⟩;cases c with
  | ck=>exact trivial
  | v x=>exact fc
  | J t k es=>exact⟨b0 fc.1,fc.2⟩
 | _=>exact h
theorem Rel.drew(h:Rel w0 st a w):Rel w0 st a w.drew:=by
 obtain⟨ω,τ,h⟩:=h;have hi:∀p:aE,p.map _root_.id=p:=by
  intro p;cases p with
  | aF a=>cases a<;>simp[aE.map,bm.map]
  | fv as=>
   simp only[aE.map]
   congr 1
   have:bm.map _root_.id=_root_.id:=by funext a;cases a<;>simp[bm.map]
   simp_all
 refine⟨ω,τ,h.defers,h.size,h.below.next (fP.refl _ _).drew,h.owned,h.fixed,h.pinned,fun i p hp=>?_,fun id ls ap=>?_⟩
 ·obtain⟨v,h1,U⟩:=h.env i p hp;have:=cE.map (jO:=Sat w.drew ω τ) (f:=_root_.id) (fun l v ai=>Sat.drew ai) U;grind
 obtain⟨b,arr,ty,h1,U,ax,aI⟩:=h.boxes id ls ap;have:=jx.map (jO:=Sat w.drew ω τ) (f:=_root_.id) (fun l v ai=>Sat.drew ai) aI;rw[qO]at this;exact⟨b,arr,ty,h1,U,ax,this⟩
def Dp:Nat->List aE->List Nat
 | _,[]=>[]
 | i,p::r=>match p.leaf with | some (.eX t _)=>if t=i then i::Dp (i+1) r else Dp (i+1) r | _=>Dp (i+1) r
def wU(env:List aE):List Oper->List Nat
 | []=>[]
 | o::r=>
  match o.dst,o.op with
  | none,.store _ (.tmp s) _=>
   match (env.getD s .ck).leaf with
   | some (.ptr d 0)=>if d=s/\s<cX/\!(wU env r).contains s then s::wU env r else wU env r
   | _=>wU env r
  | _,_=>wU env r
def akN(env0:List aE)(bs:List (Nat×List az))(es:List de)(i:Nat):List az:=
 env0.flatMap aE.sI++(bs.flatMap (·.2)++(es.zipIdx.filter fun x=>x.2 != i).flatMap fun x=>x.1.p.sI)
def Iu(P:Program)(ops:Array Oper)(st:aD)(ans:List b4):Stepped:=
 let gs:=ops.toList.filterMap (Ja ops)
 let ms:=qf ops.toList []
 let k:=r8 ms ops.size
 match zf (wU st.env (ops.toList.take k)) st with
 | some fh=>
  match s4 P ops gs fh.boxes (ops.toList.take k) fh.env ans with
  | some (es,so,eT,fq)=>
   if P.follows .mixedOrders&&qw ms ops.toList&&Io ops ms es&&Ip ms es fh.env fh.boxes then
    match zg (Dp 0 so) ⟨so,fh.boxes⟩,xh fh.boxes (akN fh.env fh.boxes es) 0 (ops.toList.take k) fh.env es with
    | some st2,some wo=>(wT P ops (ops.toList.drop k) st2 eT).map fun r=>(r.1,r.2.1,fq++(wo++r.2.2))
    | _,_=>none
   else none
  | none=>none
 | none=>none
theorem akO(h:Iu P ops st ans=some (bn,b',obs))(aZ:cA obs)(aH:Rel w0 st a w){id:Nat}
  {Q:Exit->Act->World->Prop} (ic:∀cx aM,Rel w0 bn cx aM->Q .normal cx aM):(Code.region id ops true).wp P Q a w:=by
 unfold Iu at h;simp only at h;split at h
 case h_2=>cases h
 rename_i fh Ns;replace aH:=Ox aH Ns;clear Ns;revert aH h;generalize fh=st;intro h aH;split at h
 ·rename_i es so eT fq e5;split at h
  ·rename_i al;split at h
   rotate_left
   ·cases h
   rename_i st2 wo F3 Xz;rw[bX]at h;obtain⟨⟨bK,b2,cg⟩,XB,h⟩:=h;simp only[bq]at h;obtain⟨rfl,rfl,rfl⟩:=h;obtain⟨F4,F5⟩:=aZ.append;obtain⟨Xk,F5⟩:=F5.append;simp only[cF]at al;obtain⟨⟨⟨hm,M8⟩,Xm⟩,jh⟩:=al;have at1:=PY (qf ops.toList []) ops.size;obtain⟨hlen,yh,WC⟩:=zm e5 F4;have W6:es.length=r8 (qf ops.toList []) ops.size:=by
    grind
   have auf:∀(i:Nat),i<es.length->(ops.toList.take (r8 (qf ops.toList []) ops.size))[i]?=ops[i]?:=by
    grind
   have aG:∀(i:Nat) (e:de),es[i]?=some e->e.dst≠none:=by
    intro i e hi;have bJ:i<(ops.toList.take (r8 (qf ops.toList []) ops.size)).length:=hlen▸(fy.1 hi).1;obtain⟨e',h1,U⟩:=WC i _ (iZ bJ);rw[hi]at h1;cases h1;exact U.dst
   have MH:oC P ops st.boxes st.env es (qf ops.toList []):=by
    refine⟨by omega,fun i o nZ hi=>?_,M8,fun i o v nZ hi bz=>?_,Xm,jh⟩
    rotate_left
    ·have BY:=Oi Xz Xk i o (by grind) nZ v (by
      grind[Dn])
     rw[dF]at BY;refine⟨fun q aK=>aE.yN fun l ap=>BY l ?_,fun j x bg c3=>aE.yN fun l ap=>BY l ?_,fun x ak l ap=>BY l ?_⟩
     ·exact hQ _ (nF.2 ⟨q,aK,ap⟩)
     ·refine iC _ (iC _ (nF.2 ⟨(x,j),List.mem_filter.2 ⟨?_,by grind⟩,ap⟩));grind
     exact iC _ (hQ _ (nF.2 ⟨x,ak,ap⟩))
    grind[Dn]
   have vT:It ops (qf ops.toList []) es.length:=fun i h1 U j bg=>PZ _ _ i (by omega) U j bg
   refine wp_region_any hm (MH.any vT (w0:=w0) ?_ ops.size ?_ (by simp) ?_ ?_ ?_)
   ·intro gG bS oU ai jf cR ra cx aM er;refine akM M8 vT gG es.length (ga _) (by omega) oU ai jf cR ra (st:=st2) (by rw[W6];exact XB) F5 (Oy ?_ F3) ic;have:=Dn (env0:=st.env) (bs:=st.boxes) aG es.length (ga _);rw[la,<-yh]at this;rw[this];exact er
   ·intro j o bg;have:=Dk bg;simp_all
   ·intro j _;by_cases bg:j<ops.size
    ·simp[bg]
    simp[bg]
   ·simp_all
   have:eK st.env st.boxes (eQ (Array.replicate ops.size false)) es=st:=by
    have kr:∀(es:List de) (t k:Nat) (acc:aE),gw (eQ (Array.replicate ops.size false)) t k es acc=acc:=by
     intro es;induction es with
     | nil=>intro t k acc;rfl
     | cons e1 es eH=>
      intro t k acc;simp only[gw];rw[bG,eH];unfold eQ;intro al;have:=Dk al;simp_all
    obtain⟨env,bs⟩:=st;unfold eK;simp_all
   rw[this];exact aH.drew
  cases h
 cases h
end Go.Sx
namespace Go.Sx
open Go.RowKit
def dZ(P:Program)(ops:Array Oper)(st bn:aD):Prop:=
 ∀(w0:ee) (a:Act) (w:World) (id:Nat) (Q:Exit->Act->World->Prop),Rel w0 st a w->(∀cx aM,Rel w0 bn cx aM->Q .normal cx aM)->(Code.region id ops true).wp P Q a w
def Dq(o:Oper)(m:Nat):Bool:=o.after.toList.all fun e=>!Region.binds .any e||m.testBit e.on
def pf(m:Nat):Nat->List Oper->List (Nat×Oper)
 | _,[]=>[]
 | i,o::r=>if !m.testBit i&&Dq o m then (i,o)::pf m (i+1) r else pf m (i+1) r
def runM(P:Program)(ops:Array Oper)(A:List (List b4))(m:Nat):Nat->List Oper->aD->aD
 | _,[],st=>st
 | i,o::r,st=>if m.testBit i then (match pj P ops o st (A.getD i []) with | some x=>runM P ops A m (i+1) r x.1 | none=>st) else runM P ops A m (i+1) r st
def xL(x:Nat)(l:List Nat):List Nat:=if l.any (Nat.beq x) then l else x::l
def yO:Nat->List (Nat×Oper)->List Nat->List Nat
 | _,[],l=>l
 | m,x::r,l=>xL (m ||| 2 ^ x.1) (yO m r l)
def yQ(ops:List Oper):List Nat->List Nat
 | []=>[]
 | m::r=>yO m (pf m 0 ops) (yQ ops r)
abbrev vC:=Option (aD×List b4×List Prop)
def Bs(P:Program)(ops:Array Oper)(A:List (List b4))(st:aD):List (Nat×Oper)->List vC
 | []=>[]
 | x::r=>pj P ops x.2 st (A.getD x.1 [])::Bs P ops A st r
def Bu(P:Program)(ops:Array Oper)(A:List (List b4))(O:List (List Prop))(fh:aD)(m:Nat):List (Nat×Oper)->List vC
 | []=>[]
 | x::r=>some (runM P ops A (m ||| 2 ^ x.1) 0 ops.toList fh,[],O.getD x.1 [])::Bu P ops A O fh m r
def Bt(P:Program)(ops:Array Oper)(A:List (List b4))(fh:aD):List Nat->List (List vC)
 | []=>[]
 | m::r=>Bs P ops A (runM P ops A m 0 ops.toList fh) (pf m 0 ops.toList)::Bt P ops A fh r
def Bv(P:Program)(ops:Array Oper)(A:List (List b4))(O:List (List Prop))(fh:aD):List Nat->List (List vC)
 | []=>[]
 | m::r=>Bu P ops A O fh m (pf m 0 ops.toList)::Bv P ops A O fh r
def xQ(P:Program)(ops:Array Oper)(A:List (List b4))(fh:aD):Nat->List Nat->List (List (List vC))
 | 0,_=>[]
 | n+1,l=>Bt P ops A fh l::xQ P ops A fh n (yQ ops.toList l)
def xR(P:Program)(ops:Array Oper)(A:List (List b4))(O:List (List Prop))(fh:aD):Nat->List Nat->List (List (List vC))
 | 0,_=>[]
 | n+1,l=>Bv P ops A O fh l::xR P ops A O fh n (yQ ops.toList l)
variable{P:Program}{ops:Array Oper}{A:List (List b4)}{O:List (List Prop)}{fh st:aD}{m:Nat}
theorem P0:∀{l:List (Nat×Oper)},Bs P ops A st l=Bu P ops A O fh m l->
  ∀x∈l,pj P ops x.2 st (A.getD x.1 [])=some (runM P ops A (m ||| 2 ^ x.1) 0 ops.toList fh,[],O.getD x.1 [])
 | [],_,x,ak=>by cases ak
 | y::r,h,x,ak=>by
  simp only[Bs,Bu,qN]at h;rcases ev.1 ak with rfl | ak
  ·exact h.1
  exact P0 h.2 x ak
theorem P1:∀{l:List Nat},Bt P ops A fh l=Bv P ops A O fh l->
  ∀m∈l,∀x∈pf m 0 ops.toList,pj P ops x.2 (runM P ops A m 0 ops.toList fh) (A.getD x.1 [])=some (runM P ops A (m ||| 2 ^ x.1) 0 ops.toList fh,[],O.getD x.1 [])
 | [],_,m,hm=>by cases hm
 | m0::r,h,m,hm=>by
  simp only[Bt,Bv,qN]at h;rcases ev.1 hm with rfl | hm
  ·exact P0 h.1
  exact P1 h.2 m hm
theorem akP{x:Nat}{l:List Nat}:x∈xL x l:=by
 unfold xL;split
 ·rename_i h;obtain⟨y,bD,he⟩:=qP.1 h;rwa[Nat.eq_of_beq_eq_true he]
 exact j1
theorem P2{x y:Nat}{l:List Nat}(h:y∈l):y∈xL x l:=by
 unfold xL;split
 ·exact h
 exact hR _ h
theorem P3{x:Nat×Oper}:∀{r:List (Nat×Oper)} {l:List Nat},x∈r->(m ||| 2 ^ x.1)∈yO m r l
 | [],_,h=>by cases h
 | y::r,l,h=>by
  simp only[yO];rcases ev.1 h with rfl | h
  ·exact akP
  exact P2 (P3 h)
theorem P4{k:Nat}:∀{r:List (Nat×Oper)} {l:List Nat},k∈l->k∈yO m r l
 | [],_,h=>h
 | _::_,_,h=>P2 (P4 h)
theorem P5{ops:List Oper}{x:Nat×Oper}:∀{l:List Nat},m∈l->x∈pf m 0 ops->(m ||| 2 ^ x.1)∈yQ ops l
 | [],h,_=>by cases h
 | k::r,h,ak=>by
  simp only[yQ];rcases ev.1 h with rfl | h
  ·exact P3 ak
  exact P4 (P5 h ak)
theorem P6{m:Nat}:∀{l:List Oper} {i j:Nat} {o:Oper},l[j]?=some o->m.testBit (i+j)=false->Dq o m=true->(i+j,o)∈pf m i l
 | [],_,_,_,h,_,_=>by simp at h
 | y::r,i,0,o,h,h1,U=>by
  simp only[kJ,aS]at h;subst h;simp only[pf];rw[bM (by rw[mr]at h1;simp[h1,U])];exact j1
 | y::r,i,j+1,o,h,h1,U=>by
  have:=P6 (m:=m) (l:=r) (i:=i+1) (j:=j) (o:=o) (by simpa using h) (by rwa[show i+1+j=i+(j+1) by omega]) U;rw[show i+1+j=i+(j+1) by omega]at this;simp only[pf];split
  ·exact hR _ this
  exact this
theorem Iv{m k:Nat}:∀{l:List Oper} {i:Nat} {st:aD},(∀j,i<=j->j<i+l.length->m.testBit j=k.testBit j)->runM P ops A m i l st=runM P ops A k i l st
 | [],_,_,_=>rfl
 | o::r,i,st,h=>by
  simp only[runM];rw[h i (ga _) (by simp)];split
  ·split
   ·exact Iv fun j h1 U=>h j (by omega) (by simp only[gP];omega)
   rfl
  exact Iv fun j h1 U=>h j (by omega) (by simp only[gP];omega)
theorem P7:∀{O:List (List Prop)} (i:Nat),cA O.flatten->cA (O.getD i [])
 | [],i,_=>by simp[cA]
 | o::r,0,h=>by
  rw[List.flatten_cons]at h;exact (cA.append h).1
 | o::r,i+1,h=>by
  rw[List.flatten_cons]at h;exact P7 i (cA.append h).2
theorem akQ{ms:List Nat}{w0:ee}{Q:Exit->Act->World->Prop}(hm:qw ms ops.toList=true)(aZ:cA O.flatten)
  (ic:∀cx aM,Rel w0 (runM P ops A (2 ^ ops.size-1) 0 ops.toList fh) cx aM->Q .normal cx aM):∀(gG:Nat) {l:List Nat},xQ P ops A fh gG l=xR P ops A O fh gG l->
  ∀{m:Nat} {bS:Array Bool},m∈l->bS.size=ops.size->(∀j,j<ops.size->bS.getD j false=m.testBit j)->bS.count false<=gG->
  ∀{a:Act} {w:World},Rel w0 (runM P ops A m 0 ops.toList fh) a w->wpAny P .any ops Q gG bS a w:=by
 have fin:∀{m:Nat} {bS:Array Bool},(∀j,j<ops.size->bS.getD j false=m.testBit j)->(∀j,j<ops.size->bS.getD j false=true)->
   ∀{a:Act} {w:World},Rel w0 (runM P ops A m 0 ops.toList fh) a w->Q .normal a w:=by
  intro m bS h1 U a w aH;refine ic a w ?_;rw[Iv (m:=2 ^ ops.size-1) (k:=m)]
  ·exact aH
  intro j _ bg;have yk:j<ops.size:=by simpa using bg
  rw[<-h1 j yk,U j yk,Nat.testBit_two_pow_sub_one,kh yk]
 intro gG;induction gG with
 | zero=>
  intro l _ m bS _ ai h1 ra a w aH;have hD:∀j,j<ops.size->bS.getD j false=true:=by
   intro j bg;cases ap:bS.getD j false with
   | true=>rfl
   | false=>
    exfalso;have jS:j<bS.size:=ai▸bg;have b0:bS[j]=false:=by simpa[lb jS]using ap
    have:0<bS.count false:=by
     rw[Array.count_pos_iff];exact b0▸Array.getElem_mem jS
    omega
  refine⟨?_,fin h1 hD aH⟩;rw[List.eq_nil_iff_forall_not_mem];intro j bg;obtain⟨U,o,kW,_⟩:=mem_ready.1 bg;have bJ:j<ops.size:=(iE.1 kW).1;have ax:=hD j bJ;have jS:j<bS.size:=ai▸bJ;simp[lb jS]at U ax;rw[U]at ax;cases ax
 | succ gG eH=>
  intro l he m bS p5 ai h1 ra a w aH;simp only[xQ,xR,qN]at he;refine⟨fun wa=>fin h1 (Je hm ai wa) aH,fun i hi=>?_⟩;obtain⟨aX,o,kW,FM⟩:=mem_ready.1 hi;have bJ:i<ops.size:=(iE.1 kW).1;have jS:i<bS.size:=ai▸bJ;have MY:bS.getD i false=false:=by
   simp[lb jS]at aX ⊢;exact aX
  have Xb:Dq o m=true:=by
   unfold Dq;rw[fx];intro e vY;cases aw:Region.binds .any e with
   | false=>rfl
   | true=>
    have bx:=FM e (by simpa using vY) aw;have bN:e.on<bS.size:=Dk bx;rw[h1 e.on (ai▸bN)]at bx;simp[bx]
  have Nd:(i,o)∈pf m 0 ops.toList:=by
   have:=P6 (m:=m) (l:=ops.toList) (i:=0) (j:=i) (o:=o) (by simpa using kW) (by rw[dF,<-h1 i bJ,MY]) Xb;rwa[dF]at this
  have o1:=P1 he.1 m p5 _ Nd;refine PX kW o1 (P7 i aZ) aH fun cx aM er=>eH he.2 (P5 p5 Nd) (by simpa using ai) (fun j bg=>?_) ?_ er
  ·rw[Nat.testBit_or,Nat.testBit_two_pow];by_cases re:j=i
   ·subst re;have bk:j<(bS.setIfInBounds j true).size:=by simpa using jS
    simp[lb bk]
   rw[getD_set_ne false (Ne.symm re),h1 j bg,mv (Ne.symm re),Bool.or_false]
  have b0:bS[i]=false:=by simpa[lb jS]using MY
  have:(bS.setIfInBounds i true).count false=bS.count false-1:=by
   have e:bS.setIfInBounds i true=bS.set i true jS:=by unfold Array.setIfInBounds;rw[dif_pos jS]
   rw[e,Array.count_set];simp[b0]
  omega
theorem dZ.of{bn:aD}(A:List (List b4))(O:List (List Prop))(al:(P.follows .mixedOrders&&qw (qf ops.toList []) ops.toList)=true)
  (he:xQ P ops A st ops.size [0]=xR P ops A O st ops.size [0]) (b0:runM P ops A (2 ^ ops.size-1) 0 ops.toList st=bn) (aZ:cA O.flatten):dZ P ops st bn:=by
 intro w0 a w id Q aH ic;simp only[cF]at al;have bk:∀{l:List Oper} {i:Nat},runM P ops A 0 i l st=st:=by
  intro l;induction l with
  | nil=>intro i;rfl
  | cons o r eH=>intro i;simp only[runM,Nat.zero_testBit,oz,lN];exact eH
 refine wp_region_any al.1 (akQ al.2 aZ (fun cx aM h=>ic cx aM (b0▸h)) ops.size he (m:=0) j1 (by simp) (fun j bg=>by simp[bg]) (by simp[Array.count_replicate]) ?_);rw[bk];exact aH.drew
def Iw(P:Program)(ops:Array Oper)(st:aD)(ans:List b4):Stepped:=
 match ans with
 | .hK bn::r=>some (bn,r,[dZ P ops st bn])
 | _=>Iu P ops st ans
theorem akR{bn:aD}{ans b':List b4}{obs:List Prop}(h:Iw P ops st ans=some (bn,b',obs))(aZ:cA obs){w0:ee}{a:Act}{w:World}(aH:Rel w0 st a w){id:Nat}
  {Q:Exit->Act->World->Prop} (ic:∀cx aM,Rel w0 bn cx aM->Q .normal cx aM):(Code.region id ops true).wp P Q a w:=by
 unfold Iw at h;split at h
 ·simp only[aS,bq]at h;obtain⟨rfl,_,rfl⟩:=h;exact aZ.1 w0 a w id Q aH ic
 exact akO h aZ aH ic
