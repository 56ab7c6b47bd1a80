import Derived.Test.YtdchjefneblpgaaGreatR26
import Derived.Test.YtdchjefneblpgaaGreatR31
import Derived.Orders
set_option linter.unusedVariables false
set_option linter.unusedSimpArgs false
namespace Go.Sx
open Go.RowKit
def I3(P:Program)(st:aD)(d:Option Nat)(f:FuncId)(args:List Operand)(ans:List b4):Stepped:=
 match P.funcs[f]?,args.mapM (fun x=>(st.bh x).jb st.boxes),ans with
 | some fn,some fH,.res rs::r=>
  if (fn.name == "runtime.NumGoroutine") = false /\ fn.body.isNone = false /\ sW rs = true /\ 10000 * (d.getD 0 + 1) + 10000 <= cX then
   let t:=10000*(d.getD 0+1)
   match d with
   | some d=>some (⟨(st.tW t).env.set d (r4 t rs),(st.tW t).boxes⟩,r,[hA P f fH rs])
   | none=>some (st.tW t,r,[hA P f fH rs])
  else none
 | _,_,_=>none
def OJ(P:Program)(st:aD)(d:Option Nat)(f:Operand)(args:List Operand)(ans:List b4):Stepped:=
 match (st.bh f).leaf.bind (az.jb st.boxes),args.mapM (fun x=>(st.bh x).jb st.boxes),ans with
 | some (.cl g br),some fH,.res rs::r=>
  if sW rs=true/\10000*(d.getD 0+1)+10000<=cX then
   let t:=10000*(d.getD 0+1)
   match d with
   | some d=>some (⟨(st.tW t).env.set d (r4 t rs),(st.tW t).boxes⟩,r,[iv P g=true,hA P g (fH++br.map .one) rs])
   | none=>some (st.tW t,r,[iv P g=true,hA P g (fH++br.map .one) rs])
  else none
 | _,_,_=>none
def NE:List b4->Bool
 | .qE _ _ _ _::_=>true
 | _=>false
def NG:List b4->Bool
 | .dg _ _::_=>true
 | _=>false
def NF:List b4->Bool
 | .own::_=>true
 | _=>false
def og(P:Program)(st:aD)(o:Oper)(ans:List b4):Stepped:=
 match o.dst,o.op with
 | some d,.box _ x=>HS st d (st.bh x) ans
 | some d,.alloc ty=>HT P st d ty ans
 | some d,.makeSlice t l c=>Ch P st d t (st.bh l) (st.bh c) ans
 | some d,.buildSlice t n parts=>y7 P st d t n parts.toList ans
 | none,.store ty x y=>
  match (st.bh x).leaf with
  | some (.ptr id off)=>HU P st ty id off (st.bh y) ans
  | some (.cB (.own t) k es i j)=>H4 P st ty t k es i j (st.bh y) ans
  | some (.aO t i j k es (.at_ a b))=>IP P st ty t i j k es a b (st.bh y) ans
  | _=>none
 | d,.call ⟨.value (.func f),args,_⟩=>if NG ans then I0 P st d f args.toList ans else if NE ans then HA P st d f args.toList ans else I3 P st d f args.toList ans
 | d,.call ⟨.value (.tmp x),args,_⟩=>if NG ans then I1 P st d (.tmp x) args.toList ans else OJ P st d (.tmp x) args.toList ans
 | some d,.call ⟨.builtin .append,⟨[x,y]⟩,⟨[t,c5]⟩⟩=>
  if t=c5 then
   match (st.bh x).leaf with
   | some (.aO s i j k es .here)=>IQ P st d t s i j k es y ans
   | _=>xi P st d t x y ans
  else none
 | some d,.slice t x cP hi h0=>if NF ans then xj P st d t (st.bh x) cP hi h0 ans.tail else (pt P st (.slice t x cP hi h0) ans).map fun r=>(⟨st.env.set d r.1,st.boxes⟩,r.2.1,r.2.2)
 | some d,op=>(pt P st op ans).map fun r=>(⟨st.env.set d r.1,st.boxes⟩,r.2.1,r.2.2)
 | none,op=>(pt P st op ans).map fun r=>(st,r.2.1,r.2.2)
variable{P:Program}{o:Oper}{a:Act}{w:World}{Q:Exit->Act->World->Prop}
theorem Calls.of{next:Act->World->Prop}{z:Value}{aM:World}(h:(execOp a.eval o).run P w=.ok (.value z) aM)(a8:next (a.put o.dst z) aM):
  o.wp P a w next Q:=by
 unfold Oper.wp;rw[h];exact a8
variable{w0:ee}{st bn:aD}{ans b':List b4}{obs:List Prop}
theorem I4(h:og P st o ans=some (bn,b',obs))(aZ:cA obs)(aU:Rel w0 st a w)
  {next:Act->World->Prop} {Q:Exit->Act->World->Prop} (kq:∀cx aM,Rel w0 bn cx aM->next cx aM):o.wp P a w next Q:=by
 obtain⟨ω,τ,aU⟩:=aU;obtain⟨dst,op,type,pos,after,guard⟩:=o;simp only[og]at h;split at h
 ·rename_i d ty x;obtain⟨z,aM,h1,U⟩:=cr.box (P:=P) aU (aU.bh x) h ty;exact Calls.of (h7 h1) (kq _ _ U)
 ·rename_i d ty;obtain⟨z,aM,h1,U⟩:=cr.alloc aU h;exact Calls.of (h7 h1) (kq _ _ U)
 ·rename_i d t l c;obtain⟨z,aM,h1,U⟩:=aU.make (aU.bh l) (aU.bh c) h aZ;exact Calls.of (h7 h1) (kq _ _ U)
 ·rename_i d t n parts;obtain⟨z,aM,h1,U⟩:=aU.buildSlice h;exact Calls.of (h7 h1) (kq _ _ U)
 ·rename_i ty x y;have fin:∀aM,(Instr.storeAt ty (a.eval x) (a.eval y)).run P w=.ok () aM->Rel w0 bn a aM->Oper.wp P ⟨none,.store ty x y,type,pos,after,guard⟩ a w next Q:=by
   intro aM h1 U;unfold Oper.wp execOp;simp only[Sem.run_bind,h1,Result.andThen_ok,Sem.run_pure,Oper.upon];exact kq _ _ U
  split at h
  ·rename_i id off e;obtain⟨b,aw,ak⟩:=aE.du e (aU.bh x);obtain⟨aM,h1,U⟩:=aU.ash (P:=P) aw (aU.bh y) h;grind
  ·rename_i t k es i j e;obtain⟨aM,h1,U⟩:=aU.asj (P:=P) (aE.du e (aU.bh x)) (aU.bh y) h aZ;grind
  ·rename_i t i j k es asz Mb e;obtain⟨aM,h1,U⟩:=aU.asm (P:=P) (aE.du e (aU.bh x)) (aU.bh y) h aZ;grind
  cases h
 ·rename_i f args ts;split at h
  ·grind[aji]
  split at h
  ·grind[ajK]
  rename_i FV WT;clear FV;unfold I3 at h;clear WT;split at h
  ·rename_i fn fH rs r kp Fz;split at h
   ·rename_i al;obtain⟨kQ,ko,j6,q'⟩:=al;obtain⟨ap,av⟩:=l' Fz;have ll:Cl w fH (args.map a.eval):=by
     refine⟨by simp[ap],fun i ci hi=>?_⟩;obtain⟨x,ak,jh⟩:=av i ci hi;refine⟨a.eval x,?_,aE.vD aU.boxes jh (aU.bh x)⟩;grind
    have e5:(execOp a.eval ⟨dst,.call ⟨.value (.func f),args,ts⟩,type,pos,after,guard⟩).run P w=.ok (.enter f (args.map a.eval)) w:=by
     have Wf : fn.name ≠ "runtime.NumGoroutine" := by grind
     have q9:fn.body≠none:=by grind
     simp[execOp,resolve,Act.eval,Deferred.ofValue,invoke,callFunc,kp,Wf,q9]
    have key:∀(lr:List Prop),obs=lr->cA lr->lr=[hA P f fH rs]->∀(K:Act->World->Prop),(∀v aM,fP w.heap.size w aM->vB w aM rs v->K (a.put dst v) aM)->
      Oper.wp P ⟨dst,.call ⟨.value (.func f),args,ts⟩,type,pos,after,guard⟩ a w K Q:=by
     intro lr _ kS e K hl;subst e;unfold Oper.wp;rw[e5];simp only[Oper.upon];refine (kS.1 w _ aU.below.laid ll).mono ?_;grind
    simp only at h;cases dst with
    | none=>
     simp only[aS,bq]at h;obtain⟨rfl,_,rfl⟩:=h;refine key _ rfl aZ rfl next fun v aM aw aH=>kq _ _ ?_
     obtain⟨a7,cI,h1,_⟩:=aU.called (10000*(Option.getD none 0+1)) j6 q' aw aH;exact⟨a7,cI,h1⟩
    | some d=>
     simp only[aS,bq]at h;obtain⟨rfl,_,rfl⟩:=h;refine key _ rfl aZ rfl next fun v aM aw aH=>kq _ _ ?_
     obtain⟨a7,cI,h1,U⟩:=aU.called (10000*(Option.getD (some d) 0+1)) j6 q' aw aH;exact⟨a7,cI,h1.put U⟩
   cases h
  cases h
 ·rename_i x args ts;split at h
  ·grind[ajj]
  rename_i FV;clear FV;unfold OJ at h;split at h
  ·rename_i g br fH rs r b0 Fz;split at h
   ·rename_i al;obtain⟨j6,q'⟩:=al;obtain⟨ap,av⟩:=l' Fz;have cR:fH.length=args.size:=by grind
    rw[la]at b0;obtain⟨jT,F0,W3⟩:=b0;have MY:kv w (.cl g br) (a.eval (.tmp x)):=az.vD aU.boxes W3 (aE.du F0 (aU.bh (.tmp x)));have WB:∃cs:Array Value,a.eval (.tmp x)=.func (.func g) #[] cs/\cs.size=br.length/\∀(j:Nat) (d:D),br[j]?=some d->∃u,cs[j]?=some u/\kv w d u:=by
     generalize a.eval (.tmp x)=y at MY;cases MY with
     | cl R g br cs us ai hu aG=>exact⟨cs,rfl,ai,fun j d bg=>⟨us j,hu j d bg,(aG j d bg).free⟩⟩
    obtain⟨cs,nU,atJ,Wq⟩:=WB;have ll:Cl w (fH++br.map .one) (args.map a.eval++cs):=by
     refine⟨by grind,fun i ci hi=>?_⟩;rw[ov]at hi;rw[iD];split at hi
     ·rename_i lZ;rw[bM (by simp;omega)];obtain⟨y,bD,ks⟩:=av i ci hi;refine⟨a.eval y,?_,aE.vD aU.boxes ks (aU.bh y)⟩;grind
     rename_i lZ;rw[bG (by simp;omega)];rw[dr,bX]at hi;obtain⟨d,aG,rfl⟩:=hi;obtain⟨u,gv,fc⟩:=Wq _ d aG;refine⟨u,?_,fc⟩;grind
    have e5:iv P g=true->(execOp a.eval ⟨dst,.call ⟨.value (.tmp x),args,ts⟩,type,pos,after,guard⟩).run P w=.ok (.enter g (args.map a.eval++cs)) w:=by
     intro yc;unfold iv at yc;split at yc
     ·rename_i fn kp;simp only[cF,h8,xr,mr]at yc;have q9:fn.body≠none:=by grind
      simp[execOp,resolve,nU,Deferred.ofValue,invoke,callFunc,kp,yc.1,q9]
     cases yc
    have key:∀(lr:List Prop),obs=lr->cA lr->lr=[iv P g=true,hA P g (fH++br.map .one) rs]->∀(K:Act->World->Prop),(∀v aM,fP w.heap.size w aM->vB w aM rs v->K (a.put dst v) aM)->
      Oper.wp P ⟨dst,.call ⟨.value (.tmp x),args,ts⟩,type,pos,after,guard⟩ a w K Q:=by
     intro lr _ kS e K hl;subst e;unfold Oper.wp;rw[e5 kS.1];simp only[Oper.upon];refine (kS.2.1 w _ aU.below.laid ll).mono ?_;grind
    simp only at h;cases dst with
    | none=>
     simp only[aS,bq]at h;obtain⟨rfl,_,rfl⟩:=h;refine key _ rfl aZ rfl next fun v aM aw aH=>kq _ _ ?_
     obtain⟨a7,cI,h1,_⟩:=aU.called (10000*(Option.getD none 0+1)) j6 q' aw aH;exact⟨a7,cI,h1⟩
    | some d=>
     simp only[aS,bq]at h;obtain⟨rfl,_,rfl⟩:=h;refine key _ rfl aZ rfl next fun v aM aw aH=>kq _ _ ?_
     obtain⟨a7,cI,h1,U⟩:=aU.called (10000*(Option.getD (some d) 0+1)) j6 q' aw aH;exact⟨a7,cI,h1.put U⟩
   cases h
  cases h
 ·rename_i d x y t c5;split at h
  ·rename_i yy;subst yy;have vT:∃z aM,(Builtin.append_ #[t,t] type #[a.eval x,a.eval y]).run P w=.ok z aM/\Rel w0 bn (a.put (some d) z) aM:=by
    split at h
    ·rename_i s i j k es e;exact aU.Vy (P:=P) (ty:=type) (aE.du e (aU.bh x)) h aZ
    exact aU.xi (ty:=type) h aZ
   obtain⟨z,aM,h1,U⟩:=vT;refine Calls.of (z:=z) (aM:=aM) ?_ (kq _ _ U);have:(execOp a.eval ⟨some d,.call ⟨.builtin .append,⟨[x,y]⟩,⟨[t,t]⟩⟩,type,pos,after,guard⟩)=(builtin .append ⟨[t,t]⟩ type (Array.map (fun | .const _=>true | _=>false) ⟨[x,y]⟩) (Array.map a.eval ⟨[x,y]⟩)):=by
    simp only[execOp,resolve];rfl
   rw[this];exact h7 (by grind)
  cases h
 ·rename_i d t x cP hi h0;split at h
  ·obtain⟨z,h1,U⟩:=aU.xj (P:=P) (aU.bh x) h aZ;exact Calls.of (h7 h1) (kq _ _ U)
  rw[bX]at h;obtain⟨⟨bK,b2,cf⟩,h1,h⟩:=h;simp only[bq]at h;obtain⟨rfl,rfl,rfl⟩:=h;obtain⟨z,U,ax⟩:=HR (o:=⟨_,_,type,pos,after,guard⟩) aU h1 aZ;exact Calls.of U (kq _ _ ⟨ω,τ,aU.put ax⟩)
 ·rw[bX]at h;obtain⟨⟨bK,b2,cf⟩,h1,h⟩:=h;simp only[bq]at h;obtain⟨rfl,rfl,rfl⟩:=h;obtain⟨z,U,ax⟩:=HR (o:=⟨_,_,type,pos,after,guard⟩) aU h1 aZ;exact Calls.of U (kq _ _ ⟨ω,τ,aU.put ax⟩)
 rw[bX]at h;obtain⟨⟨bK,b2,cf⟩,h1,h⟩:=h;simp only[bq]at h;obtain⟨rfl,rfl,rfl⟩:=h;obtain⟨z,U,ax⟩:=HR (o:=⟨_,_,type,pos,after,guard⟩) aU h1 aZ;exact Calls.of U (kq _ _ ⟨ω,τ,aU⟩)
def nj(P:Program)(st:aD)(o:Oper)(ans:List b4):Stepped:=
 match o.dst,o.op with
 | some d,.alloc ty=>C5 P st d ty ans
 | none,.store ty (.tmp s) y=>C7 P st ty s (st.bh y) ans
 | _,_=>og P st o ans
theorem ajk(h:nj P st o ans=some (bn,b',obs))(aZ:cA obs)(aU:Rel w0 st a w)
  {next:Act->World->Prop} {Q:Exit->Act->World->Prop} (kq:∀cx aM,Rel w0 bn cx aM->next cx aM):o.wp P a w next Q:=by
 obtain⟨dst,op,type,pos,after,guard⟩:=o;unfold nj at h;split at h
 ·rename_i d ty e1 e2;simp only at e1 e2;subst e1;subst e2;obtain⟨ω,τ,aU⟩:=aU;obtain⟨z,aM,h1,U⟩:=cr.Vx aU h;exact Calls.of (h7 h1) (kq _ _ U)
 ·rename_i ty s y e1 e2;simp only at e1 e2;subst e1;subst e2;obtain⟨ω,τ,aU⟩:=aU;obtain⟨aM,h1,U⟩:=aU.asl (P:=P) (aU.bh y) h;unfold Oper.wp execOp;simp only[Sem.run_bind,h1,Result.andThen_ok,Sem.run_pure,Oper.upon];exact kq _ _ U
 grind[I4]
def zi(st:aD)(dst:Option Nat):aD:=
 match dst with
 | some d=>⟨st.env.set d (.one (.v undef)),st.boxes⟩
 | none=>st
theorem I5{dst:Option Nat}(h:Rel w0 st a w):Rel w0 (zi st dst) (a.put dst undef) w:=by
 obtain⟨ω,τ,h⟩:=h;cases dst with
 | none=>exact⟨ω,τ,h⟩
 | some d=>exact⟨ω,τ,h.put (p:=.one (.v undef)) rfl⟩
def qu(ops:Array Oper)(st:aD)(o:Oper)(ans:List b4):Option (Bool×aD×List b4×List Prop):=
 match o.guard with
 | none=>some (true,st,ans,[])
 | some (j,want)=>
  match (ops[j]?).bind (·.dst) with
  | some s=>
   match (st.env.getD s .cj).leaf with
   | some (.v (.bool b))=>some (b==want,st,ans,[])
   | some (.v (.tuple _))=>some (false,st,ans,[])
   | some (.a' c)=>
    match ans with
    | .nI b::r=>some (b==want,⟨st.env.set s (.one (.v (.bool b))),st.boxes⟩,r,[c=b])
    | _=>none
   | _=>none
  | none=>none
variable{ops:Array Oper}
theorem vd{b:Bool}(h:qu ops st o ans=some (b,bn,b',obs))(aZ:cA obs)(aU:Rel w0 st a w):
  Region.wanted o (yielded ops a.tmps)=b/\Rel w0 bn a w:=by
 obtain⟨ω,τ,aU⟩:=aU;unfold qu at h;split at h
 ·rename_i av;simp only[aS,bq]at h;obtain⟨rfl,rfl,_,_⟩:=h;exact⟨by simp[Region.wanted,av],ω,τ,aU⟩
 rename_i j want av;split at h
 ·rename_i s ai;have ei:∀l,(st.env.getD s .cj).leaf=some l->∀x,(∀y,Sat w ω τ l y->y=x)->(l=.cj->False)->a.tmps[s]?=some x:=by
   intro l ap x ak c3;rw[jY]at ap;cases e:st.env[s]? with
   | none=>
    grind[aE.leaf,aS,absurd]
   | some p=>
    rw[e]at ap;obtain⟨v,h1,U⟩:=aU.env s p e;grind[aE.du]
  split at h
  ·rename_i da ap;simp only[aS,bq]at h;obtain⟨rfl,rfl,_,_⟩:=h;have:=ei _ ap (.bool da) (fun y bD=>bD) (fun h=>by cases h);exact⟨by grind[Region.wanted,yielded],ω,τ,aU⟩
  ·rename_i vs ap;simp only[aS,bq]at h;obtain⟨rfl,rfl,_,_⟩:=h;have:=ei _ ap (.tuple vs) (fun y bD=>bD) (fun h=>by cases h);exact⟨by grind[Region.wanted,yielded],ω,τ,aU⟩
  ·rename_i c ap;split at h
   ·rename_i da r;simp only[aS,bq]at h;obtain⟨rfl,rfl,_,rfl⟩:=h;have ig:c=da:=aZ.1;subst ig;have:=ei _ ap (.bool c) (fun y bD=>bD) (fun h=>by cases h);refine⟨by grind[Region.wanted,yielded],ω,τ,?_⟩;have Nh:=aU.put (d:=s) (p:=.one (.v (.bool c))) (v:=.bool c) rfl;have e:a.put (some s) (.bool c)=a:=by
     simp only[Act.put];have:a.tmps.setIfInBounds s (.bool c)=a.tmps:=by
      grind
     rw[this]
    grind
   cases h
  cases h
 cases h
def pj(P:Program)(ops:Array Oper)(o:Oper)(st:aD)(ans:List b4):Stepped:=
 match qu ops st o ans with
 | some (true,st1,eT,fq)=>(og P st1 o eT).map fun r=>(r.1,r.2.1,fq++r.2.2)
 | some (false,st1,eT,fq)=>some (zi st1 o.dst,eT,fq)
 | none=>none
theorem OK{rest:List Oper}(h:pj P ops o st ans=some (bn,b',obs))(aZ:cA obs)
  {a:Act} {w:World} (aU:Rel w0 st a w) (hl:∀cx aM,Rel w0 bn cx aM->wpList P ops Q rest cx aM):wpList P ops Q (o::rest) a w:=by
 unfold pj at h;split at h
 ·rename_i st1 eT fq hw;rw[bX]at h;obtain⟨⟨bK,b2,cf⟩,h1,h⟩:=h;simp only[bq]at h;obtain⟨rfl,rfl,rfl⟩:=h;obtain⟨cy,ca⟩:=aZ.append;obtain⟨p8,gI⟩:=vd hw cy aU;refine wpList_step fun K x9=>?_
  rw[bM p8];grind[I4]
 ·rename_i st1 eT fq hw;simp only[aS,bq]at h;obtain⟨rfl,rfl,rfl⟩:=h;obtain⟨p8,gI⟩:=vd hw aZ aU;refine wpList_step fun K x9=>?_
  rw[bG (by grind)];grind[I5]
 cases h
def I6(o ca:Oper):Option (Nat×TypeId×Operand×Option Operand×TypeId):=
 match o.dst,o.op,o.guard,ca.dst,ca.op,ca.guard with
 | some d,.slice t x cP none none,none,none,.call ⟨.builtin .clear,⟨[.tmp dn]⟩,⟨[fY]⟩⟩,none=>if d=dn then some (d,t,x,cP,fY) else none
 | _,_,_,_,_,_=>none
theorem ajl{ca:Oper}{rest:List Oper}{d:Nat}{t fY:TypeId}{x:Operand}{cP:Option Operand}(hp:I6 o ca=some (d,t,x,cP,fY))
  {st bn:aD} {ans b':List b4} {obs:List Prop} (h:C9 P st d t x cP fY ans=some (bn,b',obs)) (aZ:cA obs)
  {a:Act} {w:World} (aU:Rel w0 st a w) (hl:∀cx aM,Rel w0 bn cx aM->wpList P ops Q rest cx aM):wpList P ops Q (o::ca::rest) a w:=by
 obtain⟨dst,op,type,pos,after,guard⟩:=o;obtain⟨ath,auA,type2,auE,as4,atw⟩:=ca;unfold I6 at hp;split at hp
 ·rename_i d0 t0 hc aus dn auL e1 e2 cb d' gY lh;simp only at e1 e2 cb d' gY lh;subst e1 e2 cb d' gY lh;split at hp
  ·rename_i aG;subst aG;simp only[aS,bq]at hp;obtain⟨rfl,rfl,rfl,rfl,rfl⟩:=hp;obtain⟨ω,τ,aU⟩:=aU;obtain⟨bJ,y,z,aM,h1,U,ax⟩:=aU.clear h aZ;refine wpList_plain rfl fun K x9=>Calls.of (h7 (by simpa using h1)) (x9 _ _ ?_)
   refine wpList_plain rfl fun K x9=>?_
   have p2:(a.put (some d0) y).eval (.tmp d0)=y:=by
    simp_all[Act.eval,Act.put]
   refine Calls.of (z:=z) (aM:=aM) ?_ (x9 _ _ (hl _ _ ax));simp only[execOp,resolve,invoke,builtin,Sem.run_bind,Sem.run_pure,Result.andThen_ok,List.map_toArray,mn,List.map_nil,p2,U]
  cases hp
 cases hp
def ve(P:Program)(ops:Array Oper):List Oper->aD->List b4->Stepped
 | [],st,ans=>some (st,ans,[])
 | [o],st,ans=>pj P ops o st ans
 | o::ca::rest,st,ans=>
  match I6 o ca with
  | some (d,t,x,cP,fY)=>
   match C9 P st d t x cP fY ans with
   | some (st1,eT,fq)=>(ve P ops rest st1 eT).map fun r=>(r.1,r.2.1,fq++r.2.2)
   | none=>none
  | none=>
   match pj P ops o st ans with
   | some (st1,eT,fq)=>(ve P ops (ca::rest) st1 eT).map fun r=>(r.1,r.2.1,fq++r.2.2)
   | none=>none
theorem I7:∀(l:List Oper) {st bn:aD} {ans b':List b4} {obs:List Prop},ve P ops l st ans=some (bn,b',obs)->cA obs->
  ∀{a:Act} {w:World},Rel w0 st a w->(∀cx aM,Rel w0 bn cx aM->Q .normal cx aM)->wpList P ops Q l a w
 | [],st,bn,ans,b',obs,h,_,a,w,aU,ic=>by
  simp only[ve,aS,bq]at h;obtain⟨rfl,_,_⟩:=h;exact ic _ _ aU
 | [o],st,bn,ans,b',obs,h,aZ,a,w,aU,ic=>by
  simp only[ve]at h;exact OK h aZ aU fun cx aM et=>ic _ _ et
 | o::ca::rest,st,bn,ans,b',obs,h,aZ,a,w,aU,ic=>by
  simp only[ve]at h;split at h
  ·rename_i d t x cP fY hp;split at h
   ·rename_i st1 eT fq h1;rw[bX]at h;obtain⟨⟨bK,b2,cf⟩,U,h⟩:=h;simp only[bq]at h;obtain⟨rfl,rfl,rfl⟩:=h;obtain⟨cy,cC⟩:=aZ.append;exact ajl hp h1 cy aU fun cx aM et=>I7 rest U cC et ic
   cases h
  split at h
  ·rename_i st1 eT fq h1;rw[bX]at h;obtain⟨⟨bK,b2,cf⟩,U,h⟩:=h;simp only[bq]at h;obtain⟨rfl,rfl,rfl⟩:=h;obtain⟨cy,cC⟩:=aZ.append;exact OK h1 cy aU fun cx aM et=>I7 (ca::rest) U cC et ic
  cases h
end Go.Sx
namespace Go.Sx
open Go.RowKit
abbrev fz:=List (Nat×Nat)
def fz.has(r:fz)(s:Nat):Bool:=r.any fun x=>decide (x.1<=s)&&decide (s<x.2)
def Tag.ej(r:fz):Tag->Bool
 | .free=>false
 | .own s=>r.has s
 | .ro s=>r.has s
def eD.ej(r:fz):eD->Bool
 | .J t _ _=>t.ej r
 | _=>false
def az.ej(r:fz):az->Bool
 | .J t _ _=>t.ej r
 | .cB t _ _ _ _=>t.ej r
 | .aO t _ _ _ _ _=>r.has t
 | .eX t vs=>r.has t||vs.any (eD.ej r)
 | _=>false
def bm.ej(r:fz):bm->Bool
 | .one l=>l.ej r
 | .agg ls=>ls.any (az.ej r)
def aE.ej(r:fz):aE->Bool
 | .aF a=>a.ej r
 | .fv as=>as.any (bm.ej r)
def nm(g:Tag->Option Tag)(r:fz):Prop:=∀t:Tag,t.ej r=false->g t=some t
variable{g:Tag->Option Tag}{r:fz}
theorem az.vo(av:nm g r){l:az}(h:l.ej r=false):l.ct g (fun _=>true)=l:=by
 cases l with
 | J t k es=>simp only[az.ej]at h;simp only[az.ct,av t h]
 | cB t k es i j=>simp only[az.ej]at h;simp only[az.ct,av t h]
 | ptr id off=>simp[az.ct]
 | fR f ids=>simp[az.ct]
 | aO t i j k es m=>simp only[az.ej]at h;simp only[az.ct,av (.own t) h,gO]
 | eX t vs=>
  simp only[az.ej,gn]at h;simp only[az.ct,av (.own t) h.1,gO]
  congr 1
  conv=>rhs;rw[<-qO vs]
  refine kG fun c al=>?_
  have:=hd.1 h.2 c al;cases c with
  | cj=>rfl
  | v x=>rfl
  | J c5 k es=>simp only[eD.ct,av c5 (by grind[eD.ej]),id]
 | _=>rfl
theorem OL(av:nm g r){ls:List az}(h:ls.any (az.ej r)=false):ls.map (az.ct g fun _=>true)=ls:=by
 conv=>rhs;rw[<-qO ls]
 grind[kG,hd,az.vo]
theorem bm.vo(av:nm g r){a:bm}(h:a.ej r=false):a.map (az.ct g fun _=>true)=a:=by
 cases a with
 | one l=>grind[bm.ej,bm.map,az.vo]
 | agg ls=>grind[bm.ej,bm.map,OL]
theorem aE.vo(av:nm g r){p:aE}(h:p.ej r=false):p.map (az.ct g fun _=>true)=p:=by
 cases p with
 | aF a=>grind[aE.ej,aE.map,bm.vo]
 | fv as=>
  simp only[aE.ej]at h;simp only[aE.map]
  congr 1
  conv=>rhs;rw[<-qO as]
  grind[kG,hd,bm.vo]
structure de where
 dst:Option Nat
 p:aE
 use:List Nat
 mj:fz
abbrev lb:=Option (de×(Tag->Option Tag)×List b4×List Prop)
def OM:Operand->Option Nat
 | .tmp t=>some t
 | _=>none
def yN:Option Nat->fz
 | none=>[]
 | some s=>[(s,s+1)]
def xK(P:Program)(st:aD)(d:Nat)(t:TypeId)(x y:Operand)(ans:List b4):lb:=
 match ps P t with
 | some (e,k)=>
  match P.info? e with
  | some i=>
   match i.zero,(st.bh x).leaf,x with
   | some z,some (.J (.own gm) ch es),.tmp s=>
    match tT gm k (st.bh y) ans with
    | some (bL,dD,b',obs)=>
     if ch=k/\z.cells.size=k/\0<k/\gm<cX then
      some (⟨some d,.one (.J (.own gm) k (es++bL)),[s],(gm,gm+1)::yN dD⟩,gX gm dD,b',((es.length+bL.length)*i.bytes<=140737488355328)::(es.length+bL.length<=9223372036854775807)::obs)
     else none
    | _=>none
   | some z,some (.v (.slice none 0 0)),_=>
    match tT d k ((st.bh y).map (az.ct (ho d []) fun _=>true)) ans with
    | some (bL,dD,b',obs)=>
     if z.cells.size=k/\0<k/\d<cX then
      some (⟨some d,.one (.J (.own d) k ([]++bL)),[],(d,d+1)::yN dD⟩,(fun g=>(ho d [] g).bind (gX d dD)),b',(((([]:List (List D)).length)+bL.length)*i.bytes<=140737488355328)::(([]:List (List D)).length+bL.length<=9223372036854775807)::obs)
     else none
    | _=>none
   | _,_,_=>none
  | none=>none
 | none=>none
def E8(P:Program)(st:aD)(d:Nat)(t:TypeId)(x:Operand)(cP hi h0:Option Operand)(ans:List b4):lb:=
 match ps P t,(st.bh x).leaf,h0,x with
 | some (_,k),some (.J (.own s) ch es),none,.tmp iU=>
  if k=ch/\s<cX then
   match kY st cP,kY st hi with
   | some l,some h=>some (⟨some d,.one (.J (.own s) k ((es.drop (l.getD 0).toNat).take ((h.getD es.length).toNat-(l.getD 0).toNat))),[iU],[(s,s+1)]⟩,jE s s,ans,[0<=l.getD 0,l.getD 0<=h.getD es.length,h.getD es.length<=es.length])
   | _,_=>none
  else none
 | _,_,_,_=>none
variable{s:Nat}
theorem ajm:nm (jE s s) [(s,s+1)]:=by
 intro t h;cases t with
 | free=>rfl
 | own x=>
  have:x≠s:=by rintro rfl;grind[Tag.ej,fz.has]
  grind[jE]
 | ro x=>
  simp_all[Tag.ej,fz.has,jE]
def NN(P:Program)(d:Nat)(t:TypeId)(p q:aE)(ans:List b4):lb:=
 match P.underlying t with
 | some (.slice e)=>
  match P.info? e,p.int,q.int with
  | some i,some (_,l),some (_,c)=>
   match i.zero with
   | some z=>
    if i.size=z.cells.size/\0<i.size/\z.cells.all (·.oneCell')=true/\d<cX then
     some (⟨some d,.one (.J (.own d) i.size (List.replicate l.toNat (z.cells.toList.map .v))),[],[(d,d+1)]⟩,ho d [],ans,[0<=l,l<=c,(i.bytes:Int)*c<=281474976710656,c<=9223372036854775807])
    else none
   | none=>none
  | _,_,_=>none
 | _=>none
def qY(P:Program)(st:aD)(o:Oper)(ans:List b4):lb:=
 match o.dst,o.op with
 | some d,.call ⟨.value (.func f),args,_⟩=>
  match P.funcs[f]?,args.toList.mapM (fun x=>(st.bh x).jb st.boxes),ans with
  | some fn,some fH,.res rs::r=>
   if (fn.name == "runtime.NumGoroutine") = false /\ fn.body.isNone = false /\ sW rs = true /\ 10000 * (d + 1) + 10000 <= cX then
    some (⟨some d,r4 (10000*(d+1)) rs,[],[(10000*(d+1),10000*(d+1)+10000)]⟩,fL (10000*(d+1)),r,[hA P f fH rs])
   else none
  | _,_,_=>none
 | some d,.buildSlice t n parts=>
  match Bh P st d t n parts.toList with
  | some (k,es,ms)=>some (⟨some d,.one (.J (.own d) k es),[],(d,d+1)::ms.map fun x=>(x.1,x.1+1)⟩,ho d ms,ans,[])
  | _=>none
 | some d,.call ⟨.builtin .append,⟨[x,y]⟩,⟨[t,c5]⟩⟩=>if t=c5 then xK P st d t x y ans else none
 | some _,.box _ _=>none
 | some d,.alloc ty=>
  match P.info? ty with
  | some i=>match i.zero with
   | some z=>if d<cX then some (⟨some d,.one (.eX d (z.cells.toList.map .v)),[],[(d,d+1)]⟩,ho d [],ans,[]) else none
   | none=>none
  | none=>none
 | some d,.makeSlice t l c=>NN P d t (st.bh l) (st.bh c) ans
 | some d,.slice t x cP hi h0=>if NF ans then E8 P st d t x cP hi h0 ans.tail else (pt P st (.slice t x cP hi h0) ans).map fun r=>(⟨some d,r.1,[],[]⟩,some,r.2.1,r.2.2)
 | some d,op=>(pt P st op ans).map fun r=>(⟨some d,r.1,[],[]⟩,some,r.2.1,r.2.2)
 | none,.store ty (.tmp s) y=>
  match (st.env.getD s .cj).leaf,Hd (st.bh y),P.info? ty with
  | some (.eX t vs),some cs,some i=>
   if cs.length=i.size/\cs.length<=vs.length then
    some (⟨some s,.one (.eX t ((cs++vs.drop cs.length).map (eD.ct (eU t)))),[],[(t,t+1)]⟩,eU t,ans,[])
   else none
  | _,_,_=>none
 | none,_=>none
theorem akx:nm (eU s) [(s,s+1)]:=by
 intro t h;cases t with
 | free=>rfl
 | own x=>
  have:x≠s:=by rintro rfl;grind[Tag.ej,fz.has]
  grind[eU]
 | ro x=>
  have:x≠s:=by rintro rfl;grind[Tag.ej,fz.has]
  grind[eU]
theorem aky:eD.ct some=id:=by funext c;cases c<;>rfl
theorem akz(st:aD)(f:az->az)(b0:∀x,f (.v x)=.v x)(hu:f .cj=.cj)(aG:∀d,f (.fd d)=.fd d)(x:Operand):(st.map f).bh x=(st.bh x).map f:=by
 cases x with
 | tmp t=>
  simp only[aD.bh,aD.map];rw[jY,jY,dr];cases st.env[t]? with
  | none=>simp[aE.map,bm.map,hu]
  | some p=>rfl
 | const v=>
  simp only[aD.bh,Bn];split
  ·simp[aE.map,bm.map,b0]
  grind[aE.map,bm.map]
 | global g=>simp[aD.bh,aE.map,bm.map,hu]
 | func atr=>simp[aD.bh,aE.map,bm.map,aG]
theorem az.ar8(g1 g2:Tag->Option Tag)(U:∀g t,g2 g=some (.own t)->g=.own t)(l:az):az.ct g2 (fun _=>true) (az.ct g1 (fun _=>true) l)=az.ct (fun t=>(g1 t).bind g2) (fun _=>true) l:=by
 cases l with
 | J t k es=>grind[az.ct]
 | cB t k es i j=>grind[az.ct]
 | fR f ids=>simp[az.ct]
 | aO t i j k es m=>
  simp only[az.ct];cases e1:g1 (.own t) with
  | none=>grind
  | some x=>
   simp only[ox];grind
 | eX t vs=>
  simp only[az.ct];cases e1:g1 (.own t) with
  | none=>grind
  | some x=>
   simp only[ox];cases x with
   | own s=>
    simp only;by_cases ai:s=t
    ·subst ai;simp only[gO,az.ct];have nU:(vs.map (eD.ct g1)).map (eD.ct g2)=vs.map (eD.ct fun t=>(g1 t).bind g2):=by
      rw[List.map_map];refine kG fun c _=>?_
      cases c with
      | cj=>rfl
      | v x=>rfl
      | J c5 k es=>
       simp only[Function.comp,eD.ct];grind
     rw[nU]
    grind
   | free=>
    grind
   | ro s=>
    grind
 | ptr id off=>simp[az.ct]
 | _=>rfl
theorem bm.map_map(f g:az->az)(a:bm):(a.map f).map g=a.map (g ∘ f):=by cases a<;>simp[bm.map]
theorem aE.map_map(f g:az->az)(p:aE):(p.map f).map g=p.map (g ∘ f):=by
 cases p with
 | aF a=>simp[aE.map,bm.map_map]
 | fv as=>simp only[aE.map,List.map_map];simp_all[congr,kG,bm.map_map]
theorem aD.map_map(f g:az->az)(s:aD):(s.map f).map g=s.map (g ∘ f):=by
 simp only[aD.map,List.map_map]
 congr 1
 ·grind[kG,aE.map_map]
 simp_all
theorem ON(r:fz):nm some r:=fun _ _=>rfl
theorem fz.sm{a b:Nat}(h:fz.has ((a,b)::r) s=false):(s<a\/b<=s)/\fz.has r s=false:=by
 grind[fz.has,gn,Bool.and_eq_false_iff,oB]
variable{t:Nat}
theorem akA:nm (fL t) [(t,t+10000)]:=by
 intro g av;cases g with
 | free=>rfl
 | own s=>
  obtain⟨h1,_⟩:=fz.sm av;simp only[fL];grind
 | ro s=>
  obtain⟨h1,_⟩:=fz.sm av;simp only[fL];grind
theorem I8:∀{ms:gR},(fz.has (ms.map fun x=>(x.1,x.1+1)) s)=false->(ms.at s).isSome=false
 | [],_=>rfl
 | (i,p)::r,h=>by
  simp only[fz.has,mn,A0,gn,Bool.and_eq_false_iff,oB]at h;simp only[gR.at];rw[bG (by omega)];exact I8 (by simpa only[fz.has]using h.2)
theorem akB{ms:gR}:nm (ho t ms) ((t,t+1)::ms.map fun x=>(x.1,x.1+1)):=by
 intro g av;cases g with
 | free=>rfl
 | own s=>
  obtain⟨h1,U⟩:=fz.sm av;simp only[ho];rw[bG (by omega),I8 U];rfl
 | ro s=>
  obtain⟨h1,U⟩:=fz.sm av;simp only[ho];rw[bG (by omega),I8 U];rfl
theorem OO{dD:Option Nat}(h:fz.has (yN dD) s=false):dD≠some s:=by
 rintro rfl;grind[fz.has,yN]
theorem OP(t:Nat)(dD:Option Nat):nm (gX t dD) ((t,t+1)::yN dD):=by
 intro g av;cases g with
 | free=>rfl
 | own s=>
  obtain⟨h1,U⟩:=fz.sm av;simp only[gX];rw[bG (by omega),bG (OO U)]
 | ro s=>
  obtain⟨h1,U⟩:=fz.sm av;simp only[gX];rw[bG (by omega),bG (OO U)]
theorem I9(t:Nat)(r:fz):nm (ho t []) ((t,t+1)::r):=by
 intro g av;cases g with
 | free=>rfl
 | own s=>
  obtain⟨h1,U⟩:=fz.sm av;simp only[ho];rw[bG (by omega)];rfl
 | ro s=>
  obtain⟨h1,U⟩:=fz.sm av;simp only[ho];rw[bG (by omega)];rfl
variable{P:Program}{st:aD}{e:de}{obs:List Prop}
theorem OQ{d:Nat}{t:TypeId}{x y:Operand}{ans b':List b4}(h:xK P st d t x y ans=some (e,g,b',obs)):nm g e.mj/\e.dst=some d:=by
 unfold xK at h;split at h
 ·split at h
  ·split at h
   ·split at h
    ·split at h
     ·simp only[aS,bq]at h;obtain⟨rfl,rfl,_,_⟩:=h;simp_all[OP]
     cases h
    cases h
   ·split at h
    ·split at h
     ·simp only[aS,bq]at h;obtain⟨rfl,rfl,_,_⟩:=h;exact⟨fun t bU=>by simp only[I9 d _ t bU,ox];exact OP d _ t bU,rfl⟩
     cases h
    cases h
   cases h
  cases h
 cases h
theorem Od{o:Oper}{ans b':List b4}(h:qY P st o ans=some (e,g,b',obs)):
  nm g e.mj/\∃d,e.dst=some d/\nj P st o ans=some (⟨(st.map (az.ct g fun _=>true)).env.set d e.p,(st.map (az.ct g fun _=>true)).boxes⟩,b',obs):=by
 obtain⟨dst,op,type,pos,after,guard⟩:=o;have gh:∀st:aD,st.map (az.ct some fun _=>true)=st:=by
  intro st;have:(az.ct some fun _=>true)=_root_.id:=by
   funext l;cases l<;>simp[az.ct,aky]
  rw[this];simp only[aD.map];have h1:aE.map _root_.id=_root_.id:=by
   funext p;cases p with
   | aF a=>cases a<;>simp[aE.map,bm.map]
   | fv as=>
    simp only[aE.map,id]
    congr 1
    have:bm.map _root_.id=_root_.id:=by funext a;cases a<;>simp[bm.map]
    simp_all
  simp_all
 simp only[qY]at h;split at h
 ·rename_i d f args ts;split at h
  ·rename_i fn fH rs r h1 U;split at h
   ·rename_i al;simp only[aS,bq]at h;obtain⟨rfl,rfl,rfl,rfl⟩:=h;refine⟨akA,d,rfl,?_⟩;simp only[nj,og,NE,oy,lK,I3,h1,U,jZ];rw[bM al];rfl
   cases h
  cases h
 ·rename_i d t n parts;split at h
  ·rename_i k es ms aw;simp only[aS,bq]at h;obtain⟨rfl,rfl,rfl,rfl⟩:=h;refine⟨akB,d,rfl,?_⟩;simp only[nj,og];exact ajC aw ans
  cases h
 ·rename_i d x y t c5;split at h
  ·rename_i yy;subst yy;refine⟨(OQ h).1,d,(OQ h).2,?_⟩;simp only[nj,og,gO,Sx.xi];unfold xK at h;split at h
   ·rename_i tX k he;simp only[he];split at h
    ·rename_i i hi;simp only[hi];split at h
     ·rename_i z gm ch es s bl ap;split at h
      ·rename_i bL dD a2 ca ai;split at h
       ·rename_i al;obtain⟨rfl,al⟩:=al;simp only[aS,bq]at h;obtain⟨rfl,rfl,rfl,rfl⟩:=h;simp only[Bd,ap,gO,bl,ai];rw[bM al];rfl
       cases h
      cases h
     ·rename_i z _ bl ap;split at h
      ·rename_i bL dD a2 ca ai;split at h
       ·rename_i al;simp only[aS,bq]at h;obtain⟨rfl,rfl,rfl,rfl⟩:=h;have p2:(st.il d []).bh y=(st.bh y).map (az.ct (ho d []) fun _=>true):=akz st _ (fun _=>rfl) rfl (fun _=>rfl) y;simp only[Bd,ap,bl,p2,ai];rw[bM al];have:(st.il d []).vC d dD=st.map (az.ct (fun g=>(ho d [] g).bind (gX d dD)) fun _=>true):=by
         simp only[aD.il,aD.vC,aD.map_map]
         congr 1
         funext l;refine az.ar8 _ _ (fun g t h=>?_) l;cases g with
         | free=>grind[gX]
         | own s=>
          grind[gX]
         | ro s=>
          grind[gX]
        rw[this]
       cases h
      cases h
     cases h
    cases h
   cases h
  cases h
 ·cases h
 ·rename_i d ty;split at h
  ·rename_i i hi;split at h
   ·rename_i z bl;split at h
    ·rename_i aG;simp only[aS,bq]at h;obtain⟨rfl,rfl,rfl,rfl⟩:=h;refine⟨I9 _ _,d,rfl,?_⟩;simp only[nj,C5,hi,bl];rw[bM aG];rfl
    cases h
   cases h
  cases h
 ·rename_i d t l c;unfold NN at h;split at h
  ·rename_i e hu;split at h
   ·rename_i i c4 fU b8 jc hi e1 e2;split at h
    ·rename_i z bl;split at h
     ·rename_i al;simp only[aS,bq]at h;obtain⟨rfl,rfl,rfl,rfl⟩:=h;refine⟨I9 _ _,d,rfl,?_⟩;simp only[nj,og,Ch,hu,hi,e1,e2,bl];rw[bM al];rfl
     cases h
    cases h
   cases h
  cases h
 ·rename_i d t x cP hi h0;split at h
  ·rename_i aZ;unfold E8 at h;split at h
   ·rename_i e k s ch es iU e1 e2;split at h
    ·rename_i al;obtain⟨rfl,ai⟩:=al;split at h
     ·rename_i l bH cb d';simp only[aS,bq]at h;obtain⟨rfl,rfl,rfl,rfl⟩:=h;refine⟨ajm,d,rfl,?_⟩;simp_all[nj,og,gO,xj,ni,true_and]
     cases h
    cases h
   cases h
  rename_i aZ;rw[bX]at h;obtain⟨⟨bK,b2,cf⟩,h1,h⟩:=h;simp only[bq]at h;obtain⟨rfl,rfl,rfl,rfl⟩:=h;simp_all[ON,nj,og,bG]
 ·rename_i d kt lq n9 kX mX n6 n7;rw[bX]at h;obtain⟨⟨bK,b2,cf⟩,h1,h⟩:=h;simp only[bq]at h;obtain⟨rfl,rfl,rfl,rfl⟩:=h;refine⟨ON _,d,rfl,?_⟩;rw[gh];have MF:nj P st ⟨some d,op,type,pos,after,guard⟩ ans=og P st ⟨some d,op,type,pos,after,guard⟩ ans:=by
   simp_all[nj]
  grind[og,pt]
 ·rename_i ty s y;split at h
  ·rename_i gm vs v i e1 e2 cb;split at h
   ·rename_i al;simp only[aS,bq]at h;obtain⟨rfl,rfl,rfl,rfl⟩:=h;refine⟨akx,s,rfl,?_⟩;simp only[nj,C7,e1,e2,cb];grind
   cases h
  cases h
 cases h
theorem Rel.weaken{w0:ee}{bn:aD}{a:Act}{w:World}(h:Rel w0 st a w)(a8:bn.env.length=st.env.length)(aw:bn.boxes=st.boxes)
  (he:∀(i:Nat) (p:aE),bn.env[i]?=some p->p=.cj\/st.env[i]?=some p):Rel w0 bn a w:=by
 obtain⟨ω,τ,h⟩:=h;refine⟨ω,τ,h.defers,h.size.trans a8.symm,h.below,h.owned,h.fixed,h.pinned,fun i p hp=>?_,by rw[aw];exact h.boxes⟩;rcases he i p hp with rfl | U
 ·have:i<a.tmps.size:=by
   rw[h.size,<-a8];grind
  exact⟨a.tmps[i],by simp[this],aa⟩
 exact h.env i p U
def de.fN(e:de)(t:Nat):Option aE:=if e.dst=some t then some e.p else if t∈e.use then some .cj else none
def wD(env:List aE):List Nat->List aE
 | s::us=>wD (env.set s .cj) us
 | []=>env
theorem Oe:∀(us:List Nat) (env:List aE) (t:Nat),(wD env us)[t]?=(env[t]?).map fun p=>if t∈us then .cj else p
 | [],env,t=>by simp[wD]
 | s::us,env,t=>by
  simp only[wD,Oe us,nC,ep];grind
def de.apply(e:de)(env:List aE):List aE:=
 match e.dst with
 | some d=>(wD env e.use).set d e.p
 | none=>env
theorem de.apply_get(aG:e.dst≠none)(env:List aE)(t:Nat):(e.apply env)[t]?=(env[t]?).map fun p=>(e.fN t).getD p:=by
 unfold de.apply de.fN;split
 ·rename_i d eb;have ai:∀(t:Nat),(wD env e.use)[t]?=(env[t]?).map fun p=>if t∈e.use then .cj else p:=Oe e.use env
  grind
 grind
def gw(L:Nat->Bool)(t:Nat):Nat->List de->aE->aE
 | _,[],acc=>acc
 | k,e::es,acc=>gw L t (k+1) es (if L k then (e.fN t).getD acc else acc)
variable{L:Nat->Bool}
theorem zj{L':Nat->Bool}:∀{es:List de} {k:Nat} {acc:aE},(∀(j:Nat) (e:de),es[j]?=some e->e.fN t≠none->L (k+j)=L' (k+j))->gw L t k es acc=gw L' t k es acc
 | [],_,_,_=>rfl
 | e::es,k,acc,h=>by
  simp only[gw];have b5:(if L k then (e.fN t).getD acc else acc)=(if L' k then (e.fN t).getD acc else acc):=by
   cases bU:e.fN t with
   | none=>simp
   | some p=>have:=h 0 e rfl (by simp[bU]);grind
  rw[b5];exact zj fun j e' bg bU=>by have:=h (j+1) e' (by grind) bU;grind
theorem Of{p:aE}:∀{es:List de} {k i:Nat} {acc:aE} {e:de},es[i]?=some e->e.fN t=some p->L (k+i)=true->
  (∀(j:Nat) (e':de),i<j->es[j]?=some e'->e'.fN t≠none->L (k+j)=false)->gw L t k es acc=p
 | [],_,_,_,_,h,_,_,_=>by simp at h
 | bB::es,k,0,acc,e,h,bU,cv,kr=>by
  simp at h;subst h;simp only[gw];rw[mq]at cv;rw[cv,bU];simp only[gO,jZ];have:∀(es:List de) (k:Nat),(∀(j:Nat) (e':de),es[j]?=some e'->e'.fN t≠none->L (k+j)=false)->gw L t k es p=p:=by
   intro es;induction es with
   | nil=>intro k _;rfl
   | cons e1 es eH=>
    intro k h;simp only[gw];have h1:(if L k then (e1.fN t).getD p else p)=p:=by
     cases bU:e1.fN t with
     | none=>simp
     | some q=>have:=h 0 e1 rfl (by simp[bU]);grind
    rw[h1];exact eH (k+1) fun j e' bg yw=>by have:=h (j+1) e' (by grind) yw;grind
  exact this es (k+1) fun j e' bg yw=>by have:=kr (j+1) e' (by omega) (by grind) yw;grind
 | bB::es,k,i+1,acc,e,h,bU,cv,kr=>by
  simp only[gw];exact Of (i:=i) (by simpa using h) bU (by rwa[show k+1+i=k+(i+1) by omega]) fun j e' bg yi yw=>by
   have:=kr (j+1) e' (by omega) (by simpa using yi) yw;rwa[show k+(j+1)=k+1+j by omega]at this
def eK(env0:List aE)(bs:List (Nat×List az))(L:Nat->Bool)(es:List de):aD:=⟨env0.zipIdx.map fun x=>gw L x.2 0 es x.1,bs⟩
variable{bs:List (Nat×List az)}
theorem pw{env0:List aE}{es:List de}(t:Nat):(eK env0 bs L es).env[t]?=(env0[t]?).map fun p=>gw L t 0 es p:=by
 simp only[eK,dr,List.getElem?_zipIdx,dF];grind
theorem wE{env0:List aE}{es:List de}:(eK env0 bs L es).env.length=env0.length:=by simp[eK]
def I'(ops:Array Oper)(o:Oper):Option Nat:=o.guard.bind fun x=>(ops[x.1]?).bind (·.dst)
def reads(ops:Array Oper)(o:Oper):List Nat:=o.op.operands.toList.filterMap OM++(I' ops o).toList
def wQ(d:Nat):de:=⟨some d,.one (.v undef),[],[]⟩
def ext(e:de)(env:List aE):de:=
 if e.mj.isEmpty then e else { e with use:=e.use++(env.zipIdx.filterMap fun x=>if x.1.ej e.mj&&!(e.dst==some x.2) then some x.2 else none) }
theorem Ja(e:de)(env:List aE):∃u,ext e env={ e with use:=u }:=by
 unfold ext;split
 ·grind
 grind
structure hf where
 t:Nat
 i:Nat
 j:Nat
 k:Nat
 kT:Nat
 es:List (List D)
 esT:List (List D)
def DT(t:Nat)(bs:List (Nat×List az)):Option (Nat×List (List D)):=
 (bs.find? fun x=>(x.2.findSome? (r5 t)).isSome).bind fun x=>(df x.1 bs).bind fun ls=>ls.findSome? (r5 t)
theorem akC{w0:ee}{a:Act}{w:World}{ω:Own}{τ:Nat->Nat×Value}(h:cr w0 st a w ω τ){kT:Nat}{esT:List (List D)}(e:DT t st.boxes=some (kT,esT)):∃v,Sat w ω τ (.J (.own t) kT esT) v:=by
 unfold DT at e;rw[la]at e;obtain⟨x,_,e⟩:=e;rw[la]at e;obtain⟨ls,aw,e⟩:=e;obtain⟨l,ap,e⟩:=List.exists_of_findSome?_eq_some e;obtain⟨b,arr,ty,_,_,_,ai⟩:=h.boxes _ ls aw;obtain⟨n,a8⟩:=ow.1 ap;obtain⟨u,_,hu⟩:=ai.2 n l a8;exact⟨u,IN e hu⟩
def qv(st:aD)(o:Oper):Option hf:=
 match o.dst,o.op with
 | some _,.call ⟨.builtin .append,⟨[x,_]⟩,⟨[_,_]⟩⟩=>
  match (st.bh x).leaf with
  | some (.aO s i j k es .here)=>
   match DT s st.boxes with
   | some (kT,esT)=>some ⟨s,i,j,k,kT,es,esT⟩
   | none=>none
  | _=>none
 | _,_=>none
def tw(P:Program)(st:aD)(o:Oper)(ans:List b4):Option (de×List b4×List Prop):=
 match qv st o,o.dst,o.op with
 | some v,some d,.call ⟨.builtin .append,⟨[_,y]⟩,⟨[t,c5]⟩⟩=>
  if t=c5 then (si P t v.t v.i v.j v.k v.es v.esT (st.bh y) ans).map fun r=>(⟨some d,r.1,[],[]⟩,r.2.1,r.2.2) else none
 | _,_,_=>none
def hf.fix(v:hf):az->Option (List Prop)
 | .J (.own s) dq dx=>if s=v.t then (if dq=v.kT then some [dx=v.esT] else none) else some []
 | .cB (.own s) dq dx _ _=>if s=v.t then (if dq=v.kT then some [dx=v.esT] else none) else some []
 | .J (.ro s) _ _=>if s=v.t then none else some []
 | .cB (.ro s) _ _ _ _=>if s=v.t then none else some []
 | .aO s a b dq dx m=>if s=v.t/\b=v.j then (if dq=v.k/\m.home=true then some [a=v.i,dx=v.es] else none) else some []
 | .eX _ _=>none
 | _=>some []
def hf.lL(v:hf)(l:az):Prop:=gx v.t v.i v.j v.k v.es v.kT v.esT l=l/\∀a∈l.idx v.t v.j,a=v.i
theorem hf.VU{v:hf}{l:az}(h:v.fix l=some obs)(aZ:cA obs):v.lL l:=by
 obtain⟨t,i,j,k,kT,es,esT⟩:=v;unfold hf.lL;simp only;cases l with
 | J g dq dx=>
  refine⟨?_,fun a ah=>by grind[az.idx]⟩;cases g with
  | free=>rfl
  | own s=>
   simp only[hf.fix]at h;split at h
   ·rename_i ai;subst ai;split at h
    ·rename_i hk;subst hk;cases h;have e:dx=esT:=aZ.1;grind[gx]
    cases h
   grind[gx]
  | ro s=>
   grind[hf.fix,gx]
 | cB g dq dx x y=>
  refine⟨?_,fun a ah=>by grind[az.idx]⟩;cases g with
  | free=>rfl
  | own s=>
   simp only[hf.fix]at h;split at h
   ·rename_i ai;subst ai;split at h
    ·rename_i hk;subst hk;cases h;have e:dx=esT:=aZ.1;grind[gx]
    cases h
   grind[gx]
  | ro s=>
   grind[hf.fix,gx]
 | aO s a b dq dx m=>
  simp only[hf.fix]at h;split at h
  ·rename_i ai;obtain⟨rfl,rfl⟩:=ai;split at h
   ·rename_i hk;cases h;have e1:a=i:=aZ.1;have e2:dx=es:=aZ.2.1;simp_all[gx,az.idx]
   cases h
  simp_all[gx,bG,az.idx]
 | eX t vs=>cases h
 | _=>exact⟨rfl,fun a ah=>by grind[az.idx]⟩
def bm.sH:bm->List az
 | .one l=>[l]
 | .agg ls=>ls
def aE.sH:aE->List az
 | .aF a=>a.sH
 | .fv as=>as.flatMap bm.sH
theorem bm.yL{p:az->Prop}{a:bm}(h:∀l∈a.sH,p l):a.ki p:=by
 cases a with
 | one l=>exact h l (by simp[bm.sH])
 | agg ls=>exact h
theorem aE.yL{p:az->Prop}{q:aE}(h:∀l∈q.sH,p l):q.ki p:=by
 cases q with
 | aF a=>exact bm.yL h
 | fv as=>exact fun a ah=>bm.yL fun l ap=>h l (nE.2 ⟨a,ah,ap⟩)
def hf.fixes(v:hf):List az->Option (List Prop)
 | []=>some []
 | l::r=>
  match v.fix l,hf.fixes v r with
  | some a,some b=>some (a++b)
  | _,_=>none
theorem hf.MA{v:hf}:∀{ls:List az} {obs:List Prop},v.fixes ls=some obs->cA obs->∀l∈ls,v.lL l
 | [],_,_,_,l,ap=>by cases ap
 | fo::r,obs,h,aZ,l,ap=>by
  simp only[hf.fixes]at h;split at h
  ·rename_i a b h1 U;cases h;obtain⟨cy,ca⟩:=aZ.append;rcases ep.1 ap with rfl | ap
   ·grind[hf.VU]
   exact hf.MA U ca l ap
  cases h
def xh(bs:List (Nat×List az))(all:Nat->List az):Nat->List Oper->List aE->List de->Option (List Prop)
 | i,o::os,env,e::es=>
  match qv ⟨env,bs⟩ o with
  | some v=>
   match v.fixes (all i),xh bs all (i+1) os (e.apply env) es with
   | some a,some b=>some (a++b)
   | _,_=>none
  | none=>xh bs all (i+1) os (e.apply env) es
 | _,_,_,_=>some []
theorem Og{all:Nat->List az}:∀{l:List Oper} {es:List de} {env:List aE} {i0:Nat} {obs:List Prop},xh bs all i0 l env es=some obs->cA obs->
  ∀(i:Nat) (o:Oper),l[i]?=some o->i<es.length->∀v,qv ⟨(es.take i).foldl (fun env e=>e.apply env) env,bs⟩ o=some v->∀jT∈all (i0+i),v.lL jT
 | [],_,_,_,_,_,_,i,o,hi,_,_,_,_,_=>by simp at hi
 | _::_,[],_,_,_,_,_,i,o,_,ap,_,_,_,_=>by simp at ap
 | B9::os,e::es,env,i0,obs,h,aZ,i,o,hi,ap,v,bz,jT,F0=>by
  simp only[xh]at h;cases i with
  | zero=>
   simp only[kI,aS]at hi;subst hi;simp only[List.take_zero,List.foldl_nil]at bz;rw[bz]at h;simp only at h;split at h
   ·rename_i a b h1 U;cases h;exact hf.MA h1 aZ.append.1 jT F0
   cases h
  | succ i=>
   have go:∀{b:List Prop},xh bs all (i0+1) os (e.apply env) es=some b->cA b->v.lL jT:=fun U ca=>
    Og U ca i o (by grind) (by grind) v (by grind) jT (by grind)
   split at h
   ·split at h
    ·rename_i a b h1 U;cases h;exact go U aZ.append.2
    cases h
   grind
def s3(P:Program)(ops:Array Oper)(gs:List Nat)(bs:List (Nat×List az)):List Oper->List aE->List b4->Option (List de×List aE×List b4×List Prop)
 | [],env,ans=>some ([],env,ans,[])
 | o::rest,env,ans=>
  match qu ops ⟨env,bs⟩ o [] with
  | some (true,_,_,_)=>
   match qY P ⟨env,bs⟩ o ans with
   | some (e,_,eT,fq)=>
    match (match o.dst with | some d=>gs.contains d | none=>false),e.p.leaf,eT with
    | true,some (.a' c),.nI b::r=>
     (s3 P ops gs bs rest (de.apply { ext e env with p:=.one (.v (.bool b)) } env) r).map fun x=>({ ext e env with p:=.one (.v (.bool b)) }::x.1,x.2.1,x.2.2.1,(c=b)::(fq++x.2.2.2))
    | _,_,_=>(s3 P ops gs bs rest ((ext e env).apply env) eT).map fun x=>(ext e env::x.1,x.2.1,x.2.2.1,fq++x.2.2.2)
   | none=>
    match tw P ⟨env,bs⟩ o ans with
    | some (e,eT,fq)=>(s3 P ops gs bs rest (e.apply env) eT).map fun x=>(e::x.1,x.2.1,x.2.2.1,fq++x.2.2.2)
    | none=>none
  | some (false,_,_,_)=>
   match o.dst with
   | some d=>(s3 P ops gs bs rest ((wQ d).apply env) ans).map fun x=>(wQ d::x.1,x.2.1,x.2.2.1,x.2.2.2)
   | none=>none
  | none=>none
def Fact(P:Program)(ops:Array Oper)(bs:List (Nat×List az))(env:List aE)(o:Oper)(e:de):Prop:=
 (∃st1 eE cy,qu ops ⟨env,bs⟩ o []=some (false,st1,eE,cy)/\∃d,o.dst=some d/\e=wQ d)\/
 (∃st1 eE cy,qu ops ⟨env,bs⟩ o []=some (true,st1,eE,cy)/\∃ans bB g b' obs,qY P ⟨env,bs⟩ o ans=some (bB,g,b',obs)/\cA obs/\
  ∃u,(e={ bB with use:=u }\/∃c b,bB.p=.one (.a' c)/\c=b/\e={ bB with use:=u,p:=.one (.v (.bool b)) }))\/
 (∃st1 eE cy,qu ops ⟨env,bs⟩ o []=some (true,st1,eE,cy)/\∃ans b' obs,tw P ⟨env,bs⟩ o ans=some (e,b',obs)/\cA obs)
theorem zk{ops:Array Oper}{gs:List Nat}:∀{l:List Oper} {env so:List aE} {ans b':List b4} {es:List de} {obs:List Prop},
  s3 P ops gs bs l env ans=some (es,so,b',obs)->cA obs->
  es.length=l.length/\so=es.foldl (fun env e=>e.apply env) env/\∀(i:Nat) (o:Oper),l[i]?=some o->∃e,es[i]?=some e/\Fact P ops bs ((es.take i).foldl (fun env e=>e.apply env) env) o e
 | [],env,so,ans,b',es,obs,h,_=>by
  simp_all[s3,aS,bq]
 | o::rest,env,so,ans,b',es,obs,h,aZ=>by
  have fin:∀(e:de) (dx:List de) (E':List aE),(dx.length=rest.length/\E'=dx.foldl (fun env e=>e.apply env) (e.apply env)/\∀(i:Nat) (o:Oper),rest[i]?=some o->∃e',dx[i]?=some e'/\Fact P ops bs ((dx.take i).foldl (fun env e=>e.apply env) (e.apply env)) o e')->
    Fact P ops bs env o e->(e::dx).length=(o::rest).length/\E'=(e::dx).foldl (fun env e=>e.apply env) env/\∀(i:Nat) (pg:Oper),(o::rest)[i]?=some pg->∃e',(e::dx)[i]?=some e'/\Fact P ops bs (((e::dx).take i).foldl (fun env e=>e.apply env) env) pg e':=by
   intro e dx E' ⟨h1,U,ax⟩ b0;refine⟨by simp[h1],U,fun i pg kS=>?_⟩;cases i with
   | zero=>grind
   | succ i=>grind
  simp only[s3]at h;split at h
  ·rename_i st1 eE cy hw;split at h
   ·rename_i e g eT fq aG;split at h
    ·rename_i c b r av ap;rw[bX]at h;obtain⟨⟨ou,kf,vw,tB⟩,h1,h⟩:=h;simp only[bq]at h;obtain⟨rfl,rfl,_,rfl⟩:=h;have NS:(c=b)/\cA tB:=⟨aZ.1,(cA.append aZ.2).2⟩
     have yP:=(cA.append aZ.2).1;refine fin _ _ _ (zk h1 NS.2) (.inr (.inl ⟨_,_,_,hw,_,_,_,_,_,aG,yP,(Ja e env).choose,.inr ⟨c,b,?_,?_,?_⟩⟩))
     ·cases hp:e.p with
      | aF a=>
       rw[hp]at ap;cases a with
       | one l=>grind[aE.leaf,aS]
       | agg ls=>cases ap
      | fv as=>rw[hp]at ap;cases ap
     ·exact NS.1
     grind
    rw[bX]at h;obtain⟨⟨ou,kf,vw,tB⟩,h1,h⟩:=h;simp only[bq]at h;obtain⟨rfl,rfl,_,rfl⟩:=h;obtain⟨yP,ca⟩:=aZ.append;exact fin _ _ _ (zk h1 ca) (.inr (.inl ⟨_,_,_,hw,_,_,_,_,_,aG,yP,(Ja e env).choose,.inl (Ja e env).choose_spec⟩))
   split at h
   ·rename_i e eT fq Gc;rw[bX]at h;obtain⟨⟨ou,kf,vw,tB⟩,h1,h⟩:=h;simp only[bq]at h;obtain⟨rfl,rfl,_,rfl⟩:=h;obtain⟨yP,ca⟩:=aZ.append;exact fin _ _ _ (zk h1 ca) (.inr (.inr ⟨_,_,_,hw,_,_,_,Gc,yP⟩))
   cases h
  ·rename_i st1 eE cy hw;split at h
   ·rename_i d aG;rw[bX]at h;obtain⟨⟨ou,kf,vw,tB⟩,h1,h⟩:=h;simp only[bq]at h;obtain⟨rfl,rfl,_,rfl⟩:=h;exact fin _ _ _ (zk h1 aZ) (.inl ⟨_,_,_,hw,d,aG,rfl⟩)
   cases h
  cases h
end Go.Sx
namespace Go.Sx
open Go.RowKit
variable{st bn:aD}
theorem Oh{parts:List (Nat×Operand)}(h:∀x∈parts,st.bh x.2=bn.bh x.2):(parts.map fun x=>(x.1,st.bh x.2))=parts.map fun x=>(x.1,bn.bh x.2):=
 kG fun x ak=>by rw[h x ak]
variable{P:Program}{ans:List b4}
theorem Oi{op:Op}(aw:st.boxes=bn.boxes)(h:∀x∈op.operands.toList,st.bh x=bn.bh x):pt P st op ans=pt P bn op ans:=by
 cases op<;>simp only[pt,Op.operands,ep,List.mem_nil_iff,forall_eq_or_imp,or_false,forall_eq]at h ⊢
 case load t x=>grind[Cp]
 case slice t x cP hi h0=>
  have ak:st.bh x=bn.bh x:=h x (by simp);have aZ:∀o:Option Operand,(∀y,o=some y->st.bh y=bn.bh y)->kY st o=kY bn o:=by
   intro o aZ;cases o with
   | none=>rfl
   | some y=>simp_all[kY]
  simp_all[Cq]
 case build t cn=>
  have:(cn.toList.map fun x=>(x.1,st.bh x.2))=cn.toList.map fun x=>(x.1,bn.bh x.2):=Oh fun x ak=>h x.2 (by grind)
  grind[Cr]
 case call c=>
  obtain⟨callee,args,ts⟩:=c;cases callee with
  | value f=>rfl
  | invoke r i=>rfl
  | builtin b=>
   simp only[Call.operands]at h;have q4:∀x∈args.toList,st.bh x=bn.bh x:=fun x ak=>h x (by grind)
   simp only;generalize args.toList=l at q4;unfold Ce;grind
 case makeFunc fn first captured=>
  have al:captured.toList.map st.bh=captured.toList.map bn.bh:=kG fun x ak=>h x (by grind)
  simp only[Cd,al]
 all_goals simp[h]
variable{o:Oper}
theorem akD(aw:st.boxes=bn.boxes)(h:∀x∈o.op.operands.toList,st.bh x=bn.bh x):qY P st o ans=qY P bn o ans:=by
 obtain⟨dst,op,type,pos,after,guard⟩:=o;simp only at h;cases dst with
 | none=>
  cases op with
  | store ty x y=>
   cases x with
   | tmp s=>
    simp_all[Op.operands,aD.bh,qY]
   | _=>rfl
  | _=>rfl
 | some d=>
  unfold qY;split
  ·rename_i f args ts e1 e2;simp only at e1 e2;subst e2;have q4:∀x∈args.toList,st.bh x=bn.bh x:=fun x ak=>h x (by grind[Op.operands,Call.operands])
   have:args.toList.mapM (fun x=>(st.bh x).jb st.boxes)=args.toList.mapM (fun x=>(bn.bh x).jb bn.boxes):=by
    rw[<-aw];generalize args.toList=l at q4;generalize st.boxes=bs;induction l with
    | nil=>rfl
    | cons x l eH=>grind
   rw[this]
  ·rename_i t n parts e1 e2;simp only at e1 e2;subst e2;have:(parts.toList.map fun x=>(x.1,st.bh x.2))=parts.toList.map fun x=>(x.1,bn.bh x.2):=Oh fun x ak=>h x.2 (by grind[Op.operands])
   grind[Bh]
  ·rename_i x y t c5 e1 e2;simp only at e1 e2;subst e2;have ak:st.bh x=bn.bh x:=h x (by simp[Op.operands,Call.operands]);have bD:st.bh y=bn.bh y:=h y (by simp[Op.operands,Call.operands]);simp only[xK,ak,bD]
  ·rfl
  ·rfl
  ·grind[Op.operands]
  ·rename_i t x cP hi h0 e1 e2;simp only at e1 e2;subst e2;have ak:st.bh x=bn.bh x:=h x (by simp[Op.operands]);have aZ:∀o:Option Operand,(∀y,o=some y->st.bh y=bn.bh y)->kY st o=kY bn o:=by
    intro o aZ;cases o with
    | none=>rfl
    | some y=>simp_all[kY]
   rw[Oi aw h];simp only[E8,ak];rw[aZ cP (fun y e=>h y (by simp[Op.operands,e])),aZ hi (fun y e=>h y (by simp[Op.operands,e]))]
  ·rw[Oi aw h]
  ·grind
  rfl
theorem Mz{x:Operand}(h:∀t,OM x=some t->st.env.getD t .cj=bn.env.getD t .cj):st.bh x=bn.bh x:=by
 cases x with
 | tmp t=>simpa[aD.bh]using h t rfl
 | _=>rfl
def lf(ms:List Nat)(i j:Nat):Bool:=(ms.getD j 0).testBit i
def vf(ms:List Nat):List Edge->Nat
 | []=>0
 | e::r=>if Region.binds .any e then (2 ^ e.on ||| ms.getD e.on 0) ||| vf ms r else vf ms r
def qf:List Oper->List Nat->List Nat
 | [],acc=>acc
 | o::r,acc=>qf r (acc++[vf acc o.after.toList])
variable{ms:List Nat}{i:Nat}
theorem Jb:∀{l:List Edge},(vf ms l).testBit i=true->∃e∈l,Region.binds .any e=true/\(i=e.on\/lf ms i e.on=true)
 | [],h=>by grind[vf]
 | e::r,h=>by
  simp only[vf]at h;split at h
  ·rename_i aw;rw[Nat.testBit_or,Nat.testBit_or,pS,pS,Nat.testBit_two_pow,cW]at h;rcases h with (h | h) | h
   ·grind
   ·exact⟨e,by simp,aw,.inr h⟩
   obtain⟨e',h1,U⟩:=Jb h;exact⟨e',by simp[h1],U⟩
  obtain⟨e',h1,U⟩:=Jb h;exact⟨e',by simp[h1],U⟩
def pV{α:Type}(f:Nat->α->Bool):Nat->List α->Bool
 | _,[]=>true
 | k,x::r=>f k x&&pV f (k+1) r
theorem vg{α:Type}{f:Nat->α->Bool}:∀{l:List α} {k:Nat},pV f k l=true->∀(i:Nat) (x:α),l[i]?=some x->f (k+i) x=true
 | [],_,_,i,x,h=>by simp at h
 | y::r,k,h,0,x,ak=>by
  simp_all[pV,cF]
 | y::r,k,h,i+1,x,ak=>by
  simp only[pV,cF]at h;have:=vg h.2 i x (by simpa using ak);rwa[show k+1+i=k+(i+1) by omega]at this
def qw(ms:List Nat)(os:List Oper):Bool:=
 pV (fun j o=>ms.getD j 0==vf ms o.after.toList&&o.after.toList.all fun e=>!Region.binds .any e||decide (e.on<j)) 0 os
variable{ops:Array Oper}
theorem Jc(h:qw ms ops.toList=true){j:Nat}(aZ:ops[j]?=some o):(∀e∈o.after,Region.binds .any e=true->e.on<j)/\
  ∀i,lf ms i j=true->∃e∈o.after,Region.binds .any e=true/\(i=e.on\/lf ms i e.on=true):=by
 have:=vg h j o (by grind);simp only[dF,cF,jL,fx,pS,h8,cW]at this;grind[lf,Jb]
def px(ops:Array Oper)(bS:Array Bool):Prop:=
 ∀(j:Nat) (o:Oper),bS.getD j false=true->ops[j]?=some o->∀e∈o.after,Region.binds .any e=true->bS.getD e.on false=true
variable{bS:Array Bool}
theorem Di{j:Nat}(h:bS.getD j false=true):j<bS.size:=by
 grind
theorem Dj(h:qw ms ops.toList=true)(al:px ops bS)(ai:bS.size=ops.size):∀(j:Nat),bS.getD j false=true->lf ms i j=true->bS.getD i false=true:=by
 intro j;induction j using Nat.strongRecOn with
 | ind j eH=>
  intro bg ah;have bJ:j<ops.size:=ai▸Di bg;have aZ:ops[j]?=some ops[j]:=k9 bJ;obtain⟨h1,U⟩:=Jc h aZ;obtain⟨e,he,aw,p1⟩:=U i ah;have vW:=al j _ bg aZ e he aw;grind
variable{k:Nat}
theorem yS(h:qw ms ops.toList=true)(al:px ops bS)(ai:bS.size=ops.size)(hi:i∈Region.ready .any ops bS)(ah:lf ms k i=true):bS.getD k false=true:=by
 rw[mem_ready]at hi;obtain⟨_,o,aZ,he⟩:=hi;obtain⟨_,U⟩:=Jc h aZ;obtain⟨e,BH,aw,p1⟩:=U k ah;rcases p1 with rfl | p1
 ·grind
 grind[Dj]
theorem px.ready(al:px ops bS)(hi:i∈Region.ready .any ops bS):px ops (bS.setIfInBounds i true):=by
 intro j o bg aZ e he aw;rw[mem_ready]at hi;obtain⟨_,auz,auc,nY⟩:=hi;by_cases ui:i=j
 ·grind[getD_set_true]
 rw[getD_set_ne false ui]at bg;exact getD_set_true (al j o bg aZ e he aw)
theorem Jd(h:qw ms ops.toList=true)(ai:bS.size=ops.size)(aH:Region.ready .any ops bS=[]):∀j,j<ops.size->bS.getD j false=true:=by
 intro j;induction j using Nat.strongRecOn with
 | ind j eH=>
  intro bJ;have aZ:ops[j]?=some ops[j]:=k9 bJ;obtain⟨h1,_⟩:=Jc h aZ;cases ap:bS.getD j false with
  | true=>rfl
  | false=>
   have:j∈Region.ready .any ops bS:=by
    grind[mem_ready,Nat.lt_trans]
   grind
def yU(e:de):List Nat:=e.dst.toList++e.use
def Dk(ops:Array Oper)(o:Oper)(e:de):List Nat:=yU e++reads ops o
def Ca(ms:List Nat)(i k:Nat):Bool:=if k<i then lf ms k i else lf ms i k
def Im(ops:Array Oper)(ms:List Nat)(es:List de):Bool:=
 pV (fun i x=>pV (fun k e=>k==i||Ca ms i k||!((yU e).any fun t=>(Dk ops x.1 x.2).contains t)) 0 es) 0 (ops.toList.zip es)
def wR(ms:List Nat)(es:List de)(i cP:Nat)(s:Option Nat):Bool:=es.zipIdx.any fun y=>decide (cP<=y.2)&&lf ms y.2 i&&(match s with | some t=>y.1.use.contains t | none=>false)
variable{es:List de}
theorem Oj{cP:Nat}{s:Option Nat}(h:wR ms es i cP s=true):∃m y t,es[m]?=some y/\cP<=m/\lf ms m i=true/\t∈y.use/\s=some t:=by
 unfold wR at h;grind
def Io(ms:List Nat)(es:List de)(env0:List aE)(bs:List (Nat×List az)):Bool:=
 pV (fun i e=>e.mj.isEmpty||
  (pV (fun j x=>j==i||lf ms i j||!x.p.ej e.mj||(match x.dst with | some t=>e.use.contains t | none=>false)||x.dst==e.dst||wR ms es i (j+1) x.dst) 0 es&&
   pV (fun t p=>!p.ej e.mj||e.use.contains t||wR ms es i 0 (some t)||e.dst==some t) 0 env0&&
   bs.all fun x=>!x.2.any (az.ej e.mj))) 0 es
variable{e:de}
theorem Ol{t:Nat}(h:e.fN t≠none):t∈yU e:=by
 unfold de.fN at h;split at h
 ·grind[yU]
 simp_all[yU,absurd]
theorem Om(h:Im ops ms es=true){lj E9:de}(aZ:ops[i]?=some o)(hi:es[i]?=some lj)(hk:es[k]?=some E9)(c3:k≠i){t:Nat}
  (bU:E9.fN t≠none) (a8:t∈Dk ops o lj):Ca ms i k=true:=by
 have h1:=vg h i (o,lj) (by
  grind)
 have U:=vg h1 k E9 hk;simp only[dF,pS,jL,h8]at U;rcases U with (U | U) | U
 ·grind
 ·exact U
 simp_all[hd,Ol,List.contains_iff_mem,absurd]
variable{r:fz}
theorem Tag.pe(h:r.isEmpty=true)(t:Tag):t.ej r=false:=by
 cases t with
 | free=>rfl
 | own s=>rw[List.isEmpty_iff]at h;subst h;rfl
 | ro s=>rw[List.isEmpty_iff]at h;subst h;rfl
theorem az.pe(h:r.isEmpty=true)(l:az):l.ej r=false:=by
 cases l with
 | aO t i j k es m=>exact Tag.pe h (.own t)
 | eX t vs=>
  simp only[az.ej,gn];refine⟨Tag.pe h (.own t),hd.2 fun c _=>?_⟩;cases c with
  | cj=>simp[eD.ej]
  | v x=>simp[eD.ej]
  | J t k es=>simp[eD.ej,Tag.pe h]
 | _=>simp[az.ej,Tag.pe h]
theorem bm.pe(h:r.isEmpty=true)(a:bm):a.ej r=false:=by
 cases a<;>simp[bm.ej,az.pe h]
theorem aE.pe(h:r.isEmpty=true)(p:aE):p.ej r=false:=by
 cases p<;>simp[aE.ej,bm.pe h]
variable{bs:List (Nat×List az)}
theorem akE{env0:List aE}(h:Io ms es env0 bs=true)(hi:es[i]?=some e):
  (∀(j:Nat) (x:de),es[j]?=some x->j≠i->lf ms i j=true\/x.p.ej e.mj=false\/(∃t,x.dst=some t/\t∈e.use)\/x.dst=e.dst\/wR ms es i (j+1) x.dst=true)/\
  (∀(t:Nat) (p:aE),env0[t]?=some p->((p.ej e.mj=false\/t∈e.use)\/wR ms es i 0 (some t)=true)\/e.dst=some t)/\∀x∈bs,x.2.any (az.ej e.mj)=false:=by
 have h1:=vg h i e hi;simp only[pS,cW]at h1;rcases h1 with h1 | h1
 ·grind[aE.pe,hd,az.pe]
 simp only[cF]at h1;obtain⟨⟨h1,U⟩,ax⟩:=h1;refine⟨fun j x ak c3=>?_,fun t p hp=>?_,fun x ak=>?_⟩
 ·have:=vg h1 j x ak;grind
 ·have:=vg U t p hp;grind
 grind
theorem Ip{L:Nat->Bool}{t:Nat}:∀{es:List de} {k:Nat} {acc:aE},(gw L t k es acc=acc/\∀(m:Nat) (y:de),es[m]?=some y->L (k+m)=true->y.fN t=none)\/gw L t k es acc=.cj\/
  ∃j e,es[j]?=some e/\L (k+j)=true/\e.dst=some t/\gw L t k es acc=e.p/\∀(m:Nat) (y:de),es[m]?=some y->j<m->L (k+m)=true->y.fN t=none
 | [],_,_=>.inl ⟨rfl,fun m y h=>by simp at h⟩
 | e::es,k,acc=>by
  simp only[gw];rcases Ip (L:=L) (t:=t) (es:=es) (k:=k+1) (acc:=if L k then (e.fN t).getD acc else acc) with⟨h,a8⟩ | h | ⟨j,e',h1,U,ax,aJ,aY⟩
  ·have tail:∀(m:Nat) (y:de),(e::es)[m+1]?=some y->L (k+(m+1))=true->y.fN t=none:=fun m y bD ap=>a8 m y (by grind) (by grind)
   by_cases cv:L k=true
   ·rw[bM cv]at h ⊢;unfold de.fN at h ⊢;by_cases aG:e.dst=some t
    ·rw[bM aG]at h ⊢;refine .inr (.inr ⟨0,e,rfl,cv,aG,h,fun m y bD hm ap=>?_⟩);cases m with
     | zero=>omega
     | succ m=>exact tail m y bD ap
    rw[bG aG]at h ⊢;by_cases hu:t∈e.use
    ·grind
    rw[bG hu]at h ⊢;refine .inl ⟨h,fun m y bD ap=>?_⟩;cases m with
    | zero=>
     grind
    | succ m=>exact tail m y bD ap
   grind
  ·grind
  refine .inr (.inr ⟨j+1,e',by grind,by grind,ax,aJ,fun m y bD hm ap=>?_⟩);grind
theorem On{t:Nat}:∀{es:List de} {k i:Nat} {acc:aE} {e:de},es[i]?=some e->
  gw (fun j=>decide (j<k+i+1)) t k es acc=(e.fN t).getD (gw (fun j=>decide (j<k+i)) t k es acc)
 | [],_,_,_,_,h=>by simp at h
 | bB::es,k,0,acc,e,h=>by
  simp at h;subst h;have kr:∀(es:List de) (k m:Nat) (acc:aE),m<=k->gw (fun j=>decide (j<m)) t k es acc=acc:=by
   intro es;induction es with
   | nil=>intro k m acc _;rfl
   | cons e1 es eH=>
    intro k m acc hm;simp only[gw];rw[bG (by grind)];exact eH (k+1) m acc (by omega)
  simp_all[gw,bM,bG]
 | bB::es,k,i+1,acc,e,h=>by
  simp only[gw];rw[bM (by simp;omega),bM (by simp)];have:=On (t:=t) (es:=es) (k:=k+1) (i:=i) (acc:=(bB.fN t).getD acc) (by simpa using h);rw[show k+1+i+1=k+(i+1)+1 by omega,show k+1+i=k+(i+1) by omega]at this;exact this
theorem Dl{env0:List aE}{bs:List (Nat×List az)}(aG:∀(i:Nat) (e:de),es[i]?=some e->e.dst≠none):∀(i:Nat),i<=es.length->
  (es.take i).foldl (fun env e=>e.apply env) env0=(eK env0 bs (fun j=>decide (j<i)) es).env
 | 0,_=>by
  apply List.ext_getElem?;intro t;rw[pw];have kr:∀(es:List de) (k:Nat) (acc:aE),gw (fun j=>decide (j<0)) t k es acc=acc:=by
   intro es;induction es with
   | nil=>intro k acc;rfl
   | cons e1 es eH=>simp_all[gw,bG]
  grind
 | i+1,hi=>by
  have bJ:i<es.length:=by omega
  have he:es[i]?=some es[i]:=iZ bJ;have eH:=Dl (env0:=env0) (bs:=bs) aG i (by omega);rw[vy,he,EN,List.foldl_append,eH];simp only[List.foldl_cons,List.foldl_nil];apply List.ext_getElem?;intro t;rw[de.apply_get (aG i _ he),pw,pw];cases h:env0[t]? with
  | none=>rfl
  | some p=>
   have:=On (t:=t) (es:=es) (k:=0) (i:=i) (acc:=p) he;grind
theorem Iq{bn:aD}{st1:aD}{eE:List b4}{cy:List Prop}{b:Bool}(h:qu ops st o []=some (b,st1,eE,cy))(ai:∀t∈reads ops o,st.env.getD t .cj=bn.env.getD t .cj):
  qu ops bn o []=some (b,bn,[],[]):=by
 unfold qu at h ⊢;cases av:o.guard with
 | none=>grind
 | some g=>
  obtain⟨j,want⟩:=g;rw[av]at h;simp only at h ⊢;cases aG:(ops[j]?).bind (·.dst) with
  | none=>grind
  | some s=>
   grind[reads,I',aS,bq]
variable{b':List b4}{obs:List Prop}
theorem PT(h:tw P st o ans=some (e,b',obs)):
  ∃(v:hf) (d:Nat) (x y:Operand) (t:TypeId),qv st o=some v/\o.dst=some d/\o.op=.call ⟨.builtin .append,⟨[x,y]⟩,⟨[t,t]⟩⟩/\si P t v.t v.i v.j v.k v.es v.esT (st.bh y) ans=some (e.p,b',obs)/\
   e=⟨some d,e.p,[],[]⟩/\(st.bh x).leaf=some (.aO v.t v.i v.j v.k v.es .here)/\DT v.t st.boxes=some (v.kT,v.esT):=by
 obtain⟨dst,op,type,pos,after,guard⟩:=o;unfold tw at h;split at h
 ·rename_i v d fZ y t c5 hi aG ri;simp only at aG ri;subst aG;subst ri;split at h
  ·rename_i yy;subst yy;rw[bX]at h;obtain⟨⟨bK,b2,cf⟩,h1,h⟩:=h;simp only[bq]at h;obtain⟨rfl,rfl,rfl⟩:=h;have lZ:=hi;simp only[qv]at lZ;grind
  cases h
 cases h
theorem PU{st bn:aD}(aw:st.boxes=bn.boxes)(h:∀x∈o.op.operands.toList,st.bh x=bn.bh x):qv st o=qv bn o:=by
 obtain⟨dst,op,type,pos,after,guard⟩:=o;simp only at h;unfold qv;simp only;split
 ·grind[Op.operands,Call.operands]
 rfl
theorem akF(aw:st.boxes=bn.boxes)(h:∀x∈o.op.operands.toList,st.bh x=bn.bh x):tw P st o ans=tw P bn o ans:=by
 unfold tw;rw[PU aw h];split
 ·grind[Op.operands,Call.operands]
 rfl
theorem akG{v:hf}{q:aE}(h:q.ki v.lL):∀a∈q.idx v.t v.j,a=v.i:=by
 have one:∀{a:bm},a.ki v.lL->∀x∈a.idx v.t v.j,x=v.i:=by
  intro a ah x ak;cases a with
  | one l=>exact ah.2 x ak
  | agg ls=>
   obtain⟨l,ap,ak⟩:=nE.1 ak;exact (ah l ap).2 x ak
 intro x ak;cases q with
 | aF a=>exact one h x ak
 | fv as=>
  obtain⟨a,ah,ak⟩:=nE.1 ak;exact one (h a ah) x ak
theorem akH{v:hf}{q:aE}(h:q.ki v.lL):q.map (gx v.t v.i v.j v.k v.es v.kT v.esT)=q:=by
 have ls:∀{ls:List az},(∀l∈ls,v.lL l)->ls.map (gx v.t v.i v.j v.k v.es v.kT v.esT)=ls:=by
  intro ls ap
  conv=>rhs;rw[<-qO ls]
  exact kG fun l hm=>(ap l hm).1
 have one:∀{a:bm},a.ki v.lL->a.map (gx v.t v.i v.j v.k v.es v.kT v.esT)=a:=by
  intro a ah;cases a with
  | one l=>simp only[bm.map];rw[ah.1]
  | agg l=>simp only[bm.map];rw[ls ah]
 cases q with
 | aF a=>simp only[aE.map];rw[one h]
 | fv as=>
  simp only[aE.map]
  congr 1
  conv=>rhs;rw[<-qO as]
  exact kG fun a hm=>one (h a hm)
theorem Fact.dst{env:List aE}(h:Fact P ops bs env o e):e.dst≠none:=by
 rcases h with⟨_,_,_,_,d,aG,rfl⟩ | ⟨_,_,_,_,ans,bB,g,b',obs,h1,_,U⟩ | ⟨_,_,_,_,ans,b',obs,h1,_⟩
 rotate_left 2
 ·grind[PT]
 ·simp[wQ]
 obtain⟨_,d,aJ,_⟩:=Od h1;grind
variable{w0:ee}{a:Act}{w:World}
theorem Rel.bool{env:List aE}{d:Nat}{c:Bool}(h:Rel w0 ⟨env.set d (.one (.a' c)),bs⟩ a w):Rel w0 ⟨env.set d (.one (.v (.bool c))),bs⟩ a w:=by
 obtain⟨ω,τ,h⟩:=h;refine⟨ω,τ,h.defers,by have:=h.size;grind,h.below,h.owned,h.fixed,h.pinned,fun i p hp=>?_,h.boxes⟩;by_cases hi:d=i
 ·subst hi;rw[nC]at hp;split at hp
  ·split at hp
   ·rename_i ap;simp only[aS]at hp;subst hp;obtain⟨v,h1,U⟩:=h.env d (.one (.a' c)) (by simp[ap]);exact⟨v,h1,U⟩
   cases hp
  grind
 exact h.env i p (by grind)
section
variable {P : Program} {ops : Array Oper} {bs : List (Nat × List az)} {env0 : List aE} {es : List de} {ms : List Nat}
def eQ(bS:Array Bool)(j:Nat):Bool:=bS.getD j false
structure oC (P:Program) (ops:Array Oper) (bs:List (Nat×List az)) (env0:List aE) (es:List de) (ms:List Nat):Prop where
 len:es.length<=ops.size
 facts:∀(i:Nat) (o:Oper),i<es.length->ops[i]?=some o->∃e,es[i]?=some e/\Fact P ops bs (eK env0 bs (fun j=>decide (j<i)) es).env o e
 masks:qw ms ops.toList=true
 aO:∀(i:Nat) (o:Oper) (v:hf),i<es.length->ops[i]?=some o->qv ⟨(eK env0 bs (fun j=>decide (j<i)) es).env,bs⟩ o=some v->
  (∀q∈env0,q.ki v.lL)/\(∀(j:Nat) (x:de),es[j]?=some x->j≠i->x.p.ki v.lL)/\∀x∈bs,∀l∈x.2,v.lL l
 ord:Im ops ms es=true
 tok:Io ms es env0 bs=true
variable{bS:Array Bool}{i:Nat}{e:de}
theorem oC.same(h:oC P ops bs env0 es ms)(al:px ops bS)(ai:bS.size=ops.size)(hi:i∈Region.ready .any ops bS){o:Oper}(aZ:ops[i]?=some o)(he:es[i]?=some e)
  {t:Nat} (bU:t∈Dk ops o e):(eK env0 bs (eQ bS) es).env.getD t .cj=(eK env0 bs (fun j=>decide (j<i)) es).env.getD t .cj:=by
 rw[jY,jY,pw,pw];have gS:bS.getD i false=false:=by
  have b5:=(mem_ready.1 hi).1;grind
 cases atO:env0[t]? with
 | none=>rfl
 | some p=>
  simp only[qL,jZ];refine zj fun j vH bg BX=>?_
  rw[dF];by_cases re:j=i
  ·grind[eQ]
  have:=Om h.ord aZ he bg re BX bU;unfold Ca at this;split at this
  ·rename_i bJ;have:=yS h.masks al ai hi this;grind[eQ]
  rename_i bJ;cases F1:bS.getD j false with
  | false=>grind[eQ]
  | true=>have:=Dj h.masks al ai j F1 this;grind
theorem Ir(bJ:i<bS.size)(j:Nat):eQ (bS.setIfInBounds i true) j=(if j=i then true else eQ bS j):=by
 unfold eQ;split
 ·simp_all
 simp_all[getD_set_ne,false,Ne.symm]
theorem oC.fe(h:oC P ops bs env0 es ms)(bJ:i<bS.size)(he:es[i]?=some e){t:Nat}(bU:e.fN t=none)(p:aE):
  gw (eQ (bS.setIfInBounds i true)) t 0 es p=gw (eQ bS) t 0 es p:=by
 refine zj fun j vH bg BX=>?_
 rw[dF,Ir bJ,bG];grind
theorem oC.last(h:oC P ops bs env0 es ms)(al:px ops bS)(ai:bS.size=ops.size)(hi:i∈Region.ready .any ops bS){o:Oper}(aZ:ops[i]?=some o)(he:es[i]?=some e)
  {t:Nat} {q:aE} (bU:e.fN t=some q) (p:aE):gw (eQ (bS.setIfInBounds i true)) t 0 es p=q:=by
 have bJ:i<bS.size:=ai▸(iE.1 aZ).1;have gS:bS.getD i false=false:=by
  have b5:=(mem_ready.1 hi).1;grind
 refine Of he bU (by rw[dF,Ir bJ,bM rfl]) fun j vH bg WW BX=>?_
 rw[dF,Ir bJ,bG (by omega)];have:=Om h.ord aZ he WW (by omega) BX (t:=t) (by
  grind[Dk,hP,Ol])
 unfold Ca at this;rw[bG (by omega)]at this;cases F1:eQ bS j with
 | false=>rfl
 | true=>have:=Dj h.masks al ai j F1 this;grind
theorem oC.step(h:oC P ops bs env0 es ms)(al:px ops bS)(ai:bS.size=ops.size)(hi:i∈Region.ready .any ops bS)(nY:i<es.length){w0:ee}{w:World}{a:Act}
  (aH:Rel w0 (eK env0 bs (eQ bS) es) a w) {Q:Exit->Act->World->Prop} {K:Act->World->Prop} (hl:∀cx aM,Rel w0 (eK env0 bs (eQ (bS.setIfInBounds i true)) es) cx aM->K cx aM):wpOp P ops Q i K a w:=by
 obtain⟨b5,o,aZ,atM⟩:=mem_ready.1 hi;obtain⟨e,he,b0⟩:=h.facts i o nY aZ;have bJ:i<bS.size:=ai▸(iE.1 aZ).1;have Xt:=fun t bU=>h.same al ai hi aZ he (t:=t) bU
 have yr:∀t∈reads ops o,(eK env0 bs (fun j=>decide (j<i)) es).env.getD t .cj=(eK env0 bs (eQ bS) es).env.getD t .cj:=fun t bU=>(Xt t (iC _ bU)).symm
 unfold wpOp;rw[aZ];simp only;rcases b0 with⟨st1,eE,cy,hw,d,aG,rfl⟩ | ⟨st1,eE,cy,hw,ans,bB,g,b',obs,ey,F6,FM⟩ | ⟨st1,eE,cy,hw,ans,b',obs,Gc,F6⟩
 rotate_left 2
 ·have yA:=Iq hw (bn:=eK env0 bs (eQ bS) es) yr;obtain⟨p8,_⟩:=vd yA trivial aH;rw[bM p8];left;have MT:∀x∈o.op.operands.toList,(eK env0 bs (eQ bS) es).bh x=aD.bh ⟨(eK env0 bs (fun j=>decide (j<i)) es).env,bs⟩ x:=fun x ak=>Mz fun t bU=>(yr t (by
   grind[reads,hP])).symm
  have FF:tw P (eK env0 bs (eQ bS) es) o ans=some (e,b',obs):=by
   rw[<-Gc];exact akF rfl MT
  obtain⟨v,d,x,y,t,WR,aG,ri,vT,p1,ak,mO⟩:=PT FF;have WS:qv ⟨(eK env0 bs (fun j=>decide (j<i)) es).env,bs⟩ o=some v:=by
   rw[<-WR];exact (PU (st:=eK env0 bs (eQ bS) es) (bn:=⟨(eK env0 bs (fun j=>decide (j<i)) es).env,bs⟩) rfl MT).symm
  obtain⟨atP,Wx,MU⟩:=h.aO i o v nY aZ WS;have gS:bS.getD i false=false:=by
   grind
  have sx:∀q∈(eK env0 bs (eQ bS) es).env,q.ki v.lL:=by
   intro q aK;simp only[eK]at aK;rw[lJ]at aK;obtain⟨⟨j9,n⟩,hm,rfl⟩:=aK;have mN:j9∈env0:=by
    grind
   simp only;rcases Ip (L:=eQ bS) (t:=n) (es:=es) (k:=0) (acc:=j9) with⟨h1,_⟩ | h1 | ⟨j,vH,h1,U,_,aJ,_⟩
   ·grind
   ·rw[h1];exact⟨rfl,fun a ah=>by grind[az.idx]⟩
   rw[aJ];refine Wx j vH h1 ?_;rintro rfl;rw[dF]at U;grind[eQ]
  have W7:(eK env0 bs (eQ bS) es).map (gx v.t v.i v.j v.k v.es v.kT v.esT)=eK env0 bs (eQ bS) es:=by
   have e1:(eK env0 bs (eQ bS) es).env.map (aE.map (gx v.t v.i v.j v.k v.es v.kT v.esT))=(eK env0 bs (eQ bS) es).env:=by
    conv=>rhs;rw[<-qO (eK env0 bs (eQ bS) es).env]
    grind[kG,akH]
   have e2:bs.map (fun x=>(x.1,x.2.map (gx v.t v.i v.j v.k v.es v.kT v.esT)))=bs:=by
    conv=>rhs;rw[<-qO bs]
    refine kG fun x ak=>?_
    obtain⟨ou,kf⟩:=x;simp only[id]
    congr 1
    conv=>rhs;rw[<-qO kf]
    exact kG fun l ap=>(MU _ ak l ap).1
   unfold aD.map;rw[e1];show aD.mk _ (bs.map _)=_;rw[e2];rfl
  have nX:∀a∈(eK env0 bs (eQ bS) es).idx v.t v.j,a=v.i:=by
   intro cx ah;unfold aD.idx at ah;rcases mo.1 ah with ah | ah
   ·grind[akG]
   obtain⟨z,bl,ah⟩:=nE.1 ah;obtain⟨l,ap,ah⟩:=nE.1 ah;exact (MU z bl l ap).2 cx ah
  obtain⟨ω,τ,gI⟩:=aH;obtain⟨z,aM,h1,U⟩:=gI.si (P:=P) (d:=d) (ty:=o.type) (kT:=v.kT) (x:=x) (y:=y) (aE.du ak (gI.bh x)) vT F6 (akC gI mO) nX;rw[W7]at U;obtain⟨dst,op,type,pos,after,guard⟩:=o;simp only at aG ri;subst aG;subst ri;refine Calls.of (z:=z) (aM:=aM) ?_ (hl _ _ ?_)
  ·have:(execOp a.eval ⟨some d,.call ⟨.builtin .append,⟨[x,y]⟩,⟨[t,t]⟩⟩,type,pos,after,guard⟩)=(builtin .append ⟨[t,t]⟩ type (Array.map (fun | .const _=>true | _=>false) ⟨[x,y]⟩) (Array.map a.eval ⟨[x,y]⟩)):=by
    simp only[execOp,resolve];rfl
   rw[this];exact h7 (by grind)
  refine U.weaken (by simp[wE]) rfl ?_;intro n p hp;right;rw[pw,bX]at hp;obtain⟨j9,mN,rfl⟩:=hp;rw[nC];have FL:e.dst=some d:=by rw[p1]
  have uv:e.use=[]:=by rw[p1]
  by_cases sw:d=n
  ·subst sw;have:d<env0.length:=(fy.1 mN).1;rw[bM rfl,bM (by grind[wE]),h.last al ai hi aZ he (q:=e.p) (by grind[de.fN])]
  rw[bG sw,pw,mN,qL,h.fe bJ he (by grind[de.fN])]
 ·have yA:=Iq hw (bn:=eK env0 bs (eQ bS) es) yr;obtain⟨p8,_⟩:=vd yA trivial aH;rw[bG (by grind)];refine hl _ _ ((I5 aH).weaken ?_ ?_ ?_)
  ·simp[wE,zi,aG]
  ·simp[eK,zi,aG]
  intro t p hp;rw[pw,bX]at hp;obtain⟨j9,mN,rfl⟩:=hp;right;simp only[zi,aG];rw[nC];by_cases sw:d=t
  ·subst sw;have:d<env0.length:=(fy.1 mN).1;rw[bM rfl,bM (by grind[wE]),h.last al ai hi aZ he (q:=.one (.v undef)) (by simp[de.fN,wQ])]
  rw[bG sw,pw,mN,qL,h.fe bJ he (by grind[de.fN,wQ])]
 have yA:=Iq hw (bn:=eK env0 bs (eQ bS) es) yr;obtain⟨p8,_⟩:=vd yA trivial aH;rw[bM p8];left;have FF:qY P (eK env0 bs (eQ bS) es) o ans=some (bB,g,b',obs):=by
  rw[<-ey];refine akD rfl fun x ak=>Mz fun t bU=>(yr t ?_).symm
  grind[reads,hP]
 obtain⟨av,d,FJ,ri⟩:=Od FF;obtain⟨u,FM⟩:=FM;have wa:e.mj=bB.mj/\e.dst=bB.dst:=by
  grind
 obtain⟨wa,Wu⟩:=wa;rw[<-wa]at av;obtain⟨XA,XB,auh⟩:=akE h.tok he;have Wb:((eK env0 bs (eQ bS) es).map (az.ct g fun _=>true)).boxes=bs:=by
  simp only[aD.map,eK]
  conv=>rhs;rw[<-qO bs]
  grind[kG,id,OL]
 refine ajk ri F6 aH fun cx aM et=>hl _ _ ?_
 rw[Wb]at et;have l2:Rel w0 ⟨((eK env0 bs (eQ bS) es).map (az.ct g fun _=>true)).env.set d e.p,bs⟩ cx aM:=by
  rcases FM with rfl | ⟨c,b,hp,ig,rfl⟩
  ·exact et
  rw[hp]at et;subst ig;exact et.bool
 refine l2.weaken (by simp[wE,aD.map]) rfl ?_;intro t p hp;rw[pw,bX]at hp;obtain⟨j9,mN,rfl⟩:=hp;rw[nC];have FL:e.dst=some d:=Wu.trans FJ;by_cases sw:d=t
 ·subst sw;right;have:d<env0.length:=(fy.1 mN).1;rw[bM rfl,bM (by grind[aD.map,wE]),h.last al ai hi aZ he (q:=e.p) (by grind[de.fN])]
 rw[bG sw];by_cases auj:t∈e.use
 ·left;exact h.last al ai hi aZ he (by grind[de.fN]) j9
 have FX:=h.fe bJ he (t:=t) (by grind[de.fN]) j9;rw[FX];have at7:gw (eQ bS) t 0 es j9=.cj\/(gw (eQ bS) t 0 es j9).ej e.mj=false:=by
  rcases Ip (L:=eQ bS) (t:=t) (es:=es) (k:=0) (acc:=j9) with⟨h1,kr⟩ | h1 | ⟨j,vH,h1,U,ax,aJ,kr⟩
  ·right;rw[h1];rcases XB t j9 mN with (aY | aY) | aY
   rotate_left 2
   ·grind
   ·grind
   obtain⟨m,y,c5,hm,_,ah,hu,bU⟩:=Oj aY;cases bU;have:=kr m y hm (by rw[dF];exact yS h.masks al ai hi ah);unfold de.fN at this;grind
  ·exact .inl h1
  right;rw[aJ];rw[dF]at U;have gS:bS.getD i false=false:=by
   grind
  have re:j≠i:=by grind
  rcases XA j vH h1 re with aY | aY | aY | aY | aY
  rotate_left 3
  ·grind
  ·obtain⟨m,y,c5,hm,M5,ah,hu,bU⟩:=Oj aY;rw[ax]at bU;cases bU;have:=kr m y hm (by omega) (by rw[dF];exact yS h.masks al ai hi ah);unfold de.fN at this;grind
  ·have:=Dj h.masks al ai j U aY;grind
  ·exact aY
  grind
 grind[aD.map,pw,aE.vo]
def Is(ops:Array Oper)(ms:List Nat)(k:Nat):Prop:=∀i,k<=i->i<ops.size->∀j,j<i->lf ms j i=true
theorem oC.any(h:oC P ops bs env0 es ms)(aw:Is ops ms es.length){w0:ee}{Q:Exit->Act->World->Prop}
  (ic:∀(gF:Nat) {bS:Array Bool},px ops bS->bS.size=ops.size->(∀j,j<es.length->bS.getD j false=true)->(∀j,es.length<=j->bS.getD j false=false)->bS.count false<=gF->
   ∀{a:Act} {w:World},Rel w0 (eK env0 bs (fun j=>decide (j<es.length)) es) a w->wpAny P .any ops Q gF bS a w):
  ∀(gF:Nat) {bS:Array Bool},px ops bS->bS.size=ops.size->(∀j,es.length<=j->bS.getD j false=false)->bS.count false<=gF->
  ∀{a:Act} {w:World},Rel w0 (eK env0 bs (eQ bS) es) a w->wpAny P .any ops Q gF bS a w:=by
 intro gF;induction gF with
 | zero=>
  intro bS al ai gS ra a w aH;by_cases hD:∀j,j<es.length->bS.getD j false=true
  ·refine ic 0 al ai hD gS ra ?_;have:eK env0 bs (eQ bS) es=eK env0 bs (fun j=>decide (j<es.length)) es:=by
    unfold eK
    congr 1
    refine kG fun x _=>?_
    refine zj fun j e bg _=>?_
    have bJ:j<es.length:=(fy.1 bg).1;simp_all[dF,eQ,decide_true]
   grind
  exfalso;apply hD;intro j bg;have bJ:j<bS.size:=ai▸xu bg h.len;cases b0:bS[j] with
  | true=>simp[k9 bJ,b0]
  | false=>
   have:0<bS.count false:=by
    grind[Array.count_pos_iff,Array.getElem_mem]
   omega
 | succ gF eH=>
  intro bS al ai gS ra a w aH;by_cases hD:∀j,j<es.length->bS.getD j false=true
  ·refine ic _ al ai hD gS ra ?_;have:eK env0 bs (eQ bS) es=eK env0 bs (fun j=>decide (j<es.length)) es:=by
    unfold eK
    congr 1
    refine kG fun x _=>?_
    refine zj fun j e bg _=>?_
    have bJ:j<es.length:=(fy.1 bg).1;simp_all[dF,eQ,decide_true]
   grind
  refine⟨fun v8=>absurd (fun j bg=>Jd h.masks ai v8 j (xu bg h.len)) hD,fun i hi=>?_⟩;have nY:i<es.length:=by
   rcases oA i es.length with h1 | h1
   ·exact h1
   exfalso;obtain⟨_,o,aZ,_⟩:=mem_ready.1 hi;have bJ:i<ops.size:=(iE.1 aZ).1;exact hD fun j bg=>yS h.masks al ai hi (aw i h1 bJ j (xu bg h1))
  refine h.step al ai hi nY aH fun cx aM et=>eH (al.ready hi) (by grind) (fun j bg=>?_) ?_ et
  ·rw[getD_set_ne false (by omega)];grind
  obtain⟨h1,o,aZ,_⟩:=mem_ready.1 hi;have bJ:i<bS.size:=ai▸(iE.1 aZ).1;have b0:bS[i]=false:=by simpa[k9 bJ]using h1
  grind
end
def wS(P:Program)(ops:Array Oper):List Oper->aD->List b4->Stepped
 | [],st,ans=>some (st,ans,[])
 | o::rest,st,ans=>
  match pj P ops o st ans with
  | some (st1,eT,fq)=>(wS P ops rest st1 eT).map fun r=>(r.1,r.2.1,fq++r.2.2)
  | none=>none
theorem PV{Q:Exit->Act->World->Prop}(hi:ops[i]?=some o)(h:pj P ops o st ans=some (bn,b',obs))(aZ:cA obs)
  {a:Act} {w:World} (aU:Rel w0 st a w) {K:Act->World->Prop} (hl:∀cx aM,Rel w0 bn cx aM->K cx aM):wpOp P ops Q i K a w:=by
 unfold wpOp;rw[hi];simp only;unfold pj at h;split at h
 ·rename_i st1 eT fq hw;rw[bX]at h;obtain⟨⟨bK,b2,cf⟩,h1,h⟩:=h;simp only[bq]at h;obtain⟨rfl,rfl,rfl⟩:=h;obtain⟨cy,ca⟩:=aZ.append;obtain⟨p8,gI⟩:=vd hw cy aU;rw[bM p8];grind[I4]
 ·rename_i st1 eT fq hw;simp only[aS,bq]at h;obtain⟨rfl,rfl,rfl⟩:=h;obtain⟨p8,gI⟩:=vd hw aZ aU;simp_all[bG,I5]
 cases h
theorem akI(hm:qw ms ops.toList=true)(aw:Is ops ms k){Q:Exit->Act->World->Prop}:∀(gF n:Nat) {bS:Array Bool},k<=n->n<=ops.size->
  px ops bS->bS.size=ops.size->(∀j,j<n->bS.getD j false=true)->(∀j,n<=j->bS.getD j false=false)->bS.count false<=gF->
  ∀{st bn:aD} {ans b':List b4} {obs:List Prop},wS P ops (ops.toList.drop n) st ans=some (bn,b',obs)->cA obs->
  ∀{a:Act} {w:World},Rel w0 st a w->(∀cx aM,Rel w0 bn cx aM->Q .normal cx aM)->wpAny P .any ops Q gF bS a w:=by
 have fin:∀{bS:Array Bool} {n:Nat},n=ops.size->bS.size=ops.size->(∀j,j<n->bS.getD j false=true)->Region.ready .any ops bS=[]:=by
  intro bS n a8 ai h1;rw[List.eq_nil_iff_forall_not_mem];intro j bg;obtain⟨U,o,aZ,_⟩:=mem_ready.1 bg;grind
 intro gF;induction gF with
 | zero=>
  intro n bS WY a8 al ai h1 U ra st bn ans b' obs h aZ a w aH ic;have yn:n=ops.size:=by
   rcases oA n ops.size with bJ | nV
   ·have jR:n<bS.size:=ai▸bJ;have b0:bS[n]=false:=by simpa[k9 jR]using U n (ga _)
    have:0<bS.count false:=by
     grind[Array.count_pos_iff,Array.getElem_mem]
    omega
   omega
  rw[List.drop_eq_nil_of_le (by simp[yn])]at h;simp only[wS,aS,bq]at h;obtain⟨rfl,_,_⟩:=h;exact⟨fin yn ai h1,ic _ _ aH⟩
 | succ gF eH=>
  intro n bS WY a8 al ai h1 U ra st bn ans b' obs h aZ a w aH ic;rcases oA n ops.size with bJ | nV
  ·have jR:n<bS.size:=ai▸bJ;have aG:ops.toList.drop n=ops[n]::ops.toList.drop (n+1):=by
    grind[List.drop_eq_getElem_cons]
   rw[aG]at h;simp only[wS]at h;split at h
   ·rename_i st1 eT fq ax;rw[bX]at h;obtain⟨⟨bK,b2,cf⟩,aJ,h⟩:=h;simp only[bq]at h;obtain⟨rfl,rfl,rfl⟩:=h;obtain⟨cy,ca⟩:=aZ.append;refine⟨fun v8=>?_,fun i hi=>?_⟩
    ·exfalso;have:=Jd hm ai v8 n bJ;grind
    have mM:i=n:=by
     obtain⟨aY,o,kS,_⟩:=mem_ready.1 hi;have vZ:i<ops.size:=(iE.1 kS).1;have lZ:i<bS.size:=ai▸vZ;rcases Nat.lt_trichotomy i n with bx | bx | bx
     ·grind
     ·exact bx
     have:=yS hm al ai hi (aw i (by omega) vZ n bx);grind
    subst mM;refine PV (k9 bJ) ax cy aH fun cx aM et=>eH (i+1) (by omega) (by omega) (al.ready hi) (by grind) (fun j bg=>?_) (fun j bg=>?_) ?_ aJ ca et ic
    ·by_cases re:j=i
     ·simp_all
     rw[getD_set_ne false (Ne.symm re)];grind
    ·rw[getD_set_ne false (by omega)];grind
    have b0:bS[i]=false:=by simpa[k9 jR]using U i (ga _)
    grind
   cases h
  have yn:n=ops.size:=by omega
  rw[List.drop_eq_nil_of_le (by simp[yn])]at h;simp only[wS,aS,bq]at h;obtain⟨rfl,_,_⟩:=h;have v8:=fin yn ai h1;refine⟨fun _=>ic _ _ aH,fun i hi=>?_⟩;grind
def r8(ms:List Nat):Nat->Nat
 | 0=>0
 | i+1=>if ms.getD i 0==2 ^ i-1 then r8 ms i else i+1
theorem PW(ms:List Nat):∀n,r8 ms n<=n
 | 0=>ga _
 | n+1=>by
  unfold r8;split
  ·exact sc (PW ms n) (Nat.le_succ n)
  grind
theorem PX(ms:List Nat):∀n i,r8 ms n<=i->i<n->∀j,j<i->lf ms j i=true
 | 0,_,_,h,_,_=>absurd h (Nat.not_lt_zero _)
 | n+1,i,h1,U,j,bg=>by
  unfold r8 at h1;split at h1
  ·rename_i he;by_cases mM:i=n
   ·subst mM;unfold lf;grind
   exact PX ms n i h1 (by omega) j bg
  omega
theorem Sat.drew{ω:Own}{τ:Nat->Nat×Value}{l:az}{y:Value}(h:Sat w ω τ l y):Sat w.drew ω τ l y:=by
 have b0:∀{R:List (Nat×Nat)->c0->Prop} {d:D} {y:Value},bQ w ω R d y->bQ w.drew ω R d y:=fun h=>h.frame fun _ _ _ aK=>⟨aK,rfl⟩
 cases l with
 | J t k es=>exact⟨b0 h.1,h.2⟩
 | cB t k es i j=>
  obtain⟨b,off,cap,h1,U,ax,aJ⟩:=h;exact⟨b,off,cap,h1,U,b0 ax,aJ⟩
 | ha ds off=>
  obtain⟨b,h1,U⟩:=h;exact⟨b,h1,b0 U⟩
 | fd d=>exact b0 h
 | c' t k es=>exact⟨b0 h.1,h.2⟩
 | aO t i j k es m=>
  obtain⟨u,hu,h1,hm⟩:=h;exact⟨u,hu,b0 h1,hm⟩
 | eX t vs=>
  obtain⟨b,ty,arr,h1,U,ax,a8,bz⟩:=h;refine⟨b,ty,arr,h1,U,ax,a8,fun j c al=>?_⟩;obtain⟨u,gv,fc⟩:=bz j c al;refine⟨u,gv,?_⟩;cases c with
  | cj=>exact trivial
  | v x=>exact fc
  | J t k es=>exact⟨b0 fc.1,fc.2⟩
 | _=>exact h
theorem Rel.drew(h:Rel w0 st a w):Rel w0 st a w.drew:=by
 obtain⟨ω,τ,h⟩:=h;have hi:∀p:aE,p.map _root_.id=p:=by
  intro p;cases p with
  | aF a=>cases a<;>simp[aE.map,bm.map]
  | fv as=>
   simp only[aE.map]
   congr 1
   have:bm.map _root_.id=_root_.id:=by funext a;cases a<;>simp[bm.map]
   simp_all
 refine⟨ω,τ,h.defers,h.size,h.below.next (fP.refl _ _).drew,h.owned,h.fixed,h.pinned,fun i p hp=>?_,fun id ls ap=>?_⟩
 ·obtain⟨v,h1,U⟩:=h.env i p hp;have:=cE.map (jN:=Sat w.drew ω τ) (f:=_root_.id) (fun l v ai=>Sat.drew ai) U;grind
 obtain⟨b,arr,ty,h1,U,ax,aJ⟩:=h.boxes id ls ap;have:=jv.map (jN:=Sat w.drew ω τ) (f:=_root_.id) (fun l v ai=>Sat.drew ai) aJ;rw[qO]at this;exact⟨b,arr,ty,h1,U,ax,this⟩
def Dm:Nat->List aE->List Nat
 | _,[]=>[]
 | i,p::r=>match p.leaf with | some (.eX t _)=>if t=i then i::Dm (i+1) r else Dm (i+1) r | _=>Dm (i+1) r
def wT(env:List aE):List Oper->List Nat
 | []=>[]
 | o::r=>
  match o.dst,o.op with
  | none,.store _ (.tmp s) _=>
   match (env.getD s .cj).leaf with
   | some (.ptr d 0)=>if d=s/\s<cX/\!(wT env r).contains s then s::wT env r else wT env r
   | _=>wT env r
  | _,_=>wT env r
def akJ(env0:List aE)(bs:List (Nat×List az))(es:List de)(i:Nat):List az:=
 env0.flatMap aE.sH++(bs.flatMap (·.2)++(es.zipIdx.filter fun x=>x.2 != i).flatMap fun x=>x.1.p.sH)
def It(P:Program)(ops:Array Oper)(st:aD)(ans:List b4):Stepped:=
 let gs:=ops.toList.filterMap (I' ops)
 let ms:=qf ops.toList []
 let k:=r8 ms ops.size
 match zd (wT st.env (ops.toList.take k)) st with
 | some fh=>
  match s3 P ops gs fh.boxes (ops.toList.take k) fh.env ans with
  | some (es,so,eT,fq)=>
   if P.follows .mixedOrders&&qw ms ops.toList&&Im ops ms es&&Io ms es fh.env fh.boxes then
    match ze (Dm 0 so) ⟨so,fh.boxes⟩,xh fh.boxes (akJ fh.env fh.boxes es) 0 (ops.toList.take k) fh.env es with
    | some st2,some wm=>(wS P ops (ops.toList.drop k) st2 eT).map fun r=>(r.1,r.2.1,fq++(wm++r.2.2))
    | _,_=>none
   else none
  | none=>none
 | none=>none
theorem akK(h:It P ops st ans=some (bn,b',obs))(aZ:cA obs)(aH:Rel w0 st a w){id:Nat}
  {Q:Exit->Act->World->Prop} (ic:∀cx aM,Rel w0 bn cx aM->Q .normal cx aM):(Code.region id ops true).wp P Q a w:=by
 unfold It at h;simp only at h;split at h
 case h_2=>cases h
 rename_i fh Nq;replace aH:=Ov aH Nq;clear Nq;revert aH h;generalize fh=st;intro h aH;split at h
 ·rename_i es so eT fq e5;split at h
  ·rename_i al;split at h
   rotate_left
   ·cases h
   rename_i st2 wm F2 Xv;rw[bX]at h;obtain⟨⟨bK,b2,cf⟩,Xx,h⟩:=h;simp only[bq]at h;obtain⟨rfl,rfl,rfl⟩:=h;obtain⟨F3,F4⟩:=aZ.append;obtain⟨Xg,F4⟩:=F4.append;simp only[cF]at al;obtain⟨⟨⟨hm,M6⟩,Xi⟩,jg⟩:=al;have at1:=PW (qf ops.toList []) ops.size;obtain⟨hlen,yf,Wy⟩:=zk e5 F3;have W2:es.length=r8 (qf ops.toList []) ops.size:=by
    grind
   have auf:∀(i:Nat),i<es.length->(ops.toList.take (r8 (qf ops.toList []) ops.size))[i]?=ops[i]?:=by
    grind
   have aG:∀(i:Nat) (e:de),es[i]?=some e->e.dst≠none:=by
    intro i e hi;have bJ:i<(ops.toList.take (r8 (qf ops.toList []) ops.size)).length:=hlen▸(fy.1 hi).1;obtain⟨e',h1,U⟩:=Wy i _ (iZ bJ);rw[hi]at h1;cases h1;exact U.dst
   have MF:oC P ops st.boxes st.env es (qf ops.toList []):=by
    refine⟨by omega,fun i o nY hi=>?_,M6,fun i o v nY hi bz=>?_,Xi,jg⟩
    rotate_left
    ·have BW:=Og Xv Xg i o (by grind) nY v (by
      grind[Dl])
     rw[dF]at BW;refine⟨fun q aK=>aE.yL fun l ap=>BW l ?_,fun j x bg c3=>aE.yL fun l ap=>BW l ?_,fun x ak l ap=>BW l ?_⟩
     ·exact hP _ (nE.2 ⟨q,aK,ap⟩)
     ·refine iC _ (iC _ (nE.2 ⟨(x,j),List.mem_filter.2 ⟨?_,by grind⟩,ap⟩));grind
     exact iC _ (hP _ (nE.2 ⟨x,ak,ap⟩))
    grind[Dl]
   have vR:Is ops (qf ops.toList []) es.length:=fun i h1 U j bg=>PX _ _ i (by omega) U j bg
   refine wp_region_any hm (MF.any vR (w0:=w0) ?_ ops.size ?_ (by simp) ?_ ?_ ?_)
   ·intro gF bS oU ai je cR ra cx aM et;refine akI M6 vR gF es.length (ga _) (by omega) oU ai je cR ra (st:=st2) (by rw[W2];exact Xx) F4 (Ow ?_ F2) ic;have:=Dl (env0:=st.env) (bs:=st.boxes) aG es.length (ga _);rw[k8,<-yf]at this;rw[this];exact et
   ·intro j o bg;have:=Di bg;simp_all
   ·intro j _;by_cases bg:j<ops.size
    ·simp[bg]
    simp[bg]
   ·simp_all
   have:eK st.env st.boxes (eQ (Array.replicate ops.size false)) es=st:=by
    have kr:∀(es:List de) (t k:Nat) (acc:aE),gw (eQ (Array.replicate ops.size false)) t k es acc=acc:=by
     intro es;induction es with
     | nil=>intro t k acc;rfl
     | cons e1 es eH=>
      intro t k acc;simp only[gw];rw[bG,eH];unfold eQ;intro al;have:=Di al;simp_all
    obtain⟨env,bs⟩:=st;unfold eK;simp_all
   rw[this];exact aH.drew
  cases h
 cases h
end Go.Sx
namespace Go.Sx
open Go.RowKit
def dZ(P:Program)(ops:Array Oper)(st bn:aD):Prop:=
 ∀(w0:ee) (a:Act) (w:World) (id:Nat) (Q:Exit->Act->World->Prop),Rel w0 st a w->(∀cx aM,Rel w0 bn cx aM->Q .normal cx aM)->(Code.region id ops true).wp P Q a w
def Dn(o:Oper)(m:Nat):Bool:=o.after.toList.all fun e=>!Region.binds .any e||m.testBit e.on
def pf(m:Nat):Nat->List Oper->List (Nat×Oper)
 | _,[]=>[]
 | i,o::r=>if !m.testBit i&&Dn o m then (i,o)::pf m (i+1) r else pf m (i+1) r
def runM(P:Program)(ops:Array Oper)(A:List (List b4))(m:Nat):Nat->List Oper->aD->aD
 | _,[],st=>st
 | i,o::r,st=>if m.testBit i then (match pj P ops o st (A.getD i []) with | some x=>runM P ops A m (i+1) r x.1 | none=>st) else runM P ops A m (i+1) r st
def xJ(x:Nat)(l:List Nat):List Nat:=if l.any (Nat.beq x) then l else x::l
def yM:Nat->List (Nat×Oper)->List Nat->List Nat
 | _,[],l=>l
 | m,x::r,l=>xJ (m ||| 2 ^ x.1) (yM m r l)
def yO(ops:List Oper):List Nat->List Nat
 | []=>[]
 | m::r=>yM m (pf m 0 ops) (yO ops r)
abbrev vA:=Option (aD×List b4×List Prop)
def Bq(P:Program)(ops:Array Oper)(A:List (List b4))(st:aD):List (Nat×Oper)->List vA
 | []=>[]
 | x::r=>pj P ops x.2 st (A.getD x.1 [])::Bq P ops A st r
def Bs(P:Program)(ops:Array Oper)(A:List (List b4))(O:List (List Prop))(fh:aD)(m:Nat):List (Nat×Oper)->List vA
 | []=>[]
 | x::r=>some (runM P ops A (m ||| 2 ^ x.1) 0 ops.toList fh,[],O.getD x.1 [])::Bs P ops A O fh m r
def Br(P:Program)(ops:Array Oper)(A:List (List b4))(fh:aD):List Nat->List (List vA)
 | []=>[]
 | m::r=>Bq P ops A (runM P ops A m 0 ops.toList fh) (pf m 0 ops.toList)::Br P ops A fh r
def Bt(P:Program)(ops:Array Oper)(A:List (List b4))(O:List (List Prop))(fh:aD):List Nat->List (List vA)
 | []=>[]
 | m::r=>Bs P ops A O fh m (pf m 0 ops.toList)::Bt P ops A O fh r
def xO(P:Program)(ops:Array Oper)(A:List (List b4))(fh:aD):Nat->List Nat->List (List (List vA))
 | 0,_=>[]
 | n+1,l=>Br P ops A fh l::xO P ops A fh n (yO ops.toList l)
def xP(P:Program)(ops:Array Oper)(A:List (List b4))(O:List (List Prop))(fh:aD):Nat->List Nat->List (List (List vA))
 | 0,_=>[]
 | n+1,l=>Bt P ops A O fh l::xP P ops A O fh n (yO ops.toList l)
variable{P:Program}{ops:Array Oper}{A:List (List b4)}{O:List (List Prop)}{fh st:aD}{m:Nat}
theorem PY:∀{l:List (Nat×Oper)},Bq P ops A st l=Bs P ops A O fh m l->
  ∀x∈l,pj P ops x.2 st (A.getD x.1 [])=some (runM P ops A (m ||| 2 ^ x.1) 0 ops.toList fh,[],O.getD x.1 [])
 | [],_,x,ak=>by cases ak
 | y::r,h,x,ak=>by
  simp only[Bq,Bs,qN]at h;rcases ep.1 ak with rfl | ak
  ·exact h.1
  exact PY h.2 x ak
theorem PZ:∀{l:List Nat},Br P ops A fh l=Bt P ops A O fh l->
  ∀m∈l,∀x∈pf m 0 ops.toList,pj P ops x.2 (runM P ops A m 0 ops.toList fh) (A.getD x.1 [])=some (runM P ops A (m ||| 2 ^ x.1) 0 ops.toList fh,[],O.getD x.1 [])
 | [],_,m,hm=>by cases hm
 | m0::r,h,m,hm=>by
  simp only[Br,Bt,qN]at h;rcases ep.1 hm with rfl | hm
  ·exact PY h.1
  exact PZ h.2 m hm
theorem akL{x:Nat}{l:List Nat}:x∈xJ x l:=by
 unfold xJ;split
 ·rename_i h;obtain⟨y,bD,he⟩:=qP.1 h;rwa[Nat.eq_of_beq_eq_true he]
 exact j1
theorem P0{x y:Nat}{l:List Nat}(h:y∈l):y∈xJ x l:=by
 unfold xJ;split
 ·exact h
 exact hQ _ h
theorem P1{x:Nat×Oper}:∀{r:List (Nat×Oper)} {l:List Nat},x∈r->(m ||| 2 ^ x.1)∈yM m r l
 | [],_,h=>by cases h
 | y::r,l,h=>by
  simp only[yM];rcases ep.1 h with rfl | h
  ·exact akL
  exact P0 (P1 h)
theorem P2{k:Nat}:∀{r:List (Nat×Oper)} {l:List Nat},k∈l->k∈yM m r l
 | [],_,h=>h
 | _::_,_,h=>P0 (P2 h)
theorem P3{ops:List Oper}{x:Nat×Oper}:∀{l:List Nat},m∈l->x∈pf m 0 ops->(m ||| 2 ^ x.1)∈yO ops l
 | [],h,_=>by cases h
 | k::r,h,ak=>by
  simp only[yO];rcases ep.1 h with rfl | h
  ·exact P1 ak
  exact P2 (P3 h ak)
theorem P4{m:Nat}:∀{l:List Oper} {i j:Nat} {o:Oper},l[j]?=some o->m.testBit (i+j)=false->Dn o m=true->(i+j,o)∈pf m i l
 | [],_,_,_,h,_,_=>by simp at h
 | y::r,i,0,o,h,h1,U=>by
  simp only[kI,aS]at h;subst h;simp only[pf];rw[bM (by rw[mq]at h1;simp[h1,U])];exact j1
 | y::r,i,j+1,o,h,h1,U=>by
  have:=P4 (m:=m) (l:=r) (i:=i+1) (j:=j) (o:=o) (by simpa using h) (by rwa[show i+1+j=i+(j+1) by omega]) U;rw[show i+1+j=i+(j+1) by omega]at this;simp only[pf];split
  ·exact hQ _ this
  exact this
theorem Iu{m k:Nat}:∀{l:List Oper} {i:Nat} {st:aD},(∀j,i<=j->j<i+l.length->m.testBit j=k.testBit j)->runM P ops A m i l st=runM P ops A k i l st
 | [],_,_,_=>rfl
 | o::r,i,st,h=>by
  simp only[runM];rw[h i (ga _) (by simp)];split
  ·split
   ·exact Iu fun j h1 U=>h j (by omega) (by simp only[hz];omega)
   rfl
  exact Iu fun j h1 U=>h j (by omega) (by simp only[hz];omega)
theorem P5:∀{O:List (List Prop)} (i:Nat),cA O.flatten->cA (O.getD i [])
 | [],i,_=>by simp[cA]
 | o::r,0,h=>by
  rw[List.flatten_cons]at h;exact (cA.append h).1
 | o::r,i+1,h=>by
  rw[List.flatten_cons]at h;exact P5 i (cA.append h).2
theorem akM{ms:List Nat}{w0:ee}{Q:Exit->Act->World->Prop}(hm:qw ms ops.toList=true)(aZ:cA O.flatten)
  (ic:∀cx aM,Rel w0 (runM P ops A (2 ^ ops.size-1) 0 ops.toList fh) cx aM->Q .normal cx aM):∀(gF:Nat) {l:List Nat},xO P ops A fh gF l=xP P ops A O fh gF l->
  ∀{m:Nat} {bS:Array Bool},m∈l->bS.size=ops.size->(∀j,j<ops.size->bS.getD j false=m.testBit j)->bS.count false<=gF->
  ∀{a:Act} {w:World},Rel w0 (runM P ops A m 0 ops.toList fh) a w->wpAny P .any ops Q gF bS a w:=by
 have fin:∀{m:Nat} {bS:Array Bool},(∀j,j<ops.size->bS.getD j false=m.testBit j)->(∀j,j<ops.size->bS.getD j false=true)->
   ∀{a:Act} {w:World},Rel w0 (runM P ops A m 0 ops.toList fh) a w->Q .normal a w:=by
  intro m bS h1 U a w aH;refine ic a w ?_;rw[Iu (m:=2 ^ ops.size-1) (k:=m)]
  ·exact aH
  intro j _ bg;have yi:j<ops.size:=by simpa using bg
  rw[<-h1 j yi,U j yi,Nat.testBit_two_pow_sub_one,kh yi]
 intro gF;induction gF with
 | zero=>
  intro l _ m bS _ ai h1 ra a w aH;have hD:∀j,j<ops.size->bS.getD j false=true:=by
   intro j bg;cases ap:bS.getD j false with
   | true=>rfl
   | false=>
    exfalso;have jR:j<bS.size:=ai▸bg;have b0:bS[j]=false:=by simpa[k9 jR]using ap
    have:0<bS.count false:=by
     rw[Array.count_pos_iff];exact b0▸Array.getElem_mem jR
    omega
  refine⟨?_,fin h1 hD aH⟩;rw[List.eq_nil_iff_forall_not_mem];intro j bg;obtain⟨U,o,kS,_⟩:=mem_ready.1 bg;have bJ:j<ops.size:=(iE.1 kS).1;have ax:=hD j bJ;have jR:j<bS.size:=ai▸bJ;simp[k9 jR]at U ax;rw[U]at ax;cases ax
 | succ gF eH=>
  intro l he m bS p5 ai h1 ra a w aH;simp only[xO,xP,qN]at he;refine⟨fun v8=>fin h1 (Jd hm ai v8) aH,fun i hi=>?_⟩;obtain⟨aY,o,kS,FL⟩:=mem_ready.1 hi;have bJ:i<ops.size:=(iE.1 kS).1;have jR:i<bS.size:=ai▸bJ;have MW:bS.getD i false=false:=by
   simp[k9 jR]at aY ⊢;exact aY
  have W8:Dn o m=true:=by
   unfold Dn;rw[fx];intro e vW;cases aw:Region.binds .any e with
   | false=>rfl
   | true=>
    have bx:=FL e (by simpa using vW) aw;have bN:e.on<bS.size:=Di bx;rw[h1 e.on (ai▸bN)]at bx;simp[bx]
  have Nb:(i,o)∈pf m 0 ops.toList:=by
   have:=P4 (m:=m) (l:=ops.toList) (i:=0) (j:=i) (o:=o) (by simpa using kS) (by rw[dF,<-h1 i bJ,MW]) W8;rwa[dF]at this
  have o1:=PZ he.1 m p5 _ Nb;refine PV kS o1 (P5 i aZ) aH fun cx aM et=>eH he.2 (P3 p5 Nb) (by simpa using ai) (fun j bg=>?_) ?_ et
  ·rw[Nat.testBit_or,Nat.testBit_two_pow];by_cases re:j=i
   ·subst re;have bl:j<(bS.setIfInBounds j true).size:=by simpa using jR
    simp[k9 bl]
   rw[getD_set_ne false (Ne.symm re),h1 j bg,mu (Ne.symm re),Bool.or_false]
  have b0:bS[i]=false:=by simpa[k9 jR]using MW
  have:(bS.setIfInBounds i true).count false=bS.count false-1:=by
   have e:bS.setIfInBounds i true=bS.set i true jR:=by unfold Array.setIfInBounds;rw[dif_pos jR]
   rw[e,Array.count_set];simp[b0]
  omega
theorem dZ.of{bn:aD}(A:List (List b4))(O:List (List Prop))(al:(P.follows .mixedOrders&&qw (qf ops.toList []) ops.toList)=true)
  (he:xO P ops A st ops.size [0]=xP P ops A O st ops.size [0]) (b0:runM P ops A (2 ^ ops.size-1) 0 ops.toList st=bn) (aZ:cA O.flatten):dZ P ops st bn:=by
 intro w0 a w id Q aH ic;simp only[cF]at al;have bl:∀{l:List Oper} {i:Nat},runM P ops A 0 i l st=st:=by
  intro l;induction l with
  | nil=>intro i;rfl
  | cons o r eH=>intro i;simp only[runM,Nat.zero_testBit,oy,lK];exact eH
 refine wp_region_any al.1 (akM al.2 aZ (fun cx aM h=>ic cx aM (b0▸h)) ops.size he (m:=0) j1 (by simp) (fun j bg=>by simp[bg]) (by simp[Array.count_replicate]) ?_);rw[bl];exact aH.drew
def Iv(P:Program)(ops:Array Oper)(st:aD)(ans:List b4):Stepped:=
 match ans with
 | .hK bn::r=>some (bn,r,[dZ P ops st bn])
 | _=>It P ops st ans
theorem akN{bn:aD}{ans b':List b4}{obs:List Prop}(h:Iv P ops st ans=some (bn,b',obs))(aZ:cA obs){w0:ee}{a:Act}{w:World}(aH:Rel w0 st a w){id:Nat}
  {Q:Exit->Act->World->Prop} (ic:∀cx aM,Rel w0 bn cx aM->Q .normal cx aM):(Code.region id ops true).wp P Q a w:=by
 unfold Iv at h;split at h
 ·simp only[aS,bq]at h;obtain⟨rfl,_,rfl⟩:=h;exact aZ.1 w0 a w id Q aH ic
 exact akK h aZ aH ic
