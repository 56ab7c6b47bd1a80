import Derived.Test.YtdchjefneblpgaaGreatR26
import Derived.Test.YtdchjefneblpgaaGreatR31
import Derived.Orders
set_option linter.unusedVariables false
set_option linter.unusedSimpArgs false
namespace Go.Sx
open Go.RowKit
def MQ(P:Program)(st:aC)(d:Option Nat)(f:FuncId)(args:List Operand)(ans:List cd):Stepped:=
 match P.funcs[f]?,args.mapM (fun x=>(st.bq x).ky st.boxes),ans with
 | some fn,some gR,.res rs::r=>
  if (fn.name == "runtime.NumGoroutine") = false /\ fn.body.isNone = false /\ vp rs = true /\ 10000 * (d.getD 0 + 1) + 10000 <= dj then
   let t:=10000*(d.getD 0+1)
   match d with
   | some d=>some (⟨(st.wL t).env.set d (ux t rs),(st.wL t).boxes⟩,r,[iV P f gR rs])
   | none=>some (st.wL t,r,[iV P f gR rs])
  else none
 | _,_,_=>none
def TV(P:Program)(st:aC)(d:Option Nat)(f:Operand)(args:List Operand)(ans:List cd):Stepped:=
 match (st.bq f).leaf.bind (aF.ky st.boxes),args.mapM (fun x=>(st.bq x).ky st.boxes),ans with
 | some (.cl g bj),some gR,.res rs::r=>
  if vp rs=true/\10000*(d.getD 0+1)+10000<=dj then
   let t:=10000*(d.getD 0+1)
   match d with
   | some d=>some (⟨(st.wL t).env.set d (ux t rs),(st.wL t).boxes⟩,r,[gM P g=true,iV P g (gR++bj.map .one) rs])
   | none=>some (st.wL t,r,[gM P g=true,iV P g (gR++bj.map .one) rs])
  else none
 | _,_,_=>none
def R0:List cd->Bool
 | .rV _ _ _ _::_=>true
 | _=>false
def R2:List cd->Bool
 | .dN _ _::_=>true
 | _=>false
def R1:List cd->Bool
 | .own::_=>true
 | _=>false
def qu(P:Program)(st:aC)(o:Oper)(ans:List cd):Stepped:=
 match o.dst,o.op with
 | some d,.box _ x=>LI st d (st.bq x) ans
 | some d,.alloc ty=>LJ P st d ty ans
 | some d,.makeSlice t l c=>FO P st d t (st.bq l) (st.bq c) ans
 | some d,.buildSlice t n parts=>Cs P st d t n parts.toList ans
 | none,.store ty x y=>
  match (st.bq x).leaf with
  | some (.ptr id off)=>LK P st ty id off (st.bq y) ans
  | some (.ep (.own t) k es i j)=>LS P st ty t k es i j (st.bq y) ans
  | some (.aN t i j k es (.at_ a b))=>Ls P st ty t i j k es a b (st.bq y) ans
  | _=>none
 | d,.call ⟨.value (.func f),args,_⟩=>if R2 ans then MN P st d f args.toList ans else if R0 ans then Ln P st d f args.toList ans else MQ P st d f args.toList ans
 | d,.call ⟨.value (.tmp x),args,_⟩=>if R2 ans then MO P st d (.tmp x) args.toList ans else TV P st d (.tmp x) args.toList ans
 | some d,.call ⟨.builtin .append,⟨[x,y]⟩,⟨[t,du]⟩⟩=>
  if t=du then
   match (st.bq x).leaf with
   | some (.aN s i j k es .here)=>MD P st d t s i j k es y ans
   | _=>AH P st d t x y ans
  else none
 | some d,.slice t x c7 hi jy=>if R1 ans then AI P st d t (st.bq x) c7 hi jy ans.tail else (rB P st (.slice t x c7 hi jy) ans).map fun r=>(⟨st.env.set d r.1,st.boxes⟩,r.2.1,r.2.2)
 | some d,op=>(rB P st op ans).map fun r=>(⟨st.env.set d r.1,st.boxes⟩,r.2.1,r.2.2)
 | none,op=>(rB P st op ans).map fun r=>(st,r.2.1,r.2.2)
variable{P:Program}{o:Oper}{a:Act}{w:World}{Q:Exit->Act->World->Prop}
theorem Calls.of{next:Act->World->Prop}{z:Value}{aP:World}(h:(execOp a.eval o).run P w=.ok (.value z) aP)(aZ:next (a.put o.dst z) aP):
  o.wp P a w next Q:=by
 unfold Oper.wp;rw[h];exact aZ
variable{w0:eR}{st bz:aC}{ans cu:List cd}{obs:List Prop}
theorem MR(h:qu P st o ans=some (bz,cu,obs))(a7:cQ obs)(a6:Rel w0 st a w)
  {next:Act->World->Prop} {Q:Exit->Act->World->Prop} (mh:∀cO aP,Rel w0 bz cO aP->next cO aP):o.wp P a w next Q:=by
 obtain⟨ω,τ,a6⟩:=a6;obtain⟨dst,op,type,pos,after,guard⟩:=o;simp only[qu]at h;split at h
 ·rename_i d ty x;obtain⟨z,aP,h1,U⟩:=cK.box (P:=P) a6 (a6.bq x) h ty;exact Calls.of (jH h1) (mh _ _ U)
 ·rename_i d ty;obtain⟨z,aP,h1,U⟩:=cK.alloc a6 h;exact Calls.of (jH h1) (mh _ _ U)
 ·rename_i d t l c;obtain⟨z,aP,h1,U⟩:=a6.make (a6.bq l) (a6.bq c) h a7;exact Calls.of (jH h1) (mh _ _ U)
 ·rename_i d t n parts;obtain⟨z,aP,h1,U⟩:=a6.buildSlice h;exact Calls.of (jH h1) (mh _ _ U)
 ·rename_i ty x y;have fin:∀aP,(Instr.storeAt ty (a.eval x) (a.eval y)).run P w=.ok () aP->Rel w0 bz a aP->Oper.wp P ⟨none,.store ty x y,type,pos,after,guard⟩ a w next Q:=by
   intro aP h1 U;unfold Oper.wp execOp;simp only[Sem.run_bind,h1,Result.andThen_ok,Sem.run_pure,Oper.upon];exact mh _ _ U
  split at h
  ·rename_i id off e;obtain⟨b,aw,af⟩:=aI.dS e (a6.bq x);obtain⟨aP,h1,U⟩:=a6.aBr (P:=P) aw (a6.bq y) h;grind
  ·rename_i t k es i j e;obtain⟨aP,h1,U⟩:=a6.aBt (P:=P) (aI.dS e (a6.bq x)) (a6.bq y) h a7;grind
  ·rename_i t i j k es aBH QA e;obtain⟨aP,h1,U⟩:=a6.aBv (P:=P) (aI.dS e (a6.bq x)) (a6.bq y) h a7;grind
  cases h
 ·rename_i f args ts;split at h
  ·grind[aw0]
  split at h
  ·grind[awT]
  rename_i JX acK;clear JX;unfold MQ at h;clear acK;split at h
  ·rename_i fn gR rs r mg JB;split at h
   ·rename_i ak;obtain⟨mP,me,lV,tD⟩:=ak;obtain⟨al,ax⟩:=ov JB;have ny:FU w gR (args.map a.eval):=by
     refine⟨by simp[al],fun i cy hi=>?_⟩;obtain⟨x,af,km⟩:=ax i cy hi;refine⟨a.eval x,?_,aI.yM a6.boxes km (a6.bq x)⟩;grind
    have fN:(execOp a.eval ⟨dst,.call ⟨.value (.func f),args,ts⟩,type,pos,after,guard⟩).run P w=.ok (.enter f (args.map a.eval)) w:=by
     have ab9 : fn.name ≠ "runtime.NumGoroutine" := by grind
     have tC:fn.body≠none:=by grind
     simp[execOp,resolve,Act.eval,Deferred.ofValue,invoke,callFunc,mg,ab9,tC]
    have key:∀(nF:List Prop),obs=nF->cQ nF->nF=[iV P f gR rs]->∀(K:Act->World->Prop),(∀v aP,hf w.heap.size w aP->yK w aP rs v->K (a.put dst v) aP)->
      Oper.wp P ⟨dst,.call ⟨.value (.func f),args,ts⟩,type,pos,after,guard⟩ a w K Q:=by
     intro nF _ mR e K ig;subst e;unfold Oper.wp;rw[fN];simp only[Oper.upon];refine (mR.1 w _ a6.below.laid ny).mono ?_;grind
    simp only at h;cases dst with
    | none=>
     simp only[aX,bK]at h;obtain⟨rfl,_,rfl⟩:=h;refine key _ rfl a7 rfl next fun v aP aw aD=>mh _ _ ?_
     obtain⟨bf,c0,h1,_⟩:=a6.called (10000*(Option.getD none 0+1)) lV tD aw aD;exact⟨bf,c0,h1⟩
    | some d=>
     simp only[aX,bK]at h;obtain⟨rfl,_,rfl⟩:=h;refine key _ rfl a7 rfl next fun v aP aw aD=>mh _ _ ?_
     obtain⟨bf,c0,h1,U⟩:=a6.called (10000*(Option.getD (some d) 0+1)) lV tD aw aD;exact⟨bf,c0,h1.put U⟩
   cases h
  cases h
 ·rename_i x args ts;split at h
  ·grind[aw1]
  rename_i JX;clear JX;unfold TV at h;split at h
  ·rename_i g bj gR rs r bF JB;split at h
   ·rename_i ak;obtain⟨lV,tD⟩:=ak;obtain⟨al,ax⟩:=ov JB;have c3:gR.length=args.size:=by grind
    rw[nn]at bF;obtain⟨lz,J0,acV⟩:=bF;have Rk:my w (.cl g bj) (a.eval (.tmp x)):=aF.yM a6.boxes acV (aI.dS J0 (a6.bq (.tmp x)));have acu:∃cs:Array Value,a.eval (.tmp x)=.func (.func g) #[] cs/\cs.size=bj.length/\∀(j:Nat) (d:D),bj[j]?=some d->∃u,cs[j]?=some u/\my w d u:=by
     generalize a.eval (.tmp x)=y at Rk;cases Rk with
     | cl R g bj cs us ao hu aE=>exact⟨cs,rfl,ao,fun j d bk=>⟨us j,hu j d bk,(aE j d bk).free⟩⟩
    obtain⟨cs,ob,aCV,ack⟩:=acu;have ny:FU w (gR++bj.map .one) (args.map a.eval++cs):=by
     refine⟨by grind,fun i cy hi=>?_⟩;rw[qE]at hi;rw[kc];split at hi
     ·rename_i od;rw[bn (by simp;omega)];obtain⟨y,bD,lu⟩:=ax i cy hi;refine⟨a.eval y,?_,aI.yM a6.boxes lu (a6.bq y)⟩;grind
     rename_i od;rw[bw (by simp;omega)];rw[dK,b9]at hi;obtain⟨d,aE,rfl⟩:=hi;obtain⟨u,gU,fO⟩:=ack _ d aE;refine⟨u,?_,fO⟩;grind
    have fN:gM P g=true->(execOp a.eval ⟨dst,.call ⟨.value (.tmp x),args,ts⟩,type,pos,after,guard⟩).run P w=.ok (.enter g (args.map a.eval++cs)) w:=by
     intro Bu;unfold gM at Bu;split at Bu
     ·rename_i fn mg;simp only[cw,hb,AS,l6]at Bu;have tC:fn.body≠none:=by grind
      simp[execOp,resolve,ob,Deferred.ofValue,invoke,callFunc,mg,Bu.1,tC]
     cases Bu
    have key:∀(nF:List Prop),obs=nF->cQ nF->nF=[gM P g=true,iV P g (gR++bj.map .one) rs]->∀(K:Act->World->Prop),(∀v aP,hf w.heap.size w aP->yK w aP rs v->K (a.put dst v) aP)->
      Oper.wp P ⟨dst,.call ⟨.value (.tmp x),args,ts⟩,type,pos,after,guard⟩ a w K Q:=by
     intro nF _ mR e K ig;subst e;unfold Oper.wp;rw[fN mR.1];simp only[Oper.upon];refine (mR.2.1 w _ a6.below.laid ny).mono ?_;grind
    simp only at h;cases dst with
    | none=>
     simp only[aX,bK]at h;obtain⟨rfl,_,rfl⟩:=h;refine key _ rfl a7 rfl next fun v aP aw aD=>mh _ _ ?_
     obtain⟨bf,c0,h1,_⟩:=a6.called (10000*(Option.getD none 0+1)) lV tD aw aD;exact⟨bf,c0,h1⟩
    | some d=>
     simp only[aX,bK]at h;obtain⟨rfl,_,rfl⟩:=h;refine key _ rfl a7 rfl next fun v aP aw aD=>mh _ _ ?_
     obtain⟨bf,c0,h1,U⟩:=a6.called (10000*(Option.getD (some d) 0+1)) lV tD aw aD;exact⟨bf,c0,h1.put U⟩
   cases h
  cases h
 ·rename_i d x y t du;split at h
  ·rename_i BR;subst BR;have u0:∃z aP,(Builtin.append_ #[t,t] type #[a.eval x,a.eval y]).run P w=.ok z aP/\Rel w0 bz (a.put (some d) z) aP:=by
    split at h
    ·rename_i s i j k es e;exact a6.abu (P:=P) (ty:=type) (aI.dS e (a6.bq x)) h a7
    exact a6.AH (ty:=type) h a7
   obtain⟨z,aP,h1,U⟩:=u0;refine Calls.of (z:=z) (aP:=aP) ?_ (mh _ _ U);have:(execOp a.eval ⟨some d,.call ⟨.builtin .append,⟨[x,y]⟩,⟨[t,t]⟩⟩,type,pos,after,guard⟩)=(builtin .append ⟨[t,t]⟩ type (Array.map (fun | .const _=>true | _=>false) ⟨[x,y]⟩) (Array.map a.eval ⟨[x,y]⟩)):=by
    simp only[execOp,resolve];rfl
   rw[this];exact jH (by grind)
  cases h
 ·rename_i d t x c7 hi jy;split at h
  ·obtain⟨z,h1,U⟩:=a6.AI (P:=P) (a6.bq x) h a7;exact Calls.of (jH h1) (mh _ _ U)
  rw[b9]at h;obtain⟨⟨bx,b0,ci⟩,h1,h⟩:=h;simp only[bK]at h;obtain⟨rfl,rfl,rfl⟩:=h;obtain⟨z,U,aA⟩:=LH (o:=⟨_,_,type,pos,after,guard⟩) a6 h1 a7;exact Calls.of U (mh _ _ ⟨ω,τ,a6.put aA⟩)
 ·rw[b9]at h;obtain⟨⟨bx,b0,ci⟩,h1,h⟩:=h;simp only[bK]at h;obtain⟨rfl,rfl,rfl⟩:=h;obtain⟨z,U,aA⟩:=LH (o:=⟨_,_,type,pos,after,guard⟩) a6 h1 a7;exact Calls.of U (mh _ _ ⟨ω,τ,a6.put aA⟩)
 rw[b9]at h;obtain⟨⟨bx,b0,ci⟩,h1,h⟩:=h;simp only[bK]at h;obtain⟨rfl,rfl,rfl⟩:=h;obtain⟨z,U,aA⟩:=LH (o:=⟨_,_,type,pos,after,guard⟩) a6 h1 a7;exact Calls.of U (mh _ _ ⟨ω,τ,a6⟩)
def ps(P:Program)(st:aC)(o:Oper)(ans:List cd):Stepped:=
 match o.dst,o.op with
 | some d,.alloc ty=>FY P st d ty ans
 | none,.store ty (.tmp s) y=>F0 P st ty s (st.bq y) ans
 | _,_=>qu P st o ans
theorem aws(h:ps P st o ans=some (bz,cu,obs))(a7:cQ obs)(a6:Rel w0 st a w)
  {next:Act->World->Prop} {Q:Exit->Act->World->Prop} (mh:∀cO aP,Rel w0 bz cO aP->next cO aP):o.wp P a w next Q:=by
 obtain⟨dst,op,type,pos,after,guard⟩:=o;unfold ps at h;split at h
 ·rename_i d ty e1 e2;simp only at e1 e2;subst e1;subst e2;obtain⟨ω,τ,a6⟩:=a6;obtain⟨z,aP,h1,U⟩:=cK.abt a6 h;exact Calls.of (jH h1) (mh _ _ U)
 ·rename_i ty s y e1 e2;simp only at e1 e2;subst e1;subst e2;obtain⟨ω,τ,a6⟩:=a6;obtain⟨aP,h1,U⟩:=a6.aBu (P:=P) (a6.bq y) h;unfold Oper.wp execOp;simp only[Sem.run_bind,h1,Result.andThen_ok,Sem.run_pure,Oper.upon];exact mh _ _ U
 grind[MR]
def C3(st:aC)(dst:Option Nat):aC:=
 match dst with
 | some d=>⟨st.env.set d (.one (.v undef)),st.boxes⟩
 | none=>st
theorem MS{dst:Option Nat}(h:Rel w0 st a w):Rel w0 (C3 st dst) (a.put dst undef) w:=by
 obtain⟨ω,τ,h⟩:=h;cases dst with
 | none=>exact⟨ω,τ,h⟩
 | some d=>exact⟨ω,τ,h.put (p:=.one (.v undef)) rfl⟩
def sO(ops:Array Oper)(st:aC)(o:Oper)(ans:List cd):Option (Bool×aC×List cd×List Prop):=
 match o.guard with
 | none=>some (true,st,ans,[])
 | some (j,want)=>
  match (ops[j]?).bind (·.dst) with
  | some s=>
   match (st.env.getD s .cp).leaf with
   | some (.v (.bool b))=>some (b==want,st,ans,[])
   | some (.v (.tuple _))=>some (false,st,ans,[])
   | some (.bg c)=>
    match ans with
    | .pZ b::r=>some (b==want,⟨st.env.set s (.one (.v (.bool b))),st.boxes⟩,r,[c=b])
    | _=>none
   | _=>none
  | none=>none
variable{ops:Array Oper}
theorem xx{b:Bool}(h:sO ops st o ans=some (b,bz,cu,obs))(a7:cQ obs)(a6:Rel w0 st a w):
  Region.wanted o (yielded ops a.tmps)=b/\Rel w0 bz a w:=by
 obtain⟨ω,τ,a6⟩:=a6;unfold sO at h;split at h
 ·rename_i ax;simp only[aX,bK]at h;obtain⟨rfl,rfl,_,_⟩:=h;exact⟨by simp[Region.wanted,ax],ω,τ,a6⟩
 rename_i j want ax;split at h
 ·rename_i s ao;have e0:∀l,(st.env.getD s .cp).leaf=some l->∀x,(∀y,Sat w ω τ l y->y=x)->(l=.cp->False)->a.tmps[s]?=some x:=by
   intro l al x af cX;rw[lK]at al;cases e:st.env[s]? with
   | none=>
    grind[aI.leaf,aX,absurd]
   | some p=>
    rw[e]at al;obtain⟨v,h1,U⟩:=a6.env s p e;grind[aI.dS]
  split at h
  ·rename_i dD al;simp only[aX,bK]at h;obtain⟨rfl,rfl,_,_⟩:=h;have:=e0 _ al (.bool dD) (fun y bD=>bD) (fun h=>by cases h);exact⟨by grind[Region.wanted,yielded],ω,τ,a6⟩
  ·rename_i vs al;simp only[aX,bK]at h;obtain⟨rfl,rfl,_,_⟩:=h;have:=e0 _ al (.tuple vs) (fun y bD=>bD) (fun h=>by cases h);exact⟨by grind[Region.wanted,yielded],ω,τ,a6⟩
  ·rename_i c al;split at h
   ·rename_i dD r;simp only[aX,bK]at h;obtain⟨rfl,rfl,_,rfl⟩:=h;have jS:c=dD:=a7.1;subst jS;have:=e0 _ al (.bool c) (fun y bD=>bD) (fun h=>by cases h);refine⟨by grind[Region.wanted,yielded],ω,τ,?_⟩;have RF:=a6.put (d:=s) (p:=.one (.v (.bool c))) (v:=.bool c) rfl;have e:a.put (some s) (.bool c)=a:=by
     simp only[Act.put];have:a.tmps.setIfInBounds s (.bool c)=a.tmps:=by
      grind
     rw[this]
    grind
   cases h
  cases h
 cases h
def rv(P:Program)(ops:Array Oper)(o:Oper)(st:aC)(ans:List cd):Stepped:=
 match sO ops st o ans with
 | some (true,st1,fB,gq)=>(qu P st1 o fB).map fun r=>(r.1,r.2.1,gq++r.2.2)
 | some (false,st1,fB,gq)=>some (C3 st1 o.dst,fB,gq)
 | none=>none
theorem TW{rest:List Oper}(h:rv P ops o st ans=some (bz,cu,obs))(a7:cQ obs)
  {a:Act} {w:World} (a6:Rel w0 st a w) (ig:∀cO aP,Rel w0 bz cO aP->wpList P ops Q rest cO aP):wpList P ops Q (o::rest) a w:=by
 unfold rv at h;split at h
 ·rename_i st1 fB gq hw;rw[b9]at h;obtain⟨⟨bx,b0,ci⟩,h1,h⟩:=h;simp only[bK]at h;obtain⟨rfl,rfl,rfl⟩:=h;obtain⟨cC,cg⟩:=a7.append;obtain⟨su,h3⟩:=xx hw cC a6;refine wpList_step fun K Br=>?_
  rw[bn su];grind[MR]
 ·rename_i st1 fB gq hw;simp only[aX,bK]at h;obtain⟨rfl,rfl,rfl⟩:=h;obtain⟨su,h3⟩:=xx hw a7 a6;refine wpList_step fun K Br=>?_
  rw[bw (by grind)];grind[MS]
 cases h
def MT(o cg:Oper):Option (Nat×TypeId×Operand×Option Operand×TypeId):=
 match o.dst,o.op,o.guard,cg.dst,cg.op,cg.guard with
 | some d,.slice t x c7 none none,none,none,.call ⟨.builtin .clear,⟨[.tmp dP]⟩,⟨[eQ]⟩⟩,none=>if d=dP then some (d,t,x,c7,eQ) else none
 | _,_,_,_,_,_=>none
theorem awt{cg:Oper}{rest:List Oper}{d:Nat}{t eQ:TypeId}{x:Operand}{c7:Option Operand}(hp:MT o cg=some (d,t,x,c7,eQ))
  {st bz:aC} {ans cu:List cd} {obs:List Prop} (h:F2 P st d t x c7 eQ ans=some (bz,cu,obs)) (a7:cQ obs)
  {a:Act} {w:World} (a6:Rel w0 st a w) (ig:∀cO aP,Rel w0 bz cO aP->wpList P ops Q rest cO aP):wpList P ops Q (o::cg::rest) a w:=by
 obtain⟨dst,op,type,pos,after,guard⟩:=o;obtain⟨aCn,aDS,type2,aDX,aCa,aCC⟩:=cg;unfold MT at hp;split at hp
 ·rename_i d0 t0 cE aDL dP aD5 e1 e2 cj d' hj k2;simp only at e1 e2 cj d' hj k2;subst e1 e2 cj d' hj k2;split at hp
  ·rename_i aE;subst aE;simp only[aX,bK]at hp;obtain⟨rfl,rfl,rfl,rfl,rfl⟩:=hp;obtain⟨ω,τ,a6⟩:=a6;obtain⟨bS,y,z,aP,h1,U,aA⟩:=a6.clear h a7;refine wpList_plain rfl fun K Br=>Calls.of (jH (by simpa using h1)) (Br _ _ ?_)
   refine wpList_plain rfl fun K Br=>?_
   have sh:(a.put (some d0) y).eval (.tmp d0)=y:=by
    simp_all[Act.eval,Act.put]
   refine Calls.of (z:=z) (aP:=aP) ?_ (Br _ _ (ig _ _ aA));simp only[execOp,resolve,invoke,builtin,Sem.run_bind,Sem.run_pure,Result.andThen_ok,List.map_toArray,lN,List.map_nil,sh,U]
  cases hp
 cases hp
def xy(P:Program)(ops:Array Oper):List Oper->aC->List cd->Stepped
 | [],st,ans=>some (st,ans,[])
 | [o],st,ans=>rv P ops o st ans
 | o::cg::rest,st,ans=>
  match MT o cg with
  | some (d,t,x,c7,eQ)=>
   match F2 P st d t x c7 eQ ans with
   | some (st1,fB,gq)=>(xy P ops rest st1 fB).map fun r=>(r.1,r.2.1,gq++r.2.2)
   | none=>none
  | none=>
   match rv P ops o st ans with
   | some (st1,fB,gq)=>(xy P ops (cg::rest) st1 fB).map fun r=>(r.1,r.2.1,gq++r.2.2)
   | none=>none
theorem MU:∀(l:List Oper) {st bz:aC} {ans cu:List cd} {obs:List Prop},xy P ops l st ans=some (bz,cu,obs)->cQ obs->
  ∀{a:Act} {w:World},Rel w0 st a w->(∀cO aP,Rel w0 bz cO aP->Q .normal cO aP)->wpList P ops Q l a w
 | [],st,bz,ans,cu,obs,h,_,a,w,a6,jQ=>by
  simp only[xy,aX,bK]at h;obtain⟨rfl,_,_⟩:=h;exact jQ _ _ a6
 | [o],st,bz,ans,cu,obs,h,a7,a,w,a6,jQ=>by
  simp only[xy]at h;exact TW h a7 a6 fun cO aP e8=>jQ _ _ e8
 | o::cg::rest,st,bz,ans,cu,obs,h,a7,a,w,a6,jQ=>by
  simp only[xy]at h;split at h
  ·rename_i d t x c7 eQ hp;split at h
   ·rename_i st1 fB gq h1;rw[b9]at h;obtain⟨⟨bx,b0,ci⟩,U,h⟩:=h;simp only[bK]at h;obtain⟨rfl,rfl,rfl⟩:=h;obtain⟨cC,cL⟩:=a7.append;exact awt hp h1 cC a6 fun cO aP e8=>MU rest U cL e8 jQ
   cases h
  split at h
  ·rename_i st1 fB gq h1;rw[b9]at h;obtain⟨⟨bx,b0,ci⟩,U,h⟩:=h;simp only[bK]at h;obtain⟨rfl,rfl,rfl⟩:=h;obtain⟨cC,cL⟩:=a7.append;exact TW h1 cC a6 fun cO aP e8=>MU (cg::rest) U cL e8 jQ
  cases h
end Go.Sx
namespace Go.Sx
open Go.RowKit
abbrev gB:=List (Nat×Nat)
def gB.has(r:gB)(s:Nat):Bool:=r.any fun x=>decide (x.1<=s)&&decide (s<x.2)
def Tag.e4(r:gB):Tag->Bool
 | .free=>false
 | .own s=>r.has s
 | .ro s=>r.has s
def fj.e4(r:gB):fj->Bool
 | .J t _ _=>t.e4 r
 | _=>false
def aF.e4(r:gB):aF->Bool
 | .J t _ _=>t.e4 r
 | .ep t _ _ _ _=>t.e4 r
 | .aN t _ _ _ _ _=>r.has t
 | .fD t vs=>r.has t||vs.any (fj.e4 r)
 | _=>false
def bl.e4(r:gB):bl->Bool
 | .one l=>l.e4 r
 | .agg ls=>ls.any (aF.e4 r)
def aI.e4(r:gB):aI->Bool
 | .aG a=>a.e4 r
 | .gx as=>as.any (bl.e4 r)
def pt(g:Tag->Option Tag)(r:gB):Prop:=∀t:Tag,t.e4 r=false->g t=some t
variable{g:Tag->Option Tag}{r:gB}
theorem aF.ym(ax:pt g r){l:aF}(h:l.e4 r=false):l.cM g (fun _=>true)=l:=by
 cases l with
 | J t k es=>simp only[aF.e4]at h;simp only[aF.cM,ax t h]
 | ep t k es i j=>simp only[aF.e4]at h;simp only[aF.cM,ax t h]
 | ptr id off=>simp[aF.cM]
 | hg f ids=>simp[aF.cM]
 | aN t i j k es m=>simp only[aF.e4]at h;simp only[aF.cM,ax (.own t) h,gj]
 | fD t vs=>
  simp only[aF.e4,gl]at h;simp only[aF.cM,ax (.own t) h.1,gj]
  congr 1
  conv=>rhs;rw[<-tf vs]
  refine lM fun c ak=>?_
  have:=ft.1 h.2 c ak;cases c with
  | cp=>rfl
  | v x=>rfl
  | J du k es=>simp only[fj.cM,ax du (by grind[fj.e4]),id]
 | _=>rfl
theorem TX(ax:pt g r){ls:List aF}(h:ls.any (aF.e4 r)=false):ls.map (aF.cM g fun _=>true)=ls:=by
 conv=>rhs;rw[<-tf ls]
 grind[lM,ft,aF.ym]
theorem bl.ym(ax:pt g r){a:bl}(h:a.e4 r=false):a.map (aF.cM g fun _=>true)=a:=by
 cases a with
 | one l=>grind[bl.e4,bl.map,aF.ym]
 | agg ls=>grind[bl.e4,bl.map,TX]
theorem aI.ym(ax:pt g r){p:aI}(h:p.e4 r=false):p.map (aF.cM g fun _=>true)=p:=by
 cases p with
 | aG a=>grind[aI.e4,aI.map,bl.ym]
 | gx as=>
  simp only[aI.e4]at h;simp only[aI.map]
  congr 1
  conv=>rhs;rw[<-tf as]
  grind[lM,ft,bl.ym]
structure dH where
 dst:Option Nat
 p:aI
 use:List Nat
 oC:gB
abbrev kW:=Option (dH×(Tag->Option Tag)×List cd×List Prop)
def TY:Operand->Option Nat
 | .tmp t=>some t
 | _=>none
def B':Option Nat->gB
 | none=>[]
 | some s=>[(s,s+1)]
def A3(P:Program)(st:aC)(d:Nat)(t:TypeId)(x y:Operand)(ans:List cd):kW:=
 match rA P t with
 | some (e,k)=>
  match P.info? e with
  | some i=>
   match i.zero,(st.bq x).leaf,x with
   | some z,some (.J (.own hB) ch es),.tmp s=>
    match wJ hB k (st.bq y) ans with
    | some (bX,dT,cu,obs)=>
     if ch=k/\z.cells.size=k/\0<k/\hB<dj then
      some (⟨some d,.one (.J (.own hB) k (es++bX)),[s],(hB,hB+1)::B' dT⟩,iw hB dT,cu,((es.length+bX.length)*i.bytes<=140737488355328)::(es.length+bX.length<=9223372036854775807)::obs)
     else none
    | _=>none
   | some z,some (.v (.slice none 0 0)),_=>
    match wJ d k ((st.bq y).map (aF.cM (iL d []) fun _=>true)) ans with
    | some (bX,dT,cu,obs)=>
     if z.cells.size=k/\0<k/\d<dj then
      some (⟨some d,.one (.J (.own d) k ([]++bX)),[],(d,d+1)::B' dT⟩,(fun g=>(iL d [] g).bind (iw d dT)),cu,(((([]:List (List D)).length)+bX.length)*i.bytes<=140737488355328)::(([]:List (List D)).length+bX.length<=9223372036854775807)::obs)
     else none
    | _=>none
   | _,_,_=>none
  | none=>none
 | none=>none
def I9(P:Program)(st:aC)(d:Nat)(t:TypeId)(x:Operand)(c7 hi jy:Option Operand)(ans:List cd):kW:=
 match rA P t,(st.bq x).leaf,jy,x with
 | some (_,k),some (.J (.own s) ch es),none,.tmp gZ=>
  if k=ch/\s<dj then
   match mV st c7,mV st hi with
   | some l,some h=>some (⟨some d,.one (.J (.own s) k ((es.drop (l.getD 0).toNat).take ((h.getD es.length).toNat-(l.getD 0).toNat))),[gZ],[(s,s+1)]⟩,k' s s,ans,[0<=l.getD 0,l.getD 0<=h.getD es.length,h.getD es.length<=es.length])
   | _,_=>none
  else none
 | _,_,_,_=>none
variable{s:Nat}
theorem awu:pt (k' s s) [(s,s+1)]:=by
 intro t h;cases t with
 | free=>rfl
 | own x=>
  have:x≠s:=by rintro rfl;grind[Tag.e4,gB.has]
  grind[k']
 | ro x=>
  simp_all[Tag.e4,gB.has,k']
def R9(P:Program)(d:Nat)(t:TypeId)(p q:aI)(ans:List cd):kW:=
 match P.underlying t with
 | some (.slice e)=>
  match P.info? e,p.int,q.int with
  | some i,some (_,l),some (_,c)=>
   match i.zero with
   | some z=>
    if i.size=z.cells.size/\0<i.size/\z.cells.all (·.oneCell')=true/\d<dj then
     some (⟨some d,.one (.J (.own d) i.size (List.replicate l.toNat (z.cells.toList.map .v))),[],[(d,d+1)]⟩,iL d [],ans,[0<=l,l<=c,(i.bytes:Int)*c<=281474976710656,c<=9223372036854775807])
    else none
   | none=>none
  | _,_,_=>none
 | _=>none
def tr(P:Program)(st:aC)(o:Oper)(ans:List cd):kW:=
 match o.dst,o.op with
 | some d,.call ⟨.value (.func f),args,_⟩=>
  match P.funcs[f]?,args.toList.mapM (fun x=>(st.bq x).ky st.boxes),ans with
  | some fn,some gR,.res rs::r=>
   if (fn.name == "runtime.NumGoroutine") = false /\ fn.body.isNone = false /\ vp rs = true /\ 10000 * (d + 1) + 10000 <= dj then
    some (⟨some d,ux (10000*(d+1)) rs,[],[(10000*(d+1),10000*(d+1)+10000)]⟩,gX (10000*(d+1)),r,[iV P f gR rs])
   else none
  | _,_,_=>none
 | some d,.buildSlice t n parts=>
  match EH P st d t n parts.toList with
  | some (k,es,ms)=>some (⟨some d,.one (.J (.own d) k es),[],(d,d+1)::ms.map fun x=>(x.1,x.1+1)⟩,iL d ms,ans,[])
  | _=>none
 | some d,.call ⟨.builtin .append,⟨[x,y]⟩,⟨[t,du]⟩⟩=>if t=du then A3 P st d t x y ans else none
 | some _,.box _ _=>none
 | some d,.alloc ty=>
  match P.info? ty with
  | some i=>match i.zero with
   | some z=>if d<dj then some (⟨some d,.one (.fD d (z.cells.toList.map .v)),[],[(d,d+1)]⟩,iL d [],ans,[]) else none
   | none=>none
  | none=>none
 | some d,.makeSlice t l c=>R9 P d t (st.bq l) (st.bq c) ans
 | some d,.slice t x c7 hi jy=>if R1 ans then I9 P st d t x c7 hi jy ans.tail else (rB P st (.slice t x c7 hi jy) ans).map fun r=>(⟨some d,r.1,[],[]⟩,some,r.2.1,r.2.2)
 | some d,op=>(rB P st op ans).map fun r=>(⟨some d,r.1,[],[]⟩,some,r.2.1,r.2.2)
 | none,.store ty (.tmp s) y=>
  match (st.env.getD s .cp).leaf,K5 (st.bq y),P.info? ty with
  | some (.fD t vs),some cs,some i=>
   if cs.length=i.size/\cs.length<=vs.length then
    some (⟨some s,.one (.fD t ((cs++vs.drop cs.length).map (fj.cM (fC t)))),[],[(t,t+1)]⟩,fC t,ans,[])
   else none
  | _,_,_=>none
 | none,_=>none
theorem awv:pt (fC s) [(s,s+1)]:=by
 intro t h;cases t with
 | free=>rfl
 | own x=>
  have:x≠s:=by rintro rfl;grind[Tag.e4,gB.has]
  grind[fC]
 | ro x=>
  have:x≠s:=by rintro rfl;grind[Tag.e4,gB.has]
  grind[fC]
theorem aww:fj.cM some=id:=by funext c;cases c<;>rfl
theorem awx(st:aC)(f:aF->aF)(bF:∀x,f (.v x)=.v x)(hu:f .cp=.cp)(aE:∀d,f (.fd d)=.fd d)(x:Operand):(st.map f).bq x=(st.bq x).map f:=by
 cases x with
 | tmp t=>
  simp only[aC.bq,aC.map];rw[lK,lK,dK];cases st.env[t]? with
  | none=>simp[aI.map,bl.map,hu]
  | some p=>rfl
 | const v=>
  simp only[aC.bq,EL];split
  ·simp[aI.map,bl.map,bF]
  grind[aI.map,bl.map]
 | global g=>simp[aC.bq,aI.map,bl.map,hu]
 | func aCx=>simp[aC.bq,aI.map,bl.map,aE]
theorem aF.aBk(g1 g2:Tag->Option Tag)(U:∀g t,g2 g=some (.own t)->g=.own t)(l:aF):aF.cM g2 (fun _=>true) (aF.cM g1 (fun _=>true) l)=aF.cM (fun t=>(g1 t).bind g2) (fun _=>true) l:=by
 cases l with
 | J t k es=>grind[aF.cM]
 | ep t k es i j=>grind[aF.cM]
 | hg f ids=>simp[aF.cM]
 | aN t i j k es m=>
  simp only[aF.cM];cases e1:g1 (.own t) with
  | none=>grind
  | some x=>
   simp only[qG];grind
 | fD t vs=>
  simp only[aF.cM];cases e1:g1 (.own t) with
  | none=>grind
  | some x=>
   simp only[qG];cases x with
   | own s=>
    simp only;by_cases ao:s=t
    ·subst ao;simp only[gj,aF.cM];have ob:(vs.map (fj.cM g1)).map (fj.cM g2)=vs.map (fj.cM fun t=>(g1 t).bind g2):=by
      rw[List.map_map];refine lM fun c _=>?_
      cases c with
      | cp=>rfl
      | v x=>rfl
      | J du k es=>
       simp only[Function.comp,fj.cM];grind
     rw[ob]
    grind
   | free=>
    grind
   | ro s=>
    grind
 | ptr id off=>simp[aF.cM]
 | _=>rfl
theorem bl.map_map(f g:aF->aF)(a:bl):(a.map f).map g=a.map (g ∘ f):=by cases a<;>simp[bl.map]
theorem aI.map_map(f g:aF->aF)(p:aI):(p.map f).map g=p.map (g ∘ f):=by
 cases p with
 | aG a=>simp[aI.map,bl.map_map]
 | gx as=>simp only[aI.map,List.map_map];simp_all[congr,lM,bl.map_map]
theorem aC.map_map(f g:aF->aF)(s:aC):(s.map f).map g=s.map (g ∘ f):=by
 simp only[aC.map,List.map_map]
 congr 1
 ·grind[lM,aI.map_map]
 simp_all
theorem TZ(r:gB):pt some r:=fun _ _=>rfl
theorem gB.uQ{a b:Nat}(h:gB.has ((a,b)::r) s=false):(s<a\/b<=s)/\gB.has r s=false:=by
 grind[gB.has,gl,Bool.and_eq_false_iff,mG]
variable{t:Nat}
theorem awy:pt (gX t) [(t,t+10000)]:=by
 intro g ax;cases g with
 | free=>rfl
 | own s=>
  obtain⟨h1,_⟩:=gB.uQ ax;simp only[gX];grind
 | ro s=>
  obtain⟨h1,_⟩:=gB.uQ ax;simp only[gX];grind
theorem MV:∀{ms:ic},(gB.has (ms.map fun x=>(x.1,x.1+1)) s)=false->(ms.at s).isSome=false
 | [],_=>rfl
 | (i,p)::r,h=>by
  simp only[gB.has,lN,Er,gl,Bool.and_eq_false_iff,mG]at h;simp only[ic.at];rw[bw (by omega)];exact MV (by simpa only[gB.has]using h.2)
theorem awz{ms:ic}:pt (iL t ms) ((t,t+1)::ms.map fun x=>(x.1,x.1+1)):=by
 intro g ax;cases g with
 | free=>rfl
 | own s=>
  obtain⟨h1,U⟩:=gB.uQ ax;simp only[iL];rw[bw (by omega),MV U];rfl
 | ro s=>
  obtain⟨h1,U⟩:=gB.uQ ax;simp only[iL];rw[bw (by omega),MV U];rfl
theorem T0{dT:Option Nat}(h:gB.has (B' dT) s=false):dT≠some s:=by
 rintro rfl;grind[gB.has,B']
theorem T1(t:Nat)(dT:Option Nat):pt (iw t dT) ((t,t+1)::B' dT):=by
 intro g ax;cases g with
 | free=>rfl
 | own s=>
  obtain⟨h1,U⟩:=gB.uQ ax;simp only[iw];rw[bw (by omega),bw (T0 U)]
 | ro s=>
  obtain⟨h1,U⟩:=gB.uQ ax;simp only[iw];rw[bw (by omega),bw (T0 U)]
theorem MW(t:Nat)(r:gB):pt (iL t []) ((t,t+1)::r):=by
 intro g ax;cases g with
 | free=>rfl
 | own s=>
  obtain⟨h1,U⟩:=gB.uQ ax;simp only[iL];rw[bw (by omega)];rfl
 | ro s=>
  obtain⟨h1,U⟩:=gB.uQ ax;simp only[iL];rw[bw (by omega)];rfl
variable{P:Program}{st:aC}{e:dH}{obs:List Prop}
theorem T2{d:Nat}{t:TypeId}{x y:Operand}{ans cu:List cd}(h:A3 P st d t x y ans=some (e,g,cu,obs)):pt g e.oC/\e.dst=some d:=by
 unfold A3 at h;split at h
 ·split at h
  ·split at h
   ·split at h
    ·split at h
     ·simp only[aX,bK]at h;obtain⟨rfl,rfl,_,_⟩:=h;simp_all[T1]
     cases h
    cases h
   ·split at h
    ·split at h
     ·simp only[aX,bK]at h;obtain⟨rfl,rfl,_,_⟩:=h;exact⟨fun t bG=>by simp only[MW d _ t bG,qG];exact T1 d _ t bG,rfl⟩
     cases h
    cases h
   cases h
  cases h
 cases h
theorem T3{o:Oper}{ans cu:List cd}(h:tr P st o ans=some (e,g,cu,obs)):
  pt g e.oC/\∃d,e.dst=some d/\ps P st o ans=some (⟨(st.map (aF.cM g fun _=>true)).env.set d e.p,(st.map (aF.cM g fun _=>true)).boxes⟩,cu,obs):=by
 obtain⟨dst,op,type,pos,after,guard⟩:=o;have hx:∀st:aC,st.map (aF.cM some fun _=>true)=st:=by
  intro st;have:(aF.cM some fun _=>true)=_root_.id:=by
   funext l;cases l<;>simp[aF.cM,aww]
  rw[this];simp only[aC.map];have h1:aI.map _root_.id=_root_.id:=by
   funext p;cases p with
   | aG a=>cases a<;>simp[aI.map,bl.map]
   | gx as=>
    simp only[aI.map,id]
    congr 1
    have:bl.map _root_.id=_root_.id:=by funext a;cases a<;>simp[bl.map]
    simp_all
  simp_all
 simp only[tr]at h;split at h
 ·rename_i d f args ts;split at h
  ·rename_i fn gR rs r h1 U;split at h
   ·rename_i ak;simp only[aX,bK]at h;obtain⟨rfl,rfl,rfl,rfl⟩:=h;refine⟨awy,d,rfl,?_⟩;simp only[ps,qu,R0,nR,l7,MQ,h1,U,lL];rw[bn ak];rfl
   cases h
  cases h
 ·rename_i d t n parts;split at h
  ·rename_i k es ms aw;simp only[aX,bK]at h;obtain⟨rfl,rfl,rfl,rfl⟩:=h;refine⟨awz,d,rfl,?_⟩;simp only[ps,qu];exact awL aw ans
  cases h
 ·rename_i d x y t du;split at h
  ·rename_i BR;subst BR;refine⟨(T2 h).1,d,(T2 h).2,?_⟩;simp only[ps,qu,gj,Sx.AH];unfold A3 at h;split at h
   ·rename_i wN k he;simp only[he];split at h
    ·rename_i i hi;simp only[hi];split at h
     ·rename_i z hB ch es s bd al;split at h
      ·rename_i bX dT a2 cg ao;split at h
       ·rename_i ak;obtain⟨rfl,ak⟩:=ak;simp only[aX,bK]at h;obtain⟨rfl,rfl,rfl,rfl⟩:=h;simp only[ED,al,gj,bd,ao];rw[bn ak];rfl
       cases h
      cases h
     ·rename_i z _ bd al;split at h
      ·rename_i bX dT a2 cg ao;split at h
       ·rename_i ak;simp only[aX,bK]at h;obtain⟨rfl,rfl,rfl,rfl⟩:=h;have sh:(st.j1 d []).bq y=(st.bq y).map (aF.cM (iL d []) fun _=>true):=awx st _ (fun _=>rfl) rfl (fun _=>rfl) y;simp only[ED,al,bd,sh,ao];rw[bn ak];have:(st.j1 d []).yL d dT=st.map (aF.cM (fun g=>(iL d [] g).bind (iw d dT)) fun _=>true):=by
         simp only[aC.j1,aC.yL,aC.map_map]
         congr 1
         funext l;refine aF.aBk _ _ (fun g t h=>?_) l;cases g with
         | free=>grind[iw]
         | own s=>
          grind[iw]
         | ro s=>
          grind[iw]
        rw[this]
       cases h
      cases h
     cases h
    cases h
   cases h
  cases h
 ·cases h
 ·rename_i d ty;split at h
  ·rename_i i hi;split at h
   ·rename_i z bd;split at h
    ·rename_i aE;simp only[aX,bK]at h;obtain⟨rfl,rfl,rfl,rfl⟩:=h;refine⟨MW _ _,d,rfl,?_⟩;simp only[ps,FY,hi,bd];rw[bn aE];rfl
    cases h
   cases h
  cases h
 ·rename_i d t l c;unfold R9 at h;split at h
  ·rename_i e hu;split at h
   ·rename_i i cS gV bt kz hi e1 e2;split at h
    ·rename_i z bd;split at h
     ·rename_i ak;simp only[aX,bK]at h;obtain⟨rfl,rfl,rfl,rfl⟩:=h;refine⟨MW _ _,d,rfl,?_⟩;simp only[ps,qu,FO,hu,hi,e1,e2,bd];rw[bn ak];rfl
     cases h
    cases h
   cases h
  cases h
 ·rename_i d t x c7 hi jy;split at h
  ·rename_i a7;unfold I9 at h;split at h
   ·rename_i e k s ch es gZ e1 e2;split at h
    ·rename_i ak;obtain⟨rfl,ao⟩:=ak;split at h
     ·rename_i l bN cj d';simp only[aX,bK]at h;obtain⟨rfl,rfl,rfl,rfl⟩:=h;refine⟨awu,d,rfl,?_⟩;simp_all[ps,qu,gj,AI,pI,true_and]
     cases h
    cases h
   cases h
  rename_i a7;rw[b9]at h;obtain⟨⟨bx,b0,ci⟩,h1,h⟩:=h;simp only[bK]at h;obtain⟨rfl,rfl,rfl,rfl⟩:=h;simp_all[TZ,ps,qu,bw]
 ·rename_i d h5 iy kM jz k7 n6 n7;rw[b9]at h;obtain⟨⟨bx,b0,ci⟩,h1,h⟩:=h;simp only[bK]at h;obtain⟨rfl,rfl,rfl,rfl⟩:=h;refine⟨TZ _,d,rfl,?_⟩;rw[hx];have EV:ps P st ⟨some d,op,type,pos,after,guard⟩ ans=qu P st ⟨some d,op,type,pos,after,guard⟩ ans:=by
   simp_all[ps]
  grind[qu,rB]
 ·rename_i ty s y;split at h
  ·rename_i hB vs v i e1 e2 cj;split at h
   ·rename_i ak;simp only[aX,bK]at h;obtain⟨rfl,rfl,rfl,rfl⟩:=h;refine⟨awv,s,rfl,?_⟩;simp only[ps,F0,e1,e2,cj];grind
   cases h
  cases h
 cases h
theorem Rel.weaken{w0:eR}{bz:aC}{a:Act}{w:World}(h:Rel w0 st a w)(aZ:bz.env.length=st.env.length)(aw:bz.boxes=st.boxes)
  (he:∀(i:Nat) (p:aI),bz.env[i]?=some p->p=.cp\/st.env[i]?=some p):Rel w0 bz a w:=by
 obtain⟨ω,τ,h⟩:=h;refine⟨ω,τ,h.defers,h.size.trans aZ.symm,h.below,h.owned,h.fixed,h.pinned,fun i p hp=>?_,by rw[aw];exact h.boxes⟩;rcases he i p hp with rfl | U
 ·have:i<a.tmps.size:=by
   rw[h.size,<-aZ];grind
  exact⟨a.tmps[i],by simp[this],aa⟩
 exact h.env i p U
def dH.g'(e:dH)(t:Nat):Option aI:=if e.dst=some t then some e.p else if t∈e.use then some .cp else none
def zE(env:List aI):List Nat->List aI
 | s::us=>zE (env.set s .cp) us
 | []=>env
theorem T4:∀(us:List Nat) (env:List aI) (t:Nat),(zE env us)[t]?=(env[t]?).map fun p=>if t∈us then .cp else p
 | [],env,t=>by simp[zE]
 | s::us,env,t=>by
  simp only[zE,T4 us,pQ,eH];grind
def dH.apply(e:dH)(env:List aI):List aI:=
 match e.dst with
 | some d=>(zE env e.use).set d e.p
 | none=>env
theorem dH.apply_get(aE:e.dst≠none)(env:List aI)(t:Nat):(e.apply env)[t]?=(env[t]?).map fun p=>(e.g' t).getD p:=by
 unfold dH.apply dH.g';split
 ·rename_i d eN;have ao:∀(t:Nat),(zE env e.use)[t]?=(env[t]?).map fun p=>if t∈e.use then .cp else p:=T4 e.use env
  grind
 grind
def hK(L:Nat->Bool)(t:Nat):Nat->List dH->aI->aI
 | _,[],acc=>acc
 | k,e::es,acc=>hK L t (k+1) es (if L k then (e.g' t).getD acc else acc)
variable{L:Nat->Bool}
theorem C4{L':Nat->Bool}:∀{es:List dH} {k:Nat} {acc:aI},(∀(j:Nat) (e:dH),es[j]?=some e->e.g' t≠none->L (k+j)=L' (k+j))->hK L t k es acc=hK L' t k es acc
 | [],_,_,_=>rfl
 | e::es,k,acc,h=>by
  simp only[hK];have bO:(if L k then (e.g' t).getD acc else acc)=(if L' k then (e.g' t).getD acc else acc):=by
   cases bG:e.g' t with
   | none=>simp
   | some p=>have:=h 0 e rfl (by simp[bG]);grind
  rw[bO];exact C4 fun j e' bk bG=>by have:=h (j+1) e' (by grind) bG;grind
theorem T5{p:aI}:∀{es:List dH} {k i:Nat} {acc:aI} {e:dH},es[i]?=some e->e.g' t=some p->L (k+i)=true->
  (∀(j:Nat) (e':dH),i<j->es[j]?=some e'->e'.g' t≠none->L (k+j)=false)->hK L t k es acc=p
 | [],_,_,_,_,h,_,_,_=>by simp at h
 | bE::es,k,0,acc,e,h,bG,cH,iJ=>by
  simp at h;subst h;simp only[hK];rw[oI]at cH;rw[cH,bG];simp only[gj,lL];have:∀(es:List dH) (k:Nat),(∀(j:Nat) (e':dH),es[j]?=some e'->e'.g' t≠none->L (k+j)=false)->hK L t k es p=p:=by
   intro es;induction es with
   | nil=>intro k _;rfl
   | cons e1 es eg=>
    intro k h;simp only[hK];have h1:(if L k then (e1.g' t).getD p else p)=p:=by
     cases bG:e1.g' t with
     | none=>simp
     | some q=>have:=h 0 e1 rfl (by simp[bG]);grind
    rw[h1];exact eg (k+1) fun j e' bk BP=>by have:=h (j+1) e' (by grind) BP;grind
  exact this es (k+1) fun j e' bk BP=>by have:=iJ (j+1) e' (by omega) (by grind) BP;grind
 | bE::es,k,i+1,acc,e,h,bG,cH,iJ=>by
  simp only[hK];exact T5 (i:=i) (by simpa using h) bG (by rwa[show k+1+i=k+(i+1) by omega]) fun j e' bk BC BP=>by
   have:=iJ (j+1) e' (by omega) (by simpa using BC) BP;rwa[show k+(j+1)=k+1+j by omega]at this
def fr(env0:List aI)(bs:List (Nat×List aF))(L:Nat->Bool)(es:List dH):aC:=⟨env0.zipIdx.map fun x=>hK L x.2 0 es x.1,bs⟩
variable{bs:List (Nat×List aF)}
theorem rF{env0:List aI}{es:List dH}(t:Nat):(fr env0 bs L es).env[t]?=(env0[t]?).map fun p=>hK L t 0 es p:=by
 simp only[fr,dK,List.getElem?_zipIdx,dV];grind
theorem zF{env0:List aI}{es:List dH}:(fr env0 bs L es).env.length=env0.length:=by simp[fr]
def MX(ops:Array Oper)(o:Oper):Option Nat:=o.guard.bind fun x=>(ops[x.1]?).bind (·.dst)
def reads(ops:Array Oper)(o:Oper):List Nat:=o.op.operands.toList.filterMap TY++(MX ops o).toList
def zG(d:Nat):dH:=⟨some d,.one (.v undef),[],[]⟩
def ext(e:dH)(env:List aI):dH:=
 if e.oC.isEmpty then e else { e with use:=e.use++(env.zipIdx.filterMap fun x=>if x.1.e4 e.oC&&!(e.dst==some x.2) then some x.2 else none) }
theorem MY(e:dH)(env:List aI):∃u,ext e env={ e with use:=u }:=by
 unfold ext;split
 ·grind
 grind
structure iE where
 t:Nat
 i:Nat
 j:Nat
 k:Nat
 kT:Nat
 es:List (List D)
 esT:List (List D)
def HT(t:Nat)(bs:List (Nat×List aF)):Option (Nat×List (List D)):=
 (bs.find? fun x=>(x.2.findSome? (uy t)).isSome).bind fun x=>(dI x.1 bs).bind fun ls=>ls.findSome? (uy t)
theorem awA{w0:eR}{a:Act}{w:World}{ω:Own}{τ:Nat->Nat×Value}(h:cK w0 st a w ω τ){kT:Nat}{esT:List (List D)}(e:HT t st.boxes=some (kT,esT)):∃v,Sat w ω τ (.J (.own t) kT esT) v:=by
 unfold HT at e;rw[nn]at e;obtain⟨x,_,e⟩:=e;rw[nn]at e;obtain⟨ls,aw,e⟩:=e;obtain⟨l,al,e⟩:=List.exists_of_findSome?_eq_some e;obtain⟨b,arr,ty,_,_,_,ao⟩:=h.boxes _ ls aw;obtain⟨n,aZ⟩:=pS.1 al;obtain⟨u,_,hu⟩:=ao.2 n l aZ;exact⟨u,Lr e hu⟩
def sP(st:aC)(o:Oper):Option iE:=
 match o.dst,o.op with
 | some _,.call ⟨.builtin .append,⟨[x,_]⟩,⟨[_,_]⟩⟩=>
  match (st.bq x).leaf with
  | some (.aN s i j k es .here)=>
   match HT s st.boxes with
   | some (kT,esT)=>some ⟨s,i,j,k,kT,es,esT⟩
   | none=>none
  | _=>none
 | _,_=>none
def we(P:Program)(st:aC)(o:Oper)(ans:List cd):Option (dH×List cd×List Prop):=
 match sP st o,o.dst,o.op with
 | some v,some d,.call ⟨.builtin .append,⟨[_,y]⟩,⟨[t,du]⟩⟩=>
  if t=du then (uL P t v.t v.i v.j v.k v.es v.esT (st.bq y) ans).map fun r=>(⟨some d,r.1,[],[]⟩,r.2.1,r.2.2) else none
 | _,_,_=>none
def iE.fix(v:iE):aF->Option (List Prop)
 | .J (.own s) dm dR=>if s=v.t then (if dm=v.kT then some [dR=v.esT] else none) else some []
 | .ep (.own s) dm dR _ _=>if s=v.t then (if dm=v.kT then some [dR=v.esT] else none) else some []
 | .J (.ro s) _ _=>if s=v.t then none else some []
 | .ep (.ro s) _ _ _ _=>if s=v.t then none else some []
 | .aN s a b dm dR m=>if s=v.t/\b=v.j then (if dm=v.k/\m.home=true then some [a=v.i,dR=v.es] else none) else some []
 | .fD _ _=>none
 | _=>some []
def iE.nU(v:iE)(l:aF):Prop:=hL v.t v.i v.j v.k v.es v.kT v.esT l=l/\∀a∈l.idx v.t v.j,a=v.i
theorem iE.abM{v:iE}{l:aF}(h:v.fix l=some obs)(a7:cQ obs):v.nU l:=by
 obtain⟨t,i,j,k,kT,es,esT⟩:=v;unfold iE.nU;simp only;cases l with
 | J g dm dR=>
  refine⟨?_,fun a ai=>by grind[aF.idx]⟩;cases g with
  | free=>rfl
  | own s=>
   simp only[iE.fix]at h;split at h
   ·rename_i ao;subst ao;split at h
    ·rename_i hk;subst hk;cases h;have e:dR=esT:=a7.1;grind[hL]
    cases h
   grind[hL]
  | ro s=>
   grind[iE.fix,hL]
 | ep g dm dR x y=>
  refine⟨?_,fun a ai=>by grind[aF.idx]⟩;cases g with
  | free=>rfl
  | own s=>
   simp only[iE.fix]at h;split at h
   ·rename_i ao;subst ao;split at h
    ·rename_i hk;subst hk;cases h;have e:dR=esT:=a7.1;grind[hL]
    cases h
   grind[hL]
  | ro s=>
   grind[iE.fix,hL]
 | aN s a b dm dR m=>
  simp only[iE.fix]at h;split at h
  ·rename_i ao;obtain⟨rfl,rfl⟩:=ao;split at h
   ·rename_i hk;cases h;have e1:a=i:=a7.1;have e2:dR=es:=a7.2.1;simp_all[hL,aF.idx]
   cases h
  simp_all[hL,bw,aF.idx]
 | fD t vs=>cases h
 | _=>exact⟨rfl,fun a ai=>by grind[aF.idx]⟩
def bl.vi:bl->List aF
 | .one l=>[l]
 | .agg ls=>ls
def aI.vi:aI->List aF
 | .aG a=>a.vi
 | .gx as=>as.flatMap bl.vi
theorem bl.B7{p:aF->Prop}{a:bl}(h:∀l∈a.vi,p l):a.l8 p:=by
 cases a with
 | one l=>exact h l (by simp[bl.vi])
 | agg ls=>exact h
theorem aI.B7{p:aF->Prop}{q:aI}(h:∀l∈q.vi,p l):q.l8 p:=by
 cases q with
 | aG a=>exact bl.B7 h
 | gx as=>exact fun a ai=>bl.B7 fun l al=>h l (l5.2 ⟨a,ai,al⟩)
def iE.fixes(v:iE):List aF->Option (List Prop)
 | []=>some []
 | l::r=>
  match v.fix l,iE.fixes v r with
  | some a,some b=>some (a++b)
  | _,_=>none
theorem iE.QZ{v:iE}:∀{ls:List aF} {obs:List Prop},v.fixes ls=some obs->cQ obs->∀l∈ls,v.nU l
 | [],_,_,_,l,al=>by cases al
 | eF::r,obs,h,a7,l,al=>by
  simp only[iE.fixes]at h;split at h
  ·rename_i a b h1 U;cases h;obtain⟨cC,cg⟩:=a7.append;rcases eH.1 al with rfl | al
   ·grind[iE.abM]
   exact iE.QZ U cg l al
  cases h
def AG(bs:List (Nat×List aF))(all:Nat->List aF):Nat->List Oper->List aI->List dH->Option (List Prop)
 | i,o::os,env,e::es=>
  match sP ⟨env,bs⟩ o with
  | some v=>
   match v.fixes (all i),AG bs all (i+1) os (e.apply env) es with
   | some a,some b=>some (a++b)
   | _,_=>none
  | none=>AG bs all (i+1) os (e.apply env) es
 | _,_,_,_=>some []
theorem T6{all:Nat->List aF}:∀{l:List Oper} {es:List dH} {env:List aI} {i0:Nat} {obs:List Prop},AG bs all i0 l env es=some obs->cQ obs->
  ∀(i:Nat) (o:Oper),l[i]?=some o->i<es.length->∀v,sP ⟨(es.take i).foldl (fun env e=>e.apply env) env,bs⟩ o=some v->∀lz∈all (i0+i),v.nU lz
 | [],_,_,_,_,_,_,i,o,hi,_,_,_,_,_=>by simp at hi
 | _::_,[],_,_,_,_,_,i,o,_,al,_,_,_,_=>by simp at al
 | ph::os,e::es,env,i0,obs,h,a7,i,o,hi,al,v,bI,lz,J0=>by
  simp only[AG]at h;cases i with
  | zero=>
   simp only[mE,aX]at hi;subst hi;simp only[List.take_zero,List.foldl_nil]at bI;rw[bI]at h;simp only at h;split at h
   ·rename_i a b h1 U;cases h;exact iE.QZ h1 a7.append.1 lz J0
   cases h
  | succ i=>
   have go:∀{b:List Prop},AG bs all (i0+1) os (e.apply env) es=some b->cQ b->v.nU lz:=fun U cg=>
    T6 U cg i o (by grind) (by grind) v (by grind) lz (by grind)
   split at h
   ·split at h
    ·rename_i a b h1 U;cases h;exact go U a7.append.2
    cases h
   grind
def vu(P:Program)(ops:Array Oper)(gs:List Nat)(bs:List (Nat×List aF)):List Oper->List aI->List cd->Option (List dH×List aI×List cd×List Prop)
 | [],env,ans=>some ([],env,ans,[])
 | o::rest,env,ans=>
  match sO ops ⟨env,bs⟩ o [] with
  | some (true,_,_,_)=>
   match tr P ⟨env,bs⟩ o ans with
   | some (e,_,fB,gq)=>
    match (match o.dst with | some d=>gs.contains d | none=>false),e.p.leaf,fB with
    | true,some (.bg c),.pZ b::r=>
     (vu P ops gs bs rest (dH.apply { ext e env with p:=.one (.v (.bool b)) } env) r).map fun x=>({ ext e env with p:=.one (.v (.bool b)) }::x.1,x.2.1,x.2.2.1,(c=b)::(gq++x.2.2.2))
    | _,_,_=>(vu P ops gs bs rest ((ext e env).apply env) fB).map fun x=>(ext e env::x.1,x.2.1,x.2.2.1,gq++x.2.2.2)
   | none=>
    match we P ⟨env,bs⟩ o ans with
    | some (e,fB,gq)=>(vu P ops gs bs rest (e.apply env) fB).map fun x=>(e::x.1,x.2.1,x.2.2.1,gq++x.2.2.2)
    | none=>none
  | some (false,_,_,_)=>
   match o.dst with
   | some d=>(vu P ops gs bs rest ((zG d).apply env) ans).map fun x=>(zG d::x.1,x.2.1,x.2.2.1,x.2.2.2)
   | none=>none
  | none=>none
def Fact(P:Program)(ops:Array Oper)(bs:List (Nat×List aF))(env:List aI)(o:Oper)(e:dH):Prop:=
 (∃st1 eC cC,sO ops ⟨env,bs⟩ o []=some (false,st1,eC,cC)/\∃d,o.dst=some d/\e=zG d)\/
 (∃st1 eC cC,sO ops ⟨env,bs⟩ o []=some (true,st1,eC,cC)/\∃ans bE g cu obs,tr P ⟨env,bs⟩ o ans=some (bE,g,cu,obs)/\cQ obs/\
  ∃u,(e={ bE with use:=u }\/∃c b,bE.p=.one (.bg c)/\c=b/\e={ bE with use:=u,p:=.one (.v (.bool b)) }))\/
 (∃st1 eC cC,sO ops ⟨env,bs⟩ o []=some (true,st1,eC,cC)/\∃ans cu obs,we P ⟨env,bs⟩ o ans=some (e,cu,obs)/\cQ obs)
theorem C5{ops:Array Oper}{gs:List Nat}:∀{l:List Oper} {env uR:List aI} {ans cu:List cd} {es:List dH} {obs:List Prop},
  vu P ops gs bs l env ans=some (es,uR,cu,obs)->cQ obs->
  es.length=l.length/\uR=es.foldl (fun env e=>e.apply env) env/\∀(i:Nat) (o:Oper),l[i]?=some o->∃e,es[i]?=some e/\Fact P ops bs ((es.take i).foldl (fun env e=>e.apply env) env) o e
 | [],env,uR,ans,cu,es,obs,h,_=>by
  simp_all[vu,aX,bK]
 | o::rest,env,uR,ans,cu,es,obs,h,a7=>by
  have fin:∀(e:dH) (dR:List dH) (Ja:List aI),(dR.length=rest.length/\Ja=dR.foldl (fun env e=>e.apply env) (e.apply env)/\∀(i:Nat) (o:Oper),rest[i]?=some o->∃e',dR[i]?=some e'/\Fact P ops bs ((dR.take i).foldl (fun env e=>e.apply env) (e.apply env)) o e')->
    Fact P ops bs env o e->(e::dR).length=(o::rest).length/\Ja=(e::dR).foldl (fun env e=>e.apply env) env/\∀(i:Nat) (rq:Oper),(o::rest)[i]?=some rq->∃e',(e::dR)[i]?=some e'/\Fact P ops bs (((e::dR).take i).foldl (fun env e=>e.apply env) env) rq e':=by
   intro e dR Ja ⟨h1,U,aA⟩ bF;refine⟨by simp[h1],U,fun i rq mR=>?_⟩;cases i with
   | zero=>grind
   | succ i=>grind
  simp only[vu]at h;split at h
  ·rename_i st1 eC cC hw;split at h
   ·rename_i e g fB gq aE;split at h
    ·rename_i c b r ax al;rw[b9]at h;obtain⟨⟨gP,gz,lI,rY⟩,h1,h⟩:=h;simp only[bK]at h;obtain⟨rfl,rfl,_,rfl⟩:=h;have Sf:(c=b)/\cQ rY:=⟨a7.1,(cQ.append a7.2).2⟩
     have Cb:=(cQ.append a7.2).1;refine fin _ _ _ (C5 h1 Sf.2) (.inr (.inl ⟨_,_,_,hw,_,_,_,_,_,aE,Cb,(MY e env).choose,.inr ⟨c,b,?_,?_,?_⟩⟩))
     ·cases hp:e.p with
      | aG a=>
       rw[hp]at al;cases a with
       | one l=>grind[aI.leaf,aX]
       | agg ls=>cases al
      | gx as=>rw[hp]at al;cases al
     ·exact Sf.1
     grind
    rw[b9]at h;obtain⟨⟨gP,gz,lI,rY⟩,h1,h⟩:=h;simp only[bK]at h;obtain⟨rfl,rfl,_,rfl⟩:=h;obtain⟨Cb,cg⟩:=a7.append;exact fin _ _ _ (C5 h1 cg) (.inr (.inl ⟨_,_,_,hw,_,_,_,_,_,aE,Cb,(MY e env).choose,.inl (MY e env).choose_spec⟩))
   split at h
   ·rename_i e fB gq Kd;rw[b9]at h;obtain⟨⟨gP,gz,lI,rY⟩,h1,h⟩:=h;simp only[bK]at h;obtain⟨rfl,rfl,_,rfl⟩:=h;obtain⟨Cb,cg⟩:=a7.append;exact fin _ _ _ (C5 h1 cg) (.inr (.inr ⟨_,_,_,hw,_,_,_,Kd,Cb⟩))
   cases h
  ·rename_i st1 eC cC hw;split at h
   ·rename_i d aE;rw[b9]at h;obtain⟨⟨gP,gz,lI,rY⟩,h1,h⟩:=h;simp only[bK]at h;obtain⟨rfl,rfl,_,rfl⟩:=h;exact fin _ _ _ (C5 h1 a7) (.inl ⟨_,_,_,hw,d,aE,rfl⟩)
   cases h
  cases h
end Go.Sx
namespace Go.Sx
open Go.RowKit
variable{st bz:aC}
theorem T7{parts:List (Nat×Operand)}(h:∀x∈parts,st.bq x.2=bz.bq x.2):(parts.map fun x=>(x.1,st.bq x.2))=parts.map fun x=>(x.1,bz.bq x.2):=
 lM fun x af=>by rw[h x af]
variable{P:Program}{ans:List cd}
theorem T8{op:Op}(aw:st.boxes=bz.boxes)(h:∀x∈op.operands.toList,st.bq x=bz.bq x):rB P st op ans=rB P bz op ans:=by
 cases op<;>simp only[rB,Op.operands,eH,List.mem_nil_iff,forall_eq_or_imp,or_false,forall_eq]at h ⊢
 case load t x=>grind[Gg]
 case slice t x c7 hi jy=>
  have af:st.bq x=bz.bq x:=h x (by simp);have a7:∀o:Option Operand,(∀y,o=some y->st.bq y=bz.bq y)->mV st o=mV bz o:=by
   intro o a7;cases o with
   | none=>rfl
   | some y=>simp_all[mV]
  simp_all[Gh]
 case build t cz=>
  have:(cz.toList.map fun x=>(x.1,st.bq x.2))=cz.toList.map fun x=>(x.1,bz.bq x.2):=T7 fun x af=>h x.2 (by grind)
  grind[Gi]
 case call c=>
  obtain⟨callee,args,ts⟩:=c;cases callee with
  | value f=>rfl
  | invoke r i=>rfl
  | builtin b=>
   simp only[Call.operands]at h;have kB:∀x∈args.toList,st.bq x=bz.bq x:=fun x af=>h x (by grind)
   simp only;generalize args.toList=l at kB;unfold Gl;grind
 case makeFunc fn first captured=>
  have ak:captured.toList.map st.bq=captured.toList.map bz.bq:=lM fun x af=>h x (by grind)
  simp only[Gk,ak]
 all_goals simp[h]
variable{o:Oper}
theorem awB(aw:st.boxes=bz.boxes)(h:∀x∈o.op.operands.toList,st.bq x=bz.bq x):tr P st o ans=tr P bz o ans:=by
 obtain⟨dst,op,type,pos,after,guard⟩:=o;simp only at h;cases dst with
 | none=>
  cases op with
  | store ty x y=>
   cases x with
   | tmp s=>
    simp_all[Op.operands,aC.bq,tr]
   | _=>rfl
  | _=>rfl
 | some d=>
  unfold tr;split
  ·rename_i f args ts e1 e2;simp only at e1 e2;subst e2;have kB:∀x∈args.toList,st.bq x=bz.bq x:=fun x af=>h x (by grind[Op.operands,Call.operands])
   have:args.toList.mapM (fun x=>(st.bq x).ky st.boxes)=args.toList.mapM (fun x=>(bz.bq x).ky bz.boxes):=by
    rw[<-aw];generalize args.toList=l at kB;generalize st.boxes=bs;induction l with
    | nil=>rfl
    | cons x l eg=>grind
   rw[this]
  ·rename_i t n parts e1 e2;simp only at e1 e2;subst e2;have:(parts.toList.map fun x=>(x.1,st.bq x.2))=parts.toList.map fun x=>(x.1,bz.bq x.2):=T7 fun x af=>h x.2 (by grind[Op.operands])
   grind[EH]
  ·rename_i x y t du e1 e2;simp only at e1 e2;subst e2;have af:st.bq x=bz.bq x:=h x (by simp[Op.operands,Call.operands]);have bD:st.bq y=bz.bq y:=h y (by simp[Op.operands,Call.operands]);simp only[A3,af,bD]
  ·rfl
  ·rfl
  ·grind[Op.operands]
  ·rename_i t x c7 hi jy e1 e2;simp only at e1 e2;subst e2;have af:st.bq x=bz.bq x:=h x (by simp[Op.operands]);have a7:∀o:Option Operand,(∀y,o=some y->st.bq y=bz.bq y)->mV st o=mV bz o:=by
    intro o a7;cases o with
    | none=>rfl
    | some y=>simp_all[mV]
   rw[T8 aw h];simp only[I9,af];rw[a7 c7 (fun y e=>h y (by simp[Op.operands,e])),a7 hi (fun y e=>h y (by simp[Op.operands,e]))]
  ·rw[T8 aw h]
  ·grind
  rfl
theorem QY{x:Operand}(h:∀t,TY x=some t->st.env.getD t .cp=bz.env.getD t .cp):st.bq x=bz.bq x:=by
 cases x with
 | tmp t=>simpa[aC.bq]using h t rfl
 | _=>rfl
def nq(ms:List Nat)(i j:Nat):Bool:=(ms.getD j 0).testBit i
def xz(ms:List Nat):List Edge->Nat
 | []=>0
 | e::r=>if Region.binds .any e then (2 ^ e.on ||| ms.getD e.on 0) ||| xz ms r else xz ms r
def sB:List Oper->List Nat->List Nat
 | [],acc=>acc
 | o::r,acc=>sB r (acc++[xz acc o.after.toList])
variable{ms:List Nat}{i:Nat}
theorem MZ:∀{l:List Edge},(xz ms l).testBit i=true->∃e∈l,Region.binds .any e=true/\(i=e.on\/nq ms i e.on=true)
 | [],h=>by grind[xz]
 | e::r,h=>by
  simp only[xz]at h;split at h
  ·rename_i aw;rw[Nat.testBit_or,Nat.testBit_or,pV,pV,Nat.testBit_two_pow,ck]at h;rcases h with (h | h) | h
   ·grind
   ·exact⟨e,by simp,aw,.inr h⟩
   obtain⟨e',h1,U⟩:=MZ h;exact⟨e',by simp[h1],U⟩
  obtain⟨e',h1,U⟩:=MZ h;exact⟨e',by simp[h1],U⟩
def r7{α:Type}(f:Nat->α->Bool):Nat->List α->Bool
 | _,[]=>true
 | k,x::r=>f k x&&r7 f (k+1) r
theorem xA{α:Type}{f:Nat->α->Bool}:∀{l:List α} {k:Nat},r7 f k l=true->∀(i:Nat) (x:α),l[i]?=some x->f (k+i) x=true
 | [],_,_,i,x,h=>by simp at h
 | y::r,k,h,0,x,af=>by
  simp_all[r7,cw]
 | y::r,k,h,i+1,x,af=>by
  simp only[r7,cw]at h;have:=xA h.2 i x (by simpa using af);rwa[show k+1+i=k+(i+1) by omega]at this
def sQ(ms:List Nat)(os:List Oper):Bool:=
 r7 (fun j o=>ms.getD j 0==xz ms o.after.toList&&o.after.toList.all fun e=>!Region.binds .any e||decide (e.on<j)) 0 os
variable{ops:Array Oper}
theorem M0(h:sQ ms ops.toList=true){j:Nat}(a7:ops[j]?=some o):(∀e∈o.after,Region.binds .any e=true->e.on<j)/\
  ∀i,nq ms i j=true->∃e∈o.after,Region.binds .any e=true/\(i=e.on\/nq ms i e.on=true):=by
 have:=xA h j o (by grind);simp only[dV,cw,ka,gA,pV,hb,ck]at this;grind[nq,MZ]
def rG(ops:Array Oper)(b7:Array Bool):Prop:=
 ∀(j:Nat) (o:Oper),b7.getD j false=true->ops[j]?=some o->∀e∈o.after,Region.binds .any e=true->b7.getD e.on false=true
variable{b7:Array Bool}
theorem Gb{j:Nat}(h:b7.getD j false=true):j<b7.size:=by
 grind
theorem Gc(h:sQ ms ops.toList=true)(ak:rG ops b7)(ao:b7.size=ops.size):∀(j:Nat),b7.getD j false=true->nq ms i j=true->b7.getD i false=true:=by
 intro j;induction j using Nat.strongRecOn with
 | ind j eg=>
  intro bk ai;have bS:j<ops.size:=ao▸Gb bk;have a7:ops[j]?=some ops[j]:=nm bS;obtain⟨h1,U⟩:=M0 h a7;obtain⟨e,he,aw,sg⟩:=U i ai;have y7:=ak j _ bk a7 e he aw;grind
variable{k:Nat}
theorem C6(h:sQ ms ops.toList=true)(ak:rG ops b7)(ao:b7.size=ops.size)(hi:i∈Region.ready .any ops b7)(ai:nq ms k i=true):b7.getD k false=true:=by
 rw[mem_ready]at hi;obtain⟨_,o,a7,he⟩:=hi;obtain⟨_,U⟩:=M0 h a7;obtain⟨e,E5,aw,sg⟩:=U k ai;rcases sg with rfl | sg
 ·grind
 grind[Gc]
theorem rG.ready(ak:rG ops b7)(hi:i∈Region.ready .any ops b7):rG ops (b7.setIfInBounds i true):=by
 intro j o bk a7 e he aw;rw[mem_ready]at hi;obtain⟨_,aDR,aDr,qd⟩:=hi;by_cases oe:i=j
 ·grind[getD_set_true]
 rw[getD_set_ne false oe]at bk;exact getD_set_true (ak j o bk a7 e he aw)
theorem M1(h:sQ ms ops.toList=true)(ao:b7.size=ops.size)(aD:Region.ready .any ops b7=[]):∀j,j<ops.size->b7.getD j false=true:=by
 intro j;induction j using Nat.strongRecOn with
 | ind j eg=>
  intro bS;have a7:ops[j]?=some ops[j]:=nm bS;obtain⟨h1,_⟩:=M0 h a7;cases al:b7.getD j false with
  | true=>rfl
  | false=>
   have:j∈Region.ready .any ops b7:=by
    grind[mem_ready,Nat.lt_trans]
   grind
def C7(e:dH):List Nat:=e.dst.toList++e.use
def Gd(ops:Array Oper)(o:Oper)(e:dH):List Nat:=C7 e++reads ops o
def Fz(ms:List Nat)(i k:Nat):Bool:=if k<i then nq ms k i else nq ms i k
def M3(ops:Array Oper)(ms:List Nat)(es:List dH):Bool:=
 r7 (fun i x=>r7 (fun k e=>k==i||Fz ms i k||!((C7 e).any fun t=>(Gd ops x.1 x.2).contains t)) 0 es) 0 (ops.toList.zip es)
def zH(ms:List Nat)(es:List dH)(i c7:Nat)(s:Option Nat):Bool:=es.zipIdx.any fun y=>decide (c7<=y.2)&&nq ms y.2 i&&(match s with | some t=>y.1.use.contains t | none=>false)
variable{es:List dH}
theorem T9{c7:Nat}{s:Option Nat}(h:zH ms es i c7 s=true):∃m y t,es[m]?=some y/\c7<=m/\nq ms m i=true/\t∈y.use/\s=some t:=by
 unfold zH at h;grind
def M4(ms:List Nat)(es:List dH)(env0:List aI)(bs:List (Nat×List aF)):Bool:=
 r7 (fun i e=>e.oC.isEmpty||
  (r7 (fun j x=>j==i||nq ms i j||!x.p.e4 e.oC||(match x.dst with | some t=>e.use.contains t | none=>false)||x.dst==e.dst||zH ms es i (j+1) x.dst) 0 es&&
   r7 (fun t p=>!p.e4 e.oC||e.use.contains t||zH ms es i 0 (some t)||e.dst==some t) 0 env0&&
   bs.all fun x=>!x.2.any (aF.e4 e.oC))) 0 es
variable{e:dH}
theorem T'{t:Nat}(h:e.g' t≠none):t∈C7 e:=by
 unfold dH.g' at h;split at h
 ·grind[C7]
 simp_all[C7,absurd]
theorem Ua(h:M3 ops ms es=true){ie I':dH}(a7:ops[i]?=some o)(hi:es[i]?=some ie)(hk:es[k]?=some I')(cX:k≠i){t:Nat}
  (bG:I'.g' t≠none) (aZ:t∈Gd ops o ie):Fz ms i k=true:=by
 have h1:=xA h i (o,ie) (by
  grind)
 have U:=xA h1 k I' hk;simp only[dV,pV,ka,hb]at U;rcases U with (U | U) | U
 ·grind
 ·exact U
 simp_all[ft,T',List.contains_iff_mem,absurd]
variable{r:gB}
theorem Tag.rn(h:r.isEmpty=true)(t:Tag):t.e4 r=false:=by
 cases t with
 | free=>rfl
 | own s=>rw[List.isEmpty_iff]at h;subst h;rfl
 | ro s=>rw[List.isEmpty_iff]at h;subst h;rfl
theorem aF.rn(h:r.isEmpty=true)(l:aF):l.e4 r=false:=by
 cases l with
 | aN t i j k es m=>exact Tag.rn h (.own t)
 | fD t vs=>
  simp only[aF.e4,gl];refine⟨Tag.rn h (.own t),ft.2 fun c _=>?_⟩;cases c with
  | cp=>simp[fj.e4]
  | v x=>simp[fj.e4]
  | J t k es=>simp[fj.e4,Tag.rn h]
 | _=>simp[aF.e4,Tag.rn h]
theorem bl.rn(h:r.isEmpty=true)(a:bl):a.e4 r=false:=by
 cases a<;>simp[bl.e4,aF.rn h]
theorem aI.rn(h:r.isEmpty=true)(p:aI):p.e4 r=false:=by
 cases p<;>simp[aI.e4,bl.rn h]
variable{bs:List (Nat×List aF)}
theorem axS{env0:List aI}(h:M4 ms es env0 bs=true)(hi:es[i]?=some e):
  (∀(j:Nat) (x:dH),es[j]?=some x->j≠i->nq ms i j=true\/x.p.e4 e.oC=false\/(∃t,x.dst=some t/\t∈e.use)\/x.dst=e.dst\/zH ms es i (j+1) x.dst=true)/\
  (∀(t:Nat) (p:aI),env0[t]?=some p->((p.e4 e.oC=false\/t∈e.use)\/zH ms es i 0 (some t)=true)\/e.dst=some t)/\∀x∈bs,x.2.any (aF.e4 e.oC)=false:=by
 have h1:=xA h i e hi;simp only[pV,ck]at h1;rcases h1 with h1 | h1
 ·grind[aI.rn,ft,aF.rn]
 simp only[cw]at h1;obtain⟨⟨h1,U⟩,aA⟩:=h1;refine⟨fun j x af cX=>?_,fun t p hp=>?_,fun x af=>?_⟩
 ·have:=xA h1 j x af;grind
 ·have:=xA U t p hp;grind
 grind
theorem Md{L:Nat->Bool}{t:Nat}:∀{es:List dH} {k:Nat} {acc:aI},(hK L t k es acc=acc/\∀(m:Nat) (y:dH),es[m]?=some y->L (k+m)=true->y.g' t=none)\/hK L t k es acc=.cp\/
  ∃j e,es[j]?=some e/\L (k+j)=true/\e.dst=some t/\hK L t k es acc=e.p/\∀(m:Nat) (y:dH),es[m]?=some y->j<m->L (k+m)=true->y.g' t=none
 | [],_,_=>.inl ⟨rfl,fun m y h=>by simp at h⟩
 | e::es,k,acc=>by
  simp only[hK];rcases Md (L:=L) (t:=t) (es:=es) (k:=k+1) (acc:=if L k then (e.g' t).getD acc else acc) with⟨h,aZ⟩ | h | ⟨j,e',h1,U,aA,aJ,a'⟩
  ·have tail:∀(m:Nat) (y:dH),(e::es)[m+1]?=some y->L (k+(m+1))=true->y.g' t=none:=fun m y bD al=>aZ m y (by grind) (by grind)
   by_cases cH:L k=true
   ·rw[bn cH]at h ⊢;unfold dH.g' at h ⊢;by_cases aE:e.dst=some t
    ·rw[bn aE]at h ⊢;refine .inr (.inr ⟨0,e,rfl,cH,aE,h,fun m y bD hm al=>?_⟩);cases m with
     | zero=>omega
     | succ m=>exact tail m y bD al
    rw[bw aE]at h ⊢;by_cases hu:t∈e.use
    ·grind
    rw[bw hu]at h ⊢;refine .inl ⟨h,fun m y bD al=>?_⟩;cases m with
    | zero=>
     grind
    | succ m=>exact tail m y bD al
   grind
  ·grind
  refine .inr (.inr ⟨j+1,e',by grind,by grind,aA,aJ,fun m y bD hm al=>?_⟩);grind
theorem Ub{t:Nat}:∀{es:List dH} {k i:Nat} {acc:aI} {e:dH},es[i]?=some e->
  hK (fun j=>decide (j<k+i+1)) t k es acc=(e.g' t).getD (hK (fun j=>decide (j<k+i)) t k es acc)
 | [],_,_,_,_,h=>by simp at h
 | bE::es,k,0,acc,e,h=>by
  simp at h;subst h;have iJ:∀(es:List dH) (k m:Nat) (acc:aI),m<=k->hK (fun j=>decide (j<m)) t k es acc=acc:=by
   intro es;induction es with
   | nil=>intro k m acc _;rfl
   | cons e1 es eg=>
    intro k m acc hm;simp only[hK];rw[bw (by grind)];exact eg (k+1) m acc (by omega)
  simp_all[hK,bn,bw]
 | bE::es,k,i+1,acc,e,h=>by
  simp only[hK];rw[bn (by simp;omega),bn (by simp)];have:=Ub (t:=t) (es:=es) (k:=k+1) (i:=i) (acc:=(bE.g' t).getD acc) (by simpa using h);rw[show k+1+i+1=k+(i+1)+1 by omega,show k+1+i=k+(i+1) by omega]at this;exact this
theorem FE{env0:List aI}{bs:List (Nat×List aF)}(aE:∀(i:Nat) (e:dH),es[i]?=some e->e.dst≠none):∀(i:Nat),i<=es.length->
  (es.take i).foldl (fun env e=>e.apply env) env0=(fr env0 bs (fun j=>decide (j<i)) es).env
 | 0,_=>by
  apply List.ext_getElem?;intro t;rw[rF];have iJ:∀(es:List dH) (k:Nat) (acc:aI),hK (fun j=>decide (j<0)) t k es acc=acc:=by
   intro es;induction es with
   | nil=>intro k acc;rfl
   | cons e1 es eg=>simp_all[hK,bw]
  grind
 | i+1,hi=>by
  have bS:i<es.length:=by omega
  have he:es[i]?=some es[i]:=iD bS;have eg:=FE (env0:=env0) (bs:=bs) aE i (by omega);rw[qH,he,yD,List.foldl_append,eg];simp only[List.foldl_cons,List.foldl_nil];apply List.ext_getElem?;intro t;rw[dH.apply_get (aE i _ he),rF,rF];cases h:env0[t]? with
  | none=>rfl
  | some p=>
   have:=Ub (t:=t) (es:=es) (k:=0) (i:=i) (acc:=p) he;grind
theorem Me{bz:aC}{st1:aC}{eC:List cd}{cC:List Prop}{b:Bool}(h:sO ops st o []=some (b,st1,eC,cC))(ao:∀t∈reads ops o,st.env.getD t .cp=bz.env.getD t .cp):
  sO ops bz o []=some (b,bz,[],[]):=by
 unfold sO at h ⊢;cases ax:o.guard with
 | none=>grind
 | some g=>
  obtain⟨j,want⟩:=g;rw[ax]at h;simp only at h ⊢;cases aE:(ops[j]?).bind (·.dst) with
  | none=>grind
  | some s=>
   grind[reads,MX,aX,bK]
variable{cu:List cd}{obs:List Prop}
theorem Uc(h:we P st o ans=some (e,cu,obs)):
  ∃(v:iE) (d:Nat) (x y:Operand) (t:TypeId),sP st o=some v/\o.dst=some d/\o.op=.call ⟨.builtin .append,⟨[x,y]⟩,⟨[t,t]⟩⟩/\uL P t v.t v.i v.j v.k v.es v.esT (st.bq y) ans=some (e.p,cu,obs)/\
   e=⟨some d,e.p,[],[]⟩/\(st.bq x).leaf=some (.aN v.t v.i v.j v.k v.es .here)/\HT v.t st.boxes=some (v.kT,v.esT):=by
 obtain⟨dst,op,type,pos,after,guard⟩:=o;unfold we at h;split at h
 ·rename_i v d ha y t du hi aE re;simp only at aE re;subst aE;subst re;split at h
  ·rename_i BR;subst BR;rw[b9]at h;obtain⟨⟨bx,b0,ci⟩,h1,h⟩:=h;simp only[bK]at h;obtain⟨rfl,rfl,rfl⟩:=h;have od:=hi;simp only[sP]at od;grind
  cases h
 cases h
theorem Ud{st bz:aC}(aw:st.boxes=bz.boxes)(h:∀x∈o.op.operands.toList,st.bq x=bz.bq x):sP st o=sP bz o:=by
 obtain⟨dst,op,type,pos,after,guard⟩:=o;simp only at h;unfold sP;simp only;split
 ·grind[Op.operands,Call.operands]
 rfl
theorem axT(aw:st.boxes=bz.boxes)(h:∀x∈o.op.operands.toList,st.bq x=bz.bq x):we P st o ans=we P bz o ans:=by
 unfold we;rw[Ud aw h];split
 ·grind[Op.operands,Call.operands]
 rfl
theorem axU{v:iE}{q:aI}(h:q.l8 v.nU):∀a∈q.idx v.t v.j,a=v.i:=by
 have one:∀{a:bl},a.l8 v.nU->∀x∈a.idx v.t v.j,x=v.i:=by
  intro a ai x af;cases a with
  | one l=>exact ai.2 x af
  | agg ls=>
   obtain⟨l,al,af⟩:=l5.1 af;exact (ai l al).2 x af
 intro x af;cases q with
 | aG a=>exact one h x af
 | gx as=>
  obtain⟨a,ai,af⟩:=l5.1 af;exact one (h a ai) x af
theorem axV{v:iE}{q:aI}(h:q.l8 v.nU):q.map (hL v.t v.i v.j v.k v.es v.kT v.esT)=q:=by
 have ls:∀{ls:List aF},(∀l∈ls,v.nU l)->ls.map (hL v.t v.i v.j v.k v.es v.kT v.esT)=ls:=by
  intro ls al
  conv=>rhs;rw[<-tf ls]
  exact lM fun l hm=>(al l hm).1
 have one:∀{a:bl},a.l8 v.nU->a.map (hL v.t v.i v.j v.k v.es v.kT v.esT)=a:=by
  intro a ai;cases a with
  | one l=>simp only[bl.map];rw[ai.1]
  | agg l=>simp only[bl.map];rw[ls ai]
 cases q with
 | aG a=>simp only[aI.map];rw[one h]
 | gx as=>
  simp only[aI.map]
  congr 1
  conv=>rhs;rw[<-tf as]
  exact lM fun a hm=>one (h a hm)
theorem Fact.dst{env:List aI}(h:Fact P ops bs env o e):e.dst≠none:=by
 rcases h with⟨_,_,_,_,d,aE,rfl⟩ | ⟨_,_,_,_,ans,bE,g,cu,obs,h1,_,U⟩ | ⟨_,_,_,_,ans,cu,obs,h1,_⟩
 rotate_left 2
 ·grind[Uc]
 ·simp[zG]
 obtain⟨_,d,aJ,_⟩:=T3 h1;grind
variable{w0:eR}{a:Act}{w:World}
theorem Rel.bool{env:List aI}{d:Nat}{c:Bool}(h:Rel w0 ⟨env.set d (.one (.bg c)),bs⟩ a w):Rel w0 ⟨env.set d (.one (.v (.bool c))),bs⟩ a w:=by
 obtain⟨ω,τ,h⟩:=h;refine⟨ω,τ,h.defers,by have:=h.size;grind,h.below,h.owned,h.fixed,h.pinned,fun i p hp=>?_,h.boxes⟩;by_cases hi:d=i
 ·subst hi;rw[pQ]at hp;split at hp
  ·split at hp
   ·rename_i al;simp only[aX]at hp;subst hp;obtain⟨v,h1,U⟩:=h.env d (.one (.bg c)) (by simp[al]);exact⟨v,h1,U⟩
   cases hp
  grind
 exact h.env i p (by grind)
section
variable {P : Program} {ops : Array Oper} {bs : List (Nat × List aF)} {env0 : List aI} {es : List dH} {ms : List Nat}
def fx(b7:Array Bool)(j:Nat):Bool:=b7.getD j false
structure qK (P:Program) (ops:Array Oper) (bs:List (Nat×List aF)) (env0:List aI) (es:List dH) (ms:List Nat):Prop where
 len:es.length<=ops.size
 facts:∀(i:Nat) (o:Oper),i<es.length->ops[i]?=some o->∃e,es[i]?=some e/\Fact P ops bs (fr env0 bs (fun j=>decide (j<i)) es).env o e
 masks:sQ ms ops.toList=true
 aN:∀(i:Nat) (o:Oper) (v:iE),i<es.length->ops[i]?=some o->sP ⟨(fr env0 bs (fun j=>decide (j<i)) es).env,bs⟩ o=some v->
  (∀q∈env0,q.l8 v.nU)/\(∀(j:Nat) (x:dH),es[j]?=some x->j≠i->x.p.l8 v.nU)/\∀x∈bs,∀l∈x.2,v.nU l
 ord:M3 ops ms es=true
 tok:M4 ms es env0 bs=true
variable{b7:Array Bool}{i:Nat}{e:dH}
theorem qK.same(h:qK P ops bs env0 es ms)(ak:rG ops b7)(ao:b7.size=ops.size)(hi:i∈Region.ready .any ops b7){o:Oper}(a7:ops[i]?=some o)(he:es[i]?=some e)
  {t:Nat} (bG:t∈Gd ops o e):(fr env0 bs (fx b7) es).env.getD t .cp=(fr env0 bs (fun j=>decide (j<i)) es).env.getD t .cp:=by
 rw[lK,lK,rF,rF];have gK:b7.getD i false=false:=by
  have bO:=(mem_ready.1 hi).1;grind
 cases aC2:env0[t]? with
 | none=>rfl
 | some p=>
  simp only[tc,lL];refine C4 fun j yR bk Fk=>?_
  rw[dV];by_cases tG:j=i
  ·grind[fx]
  have:=Ua h.ord a7 he bk tG Fk bG;unfold Fz at this;split at this
  ·rename_i bS;have:=C6 h.masks ak ao hi this;grind[fx]
  rename_i bS;cases J1:b7.getD j false with
  | false=>grind[fx]
  | true=>have:=Gc h.masks ak ao j J1 this;grind
theorem Mf(bS:i<b7.size)(j:Nat):fx (b7.setIfInBounds i true) j=(if j=i then true else fx b7 j):=by
 unfold fx;split
 ·simp_all
 simp_all[getD_set_ne,false,Ne.symm]
theorem qK.e3(h:qK P ops bs env0 es ms)(bS:i<b7.size)(he:es[i]?=some e){t:Nat}(bG:e.g' t=none)(p:aI):
  hK (fx (b7.setIfInBounds i true)) t 0 es p=hK (fx b7) t 0 es p:=by
 refine C4 fun j yR bk Fk=>?_
 rw[dV,Mf bS,bw];grind
theorem qK.last(h:qK P ops bs env0 es ms)(ak:rG ops b7)(ao:b7.size=ops.size)(hi:i∈Region.ready .any ops b7){o:Oper}(a7:ops[i]?=some o)(he:es[i]?=some e)
  {t:Nat} {q:aI} (bG:e.g' t=some q) (p:aI):hK (fx (b7.setIfInBounds i true)) t 0 es p=q:=by
 have bS:i<b7.size:=ao▸(kf.1 a7).1;have gK:b7.getD i false=false:=by
  have bO:=(mem_ready.1 hi).1;grind
 refine T5 he bG (by rw[dV,Mf bS,bn rfl]) fun j yR bk acN Fk=>?_
 rw[dV,Mf bS,bw (by omega)];have:=Ua h.ord a7 he acN (by omega) Fk (t:=t) (by
  grind[Gd,hD,T'])
 unfold Fz at this;rw[bw (by omega)]at this;cases J1:fx b7 j with
 | false=>rfl
 | true=>have:=Gc h.masks ak ao j J1 this;grind
theorem qK.step(h:qK P ops bs env0 es ms)(ak:rG ops b7)(ao:b7.size=ops.size)(hi:i∈Region.ready .any ops b7)(qd:i<es.length){w0:eR}{w:World}{a:Act}
  (aD:Rel w0 (fr env0 bs (fx b7) es) a w) {Q:Exit->Act->World->Prop} {K:Act->World->Prop} (ig:∀cO aP,Rel w0 (fr env0 bs (fx (b7.setIfInBounds i true)) es) cO aP->K cO aP):wpOp P ops Q i K a w:=by
 obtain⟨bO,o,a7,aC0⟩:=mem_ready.1 hi;obtain⟨e,he,bF⟩:=h.facts i o qd a7;have bS:i<b7.size:=ao▸(kf.1 a7).1;have adt:=fun t bG=>h.same ak ao hi a7 he (t:=t) bG
 have BL:∀t∈reads ops o,(fr env0 bs (fun j=>decide (j<i)) es).env.getD t .cp=(fr env0 bs (fx b7) es).env.getD t .cp:=fun t bG=>(adt t (iC _ bG)).symm
 unfold wpOp;rw[a7];simp only;rcases bF with⟨st1,eC,cC,hw,d,aE,rfl⟩ | ⟨st1,eC,cC,hw,ans,bE,g,cu,obs,fc,J6,JO⟩ | ⟨st1,eC,cC,hw,ans,cu,obs,Kd,J6⟩
 rotate_left 2
 ·have BU:=Me hw (bz:=fr env0 bs (fx b7) es) BL;obtain⟨su,_⟩:=xx BU trivial aD;rw[bn su];left;have Rf:∀x∈o.op.operands.toList,(fr env0 bs (fx b7) es).bq x=aC.bq ⟨(fr env0 bs (fun j=>decide (j<i)) es).env,bs⟩ x:=fun x af=>QY fun t bG=>(BL t (by
   grind[reads,hD])).symm
  have JH:we P (fr env0 bs (fx b7) es) o ans=some (e,cu,obs):=by
   rw[<-Kd];exact axT rfl Rf
  obtain⟨v,d,x,y,t,acH,aE,re,u0,sg,af,o4⟩:=Uc JH;have acI:sP ⟨(fr env0 bs (fun j=>decide (j<i)) es).env,bs⟩ o=some v:=by
   rw[<-acH];exact (Ud (st:=fr env0 bs (fx b7) es) (bz:=⟨(fr env0 bs (fun j=>decide (j<i)) es).env,bs⟩) rfl Rf).symm
  obtain⟨aC4,acp,Rg⟩:=h.aN i o v qd a7 acI;have gK:b7.getD i false=false:=by
   grind
  have u6:∀q∈(fr env0 bs (fx b7) es).env,q.l8 v.nU:=by
   intro q aH;simp only[fr]at aH;rw[lh]at aH;obtain⟨⟨hq,n⟩,hm,rfl⟩:=aH;have mi:hq∈env0:=by
    grind
   simp only;rcases Md (L:=fx b7) (t:=n) (es:=es) (k:=0) (acc:=hq) with⟨h1,_⟩ | h1 | ⟨j,yR,h1,U,_,aJ,_⟩
   ·grind
   ·rw[h1];exact⟨rfl,fun a ai=>by grind[aF.idx]⟩
   rw[aJ];refine acp j yR h1 ?_;rintro rfl;rw[dV]at U;grind[fx]
  have E':(fr env0 bs (fx b7) es).map (hL v.t v.i v.j v.k v.es v.kT v.esT)=fr env0 bs (fx b7) es:=by
   have e1:(fr env0 bs (fx b7) es).env.map (aI.map (hL v.t v.i v.j v.k v.es v.kT v.esT))=(fr env0 bs (fx b7) es).env:=by
    conv=>rhs;rw[<-tf (fr env0 bs (fx b7) es).env]
    grind[lM,axV]
   have e2:bs.map (fun x=>(x.1,x.2.map (hL v.t v.i v.j v.k v.es v.kT v.esT)))=bs:=by
    conv=>rhs;rw[<-tf bs]
    refine lM fun x af=>?_
    obtain⟨gP,gz⟩:=x;simp only[id]
    congr 1
    conv=>rhs;rw[<-tf gz]
    exact lM fun l al=>(Rg _ af l al).1
   unfold aC.map;rw[e1];show aC.mk _ (bs.map _)=_;rw[e2];rfl
  have qc:∀a∈(fr env0 bs (fx b7) es).idx v.t v.j,a=v.i:=by
   intro cO ai;unfold aC.idx at ai;rcases ia.1 ai with ai | ai
   ·grind[axU]
   obtain⟨z,bd,ai⟩:=l5.1 ai;obtain⟨l,al,ai⟩:=l5.1 ai;exact (Rg z bd l al).2 cO ai
  obtain⟨ω,τ,h3⟩:=aD;obtain⟨z,aP,h1,U⟩:=h3.uL (P:=P) (d:=d) (ty:=o.type) (kT:=v.kT) (x:=x) (y:=y) (aI.dS af (h3.bq x)) u0 J6 (awA h3 o4) qc;rw[E']at U;obtain⟨dst,op,type,pos,after,guard⟩:=o;simp only at aE re;subst aE;subst re;refine Calls.of (z:=z) (aP:=aP) ?_ (ig _ _ ?_)
  ·have:(execOp a.eval ⟨some d,.call ⟨.builtin .append,⟨[x,y]⟩,⟨[t,t]⟩⟩,type,pos,after,guard⟩)=(builtin .append ⟨[t,t]⟩ type (Array.map (fun | .const _=>true | _=>false) ⟨[x,y]⟩) (Array.map a.eval ⟨[x,y]⟩)):=by
    simp only[execOp,resolve];rfl
   rw[this];exact jH (by grind)
  refine U.weaken (by simp[zF]) rfl ?_;intro n p hp;right;rw[rF,b9]at hp;obtain⟨hq,mi,rfl⟩:=hp;rw[pQ];have JN:e.dst=some d:=by rw[sg]
  have w4:e.use=[]:=by rw[sg]
  by_cases u4:d=n
  ·subst u4;have:d<env0.length:=(gk.1 mi).1;rw[bn rfl,bn (by grind[zF]),h.last ak ao hi a7 he (q:=e.p) (by grind[dH.g'])]
  rw[bw u4,rF,mi,tc,h.e3 bS he (by grind[dH.g'])]
 ·have BU:=Me hw (bz:=fr env0 bs (fx b7) es) BL;obtain⟨su,_⟩:=xx BU trivial aD;rw[bw (by grind)];refine ig _ _ ((MS aD).weaken ?_ ?_ ?_)
  ·simp[zF,C3,aE]
  ·simp[fr,C3,aE]
  intro t p hp;rw[rF,b9]at hp;obtain⟨hq,mi,rfl⟩:=hp;right;simp only[C3,aE];rw[pQ];by_cases u4:d=t
  ·subst u4;have:d<env0.length:=(gk.1 mi).1;rw[bn rfl,bn (by grind[zF]),h.last ak ao hi a7 he (q:=.one (.v undef)) (by simp[dH.g',zG])]
  rw[bw u4,rF,mi,tc,h.e3 bS he (by grind[dH.g',zG])]
 have BU:=Me hw (bz:=fr env0 bs (fx b7) es) BL;obtain⟨su,_⟩:=xx BU trivial aD;rw[bn su];left;have JH:tr P (fr env0 bs (fx b7) es) o ans=some (bE,g,cu,obs):=by
  rw[<-fc];refine awB rfl fun x af=>QY fun t bG=>(BL t ?_).symm
  grind[reads,hD]
 obtain⟨ax,d,JM,re⟩:=T3 JH;obtain⟨u,JO⟩:=JO;have zh:e.oC=bE.oC/\e.dst=bE.dst:=by
  grind
 obtain⟨zh,acm⟩:=zh;rw[<-zh]at ax;obtain⟨adC,adD,aDB⟩:=axS h.tok he;have ab5:((fr env0 bs (fx b7) es).map (aF.cM g fun _=>true)).boxes=bs:=by
  simp only[aC.map,fr]
  conv=>rhs;rw[<-tf bs]
  grind[lM,id,TX]
 refine aws re J6 aD fun cO aP e8=>ig _ _ ?_
 rw[ab5]at e8;have oi:Rel w0 ⟨((fr env0 bs (fx b7) es).map (aF.cM g fun _=>true)).env.set d e.p,bs⟩ cO aP:=by
  rcases JO with rfl | ⟨c,b,hp,jS,rfl⟩
  ·exact e8
  rw[hp]at e8;subst jS;exact e8.bool
 refine oi.weaken (by simp[zF,aC.map]) rfl ?_;intro t p hp;rw[rF,b9]at hp;obtain⟨hq,mi,rfl⟩:=hp;rw[pQ];have JN:e.dst=some d:=acm.trans JM;by_cases u4:d=t
 ·subst u4;right;have:d<env0.length:=(gk.1 mi).1;rw[bn rfl,bn (by grind[aC.map,zF]),h.last ak ao hi a7 he (q:=e.p) (by grind[dH.g'])]
 rw[bw u4];by_cases aDD:t∈e.use
 ·left;exact h.last ak ao hi a7 he (by grind[dH.g']) hq
 have JY:=h.e3 bS he (t:=t) (by grind[dH.g']) hq;rw[JY];have aDn:hK (fx b7) t 0 es hq=.cp\/(hK (fx b7) t 0 es hq).e4 e.oC=false:=by
  rcases Md (L:=fx b7) (t:=t) (es:=es) (k:=0) (acc:=hq) with⟨h1,iJ⟩ | h1 | ⟨j,yR,h1,U,aA,aJ,iJ⟩
  ·right;rw[h1];rcases adD t hq mi with (a' | a') | a'
   rotate_left 2
   ·grind
   ·grind
   obtain⟨m,y,du,hm,_,ai,hu,bG⟩:=T9 a';cases bG;have:=iJ m y hm (by rw[dV];exact C6 h.masks ak ao hi ai);unfold dH.g' at this;grind
  ·exact .inl h1
  right;rw[aJ];rw[dV]at U;have gK:b7.getD i false=false:=by
   grind
  have tG:j≠i:=by grind
  rcases adC j yR h1 tG with a' | a' | a' | a' | a'
  rotate_left 3
  ·grind
  ·obtain⟨m,y,du,hm,Rs,ai,hu,bG⟩:=T9 a';rw[aA]at bG;cases bG;have:=iJ m y hm (by omega) (by rw[dV];exact C6 h.masks ak ao hi ai);unfold dH.g' at this;grind
  ·have:=Gc h.masks ak ao j U a';grind
  ·exact a'
  grind
 grind[aC.map,rF,aI.ym]
def Mg(ops:Array Oper)(ms:List Nat)(k:Nat):Prop:=∀i,k<=i->i<ops.size->∀j,j<i->nq ms j i=true
theorem qK.any(h:qK P ops bs env0 es ms)(aw:Mg ops ms es.length){w0:eR}{Q:Exit->Act->World->Prop}
  (jQ:∀(hZ:Nat) {b7:Array Bool},rG ops b7->b7.size=ops.size->(∀j,j<es.length->b7.getD j false=true)->(∀j,es.length<=j->b7.getD j false=false)->b7.count false<=hZ->
   ∀{a:Act} {w:World},Rel w0 (fr env0 bs (fun j=>decide (j<es.length)) es) a w->wpAny P .any ops Q hZ b7 a w):
  ∀(hZ:Nat) {b7:Array Bool},rG ops b7->b7.size=ops.size->(∀j,es.length<=j->b7.getD j false=false)->b7.count false<=hZ->
  ∀{a:Act} {w:World},Rel w0 (fr env0 bs (fx b7) es) a w->wpAny P .any ops Q hZ b7 a w:=by
 intro hZ;induction hZ with
 | zero=>
  intro b7 ak ao gK tF a w aD;by_cases iY:∀j,j<es.length->b7.getD j false=true
  ·refine jQ 0 ak ao iY gK tF ?_;have:fr env0 bs (fx b7) es=fr env0 bs (fun j=>decide (j<es.length)) es:=by
    unfold fr
    congr 1
    refine lM fun x _=>?_
    refine C4 fun j e bk _=>?_
    have bS:j<es.length:=(gk.1 bk).1;simp_all[dV,fx,decide_true]
   grind
  exfalso;apply iY;intro j bk;have bS:j<b7.size:=ao▸AT bk h.len;cases bF:b7[j] with
  | true=>simp[nm bS,bF]
  | false=>
   have:0<b7.count false:=by
    grind[Array.count_pos_iff,Array.getElem_mem]
   omega
 | succ hZ eg=>
  intro b7 ak ao gK tF a w aD;by_cases iY:∀j,j<es.length->b7.getD j false=true
  ·refine jQ _ ak ao iY gK tF ?_;have:fr env0 bs (fx b7) es=fr env0 bs (fun j=>decide (j<es.length)) es:=by
    unfold fr
    congr 1
    refine lM fun x _=>?_
    refine C4 fun j e bk _=>?_
    have bS:j<es.length:=(gk.1 bk).1;simp_all[dV,fx,decide_true]
   grind
  refine⟨fun zf=>absurd (fun j bk=>M1 h.masks ao zf j (AT bk h.len)) iY,fun i hi=>?_⟩;have qd:i<es.length:=by
   rcases qI i es.length with h1 | h1
   ·exact h1
   exfalso;obtain⟨_,o,a7,_⟩:=mem_ready.1 hi;have bS:i<ops.size:=(kf.1 a7).1;exact iY fun j bk=>C6 h.masks ak ao hi (aw i h1 bS j (AT bk h1))
  refine h.step ak ao hi qd aD fun cO aP e8=>eg (ak.ready hi) (by grind) (fun j bk=>?_) ?_ e8
  ·rw[getD_set_ne false (by omega)];grind
  obtain⟨h1,o,a7,_⟩:=mem_ready.1 hi;have bS:i<b7.size:=ao▸(kf.1 a7).1;have bF:b7[i]=false:=by simpa[nm bS]using h1
  grind
end
def Ac(P:Program)(ops:Array Oper):List Oper->aC->List cd->Stepped
 | [],st,ans=>some (st,ans,[])
 | o::rest,st,ans=>
  match rv P ops o st ans with
  | some (st1,fB,gq)=>(Ac P ops rest st1 fB).map fun r=>(r.1,r.2.1,gq++r.2.2)
  | none=>none
theorem Ue{Q:Exit->Act->World->Prop}(hi:ops[i]?=some o)(h:rv P ops o st ans=some (bz,cu,obs))(a7:cQ obs)
  {a:Act} {w:World} (a6:Rel w0 st a w) {K:Act->World->Prop} (ig:∀cO aP,Rel w0 bz cO aP->K cO aP):wpOp P ops Q i K a w:=by
 unfold wpOp;rw[hi];simp only;unfold rv at h;split at h
 ·rename_i st1 fB gq hw;rw[b9]at h;obtain⟨⟨bx,b0,ci⟩,h1,h⟩:=h;simp only[bK]at h;obtain⟨rfl,rfl,rfl⟩:=h;obtain⟨cC,cg⟩:=a7.append;obtain⟨su,h3⟩:=xx hw cC a6;rw[bn su];grind[MR]
 ·rename_i st1 fB gq hw;simp only[aX,bK]at h;obtain⟨rfl,rfl,rfl⟩:=h;obtain⟨su,h3⟩:=xx hw a7 a6;simp_all[bw,MS]
 cases h
theorem axW(hm:sQ ms ops.toList=true)(aw:Mg ops ms k){Q:Exit->Act->World->Prop}:∀(hZ n:Nat) {b7:Array Bool},k<=n->n<=ops.size->
  rG ops b7->b7.size=ops.size->(∀j,j<n->b7.getD j false=true)->(∀j,n<=j->b7.getD j false=false)->b7.count false<=hZ->
  ∀{st bz:aC} {ans cu:List cd} {obs:List Prop},Ac P ops (ops.toList.drop n) st ans=some (bz,cu,obs)->cQ obs->
  ∀{a:Act} {w:World},Rel w0 st a w->(∀cO aP,Rel w0 bz cO aP->Q .normal cO aP)->wpAny P .any ops Q hZ b7 a w:=by
 have fin:∀{b7:Array Bool} {n:Nat},n=ops.size->b7.size=ops.size->(∀j,j<n->b7.getD j false=true)->Region.ready .any ops b7=[]:=by
  intro b7 n aZ ao h1;rw[List.eq_nil_iff_forall_not_mem];intro j bk;obtain⟨U,o,a7,_⟩:=mem_ready.1 bk;grind
 intro hZ;induction hZ with
 | zero=>
  intro n b7 Rq aZ ak ao h1 U tF st bz ans cu obs h a7 a w aD jQ;have ze:n=ops.size:=by
   rcases qI n ops.size with bS | qa
   ·have kj:n<b7.size:=ao▸bS;have bF:b7[n]=false:=by simpa[nm kj]using U n (fg _)
    have:0<b7.count false:=by
     grind[Array.count_pos_iff,Array.getElem_mem]
    omega
   omega
  rw[List.drop_eq_nil_of_le (by simp[ze])]at h;simp only[Ac,aX,bK]at h;obtain⟨rfl,_,_⟩:=h;exact⟨fin ze ao h1,jQ _ _ aD⟩
 | succ hZ eg=>
  intro n b7 Rq aZ ak ao h1 U tF st bz ans cu obs h a7 a w aD jQ;rcases qI n ops.size with bS | qa
  ·have kj:n<b7.size:=ao▸bS;have aE:ops.toList.drop n=ops[n]::ops.toList.drop (n+1):=by
    grind[List.drop_eq_getElem_cons]
   rw[aE]at h;simp only[Ac]at h;split at h
   ·rename_i st1 fB gq aA;rw[b9]at h;obtain⟨⟨bx,b0,ci⟩,aJ,h⟩:=h;simp only[bK]at h;obtain⟨rfl,rfl,rfl⟩:=h;obtain⟨cC,cg⟩:=a7.append;refine⟨fun zf=>?_,fun i hi=>?_⟩
    ·exfalso;have:=M1 hm ao zf n bS;grind
    have iI:i=n:=by
     obtain⟨a',o,mR,_⟩:=mem_ready.1 hi;have za:i<ops.size:=(kf.1 mR).1;have od:i<b7.size:=ao▸za;rcases Nat.lt_trichotomy i n with bu | bu | bu
     ·grind
     ·exact bu
     have:=C6 hm ak ao hi (aw i (by omega) za n bu);grind
    subst iI;refine Ue (nm bS) aA cC aD fun cO aP e8=>eg (i+1) (by omega) (by omega) (ak.ready hi) (by grind) (fun j bk=>?_) (fun j bk=>?_) ?_ aJ cg e8 jQ
    ·by_cases tG:j=i
     ·simp_all
     rw[getD_set_ne false (Ne.symm tG)];grind
    ·rw[getD_set_ne false (by omega)];grind
    have bF:b7[i]=false:=by simpa[nm kj]using U i (fg _)
    grind
   cases h
  have ze:n=ops.size:=by omega
  rw[List.drop_eq_nil_of_le (by simp[ze])]at h;simp only[Ac,aX,bK]at h;obtain⟨rfl,_,_⟩:=h;have zf:=fin ze ao h1;refine⟨fun _=>jQ _ _ aD,fun i hi=>?_⟩;grind
def uB(ms:List Nat):Nat->Nat
 | 0=>0
 | i+1=>if ms.getD i 0==2 ^ i-1 then uB ms i else i+1
theorem Tq(ms:List Nat):∀n,uB ms n<=n
 | 0=>fg _
 | n+1=>by
  unfold uB;split
  ·exact mF (Tq ms n) (Nat.le_succ n)
  grind
theorem Tr(ms:List Nat):∀n i,uB ms n<=i->i<n->∀j,j<i->nq ms j i=true
 | 0,_,_,h,_,_=>absurd h (Nat.not_lt_zero _)
 | n+1,i,h1,U,j,bk=>by
  unfold uB at h1;split at h1
  ·rename_i he;by_cases iI:i=n
   ·subst iI;unfold nq;grind
   exact Tr ms n i h1 (by omega) j bk
  omega
theorem Sat.drew{ω:Own}{τ:Nat->Nat×Value}{l:aF}{y:Value}(h:Sat w ω τ l y):Sat w.drew ω τ l y:=by
 have bF:∀{R:List (Nat×Nat)->dr->Prop} {d:D} {y:Value},b4 w ω R d y->b4 w.drew ω R d y:=fun h=>h.frame fun _ _ _ aH=>⟨aH,rfl⟩
 cases l with
 | J t k es=>exact⟨bF h.1,h.2⟩
 | ep t k es i j=>
  obtain⟨b,off,cap,h1,U,aA,aJ⟩:=h;exact⟨b,off,cap,h1,U,bF aA,aJ⟩
 | hQ ds off=>
  obtain⟨b,h1,U⟩:=h;exact⟨b,h1,bF U⟩
 | fd d=>exact bF h
 | dA t k es=>exact⟨bF h.1,h.2⟩
 | aN t i j k es m=>
  obtain⟨u,hu,h1,hm⟩:=h;exact⟨u,hu,bF h1,hm⟩
 | fD t vs=>
  obtain⟨b,ty,arr,h1,U,aA,aZ,bI⟩:=h;refine⟨b,ty,arr,h1,U,aA,aZ,fun j c ak=>?_⟩;obtain⟨u,gU,fO⟩:=bI j c ak;refine⟨u,gU,?_⟩;cases c with
  | cp=>exact trivial
  | v x=>exact fO
  | J t k es=>exact⟨bF fO.1,fO.2⟩
 | _=>exact h
theorem Rel.drew(h:Rel w0 st a w):Rel w0 st a w.drew:=by
 obtain⟨ω,τ,h⟩:=h;have hi:∀p:aI,p.map _root_.id=p:=by
  intro p;cases p with
  | aG a=>cases a<;>simp[aI.map,bl.map]
  | gx as=>
   simp only[aI.map]
   congr 1
   have:bl.map _root_.id=_root_.id:=by funext a;cases a<;>simp[bl.map]
   simp_all
 refine⟨ω,τ,h.defers,h.size,h.below.next (hf.refl _ _).drew,h.owned,h.fixed,h.pinned,fun i p hp=>?_,fun id ls al=>?_⟩
 ·obtain⟨v,h1,U⟩:=h.env i p hp;have:=cV.map (ll:=Sat w.drew ω τ) (f:=_root_.id) (fun l v ao=>Sat.drew ao) U;grind
 obtain⟨b,arr,ty,h1,U,aA,aJ⟩:=h.boxes id ls al;have:=k0.map (ll:=Sat w.drew ω τ) (f:=_root_.id) (fun l v ao=>Sat.drew ao) aJ;rw[tf]at this;exact⟨b,arr,ty,h1,U,aA,this⟩
def FF:Nat->List aI->List Nat
 | _,[]=>[]
 | i,p::r=>match p.leaf with | some (.fD t _)=>if t=i then i::FF (i+1) r else FF (i+1) r | _=>FF (i+1) r
def Ad(env:List aI):List Oper->List Nat
 | []=>[]
 | o::r=>
  match o.dst,o.op with
  | none,.store _ (.tmp s) _=>
   match (env.getD s .cp).leaf with
   | some (.ptr d 0)=>if d=s/\s<dj/\!(Ad env r).contains s then s::Ad env r else Ad env r
   | _=>Ad env r
  | _,_=>Ad env r
def axX(env0:List aI)(bs:List (Nat×List aF))(es:List dH)(i:Nat):List aF:=
 env0.flatMap aI.vi++(bs.flatMap (·.2)++(es.zipIdx.filter fun x=>x.2 != i).flatMap fun x=>x.1.p.vi)
def Mh(P:Program)(ops:Array Oper)(st:aC)(ans:List cd):Stepped:=
 let gs:=ops.toList.filterMap (MX ops)
 let ms:=sB ops.toList []
 let k:=uB ms ops.size
 match Cj (Ad st.env (ops.toList.take k)) st with
 | some ga=>
  match vu P ops gs ga.boxes (ops.toList.take k) ga.env ans with
  | some (es,uR,fB,gq)=>
   if P.follows .mixedOrders&&sQ ms ops.toList&&M3 ops ms es&&M4 ms es ga.env ga.boxes then
    match Ck (FF 0 uR) ⟨uR,ga.boxes⟩,AG ga.boxes (axX ga.env ga.boxes es) 0 (ops.toList.take k) ga.env es with
    | some st2,some zv=>(Ac P ops (ops.toList.drop k) st2 fB).map fun r=>(r.1,r.2.1,gq++(zv++r.2.2))
    | _,_=>none
   else none
  | none=>none
 | none=>none
theorem axY(h:Mh P ops st ans=some (bz,cu,obs))(a7:cQ obs)(aD:Rel w0 st a w){id:Nat}
  {Q:Exit->Act->World->Prop} (jQ:∀cO aP,Rel w0 bz cO aP->Q .normal cO aP):(Code.region id ops true).wp P Q a w:=by
 unfold Mh at h;simp only at h;split at h
 case h_2=>cases h
 rename_i ga RL;replace aD:=Sn aD RL;clear RL;revert aD h;generalize ga=st;intro h aD;split at h
 ·rename_i es uR fB gq fN;split at h
  ·rename_i ak;split at h
   rotate_left
   ·cases h
   rename_i st2 zv J2 adv;rw[b9]at h;obtain⟨⟨bx,b0,ci⟩,adx,h⟩:=h;simp only[bK]at h;obtain⟨rfl,rfl,rfl⟩:=h;obtain⟨J3,J4⟩:=a7.append;obtain⟨ada,J4⟩:=J4.append;simp only[cw]at ak;obtain⟨⟨⟨hm,Rt⟩,ade⟩,kG⟩:=ak;have aDf:=Tq (sB ops.toList []) ops.size;obtain⟨hlen,u5,acq⟩:=C5 fN J3;have E9:es.length=uB (sB ops.toList []) ops.size:=by
    grind
   have aDz:∀(i:Nat),i<es.length->(ops.toList.take (uB (sB ops.toList []) ops.size))[i]?=ops[i]?:=by
    grind
   have aE:∀(i:Nat) (e:dH),es[i]?=some e->e.dst≠none:=by
    intro i e hi;have bS:i<(ops.toList.take (uB (sB ops.toList []) ops.size)).length:=hlen▸(gk.1 hi).1;obtain⟨e',h1,U⟩:=acq i _ (iD bS);rw[hi]at h1;cases h1;exact U.dst
   have EV:qK P ops st.boxes st.env es (sB ops.toList []):=by
    refine⟨by omega,fun i o qd hi=>?_,Rt,fun i o v qd hi bI=>?_,ade,kG⟩
    rotate_left
    ·have Fj:=T6 adv ada i o (by grind) qd v (by
      grind[FE])
     rw[dV]at Fj;refine⟨fun q aH=>aI.B7 fun l al=>Fj l ?_,fun j x bk cX=>aI.B7 fun l al=>Fj l ?_,fun x af l al=>Fj l ?_⟩
     ·exact hD _ (l5.2 ⟨q,aH,al⟩)
     ·refine iC _ (iC _ (l5.2 ⟨(x,j),List.mem_filter.2 ⟨?_,by grind⟩,al⟩));grind
     exact iC _ (hD _ (l5.2 ⟨x,af,al⟩))
    grind[FE]
   have sc:Mg ops (sB ops.toList []) es.length:=fun i h1 U j bk=>Tr _ _ i (by omega) U j bk
   refine wp_region_any hm (EV.any sc (w0:=w0) ?_ ops.size ?_ (by simp) ?_ ?_ ?_)
   ·intro hZ b7 q5 ao iZ c3 tF cO aP e8;refine axW Rt sc hZ es.length (fg _) (by omega) q5 ao iZ c3 tF (st:=st2) (by rw[E9];exact adx) J4 (Sp ?_ J2) jQ;have:=FE (env0:=st.env) (bs:=st.boxes) aE es.length (fg _);rw[kS,<-u5]at this;rw[this];exact e8
   ·intro j o bk;have:=Gb bk;simp_all
   ·intro j _;by_cases bk:j<ops.size
    ·simp[bk]
    simp[bk]
   ·simp_all
   have:fr st.env st.boxes (fx (Array.replicate ops.size false)) es=st:=by
    have iJ:∀(es:List dH) (t k:Nat) (acc:aI),hK (fx (Array.replicate ops.size false)) t k es acc=acc:=by
     intro es;induction es with
     | nil=>intro t k acc;rfl
     | cons e1 es eg=>
      intro t k acc;simp only[hK];rw[bw,eg];unfold fx;intro ak;have:=Gb ak;simp_all
    obtain⟨env,bs⟩:=st;unfold fr;simp_all
   rw[this];exact aD.drew
  cases h
 cases h
end Go.Sx
namespace Go.Sx
open Go.RowKit
def eK(P:Program)(ops:Array Oper)(st bz:aC):Prop:=
 ∀(w0:eR) (a:Act) (w:World) (id:Nat) (Q:Exit->Act->World->Prop),Rel w0 st a w->(∀cO aP,Rel w0 bz cO aP->Q .normal cO aP)->(Code.region id ops true).wp P Q a w
def FG(o:Oper)(m:Nat):Bool:=o.after.toList.all fun e=>!Region.binds .any e||m.testBit e.on
def rp(m:Nat):Nat->List Oper->List (Nat×Oper)
 | _,[]=>[]
 | i,o::r=>if !m.testBit i&&FG o m then (i,o)::rp m (i+1) r else rp m (i+1) r
def runM(P:Program)(ops:Array Oper)(A:List (List cd))(m:Nat):Nat->List Oper->aC->aC
 | _,[],st=>st
 | i,o::r,st=>if m.testBit i then (match rv P ops o st (A.getD i []) with | some x=>runM P ops A m (i+1) r x.1 | none=>st) else runM P ops A m (i+1) r st
def A2(x:Nat)(l:List Nat):List Nat:=if l.any (Nat.beq x) then l else x::l
def B8:Nat->List (Nat×Oper)->List Nat->List Nat
 | _,[],l=>l
 | m,x::r,l=>A2 (m ||| 2 ^ x.1) (B8 m r l)
def Ca(ops:List Oper):List Nat->List Nat
 | []=>[]
 | m::r=>B8 m (rp m 0 ops) (Ca ops r)
abbrev yF:=Option (aC×List cd×List Prop)
def EN(P:Program)(ops:Array Oper)(A:List (List cd))(st:aC):List (Nat×Oper)->List yF
 | []=>[]
 | x::r=>rv P ops x.2 st (A.getD x.1 [])::EN P ops A st r
def EP(P:Program)(ops:Array Oper)(A:List (List cd))(O:List (List Prop))(ga:aC)(m:Nat):List (Nat×Oper)->List yF
 | []=>[]
 | x::r=>some (runM P ops A (m ||| 2 ^ x.1) 0 ops.toList ga,[],O.getD x.1 [])::EP P ops A O ga m r
def EO(P:Program)(ops:Array Oper)(A:List (List cd))(ga:aC):List Nat->List (List yF)
 | []=>[]
 | m::r=>EN P ops A (runM P ops A m 0 ops.toList ga) (rp m 0 ops.toList)::EO P ops A ga r
def EQ(P:Program)(ops:Array Oper)(A:List (List cd))(O:List (List Prop))(ga:aC):List Nat->List (List yF)
 | []=>[]
 | m::r=>EP P ops A O ga m (rp m 0 ops.toList)::EQ P ops A O ga r
def A6(P:Program)(ops:Array Oper)(A:List (List cd))(ga:aC):Nat->List Nat->List (List (List yF))
 | 0,_=>[]
 | n+1,l=>EO P ops A ga l::A6 P ops A ga n (Ca ops.toList l)
def A7(P:Program)(ops:Array Oper)(A:List (List cd))(O:List (List Prop))(ga:aC):Nat->List Nat->List (List (List yF))
 | 0,_=>[]
 | n+1,l=>EQ P ops A O ga l::A7 P ops A O ga n (Ca ops.toList l)
variable{P:Program}{ops:Array Oper}{A:List (List cd)}{O:List (List Prop)}{ga st:aC}{m:Nat}
theorem Ts:∀{l:List (Nat×Oper)},EN P ops A st l=EP P ops A O ga m l->
  ∀x∈l,rv P ops x.2 st (A.getD x.1 [])=some (runM P ops A (m ||| 2 ^ x.1) 0 ops.toList ga,[],O.getD x.1 [])
 | [],_,x,af=>by cases af
 | y::r,h,x,af=>by
  simp only[EN,EP,te]at h;rcases eH.1 af with rfl | af
  ·exact h.1
  exact Ts h.2 x af
theorem Tt:∀{l:List Nat},EO P ops A ga l=EQ P ops A O ga l->
  ∀m∈l,∀x∈rp m 0 ops.toList,rv P ops x.2 (runM P ops A m 0 ops.toList ga) (A.getD x.1 [])=some (runM P ops A (m ||| 2 ^ x.1) 0 ops.toList ga,[],O.getD x.1 [])
 | [],_,m,hm=>by cases hm
 | m0::r,h,m,hm=>by
  simp only[EO,EQ,te]at h;rcases eH.1 hm with rfl | hm
  ·exact Ts h.1
  exact Tt h.2 m hm
theorem axZ{x:Nat}{l:List Nat}:x∈A2 x l:=by
 unfold A2;split
 ·rename_i h;obtain⟨y,bD,he⟩:=oK.1 h;rwa[Nat.eq_of_beq_eq_true he]
 exact hU
theorem Tu{x y:Nat}{l:List Nat}(h:y∈l):y∈A2 x l:=by
 unfold A2;split
 ·exact h
 exact gI _ h
theorem Tv{x:Nat×Oper}:∀{r:List (Nat×Oper)} {l:List Nat},x∈r->(m ||| 2 ^ x.1)∈B8 m r l
 | [],_,h=>by cases h
 | y::r,l,h=>by
  simp only[B8];rcases eH.1 h with rfl | h
  ·exact axZ
  exact Tu (Tv h)
theorem Tw{k:Nat}:∀{r:List (Nat×Oper)} {l:List Nat},k∈l->k∈B8 m r l
 | [],_,h=>h
 | _::_,_,h=>Tu (Tw h)
theorem Tx{ops:List Oper}{x:Nat×Oper}:∀{l:List Nat},m∈l->x∈rp m 0 ops->(m ||| 2 ^ x.1)∈Ca ops l
 | [],h,_=>by cases h
 | k::r,h,af=>by
  simp only[Ca];rcases eH.1 h with rfl | h
  ·exact Tv af
  exact Tw (Tx h af)
theorem Ty{m:Nat}:∀{l:List Oper} {i j:Nat} {o:Oper},l[j]?=some o->m.testBit (i+j)=false->FG o m=true->(i+j,o)∈rp m i l
 | [],_,_,_,h,_,_=>by simp at h
 | y::r,i,0,o,h,h1,U=>by
  simp only[mE,aX]at h;subst h;simp only[rp];rw[bn (by rw[oI]at h1;simp[h1,U])];exact hU
 | y::r,i,j+1,o,h,h1,U=>by
  have:=Ty (m:=m) (l:=r) (i:=i+1) (j:=j) (o:=o) (by simpa using h) (by rwa[show i+1+j=i+(j+1) by omega]) U;rw[show i+1+j=i+(j+1) by omega]at this;simp only[rp];split
  ·exact gI _ this
  exact this
theorem Mi{m k:Nat}:∀{l:List Oper} {i:Nat} {st:aC},(∀j,i<=j->j<i+l.length->m.testBit j=k.testBit j)->runM P ops A m i l st=runM P ops A k i l st
 | [],_,_,_=>rfl
 | o::r,i,st,h=>by
  simp only[runM];rw[h i (fg _) (by simp)];split
  ·split
   ·exact Mi fun j h1 U=>h j (by omega) (by simp only[gQ];omega)
   rfl
  exact Mi fun j h1 U=>h j (by omega) (by simp only[gQ];omega)
theorem Tz:∀{O:List (List Prop)} (i:Nat),cQ O.flatten->cQ (O.getD i [])
 | [],i,_=>by simp[cQ]
 | o::r,0,h=>by
  rw[List.flatten_cons]at h;exact (cQ.append h).1
 | o::r,i+1,h=>by
  rw[List.flatten_cons]at h;exact Tz i (cQ.append h).2
theorem ax0{ms:List Nat}{w0:eR}{Q:Exit->Act->World->Prop}(hm:sQ ms ops.toList=true)(a7:cQ O.flatten)
  (jQ:∀cO aP,Rel w0 (runM P ops A (2 ^ ops.size-1) 0 ops.toList ga) cO aP->Q .normal cO aP):∀(hZ:Nat) {l:List Nat},A6 P ops A ga hZ l=A7 P ops A O ga hZ l->
  ∀{m:Nat} {b7:Array Bool},m∈l->b7.size=ops.size->(∀j,j<ops.size->b7.getD j false=m.testBit j)->b7.count false<=hZ->
  ∀{a:Act} {w:World},Rel w0 (runM P ops A m 0 ops.toList ga) a w->wpAny P .any ops Q hZ b7 a w:=by
 have fin:∀{m:Nat} {b7:Array Bool},(∀j,j<ops.size->b7.getD j false=m.testBit j)->(∀j,j<ops.size->b7.getD j false=true)->
   ∀{a:Act} {w:World},Rel w0 (runM P ops A m 0 ops.toList ga) a w->Q .normal a w:=by
  intro m b7 h1 U a w aD;refine jQ a w ?_;rw[Mi (m:=2 ^ ops.size-1) (k:=m)]
  ·exact aD
  intro j _ bk;have BC:j<ops.size:=by simpa using bk
  rw[<-h1 j BC,U j BC,Nat.testBit_two_pow_sub_one,lg BC]
 intro hZ;induction hZ with
 | zero=>
  intro l _ m b7 _ ao h1 tF a w aD;have iY:∀j,j<ops.size->b7.getD j false=true:=by
   intro j bk;cases al:b7.getD j false with
   | true=>rfl
   | false=>
    exfalso;have kj:j<b7.size:=ao▸bk;have bF:b7[j]=false:=by simpa[nm kj]using al
    have:0<b7.count false:=by
     rw[Array.count_pos_iff];exact bF▸Array.getElem_mem kj
    omega
  refine⟨?_,fin h1 iY aD⟩;rw[List.eq_nil_iff_forall_not_mem];intro j bk;obtain⟨U,o,mR,_⟩:=mem_ready.1 bk;have bS:j<ops.size:=(kf.1 mR).1;have aA:=iY j bS;have kj:j<b7.size:=ao▸bS;simp[nm kj]at U aA;rw[U]at aA;cases aA
 | succ hZ eg=>
  intro l he m b7 sm ao h1 tF a w aD;simp only[A6,A7,te]at he;refine⟨fun zf=>fin h1 (M1 hm ao zf) aD,fun i hi=>?_⟩;obtain⟨a',o,mR,JN⟩:=mem_ready.1 hi;have bS:i<ops.size:=(kf.1 mR).1;have kj:i<b7.size:=ao▸bS;have Ri:b7.getD i false=false:=by
   simp[nm kj]at a' ⊢;exact a'
  have acZ:FG o m=true:=by
   unfold FG;rw[gA];intro e y7;cases aw:Region.binds .any e with
   | false=>rfl
   | true=>
    have bu:=JN e (by simpa using y7) aw;have b1:e.on<b7.size:=Gb bu;rw[h1 e.on (ao▸b1)]at bu;simp[bu]
  have Ry:(i,o)∈rp m 0 ops.toList:=by
   have:=Ty (m:=m) (l:=ops.toList) (i:=0) (j:=i) (o:=o) (by simpa using mR) (by rw[dV,<-h1 i bS,Ri]) acZ;rwa[dV]at this
  have rc:=Tt he.1 m sm _ Ry;refine Ue mR rc (Tz i a7) aD fun cO aP e8=>eg he.2 (Tx sm Ry) (by simpa using ao) (fun j bk=>?_) ?_ e8
  ·rw[Nat.testBit_or,Nat.testBit_two_pow];by_cases tG:j=i
   ·subst tG;have bd:j<(b7.setIfInBounds j true).size:=by simpa using kj
    simp[nm bd]
   rw[getD_set_ne false (Ne.symm tG),h1 j bk,oL (Ne.symm tG),Bool.or_false]
  have bF:b7[i]=false:=by simpa[nm kj]using Ri
  have:(b7.setIfInBounds i true).count false=b7.count false-1:=by
   have e:b7.setIfInBounds i true=b7.set i true kj:=by unfold Array.setIfInBounds;rw[dif_pos kj]
   rw[e,Array.count_set];simp[bF]
  omega
theorem eK.of{bz:aC}(A:List (List cd))(O:List (List Prop))(ak:(P.follows .mixedOrders&&sQ (sB ops.toList []) ops.toList)=true)
  (he:A6 P ops A st ops.size [0]=A7 P ops A O st ops.size [0]) (bF:runM P ops A (2 ^ ops.size-1) 0 ops.toList st=bz) (a7:cQ O.flatten):eK P ops st bz:=by
 intro w0 a w id Q aD jQ;simp only[cw]at ak;have bd:∀{l:List Oper} {i:Nat},runM P ops A 0 i l st=st:=by
  intro l;induction l with
  | nil=>intro i;rfl
  | cons o r eg=>intro i;simp only[runM,Nat.zero_testBit,nR,l7];exact eg
 refine wp_region_any ak.1 (ax0 ak.2 a7 (fun cO aP h=>jQ cO aP (bF▸h)) ops.size he (m:=0) hU (by simp) (fun j bk=>by simp[bk]) (by simp[Array.count_replicate]) ?_);rw[bd];exact aD.drew
def Mj(P:Program)(ops:Array Oper)(st:aC)(ans:List cd):Stepped:=
 match ans with
 | .jl bz::r=>some (bz,r,[eK P ops st bz])
 | _=>Mh P ops st ans
theorem ax1{bz:aC}{ans cu:List cd}{obs:List Prop}(h:Mj P ops st ans=some (bz,cu,obs))(a7:cQ obs){w0:eR}{a:Act}{w:World}(aD:Rel w0 st a w){id:Nat}
  {Q:Exit->Act->World->Prop} (jQ:∀cO aP,Rel w0 bz cO aP->Q .normal cO aP):(Code.region id ops true).wp P Q a w:=by
 unfold Mj at h;split at h
 ·simp only[aX,bK]at h;obtain⟨rfl,_,rfl⟩:=h;exact a7.1 w0 a w id Q aD jQ
 exact axY h a7 aD jQ
