import Derived.Test.YtdchjefneblpgaaGreatR26
import Derived.Test.YtdchjefneblpgaaGreatR31
import Derived.Orders
set_option linter.unusedVariables false
set_option linter.unusedSimpArgs false
namespace Go.Sx
open Go.RowKit
def JE(P:Program)(st:aE)(d:Option Nat)(f:FuncId)(args:List Operand)(ans:List b4):Stepped:=
 match P.funcs[f]?,args.mapM (fun x=>(st.bk x).jR st.boxes),ans with
 | some fn,some gB,.res rs::r=>
  if (fn.name == "runtime.NumGoroutine") = false /\ fn.body.isNone = false /\ uk rs = true /\ 10000 * (d.getD 0 + 1) + 10000 <= c5 then
   let t:=10000*(d.getD 0+1)
   match d with
   | some d=>some (⟨(st.vf t).env.set d (te t rs),(st.vf t).boxes⟩,r,[iW P f gB rs])
   | none=>some (st.vf t,r,[iW P f gB rs])
  else none
 | _,_,_=>none
def OG(P:Program)(st:aE)(d:Option Nat)(f:Operand)(args:List Operand)(ans:List b4):Stepped:=
 match (st.bk f).leaf.bind (aC.jR st.boxes),args.mapM (fun x=>(st.bk x).jR st.boxes),ans with
 | some (.cl g bA),some gB,.res rs::r=>
  if uk rs=true/\10000*(d.getD 0+1)+10000<=c5 then
   let t:=10000*(d.getD 0+1)
   match d with
   | some d=>some (⟨(st.vf t).env.set d (te t rs),(st.vf t).boxes⟩,r,[k4 P g=true,iW P g (gB++bA.map .one) rs])
   | none=>some (st.vf t,r,[k4 P g=true,iW P g (gB++bA.map .one) rs])
  else none
 | _,_,_=>none
def Ob:List b4->Bool
 | .rT _ _ _ _::_=>true
 | _=>false
def Od:List b4->Bool
 | .dq _ _::_=>true
 | _=>false
def Oc:List b4->Bool
 | .own::_=>true
 | _=>false
def pt(P:Program)(st:aE)(o:Oper)(ans:List b4):Stepped:=
 match o.dst,o.op with
 | some d,.box _ x=>Is st d (st.bk x) ans
 | some d,.alloc ty=>It P st d ty ans
 | some d,.makeSlice t l c=>DO P st d t (st.bk l) (st.bk c) ans
 | some d,.buildSlice t n parts=>Ba P st d t n parts.toList ans
 | none,.store ty x y=>
  match (st.bk x).leaf with
  | some (.ptr id off)=>Iu P st ty id off (st.bk y) ans
  | some (.ep (.own t) k es i j)=>ID P st ty t k es i j (st.bk y) ans
  | some (.aO t i j k es (.at_ a b))=>Ic P st ty t i j k es a b (st.bk y) ans
  | _=>none
 | d,.call ⟨.value (.func f),args,_⟩=>if Od ans then JB P st d f args.toList ans else if Ob ans then H8 P st d f args.toList ans else JE P st d f args.toList ans
 | d,.call ⟨.value (.tmp x),args,_⟩=>if Od ans then JC P st d (.tmp x) args.toList ans else OG P st d (.tmp x) args.toList ans
 | some d,.call ⟨.builtin .append,⟨[x,y]⟩,⟨[t,c4]⟩⟩=>
  if t=c4 then
   match (st.bk x).leaf with
   | some (.aO s i j k es .here)=>Ie P st d t s i j k es y ans
   | _=>y4 P st d t x y ans
  else none
 | some d,.slice t x cV hi ja=>if Oc ans then y5 P st d t (st.bk x) cV hi ja ans.tail else (pD P st (.slice t x cV hi ja) ans).map fun r=>(⟨st.env.set d r.1,st.boxes⟩,r.2.1,r.2.2)
 | some d,op=>(pD P st op ans).map fun r=>(⟨st.env.set d r.1,st.boxes⟩,r.2.1,r.2.2)
 | none,op=>(pD P st op ans).map fun r=>(st,r.2.1,r.2.2)
variable{P:Program}{o:Oper}{a:Act}{w:World}{Q:Exit->Act->World->Prop}
theorem Calls.of{next:Act->World->Prop}{z:Value}{aG:World}(h:(execOp a.eval o).run P w=.ok (.value z) aG)(aL:next (a.put o.dst z) aG):
  o.wp P a w next Q:=by
 unfold Oper.wp;rw[h];exact aL
variable{w0:ev}{st bn:aE}{ans ch:List b4}{obs:List Prop}
theorem JF(h:pt P st o ans=some (bn,ch,obs))(aN:cB obs)(aV:Rel w0 st a w)
  {next:Act->World->Prop} {Q:Exit->Act->World->Prop} (jW:∀cy aG,Rel w0 bn cy aG->next cy aG):o.wp P a w next Q:=by
 obtain⟨ω,τ,aV⟩:=aV;obtain⟨dst,op,type,pos,after,guard⟩:=o;simp only[pt]at h;split at h
 ·rename_i d ty x;obtain⟨z,aG,h1,U⟩:=cx.box (P:=P) aV (aV.bk x) h ty;exact Calls.of (jf h1) (jW _ _ U)
 ·rename_i d ty;obtain⟨z,aG,h1,U⟩:=cx.alloc aV h;exact Calls.of (jf h1) (jW _ _ U)
 ·rename_i d t l c;obtain⟨z,aG,h1,U⟩:=aV.make (aV.bk l) (aV.bk c) h aN;exact Calls.of (jf h1) (jW _ _ U)
 ·rename_i d t n parts;obtain⟨z,aG,h1,U⟩:=aV.buildSlice h;exact Calls.of (jf h1) (jW _ _ U)
 ·rename_i ty x y;have fin:∀aG,(Instr.storeAt ty (a.eval x) (a.eval y)).run P w=.ok () aG->Rel w0 bn a aG->Oper.wp P ⟨none,.store ty x y,type,pos,after,guard⟩ a w next Q:=by
   intro aG h1 U;unfold Oper.wp execOp;simp only[Sem.run_bind,h1,Result.andThen_ok,Sem.run_pure,Oper.upon];exact jW _ _ U
  split at h
  ·rename_i id off e;obtain⟨b,ah,aa⟩:=aB.dw e (aV.bk x);obtain⟨aG,h1,U⟩:=aV.aqt (P:=P) ah (aV.bk y) h;exact fin aG (by rw[aa];exact h1) U
  ·rename_i t k es i j e;obtain⟨aG,h1,U⟩:=aV.aqv (P:=P) (aB.dw e (aV.bk x)) (aV.bk y) h aN;exact fin aG h1 U
  ·rename_i t i j k es aqM MD e;obtain⟨aG,h1,U⟩:=aV.aqx (P:=P) (aB.dw e (aV.bk x)) (aV.bk y) h aN;exact fin aG h1 U
  cases h
 ·rename_i f args ts;split at h
  ·exact ajC aV h aN jW
  split at h
  ·exact aj4 aV h aN jW
  rename_i G3 XQ;clear G3;unfold JE at h;clear XQ;split at h
  ·rename_i fn gB rs r j' Gz;split at h
   ·rename_i ad;obtain⟨kQ,kC,kR,sn⟩:=ad;obtain⟨af,ao⟩:=nL Gz;have mA:DS w gB (args.map a.eval):=by
     refine⟨by simp[af],fun i cj hi=>?_⟩;obtain⟨x,aa,jE⟩:=ao i cj hi;refine⟨a.eval x,?_,aB.xp aV.boxes jE (aV.bk x)⟩;rw[zh];rw[jg]at aa;rw[aa];rfl
    have eZ:(execOp a.eval ⟨dst,.call ⟨.value (.func f),args,ts⟩,type,pos,after,guard⟩).run P w=.ok (.enter f (args.map a.eval)) w:=by
     have W' : fn.name ≠ "runtime.NumGoroutine" := by simpa using kQ
     have pX:fn.body≠none:=by intro e;rw[e]at kC;cases kC
     simp[execOp,resolve,Act.eval,Deferred.ofValue,invoke,callFunc,j',W',pX]
    have key:∀(mR:List Prop),obs=mR->cB mR->mR=[iW P f gB rs]->∀(K:Act->World->Prop),(∀v aG,gA w.heap.size w aG->xn w aG rs v->K (a.put dst v) aG)->
      Oper.wp P ⟨dst,.call ⟨.value (.func f),args,ts⟩,type,pos,after,guard⟩ a w K Q:=by
     intro mR _ kD e K gR;subst e;unfold Oper.wp;rw[eZ];simp only[Oper.upon];refine (kD.1 w _ aV.below.laid mA).mono ?_;rintro e aG ⟨v,rfl,ah,ar⟩;exact gR v aG ah ar
    simp only at h;cases dst with
    | none=>
     simp only[aQ,bw]at h;obtain⟨rfl,_,rfl⟩:=h;refine key _ rfl aN rfl next fun v aG ah ar=>jW _ _ ?_
     obtain⟨aY,cN,h1,_⟩:=aV.called (10000*(Option.getD none 0+1)) kR sn ah ar;exact⟨aY,cN,h1⟩
    | some d=>
     simp only[aQ,bw]at h;obtain⟨rfl,_,rfl⟩:=h;refine key _ rfl aN rfl next fun v aG ah ar=>jW _ _ ?_
     obtain⟨aY,cN,h1,U⟩:=aV.called (10000*(Option.getD (some d) 0+1)) kR sn ah ar;exact⟨aY,cN,h1.put U⟩
   cases h
  cases h
 ·rename_i x args ts;split at h
  ·exact ajD aV h aN jW
  rename_i G3;clear G3;unfold OG at h;split at h
  ·rename_i g bA gB rs r bl Gz;split at h
   ·rename_i ad;obtain⟨kR,sn⟩:=ad;obtain⟨af,ao⟩:=nL Gz;have cU:gB.length=args.size:=by rw[af,u1]
    rw[mj]at bl;obtain⟨kH,C1,X2⟩:=bl;have Nr:ly w (.cl g bA) (a.eval (.tmp x)):=aC.xp aV.boxes X2 (aB.dw C1 (aV.bk (.tmp x)));have Xy:∃cs:Array Value,a.eval (.tmp x)=.func (.func g) #[] cs/\cs.size=bA.length/\∀(j:Nat) (d:D),bA[j]?=some d->∃u,cs[j]?=some u/\ly w d u:=by
     generalize a.eval (.tmp x)=y at Nr;cases Nr with
     | cl R g bA cs us ae hu ax=>exact⟨cs,rfl,ae,fun j d aM=>⟨us j,hu j d aM,(ax j d aM).free⟩⟩
    obtain⟨cs,mC,Xd,Xk⟩:=Xy;have mA:DS w (gB++bA.map .one) (args.map a.eval++cs):=by
     refine⟨by simp[af,Xd],fun i cj hi=>?_⟩;rw[lc]at hi;rw[hj];split at hi
     ·rename_i kc;rw[a6 (by simp;omega)];obtain⟨y,a1,sJ⟩:=ao i cj hi;refine⟨a.eval y,?_,aB.xp aV.boxes sJ (aV.bk y)⟩;rw[zh];rw[jg]at a1;rw[a1];rfl
     rename_i kc;rw[aX (by simp;omega)];rw[c9,bX]at hi;obtain⟨d,ax,rfl⟩:=hi;obtain⟨u,fJ,eG⟩:=Xk _ d ax;refine⟨u,?_,eG⟩;rw[<-fJ]
     congr 1
     simp;omega
    have eZ:k4 P g=true->(execOp a.eval ⟨dst,.call ⟨.value (.tmp x),args,ts⟩,type,pos,after,guard⟩).run P w=.ok (.enter g (args.map a.eval++cs)) w:=by
     intro vw;unfold k4 at vw;split at vw
     ·rename_i fn j';simp only[ca,fr,uZ,ho]at vw;have pX:fn.body≠none:=by intro e;rw[e]at vw;simp at vw
      simp[execOp,resolve,mC,Deferred.ofValue,invoke,callFunc,j',vw.1,pX]
     cases vw
    have key:∀(mR:List Prop),obs=mR->cB mR->mR=[k4 P g=true,iW P g (gB++bA.map .one) rs]->∀(K:Act->World->Prop),(∀v aG,gA w.heap.size w aG->xn w aG rs v->K (a.put dst v) aG)->
      Oper.wp P ⟨dst,.call ⟨.value (.tmp x),args,ts⟩,type,pos,after,guard⟩ a w K Q:=by
     intro mR _ kD e K gR;subst e;unfold Oper.wp;rw[eZ kD.1];simp only[Oper.upon];refine (kD.2.1 w _ aV.below.laid mA).mono ?_;rintro e aG ⟨v,rfl,ah,ar⟩;exact gR v aG ah ar
    simp only at h;cases dst with
    | none=>
     simp only[aQ,bw]at h;obtain⟨rfl,_,rfl⟩:=h;refine key _ rfl aN rfl next fun v aG ah ar=>jW _ _ ?_
     obtain⟨aY,cN,h1,_⟩:=aV.called (10000*(Option.getD none 0+1)) kR sn ah ar;exact⟨aY,cN,h1⟩
    | some d=>
     simp only[aQ,bw]at h;obtain⟨rfl,_,rfl⟩:=h;refine key _ rfl aN rfl next fun v aG ah ar=>jW _ _ ?_
     obtain⟨aY,cN,h1,U⟩:=aV.called (10000*(Option.getD (some d) 0+1)) kR sn ah ar;exact⟨aY,cN,h1.put U⟩
   cases h
  cases h
 ·rename_i d x y t c4;split at h
  ·rename_i z1;subst z1;have xA:∃z aG,(Builtin.append_ #[t,t] type #[a.eval x,a.eval y]).run P w=.ok z aG/\Rel w0 bn (a.put (some d) z) aG:=by
    split at h
    ·rename_i s i j k es e;exact aV.Wg (P:=P) (ty:=type) (aB.dw e (aV.bk x)) h aN
    exact aV.y4 (ty:=type) h aN
   obtain⟨z,aG,h1,U⟩:=xA;refine Calls.of (z:=z) (aG:=aG) ?_ (jW _ _ U);have:(execOp a.eval ⟨some d,.call ⟨.builtin .append,⟨[x,y]⟩,⟨[t,t]⟩⟩,type,pos,after,guard⟩)=(builtin .append ⟨[t,t]⟩ type (Array.map (fun | .const _=>true | _=>false) ⟨[x,y]⟩) (Array.map a.eval ⟨[x,y]⟩)):=by
    simp only[execOp,resolve];rfl
   rw[this];exact jf (by simpa using h1)
  cases h
 ·rename_i d t x cV hi ja;split at h
  ·obtain⟨z,h1,U⟩:=aV.y5 (P:=P) (aV.bk x) h aN;exact Calls.of (jf h1) (jW _ _ U)
  rw[bX]at h;obtain⟨⟨bB,bV,cb⟩,h1,h⟩:=h;simp only[bw]at h;obtain⟨rfl,rfl,rfl⟩:=h;obtain⟨z,U,au⟩:=Ir (o:=⟨_,_,type,pos,after,guard⟩) aV h1 aN;exact Calls.of U (jW _ _ ⟨ω,τ,aV.put au⟩)
 ·rw[bX]at h;obtain⟨⟨bB,bV,cb⟩,h1,h⟩:=h;simp only[bw]at h;obtain⟨rfl,rfl,rfl⟩:=h;obtain⟨z,U,au⟩:=Ir (o:=⟨_,_,type,pos,after,guard⟩) aV h1 aN;exact Calls.of U (jW _ _ ⟨ω,τ,aV.put au⟩)
 rw[bX]at h;obtain⟨⟨bB,bV,cb⟩,h1,h⟩:=h;simp only[bw]at h;obtain⟨rfl,rfl,rfl⟩:=h;obtain⟨z,U,au⟩:=Ir (o:=⟨_,_,type,pos,after,guard⟩) aV h1 aN;exact Calls.of U (jW _ _ ⟨ω,τ,aV⟩)
def oJ(P:Program)(st:aE)(o:Oper)(ans:List b4):Stepped:=
 match o.dst,o.op with
 | some d,.alloc ty=>DW P st d ty ans
 | none,.store ty (.tmp s) y=>DY P st ty s (st.bk y) ans
 | _,_=>pt P st o ans
theorem ajE(h:oJ P st o ans=some (bn,ch,obs))(aN:cB obs)(aV:Rel w0 st a w)
  {next:Act->World->Prop} {Q:Exit->Act->World->Prop} (jW:∀cy aG,Rel w0 bn cy aG->next cy aG):o.wp P a w next Q:=by
 obtain⟨dst,op,type,pos,after,guard⟩:=o;unfold oJ at h;split at h
 ·rename_i d ty e1 e2;simp only at e1 e2;subst e1;subst e2;obtain⟨ω,τ,aV⟩:=aV;obtain⟨z,aG,h1,U⟩:=cx.Wf aV h;exact Calls.of (jf h1) (jW _ _ U)
 ·rename_i ty s y e1 e2;simp only at e1 e2;subst e1;subst e2;obtain⟨ω,τ,aV⟩:=aV;obtain⟨aG,h1,U⟩:=aV.aqw (P:=P) (aV.bk y) h;unfold Oper.wp execOp;simp only[Sem.run_bind,h1,Result.andThen_ok,Sem.run_pure,Oper.upon];exact jW _ _ U
 exact JF h aN aV jW
def AL(st:aE)(dst:Option Nat):aE:=
 match dst with
 | some d=>⟨st.env.set d (.one (.v undef)),st.boxes⟩
 | none=>st
theorem JG{dst:Option Nat}(h:Rel w0 st a w):Rel w0 (AL st dst) (a.put dst undef) w:=by
 obtain⟨ω,τ,h⟩:=h;cases dst with
 | none=>exact⟨ω,τ,h⟩
 | some d=>exact⟨ω,τ,h.put (p:=.one (.v undef)) rfl⟩
def rr(ops:Array Oper)(st:aE)(o:Oper)(ans:List b4):Option (Bool×aE×List b4×List Prop):=
 match o.guard with
 | none=>some (true,st,ans,[])
 | some (j,want)=>
  match (ops[j]?).bind (·.dst) with
  | some s=>
   match (st.env.getD s .cc).leaf with
   | some (.v (.bool b))=>some (b==want,st,ans,[])
   | some (.v (.tuple _))=>some (false,st,ans,[])
   | some (.bg c)=>
    match ans with
    | .o1 b::r=>some (b==want,⟨st.env.set s (.one (.v (.bool b))),st.boxes⟩,r,[c=b])
    | _=>none
   | _=>none
  | none=>none
variable{ops:Array Oper}
theorem wi{b:Bool}(h:rr ops st o ans=some (b,bn,ch,obs))(aN:cB obs)(aV:Rel w0 st a w):
  Region.wanted o (yielded ops a.tmps)=b/\Rel w0 bn a w:=by
 obtain⟨ω,τ,aV⟩:=aV;unfold rr at h;split at h
 ·rename_i ao;simp only[aQ,bw]at h;obtain⟨rfl,rfl,_,_⟩:=h;exact⟨by simp[Region.wanted,ao],ω,τ,aV⟩
 rename_i j want ao;split at h
 ·rename_i s ae;have eB:∀l,(st.env.getD s .cc).leaf=some l->∀x,(∀y,Sat w ω τ l y->y=x)->(l=.cc->False)->a.tmps[s]?=some x:=by
   intro l af x aa b5;rw[iw]at af;cases e:st.env[s]? with
   | none=>
    rw[e]at af;simp only[Option.getD_none,aB.leaf,aQ]at af;exact absurd af.symm b5
   | some p=>
    rw[e]at af;obtain⟨v,h1,U⟩:=aV.env s p e;rw[h1,aa v (aB.dw af U)]
  split at h
  ·rename_i cT af;simp only[aQ,bw]at h;obtain⟨rfl,rfl,_,_⟩:=h;have:=eB _ af (.bool cT) (fun y a1=>a1) (fun h=>by cases h);exact⟨by simp[Region.wanted,ao,yielded,ae,this],ω,τ,aV⟩
  ·rename_i vs af;simp only[aQ,bw]at h;obtain⟨rfl,rfl,_,_⟩:=h;have:=eB _ af (.tuple vs) (fun y a1=>a1) (fun h=>by cases h);exact⟨by simp[Region.wanted,ao,yielded,ae,this],ω,τ,aV⟩
  ·rename_i c af;split at h
   ·rename_i cT r;simp only[aQ,bw]at h;obtain⟨rfl,rfl,_,rfl⟩:=h;have ft:c=cT:=aN.1;subst ft;have:=eB _ af (.bool c) (fun y a1=>a1) (fun h=>by cases h);refine⟨by simp[Region.wanted,ao,yielded,ae,this],ω,τ,?_⟩;have He:=aV.put (d:=s) (p:=.one (.v (.bool c))) (v:=.bool c) rfl;have e:a.put (some s) (.bool c)=a:=by
     simp only[Act.put];have:a.tmps.setIfInBounds s (.bool c)=a.tmps:=by
      apply Array.ext
      ·simp
      intro i h1 U;rw[Array.getElem_setIfInBounds];split
      ·rename_i hi;subst hi;rw[gN U]at this;exact (ei this).symm
      rfl
     rw[this]
    rwa[e]at He
   cases h
  cases h
 cases h
def qg(P:Program)(ops:Array Oper)(o:Oper)(st:aE)(ans:List b4):Stepped:=
 match rr ops st o ans with
 | some (true,st1,fg,fS)=>(pt P st1 o fg).map fun r=>(r.1,r.2.1,fS++r.2.2)
 | some (false,st1,fg,fS)=>some (AL st1 o.dst,fg,fS)
 | none=>none
theorem OH{rest:List Oper}(h:qg P ops o st ans=some (bn,ch,obs))(aN:cB obs)
  {a:Act} {w:World} (aV:Rel w0 st a w) (gR:∀cy aG,Rel w0 bn cy aG->wpList P ops Q rest cy aG):wpList P ops Q (o::rest) a w:=by
 unfold qg at h;split at h
 ·rename_i st1 fg fS hw;rw[bX]at h;obtain⟨⟨bB,bV,cb⟩,h1,h⟩:=h;simp only[bw]at h;obtain⟨rfl,rfl,rfl⟩:=h;obtain⟨cd,bY⟩:=aN.append;obtain⟨oq,eN⟩:=wi hw cd aV;refine wpList_step fun K vo=>?_
  rw[a6 oq];exact JF h1 bY eN fun cy aG dy=>vo _ _ (gR _ _ dy)
 ·rename_i st1 fg fS hw;simp only[aQ,bw]at h;obtain⟨rfl,rfl,rfl⟩:=h;obtain⟨oq,eN⟩:=wi hw aN aV;refine wpList_step fun K vo=>?_
  rw[aX (by rw[oq];simp)];exact vo _ _ (gR _ _ (JG eN))
 cases h
def JH(o bY:Oper):Option (Nat×TypeId×Operand×Option Operand×TypeId):=
 match o.dst,o.op,o.guard,bY.dst,bY.op,bY.guard with
 | some d,.slice t x cV none none,none,none,.call ⟨.builtin .clear,⟨[.tmp dr]⟩,⟨[gU]⟩⟩,none=>if d=dr then some (d,t,x,cV,gU) else none
 | _,_,_,_,_,_=>none
theorem akN{bY:Oper}{rest:List Oper}{d:Nat}{t gU:TypeId}{x:Operand}{cV:Option Operand}(hp:JH o bY=some (d,t,x,cV,gU))
  {st bn:aE} {ans ch:List b4} {obs:List Prop} (h:Du P st d t x cV gU ans=some (bn,ch,obs)) (aN:cB obs)
  {a:Act} {w:World} (aV:Rel w0 st a w) (gR:∀cy aG,Rel w0 bn cy aG->wpList P ops Q rest cy aG):wpList P ops Q (o::bY::rest) a w:=by
 obtain⟨dst,op,type,pos,after,guard⟩:=o;obtain⟨ara,asg,type2,asm,aqW,arn⟩:=bY;unfold JH at hp;split at hp
 ·rename_i d0 t0 cJ ar8 dr asw e1 e2 b2 dB gD j9;simp only at e1 e2 b2 dB gD j9;subst e1 e2 b2 dB gD j9;split at hp
  ·rename_i ax;subst ax;simp only[aQ,bw]at hp;obtain⟨rfl,rfl,rfl,rfl,rfl⟩:=hp;obtain⟨ω,τ,aV⟩:=aV;obtain⟨bq,y,z,aG,h1,U,au⟩:=aV.clear h aN;refine wpList_plain rfl fun K vo=>Calls.of (jf (by simpa using h1)) (vo _ _ ?_)
   refine wpList_plain rfl fun K vo=>?_
   have q4:(a.put (some d0) y).eval (.tmp d0)=y:=by
    simp only[Act.eval,Act.put,ea,Array.getElem?_setIfInBounds];simp[bq]
   refine Calls.of (z:=z) (aG:=aG) ?_ (vo _ _ (gR _ _ au));simp only[execOp,resolve,invoke,builtin,Sem.run_bind,Sem.run_pure,Result.andThen_ok,List.map_toArray,iT,List.map_nil,q4,U]
  cases hp
 cases hp
def wj(P:Program)(ops:Array Oper):List Oper->aE->List b4->Stepped
 | [],st,ans=>some (st,ans,[])
 | [o],st,ans=>qg P ops o st ans
 | o::bY::rest,st,ans=>
  match JH o bY with
  | some (d,t,x,cV,gU)=>
   match Du P st d t x cV gU ans with
   | some (st1,fg,fS)=>(wj P ops rest st1 fg).map fun r=>(r.1,r.2.1,fS++r.2.2)
   | none=>none
  | none=>
   match qg P ops o st ans with
   | some (st1,fg,fS)=>(wj P ops (bY::rest) st1 fg).map fun r=>(r.1,r.2.1,fS++r.2.2)
   | none=>none
theorem JI:∀(l:List Oper) {st bn:aE} {ans ch:List b4} {obs:List Prop},wj P ops l st ans=some (bn,ch,obs)->cB obs->
  ∀{a:Act} {w:World},Rel w0 st a w->(∀cy aG,Rel w0 bn cy aG->Q .normal cy aG)->wpList P ops Q l a w
 | [],st,bn,ans,ch,obs,h,_,a,w,aV,jo=>by
  simp only[wj,aQ,bw]at h;obtain⟨rfl,_,_⟩:=h;exact jo _ _ aV
 | [o],st,bn,ans,ch,obs,h,aN,a,w,aV,jo=>by
  simp only[wj]at h;exact OH h aN aV fun cy aG dy=>jo _ _ dy
 | o::bY::rest,st,bn,ans,ch,obs,h,aN,a,w,aV,jo=>by
  simp only[wj]at h;split at h
  ·rename_i d t x cV gU hp;split at h
   ·rename_i st1 fg fS h1;rw[bX]at h;obtain⟨⟨bB,bV,cb⟩,U,h⟩:=h;simp only[bw]at h;obtain⟨rfl,rfl,rfl⟩:=h;obtain⟨cd,cr⟩:=aN.append;exact akN hp h1 cd aV fun cy aG dy=>JI rest U cr dy jo
   cases h
  split at h
  ·rename_i st1 fg fS h1;rw[bX]at h;obtain⟨⟨bB,bV,cb⟩,U,h⟩:=h;simp only[bw]at h;obtain⟨rfl,rfl,rfl⟩:=h;obtain⟨cd,cr⟩:=aN.append;exact OH h1 cd aV fun cy aG dy=>JI (bY::rest) U cr dy jo
  cases h
end Go.Sx
namespace Go.Sx
open Go.RowKit
abbrev gp:=List (Nat×Nat)
def gp.has(r:gp)(s:Nat):Bool:=r.any fun x=>decide (x.1<=s)&&decide (s<x.2)
def Tag.eC(r:gp):Tag->Bool
 | .free=>false
 | .own s=>r.has s
 | .ro s=>r.has s
def eS.eC(r:gp):eS->Bool
 | .J t _ _=>t.eC r
 | _=>false
def aC.eC(r:gp):aC->Bool
 | .J t _ _=>t.eC r
 | .ep t _ _ _ _=>t.eC r
 | .aO t _ _ _ _ _=>r.has t
 | .fk t vs=>r.has t||vs.any (eS.eC r)
 | _=>false
def bd.eC(r:gp):bd->Bool
 | .one l=>l.eC r
 | .agg ls=>ls.any (aC.eC r)
def aB.eC(r:gp):aB->Bool
 | .aD a=>a.eC r
 | .fM as=>as.any (bd.eC r)
def oK(g:Tag->Option Tag)(r:gp):Prop:=∀t:Tag,t.eC r=false->g t=some t
variable{g:Tag->Option Tag}{r:gp}
theorem aC.w8(ao:oK g r){l:aC}(h:l.eC r=false):l.cm g (fun _=>true)=l:=by
 cases l with
 | J t k es=>simp only[aC.eC]at h;simp only[aC.cm,ao t h]
 | ep t k es i j=>simp only[aC.eC]at h;simp only[aC.cm,ao t h]
 | ptr id off=>simp[aC.cm]
 | gP f ids=>simp[aC.cm]
 | aO t i j k es m=>simp only[aC.eC]at h;simp only[aC.cm,ao (.own t) h,fO]
 | fk t vs=>
  simp only[aC.eC,gz]at h;simp only[aC.cm,ao (.own t) h.1,fO]
  congr 1
  conv=>rhs;rw[<-r1 vs]
  refine kr fun c ad=>?_
  have:=eW.1 h.2 c ad;cases c with
  | cc=>rfl
  | v x=>rfl
  | J c4 k es=>simp only[eS.cm,ao c4 (by simpa[eS.eC]using this),id]
 | _=>rfl
theorem OI(ao:oK g r){ls:List aC}(h:ls.any (aC.eC r)=false):ls.map (aC.cm g fun _=>true)=ls:=by
 conv=>rhs;rw[<-r1 ls]
 refine kr fun l af=>?_
 rw[eW]at h;exact aC.w8 ao (by simpa using h l af)
theorem bd.w8(ao:oK g r){a:bd}(h:a.eC r=false):a.map (aC.cm g fun _=>true)=a:=by
 cases a with
 | one l=>simp only[bd.eC]at h;simp only[bd.map,aC.w8 ao h]
 | agg ls=>simp only[bd.eC]at h;simp only[bd.map,OI ao h]
theorem aB.w8(ao:oK g r){p:aB}(h:p.eC r=false):p.map (aC.cm g fun _=>true)=p:=by
 cases p with
 | aD a=>simp only[aB.eC]at h;simp only[aB.map,bd.w8 ao h]
 | fM as=>
  simp only[aB.eC]at h;simp only[aB.map]
  congr 1
  conv=>rhs;rw[<-r1 as]
  refine kr fun a ag=>?_
  rw[eW]at h;exact bd.w8 ao (by simpa using h a ag)
structure df where
 dst:Option Nat
 p:aB
 use:List Nat
 nW:gp
abbrev ku:=Option (df×(Tag->Option Tag)×List b4×List Prop)
def OJ:Operand->Option Nat
 | .tmp t=>some t
 | _=>none
def Ao:Option Nat->gp
 | none=>[]
 | some s=>[(s,s+1)]
def zm(P:Program)(st:aE)(d:Nat)(t:TypeId)(x y:Operand)(ans:List b4):ku:=
 match qq P t with
 | some (e,k)=>
  match P.info? e with
  | some i=>
   match i.zero,(st.bk x).leaf,x with
   | some z,some (.J (.own hh) b8 es),.tmp s=>
    match vb hh k (st.bk y) ans with
    | some (bN,dE,ch,obs)=>
     if b8=k/\z.cells.size=k/\0<k/\hh<c5 then
      some (⟨some d,.one (.J (.own hh) k (es++bN)),[s],(hh,hh+1)::Ao dE⟩,h0 hh dE,ch,((es.length+bN.length)*i.bytes<=140737488355328)::(es.length+bN.length<=9223372036854775807)::obs)
     else none
    | _=>none
   | some z,some (.v (.slice none 0 0)),_=>
    match vb d k ((st.bk y).map (aC.cm (ii d []) fun _=>true)) ans with
    | some (bN,dE,ch,obs)=>
     if z.cells.size=k/\0<k/\d<c5 then
      some (⟨some d,.one (.J (.own d) k ([]++bN)),[],(d,d+1)::Ao dE⟩,(fun g=>(ii d [] g).bind (h0 d dE)),ch,(((([]:List (List D)).length)+bN.length)*i.bytes<=140737488355328)::(([]:List (List D)).length+bN.length<=9223372036854775807)::obs)
     else none
    | _=>none
   | _,_,_=>none
  | none=>none
 | none=>none
def Ga(P:Program)(st:aE)(d:Nat)(t:TypeId)(x:Operand)(cV hi ja:Option Operand)(ans:List b4):ku:=
 match qq P t,(st.bk x).leaf,ja,x with
 | some (_,k),some (.J (.own s) b8 es),none,.tmp jK=>
  if k=b8/\s<c5 then
   match l3 st cV,l3 st hi with
   | some l,some h=>some (⟨some d,.one (.J (.own s) k ((es.drop (l.getD 0).toNat).take ((h.getD es.length).toNat-(l.getD 0).toNat))),[jK],[(s,s+1)]⟩,kj s s,ans,[0<=l.getD 0,l.getD 0<=h.getD es.length,h.getD es.length<=es.length])
   | _,_=>none
  else none
 | _,_,_,_=>none
variable{s:Nat}
theorem akO:oK (kj s s) [(s,s+1)]:=by
 intro t h;cases t with
 | free=>rfl
 | own x=>
  have:x≠s:=by rintro rfl;simp[Tag.eC,gp.has]at h
  simp[kj,this]
 | ro x=>
  have:x≠s:=by rintro rfl;simp[Tag.eC,gp.has]at h
  simp[kj,this]
def Oo(P:Program)(d:Nat)(t:TypeId)(p q:aB)(ans:List b4):ku:=
 match P.underlying t with
 | some (.slice e)=>
  match P.info? e,p.int,q.int with
  | some i,some (_,l),some (_,c)=>
   match i.zero with
   | some z=>
    if i.size=z.cells.size/\0<i.size/\z.cells.all (·.oneCell')=true/\d<c5 then
     some (⟨some d,.one (.J (.own d) i.size (List.replicate l.toNat (z.cells.toList.map .v))),[],[(d,d+1)]⟩,ii d [],ans,[0<=l,l<=c,(i.bytes:Int)*c<=281474976710656,c<=9223372036854775807])
    else none
   | none=>none
  | _,_,_=>none
 | _=>none
def se(P:Program)(st:aE)(o:Oper)(ans:List b4):ku:=
 match o.dst,o.op with
 | some d,.call ⟨.value (.func f),args,_⟩=>
  match P.funcs[f]?,args.toList.mapM (fun x=>(st.bk x).jR st.boxes),ans with
  | some fn,some gB,.res rs::r=>
   if (fn.name == "runtime.NumGoroutine") = false /\ fn.body.isNone = false /\ uk rs = true /\ 10000 * (d + 1) + 10000 <= c5 then
    some (⟨some d,te (10000*(d+1)) rs,[],[(10000*(d+1),10000*(d+1)+10000)]⟩,gH (10000*(d+1)),r,[iW P f gB rs])
   else none
  | _,_,_=>none
 | some d,.buildSlice t n parts=>
  match Cy P st d t n parts.toList with
  | some (k,es,ms)=>some (⟨some d,.one (.J (.own d) k es),[],(d,d+1)::ms.map fun x=>(x.1,x.1+1)⟩,ii d ms,ans,[])
  | _=>none
 | some d,.call ⟨.builtin .append,⟨[x,y]⟩,⟨[t,c4]⟩⟩=>if t=c4 then zm P st d t x y ans else none
 | some _,.box _ _=>none
 | some d,.alloc ty=>
  match P.info? ty with
  | some i=>match i.zero with
   | some z=>if d<c5 then some (⟨some d,.one (.fk d (z.cells.toList.map .v)),[],[(d,d+1)]⟩,ii d [],ans,[]) else none
   | none=>none
  | none=>none
 | some d,.makeSlice t l c=>Oo P d t (st.bk l) (st.bk c) ans
 | some d,.slice t x cV hi ja=>if Oc ans then Ga P st d t x cV hi ja ans.tail else (pD P st (.slice t x cV hi ja) ans).map fun r=>(⟨some d,r.1,[],[]⟩,some,r.2.1,r.2.2)
 | some d,op=>(pD P st op ans).map fun r=>(⟨some d,r.1,[],[]⟩,some,r.2.1,r.2.2)
 | none,.store ty (.tmp s) y=>
  match (st.env.getD s .cc).leaf,HT (st.bk y),P.info? ty with
  | some (.fk t vs),some cs,some i=>
   if cs.length=i.size/\cs.length<=vs.length then
    some (⟨some s,.one (.fk t ((cs++vs.drop cs.length).map (eS.cm (fi t)))),[],[(t,t+1)]⟩,fi t,ans,[])
   else none
  | _,_,_=>none
 | none,_=>none
theorem akP:oK (fi s) [(s,s+1)]:=by
 intro t h;cases t with
 | free=>rfl
 | own x=>
  have:x≠s:=by rintro rfl;simp[Tag.eC,gp.has]at h
  simp[fi,this]
 | ro x=>
  have:x≠s:=by rintro rfl;simp[Tag.eC,gp.has]at h
  simp[fi,this]
theorem akQ:eS.cm some=id:=by funext c;cases c<;>rfl
theorem akR(st:aE)(f:aC->aC)(bl:∀x,f (.v x)=.v x)(hu:f .cc=.cc)(ax:∀d,f (.fd d)=.fd d)(x:Operand):(st.map f).bk x=(st.bk x).map f:=by
 cases x with
 | tmp t=>
  simp only[aE.bk,aE.map];rw[iw,iw,c9];cases st.env[t]? with
  | none=>simp[aB.map,bd.map,hu]
  | some p=>rfl
 | const v=>
  simp only[aE.bk,CD];split
  ·simp[aB.map,bd.map,bl]
  simp[aB.map,bd.map,bl]
 | global g=>simp[aE.bk,aB.map,bd.map,hu]
 | func arh=>simp[aE.bk,aB.map,bd.map,ax]
theorem aC.aql(g1 g2:Tag->Option Tag)(U:∀g t,g2 g=some (.own t)->g=.own t)(l:aC):aC.cm g2 (fun _=>true) (aC.cm g1 (fun _=>true) l)=aC.cm (fun t=>(g1 t).bind g2) (fun _=>true) l:=by
 cases l with
 | J t k es=>simp only[aC.cm];cases g1 t<;>simp[aC.cm]
 | ep t k es i j=>simp only[aC.cm];cases g1 t<;>simp[aC.cm]
 | gP f ids=>simp[aC.cm]
 | aO t i j k es m=>
  simp only[aC.cm];cases e1:g1 (.own t) with
  | none=>simp[aC.cm]
  | some x=>
   simp only[nh];cases x with
   | own s=>
    simp only;by_cases ae:s=t
    ·subst ae;simp only[fO,aC.cm]
    rw[aX ae];simp only[aC.cm];cases e2:g2 (.own s) with
    | none=>rfl
    | some y=>
     cases y with
     | own u=>
      simp only;by_cases hu:u=t
      ·subst hu;have:=U _ _ e2;simp only[Tag.own.injEq]at this;exact absurd this ae
      rw[aX hu]
     | _=>rfl
   | free=>
    simp only[aC.cm];cases e2:g2 .free with
    | none=>rfl
    | some y=>
     cases y with
     | own u=>exact absurd (U _ _ e2) (by simp)
     | _=>rfl
   | ro s=>
    simp only[aC.cm];cases e2:g2 (.ro s) with
    | none=>rfl
    | some y=>
     cases y with
     | own u=>exact absurd (U _ _ e2) (by simp)
     | _=>rfl
 | fk t vs=>
  simp only[aC.cm];cases e1:g1 (.own t) with
  | none=>simp[aC.cm]
  | some x=>
   simp only[nh];cases x with
   | own s=>
    simp only;by_cases ae:s=t
    ·subst ae;simp only[fO,aC.cm];have mC:(vs.map (eS.cm g1)).map (eS.cm g2)=vs.map (eS.cm fun t=>(g1 t).bind g2):=by
      rw[List.map_map];refine kr fun c _=>?_
      cases c with
      | cc=>rfl
      | v x=>rfl
      | J c4 k es=>
       simp only[Function.comp,eS.cm];cases b2:g1 c4 with
       | none=>rfl
       | some t2=>simp only[nh,eS.cm]
     rw[mC]
    rw[aX ae];simp only[aC.cm];cases e2:g2 (.own s) with
    | none=>rfl
    | some y=>
     cases y with
     | own u=>
      simp only;by_cases hu:u=t
      ·subst hu;have:=U _ _ e2;simp only[Tag.own.injEq]at this;exact absurd this ae
      rw[aX hu]
     | _=>rfl
   | free=>
    simp only[aC.cm];cases e2:g2 .free with
    | none=>rfl
    | some y=>
     cases y with
     | own u=>exact absurd (U _ _ e2) (by simp)
     | _=>rfl
   | ro s=>
    simp only[aC.cm];cases e2:g2 (.ro s) with
    | none=>rfl
    | some y=>
     cases y with
     | own u=>exact absurd (U _ _ e2) (by simp)
     | _=>rfl
 | ptr id off=>simp[aC.cm]
 | _=>rfl
theorem bd.map_map(f g:aC->aC)(a:bd):(a.map f).map g=a.map (g ∘ f):=by cases a<;>simp[bd.map]
theorem aB.map_map(f g:aC->aC)(p:aB):(p.map f).map g=p.map (g ∘ f):=by
 cases p with
 | aD a=>simp[aB.map,bd.map_map]
 | fM as=>simp only[aB.map,List.map_map];congr 1;refine kr fun a _=>?_;simp[bd.map_map]
theorem aE.map_map(f g:aC->aC)(s:aE):(s.map f).map g=s.map (g ∘ f):=by
 simp only[aE.map,List.map_map]
 congr 1
 ·refine kr fun p _=>?_
  simp[aB.map_map]
 refine kr fun x _=>?_
 simp
theorem OK:oK some r:=fun _ _=>rfl
theorem gp.tA{a b:Nat}(h:gp.has ((a,b)::r) s=false):(s<a\/b<=s)/\gp.has r s=false:=by
 simp only[gp.has,u2,gz,Bool.and_eq_false_iff,jO]at h;exact⟨by omega,h.2⟩
variable{t:Nat}
theorem akT:oK (gH t) [(t,t+10000)]:=by
 intro g ao;cases g with
 | free=>rfl
 | own s=>
  obtain⟨h1,_⟩:=gp.tA ao;simp only[gH];rw[aX (by omega)]
 | ro s=>
  obtain⟨h1,_⟩:=gp.tA ao;simp only[gH];rw[aX (by omega)]
theorem JJ:∀{ms:hR},(gp.has (ms.map fun x=>(x.1,x.1+1)) s)=false->(ms.at s).isSome=false
 | [],_=>rfl
 | (i,p)::r,h=>by
  simp only[gp.has,iT,u2,gz,Bool.and_eq_false_iff,jO]at h;simp only[hR.at];rw[aX (by omega)];exact JJ (by simpa only[gp.has]using h.2)
theorem akU{ms:hR}:oK (ii t ms) ((t,t+1)::ms.map fun x=>(x.1,x.1+1)):=by
 intro g ao;cases g with
 | free=>rfl
 | own s=>
  obtain⟨h1,U⟩:=gp.tA ao;simp only[ii];rw[aX (by omega),JJ U];rfl
 | ro s=>
  obtain⟨h1,U⟩:=gp.tA ao;simp only[ii];rw[aX (by omega),JJ U];rfl
theorem OL{dE:Option Nat}(h:gp.has (Ao dE) s=false):dE≠some s:=by
 rintro rfl;simp[gp.has,Ao]at h
theorem Qd(t:Nat)(dE:Option Nat):oK (h0 t dE) ((t,t+1)::Ao dE):=by
 intro g ao;cases g with
 | free=>rfl
 | own s=>
  obtain⟨h1,U⟩:=gp.tA ao;simp only[h0];rw[aX (by omega),aX (OL U)]
 | ro s=>
  obtain⟨h1,U⟩:=gp.tA ao;simp only[h0];rw[aX (by omega),aX (OL U)]
theorem JK(t:Nat)(r:gp):oK (ii t []) ((t,t+1)::r):=by
 intro g ao;cases g with
 | free=>rfl
 | own s=>
  obtain⟨h1,U⟩:=gp.tA ao;simp only[ii];rw[aX (by omega)];rfl
 | ro s=>
  obtain⟨h1,U⟩:=gp.tA ao;simp only[ii];rw[aX (by omega)];rfl
variable{P:Program}{st:aE}{e:df}{obs:List Prop}
theorem Qe{d:Nat}{t:TypeId}{x y:Operand}{ans ch:List b4}(h:zm P st d t x y ans=some (e,g,ch,obs)):oK g e.nW/\e.dst=some d:=by
 unfold zm at h;split at h
 ·split at h
  ·split at h
   ·split at h
    ·split at h
     ·simp only[aQ,bw]at h;obtain⟨rfl,rfl,_,_⟩:=h;exact⟨Qd _ _,rfl⟩
     cases h
    cases h
   ·split at h
    ·split at h
     ·simp only[aQ,bw]at h;obtain⟨rfl,rfl,_,_⟩:=h;exact⟨fun t bt=>by simp only[JK d _ t bt,nh];exact Qd d _ t bt,rfl⟩
     cases h
    cases h
   cases h
  cases h
 cases h
theorem Qf{o:Oper}{ans ch:List b4}(h:se P st o ans=some (e,g,ch,obs)):
  oK g e.nW/\∃d,e.dst=some d/\oJ P st o ans=some (⟨(st.map (aC.cm g fun _=>true)).env.set d e.p,(st.map (aC.cm g fun _=>true)).boxes⟩,ch,obs):=by
 obtain⟨dst,op,type,pos,after,guard⟩:=o;have fX:∀st:aE,st.map (aC.cm some fun _=>true)=st:=by
  intro st;have:(aC.cm some fun _=>true)=_root_.id:=by
   funext l;cases l<;>simp[aC.cm,akQ]
  rw[this];simp only[aE.map];have h1:aB.map _root_.id=_root_.id:=by
   funext p;cases p with
   | aD a=>cases a<;>simp[aB.map,bd.map]
   | fM as=>
    simp only[aB.map,id]
    congr 1
    have:bd.map _root_.id=_root_.id:=by funext a;cases a<;>simp[bd.map]
    rw[this];simp
  rw[h1];simp
 simp only[se]at h;split at h
 ·rename_i d f args ts;split at h
  ·rename_i fn gB rs r h1 U;split at h
   ·rename_i ad;simp only[aQ,bw]at h;obtain⟨rfl,rfl,rfl,rfl⟩:=h;refine⟨akT,d,rfl,?_⟩;simp only[oJ,pt,Ob,mm,j4,JE,h1,U,hl];rw[a6 ad];rfl
   cases h
  cases h
 ·rename_i d t n parts;split at h
  ·rename_i k es ms ah;simp only[aQ,bw]at h;obtain⟨rfl,rfl,rfl,rfl⟩:=h;refine⟨akU,d,rfl,?_⟩;simp only[oJ,pt];exact ajW ah ans
  cases h
 ·rename_i d x y t c4;split at h
  ·rename_i z1;subst z1;refine⟨(Qe h).1,d,(Qe h).2,?_⟩;simp only[oJ,pt,fO,Sx.y4];unfold zm at h;split at h
   ·rename_i vh k he;simp only[he];split at h
    ·rename_i i hi;simp only[hi];split at h
     ·rename_i z hh b8 es s aR af;split at h
      ·rename_i bN dE a2 bY ae;split at h
       ·rename_i ad;obtain⟨rfl,ad⟩:=ad;simp only[aQ,bw]at h;obtain⟨rfl,rfl,rfl,rfl⟩:=h;simp only[Cu,af,fO,aR,ae];rw[a6 ad];rfl
       cases h
      cases h
     ·rename_i z _ aR af;split at h
      ·rename_i bN dE a2 bY ae;split at h
       ·rename_i ad;simp only[aQ,bw]at h;obtain⟨rfl,rfl,rfl,rfl⟩:=h;have q4:(st.jt d []).bk y=(st.bk y).map (aC.cm (ii d []) fun _=>true):=akR st _ (fun _=>rfl) rfl (fun _=>rfl) y;simp only[Cu,af,aR,q4,ae];rw[a6 ad];have:(st.jt d []).xo d dE=st.map (aC.cm (fun g=>(ii d [] g).bind (h0 d dE)) fun _=>true):=by
         simp only[aE.jt,aE.xo,aE.map_map]
         congr 1
         funext l;refine aC.aql _ _ (fun g t h=>?_) l;cases g with
         | free=>simp[h0]at h
         | own s=>
          simp only[h0]at h;split at h
          ·simp at h
          split at h
          ·cases h
          simpa using h
         | ro s=>
          simp only[h0]at h;split at h
          ·cases h
          split at h
          ·cases h
          simp at h
        rw[this]
       cases h
      cases h
     cases h
    cases h
   cases h
  cases h
 ·cases h
 ·rename_i d ty;split at h
  ·rename_i i hi;split at h
   ·rename_i z aR;split at h
    ·rename_i ax;simp only[aQ,bw]at h;obtain⟨rfl,rfl,rfl,rfl⟩:=h;refine⟨JK _ _,d,rfl,?_⟩;simp only[oJ,DW,hi,aR];rw[a6 ax];rfl
    cases h
   cases h
  cases h
 ·rename_i d t l c;unfold Oo at h;split at h
  ·rename_i e hu;split at h
   ·rename_i i cC ht b6 jS hi e1 e2;split at h
    ·rename_i z aR;split at h
     ·rename_i ad;simp only[aQ,bw]at h;obtain⟨rfl,rfl,rfl,rfl⟩:=h;refine⟨JK _ _,d,rfl,?_⟩;simp only[oJ,pt,DO,hu,hi,e1,e2,aR];rw[a6 ad];rfl
     cases h
    cases h
   cases h
  cases h
 ·rename_i d t x cV hi ja;split at h
  ·rename_i aN;unfold Ga at h;split at h
   ·rename_i e k s b8 es jK e1 e2;split at h
    ·rename_i ad;obtain⟨rfl,ae⟩:=ad;split at h
     ·rename_i l bI b2 dB;simp only[aQ,bw]at h;obtain⟨rfl,rfl,rfl,rfl⟩:=h;refine⟨akO,d,rfl,?_⟩;simp only[oJ,pt,aN,fO,y5,e1,e2,b2,dB,oI,ae,true_and]
     cases h
    cases h
   cases h
  rename_i aN;rw[bX]at h;obtain⟨⟨bB,bV,cb⟩,h1,h⟩:=h;simp only[bw]at h;obtain⟨rfl,rfl,rfl,rfl⟩:=h;refine⟨OK,d,rfl,?_⟩;rw[fX];simp only[oJ,pt];rw[aX aN,h1];rfl
 ·rename_i d ki kZ oz lv mO n6 n7;rw[bX]at h;obtain⟨⟨bB,bV,cb⟩,h1,h⟩:=h;simp only[bw]at h;obtain⟨rfl,rfl,rfl,rfl⟩:=h;refine⟨OK,d,rfl,?_⟩;rw[fX];have xy:oJ P st ⟨some d,op,type,pos,after,guard⟩ ans=pt P st ⟨some d,op,type,pos,after,guard⟩ ans:=by
   unfold oJ;split
   ·rename_i e1 e2;exact (mO _ e2).elim
   ·rename_i e1 e2;cases e1
   rfl
  rw[xy];unfold pt;split
  all_goals first
   | exact (lv _ _ (by assumption)).elim
   | exact (mO _ (by assumption)).elim
   | exact (n6 _ _ _ (by assumption)).elim
   | exact (kZ _ _ _ (by assumption)).elim
   | exact (ki _ _ _ (by assumption)).elim
   | exact (oz _ _ _ _ (by assumption)).elim
   | exact (n7 _ _ _ _ _ (by assumption)).elim
   | (simp_all;done)
   | (exfalso;rename_i e;subst e;simp[pD]at h1)
   | (exfalso;simp_all[pD])
 ·rename_i ty s y;split at h
  ·rename_i hh vs v i e1 e2 b2;split at h
   ·rename_i ad;simp only[aQ,bw]at h;obtain⟨rfl,rfl,rfl,rfl⟩:=h;refine⟨akP,s,rfl,?_⟩;simp only[oJ,DY,e1,e2,b2];rw[a6 ad]
   cases h
  cases h
 cases h
theorem Rel.weaken{w0:ev}{bn:aE}{a:Act}{w:World}(h:Rel w0 st a w)(aL:bn.env.length=st.env.length)(ah:bn.boxes=st.boxes)
  (he:∀(i:Nat) (p:aB),bn.env[i]?=some p->p=.cc\/st.env[i]?=some p):Rel w0 bn a w:=by
 obtain⟨ω,τ,h⟩:=h;refine⟨ω,τ,h.defers,h.size.trans aL.symm,h.below,h.owned,h.fixed,h.pinned,fun i p hp=>?_,by rw[ah];exact h.boxes⟩;rcases he i p hp with rfl | U
 ·have:i<a.tmps.size:=by
   rw[h.size,<-aL];exact (dK.1 hp).1
  exact⟨a.tmps[i],by simp[this],aj⟩
 exact h.env i p U
def df.gL(e:df)(t:Nat):Option aB:=if e.dst=some t then some e.p else if t∈e.use then some .cc else none
def rv(env:List aB):List Nat->List aB
 | s::us=>rv (env.set s .cc) us
 | []=>env
theorem JL:∀(us:List Nat) (env:List aB),(rv env us).length=env.length
 | [],env=>rfl
 | s::us,env=>by simp[rv,JL us]
theorem Qg:∀(us:List Nat) (env:List aB) (t:Nat),(rv env us)[t]?=(env[t]?).map fun p=>if t∈us then .cc else p
 | [],env,t=>by simp[rv]
 | s::us,env,t=>by
  simp only[rv,Qg us,iS,dG];by_cases h:s=t
  ·subst h;by_cases af:s<env.length
   ·simp[af]
   simp[af]
  rw[aX h];have gq:¬t=s:=fun e=>h e.symm
  simp only[gq,false_or]
def df.apply(e:df)(env:List aB):List aB:=
 match e.dst with
 | some d=>(rv env e.use).set d e.p
 | none=>env
theorem df.apply_get(ax:e.dst≠none)(env:List aB)(t:Nat):(e.apply env)[t]?=(env[t]?).map fun p=>(e.gL t).getD p:=by
 unfold df.apply df.gL;split
 ·rename_i d dC;have ae:∀(t:Nat),(rv env e.use)[t]?=(env[t]?).map fun p=>if t∈e.use then .cc else p:=Qg e.use env
  rw[iS,ae t];by_cases h:d=t
  ·subst h;by_cases af:d<env.length
   ·have:d<(rv env e.use).length:=by rw[JL];exact af
    simp[this,af,dC]
   have:¬d<(rv env e.use).length:=by rw[JL];exact af
   simp[this,af]
  rw[aX h];cases Xq:env[t]? with
  | none=>simp
  | some p=>
   have b5:¬(e.dst=some t):=by rw[dC];simpa using h
   simp only[mn,aQ,aX b5];by_cases hu:t∈e.use
   ·simp[hu]
   simp[hu]
 exact absurd ‹_› ax
def hv(L:Nat->Bool)(t:Nat):Nat->List df->aB->aB
 | _,[],acc=>acc
 | k,e::es,acc=>hv L t (k+1) es (if L k then (e.gL t).getD acc else acc)
variable{L:Nat->Bool}
theorem AM{L':Nat->Bool}:∀{es:List df} {k:Nat} {acc:aB},(∀(j:Nat) (e:df),es[j]?=some e->e.gL t≠none->L (k+j)=L' (k+j))->hv L t k es acc=hv L' t k es acc
 | [],_,_,_=>rfl
 | e::es,k,acc,h=>by
  simp only[hv];have bm:(if L k then (e.gL t).getD acc else acc)=(if L' k then (e.gL t).getD acc else acc):=by
   cases bt:e.gL t with
   | none=>simp
   | some p=>have:=h 0 e rfl (by simp[bt]);rw[mq]at this;rw[this]
  rw[bm];exact AM fun j e' aM bt=>by have:=h (j+1) e' (by simpa using aM) bt;rwa[show k+(j+1)=k+1+j by omega]at this
theorem Qh{p:aB}:∀{es:List df} {k i:Nat} {acc:aB} {e:df},es[i]?=some e->e.gL t=some p->L (k+i)=true->
  (∀(j:Nat) (e':df),i<j->es[j]?=some e'->e'.gL t≠none->L (k+j)=false)->hv L t k es acc=p
 | [],_,_,_,_,h,_,_,_=>by simp at h
 | bE::es,k,0,acc,e,h,bt,fv,gi=>by
  simp at h;subst h;simp only[hv];rw[mq]at fv;rw[fv,bt];simp only[fO,hl];have:∀(es:List df) (k:Nat),(∀(j:Nat) (e':df),es[j]?=some e'->e'.gL t≠none->L (k+j)=false)->hv L t k es p=p:=by
   intro es;induction es with
   | nil=>intro k _;rfl
   | cons e1 es dt=>
    intro k h;simp only[hv];have h1:(if L k then (e1.gL t).getD p else p)=p:=by
     cases bt:e1.gL t with
     | none=>simp
     | some q=>have:=h 0 e1 rfl (by simp[bt]);rw[mq]at this;simp[this]
    rw[h1];exact dt (k+1) fun j e' aM zX=>by have:=h (j+1) e' (by simpa using aM) zX;rwa[show k+(j+1)=k+1+j by omega]at this
  exact this es (k+1) fun j e' aM zX=>by have:=gi (j+1) e' (by omega) (by simpa using aM) zX;rwa[show k+(j+1)=k+1+j by omega]at this
 | bE::es,k,i+1,acc,e,h,bt,fv,gi=>by
  simp only[hv];exact Qh (i:=i) (by simpa using h) bt (by rwa[show k+1+i=k+(i+1) by omega]) fun j e' aM zJ zX=>by
   have:=gi (j+1) e' (by omega) (by simpa using zJ) zX;rwa[show k+(j+1)=k+1+j by omega]at this
def e0(env0:List aB)(bs:List (Nat×List aC))(L:Nat->Bool)(es:List df):aE:=⟨env0.zipIdx.map fun x=>hv L x.2 0 es x.1,bs⟩
variable{bs:List (Nat×List aC)}
theorem qu{env0:List aB}{es:List df}(t:Nat):(e0 env0 bs L es).env[t]?=(env0[t]?).map fun p=>hv L t 0 es p:=by
 simp only[e0,c9,List.getElem?_zipIdx,c'];cases env0[t]?<;>rfl
theorem yh{env0:List aB}{es:List df}:(e0 env0 bs L es).env.length=env0.length:=by simp[e0]
def JM(ops:Array Oper)(o:Oper):Option Nat:=o.guard.bind fun x=>(ops[x.1]?).bind (·.dst)
def reads(ops:Array Oper)(o:Oper):List Nat:=o.op.operands.toList.filterMap OJ++(JM ops o).toList
def yi(d:Nat):df:=⟨some d,.one (.v undef),[],[]⟩
def ext(e:df)(env:List aB):df:=
 if e.nW.isEmpty then e else { e with use:=e.use++(env.zipIdx.filterMap fun x=>if x.1.eC e.nW&&!(e.dst==some x.2) then some x.2 else none) }
theorem EA(e:df)(env:List aB):∃u,ext e env={ e with use:=u }:=by
 unfold ext;split
 ·exact⟨e.use,rfl⟩
 exact⟨_,rfl⟩
structure ia where
 t:Nat
 i:Nat
 j:Nat
 k:Nat
 kT:Nat
 es:List (List D)
 esT:List (List D)
def Fi(t:Nat)(bs:List (Nat×List aC)):Option (Nat×List (List D)):=
 (bs.find? fun x=>(x.2.findSome? (tf t)).isSome).bind fun x=>(dj x.1 bs).bind fun ls=>ls.findSome? (tf t)
theorem akV{w0:ev}{a:Act}{w:World}{ω:Own}{τ:Nat->Nat×Value}(h:cx w0 st a w ω τ){kT:Nat}{esT:List (List D)}(e:Fi t st.boxes=some (kT,esT)):∃v,Sat w ω τ (.J (.own t) kT esT) v:=by
 unfold Fi at e;rw[mj]at e;obtain⟨x,_,e⟩:=e;rw[mj]at e;obtain⟨ls,ah,e⟩:=e;obtain⟨l,af,e⟩:=List.exists_of_findSome?_eq_some e;obtain⟨b,arr,ty,_,_,_,ae⟩:=h.boxes _ ls ah;obtain⟨n,aL⟩:=ng.1 af;obtain⟨u,_,hu⟩:=ae.2 n l aL;exact⟨u,Ib e hu⟩
def ry(st:aE)(o:Oper):Option ia:=
 match o.dst,o.op with
 | some _,.call ⟨.builtin .append,⟨[x,_]⟩,⟨[_,_]⟩⟩=>
  match (st.bk x).leaf with
  | some (.aO s i j k es .here)=>
   match Fi s st.boxes with
   | some (kT,esT)=>some ⟨s,i,j,k,kT,es,esT⟩
   | none=>none
  | _=>none
 | _,_=>none
def uR(P:Program)(st:aE)(o:Oper)(ans:List b4):Option (df×List b4×List Prop):=
 match ry st o,o.dst,o.op with
 | some v,some d,.call ⟨.builtin .append,⟨[_,y]⟩,⟨[t,c4]⟩⟩=>
  if t=c4 then (tu P t v.t v.i v.j v.k v.es v.esT (st.bk y) ans).map fun r=>(⟨some d,r.1,[],[]⟩,r.2.1,r.2.2) else none
 | _,_,_=>none
def ia.fix(v:ia):aC->Option (List Prop)
 | .J (.own s) dp dx=>if s=v.t then (if dp=v.kT then some [dx=v.esT] else none) else some []
 | .ep (.own s) dp dx _ _=>if s=v.t then (if dp=v.kT then some [dx=v.esT] else none) else some []
 | .J (.ro s) _ _=>if s=v.t then none else some []
 | .ep (.ro s) _ _ _ _=>if s=v.t then none else some []
 | .aO s a b dp dx m=>if s=v.t/\b=v.j then (if dp=v.k/\m.home=true then some [a=v.i,dx=v.es] else none) else some []
 | .fk _ _=>none
 | _=>some []
def ia.nj(v:ia)(l:aC):Prop:=hx v.t v.i v.j v.k v.es v.kT v.esT l=l/\∀a∈l.idx v.t v.j,a=v.i
theorem ia.WK{v:ia}{l:aC}(h:v.fix l=some obs)(aN:cB obs):v.nj l:=by
 obtain⟨t,i,j,k,kT,es,esT⟩:=v;unfold ia.nj;simp only;cases l with
 | J g dp dx=>
  refine⟨?_,fun a ag=>by simp[aC.idx]at ag⟩;cases g with
  | free=>rfl
  | own s=>
   simp only[ia.fix]at h;split at h
   ·rename_i ae;subst ae;split at h
    ·rename_i hk;subst hk;cases h;have e:dx=esT:=aN.1;subst e;simp[hx]
    cases h
   rename_i ae;simp[hx,ae]
  | ro s=>
   simp only[ia.fix]at h;split at h
   ·cases h
   rename_i ae;simp[hx,ae]
 | ep g dp dx x y=>
  refine⟨?_,fun a ag=>by simp[aC.idx]at ag⟩;cases g with
  | free=>rfl
  | own s=>
   simp only[ia.fix]at h;split at h
   ·rename_i ae;subst ae;split at h
    ·rename_i hk;subst hk;cases h;have e:dx=esT:=aN.1;subst e;simp[hx]
    cases h
   rename_i ae;simp[hx,ae]
  | ro s=>
   simp only[ia.fix]at h;split at h
   ·cases h
   rename_i ae;simp[hx,ae]
 | aO s a b dp dx m=>
  simp only[ia.fix]at h;split at h
  ·rename_i ae;obtain⟨rfl,rfl⟩:=ae;split at h
   ·rename_i hk;cases h;have e1:a=i:=aN.1;have e2:dx=es:=aN.2.1;subst e1;subst e2;refine⟨?_,fun x aa=>?_⟩
    ·obtain⟨rfl,hm⟩:=hk;simp[hx,hm]
    simpa[aC.idx]using aa
   cases h
  rename_i ae;refine⟨?_,fun x aa=>?_⟩
  ·simp only[hx];rw[aX ae]
  simp[aC.idx,ae]at aa
 | fk t vs=>cases h
 | _=>exact⟨rfl,fun a ag=>by simp[aC.idx]at ag⟩
def bd.tV:bd->List aC
 | .one l=>[l]
 | .agg ls=>ls
def aB.tV:aB->List aC
 | .aD a=>a.tV
 | .fM as=>as.flatMap bd.tV
theorem bd.Am{p:aC->Prop}{a:bd}(h:∀l∈a.tV,p l):a.lh p:=by
 cases a with
 | one l=>exact h l (by simp[bd.tV])
 | agg ls=>exact h
theorem aB.Am{p:aC->Prop}{q:aB}(h:∀l∈q.tV,p l):q.lh p:=by
 cases q with
 | aD a=>exact bd.Am h
 | fM as=>exact fun a ag=>bd.Am fun l af=>h l (jN.2 ⟨a,ag,af⟩)
def ia.fixes(v:ia):List aC->Option (List Prop)
 | []=>some []
 | l::r=>
  match v.fix l,ia.fixes v r with
  | some a,some b=>some (a++b)
  | _,_=>none
theorem ia.MY{v:ia}:∀{ls:List aC} {obs:List Prop},v.fixes ls=some obs->cB obs->∀l∈ls,v.nj l
 | [],_,_,_,l,af=>by cases af
 | ej::r,obs,h,aN,l,af=>by
  simp only[ia.fixes]at h;split at h
  ·rename_i a b h1 U;cases h;obtain⟨cd,bY⟩:=aN.append;rcases dG.1 af with rfl | af
   ·exact ia.WK h1 cd
   exact ia.MY U bY l af
  cases h
def y3(bs:List (Nat×List aC))(all:Nat->List aC):Nat->List Oper->List aB->List df->Option (List Prop)
 | i,o::os,env,e::es=>
  match ry ⟨env,bs⟩ o with
  | some v=>
   match v.fixes (all i),y3 bs all (i+1) os (e.apply env) es with
   | some a,some b=>some (a++b)
   | _,_=>none
  | none=>y3 bs all (i+1) os (e.apply env) es
 | _,_,_,_=>some []
theorem Qi{all:Nat->List aC}:∀{l:List Oper} {es:List df} {env:List aB} {i0:Nat} {obs:List Prop},y3 bs all i0 l env es=some obs->cB obs->
  ∀(i:Nat) (o:Oper),l[i]?=some o->i<es.length->∀v,ry ⟨(es.take i).foldl (fun env e=>e.apply env) env,bs⟩ o=some v->∀kH∈all (i0+i),v.nj kH
 | [],_,_,_,_,_,_,i,o,hi,_,_,_,_,_=>by simp at hi
 | _::_,[],_,_,_,_,_,i,o,_,af,_,_,_,_=>by simp at af
 | Aq::os,e::es,env,i0,obs,h,aN,i,o,hi,af,v,bj,kH,C1=>by
  simp only[y3]at h;cases i with
  | zero=>
   simp only[iy,aQ]at hi;subst hi;simp only[List.take_zero,List.foldl_nil]at bj;rw[bj]at h;simp only at h;split at h
   ·rename_i a b h1 U;cases h;exact ia.MY h1 aN.append.1 kH C1
   cases h
  | succ i=>
   have go:∀{b:List Prop},y3 bs all (i0+1) os (e.apply env) es=some b->cB b->v.nj kH:=fun U bY=>
    Qi U bY i o (by simpa using hi) (by simpa using af) v (by simpa using bj) kH (by rw[show i0+1+i=i0+(i+1) by omega];exact C1)
   split at h
   ·split at h
    ·rename_i a b h1 U;cases h;exact go U aN.append.2
    cases h
   exact go h aN
def uu(P:Program)(ops:Array Oper)(gs:List Nat)(bs:List (Nat×List aC)):List Oper->List aB->List b4->Option (List df×List aB×List b4×List Prop)
 | [],env,ans=>some ([],env,ans,[])
 | o::rest,env,ans=>
  match rr ops ⟨env,bs⟩ o [] with
  | some (true,_,_,_)=>
   match se P ⟨env,bs⟩ o ans with
   | some (e,_,fg,fS)=>
    match (match o.dst with | some d=>gs.contains d | none=>false),e.p.leaf,fg with
    | true,some (.bg c),.o1 b::r=>
     (uu P ops gs bs rest (df.apply { ext e env with p:=.one (.v (.bool b)) } env) r).map fun x=>({ ext e env with p:=.one (.v (.bool b)) }::x.1,x.2.1,x.2.2.1,(c=b)::(fS++x.2.2.2))
    | _,_,_=>(uu P ops gs bs rest ((ext e env).apply env) fg).map fun x=>(ext e env::x.1,x.2.1,x.2.2.1,fS++x.2.2.2)
   | none=>
    match uR P ⟨env,bs⟩ o ans with
    | some (e,fg,fS)=>(uu P ops gs bs rest (e.apply env) fg).map fun x=>(e::x.1,x.2.1,x.2.2.1,fS++x.2.2.2)
    | none=>none
  | some (false,_,_,_)=>
   match o.dst with
   | some d=>(uu P ops gs bs rest ((yi d).apply env) ans).map fun x=>(yi d::x.1,x.2.1,x.2.2.1,x.2.2.2)
   | none=>none
  | none=>none
def Fact(P:Program)(ops:Array Oper)(bs:List (Nat×List aC))(env:List aB)(o:Oper)(e:df):Prop:=
 (∃st1 ff cd,rr ops ⟨env,bs⟩ o []=some (false,st1,ff,cd)/\∃d,o.dst=some d/\e=yi d)\/
 (∃st1 ff cd,rr ops ⟨env,bs⟩ o []=some (true,st1,ff,cd)/\∃ans bE g ch obs,se P ⟨env,bs⟩ o ans=some (bE,g,ch,obs)/\cB obs/\
  ∃u,(e={ bE with use:=u }\/∃c b,bE.p=.one (.bg c)/\c=b/\e={ bE with use:=u,p:=.one (.v (.bool b)) }))\/
 (∃st1 ff cd,rr ops ⟨env,bs⟩ o []=some (true,st1,ff,cd)/\∃ans ch obs,uR P ⟨env,bs⟩ o ans=some (e,ch,obs)/\cB obs)
theorem AN{ops:Array Oper}{gs:List Nat}:∀{l:List Oper} {env tC:List aB} {ans ch:List b4} {es:List df} {obs:List Prop},
  uu P ops gs bs l env ans=some (es,tC,ch,obs)->cB obs->
  es.length=l.length/\tC=es.foldl (fun env e=>e.apply env) env/\∀(i:Nat) (o:Oper),l[i]?=some o->∃e,es[i]?=some e/\Fact P ops bs ((es.take i).foldl (fun env e=>e.apply env) env) o e
 | [],env,tC,ans,ch,es,obs,h,_=>by
  simp only[uu,aQ,bw]at h;obtain⟨rfl,rfl,_,_⟩:=h;exact⟨rfl,rfl,fun i o aN=>by simp at aN⟩
 | o::rest,env,tC,ans,ch,es,obs,h,aN=>by
  have fin:∀(e:df) (dx:List df) (Gf:List aB),(dx.length=rest.length/\Gf=dx.foldl (fun env e=>e.apply env) (e.apply env)/\∀(i:Nat) (o:Oper),rest[i]?=some o->∃e',dx[i]?=some e'/\Fact P ops bs ((dx.take i).foldl (fun env e=>e.apply env) (e.apply env)) o e')->
    Fact P ops bs env o e->(e::dx).length=(o::rest).length/\Gf=(e::dx).foldl (fun env e=>e.apply env) env/\∀(i:Nat) (pg:Oper),(o::rest)[i]?=some pg->∃e',(e::dx)[i]?=some e'/\Fact P ops bs (((e::dx).take i).foldl (fun env e=>e.apply env) env) pg e':=by
   intro e dx Gf ⟨h1,U,au⟩ bl;refine⟨by simp[h1],U,fun i pg kD=>?_⟩;cases i with
   | zero=>simp at kD;subst kD;exact⟨e,rfl,bl⟩
   | succ i=>exact au i pg (by simpa using kD)
  simp only[uu]at h;split at h
  ·rename_i st1 ff cd hw;split at h
   ·rename_i e g fg fS ax;split at h
    ·rename_i c b r ao af;rw[bX]at h;obtain⟨⟨kp,gM,hY,pK⟩,h1,h⟩:=h;simp only[bw]at h;obtain⟨rfl,rfl,_,rfl⟩:=h;have Ou:(c=b)/\cB pK:=⟨aN.1,(cB.append aN.2).2⟩
     have Ar:=(cB.append aN.2).1;refine fin _ _ _ (AN h1 Ou.2) (.inr (.inl ⟨_,_,_,hw,_,_,_,_,_,ax,Ar,(EA e env).choose,.inr ⟨c,b,?_,?_,?_⟩⟩))
     ·cases hp:e.p with
      | aD a=>
       rw[hp]at af;cases a with
       | one l=>simp only[aB.leaf,aQ]at af;rw[af]
       | agg ls=>cases af
      | fM as=>rw[hp]at af;cases af
     ·exact Ou.1
     conv=>lhs;rw[(EA e env).choose_spec]
    rw[bX]at h;obtain⟨⟨kp,gM,hY,pK⟩,h1,h⟩:=h;simp only[bw]at h;obtain⟨rfl,rfl,_,rfl⟩:=h;obtain⟨Ar,bY⟩:=aN.append;exact fin _ _ _ (AN h1 bY) (.inr (.inl ⟨_,_,_,hw,_,_,_,_,_,ax,Ar,(EA e env).choose,.inl (EA e env).choose_spec⟩))
   split at h
   ·rename_i e fg fS zV;rw[bX]at h;obtain⟨⟨kp,gM,hY,pK⟩,h1,h⟩:=h;simp only[bw]at h;obtain⟨rfl,rfl,_,rfl⟩:=h;obtain⟨Ar,bY⟩:=aN.append;exact fin _ _ _ (AN h1 bY) (.inr (.inr ⟨_,_,_,hw,_,_,_,zV,Ar⟩))
   cases h
  ·rename_i st1 ff cd hw;split at h
   ·rename_i d ax;rw[bX]at h;obtain⟨⟨kp,gM,hY,pK⟩,h1,h⟩:=h;simp only[bw]at h;obtain⟨rfl,rfl,_,rfl⟩:=h;exact fin _ _ _ (AN h1 aN) (.inl ⟨_,_,_,hw,d,ax,rfl⟩)
   cases h
  cases h
end Go.Sx
namespace Go.Sx
open Go.RowKit
variable{st bn:aE}
theorem Qj{parts:List (Nat×Operand)}(h:∀x∈parts,st.bk x.2=bn.bk x.2):(parts.map fun x=>(x.1,st.bk x.2))=parts.map fun x=>(x.1,bn.bk x.2):=
 kr fun x aa=>by rw[h x aa]
variable{P:Program}{ans:List b4}
theorem Qk{op:Op}(ah:st.boxes=bn.boxes)(h:∀x∈op.operands.toList,st.bk x=bn.bk x):pD P st op ans=pD P bn op ans:=by
 cases op<;>simp only[pD,Op.operands,dG,List.mem_nil_iff,forall_eq_or_imp,or_false,forall_eq]at h ⊢
 case load t x=>simp only[DG,h,ah]
 case slice t x cV hi ja=>
  have aa:st.bk x=bn.bk x:=h x (by simp);have aN:∀o:Option Operand,(∀y,o=some y->st.bk y=bn.bk y)->l3 st o=l3 bn o:=by
   intro o aN;cases o with
   | none=>rfl
   | some y=>simp only[l3,aN y rfl]
  simp only[DH,aa];rw[aN cV (fun y e=>h y (by simp[e])),aN hi (fun y e=>h y (by simp[e]))]
 case build t cw=>
  have:(cw.toList.map fun x=>(x.1,st.bk x.2))=cw.toList.map fun x=>(x.1,bn.bk x.2):=Qj fun x aa=>h x.2 (by simp;exact⟨x.1,by simpa using aa⟩)
  simp only[DI,this]
 case call c=>
  obtain⟨callee,args,ts⟩:=c;cases callee with
  | value f=>rfl
  | invoke r i=>rfl
  | builtin b=>
   simp only[Call.operands]at h;have gq:∀x∈args.toList,st.bk x=bn.bk x:=fun x aa=>h x (by simpa using aa)
   simp only;generalize args.toList=l at gq;unfold DL;split
   ·rw[gq _ (by simp)]
   ·rw[gq _ (by simp),gq _ (by simp)]
   ·rw[gq _ (by simp),gq _ (by simp)]
   rfl
 case makeFunc fn first captured=>
  have ad:captured.toList.map st.bk=captured.toList.map bn.bk:=kr fun x aa=>h x (by simp;right;simpa using aa)
  simp only[DK,ad]
 all_goals simp[h]
variable{o:Oper}
theorem akW(ah:st.boxes=bn.boxes)(h:∀x∈o.op.operands.toList,st.bk x=bn.bk x):se P st o ans=se P bn o ans:=by
 obtain⟨dst,op,type,pos,after,guard⟩:=o;simp only at h;cases dst with
 | none=>
  cases op with
  | store ty x y=>
   cases x with
   | tmp s=>
    have aa:st.bk (.tmp s)=bn.bk (.tmp s):=h (.tmp s) (by simp[Op.operands]);have a1:st.bk y=bn.bk y:=h y (by simp[Op.operands]);simp only[aE.bk]at aa;simp only[se,aa,a1]
   | _=>rfl
  | _=>rfl
 | some d=>
  unfold se;split
  ·rename_i f args ts e1 e2;simp only at e1 e2;subst e2;have gq:∀x∈args.toList,st.bk x=bn.bk x:=fun x aa=>h x (by simp[Op.operands,Call.operands];right;simpa using aa)
   have:args.toList.mapM (fun x=>(st.bk x).jR st.boxes)=args.toList.mapM (fun x=>(bn.bk x).jR bn.boxes):=by
    rw[<-ah];generalize args.toList=l at gq;generalize st.boxes=bs;induction l with
    | nil=>rfl
    | cons x l dt=>simp only[xh,gq x (by simp),dt fun y a1=>gq y (by simp[a1])]
   rw[this]
  ·rename_i t n parts e1 e2;simp only at e1 e2;subst e2;have:(parts.toList.map fun x=>(x.1,st.bk x.2))=parts.toList.map fun x=>(x.1,bn.bk x.2):=Qj fun x aa=>h x.2 (by simp[Op.operands];exact⟨x.1,by simpa using aa⟩)
   simp only[Cy,this]
  ·rename_i x y t c4 e1 e2;simp only at e1 e2;subst e2;have aa:st.bk x=bn.bk x:=h x (by simp[Op.operands,Call.operands]);have a1:st.bk y=bn.bk y:=h y (by simp[Op.operands,Call.operands]);simp only[zm,aa,a1]
  ·rfl
  ·rfl
  ·rename_i t l c e1 e2;simp only at e1 e2;subst e2;rw[h l (by simp[Op.operands]),h c (by simp[Op.operands])]
  ·rename_i t x cV hi ja e1 e2;simp only at e1 e2;subst e2;have aa:st.bk x=bn.bk x:=h x (by simp[Op.operands]);have aN:∀o:Option Operand,(∀y,o=some y->st.bk y=bn.bk y)->l3 st o=l3 bn o:=by
    intro o aN;cases o with
    | none=>rfl
    | some y=>simp only[l3,aN y rfl]
   rw[Qk ah h];simp only[Ga,aa];rw[aN cV (fun y e=>h y (by simp[Op.operands,e])),aN hi (fun y e=>h y (by simp[Op.operands,e]))]
  ·rw[Qk ah h]
  ·rename_i e1 e2;cases e1
  rfl
theorem MX{x:Operand}(h:∀t,OJ x=some t->st.env.getD t .cc=bn.env.getD t .cc):st.bk x=bn.bk x:=by
 cases x with
 | tmp t=>simpa[aE.bk]using h t rfl
 | _=>rfl
def mw(ms:List Nat)(i j:Nat):Bool:=(ms.getD j 0).testBit i
def wk(ms:List Nat):List Edge->Nat
 | []=>0
 | e::r=>if Region.binds .any e then (2 ^ e.on ||| ms.getD e.on 0) ||| wk ms r else wk ms r
def rl:List Oper->List Nat->List Nat
 | [],acc=>acc
 | o::r,acc=>rl r (acc++[wk acc o.after.toList])
variable{ms:List Nat}{i:Nat}
theorem JN:∀{l:List Edge},(wk ms l).testBit i=true->∃e∈l,Region.binds .any e=true/\(i=e.on\/mw ms i e.on=true)
 | [],h=>by simp[wk]at h
 | e::r,h=>by
  simp only[wk]at h;split at h
  ·rename_i ah;rw[Nat.testBit_or,Nat.testBit_or,lL,lL,Nat.testBit_two_pow,ci]at h;rcases h with (h | h) | h
   ·exact⟨e,by simp,ah,.inl h.symm⟩
   ·exact⟨e,by simp,ah,.inr h⟩
   obtain⟨e',h1,U⟩:=JN h;exact⟨e',by simp[h1],U⟩
  obtain⟨e',h1,U⟩:=JN h;exact⟨e',by simp[h1],U⟩
def qT{α:Type}(f:Nat->α->Bool):Nat->List α->Bool
 | _,[]=>true
 | k,x::r=>f k x&&qT f (k+1) r
theorem wl{α:Type}{f:Nat->α->Bool}:∀{l:List α} {k:Nat},qT f k l=true->∀(i:Nat) (x:α),l[i]?=some x->f (k+i) x=true
 | [],_,_,i,x,h=>by simp at h
 | y::r,k,h,0,x,aa=>by
  simp only[qT,ca]at h;simp at aa;subst aa;exact h.1
 | y::r,k,h,i+1,x,aa=>by
  simp only[qT,ca]at h;have:=wl h.2 i x (by simpa using aa);rwa[show k+1+i=k+(i+1) by omega]at this
def rz(ms:List Nat)(os:List Oper):Bool:=
 qT (fun j o=>ms.getD j 0==wk ms o.after.toList&&o.after.toList.all fun e=>!Region.binds .any e||decide (e.on<j)) 0 os
variable{ops:Array Oper}
theorem JO(h:rz ms ops.toList=true){j:Nat}(aN:ops[j]?=some o):(∀e∈o.after,Region.binds .any e=true->e.on<j)/\
  ∀i,mw ms i j=true->∃e∈o.after,Region.binds .any e=true/\(i=e.on\/mw ms i e.on=true):=by
 have:=wl h j o (by simpa using aN);simp only[c',ca,eu,fN,lL,fr,ci]at this;refine⟨fun e he ah=>(this.2 e (by simpa using he)).resolve_left (by simp[ah]),fun i hi=>?_⟩;unfold mw at hi;rw[this.1]at hi;obtain⟨e,h1,U⟩:=JN hi;exact⟨e,by simpa using h1,U⟩
def qv(ops:Array Oper)(bP:Array Bool):Prop:=
 ∀(j:Nat) (o:Oper),bP.getD j false=true->ops[j]?=some o->∀e∈o.after,Region.binds .any e=true->bP.getD e.on false=true
variable{bP:Array Bool}
theorem EB{j:Nat}(h:bP.getD j false=true):j<bP.size:=by
 rcases lN j bP.size with gq | gq
 ·exact gq
 simp[zg gq]at h
theorem EC(h:rz ms ops.toList=true)(ad:qv ops bP)(ae:bP.size=ops.size):∀(j:Nat),bP.getD j false=true->mw ms i j=true->bP.getD i false=true:=by
 intro j;induction j using Nat.strongRecOn with
 | ind j dt=>
  intro aM ag;have bq:j<ops.size:=ae▸EB aM;have aN:ops[j]?=some ops[j]:=gN bq;obtain⟨h1,U⟩:=JO h aN;obtain⟨e,he,ah,lU⟩:=U i ag;have tM:=ad j _ aM aN e he ah;rcases lU with rfl | lU
  ·exact tM
  exact dt e.on (h1 e he ah) tM lU
variable{k:Nat}
theorem AO(h:rz ms ops.toList=true)(ad:qv ops bP)(ae:bP.size=ops.size)(hi:i∈Region.ready .any ops bP)(ag:mw ms k i=true):bP.getD k false=true:=by
 rw[mem_ready]at hi;obtain⟨_,o,aN,he⟩:=hi;obtain⟨_,U⟩:=JO h aN;obtain⟨e,tL,ah,lU⟩:=U k ag;rcases lU with rfl | lU
 ·exact he e tL ah
 exact EC h ad ae _ (he e tL ah) lU
theorem qv.ready(ad:qv ops bP)(hi:i∈Region.ready .any ops bP):qv ops (bP.setIfInBounds i true):=by
 intro j o aM aN e he ah;rw[mem_ready]at hi;obtain⟨_,asf,Yj,mE⟩:=hi;by_cases lV:i=j
 ·subst lV;rw[Yj]at aN;cases aN;exact getD_set_true (mE e he ah)
 rw[getD_set_ne false lV]at aM;exact getD_set_true (ad j o aM aN e he ah)
theorem JP(h:rz ms ops.toList=true)(ae:bP.size=ops.size)(ar:Region.ready .any ops bP=[]):∀j,j<ops.size->bP.getD j false=true:=by
 intro j;induction j using Nat.strongRecOn with
 | ind j dt=>
  intro bq;have aN:ops[j]?=some ops[j]:=gN bq;obtain⟨h1,_⟩:=JO h aN;cases af:bP.getD j false with
  | true=>rfl
  | false=>
   have:j∈Region.ready .any ops bP:=by
    rw[mem_ready];refine⟨?_,_,aN,fun e he ah=>dt e.on (h1 e he ah) (Nat.lt_trans (h1 e he ah) bq)⟩;have X6:j<bP.size:=ae▸bq;simp[gN X6]at af ⊢;exact af
   rw[ar]at this;cases this
def AP(e:df):List Nat:=e.dst.toList++e.use
def ED(ops:Array Oper)(o:Oper)(e:df):List Nat:=AP e++reads ops o
def Dq(ms:List Nat)(i k:Nat):Bool:=if k<i then mw ms k i else mw ms i k
def JQ(ops:Array Oper)(ms:List Nat)(es:List df):Bool:=
 qT (fun i x=>qT (fun k e=>k==i||Dq ms i k||!((AP e).any fun t=>(ED ops x.1 x.2).contains t)) 0 es) 0 (ops.toList.zip es)
def yj(ms:List Nat)(es:List df)(i cV:Nat)(s:Option Nat):Bool:=es.zipIdx.any fun y=>decide (cV<=y.2)&&mw ms y.2 i&&(match s with | some t=>y.1.use.contains t | none=>false)
variable{es:List df}
theorem Ql{cV:Nat}{s:Option Nat}(h:yj ms es i cV s=true):∃m y t,es[m]?=some y/\cV<=m/\mw ms m i=true/\t∈y.use/\s=some t:=by
 unfold yj at h;rw[lg]at h;obtain⟨⟨y,m⟩,h1,U⟩:=h;rw[List.mem_zipIdx_iff_getElem?]at h1;simp only[ca,ci]at U;cases s with
 | none=>simp at U
 | some t=>exact⟨m,y,t,h1,U.1.1,U.1.2,by simpa using U.2,rfl⟩
def JR(ms:List Nat)(es:List df)(env0:List aB)(bs:List (Nat×List aC)):Bool:=
 qT (fun i e=>e.nW.isEmpty||
  (qT (fun j x=>j==i||mw ms i j||!x.p.eC e.nW||(match x.dst with | some t=>e.use.contains t | none=>false)||x.dst==e.dst||yj ms es i (j+1) x.dst) 0 es&&
   qT (fun t p=>!p.eC e.nW||e.use.contains t||yj ms es i 0 (some t)||e.dst==some t) 0 env0&&
   bs.all fun x=>!x.2.any (aC.eC e.nW))) 0 es
variable{e:df}
theorem Qm{t:Nat}(h:e.gL t≠none):t∈AP e:=by
 unfold df.gL at h;split at h
 ·rename_i ax;simp[AP,ax]
 split at h
 ·rename_i hu;simp[AP,hu]
 exact absurd rfl h
theorem Qn(h:JQ ops ms es=true){my Ge:df}(aN:ops[i]?=some o)(hi:es[i]?=some my)(hk:es[k]?=some Ge)(b5:k≠i){t:Nat}
  (bt:Ge.gL t≠none) (aL:t∈ED ops o my):Dq ms i k=true:=by
 have h1:=wl h i (o,my) (by
  rw[List.getElem?_zip_eq_some];exact⟨by simpa using aN,hi⟩)
 have U:=wl h1 k Ge hk;simp only[c',lL,eu,fr]at U;rcases U with (U | U) | U
 ·exact absurd U b5
 ·exact U
 rw[eW]at U;have:=U t (Qm bt);simp only[List.contains_iff_mem]at this;exact absurd aL this
variable{r:gp}
theorem Tag.pf(h:r.isEmpty=true)(t:Tag):t.eC r=false:=by
 cases t with
 | free=>rfl
 | own s=>rw[List.isEmpty_iff]at h;subst h;rfl
 | ro s=>rw[List.isEmpty_iff]at h;subst h;rfl
theorem aC.pf(h:r.isEmpty=true)(l:aC):l.eC r=false:=by
 cases l with
 | aO t i j k es m=>exact Tag.pf h (.own t)
 | fk t vs=>
  simp only[aC.eC,gz];refine⟨Tag.pf h (.own t),eW.2 fun c _=>?_⟩;cases c with
  | cc=>simp[eS.eC]
  | v x=>simp[eS.eC]
  | J t k es=>simp[eS.eC,Tag.pf h]
 | _=>simp[aC.eC,Tag.pf h]
theorem bd.pf(h:r.isEmpty=true)(a:bd):a.eC r=false:=by
 cases a<;>simp[bd.eC,aC.pf h]
theorem aB.pf(h:r.isEmpty=true)(p:aB):p.eC r=false:=by
 cases p<;>simp[aB.eC,bd.pf h]
variable{bs:List (Nat×List aC)}
theorem akX{env0:List aB}(h:JR ms es env0 bs=true)(hi:es[i]?=some e):
  (∀(j:Nat) (x:df),es[j]?=some x->j≠i->mw ms i j=true\/x.p.eC e.nW=false\/(∃t,x.dst=some t/\t∈e.use)\/x.dst=e.dst\/yj ms es i (j+1) x.dst=true)/\
  (∀(t:Nat) (p:aB),env0[t]?=some p->((p.eC e.nW=false\/t∈e.use)\/yj ms es i 0 (some t)=true)\/e.dst=some t)/\∀x∈bs,x.2.any (aC.eC e.nW)=false:=by
 have h1:=wl h i e hi;simp only[lL,ci]at h1;rcases h1 with h1 | h1
 ·refine⟨fun j x _ _=>.inr (.inl (aB.pf h1 _)),fun t p _=>.inl (.inl (.inl (aB.pf h1 _))),fun x _=>?_⟩;rw[eW];intro l _;simp[aC.pf h1]
 simp only[ca]at h1;obtain⟨⟨h1,U⟩,au⟩:=h1;refine⟨fun j x aa b5=>?_,fun t p hp=>?_,fun x aa=>?_⟩
 ·have:=wl h1 j x aa;simp only[c',lL,eu,fr,ca]at this;rcases this with ((((aH | aH) | aH) | aH) | aH) | aH
  rotate_left 4
  ·exact .inr (.inr (.inr (.inl aH)))
  ·exact .inr (.inr (.inr (.inr aH)))
  ·exact absurd aH b5
  ·exact .inl aH
  ·exact .inr (.inl aH)
  refine .inr (.inr (.inl ?_));split at aH
  ·rename_i t bt;exact⟨t,bt,by simpa using aH⟩
  cases aH
 ·have:=wl U t p hp;simp only[c',lL,fr,List.contains_iff_mem,eu]at this;exact this
 rw[fN]at au;simpa using au x aa
theorem JS{L:Nat->Bool}{t:Nat}:∀{es:List df} {k:Nat} {acc:aB},(hv L t k es acc=acc/\∀(m:Nat) (y:df),es[m]?=some y->L (k+m)=true->y.gL t=none)\/hv L t k es acc=.cc\/
  ∃j e,es[j]?=some e/\L (k+j)=true/\e.dst=some t/\hv L t k es acc=e.p/\∀(m:Nat) (y:df),es[m]?=some y->j<m->L (k+m)=true->y.gL t=none
 | [],_,_=>.inl ⟨rfl,fun m y h=>by simp at h⟩
 | e::es,k,acc=>by
  simp only[hv];rcases JS (L:=L) (t:=t) (es:=es) (k:=k+1) (acc:=if L k then (e.gL t).getD acc else acc) with⟨h,aL⟩ | h | ⟨j,e',h1,U,au,aH,ba⟩
  ·have tail:∀(m:Nat) (y:df),(e::es)[m+1]?=some y->L (k+(m+1))=true->y.gL t=none:=fun m y a1 af=>aL m y (by simpa using a1) (by rwa[show k+1+m=k+(m+1) by omega])
   by_cases fv:L k=true
   ·rw[a6 fv]at h ⊢;unfold df.gL at h ⊢;by_cases ax:e.dst=some t
    ·rw[a6 ax]at h ⊢;refine .inr (.inr ⟨0,e,rfl,fv,ax,h,fun m y a1 hm af=>?_⟩);cases m with
     | zero=>omega
     | succ m=>exact tail m y a1 af
    rw[aX ax]at h ⊢;by_cases hu:t∈e.use
    ·rw[a6 hu]at h ⊢;exact .inr (.inl h)
    rw[aX hu]at h ⊢;refine .inl ⟨h,fun m y a1 af=>?_⟩;cases m with
    | zero=>
     simp only[iy,aQ]at a1;subst a1;rw[aX ax,aX hu]
    | succ m=>exact tail m y a1 af
   rw[aX fv]at h ⊢;refine .inl ⟨h,fun m y a1 af=>?_⟩;cases m with
   | zero=>exact absurd af (by simpa using fv)
   | succ m=>exact tail m y a1 af
  ·exact .inr (.inl h)
  refine .inr (.inr ⟨j+1,e',by simpa using h1,by rwa[show k+(j+1)=k+1+j by omega],au,aH,fun m y a1 hm af=>?_⟩);cases m with
  | zero=>omega
  | succ m=>exact ba m y (by simpa using a1) (by omega) (by rwa[show k+1+m=k+(m+1) by omega])
theorem Qo{t:Nat}:∀{es:List df} {k i:Nat} {acc:aB} {e:df},es[i]?=some e->
  hv (fun j=>decide (j<k+i+1)) t k es acc=(e.gL t).getD (hv (fun j=>decide (j<k+i)) t k es acc)
 | [],_,_,_,_,h=>by simp at h
 | bE::es,k,0,acc,e,h=>by
  simp at h;subst h;have gi:∀(es:List df) (k m:Nat) (acc:aB),m<=k->hv (fun j=>decide (j<m)) t k es acc=acc:=by
   intro es;induction es with
   | nil=>intro k m acc _;rfl
   | cons e1 es dt=>
    intro k m acc hm;simp only[hv];rw[aX (by simpa using hm)];exact dt (k+1) m acc (by omega)
  simp only[hv];rw[a6 (by simp),aX (by simp),gi _ _ _ _ (by omega),gi _ _ _ _ (by omega)]
 | bE::es,k,i+1,acc,e,h=>by
  simp only[hv];rw[a6 (by simp;omega),a6 (by simp)];have:=Qo (t:=t) (es:=es) (k:=k+1) (i:=i) (acc:=(bE.gL t).getD acc) (by simpa using h);rw[show k+1+i+1=k+(i+1)+1 by omega,show k+1+i=k+(i+1) by omega]at this;exact this
theorem EE{env0:List aB}{bs:List (Nat×List aC)}(ax:∀(i:Nat) (e:df),es[i]?=some e->e.dst≠none):∀(i:Nat),i<=es.length->
  (es.take i).foldl (fun env e=>e.apply env) env0=(e0 env0 bs (fun j=>decide (j<i)) es).env
 | 0,_=>by
  apply List.ext_getElem?;intro t;rw[qu];have gi:∀(es:List df) (k:Nat) (acc:aB),hv (fun j=>decide (j<0)) t k es acc=acc:=by
   intro es;induction es with
   | nil=>intro k acc;rfl
   | cons e1 es dt=>intro k acc;simp only[hv];rw[aX (by simp)];exact dt _ _
  cases h:env0[t]? with
  | none=>simp[h]
  | some p=>have:=gi es 0 p;simp only[h,List.take_zero,List.foldl_nil,mn,this]
 | i+1,hi=>by
  have bq:i<es.length:=by omega
  have he:es[i]?=some es[i]:=fC bq;have dt:=EE (env0:=env0) (bs:=bs) ax i (by omega);rw[lK,he,xj,List.foldl_append,dt];simp only[List.foldl_cons,List.foldl_nil];apply List.ext_getElem?;intro t;rw[df.apply_get (ax i _ he),qu,qu];cases h:env0[t]? with
  | none=>rfl
  | some p=>
   have:=Qo (t:=t) (es:=es) (k:=0) (i:=i) (acc:=p) he;simp only[c']at this;simp[this]
theorem JT{bn:aE}{st1:aE}{ff:List b4}{cd:List Prop}{b:Bool}(h:rr ops st o []=some (b,st1,ff,cd))(ae:∀t∈reads ops o,st.env.getD t .cc=bn.env.getD t .cc):
  rr ops bn o []=some (b,bn,[],[]):=by
 unfold rr at h ⊢;cases ao:o.guard with
 | none=>rw[ao]at h;simp only[aQ,bw]at h;simp[<-h.1]
 | some g=>
  obtain⟨j,want⟩:=g;rw[ao]at h;simp only at h ⊢;cases ax:(ops[j]?).bind (·.dst) with
  | none=>rw[ax]at h;cases h
  | some s=>
   rw[ax]at h;simp only at h ⊢;have:s∈reads ops o:=by simp[reads,JM,ao,ax]
   rw[ae s this]at h;split at h
   ·rename_i e;simp only[aQ,bw]at h;simp[e,<-h.1]
   ·rename_i e;simp only[aQ,bw]at h;simp[e,<-h.1]
   ·cases h
   cases h
variable{ch:List b4}{obs:List Prop}
theorem Qp(h:uR P st o ans=some (e,ch,obs)):
  ∃(v:ia) (d:Nat) (x y:Operand) (t:TypeId),ry st o=some v/\o.dst=some d/\o.op=.call ⟨.builtin .append,⟨[x,y]⟩,⟨[t,t]⟩⟩/\tu P t v.t v.i v.j v.k v.es v.esT (st.bk y) ans=some (e.p,ch,obs)/\
   e=⟨some d,e.p,[],[]⟩/\(st.bk x).leaf=some (.aO v.t v.i v.j v.k v.es .here)/\Fi v.t st.boxes=some (v.kT,v.esT):=by
 obtain⟨dst,op,type,pos,after,guard⟩:=o;unfold uR at h;split at h
 ·rename_i v d gy y t c4 hi ax sx;simp only at ax sx;subst ax;subst sx;split at h
  ·rename_i z1;subst z1;rw[bX]at h;obtain⟨⟨bB,bV,cb⟩,h1,h⟩:=h;simp only[bw]at h;obtain⟨rfl,rfl,rfl⟩:=h;have kc:=hi;simp only[ry]at kc;split at kc
   ·rename_i s i j k es af;split at kc
    ·rename_i kT esT ah;cases kc;exact⟨_,d,gy,y,t,hi,rfl,rfl,h1,rfl,af,ah⟩
    cases kc
   cases kc
  cases h
 cases h
theorem Qq{st bn:aE}(ah:st.boxes=bn.boxes)(h:∀x∈o.op.operands.toList,st.bk x=bn.bk x):ry st o=ry bn o:=by
 obtain⟨dst,op,type,pos,after,guard⟩:=o;simp only at h;unfold ry;simp only;split
 ·rename_i x y t c4;have aa:st.bk x=bn.bk x:=h x (by simp[Op.operands,Call.operands]);rw[aa,ah]
 rfl
theorem akY(ah:st.boxes=bn.boxes)(h:∀x∈o.op.operands.toList,st.bk x=bn.bk x):uR P st o ans=uR P bn o ans:=by
 unfold uR;rw[Qq ah h];split
 ·rename_i v d x y t c4 h1 U au;rw[h y (by rw[au];simp[Op.operands,Call.operands])]
 rfl
theorem akZ{v:ia}{q:aB}(h:q.lh v.nj):∀a∈q.idx v.t v.j,a=v.i:=by
 have one:∀{a:bd},a.lh v.nj->∀x∈a.idx v.t v.j,x=v.i:=by
  intro a ag x aa;cases a with
  | one l=>exact ag.2 x aa
  | agg ls=>
   obtain⟨l,af,aa⟩:=jN.1 aa;exact (ag l af).2 x aa
 intro x aa;cases q with
 | aD a=>exact one h x aa
 | fM as=>
  obtain⟨a,ag,aa⟩:=jN.1 aa;exact one (h a ag) x aa
theorem ak0{v:ia}{q:aB}(h:q.lh v.nj):q.map (hx v.t v.i v.j v.k v.es v.kT v.esT)=q:=by
 have ls:∀{ls:List aC},(∀l∈ls,v.nj l)->ls.map (hx v.t v.i v.j v.k v.es v.kT v.esT)=ls:=by
  intro ls af
  conv=>rhs;rw[<-r1 ls]
  exact kr fun l hm=>(af l hm).1
 have one:∀{a:bd},a.lh v.nj->a.map (hx v.t v.i v.j v.k v.es v.kT v.esT)=a:=by
  intro a ag;cases a with
  | one l=>simp only[bd.map];rw[ag.1]
  | agg l=>simp only[bd.map];rw[ls ag]
 cases q with
 | aD a=>simp only[aB.map];rw[one h]
 | fM as=>
  simp only[aB.map]
  congr 1
  conv=>rhs;rw[<-r1 as]
  exact kr fun a hm=>one (h a hm)
theorem Fact.dst{env:List aB}(h:Fact P ops bs env o e):e.dst≠none:=by
 rcases h with⟨_,_,_,_,d,ax,rfl⟩ | ⟨_,_,_,_,ans,bE,g,ch,obs,h1,_,U⟩ | ⟨_,_,_,_,ans,ch,obs,h1,_⟩
 rotate_left 2
 ·obtain⟨v,d,x,y,t,_,_,_,_,he,_⟩:=Qp h1;rw[he];simp
 ·simp[yi]
 obtain⟨_,d,aH,_⟩:=Qf h1;obtain⟨u,U⟩:=U;rcases U with rfl | ⟨c,b,_,_,rfl⟩
 ·simp only[aH];simp
 simp only[aH];simp
variable{w0:ev}{a:Act}{w:World}
theorem Rel.bool{env:List aB}{d:Nat}{c:Bool}(h:Rel w0 ⟨env.set d (.one (.bg c)),bs⟩ a w):Rel w0 ⟨env.set d (.one (.v (.bool c))),bs⟩ a w:=by
 obtain⟨ω,τ,h⟩:=h;refine⟨ω,τ,h.defers,by have:=h.size;simpa using this,h.below,h.owned,h.fixed,h.pinned,fun i p hp=>?_,h.boxes⟩;by_cases hi:d=i
 ·subst hi;rw[iS]at hp;split at hp
  ·split at hp
   ·rename_i af;simp only[aQ]at hp;subst hp;obtain⟨v,h1,U⟩:=h.env d (.one (.bg c)) (by simp[af]);exact⟨v,h1,U⟩
   cases hp
  rename_i b5;exact absurd rfl b5
 exact h.env i p (by simpa[iS,hi]using hp)
section
variable {P : Program} {ops : Array Oper} {bs : List (Nat × List aC)} {env0 : List aB} {es : List df} {ms : List Nat}
def e7(bP:Array Bool)(j:Nat):Bool:=bP.getD j false
structure pM (P:Program) (ops:Array Oper) (bs:List (Nat×List aC)) (env0:List aB) (es:List df) (ms:List Nat):Prop where
 len:es.length<=ops.size
 facts:∀(i:Nat) (o:Oper),i<es.length->ops[i]?=some o->∃e,es[i]?=some e/\Fact P ops bs (e0 env0 bs (fun j=>decide (j<i)) es).env o e
 masks:rz ms ops.toList=true
 aO:∀(i:Nat) (o:Oper) (v:ia),i<es.length->ops[i]?=some o->ry ⟨(e0 env0 bs (fun j=>decide (j<i)) es).env,bs⟩ o=some v->
  (∀q∈env0,q.lh v.nj)/\(∀(j:Nat) (x:df),es[j]?=some x->j≠i->x.p.lh v.nj)/\∀x∈bs,∀l∈x.2,v.nj l
 ord:JQ ops ms es=true
 tok:JR ms es env0 bs=true
variable{bP:Array Bool}{i:Nat}{e:df}
theorem pM.same(h:pM P ops bs env0 es ms)(ad:qv ops bP)(ae:bP.size=ops.size)(hi:i∈Region.ready .any ops bP){o:Oper}(aN:ops[i]?=some o)(he:es[i]?=some e)
  {t:Nat} (bt:t∈ED ops o e):(e0 env0 bs (e7 bP) es).env.getD t .cc=(e0 env0 bs (fun j=>decide (j<i)) es).env.getD t .cc:=by
 rw[iw,iw,qu,qu];have gj:bP.getD i false=false:=by
  have bm:=(mem_ready.1 hi).1;have bq:i<bP.size:=ae▸(hA.1 aN).1;simp[gN bq]at bm ⊢;exact bm
 cases Xq:env0[t]? with
 | none=>rfl
 | some p=>
  simp only[mn,hl];refine AM fun j sg aM zY=>?_
  rw[c'];by_cases p3:j=i
  ·subst p3;simp[e7,gj]
  have:=Qn h.ord aN he aM p3 zY bt;unfold Dq at this;split at this
  ·rename_i bq;have:=AO h.masks ad ae hi this;simp[e7,bq,this]
  rename_i bq;cases C2:bP.getD j false with
  | false=>simp[e7,C2,bq]
  | true=>have:=EC h.masks ad ae j C2 this;rw[gj]at this;cases this
theorem JU(bq:i<bP.size)(j:Nat):e7 (bP.setIfInBounds i true) j=(if j=i then true else e7 bP j):=by
 unfold e7;split
 ·rename_i h;subst h;simp[bq]
 rename_i h;rw[getD_set_ne false (Ne.symm h)]
theorem pM.ey(h:pM P ops bs env0 es ms)(bq:i<bP.size)(he:es[i]?=some e){t:Nat}(bt:e.gL t=none)(p:aB):
  hv (e7 (bP.setIfInBounds i true)) t 0 es p=hv (e7 bP) t 0 es p:=by
 refine AM fun j sg aM zY=>?_
 rw[c',JU bq,aX];rintro rfl;rw[he]at aM;cases aM;exact zY bt
theorem pM.last(h:pM P ops bs env0 es ms)(ad:qv ops bP)(ae:bP.size=ops.size)(hi:i∈Region.ready .any ops bP){o:Oper}(aN:ops[i]?=some o)(he:es[i]?=some e)
  {t:Nat} {q:aB} (bt:e.gL t=some q) (p:aB):hv (e7 (bP.setIfInBounds i true)) t 0 es p=q:=by
 have bq:i<bP.size:=ae▸(hA.1 aN).1;have gj:bP.getD i false=false:=by
  have bm:=(mem_ready.1 hi).1;simp[gN bq]at bm ⊢;exact bm
 refine Qh he bt (by rw[c',JU bq,a6 rfl]) fun j sg aM XT zY=>?_
 rw[c',JU bq,aX (by omega)];have:=Qn h.ord aN he XT (by omega) zY (t:=t) (by
  unfold ED;exact gm _ (Qm (by rw[bt];simp)))
 unfold Dq at this;rw[aX (by omega)]at this;cases C2:e7 bP j with
 | false=>rfl
 | true=>have:=EC h.masks ad ae j C2 this;rw[gj]at this;cases this
theorem pM.step(h:pM P ops bs env0 es ms)(ad:qv ops bP)(ae:bP.size=ops.size)(hi:i∈Region.ready .any ops bP)(mE:i<es.length){w0:ev}{w:World}{a:Act}
  (ar:Rel w0 (e0 env0 bs (e7 bP) es) a w) {Q:Exit->Act->World->Prop} {K:Act->World->Prop} (gR:∀cy aG,Rel w0 (e0 env0 bs (e7 (bP.setIfInBounds i true)) es) cy aG->K cy aG):wpOp P ops Q i K a w:=by
 obtain⟨bm,o,aN,arD⟩:=mem_ready.1 hi;obtain⟨e,he,bl⟩:=h.facts i o mE aN;have bq:i<bP.size:=ae▸(hA.1 aN).1;have YB:=fun t bt=>h.same ad ae hi aN he (t:=t) bt
 have zQ:∀t∈reads ops o,(e0 env0 bs (fun j=>decide (j<i)) es).env.getD t .cc=(e0 env0 bs (e7 bP) es).env.getD t .cc:=fun t bt=>(YB t (hZ _ bt)).symm
 unfold wpOp;rw[aN];simp only;rcases bl with⟨st1,ff,cd,hw,d,ax,rfl⟩ | ⟨st1,ff,cd,hw,ans,bE,g,ch,obs,eo,Hc,CW⟩ | ⟨st1,ff,cd,hw,ans,ch,obs,zV,Hc⟩
 rotate_left 2
 ·have Aa:=JT hw (bn:=e0 env0 bs (e7 bP) es) zQ;obtain⟨oq,_⟩:=wi Aa trivial ar;rw[a6 oq];left;have Nk:∀x∈o.op.operands.toList,(e0 env0 bs (e7 bP) es).bk x=aE.bk ⟨(e0 env0 bs (fun j=>decide (j<i)) es).env,bs⟩ x:=fun x aa=>MX fun t bt=>(zQ t (by
   unfold reads;exact gm _ (List.mem_filterMap.2 ⟨x,aa,bt⟩))).symm
  have GK:uR P (e0 env0 bs (e7 bP) es) o ans=some (e,ch,obs):=by
   rw[<-zV];exact akY rfl Nk
  obtain⟨v,d,x,y,t,XM,ax,sx,xA,lU,aa,om⟩:=Qp GK;have XN:ry ⟨(e0 env0 bs (fun j=>decide (j<i)) es).env,bs⟩ o=some v:=by
   rw[<-XM];exact (Qq (st:=e0 env0 bs (e7 bP) es) (bn:=⟨(e0 env0 bs (fun j=>decide (j<i)) es).env,bs⟩) rfl Nk).symm
  obtain⟨Xt,Xu,Nl⟩:=h.aO i o v mE aN XN;have gj:bP.getD i false=false:=by
   simp[gN bq]at bm ⊢;exact bm
  have q5:∀q∈(e0 env0 bs (e7 bP) es).env,q.lh v.nj:=by
   intro q av;simp only[e0]at av;rw[h']at av;obtain⟨⟨iI,n⟩,hm,rfl⟩:=av;have mH:iI∈env0:=by
    rw[List.mem_zipIdx_iff_getElem?]at hm;exact e4 hm
   simp only;rcases JS (L:=e7 bP) (t:=n) (es:=es) (k:=0) (acc:=iI) with⟨h1,_⟩ | h1 | ⟨j,sg,h1,U,_,aH,_⟩
   ·rw[h1];exact Xt _ mH
   ·rw[h1];exact⟨rfl,fun a ag=>by simp[aC.idx]at ag⟩
   rw[aH];refine Xu j sg h1 ?_;rintro rfl;rw[c']at U;unfold e7 at U;rw[gj]at U;cases U
  have C3:(e0 env0 bs (e7 bP) es).map (hx v.t v.i v.j v.k v.es v.kT v.esT)=e0 env0 bs (e7 bP) es:=by
   have e1:(e0 env0 bs (e7 bP) es).env.map (aB.map (hx v.t v.i v.j v.k v.es v.kT v.esT))=(e0 env0 bs (e7 bP) es).env:=by
    conv=>rhs;rw[<-r1 (e0 env0 bs (e7 bP) es).env]
    exact kr fun q av=>ak0 (q5 q av)
   have e2:bs.map (fun x=>(x.1,x.2.map (hx v.t v.i v.j v.k v.es v.kT v.esT)))=bs:=by
    conv=>rhs;rw[<-r1 bs]
    refine kr fun x aa=>?_
    obtain⟨kp,gM⟩:=x;simp only[id]
    congr 1
    conv=>rhs;rw[<-r1 gM]
    exact kr fun l af=>(Nl _ aa l af).1
   unfold aE.map;rw[e1];show aE.mk _ (bs.map _)=_;rw[e2];rfl
  have o7:∀a∈(e0 env0 bs (e7 bP) es).idx v.t v.j,a=v.i:=by
   intro cy ag;unfold aE.idx at ag;rcases gY.1 ag with ag | ag
   ·obtain⟨q,av,ag⟩:=jN.1 ag;exact akZ (q5 q av) cy ag
   obtain⟨z,aR,ag⟩:=jN.1 ag;obtain⟨l,af,ag⟩:=jN.1 ag;exact (Nl z aR l af).2 cy ag
  obtain⟨ω,τ,eN⟩:=ar;obtain⟨z,aG,h1,U⟩:=eN.tu (P:=P) (d:=d) (ty:=o.type) (kT:=v.kT) (x:=x) (y:=y) (aB.dw aa (eN.bk x)) xA Hc (akV eN om) o7;rw[C3]at U;obtain⟨dst,op,type,pos,after,guard⟩:=o;simp only at ax sx;subst ax;subst sx;refine Calls.of (z:=z) (aG:=aG) ?_ (gR _ _ ?_)
  ·have:(execOp a.eval ⟨some d,.call ⟨.builtin .append,⟨[x,y]⟩,⟨[t,t]⟩⟩,type,pos,after,guard⟩)=(builtin .append ⟨[t,t]⟩ type (Array.map (fun | .const _=>true | _=>false) ⟨[x,y]⟩) (Array.map a.eval ⟨[x,y]⟩)):=by
    simp only[execOp,resolve];rfl
   rw[this];exact jf (by simpa using h1)
  refine U.weaken (by simp[yh]) rfl ?_;intro n p hp;right;rw[qu,bX]at hp;obtain⟨iI,mH,rfl⟩:=hp;rw[iS];have q3:e.dst=some d:=by rw[lU]
  have tU:e.use=[]:=by rw[lU]
  by_cases nB:d=n
  ·subst nB;have:d<env0.length:=(dK.1 mH).1;rw[a6 rfl,a6 (by simp[yh,this]),h.last ad ae hi aN he (q:=e.p) (by simp[df.gL,q3])]
  rw[aX nB,qu,mH,mn,h.ey bq he (by simp[df.gL,q3,nB,tU])]
 ·have Aa:=JT hw (bn:=e0 env0 bs (e7 bP) es) zQ;obtain⟨oq,_⟩:=wi Aa trivial ar;rw[aX (by rw[oq];simp)];refine gR _ _ ((JG ar).weaken ?_ ?_ ?_)
  ·simp[yh,AL,ax]
  ·simp[e0,AL,ax]
  intro t p hp;rw[qu,bX]at hp;obtain⟨iI,mH,rfl⟩:=hp;right;simp only[AL,ax];rw[iS];by_cases nB:d=t
  ·subst nB;have:d<env0.length:=(dK.1 mH).1;rw[a6 rfl,a6 (by rw[yh];exact this),h.last ad ae hi aN he (q:=.one (.v undef)) (by simp[df.gL,yi])]
  rw[aX nB,qu,mH,mn,h.ey bq he (by simp[df.gL,yi,nB])]
 have Aa:=JT hw (bn:=e0 env0 bs (e7 bP) es) zQ;obtain⟨oq,_⟩:=wi Aa trivial ar;rw[a6 oq];left;have GK:se P (e0 env0 bs (e7 bP) es) o ans=some (bE,g,ch,obs):=by
  rw[<-eo];refine akW rfl fun x aa=>MX fun t bt=>(zQ t ?_).symm
  unfold reads;exact gm _ (List.mem_filterMap.2 ⟨x,aa,bt⟩)
 obtain⟨ao,d,GQ,sx⟩:=Qf GK;obtain⟨u,CW⟩:=CW;have xL:e.nW=bE.nW/\e.dst=bE.dst:=by
  rcases CW with rfl | ⟨c,b,_,_,rfl⟩
  ·exact⟨rfl,rfl⟩
  exact⟨rfl,rfl⟩
 obtain⟨xL,Xo⟩:=xL;rw[<-xL]at ao;obtain⟨YK,YL,YM⟩:=akX h.tok he;have W6:((e0 env0 bs (e7 bP) es).map (aC.cm g fun _=>true)).boxes=bs:=by
  simp only[aE.map,e0]
  conv=>rhs;rw[<-r1 bs]
  refine kr fun x aa=>?_
  obtain⟨kp,gM⟩:=x;simp only[id,OI ao (YM _ aa)]
 refine ajE sx Hc ar fun cy aG dy=>gR _ _ ?_
 rw[W6]at dy;have lq:Rel w0 ⟨((e0 env0 bs (e7 bP) es).map (aC.cm g fun _=>true)).env.set d e.p,bs⟩ cy aG:=by
  rcases CW with rfl | ⟨c,b,hp,ft,rfl⟩
  ·exact dy
  rw[hp]at dy;subst ft;exact dy.bool
 refine lq.weaken (by simp[yh,aE.map]) rfl ?_;intro t p hp;rw[qu,bX]at hp;obtain⟨iI,mH,rfl⟩:=hp;rw[iS];have q3:e.dst=some d:=Xo.trans GQ;by_cases nB:d=t
 ·subst nB;right;have:d<env0.length:=(dK.1 mH).1;rw[a6 rfl,a6 (by simp[aE.map,yh,this]),h.last ad ae hi aN he (q:=e.p) (by simp[df.gL,q3])]
 rw[aX nB];by_cases Dc:t∈e.use
 ·left;exact h.last ad ae hi aN he (by simp[df.gL,q3,nB,Dc]) iI
 have G4:=h.ey bq he (t:=t) (by simp[df.gL,q3,nB,Dc]) iI;rw[G4];have X':hv (e7 bP) t 0 es iI=.cc\/(hv (e7 bP) t 0 es iI).eC e.nW=false:=by
  rcases JS (L:=e7 bP) (t:=t) (es:=es) (k:=0) (acc:=iI) with⟨h1,gi⟩ | h1 | ⟨j,sg,h1,U,au,aH,gi⟩
  ·right;rw[h1];rcases YL t iI mH with (ba | ba) | ba
   rotate_left 2
   ·rw[q3]at ba;exact absurd (ei ba) nB
   ·exact ba.resolve_right Dc
   ·obtain⟨m,y,c4,hm,_,ag,hu,bt⟩:=Ql ba;cases bt;have:=gi m y hm (by rw[c'];exact AO h.masks ad ae hi ag);unfold df.gL at this;rw[a6 hu]at this;split at this<;>cases this
  ·exact .inl h1
  right;rw[aH];rw[c']at U;have gj:bP.getD i false=false:=by
   simp[gN bq]at bm ⊢;exact bm
  have p3:j≠i:=by rintro rfl;unfold e7 at U;rw[gj]at U;cases U
  rcases YK j sg h1 p3 with ba | ba | ba | ba | ba
  rotate_left 3
  ·rw[au,q3]at ba;exact absurd (ei ba).symm nB
  ·obtain⟨m,y,c4,hm,NC,ag,hu,bt⟩:=Ql ba;rw[au]at bt;cases bt;have:=gi m y hm (by omega) (by rw[c'];exact AO h.masks ad ae hi ag);unfold df.gL at this;rw[a6 hu]at this;split at this<;>cases this
  ·have:=EC h.masks ad ae j U ba;rw[gj]at this;cases this
  ·exact ba
  obtain⟨c4,br,b7⟩:=ba;rw[au]at br;cases br;exact absurd b7 Dc
 rcases X' with h1 | h1
 ·exact .inl h1
 right;simp only[aE.map,c9];rw[qu,mH];simp only[mn,aB.w8 ao h1]
def I6(ops:Array Oper)(ms:List Nat)(k:Nat):Prop:=∀i,k<=i->i<ops.size->∀j,j<i->mw ms j i=true
theorem pM.any(h:pM P ops bs env0 es ms)(ah:I6 ops ms es.length){w0:ev}{Q:Exit->Act->World->Prop}
  (jo:∀(hE:Nat) {bP:Array Bool},qv ops bP->bP.size=ops.size->(∀j,j<es.length->bP.getD j false=true)->(∀j,es.length<=j->bP.getD j false=false)->bP.count false<=hE->
   ∀{a:Act} {w:World},Rel w0 (e0 env0 bs (fun j=>decide (j<es.length)) es) a w->wpAny P .any ops Q hE bP a w):
  ∀(hE:Nat) {bP:Array Bool},qv ops bP->bP.size=ops.size->(∀j,es.length<=j->bP.getD j false=false)->bP.count false<=hE->
  ∀{a:Act} {w:World},Rel w0 (e0 env0 bs (e7 bP) es) a w->wpAny P .any ops Q hE bP a w:=by
 intro hE;induction hE with
 | zero=>
  intro bP ad ae gj sr a w ar;by_cases h3:∀j,j<es.length->bP.getD j false=true
  ·refine jo 0 ad ae h3 gj sr ?_;have:e0 env0 bs (e7 bP) es=e0 env0 bs (fun j=>decide (j<es.length)) es:=by
    unfold e0
    congr 1
    refine kr fun x _=>?_
    refine AM fun j e aM _=>?_
    have bq:j<es.length:=(dK.1 aM).1;rw[c'];simp only[e7,h3 j bq,bq,decide_true]
   rwa[<-this]
  exfalso;apply h3;intro j aM;have bq:j<bP.size:=ae▸ze aM h.len;cases bl:bP[j] with
  | true=>simp[gN bq,bl]
  | false=>
   have:0<bP.count false:=by
    rw[Array.count_pos_iff];exact bl▸Array.getElem_mem bq
   omega
 | succ hE dt=>
  intro bP ad ae gj sr a w ar;by_cases h3:∀j,j<es.length->bP.getD j false=true
  ·refine jo _ ad ae h3 gj sr ?_;have:e0 env0 bs (e7 bP) es=e0 env0 bs (fun j=>decide (j<es.length)) es:=by
    unfold e0
    congr 1
    refine kr fun x _=>?_
    refine AM fun j e aM _=>?_
    have bq:j<es.length:=(dK.1 aM).1;rw[c'];simp only[e7,h3 j bq,bq,decide_true]
   rwa[<-this]
  refine⟨fun vI=>absurd (fun j aM=>JP h.masks ae vI j (ze aM h.len)) h3,fun i hi=>?_⟩;have mE:i<es.length:=by
   rcases lN i es.length with h1 | h1
   ·exact h1
   exfalso;obtain⟨_,o,aN,_⟩:=mem_ready.1 hi;have bq:i<ops.size:=(hA.1 aN).1;exact h3 fun j aM=>AO h.masks ad ae hi (ah i h1 bq j (ze aM h1))
  refine h.step ad ae hi mE ar fun cy aG dy=>dt (ad.ready hi) (by simpa using ae) (fun j aM=>?_) ?_ dy
  ·rw[getD_set_ne false (by omega)];exact gj j aM
  obtain⟨h1,o,aN,_⟩:=mem_ready.1 hi;have bq:i<bP.size:=ae▸(hA.1 aN).1;have bl:bP[i]=false:=by simpa[gN bq]using h1
  have:(bP.setIfInBounds i true).count false=bP.count false-1:=by
   have e:bP.setIfInBounds i true=bP.set i true bq:=by unfold Array.setIfInBounds;rw[dif_pos bq]
   rw[e,Array.count_set];simp[bl]
  omega
end
def yk(P:Program)(ops:Array Oper):List Oper->aE->List b4->Stepped
 | [],st,ans=>some (st,ans,[])
 | o::rest,st,ans=>
  match qg P ops o st ans with
  | some (st1,fg,fS)=>(yk P ops rest st1 fg).map fun r=>(r.1,r.2.1,fS++r.2.2)
  | none=>none
theorem Qr{Q:Exit->Act->World->Prop}(hi:ops[i]?=some o)(h:qg P ops o st ans=some (bn,ch,obs))(aN:cB obs)
  {a:Act} {w:World} (aV:Rel w0 st a w) {K:Act->World->Prop} (gR:∀cy aG,Rel w0 bn cy aG->K cy aG):wpOp P ops Q i K a w:=by
 unfold wpOp;rw[hi];simp only;unfold qg at h;split at h
 ·rename_i st1 fg fS hw;rw[bX]at h;obtain⟨⟨bB,bV,cb⟩,h1,h⟩:=h;simp only[bw]at h;obtain⟨rfl,rfl,rfl⟩:=h;obtain⟨cd,bY⟩:=aN.append;obtain⟨oq,eN⟩:=wi hw cd aV;rw[a6 oq];exact .inl (JF h1 bY eN fun cy aG dy=>gR _ _ dy)
 ·rename_i st1 fg fS hw;simp only[aQ,bw]at h;obtain⟨rfl,rfl,rfl⟩:=h;obtain⟨oq,eN⟩:=wi hw aN aV;rw[aX (by rw[oq];simp)];exact gR _ _ (JG eN)
 cases h
theorem ak1(hm:rz ms ops.toList=true)(ah:I6 ops ms k){Q:Exit->Act->World->Prop}:∀(hE n:Nat) {bP:Array Bool},k<=n->n<=ops.size->
  qv ops bP->bP.size=ops.size->(∀j,j<n->bP.getD j false=true)->(∀j,n<=j->bP.getD j false=false)->bP.count false<=hE->
  ∀{st bn:aE} {ans ch:List b4} {obs:List Prop},yk P ops (ops.toList.drop n) st ans=some (bn,ch,obs)->cB obs->
  ∀{a:Act} {w:World},Rel w0 st a w->(∀cy aG,Rel w0 bn cy aG->Q .normal cy aG)->wpAny P .any ops Q hE bP a w:=by
 have fin:∀{bP:Array Bool} {n:Nat},n=ops.size->bP.size=ops.size->(∀j,j<n->bP.getD j false=true)->Region.ready .any ops bP=[]:=by
  intro bP n aL ae h1;rw[List.eq_nil_iff_forall_not_mem];intro j aM;obtain⟨U,o,aN,_⟩:=mem_ready.1 aM;have bq:j<ops.size:=(hA.1 aN).1;have au:=h1 j (aL▸bq);have iC:j<bP.size:=ae▸bq;simp[gN iC]at U au;rw[U]at au;cases au
 intro hE;induction hE with
 | zero=>
  intro n bP Nz aL ad ae h1 U sr st bn ans ch obs h aN a w ar jo;have vG:n=ops.size:=by
   rcases lN n ops.size with bq | mD
   ·have iC:n<bP.size:=ae▸bq;have bl:bP[n]=false:=by simpa[gN iC]using U n (dm _)
    have:0<bP.count false:=by
     rw[Array.count_pos_iff];exact bl▸Array.getElem_mem iC
    omega
   omega
  rw[List.drop_eq_nil_of_le (by simp[vG])]at h;simp only[yk,aQ,bw]at h;obtain⟨rfl,_,_⟩:=h;exact⟨fin vG ae h1,jo _ _ ar⟩
 | succ hE dt=>
  intro n bP Nz aL ad ae h1 U sr st bn ans ch obs h aN a w ar jo;rcases lN n ops.size with bq | mD
  ·have iC:n<bP.size:=ae▸bq;have ax:ops.toList.drop n=ops[n]::ops.toList.drop (n+1):=by
    rw[List.drop_eq_getElem_cons (by simpa using bq)];simp
   rw[ax]at h;simp only[yk]at h;split at h
   ·rename_i st1 fg fS au;rw[bX]at h;obtain⟨⟨bB,bV,cb⟩,aH,h⟩:=h;simp only[bw]at h;obtain⟨rfl,rfl,rfl⟩:=h;obtain⟨cd,bY⟩:=aN.append;refine⟨fun vI=>?_,fun i hi=>?_⟩
    ·exfalso;have:=JP hm ae vI n bq;rw[U n (dm _)]at this;cases this
    have ig:i=n:=by
     obtain⟨ba,o,kD,_⟩:=mem_ready.1 hi;have oi:i<ops.size:=(hA.1 kD).1;have kc:i<bP.size:=ae▸oi;rcases Nat.lt_trichotomy i n with br | br | br
     ·have b7:=h1 i br;simp[gN kc]at ba b7;rw[ba]at b7;cases b7
     ·exact br
     have:=AO hm ad ae hi (ah i (by omega) oi n br);rw[U n (dm _)]at this;cases this
    subst ig;refine Qr (gN bq) au cd ar fun cy aG dy=>dt (i+1) (by omega) (by omega) (ad.ready hi) (by simpa using ae) (fun j aM=>?_) (fun j aM=>?_) ?_ aH bY dy jo
    ·by_cases p3:j=i
     ·subst p3;have aR:j<(bP.setIfInBounds j true).size:=by simpa using iC
      simp[gN aR]
     rw[getD_set_ne false (Ne.symm p3)];exact h1 j (by omega)
    ·rw[getD_set_ne false (by omega)];exact U j (by omega)
    have bl:bP[i]=false:=by simpa[gN iC]using U i (dm _)
    have:(bP.setIfInBounds i true).count false=bP.count false-1:=by
     have e:bP.setIfInBounds i true=bP.set i true iC:=by unfold Array.setIfInBounds;rw[dif_pos iC]
     rw[e,Array.count_set];simp[bl]
    omega
   cases h
  have vG:n=ops.size:=by omega
  rw[List.drop_eq_nil_of_le (by simp[vG])]at h;simp only[yk,aQ,bw]at h;obtain⟨rfl,_,_⟩:=h;have vI:=fin vG ae h1;refine⟨fun _=>jo _ _ ar,fun i hi=>?_⟩;rw[vI]at hi;cases hi
def ti(ms:List Nat):Nat->Nat
 | 0=>0
 | i+1=>if ms.getD i 0==2 ^ i-1 then ti ms i else i+1
theorem Qs(ms:List Nat):∀n,ti ms n<=n
 | 0=>dm _
 | n+1=>by
  unfold ti;split
  ·exact ni (Qs ms n) (Nat.le_succ n)
  exact dm _
theorem Qt(ms:List Nat):∀n i,ti ms n<=i->i<n->∀j,j<i->mw ms j i=true
 | 0,_,_,h,_,_=>absurd h (Nat.not_lt_zero _)
 | n+1,i,h1,U,j,aM=>by
  unfold ti at h1;split at h1
  ·rename_i he;by_cases ig:i=n
   ·subst ig;unfold mw;rw[eq_of_beq he,Nat.testBit_two_pow_sub_one,ji aM]
   exact Qt ms n i h1 (by omega) j aM
  omega
theorem Sat.drew{ω:Own}{τ:Nat->Nat×Value}{l:aC}{y:Value}(h:Sat w ω τ l y):Sat w.drew ω τ l y:=by
 have bl:∀{R:List (Nat×Nat)->cS->Prop} {d:D} {y:Value},bR w ω R d y->bR w.drew ω R d y:=fun h=>h.frame fun _ _ _ av=>⟨av,rfl⟩
 cases l with
 | J t k es=>exact⟨bl h.1,h.2⟩
 | ep t k es i j=>
  obtain⟨b,off,cap,h1,U,au,aH⟩:=h;exact⟨b,off,cap,h1,U,bl au,aH⟩
 | h8 ds off=>
  obtain⟨b,h1,U⟩:=h;exact⟨b,h1,bl U⟩
 | fd d=>exact bl h
 | db t k es=>exact⟨bl h.1,h.2⟩
 | aO t i j k es m=>
  obtain⟨u,hu,h1,hm⟩:=h;exact⟨u,hu,bl h1,hm⟩
 | fk t vs=>
  obtain⟨b,ty,arr,h1,U,au,aL,bj⟩:=h;refine⟨b,ty,arr,h1,U,au,aL,fun j c ad=>?_⟩;obtain⟨u,fJ,eG⟩:=bj j c ad;refine⟨u,fJ,?_⟩;cases c with
  | cc=>exact trivial
  | v x=>exact eG
  | J t k es=>exact⟨bl eG.1,eG.2⟩
 | _=>exact h
theorem Rel.drew(h:Rel w0 st a w):Rel w0 st a w.drew:=by
 obtain⟨ω,τ,h⟩:=h;have hi:∀p:aB,p.map _root_.id=p:=by
  intro p;cases p with
  | aD a=>cases a<;>simp[aB.map,bd.map]
  | fM as=>
   simp only[aB.map]
   congr 1
   have:bd.map _root_.id=_root_.id:=by funext a;cases a<;>simp[bd.map]
   rw[this];simp
 refine⟨ω,τ,h.defers,h.size,h.below.next (gA.refl _ _).drew,h.owned,h.fixed,h.pinned,fun i p hp=>?_,fun id ls af=>?_⟩
 ·obtain⟨v,h1,U⟩:=h.env i p hp;have:=cM.map (kz:=Sat w.drew ω τ) (f:=_root_.id) (fun l v ae=>Sat.drew ae) U;rw[hi]at this;exact⟨v,h1,this⟩
 obtain⟨b,arr,ty,h1,U,au,aH⟩:=h.boxes id ls af;have:=j7.map (kz:=Sat w.drew ω τ) (f:=_root_.id) (fun l v ae=>Sat.drew ae) aH;rw[r1]at this;exact⟨b,arr,ty,h1,U,au,this⟩
def EF:Nat->List aB->List Nat
 | _,[]=>[]
 | i,p::r=>match p.leaf with | some (.fk t _)=>if t=i then i::EF (i+1) r else EF (i+1) r | _=>EF (i+1) r
def yl(env:List aB):List Oper->List Nat
 | []=>[]
 | o::r=>
  match o.dst,o.op with
  | none,.store _ (.tmp s) _=>
   match (env.getD s .cc).leaf with
   | some (.ptr d 0)=>if d=s/\s<c5/\!(yl env r).contains s then s::yl env r else yl env r
   | _=>yl env r
  | _,_=>yl env r
def ak2(env0:List aB)(bs:List (Nat×List aC))(es:List df)(i:Nat):List aC:=
 env0.flatMap aB.tV++(bs.flatMap (·.2)++(es.zipIdx.filter fun x=>x.2 != i).flatMap fun x=>x.1.p.tV)
def I7(P:Program)(ops:Array Oper)(st:aE)(ans:List b4):Stepped:=
 let gs:=ops.toList.filterMap (JM ops)
 let ms:=rl ops.toList []
 let k:=ti ms ops.size
 match AH (yl st.env (ops.toList.take k)) st with
 | some fG=>
  match uu P ops gs fG.boxes (ops.toList.take k) fG.env ans with
  | some (es,tC,fg,fS)=>
   if P.follows .mixedOrders&&rz ms ops.toList&&JQ ops ms es&&JR ms es fG.env fG.boxes then
    match AI (EF 0 tC) ⟨tC,fG.boxes⟩,y3 fG.boxes (ak2 fG.env fG.boxes es) 0 (ops.toList.take k) fG.env es with
    | some st2,some xZ=>(yk P ops (ops.toList.drop k) st2 fg).map fun r=>(r.1,r.2.1,fS++(xZ++r.2.2))
    | _,_=>none
   else none
  | none=>none
 | none=>none
theorem ak3(h:I7 P ops st ans=some (bn,ch,obs))(aN:cB obs)(ar:Rel w0 st a w){id:Nat}
  {Q:Exit->Act->World->Prop} (jo:∀cy aG,Rel w0 bn cy aG->Q .normal cy aG):(Code.region id ops true).wp P Q a w:=by
 unfold I7 at h;simp only at h;split at h
 case h_2=>cases h
 rename_i fG NY;replace ar:=O2 ar NY;clear NY;revert ar h;generalize fG=st;intro h ar;split at h
 ·rename_i es tC fg fS eZ;split at h
  ·rename_i ad;split at h
   rotate_left
   ·cases h
   rename_i st2 xZ G9 YE;rw[bX]at h;obtain⟨⟨bB,bV,cb⟩,YG,h⟩:=h;simp only[bw]at h;obtain⟨rfl,rfl,rfl⟩:=h;obtain⟨G',Ha⟩:=aN.append;obtain⟨Yh,Ha⟩:=Ha.append;simp only[ca]at ad;obtain⟨⟨⟨hm,NF⟩,Yk⟩,jY⟩:=ad;have arO:=Qs (rl ops.toList []) ops.size;obtain⟨hlen,vz,Nn⟩:=AN eZ G';have X1:es.length=ti (rl ops.toList []) ops.size:=by
    rw[hlen,lJ,u1];omega
   have NZ:∀(i:Nat),i<es.length->(ops.toList.take (ti (rl ops.toList []) ops.size))[i]?=ops[i]?:=by
    intro i hi;rw[gX,a6 (by omega),jg]
   have ax:∀(i:Nat) (e:df),es[i]?=some e->e.dst≠none:=by
    intro i e hi;have bq:i<(ops.toList.take (ti (rl ops.toList []) ops.size)).length:=hlen▸(dK.1 hi).1;obtain⟨e',h1,U⟩:=Nn i _ (fC bq);rw[hi]at h1;cases h1;exact U.dst
   have xy:pM P ops st.boxes st.env es (rl ops.toList []):=by
    refine⟨by omega,fun i o mE hi=>?_,NF,fun i o v mE hi bj=>?_,Yk,jY⟩
    rotate_left
    ·have Da:=Qi YE Yh i o (by rw[NZ i mE];exact hi) mE v (by
      rw[<-EE (bs:=st.boxes) ax i (by omega)]at bj;exact bj)
     rw[c']at Da;refine⟨fun q av=>aB.Am fun l af=>Da l ?_,fun j x aM b5=>aB.Am fun l af=>Da l ?_,fun x aa l af=>Da l ?_⟩
     ·exact gm _ (jN.2 ⟨q,av,af⟩)
     ·refine hZ _ (hZ _ (jN.2 ⟨(x,j),List.mem_filter.2 ⟨?_,by simpa using b5⟩,af⟩));rw[List.mem_zipIdx_iff_getElem?];exact aM
     exact hZ _ (gm _ (jN.2 ⟨x,aa,af⟩))
    obtain⟨e,h1,U⟩:=Nn i o (by rw[NZ i mE];exact hi);refine⟨e,h1,?_⟩;rwa[EE (bs:=st.boxes) ax i (by omega)]at U
   have od:I6 ops (rl ops.toList []) es.length:=fun i h1 U j aM=>Qt _ _ i (by omega) U j aM
   refine wp_region_any hm (xy.any od (w0:=w0) ?_ ops.size ?_ (by simp) ?_ ?_ ?_)
   ·intro hE bP mB ae jB cU sr cy aG dy;refine ak1 NF od hE es.length (dm _) (by omega) mB ae jB cU sr (st:=st2) (by rw[X1];exact YG) Ha (O3 ?_ G9) jo;have:=EE (env0:=st.env) (bs:=st.boxes) ax es.length (dm _);rw[hP,<-vz]at this;rw[this];exact dy
   ·intro j o aM;have:=EB aM;simp at this;simp[this]at aM
   ·intro j _;by_cases aM:j<ops.size
    ·simp[aM]
    simp[aM]
   ·simp[Array.count_replicate]
   have:e0 st.env st.boxes (e7 (Array.replicate ops.size false)) es=st:=by
    have gi:∀(es:List df) (t k:Nat) (acc:aB),hv (e7 (Array.replicate ops.size false)) t k es acc=acc:=by
     intro es;induction es with
     | nil=>intro t k acc;rfl
     | cons e1 es dt=>
      intro t k acc;simp only[hv];rw[aX,dt];unfold e7;intro ad;have:=EB ad;simp at this;simp[this]at ad
    obtain⟨env,bs⟩:=st;unfold e0
    congr 1
    simp only[gi];apply List.ext_getElem?;intro t;simp
   rw[this];exact ar.drew
  cases h
 cases h
end Go.Sx
namespace Go.Sx
open Go.RowKit
def dY(P:Program)(ops:Array Oper)(st bn:aE):Prop:=
 ∀(w0:ev) (a:Act) (w:World) (id:Nat) (Q:Exit->Act->World->Prop),Rel w0 st a w->(∀cy aG,Rel w0 bn cy aG->Q .normal cy aG)->(Code.region id ops true).wp P Q a w
def EG(o:Oper)(m:Nat):Bool:=o.after.toList.all fun e=>!Region.binds .any e||m.testBit e.on
def qd(m:Nat):Nat->List Oper->List (Nat×Oper)
 | _,[]=>[]
 | i,o::r=>if !m.testBit i&&EG o m then (i,o)::qd m (i+1) r else qd m (i+1) r
def runM(P:Program)(ops:Array Oper)(A:List (List b4))(m:Nat):Nat->List Oper->aE->aE
 | _,[],st=>st
 | i,o::r,st=>if m.testBit i then (match qg P ops o st (A.getD i []) with | some x=>runM P ops A m (i+1) r x.1 | none=>st) else runM P ops A m (i+1) r st
def zl(x:Nat)(l:List Nat):List Nat:=if l.any (Nat.beq x) then l else x::l
def An:Nat->List (Nat×Oper)->List Nat->List Nat
 | _,[],l=>l
 | m,x::r,l=>zl (m ||| 2 ^ x.1) (An m r l)
def Ap(ops:List Oper):List Nat->List Nat
 | []=>[]
 | m::r=>An m (qd m 0 ops) (Ap ops r)
abbrev xk:=Option (aE×List b4×List Prop)
def CG(P:Program)(ops:Array Oper)(A:List (List b4))(st:aE):List (Nat×Oper)->List xk
 | []=>[]
 | x::r=>qg P ops x.2 st (A.getD x.1 [])::CG P ops A st r
def CI(P:Program)(ops:Array Oper)(A:List (List b4))(O:List (List Prop))(fG:aE)(m:Nat):List (Nat×Oper)->List xk
 | []=>[]
 | x::r=>some (runM P ops A (m ||| 2 ^ x.1) 0 ops.toList fG,[],O.getD x.1 [])::CI P ops A O fG m r
def CH(P:Program)(ops:Array Oper)(A:List (List b4))(fG:aE):List Nat->List (List xk)
 | []=>[]
 | m::r=>CG P ops A (runM P ops A m 0 ops.toList fG) (qd m 0 ops.toList)::CH P ops A fG r
def CJ(P:Program)(ops:Array Oper)(A:List (List b4))(O:List (List Prop))(fG:aE):List Nat->List (List xk)
 | []=>[]
 | m::r=>CI P ops A O fG m (qd m 0 ops.toList)::CJ P ops A O fG r
def zp(P:Program)(ops:Array Oper)(A:List (List b4))(fG:aE):Nat->List Nat->List (List (List xk))
 | 0,_=>[]
 | n+1,l=>CH P ops A fG l::zp P ops A fG n (Ap ops.toList l)
def zq(P:Program)(ops:Array Oper)(A:List (List b4))(O:List (List Prop))(fG:aE):Nat->List Nat->List (List (List xk))
 | 0,_=>[]
 | n+1,l=>CJ P ops A O fG l::zq P ops A O fG n (Ap ops.toList l)
variable{P:Program}{ops:Array Oper}{A:List (List b4)}{O:List (List Prop)}{fG st:aE}{m:Nat}
theorem Qu:∀{l:List (Nat×Oper)},CG P ops A st l=CI P ops A O fG m l->
  ∀x∈l,qg P ops x.2 st (A.getD x.1 [])=some (runM P ops A (m ||| 2 ^ x.1) 0 ops.toList fG,[],O.getD x.1 [])
 | [],_,x,aa=>by cases aa
 | y::r,h,x,aa=>by
  simp only[CG,CI,r0]at h;rcases dG.1 aa with rfl | aa
  ·exact h.1
  exact Qu h.2 x aa
theorem Qv:∀{l:List Nat},CH P ops A fG l=CJ P ops A O fG l->
  ∀m∈l,∀x∈qd m 0 ops.toList,qg P ops x.2 (runM P ops A m 0 ops.toList fG) (A.getD x.1 [])=some (runM P ops A (m ||| 2 ^ x.1) 0 ops.toList fG,[],O.getD x.1 [])
 | [],_,m,hm=>by cases hm
 | m0::r,h,m,hm=>by
  simp only[CH,CJ,r0]at h;rcases dG.1 hm with rfl | hm
  ·exact Qu h.1
  exact Qv h.2 m hm
theorem ak4{x:Nat}{l:List Nat}:x∈zl x l:=by
 unfold zl;split
 ·rename_i h;obtain⟨y,a1,he⟩:=lg.1 h;rwa[Nat.eq_of_beq_eq_true he]
 exact eF
theorem Qw{x y:Nat}{l:List Nat}(h:y∈l):y∈zl x l:=by
 unfold zl;split
 ·exact h
 exact fc _ h
theorem Qx{x:Nat×Oper}:∀{r:List (Nat×Oper)} {l:List Nat},x∈r->(m ||| 2 ^ x.1)∈An m r l
 | [],_,h=>by cases h
 | y::r,l,h=>by
  simp only[An];rcases dG.1 h with rfl | h
  ·exact ak4
  exact Qw (Qx h)
theorem Qy{k:Nat}:∀{r:List (Nat×Oper)} {l:List Nat},k∈l->k∈An m r l
 | [],_,h=>h
 | _::_,_,h=>Qw (Qy h)
theorem Qz{ops:List Oper}{x:Nat×Oper}:∀{l:List Nat},m∈l->x∈qd m 0 ops->(m ||| 2 ^ x.1)∈Ap ops l
 | [],h,_=>by cases h
 | k::r,h,aa=>by
  simp only[Ap];rcases dG.1 h with rfl | h
  ·exact Qx aa
  exact Qy (Qz h aa)
theorem QA{m:Nat}:∀{l:List Oper} {i j:Nat} {o:Oper},l[j]?=some o->m.testBit (i+j)=false->EG o m=true->(i+j,o)∈qd m i l
 | [],_,_,_,h,_,_=>by simp at h
 | y::r,i,0,o,h,h1,U=>by
  simp only[iy,aQ]at h;subst h;simp only[qd];rw[a6 (by rw[mq]at h1;simp[h1,U])];exact eF
 | y::r,i,j+1,o,h,h1,U=>by
  have:=QA (m:=m) (l:=r) (i:=i+1) (j:=j) (o:=o) (by simpa using h) (by rwa[show i+1+j=i+(j+1) by omega]) U;rw[show i+1+j=i+(j+1) by omega]at this;simp only[qd];split
  ·exact fc _ this
  exact this
theorem I8{m k:Nat}:∀{l:List Oper} {i:Nat} {st:aE},(∀j,i<=j->j<i+l.length->m.testBit j=k.testBit j)->runM P ops A m i l st=runM P ops A k i l st
 | [],_,_,_=>rfl
 | o::r,i,st,h=>by
  simp only[runM];rw[h i (dm _) (by simp)];split
  ·split
   ·exact I8 fun j h1 U=>h j (by omega) (by simp only[dn];omega)
   rfl
  exact I8 fun j h1 U=>h j (by omega) (by simp only[dn];omega)
theorem QB:∀{O:List (List Prop)} (i:Nat),cB O.flatten->cB (O.getD i [])
 | [],i,_=>by simp[cB]
 | o::r,0,h=>by
  rw[List.flatten_cons]at h;exact (cB.append h).1
 | o::r,i+1,h=>by
  rw[List.flatten_cons]at h;exact QB i (cB.append h).2
theorem ak5{ms:List Nat}{w0:ev}{Q:Exit->Act->World->Prop}(hm:rz ms ops.toList=true)(aN:cB O.flatten)
  (jo:∀cy aG,Rel w0 (runM P ops A (2 ^ ops.size-1) 0 ops.toList fG) cy aG->Q .normal cy aG):∀(hE:Nat) {l:List Nat},zp P ops A fG hE l=zq P ops A O fG hE l->
  ∀{m:Nat} {bP:Array Bool},m∈l->bP.size=ops.size->(∀j,j<ops.size->bP.getD j false=m.testBit j)->bP.count false<=hE->
  ∀{a:Act} {w:World},Rel w0 (runM P ops A m 0 ops.toList fG) a w->wpAny P .any ops Q hE bP a w:=by
 have fin:∀{m:Nat} {bP:Array Bool},(∀j,j<ops.size->bP.getD j false=m.testBit j)->(∀j,j<ops.size->bP.getD j false=true)->
   ∀{a:Act} {w:World},Rel w0 (runM P ops A m 0 ops.toList fG) a w->Q .normal a w:=by
  intro m bP h1 U a w ar;refine jo a w ?_;rw[I8 (m:=2 ^ ops.size-1) (k:=m)]
  ·exact ar
  intro j _ aM;have zJ:j<ops.size:=by simpa using aM
  rw[<-h1 j zJ,U j zJ,Nat.testBit_two_pow_sub_one,ji zJ]
 intro hE;induction hE with
 | zero=>
  intro l _ m bP _ ae h1 sr a w ar;have h3:∀j,j<ops.size->bP.getD j false=true:=by
   intro j aM;cases af:bP.getD j false with
   | true=>rfl
   | false=>
    exfalso;have iC:j<bP.size:=ae▸aM;have bl:bP[j]=false:=by simpa[gN iC]using af
    have:0<bP.count false:=by
     rw[Array.count_pos_iff];exact bl▸Array.getElem_mem iC
    omega
  refine⟨?_,fin h1 h3 ar⟩;rw[List.eq_nil_iff_forall_not_mem];intro j aM;obtain⟨U,o,kD,_⟩:=mem_ready.1 aM;have bq:j<ops.size:=(hA.1 kD).1;have au:=h3 j bq;have iC:j<bP.size:=ae▸bq;simp[gN iC]at U au;rw[U]at au;cases au
 | succ hE dt=>
  intro l he m bP q8 ae h1 sr a w ar;simp only[zp,zq,r0]at he;refine⟨fun vI=>fin h1 (JP hm ae vI) ar,fun i hi=>?_⟩;obtain⟨ba,o,kD,q3⟩:=mem_ready.1 hi;have bq:i<ops.size:=(hA.1 kD).1;have iC:i<bP.size:=ae▸bq;have Np:bP.getD i false=false:=by
   simp[gN iC]at ba ⊢;exact ba
  have X8:EG o m=true:=by
   unfold EG;rw[fN];intro e tM;cases ah:Region.binds .any e with
   | false=>rfl
   | true=>
    have br:=q3 e (by simpa using tM) ah;have b7:e.on<bP.size:=EB br;rw[h1 e.on (ae▸b7)]at br;simp[br]
  have NM:(i,o)∈qd m 0 ops.toList:=by
   have:=QA (m:=m) (l:=ops.toList) (i:=0) (j:=i) (o:=o) (by simpa using kD) (by rw[c',<-h1 i bq,Np]) X8;rwa[c']at this
  have lp:=Qv he.1 m q8 _ NM;refine Qr kD lp (QB i aN) ar fun cy aG dy=>dt he.2 (Qz q8 NM) (by simpa using ae) (fun j aM=>?_) ?_ dy
  ·rw[Nat.testBit_or,Nat.testBit_two_pow];by_cases p3:j=i
   ·subst p3;have aR:j<(bP.setIfInBounds j true).size:=by simpa using iC
    simp[gN aR]
   rw[getD_set_ne false (Ne.symm p3),h1 j aM,mu (Ne.symm p3),Bool.or_false]
  have bl:bP[i]=false:=by simpa[gN iC]using Np
  have:(bP.setIfInBounds i true).count false=bP.count false-1:=by
   have e:bP.setIfInBounds i true=bP.set i true iC:=by unfold Array.setIfInBounds;rw[dif_pos iC]
   rw[e,Array.count_set];simp[bl]
  omega
theorem dY.of{bn:aE}(A:List (List b4))(O:List (List Prop))(ad:(P.follows .mixedOrders&&rz (rl ops.toList []) ops.toList)=true)
  (he:zp P ops A st ops.size [0]=zq P ops A O st ops.size [0]) (bl:runM P ops A (2 ^ ops.size-1) 0 ops.toList st=bn) (aN:cB O.flatten):dY P ops st bn:=by
 intro w0 a w id Q ar jo;simp only[ca]at ad;have aR:∀{l:List Oper} {i:Nat},runM P ops A 0 i l st=st:=by
  intro l;induction l with
  | nil=>intro i;rfl
  | cons o r dt=>intro i;simp only[runM,Nat.zero_testBit,mm,j4];exact dt
 refine wp_region_any ad.1 (ak5 ad.2 aN (fun cy aG h=>jo cy aG (bl▸h)) ops.size he (m:=0) eF (by simp) (fun j aM=>by simp[aM]) (by simp[Array.count_replicate]) ?_);rw[aR];exact ar.drew
def I9(P:Program)(ops:Array Oper)(st:aE)(ans:List b4):Stepped:=
 match ans with
 | .h7 bn::r=>some (bn,r,[dY P ops st bn])
 | _=>I7 P ops st ans
theorem ak6{bn:aE}{ans ch:List b4}{obs:List Prop}(h:I9 P ops st ans=some (bn,ch,obs))(aN:cB obs){w0:ev}{a:Act}{w:World}(ar:Rel w0 st a w){id:Nat}
  {Q:Exit->Act->World->Prop} (jo:∀cy aG,Rel w0 bn cy aG->Q .normal cy aG):(Code.region id ops true).wp P Q a w:=by
 unfold I9 at h;split at h
 ·simp only[aQ,bw]at h;obtain⟨rfl,_,rfl⟩:=h;exact aN.1 w0 a w id Q ar jo
 exact ak3 h aN ar jo
