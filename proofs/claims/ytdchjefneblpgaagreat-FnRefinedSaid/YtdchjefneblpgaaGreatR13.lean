import Derived.Test.YtdchjefneblpgaaGreatR26
import Derived.Test.YtdchjefneblpgaaGreatR31
import Derived.Orders
set_option linter.unusedVariables false
set_option linter.unusedSimpArgs false
namespace Go.Sx
open Go.RowKit
def Lk(P:Program)(st:aJ)(d:Option Nat)(f:FuncId)(args:List Operand)(ans:List cf):Stepped:=
 match P.funcs[f]?,args.mapM (fun x=>(st.br x).kI st.boxes),ans with
 | some fn,some hc,.res rs::r=>
  if (fn.name == "runtime.NumGoroutine") = false /\ fn.body.isNone = false /\ va rs = true /\ 10000 * (d.getD 0 + 1) + 10000 <= dn then
   let t:=10000*(d.getD 0+1)
   match d with
   | some d=>some (⟨(st.wq t).env.set d (ud t rs),(st.wq t).boxes⟩,r,[jn P f hc rs])
   | none=>some (st.wq t,r,[jn P f hc rs])
  else none
 | _,_,_=>none
def S6(P:Program)(st:aJ)(d:Option Nat)(f:Operand)(args:List Operand)(ans:List cf):Stepped:=
 match (st.br f).leaf.bind (aH.kI st.boxes),args.mapM (fun x=>(st.br x).kI st.boxes),ans with
 | some (.cl g bx),some hc,.res rs::r=>
  if va rs=true/\10000*(d.getD 0+1)+10000<=dn then
   let t:=10000*(d.getD 0+1)
   match d with
   | some d=>some (⟨(st.wq t).env.set d (ud t rs),(st.wq t).boxes⟩,r,[hD P g=true,jn P g (hc++bx.map .one) rs])
   | none=>some (st.wq t,r,[hD P g=true,jn P g (hc++bx.map .one) rs])
  else none
 | _,_,_=>none
def R1:List cf->Bool
 | .pF _ _ _ _::_=>true
 | _=>false
def R3:List cf->Bool
 | .dp _ _::_=>true
 | _=>false
def R2:List cf->Bool
 | .own::_=>true
 | _=>false
def qi(P:Program)(st:aJ)(o:Oper)(ans:List cf):Stepped:=
 match o.dst,o.op with
 | some d,.box _ x=>KL st d (st.br x) ans
 | some d,.alloc ty=>KM P st d ty ans
 | some d,.makeSlice t l c=>E5 P st d t (st.br l) (st.br c) ans
 | some d,.buildSlice t n parts=>BY P st d t n parts.toList ans
 | none,.store ty x y=>
  match (st.br x).leaf with
  | some (.ptr id off)=>KN P st ty id off (st.br y) ans
  | some (.cP (.own t) k es i j)=>LM P st ty t k es i j (st.br y) ans
  | some (.aQ t i j k es (.at_ a b))=>L0 P st ty t i j k es a b (st.br y) ans
  | _=>none
 | d,.call ⟨.value (.func f),args,_⟩=>if R3 ans then Lh P st d f args.toList ans else if R1 ans then LU P st d f args.toList ans else Lk P st d f args.toList ans
 | d,.call ⟨.value (.tmp x),args,_⟩=>if R3 ans then Li P st d (.tmp x) args.toList ans else S6 P st d (.tmp x) args.toList ans
 | some d,.call ⟨.builtin .append,⟨[x,y]⟩,⟨[t,di]⟩⟩=>
  if t=di then
   match (st.br x).leaf with
   | some (.aQ s i j k es .here)=>L1 P st d t s i j k es y ans
   | _=>z8 P st d t x y ans
  else none
 | some d,.slice t x de hi jI=>if R2 ans then z' P st d t (st.br x) de hi jI ans.tail else (qe P st (.slice t x de hi jI) ans).map fun r=>(⟨st.env.set d r.1,st.boxes⟩,r.2.1,r.2.2)
 | some d,op=>(qe P st op ans).map fun r=>(⟨st.env.set d r.1,st.boxes⟩,r.2.1,r.2.2)
 | none,op=>(qe P st op ans).map fun r=>(st,r.2.1,r.2.2)
variable{P:Program}{o:Oper}{a:Act}{w:World}{Q:Exit->Act->World->Prop}
theorem Calls.of{next:Act->World->Prop}{z:Value}{aO:World}(h:(execOp a.eval o).run P w=.ok (.value z) aO)(aX:next (a.put o.dst z) aO):
  o.wp P a w next Q:=by
 unfold Oper.wp;rw[h];exact aX
variable{w0:eT}{st bC:aJ}{ans cq:List cf}{obs:List Prop}
theorem Ll(h:qi P st o ans=some (bC,cq,obs))(ba:cL obs)(a8:Rel w0 st a w)
  {next:Act->World->Prop} {Q:Exit->Act->World->Prop} (kN:∀cK aO,Rel w0 bC cK aO->next cK aO):o.wp P a w next Q:=by
 obtain⟨ω,τ,a8⟩:=a8;obtain⟨dst,op,type,pos,after,guard⟩:=o;simp only[qi]at h;split at h
 ·rename_i d ty x;obtain⟨z,aO,h1,U⟩:=cJ.box (P:=P) a8 (a8.br x) h ty;exact Calls.of (jR h1) (kN _ _ U)
 ·rename_i d ty;obtain⟨z,aO,h1,U⟩:=cJ.alloc a8 h;exact Calls.of (jR h1) (kN _ _ U)
 ·rename_i d t l c;obtain⟨z,aO,h1,U⟩:=a8.make (a8.br l) (a8.br c) h ba;exact Calls.of (jR h1) (kN _ _ U)
 ·rename_i d t n parts;obtain⟨z,aO,h1,U⟩:=a8.buildSlice h;exact Calls.of (jR h1) (kN _ _ U)
 ·rename_i ty x y;have fin:∀aO,(Instr.storeAt ty (a.eval x) (a.eval y)).run P w=.ok () aO->Rel w0 bC a aO->Oper.wp P ⟨none,.store ty x y,type,pos,after,guard⟩ a w next Q:=by
   intro aO h1 U;unfold Oper.wp execOp;simp only[Sem.run_bind,h1,Result.andThen_ok,Sem.run_pure,Oper.upon];exact kN _ _ U
  split at h
  ·rename_i id off e;obtain⟨b,av,ah⟩:=aL.dV e (a8.br x);obtain⟨aO,h1,U⟩:=a8.aBx (P:=P) av (a8.br y) h;exact fin aO (by rw[ah];exact h1) U
  ·rename_i t k es i j e;obtain⟨aO,h1,U⟩:=a8.aBz (P:=P) (aL.dV e (a8.br x)) (a8.br y) h ba;exact fin aO h1 U
  ·rename_i t i j k es aBM Qt e;obtain⟨aO,h1,U⟩:=a8.aBB (P:=P) (aL.dV e (a8.br x)) (a8.br y) h ba;exact fin aO h1 U
  cases h
 ·rename_i f args ts;split at h
  ·exact avP a8 h ba kN
  split at h
  ·exact avI a8 h ba kN
  rename_i Jh ack;clear Jh;unfold Lk at h;clear ack;split at h
  ·rename_i fn hc rs r la IW;split at h
   ·rename_i aj;obtain⟨lS,ly,lT,th⟩:=aj;obtain⟨ap,ay⟩:=oy IW;have nD:EM w hc (args.map a.eval):=by
     refine⟨by simp[ap],fun i cm hi=>?_⟩;obtain⟨x,ah,iV⟩:=ay i cm hi;refine⟨a.eval x,?_,aL.yh a8.boxes iV (a8.br x)⟩;rw[Am];rw[iO]at ah;rw[ah];rfl
    have fm:(execOp a.eval ⟨dst,.call ⟨.value (.func f),args,ts⟩,type,pos,after,guard⟩).run P w=.ok (.enter f (args.map a.eval)) w:=by
     have abF : fn.name ≠ "runtime.NumGoroutine" := by simpa using lS
     have qO:fn.body≠none:=by intro e;rw[e]at ly;cases ly
     simp[execOp,resolve,Act.eval,Deferred.ofValue,invoke,callFunc,la,abF,qO]
    have key:∀(nO:List Prop),obs=nO->cL nO->nO=[jn P f hc rs]->∀(K:Act->World->Prop),(∀v aO,hb w.heap.size w aO->yd w aO rs v->K (a.put dst v) aO)->
      Oper.wp P ⟨dst,.call ⟨.value (.func f),args,ts⟩,type,pos,after,guard⟩ a w K Q:=by
     intro nO _ lA e K gW;subst e;unfold Oper.wp;rw[fm];simp only[Oper.upon];refine (lA.1 w _ a8.below.laid nD).mono ?_;rintro e aO ⟨v,rfl,av,aA⟩;exact gW v aO av aA
    simp only at h;cases dst with
    | none=>
     simp only[aV,bH]at h;obtain⟨rfl,_,rfl⟩:=h;refine key _ rfl ba rfl next fun v aO av aA=>kN _ _ ?_
     obtain⟨bc,cY,h1,_⟩:=a8.called (10000*(Option.getD none 0+1)) lT th av aA;exact⟨bc,cY,h1⟩
    | some d=>
     simp only[aV,bH]at h;obtain⟨rfl,_,rfl⟩:=h;refine key _ rfl ba rfl next fun v aO av aA=>kN _ _ ?_
     obtain⟨bc,cY,h1,U⟩:=a8.called (10000*(Option.getD (some d) 0+1)) lT th av aA;exact⟨bc,cY,h1.put U⟩
   cases h
  cases h
 ·rename_i x args ts;split at h
  ·exact avQ a8 h ba kN
  rename_i Jh;clear Jh;unfold S6 at h;split at h
  ·rename_i g bx hc rs r b2 IW;split at h
   ·rename_i aj;obtain⟨lT,th⟩:=aj;obtain⟨ap,ay⟩:=oy IW;have c4:hc.length=args.size:=by rw[ap,v8]
    rw[ni]at b2;obtain⟨lF,El,acw⟩:=b2;have Rh:mq w (.cl g bx) (a.eval (.tmp x)):=aH.yh a8.boxes acw (aL.dV El (a8.br (.tmp x)));have ab3:∃cs:Array Value,a.eval (.tmp x)=.func (.func g) #[] cs/\cs.size=bx.length/\∀(j:Nat) (d:D),bx[j]?=some d->∃u,cs[j]?=some u/\mq w d u:=by
     generalize a.eval (.tmp x)=y at Rh;cases Rh with
     | cl R g bx cs us ao hu aG=>exact⟨cs,rfl,ao,fun j d a1=>⟨us j,hu j d a1,(aG j d a1).free⟩⟩
    obtain⟨cs,pX,yy,abR⟩:=ab3;have nD:EM w (hc++bx.map .one) (args.map a.eval++cs):=by
     refine⟨by simp[ap,yy],fun i cm hi=>?_⟩;rw[l8]at hi;rw[hW];split at hi
     ·rename_i lc;rw[bm (by simp;omega)];obtain⟨y,bf,j6⟩:=ay i cm hi;refine⟨a.eval y,?_,aL.yh a8.boxes j6 (a8.br y)⟩;rw[Am];rw[iO]at bf;rw[bf];rfl
     rename_i lc;rw[bk (by simp;omega)];rw[dq,cc]at hi;obtain⟨d,aG,rfl⟩:=hi;obtain⟨u,f',eY⟩:=abR _ d aG;refine⟨u,?_,eY⟩;rw[<-f']
     congr 1
     simp;omega
    have fm:hD P g=true->(execOp a.eval ⟨dst,.call ⟨.value (.tmp x),args,ts⟩,type,pos,after,guard⟩).run P w=.ok (.enter g (args.map a.eval++cs)) w:=by
     intro wE;unfold hD at wE;split at wE
     ·rename_i fn la;simp only[cx,gT,sT,gy]at wE;have qO:fn.body≠none:=by intro e;rw[e]at wE;simp at wE
      simp[execOp,resolve,pX,Deferred.ofValue,invoke,callFunc,la,wE.1,qO]
     cases wE
    have key:∀(nO:List Prop),obs=nO->cL nO->nO=[hD P g=true,jn P g (hc++bx.map .one) rs]->∀(K:Act->World->Prop),(∀v aO,hb w.heap.size w aO->yd w aO rs v->K (a.put dst v) aO)->
      Oper.wp P ⟨dst,.call ⟨.value (.tmp x),args,ts⟩,type,pos,after,guard⟩ a w K Q:=by
     intro nO _ lA e K gW;subst e;unfold Oper.wp;rw[fm lA.1];simp only[Oper.upon];refine (lA.2.1 w _ a8.below.laid nD).mono ?_;rintro e aO ⟨v,rfl,av,aA⟩;exact gW v aO av aA
    simp only at h;cases dst with
    | none=>
     simp only[aV,bH]at h;obtain⟨rfl,_,rfl⟩:=h;refine key _ rfl ba rfl next fun v aO av aA=>kN _ _ ?_
     obtain⟨bc,cY,h1,_⟩:=a8.called (10000*(Option.getD none 0+1)) lT th av aA;exact⟨bc,cY,h1⟩
    | some d=>
     simp only[aV,bH]at h;obtain⟨rfl,_,rfl⟩:=h;refine key _ rfl ba rfl next fun v aO av aA=>kN _ _ ?_
     obtain⟨bc,cY,h1,U⟩:=a8.called (10000*(Option.getD (some d) 0+1)) lT th av aA;exact⟨bc,cY,h1.put U⟩
   cases h
  cases h
 ·rename_i d x y t di;split at h
  ·rename_i Bk;subst Bk;have r0:∃z aO,(Builtin.append_ #[t,t] type #[a.eval x,a.eval y]).run P w=.ok z aO/\Rel w0 bC (a.put (some d) z) aO:=by
    split at h
    ·rename_i s i j k es e;exact a8.aaX (P:=P) (ty:=type) (aL.dV e (a8.br x)) h ba
    exact a8.z8 (ty:=type) h ba
   obtain⟨z,aO,h1,U⟩:=r0;refine Calls.of (z:=z) (aO:=aO) ?_ (kN _ _ U);have:(execOp a.eval ⟨some d,.call ⟨.builtin .append,⟨[x,y]⟩,⟨[t,t]⟩⟩,type,pos,after,guard⟩)=(builtin .append ⟨[t,t]⟩ type (Array.map (fun | .const _=>true | _=>false) ⟨[x,y]⟩) (Array.map a.eval ⟨[x,y]⟩)):=by
    simp only[execOp,resolve];rfl
   rw[this];exact jR (by simpa using h1)
  cases h
 ·rename_i d t x de hi jI;split at h
  ·obtain⟨z,h1,U⟩:=a8.z' (P:=P) (a8.br x) h ba;exact Calls.of (jR h1) (kN _ _ U)
  rw[cc]at h;obtain⟨⟨bF,bQ,cb⟩,h1,h⟩:=h;simp only[bH]at h;obtain⟨rfl,rfl,rfl⟩:=h;obtain⟨z,U,ax⟩:=KK (o:=⟨_,_,type,pos,after,guard⟩) a8 h1 ba;exact Calls.of U (kN _ _ ⟨ω,τ,a8.put ax⟩)
 ·rw[cc]at h;obtain⟨⟨bF,bQ,cb⟩,h1,h⟩:=h;simp only[bH]at h;obtain⟨rfl,rfl,rfl⟩:=h;obtain⟨z,U,ax⟩:=KK (o:=⟨_,_,type,pos,after,guard⟩) a8 h1 ba;exact Calls.of U (kN _ _ ⟨ω,τ,a8.put ax⟩)
 rw[cc]at h;obtain⟨⟨bF,bQ,cb⟩,h1,h⟩:=h;simp only[bH]at h;obtain⟨rfl,rfl,rfl⟩:=h;obtain⟨z,U,ax⟩:=KK (o:=⟨_,_,type,pos,after,guard⟩) a8 h1 ba;exact Calls.of U (kN _ _ ⟨ω,τ,a8⟩)
def pB(P:Program)(st:aJ)(o:Oper)(ans:List cf):Stepped:=
 match o.dst,o.op with
 | some d,.alloc ty=>EQ P st d ty ans
 | none,.store ty (.tmp s) y=>ES P st ty s (st.br y) ans
 | _,_=>qi P st o ans
theorem avR(h:pB P st o ans=some (bC,cq,obs))(ba:cL obs)(a8:Rel w0 st a w)
  {next:Act->World->Prop} {Q:Exit->Act->World->Prop} (kN:∀cK aO,Rel w0 bC cK aO->next cK aO):o.wp P a w next Q:=by
 obtain⟨dst,op,type,pos,after,guard⟩:=o;unfold pB at h;split at h
 ·rename_i d ty e1 e2;simp only at e1 e2;subst e1;subst e2;obtain⟨ω,τ,a8⟩:=a8;obtain⟨z,aO,h1,U⟩:=cJ.aaW a8 h;exact Calls.of (jR h1) (kN _ _ U)
 ·rename_i ty s y e1 e2;simp only at e1 e2;subst e1;subst e2;obtain⟨ω,τ,a8⟩:=a8;obtain⟨aO,h1,U⟩:=a8.aBA (P:=P) (a8.br y) h;unfold Oper.wp execOp;simp only[Sem.run_bind,h1,Result.andThen_ok,Sem.run_pure,Oper.upon];exact kN _ _ U
 exact Ll h ba a8 kN
def B'(st:aJ)(dst:Option Nat):aJ:=
 match dst with
 | some d=>⟨st.env.set d (.one (.v undef)),st.boxes⟩
 | none=>st
theorem Lm{dst:Option Nat}(h:Rel w0 st a w):Rel w0 (B' st dst) (a.put dst undef) w:=by
 obtain⟨ω,τ,h⟩:=h;cases dst with
 | none=>exact⟨ω,τ,h⟩
 | some d=>exact⟨ω,τ,h.put (p:=.one (.v undef)) rfl⟩
def so(ops:Array Oper)(st:aJ)(o:Oper)(ans:List cf):Option (Bool×aJ×List cf×List Prop):=
 match o.guard with
 | none=>some (true,st,ans,[])
 | some (j,want)=>
  match (ops[j]?).bind (·.dst) with
  | some s=>
   match (st.env.getD s .cA).leaf with
   | some (.v (.bool b))=>some (b==want,st,ans,[])
   | some (.v (.tuple _))=>some (false,st,ans,[])
   | some (.bg c)=>
    match ans with
    | .pN b::r=>some (b==want,⟨st.env.set s (.one (.v (.bool b))),st.boxes⟩,r,[c=b])
    | _=>none
   | _=>none
  | none=>none
variable{ops:Array Oper}
theorem xm{b:Bool}(h:so ops st o ans=some (b,bC,cq,obs))(ba:cL obs)(a8:Rel w0 st a w):
  Region.wanted o (yielded ops a.tmps)=b/\Rel w0 bC a w:=by
 obtain⟨ω,τ,a8⟩:=a8;unfold so at h;split at h
 ·rename_i ay;simp only[aV,bH]at h;obtain⟨rfl,rfl,_,_⟩:=h;exact⟨by simp[Region.wanted,ay],ω,τ,a8⟩
 rename_i j want ay;split at h
 ·rename_i s ao;have e3:∀l,(st.env.getD s .cA).leaf=some l->∀x,(∀y,Sat w ω τ l y->y=x)->(l=.cA->False)->a.tmps[s]?=some x:=by
   intro l ap x ah cC;rw[jB]at ap;cases e:st.env[s]? with
   | none=>
    rw[e]at ap;simp only[Option.getD_none,aL.leaf,aV]at ap;exact absurd ap.symm cC
   | some p=>
    rw[e]at ap;obtain⟨v,h1,U⟩:=a8.env s p e;rw[h1,ah v (aL.dV ap U)]
  split at h
  ·rename_i dc ap;simp only[aV,bH]at h;obtain⟨rfl,rfl,_,_⟩:=h;have:=e3 _ ap (.bool dc) (fun y bf=>bf) (fun h=>by cases h);exact⟨by simp[Region.wanted,ay,yielded,ao,this],ω,τ,a8⟩
  ·rename_i vs ap;simp only[aV,bH]at h;obtain⟨rfl,rfl,_,_⟩:=h;have:=e3 _ ap (.tuple vs) (fun y bf=>bf) (fun h=>by cases h);exact⟨by simp[Region.wanted,ay,yielded,ao,this],ω,τ,a8⟩
  ·rename_i c ap;split at h
   ·rename_i dc r;simp only[aV,bH]at h;obtain⟨rfl,rfl,_,rfl⟩:=h;have gp:c=dc:=ba.1;subst gp;have:=e3 _ ap (.bool c) (fun y bf=>bf) (fun h=>by cases h);refine⟨by simp[Region.wanted,ay,yielded,ao,this],ω,τ,?_⟩;have Jr:=a8.put (d:=s) (p:=.one (.v (.bool c))) (v:=.bool c) rfl;have e:a.put (some s) (.bool c)=a:=by
     simp only[Act.put];have:a.tmps.setIfInBounds s (.bool c)=a.tmps:=by
      apply Array.ext
      ·simp
      intro i h1 U;rw[Array.getElem_setIfInBounds];split
      ·rename_i hi;subst hi;rw[ht U]at this;exact (eW this).symm
      rfl
     rw[this]
    rwa[e]at Jr
   cases h
  cases h
 cases h
def rc(P:Program)(ops:Array Oper)(o:Oper)(st:aJ)(ans:List cf):Stepped:=
 match so ops st o ans with
 | some (true,st1,fL,gC)=>(qi P st1 o fL).map fun r=>(r.1,r.2.1,gC++r.2.2)
 | some (false,st1,fL,gC)=>some (B' st1 o.dst,fL,gC)
 | none=>none
theorem S7{rest:List Oper}(h:rc P ops o st ans=some (bC,cq,obs))(ba:cL obs)
  {a:Act} {w:World} (a8:Rel w0 st a w) (gW:∀cK aO,Rel w0 bC cK aO->wpList P ops Q rest cK aO):wpList P ops Q (o::rest) a w:=by
 unfold rc at h;split at h
 ·rename_i st1 fL gC hw;rw[cc]at h;obtain⟨⟨bF,bQ,cb⟩,h1,h⟩:=h;simp only[bH]at h;obtain⟨rfl,rfl,rfl⟩:=h;obtain⟨ci,b6⟩:=ba.append;obtain⟨o9,fh⟩:=xm hw ci a8;refine wpList_step fun K wz=>?_
  rw[bm o9];exact Ll h1 b6 fh fun cK aO ep=>wz _ _ (gW _ _ ep)
 ·rename_i st1 fL gC hw;simp only[aV,bH]at h;obtain⟨rfl,rfl,rfl⟩:=h;obtain⟨o9,fh⟩:=xm hw ba a8;refine wpList_step fun K wz=>?_
  rw[bk (by rw[o9];simp)];exact wz _ _ (gW _ _ (Lm fh))
 cases h
def Ln(o b6:Oper):Option (Nat×TypeId×Operand×Option Operand×TypeId):=
 match o.dst,o.op,o.guard,b6.dst,b6.op,b6.guard with
 | some d,.slice t x de none none,none,none,.call ⟨.builtin .clear,⟨[.tmp dP]⟩,⟨[eS]⟩⟩,none=>if d=dP then some (d,t,x,de,eS) else none
 | _,_,_,_,_,_=>none
theorem avS{b6:Oper}{rest:List Oper}{d:Nat}{t eS:TypeId}{x:Operand}{de:Option Operand}(hp:Ln o b6=some (d,t,x,de,eS))
  {st bC:aJ} {ans cq:List cf} {obs:List Prop} (h:EU P st d t x de eS ans=some (bC,cq,obs)) (ba:cL obs)
  {a:Act} {w:World} (a8:Rel w0 st a w) (gW:∀cK aO,Rel w0 bC cK aO->wpList P ops Q rest cK aO):wpList P ops Q (o::b6::rest) a w:=by
 obtain⟨dst,op,type,pos,after,guard⟩:=o;obtain⟨aCp,aDi,type2,aDn,aCb,aCz⟩:=b6;unfold Ln at hp;split at hp
 ·rename_i d0 t0 ff aDb dP aDv e1 e2 cg eo h9 nA;simp only at e1 e2 cg eo h9 nA;subst e1 e2 cg eo h9 nA;split at hp
  ·rename_i aG;subst aG;simp only[aV,bH]at hp;obtain⟨rfl,rfl,rfl,rfl,rfl⟩:=hp;obtain⟨ω,τ,a8⟩:=a8;obtain⟨bz,y,z,aO,h1,U,ax⟩:=a8.clear h ba;refine wpList_plain rfl fun K wz=>Calls.of (jR (by simpa using h1)) (wz _ _ ?_)
   refine wpList_plain rfl fun K wz=>?_
   have r5:(a.put (some d0) y).eval (.tmp d0)=y:=by
    simp only[Act.eval,Act.put,eG,Array.getElem?_setIfInBounds];simp[bz]
   refine Calls.of (z:=z) (aO:=aO) ?_ (wz _ _ (gW _ _ ax));simp only[execOp,resolve,invoke,builtin,Sem.run_bind,Sem.run_pure,Result.andThen_ok,List.map_toArray,l',List.map_nil,r5,U]
  cases hp
 cases hp
def xn(P:Program)(ops:Array Oper):List Oper->aJ->List cf->Stepped
 | [],st,ans=>some (st,ans,[])
 | [o],st,ans=>rc P ops o st ans
 | o::b6::rest,st,ans=>
  match Ln o b6 with
  | some (d,t,x,de,eS)=>
   match EU P st d t x de eS ans with
   | some (st1,fL,gC)=>(xn P ops rest st1 fL).map fun r=>(r.1,r.2.1,gC++r.2.2)
   | none=>none
  | none=>
   match rc P ops o st ans with
   | some (st1,fL,gC)=>(xn P ops (b6::rest) st1 fL).map fun r=>(r.1,r.2.1,gC++r.2.2)
   | none=>none
theorem Lo:∀(l:List Oper) {st bC:aJ} {ans cq:List cf} {obs:List Prop},xn P ops l st ans=some (bC,cq,obs)->cL obs->
  ∀{a:Act} {w:World},Rel w0 st a w->(∀cK aO,Rel w0 bC cK aO->Q .normal cK aO)->wpList P ops Q l a w
 | [],st,bC,ans,cq,obs,h,_,a,w,a8,j3=>by
  simp only[xn,aV,bH]at h;obtain⟨rfl,_,_⟩:=h;exact j3 _ _ a8
 | [o],st,bC,ans,cq,obs,h,ba,a,w,a8,j3=>by
  simp only[xn]at h;exact S7 h ba a8 fun cK aO ep=>j3 _ _ ep
 | o::b6::rest,st,bC,ans,cq,obs,h,ba,a,w,a8,j3=>by
  simp only[xn]at h;split at h
  ·rename_i d t x de eS hp;split at h
   ·rename_i st1 fL gC h1;rw[cc]at h;obtain⟨⟨bF,bQ,cb⟩,U,h⟩:=h;simp only[bH]at h;obtain⟨rfl,rfl,rfl⟩:=h;obtain⟨ci,ct⟩:=ba.append;exact avS hp h1 ci a8 fun cK aO ep=>Lo rest U ct ep j3
   cases h
  split at h
  ·rename_i st1 fL gC h1;rw[cc]at h;obtain⟨⟨bF,bQ,cb⟩,U,h⟩:=h;simp only[bH]at h;obtain⟨rfl,rfl,rfl⟩:=h;obtain⟨ci,ct⟩:=ba.append;exact S7 h1 ci a8 fun cK aO ep=>Lo (b6::rest) U ct ep j3
  cases h
end Go.Sx
namespace Go.Sx
open Go.RowKit
abbrev gU:=List (Nat×Nat)
def gU.has(r:gU)(s:Nat):Bool:=r.any fun x=>decide (x.1<=s)&&decide (s<x.2)
def Tag.e4(r:gU):Tag->Bool
 | .free=>false
 | .own s=>r.has s
 | .ro s=>r.has s
def fj.e4(r:gU):fj->Bool
 | .J t _ _=>t.e4 r
 | _=>false
def aH.e4(r:gU):aH->Bool
 | .J t _ _=>t.e4 r
 | .cP t _ _ _ _=>t.e4 r
 | .aQ t _ _ _ _ _=>r.has t
 | .fN t vs=>r.has t||vs.any (fj.e4 r)
 | _=>false
def bn.e4(r:gU):bn->Bool
 | .one l=>l.e4 r
 | .agg ls=>ls.any (aH.e4 r)
def aL.e4(r:gU):aL->Bool
 | .aI a=>a.e4 r
 | .gf as=>as.any (bn.e4 r)
def pC(g:Tag->Option Tag)(r:gU):Prop:=∀t:Tag,t.e4 r=false->g t=some t
variable{g:Tag->Option Tag}{r:gU}
theorem aH.xV(ay:pC g r){l:aH}(h:l.e4 r=false):l.cu g (fun _=>true)=l:=by
 cases l with
 | J t k es=>simp only[aH.e4]at h;simp only[aH.cu,ay t h]
 | cP t k es i j=>simp only[aH.e4]at h;simp only[aH.cu,ay t h]
 | ptr id off=>simp[aH.cu]
 | hv f ids=>simp[aH.cu]
 | aQ t i j k es m=>simp only[aH.e4]at h;simp only[aH.cu,ay (.own t) h,fX]
 | fN t vs=>
  simp only[aH.e4,hG]at h;simp only[aH.cu,ay (.own t) h.1,fX]
  congr 1
  conv=>rhs;rw[<-sX vs]
  refine l9 fun c aj=>?_
  have:=ik.1 h.2 c aj;cases c with
  | cA=>rfl
  | v x=>rfl
  | J di k es=>simp only[fj.cu,ay di (by simpa[fj.e4]using this),id]
 | _=>rfl
theorem S8(ay:pC g r){ls:List aH}(h:ls.any (aH.e4 r)=false):ls.map (aH.cu g fun _=>true)=ls:=by
 conv=>rhs;rw[<-sX ls]
 refine l9 fun l ap=>?_
 rw[ik]at h;exact aH.xV ay (by simpa using h l ap)
theorem bn.xV(ay:pC g r){a:bn}(h:a.e4 r=false):a.map (aH.cu g fun _=>true)=a:=by
 cases a with
 | one l=>simp only[bn.e4]at h;simp only[bn.map,aH.xV ay h]
 | agg ls=>simp only[bn.e4]at h;simp only[bn.map,S8 ay h]
theorem aL.xV(ay:pC g r){p:aL}(h:p.e4 r=false):p.map (aH.cu g fun _=>true)=p:=by
 cases p with
 | aI a=>simp only[aL.e4]at h;simp only[aL.map,bn.xV ay h]
 | gf as=>
  simp only[aL.e4]at h;simp only[aL.map]
  congr 1
  conv=>rhs;rw[<-sX as]
  refine l9 fun a ak=>?_
  rw[ik]at h;exact bn.xV ay (by simpa using h a ak)
structure dH where
 dst:Option Nat
 p:aL
 use:List Nat
 oH:gU
abbrev nq:=Option (dH×(Tag->Option Tag)×List cf×List Prop)
def S9:Operand->Option Nat
 | .tmp t=>some t
 | _=>none
def BE:Option Nat->gU
 | none=>[]
 | some s=>[(s,s+1)]
def Ax(P:Program)(st:aJ)(d:Nat)(t:TypeId)(x y:Operand)(ans:List cf):nq:=
 match ru P t with
 | some (e,k)=>
  match P.info? e with
  | some i=>
   match i.zero,(st.br x).leaf,x with
   | some z,some (.J (.own hV) cw es),.tmp s=>
    match wl hV k (st.br y) ans with
    | some (bV,ef,cq,obs)=>
     if cw=k/\z.cells.size=k/\0<k/\hV<dn then
      some (⟨some d,.one (.J (.own hV) k (es++bV)),[s],(hV,hV+1)::BE ef⟩,iC hV ef,cq,((es.length+bV.length)*i.bytes<=140737488355328)::(es.length+bV.length<=9223372036854775807)::obs)
     else none
    | _=>none
   | some z,some (.v (.slice none 0 0)),_=>
    match wl d k ((st.br y).map (aH.cu (iW d []) fun _=>true)) ans with
    | some (bV,ef,cq,obs)=>
     if z.cells.size=k/\0<k/\d<dn then
      some (⟨some d,.one (.J (.own d) k ([]++bV)),[],(d,d+1)::BE ef⟩,(fun g=>(iW d [] g).bind (iC d ef)),cq,(((([]:List (List D)).length)+bV.length)*i.bytes<=140737488355328)::(([]:List (List D)).length+bV.length<=9223372036854775807)::obs)
     else none
    | _=>none
   | _,_,_=>none
  | none=>none
 | none=>none
def Io(P:Program)(st:aJ)(d:Nat)(t:TypeId)(x:Operand)(de hi jI:Option Operand)(ans:List cf):nq:=
 match ru P t,(st.br x).leaf,jI,x with
 | some (_,k),some (.J (.own s) cw es),none,.tmp ho=>
  if k=cw/\s<dn then
   match nc st de,nc st hi with
   | some l,some h=>some (⟨some d,.one (.J (.own s) k ((es.drop (l.getD 0).toNat).take ((h.getD es.length).toNat-(l.getD 0).toNat))),[ho],[(s,s+1)]⟩,lk s s,ans,[0<=l.getD 0,l.getD 0<=h.getD es.length,h.getD es.length<=es.length])
   | _,_=>none
  else none
 | _,_,_,_=>none
variable{s:Nat}
theorem avT:pC (lk s s) [(s,s+1)]:=by
 intro t h;cases t with
 | free=>rfl
 | own x=>
  have:x≠s:=by rintro rfl;simp[Tag.e4,gU.has]at h
  simp[lk,this]
 | ro x=>
  have:x≠s:=by rintro rfl;simp[Tag.e4,gU.has]at h
  simp[lk,this]
def R9(P:Program)(d:Nat)(t:TypeId)(p q:aL)(ans:List cf):nq:=
 match P.underlying t with
 | some (.slice e)=>
  match P.info? e,p.int,q.int with
  | some i,some (_,l),some (_,c)=>
   match i.zero with
   | some z=>
    if i.size=z.cells.size/\0<i.size/\z.cells.all (·.oneCell')=true/\d<dn then
     some (⟨some d,.one (.J (.own d) i.size (List.replicate l.toNat (z.cells.toList.map .v))),[],[(d,d+1)]⟩,iW d [],ans,[0<=l,l<=c,(i.bytes:Int)*c<=281474976710656,c<=9223372036854775807])
    else none
   | none=>none
  | _,_,_=>none
 | _=>none
def s'(P:Program)(st:aJ)(o:Oper)(ans:List cf):nq:=
 match o.dst,o.op with
 | some d,.call ⟨.value (.func f),args,_⟩=>
  match P.funcs[f]?,args.toList.mapM (fun x=>(st.br x).kI st.boxes),ans with
  | some fn,some hc,.res rs::r=>
   if (fn.name == "runtime.NumGoroutine") = false /\ fn.body.isNone = false /\ va rs = true /\ 10000 * (d + 1) + 10000 <= dn then
    some (⟨some d,ud (10000*(d+1)) rs,[],[(10000*(d+1),10000*(d+1)+10000)]⟩,hj (10000*(d+1)),r,[jn P f hc rs])
   else none
  | _,_,_=>none
 | some d,.buildSlice t n parts=>
  match DW P st d t n parts.toList with
  | some (k,es,ms)=>some (⟨some d,.one (.J (.own d) k es),[],(d,d+1)::ms.map fun x=>(x.1,x.1+1)⟩,iW d ms,ans,[])
  | _=>none
 | some d,.call ⟨.builtin .append,⟨[x,y]⟩,⟨[t,di]⟩⟩=>if t=di then Ax P st d t x y ans else none
 | some _,.box _ _=>none
 | some d,.alloc ty=>
  match P.info? ty with
  | some i=>match i.zero with
   | some z=>if d<dn then some (⟨some d,.one (.fN d (z.cells.toList.map .v)),[],[(d,d+1)]⟩,iW d [],ans,[]) else none
   | none=>none
  | none=>none
 | some d,.makeSlice t l c=>R9 P d t (st.br l) (st.br c) ans
 | some d,.slice t x de hi jI=>if R2 ans then Io P st d t x de hi jI ans.tail else (qe P st (.slice t x de hi jI) ans).map fun r=>(⟨some d,r.1,[],[]⟩,some,r.2.1,r.2.2)
 | some d,op=>(qe P st op ans).map fun r=>(⟨some d,r.1,[],[]⟩,some,r.2.1,r.2.2)
 | none,.store ty (.tmp s) y=>
  match (st.env.getD s .cA).leaf,Kr (st.br y),P.info? ty with
  | some (.fN t vs),some cs,some i=>
   if cs.length=i.size/\cs.length<=vs.length then
    some (⟨some s,.one (.fN t ((cs++vs.drop cs.length).map (fj.cu (fM t)))),[],[(t,t+1)]⟩,fM t,ans,[])
   else none
  | _,_,_=>none
 | none,_=>none
theorem avU:pC (fM s) [(s,s+1)]:=by
 intro t h;cases t with
 | free=>rfl
 | own x=>
  have:x≠s:=by rintro rfl;simp[Tag.e4,gU.has]at h
  simp[fM,this]
 | ro x=>
  have:x≠s:=by rintro rfl;simp[Tag.e4,gU.has]at h
  simp[fM,this]
theorem avV:fj.cu some=id:=by funext c;cases c<;>rfl
theorem avW(st:aJ)(f:aH->aH)(b2:∀x,f (.v x)=.v x)(hu:f .cA=.cA)(aG:∀d,f (.fd d)=.fd d)(x:Operand):(st.map f).br x=(st.br x).map f:=by
 cases x with
 | tmp t=>
  simp only[aJ.br,aJ.map];rw[jB,jB,dq];cases st.env[t]? with
  | none=>simp[aL.map,bn.map,hu]
  | some p=>rfl
 | const v=>
  simp only[aJ.br,D1];split
  ·simp[aL.map,bn.map,b2]
  simp[aL.map,bn.map,b2]
 | global g=>simp[aJ.br,aL.map,bn.map,hu]
 | func aCu=>simp[aJ.br,aL.map,bn.map,aG]
theorem aH.aBq(g1 g2:Tag->Option Tag)(U:∀g t,g2 g=some (.own t)->g=.own t)(l:aH):aH.cu g2 (fun _=>true) (aH.cu g1 (fun _=>true) l)=aH.cu (fun t=>(g1 t).bind g2) (fun _=>true) l:=by
 cases l with
 | J t k es=>simp only[aH.cu];cases g1 t<;>simp[aH.cu]
 | cP t k es i j=>simp only[aH.cu];cases g1 t<;>simp[aH.cu]
 | hv f ids=>simp[aH.cu]
 | aQ t i j k es m=>
  simp only[aH.cu];cases e1:g1 (.own t) with
  | none=>simp[aH.cu]
  | some x=>
   simp only[nX];cases x with
   | own s=>
    simp only;by_cases ao:s=t
    ·subst ao;simp only[fX,aH.cu]
    rw[bk ao];simp only[aH.cu];cases e2:g2 (.own s) with
    | none=>rfl
    | some y=>
     cases y with
     | own u=>
      simp only;by_cases hu:u=t
      ·subst hu;have:=U _ _ e2;simp only[Tag.own.injEq]at this;exact absurd this ao
      rw[bk hu]
     | _=>rfl
   | free=>
    simp only[aH.cu];cases e2:g2 .free with
    | none=>rfl
    | some y=>
     cases y with
     | own u=>exact absurd (U _ _ e2) (by simp)
     | _=>rfl
   | ro s=>
    simp only[aH.cu];cases e2:g2 (.ro s) with
    | none=>rfl
    | some y=>
     cases y with
     | own u=>exact absurd (U _ _ e2) (by simp)
     | _=>rfl
 | fN t vs=>
  simp only[aH.cu];cases e1:g1 (.own t) with
  | none=>simp[aH.cu]
  | some x=>
   simp only[nX];cases x with
   | own s=>
    simp only;by_cases ao:s=t
    ·subst ao;simp only[fX,aH.cu];have pX:(vs.map (fj.cu g1)).map (fj.cu g2)=vs.map (fj.cu fun t=>(g1 t).bind g2):=by
      rw[List.map_map];refine l9 fun c _=>?_
      cases c with
      | cA=>rfl
      | v x=>rfl
      | J di k es=>
       simp only[Function.comp,fj.cu];cases cg:g1 di with
       | none=>rfl
       | some t2=>simp only[nX,fj.cu]
     rw[pX]
    rw[bk ao];simp only[aH.cu];cases e2:g2 (.own s) with
    | none=>rfl
    | some y=>
     cases y with
     | own u=>
      simp only;by_cases hu:u=t
      ·subst hu;have:=U _ _ e2;simp only[Tag.own.injEq]at this;exact absurd this ao
      rw[bk hu]
     | _=>rfl
   | free=>
    simp only[aH.cu];cases e2:g2 .free with
    | none=>rfl
    | some y=>
     cases y with
     | own u=>exact absurd (U _ _ e2) (by simp)
     | _=>rfl
   | ro s=>
    simp only[aH.cu];cases e2:g2 (.ro s) with
    | none=>rfl
    | some y=>
     cases y with
     | own u=>exact absurd (U _ _ e2) (by simp)
     | _=>rfl
 | ptr id off=>simp[aH.cu]
 | _=>rfl
theorem bn.map_map(f g:aH->aH)(a:bn):(a.map f).map g=a.map (g ∘ f):=by cases a<;>simp[bn.map]
theorem aL.map_map(f g:aH->aH)(p:aL):(p.map f).map g=p.map (g ∘ f):=by
 cases p with
 | aI a=>simp[aL.map,bn.map_map]
 | gf as=>simp only[aL.map,List.map_map];congr 1;refine l9 fun a _=>?_;simp[bn.map_map]
theorem aJ.map_map(f g:aH->aH)(s:aJ):(s.map f).map g=s.map (g ∘ f):=by
 simp only[aJ.map,List.map_map]
 congr 1
 ·refine l9 fun p _=>?_
  simp[aL.map_map]
 refine l9 fun x _=>?_
 simp
theorem S':pC some r:=fun _ _=>rfl
theorem gU.uC{a b:Nat}(h:gU.has ((a,b)::r) s=false):(s<a\/b<=s)/\gU.has r s=false:=by
 simp only[gU.has,wa,hG,Bool.and_eq_false_iff,lp]at h;exact⟨by omega,h.2⟩
variable{t:Nat}
theorem avX:pC (hj t) [(t,t+10000)]:=by
 intro g ay;cases g with
 | free=>rfl
 | own s=>
  obtain⟨h1,_⟩:=gU.uC ay;simp only[hj];rw[bk (by omega)]
 | ro s=>
  obtain⟨h1,_⟩:=gU.uC ay;simp only[hj];rw[bk (by omega)]
theorem Lp:∀{ms:io},(gU.has (ms.map fun x=>(x.1,x.1+1)) s)=false->(ms.at s).isSome=false
 | [],_=>rfl
 | (i,p)::r,h=>by
  simp only[gU.has,l',wa,hG,Bool.and_eq_false_iff,lp]at h;simp only[io.at];rw[bk (by omega)];exact Lp (by simpa only[gU.has]using h.2)
theorem avY{ms:io}:pC (iW t ms) ((t,t+1)::ms.map fun x=>(x.1,x.1+1)):=by
 intro g ay;cases g with
 | free=>rfl
 | own s=>
  obtain⟨h1,U⟩:=gU.uC ay;simp only[iW];rw[bk (by omega),Lp U];rfl
 | ro s=>
  obtain⟨h1,U⟩:=gU.uC ay;simp only[iW];rw[bk (by omega),Lp U];rfl
theorem Ta{ef:Option Nat}(h:gU.has (BE ef) s=false):ef≠some s:=by
 rintro rfl;simp[gU.has,BE]at h
theorem Tb(t:Nat)(ef:Option Nat):pC (iC t ef) ((t,t+1)::BE ef):=by
 intro g ay;cases g with
 | free=>rfl
 | own s=>
  obtain⟨h1,U⟩:=gU.uC ay;simp only[iC];rw[bk (by omega),bk (Ta U)]
 | ro s=>
  obtain⟨h1,U⟩:=gU.uC ay;simp only[iC];rw[bk (by omega),bk (Ta U)]
theorem Lq(t:Nat)(r:gU):pC (iW t []) ((t,t+1)::r):=by
 intro g ay;cases g with
 | free=>rfl
 | own s=>
  obtain⟨h1,U⟩:=gU.uC ay;simp only[iW];rw[bk (by omega)];rfl
 | ro s=>
  obtain⟨h1,U⟩:=gU.uC ay;simp only[iW];rw[bk (by omega)];rfl
variable{P:Program}{st:aJ}{e:dH}{obs:List Prop}
theorem Tc{d:Nat}{t:TypeId}{x y:Operand}{ans cq:List cf}(h:Ax P st d t x y ans=some (e,g,cq,obs)):pC g e.oH/\e.dst=some d:=by
 unfold Ax at h;split at h
 ·split at h
  ·split at h
   ·split at h
    ·split at h
     ·simp only[aV,bH]at h;obtain⟨rfl,rfl,_,_⟩:=h;exact⟨Tb _ _,rfl⟩
     cases h
    cases h
   ·split at h
    ·split at h
     ·simp only[aV,bH]at h;obtain⟨rfl,rfl,_,_⟩:=h;exact⟨fun t bT=>by simp only[Lq d _ t bT,nX];exact Tb d _ t bT,rfl⟩
     cases h
    cases h
   cases h
  cases h
 cases h
theorem Td{o:Oper}{ans cq:List cf}(h:s' P st o ans=some (e,g,cq,obs)):
  pC g e.oH/\∃d,e.dst=some d/\pB P st o ans=some (⟨(st.map (aH.cu g fun _=>true)).env.set d e.p,(st.map (aH.cu g fun _=>true)).boxes⟩,cq,obs):=by
 obtain⟨dst,op,type,pos,after,guard⟩:=o;have gE:∀st:aJ,st.map (aH.cu some fun _=>true)=st:=by
  intro st;have:(aH.cu some fun _=>true)=_root_.id:=by
   funext l;cases l<;>simp[aH.cu,avV]
  rw[this];simp only[aJ.map];have h1:aL.map _root_.id=_root_.id:=by
   funext p;cases p with
   | aI a=>cases a<;>simp[aL.map,bn.map]
   | gf as=>
    simp only[aL.map,id]
    congr 1
    have:bn.map _root_.id=_root_.id:=by funext a;cases a<;>simp[bn.map]
    rw[this];simp
  rw[h1];simp
 simp only[s']at h;split at h
 ·rename_i d f args ts;split at h
  ·rename_i fn hc rs r h1 U;split at h
   ·rename_i aj;simp only[aV,bH]at h;obtain⟨rfl,rfl,rfl,rfl⟩:=h;refine⟨avX,d,rfl,?_⟩;simp only[pB,qi,R1,nY,lP,Lk,h1,U,il];rw[bm aj];rfl
   cases h
  cases h
 ·rename_i d t n parts;split at h
  ·rename_i k es ms av;simp only[aV,bH]at h;obtain⟨rfl,rfl,rfl,rfl⟩:=h;refine⟨avY,d,rfl,?_⟩;simp only[pB,qi];exact avA av ans
  cases h
 ·rename_i d x y t di;split at h
  ·rename_i Bk;subst Bk;refine⟨(Tc h).1,d,(Tc h).2,?_⟩;simp only[pB,qi,fX,Sx.z8];unfold Ax at h;split at h
   ·rename_i ww k he;simp only[he];split at h
    ·rename_i i hi;simp only[hi];split at h
     ·rename_i z hV cw es s bi ap;split at h
      ·rename_i bV ef a2 b6 ao;split at h
       ·rename_i aj;obtain⟨rfl,aj⟩:=aj;simp only[aV,bH]at h;obtain⟨rfl,rfl,rfl,rfl⟩:=h;simp only[DR,ap,fX,bi,ao];rw[bm aj];rfl
       cases h
      cases h
     ·rename_i z _ bi ap;split at h
      ·rename_i bV ef a2 b6 ao;split at h
       ·rename_i aj;simp only[aV,bH]at h;obtain⟨rfl,rfl,rfl,rfl⟩:=h;have r5:(st.j' d []).br y=(st.br y).map (aH.cu (iW d []) fun _=>true):=avW st _ (fun _=>rfl) rfl (fun _=>rfl) y;simp only[DR,ap,bi,r5,ao];rw[bm aj];have:(st.j' d []).yg d ef=st.map (aH.cu (fun g=>(iW d [] g).bind (iC d ef)) fun _=>true):=by
         simp only[aJ.j',aJ.yg,aJ.map_map]
         congr 1
         funext l;refine aH.aBq _ _ (fun g t h=>?_) l;cases g with
         | free=>simp[iC]at h
         | own s=>
          simp only[iC]at h;split at h
          ·simp at h
          split at h
          ·cases h
          simpa using h
         | ro s=>
          simp only[iC]at h;split at h
          ·cases h
          split at h
          ·cases h
          simp at h
        rw[this]
       cases h
      cases h
     cases h
    cases h
   cases h
  cases h
 ·cases h
 ·rename_i d ty;split at h
  ·rename_i i hi;split at h
   ·rename_i z bi;split at h
    ·rename_i aG;simp only[aV,bH]at h;obtain⟨rfl,rfl,rfl,rfl⟩:=h;refine⟨Lq _ _,d,rfl,?_⟩;simp only[pB,EQ,hi,bi];rw[bm aG];rfl
    cases h
   cases h
  cases h
 ·rename_i d t l c;unfold R9 at h;split at h
  ·rename_i e hu;split at h
   ·rename_i i cG hz bM kJ hi e1 e2;split at h
    ·rename_i z bi;split at h
     ·rename_i aj;simp only[aV,bH]at h;obtain⟨rfl,rfl,rfl,rfl⟩:=h;refine⟨Lq _ _,d,rfl,?_⟩;simp only[pB,qi,E5,hu,hi,e1,e2,bi];rw[bm aj];rfl
     cases h
    cases h
   cases h
  cases h
 ·rename_i d t x de hi jI;split at h
  ·rename_i ba;unfold Io at h;split at h
   ·rename_i e k s cw es ho e1 e2;split at h
    ·rename_i aj;obtain⟨rfl,ao⟩:=aj;split at h
     ·rename_i l bJ cg eo;simp only[aV,bH]at h;obtain⟨rfl,rfl,rfl,rfl⟩:=h;refine⟨avT,d,rfl,?_⟩;simp only[pB,qi,ba,fX,z',e1,e2,cg,eo,pA,ao,true_and]
     cases h
    cases h
   cases h
  rename_i ba;rw[cc]at h;obtain⟨⟨bF,bQ,cb⟩,h1,h⟩:=h;simp only[bH]at h;obtain⟨rfl,rfl,rfl,rfl⟩:=h;refine⟨S',d,rfl,?_⟩;rw[gE];simp only[pB,qi];rw[bk ba,h1];rfl
 ·rename_i d eZ ga gF ju kv n6 n7;rw[cc]at h;obtain⟨⟨bF,bQ,cb⟩,h1,h⟩:=h;simp only[bH]at h;obtain⟨rfl,rfl,rfl,rfl⟩:=h;refine⟨S',d,rfl,?_⟩;rw[gE];have IQ:pB P st ⟨some d,op,type,pos,after,guard⟩ ans=qi P st ⟨some d,op,type,pos,after,guard⟩ ans:=by
   unfold pB;split
   ·rename_i e1 e2;exact (kv _ e2).elim
   ·rename_i e1 e2;cases e1
   rfl
  rw[IQ];unfold qi;split
  all_goals first
   | exact (ju _ _ (by assumption)).elim
   | exact (kv _ (by assumption)).elim
   | exact (n6 _ _ _ (by assumption)).elim
   | exact (ga _ _ _ (by assumption)).elim
   | exact (eZ _ _ _ (by assumption)).elim
   | exact (gF _ _ _ _ (by assumption)).elim
   | exact (n7 _ _ _ _ _ (by assumption)).elim
   | (simp_all;done)
   | (exfalso;rename_i e;subst e;simp[qe]at h1)
   | (exfalso;simp_all[qe])
 ·rename_i ty s y;split at h
  ·rename_i hV vs v i e1 e2 cg;split at h
   ·rename_i aj;simp only[aV,bH]at h;obtain⟨rfl,rfl,rfl,rfl⟩:=h;refine⟨avU,s,rfl,?_⟩;simp only[pB,ES,e1,e2,cg];rw[bm aj]
   cases h
  cases h
 cases h
theorem Rel.weaken{w0:eT}{bC:aJ}{a:Act}{w:World}(h:Rel w0 st a w)(aX:bC.env.length=st.env.length)(av:bC.boxes=st.boxes)
  (he:∀(i:Nat) (p:aL),bC.env[i]?=some p->p=.cA\/st.env[i]?=some p):Rel w0 bC a w:=by
 obtain⟨ω,τ,h⟩:=h;refine⟨ω,τ,h.defers,h.size.trans aX.symm,h.below,h.owned,h.fixed,h.pinned,fun i p hp=>?_,by rw[av];exact h.boxes⟩;rcases he i p hp with rfl | U
 ·have:i<a.tmps.size:=by
   rw[h.size,<-aX];exact (ek.1 hp).1
  exact⟨a.tmps[i],by simp[this],aa⟩
 exact h.env i p U
def dH.hq(e:dH)(t:Nat):Option aL:=if e.dst=some t then some e.p else if t∈e.use then some .cA else none
def sq(env:List aL):List Nat->List aL
 | s::us=>sq (env.set s .cA) us
 | []=>env
theorem Lr:∀(us:List Nat) (env:List aL),(sq env us).length=env.length
 | [],env=>rfl
 | s::us,env=>by simp[sq,Lr us]
theorem Te:∀(us:List Nat) (env:List aL) (t:Nat),(sq env us)[t]?=(env[t]?).map fun p=>if t∈us then .cA else p
 | [],env,t=>by simp[sq]
 | s::us,env,t=>by
  simp only[sq,Te us,k6,eP];by_cases h:s=t
  ·subst h;by_cases ap:s<env.length
   ·simp[ap]
   simp[ap]
  rw[bk h];have km:¬t=s:=fun e=>h e.symm
  simp only[km,false_or]
def dH.apply(e:dH)(env:List aL):List aL:=
 match e.dst with
 | some d=>(sq env e.use).set d e.p
 | none=>env
theorem dH.apply_get(aG:e.dst≠none)(env:List aL)(t:Nat):(e.apply env)[t]?=(env[t]?).map fun p=>(e.hq t).getD p:=by
 unfold dH.apply dH.hq;split
 ·rename_i d ed;have ao:∀(t:Nat),(sq env e.use)[t]?=(env[t]?).map fun p=>if t∈e.use then .cA else p:=Te e.use env
  rw[k6,ao t];by_cases h:d=t
  ·subst h;by_cases ap:d<env.length
   ·have:d<(sq env e.use).length:=by rw[Lr];exact ap
    simp[this,ap,ed]
   have:¬d<(sq env e.use).length:=by rw[Lr];exact ap
   simp[this,ap]
  rw[bk h];cases abX:env[t]? with
  | none=>simp
  | some p=>
   have cC:¬(e.dst=some t):=by rw[ed];simpa using h
   simp only[mz,aV,bk cC];by_cases hu:t∈e.use
   ·simp[hu]
   simp[hu]
 exact absurd ‹_› aG
def h0(L:Nat->Bool)(t:Nat):Nat->List dH->aL->aL
 | _,[],acc=>acc
 | k,e::es,acc=>h0 L t (k+1) es (if L k then (e.hq t).getD acc else acc)
variable{L:Nat->Bool}
theorem Ca{L':Nat->Bool}:∀{es:List dH} {k:Nat} {acc:aL},(∀(j:Nat) (e:dH),es[j]?=some e->e.hq t≠none->L (k+j)=L' (k+j))->h0 L t k es acc=h0 L' t k es acc
 | [],_,_,_=>rfl
 | e::es,k,acc,h=>by
  simp only[h0];have bG:(if L k then (e.hq t).getD acc else acc)=(if L' k then (e.hq t).getD acc else acc):=by
   cases bT:e.hq t with
   | none=>simp
   | some p=>have:=h 0 e rfl (by simp[bT]);rw[np]at this;rw[this]
  rw[bG];exact Ca fun j e' a1 bT=>by have:=h (j+1) e' (by simpa using a1) bT;rwa[show k+(j+1)=k+1+j by omega]at this
theorem Tf{p:aL}:∀{es:List dH} {k i:Nat} {acc:aL} {e:dH},es[i]?=some e->e.hq t=some p->L (k+i)=true->
  (∀(j:Nat) (e':dH),i<j->es[j]?=some e'->e'.hq t≠none->L (k+j)=false)->h0 L t k es acc=p
 | [],_,_,_,_,h,_,_,_=>by simp at h
 | bu::es,k,0,acc,e,h,bT,cz,jt=>by
  simp at h;subst h;simp only[h0];rw[np]at cz;rw[cz,bT];simp only[fX,il];have:∀(es:List dH) (k:Nat),(∀(j:Nat) (e':dH),es[j]?=some e'->e'.hq t≠none->L (k+j)=false)->h0 L t k es p=p:=by
   intro es;induction es with
   | nil=>intro k _;rfl
   | cons e1 es ee=>
    intro k h;simp only[h0];have h1:(if L k then (e1.hq t).getD p else p)=p:=by
     cases bT:e1.hq t with
     | none=>simp
     | some q=>have:=h 0 e1 rfl (by simp[bT]);rw[np]at this;simp[this]
    rw[h1];exact ee (k+1) fun j e' a1 Bh=>by have:=h (j+1) e' (by simpa using a1) Bh;rwa[show k+(j+1)=k+1+j by omega]at this
  exact this es (k+1) fun j e' a1 Bh=>by have:=jt (j+1) e' (by omega) (by simpa using a1) Bh;rwa[show k+(j+1)=k+1+j by omega]at this
 | bu::es,k,i+1,acc,e,h,bT,cz,jt=>by
  simp only[h0];exact Tf (i:=i) (by simpa using h) bT (by rwa[show k+1+i=k+(i+1) by omega]) fun j e' a1 A4 Bh=>by
   have:=jt (j+1) e' (by omega) (by simpa using A4) Bh;rwa[show k+(j+1)=k+1+j by omega]at this
def fr(env0:List aL)(bs:List (Nat×List aH))(L:Nat->Bool)(es:List dH):aJ:=⟨env0.zipIdx.map fun x=>h0 L x.2 0 es x.1,bs⟩
variable{bs:List (Nat×List aH)}
theorem rz{env0:List aL}{es:List dH}(t:Nat):(fr env0 bs L es).env[t]?=(env0[t]?).map fun p=>h0 L t 0 es p:=by
 simp only[fr,dq,List.getElem?_zipIdx,dF];cases env0[t]?<;>rfl
theorem zd{env0:List aL}{es:List dH}:(fr env0 bs L es).env.length=env0.length:=by simp[fr]
def Ls(ops:Array Oper)(o:Oper):Option Nat:=o.guard.bind fun x=>(ops[x.1]?).bind (·.dst)
def reads(ops:Array Oper)(o:Oper):List Nat:=o.op.operands.toList.filterMap S9++(Ls ops o).toList
def ze(d:Nat):dH:=⟨some d,.one (.v undef),[],[]⟩
def ext(e:dH)(env:List aL):dH:=
 if e.oH.isEmpty then e else { e with use:=e.use++(env.zipIdx.filterMap fun x=>if x.1.e4 e.oH&&!(e.dst==some x.2) then some x.2 else none) }
theorem FU(e:dH)(env:List aL):∃u,ext e env={ e with use:=u }:=by
 unfold ext;split
 ·exact⟨e.use,rfl⟩
 exact⟨_,rfl⟩
structure iQ where
 t:Nat
 i:Nat
 j:Nat
 k:Nat
 kT:Nat
 es:List (List D)
 esT:List (List D)
def GV(t:Nat)(bs:List (Nat×List aH)):Option (Nat×List (List D)):=
 (bs.find? fun x=>(x.2.findSome? (ue t)).isSome).bind fun x=>(dM x.1 bs).bind fun ls=>ls.findSome? (ue t)
theorem avp{w0:eT}{a:Act}{w:World}{ω:Own}{τ:Nat->Nat×Value}(h:cJ w0 st a w ω τ){kT:Nat}{esT:List (List D)}(e:GV t st.boxes=some (kT,esT)):∃v,Sat w ω τ (.J (.own t) kT esT) v:=by
 unfold GV at e;rw[ni]at e;obtain⟨x,_,e⟩:=e;rw[ni]at e;obtain⟨ls,av,e⟩:=e;obtain⟨l,ap,e⟩:=List.exists_of_findSome?_eq_some e;obtain⟨b,arr,ty,_,_,_,ao⟩:=h.boxes _ ls av;obtain⟨n,aX⟩:=nj.1 ap;obtain⟨u,_,hu⟩:=ao.2 n l aX;exact⟨u,LZ e hu⟩
def sr(st:aJ)(o:Oper):Option iQ:=
 match o.dst,o.op with
 | some _,.call ⟨.builtin .append,⟨[x,_]⟩,⟨[_,_]⟩⟩=>
  match (st.br x).leaf with
  | some (.aQ s i j k es .here)=>
   match GV s st.boxes with
   | some (kT,esT)=>some ⟨s,i,j,k,kT,es,esT⟩
   | none=>none
  | _=>none
 | _,_=>none
def vU(P:Program)(st:aJ)(o:Oper)(ans:List cf):Option (dH×List cf×List Prop):=
 match sr st o,o.dst,o.op with
 | some v,some d,.call ⟨.builtin .append,⟨[_,y]⟩,⟨[t,di]⟩⟩=>
  if t=di then (uy P t v.t v.i v.j v.k v.es v.esT (st.br y) ans).map fun r=>(⟨some d,r.1,[],[]⟩,r.2.1,r.2.2) else none
 | _,_,_=>none
def iQ.fix(v:iQ):aH->Option (List Prop)
 | .J (.own s) cX dS=>if s=v.t then (if cX=v.kT then some [dS=v.esT] else none) else some []
 | .cP (.own s) cX dS _ _=>if s=v.t then (if cX=v.kT then some [dS=v.esT] else none) else some []
 | .J (.ro s) _ _=>if s=v.t then none else some []
 | .cP (.ro s) _ _ _ _=>if s=v.t then none else some []
 | .aQ s a b cX dS m=>if s=v.t/\b=v.j then (if cX=v.k/\m.home=true then some [a=v.i,dS=v.es] else none) else some []
 | .fN _ _=>none
 | _=>some []
def iQ.n0(v:iQ)(l:aH):Prop:=h3 v.t v.i v.j v.k v.es v.kT v.esT l=l/\∀a∈l.idx v.t v.j,a=v.i
theorem iQ.abk{v:iQ}{l:aH}(h:v.fix l=some obs)(ba:cL obs):v.n0 l:=by
 obtain⟨t,i,j,k,kT,es,esT⟩:=v;unfold iQ.n0;simp only;cases l with
 | J g cX dS=>
  refine⟨?_,fun a ak=>by simp[aH.idx]at ak⟩;cases g with
  | free=>rfl
  | own s=>
   simp only[iQ.fix]at h;split at h
   ·rename_i ao;subst ao;split at h
    ·rename_i hk;subst hk;cases h;have e:dS=esT:=ba.1;subst e;simp[h3]
    cases h
   rename_i ao;simp[h3,ao]
  | ro s=>
   simp only[iQ.fix]at h;split at h
   ·cases h
   rename_i ao;simp[h3,ao]
 | cP g cX dS x y=>
  refine⟨?_,fun a ak=>by simp[aH.idx]at ak⟩;cases g with
  | free=>rfl
  | own s=>
   simp only[iQ.fix]at h;split at h
   ·rename_i ao;subst ao;split at h
    ·rename_i hk;subst hk;cases h;have e:dS=esT:=ba.1;subst e;simp[h3]
    cases h
   rename_i ao;simp[h3,ao]
  | ro s=>
   simp only[iQ.fix]at h;split at h
   ·cases h
   rename_i ao;simp[h3,ao]
 | aQ s a b cX dS m=>
  simp only[iQ.fix]at h;split at h
  ·rename_i ao;obtain⟨rfl,rfl⟩:=ao;split at h
   ·rename_i hk;cases h;have e1:a=i:=ba.1;have e2:dS=es:=ba.2.1;subst e1;subst e2;refine⟨?_,fun x ah=>?_⟩
    ·obtain⟨rfl,hm⟩:=hk;simp[h3,hm]
    simpa[aH.idx]using ah
   cases h
  rename_i ao;refine⟨?_,fun x ah=>?_⟩
  ·simp only[h3];rw[bk ao]
  simp[aH.idx,ao]at ah
 | fN t vs=>cases h
 | _=>exact⟨rfl,fun a ak=>by simp[aH.idx]at ak⟩
def bn.u5:bn->List aH
 | .one l=>[l]
 | .agg ls=>ls
def aL.u5:aL->List aH
 | .aI a=>a.u5
 | .gf as=>as.flatMap bn.u5
theorem bn.BC{p:aH->Prop}{a:bn}(h:∀l∈a.u5,p l):a.mb p:=by
 cases a with
 | one l=>exact h l (by simp[bn.u5])
 | agg ls=>exact h
theorem aL.BC{p:aH->Prop}{q:aL}(h:∀l∈q.u5,p l):q.mb p:=by
 cases q with
 | aI a=>exact bn.BC h
 | gf as=>exact fun a ak=>bn.BC fun l ap=>h l (nm.2 ⟨a,ak,ap⟩)
def iQ.fixes(v:iQ):List aH->Option (List Prop)
 | []=>some []
 | l::r=>
  match v.fix l,iQ.fixes v r with
  | some a,some b=>some (a++b)
  | _,_=>none
theorem iQ.QS{v:iQ}:∀{ls:List aH} {obs:List Prop},v.fixes ls=some obs->cL obs->∀l∈ls,v.n0 l
 | [],_,_,_,l,ap=>by cases ap
 | ea::r,obs,h,ba,l,ap=>by
  simp only[iQ.fixes]at h;split at h
  ·rename_i a b h1 U;cases h;obtain⟨ci,b6⟩:=ba.append;rcases eP.1 ap with rfl | ap
   ·exact iQ.abk h1 ci
   exact iQ.QS U b6 l ap
  cases h
def z7(bs:List (Nat×List aH))(all:Nat->List aH):Nat->List Oper->List aL->List dH->Option (List Prop)
 | i,o::os,env,e::es=>
  match sr ⟨env,bs⟩ o with
  | some v=>
   match v.fixes (all i),z7 bs all (i+1) os (e.apply env) es with
   | some a,some b=>some (a++b)
   | _,_=>none
  | none=>z7 bs all (i+1) os (e.apply env) es
 | _,_,_,_=>some []
theorem Tg{all:Nat->List aH}:∀{l:List Oper} {es:List dH} {env:List aL} {i0:Nat} {obs:List Prop},z7 bs all i0 l env es=some obs->cL obs->
  ∀(i:Nat) (o:Oper),l[i]?=some o->i<es.length->∀v,sr ⟨(es.take i).foldl (fun env e=>e.apply env) env,bs⟩ o=some v->∀lF∈all (i0+i),v.n0 lF
 | [],_,_,_,_,_,_,i,o,hi,_,_,_,_,_=>by simp at hi
 | _::_,[],_,_,_,_,_,i,o,_,ap,_,_,_,_=>by simp at ap
 | nN::os,e::es,env,i0,obs,h,ba,i,o,hi,ap,v,bp,lF,El=>by
  simp only[z7]at h;cases i with
  | zero=>
   simp only[kh,aV]at hi;subst hi;simp only[List.take_zero,List.foldl_nil]at bp;rw[bp]at h;simp only at h;split at h
   ·rename_i a b h1 U;cases h;exact iQ.QS h1 ba.append.1 lF El
   cases h
  | succ i=>
   have go:∀{b:List Prop},z7 bs all (i0+1) os (e.apply env) es=some b->cL b->v.n0 lF:=fun U b6=>
    Tg U b6 i o (by simpa using hi) (by simpa using ap) v (by simpa using bp) lF (by rw[show i0+1+i=i0+(i+1) by omega];exact El)
   split at h
   ·split at h
    ·rename_i a b h1 U;cases h;exact go U ba.append.2
    cases h
   exact go h ba
def vf(P:Program)(ops:Array Oper)(gs:List Nat)(bs:List (Nat×List aH)):List Oper->List aL->List cf->Option (List dH×List aL×List cf×List Prop)
 | [],env,ans=>some ([],env,ans,[])
 | o::rest,env,ans=>
  match so ops ⟨env,bs⟩ o [] with
  | some (true,_,_,_)=>
   match s' P ⟨env,bs⟩ o ans with
   | some (e,_,fL,gC)=>
    match (match o.dst with | some d=>gs.contains d | none=>false),e.p.leaf,fL with
    | true,some (.bg c),.pN b::r=>
     (vf P ops gs bs rest (dH.apply { ext e env with p:=.one (.v (.bool b)) } env) r).map fun x=>({ ext e env with p:=.one (.v (.bool b)) }::x.1,x.2.1,x.2.2.1,(c=b)::(gC++x.2.2.2))
    | _,_,_=>(vf P ops gs bs rest ((ext e env).apply env) fL).map fun x=>(ext e env::x.1,x.2.1,x.2.2.1,gC++x.2.2.2)
   | none=>
    match vU P ⟨env,bs⟩ o ans with
    | some (e,fL,gC)=>(vf P ops gs bs rest (e.apply env) fL).map fun x=>(e::x.1,x.2.1,x.2.2.1,gC++x.2.2.2)
    | none=>none
  | some (false,_,_,_)=>
   match o.dst with
   | some d=>(vf P ops gs bs rest ((ze d).apply env) ans).map fun x=>(ze d::x.1,x.2.1,x.2.2.1,x.2.2.2)
   | none=>none
  | none=>none
def Fact(P:Program)(ops:Array Oper)(bs:List (Nat×List aH))(env:List aL)(o:Oper)(e:dH):Prop:=
 (∃st1 d' ci,so ops ⟨env,bs⟩ o []=some (false,st1,d',ci)/\∃d,o.dst=some d/\e=ze d)\/
 (∃st1 d' ci,so ops ⟨env,bs⟩ o []=some (true,st1,d',ci)/\∃ans bu g cq obs,s' P ⟨env,bs⟩ o ans=some (bu,g,cq,obs)/\cL obs/\
  ∃u,(e={ bu with use:=u }\/∃c b,bu.p=.one (.bg c)/\c=b/\e={ bu with use:=u,p:=.one (.v (.bool b)) }))\/
 (∃st1 d' ci,so ops ⟨env,bs⟩ o []=some (true,st1,d',ci)/\∃ans cq obs,vU P ⟨env,bs⟩ o ans=some (e,cq,obs)/\cL obs)
theorem Cb{ops:Array Oper}{gs:List Nat}:∀{l:List Oper} {env uG:List aL} {ans cq:List cf} {es:List dH} {obs:List Prop},
  vf P ops gs bs l env ans=some (es,uG,cq,obs)->cL obs->
  es.length=l.length/\uG=es.foldl (fun env e=>e.apply env) env/\∀(i:Nat) (o:Oper),l[i]?=some o->∃e,es[i]?=some e/\Fact P ops bs ((es.take i).foldl (fun env e=>e.apply env) env) o e
 | [],env,uG,ans,cq,es,obs,h,_=>by
  simp only[vf,aV,bH]at h;obtain⟨rfl,rfl,_,_⟩:=h;exact⟨rfl,rfl,fun i o ba=>by simp at ba⟩
 | o::rest,env,uG,ans,cq,es,obs,h,ba=>by
  have fin:∀(e:dH) (dS:List dH) (It:List aL),(dS.length=rest.length/\It=dS.foldl (fun env e=>e.apply env) (e.apply env)/\∀(i:Nat) (o:Oper),rest[i]?=some o->∃e',dS[i]?=some e'/\Fact P ops bs ((dS.take i).foldl (fun env e=>e.apply env) (e.apply env)) o e')->
    Fact P ops bs env o e->(e::dS).length=(o::rest).length/\It=(e::dS).foldl (fun env e=>e.apply env) env/\∀(i:Nat) (pj:Oper),(o::rest)[i]?=some pj->∃e',(e::dS)[i]?=some e'/\Fact P ops bs (((e::dS).take i).foldl (fun env e=>e.apply env) env) pj e':=by
   intro e dS It ⟨h1,U,ax⟩ b2;refine⟨by simp[h1],U,fun i pj lA=>?_⟩;cases i with
   | zero=>simp at lA;subst lA;exact⟨e,rfl,b2⟩
   | succ i=>exact ax i pj (by simpa using lA)
  simp only[vf]at h;split at h
  ·rename_i st1 d' ci hw;split at h
   ·rename_i e g fL gC aG;split at h
    ·rename_i c b r ay ap;rw[cc]at h;obtain⟨⟨hs,gS,rL,qq⟩,h1,h⟩:=h;simp only[bH]at h;obtain⟨rfl,rfl,_,rfl⟩:=h;have Sf:(c=b)/\cL qq:=⟨ba.1,(cL.append ba.2).2⟩
     have BG:=(cL.append ba.2).1;refine fin _ _ _ (Cb h1 Sf.2) (.inr (.inl ⟨_,_,_,hw,_,_,_,_,_,aG,BG,(FU e env).choose,.inr ⟨c,b,?_,?_,?_⟩⟩))
     ·cases hp:e.p with
      | aI a=>
       rw[hp]at ap;cases a with
       | one l=>simp only[aL.leaf,aV]at ap;rw[ap]
       | agg ls=>cases ap
      | gf as=>rw[hp]at ap;cases ap
     ·exact Sf.1
     conv=>lhs;rw[(FU e env).choose_spec]
    rw[cc]at h;obtain⟨⟨hs,gS,rL,qq⟩,h1,h⟩:=h;simp only[bH]at h;obtain⟨rfl,rfl,_,rfl⟩:=h;obtain⟨BG,b6⟩:=ba.append;exact fin _ _ _ (Cb h1 b6) (.inr (.inl ⟨_,_,_,hw,_,_,_,_,_,aG,BG,(FU e env).choose,.inl (FU e env).choose_spec⟩))
   split at h
   ·rename_i e fL gC Jx;rw[cc]at h;obtain⟨⟨hs,gS,rL,qq⟩,h1,h⟩:=h;simp only[bH]at h;obtain⟨rfl,rfl,_,rfl⟩:=h;obtain⟨BG,b6⟩:=ba.append;exact fin _ _ _ (Cb h1 b6) (.inr (.inr ⟨_,_,_,hw,_,_,_,Jx,BG⟩))
   cases h
  ·rename_i st1 d' ci hw;split at h
   ·rename_i d aG;rw[cc]at h;obtain⟨⟨hs,gS,rL,qq⟩,h1,h⟩:=h;simp only[bH]at h;obtain⟨rfl,rfl,_,rfl⟩:=h;exact fin _ _ _ (Cb h1 ba) (.inl ⟨_,_,_,hw,d,aG,rfl⟩)
   cases h
  cases h
end Go.Sx
namespace Go.Sx
open Go.RowKit
variable{st bC:aJ}
theorem Th{parts:List (Nat×Operand)}(h:∀x∈parts,st.br x.2=bC.br x.2):(parts.map fun x=>(x.1,st.br x.2))=parts.map fun x=>(x.1,bC.br x.2):=
 l9 fun x ah=>by rw[h x ah]
variable{P:Program}{ans:List cf}
theorem Ti{op:Op}(av:st.boxes=bC.boxes)(h:∀x∈op.operands.toList,st.br x=bC.br x):qe P st op ans=qe P bC op ans:=by
 cases op<;>simp only[qe,Op.operands,eP,List.mem_nil_iff,forall_eq_or_imp,or_false,forall_eq]at h ⊢
 case load t x=>simp only[EX,h,av]
 case slice t x de hi jI=>
  have ah:st.br x=bC.br x:=h x (by simp);have ba:∀o:Option Operand,(∀y,o=some y->st.br y=bC.br y)->nc st o=nc bC o:=by
   intro o ba;cases o with
   | none=>rfl
   | some y=>simp only[nc,ba y rfl]
  simp only[EY,ah];rw[ba de (fun y e=>h y (by simp[e])),ba hi (fun y e=>h y (by simp[e]))]
 case build t cr=>
  have:(cr.toList.map fun x=>(x.1,st.br x.2))=cr.toList.map fun x=>(x.1,bC.br x.2):=Th fun x ah=>h x.2 (by simp;exact⟨x.1,by simpa using ah⟩)
  simp only[EZ,this]
 case call c=>
  obtain⟨callee,args,ts⟩:=c;cases callee with
  | value f=>rfl
  | invoke r i=>rfl
  | builtin b=>
   simp only[Call.operands]at h;have km:∀x∈args.toList,st.br x=bC.br x:=fun x ah=>h x (by simpa using ah)
   simp only;generalize args.toList=l at km;unfold E2;split
   ·rw[km _ (by simp)]
   ·rw[km _ (by simp),km _ (by simp)]
   ·rw[km _ (by simp),km _ (by simp)]
   rfl
 case makeFunc fn first captured=>
  have aj:captured.toList.map st.br=captured.toList.map bC.br:=l9 fun x ah=>h x (by simp;right;simpa using ah)
  simp only[E1,aj]
 all_goals simp[h]
variable{o:Oper}
theorem avq(av:st.boxes=bC.boxes)(h:∀x∈o.op.operands.toList,st.br x=bC.br x):s' P st o ans=s' P bC o ans:=by
 obtain⟨dst,op,type,pos,after,guard⟩:=o;simp only at h;cases dst with
 | none=>
  cases op with
  | store ty x y=>
   cases x with
   | tmp s=>
    have ah:st.br (.tmp s)=bC.br (.tmp s):=h (.tmp s) (by simp[Op.operands]);have bf:st.br y=bC.br y:=h y (by simp[Op.operands]);simp only[aJ.br]at ah;simp only[s',ah,bf]
   | _=>rfl
  | _=>rfl
 | some d=>
  unfold s';split
  ·rename_i f args ts e1 e2;simp only at e1 e2;subst e2;have km:∀x∈args.toList,st.br x=bC.br x:=fun x ah=>h x (by simp[Op.operands,Call.operands];right;simpa using ah)
   have:args.toList.mapM (fun x=>(st.br x).kI st.boxes)=args.toList.mapM (fun x=>(bC.br x).kI bC.boxes):=by
    rw[<-av];generalize args.toList=l at km;generalize st.boxes=bs;induction l with
    | nil=>rfl
    | cons x l ee=>simp only[yb,km x (by simp),ee fun y bf=>km y (by simp[bf])]
   rw[this]
  ·rename_i t n parts e1 e2;simp only at e1 e2;subst e2;have:(parts.toList.map fun x=>(x.1,st.br x.2))=parts.toList.map fun x=>(x.1,bC.br x.2):=Th fun x ah=>h x.2 (by simp[Op.operands];exact⟨x.1,by simpa using ah⟩)
   simp only[DW,this]
  ·rename_i x y t di e1 e2;simp only at e1 e2;subst e2;have ah:st.br x=bC.br x:=h x (by simp[Op.operands,Call.operands]);have bf:st.br y=bC.br y:=h y (by simp[Op.operands,Call.operands]);simp only[Ax,ah,bf]
  ·rfl
  ·rfl
  ·rename_i t l c e1 e2;simp only at e1 e2;subst e2;rw[h l (by simp[Op.operands]),h c (by simp[Op.operands])]
  ·rename_i t x de hi jI e1 e2;simp only at e1 e2;subst e2;have ah:st.br x=bC.br x:=h x (by simp[Op.operands]);have ba:∀o:Option Operand,(∀y,o=some y->st.br y=bC.br y)->nc st o=nc bC o:=by
    intro o ba;cases o with
    | none=>rfl
    | some y=>simp only[nc,ba y rfl]
   rw[Ti av h];simp only[Io,ah];rw[ba de (fun y e=>h y (by simp[Op.operands,e])),ba hi (fun y e=>h y (by simp[Op.operands,e]))]
  ·rw[Ti av h]
  ·rename_i e1 e2;cases e1
  rfl
theorem QR{x:Operand}(h:∀t,S9 x=some t->st.env.getD t .cA=bC.env.getD t .cA):st.br x=bC.br x:=by
 cases x with
 | tmp t=>simpa[aJ.br]using h t rfl
 | _=>rfl
def nt(ms:List Nat)(i j:Nat):Bool:=(ms.getD j 0).testBit i
def xo(ms:List Nat):List Edge->Nat
 | []=>0
 | e::r=>if Region.binds .any e then (2 ^ e.on ||| ms.getD e.on 0) ||| xo ms r else xo ms r
def sh:List Oper->List Nat->List Nat
 | [],acc=>acc
 | o::r,acc=>sh r (acc++[xo acc o.after.toList])
variable{ms:List Nat}{i:Nat}
theorem Lt:∀{l:List Edge},(xo ms l).testBit i=true->∃e∈l,Region.binds .any e=true/\(i=e.on\/nt ms i e.on=true)
 | [],h=>by simp[xo]at h
 | e::r,h=>by
  simp only[xo]at h;split at h
  ·rename_i av;rw[Nat.testBit_or,Nat.testBit_or,oO,oO,Nat.testBit_two_pow,cV]at h;rcases h with (h | h) | h
   ·exact⟨e,by simp,av,.inl h.symm⟩
   ·exact⟨e,by simp,av,.inr h⟩
   obtain⟨e',h1,U⟩:=Lt h;exact⟨e',by simp[h1],U⟩
  obtain⟨e',h1,U⟩:=Lt h;exact⟨e',by simp[h1],U⟩
def rV{α:Type}(f:Nat->α->Bool):Nat->List α->Bool
 | _,[]=>true
 | k,x::r=>f k x&&rV f (k+1) r
theorem xp{α:Type}{f:Nat->α->Bool}:∀{l:List α} {k:Nat},rV f k l=true->∀(i:Nat) (x:α),l[i]?=some x->f (k+i) x=true
 | [],_,_,i,x,h=>by simp at h
 | y::r,k,h,0,x,ah=>by
  simp only[rV,cx]at h;simp at ah;subst ah;exact h.1
 | y::r,k,h,i+1,x,ah=>by
  simp only[rV,cx]at h;have:=xp h.2 i x (by simpa using ah);rwa[show k+1+i=k+(i+1) by omega]at this
def ss(ms:List Nat)(os:List Oper):Bool:=
 rV (fun j o=>ms.getD j 0==xo ms o.after.toList&&o.after.toList.all fun e=>!Region.binds .any e||decide (e.on<j)) 0 os
variable{ops:Array Oper}
theorem Lu(h:ss ms ops.toList=true){j:Nat}(ba:ops[j]?=some o):(∀e∈o.after,Region.binds .any e=true->e.on<j)/\
  ∀i,nt ms i j=true->∃e∈o.after,Region.binds .any e=true/\(i=e.on\/nt ms i e.on=true):=by
 have:=xp h j o (by simpa using ba);simp only[dF,cx,dE,gx,oO,gT,cV]at this;refine⟨fun e he av=>(this.2 e (by simpa using he)).resolve_left (by simp[av]),fun i hi=>?_⟩;unfold nt at hi;rw[this.1]at hi;obtain⟨e,h1,U⟩:=Lt hi;exact⟨e,by simpa using h1,U⟩
def rA(ops:Array Oper)(bY:Array Bool):Prop:=
 ∀(j:Nat) (o:Oper),bY.getD j false=true->ops[j]?=some o->∀e∈o.after,Region.binds .any e=true->bY.getD e.on false=true
variable{bY:Array Bool}
theorem FV{j:Nat}(h:bY.getD j false=true):j<bY.size:=by
 rcases pI j bY.size with km | km
 ·exact km
 simp[Al km]at h
theorem FW(h:ss ms ops.toList=true)(aj:rA ops bY)(ao:bY.size=ops.size):∀(j:Nat),bY.getD j false=true->nt ms i j=true->bY.getD i false=true:=by
 intro j;induction j using Nat.strongRecOn with
 | ind j ee=>
  intro a1 ak;have bz:j<ops.size:=ao▸FV a1;have ba:ops[j]?=some ops[j]:=ht bz;obtain⟨h1,U⟩:=Lu h ba;obtain⟨e,he,av,mJ⟩:=U i ak;have uR:=aj j _ a1 ba e he av;rcases mJ with rfl | mJ
  ·exact uR
  exact ee e.on (h1 e he av) uR mJ
variable{k:Nat}
theorem Cc(h:ss ms ops.toList=true)(aj:rA ops bY)(ao:bY.size=ops.size)(hi:i∈Region.ready .any ops bY)(ak:nt ms k i=true):bY.getD k false=true:=by
 rw[mem_ready]at hi;obtain⟨_,o,ba,he⟩:=hi;obtain⟨_,U⟩:=Lu h ba;obtain⟨e,uQ,av,mJ⟩:=U k ak;rcases mJ with rfl | mJ
 ·exact he e uQ av
 exact FW h aj ao _ (he e uQ av) mJ
theorem rA.ready(aj:rA ops bY)(hi:i∈Region.ready .any ops bY):rA ops (bY.setIfInBounds i true):=by
 intro j o a1 ba e he av;rw[mem_ready]at hi;obtain⟨_,aDh,acN,nG⟩:=hi;by_cases lf:i=j
 ·subst lf;rw[acN]at ba;cases ba;exact getD_set_true (nG e he av)
 rw[getD_set_ne false lf]at a1;exact getD_set_true (aj j o a1 ba e he av)
theorem Lv(h:ss ms ops.toList=true)(ao:bY.size=ops.size)(aA:Region.ready .any ops bY=[]):∀j,j<ops.size->bY.getD j false=true:=by
 intro j;induction j using Nat.strongRecOn with
 | ind j ee=>
  intro bz;have ba:ops[j]?=some ops[j]:=ht bz;obtain⟨h1,_⟩:=Lu h ba;cases ap:bY.getD j false with
  | true=>rfl
  | false=>
   have:j∈Region.ready .any ops bY:=by
    rw[mem_ready];refine⟨?_,_,ba,fun e he av=>ee e.on (h1 e he av) (Nat.lt_trans (h1 e he av) bz)⟩;have acA:j<bY.size:=ao▸bz;simp[ht acA]at ap ⊢;exact ap
   rw[aA]at this;cases this
def Cd(e:dH):List Nat:=e.dst.toList++e.use
def FX(ops:Array Oper)(o:Oper)(e:dH):List Nat:=Cd e++reads ops o
def EI(ms:List Nat)(i k:Nat):Bool:=if k<i then nt ms k i else nt ms i k
def Lw(ops:Array Oper)(ms:List Nat)(es:List dH):Bool:=
 rV (fun i x=>rV (fun k e=>k==i||EI ms i k||!((Cd e).any fun t=>(FX ops x.1 x.2).contains t)) 0 es) 0 (ops.toList.zip es)
def zf(ms:List Nat)(es:List dH)(i de:Nat)(s:Option Nat):Bool:=es.zipIdx.any fun y=>decide (de<=y.2)&&nt ms y.2 i&&(match s with | some t=>y.1.use.contains t | none=>false)
variable{es:List dH}
theorem Tj{de:Nat}{s:Option Nat}(h:zf ms es i de s=true):∃m y t,es[m]?=some y/\de<=m/\nt ms m i=true/\t∈y.use/\s=some t:=by
 unfold zf at h;rw[qy]at h;obtain⟨⟨y,m⟩,h1,U⟩:=h;rw[List.mem_zipIdx_iff_getElem?]at h1;simp only[cx,cV]at U;cases s with
 | none=>simp at U
 | some t=>exact⟨m,y,t,h1,U.1.1,U.1.2,by simpa using U.2,rfl⟩
def Lx(ms:List Nat)(es:List dH)(env0:List aL)(bs:List (Nat×List aH)):Bool:=
 rV (fun i e=>e.oH.isEmpty||
  (rV (fun j x=>j==i||nt ms i j||!x.p.e4 e.oH||(match x.dst with | some t=>e.use.contains t | none=>false)||x.dst==e.dst||zf ms es i (j+1) x.dst) 0 es&&
   rV (fun t p=>!p.e4 e.oH||e.use.contains t||zf ms es i 0 (some t)||e.dst==some t) 0 env0&&
   bs.all fun x=>!x.2.any (aH.e4 e.oH))) 0 es
variable{e:dH}
theorem Tk{t:Nat}(h:e.hq t≠none):t∈Cd e:=by
 unfold dH.hq at h;split at h
 ·rename_i aG;simp[Cd,aG]
 split at h
 ·rename_i hu;simp[Cd,hu]
 exact absurd rfl h
theorem Tl(h:Lw ops ms es=true){iq Is:dH}(ba:ops[i]?=some o)(hi:es[i]?=some iq)(hk:es[k]?=some Is)(cC:k≠i){t:Nat}
  (bT:Is.hq t≠none) (aX:t∈FX ops o iq):EI ms i k=true:=by
 have h1:=xp h i (o,iq) (by
  rw[List.getElem?_zip_eq_some];exact⟨by simpa using ba,hi⟩)
 have U:=xp h1 k Is hk;simp only[dF,oO,dE,gT]at U;rcases U with (U | U) | U
 ·exact absurd U cC
 ·exact U
 rw[ik]at U;have:=U t (Tk bT);simp only[List.contains_iff_mem]at this;exact absurd aX this
variable{r:gU}
theorem Tag.p8(h:r.isEmpty=true)(t:Tag):t.e4 r=false:=by
 cases t with
 | free=>rfl
 | own s=>rw[List.isEmpty_iff]at h;subst h;rfl
 | ro s=>rw[List.isEmpty_iff]at h;subst h;rfl
theorem aH.p8(h:r.isEmpty=true)(l:aH):l.e4 r=false:=by
 cases l with
 | aQ t i j k es m=>exact Tag.p8 h (.own t)
 | fN t vs=>
  simp only[aH.e4,hG];refine⟨Tag.p8 h (.own t),ik.2 fun c _=>?_⟩;cases c with
  | cA=>simp[fj.e4]
  | v x=>simp[fj.e4]
  | J t k es=>simp[fj.e4,Tag.p8 h]
 | _=>simp[aH.e4,Tag.p8 h]
theorem bn.p8(h:r.isEmpty=true)(a:bn):a.e4 r=false:=by
 cases a<;>simp[bn.e4,aH.p8 h]
theorem aL.p8(h:r.isEmpty=true)(p:aL):p.e4 r=false:=by
 cases p<;>simp[aL.e4,bn.p8 h]
variable{bs:List (Nat×List aH)}
theorem avr{env0:List aL}(h:Lx ms es env0 bs=true)(hi:es[i]?=some e):
  (∀(j:Nat) (x:dH),es[j]?=some x->j≠i->nt ms i j=true\/x.p.e4 e.oH=false\/(∃t,x.dst=some t/\t∈e.use)\/x.dst=e.dst\/zf ms es i (j+1) x.dst=true)/\
  (∀(t:Nat) (p:aL),env0[t]?=some p->((p.e4 e.oH=false\/t∈e.use)\/zf ms es i 0 (some t)=true)\/e.dst=some t)/\∀x∈bs,x.2.any (aH.e4 e.oH)=false:=by
 have h1:=xp h i e hi;simp only[oO,cV]at h1;rcases h1 with h1 | h1
 ·refine⟨fun j x _ _=>.inr (.inl (aL.p8 h1 _)),fun t p _=>.inl (.inl (.inl (aL.p8 h1 _))),fun x _=>?_⟩;rw[ik];intro l _;simp[aH.p8 h1]
 simp only[cx]at h1;obtain⟨⟨h1,U⟩,ax⟩:=h1;refine⟨fun j x ah cC=>?_,fun t p hp=>?_,fun x ah=>?_⟩
 ·have:=xp h1 j x ah;simp only[dF,oO,dE,gT,cx]at this;rcases this with ((((aF | aF) | aF) | aF) | aF) | aF
  rotate_left 4
  ·exact .inr (.inr (.inr (.inl aF)))
  ·exact .inr (.inr (.inr (.inr aF)))
  ·exact absurd aF cC
  ·exact .inl aF
  ·exact .inr (.inl aF)
  refine .inr (.inr (.inl ?_));split at aF
  ·rename_i t bT;exact⟨t,bT,by simpa using aF⟩
  cases aF
 ·have:=xp U t p hp;simp only[dF,oO,gT,List.contains_iff_mem,dE]at this;exact this
 rw[gx]at ax;simpa using ax x ah
theorem Ly{L:Nat->Bool}{t:Nat}:∀{es:List dH} {k:Nat} {acc:aL},(h0 L t k es acc=acc/\∀(m:Nat) (y:dH),es[m]?=some y->L (k+m)=true->y.hq t=none)\/h0 L t k es acc=.cA\/
  ∃j e,es[j]?=some e/\L (k+j)=true/\e.dst=some t/\h0 L t k es acc=e.p/\∀(m:Nat) (y:dH),es[m]?=some y->j<m->L (k+m)=true->y.hq t=none
 | [],_,_=>.inl ⟨rfl,fun m y h=>by simp at h⟩
 | e::es,k,acc=>by
  simp only[h0];rcases Ly (L:=L) (t:=t) (es:=es) (k:=k+1) (acc:=if L k then (e.hq t).getD acc else acc) with⟨h,aX⟩ | h | ⟨j,e',h1,U,ax,aF,aZ⟩
  ·have tail:∀(m:Nat) (y:dH),(e::es)[m+1]?=some y->L (k+(m+1))=true->y.hq t=none:=fun m y bf ap=>aX m y (by simpa using bf) (by rwa[show k+1+m=k+(m+1) by omega])
   by_cases cz:L k=true
   ·rw[bm cz]at h ⊢;unfold dH.hq at h ⊢;by_cases aG:e.dst=some t
    ·rw[bm aG]at h ⊢;refine .inr (.inr ⟨0,e,rfl,cz,aG,h,fun m y bf hm ap=>?_⟩);cases m with
     | zero=>omega
     | succ m=>exact tail m y bf ap
    rw[bk aG]at h ⊢;by_cases hu:t∈e.use
    ·rw[bm hu]at h ⊢;exact .inr (.inl h)
    rw[bk hu]at h ⊢;refine .inl ⟨h,fun m y bf ap=>?_⟩;cases m with
    | zero=>
     simp only[kh,aV]at bf;subst bf;rw[bk aG,bk hu]
    | succ m=>exact tail m y bf ap
   rw[bk cz]at h ⊢;refine .inl ⟨h,fun m y bf ap=>?_⟩;cases m with
   | zero=>exact absurd ap (by simpa using cz)
   | succ m=>exact tail m y bf ap
  ·exact .inr (.inl h)
  refine .inr (.inr ⟨j+1,e',by simpa using h1,by rwa[show k+(j+1)=k+1+j by omega],ax,aF,fun m y bf hm ap=>?_⟩);cases m with
  | zero=>omega
  | succ m=>exact aZ m y (by simpa using bf) (by omega) (by rwa[show k+1+m=k+(m+1) by omega])
theorem Tm{t:Nat}:∀{es:List dH} {k i:Nat} {acc:aL} {e:dH},es[i]?=some e->
  h0 (fun j=>decide (j<k+i+1)) t k es acc=(e.hq t).getD (h0 (fun j=>decide (j<k+i)) t k es acc)
 | [],_,_,_,_,h=>by simp at h
 | bu::es,k,0,acc,e,h=>by
  simp at h;subst h;have jt:∀(es:List dH) (k m:Nat) (acc:aL),m<=k->h0 (fun j=>decide (j<m)) t k es acc=acc:=by
   intro es;induction es with
   | nil=>intro k m acc _;rfl
   | cons e1 es ee=>
    intro k m acc hm;simp only[h0];rw[bk (by simpa using hm)];exact ee (k+1) m acc (by omega)
  simp only[h0];rw[bm (by simp),bk (by simp),jt _ _ _ _ (by omega),jt _ _ _ _ (by omega)]
 | bu::es,k,i+1,acc,e,h=>by
  simp only[h0];rw[bm (by simp;omega),bm (by simp)];have:=Tm (t:=t) (es:=es) (k:=k+1) (i:=i) (acc:=(bu.hq t).getD acc) (by simpa using h);rw[show k+1+i+1=k+(i+1)+1 by omega,show k+1+i=k+(i+1) by omega]at this;exact this
theorem FY{env0:List aL}{bs:List (Nat×List aH)}(aG:∀(i:Nat) (e:dH),es[i]?=some e->e.dst≠none):∀(i:Nat),i<=es.length->
  (es.take i).foldl (fun env e=>e.apply env) env0=(fr env0 bs (fun j=>decide (j<i)) es).env
 | 0,_=>by
  apply List.ext_getElem?;intro t;rw[rz];have jt:∀(es:List dH) (k:Nat) (acc:aL),h0 (fun j=>decide (j<0)) t k es acc=acc:=by
   intro es;induction es with
   | nil=>intro k acc;rfl
   | cons e1 es ee=>intro k acc;simp only[h0];rw[bk (by simp)];exact ee _ _
  cases h:env0[t]? with
  | none=>simp[h]
  | some p=>have:=jt es 0 p;simp only[h,List.take_zero,List.foldl_nil,mz,this]
 | i+1,hi=>by
  have bz:i<es.length:=by omega
  have he:es[i]?=some es[i]:=fJ bz;have ee:=FY (env0:=env0) (bs:=bs) aG i (by omega);rw[uq,he,HW,List.foldl_append,ee];simp only[List.foldl_cons,List.foldl_nil];apply List.ext_getElem?;intro t;rw[dH.apply_get (aG i _ he),rz,rz];cases h:env0[t]? with
  | none=>rfl
  | some p=>
   have:=Tm (t:=t) (es:=es) (k:=0) (i:=i) (acc:=p) he;simp only[dF]at this;simp[this]
theorem LA{bC:aJ}{st1:aJ}{d':List cf}{ci:List Prop}{b:Bool}(h:so ops st o []=some (b,st1,d',ci))(ao:∀t∈reads ops o,st.env.getD t .cA=bC.env.getD t .cA):
  so ops bC o []=some (b,bC,[],[]):=by
 unfold so at h ⊢;cases ay:o.guard with
 | none=>rw[ay]at h;simp only[aV,bH]at h;simp[<-h.1]
 | some g=>
  obtain⟨j,want⟩:=g;rw[ay]at h;simp only at h ⊢;cases aG:(ops[j]?).bind (·.dst) with
  | none=>rw[aG]at h;cases h
  | some s=>
   rw[aG]at h;simp only at h ⊢;have:s∈reads ops o:=by simp[reads,Ls,ay,aG]
   rw[ao s this]at h;split at h
   ·rename_i e;simp only[aV,bH]at h;simp[e,<-h.1]
   ·rename_i e;simp only[aV,bH]at h;simp[e,<-h.1]
   ·cases h
   cases h
variable{cq:List cf}{obs:List Prop}
theorem SM(h:vU P st o ans=some (e,cq,obs)):
  ∃(v:iQ) (d:Nat) (x y:Operand) (t:TypeId),sr st o=some v/\o.dst=some d/\o.op=.call ⟨.builtin .append,⟨[x,y]⟩,⟨[t,t]⟩⟩/\uy P t v.t v.i v.j v.k v.es v.esT (st.br y) ans=some (e.p,cq,obs)/\
   e=⟨some d,e.p,[],[]⟩/\(st.br x).leaf=some (.aQ v.t v.i v.j v.k v.es .here)/\GV v.t st.boxes=some (v.kT,v.esT):=by
 obtain⟨dst,op,type,pos,after,guard⟩:=o;unfold vU at h;split at h
 ·rename_i v d hr y t di hi aG q0;simp only at aG q0;subst aG;subst q0;split at h
  ·rename_i Bk;subst Bk;rw[cc]at h;obtain⟨⟨bF,bQ,cb⟩,h1,h⟩:=h;simp only[bH]at h;obtain⟨rfl,rfl,rfl⟩:=h;have lc:=hi;simp only[sr]at lc;split at lc
   ·rename_i s i j k es ap;split at lc
    ·rename_i kT esT av;cases lc;exact⟨_,d,hr,y,t,hi,rfl,rfl,h1,rfl,ap,av⟩
    cases lc
   cases lc
  cases h
 cases h
theorem SN{st bC:aJ}(av:st.boxes=bC.boxes)(h:∀x∈o.op.operands.toList,st.br x=bC.br x):sr st o=sr bC o:=by
 obtain⟨dst,op,type,pos,after,guard⟩:=o;simp only at h;unfold sr;simp only;split
 ·rename_i x y t di;have ah:st.br x=bC.br x:=h x (by simp[Op.operands,Call.operands]);rw[ah,av]
 rfl
theorem avs(av:st.boxes=bC.boxes)(h:∀x∈o.op.operands.toList,st.br x=bC.br x):vU P st o ans=vU P bC o ans:=by
 unfold vU;rw[SN av h];split
 ·rename_i v d x y t di h1 U ax;rw[h y (by rw[ax];simp[Op.operands,Call.operands])]
 rfl
theorem avt{v:iQ}{q:aL}(h:q.mb v.n0):∀a∈q.idx v.t v.j,a=v.i:=by
 have one:∀{a:bn},a.mb v.n0->∀x∈a.idx v.t v.j,x=v.i:=by
  intro a ak x ah;cases a with
  | one l=>exact ak.2 x ah
  | agg ls=>
   obtain⟨l,ap,ah⟩:=nm.1 ah;exact (ak l ap).2 x ah
 intro x ah;cases q with
 | aI a=>exact one h x ah
 | gf as=>
  obtain⟨a,ak,ah⟩:=nm.1 ah;exact one (h a ak) x ah
theorem avu{v:iQ}{q:aL}(h:q.mb v.n0):q.map (h3 v.t v.i v.j v.k v.es v.kT v.esT)=q:=by
 have ls:∀{ls:List aH},(∀l∈ls,v.n0 l)->ls.map (h3 v.t v.i v.j v.k v.es v.kT v.esT)=ls:=by
  intro ls ap
  conv=>rhs;rw[<-sX ls]
  exact l9 fun l hm=>(ap l hm).1
 have one:∀{a:bn},a.mb v.n0->a.map (h3 v.t v.i v.j v.k v.es v.kT v.esT)=a:=by
  intro a ak;cases a with
  | one l=>simp only[bn.map];rw[ak.1]
  | agg l=>simp only[bn.map];rw[ls ak]
 cases q with
 | aI a=>simp only[aL.map];rw[one h]
 | gf as=>
  simp only[aL.map]
  congr 1
  conv=>rhs;rw[<-sX as]
  exact l9 fun a hm=>one (h a hm)
theorem Fact.dst{env:List aL}(h:Fact P ops bs env o e):e.dst≠none:=by
 rcases h with⟨_,_,_,_,d,aG,rfl⟩ | ⟨_,_,_,_,ans,bu,g,cq,obs,h1,_,U⟩ | ⟨_,_,_,_,ans,cq,obs,h1,_⟩
 rotate_left 2
 ·obtain⟨v,d,x,y,t,_,_,_,_,he,_⟩:=SM h1;rw[he];simp
 ·simp[ze]
 obtain⟨_,d,aF,_⟩:=Td h1;obtain⟨u,U⟩:=U;rcases U with rfl | ⟨c,b,_,_,rfl⟩
 ·simp only[aF];simp
 simp only[aF];simp
variable{w0:eT}{a:Act}{w:World}
theorem Rel.bool{env:List aL}{d:Nat}{c:Bool}(h:Rel w0 ⟨env.set d (.one (.bg c)),bs⟩ a w):Rel w0 ⟨env.set d (.one (.v (.bool c))),bs⟩ a w:=by
 obtain⟨ω,τ,h⟩:=h;refine⟨ω,τ,h.defers,by have:=h.size;simpa using this,h.below,h.owned,h.fixed,h.pinned,fun i p hp=>?_,h.boxes⟩;by_cases hi:d=i
 ·subst hi;rw[k6]at hp;split at hp
  ·split at hp
   ·rename_i ap;simp only[aV]at hp;subst hp;obtain⟨v,h1,U⟩:=h.env d (.one (.bg c)) (by simp[ap]);exact⟨v,h1,U⟩
   cases hp
  rename_i cC;exact absurd rfl cC
 exact h.env i p (by simpa[k6,hi]using hp)
section
variable {P : Program} {ops : Array Oper} {bs : List (Nat × List aH)} {env0 : List aL} {es : List dH} {ms : List Nat}
def fA(bY:Array Bool)(j:Nat):Bool:=bY.getD j false
structure qz (P:Program) (ops:Array Oper) (bs:List (Nat×List aH)) (env0:List aL) (es:List dH) (ms:List Nat):Prop where
 len:es.length<=ops.size
 facts:∀(i:Nat) (o:Oper),i<es.length->ops[i]?=some o->∃e,es[i]?=some e/\Fact P ops bs (fr env0 bs (fun j=>decide (j<i)) es).env o e
 masks:ss ms ops.toList=true
 aQ:∀(i:Nat) (o:Oper) (v:iQ),i<es.length->ops[i]?=some o->sr ⟨(fr env0 bs (fun j=>decide (j<i)) es).env,bs⟩ o=some v->
  (∀q∈env0,q.mb v.n0)/\(∀(j:Nat) (x:dH),es[j]?=some x->j≠i->x.p.mb v.n0)/\∀x∈bs,∀l∈x.2,v.n0 l
 ord:Lw ops ms es=true
 tok:Lx ms es env0 bs=true
variable{bY:Array Bool}{i:Nat}{e:dH}
theorem qz.same(h:qz P ops bs env0 es ms)(aj:rA ops bY)(ao:bY.size=ops.size)(hi:i∈Region.ready .any ops bY){o:Oper}(ba:ops[i]?=some o)(he:es[i]?=some e)
  {t:Nat} (bT:t∈FX ops o e):(fr env0 bs (fA bY) es).env.getD t .cA=(fr env0 bs (fun j=>decide (j<i)) es).env.getD t .cA:=by
 rw[jB,jB,rz,rz];have fx:bY.getD i false=false:=by
  have bG:=(mem_ready.1 hi).1;have bz:i<bY.size:=ao▸(iB.1 ba).1;simp[ht bz]at bG ⊢;exact bG
 cases abX:env0[t]? with
 | none=>rfl
 | some p=>
  simp only[mz,il];refine Ca fun j tc a1 Bi=>?_
  rw[dF];by_cases o6:j=i
  ·subst o6;simp[fA,fx]
  have:=Tl h.ord ba he a1 o6 Bi bT;unfold EI at this;split at this
  ·rename_i bz;have:=Cc h.masks aj ao hi this;simp[fA,bz,this]
  rename_i bz;cases Em:bY.getD j false with
  | false=>simp[fA,Em,bz]
  | true=>have:=FW h.masks aj ao j Em this;rw[fx]at this;cases this
theorem LB(bz:i<bY.size)(j:Nat):fA (bY.setIfInBounds i true) j=(if j=i then true else fA bY j):=by
 unfold fA;split
 ·rename_i h;subst h;simp[bz]
 rename_i h;rw[getD_set_ne false (Ne.symm h)]
theorem qz.fU(h:qz P ops bs env0 es ms)(bz:i<bY.size)(he:es[i]?=some e){t:Nat}(bT:e.hq t=none)(p:aL):
  h0 (fA (bY.setIfInBounds i true)) t 0 es p=h0 (fA bY) t 0 es p:=by
 refine Ca fun j tc a1 Bi=>?_
 rw[dF,LB bz,bk];rintro rfl;rw[he]at a1;cases a1;exact Bi bT
theorem qz.last(h:qz P ops bs env0 es ms)(aj:rA ops bY)(ao:bY.size=ops.size)(hi:i∈Region.ready .any ops bY){o:Oper}(ba:ops[i]?=some o)(he:es[i]?=some e)
  {t:Nat} {q:aL} (bT:e.hq t=some q) (p:aL):h0 (fA (bY.setIfInBounds i true)) t 0 es p=q:=by
 have bz:i<bY.size:=ao▸(iB.1 ba).1;have fx:bY.getD i false=false:=by
  have bG:=(mem_ready.1 hi).1;simp[ht bz]at bG ⊢;exact bG
 refine Tf he bT (by rw[dF,LB bz,bm rfl]) fun j tc a1 acp Bi=>?_
 rw[dF,LB bz,bk (by omega)];have:=Tl h.ord ba he acp (by omega) Bi (t:=t) (by
  unfold FX;exact ij _ (Tk (by rw[bT];simp)))
 unfold EI at this;rw[bk (by omega)]at this;cases Em:fA bY j with
 | false=>rfl
 | true=>have:=FW h.masks aj ao j Em this;rw[fx]at this;cases this
theorem qz.step(h:qz P ops bs env0 es ms)(aj:rA ops bY)(ao:bY.size=ops.size)(hi:i∈Region.ready .any ops bY)(nG:i<es.length){w0:eT}{w:World}{a:Act}
  (aA:Rel w0 (fr env0 bs (fA bY) es) a w) {Q:Exit->Act->World->Prop} {K:Act->World->Prop} (gW:∀cK aO,Rel w0 (fr env0 bs (fA (bY.setIfInBounds i true)) es) cK aO->K cK aO):wpOp P ops Q i K a w:=by
 obtain⟨bG,o,ba,aCN⟩:=mem_ready.1 hi;obtain⟨e,he,b2⟩:=h.facts i o nG ba;have bz:i<bY.size:=ao▸(iB.1 ba).1;have yJ:=fun t bT=>h.same aj ao hi ba he (t:=t) bT
 have Bb:∀t∈reads ops o,(fr env0 bs (fun j=>decide (j<i)) es).env.getD t .cA=(fr env0 bs (fA bY) es).env.getD t .cA:=fun t bT=>(yJ t (jU _ bT)).symm
 unfold wpOp;rw[ba];simp only;rcases b2 with⟨st1,d',ci,hw,d,aG,rfl⟩ | ⟨st1,d',ci,hw,ans,bu,g,cq,obs,eR,Jp,Ei⟩ | ⟨st1,d',ci,hw,ans,cq,obs,Jx,Jp⟩
 rotate_left 2
 ·have Bq:=LA hw (bC:=fr env0 bs (fA bY) es) Bb;obtain⟨o9,_⟩:=xm Bq trivial aA;rw[bm o9];left;have Ra:∀x∈o.op.operands.toList,(fr env0 bs (fA bY) es).br x=aJ.br ⟨(fr env0 bs (fun j=>decide (j<i)) es).env,bs⟩ x:=fun x ah=>QR fun t bT=>(Bb t (by
   unfold reads;exact ij _ (List.mem_filterMap.2 ⟨x,ah,bT⟩))).symm
  have I4:vU P (fr env0 bs (fA bY) es) o ans=some (e,cq,obs):=by
   rw[<-Jx];exact avs rfl Ra
  obtain⟨v,d,x,y,t,ach,aG,q0,r0,mJ,ah,o8⟩:=SM I4;have aci:sr ⟨(fr env0 bs (fun j=>decide (j<i)) es).env,bs⟩ o=some v:=by
   rw[<-ach];exact (SN (st:=fr env0 bs (fA bY) es) (bC:=⟨(fr env0 bs (fun j=>decide (j<i)) es).env,bs⟩) rfl Ra).symm
  obtain⟨abY,abZ,Rb⟩:=h.aQ i o v nG ba aci;have fx:bY.getD i false=false:=by
   simp[ht bz]at bG ⊢;exact bG
  have r6:∀q∈(fr env0 bs (fA bY) es).env,q.mb v.n0:=by
   intro q aK;simp only[fr]at aK;rw[lo]at aK;obtain⟨⟨h2,n⟩,hm,rfl⟩:=aK;have lB:h2∈env0:=by
    rw[List.mem_zipIdx_iff_getElem?]at hm;exact ft hm
   simp only;rcases Ly (L:=fA bY) (t:=n) (es:=es) (k:=0) (acc:=h2) with⟨h1,_⟩ | h1 | ⟨j,tc,h1,U,_,aF,_⟩
   ·rw[h1];exact abY _ lB
   ·rw[h1];exact⟨rfl,fun a ak=>by simp[aH.idx]at ak⟩
   rw[aF];refine abZ j tc h1 ?_;rintro rfl;rw[dF]at U;unfold fA at U;rw[fx]at U;cases U
  have acC:(fr env0 bs (fA bY) es).map (h3 v.t v.i v.j v.k v.es v.kT v.esT)=fr env0 bs (fA bY) es:=by
   have e1:(fr env0 bs (fA bY) es).env.map (aL.map (h3 v.t v.i v.j v.k v.es v.kT v.esT))=(fr env0 bs (fA bY) es).env:=by
    conv=>rhs;rw[<-sX (fr env0 bs (fA bY) es).env]
    exact l9 fun q aK=>avu (r6 q aK)
   have e2:bs.map (fun x=>(x.1,x.2.map (h3 v.t v.i v.j v.k v.es v.kT v.esT)))=bs:=by
    conv=>rhs;rw[<-sX bs]
    refine l9 fun x ah=>?_
    obtain⟨hs,gS⟩:=x;simp only[id]
    congr 1
    conv=>rhs;rw[<-sX gS]
    exact l9 fun l ap=>(Rb _ ah l ap).1
   unfold aJ.map;rw[e1];show aJ.mk _ (bs.map _)=_;rw[e2];rfl
  have pY:∀a∈(fr env0 bs (fA bY) es).idx v.t v.j,a=v.i:=by
   intro cK ak;unfold aJ.idx at ak;rcases ki.1 ak with ak | ak
   ·obtain⟨q,aK,ak⟩:=nm.1 ak;exact avt (r6 q aK) cK ak
   obtain⟨z,bi,ak⟩:=nm.1 ak;obtain⟨l,ap,ak⟩:=nm.1 ak;exact (Rb z bi l ap).2 cK ak
  obtain⟨ω,τ,fh⟩:=aA;obtain⟨z,aO,h1,U⟩:=fh.uy (P:=P) (d:=d) (ty:=o.type) (kT:=v.kT) (x:=x) (y:=y) (aL.dV ah (fh.br x)) r0 Jp (avp fh o8) pY;rw[acC]at U;obtain⟨dst,op,type,pos,after,guard⟩:=o;simp only at aG q0;subst aG;subst q0;refine Calls.of (z:=z) (aO:=aO) ?_ (gW _ _ ?_)
  ·have:(execOp a.eval ⟨some d,.call ⟨.builtin .append,⟨[x,y]⟩,⟨[t,t]⟩⟩,type,pos,after,guard⟩)=(builtin .append ⟨[t,t]⟩ type (Array.map (fun | .const _=>true | _=>false) ⟨[x,y]⟩) (Array.map a.eval ⟨[x,y]⟩)):=by
    simp only[execOp,resolve];rfl
   rw[this];exact jR (by simpa using h1)
  refine U.weaken (by simp[zd]) rfl ?_;intro n p hp;right;rw[rz,cc]at hp;obtain⟨h2,lB,rfl⟩:=hp;rw[k6];have r4:e.dst=some d:=by rw[mJ]
  have u1:e.use=[]:=by rw[mJ]
  by_cases oo:d=n
  ·subst oo;have:d<env0.length:=(ek.1 lB).1;rw[bm rfl,bm (by simp[zd,this]),h.last aj ao hi ba he (q:=e.p) (by simp[dH.hq,r4])]
  rw[bk oo,rz,lB,mz,h.fU bz he (by simp[dH.hq,r4,oo,u1])]
 ·have Bq:=LA hw (bC:=fr env0 bs (fA bY) es) Bb;obtain⟨o9,_⟩:=xm Bq trivial aA;rw[bk (by rw[o9];simp)];refine gW _ _ ((Lm aA).weaken ?_ ?_ ?_)
  ·simp[zd,B',aG]
  ·simp[fr,B',aG]
  intro t p hp;rw[rz,cc]at hp;obtain⟨h2,lB,rfl⟩:=hp;right;simp only[B',aG];rw[k6];by_cases oo:d=t
  ·subst oo;have:d<env0.length:=(ek.1 lB).1;rw[bm rfl,bm (by rw[zd];exact this),h.last aj ao hi ba he (q:=.one (.v undef)) (by simp[dH.hq,ze])]
  rw[bk oo,rz,lB,mz,h.fU bz he (by simp[dH.hq,ze,oo])]
 have Bq:=LA hw (bC:=fr env0 bs (fA bY) es) Bb;obtain⟨o9,_⟩:=xm Bq trivial aA;rw[bm o9];left;have I4:s' P (fr env0 bs (fA bY) es) o ans=some (bu,g,cq,obs):=by
  rw[<-eR];refine avq rfl fun x ah=>QR fun t bT=>(Bb t ?_).symm
  unfold reads;exact ij _ (List.mem_filterMap.2 ⟨x,ah,bT⟩)
 obtain⟨ay,d,I8,q0⟩:=Td I4;obtain⟨u,Ei⟩:=Ei;have yG:e.oH=bu.oH/\e.dst=bu.dst:=by
  rcases Ei with rfl | ⟨c,b,_,_,rfl⟩
  ·exact⟨rfl,rfl⟩
  exact⟨rfl,rfl⟩
 obtain⟨yG,abV⟩:=yG;rw[<-yG]at ay;obtain⟨ac9,ada,adb⟩:=avr h.tok he;have abB:((fr env0 bs (fA bY) es).map (aH.cu g fun _=>true)).boxes=bs:=by
  simp only[aJ.map,fr]
  conv=>rhs;rw[<-sX bs]
  refine l9 fun x ah=>?_
  obtain⟨hs,gS⟩:=x;simp only[id,S8 ay (adb _ ah)]
 refine avR q0 Jp aA fun cK aO ep=>gW _ _ ?_
 rw[abB]at ep;have ml:Rel w0 ⟨((fr env0 bs (fA bY) es).map (aH.cu g fun _=>true)).env.set d e.p,bs⟩ cK aO:=by
  rcases Ei with rfl | ⟨c,b,hp,gp,rfl⟩
  ·exact ep
  rw[hp]at ep;subst gp;exact ep.bool
 refine ml.weaken (by simp[zd,aJ.map]) rfl ?_;intro t p hp;rw[rz,cc]at hp;obtain⟨h2,lB,rfl⟩:=hp;rw[k6];have r4:e.dst=some d:=abV.trans I8;by_cases oo:d=t
 ·subst oo;right;have:d<env0.length:=(ek.1 lB).1;rw[bm rfl,bm (by simp[aJ.map,zd,this]),h.last aj ao hi ba he (q:=e.p) (by simp[dH.hq,r4])]
 rw[bk oo];by_cases Ex:t∈e.use
 ·left;exact h.last aj ao hi ba he (by simp[dH.hq,r4,oo,Ex]) h2
 have Jj:=h.fU bz he (t:=t) (by simp[dH.hq,r4,oo,Ex]) h2;rw[Jj];have acE:h0 (fA bY) t 0 es h2=.cA\/(h0 (fA bY) t 0 es h2).e4 e.oH=false:=by
  rcases Ly (L:=fA bY) (t:=t) (es:=es) (k:=0) (acc:=h2) with⟨h1,jt⟩ | h1 | ⟨j,tc,h1,U,ax,aF,jt⟩
  ·right;rw[h1];rcases ada t h2 lB with (aZ | aZ) | aZ
   rotate_left 2
   ·rw[r4]at aZ;exact absurd (eW aZ) oo
   ·exact aZ.resolve_right Ex
   ·obtain⟨m,y,di,hm,_,ak,hu,bT⟩:=Tj aZ;cases bT;have:=jt m y hm (by rw[dF];exact Cc h.masks aj ao hi ak);unfold dH.hq at this;rw[bm hu]at this;split at this<;>cases this
  ·exact .inl h1
  right;rw[aF];rw[dF]at U;have fx:bY.getD i false=false:=by
   simp[ht bz]at bG ⊢;exact bG
  have o6:j≠i:=by rintro rfl;unfold fA at U;rw[fx]at U;cases U
  rcases ac9 j tc h1 o6 with aZ | aZ | aZ | aZ | aZ
  rotate_left 3
  ·rw[ax,r4]at aZ;exact absurd (eW aZ).symm oo
  ·obtain⟨m,y,di,hm,Rs,ak,hu,bT⟩:=Tj aZ;rw[ax]at bT;cases bT;have:=jt m y hm (by omega) (by rw[dF];exact Cc h.masks aj ao hi ak);unfold dH.hq at this;rw[bm hu]at this;split at this<;>cases this
  ·have:=FW h.masks aj ao j U aZ;rw[fx]at this;cases this
  ·exact aZ
  obtain⟨di,bB,bS⟩:=aZ;rw[ax]at bB;cases bB;exact absurd bS Ex
 rcases acE with h1 | h1
 ·exact .inl h1
 right;simp only[aJ.map,dq];rw[rz,lB];simp only[mz,aL.xV ay h1]
def LC(ops:Array Oper)(ms:List Nat)(k:Nat):Prop:=∀i,k<=i->i<ops.size->∀j,j<i->nt ms j i=true
theorem qz.any(h:qz P ops bs env0 es ms)(av:LC ops ms es.length){w0:eT}{Q:Exit->Act->World->Prop}
  (j3:∀(h':Nat) {bY:Array Bool},rA ops bY->bY.size=ops.size->(∀j,j<es.length->bY.getD j false=true)->(∀j,es.length<=j->bY.getD j false=false)->bY.count false<=h'->
   ∀{a:Act} {w:World},Rel w0 (fr env0 bs (fun j=>decide (j<es.length)) es) a w->wpAny P .any ops Q h' bY a w):
  ∀(h':Nat) {bY:Array Bool},rA ops bY->bY.size=ops.size->(∀j,es.length<=j->bY.getD j false=false)->bY.count false<=h'->
  ∀{a:Act} {w:World},Rel w0 (fr env0 bs (fA bY) es) a w->wpAny P .any ops Q h' bY a w:=by
 intro h';induction h' with
 | zero=>
  intro bY aj ao fx tj a w aA;by_cases iF:∀j,j<es.length->bY.getD j false=true
  ·refine j3 0 aj ao iF fx tj ?_;have:fr env0 bs (fA bY) es=fr env0 bs (fun j=>decide (j<es.length)) es:=by
    unfold fr
    congr 1
    refine l9 fun x _=>?_
    refine Ca fun j e a1 _=>?_
    have bz:j<es.length:=(ek.1 a1).1;rw[dF];simp only[fA,iF j bz,bz,decide_true]
   rwa[<-this]
  exfalso;apply iF;intro j a1;have bz:j<bY.size:=ao▸Aj a1 h.len;cases b2:bY[j] with
  | true=>simp[ht bz,b2]
  | false=>
   have:0<bY.count false:=by
    rw[Array.count_pos_iff];exact b2▸Array.getElem_mem bz
   omega
 | succ h' ee=>
  intro bY aj ao fx tj a w aA;by_cases iF:∀j,j<es.length->bY.getD j false=true
  ·refine j3 _ aj ao iF fx tj ?_;have:fr env0 bs (fA bY) es=fr env0 bs (fun j=>decide (j<es.length)) es:=by
    unfold fr
    congr 1
    refine l9 fun x _=>?_
    refine Ca fun j e a1 _=>?_
    have bz:j<es.length:=(ek.1 a1).1;rw[dF];simp only[fA,iF j bz,bz,decide_true]
   rwa[<-this]
  refine⟨fun wO=>absurd (fun j a1=>Lv h.masks ao wO j (Aj a1 h.len)) iF,fun i hi=>?_⟩;have nG:i<es.length:=by
   rcases pI i es.length with h1 | h1
   ·exact h1
   exfalso;obtain⟨_,o,ba,_⟩:=mem_ready.1 hi;have bz:i<ops.size:=(iB.1 ba).1;exact iF fun j a1=>Cc h.masks aj ao hi (av i h1 bz j (Aj a1 h1))
  refine h.step aj ao hi nG aA fun cK aO ep=>ee (aj.ready hi) (by simpa using ao) (fun j a1=>?_) ?_ ep
  ·rw[getD_set_ne false (by omega)];exact fx j a1
  obtain⟨h1,o,ba,_⟩:=mem_ready.1 hi;have bz:i<bY.size:=ao▸(iB.1 ba).1;have b2:bY[i]=false:=by simpa[ht bz]using h1
  have:(bY.setIfInBounds i true).count false=bY.count false-1:=by
   have e:bY.setIfInBounds i true=bY.set i true bz:=by unfold Array.setIfInBounds;rw[dif_pos bz]
   rw[e,Array.count_set];simp[b2]
  omega
end
def zg(P:Program)(ops:Array Oper):List Oper->aJ->List cf->Stepped
 | [],st,ans=>some (st,ans,[])
 | o::rest,st,ans=>
  match rc P ops o st ans with
  | some (st1,fL,gC)=>(zg P ops rest st1 fL).map fun r=>(r.1,r.2.1,gC++r.2.2)
  | none=>none
theorem SO{Q:Exit->Act->World->Prop}(hi:ops[i]?=some o)(h:rc P ops o st ans=some (bC,cq,obs))(ba:cL obs)
  {a:Act} {w:World} (a8:Rel w0 st a w) {K:Act->World->Prop} (gW:∀cK aO,Rel w0 bC cK aO->K cK aO):wpOp P ops Q i K a w:=by
 unfold wpOp;rw[hi];simp only;unfold rc at h;split at h
 ·rename_i st1 fL gC hw;rw[cc]at h;obtain⟨⟨bF,bQ,cb⟩,h1,h⟩:=h;simp only[bH]at h;obtain⟨rfl,rfl,rfl⟩:=h;obtain⟨ci,b6⟩:=ba.append;obtain⟨o9,fh⟩:=xm hw ci a8;rw[bm o9];exact .inl (Ll h1 b6 fh fun cK aO ep=>gW _ _ ep)
 ·rename_i st1 fL gC hw;simp only[aV,bH]at h;obtain⟨rfl,rfl,rfl⟩:=h;obtain⟨o9,fh⟩:=xm hw ba a8;rw[bk (by rw[o9];simp)];exact gW _ _ (Lm fh)
 cases h
theorem avv(hm:ss ms ops.toList=true)(av:LC ops ms k){Q:Exit->Act->World->Prop}:∀(h' n:Nat) {bY:Array Bool},k<=n->n<=ops.size->
  rA ops bY->bY.size=ops.size->(∀j,j<n->bY.getD j false=true)->(∀j,n<=j->bY.getD j false=false)->bY.count false<=h'->
  ∀{st bC:aJ} {ans cq:List cf} {obs:List Prop},zg P ops (ops.toList.drop n) st ans=some (bC,cq,obs)->cL obs->
  ∀{a:Act} {w:World},Rel w0 st a w->(∀cK aO,Rel w0 bC cK aO->Q .normal cK aO)->wpAny P .any ops Q h' bY a w:=by
 have fin:∀{bY:Array Bool} {n:Nat},n=ops.size->bY.size=ops.size->(∀j,j<n->bY.getD j false=true)->Region.ready .any ops bY=[]:=by
  intro bY n aX ao h1;rw[List.eq_nil_iff_forall_not_mem];intro j a1;obtain⟨U,o,ba,_⟩:=mem_ready.1 a1;have bz:j<ops.size:=(iB.1 ba).1;have ax:=h1 j (aX▸bz);have hJ:j<bY.size:=ao▸bz;simp[ht hJ]at U ax;rw[U]at ax;cases ax
 intro h';induction h' with
 | zero=>
  intro n bY Rp aX aj ao h1 U tj st bC ans cq obs h ba a w aA j3;have A9:n=ops.size:=by
   rcases pI n ops.size with bz | nF
   ·have hJ:n<bY.size:=ao▸bz;have b2:bY[n]=false:=by simpa[ht hJ]using U n (fI _)
    have:0<bY.count false:=by
     rw[Array.count_pos_iff];exact b2▸Array.getElem_mem hJ
    omega
   omega
  rw[List.drop_eq_nil_of_le (by simp[A9])]at h;simp only[zg,aV,bH]at h;obtain⟨rfl,_,_⟩:=h;exact⟨fin A9 ao h1,j3 _ _ aA⟩
 | succ h' ee=>
  intro n bY Rp aX aj ao h1 U tj st bC ans cq obs h ba a w aA j3;rcases pI n ops.size with bz | nF
  ·have hJ:n<bY.size:=ao▸bz;have aG:ops.toList.drop n=ops[n]::ops.toList.drop (n+1):=by
    rw[List.drop_eq_getElem_cons (by simpa using bz)];simp
   rw[aG]at h;simp only[zg]at h;split at h
   ·rename_i st1 fL gC ax;rw[cc]at h;obtain⟨⟨bF,bQ,cb⟩,aF,h⟩:=h;simp only[bH]at h;obtain⟨rfl,rfl,rfl⟩:=h;obtain⟨ci,b6⟩:=ba.append;refine⟨fun wO=>?_,fun i hi=>?_⟩
    ·exfalso;have:=Lv hm ao wO n bz;rw[U n (fI _)]at this;cases this
    have lz:i=n:=by
     obtain⟨aZ,o,lA,_⟩:=mem_ready.1 hi;have yC:i<ops.size:=(iB.1 lA).1;have lc:i<bY.size:=ao▸yC;rcases Nat.lt_trichotomy i n with bB | bB | bB
     ·have bS:=h1 i bB;simp[ht lc]at aZ bS;rw[aZ]at bS;cases bS
     ·exact bB
     have:=Cc hm aj ao hi (av i (by omega) yC n bB);rw[U n (fI _)]at this;cases this
    subst lz;refine SO (ht bz) ax ci aA fun cK aO ep=>ee (i+1) (by omega) (by omega) (aj.ready hi) (by simpa using ao) (fun j a1=>?_) (fun j a1=>?_) ?_ aF b6 ep j3
    ·by_cases o6:j=i
     ·subst o6;have bi:j<(bY.setIfInBounds j true).size:=by simpa using hJ
      simp[ht bi]
     rw[getD_set_ne false (Ne.symm o6)];exact h1 j (by omega)
    ·rw[getD_set_ne false (by omega)];exact U j (by omega)
    have b2:bY[i]=false:=by simpa[ht hJ]using U i (fI _)
    have:(bY.setIfInBounds i true).count false=bY.count false-1:=by
     have e:bY.setIfInBounds i true=bY.set i true hJ:=by unfold Array.setIfInBounds;rw[dif_pos hJ]
     rw[e,Array.count_set];simp[b2]
    omega
   cases h
  have A9:n=ops.size:=by omega
  rw[List.drop_eq_nil_of_le (by simp[A9])]at h;simp only[zg,aV,bH]at h;obtain⟨rfl,_,_⟩:=h;have wO:=fin A9 ao h1;refine⟨fun _=>j3 _ _ aA,fun i hi=>?_⟩;rw[wO]at hi;cases hi
def uh(ms:List Nat):Nat->Nat
 | 0=>0
 | i+1=>if ms.getD i 0==2 ^ i-1 then uh ms i else i+1
theorem SP(ms:List Nat):∀n,uh ms n<=n
 | 0=>fI _
 | n+1=>by
  unfold uh;split
  ·exact sW (SP ms n) (Nat.le_succ n)
  exact fI _
theorem SQ(ms:List Nat):∀n i,uh ms n<=i->i<n->∀j,j<i->nt ms j i=true
 | 0,_,_,h,_,_=>absurd h (Nat.not_lt_zero _)
 | n+1,i,h1,U,j,a1=>by
  unfold uh at h1;split at h1
  ·rename_i he;by_cases lz:i=n
   ·subst lz;unfold nt;rw[eq_of_beq he,Nat.testBit_two_pow_sub_one,jj a1]
   exact SQ ms n i h1 (by omega) j a1
  omega
theorem Sat.drew{ω:Own}{τ:Nat->Nat×Value}{l:aH}{y:Value}(h:Sat w ω τ l y):Sat w.drew ω τ l y:=by
 have b2:∀{R:List (Nat×Nat)->db->Prop} {d:D} {y:Value},b0 w ω R d y->b0 w.drew ω R d y:=fun h=>h.frame fun _ _ _ aK=>⟨aK,rfl⟩
 cases l with
 | J t k es=>exact⟨b2 h.1,h.2⟩
 | cP t k es i j=>
  obtain⟨b,off,cap,h1,U,ax,aF⟩:=h;exact⟨b,off,cap,h1,U,b2 ax,aF⟩
 | iK ds off=>
  obtain⟨b,h1,U⟩:=h;exact⟨b,h1,b2 U⟩
 | fd d=>exact b2 h
 | dw t k es=>exact⟨b2 h.1,h.2⟩
 | aQ t i j k es m=>
  obtain⟨u,hu,h1,hm⟩:=h;exact⟨u,hu,b2 h1,hm⟩
 | fN t vs=>
  obtain⟨b,ty,arr,h1,U,ax,aX,bp⟩:=h;refine⟨b,ty,arr,h1,U,ax,aX,fun j c aj=>?_⟩;obtain⟨u,f',eY⟩:=bp j c aj;refine⟨u,f',?_⟩;cases c with
  | cA=>exact trivial
  | v x=>exact eY
  | J t k es=>exact⟨b2 eY.1,eY.2⟩
 | _=>exact h
theorem Rel.drew(h:Rel w0 st a w):Rel w0 st a w.drew:=by
 obtain⟨ω,τ,h⟩:=h;have hi:∀p:aL,p.map _root_.id=p:=by
  intro p;cases p with
  | aI a=>cases a<;>simp[aL.map,bn.map]
  | gf as=>
   simp only[aL.map]
   congr 1
   have:bn.map _root_.id=_root_.id:=by funext a;cases a<;>simp[bn.map]
   rw[this];simp
 refine⟨ω,τ,h.defers,h.size,h.below.next (hb.refl _ _).drew,h.owned,h.fixed,h.pinned,fun i p hp=>?_,fun id ls ap=>?_⟩
 ·obtain⟨v,h1,U⟩:=h.env i p hp;have:=cW.map (lr:=Sat w.drew ω τ) (f:=_root_.id) (fun l v ao=>Sat.drew ao) U;rw[hi]at this;exact⟨v,h1,this⟩
 obtain⟨b,arr,ty,h1,U,ax,aF⟩:=h.boxes id ls ap;have:=k9.map (lr:=Sat w.drew ω τ) (f:=_root_.id) (fun l v ao=>Sat.drew ao) aF;rw[sX]at this;exact⟨b,arr,ty,h1,U,ax,this⟩
def FZ:Nat->List aL->List Nat
 | _,[]=>[]
 | i,p::r=>match p.leaf with | some (.fN t _)=>if t=i then i::FZ (i+1) r else FZ (i+1) r | _=>FZ (i+1) r
def zh(env:List aL):List Oper->List Nat
 | []=>[]
 | o::r=>
  match o.dst,o.op with
  | none,.store _ (.tmp s) _=>
   match (env.getD s .cA).leaf with
   | some (.ptr d 0)=>if d=s/\s<dn/\!(zh env r).contains s then s::zh env r else zh env r
   | _=>zh env r
  | _,_=>zh env r
def avw(env0:List aL)(bs:List (Nat×List aH))(es:List dH)(i:Nat):List aH:=
 env0.flatMap aL.u5++(bs.flatMap (·.2)++(es.zipIdx.filter fun x=>x.2 != i).flatMap fun x=>x.1.p.u5)
def LD(P:Program)(ops:Array Oper)(st:aJ)(ans:List cf):Stepped:=
 let gs:=ops.toList.filterMap (Ls ops)
 let ms:=sh ops.toList []
 let k:=uh ms ops.size
 match B6 (zh st.env (ops.toList.take k)) st with
 | some gk=>
  match vf P ops gs gk.boxes (ops.toList.take k) gk.env ans with
  | some (es,uG,fL,gC)=>
   if P.follows .mixedOrders&&ss ms ops.toList&&Lw ops ms es&&Lx ms es gk.env gk.boxes then
    match B7 (FZ 0 uG) ⟨uG,gk.boxes⟩,z7 gk.boxes (avw gk.env gk.boxes es) 0 (ops.toList.take k) gk.env es with
    | some st2,some yS=>(zg P ops (ops.toList.drop k) st2 fL).map fun r=>(r.1,r.2.1,gC++(yS++r.2.2))
    | _,_=>none
   else none
  | none=>none
 | none=>none
theorem avx(h:LD P ops st ans=some (bC,cq,obs))(ba:cL obs)(aA:Rel w0 st a w){id:Nat}
  {Q:Exit->Act->World->Prop} (j3:∀cK aO,Rel w0 bC cK aO->Q .normal cK aO):(Code.region id ops true).wp P Q a w:=by
 unfold LD at h;simp only at h;split at h
 case h_2=>cases h
 rename_i gk RM;replace aA:=TH aA RM;clear RM;revert aA h;generalize gk=st;intro h aA;split at h
 ·rename_i es uG fL gC fm;split at h
  ·rename_i aj;split at h
   rotate_left
   ·cases h
   rename_i st2 yS Jl ac3;rw[cc]at h;obtain⟨⟨bF,bQ,cb⟩,ac5,h⟩:=h;simp only[bH]at h;obtain⟨rfl,rfl,rfl⟩:=h;obtain⟨Jm,Jn⟩:=ba.append;obtain⟨acL,Jn⟩:=Jn.append;simp only[cx]at aj;obtain⟨⟨⟨hm,Ru⟩,acO⟩,kP⟩:=aj;have aCW:=SP (sh ops.toList []) ops.size;obtain⟨hlen,wH,Rc⟩:=Cb fm Jm;have wJ:es.length=uh (sh ops.toList []) ops.size:=by
    rw[hlen,ma,v8];omega
   have RN:∀(i:Nat),i<es.length->(ops.toList.take (uh (sh ops.toList []) ops.size))[i]?=ops[i]?:=by
    intro i hi;rw[gI,bm (by omega),iO]
   have aG:∀(i:Nat) (e:dH),es[i]?=some e->e.dst≠none:=by
    intro i e hi;have bz:i<(ops.toList.take (uh (sh ops.toList []) ops.size)).length:=hlen▸(ek.1 hi).1;obtain⟨e',h1,U⟩:=Rc i _ (fJ bz);rw[hi]at h1;cases h1;exact U.dst
   have IQ:qz P ops st.boxes st.env es (sh ops.toList []):=by
    refine⟨by omega,fun i o nG hi=>?_,Ru,fun i o v nG hi bp=>?_,acO,kP⟩
    rotate_left
    ·have Ev:=Tg ac3 acL i o (by rw[RN i nG];exact hi) nG v (by
      rw[<-FY (bs:=st.boxes) aG i (by omega)]at bp;exact bp)
     rw[dF]at Ev;refine⟨fun q aK=>aL.BC fun l ap=>Ev l ?_,fun j x a1 cC=>aL.BC fun l ap=>Ev l ?_,fun x ah l ap=>Ev l ?_⟩
     ·exact ij _ (nm.2 ⟨q,aK,ap⟩)
     ·refine jU _ (jU _ (nm.2 ⟨(x,j),List.mem_filter.2 ⟨?_,by simpa using cC⟩,ap⟩));rw[List.mem_zipIdx_iff_getElem?];exact a1
     exact jU _ (ij _ (nm.2 ⟨x,ah,ap⟩))
    obtain⟨e,h1,U⟩:=Rc i o (by rw[RN i nG];exact hi);refine⟨e,h1,?_⟩;rwa[FY (bs:=st.boxes) aG i (by omega)]at U
   have pV:LC ops (sh ops.toList []) es.length:=fun i h1 U j a1=>SQ _ _ i (by omega) U j a1
   refine wp_region_any hm (IQ.any pV (w0:=w0) ?_ ops.size ?_ (by simp) ?_ ?_ ?_)
   ·intro h' bY nE ao iu c4 tj cK aO ep;refine avv Ru pV h' es.length (fI _) (by omega) nE ao iu c4 tj (st:=st2) (by rw[wJ];exact ac5) Jn (TI ?_ Jl) j3;have:=FY (env0:=st.env) (bs:=st.boxes) aG es.length (fI _);rw[k5,<-wH]at this;rw[this];exact ep
   ·intro j o a1;have:=FV a1;simp at this;simp[this]at a1
   ·intro j _;by_cases a1:j<ops.size
    ·simp[a1]
    simp[a1]
   ·simp[Array.count_replicate]
   have:fr st.env st.boxes (fA (Array.replicate ops.size false)) es=st:=by
    have jt:∀(es:List dH) (t k:Nat) (acc:aL),h0 (fA (Array.replicate ops.size false)) t k es acc=acc:=by
     intro es;induction es with
     | nil=>intro t k acc;rfl
     | cons e1 es ee=>
      intro t k acc;simp only[h0];rw[bk,ee];unfold fA;intro aj;have:=FV aj;simp at this;simp[this]at aj
    obtain⟨env,bs⟩:=st;unfold fr
    congr 1
    simp only[jt];apply List.ext_getElem?;intro t;simp
   rw[this];exact aA.drew
  cases h
 cases h
end Go.Sx
namespace Go.Sx
open Go.RowKit
def et(P:Program)(ops:Array Oper)(st bC:aJ):Prop:=
 ∀(w0:eT) (a:Act) (w:World) (id:Nat) (Q:Exit->Act->World->Prop),Rel w0 st a w->(∀cK aO,Rel w0 bC cK aO->Q .normal cK aO)->(Code.region id ops true).wp P Q a w
def F0(o:Oper)(m:Nat):Bool:=o.after.toList.all fun e=>!Region.binds .any e||m.testBit e.on
def ra(m:Nat):Nat->List Oper->List (Nat×Oper)
 | _,[]=>[]
 | i,o::r=>if !m.testBit i&&F0 o m then (i,o)::ra m (i+1) r else ra m (i+1) r
def runM(P:Program)(ops:Array Oper)(A:List (List cf))(m:Nat):Nat->List Oper->aJ->aJ
 | _,[],st=>st
 | i,o::r,st=>if m.testBit i then (match rc P ops o st (A.getD i []) with | some x=>runM P ops A m (i+1) r x.1 | none=>st) else runM P ops A m (i+1) r st
def Aw(x:Nat)(l:List Nat):List Nat:=if l.any (Nat.beq x) then l else x::l
def BD:Nat->List (Nat×Oper)->List Nat->List Nat
 | _,[],l=>l
 | m,x::r,l=>Aw (m ||| 2 ^ x.1) (BD m r l)
def BF(ops:List Oper):List Nat->List Nat
 | []=>[]
 | m::r=>BD m (ra m 0 ops) (BF ops r)
abbrev yc:=Option (aJ×List cf×List Prop)
def D3(P:Program)(ops:Array Oper)(A:List (List cf))(st:aJ):List (Nat×Oper)->List yc
 | []=>[]
 | x::r=>rc P ops x.2 st (A.getD x.1 [])::D3 P ops A st r
def D5(P:Program)(ops:Array Oper)(A:List (List cf))(O:List (List Prop))(gk:aJ)(m:Nat):List (Nat×Oper)->List yc
 | []=>[]
 | x::r=>some (runM P ops A (m ||| 2 ^ x.1) 0 ops.toList gk,[],O.getD x.1 [])::D5 P ops A O gk m r
def D4(P:Program)(ops:Array Oper)(A:List (List cf))(gk:aJ):List Nat->List (List yc)
 | []=>[]
 | m::r=>D3 P ops A (runM P ops A m 0 ops.toList gk) (ra m 0 ops.toList)::D4 P ops A gk r
def D6(P:Program)(ops:Array Oper)(A:List (List cf))(O:List (List Prop))(gk:aJ):List Nat->List (List yc)
 | []=>[]
 | m::r=>D5 P ops A O gk m (ra m 0 ops.toList)::D6 P ops A O gk r
def Az(P:Program)(ops:Array Oper)(A:List (List cf))(gk:aJ):Nat->List Nat->List (List (List yc))
 | 0,_=>[]
 | n+1,l=>D4 P ops A gk l::Az P ops A gk n (BF ops.toList l)
def AA(P:Program)(ops:Array Oper)(A:List (List cf))(O:List (List Prop))(gk:aJ):Nat->List Nat->List (List (List yc))
 | 0,_=>[]
 | n+1,l=>D6 P ops A O gk l::AA P ops A O gk n (BF ops.toList l)
variable{P:Program}{ops:Array Oper}{A:List (List cf)}{O:List (List Prop)}{gk st:aJ}{m:Nat}
theorem SR:∀{l:List (Nat×Oper)},D3 P ops A st l=D5 P ops A O gk m l->
  ∀x∈l,rc P ops x.2 st (A.getD x.1 [])=some (runM P ops A (m ||| 2 ^ x.1) 0 ops.toList gk,[],O.getD x.1 [])
 | [],_,x,ah=>by cases ah
 | y::r,h,x,ah=>by
  simp only[D3,D5,sU]at h;rcases eP.1 ah with rfl | ah
  ·exact h.1
  exact SR h.2 x ah
theorem SS:∀{l:List Nat},D4 P ops A gk l=D6 P ops A O gk l->
  ∀m∈l,∀x∈ra m 0 ops.toList,rc P ops x.2 (runM P ops A m 0 ops.toList gk) (A.getD x.1 [])=some (runM P ops A (m ||| 2 ^ x.1) 0 ops.toList gk,[],O.getD x.1 [])
 | [],_,m,hm=>by cases hm
 | m0::r,h,m,hm=>by
  simp only[D4,D6,sU]at h;rcases eP.1 hm with rfl | hm
  ·exact SR h.1
  exact SS h.2 m hm
theorem avy{x:Nat}{l:List Nat}:x∈Aw x l:=by
 unfold Aw;split
 ·rename_i h;obtain⟨y,bf,he⟩:=qy.1 h;rwa[Nat.eq_of_beq_eq_true he]
 exact hX
theorem SU{x y:Nat}{l:List Nat}(h:y∈l):y∈Aw x l:=by
 unfold Aw;split
 ·exact h
 exact iA _ h
theorem SV{x:Nat×Oper}:∀{r:List (Nat×Oper)} {l:List Nat},x∈r->(m ||| 2 ^ x.1)∈BD m r l
 | [],_,h=>by cases h
 | y::r,l,h=>by
  simp only[BD];rcases eP.1 h with rfl | h
  ·exact avy
  exact SU (SV h)
theorem SX{k:Nat}:∀{r:List (Nat×Oper)} {l:List Nat},k∈l->k∈BD m r l
 | [],_,h=>h
 | _::_,_,h=>SU (SX h)
theorem Um{ops:List Oper}{x:Nat×Oper}:∀{l:List Nat},m∈l->x∈ra m 0 ops->(m ||| 2 ^ x.1)∈BF ops l
 | [],h,_=>by cases h
 | k::r,h,ah=>by
  simp only[BF];rcases eP.1 h with rfl | h
  ·exact SV ah
  exact SX (Um h ah)
theorem Un{m:Nat}:∀{l:List Oper} {i j:Nat} {o:Oper},l[j]?=some o->m.testBit (i+j)=false->F0 o m=true->(i+j,o)∈ra m i l
 | [],_,_,_,h,_,_=>by simp at h
 | y::r,i,0,o,h,h1,U=>by
  simp only[kh,aV]at h;subst h;simp only[ra];rw[bm (by rw[np]at h1;simp[h1,U])];exact hX
 | y::r,i,j+1,o,h,h1,U=>by
  have:=Un (m:=m) (l:=r) (i:=i+1) (j:=j) (o:=o) (by simpa using h) (by rwa[show i+1+j=i+(j+1) by omega]) U;rw[show i+1+j=i+(j+1) by omega]at this;simp only[ra];split
  ·exact iA _ this
  exact this
theorem LF{m k:Nat}:∀{l:List Oper} {i:Nat} {st:aJ},(∀j,i<=j->j<i+l.length->m.testBit j=k.testBit j)->runM P ops A m i l st=runM P ops A k i l st
 | [],_,_,_=>rfl
 | o::r,i,st,h=>by
  simp only[runM];rw[h i (fI _) (by simp)];split
  ·split
   ·exact LF fun j h1 U=>h j (by omega) (by simp only[eh];omega)
   rfl
  exact LF fun j h1 U=>h j (by omega) (by simp only[eh];omega)
theorem Uo:∀{O:List (List Prop)} (i:Nat),cL O.flatten->cL (O.getD i [])
 | [],i,_=>by simp[cL]
 | o::r,0,h=>by
  rw[List.flatten_cons]at h;exact (cL.append h).1
 | o::r,i+1,h=>by
  rw[List.flatten_cons]at h;exact Uo i (cL.append h).2
theorem awY{ms:List Nat}{w0:eT}{Q:Exit->Act->World->Prop}(hm:ss ms ops.toList=true)(ba:cL O.flatten)
  (j3:∀cK aO,Rel w0 (runM P ops A (2 ^ ops.size-1) 0 ops.toList gk) cK aO->Q .normal cK aO):∀(h':Nat) {l:List Nat},Az P ops A gk h' l=AA P ops A O gk h' l->
  ∀{m:Nat} {bY:Array Bool},m∈l->bY.size=ops.size->(∀j,j<ops.size->bY.getD j false=m.testBit j)->bY.count false<=h'->
  ∀{a:Act} {w:World},Rel w0 (runM P ops A m 0 ops.toList gk) a w->wpAny P .any ops Q h' bY a w:=by
 have fin:∀{m:Nat} {bY:Array Bool},(∀j,j<ops.size->bY.getD j false=m.testBit j)->(∀j,j<ops.size->bY.getD j false=true)->
   ∀{a:Act} {w:World},Rel w0 (runM P ops A m 0 ops.toList gk) a w->Q .normal a w:=by
  intro m bY h1 U a w aA;refine j3 a w ?_;rw[LF (m:=2 ^ ops.size-1) (k:=m)]
  ·exact aA
  intro j _ a1;have A4:j<ops.size:=by simpa using a1
  rw[<-h1 j A4,U j A4,Nat.testBit_two_pow_sub_one,jj A4]
 intro h';induction h' with
 | zero=>
  intro l _ m bY _ ao h1 tj a w aA;have iF:∀j,j<ops.size->bY.getD j false=true:=by
   intro j a1;cases ap:bY.getD j false with
   | true=>rfl
   | false=>
    exfalso;have hJ:j<bY.size:=ao▸a1;have b2:bY[j]=false:=by simpa[ht hJ]using ap
    have:0<bY.count false:=by
     rw[Array.count_pos_iff];exact b2▸Array.getElem_mem hJ
    omega
  refine⟨?_,fin h1 iF aA⟩;rw[List.eq_nil_iff_forall_not_mem];intro j a1;obtain⟨U,o,lA,_⟩:=mem_ready.1 a1;have bz:j<ops.size:=(iB.1 lA).1;have ax:=iF j bz;have hJ:j<bY.size:=ao▸bz;simp[ht hJ]at U ax;rw[U]at ax;cases ax
 | succ h' ee=>
  intro l he m bY r9 ao h1 tj a w aA;simp only[Az,AA,sU]at he;refine⟨fun wO=>fin h1 (Lv hm ao wO) aA,fun i hi=>?_⟩;obtain⟨aZ,o,lA,r4⟩:=mem_ready.1 hi;have bz:i<ops.size:=(iB.1 lA).1;have hJ:i<bY.size:=ao▸bz;have Rf:bY.getD i false=false:=by
   simp[ht hJ]at aZ ⊢;exact aZ
  have acD:F0 o m=true:=by
   unfold F0;rw[gx];intro e uR;cases av:Region.binds .any e with
   | false=>rfl
   | true=>
    have bB:=r4 e (by simpa using uR) av;have bS:e.on<bY.size:=FV bB;rw[h1 e.on (ao▸bS)]at bB;simp[bB]
  have RA:(i,o)∈ra m 0 ops.toList:=by
   have:=Un (m:=m) (l:=ops.toList) (i:=0) (j:=i) (o:=o) (by simpa using lA) (by rw[dF,<-h1 i bz,Rf]) acD;rwa[dF]at this
  have oq:=SS he.1 m r9 _ RA;refine SO lA oq (Uo i ba) aA fun cK aO ep=>ee he.2 (Um r9 RA) (by simpa using ao) (fun j a1=>?_) ?_ ep
  ·rw[Nat.testBit_or,Nat.testBit_two_pow];by_cases o6:j=i
   ·subst o6;have bi:j<(bY.setIfInBounds j true).size:=by simpa using hJ
    simp[ht bi]
   rw[getD_set_ne false (Ne.symm o6),h1 j a1,lQ (Ne.symm o6),Bool.or_false]
  have b2:bY[i]=false:=by simpa[ht hJ]using Rf
  have:(bY.setIfInBounds i true).count false=bY.count false-1:=by
   have e:bY.setIfInBounds i true=bY.set i true hJ:=by unfold Array.setIfInBounds;rw[dif_pos hJ]
   rw[e,Array.count_set];simp[b2]
  omega
theorem et.of{bC:aJ}(A:List (List cf))(O:List (List Prop))(aj:(P.follows .mixedOrders&&ss (sh ops.toList []) ops.toList)=true)
  (he:Az P ops A st ops.size [0]=AA P ops A O st ops.size [0]) (b2:runM P ops A (2 ^ ops.size-1) 0 ops.toList st=bC) (ba:cL O.flatten):et P ops st bC:=by
 intro w0 a w id Q aA j3;simp only[cx]at aj;have bi:∀{l:List Oper} {i:Nat},runM P ops A 0 i l st=st:=by
  intro l;induction l with
  | nil=>intro i;rfl
  | cons o r ee=>intro i;simp only[runM,Nat.zero_testBit,nY,lP];exact ee
 refine wp_region_any aj.1 (awY aj.2 ba (fun cK aO h=>j3 cK aO (b2▸h)) ops.size he (m:=0) hX (by simp) (fun j a1=>by simp[a1]) (by simp[Array.count_replicate]) ?_);rw[bi];exact aA.drew
def LG(P:Program)(ops:Array Oper)(st:aJ)(ans:List cf):Stepped:=
 match ans with
 | .iy bC::r=>some (bC,r,[et P ops st bC])
 | _=>LD P ops st ans
theorem awZ{bC:aJ}{ans cq:List cf}{obs:List Prop}(h:LG P ops st ans=some (bC,cq,obs))(ba:cL obs){w0:eT}{a:Act}{w:World}(aA:Rel w0 st a w){id:Nat}
  {Q:Exit->Act->World->Prop} (j3:∀cK aO,Rel w0 bC cK aO->Q .normal cK aO):(Code.region id ops true).wp P Q a w:=by
 unfold LG at h;split at h
 ·simp only[aV,bH]at h;obtain⟨rfl,_,rfl⟩:=h;exact ba.1 w0 a w id Q aA j3
 exact avx h ba aA j3
