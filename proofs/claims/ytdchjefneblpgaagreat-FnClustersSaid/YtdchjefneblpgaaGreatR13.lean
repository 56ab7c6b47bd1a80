import Derived.Test.YtdchjefneblpgaaGreatR26
import Derived.Test.YtdchjefneblpgaaGreatR31
import Derived.Orders
set_option linter.unusedVariables false
set_option linter.unusedSimpArgs false
namespace Go.Sx
open Go.RowKit
def Kn(P:Program)(st:aF)(d:Option Nat)(f:FuncId)(args:List Operand)(ans:List ci):Stepped:=
 match P.funcs[f]?,args.mapM (fun x=>(st.br x).j1 st.boxes),ans with
 | some fn,some gz,.res rs::r=>
  if (fn.name == "runtime.NumGoroutine") = false /\ fn.body.isNone = false /\ uF rs = true /\ 10000 * (d.getD 0 + 1) + 10000 <= dj then
   let t:=10000*(d.getD 0+1)
   match d with
   | some d=>some (⟨(st.vM t).env.set d (tm t rs),(st.vM t).boxes⟩,r,[iX P f gz rs])
   | none=>some (st.vM t,r,[iX P f gz rs])
  else none
 | _,_,_=>none
def RJ(P:Program)(st:aF)(d:Option Nat)(f:Operand)(args:List Operand)(ans:List ci):Stepped:=
 match (st.br f).leaf.bind (aH.j1 st.boxes),args.mapM (fun x=>(st.br x).j1 st.boxes),ans with
 | some (.cl g bB),some gz,.res rs::r=>
  if uF rs=true/\10000*(d.getD 0+1)+10000<=dj then
   let t:=10000*(d.getD 0+1)
   match d with
   | some d=>some (⟨(st.vM t).env.set d (tm t rs),(st.vM t).boxes⟩,r,[jJ P g=true,iX P g (gz++bB.map .one) rs])
   | none=>some (st.vM t,r,[jJ P g=true,iX P g (gz++bB.map .one) rs])
  else none
 | _,_,_=>none
def QF:List ci->Bool
 | .xH _ _ _ _::_=>true
 | _=>false
def QH:List ci->Bool
 | .dm _ _::_=>true
 | _=>false
def QG:List ci->Bool
 | .own::_=>true
 | _=>false
def pC(P:Program)(st:aF)(o:Oper)(ans:List ci):Stepped:=
 match o.dst,o.op with
 | some d,.box _ x=>KE st d (st.br x) ans
 | some d,.alloc ty=>KF P st d ty ans
 | some d,.makeSlice t l c=>Ei P st d t (st.br l) (st.br c) ans
 | some d,.buildSlice t n parts=>Bh P st d t n parts.toList ans
 | none,.store ty x y=>
  match (st.br x).leaf with
  | some (.ptr id off)=>KG P st ty id off (st.br y) ans
  | some (.ep (.own t) k es i j)=>KO P st ty t k es i j (st.br y) ans
  | some (.aO t i j k es (.at_ a b))=>K0 P st ty t i j k es a b (st.br y) ans
  | _=>none
 | d,.call ⟨.value (.func f),args,_⟩=>if QH ans then Kk P st d f args.toList ans else if QF ans then KV P st d f args.toList ans else Kn P st d f args.toList ans
 | d,.call ⟨.value (.tmp x),args,_⟩=>if QH ans then Kl P st d (.tmp x) args.toList ans else RJ P st d (.tmp x) args.toList ans
 | some d,.call ⟨.builtin .append,⟨[x,y]⟩,⟨[t,dt]⟩⟩=>
  if t=dt then
   match (st.br x).leaf with
   | some (.aO s i j k es .here)=>K1 P st d t s i j k es y ans
   | _=>zA P st d t x y ans
  else none
 | some d,.slice t x cZ hi jc=>if QG ans then zB P st d t (st.br x) cZ hi jc ans.tail else (py P st (.slice t x cZ hi jc) ans).map fun r=>(⟨st.env.set d r.1,st.boxes⟩,r.2.1,r.2.2)
 | some d,op=>(py P st op ans).map fun r=>(⟨st.env.set d r.1,st.boxes⟩,r.2.1,r.2.2)
 | none,op=>(py P st op ans).map fun r=>(st,r.2.1,r.2.2)
variable{P:Program}{o:Oper}{a:Act}{w:World}{Q:Exit->Act->World->Prop}
theorem Calls.of{next:Act->World->Prop}{z:Value}{aS:World}(h:(execOp a.eval o).run P w=.ok (.value z) aS)(aR:next (a.put o.dst z) aS):
  o.wp P a w next Q:=by
 unfold Oper.wp;rw[h];exact aR
variable{w0:eK}{st bE:aF}{ans cu:List ci}{obs:List Prop}
theorem Ko(h:pC P st o ans=some (bE,cu,obs))(aU:cO obs)(aZ:Rel w0 st a w)
  {next:Act->World->Prop} {Q:Exit->Act->World->Prop} (j8:∀cJ aS,Rel w0 bE cJ aS->next cJ aS):o.wp P a w next Q:=by
 obtain⟨ω,τ,aZ⟩:=aZ;obtain⟨dst,op,type,pos,after,guard⟩:=o;simp only[pC]at h;split at h
 ·rename_i d ty x;obtain⟨z,aS,h1,U⟩:=cI.box (P:=P) aZ (aZ.br x) h ty;exact Calls.of (jh h1) (j8 _ _ U)
 ·rename_i d ty;obtain⟨z,aS,h1,U⟩:=cI.alloc aZ h;exact Calls.of (jh h1) (j8 _ _ U)
 ·rename_i d t l c;obtain⟨z,aS,h1,U⟩:=aZ.make (aZ.br l) (aZ.br c) h aU;exact Calls.of (jh h1) (j8 _ _ U)
 ·rename_i d t n parts;obtain⟨z,aS,h1,U⟩:=aZ.buildSlice h;exact Calls.of (jh h1) (j8 _ _ U)
 ·rename_i ty x y;have fin:∀aS,(Instr.storeAt ty (a.eval x) (a.eval y)).run P w=.ok () aS->Rel w0 bE a aS->Oper.wp P ⟨none,.store ty x y,type,pos,after,guard⟩ a w next Q:=by
   intro aS h1 U;unfold Oper.wp execOp;simp only[Sem.run_bind,h1,Result.andThen_ok,Sem.run_pure,Oper.upon];exact j8 _ _ U
  split at h
  ·rename_i id off e;obtain⟨b,aj,aa⟩:=aJ.dN e (aZ.br x);obtain⟨aS,h1,U⟩:=aZ.axW (P:=P) aj (aZ.br y) h;exact fin aS (by rw[aa];exact h1) U
  ·rename_i t k es i j e;obtain⟨aS,h1,U⟩:=aZ.axY (P:=P) (aJ.dN e (aZ.br x)) (aZ.br y) h aU;exact fin aS h1 U
  ·rename_i t i j k es ayf O1 e;obtain⟨aS,h1,U⟩:=aZ.ax0 (P:=P) (aJ.dN e (aZ.br x)) (aZ.br y) h aU;exact fin aS h1 U
  cases h
 ·rename_i f args ts;split at h
  ·exact asb aZ h aU j8
  split at h
  ·exact asD aZ h aU j8
  rename_i Ig abe;clear Ig;unfold Kn at h;clear abe;split at h
  ·rename_i fn gz rs r k4 HW;split at h
   ·rename_i ak;obtain⟨k1,kI,k2,sD⟩:=ak;obtain⟨ag,av⟩:=nN HW;have mw:EZ w gz (args.map a.eval):=by
     refine⟨by simp[ag],fun i cB hi=>?_⟩;obtain⟨x,aa,ka⟩:=av i cB hi;refine⟨a.eval x,?_,aJ.x2 aZ.boxes ka (aZ.br x)⟩;rw[zU];rw[nY]at aa;rw[aa];rfl
    have fU:(execOp a.eval ⟨dst,.call ⟨.value (.func f),args,ts⟩,type,pos,after,guard⟩).run P w=.ok (.enter f (args.map a.eval)) w:=by
     have aaC : fn.name ≠ "runtime.NumGoroutine" := by simpa using k1
     have sC:fn.body≠none:=by intro e;rw[e]at kI;cases kI
     simp[execOp,resolve,Act.eval,Deferred.ofValue,invoke,callFunc,k4,aaC,sC]
    have key:∀(mK:List Prop),obs=mK->cO mK->mK=[iX P f gz rs]->∀(K:Act->World->Prop),(∀v aS,gO w.heap.size w aS->x0 w aS rs v->K (a.put dst v) aS)->
      Oper.wp P ⟨dst,.call ⟨.value (.func f),args,ts⟩,type,pos,after,guard⟩ a w K Q:=by
     intro mK _ kL e K h8;subst e;unfold Oper.wp;rw[fU];simp only[Oper.upon];refine (kL.1 w _ aZ.below.laid mw).mono ?_;rintro e aS ⟨v,rfl,aj,aA⟩;exact h8 v aS aj aA
    simp only at h;cases dst with
    | none=>
     simp only[aX,bJ]at h;obtain⟨rfl,_,rfl⟩:=h;refine key _ rfl aU rfl next fun v aS aj aA=>j8 _ _ ?_
     obtain⟨a',cW,h1,_⟩:=aZ.called (10000*(Option.getD none 0+1)) k2 sD aj aA;exact⟨a',cW,h1⟩
    | some d=>
     simp only[aX,bJ]at h;obtain⟨rfl,_,rfl⟩:=h;refine key _ rfl aU rfl next fun v aS aj aA=>j8 _ _ ?_
     obtain⟨a',cW,h1,U⟩:=aZ.called (10000*(Option.getD (some d) 0+1)) k2 sD aj aA;exact⟨a',cW,h1.put U⟩
   cases h
  cases h
 ·rename_i x args ts;split at h
  ·exact asc aZ h aU j8
  rename_i Ig;clear Ig;unfold RJ at h;split at h
  ·rename_i g bB gz rs r bw HW;split at h
   ·rename_i ak;obtain⟨k2,sD⟩:=ak;obtain⟨ag,av⟩:=nN HW;have dq:gz.length=args.size:=by rw[ag,vy]
    rw[mo]at bw;obtain⟨kN,DJ,abq⟩:=bw;have P3:lD w (.cl g bB) (a.eval (.tmp x)):=aH.x2 aZ.boxes abq (aJ.dN DJ (aZ.br (.tmp x)));have aaX:∃cs:Array Value,a.eval (.tmp x)=.func (.func g) #[] cs/\cs.size=bB.length/\∀(j:Nat) (d:D),bB[j]?=some d->∃u,cs[j]?=some u/\lD w d u:=by
     generalize a.eval (.tmp x)=y at P3;cases P3 with
     | cl R g bB cs us ai hu aE=>exact⟨cs,rfl,ai,fun j d bd=>⟨us j,hu j d bd,(aE j d bd).free⟩⟩
    obtain⟨cs,mx,aaG,aaJ⟩:=aaX;have mw:EZ w (gz++bB.map .one) (args.map a.eval++cs):=by
     refine⟨by simp[ag,aaG],fun i cB hi=>?_⟩;rw[lk]at hi;rw[kf];split at hi
     ·rename_i kn;rw[bi (by simp;omega)];obtain⟨y,bu,mF⟩:=av i cB hi;refine⟨a.eval y,?_,aJ.x2 aZ.boxes mF (aZ.br y)⟩;rw[zU];rw[nY]at bu;rw[bu];rfl
     rename_i kn;rw[ba (by simp;omega)];rw[du,b8]at hi;obtain⟨d,aE,rfl⟩:=hi;obtain⟨u,fV,fk⟩:=aaJ _ d aE;refine⟨u,?_,fk⟩;rw[<-fV]
     congr 1
     simp;omega
    have fU:jJ P g=true->(execOp a.eval ⟨dst,.call ⟨.value (.tmp x),args,ts⟩,type,pos,after,guard⟩).run P w=.ok (.enter g (args.map a.eval++cs)) w:=by
     intro vV;unfold jJ at vV;split at vV
     ·rename_i fn k4;simp only[cm,fP,xM,hc]at vV;have sC:fn.body≠none:=by intro e;rw[e]at vV;simp at vV
      simp[execOp,resolve,mx,Deferred.ofValue,invoke,callFunc,k4,vV.1,sC]
     cases vV
    have key:∀(mK:List Prop),obs=mK->cO mK->mK=[jJ P g=true,iX P g (gz++bB.map .one) rs]->∀(K:Act->World->Prop),(∀v aS,gO w.heap.size w aS->x0 w aS rs v->K (a.put dst v) aS)->
      Oper.wp P ⟨dst,.call ⟨.value (.tmp x),args,ts⟩,type,pos,after,guard⟩ a w K Q:=by
     intro mK _ kL e K h8;subst e;unfold Oper.wp;rw[fU kL.1];simp only[Oper.upon];refine (kL.2.1 w _ aZ.below.laid mw).mono ?_;rintro e aS ⟨v,rfl,aj,aA⟩;exact h8 v aS aj aA
    simp only at h;cases dst with
    | none=>
     simp only[aX,bJ]at h;obtain⟨rfl,_,rfl⟩:=h;refine key _ rfl aU rfl next fun v aS aj aA=>j8 _ _ ?_
     obtain⟨a',cW,h1,_⟩:=aZ.called (10000*(Option.getD none 0+1)) k2 sD aj aA;exact⟨a',cW,h1⟩
    | some d=>
     simp only[aX,bJ]at h;obtain⟨rfl,_,rfl⟩:=h;refine key _ rfl aU rfl next fun v aS aj aA=>j8 _ _ ?_
     obtain⟨a',cW,h1,U⟩:=aZ.called (10000*(Option.getD (some d) 0+1)) k2 sD aj aA;exact⟨a',cW,h1.put U⟩
   cases h
  cases h
 ·rename_i d x y t dt;split at h
  ·rename_i AJ;subst AJ;have yg:∃z aS,(Builtin.append_ #[t,t] type #[a.eval x,a.eval y]).run P w=.ok z aS/\Rel w0 bE (a.put (some d) z) aS:=by
    split at h
    ·rename_i s i j k es e;exact aZ.ZQ (P:=P) (ty:=type) (aJ.dN e (aZ.br x)) h aU
    exact aZ.zA (ty:=type) h aU
   obtain⟨z,aS,h1,U⟩:=yg;refine Calls.of (z:=z) (aS:=aS) ?_ (j8 _ _ U);have:(execOp a.eval ⟨some d,.call ⟨.builtin .append,⟨[x,y]⟩,⟨[t,t]⟩⟩,type,pos,after,guard⟩)=(builtin .append ⟨[t,t]⟩ type (Array.map (fun | .const _=>true | _=>false) ⟨[x,y]⟩) (Array.map a.eval ⟨[x,y]⟩)):=by
    simp only[execOp,resolve];rfl
   rw[this];exact jh (by simpa using h1)
  cases h
 ·rename_i d t x cZ hi jc;split at h
  ·obtain⟨z,h1,U⟩:=aZ.zB (P:=P) (aZ.br x) h aU;exact Calls.of (jh h1) (j8 _ _ U)
  rw[b8]at h;obtain⟨⟨bI,b2,cj⟩,h1,h⟩:=h;simp only[bJ]at h;obtain⟨rfl,rfl,rfl⟩:=h;obtain⟨z,U,ax⟩:=KD (o:=⟨_,_,type,pos,after,guard⟩) aZ h1 aU;exact Calls.of U (j8 _ _ ⟨ω,τ,aZ.put ax⟩)
 ·rw[b8]at h;obtain⟨⟨bI,b2,cj⟩,h1,h⟩:=h;simp only[bJ]at h;obtain⟨rfl,rfl,rfl⟩:=h;obtain⟨z,U,ax⟩:=KD (o:=⟨_,_,type,pos,after,guard⟩) aZ h1 aU;exact Calls.of U (j8 _ _ ⟨ω,τ,aZ.put ax⟩)
 rw[b8]at h;obtain⟨⟨bI,b2,cj⟩,h1,h⟩:=h;simp only[bJ]at h;obtain⟨rfl,rfl,rfl⟩:=h;obtain⟨z,U,ax⟩:=KD (o:=⟨_,_,type,pos,after,guard⟩) aZ h1 aU;exact Calls.of U (j8 _ _ ⟨ω,τ,aZ⟩)
def oP(P:Program)(st:aF)(o:Oper)(ans:List ci):Stepped:=
 match o.dst,o.op with
 | some d,.alloc ty=>E3 P st d ty ans
 | none,.store ty (.tmp s) y=>E5 P st ty s (st.br y) ans
 | _,_=>pC P st o ans
theorem atn(h:oP P st o ans=some (bE,cu,obs))(aU:cO obs)(aZ:Rel w0 st a w)
  {next:Act->World->Prop} {Q:Exit->Act->World->Prop} (j8:∀cJ aS,Rel w0 bE cJ aS->next cJ aS):o.wp P a w next Q:=by
 obtain⟨dst,op,type,pos,after,guard⟩:=o;unfold oP at h;split at h
 ·rename_i d ty e1 e2;simp only at e1 e2;subst e1;subst e2;obtain⟨ω,τ,aZ⟩:=aZ;obtain⟨z,aS,h1,U⟩:=cI.ZP aZ h;exact Calls.of (jh h1) (j8 _ _ U)
 ·rename_i ty s y e1 e2;simp only at e1 e2;subst e1;subst e2;obtain⟨ω,τ,aZ⟩:=aZ;obtain⟨aS,h1,U⟩:=aZ.axZ (P:=P) (aZ.br y) h;unfold Oper.wp execOp;simp only[Sem.run_bind,h1,Result.andThen_ok,Sem.run_pure,Oper.upon];exact j8 _ _ U
 exact Ko h aU aZ j8
def Bs(st:aF)(dst:Option Nat):aF:=
 match dst with
 | some d=>⟨st.env.set d (.one (.v undef)),st.boxes⟩
 | none=>st
theorem Kp{dst:Option Nat}(h:Rel w0 st a w):Rel w0 (Bs st dst) (a.put dst undef) w:=by
 obtain⟨ω,τ,h⟩:=h;cases dst with
 | none=>exact⟨ω,τ,h⟩
 | some d=>exact⟨ω,τ,h.put (p:=.one (.v undef)) rfl⟩
def rI(ops:Array Oper)(st:aF)(o:Oper)(ans:List ci):Option (Bool×aF×List ci×List Prop):=
 match o.guard with
 | none=>some (true,st,ans,[])
 | some (j,want)=>
  match (ops[j]?).bind (·.dst) with
  | some s=>
   match (st.env.getD s .cq).leaf with
   | some (.v (.bool b))=>some (b==want,st,ans,[])
   | some (.v (.tuple _))=>some (false,st,ans,[])
   | some (.bc c)=>
    match ans with
    | .o1 b::r=>some (b==want,⟨st.env.set s (.one (.v (.bool b))),st.boxes⟩,r,[c=b])
    | _=>none
   | _=>none
  | none=>none
variable{ops:Array Oper}
theorem wS{b:Bool}(h:rI ops st o ans=some (b,bE,cu,obs))(aU:cO obs)(aZ:Rel w0 st a w):
  Region.wanted o (yielded ops a.tmps)=b/\Rel w0 bE a w:=by
 obtain⟨ω,τ,aZ⟩:=aZ;unfold rI at h;split at h
 ·rename_i av;simp only[aX,bJ]at h;obtain⟨rfl,rfl,_,_⟩:=h;exact⟨by simp[Region.wanted,av],ω,τ,aZ⟩
 rename_i j want av;split at h
 ·rename_i s ai;have eS:∀l,(st.env.getD s .cq).leaf=some l->∀x,(∀y,Sat w ω τ l y->y=x)->(l=.cq->False)->a.tmps[s]?=some x:=by
   intro l ag x aa ct;rw[iv]at ag;cases e:st.env[s]? with
   | none=>
    rw[e]at ag;simp only[Option.getD_none,aJ.leaf,aX]at ag;exact absurd ag.symm ct
   | some p=>
    rw[e]at ag;obtain⟨v,h1,U⟩:=aZ.env s p e;rw[h1,aa v (aJ.dN ag U)]
  split at h
  ·rename_i da ag;simp only[aX,bJ]at h;obtain⟨rfl,rfl,_,_⟩:=h;have:=eS _ ag (.bool da) (fun y bu=>bu) (fun h=>by cases h);exact⟨by simp[Region.wanted,av,yielded,ai,this],ω,τ,aZ⟩
  ·rename_i vs ag;simp only[aX,bJ]at h;obtain⟨rfl,rfl,_,_⟩:=h;have:=eS _ ag (.tuple vs) (fun y bu=>bu) (fun h=>by cases h);exact⟨by simp[Region.wanted,av,yielded,ai,this],ω,τ,aZ⟩
  ·rename_i c ag;split at h
   ·rename_i da r;simp only[aX,bJ]at h;obtain⟨rfl,rfl,_,rfl⟩:=h;have gf:c=da:=aU.1;subst gf;have:=eS _ ag (.bool c) (fun y bu=>bu) (fun h=>by cases h);refine⟨by simp[Region.wanted,av,yielded,ai,this],ω,τ,?_⟩;have It:=aZ.put (d:=s) (p:=.one (.v (.bool c))) (v:=.bool c) rfl;have e:a.put (some s) (.bool c)=a:=by
     simp only[Act.put];have:a.tmps.setIfInBounds s (.bool c)=a.tmps:=by
      apply Array.ext
      ·simp
      intro i h1 U;rw[Array.getElem_setIfInBounds];split
      ·rename_i hi;subst hi;rw[h3 U]at this;exact (eE this).symm
      rfl
     rw[this]
    rwa[e]at It
   cases h
  cases h
 cases h
def qt(P:Program)(ops:Array Oper)(o:Oper)(st:aF)(ans:List ci):Stepped:=
 match rI ops st o ans with
 | some (true,st1,fr,fM)=>(pC P st1 o fr).map fun r=>(r.1,r.2.1,fM++r.2.2)
 | some (false,st1,fr,fM)=>some (Bs st1 o.dst,fr,fM)
 | none=>none
theorem RK{rest:List Oper}(h:qt P ops o st ans=some (bE,cu,obs))(aU:cO obs)
  {a:Act} {w:World} (aZ:Rel w0 st a w) (h8:∀cJ aS,Rel w0 bE cJ aS->wpList P ops Q rest cJ aS):wpList P ops Q (o::rest) a w:=by
 unfold qt at h;split at h
 ·rename_i st1 fr fM hw;rw[b8]at h;obtain⟨⟨bI,b2,cj⟩,h1,h⟩:=h;simp only[bJ]at h;obtain⟨rfl,rfl,rfl⟩:=h;obtain⟨cv,ca⟩:=aU.append;obtain⟨oo,e4⟩:=wS hw cv aZ;refine wpList_step fun K vQ=>?_
  rw[bi oo];exact Ko h1 ca e4 fun cJ aS eo=>vQ _ _ (h8 _ _ eo)
 ·rename_i st1 fr fM hw;simp only[aX,bJ]at h;obtain⟨rfl,rfl,rfl⟩:=h;obtain⟨oo,e4⟩:=wS hw aU aZ;refine wpList_step fun K vQ=>?_
  rw[ba (by rw[oo];simp)];exact vQ _ _ (h8 _ _ (Kp e4))
 cases h
def Kq(o ca:Oper):Option (Nat×TypeId×Operand×Option Operand×TypeId):=
 match o.dst,o.op,o.guard,ca.dst,ca.op,ca.guard with
 | some d,.slice t x cZ none none,none,none,.call ⟨.builtin .clear,⟨[.tmp dE]⟩,⟨[gU]⟩⟩,none=>if d=dE then some (d,t,x,cZ,gU) else none
 | _,_,_,_,_,_=>none
theorem ato{ca:Oper}{rest:List Oper}{d:Nat}{t gU:TypeId}{x:Operand}{cZ:Option Operand}(hp:Kq o ca=some (d,t,x,cZ,gU))
  {st bE:aF} {ans cu:List ci} {obs:List Prop} (h:E6 P st d t x cZ gU ans=some (bE,cu,obs)) (aU:cO obs)
  {a:Act} {w:World} (aZ:Rel w0 st a w) (h8:∀cJ aS,Rel w0 bE cJ aS->wpList P ops Q rest cJ aS):wpList P ops Q (o::ca::rest) a w:=by
 obtain⟨dst,op,type,pos,after,guard⟩:=o;obtain⟨ayW,azK,type2,azN,ayK,ay7⟩:=ca;unfold Kq at hp;split at hp
 ·rename_i d0 t0 cR azD dE azZ e1 e2 ck dX gB kl;simp only at e1 e2 ck dX gB kl;subst e1 e2 ck dX gB kl;split at hp
  ·rename_i aE;subst aE;simp only[aX,bJ]at hp;obtain⟨rfl,rfl,rfl,rfl,rfl⟩:=hp;obtain⟨ω,τ,aZ⟩:=aZ;obtain⟨bL,y,z,aS,h1,U,ax⟩:=aZ.clear h aU;refine wpList_plain rfl fun K vQ=>Calls.of (jh (by simpa using h1)) (vQ _ _ ?_)
   refine wpList_plain rfl fun K vQ=>?_
   have rh:(a.put (some d0) y).eval (.tmp d0)=y:=by
    simp only[Act.eval,Act.put,ew,Array.getElem?_setIfInBounds];simp[bL]
   refine Calls.of (z:=z) (aS:=aS) ?_ (vQ _ _ (h8 _ _ ax));simp only[execOp,resolve,invoke,builtin,Sem.run_bind,Sem.run_pure,Result.andThen_ok,List.map_toArray,jW,List.map_nil,rh,U]
  cases hp
 cases hp
def wT(P:Program)(ops:Array Oper):List Oper->aF->List ci->Stepped
 | [],st,ans=>some (st,ans,[])
 | [o],st,ans=>qt P ops o st ans
 | o::ca::rest,st,ans=>
  match Kq o ca with
  | some (d,t,x,cZ,gU)=>
   match E6 P st d t x cZ gU ans with
   | some (st1,fr,fM)=>(wT P ops rest st1 fr).map fun r=>(r.1,r.2.1,fM++r.2.2)
   | none=>none
  | none=>
   match qt P ops o st ans with
   | some (st1,fr,fM)=>(wT P ops (ca::rest) st1 fr).map fun r=>(r.1,r.2.1,fM++r.2.2)
   | none=>none
theorem Kr:∀(l:List Oper) {st bE:aF} {ans cu:List ci} {obs:List Prop},wT P ops l st ans=some (bE,cu,obs)->cO obs->
  ∀{a:Act} {w:World},Rel w0 st a w->(∀cJ aS,Rel w0 bE cJ aS->Q .normal cJ aS)->wpList P ops Q l a w
 | [],st,bE,ans,cu,obs,h,_,a,w,aZ,jn=>by
  simp only[wT,aX,bJ]at h;obtain⟨rfl,_,_⟩:=h;exact jn _ _ aZ
 | [o],st,bE,ans,cu,obs,h,aU,a,w,aZ,jn=>by
  simp only[wT]at h;exact RK h aU aZ fun cJ aS eo=>jn _ _ eo
 | o::ca::rest,st,bE,ans,cu,obs,h,aU,a,w,aZ,jn=>by
  simp only[wT]at h;split at h
  ·rename_i d t x cZ gU hp;split at h
   ·rename_i st1 fr fM h1;rw[b8]at h;obtain⟨⟨bI,b2,cj⟩,U,h⟩:=h;simp only[bJ]at h;obtain⟨rfl,rfl,rfl⟩:=h;obtain⟨cv,cD⟩:=aU.append;exact ato hp h1 cv aZ fun cJ aS eo=>Kr rest U cD eo jn
   cases h
  split at h
  ·rename_i st1 fr fM h1;rw[b8]at h;obtain⟨⟨bI,b2,cj⟩,U,h⟩:=h;simp only[bJ]at h;obtain⟨rfl,rfl,rfl⟩:=h;obtain⟨cv,cD⟩:=aU.append;exact RK h1 cv aZ fun cJ aS eo=>Kr (ca::rest) U cD eo jn
  cases h
end Go.Sx
namespace Go.Sx
open Go.RowKit
abbrev gk:=List (Nat×Nat)
def gk.has(r:gk)(s:Nat):Bool:=r.any fun x=>decide (x.1<=s)&&decide (s<x.2)
def Tag.eU(r:gk):Tag->Bool
 | .free=>false
 | .own s=>r.has s
 | .ro s=>r.has s
def e9.eU(r:gk):e9->Bool
 | .J t _ _=>t.eU r
 | _=>false
def aH.eU(r:gk):aH->Bool
 | .J t _ _=>t.eU r
 | .ep t _ _ _ _=>t.eU r
 | .aO t _ _ _ _ _=>r.has t
 | .ft t vs=>r.has t||vs.any (e9.eU r)
 | _=>false
def bC.eU(r:gk):bC->Bool
 | .one l=>l.eU r
 | .agg ls=>ls.any (aH.eU r)
def aJ.eU(r:gk):aJ->Bool
 | .aI a=>a.eU r
 | .ga as=>as.any (bC.eU r)
def oQ(g:Tag->Option Tag)(r:gk):Prop:=∀t:Tag,t.eU r=false->g t=some t
variable{g:Tag->Option Tag}{r:gk}
theorem aH.xE(av:oQ g r){l:aH}(h:l.eU r=false):l.cz g (fun _=>true)=l:=by
 cases l with
 | J t k es=>simp only[aH.eU]at h;simp only[aH.cz,av t h]
 | ep t k es i j=>simp only[aH.eU]at h;simp only[aH.cz,av t h]
 | ptr id off=>simp[aH.cz]
 | gP f ids=>simp[aH.cz]
 | aO t i j k es m=>simp only[aH.eU]at h;simp only[aH.cz,av (.own t) h,fQ]
 | ft t vs=>
  simp only[aH.eU,fB]at h;simp only[aH.cz,av (.own t) h.1,fQ]
  congr 1
  conv=>rhs;rw[<-sc vs]
  refine kz fun c ak=>?_
  have:=fh.1 h.2 c ak;cases c with
  | cq=>rfl
  | v x=>rfl
  | J dt k es=>simp only[e9.cz,av dt (by simpa[e9.eU]using this),id]
 | _=>rfl
theorem RL(av:oQ g r){ls:List aH}(h:ls.any (aH.eU r)=false):ls.map (aH.cz g fun _=>true)=ls:=by
 conv=>rhs;rw[<-sc ls]
 refine kz fun l ag=>?_
 rw[fh]at h;exact aH.xE av (by simpa using h l ag)
theorem bC.xE(av:oQ g r){a:bC}(h:a.eU r=false):a.map (aH.cz g fun _=>true)=a:=by
 cases a with
 | one l=>simp only[bC.eU]at h;simp only[bC.map,aH.xE av h]
 | agg ls=>simp only[bC.eU]at h;simp only[bC.map,RL av h]
theorem aJ.xE(av:oQ g r){p:aJ}(h:p.eU r=false):p.map (aH.cz g fun _=>true)=p:=by
 cases p with
 | aI a=>simp only[aJ.eU]at h;simp only[aJ.map,bC.xE av h]
 | ga as=>
  simp only[aJ.eU]at h;simp only[aJ.map]
  congr 1
  conv=>rhs;rw[<-sc as]
  refine kz fun a ae=>?_
  rw[fh]at h;exact bC.xE av (by simpa using h a ae)
structure dB where
 dst:Option Nat
 p:aJ
 use:List Nat
 nW:gk
abbrev kB:=Option (dB×(Tag->Option Tag)×List ci×List Prop)
def RM:Operand->Option Nat
 | .tmp t=>some t
 | _=>none
def AZ:Option Nat->gk
 | none=>[]
 | some s=>[(s,s+1)]
def z1(P:Program)(st:aF)(d:Nat)(t:TypeId)(x y:Operand)(ans:List ci):kB:=
 match qH P t with
 | some (e,k)=>
  match P.info? e with
  | some i=>
   match i.zero,(st.br x).leaf,x with
   | some z,some (.J (.own ha) cn es),.tmp s=>
    match vK ha k (st.br y) ans with
    | some (bX,dQ,cu,obs)=>
     if cn=k/\z.cells.size=k/\0<k/\ha<dj then
      some (⟨some d,.one (.J (.own ha) k (es++bX)),[s],(ha,ha+1)::AZ dQ⟩,hT ha dQ,cu,((es.length+bX.length)*i.bytes<=140737488355328)::(es.length+bX.length<=9223372036854775807)::obs)
     else none
    | _=>none
   | some z,some (.v (.slice none 0 0)),_=>
    match vK d k ((st.br y).map (aH.cz (ib d []) fun _=>true)) ans with
    | some (bX,dQ,cu,obs)=>
     if z.cells.size=k/\0<k/\d<dj then
      some (⟨some d,.one (.J (.own d) k ([]++bX)),[],(d,d+1)::AZ dQ⟩,(fun g=>(ib d [] g).bind (hT d dQ)),cu,(((([]:List (List D)).length)+bX.length)*i.bytes<=140737488355328)::(([]:List (List D)).length+bX.length<=9223372036854775807)::obs)
     else none
    | _=>none
   | _,_,_=>none
  | none=>none
 | none=>none
def Hs(P:Program)(st:aF)(d:Nat)(t:TypeId)(x:Operand)(cZ hi jc:Option Operand)(ans:List ci):kB:=
 match qH P t,(st.br x).leaf,jc,x with
 | some (_,k),some (.J (.own s) cn es),none,.tmp jR=>
  if k=cn/\s<dj then
   match mh st cZ,mh st hi with
   | some l,some h=>some (⟨some d,.one (.J (.own s) k ((es.drop (l.getD 0).toNat).take ((h.getD es.length).toNat-(l.getD 0).toNat))),[jR],[(s,s+1)]⟩,ks s s,ans,[0<=l.getD 0,l.getD 0<=h.getD es.length,h.getD es.length<=es.length])
   | _,_=>none
  else none
 | _,_,_,_=>none
variable{s:Nat}
theorem atp:oQ (ks s s) [(s,s+1)]:=by
 intro t h;cases t with
 | free=>rfl
 | own x=>
  have:x≠s:=by rintro rfl;simp[Tag.eU,gk.has]at h
  simp[ks,this]
 | ro x=>
  have:x≠s:=by rintro rfl;simp[Tag.eU,gk.has]at h
  simp[ks,this]
def QQ(P:Program)(d:Nat)(t:TypeId)(p q:aJ)(ans:List ci):kB:=
 match P.underlying t with
 | some (.slice e)=>
  match P.info? e,p.int,q.int with
  | some i,some (_,l),some (_,c)=>
   match i.zero with
   | some z=>
    if i.size=z.cells.size/\0<i.size/\z.cells.all (·.oneCell')=true/\d<dj then
     some (⟨some d,.one (.J (.own d) i.size (List.replicate l.toNat (z.cells.toList.map .v))),[],[(d,d+1)]⟩,ib d [],ans,[0<=l,l<=c,(i.bytes:Int)*c<=281474976710656,c<=9223372036854775807])
    else none
   | none=>none
  | _,_,_=>none
 | _=>none
def sq(P:Program)(st:aF)(o:Oper)(ans:List ci):kB:=
 match o.dst,o.op with
 | some d,.call ⟨.value (.func f),args,_⟩=>
  match P.funcs[f]?,args.toList.mapM (fun x=>(st.br x).j1 st.boxes),ans with
  | some fn,some gz,.res rs::r=>
   if (fn.name == "runtime.NumGoroutine") = false /\ fn.body.isNone = false /\ uF rs = true /\ 10000 * (d + 1) + 10000 <= dj then
    some (⟨some d,tm (10000*(d+1)) rs,[],[(10000*(d+1),10000*(d+1)+10000)]⟩,gF (10000*(d+1)),r,[iX P f gz rs])
   else none
  | _,_,_=>none
 | some d,.buildSlice t n parts=>
  match Dj P st d t n parts.toList with
  | some (k,es,ms)=>some (⟨some d,.one (.J (.own d) k es),[],(d,d+1)::ms.map fun x=>(x.1,x.1+1)⟩,ib d ms,ans,[])
  | _=>none
 | some d,.call ⟨.builtin .append,⟨[x,y]⟩,⟨[t,dt]⟩⟩=>if t=dt then z1 P st d t x y ans else none
 | some _,.box _ _=>none
 | some d,.alloc ty=>
  match P.info? ty with
  | some i=>match i.zero with
   | some z=>if d<dj then some (⟨some d,.one (.ft d (z.cells.toList.map .v)),[],[(d,d+1)]⟩,ib d [],ans,[]) else none
   | none=>none
  | none=>none
 | some d,.makeSlice t l c=>QQ P d t (st.br l) (st.br c) ans
 | some d,.slice t x cZ hi jc=>if QG ans then Hs P st d t x cZ hi jc ans.tail else (py P st (.slice t x cZ hi jc) ans).map fun r=>(⟨some d,r.1,[],[]⟩,some,r.2.1,r.2.2)
 | some d,op=>(py P st op ans).map fun r=>(⟨some d,r.1,[],[]⟩,some,r.2.1,r.2.2)
 | none,.store ty (.tmp s) y=>
  match (st.env.getD s .cq).leaf,Jx (st.br y),P.info? ty with
  | some (.ft t vs),some cs,some i=>
   if cs.length=i.size/\cs.length<=vs.length then
    some (⟨some s,.one (.ft t ((cs++vs.drop cs.length).map (e9.cz (fs t)))),[],[(t,t+1)]⟩,fs t,ans,[])
   else none
  | _,_,_=>none
 | none,_=>none
theorem atq:oQ (fs s) [(s,s+1)]:=by
 intro t h;cases t with
 | free=>rfl
 | own x=>
  have:x≠s:=by rintro rfl;simp[Tag.eU,gk.has]at h
  simp[fs,this]
 | ro x=>
  have:x≠s:=by rintro rfl;simp[Tag.eU,gk.has]at h
  simp[fs,this]
theorem atr:e9.cz some=id:=by funext c;cases c<;>rfl
theorem ats(st:aF)(f:aH->aH)(bw:∀x,f (.v x)=.v x)(hu:f .cq=.cq)(aE:∀d,f (.fd d)=.fd d)(x:Operand):(st.map f).br x=(st.br x).map f:=by
 cases x with
 | tmp t=>
  simp only[aF.br,aF.map];rw[iv,iv,du];cases st.env[t]? with
  | none=>simp[aJ.map,bC.map,hu]
  | some p=>rfl
 | const v=>
  simp only[aF.br,Dq];split
  ·simp[aJ.map,bC.map,bw]
  simp[aJ.map,bC.map,bw]
 | global g=>simp[aF.br,aJ.map,bC.map,hu]
 | func ay1=>simp[aF.br,aJ.map,bC.map,aE]
theorem aH.axR(g1 g2:Tag->Option Tag)(U:∀g t,g2 g=some (.own t)->g=.own t)(l:aH):aH.cz g2 (fun _=>true) (aH.cz g1 (fun _=>true) l)=aH.cz (fun t=>(g1 t).bind g2) (fun _=>true) l:=by
 cases l with
 | J t k es=>simp only[aH.cz];cases g1 t<;>simp[aH.cz]
 | ep t k es i j=>simp only[aH.cz];cases g1 t<;>simp[aH.cz]
 | gP f ids=>simp[aH.cz]
 | aO t i j k es m=>
  simp only[aH.cz];cases e1:g1 (.own t) with
  | none=>simp[aH.cz]
  | some x=>
   simp only[mZ];cases x with
   | own s=>
    simp only;by_cases ai:s=t
    ·subst ai;simp only[fQ,aH.cz]
    rw[ba ai];simp only[aH.cz];cases e2:g2 (.own s) with
    | none=>rfl
    | some y=>
     cases y with
     | own u=>
      simp only;by_cases hu:u=t
      ·subst hu;have:=U _ _ e2;simp only[Tag.own.injEq]at this;exact absurd this ai
      rw[ba hu]
     | _=>rfl
   | free=>
    simp only[aH.cz];cases e2:g2 .free with
    | none=>rfl
    | some y=>
     cases y with
     | own u=>exact absurd (U _ _ e2) (by simp)
     | _=>rfl
   | ro s=>
    simp only[aH.cz];cases e2:g2 (.ro s) with
    | none=>rfl
    | some y=>
     cases y with
     | own u=>exact absurd (U _ _ e2) (by simp)
     | _=>rfl
 | ft t vs=>
  simp only[aH.cz];cases e1:g1 (.own t) with
  | none=>simp[aH.cz]
  | some x=>
   simp only[mZ];cases x with
   | own s=>
    simp only;by_cases ai:s=t
    ·subst ai;simp only[fQ,aH.cz];have mx:(vs.map (e9.cz g1)).map (e9.cz g2)=vs.map (e9.cz fun t=>(g1 t).bind g2):=by
      rw[List.map_map];refine kz fun c _=>?_
      cases c with
      | cq=>rfl
      | v x=>rfl
      | J dt k es=>
       simp only[Function.comp,e9.cz];cases ck:g1 dt with
       | none=>rfl
       | some t2=>simp only[mZ,e9.cz]
     rw[mx]
    rw[ba ai];simp only[aH.cz];cases e2:g2 (.own s) with
    | none=>rfl
    | some y=>
     cases y with
     | own u=>
      simp only;by_cases hu:u=t
      ·subst hu;have:=U _ _ e2;simp only[Tag.own.injEq]at this;exact absurd this ai
      rw[ba hu]
     | _=>rfl
   | free=>
    simp only[aH.cz];cases e2:g2 .free with
    | none=>rfl
    | some y=>
     cases y with
     | own u=>exact absurd (U _ _ e2) (by simp)
     | _=>rfl
   | ro s=>
    simp only[aH.cz];cases e2:g2 (.ro s) with
    | none=>rfl
    | some y=>
     cases y with
     | own u=>exact absurd (U _ _ e2) (by simp)
     | _=>rfl
 | ptr id off=>simp[aH.cz]
 | _=>rfl
theorem bC.map_map(f g:aH->aH)(a:bC):(a.map f).map g=a.map (g ∘ f):=by cases a<;>simp[bC.map]
theorem aJ.map_map(f g:aH->aH)(p:aJ):(p.map f).map g=p.map (g ∘ f):=by
 cases p with
 | aI a=>simp[aJ.map,bC.map_map]
 | ga as=>simp only[aJ.map,List.map_map];congr 1;refine kz fun a _=>?_;simp[bC.map_map]
theorem aF.map_map(f g:aH->aH)(s:aF):(s.map f).map g=s.map (g ∘ f):=by
 simp only[aF.map,List.map_map]
 congr 1
 ·refine kz fun p _=>?_
  simp[aJ.map_map]
 refine kz fun x _=>?_
 simp
theorem RN:oQ some r:=fun _ _=>rfl
theorem gk.tL{a b:Nat}(h:gk.has ((a,b)::r) s=false):(s<a\/b<=s)/\gk.has r s=false:=by
 simp only[gk.has,vz,fB,Bool.and_eq_false_iff,kA]at h;exact⟨by omega,h.2⟩
variable{t:Nat}
theorem att:oQ (gF t) [(t,t+10000)]:=by
 intro g av;cases g with
 | free=>rfl
 | own s=>
  obtain⟨h1,_⟩:=gk.tL av;simp only[gF];rw[ba (by omega)]
 | ro s=>
  obtain⟨h1,_⟩:=gk.tL av;simp only[gF];rw[ba (by omega)]
theorem Ks:∀{ms:hF},(gk.has (ms.map fun x=>(x.1,x.1+1)) s)=false->(ms.at s).isSome=false
 | [],_=>rfl
 | (i,p)::r,h=>by
  simp only[gk.has,jW,vz,fB,Bool.and_eq_false_iff,kA]at h;simp only[hF.at];rw[ba (by omega)];exact Ks (by simpa only[gk.has]using h.2)
theorem atu{ms:hF}:oQ (ib t ms) ((t,t+1)::ms.map fun x=>(x.1,x.1+1)):=by
 intro g av;cases g with
 | free=>rfl
 | own s=>
  obtain⟨h1,U⟩:=gk.tL av;simp only[ib];rw[ba (by omega),Ks U];rfl
 | ro s=>
  obtain⟨h1,U⟩:=gk.tL av;simp only[ib];rw[ba (by omega),Ks U];rfl
theorem RO{dQ:Option Nat}(h:gk.has (AZ dQ) s=false):dQ≠some s:=by
 rintro rfl;simp[gk.has,AZ]at h
theorem RP(t:Nat)(dQ:Option Nat):oQ (hT t dQ) ((t,t+1)::AZ dQ):=by
 intro g av;cases g with
 | free=>rfl
 | own s=>
  obtain⟨h1,U⟩:=gk.tL av;simp only[hT];rw[ba (by omega),ba (RO U)]
 | ro s=>
  obtain⟨h1,U⟩:=gk.tL av;simp only[hT];rw[ba (by omega),ba (RO U)]
theorem Kt(t:Nat)(r:gk):oQ (ib t []) ((t,t+1)::r):=by
 intro g av;cases g with
 | free=>rfl
 | own s=>
  obtain⟨h1,U⟩:=gk.tL av;simp only[ib];rw[ba (by omega)];rfl
 | ro s=>
  obtain⟨h1,U⟩:=gk.tL av;simp only[ib];rw[ba (by omega)];rfl
variable{P:Program}{st:aF}{e:dB}{obs:List Prop}
theorem RQ{d:Nat}{t:TypeId}{x y:Operand}{ans cu:List ci}(h:z1 P st d t x y ans=some (e,g,cu,obs)):oQ g e.nW/\e.dst=some d:=by
 unfold z1 at h;split at h
 ·split at h
  ·split at h
   ·split at h
    ·split at h
     ·simp only[aX,bJ]at h;obtain⟨rfl,rfl,_,_⟩:=h;exact⟨RP _ _,rfl⟩
     cases h
    cases h
   ·split at h
    ·split at h
     ·simp only[aX,bJ]at h;obtain⟨rfl,rfl,_,_⟩:=h;exact⟨fun t bH=>by simp only[Kt d _ t bH,mZ];exact RP d _ t bH,rfl⟩
     cases h
    cases h
   cases h
  cases h
 cases h
theorem RR{o:Oper}{ans cu:List ci}(h:sq P st o ans=some (e,g,cu,obs)):
  oQ g e.nW/\∃d,e.dst=some d/\oP P st o ans=some (⟨(st.map (aH.cz g fun _=>true)).env.set d e.p,(st.map (aH.cz g fun _=>true)).boxes⟩,cu,obs):=by
 obtain⟨dst,op,type,pos,after,guard⟩:=o;have fT:∀st:aF,st.map (aH.cz some fun _=>true)=st:=by
  intro st;have:(aH.cz some fun _=>true)=_root_.id:=by
   funext l;cases l<;>simp[aH.cz,atr]
  rw[this];simp only[aF.map];have h1:aJ.map _root_.id=_root_.id:=by
   funext p;cases p with
   | aI a=>cases a<;>simp[aJ.map,bC.map]
   | ga as=>
    simp only[aJ.map,id]
    congr 1
    have:bC.map _root_.id=_root_.id:=by funext a;cases a<;>simp[bC.map]
    rw[this];simp
  rw[h1];simp
 simp only[sq]at h;split at h
 ·rename_i d f args ts;split at h
  ·rename_i fn gz rs r h1 U;split at h
   ·rename_i ak;simp only[aX,bJ]at h;obtain⟨rfl,rfl,rfl,rfl⟩:=h;refine⟨att,d,rfl,?_⟩;simp only[oP,pC,QF,oZ,ll,Kn,h1,U,ji];rw[bi ak];rfl
   cases h
  cases h
 ·rename_i d t n parts;split at h
  ·rename_i k es ms aj;simp only[aX,bJ]at h;obtain⟨rfl,rfl,rfl,rfl⟩:=h;refine⟨atu,d,rfl,?_⟩;simp only[oP,pC];exact asv aj ans
  cases h
 ·rename_i d x y t dt;split at h
  ·rename_i AJ;subst AJ;refine⟨(RQ h).1,d,(RQ h).2,?_⟩;simp only[oP,pC,fQ,Sx.zA];unfold z1 at h;split at h
   ·rename_i vN k he;simp only[he];split at h
    ·rename_i i hi;simp only[hi];split at h
     ·rename_i z ha cn es s a6 ag;split at h
      ·rename_i bX dQ a2 ca ai;split at h
       ·rename_i ak;obtain⟨rfl,ak⟩:=ak;simp only[aX,bJ]at h;obtain⟨rfl,rfl,rfl,rfl⟩:=h;simp only[Df,ag,fQ,a6,ai];rw[bi ak];rfl
       cases h
      cases h
     ·rename_i z _ a6 ag;split at h
      ·rename_i bX dQ a2 ca ai;split at h
       ·rename_i ak;simp only[aX,bJ]at h;obtain⟨rfl,rfl,rfl,rfl⟩:=h;have rh:(st.jt d []).br y=(st.br y).map (aH.cz (ib d []) fun _=>true):=ats st _ (fun _=>rfl) rfl (fun _=>rfl) y;simp only[Df,ag,a6,rh,ai];rw[bi ak];have:(st.jt d []).x1 d dQ=st.map (aH.cz (fun g=>(ib d [] g).bind (hT d dQ)) fun _=>true):=by
         simp only[aF.jt,aF.x1,aF.map_map]
         congr 1
         funext l;refine aH.axR _ _ (fun g t h=>?_) l;cases g with
         | free=>simp[hT]at h
         | own s=>
          simp only[hT]at h;split at h
          ·simp at h
          split at h
          ·cases h
          simpa using h
         | ro s=>
          simp only[hT]at h;split at h
          ·cases h
          split at h
          ·cases h
          simp at h
        rw[this]
       cases h
      cases h
     cases h
    cases h
   cases h
  cases h
 ·cases h
 ·rename_i d ty;split at h
  ·rename_i i hi;split at h
   ·rename_i z a6;split at h
    ·rename_i aE;simp only[aX,bJ]at h;obtain⟨rfl,rfl,rfl,rfl⟩:=h;refine⟨Kt _ _,d,rfl,?_⟩;simp only[oP,E3,hi,a6];rw[bi aE];rfl
    cases h
   cases h
  cases h
 ·rename_i d t l c;unfold QQ at h;split at h
  ·rename_i e hu;split at h
   ·rename_i i cG hg cg j2 hi e1 e2;split at h
    ·rename_i z a6;split at h
     ·rename_i ak;simp only[aX,bJ]at h;obtain⟨rfl,rfl,rfl,rfl⟩:=h;refine⟨Kt _ _,d,rfl,?_⟩;simp only[oP,pC,Ei,hu,hi,e1,e2,a6];rw[bi ak];rfl
     cases h
    cases h
   cases h
  cases h
 ·rename_i d t x cZ hi jc;split at h
  ·rename_i aU;unfold Hs at h;split at h
   ·rename_i e k s cn es jR e1 e2;split at h
    ·rename_i ak;obtain⟨rfl,ai⟩:=ak;split at h
     ·rename_i l bQ ck dX;simp only[aX,bJ]at h;obtain⟨rfl,rfl,rfl,rfl⟩:=h;refine⟨atp,d,rfl,?_⟩;simp only[oP,pC,aU,fQ,zB,e1,e2,ck,dX,oO,ai,true_and]
     cases h
    cases h
   cases h
  rename_i aU;rw[b8]at h;obtain⟨⟨bI,b2,cj⟩,h1,h⟩:=h;simp only[bJ]at h;obtain⟨rfl,rfl,rfl,rfl⟩:=h;refine⟨RN,d,rfl,?_⟩;rw[fT];simp only[oP,pC];rw[ba aU,h1];rfl
 ·rename_i d iD js oz lC mH n6 n7;rw[b8]at h;obtain⟨⟨bI,b2,cj⟩,h1,h⟩:=h;simp only[bJ]at h;obtain⟨rfl,rfl,rfl,rfl⟩:=h;refine⟨RN,d,rfl,?_⟩;rw[fT];have yf:oP P st ⟨some d,op,type,pos,after,guard⟩ ans=pC P st ⟨some d,op,type,pos,after,guard⟩ ans:=by
   unfold oP;split
   ·rename_i e1 e2;exact (mH _ e2).elim
   ·rename_i e1 e2;cases e1
   rfl
  rw[yf];unfold pC;split
  all_goals first
   | exact (lC _ _ (by assumption)).elim
   | exact (mH _ (by assumption)).elim
   | exact (n6 _ _ _ (by assumption)).elim
   | exact (js _ _ _ (by assumption)).elim
   | exact (iD _ _ _ (by assumption)).elim
   | exact (oz _ _ _ _ (by assumption)).elim
   | exact (n7 _ _ _ _ _ (by assumption)).elim
   | (simp_all;done)
   | (exfalso;rename_i e;subst e;simp[py]at h1)
   | (exfalso;simp_all[py])
 ·rename_i ty s y;split at h
  ·rename_i ha vs v i e1 e2 ck;split at h
   ·rename_i ak;simp only[aX,bJ]at h;obtain⟨rfl,rfl,rfl,rfl⟩:=h;refine⟨atq,s,rfl,?_⟩;simp only[oP,E5,e1,e2,ck];rw[bi ak]
   cases h
  cases h
 cases h
theorem Rel.weaken{w0:eK}{bE:aF}{a:Act}{w:World}(h:Rel w0 st a w)(aR:bE.env.length=st.env.length)(aj:bE.boxes=st.boxes)
  (he:∀(i:Nat) (p:aJ),bE.env[i]?=some p->p=.cq\/st.env[i]?=some p):Rel w0 bE a w:=by
 obtain⟨ω,τ,h⟩:=h;refine⟨ω,τ,h.defers,h.size.trans aR.symm,h.below,h.owned,h.fixed,h.pinned,fun i p hp=>?_,by rw[aj];exact h.boxes⟩;rcases he i p hp with rfl | U
 ·have:i<a.tmps.size:=by
   rw[h.size,<-aR];exact (eW.1 hp).1
  exact⟨a.tmps[i],by simp[this],ad⟩
 exact h.env i p U
def dB.gM(e:dB)(t:Nat):Option aJ:=if e.dst=some t then some e.p else if t∈e.use then some .cq else none
def rJ(env:List aJ):List Nat->List aJ
 | s::us=>rJ (env.set s .cq) us
 | []=>env
theorem Ku:∀(us:List Nat) (env:List aJ),(rJ env us).length=env.length
 | [],env=>rfl
 | s::us,env=>by simp[rJ,Ku us]
theorem RS:∀(us:List Nat) (env:List aJ) (t:Nat),(rJ env us)[t]?=(env[t]?).map fun p=>if t∈us then .cq else p
 | [],env,t=>by simp[rJ]
 | s::us,env,t=>by
  simp only[rJ,RS us,iT,ez];by_cases h:s=t
  ·subst h;by_cases ag:s<env.length
   ·simp[ag]
   simp[ag]
  rw[ba h];have gn:¬t=s:=fun e=>h e.symm
  simp only[gn,false_or]
def dB.apply(e:dB)(env:List aJ):List aJ:=
 match e.dst with
 | some d=>(rJ env e.use).set d e.p
 | none=>env
theorem dB.apply_get(aE:e.dst≠none)(env:List aJ)(t:Nat):(e.apply env)[t]?=(env[t]?).map fun p=>(e.gM t).getD p:=by
 unfold dB.apply dB.gM;split
 ·rename_i d dP;have ai:∀(t:Nat),(rJ env e.use)[t]?=(env[t]?).map fun p=>if t∈e.use then .cq else p:=RS e.use env
  rw[iT,ai t];by_cases h:d=t
  ·subst h;by_cases ag:d<env.length
   ·have:d<(rJ env e.use).length:=by rw[Ku];exact ag
    simp[this,ag,dP]
   have:¬d<(rJ env e.use).length:=by rw[Ku];exact ag
   simp[this,ag]
  rw[ba h];cases aaP:env[t]? with
  | none=>simp
  | some p=>
   have ct:¬(e.dst=some t):=by rw[dP];simpa using h
   simp only[n0,aX,ba ct];by_cases hu:t∈e.use
   ·simp[hu]
   simp[hu]
 exact absurd ‹_› aE
def hh(L:Nat->Bool)(t:Nat):Nat->List dB->aJ->aJ
 | _,[],acc=>acc
 | k,e::es,acc=>hh L t (k+1) es (if L k then (e.gM t).getD acc else acc)
variable{L:Nat->Bool}
theorem Bt{L':Nat->Bool}:∀{es:List dB} {k:Nat} {acc:aJ},(∀(j:Nat) (e:dB),es[j]?=some e->e.gM t≠none->L (k+j)=L' (k+j))->hh L t k es acc=hh L' t k es acc
 | [],_,_,_=>rfl
 | e::es,k,acc,h=>by
  simp only[hh];have bg:(if L k then (e.gM t).getD acc else acc)=(if L' k then (e.gM t).getD acc else acc):=by
   cases bH:e.gM t with
   | none=>simp
   | some p=>have:=h 0 e rfl (by simp[bH]);rw[m']at this;rw[this]
  rw[bg];exact Bt fun j e' bd bH=>by have:=h (j+1) e' (by simpa using bd) bH;rwa[show k+(j+1)=k+1+j by omega]at this
theorem RT{p:aJ}:∀{es:List dB} {k i:Nat} {acc:aJ} {e:dB},es[i]?=some e->e.gM t=some p->L (k+i)=true->
  (∀(j:Nat) (e':dB),i<j->es[j]?=some e'->e'.gM t≠none->L (k+j)=false)->hh L t k es acc=p
 | [],_,_,_,_,h,_,_,_=>by simp at h
 | bM::es,k,0,acc,e,h,bH,cN,gS=>by
  simp at h;subst h;simp only[hh];rw[m']at cN;rw[cN,bH];simp only[fQ,ji];have:∀(es:List dB) (k:Nat),(∀(j:Nat) (e':dB),es[j]?=some e'->e'.gM t≠none->L (k+j)=false)->hh L t k es p=p:=by
   intro es;induction es with
   | nil=>intro k _;rfl
   | cons e1 es dI=>
    intro k h;simp only[hh];have h1:(if L k then (e1.gM t).getD p else p)=p:=by
     cases bH:e1.gM t with
     | none=>simp
     | some q=>have:=h 0 e1 rfl (by simp[bH]);rw[m']at this;simp[this]
    rw[h1];exact dI (k+1) fun j e' bd AH=>by have:=h (j+1) e' (by simpa using bd) AH;rwa[show k+(j+1)=k+1+j by omega]at this
  exact this es (k+1) fun j e' bd AH=>by have:=gS (j+1) e' (by omega) (by simpa using bd) AH;rwa[show k+(j+1)=k+1+j by omega]at this
 | bM::es,k,i+1,acc,e,h,bH,cN,gS=>by
  simp only[hh];exact RT (i:=i) (by simpa using h) bH (by rwa[show k+1+i=k+(i+1) by omega]) fun j e' bd Av AH=>by
   have:=gS (j+1) e' (by omega) (by simpa using Av) AH;rwa[show k+(j+1)=k+1+j by omega]at this
def fg(env0:List aJ)(bs:List (Nat×List aH))(L:Nat->Bool)(es:List dB):aF:=⟨env0.zipIdx.map fun x=>hh L x.2 0 es x.1,bs⟩
variable{bs:List (Nat×List aH)}
theorem qK{env0:List aJ}{es:List dB}(t:Nat):(fg env0 bs L es).env[t]?=(env0[t]?).map fun p=>hh L t 0 es p:=by
 simp only[fg,du,List.getElem?_zipIdx,dG];cases env0[t]?<;>rfl
theorem yL{env0:List aJ}{es:List dB}:(fg env0 bs L es).env.length=env0.length:=by simp[fg]
def Kv(ops:Array Oper)(o:Oper):Option Nat:=o.guard.bind fun x=>(ops[x.1]?).bind (·.dst)
def reads(ops:Array Oper)(o:Oper):List Nat:=o.op.operands.toList.filterMap RM++(Kv ops o).toList
def yM(d:Nat):dB:=⟨some d,.one (.v undef),[],[]⟩
def ext(e:dB)(env:List aJ):dB:=
 if e.nW.isEmpty then e else { e with use:=e.use++(env.zipIdx.filterMap fun x=>if x.1.eU e.nW&&!(e.dst==some x.2) then some x.2 else none) }
theorem Fg(e:dB)(env:List aJ):∃u,ext e env={ e with use:=u }:=by
 unfold ext;split
 ·exact⟨e.use,rfl⟩
 exact⟨_,rfl⟩
structure h5 where
 t:Nat
 i:Nat
 j:Nat
 k:Nat
 kT:Nat
 es:List (List D)
 esT:List (List D)
def Gc(t:Nat)(bs:List (Nat×List aH)):Option (Nat×List (List D)):=
 (bs.find? fun x=>(x.2.findSome? (tn t)).isSome).bind fun x=>(dF x.1 bs).bind fun ls=>ls.findSome? (tn t)
theorem atv{w0:eK}{a:Act}{w:World}{ω:Own}{τ:Nat->Nat×Value}(h:cI w0 st a w ω τ){kT:Nat}{esT:List (List D)}(e:Gc t st.boxes=some (kT,esT)):∃v,Sat w ω τ (.J (.own t) kT esT) v:=by
 unfold Gc at e;rw[mo]at e;obtain⟨x,_,e⟩:=e;rw[mo]at e;obtain⟨ls,aj,e⟩:=e;obtain⟨l,ag,e⟩:=List.exists_of_findSome?_eq_some e;obtain⟨b,arr,ty,_,_,_,ai⟩:=h.boxes _ ls aj;obtain⟨n,aR⟩:=r8.1 ag;obtain⟨u,_,hu⟩:=ai.2 n l aR;exact⟨u,KZ e hu⟩
def rK(st:aF)(o:Oper):Option h5:=
 match o.dst,o.op with
 | some _,.call ⟨.builtin .append,⟨[x,_]⟩,⟨[_,_]⟩⟩=>
  match (st.br x).leaf with
  | some (.aO s i j k es .here)=>
   match Gc s st.boxes with
   | some (kT,esT)=>some ⟨s,i,j,k,kT,es,esT⟩
   | none=>none
  | _=>none
 | _,_=>none
def vl(P:Program)(st:aF)(o:Oper)(ans:List ci):Option (dB×List ci×List Prop):=
 match rK st o,o.dst,o.op with
 | some v,some d,.call ⟨.builtin .append,⟨[_,y]⟩,⟨[t,dt]⟩⟩=>
  if t=dt then (tG P t v.t v.i v.j v.k v.es v.esT (st.br y) ans).map fun r=>(⟨some d,r.1,[],[]⟩,r.2.1,r.2.2) else none
 | _,_,_=>none
def h5.fix(v:h5):aH->Option (List Prop)
 | .J (.own s) dC dO=>if s=v.t then (if dC=v.kT then some [dO=v.esT] else none) else some []
 | .ep (.own s) dC dO _ _=>if s=v.t then (if dC=v.kT then some [dO=v.esT] else none) else some []
 | .J (.ro s) _ _=>if s=v.t then none else some []
 | .ep (.ro s) _ _ _ _=>if s=v.t then none else some []
 | .aO s a b dC dO m=>if s=v.t/\b=v.j then (if dC=v.k/\m.home=true then some [a=v.i,dO=v.es] else none) else some []
 | .ft _ _=>none
 | _=>some []
def h5.ng(v:h5)(l:aH):Prop:=hj v.t v.i v.j v.k v.es v.kT v.esT l=l/\∀a∈l.idx v.t v.j,a=v.i
theorem h5.aad{v:h5}{l:aH}(h:v.fix l=some obs)(aU:cO obs):v.ng l:=by
 obtain⟨t,i,j,k,kT,es,esT⟩:=v;unfold h5.ng;simp only;cases l with
 | J g dC dO=>
  refine⟨?_,fun a ae=>by simp[aH.idx]at ae⟩;cases g with
  | free=>rfl
  | own s=>
   simp only[h5.fix]at h;split at h
   ·rename_i ai;subst ai;split at h
    ·rename_i hk;subst hk;cases h;have e:dO=esT:=aU.1;subst e;simp[hj]
    cases h
   rename_i ai;simp[hj,ai]
  | ro s=>
   simp only[h5.fix]at h;split at h
   ·cases h
   rename_i ai;simp[hj,ai]
 | ep g dC dO x y=>
  refine⟨?_,fun a ae=>by simp[aH.idx]at ae⟩;cases g with
  | free=>rfl
  | own s=>
   simp only[h5.fix]at h;split at h
   ·rename_i ai;subst ai;split at h
    ·rename_i hk;subst hk;cases h;have e:dO=esT:=aU.1;subst e;simp[hj]
    cases h
   rename_i ai;simp[hj,ai]
  | ro s=>
   simp only[h5.fix]at h;split at h
   ·cases h
   rename_i ai;simp[hj,ai]
 | aO s a b dC dO m=>
  simp only[h5.fix]at h;split at h
  ·rename_i ai;obtain⟨rfl,rfl⟩:=ai;split at h
   ·rename_i hk;cases h;have e1:a=i:=aU.1;have e2:dO=es:=aU.2.1;subst e1;subst e2;refine⟨?_,fun x aa=>?_⟩
    ·obtain⟨rfl,hm⟩:=hk;simp[hj,hm]
    simpa[aH.idx]using aa
   cases h
  rename_i ai;refine⟨?_,fun x aa=>?_⟩
  ·simp only[hj];rw[ba ai]
  simp[aH.idx,ai]at aa
 | ft t vs=>cases h
 | _=>exact⟨rfl,fun a ae=>by simp[aH.idx]at ae⟩
def bC.uk:bC->List aH
 | .one l=>[l]
 | .agg ls=>ls
def aJ.uk:aJ->List aH
 | .aI a=>a.uk
 | .ga as=>as.flatMap bC.uk
theorem bC.AX{p:aH->Prop}{a:bC}(h:∀l∈a.uk,p l):a.lm p:=by
 cases a with
 | one l=>exact h l (by simp[bC.uk])
 | agg ls=>exact h
theorem aJ.AX{p:aH->Prop}{q:aJ}(h:∀l∈q.uk,p l):q.lm p:=by
 cases q with
 | aI a=>exact bC.AX h
 | ga as=>exact fun a ae=>bC.AX fun l ag=>h l (jU.2 ⟨a,ae,ag⟩)
def h5.fixes(v:h5):List aH->Option (List Prop)
 | []=>some []
 | l::r=>
  match v.fix l,h5.fixes v r with
  | some a,some b=>some (a++b)
  | _,_=>none
theorem h5.PC{v:h5}:∀{ls:List aH} {obs:List Prop},v.fixes ls=some obs->cO obs->∀l∈ls,v.ng l
 | [],_,_,_,l,ag=>by cases ag
 | gh::r,obs,h,aU,l,ag=>by
  simp only[h5.fixes]at h;split at h
  ·rename_i a b h1 U;cases h;obtain⟨cv,ca⟩:=aU.append;rcases ez.1 ag with rfl | ag
   ·exact h5.aad h1 cv
   exact h5.PC U ca l ag
  cases h
def zz(bs:List (Nat×List aH))(all:Nat->List aH):Nat->List Oper->List aJ->List dB->Option (List Prop)
 | i,o::os,env,e::es=>
  match rK ⟨env,bs⟩ o with
  | some v=>
   match v.fixes (all i),zz bs all (i+1) os (e.apply env) es with
   | some a,some b=>some (a++b)
   | _,_=>none
  | none=>zz bs all (i+1) os (e.apply env) es
 | _,_,_,_=>some []
theorem RU{all:Nat->List aH}:∀{l:List Oper} {es:List dB} {env:List aJ} {i0:Nat} {obs:List Prop},zz bs all i0 l env es=some obs->cO obs->
  ∀(i:Nat) (o:Oper),l[i]?=some o->i<es.length->∀v,rK ⟨(es.take i).foldl (fun env e=>e.apply env) env,bs⟩ o=some v->∀kN∈all (i0+i),v.ng kN
 | [],_,_,_,_,_,_,i,o,hi,_,_,_,_,_=>by simp at hi
 | _::_,[],_,_,_,_,_,i,o,_,ag,_,_,_,_=>by simp at ag
 | A1::os,e::es,env,i0,obs,h,aU,i,o,hi,ag,v,bF,kN,DJ=>by
  simp only[zz]at h;cases i with
  | zero=>
   simp only[kg,aX]at hi;subst hi;simp only[List.take_zero,List.foldl_nil]at bF;rw[bF]at h;simp only at h;split at h
   ·rename_i a b h1 U;cases h;exact h5.PC h1 aU.append.1 kN DJ
   cases h
  | succ i=>
   have go:∀{b:List Prop},zz bs all (i0+1) os (e.apply env) es=some b->cO b->v.ng kN:=fun U ca=>
    RU U ca i o (by simpa using hi) (by simpa using ag) v (by simpa using bF) kN (by rw[show i0+1+i=i0+(i+1) by omega];exact DJ)
   split at h
   ·split at h
    ·rename_i a b h1 U;cases h;exact go U aU.append.2
    cases h
   exact go h aU
def uJ(P:Program)(ops:Array Oper)(gs:List Nat)(bs:List (Nat×List aH)):List Oper->List aJ->List ci->Option (List dB×List aJ×List ci×List Prop)
 | [],env,ans=>some ([],env,ans,[])
 | o::rest,env,ans=>
  match rI ops ⟨env,bs⟩ o [] with
  | some (true,_,_,_)=>
   match sq P ⟨env,bs⟩ o ans with
   | some (e,_,fr,fM)=>
    match (match o.dst with | some d=>gs.contains d | none=>false),e.p.leaf,fr with
    | true,some (.bc c),.o1 b::r=>
     (uJ P ops gs bs rest (dB.apply { ext e env with p:=.one (.v (.bool b)) } env) r).map fun x=>({ ext e env with p:=.one (.v (.bool b)) }::x.1,x.2.1,x.2.2.1,(c=b)::(fM++x.2.2.2))
    | _,_,_=>(uJ P ops gs bs rest ((ext e env).apply env) fr).map fun x=>(ext e env::x.1,x.2.1,x.2.2.1,fM++x.2.2.2)
   | none=>
    match vl P ⟨env,bs⟩ o ans with
    | some (e,fr,fM)=>(uJ P ops gs bs rest (e.apply env) fr).map fun x=>(e::x.1,x.2.1,x.2.2.1,fM++x.2.2.2)
    | none=>none
  | some (false,_,_,_)=>
   match o.dst with
   | some d=>(uJ P ops gs bs rest ((yM d).apply env) ans).map fun x=>(yM d::x.1,x.2.1,x.2.2.1,x.2.2.2)
   | none=>none
  | none=>none
def Fact(P:Program)(ops:Array Oper)(bs:List (Nat×List aH))(env:List aJ)(o:Oper)(e:dB):Prop:=
 (∃st1 ej cv,rI ops ⟨env,bs⟩ o []=some (false,st1,ej,cv)/\∃d,o.dst=some d/\e=yM d)\/
 (∃st1 ej cv,rI ops ⟨env,bs⟩ o []=some (true,st1,ej,cv)/\∃ans bM g cu obs,sq P ⟨env,bs⟩ o ans=some (bM,g,cu,obs)/\cO obs/\
  ∃u,(e={ bM with use:=u }\/∃c b,bM.p=.one (.bc c)/\c=b/\e={ bM with use:=u,p:=.one (.v (.bool b)) }))\/
 (∃st1 ej cv,rI ops ⟨env,bs⟩ o []=some (true,st1,ej,cv)/\∃ans cu obs,vl P ⟨env,bs⟩ o ans=some (e,cu,obs)/\cO obs)
theorem Bu{ops:Array Oper}{gs:List Nat}:∀{l:List Oper} {env tN:List aJ} {ans cu:List ci} {es:List dB} {obs:List Prop},
  uJ P ops gs bs l env ans=some (es,tN,cu,obs)->cO obs->
  es.length=l.length/\tN=es.foldl (fun env e=>e.apply env) env/\∀(i:Nat) (o:Oper),l[i]?=some o->∃e,es[i]?=some e/\Fact P ops bs ((es.take i).foldl (fun env e=>e.apply env) env) o e
 | [],env,tN,ans,cu,es,obs,h,_=>by
  simp only[uJ,aX,bJ]at h;obtain⟨rfl,rfl,_,_⟩:=h;exact⟨rfl,rfl,fun i o aU=>by simp at aU⟩
 | o::rest,env,tN,ans,cu,es,obs,h,aU=>by
  have fin:∀(e:dB) (dO:List dB) (Hw:List aJ),(dO.length=rest.length/\Hw=dO.foldl (fun env e=>e.apply env) (e.apply env)/\∀(i:Nat) (o:Oper),rest[i]?=some o->∃e',dO[i]?=some e'/\Fact P ops bs ((dO.take i).foldl (fun env e=>e.apply env) (e.apply env)) o e')->
    Fact P ops bs env o e->(e::dO).length=(o::rest).length/\Hw=(e::dO).foldl (fun env e=>e.apply env) env/\∀(i:Nat) (oB:Oper),(o::rest)[i]?=some oB->∃e',(e::dO)[i]?=some e'/\Fact P ops bs (((e::dO).take i).foldl (fun env e=>e.apply env) env) oB e':=by
   intro e dO Hw ⟨h1,U,ax⟩ bw;refine⟨by simp[h1],U,fun i oB kL=>?_⟩;cases i with
   | zero=>simp at kL;subst kL;exact⟨e,rfl,bw⟩
   | succ i=>exact ax i oB (by simpa using kL)
  simp only[uJ]at h;split at h
  ·rename_i st1 ej cv hw;split at h
   ·rename_i e g fr fM aE;split at h
    ·rename_i c b r av ag;rw[b8]at h;obtain⟨⟨lK,ho,iS,tv⟩,h1,h⟩:=h;simp only[bJ]at h;obtain⟨rfl,rfl,_,rfl⟩:=h;have QV:(c=b)/\cO tv:=⟨aU.1,(cO.append aU.2).2⟩
     have A2:=(cO.append aU.2).1;refine fin _ _ _ (Bu h1 QV.2) (.inr (.inl ⟨_,_,_,hw,_,_,_,_,_,aE,A2,(Fg e env).choose,.inr ⟨c,b,?_,?_,?_⟩⟩))
     ·cases hp:e.p with
      | aI a=>
       rw[hp]at ag;cases a with
       | one l=>simp only[aJ.leaf,aX]at ag;rw[ag]
       | agg ls=>cases ag
      | ga as=>rw[hp]at ag;cases ag
     ·exact QV.1
     conv=>lhs;rw[(Fg e env).choose_spec]
    rw[b8]at h;obtain⟨⟨lK,ho,iS,tv⟩,h1,h⟩:=h;simp only[bJ]at h;obtain⟨rfl,rfl,_,rfl⟩:=h;obtain⟨A2,ca⟩:=aU.append;exact fin _ _ _ (Bu h1 ca) (.inr (.inl ⟨_,_,_,hw,_,_,_,_,_,aE,A2,(Fg e env).choose,.inl (Fg e env).choose_spec⟩))
   split at h
   ·rename_i e fr fM IA;rw[b8]at h;obtain⟨⟨lK,ho,iS,tv⟩,h1,h⟩:=h;simp only[bJ]at h;obtain⟨rfl,rfl,_,rfl⟩:=h;obtain⟨A2,ca⟩:=aU.append;exact fin _ _ _ (Bu h1 ca) (.inr (.inr ⟨_,_,_,hw,_,_,_,IA,A2⟩))
   cases h
  ·rename_i st1 ej cv hw;split at h
   ·rename_i d aE;rw[b8]at h;obtain⟨⟨lK,ho,iS,tv⟩,h1,h⟩:=h;simp only[bJ]at h;obtain⟨rfl,rfl,_,rfl⟩:=h;exact fin _ _ _ (Bu h1 aU) (.inl ⟨_,_,_,hw,d,aE,rfl⟩)
   cases h
  cases h
end Go.Sx
namespace Go.Sx
open Go.RowKit
variable{st bE:aF}
theorem RV{parts:List (Nat×Operand)}(h:∀x∈parts,st.br x.2=bE.br x.2):(parts.map fun x=>(x.1,st.br x.2))=parts.map fun x=>(x.1,bE.br x.2):=
 kz fun x aa=>by rw[h x aa]
variable{P:Program}{ans:List ci}
theorem RW{op:Op}(aj:st.boxes=bE.boxes)(h:∀x∈op.operands.toList,st.br x=bE.br x):py P st op ans=py P bE op ans:=by
 cases op<;>simp only[py,Op.operands,ez,List.mem_nil_iff,forall_eq_or_imp,or_false,forall_eq]at h ⊢
 case load t x=>simp only[Ea,h,aj]
 case slice t x cZ hi jc=>
  have aa:st.br x=bE.br x:=h x (by simp);have aU:∀o:Option Operand,(∀y,o=some y->st.br y=bE.br y)->mh st o=mh bE o:=by
   intro o aU;cases o with
   | none=>rfl
   | some y=>simp only[mh,aU y rfl]
  simp only[Eb,aa];rw[aU cZ (fun y e=>h y (by simp[e])),aU hi (fun y e=>h y (by simp[e]))]
 case build t cF=>
  have:(cF.toList.map fun x=>(x.1,st.br x.2))=cF.toList.map fun x=>(x.1,bE.br x.2):=RV fun x aa=>h x.2 (by simp;exact⟨x.1,by simpa using aa⟩)
  simp only[Ec,this]
 case call c=>
  obtain⟨callee,args,ts⟩:=c;cases callee with
  | value f=>rfl
  | invoke r i=>rfl
  | builtin b=>
   simp only[Call.operands]at h;have gn:∀x∈args.toList,st.br x=bE.br x:=fun x aa=>h x (by simpa using aa)
   simp only;generalize args.toList=l at gn;unfold Ef;split
   ·rw[gn _ (by simp)]
   ·rw[gn _ (by simp),gn _ (by simp)]
   ·rw[gn _ (by simp),gn _ (by simp)]
   rfl
 case makeFunc fn first captured=>
  have ak:captured.toList.map st.br=captured.toList.map bE.br:=kz fun x aa=>h x (by simp;right;simpa using aa)
  simp only[Ee,ak]
 all_goals simp[h]
variable{o:Oper}
theorem atw(aj:st.boxes=bE.boxes)(h:∀x∈o.op.operands.toList,st.br x=bE.br x):sq P st o ans=sq P bE o ans:=by
 obtain⟨dst,op,type,pos,after,guard⟩:=o;simp only at h;cases dst with
 | none=>
  cases op with
  | store ty x y=>
   cases x with
   | tmp s=>
    have aa:st.br (.tmp s)=bE.br (.tmp s):=h (.tmp s) (by simp[Op.operands]);have bu:st.br y=bE.br y:=h y (by simp[Op.operands]);simp only[aF.br]at aa;simp only[sq,aa,bu]
   | _=>rfl
  | _=>rfl
 | some d=>
  unfold sq;split
  ·rename_i f args ts e1 e2;simp only at e1 e2;subst e2;have gn:∀x∈args.toList,st.br x=bE.br x:=fun x aa=>h x (by simp[Op.operands,Call.operands];right;simpa using aa)
   have:args.toList.mapM (fun x=>(st.br x).j1 st.boxes)=args.toList.mapM (fun x=>(bE.br x).j1 bE.boxes):=by
    rw[<-aj];generalize args.toList=l at gn;generalize st.boxes=bs;induction l with
    | nil=>rfl
    | cons x l dI=>simp only[xO,gn x (by simp),dI fun y bu=>gn y (by simp[bu])]
   rw[this]
  ·rename_i t n parts e1 e2;simp only at e1 e2;subst e2;have:(parts.toList.map fun x=>(x.1,st.br x.2))=parts.toList.map fun x=>(x.1,bE.br x.2):=RV fun x aa=>h x.2 (by simp[Op.operands];exact⟨x.1,by simpa using aa⟩)
   simp only[Dj,this]
  ·rename_i x y t dt e1 e2;simp only at e1 e2;subst e2;have aa:st.br x=bE.br x:=h x (by simp[Op.operands,Call.operands]);have bu:st.br y=bE.br y:=h y (by simp[Op.operands,Call.operands]);simp only[z1,aa,bu]
  ·rfl
  ·rfl
  ·rename_i t l c e1 e2;simp only at e1 e2;subst e2;rw[h l (by simp[Op.operands]),h c (by simp[Op.operands])]
  ·rename_i t x cZ hi jc e1 e2;simp only at e1 e2;subst e2;have aa:st.br x=bE.br x:=h x (by simp[Op.operands]);have aU:∀o:Option Operand,(∀y,o=some y->st.br y=bE.br y)->mh st o=mh bE o:=by
    intro o aU;cases o with
    | none=>rfl
    | some y=>simp only[mh,aU y rfl]
   rw[RW aj h];simp only[Hs,aa];rw[aU cZ (fun y e=>h y (by simp[Op.operands,e])),aU hi (fun y e=>h y (by simp[Op.operands,e]))]
  ·rw[RW aj h]
  ·rename_i e1 e2;cases e1
  rfl
theorem PB{x:Operand}(h:∀t,RM x=some t->st.env.getD t .cq=bE.env.getD t .cq):st.br x=bE.br x:=by
 cases x with
 | tmp t=>simpa[aF.br]using h t rfl
 | _=>rfl
def mr(ms:List Nat)(i j:Nat):Bool:=(ms.getD j 0).testBit i
def wU(ms:List Nat):List Edge->Nat
 | []=>0
 | e::r=>if Region.binds .any e then (2 ^ e.on ||| ms.getD e.on 0) ||| wU ms r else wU ms r
def rz:List Oper->List Nat->List Nat
 | [],acc=>acc
 | o::r,acc=>rz r (acc++[wU acc o.after.toList])
variable{ms:List Nat}{i:Nat}
theorem Kw:∀{l:List Edge},(wU ms l).testBit i=true->∃e∈l,Region.binds .any e=true/\(i=e.on\/mr ms i e.on=true)
 | [],h=>by simp[wU]at h
 | e::r,h=>by
  simp only[wU]at h;split at h
  ·rename_i aj;rw[Nat.testBit_or,Nat.testBit_or,lM,lM,Nat.testBit_two_pow,cr]at h;rcases h with (h | h) | h
   ·exact⟨e,by simp,aj,.inl h.symm⟩
   ·exact⟨e,by simp,aj,.inr h⟩
   obtain⟨e',h1,U⟩:=Kw h;exact⟨e',by simp[h1],U⟩
  obtain⟨e',h1,U⟩:=Kw h;exact⟨e',by simp[h1],U⟩
def q3{α:Type}(f:Nat->α->Bool):Nat->List α->Bool
 | _,[]=>true
 | k,x::r=>f k x&&q3 f (k+1) r
theorem wV{α:Type}{f:Nat->α->Bool}:∀{l:List α} {k:Nat},q3 f k l=true->∀(i:Nat) (x:α),l[i]?=some x->f (k+i) x=true
 | [],_,_,i,x,h=>by simp at h
 | y::r,k,h,0,x,aa=>by
  simp only[q3,cm]at h;simp at aa;subst aa;exact h.1
 | y::r,k,h,i+1,x,aa=>by
  simp only[q3,cm]at h;have:=wV h.2 i x (by simpa using aa);rwa[show k+1+i=k+(i+1) by omega]at this
def rL(ms:List Nat)(os:List Oper):Bool:=
 q3 (fun j o=>ms.getD j 0==wU ms o.after.toList&&o.after.toList.all fun e=>!Region.binds .any e||decide (e.on<j)) 0 os
variable{ops:Array Oper}
theorem Kx(h:rL ms ops.toList=true){j:Nat}(aU:ops[j]?=some o):(∀e∈o.after,Region.binds .any e=true->e.on<j)/\
  ∀i,mr ms i j=true->∃e∈o.after,Region.binds .any e=true/\(i=e.on\/mr ms i e.on=true):=by
 have:=wV h j o (by simpa using aU);simp only[dG,cm,ed,fK,lM,fP,cr]at this;refine⟨fun e he aj=>(this.2 e (by simpa using he)).resolve_left (by simp[aj]),fun i hi=>?_⟩;unfold mr at hi;rw[this.1]at hi;obtain⟨e,h1,U⟩:=Kw hi;exact⟨e,by simpa using h1,U⟩
def qL(ops:Array Oper)(b1:Array Bool):Prop:=
 ∀(j:Nat) (o:Oper),b1.getD j false=true->ops[j]?=some o->∀e∈o.after,Region.binds .any e=true->b1.getD e.on false=true
variable{b1:Array Bool}
theorem Fh{j:Nat}(h:b1.getD j false=true):j<b1.size:=by
 rcases sa j b1.size with gn | gn
 ·exact gn
 simp[C3 gn]at h
theorem Fi(h:rL ms ops.toList=true)(ak:qL ops b1)(ai:b1.size=ops.size):∀(j:Nat),b1.getD j false=true->mr ms i j=true->b1.getD i false=true:=by
 intro j;induction j using Nat.strongRecOn with
 | ind j dI=>
  intro bd ae;have bL:j<ops.size:=ai▸Fh bd;have aU:ops[j]?=some ops[j]:=h3 bL;obtain⟨h1,U⟩:=Kx h aU;obtain⟨e,he,aj,lW⟩:=U i ae;have tW:=ak j _ bd aU e he aj;rcases lW with rfl | lW
  ·exact tW
  exact dI e.on (h1 e he aj) tW lW
variable{k:Nat}
theorem Bv(h:rL ms ops.toList=true)(ak:qL ops b1)(ai:b1.size=ops.size)(hi:i∈Region.ready .any ops b1)(ae:mr ms k i=true):b1.getD k false=true:=by
 rw[mem_ready]at hi;obtain⟨_,o,aU,he⟩:=hi;obtain⟨_,U⟩:=Kx h aU;obtain⟨e,tV,aj,lW⟩:=U k ae;rcases lW with rfl | lW
 ·exact he e tV aj
 exact Fi h ak ai _ (he e tV aj) lW
theorem qL.ready(ak:qL ops b1)(hi:i∈Region.ready .any ops b1):qL ops (b1.setIfInBounds i true):=by
 intro j o bd aU e he aj;rw[mem_ready]at hi;obtain⟨_,azJ,abJ,my⟩:=hi;by_cases nD:i=j
 ·subst nD;rw[abJ]at aU;cases aU;exact getD_set_true (my e he aj)
 rw[getD_set_ne false nD]at bd;exact getD_set_true (ak j o bd aU e he aj)
theorem Ky(h:rL ms ops.toList=true)(ai:b1.size=ops.size)(aA:Region.ready .any ops b1=[]):∀j,j<ops.size->b1.getD j false=true:=by
 intro j;induction j using Nat.strongRecOn with
 | ind j dI=>
  intro bL;have aU:ops[j]?=some ops[j]:=h3 bL;obtain⟨h1,_⟩:=Kx h aU;cases ag:b1.getD j false with
  | true=>rfl
  | false=>
   have:j∈Region.ready .any ops b1:=by
    rw[mem_ready];refine⟨?_,_,aU,fun e he aj=>dI e.on (h1 e he aj) (Nat.lt_trans (h1 e he aj) bL)⟩;have abv:j<b1.size:=ai▸bL;simp[h3 abv]at ag ⊢;exact ag
   rw[aA]at this;cases this
def Bw(e:dB):List Nat:=e.dst.toList++e.use
def Fj(ops:Array Oper)(o:Oper)(e:dB):List Nat:=Bw e++reads ops o
def D7(ms:List Nat)(i k:Nat):Bool:=if k<i then mr ms k i else mr ms i k
def Kz(ops:Array Oper)(ms:List Nat)(es:List dB):Bool:=
 q3 (fun i x=>q3 (fun k e=>k==i||D7 ms i k||!((Bw e).any fun t=>(Fj ops x.1 x.2).contains t)) 0 es) 0 (ops.toList.zip es)
def yN(ms:List Nat)(es:List dB)(i cZ:Nat)(s:Option Nat):Bool:=es.zipIdx.any fun y=>decide (cZ<=y.2)&&mr ms y.2 i&&(match s with | some t=>y.1.use.contains t | none=>false)
variable{es:List dB}
theorem RX{cZ:Nat}{s:Option Nat}(h:yN ms es i cZ s=true):∃m y t,es[m]?=some y/\cZ<=m/\mr ms m i=true/\t∈y.use/\s=some t:=by
 unfold yN at h;rw[nd]at h;obtain⟨⟨y,m⟩,h1,U⟩:=h;rw[List.mem_zipIdx_iff_getElem?]at h1;simp only[cm,cr]at U;cases s with
 | none=>simp at U
 | some t=>exact⟨m,y,t,h1,U.1.1,U.1.2,by simpa using U.2,rfl⟩
def KA(ms:List Nat)(es:List dB)(env0:List aJ)(bs:List (Nat×List aH)):Bool:=
 q3 (fun i e=>e.nW.isEmpty||
  (q3 (fun j x=>j==i||mr ms i j||!x.p.eU e.nW||(match x.dst with | some t=>e.use.contains t | none=>false)||x.dst==e.dst||yN ms es i (j+1) x.dst) 0 es&&
   q3 (fun t p=>!p.eU e.nW||e.use.contains t||yN ms es i 0 (some t)||e.dst==some t) 0 env0&&
   bs.all fun x=>!x.2.any (aH.eU e.nW))) 0 es
variable{e:dB}
theorem RY{t:Nat}(h:e.gM t≠none):t∈Bw e:=by
 unfold dB.gM at h;split at h
 ·rename_i aE;simp[Bw,aE]
 split at h
 ·rename_i hu;simp[Bw,hu]
 exact absurd rfl h
theorem RZ(h:Kz ops ms es=true){mv Hv:dB}(aU:ops[i]?=some o)(hi:es[i]?=some mv)(hk:es[k]?=some Hv)(ct:k≠i){t:Nat}
  (bH:Hv.gM t≠none) (aR:t∈Fj ops o mv):D7 ms i k=true:=by
 have h1:=wV h i (o,mv) (by
  rw[List.getElem?_zip_eq_some];exact⟨by simpa using aU,hi⟩)
 have U:=wV h1 k Hv hk;simp only[dG,lM,ed,fP]at U;rcases U with (U | U) | U
 ·exact absurd U ct
 ·exact U
 rw[fh]at U;have:=U t (RY bH);simp only[List.contains_iff_mem]at this;exact absurd aR this
variable{r:gk}
theorem Tag.pr(h:r.isEmpty=true)(t:Tag):t.eU r=false:=by
 cases t with
 | free=>rfl
 | own s=>rw[List.isEmpty_iff]at h;subst h;rfl
 | ro s=>rw[List.isEmpty_iff]at h;subst h;rfl
theorem aH.pr(h:r.isEmpty=true)(l:aH):l.eU r=false:=by
 cases l with
 | aO t i j k es m=>exact Tag.pr h (.own t)
 | ft t vs=>
  simp only[aH.eU,fB];refine⟨Tag.pr h (.own t),fh.2 fun c _=>?_⟩;cases c with
  | cq=>simp[e9.eU]
  | v x=>simp[e9.eU]
  | J t k es=>simp[e9.eU,Tag.pr h]
 | _=>simp[aH.eU,Tag.pr h]
theorem bC.pr(h:r.isEmpty=true)(a:bC):a.eU r=false:=by
 cases a<;>simp[bC.eU,aH.pr h]
theorem aJ.pr(h:r.isEmpty=true)(p:aJ):p.eU r=false:=by
 cases p<;>simp[aJ.eU,bC.pr h]
variable{bs:List (Nat×List aH)}
theorem atx{env0:List aJ}(h:KA ms es env0 bs=true)(hi:es[i]?=some e):
  (∀(j:Nat) (x:dB),es[j]?=some x->j≠i->mr ms i j=true\/x.p.eU e.nW=false\/(∃t,x.dst=some t/\t∈e.use)\/x.dst=e.dst\/yN ms es i (j+1) x.dst=true)/\
  (∀(t:Nat) (p:aJ),env0[t]?=some p->((p.eU e.nW=false\/t∈e.use)\/yN ms es i 0 (some t)=true)\/e.dst=some t)/\∀x∈bs,x.2.any (aH.eU e.nW)=false:=by
 have h1:=wV h i e hi;simp only[lM,cr]at h1;rcases h1 with h1 | h1
 ·refine⟨fun j x _ _=>.inr (.inl (aJ.pr h1 _)),fun t p _=>.inl (.inl (.inl (aJ.pr h1 _))),fun x _=>?_⟩;rw[fh];intro l _;simp[aH.pr h1]
 simp only[cm]at h1;obtain⟨⟨h1,U⟩,ax⟩:=h1;refine⟨fun j x aa ct=>?_,fun t p hp=>?_,fun x aa=>?_⟩
 ·have:=wV h1 j x aa;simp only[dG,lM,ed,fP,cm]at this;rcases this with ((((aK | aK) | aK) | aK) | aK) | aK
  rotate_left 4
  ·exact .inr (.inr (.inr (.inl aK)))
  ·exact .inr (.inr (.inr (.inr aK)))
  ·exact absurd aK ct
  ·exact .inl aK
  ·exact .inr (.inl aK)
  refine .inr (.inr (.inl ?_));split at aK
  ·rename_i t bH;exact⟨t,bH,by simpa using aK⟩
  cases aK
 ·have:=wV U t p hp;simp only[dG,lM,fP,List.contains_iff_mem,ed]at this;exact this
 rw[fK]at ax;simpa using ax x aa
theorem KB{L:Nat->Bool}{t:Nat}:∀{es:List dB} {k:Nat} {acc:aJ},(hh L t k es acc=acc/\∀(m:Nat) (y:dB),es[m]?=some y->L (k+m)=true->y.gM t=none)\/hh L t k es acc=.cq\/
  ∃j e,es[j]?=some e/\L (k+j)=true/\e.dst=some t/\hh L t k es acc=e.p/\∀(m:Nat) (y:dB),es[m]?=some y->j<m->L (k+m)=true->y.gM t=none
 | [],_,_=>.inl ⟨rfl,fun m y h=>by simp at h⟩
 | e::es,k,acc=>by
  simp only[hh];rcases KB (L:=L) (t:=t) (es:=es) (k:=k+1) (acc:=if L k then (e.gM t).getD acc else acc) with⟨h,aR⟩ | h | ⟨j,e',h1,U,ax,aK,a7⟩
  ·have tail:∀(m:Nat) (y:dB),(e::es)[m+1]?=some y->L (k+(m+1))=true->y.gM t=none:=fun m y bu ag=>aR m y (by simpa using bu) (by rwa[show k+1+m=k+(m+1) by omega])
   by_cases cN:L k=true
   ·rw[bi cN]at h ⊢;unfold dB.gM at h ⊢;by_cases aE:e.dst=some t
    ·rw[bi aE]at h ⊢;refine .inr (.inr ⟨0,e,rfl,cN,aE,h,fun m y bu hm ag=>?_⟩);cases m with
     | zero=>omega
     | succ m=>exact tail m y bu ag
    rw[ba aE]at h ⊢;by_cases hu:t∈e.use
    ·rw[bi hu]at h ⊢;exact .inr (.inl h)
    rw[ba hu]at h ⊢;refine .inl ⟨h,fun m y bu ag=>?_⟩;cases m with
    | zero=>
     simp only[kg,aX]at bu;subst bu;rw[ba aE,ba hu]
    | succ m=>exact tail m y bu ag
   rw[ba cN]at h ⊢;refine .inl ⟨h,fun m y bu ag=>?_⟩;cases m with
   | zero=>exact absurd ag (by simpa using cN)
   | succ m=>exact tail m y bu ag
  ·exact .inr (.inl h)
  refine .inr (.inr ⟨j+1,e',by simpa using h1,by rwa[show k+(j+1)=k+1+j by omega],ax,aK,fun m y bu hm ag=>?_⟩);cases m with
  | zero=>omega
  | succ m=>exact a7 m y (by simpa using bu) (by omega) (by rwa[show k+1+m=k+(m+1) by omega])
theorem Rq{t:Nat}:∀{es:List dB} {k i:Nat} {acc:aJ} {e:dB},es[i]?=some e->
  hh (fun j=>decide (j<k+i+1)) t k es acc=(e.gM t).getD (hh (fun j=>decide (j<k+i)) t k es acc)
 | [],_,_,_,_,h=>by simp at h
 | bM::es,k,0,acc,e,h=>by
  simp at h;subst h;have gS:∀(es:List dB) (k m:Nat) (acc:aJ),m<=k->hh (fun j=>decide (j<m)) t k es acc=acc:=by
   intro es;induction es with
   | nil=>intro k m acc _;rfl
   | cons e1 es dI=>
    intro k m acc hm;simp only[hh];rw[ba (by simpa using hm)];exact dI (k+1) m acc (by omega)
  simp only[hh];rw[bi (by simp),ba (by simp),gS _ _ _ _ (by omega),gS _ _ _ _ (by omega)]
 | bM::es,k,i+1,acc,e,h=>by
  simp only[hh];rw[bi (by simp;omega),bi (by simp)];have:=Rq (t:=t) (es:=es) (k:=k+1) (i:=i) (acc:=(bM.gM t).getD acc) (by simpa using h);rw[show k+1+i+1=k+(i+1)+1 by omega,show k+1+i=k+(i+1) by omega]at this;exact this
theorem Fk{env0:List aJ}{bs:List (Nat×List aH)}(aE:∀(i:Nat) (e:dB),es[i]?=some e->e.dst≠none):∀(i:Nat),i<=es.length->
  (es.take i).foldl (fun env e=>e.apply env) env0=(fg env0 bs (fun j=>decide (j<i)) es).env
 | 0,_=>by
  apply List.ext_getElem?;intro t;rw[qK];have gS:∀(es:List dB) (k:Nat) (acc:aJ),hh (fun j=>decide (j<0)) t k es acc=acc:=by
   intro es;induction es with
   | nil=>intro k acc;rfl
   | cons e1 es dI=>intro k acc;simp only[hh];rw[ba (by simp)];exact dI _ _
  cases h:env0[t]? with
  | none=>simp[h]
  | some p=>have:=gS es 0 p;simp only[h,List.take_zero,List.foldl_nil,n0,this]
 | i+1,hi=>by
  have bL:i<es.length:=by omega
  have he:es[i]?=some es[i]:=h4 bL;have dI:=Fk (env0:=env0) (bs:=bs) aE i (by omega);rw[r',he,zV,List.foldl_append,dI];simp only[List.foldl_cons,List.foldl_nil];apply List.ext_getElem?;intro t;rw[dB.apply_get (aE i _ he),qK,qK];cases h:env0[t]? with
  | none=>rfl
  | some p=>
   have:=Rq (t:=t) (es:=es) (k:=0) (i:=i) (acc:=p) he;simp only[dG]at this;simp[this]
theorem J3{bE:aF}{st1:aF}{ej:List ci}{cv:List Prop}{b:Bool}(h:rI ops st o []=some (b,st1,ej,cv))(ai:∀t∈reads ops o,st.env.getD t .cq=bE.env.getD t .cq):
  rI ops bE o []=some (b,bE,[],[]):=by
 unfold rI at h ⊢;cases av:o.guard with
 | none=>rw[av]at h;simp only[aX,bJ]at h;simp[<-h.1]
 | some g=>
  obtain⟨j,want⟩:=g;rw[av]at h;simp only at h ⊢;cases aE:(ops[j]?).bind (·.dst) with
  | none=>rw[aE]at h;cases h
  | some s=>
   rw[aE]at h;simp only at h ⊢;have:s∈reads ops o:=by simp[reads,Kv,av,aE]
   rw[ai s this]at h;split at h
   ·rename_i e;simp only[aX,bJ]at h;simp[e,<-h.1]
   ·rename_i e;simp only[aX,bJ]at h;simp[e,<-h.1]
   ·cases h
   cases h
variable{cu:List ci}{obs:List Prop}
theorem Rr(h:vl P st o ans=some (e,cu,obs)):
  ∃(v:h5) (d:Nat) (x y:Operand) (t:TypeId),rK st o=some v/\o.dst=some d/\o.op=.call ⟨.builtin .append,⟨[x,y]⟩,⟨[t,t]⟩⟩/\tG P t v.t v.i v.j v.k v.es v.esT (st.br y) ans=some (e.p,cu,obs)/\
   e=⟨some d,e.p,[],[]⟩/\(st.br x).leaf=some (.aO v.t v.i v.j v.k v.es .here)/\Gc v.t st.boxes=some (v.kT,v.esT):=by
 obtain⟨dst,op,type,pos,after,guard⟩:=o;unfold vl at h;split at h
 ·rename_i v d gx y t dt hi aE wg;simp only at aE wg;subst aE;subst wg;split at h
  ·rename_i AJ;subst AJ;rw[b8]at h;obtain⟨⟨bI,b2,cj⟩,h1,h⟩:=h;simp only[bJ]at h;obtain⟨rfl,rfl,rfl⟩:=h;have kn:=hi;simp only[rK]at kn;split at kn
   ·rename_i s i j k es ag;split at kn
    ·rename_i kT esT aj;cases kn;exact⟨_,d,gx,y,t,hi,rfl,rfl,h1,rfl,ag,aj⟩
    cases kn
   cases kn
  cases h
 cases h
theorem Rs{st bE:aF}(aj:st.boxes=bE.boxes)(h:∀x∈o.op.operands.toList,st.br x=bE.br x):rK st o=rK bE o:=by
 obtain⟨dst,op,type,pos,after,guard⟩:=o;simp only at h;unfold rK;simp only;split
 ·rename_i x y t dt;have aa:st.br x=bE.br x:=h x (by simp[Op.operands,Call.operands]);rw[aa,aj]
 rfl
theorem aty(aj:st.boxes=bE.boxes)(h:∀x∈o.op.operands.toList,st.br x=bE.br x):vl P st o ans=vl P bE o ans:=by
 unfold vl;rw[Rs aj h];split
 ·rename_i v d x y t dt h1 U ax;rw[h y (by rw[ax];simp[Op.operands,Call.operands])]
 rfl
theorem atz{v:h5}{q:aJ}(h:q.lm v.ng):∀a∈q.idx v.t v.j,a=v.i:=by
 have one:∀{a:bC},a.lm v.ng->∀x∈a.idx v.t v.j,x=v.i:=by
  intro a ae x aa;cases a with
  | one l=>exact ae.2 x aa
  | agg ls=>
   obtain⟨l,ag,aa⟩:=jU.1 aa;exact (ae l ag).2 x aa
 intro x aa;cases q with
 | aI a=>exact one h x aa
 | ga as=>
  obtain⟨a,ae,aa⟩:=jU.1 aa;exact one (h a ae) x aa
theorem atA{v:h5}{q:aJ}(h:q.lm v.ng):q.map (hj v.t v.i v.j v.k v.es v.kT v.esT)=q:=by
 have ls:∀{ls:List aH},(∀l∈ls,v.ng l)->ls.map (hj v.t v.i v.j v.k v.es v.kT v.esT)=ls:=by
  intro ls ag
  conv=>rhs;rw[<-sc ls]
  exact kz fun l hm=>(ag l hm).1
 have one:∀{a:bC},a.lm v.ng->a.map (hj v.t v.i v.j v.k v.es v.kT v.esT)=a:=by
  intro a ae;cases a with
  | one l=>simp only[bC.map];rw[ae.1]
  | agg l=>simp only[bC.map];rw[ls ae]
 cases q with
 | aI a=>simp only[aJ.map];rw[one h]
 | ga as=>
  simp only[aJ.map]
  congr 1
  conv=>rhs;rw[<-sc as]
  exact kz fun a hm=>one (h a hm)
theorem Fact.dst{env:List aJ}(h:Fact P ops bs env o e):e.dst≠none:=by
 rcases h with⟨_,_,_,_,d,aE,rfl⟩ | ⟨_,_,_,_,ans,bM,g,cu,obs,h1,_,U⟩ | ⟨_,_,_,_,ans,cu,obs,h1,_⟩
 rotate_left 2
 ·obtain⟨v,d,x,y,t,_,_,_,_,he,_⟩:=Rr h1;rw[he];simp
 ·simp[yM]
 obtain⟨_,d,aK,_⟩:=RR h1;obtain⟨u,U⟩:=U;rcases U with rfl | ⟨c,b,_,_,rfl⟩
 ·simp only[aK];simp
 simp only[aK];simp
variable{w0:eK}{a:Act}{w:World}
theorem Rel.bool{env:List aJ}{d:Nat}{c:Bool}(h:Rel w0 ⟨env.set d (.one (.bc c)),bs⟩ a w):Rel w0 ⟨env.set d (.one (.v (.bool c))),bs⟩ a w:=by
 obtain⟨ω,τ,h⟩:=h;refine⟨ω,τ,h.defers,by have:=h.size;simpa using this,h.below,h.owned,h.fixed,h.pinned,fun i p hp=>?_,h.boxes⟩;by_cases hi:d=i
 ·subst hi;rw[iT]at hp;split at hp
  ·split at hp
   ·rename_i ag;simp only[aX]at hp;subst hp;obtain⟨v,h1,U⟩:=h.env d (.one (.bc c)) (by simp[ag]);exact⟨v,h1,U⟩
   cases hp
  rename_i ct;exact absurd rfl ct
 exact h.env i p (by simpa[iT,hi]using hp)
section
variable {P : Program} {ops : Array Oper} {bs : List (Nat × List aH)} {env0 : List aJ} {es : List dB} {ms : List Nat}
def fm(b1:Array Bool)(j:Nat):Bool:=b1.getD j false
structure pS (P:Program) (ops:Array Oper) (bs:List (Nat×List aH)) (env0:List aJ) (es:List dB) (ms:List Nat):Prop where
 len:es.length<=ops.size
 facts:∀(i:Nat) (o:Oper),i<es.length->ops[i]?=some o->∃e,es[i]?=some e/\Fact P ops bs (fg env0 bs (fun j=>decide (j<i)) es).env o e
 masks:rL ms ops.toList=true
 aO:∀(i:Nat) (o:Oper) (v:h5),i<es.length->ops[i]?=some o->rK ⟨(fg env0 bs (fun j=>decide (j<i)) es).env,bs⟩ o=some v->
  (∀q∈env0,q.lm v.ng)/\(∀(j:Nat) (x:dB),es[j]?=some x->j≠i->x.p.lm v.ng)/\∀x∈bs,∀l∈x.2,v.ng l
 ord:Kz ops ms es=true
 tok:KA ms es env0 bs=true
variable{b1:Array Bool}{i:Nat}{e:dB}
theorem pS.same(h:pS P ops bs env0 es ms)(ak:qL ops b1)(ai:b1.size=ops.size)(hi:i∈Region.ready .any ops b1){o:Oper}(aU:ops[i]?=some o)(he:es[i]?=some e)
  {t:Nat} (bH:t∈Fj ops o e):(fg env0 bs (fm b1) es).env.getD t .cq=(fg env0 bs (fun j=>decide (j<i)) es).env.getD t .cq:=by
 rw[iv,iv,qK,qK];have kp:b1.getD i false=false:=by
  have bg:=(mem_ready.1 hi).1;have bL:i<b1.size:=ai▸(jz.1 aU).1;simp[h3 bL]at bg ⊢;exact bg
 cases aaP:env0[t]? with
 | none=>rfl
 | some p=>
  simp only[n0,ji];refine Bt fun j x7 bd AI=>?_
  rw[dG];by_cases qd:j=i
  ·subst qd;simp[fm,kp]
  have:=RZ h.ord aU he bd qd AI bH;unfold D7 at this;split at this
  ·rename_i bL;have:=Bv h.masks ak ai hi this;simp[fm,bL,this]
  rename_i bL;cases DK:b1.getD j false with
  | false=>simp[fm,DK,bL]
  | true=>have:=Fi h.masks ak ai j DK this;rw[kp]at this;cases this
theorem J4(bL:i<b1.size)(j:Nat):fm (b1.setIfInBounds i true) j=(if j=i then true else fm b1 j):=by
 unfold fm;split
 ·rename_i h;subst h;simp[bL]
 rename_i h;rw[getD_set_ne false (Ne.symm h)]
theorem pS.eN(h:pS P ops bs env0 es ms)(bL:i<b1.size)(he:es[i]?=some e){t:Nat}(bH:e.gM t=none)(p:aJ):
  hh (fm (b1.setIfInBounds i true)) t 0 es p=hh (fm b1) t 0 es p:=by
 refine Bt fun j x7 bd AI=>?_
 rw[dG,J4 bL,ba];rintro rfl;rw[he]at bd;cases bd;exact AI bH
theorem pS.last(h:pS P ops bs env0 es ms)(ak:qL ops b1)(ai:b1.size=ops.size)(hi:i∈Region.ready .any ops b1){o:Oper}(aU:ops[i]?=some o)(he:es[i]?=some e)
  {t:Nat} {q:aJ} (bH:e.gM t=some q) (p:aJ):hh (fm (b1.setIfInBounds i true)) t 0 es p=q:=by
 have bL:i<b1.size:=ai▸(jz.1 aU).1;have kp:b1.getD i false=false:=by
  have bg:=(mem_ready.1 hi).1;simp[h3 bL]at bg ⊢;exact bg
 refine RT he bH (by rw[dG,J4 bL,bi rfl]) fun j x7 bd abh AI=>?_
 rw[dG,J4 bL,ba (by omega)];have:=RZ h.ord aU he abh (by omega) AI (t:=t) (by
  unfold Fj;exact gN _ (RY (by rw[bH];simp)))
 unfold D7 at this;rw[ba (by omega)]at this;cases DK:fm b1 j with
 | false=>rfl
 | true=>have:=Fi h.masks ak ai j DK this;rw[kp]at this;cases this
theorem pS.step(h:pS P ops bs env0 es ms)(ak:qL ops b1)(ai:b1.size=ops.size)(hi:i∈Region.ready .any ops b1)(my:i<es.length){w0:eK}{w:World}{a:Act}
  (aA:Rel w0 (fg env0 bs (fm b1) es) a w) {Q:Exit->Act->World->Prop} {K:Act->World->Prop} (h8:∀cJ aS,Rel w0 (fg env0 bs (fm (b1.setIfInBounds i true)) es) cJ aS->K cJ aS):wpOp P ops Q i K a w:=by
 obtain⟨bg,o,aU,aze⟩:=mem_ready.1 hi;obtain⟨e,he,bw⟩:=h.facts i o my aU;have bL:i<b1.size:=ai▸(jz.1 aU).1;have abY:=fun t bH=>h.same ak ai hi aU he (t:=t) bH
 have AA:∀t∈reads ops o,(fg env0 bs (fun j=>decide (j<i)) es).env.getD t .cq=(fg env0 bs (fm b1) es).env.getD t .cq:=fun t bH=>(abY t (hR _ bH)).symm
 unfold wpOp;rw[aU];simp only;rcases bw with⟨st1,ej,cv,hw,d,aE,rfl⟩ | ⟨st1,ej,cv,hw,ans,bM,g,cu,obs,eI,Ir,DC⟩ | ⟨st1,ej,cv,hw,ans,cu,obs,IA,Ir⟩
 rotate_left 2
 ·have AN:=J3 hw (bE:=fg env0 bs (fm b1) es) AA;obtain⟨oo,_⟩:=wS AN trivial aA;rw[bi oo];left;have PX:∀x∈o.op.operands.toList,(fg env0 bs (fm b1) es).br x=aF.br ⟨(fg env0 bs (fun j=>decide (j<i)) es).env,bs⟩ x:=fun x aa=>PB fun t bH=>(AA t (by
   unfold reads;exact gN _ (List.mem_filterMap.2 ⟨x,aa,bH⟩))).symm
  have H2:vl P (fg env0 bs (fm b1) es) o ans=some (e,cu,obs):=by
   rw[<-IA];exact aty rfl PX
  obtain⟨v,d,x,y,t,aa9,aE,wg,yg,lW,aa,om⟩:=Rr H2;have aba:rK ⟨(fg env0 bs (fun j=>decide (j<i)) es).env,bs⟩ o=some v:=by
   rw[<-aa9];exact (Rs (st:=fg env0 bs (fm b1) es) (bE:=⟨(fg env0 bs (fun j=>decide (j<i)) es).env,bs⟩) rfl PX).symm
  obtain⟨aaS,aaT,PY⟩:=h.aO i o v my aU aba;have kp:b1.getD i false=false:=by
   simp[h3 bL]at bg ⊢;exact bg
  have ri:∀q∈(fg env0 bs (fm b1) es).env,q.lm v.ng:=by
   intro q az;simp only[fg]at az;rw[jX]at az;obtain⟨⟨iF,n⟩,hm,rfl⟩:=az;have mA:iF∈env0:=by
    rw[List.mem_zipIdx_iff_getElem?]at hm;exact fF hm
   simp only;rcases KB (L:=fm b1) (t:=n) (es:=es) (k:=0) (acc:=iF) with⟨h1,_⟩ | h1 | ⟨j,x7,h1,U,_,aK,_⟩
   ·rw[h1];exact aaS _ mA
   ·rw[h1];exact⟨rfl,fun a ae=>by simp[aH.idx]at ae⟩
   rw[aK];refine aaT j x7 h1 ?_;rintro rfl;rw[dG]at U;unfold fm at U;rw[kp]at U;cases U
  have DM:(fg env0 bs (fm b1) es).map (hj v.t v.i v.j v.k v.es v.kT v.esT)=fg env0 bs (fm b1) es:=by
   have e1:(fg env0 bs (fm b1) es).env.map (aJ.map (hj v.t v.i v.j v.k v.es v.kT v.esT))=(fg env0 bs (fm b1) es).env:=by
    conv=>rhs;rw[<-sc (fg env0 bs (fm b1) es).env]
    exact kz fun q az=>atA (ri q az)
   have e2:bs.map (fun x=>(x.1,x.2.map (hj v.t v.i v.j v.k v.es v.kT v.esT)))=bs:=by
    conv=>rhs;rw[<-sc bs]
    refine kz fun x aa=>?_
    obtain⟨lK,ho⟩:=x;simp only[id]
    congr 1
    conv=>rhs;rw[<-sc ho]
    exact kz fun l ag=>(PY _ aa l ag).1
   unfold aF.map;rw[e1];show aF.mk _ (bs.map _)=_;rw[e2];rfl
  have pd:∀a∈(fg env0 bs (fm b1) es).idx v.t v.j,a=v.i:=by
   intro cJ ae;unfold aF.idx at ae;rcases hD.1 ae with ae | ae
   ·obtain⟨q,az,ae⟩:=jU.1 ae;exact atz (ri q az) cJ ae
   obtain⟨z,a6,ae⟩:=jU.1 ae;obtain⟨l,ag,ae⟩:=jU.1 ae;exact (PY z a6 l ag).2 cJ ae
  obtain⟨ω,τ,e4⟩:=aA;obtain⟨z,aS,h1,U⟩:=e4.tG (P:=P) (d:=d) (ty:=o.type) (kT:=v.kT) (x:=x) (y:=y) (aJ.dN aa (e4.br x)) yg Ir (atv e4 om) pd;rw[DM]at U;obtain⟨dst,op,type,pos,after,guard⟩:=o;simp only at aE wg;subst aE;subst wg;refine Calls.of (z:=z) (aS:=aS) ?_ (h8 _ _ ?_)
  ·have:(execOp a.eval ⟨some d,.call ⟨.builtin .append,⟨[x,y]⟩,⟨[t,t]⟩⟩,type,pos,after,guard⟩)=(builtin .append ⟨[t,t]⟩ type (Array.map (fun | .const _=>true | _=>false) ⟨[x,y]⟩) (Array.map a.eval ⟨[x,y]⟩)):=by
    simp only[execOp,resolve];rfl
   rw[this];exact jh (by simpa using h1)
  refine U.weaken (by simp[yL]) rfl ?_;intro n p hp;right;rw[qK,b8]at hp;obtain⟨iF,mA,rfl⟩:=hp;rw[iT];have rf:e.dst=some d:=by rw[lW]
  have uh:e.use=[]:=by rw[lW]
  by_cases nB:d=n
  ·subst nB;have:d<env0.length:=(eW.1 mA).1;rw[bi rfl,bi (by simp[yL,this]),h.last ak ai hi aU he (q:=e.p) (by simp[dB.gM,rf])]
  rw[ba nB,qK,mA,n0,h.eN bL he (by simp[dB.gM,rf,nB,uh])]
 ·have AN:=J3 hw (bE:=fg env0 bs (fm b1) es) AA;obtain⟨oo,_⟩:=wS AN trivial aA;rw[ba (by rw[oo];simp)];refine h8 _ _ ((Kp aA).weaken ?_ ?_ ?_)
  ·simp[yL,Bs,aE]
  ·simp[fg,Bs,aE]
  intro t p hp;rw[qK,b8]at hp;obtain⟨iF,mA,rfl⟩:=hp;right;simp only[Bs,aE];rw[iT];by_cases nB:d=t
  ·subst nB;have:d<env0.length:=(eW.1 mA).1;rw[bi rfl,bi (by rw[yL];exact this),h.last ak ai hi aU he (q:=.one (.v undef)) (by simp[dB.gM,yM])]
  rw[ba nB,qK,mA,n0,h.eN bL he (by simp[dB.gM,yM,nB])]
 have AN:=J3 hw (bE:=fg env0 bs (fm b1) es) AA;obtain⟨oo,_⟩:=wS AN trivial aA;rw[bi oo];left;have H2:sq P (fg env0 bs (fm b1) es) o ans=some (bM,g,cu,obs):=by
  rw[<-eI];refine atw rfl fun x aa=>PB fun t bH=>(AA t ?_).symm
  unfold reads;exact gN _ (List.mem_filterMap.2 ⟨x,aa,bH⟩)
 obtain⟨av,d,H7,wg⟩:=RR H2;obtain⟨u,DC⟩:=DC;have yr:e.nW=bM.nW/\e.dst=bM.dst:=by
  rcases DC with rfl | ⟨c,b,_,_,rfl⟩
  ·exact⟨rfl,rfl⟩
  exact⟨rfl,rfl⟩
 obtain⟨yr,aaN⟩:=yr;rw[<-yr]at av;obtain⟨ab6,ab7,ab8⟩:=atx h.tok he;have aay:((fg env0 bs (fm b1) es).map (aH.cz g fun _=>true)).boxes=bs:=by
  simp only[aF.map,fg]
  conv=>rhs;rw[<-sc bs]
  refine kz fun x aa=>?_
  obtain⟨lK,ho⟩:=x;simp only[id,RL av (ab8 _ aa)]
 refine atn wg Ir aA fun cJ aS eo=>h8 _ _ ?_
 rw[aay]at eo;have lx:Rel w0 ⟨((fg env0 bs (fm b1) es).map (aH.cz g fun _=>true)).env.set d e.p,bs⟩ cJ aS:=by
  rcases DC with rfl | ⟨c,b,hp,gf,rfl⟩
  ·exact eo
  rw[hp]at eo;subst gf;exact eo.bool
 refine lx.weaken (by simp[yL,aF.map]) rfl ?_;intro t p hp;rw[qK,b8]at hp;obtain⟨iF,mA,rfl⟩:=hp;rw[iT];have rf:e.dst=some d:=aaN.trans H7;by_cases nB:d=t
 ·subst nB;right;have:d<env0.length:=(eW.1 mA).1;rw[bi rfl,bi (by simp[aF.map,yL,this]),h.last ak ai hi aU he (q:=e.p) (by simp[dB.gM,rf])]
 rw[ba nB];by_cases DW:t∈e.use
 ·left;exact h.last ak ai hi aU he (by simp[dB.gM,rf,nB,DW]) iF
 have Ih:=h.eN bL he (t:=t) (by simp[dB.gM,rf,nB,DW]) iF;rw[Ih];have abz:hh (fm b1) t 0 es iF=.cq\/(hh (fm b1) t 0 es iF).eU e.nW=false:=by
  rcases KB (L:=fm b1) (t:=t) (es:=es) (k:=0) (acc:=iF) with⟨h1,gS⟩ | h1 | ⟨j,x7,h1,U,ax,aK,gS⟩
  ·right;rw[h1];rcases ab7 t iF mA with (a7 | a7) | a7
   rotate_left 2
   ·rw[rf]at a7;exact absurd (eE a7) nB
   ·exact a7.resolve_right DW
   ·obtain⟨m,y,dt,hm,_,ae,hu,bH⟩:=RX a7;cases bH;have:=gS m y hm (by rw[dG];exact Bv h.masks ak ai hi ae);unfold dB.gM at this;rw[bi hu]at this;split at this<;>cases this
  ·exact .inl h1
  right;rw[aK];rw[dG]at U;have kp:b1.getD i false=false:=by
   simp[h3 bL]at bg ⊢;exact bg
  have qd:j≠i:=by rintro rfl;unfold fm at U;rw[kp]at U;cases U
  rcases ab6 j x7 h1 qd with a7 | a7 | a7 | a7 | a7
  rotate_left 3
  ·rw[ax,rf]at a7;exact absurd (eE a7).symm nB
  ·obtain⟨m,y,dt,hm,P9,ae,hu,bH⟩:=RX a7;rw[ax]at bH;cases bH;have:=gS m y hm (by omega) (by rw[dG];exact Bv h.masks ak ai hi ae);unfold dB.gM at this;rw[bi hu]at this;split at this<;>cases this
  ·have:=Fi h.masks ak ai j U a7;rw[kp]at this;cases this
  ·exact a7
  obtain⟨dt,bp,b6⟩:=a7;rw[ax]at bp;cases bp;exact absurd b6 DW
 rcases abz with h1 | h1
 ·exact .inl h1
 right;simp only[aF.map,du];rw[qK,mA];simp only[n0,aJ.xE av h1]
def J5(ops:Array Oper)(ms:List Nat)(k:Nat):Prop:=∀i,k<=i->i<ops.size->∀j,j<i->mr ms j i=true
theorem pS.any(h:pS P ops bs env0 es ms)(aj:J5 ops ms es.length){w0:eK}{Q:Exit->Act->World->Prop}
  (jn:∀(ht:Nat) {b1:Array Bool},qL ops b1->b1.size=ops.size->(∀j,j<es.length->b1.getD j false=true)->(∀j,es.length<=j->b1.getD j false=false)->b1.count false<=ht->
   ∀{a:Act} {w:World},Rel w0 (fg env0 bs (fun j=>decide (j<es.length)) es) a w->wpAny P .any ops Q ht b1 a w):
  ∀(ht:Nat) {b1:Array Bool},qL ops b1->b1.size=ops.size->(∀j,es.length<=j->b1.getD j false=false)->b1.count false<=ht->
  ∀{a:Act} {w:World},Rel w0 (fg env0 bs (fm b1) es) a w->wpAny P .any ops Q ht b1 a w:=by
 intro ht;induction ht with
 | zero=>
  intro b1 ak ai kp sG a w aA;by_cases hV:∀j,j<es.length->b1.getD j false=true
  ·refine jn 0 ak ai hV kp sG ?_;have:fg env0 bs (fm b1) es=fg env0 bs (fun j=>decide (j<es.length)) es:=by
    unfold fg
    congr 1
    refine kz fun x _=>?_
    refine Bt fun j e bd _=>?_
    have bL:j<es.length:=(eW.1 bd).1;rw[dG];simp only[fm,hV j bL,bL,decide_true]
   rwa[<-this]
  exfalso;apply hV;intro j bd;have bL:j<b1.size:=ai▸zT bd h.len;cases bw:b1[j] with
  | true=>simp[h3 bL,bw]
  | false=>
   have:0<b1.count false:=by
    rw[Array.count_pos_iff];exact bw▸Array.getElem_mem bL
   omega
 | succ ht dI=>
  intro b1 ak ai kp sG a w aA;by_cases hV:∀j,j<es.length->b1.getD j false=true
  ·refine jn _ ak ai hV kp sG ?_;have:fg env0 bs (fm b1) es=fg env0 bs (fun j=>decide (j<es.length)) es:=by
    unfold fg
    congr 1
    refine kz fun x _=>?_
    refine Bt fun j e bd _=>?_
    have bL:j<es.length:=(eW.1 bd).1;rw[dG];simp only[fm,hV j bL,bL,decide_true]
   rwa[<-this]
  refine⟨fun wc=>absurd (fun j bd=>Ky h.masks ai wc j (zT bd h.len)) hV,fun i hi=>?_⟩;have my:i<es.length:=by
   rcases sa i es.length with h1 | h1
   ·exact h1
   exfalso;obtain⟨_,o,aU,_⟩:=mem_ready.1 hi;have bL:i<ops.size:=(jz.1 aU).1;exact hV fun j bd=>Bv h.masks ak ai hi (aj i h1 bL j (zT bd h1))
  refine h.step ak ai hi my aA fun cJ aS eo=>dI (ak.ready hi) (by simpa using ai) (fun j bd=>?_) ?_ eo
  ·rw[getD_set_ne false (by omega)];exact kp j bd
  obtain⟨h1,o,aU,_⟩:=mem_ready.1 hi;have bL:i<b1.size:=ai▸(jz.1 aU).1;have bw:b1[i]=false:=by simpa[h3 bL]using h1
  have:(b1.setIfInBounds i true).count false=b1.count false-1:=by
   have e:b1.setIfInBounds i true=b1.set i true bL:=by unfold Array.setIfInBounds;rw[dif_pos bL]
   rw[e,Array.count_set];simp[bw]
  omega
end
def yO(P:Program)(ops:Array Oper):List Oper->aF->List ci->Stepped
 | [],st,ans=>some (st,ans,[])
 | o::rest,st,ans=>
  match qt P ops o st ans with
  | some (st1,fr,fM)=>(yO P ops rest st1 fr).map fun r=>(r.1,r.2.1,fM++r.2.2)
  | none=>none
theorem Rt{Q:Exit->Act->World->Prop}(hi:ops[i]?=some o)(h:qt P ops o st ans=some (bE,cu,obs))(aU:cO obs)
  {a:Act} {w:World} (aZ:Rel w0 st a w) {K:Act->World->Prop} (h8:∀cJ aS,Rel w0 bE cJ aS->K cJ aS):wpOp P ops Q i K a w:=by
 unfold wpOp;rw[hi];simp only;unfold qt at h;split at h
 ·rename_i st1 fr fM hw;rw[b8]at h;obtain⟨⟨bI,b2,cj⟩,h1,h⟩:=h;simp only[bJ]at h;obtain⟨rfl,rfl,rfl⟩:=h;obtain⟨cv,ca⟩:=aU.append;obtain⟨oo,e4⟩:=wS hw cv aZ;rw[bi oo];exact .inl (Ko h1 ca e4 fun cJ aS eo=>h8 _ _ eo)
 ·rename_i st1 fr fM hw;simp only[aX,bJ]at h;obtain⟨rfl,rfl,rfl⟩:=h;obtain⟨oo,e4⟩:=wS hw aU aZ;rw[ba (by rw[oo];simp)];exact h8 _ _ (Kp e4)
 cases h
theorem atB(hm:rL ms ops.toList=true)(aj:J5 ops ms k){Q:Exit->Act->World->Prop}:∀(ht n:Nat) {b1:Array Bool},k<=n->n<=ops.size->
  qL ops b1->b1.size=ops.size->(∀j,j<n->b1.getD j false=true)->(∀j,n<=j->b1.getD j false=false)->b1.count false<=ht->
  ∀{st bE:aF} {ans cu:List ci} {obs:List Prop},yO P ops (ops.toList.drop n) st ans=some (bE,cu,obs)->cO obs->
  ∀{a:Act} {w:World},Rel w0 st a w->(∀cJ aS,Rel w0 bE cJ aS->Q .normal cJ aS)->wpAny P .any ops Q ht b1 a w:=by
 have fin:∀{b1:Array Bool} {n:Nat},n=ops.size->b1.size=ops.size->(∀j,j<n->b1.getD j false=true)->Region.ready .any ops b1=[]:=by
  intro b1 n aR ai h1;rw[List.eq_nil_iff_forall_not_mem];intro j bd;obtain⟨U,o,aU,_⟩:=mem_ready.1 bd;have bL:j<ops.size:=(jz.1 aU).1;have ax:=h1 j (aR▸bL);have jE:j<b1.size:=ai▸bL;simp[h3 jE]at U ax;rw[U]at ax;cases ax
 intro ht;induction ht with
 | zero=>
  intro n b1 abl aR ak ai h1 U sG st bE ans cu obs h aU a w aA jn;have v':n=ops.size:=by
   rcases sa n ops.size with bL | nC
   ·have jE:n<b1.size:=ai▸bL;have bw:b1[n]=false:=by simpa[h3 jE]using U n (ei _)
    have:0<b1.count false:=by
     rw[Array.count_pos_iff];exact bw▸Array.getElem_mem jE
    omega
   omega
  rw[List.drop_eq_nil_of_le (by simp[v'])]at h;simp only[yO,aX,bJ]at h;obtain⟨rfl,_,_⟩:=h;exact⟨fin v' ai h1,jn _ _ aA⟩
 | succ ht dI=>
  intro n b1 abl aR ak ai h1 U sG st bE ans cu obs h aU a w aA jn;rcases sa n ops.size with bL | nC
  ·have jE:n<b1.size:=ai▸bL;have aE:ops.toList.drop n=ops[n]::ops.toList.drop (n+1):=by
    rw[List.drop_eq_getElem_cons (by simpa using bL)];simp
   rw[aE]at h;simp only[yO]at h;split at h
   ·rename_i st1 fr fM ax;rw[b8]at h;obtain⟨⟨bI,b2,cj⟩,aK,h⟩:=h;simp only[bJ]at h;obtain⟨rfl,rfl,rfl⟩:=h;obtain⟨cv,ca⟩:=aU.append;refine⟨fun wc=>?_,fun i hi=>?_⟩
    ·exfalso;have:=Ky hm ai wc n bL;rw[U n (ei _)]at this;cases this
    have i':i=n:=by
     obtain⟨a7,o,kL,_⟩:=mem_ready.1 hi;have t':i<ops.size:=(jz.1 kL).1;have kn:i<b1.size:=ai▸t';rcases Nat.lt_trichotomy i n with bp | bp | bp
     ·have b6:=h1 i bp;simp[h3 kn]at a7 b6;rw[a7]at b6;cases b6
     ·exact bp
     have:=Bv hm ak ai hi (aj i (by omega) t' n bp);rw[U n (ei _)]at this;cases this
    subst i';refine Rt (h3 bL) ax cv aA fun cJ aS eo=>dI (i+1) (by omega) (by omega) (ak.ready hi) (by simpa using ai) (fun j bd=>?_) (fun j bd=>?_) ?_ aK ca eo jn
    ·by_cases qd:j=i
     ·subst qd;have a6:j<(b1.setIfInBounds j true).size:=by simpa using jE
      simp[h3 a6]
     rw[getD_set_ne false (Ne.symm qd)];exact h1 j (by omega)
    ·rw[getD_set_ne false (by omega)];exact U j (by omega)
    have bw:b1[i]=false:=by simpa[h3 jE]using U i (ei _)
    have:(b1.setIfInBounds i true).count false=b1.count false-1:=by
     have e:b1.setIfInBounds i true=b1.set i true jE:=by unfold Array.setIfInBounds;rw[dif_pos jE]
     rw[e,Array.count_set];simp[bw]
    omega
   cases h
  have v':n=ops.size:=by omega
  rw[List.drop_eq_nil_of_le (by simp[v'])]at h;simp only[yO,aX,bJ]at h;obtain⟨rfl,_,_⟩:=h;have wc:=fin v' ai h1;refine⟨fun _=>jn _ _ aA,fun i hi=>?_⟩;rw[wc]at hi;cases hi
def tr(ms:List Nat):Nat->Nat
 | 0=>0
 | i+1=>if ms.getD i 0==2 ^ i-1 then tr ms i else i+1
theorem Ru(ms:List Nat):∀n,tr ms n<=n
 | 0=>ei _
 | n+1=>by
  unfold tr;split
  ·exact nc (Ru ms n) (Nat.le_succ n)
  exact ei _
theorem Rv(ms:List Nat):∀n i,tr ms n<=i->i<n->∀j,j<i->mr ms j i=true
 | 0,_,_,h,_,_=>absurd h (Nat.not_lt_zero _)
 | n+1,i,h1,U,j,bd=>by
  unfold tr at h1;split at h1
  ·rename_i he;by_cases i':i=n
   ·subst i';unfold mr;rw[eq_of_beq he,Nat.testBit_two_pow_sub_one,iV bd]
   exact Rv ms n i h1 (by omega) j bd
  omega
theorem Sat.drew{ω:Own}{τ:Nat->Nat×Value}{l:aH}{y:Value}(h:Sat w ω τ l y):Sat w.drew ω τ l y:=by
 have bw:∀{R:List (Nat×Nat)->c8->Prop} {d:D} {y:Value},b7 w ω R d y->b7 w.drew ω R d y:=fun h=>h.frame fun _ _ _ az=>⟨az,rfl⟩
 cases l with
 | J t k es=>exact⟨bw h.1,h.2⟩
 | ep t k es i j=>
  obtain⟨b,off,cap,h1,U,ax,aK⟩:=h;exact⟨b,off,cap,h1,U,bw ax,aK⟩
 | h0 ds off=>
  obtain⟨b,h1,U⟩:=h;exact⟨b,h1,bw U⟩
 | fd d=>exact bw h
 | dx t k es=>exact⟨bw h.1,h.2⟩
 | aO t i j k es m=>
  obtain⟨u,hu,h1,hm⟩:=h;exact⟨u,hu,bw h1,hm⟩
 | ft t vs=>
  obtain⟨b,ty,arr,h1,U,ax,aR,bF⟩:=h;refine⟨b,ty,arr,h1,U,ax,aR,fun j c ak=>?_⟩;obtain⟨u,fV,fk⟩:=bF j c ak;refine⟨u,fV,?_⟩;cases c with
  | cq=>exact trivial
  | v x=>exact fk
  | J t k es=>exact⟨bw fk.1,fk.2⟩
 | _=>exact h
theorem Rel.drew(h:Rel w0 st a w):Rel w0 st a w.drew:=by
 obtain⟨ω,τ,h⟩:=h;have hi:∀p:aJ,p.map _root_.id=p:=by
  intro p;cases p with
  | aI a=>cases a<;>simp[aJ.map,bC.map]
  | ga as=>
   simp only[aJ.map]
   congr 1
   have:bC.map _root_.id=_root_.id:=by funext a;cases a<;>simp[bC.map]
   rw[this];simp
 refine⟨ω,τ,h.defers,h.size,h.below.next (gO.refl _ _).drew,h.owned,h.fixed,h.pinned,fun i p hp=>?_,fun id ls ag=>?_⟩
 ·obtain⟨v,h1,U⟩:=h.env i p hp;have:=cU.map (kE:=Sat w.drew ω τ) (f:=_root_.id) (fun l v ai=>Sat.drew ai) U;rw[hi]at this;exact⟨v,h1,this⟩
 obtain⟨b,arr,ty,h1,U,ax,aK⟩:=h.boxes id ls ag;have:=kk.map (kE:=Sat w.drew ω τ) (f:=_root_.id) (fun l v ai=>Sat.drew ai) aK;rw[sc]at this;exact⟨b,arr,ty,h1,U,ax,this⟩
def Fl:Nat->List aJ->List Nat
 | _,[]=>[]
 | i,p::r=>match p.leaf with | some (.ft t _)=>if t=i then i::Fl (i+1) r else Fl (i+1) r | _=>Fl (i+1) r
def yP(env:List aJ):List Oper->List Nat
 | []=>[]
 | o::r=>
  match o.dst,o.op with
  | none,.store _ (.tmp s) _=>
   match (env.getD s .cq).leaf with
   | some (.ptr d 0)=>if d=s/\s<dj/\!(yP env r).contains s then s::yP env r else yP env r
   | _=>yP env r
  | _,_=>yP env r
def atC(env0:List aJ)(bs:List (Nat×List aH))(es:List dB)(i:Nat):List aH:=
 env0.flatMap aJ.uk++(bs.flatMap (·.2)++(es.zipIdx.filter fun x=>x.2 != i).flatMap fun x=>x.1.p.uk)
def J6(P:Program)(ops:Array Oper)(st:aF)(ans:List ci):Stepped:=
 let gs:=ops.toList.filterMap (Kv ops)
 let ms:=rz ops.toList []
 let k:=tr ms ops.size
 match Bo (yP st.env (ops.toList.take k)) st with
 | some fE=>
  match uJ P ops gs fE.boxes (ops.toList.take k) fE.env ans with
  | some (es,tN,fr,fM)=>
   if P.follows .mixedOrders&&rL ms ops.toList&&Kz ops ms es&&KA ms es fE.env fE.boxes then
    match Bp (Fl 0 tN) ⟨tN,fE.boxes⟩,zz fE.boxes (atC fE.env fE.boxes es) 0 (ops.toList.take k) fE.env es with
    | some st2,some yG=>(yO P ops (ops.toList.drop k) st2 fr).map fun r=>(r.1,r.2.1,fM++(yG++r.2.2))
    | _,_=>none
   else none
  | none=>none
 | none=>none
theorem atD(h:J6 P ops st ans=some (bE,cu,obs))(aU:cO obs)(aA:Rel w0 st a w){id:Nat}
  {Q:Exit->Act->World->Prop} (jn:∀cJ aS,Rel w0 bE cJ aS->Q .normal cJ aS):(Code.region id ops true).wp P Q a w:=by
 unfold J6 at h;simp only at h;split at h
 case h_2=>cases h
 rename_i fE Qs;replace aA:=Sj aA Qs;clear Qs;revert aA h;generalize fE=st;intro h aA;split at h
 ·rename_i es tN fr fM fU;split at h
  ·rename_i ak;split at h
   rotate_left
   ·cases h
   rename_i st2 yG Im ab1;rw[b8]at h;obtain⟨⟨bI,b2,cj⟩,ab3,h⟩:=h;simp only[bJ]at h;obtain⟨rfl,rfl,rfl⟩:=h;obtain⟨Io,Ip⟩:=aU.append;obtain⟨abH,Ip⟩:=Ip.append;simp only[cm]at ak;obtain⟨⟨⟨hm,Qa⟩,abK⟩,j'⟩:=ak;have azm:=Ru (rz ops.toList []) ops.size;obtain⟨hlen,vY,PZ⟩:=Bu fU Io;have abp:es.length=tr (rz ops.toList []) ops.size:=by
    rw[hlen,qW,vy];omega
   have Qt:∀(i:Nat),i<es.length->(ops.toList.take (tr (rz ops.toList []) ops.size))[i]?=ops[i]?:=by
    intro i hi;rw[kX,bi (by omega),nY]
   have aE:∀(i:Nat) (e:dB),es[i]?=some e->e.dst≠none:=by
    intro i e hi;have bL:i<(ops.toList.take (tr (rz ops.toList []) ops.size)).length:=hlen▸(eW.1 hi).1;obtain⟨e',h1,U⟩:=PZ i _ (h4 bL);rw[hi]at h1;cases h1;exact U.dst
   have yf:pS P ops st.boxes st.env es (rz ops.toList []):=by
    refine⟨by omega,fun i o my hi=>?_,Qa,fun i o v my hi bF=>?_,abK,j'⟩
    rotate_left
    ·have DU:=RU ab1 abH i o (by rw[Qt i my];exact hi) my v (by
      rw[<-Fk (bs:=st.boxes) aE i (by omega)]at bF;exact bF)
     rw[dG]at DU;refine⟨fun q az=>aJ.AX fun l ag=>DU l ?_,fun j x bd ct=>aJ.AX fun l ag=>DU l ?_,fun x aa l ag=>DU l ?_⟩
     ·exact gN _ (jU.2 ⟨q,az,ag⟩)
     ·refine hR _ (hR _ (jU.2 ⟨(x,j),List.mem_filter.2 ⟨?_,by simpa using ct⟩,ag⟩));rw[List.mem_zipIdx_iff_getElem?];exact bd
     exact hR _ (gN _ (jU.2 ⟨x,aa,ag⟩))
    obtain⟨e,h1,U⟩:=PZ i o (by rw[Qt i my];exact hi);refine⟨e,h1,?_⟩;rwa[Fk (bs:=st.boxes) aE i (by omega)]at U
   have sA:J5 ops (rz ops.toList []) es.length:=fun i h1 U j bd=>Rv _ _ i (by omega) U j bd
   refine wp_region_any hm (yf.any sA (w0:=w0) ?_ ops.size ?_ (by simp) ?_ ?_ ?_)
   ·intro ht b1 p' ai sL dq sG cJ aS eo;refine atB Qa sA ht es.length (ei _) (by omega) p' ai sL dq sG (st:=st2) (by rw[abp];exact ab3) Ip (Sk ?_ Im) jn;have:=Fk (env0:=st.env) (bs:=st.boxes) aE es.length (ei _);rw[lh,<-vY]at this;rw[this];exact eo
   ·intro j o bd;have:=Fh bd;simp at this;simp[this]at bd
   ·intro j _;by_cases bd:j<ops.size
    ·simp[bd]
    simp[bd]
   ·simp[Array.count_replicate]
   have:fg st.env st.boxes (fm (Array.replicate ops.size false)) es=st:=by
    have gS:∀(es:List dB) (t k:Nat) (acc:aJ),hh (fm (Array.replicate ops.size false)) t k es acc=acc:=by
     intro es;induction es with
     | nil=>intro t k acc;rfl
     | cons e1 es dI=>
      intro t k acc;simp only[hh];rw[ba,dI];unfold fm;intro ak;have:=Fh ak;simp at this;simp[this]at ak
    obtain⟨env,bs⟩:=st;unfold fg
    congr 1
    simp only[gS];apply List.ext_getElem?;intro t;simp
   rw[this];exact aA.drew
  cases h
 cases h
end Go.Sx
namespace Go.Sx
open Go.RowKit
def eA(P:Program)(ops:Array Oper)(st bE:aF):Prop:=
 ∀(w0:eK) (a:Act) (w:World) (id:Nat) (Q:Exit->Act->World->Prop),Rel w0 st a w->(∀cJ aS,Rel w0 bE cJ aS->Q .normal cJ aS)->(Code.region id ops true).wp P Q a w
def Fm(o:Oper)(m:Nat):Bool:=o.after.toList.all fun e=>!Region.binds .any e||m.testBit e.on
def qq(m:Nat):Nat->List Oper->List (Nat×Oper)
 | _,[]=>[]
 | i,o::r=>if !m.testBit i&&Fm o m then (i,o)::qq m (i+1) r else qq m (i+1) r
def runM(P:Program)(ops:Array Oper)(A:List (List ci))(m:Nat):Nat->List Oper->aF->aF
 | _,[],st=>st
 | i,o::r,st=>if m.testBit i then (match qt P ops o st (A.getD i []) with | some x=>runM P ops A m (i+1) r x.1 | none=>st) else runM P ops A m (i+1) r st
def zZ(x:Nat)(l:List Nat):List Nat:=if l.any (Nat.beq x) then l else x::l
def AY:Nat->List (Nat×Oper)->List Nat->List Nat
 | _,[],l=>l
 | m,x::r,l=>zZ (m ||| 2 ^ x.1) (AY m r l)
def A0(ops:List Oper):List Nat->List Nat
 | []=>[]
 | m::r=>AY m (qq m 0 ops) (A0 ops r)
abbrev xQ:=Option (aF×List ci×List Prop)
def Dr(P:Program)(ops:Array Oper)(A:List (List ci))(st:aF):List (Nat×Oper)->List xQ
 | []=>[]
 | x::r=>qt P ops x.2 st (A.getD x.1 [])::Dr P ops A st r
def Dt(P:Program)(ops:Array Oper)(A:List (List ci))(O:List (List Prop))(fE:aF)(m:Nat):List (Nat×Oper)->List xQ
 | []=>[]
 | x::r=>some (runM P ops A (m ||| 2 ^ x.1) 0 ops.toList fE,[],O.getD x.1 [])::Dt P ops A O fE m r
def Ds(P:Program)(ops:Array Oper)(A:List (List ci))(fE:aF):List Nat->List (List xQ)
 | []=>[]
 | m::r=>Dr P ops A (runM P ops A m 0 ops.toList fE) (qq m 0 ops.toList)::Ds P ops A fE r
def Du(P:Program)(ops:Array Oper)(A:List (List ci))(O:List (List Prop))(fE:aF):List Nat->List (List xQ)
 | []=>[]
 | m::r=>Dt P ops A O fE m (qq m 0 ops.toList)::Du P ops A O fE r
def z7(P:Program)(ops:Array Oper)(A:List (List ci))(fE:aF):Nat->List Nat->List (List (List xQ))
 | 0,_=>[]
 | n+1,l=>Ds P ops A fE l::z7 P ops A fE n (A0 ops.toList l)
def z8(P:Program)(ops:Array Oper)(A:List (List ci))(O:List (List Prop))(fE:aF):Nat->List Nat->List (List (List xQ))
 | 0,_=>[]
 | n+1,l=>Du P ops A O fE l::z8 P ops A O fE n (A0 ops.toList l)
variable{P:Program}{ops:Array Oper}{A:List (List ci)}{O:List (List Prop)}{fE st:aF}{m:Nat}
theorem Rw:∀{l:List (Nat×Oper)},Dr P ops A st l=Dt P ops A O fE m l->
  ∀x∈l,qt P ops x.2 st (A.getD x.1 [])=some (runM P ops A (m ||| 2 ^ x.1) 0 ops.toList fE,[],O.getD x.1 [])
 | [],_,x,aa=>by cases aa
 | y::r,h,x,aa=>by
  simp only[Dr,Dt,sb]at h;rcases ez.1 aa with rfl | aa
  ·exact h.1
  exact Rw h.2 x aa
theorem Rx:∀{l:List Nat},Ds P ops A fE l=Du P ops A O fE l->
  ∀m∈l,∀x∈qq m 0 ops.toList,qt P ops x.2 (runM P ops A m 0 ops.toList fE) (A.getD x.1 [])=some (runM P ops A (m ||| 2 ^ x.1) 0 ops.toList fE,[],O.getD x.1 [])
 | [],_,m,hm=>by cases hm
 | m0::r,h,m,hm=>by
  simp only[Ds,Du,sb]at h;rcases ez.1 hm with rfl | hm
  ·exact Rw h.1
  exact Rx h.2 m hm
theorem atE{x:Nat}{l:List Nat}:x∈zZ x l:=by
 unfold zZ;split
 ·rename_i h;obtain⟨y,bu,he⟩:=nd.1 h;rwa[Nat.eq_of_beq_eq_true he]
 exact eO
theorem Ry{x y:Nat}{l:List Nat}(h:y∈l):y∈zZ x l:=by
 unfold zZ;split
 ·exact h
 exact fi _ h
theorem Rz{x:Nat×Oper}:∀{r:List (Nat×Oper)} {l:List Nat},x∈r->(m ||| 2 ^ x.1)∈AY m r l
 | [],_,h=>by cases h
 | y::r,l,h=>by
  simp only[AY];rcases ez.1 h with rfl | h
  ·exact atE
  exact Ry (Rz h)
theorem S3{k:Nat}:∀{r:List (Nat×Oper)} {l:List Nat},k∈l->k∈AY m r l
 | [],_,h=>h
 | _::_,_,h=>Ry (S3 h)
theorem S4{ops:List Oper}{x:Nat×Oper}:∀{l:List Nat},m∈l->x∈qq m 0 ops->(m ||| 2 ^ x.1)∈A0 ops l
 | [],h,_=>by cases h
 | k::r,h,aa=>by
  simp only[A0];rcases ez.1 h with rfl | h
  ·exact Rz aa
  exact S3 (S4 h aa)
theorem S5{m:Nat}:∀{l:List Oper} {i j:Nat} {o:Oper},l[j]?=some o->m.testBit (i+j)=false->Fm o m=true->(i+j,o)∈qq m i l
 | [],_,_,_,h,_,_=>by simp at h
 | y::r,i,0,o,h,h1,U=>by
  simp only[kg,aX]at h;subst h;simp only[qq];rw[bi (by rw[m']at h1;simp[h1,U])];exact eO
 | y::r,i,j+1,o,h,h1,U=>by
  have:=S5 (m:=m) (l:=r) (i:=i+1) (j:=j) (o:=o) (by simpa using h) (by rwa[show i+1+j=i+(j+1) by omega]) U;rw[show i+1+j=i+(j+1) by omega]at this;simp only[qq];split
  ·exact fi _ this
  exact this
theorem J7{m k:Nat}:∀{l:List Oper} {i:Nat} {st:aF},(∀j,i<=j->j<i+l.length->m.testBit j=k.testBit j)->runM P ops A m i l st=runM P ops A k i l st
 | [],_,_,_=>rfl
 | o::r,i,st,h=>by
  simp only[runM];rw[h i (ei _) (by simp)];split
  ·split
   ·exact J7 fun j h1 U=>h j (by omega) (by simp only[dK];omega)
   rfl
  exact J7 fun j h1 U=>h j (by omega) (by simp only[dK];omega)
theorem S6:∀{O:List (List Prop)} (i:Nat),cO O.flatten->cO (O.getD i [])
 | [],i,_=>by simp[cO]
 | o::r,0,h=>by
  rw[List.flatten_cons]at h;exact (cO.append h).1
 | o::r,i+1,h=>by
  rw[List.flatten_cons]at h;exact S6 i (cO.append h).2
theorem atF{ms:List Nat}{w0:eK}{Q:Exit->Act->World->Prop}(hm:rL ms ops.toList=true)(aU:cO O.flatten)
  (jn:∀cJ aS,Rel w0 (runM P ops A (2 ^ ops.size-1) 0 ops.toList fE) cJ aS->Q .normal cJ aS):∀(ht:Nat) {l:List Nat},z7 P ops A fE ht l=z8 P ops A O fE ht l->
  ∀{m:Nat} {b1:Array Bool},m∈l->b1.size=ops.size->(∀j,j<ops.size->b1.getD j false=m.testBit j)->b1.count false<=ht->
  ∀{a:Act} {w:World},Rel w0 (runM P ops A m 0 ops.toList fE) a w->wpAny P .any ops Q ht b1 a w:=by
 have fin:∀{m:Nat} {b1:Array Bool},(∀j,j<ops.size->b1.getD j false=m.testBit j)->(∀j,j<ops.size->b1.getD j false=true)->
   ∀{a:Act} {w:World},Rel w0 (runM P ops A m 0 ops.toList fE) a w->Q .normal a w:=by
  intro m b1 h1 U a w aA;refine jn a w ?_;rw[J7 (m:=2 ^ ops.size-1) (k:=m)]
  ·exact aA
  intro j _ bd;have Av:j<ops.size:=by simpa using bd
  rw[<-h1 j Av,U j Av,Nat.testBit_two_pow_sub_one,iV Av]
 intro ht;induction ht with
 | zero=>
  intro l _ m b1 _ ai h1 sG a w aA;have hV:∀j,j<ops.size->b1.getD j false=true:=by
   intro j bd;cases ag:b1.getD j false with
   | true=>rfl
   | false=>
    exfalso;have jE:j<b1.size:=ai▸bd;have bw:b1[j]=false:=by simpa[h3 jE]using ag
    have:0<b1.count false:=by
     rw[Array.count_pos_iff];exact bw▸Array.getElem_mem jE
    omega
  refine⟨?_,fin h1 hV aA⟩;rw[List.eq_nil_iff_forall_not_mem];intro j bd;obtain⟨U,o,kL,_⟩:=mem_ready.1 bd;have bL:j<ops.size:=(jz.1 kL).1;have ax:=hV j bL;have jE:j<b1.size:=ai▸bL;simp[h3 jE]at U ax;rw[U]at ax;cases ax
 | succ ht dI=>
  intro l he m b1 Qd ai h1 sG a w aA;simp only[z7,z8,sb]at he;refine⟨fun wc=>fin h1 (Ky hm ai wc) aA,fun i hi=>?_⟩;obtain⟨a7,o,kL,rf⟩:=mem_ready.1 hi;have bL:i<ops.size:=(jz.1 kL).1;have jE:i<b1.size:=ai▸bL;have P1:b1.getD i false=false:=by
   simp[h3 jE]at a7 ⊢;exact a7
  have abx:Fm o m=true:=by
   unfold Fm;rw[fK];intro e tW;cases aj:Region.binds .any e with
   | false=>rfl
   | true=>
    have bp:=rf e (by simpa using tW) aj;have b6:e.on<b1.size:=Fh bp;rw[h1 e.on (ai▸b6)]at bp;simp[bp]
  have Qj:(i,o)∈qq m 0 ops.toList:=by
   have:=S5 (m:=m) (l:=ops.toList) (i:=0) (j:=i) (o:=o) (by simpa using kL) (by rw[dG,<-h1 i bL,P1]) abx;rwa[dG]at this
  have qf:=Rx he.1 m Qd _ Qj;refine Rt kL qf (S6 i aU) aA fun cJ aS eo=>dI he.2 (S4 Qd Qj) (by simpa using ai) (fun j bd=>?_) ?_ eo
  ·rw[Nat.testBit_or,Nat.testBit_two_pow];by_cases qd:j=i
   ·subst qd;have a6:j<(b1.setIfInBounds j true).size:=by simpa using jE
    simp[h3 a6]
   rw[getD_set_ne false (Ne.symm qd),h1 j bd,lN (Ne.symm qd),Bool.or_false]
  have bw:b1[i]=false:=by simpa[h3 jE]using P1
  have:(b1.setIfInBounds i true).count false=b1.count false-1:=by
   have e:b1.setIfInBounds i true=b1.set i true jE:=by unfold Array.setIfInBounds;rw[dif_pos jE]
   rw[e,Array.count_set];simp[bw]
  omega
theorem eA.of{bE:aF}(A:List (List ci))(O:List (List Prop))(ak:(P.follows .mixedOrders&&rL (rz ops.toList []) ops.toList)=true)
  (he:z7 P ops A st ops.size [0]=z8 P ops A O st ops.size [0]) (bw:runM P ops A (2 ^ ops.size-1) 0 ops.toList st=bE) (aU:cO O.flatten):eA P ops st bE:=by
 intro w0 a w id Q aA jn;simp only[cm]at ak;have a6:∀{l:List Oper} {i:Nat},runM P ops A 0 i l st=st:=by
  intro l;induction l with
  | nil=>intro i;rfl
  | cons o r dI=>intro i;simp only[runM,Nat.zero_testBit,oZ,ll];exact dI
 refine wp_region_any ak.1 (atF ak.2 aU (fun cJ aS h=>jn cJ aS (bw▸h)) ops.size he (m:=0) eO (by simp) (fun j bd=>by simp[bd]) (by simp[Array.count_replicate]) ?_);rw[a6];exact aA.drew
def J8(P:Program)(ops:Array Oper)(st:aF)(ans:List ci):Stepped:=
 match ans with
 | .iu bE::r=>some (bE,r,[eA P ops st bE])
 | _=>J6 P ops st ans
theorem atG{bE:aF}{ans cu:List ci}{obs:List Prop}(h:J8 P ops st ans=some (bE,cu,obs))(aU:cO obs){w0:eK}{a:Act}{w:World}(aA:Rel w0 st a w){id:Nat}
  {Q:Exit->Act->World->Prop} (jn:∀cJ aS,Rel w0 bE cJ aS->Q .normal cJ aS):(Code.region id ops true).wp P Q a w:=by
 unfold J8 at h;split at h
 ·simp only[aX,bJ]at h;obtain⟨rfl,_,rfl⟩:=h;exact aU.1 w0 a w id Q aA jn
 exact atD h aU aA jn
