import Derived.Test.YtdchjefneblpgaaGreatR26
import Derived.Test.YtdchjefneblpgaaGreatR31
import Derived.Orders
set_option linter.unusedVariables false
set_option linter.unusedSimpArgs false
namespace Go.Sx
open Go.RowKit
def LA(P:Program)(st:aG)(d:Option Nat)(f:FuncId)(args:List Operand)(ans:List b6):Stepped:=
 match P.funcs[f]?,args.mapM (fun x=>(st.bj x).kK st.boxes),ans with
 | some fn,some gW,.res rs::r=>
  if (fn.name == "runtime.NumGoroutine") = false /\ fn.body.isNone = false /\ vj rs = true /\ 10000 * (d.getD 0 + 1) + 10000 <= df then
   let t:=10000*(d.getD 0+1)
   match d with
   | some d=>some (⟨(st.wi t).env.set d (uf t rs),(st.wi t).boxes⟩,r,[ja P f gW rs])
   | none=>some (st.wi t,r,[ja P f gW rs])
  else none
 | _,_,_=>none
def Q7(P:Program)(st:aG)(d:Option Nat)(f:Operand)(args:List Operand)(ans:List b6):Stepped:=
 match (st.bj f).leaf.bind (aD.kK st.boxes),args.mapM (fun x=>(st.bj x).kK st.boxes),ans with
 | some (.cl g bm),some gW,.res rs::r=>
  if vj rs=true/\10000*(d.getD 0+1)+10000<=df then
   let t:=10000*(d.getD 0+1)
   match d with
   | some d=>some (⟨(st.wi t).env.set d (uf t rs),(st.wi t).boxes⟩,r,[hL P g=true,ja P g (gW++bm.map .one) rs])
   | none=>some (st.wi t,r,[hL P g=true,ja P g (gW++bm.map .one) rs])
  else none
 | _,_,_=>none
def P7:List b6->Bool
 | .rG _ _ _ _::_=>true
 | _=>false
def P9:List b6->Bool
 | .hd _ _::_=>true
 | _=>false
def P8:List b6->Bool
 | .own::_=>true
 | _=>false
def qg(P:Program)(st:aG)(o:Oper)(ans:List b6):Stepped:=
 match o.dst,o.op with
 | some d,.box _ x=>KB st d (st.bj x) ans
 | some d,.alloc ty=>KC P st d ty ans
 | some d,.makeSlice t l c=>E1 P st d t (st.bj l) (st.bj c) ans
 | some d,.buildSlice t n parts=>Ca P st d t n parts.toList ans
 | none,.store ty x y=>
  match (st.bj x).leaf with
  | some (.ptr id off)=>J8 P st ty id off (st.bj y) ans
  | some (.ep (.own t) k es i j)=>Kf P st ty t k es i j (st.bj y) ans
  | some (.a8 t i j k es (.at_ a b))=>Lm P st ty t i j k es a b (st.bj y) ans
  | _=>none
 | d,.call ⟨.value (.func f),args,_⟩=>if P9 ans then Lw P st d f args.toList ans else if P7 ans then Lh P st d f args.toList ans else LA P st d f args.toList ans
 | d,.call ⟨.value (.tmp x),args,_⟩=>if P9 ans then Lx P st d (.tmp x) args.toList ans else Q7 P st d (.tmp x) args.toList ans
 | some d,.call ⟨.builtin .append,⟨[x,y]⟩,⟨[t,dc]⟩⟩=>
  if t=dc then
   match (st.bj x).leaf with
   | some (.a8 s i j k es .here)=>Ln P st d t s i j k es y ans
   | _=>Ad P st d t x y ans
  else none
 | some d,.slice t x cW hi jI=>if P8 ans then Ae P st d t (st.bj x) cW hi jI ans.tail else (qc P st (.slice t x cW hi jI) ans).map fun r=>(⟨st.env.set d r.1,st.boxes⟩,r.2.1,r.2.2)
 | some d,op=>(qc P st op ans).map fun r=>(⟨st.env.set d r.1,st.boxes⟩,r.2.1,r.2.2)
 | none,op=>(qc P st op ans).map fun r=>(st,r.2.1,r.2.2)
variable{P:Program}{o:Oper}{a:Act}{w:World}{Q:Exit->Act->World->Prop}
theorem Calls.of{next:Act->World->Prop}{z:Value}{aJ:World}(h:(execOp a.eval o).run P w=.ok (.value z) aJ)(aK:next (a.put o.dst z) aJ):
  o.wp P a w next Q:=by
 unfold Oper.wp;rw[h];exact aK
variable{w0:eN}{st br:aG}{ans cj:List b6}{obs:List Prop}
theorem LB(h:qg P st o ans=some (br,cj,obs))(aN:c8 obs)(aT:Rel w0 st a w)
  {next:Act->World->Prop} {Q:Exit->Act->World->Prop} (kP:∀cF aJ,Rel w0 br cF aJ->next cF aJ):o.wp P a w next Q:=by
 obtain⟨ω,τ,aT⟩:=aT;obtain⟨dst,op,type,pos,after,guard⟩:=o;simp only[qg]at h;split at h
 ·rename_i d ty x;obtain⟨z,aJ,h1,U⟩:=cE.box (P:=P) aT (aT.bj x) h ty;exact Calls.of (jR h1) (kP _ _ U)
 ·rename_i d ty;obtain⟨z,aJ,h1,U⟩:=cE.alloc aT h;exact Calls.of (jR h1) (kP _ _ U)
 ·rename_i d t l c;obtain⟨z,aJ,h1,U⟩:=aT.make (aT.bj l) (aT.bj c) h aN;exact Calls.of (jR h1) (kP _ _ U)
 ·rename_i d t n parts;obtain⟨z,aJ,h1,U⟩:=aT.buildSlice h;exact Calls.of (jR h1) (kP _ _ U)
 ·rename_i ty x y;have fin:∀aJ,(Instr.storeAt ty (a.eval x) (a.eval y)).run P w=.ok () aJ->Rel w0 br a aJ->Oper.wp P ⟨none,.store ty x y,type,pos,after,guard⟩ a w next Q:=by
   intro aJ h1 U;unfold Oper.wp execOp;simp only[Sem.run_bind,h1,Result.andThen_ok,Sem.run_pure,Oper.upon];exact kP _ _ U
  split at h
  ·rename_i id off e;obtain⟨b,ao,aa⟩:=aI.dQ e (aT.bj x);obtain⟨aJ,h1,U⟩:=aT.avh (P:=P) ao (aT.bj y) h;exact fin aJ (by rw[aa];exact h1) U
  ·rename_i t k es i j e;obtain⟨aJ,h1,U⟩:=aT.avj (P:=P) (aI.dQ e (aT.bj x)) (aT.bj y) h aN;exact fin aJ h1 U
  ·rename_i t i j k es avz Oz e;obtain⟨aJ,h1,U⟩:=aT.avl (P:=P) (aI.dQ e (aT.bj x)) (aT.bj y) h aN;exact fin aJ h1 U
  cases h
 ·rename_i f args ts;split at h
  ·exact anp aT h aN kP
  split at h
  ·exact anU aT h aN kP
  rename_i IJ Zv;clear IJ;unfold LA at h;clear Zv;split at h
  ·rename_i fn gW rs r lU Ip;split at h
   ·rename_i af;obtain⟨lS,lA,lT,tm⟩:=af;obtain⟨aj,ar⟩:=ox Ip;have nx:E6 w gW (args.map a.eval):=by
     refine⟨by simp[aj],fun i cn hi=>?_⟩;obtain⟨x,aa,ka⟩:=ar i cn hi;refine⟨a.eval x,?_,aI.yl aT.boxes ka (aT.bj x)⟩;rw[Ap];rw[iX]at aa;rw[aa];rfl
    have fj:(execOp a.eval ⟨dst,.call ⟨.value (.func f),args,ts⟩,type,pos,after,guard⟩).run P w=.ok (.enter f (args.map a.eval)) w:=by
     have YT : fn.name ≠ "runtime.NumGoroutine" := by simpa using lS
     have tk:fn.body≠none:=by intro e;rw[e]at lA;cases lA
     simp[execOp,resolve,Act.eval,Deferred.ofValue,invoke,callFunc,lU,YT,tk]
    have key:∀(nJ:List Prop),obs=nJ->c8 nJ->nJ=[ja P f gW rs]->∀(K:Act->World->Prop),(∀v aJ,ho w.heap.size w aJ->yi w aJ rs v->K (a.put dst v) aJ)->
      Oper.wp P ⟨dst,.call ⟨.value (.func f),args,ts⟩,type,pos,after,guard⟩ a w K Q:=by
     intro nJ _ lC e K gN;subst e;unfold Oper.wp;rw[fj];simp only[Oper.upon];refine (lC.1 w _ aT.below.laid nx).mono ?_;rintro e aJ ⟨v,rfl,ao,az⟩;exact gN v aJ ao az
    simp only at h;cases dst with
    | none=>
     simp only[aO,bx]at h;obtain⟨rfl,_,rfl⟩:=h;refine key _ rfl aN rfl next fun v aJ ao az=>kP _ _ ?_
     obtain⟨a1,cT,h1,_⟩:=aT.called (10000*(Option.getD none 0+1)) lT tm ao az;exact⟨a1,cT,h1⟩
    | some d=>
     simp only[aO,bx]at h;obtain⟨rfl,_,rfl⟩:=h;refine key _ rfl aN rfl next fun v aJ ao az=>kP _ _ ?_
     obtain⟨a1,cT,h1,U⟩:=aT.called (10000*(Option.getD (some d) 0+1)) lT tm ao az;exact⟨a1,cT,h1.put U⟩
   cases h
  cases h
 ·rename_i x args ts;split at h
  ·exact anq aT h aN kP
  rename_i IJ;clear IJ;unfold Q7 at h;split at h
  ·rename_i g bm gW rs r bg Ip;split at h
   ·rename_i af;obtain⟨lT,tm⟩:=af;obtain⟨aj,ar⟩:=ox Ip;have cV:gW.length=args.size:=by rw[aj,vX]
    rw[nf]at bg;obtain⟨lI,Ec,ZG⟩:=bg;have Pq:mu w (.cl g bm) (a.eval (.tmp x)):=aD.yl aT.boxes ZG (aI.dQ Ec (aT.bj (.tmp x)));have Zh:∃cs:Array Value,a.eval (.tmp x)=.func (.func g) #[] cs/\cs.size=bm.length/\∀(j:Nat) (d:D),bm[j]?=some d->∃u,cs[j]?=some u/\mu w d u:=by
     generalize a.eval (.tmp x)=y at Pq;cases Pq with
     | cl R g bm cs us ai hu aB=>exact⟨cs,rfl,ai,fun j d aP=>⟨us j,hu j d aP,(aB j d aP).free⟩⟩
    obtain⟨cs,o1,YX,Y4⟩:=Zh;have nx:E6 w (gW++bm.map .one) (args.map a.eval++cs):=by
     refine⟨by simp[aj,YX],fun i cn hi=>?_⟩;rw[l7]at hi;rw[iq];split at hi
     ·rename_i lg;rw[aZ (by simp;omega)];obtain⟨y,bn,lG⟩:=ar i cn hi;refine⟨a.eval y,?_,aI.yl aT.boxes lG (aT.bj y)⟩;rw[Ap];rw[iX]at bn;rw[bn];rfl
     rename_i lg;rw[a6 (by simp;omega)];rw[dG,b2]at hi;obtain⟨d,aB,rfl⟩:=hi;obtain⟨u,fO,fb⟩:=Y4 _ d aB;refine⟨u,?_,fb⟩;rw[<-fO]
     congr 1
     simp;omega
    have fj:hL P g=true->(execOp a.eval ⟨dst,.call ⟨.value (.tmp x),args,ts⟩,type,pos,after,guard⟩).run P w=.ok (.enter g (args.map a.eval++cs)) w:=by
     intro ww;unfold hL at ww;split at ww
     ·rename_i fn lU;simp only[b8,gy,vV,fM]at ww;have tk:fn.body≠none:=by intro e;rw[e]at ww;simp at ww
      simp[execOp,resolve,o1,Deferred.ofValue,invoke,callFunc,lU,ww.1,tk]
     cases ww
    have key:∀(nJ:List Prop),obs=nJ->c8 nJ->nJ=[hL P g=true,ja P g (gW++bm.map .one) rs]->∀(K:Act->World->Prop),(∀v aJ,ho w.heap.size w aJ->yi w aJ rs v->K (a.put dst v) aJ)->
      Oper.wp P ⟨dst,.call ⟨.value (.tmp x),args,ts⟩,type,pos,after,guard⟩ a w K Q:=by
     intro nJ _ lC e K gN;subst e;unfold Oper.wp;rw[fj lC.1];simp only[Oper.upon];refine (lC.2.1 w _ aT.below.laid nx).mono ?_;rintro e aJ ⟨v,rfl,ao,az⟩;exact gN v aJ ao az
    simp only at h;cases dst with
    | none=>
     simp only[aO,bx]at h;obtain⟨rfl,_,rfl⟩:=h;refine key _ rfl aN rfl next fun v aJ ao az=>kP _ _ ?_
     obtain⟨a1,cT,h1,_⟩:=aT.called (10000*(Option.getD none 0+1)) lT tm ao az;exact⟨a1,cT,h1⟩
    | some d=>
     simp only[aO,bx]at h;obtain⟨rfl,_,rfl⟩:=h;refine key _ rfl aN rfl next fun v aJ ao az=>kP _ _ ?_
     obtain⟨a1,cT,h1,U⟩:=aT.called (10000*(Option.getD (some d) 0+1)) lT tm ao az;exact⟨a1,cT,h1.put U⟩
   cases h
  cases h
 ·rename_i d x y t dc;split at h
  ·rename_i Bb;subst Bb;have uL:∃z aJ,(Builtin.append_ #[t,t] type #[a.eval x,a.eval y]).run P w=.ok z aJ/\Rel w0 br (a.put (some d) z) aJ:=by
    split at h
    ·rename_i s i j k es e;exact aT.X9 (P:=P) (ty:=type) (aI.dQ e (aT.bj x)) h aN
    exact aT.Ad (ty:=type) h aN
   obtain⟨z,aJ,h1,U⟩:=uL;refine Calls.of (z:=z) (aJ:=aJ) ?_ (kP _ _ U);have:(execOp a.eval ⟨some d,.call ⟨.builtin .append,⟨[x,y]⟩,⟨[t,t]⟩⟩,type,pos,after,guard⟩)=(builtin .append ⟨[t,t]⟩ type (Array.map (fun | .const _=>true | _=>false) ⟨[x,y]⟩) (Array.map a.eval ⟨[x,y]⟩)):=by
    simp only[execOp,resolve];rfl
   rw[this];exact jR (by simpa using h1)
  cases h
 ·rename_i d t x cW hi jI;split at h
  ·obtain⟨z,h1,U⟩:=aT.Ae (P:=P) (aT.bj x) h aN;exact Calls.of (jR h1) (kP _ _ U)
  rw[b2]at h;obtain⟨⟨cw,dt,eE⟩,h1,h⟩:=h;simp only[bx]at h;obtain⟨rfl,rfl,rfl⟩:=h;obtain⟨z,U,ax⟩:=KA (o:=⟨_,_,type,pos,after,guard⟩) aT h1 aN;exact Calls.of U (kP _ _ ⟨ω,τ,aT.put ax⟩)
 ·rw[b2]at h;obtain⟨⟨cw,dt,eE⟩,h1,h⟩:=h;simp only[bx]at h;obtain⟨rfl,rfl,rfl⟩:=h;obtain⟨z,U,ax⟩:=KA (o:=⟨_,_,type,pos,after,guard⟩) aT h1 aN;exact Calls.of U (kP _ _ ⟨ω,τ,aT.put ax⟩)
 rw[b2]at h;obtain⟨⟨cw,dt,eE⟩,h1,h⟩:=h;simp only[bx]at h;obtain⟨rfl,rfl,rfl⟩:=h;obtain⟨z,U,ax⟩:=KA (o:=⟨_,_,type,pos,after,guard⟩) aT h1 aN;exact Calls.of U (kP _ _ ⟨ω,τ,aT⟩)
def ps(P:Program)(st:aG)(o:Oper)(ans:List b6):Stepped:=
 match o.dst,o.op with
 | some d,.alloc ty=>EK P st d ty ans
 | none,.store ty (.tmp s) y=>EM P st ty s (st.bj y) ans
 | _,_=>qg P st o ans
theorem anr(h:ps P st o ans=some (br,cj,obs))(aN:c8 obs)(aT:Rel w0 st a w)
  {next:Act->World->Prop} {Q:Exit->Act->World->Prop} (kP:∀cF aJ,Rel w0 br cF aJ->next cF aJ):o.wp P a w next Q:=by
 obtain⟨dst,op,type,pos,after,guard⟩:=o;unfold ps at h;split at h
 ·rename_i d ty e1 e2;simp only at e1 e2;subst e1;subst e2;obtain⟨ω,τ,aT⟩:=aT;obtain⟨z,aJ,h1,U⟩:=cE.X8 aT h;exact Calls.of (jR h1) (kP _ _ U)
 ·rename_i ty s y e1 e2;simp only at e1 e2;subst e1;subst e2;obtain⟨ω,τ,aT⟩:=aT;obtain⟨aJ,h1,U⟩:=aT.avk (P:=P) (aT.bj y) h;unfold Oper.wp execOp;simp only[Sem.run_bind,h1,Result.andThen_ok,Sem.run_pure,Oper.upon];exact kP _ _ U
 exact LB h aN aT kP
def BO(st:aG)(dst:Option Nat):aG:=
 match dst with
 | some d=>⟨st.env.set d (.one (.v undef)),st.boxes⟩
 | none=>st
theorem LC{dst:Option Nat}(h:Rel w0 st a w):Rel w0 (BO st dst) (a.put dst undef) w:=by
 obtain⟨ω,τ,h⟩:=h;cases dst with
 | none=>exact⟨ω,τ,h⟩
 | some d=>exact⟨ω,τ,h.put (p:=.one (.v undef)) rfl⟩
def sn(ops:Array Oper)(st:aG)(o:Oper)(ans:List b6):Option (Bool×aG×List b6×List Prop):=
 match o.guard with
 | none=>some (true,st,ans,[])
 | some (j,want)=>
  match (ops[j]?).bind (·.dst) with
  | some s=>
   match (st.env.getD s .cu).leaf with
   | some (.v (.bool b))=>some (b==want,st,ans,[])
   | some (.v (.tuple _))=>some (false,st,ans,[])
   | some (.cg c)=>
    match ans with
    | .pP b::r=>some (b==want,⟨st.env.set s (.one (.v (.bool b))),st.boxes⟩,r,[c=b])
    | _=>none
   | _=>none
  | none=>none
variable{ops:Array Oper}
theorem xd{b:Bool}(h:sn ops st o ans=some (b,br,cj,obs))(aN:c8 obs)(aT:Rel w0 st a w):
  Region.wanted o (yielded ops a.tmps)=b/\Rel w0 br a w:=by
 obtain⟨ω,τ,aT⟩:=aT;unfold sn at h;split at h
 ·rename_i ar;simp only[aO,bx]at h;obtain⟨rfl,rfl,_,_⟩:=h;exact⟨by simp[Region.wanted,ar],ω,τ,aT⟩
 rename_i j want ar;split at h
 ·rename_i s ai;have eV:∀l,(st.env.getD s .cu).leaf=some l->∀x,(∀y,Sat w ω τ l y->y=x)->(l=.cu->False)->a.tmps[s]?=some x:=by
   intro l aj x aa cf;rw[iF]at aj;cases e:st.env[s]? with
   | none=>
    rw[e]at aj;simp only[Option.getD_none,aI.leaf,aO]at aj;exact absurd aj.symm cf
   | some p=>
    rw[e]at aj;obtain⟨v,h1,U⟩:=aT.env s p e;rw[h1,aa v (aI.dQ aj U)]
  split at h
  ·rename_i c3 aj;simp only[aO,bx]at h;obtain⟨rfl,rfl,_,_⟩:=h;have:=eV _ aj (.bool c3) (fun y bn=>bn) (fun h=>by cases h);exact⟨by simp[Region.wanted,ar,yielded,ai,this],ω,τ,aT⟩
  ·rename_i vs aj;simp only[aO,bx]at h;obtain⟨rfl,rfl,_,_⟩:=h;have:=eV _ aj (.tuple vs) (fun y bn=>bn) (fun h=>by cases h);exact⟨by simp[Region.wanted,ar,yielded,ai,this],ω,τ,aT⟩
  ·rename_i c aj;split at h
   ·rename_i c3 r;simp only[aO,bx]at h;obtain⟨rfl,rfl,_,rfl⟩:=h;have gD:c=c3:=aN.1;subst gD;have:=eV _ aj (.bool c) (fun y bn=>bn) (fun h=>by cases h);refine⟨by simp[Region.wanted,ar,yielded,ai,this],ω,τ,?_⟩;have IV:=aT.put (d:=s) (p:=.one (.v (.bool c))) (v:=.bool c) rfl;have e:a.put (some s) (.bool c)=a:=by
     simp only[Act.put];have:a.tmps.setIfInBounds s (.bool c)=a.tmps:=by
      apply Array.ext
      ·simp
      intro i h1 U;rw[Array.getElem_setIfInBounds];split
      ·rename_i hi;subst hi;rw[hS U]at this;exact (eQ this).symm
      rfl
     rw[this]
    rwa[e]at IV
   cases h
  cases h
 cases h
def rh(P:Program)(ops:Array Oper)(o:Oper)(st:aG)(ans:List b6):Stepped:=
 match sn ops st o ans with
 | some (true,st1,fy,gm)=>(qg P st1 o fy).map fun r=>(r.1,r.2.1,gm++r.2.2)
 | some (false,st1,fy,gm)=>some (BO st1 o.dst,fy,gm)
 | none=>none
theorem Q8{rest:List Oper}(h:rh P ops o st ans=some (br,cj,obs))(aN:c8 obs)
  {a:Act} {w:World} (aT:Rel w0 st a w) (gN:∀cF aJ,Rel w0 br cF aJ->wpList P ops Q rest cF aJ):wpList P ops Q (o::rest) a w:=by
 unfold rh at h;split at h
 ·rename_i st1 fy gm hw;rw[b2]at h;obtain⟨⟨cw,dt,eE⟩,h1,h⟩:=h;simp only[bx]at h;obtain⟨rfl,rfl,rfl⟩:=h;obtain⟨dR,dH⟩:=aN.append;obtain⟨o7,e5⟩:=xd hw dR aT;refine wpList_step fun K wm=>?_
  rw[aZ o7];exact LB h1 dH e5 fun cF aJ ek=>wm _ _ (gN _ _ ek)
 ·rename_i st1 fy gm hw;simp only[aO,bx]at h;obtain⟨rfl,rfl,rfl⟩:=h;obtain⟨o7,e5⟩:=xd hw aN aT;refine wpList_step fun K wm=>?_
  rw[a6 (by rw[o7];simp)];exact wm _ _ (gN _ _ (LC e5))
 cases h
def KN(o dH:Oper):Option (Nat×TypeId×Operand×Option Operand×TypeId):=
 match o.dst,o.op,o.guard,dH.dst,dH.op,dH.guard with
 | some d,.slice t x cW none none,none,none,.call ⟨.builtin .clear,⟨[.tmp dK]⟩,⟨[eM]⟩⟩,none=>if d=dK then some (d,t,x,cW,eM) else none
 | _,_,_,_,_,_=>none
theorem ant{dH:Oper}{rest:List Oper}{d:Nat}{t eM:TypeId}{x:Operand}{cW:Option Operand}(hp:KN o dH=some (d,t,x,cW,eM))
  {st br:aG} {ans cj:List b6} {obs:List Prop} (h:EO P st d t x cW eM ans=some (br,cj,obs)) (aN:c8 obs)
  {a:Act} {w:World} (aT:Rel w0 st a w) (gN:∀cF aJ,Rel w0 br cF aJ->wpList P ops Q rest cF aJ):wpList P ops Q (o::dH::rest) a w:=by
 obtain⟨dst,op,type,pos,after,guard⟩:=o;obtain⟨awi,axb,type2,axe,av4,awt⟩:=dH;unfold KN at hp;split at hp
 ·rename_i d0 t0 cm aw5 dK axm e1 e2 cJ e4 ko oV;simp only at e1 e2 cJ e4 ko oV;subst e1 e2 cJ e4 ko oV;split at hp
  ·rename_i aB;subst aB;simp only[aO,bx]at hp;obtain⟨rfl,rfl,rfl,rfl,rfl⟩:=hp;obtain⟨ω,τ,aT⟩:=aT;obtain⟨bu,y,z,aJ,h1,U,ax⟩:=aT.clear h aN;refine wpList_plain rfl fun K wm=>Calls.of (jR (by simpa using h1)) (wm _ _ ?_)
   refine wpList_plain rfl fun K wm=>?_
   have r5:(a.put (some d0) y).eval (.tmp d0)=y:=by
    simp only[Act.eval,Act.put,eu,Array.getElem?_setIfInBounds];simp[bu]
   refine Calls.of (z:=z) (aJ:=aJ) ?_ (wm _ _ (gN _ _ ax));simp only[execOp,resolve,invoke,builtin,Sem.run_bind,Sem.run_pure,Result.andThen_ok,List.map_toArray,k8,List.map_nil,r5,U]
  cases hp
 cases hp
def xe(P:Program)(ops:Array Oper):List Oper->aG->List b6->Stepped
 | [],st,ans=>some (st,ans,[])
 | [o],st,ans=>rh P ops o st ans
 | o::dH::rest,st,ans=>
  match KN o dH with
  | some (d,t,x,cW,eM)=>
   match EO P st d t x cW eM ans with
   | some (st1,fy,gm)=>(xe P ops rest st1 fy).map fun r=>(r.1,r.2.1,gm++r.2.2)
   | none=>none
  | none=>
   match rh P ops o st ans with
   | some (st1,fy,gm)=>(xe P ops (dH::rest) st1 fy).map fun r=>(r.1,r.2.1,gm++r.2.2)
   | none=>none
theorem KO:∀(l:List Oper) {st br:aG} {ans cj:List b6} {obs:List Prop},xe P ops l st ans=some (br,cj,obs)->c8 obs->
  ∀{a:Act} {w:World},Rel w0 st a w->(∀cF aJ,Rel w0 br cF aJ->Q .normal cF aJ)->wpList P ops Q l a w
 | [],st,br,ans,cj,obs,h,_,a,w,aT,j7=>by
  simp only[xe,aO,bx]at h;obtain⟨rfl,_,_⟩:=h;exact j7 _ _ aT
 | [o],st,br,ans,cj,obs,h,aN,a,w,aT,j7=>by
  simp only[xe]at h;exact Q8 h aN aT fun cF aJ ek=>j7 _ _ ek
 | o::dH::rest,st,br,ans,cj,obs,h,aN,a,w,aT,j7=>by
  simp only[xe]at h;split at h
  ·rename_i d t x cW eM hp;split at h
   ·rename_i st1 fy gm h1;rw[b2]at h;obtain⟨⟨cw,dt,eE⟩,U,h⟩:=h;simp only[bx]at h;obtain⟨rfl,rfl,rfl⟩:=h;obtain⟨dR,gF⟩:=aN.append;exact ant hp h1 dR aT fun cF aJ ek=>KO rest U gF ek j7
   cases h
  split at h
  ·rename_i st1 fy gm h1;rw[b2]at h;obtain⟨⟨cw,dt,eE⟩,U,h⟩:=h;simp only[bx]at h;obtain⟨rfl,rfl,rfl⟩:=h;obtain⟨dR,gF⟩:=aN.append;exact Q8 h1 dR aT fun cF aJ ek=>KO (dH::rest) U gF ek j7
  cases h
end Go.Sx
namespace Go.Sx
open Go.RowKit
abbrev gL:=List (Nat×Nat)
def gL.has(r:gL)(s:Nat):Bool:=r.any fun x=>decide (x.1<=s)&&decide (s<x.2)
def Tag.eX(r:gL):Tag->Bool
 | .free=>false
 | .own s=>r.has s
 | .ro s=>r.has s
def e9.eX(r:gL):e9->Bool
 | .J t _ _=>t.eX r
 | _=>false
def aD.eX(r:gL):aD->Bool
 | .J t _ _=>t.eX r
 | .ep t _ _ _ _=>t.eX r
 | .a8 t _ _ _ _ _=>r.has t
 | .fB t vs=>r.has t||vs.any (e9.eX r)
 | _=>false
def bS.eX(r:gL):bS->Bool
 | .one l=>l.eX r
 | .agg ls=>ls.any (aD.eX r)
def aI.eX(r:gL):aI->Bool
 | .bd a=>a.eX r
 | .gv as=>as.any (bS.eX r)
def pt(g:Tag->Option Tag)(r:gL):Prop:=∀t:Tag,t.eX r=false->g t=some t
variable{g:Tag->Option Tag}{r:gL}
theorem aD.xX(ar:pt g r){l:aD}(h:l.eX r=false):l.cr g (fun _=>true)=l:=by
 cases l with
 | J t k es=>simp only[aD.eX]at h;simp only[aD.cr,ar t h]
 | ep t k es i j=>simp only[aD.eX]at h;simp only[aD.cr,ar t h]
 | ptr id off=>simp[aD.cr]
 | hq f ids=>simp[aD.cr]
 | a8 t i j k es m=>simp only[aD.eX]at h;simp only[aD.cr,ar (.own t) h,fL]
 | fB t vs=>
  simp only[aD.eX,fR]at h;simp only[aD.cr,ar (.own t) h.1,fL]
  congr 1
  conv=>rhs;rw[<-sU vs]
  refine lq fun c af=>?_
  have:=ff.1 h.2 c af;cases c with
  | cu=>rfl
  | v x=>rfl
  | J dc k es=>simp only[e9.cr,ar dc (by simpa[e9.eX]using this),id]
 | _=>rfl
theorem Q9(ar:pt g r){ls:List aD}(h:ls.any (aD.eX r)=false):ls.map (aD.cr g fun _=>true)=ls:=by
 conv=>rhs;rw[<-sU ls]
 refine lq fun l aj=>?_
 rw[ff]at h;exact aD.xX ar (by simpa using h l aj)
theorem bS.xX(ar:pt g r){a:bS}(h:a.eX r=false):a.map (aD.cr g fun _=>true)=a:=by
 cases a with
 | one l=>simp only[bS.eX]at h;simp only[bS.map,aD.xX ar h]
 | agg ls=>simp only[bS.eX]at h;simp only[bS.map,Q9 ar h]
theorem aI.xX(ar:pt g r){p:aI}(h:p.eX r=false):p.map (aD.cr g fun _=>true)=p:=by
 cases p with
 | bd a=>simp only[aI.eX]at h;simp only[aI.map,bS.xX ar h]
 | gv as=>
  simp only[aI.eX]at h;simp only[aI.map]
  congr 1
  conv=>rhs;rw[<-sU as]
  refine lq fun a ad=>?_
  rw[ff]at h;exact bS.xX ar (by simpa using h a ad)
structure dA where
 dst:Option Nat
 p:aI
 use:List Nat
 oG:gL
abbrev ma:=Option (dA×(Tag->Option Tag)×List b6×List Prop)
def Q':Operand->Option Nat
 | .tmp t=>some t
 | _=>none
def Bs:Option Nat->gL
 | none=>[]
 | some s=>[(s,s+1)]
def Av(P:Program)(st:aG)(d:Nat)(t:TypeId)(x y:Operand)(ans:List b6):ma:=
 match rz P t with
 | some (e,k)=>
  match P.info? e with
  | some i=>
   match i.zero,(st.bj x).leaf,x with
   | some z,some (.J (.own hF) cb es),.tmp s=>
    match wg hF k (st.bj y) ans with
    | some (bR,eb,cj,obs)=>
     if cb=k/\z.cells.size=k/\0<k/\hF<df then
      some (⟨some d,.one (.J (.own hF) k (es++bR)),[s],(hF,hF+1)::Bs eb⟩,iw hF eb,cj,((es.length+bR.length)*i.bytes<=140737488355328)::(es.length+bR.length<=9223372036854775807)::obs)
     else none
    | _=>none
   | some z,some (.v (.slice none 0 0)),_=>
    match wg d k ((st.bj y).map (aD.cr (iN d []) fun _=>true)) ans with
    | some (bR,eb,cj,obs)=>
     if z.cells.size=k/\0<k/\d<df then
      some (⟨some d,.one (.J (.own d) k ([]++bR)),[],(d,d+1)::Bs eb⟩,(fun g=>(iN d [] g).bind (iw d eb)),cj,(((([]:List (List D)).length)+bR.length)*i.bytes<=140737488355328)::(([]:List (List D)).length+bR.length<=9223372036854775807)::obs)
     else none
    | _=>none
   | _,_,_=>none
  | none=>none
 | none=>none
def HQ(P:Program)(st:aG)(d:Nat)(t:TypeId)(x:Operand)(cW hi jI:Option Operand)(ans:List b6):ma:=
 match rz P t,(st.bj x).leaf,jI,x with
 | some (_,k),some (.J (.own s) cb es),none,.tmp hf=>
  if k=cb/\s<df then
   match mS st cW,mS st hi with
   | some l,some h=>some (⟨some d,.one (.J (.own s) k ((es.drop (l.getD 0).toNat).take ((h.getD es.length).toNat-(l.getD 0).toNat))),[hf],[(s,s+1)]⟩,lm s s,ans,[0<=l.getD 0,l.getD 0<=h.getD es.length,h.getD es.length<=es.length])
   | _,_=>none
  else none
 | _,_,_,_=>none
variable{s:Nat}
theorem aoD:pt (lm s s) [(s,s+1)]:=by
 intro t h;cases t with
 | free=>rfl
 | own x=>
  have:x≠s:=by rintro rfl;simp[Tag.eX,gL.has]at h
  simp[lm,this]
 | ro x=>
  have:x≠s:=by rintro rfl;simp[Tag.eX,gL.has]at h
  simp[lm,this]
def Qf(P:Program)(d:Nat)(t:TypeId)(p q:aI)(ans:List b6):ma:=
 match P.underlying t with
 | some (.slice e)=>
  match P.info? e,p.int,q.int with
  | some i,some (_,l),some (_,c)=>
   match i.zero with
   | some z=>
    if i.size=z.cells.size/\0<i.size/\z.cells.all (·.oneCell')=true/\d<df then
     some (⟨some d,.one (.J (.own d) i.size (List.replicate l.toNat (z.cells.toList.map .v))),[],[(d,d+1)]⟩,iN d [],ans,[0<=l,l<=c,(i.bytes:Int)*c<=281474976710656,c<=9223372036854775807])
    else none
   | none=>none
  | _,_,_=>none
 | _=>none
def s'(P:Program)(st:aG)(o:Oper)(ans:List b6):ma:=
 match o.dst,o.op with
 | some d,.call ⟨.value (.func f),args,_⟩=>
  match P.funcs[f]?,args.toList.mapM (fun x=>(st.bj x).kK st.boxes),ans with
  | some fn,some gW,.res rs::r=>
   if (fn.name == "runtime.NumGoroutine") = false /\ fn.body.isNone = false /\ vj rs = true /\ 10000 * (d + 1) + 10000 <= df then
    some (⟨some d,uf (10000*(d+1)) rs,[],[(10000*(d+1),10000*(d+1)+10000)]⟩,hc (10000*(d+1)),r,[ja P f gW rs])
   else none
  | _,_,_=>none
 | some d,.buildSlice t n parts=>
  match DN P st d t n parts.toList with
  | some (k,es,ms)=>some (⟨some d,.one (.J (.own d) k es),[],(d,d+1)::ms.map fun x=>(x.1,x.1+1)⟩,iN d ms,ans,[])
  | _=>none
 | some d,.call ⟨.builtin .append,⟨[x,y]⟩,⟨[t,dc]⟩⟩=>if t=dc then Av P st d t x y ans else none
 | some _,.box _ _=>none
 | some d,.alloc ty=>
  match P.info? ty with
  | some i=>match i.zero with
   | some z=>if d<df then some (⟨some d,.one (.fB d (z.cells.toList.map .v)),[],[(d,d+1)]⟩,iN d [],ans,[]) else none
   | none=>none
  | none=>none
 | some d,.makeSlice t l c=>Qf P d t (st.bj l) (st.bj c) ans
 | some d,.slice t x cW hi jI=>if P8 ans then HQ P st d t x cW hi jI ans.tail else (qc P st (.slice t x cW hi jI) ans).map fun r=>(⟨some d,r.1,[],[]⟩,some,r.2.1,r.2.2)
 | some d,op=>(qc P st op ans).map fun r=>(⟨some d,r.1,[],[]⟩,some,r.2.1,r.2.2)
 | none,.store ty (.tmp s) y=>
  match (st.env.getD s .cu).leaf,JS (st.bj y),P.info? ty with
  | some (.fB t vs),some cs,some i=>
   if cs.length=i.size/\cs.length<=vs.length then
    some (⟨some s,.one (.fB t ((cs++vs.drop cs.length).map (e9.cr (fz t)))),[],[(t,t+1)]⟩,fz t,ans,[])
   else none
  | _,_,_=>none
 | none,_=>none
theorem aoE:pt (fz s) [(s,s+1)]:=by
 intro t h;cases t with
 | free=>rfl
 | own x=>
  have:x≠s:=by rintro rfl;simp[Tag.eX,gL.has]at h
  simp[fz,this]
 | ro x=>
  have:x≠s:=by rintro rfl;simp[Tag.eX,gL.has]at h
  simp[fz,this]
theorem aoF:e9.cr some=id:=by funext c;cases c<;>rfl
theorem aoG(st:aG)(f:aD->aD)(bg:∀x,f (.v x)=.v x)(hu:f .cu=.cu)(aB:∀d,f (.fd d)=.fd d)(x:Operand):(st.map f).bj x=(st.bj x).map f:=by
 cases x with
 | tmp t=>
  simp only[aG.bj,aG.map];rw[iF,iF,dG];cases st.env[t]? with
  | none=>simp[aI.map,bS.map,hu]
  | some p=>rfl
 | const v=>
  simp only[aG.bj,DR];split
  ·simp[aI.map,bS.map,bg]
  simp[aI.map,bS.map,bg]
 | global g=>simp[aG.bj,aI.map,bS.map,hu]
 | func awn=>simp[aG.bj,aI.map,bS.map,aB]
theorem aD.avb(g1 g2:Tag->Option Tag)(U:∀g t,g2 g=some (.own t)->g=.own t)(l:aD):aD.cr g2 (fun _=>true) (aD.cr g1 (fun _=>true) l)=aD.cr (fun t=>(g1 t).bind g2) (fun _=>true) l:=by
 cases l with
 | J t k es=>simp only[aD.cr];cases g1 t<;>simp[aD.cr]
 | ep t k es i j=>simp only[aD.cr];cases g1 t<;>simp[aD.cr]
 | hq f ids=>simp[aD.cr]
 | a8 t i j k es m=>
  simp only[aD.cr];cases e1:g1 (.own t) with
  | none=>simp[aD.cr]
  | some x=>
   simp only[nZ];cases x with
   | own s=>
    simp only;by_cases ai:s=t
    ·subst ai;simp only[fL,aD.cr]
    rw[a6 ai];simp only[aD.cr];cases e2:g2 (.own s) with
    | none=>rfl
    | some y=>
     cases y with
     | own u=>
      simp only;by_cases hu:u=t
      ·subst hu;have:=U _ _ e2;simp only[Tag.own.injEq]at this;exact absurd this ai
      rw[a6 hu]
     | _=>rfl
   | free=>
    simp only[aD.cr];cases e2:g2 .free with
    | none=>rfl
    | some y=>
     cases y with
     | own u=>exact absurd (U _ _ e2) (by simp)
     | _=>rfl
   | ro s=>
    simp only[aD.cr];cases e2:g2 (.ro s) with
    | none=>rfl
    | some y=>
     cases y with
     | own u=>exact absurd (U _ _ e2) (by simp)
     | _=>rfl
 | fB t vs=>
  simp only[aD.cr];cases e1:g1 (.own t) with
  | none=>simp[aD.cr]
  | some x=>
   simp only[nZ];cases x with
   | own s=>
    simp only;by_cases ai:s=t
    ·subst ai;simp only[fL,aD.cr];have o1:(vs.map (e9.cr g1)).map (e9.cr g2)=vs.map (e9.cr fun t=>(g1 t).bind g2):=by
      rw[List.map_map];refine lq fun c _=>?_
      cases c with
      | cu=>rfl
      | v x=>rfl
      | J dc k es=>
       simp only[Function.comp,e9.cr];cases cJ:g1 dc with
       | none=>rfl
       | some t2=>simp only[nZ,e9.cr]
     rw[o1]
    rw[a6 ai];simp only[aD.cr];cases e2:g2 (.own s) with
    | none=>rfl
    | some y=>
     cases y with
     | own u=>
      simp only;by_cases hu:u=t
      ·subst hu;have:=U _ _ e2;simp only[Tag.own.injEq]at this;exact absurd this ai
      rw[a6 hu]
     | _=>rfl
   | free=>
    simp only[aD.cr];cases e2:g2 .free with
    | none=>rfl
    | some y=>
     cases y with
     | own u=>exact absurd (U _ _ e2) (by simp)
     | _=>rfl
   | ro s=>
    simp only[aD.cr];cases e2:g2 (.ro s) with
    | none=>rfl
    | some y=>
     cases y with
     | own u=>exact absurd (U _ _ e2) (by simp)
     | _=>rfl
 | ptr id off=>simp[aD.cr]
 | _=>rfl
theorem bS.map_map(f g:aD->aD)(a:bS):(a.map f).map g=a.map (g ∘ f):=by cases a<;>simp[bS.map]
theorem aI.map_map(f g:aD->aD)(p:aI):(p.map f).map g=p.map (g ∘ f):=by
 cases p with
 | bd a=>simp[aI.map,bS.map_map]
 | gv as=>simp only[aI.map,List.map_map];congr 1;refine lq fun a _=>?_;simp[bS.map_map]
theorem aG.map_map(f g:aD->aD)(s:aG):(s.map f).map g=s.map (g ∘ f):=by
 simp only[aG.map,List.map_map]
 congr 1
 ·refine lq fun p _=>?_
  simp[aI.map_map]
 refine lq fun x _=>?_
 simp
theorem Ra:pt some r:=fun _ _=>rfl
theorem gL.uB{a b:Nat}(h:gL.has ((a,b)::r) s=false):(s<a\/b<=s)/\gL.has r s=false:=by
 simp only[gL.has,vY,fR,Bool.and_eq_false_iff,lr]at h;exact⟨by omega,h.2⟩
variable{t:Nat}
theorem aoH:pt (hc t) [(t,t+10000)]:=by
 intro g ar;cases g with
 | free=>rfl
 | own s=>
  obtain⟨h1,_⟩:=gL.uB ar;simp only[hc];rw[a6 (by omega)]
 | ro s=>
  obtain⟨h1,_⟩:=gL.uB ar;simp only[hc];rw[a6 (by omega)]
theorem KP:∀{ms:ia},(gL.has (ms.map fun x=>(x.1,x.1+1)) s)=false->(ms.at s).isSome=false
 | [],_=>rfl
 | (i,p)::r,h=>by
  simp only[gL.has,k8,vY,fR,Bool.and_eq_false_iff,lr]at h;simp only[ia.at];rw[a6 (by omega)];exact KP (by simpa only[gL.has]using h.2)
theorem aoI{ms:ia}:pt (iN t ms) ((t,t+1)::ms.map fun x=>(x.1,x.1+1)):=by
 intro g ar;cases g with
 | free=>rfl
 | own s=>
  obtain⟨h1,U⟩:=gL.uB ar;simp only[iN];rw[a6 (by omega),KP U];rfl
 | ro s=>
  obtain⟨h1,U⟩:=gL.uB ar;simp only[iN];rw[a6 (by omega),KP U];rfl
theorem Rb{eb:Option Nat}(h:gL.has (Bs eb) s=false):eb≠some s:=by
 rintro rfl;simp[gL.has,Bs]at h
theorem Rc(t:Nat)(eb:Option Nat):pt (iw t eb) ((t,t+1)::Bs eb):=by
 intro g ar;cases g with
 | free=>rfl
 | own s=>
  obtain⟨h1,U⟩:=gL.uB ar;simp only[iw];rw[a6 (by omega),a6 (Rb U)]
 | ro s=>
  obtain⟨h1,U⟩:=gL.uB ar;simp only[iw];rw[a6 (by omega),a6 (Rb U)]
theorem KQ(t:Nat)(r:gL):pt (iN t []) ((t,t+1)::r):=by
 intro g ar;cases g with
 | free=>rfl
 | own s=>
  obtain⟨h1,U⟩:=gL.uB ar;simp only[iN];rw[a6 (by omega)];rfl
 | ro s=>
  obtain⟨h1,U⟩:=gL.uB ar;simp only[iN];rw[a6 (by omega)];rfl
variable{P:Program}{st:aG}{e:dA}{obs:List Prop}
theorem Re{d:Nat}{t:TypeId}{x y:Operand}{ans cj:List b6}(h:Av P st d t x y ans=some (e,g,cj,obs)):pt g e.oG/\e.dst=some d:=by
 unfold Av at h;split at h
 ·split at h
  ·split at h
   ·split at h
    ·split at h
     ·simp only[aO,bx]at h;obtain⟨rfl,rfl,_,_⟩:=h;exact⟨Rc _ _,rfl⟩
     cases h
    cases h
   ·split at h
    ·split at h
     ·simp only[aO,bx]at h;obtain⟨rfl,rfl,_,_⟩:=h;exact⟨fun t bq=>by simp only[KQ d _ t bq,nZ];exact Rc d _ t bq,rfl⟩
     cases h
    cases h
   cases h
  cases h
 cases h
theorem Rf{o:Oper}{ans cj:List b6}(h:s' P st o ans=some (e,g,cj,obs)):
  pt g e.oG/\∃d,e.dst=some d/\ps P st o ans=some (⟨(st.map (aD.cr g fun _=>true)).env.set d e.p,(st.map (aD.cr g fun _=>true)).boxes⟩,cj,obs):=by
 obtain⟨dst,op,type,pos,after,guard⟩:=o;have gq:∀st:aG,st.map (aD.cr some fun _=>true)=st:=by
  intro st;have:(aD.cr some fun _=>true)=_root_.id:=by
   funext l;cases l<;>simp[aD.cr,aoF]
  rw[this];simp only[aG.map];have h1:aI.map _root_.id=_root_.id:=by
   funext p;cases p with
   | bd a=>cases a<;>simp[aI.map,bS.map]
   | gv as=>
    simp only[aI.map,id]
    congr 1
    have:bS.map _root_.id=_root_.id:=by funext a;cases a<;>simp[bS.map]
    rw[this];simp
  rw[h1];simp
 simp only[s']at h;split at h
 ·rename_i d f args ts;split at h
  ·rename_i fn gW rs r h1 U;split at h
   ·rename_i af;simp only[aO,bx]at h;obtain⟨rfl,rfl,rfl,rfl⟩:=h;refine⟨aoH,d,rfl,?_⟩;simp only[ps,qg,P7,ng,k9,LA,h1,U,jx];rw[aZ af];rfl
   cases h
  cases h
 ·rename_i d t n parts;split at h
  ·rename_i k es ms ao;simp only[aO,bx]at h;obtain⟨rfl,rfl,rfl,rfl⟩:=h;refine⟨aoI,d,rfl,?_⟩;simp only[ps,qg];exact anM ao ans
  cases h
 ·rename_i d x y t dc;split at h
  ·rename_i Bb;subst Bb;refine⟨(Re h).1,d,(Re h).2,?_⟩;simp only[ps,qg,fL,Sx.Ad];unfold Av at h;split at h
   ·rename_i wk k he;simp only[he];split at h
    ·rename_i i hi;simp only[hi];split at h
     ·rename_i z hF cb es s aW aj;split at h
      ·rename_i bR eb a2 dH ai;split at h
       ·rename_i af;obtain⟨rfl,af⟩:=af;simp only[aO,bx]at h;obtain⟨rfl,rfl,rfl,rfl⟩:=h;simp only[DJ,aj,fL,aW,ai];rw[aZ af];rfl
       cases h
      cases h
     ·rename_i z _ aW aj;split at h
      ·rename_i bR eb a2 dH ai;split at h
       ·rename_i af;simp only[aO,bx]at h;obtain⟨rfl,rfl,rfl,rfl⟩:=h;have r5:(st.ke d []).bj y=(st.bj y).map (aD.cr (iN d []) fun _=>true):=aoG st _ (fun _=>rfl) rfl (fun _=>rfl) y;simp only[DJ,aj,aW,r5,ai];rw[aZ af];have:(st.ke d []).yk d eb=st.map (aD.cr (fun g=>(iN d [] g).bind (iw d eb)) fun _=>true):=by
         simp only[aG.ke,aG.yk,aG.map_map]
         congr 1
         funext l;refine aD.avb _ _ (fun g t h=>?_) l;cases g with
         | free=>simp[iw]at h
         | own s=>
          simp only[iw]at h;split at h
          ·simp at h
          split at h
          ·cases h
          simpa using h
         | ro s=>
          simp only[iw]at h;split at h
          ·cases h
          split at h
          ·cases h
          simp at h
        rw[this]
       cases h
      cases h
     cases h
    cases h
   cases h
  cases h
 ·cases h
 ·rename_i d ty;split at h
  ·rename_i i hi;split at h
   ·rename_i z aW;split at h
    ·rename_i aB;simp only[aO,bx]at h;obtain⟨rfl,rfl,rfl,rfl⟩:=h;refine⟨KQ _ _,d,rfl,?_⟩;simp only[ps,EK,hi,aW];rw[aZ aB];rfl
    cases h
   cases h
  cases h
 ·rename_i d t l c;unfold Qf at h;split at h
  ·rename_i e hu;split at h
   ·rename_i i cy g' bw kL hi e1 e2;split at h
    ·rename_i z aW;split at h
     ·rename_i af;simp only[aO,bx]at h;obtain⟨rfl,rfl,rfl,rfl⟩:=h;refine⟨KQ _ _,d,rfl,?_⟩;simp only[ps,qg,E1,hu,hi,e1,e2,aW];rw[aZ af];rfl
     cases h
    cases h
   cases h
  cases h
 ·rename_i d t x cW hi jI;split at h
  ·rename_i aN;unfold HQ at h;split at h
   ·rename_i e k s cb es hf e1 e2;split at h
    ·rename_i af;obtain⟨rfl,ai⟩:=af;split at h
     ·rename_i l bC cJ e4;simp only[aO,bx]at h;obtain⟨rfl,rfl,rfl,rfl⟩:=h;refine⟨aoD,d,rfl,?_⟩;simp only[ps,qg,aN,fL,Ae,e1,e2,cJ,e4,pF,ai,true_and]
     cases h
    cases h
   cases h
  rename_i aN;rw[b2]at h;obtain⟨⟨cw,dt,eE⟩,h1,h⟩:=h;simp only[bx]at h;obtain⟨rfl,rfl,rfl,rfl⟩:=h;refine⟨Ra,d,rfl,?_⟩;rw[gq];simp only[ps,qg];rw[a6 aN,h1];rfl
 ·rename_i d hD ih ku jh kv n6 n7;rw[b2]at h;obtain⟨⟨cw,dt,eE⟩,h1,h⟩:=h;simp only[bx]at h;obtain⟨rfl,rfl,rfl,rfl⟩:=h;refine⟨Ra,d,rfl,?_⟩;rw[gq];have yC:ps P st ⟨some d,op,type,pos,after,guard⟩ ans=qg P st ⟨some d,op,type,pos,after,guard⟩ ans:=by
   unfold ps;split
   ·rename_i e1 e2;exact (kv _ e2).elim
   ·rename_i e1 e2;cases e1
   rfl
  rw[yC];unfold qg;split
  all_goals first
   | exact (jh _ _ (by assumption)).elim
   | exact (kv _ (by assumption)).elim
   | exact (n6 _ _ _ (by assumption)).elim
   | exact (ih _ _ _ (by assumption)).elim
   | exact (hD _ _ _ (by assumption)).elim
   | exact (ku _ _ _ _ (by assumption)).elim
   | exact (n7 _ _ _ _ _ (by assumption)).elim
   | (simp_all;done)
   | (exfalso;rename_i e;subst e;simp[qc]at h1)
   | (exfalso;simp_all[qc])
 ·rename_i ty s y;split at h
  ·rename_i hF vs v i e1 e2 cJ;split at h
   ·rename_i af;simp only[aO,bx]at h;obtain⟨rfl,rfl,rfl,rfl⟩:=h;refine⟨aoE,s,rfl,?_⟩;simp only[ps,EM,e1,e2,cJ];rw[aZ af]
   cases h
  cases h
 cases h
theorem Rel.weaken{w0:eN}{br:aG}{a:Act}{w:World}(h:Rel w0 st a w)(aK:br.env.length=st.env.length)(ao:br.boxes=st.boxes)
  (he:∀(i:Nat) (p:aI),br.env[i]?=some p->p=.cu\/st.env[i]?=some p):Rel w0 br a w:=by
 obtain⟨ω,τ,h⟩:=h;refine⟨ω,τ,h.defers,h.size.trans aK.symm,h.below,h.owned,h.fixed,h.pinned,fun i p hp=>?_,by rw[ao];exact h.boxes⟩;rcases he i p hp with rfl | U
 ·have:i<a.tmps.size:=by
   rw[h.size,<-aK];exact (ey.1 hp).1
  exact⟨a.tmps[i],by simp[this],ae⟩
 exact h.env i p U
def dA.hh(e:dA)(t:Nat):Option aI:=if e.dst=some t then some e.p else if t∈e.use then some .cu else none
def so(env:List aI):List Nat->List aI
 | s::us=>so (env.set s .cu) us
 | []=>env
theorem KR:∀(us:List Nat) (env:List aI),(so env us).length=env.length
 | [],env=>rfl
 | s::us,env=>by simp[so,KR us]
theorem Rg:∀(us:List Nat) (env:List aI) (t:Nat),(so env us)[t]?=(env[t]?).map fun p=>if t∈us then .cu else p
 | [],env,t=>by simp[so]
 | s::us,env,t=>by
  simp only[so,Rg us,jy,et];by_cases h:s=t
  ·subst h;by_cases aj:s<env.length
   ·simp[aj]
   simp[aj]
  rw[a6 h];have gM:¬t=s:=fun e=>h e.symm
  simp only[gM,false_or]
def dA.apply(e:dA)(env:List aI):List aI:=
 match e.dst with
 | some d=>(so env e.use).set d e.p
 | none=>env
theorem dA.apply_get(aB:e.dst≠none)(env:List aI)(t:Nat):(e.apply env)[t]?=(env[t]?).map fun p=>(e.hh t).getD p:=by
 unfold dA.apply dA.hh;split
 ·rename_i d d';have ai:∀(t:Nat),(so env e.use)[t]?=(env[t]?).map fun p=>if t∈e.use then .cu else p:=Rg e.use env
  rw[jy,ai t];by_cases h:d=t
  ·subst h;by_cases aj:d<env.length
   ·have:d<(so env e.use).length:=by rw[KR];exact aj
    simp[this,aj,d']
   have:¬d<(so env e.use).length:=by rw[KR];exact aj
   simp[this,aj]
  rw[a6 h];cases Y':env[t]? with
  | none=>simp
  | some p=>
   have cf:¬(e.dst=some t):=by rw[d'];simpa using h
   simp only[n0,aO,a6 cf];by_cases hu:t∈e.use
   ·simp[hu]
   simp[hu]
 exact absurd ‹_› aB
def hK(L:Nat->Bool)(t:Nat):Nat->List dA->aI->aI
 | _,[],acc=>acc
 | k,e::es,acc=>hK L t (k+1) es (if L k then (e.hh t).getD acc else acc)
variable{L:Nat->Bool}
theorem BP{L':Nat->Bool}:∀{es:List dA} {k:Nat} {acc:aI},(∀(j:Nat) (e:dA),es[j]?=some e->e.hh t≠none->L (k+j)=L' (k+j))->hK L t k es acc=hK L' t k es acc
 | [],_,_,_=>rfl
 | e::es,k,acc,h=>by
  simp only[hK];have bl:(if L k then (e.hh t).getD acc else acc)=(if L' k then (e.hh t).getD acc else acc):=by
   cases bq:e.hh t with
   | none=>simp
   | some p=>have:=h 0 e rfl (by simp[bq]);rw[nj]at this;rw[this]
  rw[bl];exact BP fun j e' aP bq=>by have:=h (j+1) e' (by simpa using aP) bq;rwa[show k+(j+1)=k+1+j by omega]at this
theorem Rh{p:aI}:∀{es:List dA} {k i:Nat} {acc:aI} {e:dA},es[i]?=some e->e.hh t=some p->L (k+i)=true->
  (∀(j:Nat) (e':dA),i<j->es[j]?=some e'->e'.hh t≠none->L (k+j)=false)->hK L t k es acc=p
 | [],_,_,_,_,h,_,_,_=>by simp at h
 | cc::es,k,0,acc,e,h,bq,cz,ht=>by
  simp at h;subst h;simp only[hK];rw[nj]at cz;rw[cz,bq];simp only[fL,jx];have:∀(es:List dA) (k:Nat),(∀(j:Nat) (e':dA),es[j]?=some e'->e'.hh t≠none->L (k+j)=false)->hK L t k es p=p:=by
   intro es;induction es with
   | nil=>intro k _;rfl
   | cons e1 es dk=>
    intro k h;simp only[hK];have h1:(if L k then (e1.hh t).getD p else p)=p:=by
     cases bq:e1.hh t with
     | none=>simp
     | some q=>have:=h 0 e1 rfl (by simp[bq]);rw[nj]at this;simp[this]
    rw[h1];exact dk (k+1) fun j e' aP A'=>by have:=h (j+1) e' (by simpa using aP) A';rwa[show k+(j+1)=k+1+j by omega]at this
  exact this es (k+1) fun j e' aP A'=>by have:=ht (j+1) e' (by omega) (by simpa using aP) A';rwa[show k+(j+1)=k+1+j by omega]at this
 | cc::es,k,i+1,acc,e,h,bq,cz,ht=>by
  simp only[hK];exact Rh (i:=i) (by simpa using h) bq (by rwa[show k+1+i=k+(i+1) by omega]) fun j e' aP AZ A'=>by
   have:=ht (j+1) e' (by omega) (by simpa using AZ) A';rwa[show k+(j+1)=k+1+j by omega]at this
def fp(env0:List aI)(bs:List (Nat×List aD))(L:Nat->Bool)(es:List dA):aG:=⟨env0.zipIdx.map fun x=>hK L x.2 0 es x.1,bs⟩
variable{bs:List (Nat×List aD)}
theorem rk{env0:List aI}{es:List dA}(t:Nat):(fp env0 bs L es).env[t]?=(env0[t]?).map fun p=>hK L t 0 es p:=by
 simp only[fp,dG,List.getElem?_zipIdx,dq];cases env0[t]?<;>rfl
theorem zx{env0:List aI}{es:List dA}:(fp env0 bs L es).env.length=env0.length:=by simp[fp]
def KS(ops:Array Oper)(o:Oper):Option Nat:=o.guard.bind fun x=>(ops[x.1]?).bind (·.dst)
def reads(ops:Array Oper)(o:Oper):List Nat:=o.op.operands.toList.filterMap Q'++(KS ops o).toList
def zy(d:Nat):dA:=⟨some d,.one (.v undef),[],[]⟩
def ext(e:dA)(env:List aI):dA:=
 if e.oG.isEmpty then e else { e with use:=e.use++(env.zipIdx.filterMap fun x=>if x.1.eX e.oG&&!(e.dst==some x.2) then some x.2 else none) }
theorem FQ(e:dA)(env:List aI):∃u,ext e env={ e with use:=u }:=by
 unfold ext;split
 ·exact⟨e.use,rfl⟩
 exact⟨_,rfl⟩
structure iG where
 t:Nat
 i:Nat
 j:Nat
 k:Nat
 kT:Nat
 es:List (List D)
 esT:List (List D)
def GL(t:Nat)(bs:List (Nat×List aD)):Option (Nat×List (List D)):=
 (bs.find? fun x=>(x.2.findSome? (ug t)).isSome).bind fun x=>(dE x.1 bs).bind fun ls=>ls.findSome? (ug t)
theorem aoJ{w0:eN}{a:Act}{w:World}{ω:Own}{τ:Nat->Nat×Value}(h:cE w0 st a w ω τ){kT:Nat}{esT:List (List D)}(e:GL t st.boxes=some (kT,esT)):∃v,Sat w ω τ (.J (.own t) kT esT) v:=by
 unfold GL at e;rw[nf]at e;obtain⟨x,_,e⟩:=e;rw[nf]at e;obtain⟨ls,ao,e⟩:=e;obtain⟨l,aj,e⟩:=List.exists_of_findSome?_eq_some e;obtain⟨b,arr,ty,_,_,_,ai⟩:=h.boxes _ ls ao;obtain⟨n,aK⟩:=pJ.1 aj;obtain⟨u,_,hu⟩:=ai.2 n l aK;exact⟨u,Ll e hu⟩
def sq(st:aG)(o:Oper):Option iG:=
 match o.dst,o.op with
 | some _,.call ⟨.builtin .append,⟨[x,_]⟩,⟨[_,_]⟩⟩=>
  match (st.bj x).leaf with
  | some (.a8 s i j k es .here)=>
   match GL s st.boxes with
   | some (kT,esT)=>some ⟨s,i,j,k,kT,es,esT⟩
   | none=>none
  | _=>none
 | _,_=>none
def vO(P:Program)(st:aG)(o:Oper)(ans:List b6):Option (dA×List b6×List Prop):=
 match sq st o,o.dst,o.op with
 | some v,some d,.call ⟨.builtin .append,⟨[_,y]⟩,⟨[t,dc]⟩⟩=>
  if t=dc then (uw P t v.t v.i v.j v.k v.es v.esT (st.bj y) ans).map fun r=>(⟨some d,r.1,[],[]⟩,r.2.1,r.2.2) else none
 | _,_,_=>none
def iG.fix(v:iG):aD->Option (List Prop)
 | .J (.own s) dw dP=>if s=v.t then (if dw=v.kT then some [dP=v.esT] else none) else some []
 | .ep (.own s) dw dP _ _=>if s=v.t then (if dw=v.kT then some [dP=v.esT] else none) else some []
 | .J (.ro s) _ _=>if s=v.t then none else some []
 | .ep (.ro s) _ _ _ _=>if s=v.t then none else some []
 | .a8 s a b dw dP m=>if s=v.t/\b=v.j then (if dw=v.k/\m.home=true then some [a=v.i,dP=v.es] else none) else some []
 | .fB _ _=>none
 | _=>some []
def iG.n2(v:iG)(l:aD):Prop:=hM v.t v.i v.j v.k v.es v.kT v.esT l=l/\∀a∈l.idx v.t v.j,a=v.i
theorem iG.Yt{v:iG}{l:aD}(h:v.fix l=some obs)(aN:c8 obs):v.n2 l:=by
 obtain⟨t,i,j,k,kT,es,esT⟩:=v;unfold iG.n2;simp only;cases l with
 | J g dw dP=>
  refine⟨?_,fun a ad=>by simp[aD.idx]at ad⟩;cases g with
  | free=>rfl
  | own s=>
   simp only[iG.fix]at h;split at h
   ·rename_i ai;subst ai;split at h
    ·rename_i hk;subst hk;cases h;have e:dP=esT:=aN.1;subst e;simp[hM]
    cases h
   rename_i ai;simp[hM,ai]
  | ro s=>
   simp only[iG.fix]at h;split at h
   ·cases h
   rename_i ai;simp[hM,ai]
 | ep g dw dP x y=>
  refine⟨?_,fun a ad=>by simp[aD.idx]at ad⟩;cases g with
  | free=>rfl
  | own s=>
   simp only[iG.fix]at h;split at h
   ·rename_i ai;subst ai;split at h
    ·rename_i hk;subst hk;cases h;have e:dP=esT:=aN.1;subst e;simp[hM]
    cases h
   rename_i ai;simp[hM,ai]
  | ro s=>
   simp only[iG.fix]at h;split at h
   ·cases h
   rename_i ai;simp[hM,ai]
 | a8 s a b dw dP m=>
  simp only[iG.fix]at h;split at h
  ·rename_i ai;obtain⟨rfl,rfl⟩:=ai;split at h
   ·rename_i hk;cases h;have e1:a=i:=aN.1;have e2:dP=es:=aN.2.1;subst e1;subst e2;refine⟨?_,fun x aa=>?_⟩
    ·obtain⟨rfl,hm⟩:=hk;simp[hM,hm]
    simpa[aD.idx]using aa
   cases h
  rename_i ai;refine⟨?_,fun x aa=>?_⟩
  ·simp only[hM];rw[a6 ai]
  simp[aD.idx,ai]at aa
 | fB t vs=>cases h
 | _=>exact⟨rfl,fun a ad=>by simp[aD.idx]at ad⟩
def bS.u2:bS->List aD
 | .one l=>[l]
 | .agg ls=>ls
def aI.u2:aI->List aD
 | .bd a=>a.u2
 | .gv as=>as.flatMap bS.u2
theorem bS.Bp{p:aD->Prop}{a:bS}(h:∀l∈a.u2,p l):a.l' p:=by
 cases a with
 | one l=>exact h l (by simp[bS.u2])
 | agg ls=>exact h
theorem aI.Bp{p:aD->Prop}{q:aI}(h:∀l∈q.u2,p l):q.l' p:=by
 cases q with
 | bd a=>exact bS.Bp h
 | gv as=>exact fun a ad=>bS.Bp fun l aj=>h l (kF.2 ⟨a,ad,aj⟩)
def iG.fixes(v:iG):List aD->Option (List Prop)
 | []=>some []
 | l::r=>
  match v.fix l,iG.fixes v r with
  | some a,some b=>some (a++b)
  | _,_=>none
theorem iG.O2{v:iG}:∀{ls:List aD} {obs:List Prop},v.fixes ls=some obs->c8 obs->∀l∈ls,v.n2 l
 | [],_,_,_,l,aj=>by cases aj
 | fS::r,obs,h,aN,l,aj=>by
  simp only[iG.fixes]at h;split at h
  ·rename_i a b h1 U;cases h;obtain⟨dR,dH⟩:=aN.append;rcases et.1 aj with rfl | aj
   ·exact iG.Yt h1 dR
   exact iG.O2 U dH l aj
  cases h
def Ac(bs:List (Nat×List aD))(all:Nat->List aD):Nat->List Oper->List aI->List dA->Option (List Prop)
 | i,o::os,env,e::es=>
  match sq ⟨env,bs⟩ o with
  | some v=>
   match v.fixes (all i),Ac bs all (i+1) os (e.apply env) es with
   | some a,some b=>some (a++b)
   | _,_=>none
  | none=>Ac bs all (i+1) os (e.apply env) es
 | _,_,_,_=>some []
theorem Ri{all:Nat->List aD}:∀{l:List Oper} {es:List dA} {env:List aI} {i0:Nat} {obs:List Prop},Ac bs all i0 l env es=some obs->c8 obs->
  ∀(i:Nat) (o:Oper),l[i]?=some o->i<es.length->∀v,sq ⟨(es.take i).foldl (fun env e=>e.apply env) env,bs⟩ o=some v->∀lI∈all (i0+i),v.n2 lI
 | [],_,_,_,_,_,_,i,o,hi,_,_,_,_,_=>by simp at hi
 | _::_,[],_,_,_,_,_,i,o,_,aj,_,_,_,_=>by simp at aj
 | y4::os,e::es,env,i0,obs,h,aN,i,o,hi,aj,v,bz,lI,Ec=>by
  simp only[Ac]at h;cases i with
  | zero=>
   simp only[kE,aO]at hi;subst hi;simp only[List.take_zero,List.foldl_nil]at bz;rw[bz]at h;simp only at h;split at h
   ·rename_i a b h1 U;cases h;exact iG.O2 h1 aN.append.1 lI Ec
   cases h
  | succ i=>
   have go:∀{b:List Prop},Ac bs all (i0+1) os (e.apply env) es=some b->c8 b->v.n2 lI:=fun U dH=>
    Ri U dH i o (by simpa using hi) (by simpa using aj) v (by simpa using bz) lI (by rw[show i0+1+i=i0+(i+1) by omega];exact Ec)
   split at h
   ·split at h
    ·rename_i a b h1 U;cases h;exact go U aN.append.2
    cases h
   exact go h aN
def vn(P:Program)(ops:Array Oper)(gs:List Nat)(bs:List (Nat×List aD)):List Oper->List aI->List b6->Option (List dA×List aI×List b6×List Prop)
 | [],env,ans=>some ([],env,ans,[])
 | o::rest,env,ans=>
  match sn ops ⟨env,bs⟩ o [] with
  | some (true,_,_,_)=>
   match s' P ⟨env,bs⟩ o ans with
   | some (e,_,fy,gm)=>
    match (match o.dst with | some d=>gs.contains d | none=>false),e.p.leaf,fy with
    | true,some (.cg c),.pP b::r=>
     (vn P ops gs bs rest (dA.apply { ext e env with p:=.one (.v (.bool b)) } env) r).map fun x=>({ ext e env with p:=.one (.v (.bool b)) }::x.1,x.2.1,x.2.2.1,(c=b)::(gm++x.2.2.2))
    | _,_,_=>(vn P ops gs bs rest ((ext e env).apply env) fy).map fun x=>(ext e env::x.1,x.2.1,x.2.2.1,gm++x.2.2.2)
   | none=>
    match vO P ⟨env,bs⟩ o ans with
    | some (e,fy,gm)=>(vn P ops gs bs rest (e.apply env) fy).map fun x=>(e::x.1,x.2.1,x.2.2.1,gm++x.2.2.2)
    | none=>none
  | some (false,_,_,_)=>
   match o.dst with
   | some d=>(vn P ops gs bs rest ((zy d).apply env) ans).map fun x=>(zy d::x.1,x.2.1,x.2.2.1,x.2.2.2)
   | none=>none
  | none=>none
def Fact(P:Program)(ops:Array Oper)(bs:List (Nat×List aD))(env:List aI)(o:Oper)(e:dA):Prop:=
 (∃st1 eZ dR,sn ops ⟨env,bs⟩ o []=some (false,st1,eZ,dR)/\∃d,o.dst=some d/\e=zy d)\/
 (∃st1 eZ dR,sn ops ⟨env,bs⟩ o []=some (true,st1,eZ,dR)/\∃ans cc g cj obs,s' P ⟨env,bs⟩ o ans=some (cc,g,cj,obs)/\c8 obs/\
  ∃u,(e={ cc with use:=u }\/∃c b,cc.p=.one (.cg c)/\c=b/\e={ cc with use:=u,p:=.one (.v (.bool b)) }))\/
 (∃st1 eZ dR,sn ops ⟨env,bs⟩ o []=some (true,st1,eZ,dR)/\∃ans cj obs,vO P ⟨env,bs⟩ o ans=some (e,cj,obs)/\c8 obs)
theorem BQ{ops:Array Oper}{gs:List Nat}:∀{l:List Oper} {env uD:List aI} {ans cj:List b6} {es:List dA} {obs:List Prop},
  vn P ops gs bs l env ans=some (es,uD,cj,obs)->c8 obs->
  es.length=l.length/\uD=es.foldl (fun env e=>e.apply env) env/\∀(i:Nat) (o:Oper),l[i]?=some o->∃e,es[i]?=some e/\Fact P ops bs ((es.take i).foldl (fun env e=>e.apply env) env) o e
 | [],env,uD,ans,cj,es,obs,h,_=>by
  simp only[vn,aO,bx]at h;obtain⟨rfl,rfl,_,_⟩:=h;exact⟨rfl,rfl,fun i o aN=>by simp at aN⟩
 | o::rest,env,uD,ans,cj,es,obs,h,aN=>by
  have fin:∀(e:dA) (dP:List dA) (HU:List aI),(dP.length=rest.length/\HU=dP.foldl (fun env e=>e.apply env) (e.apply env)/\∀(i:Nat) (o:Oper),rest[i]?=some o->∃e',dP[i]?=some e'/\Fact P ops bs ((dP.take i).foldl (fun env e=>e.apply env) (e.apply env)) o e')->
    Fact P ops bs env o e->(e::dP).length=(o::rest).length/\HU=(e::dP).foldl (fun env e=>e.apply env) env/\∀(i:Nat) (p7:Oper),(o::rest)[i]?=some p7->∃e',(e::dP)[i]?=some e'/\Fact P ops bs (((e::dP).take i).foldl (fun env e=>e.apply env) env) p7 e':=by
   intro e dP HU ⟨h1,U,ax⟩ bg;refine⟨by simp[h1],U,fun i p7 lC=>?_⟩;cases i with
   | zero=>simp at lC;subst lC;exact⟨e,rfl,bg⟩
   | succ i=>exact ax i p7 (by simpa using lC)
  simp only[vn]at h;split at h
  ·rename_i st1 eZ dR hw;split at h
   ·rename_i e g fy gm aB;split at h
    ·rename_i c b r ar aj;rw[b2]at h;obtain⟨⟨hG,gd,jw,uo⟩,h1,h⟩:=h;simp only[bx]at h;obtain⟨rfl,rfl,_,rfl⟩:=h;have Qk:(c=b)/\c8 uo:=⟨aN.1,(c8.append aN.2).2⟩
     have Bu:=(c8.append aN.2).1;refine fin _ _ _ (BQ h1 Qk.2) (.inr (.inl ⟨_,_,_,hw,_,_,_,_,_,aB,Bu,(FQ e env).choose,.inr ⟨c,b,?_,?_,?_⟩⟩))
     ·cases hp:e.p with
      | bd a=>
       rw[hp]at aj;cases a with
       | one l=>simp only[aI.leaf,aO]at aj;rw[aj]
       | agg ls=>cases aj
      | gv as=>rw[hp]at aj;cases aj
     ·exact Qk.1
     conv=>lhs;rw[(FQ e env).choose_spec]
    rw[b2]at h;obtain⟨⟨hG,gd,jw,uo⟩,h1,h⟩:=h;simp only[bx]at h;obtain⟨rfl,rfl,_,rfl⟩:=h;obtain⟨Bu,dH⟩:=aN.append;exact fin _ _ _ (BQ h1 dH) (.inr (.inl ⟨_,_,_,hw,_,_,_,_,_,aB,Bu,(FQ e env).choose,.inl (FQ e env).choose_spec⟩))
   split at h
   ·rename_i e fy gm I2;rw[b2]at h;obtain⟨⟨hG,gd,jw,uo⟩,h1,h⟩:=h;simp only[bx]at h;obtain⟨rfl,rfl,_,rfl⟩:=h;obtain⟨Bu,dH⟩:=aN.append;exact fin _ _ _ (BQ h1 dH) (.inr (.inr ⟨_,_,_,hw,_,_,_,I2,Bu⟩))
   cases h
  ·rename_i st1 eZ dR hw;split at h
   ·rename_i d aB;rw[b2]at h;obtain⟨⟨hG,gd,jw,uo⟩,h1,h⟩:=h;simp only[bx]at h;obtain⟨rfl,rfl,_,rfl⟩:=h;exact fin _ _ _ (BQ h1 aN) (.inl ⟨_,_,_,hw,d,aB,rfl⟩)
   cases h
  cases h
end Go.Sx
namespace Go.Sx
open Go.RowKit
variable{st br:aG}
theorem Rj{parts:List (Nat×Operand)}(h:∀x∈parts,st.bj x.2=br.bj x.2):(parts.map fun x=>(x.1,st.bj x.2))=parts.map fun x=>(x.1,br.bj x.2):=
 lq fun x aa=>by rw[h x aa]
variable{P:Program}{ans:List b6}
theorem Rk{op:Op}(ao:st.boxes=br.boxes)(h:∀x∈op.operands.toList,st.bj x=br.bj x):qc P st op ans=qc P br op ans:=by
 cases op<;>simp only[qc,Op.operands,et,List.mem_nil_iff,forall_eq_or_imp,or_false,forall_eq]at h ⊢
 case load t x=>simp only[ET,h,ao]
 case slice t x cW hi jI=>
  have aa:st.bj x=br.bj x:=h x (by simp);have aN:∀o:Option Operand,(∀y,o=some y->st.bj y=br.bj y)->mS st o=mS br o:=by
   intro o aN;cases o with
   | none=>rfl
   | some y=>simp only[mS,aN y rfl]
  simp only[EU,aa];rw[aN cW (fun y e=>h y (by simp[e])),aN hi (fun y e=>h y (by simp[e]))]
 case build t cx=>
  have:(cx.toList.map fun x=>(x.1,st.bj x.2))=cx.toList.map fun x=>(x.1,br.bj x.2):=Rj fun x aa=>h x.2 (by simp;exact⟨x.1,by simpa using aa⟩)
  simp only[EV,this]
 case call c=>
  obtain⟨callee,args,ts⟩:=c;cases callee with
  | value f=>rfl
  | invoke r i=>rfl
  | builtin b=>
   simp only[Call.operands]at h;have gM:∀x∈args.toList,st.bj x=br.bj x:=fun x aa=>h x (by simpa using aa)
   simp only;generalize args.toList=l at gM;unfold EY;split
   ·rw[gM _ (by simp)]
   ·rw[gM _ (by simp),gM _ (by simp)]
   ·rw[gM _ (by simp),gM _ (by simp)]
   rfl
 case makeFunc fn first captured=>
  have af:captured.toList.map st.bj=captured.toList.map br.bj:=lq fun x aa=>h x (by simp;right;simpa using aa)
  simp only[EX,af]
 all_goals simp[h]
variable{o:Oper}
theorem aoK(ao:st.boxes=br.boxes)(h:∀x∈o.op.operands.toList,st.bj x=br.bj x):s' P st o ans=s' P br o ans:=by
 obtain⟨dst,op,type,pos,after,guard⟩:=o;simp only at h;cases dst with
 | none=>
  cases op with
  | store ty x y=>
   cases x with
   | tmp s=>
    have aa:st.bj (.tmp s)=br.bj (.tmp s):=h (.tmp s) (by simp[Op.operands]);have bn:st.bj y=br.bj y:=h y (by simp[Op.operands]);simp only[aG.bj]at aa;simp only[s',aa,bn]
   | _=>rfl
  | _=>rfl
 | some d=>
  unfold s';split
  ·rename_i f args ts e1 e2;simp only at e1 e2;subst e2;have gM:∀x∈args.toList,st.bj x=br.bj x:=fun x aa=>h x (by simp[Op.operands,Call.operands];right;simpa using aa)
   have:args.toList.mapM (fun x=>(st.bj x).kK st.boxes)=args.toList.mapM (fun x=>(br.bj x).kK br.boxes):=by
    rw[<-ao];generalize args.toList=l at gM;generalize st.boxes=bs;induction l with
    | nil=>rfl
    | cons x l dk=>simp only[yb,gM x (by simp),dk fun y bn=>gM y (by simp[bn])]
   rw[this]
  ·rename_i t n parts e1 e2;simp only at e1 e2;subst e2;have:(parts.toList.map fun x=>(x.1,st.bj x.2))=parts.toList.map fun x=>(x.1,br.bj x.2):=Rj fun x aa=>h x.2 (by simp[Op.operands];exact⟨x.1,by simpa using aa⟩)
   simp only[DN,this]
  ·rename_i x y t dc e1 e2;simp only at e1 e2;subst e2;have aa:st.bj x=br.bj x:=h x (by simp[Op.operands,Call.operands]);have bn:st.bj y=br.bj y:=h y (by simp[Op.operands,Call.operands]);simp only[Av,aa,bn]
  ·rfl
  ·rfl
  ·rename_i t l c e1 e2;simp only at e1 e2;subst e2;rw[h l (by simp[Op.operands]),h c (by simp[Op.operands])]
  ·rename_i t x cW hi jI e1 e2;simp only at e1 e2;subst e2;have aa:st.bj x=br.bj x:=h x (by simp[Op.operands]);have aN:∀o:Option Operand,(∀y,o=some y->st.bj y=br.bj y)->mS st o=mS br o:=by
    intro o aN;cases o with
    | none=>rfl
    | some y=>simp only[mS,aN y rfl]
   rw[Rk ao h];simp only[HQ,aa];rw[aN cW (fun y e=>h y (by simp[Op.operands,e])),aN hi (fun y e=>h y (by simp[Op.operands,e]))]
  ·rw[Rk ao h]
  ·rename_i e1 e2;cases e1
  rfl
theorem O1{x:Operand}(h:∀t,Q' x=some t->st.env.getD t .cu=br.env.getD t .cu):st.bj x=br.bj x:=by
 cases x with
 | tmp t=>simpa[aG.bj]using h t rfl
 | _=>rfl
def nu(ms:List Nat)(i j:Nat):Bool:=(ms.getD j 0).testBit i
def xf(ms:List Nat):List Edge->Nat
 | []=>0
 | e::r=>if Region.binds .any e then (2 ^ e.on ||| ms.getD e.on 0) ||| xf ms r else xf ms r
def sj:List Oper->List Nat->List Nat
 | [],acc=>acc
 | o::r,acc=>sj r (acc++[xf acc o.after.toList])
variable{ms:List Nat}{i:Nat}
theorem KT:∀{l:List Edge},(xf ms l).testBit i=true->∃e∈l,Region.binds .any e=true/\(i=e.on\/nu ms i e.on=true)
 | [],h=>by simp[xf]at h
 | e::r,h=>by
  simp only[xf]at h;split at h
  ·rename_i ao;rw[Nat.testBit_or,Nat.testBit_or,ni,ni,Nat.testBit_two_pow,b']at h;rcases h with (h | h) | h
   ·exact⟨e,by simp,ao,.inl h.symm⟩
   ·exact⟨e,by simp,ao,.inr h⟩
   obtain⟨e',h1,U⟩:=KT h;exact⟨e',by simp[h1],U⟩
  obtain⟨e',h1,U⟩:=KT h;exact⟨e',by simp[h1],U⟩
def rU{α:Type}(f:Nat->α->Bool):Nat->List α->Bool
 | _,[]=>true
 | k,x::r=>f k x&&rU f (k+1) r
theorem xg{α:Type}{f:Nat->α->Bool}:∀{l:List α} {k:Nat},rU f k l=true->∀(i:Nat) (x:α),l[i]?=some x->f (k+i) x=true
 | [],_,_,i,x,h=>by simp at h
 | y::r,k,h,0,x,aa=>by
  simp only[rU,b8]at h;simp at aa;subst aa;exact h.1
 | y::r,k,h,i+1,x,aa=>by
  simp only[rU,b8]at h;have:=xg h.2 i x (by simpa using aa);rwa[show k+1+i=k+(i+1) by omega]at this
def sr(ms:List Nat)(os:List Oper):Bool:=
 rU (fun j o=>ms.getD j 0==xf ms o.after.toList&&o.after.toList.all fun e=>!Region.binds .any e||decide (e.on<j)) 0 os
variable{ops:Array Oper}
theorem KU(h:sr ms ops.toList=true){j:Nat}(aN:ops[j]?=some o):(∀e∈o.after,Region.binds .any e=true->e.on<j)/\
  ∀i,nu ms i j=true->∃e∈o.after,Region.binds .any e=true/\(i=e.on\/nu ms i e.on=true):=by
 have:=xg h j o (by simpa using aN);simp only[dq,b8,dp,fW,ni,gy,b']at this;refine⟨fun e he ao=>(this.2 e (by simpa using he)).resolve_left (by simp[ao]),fun i hi=>?_⟩;unfold nu at hi;rw[this.1]at hi;obtain⟨e,h1,U⟩:=KT hi;exact⟨e,by simpa using h1,U⟩
def rl(ops:Array Oper)(bU:Array Bool):Prop:=
 ∀(j:Nat) (o:Oper),bU.getD j false=true->ops[j]?=some o->∀e∈o.after,Region.binds .any e=true->bU.getD e.on false=true
variable{bU:Array Bool}
theorem FR{j:Nat}(h:bU.getD j false=true):j<bU.size:=by
 rcases pM j bU.size with gM | gM
 ·exact gM
 simp[Dr gM]at h
theorem FT(h:sr ms ops.toList=true)(af:rl ops bU)(ai:bU.size=ops.size):∀(j:Nat),bU.getD j false=true->nu ms i j=true->bU.getD i false=true:=by
 intro j;induction j using Nat.strongRecOn with
 | ind j dk=>
  intro aP ad;have bu:j<ops.size:=ai▸FR aP;have aN:ops[j]?=some ops[j]:=hS bu;obtain⟨h1,U⟩:=KU h aN;obtain⟨e,he,ao,oo⟩:=U i ad;have uP:=af j _ aP aN e he ao;rcases oo with rfl | oo
  ·exact uP
  exact dk e.on (h1 e he ao) uP oo
variable{k:Nat}
theorem BR(h:sr ms ops.toList=true)(af:rl ops bU)(ai:bU.size=ops.size)(hi:i∈Region.ready .any ops bU)(ad:nu ms k i=true):bU.getD k false=true:=by
 rw[mem_ready]at hi;obtain⟨_,o,aN,he⟩:=hi;obtain⟨_,U⟩:=KU h aN;obtain⟨e,yH,ao,oo⟩:=U k ad;rcases oo with rfl | oo
 ·exact he e yH ao
 exact FT h af ai _ (he e yH ao) oo
theorem rl.ready(af:rl ops bU)(hi:i∈Region.ready .any ops bU):rl ops (bU.setIfInBounds i true):=by
 intro j o aP aN e he ao;rw[mem_ready]at hi;obtain⟨_,axa,ZX,nA⟩:=hi;by_cases lh:i=j
 ·subst lh;rw[ZX]at aN;cases aN;exact getD_set_true (nA e he ao)
 rw[getD_set_ne false lh]at aP;exact getD_set_true (af j o aP aN e he ao)
theorem KV(h:sr ms ops.toList=true)(ai:bU.size=ops.size)(az:Region.ready .any ops bU=[]):∀j,j<ops.size->bU.getD j false=true:=by
 intro j;induction j using Nat.strongRecOn with
 | ind j dk=>
  intro bu;have aN:ops[j]?=some ops[j]:=hS bu;obtain⟨h1,_⟩:=KU h aN;cases aj:bU.getD j false with
  | true=>rfl
  | false=>
   have:j∈Region.ready .any ops bU:=by
    rw[mem_ready];refine⟨?_,_,aN,fun e he ao=>dk e.on (h1 e he ao) (Nat.lt_trans (h1 e he ao) bu)⟩;have ZK:j<bU.size:=ai▸bu;simp[hS ZK]at aj ⊢;exact aj
   rw[az]at this;cases this
def BS(e:dA):List Nat:=e.dst.toList++e.use
def FU(ops:Array Oper)(o:Oper)(e:dA):List Nat:=BS e++reads ops o
def ED(ms:List Nat)(i k:Nat):Bool:=if k<i then nu ms k i else nu ms i k
def KW(ops:Array Oper)(ms:List Nat)(es:List dA):Bool:=
 rU (fun i x=>rU (fun k e=>k==i||ED ms i k||!((BS e).any fun t=>(FU ops x.1 x.2).contains t)) 0 es) 0 (ops.toList.zip es)
def zz(ms:List Nat)(es:List dA)(i cW:Nat)(s:Option Nat):Bool:=es.zipIdx.any fun y=>decide (cW<=y.2)&&nu ms y.2 i&&(match s with | some t=>y.1.use.contains t | none=>false)
variable{es:List dA}
theorem Rl{cW:Nat}{s:Option Nat}(h:zz ms es i cW s=true):∃m y t,es[m]?=some y/\cW<=m/\nu ms m i=true/\t∈y.use/\s=some t:=by
 unfold zz at h;rw[l9]at h;obtain⟨⟨y,m⟩,h1,U⟩:=h;rw[List.mem_zipIdx_iff_getElem?]at h1;simp only[b8,b']at U;cases s with
 | none=>simp at U
 | some t=>exact⟨m,y,t,h1,U.1.1,U.1.2,by simpa using U.2,rfl⟩
def KX(ms:List Nat)(es:List dA)(env0:List aI)(bs:List (Nat×List aD)):Bool:=
 rU (fun i e=>e.oG.isEmpty||
  (rU (fun j x=>j==i||nu ms i j||!x.p.eX e.oG||(match x.dst with | some t=>e.use.contains t | none=>false)||x.dst==e.dst||zz ms es i (j+1) x.dst) 0 es&&
   rU (fun t p=>!p.eX e.oG||e.use.contains t||zz ms es i 0 (some t)||e.dst==some t) 0 env0&&
   bs.all fun x=>!x.2.any (aD.eX e.oG))) 0 es
variable{e:dA}
theorem QM{t:Nat}(h:e.hh t≠none):t∈BS e:=by
 unfold dA.hh at h;split at h
 ·rename_i aB;simp[BS,aB]
 split at h
 ·rename_i hu;simp[BS,hu]
 exact absurd rfl h
theorem QN(h:KW ops ms es=true){ib HT:dA}(aN:ops[i]?=some o)(hi:es[i]?=some ib)(hk:es[k]?=some HT)(cf:k≠i){t:Nat}
  (bq:HT.hh t≠none) (aK:t∈FU ops o ib):ED ms i k=true:=by
 have h1:=xg h i (o,ib) (by
  rw[List.getElem?_zip_eq_some];exact⟨by simpa using aN,hi⟩)
 have U:=xg h1 k HT hk;simp only[dq,ni,dp,gy]at U;rcases U with (U | U) | U
 ·exact absurd U cf
 ·exact U
 rw[ff]at U;have:=U t (QM bq);simp only[List.contains_iff_mem]at this;exact absurd aK this
variable{r:gL}
theorem Tag.p6(h:r.isEmpty=true)(t:Tag):t.eX r=false:=by
 cases t with
 | free=>rfl
 | own s=>rw[List.isEmpty_iff]at h;subst h;rfl
 | ro s=>rw[List.isEmpty_iff]at h;subst h;rfl
theorem aD.p6(h:r.isEmpty=true)(l:aD):l.eX r=false:=by
 cases l with
 | a8 t i j k es m=>exact Tag.p6 h (.own t)
 | fB t vs=>
  simp only[aD.eX,fR];refine⟨Tag.p6 h (.own t),ff.2 fun c _=>?_⟩;cases c with
  | cu=>simp[e9.eX]
  | v x=>simp[e9.eX]
  | J t k es=>simp[e9.eX,Tag.p6 h]
 | _=>simp[aD.eX,Tag.p6 h]
theorem bS.p6(h:r.isEmpty=true)(a:bS):a.eX r=false:=by
 cases a<;>simp[bS.eX,aD.p6 h]
theorem aI.p6(h:r.isEmpty=true)(p:aI):p.eX r=false:=by
 cases p<;>simp[aI.eX,bS.p6 h]
variable{bs:List (Nat×List aD)}
theorem aoL{env0:List aI}(h:KX ms es env0 bs=true)(hi:es[i]?=some e):
  (∀(j:Nat) (x:dA),es[j]?=some x->j≠i->nu ms i j=true\/x.p.eX e.oG=false\/(∃t,x.dst=some t/\t∈e.use)\/x.dst=e.dst\/zz ms es i (j+1) x.dst=true)/\
  (∀(t:Nat) (p:aI),env0[t]?=some p->((p.eX e.oG=false\/t∈e.use)\/zz ms es i 0 (some t)=true)\/e.dst=some t)/\∀x∈bs,x.2.any (aD.eX e.oG)=false:=by
 have h1:=xg h i e hi;simp only[ni,b']at h1;rcases h1 with h1 | h1
 ·refine⟨fun j x _ _=>.inr (.inl (aI.p6 h1 _)),fun t p _=>.inl (.inl (.inl (aI.p6 h1 _))),fun x _=>?_⟩;rw[ff];intro l _;simp[aD.p6 h1]
 simp only[b8]at h1;obtain⟨⟨h1,U⟩,ax⟩:=h1;refine⟨fun j x aa cf=>?_,fun t p hp=>?_,fun x aa=>?_⟩
 ·have:=xg h1 j x aa;simp only[dq,ni,dp,gy,b8]at this;rcases this with ((((aF | aF) | aF) | aF) | aF) | aF
  rotate_left 4
  ·exact .inr (.inr (.inr (.inl aF)))
  ·exact .inr (.inr (.inr (.inr aF)))
  ·exact absurd aF cf
  ·exact .inl aF
  ·exact .inr (.inl aF)
  refine .inr (.inr (.inl ?_));split at aF
  ·rename_i t bq;exact⟨t,bq,by simpa using aF⟩
  cases aF
 ·have:=xg U t p hp;simp only[dq,ni,gy,List.contains_iff_mem,dp]at this;exact this
 rw[fW]at ax;simpa using ax x aa
theorem KY{L:Nat->Bool}{t:Nat}:∀{es:List dA} {k:Nat} {acc:aI},(hK L t k es acc=acc/\∀(m:Nat) (y:dA),es[m]?=some y->L (k+m)=true->y.hh t=none)\/hK L t k es acc=.cu\/
  ∃j e,es[j]?=some e/\L (k+j)=true/\e.dst=some t/\hK L t k es acc=e.p/\∀(m:Nat) (y:dA),es[m]?=some y->j<m->L (k+m)=true->y.hh t=none
 | [],_,_=>.inl ⟨rfl,fun m y h=>by simp at h⟩
 | e::es,k,acc=>by
  simp only[hK];rcases KY (L:=L) (t:=t) (es:=es) (k:=k+1) (acc:=if L k then (e.hh t).getD acc else acc) with⟨h,aK⟩ | h | ⟨j,e',h1,U,ax,aF,aQ⟩
  ·have tail:∀(m:Nat) (y:dA),(e::es)[m+1]?=some y->L (k+(m+1))=true->y.hh t=none:=fun m y bn aj=>aK m y (by simpa using bn) (by rwa[show k+1+m=k+(m+1) by omega])
   by_cases cz:L k=true
   ·rw[aZ cz]at h ⊢;unfold dA.hh at h ⊢;by_cases aB:e.dst=some t
    ·rw[aZ aB]at h ⊢;refine .inr (.inr ⟨0,e,rfl,cz,aB,h,fun m y bn hm aj=>?_⟩);cases m with
     | zero=>omega
     | succ m=>exact tail m y bn aj
    rw[a6 aB]at h ⊢;by_cases hu:t∈e.use
    ·rw[aZ hu]at h ⊢;exact .inr (.inl h)
    rw[a6 hu]at h ⊢;refine .inl ⟨h,fun m y bn aj=>?_⟩;cases m with
    | zero=>
     simp only[kE,aO]at bn;subst bn;rw[a6 aB,a6 hu]
    | succ m=>exact tail m y bn aj
   rw[a6 cz]at h ⊢;refine .inl ⟨h,fun m y bn aj=>?_⟩;cases m with
   | zero=>exact absurd aj (by simpa using cz)
   | succ m=>exact tail m y bn aj
  ·exact .inr (.inl h)
  refine .inr (.inr ⟨j+1,e',by simpa using h1,by rwa[show k+(j+1)=k+1+j by omega],ax,aF,fun m y bn hm aj=>?_⟩);cases m with
  | zero=>omega
  | succ m=>exact aQ m y (by simpa using bn) (by omega) (by rwa[show k+1+m=k+(m+1) by omega])
theorem QO{t:Nat}:∀{es:List dA} {k i:Nat} {acc:aI} {e:dA},es[i]?=some e->
  hK (fun j=>decide (j<k+i+1)) t k es acc=(e.hh t).getD (hK (fun j=>decide (j<k+i)) t k es acc)
 | [],_,_,_,_,h=>by simp at h
 | cc::es,k,0,acc,e,h=>by
  simp at h;subst h;have ht:∀(es:List dA) (k m:Nat) (acc:aI),m<=k->hK (fun j=>decide (j<m)) t k es acc=acc:=by
   intro es;induction es with
   | nil=>intro k m acc _;rfl
   | cons e1 es dk=>
    intro k m acc hm;simp only[hK];rw[a6 (by simpa using hm)];exact dk (k+1) m acc (by omega)
  simp only[hK];rw[aZ (by simp),a6 (by simp),ht _ _ _ _ (by omega),ht _ _ _ _ (by omega)]
 | cc::es,k,i+1,acc,e,h=>by
  simp only[hK];rw[aZ (by simp;omega),aZ (by simp)];have:=QO (t:=t) (es:=es) (k:=k+1) (i:=i) (acc:=(cc.hh t).getD acc) (by simpa using h);rw[show k+1+i+1=k+(i+1)+1 by omega,show k+1+i=k+(i+1) by omega]at this;exact this
theorem FV{env0:List aI}{bs:List (Nat×List aD)}(aB:∀(i:Nat) (e:dA),es[i]?=some e->e.dst≠none):∀(i:Nat),i<=es.length->
  (es.take i).foldl (fun env e=>e.apply env) env0=(fp env0 bs (fun j=>decide (j<i)) es).env
 | 0,_=>by
  apply List.ext_getElem?;intro t;rw[rk];have ht:∀(es:List dA) (k:Nat) (acc:aI),hK (fun j=>decide (j<0)) t k es acc=acc:=by
   intro es;induction es with
   | nil=>intro k acc;rfl
   | cons e1 es dk=>intro k acc;simp only[hK];rw[a6 (by simp)];exact dk _ _
  cases h:env0[t]? with
  | none=>simp[h]
  | some p=>have:=ht es 0 p;simp only[h,List.take_zero,List.foldl_nil,n0,this]
 | i+1,hi=>by
  have bu:i<es.length:=by omega
  have he:es[i]?=some es[i]:=gz bu;have dk:=FV (env0:=env0) (bs:=bs) aB i (by omega);rw[sS,he,yc,List.foldl_append,dk];simp only[List.foldl_cons,List.foldl_nil];apply List.ext_getElem?;intro t;rw[dA.apply_get (aB i _ he),rk,rk];cases h:env0[t]? with
  | none=>rfl
  | some p=>
   have:=QO (t:=t) (es:=es) (k:=0) (i:=i) (acc:=p) he;simp only[dq]at this;simp[this]
theorem KZ{br:aG}{st1:aG}{eZ:List b6}{dR:List Prop}{b:Bool}(h:sn ops st o []=some (b,st1,eZ,dR))(ai:∀t∈reads ops o,st.env.getD t .cu=br.env.getD t .cu):
  sn ops br o []=some (b,br,[],[]):=by
 unfold sn at h ⊢;cases ar:o.guard with
 | none=>rw[ar]at h;simp only[aO,bx]at h;simp[<-h.1]
 | some g=>
  obtain⟨j,want⟩:=g;rw[ar]at h;simp only at h ⊢;cases aB:(ops[j]?).bind (·.dst) with
  | none=>rw[aB]at h;cases h
  | some s=>
   rw[aB]at h;simp only at h ⊢;have:s∈reads ops o:=by simp[reads,KS,ar,aB]
   rw[ai s this]at h;split at h
   ·rename_i e;simp only[aO,bx]at h;simp[e,<-h.1]
   ·rename_i e;simp only[aO,bx]at h;simp[e,<-h.1]
   ·cases h
   cases h
variable{cj:List b6}{obs:List Prop}
theorem QP(h:vO P st o ans=some (e,cj,obs)):
  ∃(v:iG) (d:Nat) (x y:Operand) (t:TypeId),sq st o=some v/\o.dst=some d/\o.op=.call ⟨.builtin .append,⟨[x,y]⟩,⟨[t,t]⟩⟩/\uw P t v.t v.i v.j v.k v.es v.esT (st.bj y) ans=some (e.p,cj,obs)/\
   e=⟨some d,e.p,[],[]⟩/\(st.bj x).leaf=some (.a8 v.t v.i v.j v.k v.es .here)/\GL v.t st.boxes=some (v.kT,v.esT):=by
 obtain⟨dst,op,type,pos,after,guard⟩:=o;unfold vO at h;split at h
 ·rename_i v d gS y t dc hi aB q7;simp only at aB q7;subst aB;subst q7;split at h
  ·rename_i Bb;subst Bb;rw[b2]at h;obtain⟨⟨cw,dt,eE⟩,h1,h⟩:=h;simp only[bx]at h;obtain⟨rfl,rfl,rfl⟩:=h;have lg:=hi;simp only[sq]at lg;split at lg
   ·rename_i s i j k es aj;split at lg
    ·rename_i kT esT ao;cases lg;exact⟨_,d,gS,y,t,hi,rfl,rfl,h1,rfl,aj,ao⟩
    cases lg
   cases lg
  cases h
 cases h
theorem QQ{st br:aG}(ao:st.boxes=br.boxes)(h:∀x∈o.op.operands.toList,st.bj x=br.bj x):sq st o=sq br o:=by
 obtain⟨dst,op,type,pos,after,guard⟩:=o;simp only at h;unfold sq;simp only;split
 ·rename_i x y t dc;have aa:st.bj x=br.bj x:=h x (by simp[Op.operands,Call.operands]);rw[aa,ao]
 rfl
theorem aoM(ao:st.boxes=br.boxes)(h:∀x∈o.op.operands.toList,st.bj x=br.bj x):vO P st o ans=vO P br o ans:=by
 unfold vO;rw[QQ ao h];split
 ·rename_i v d x y t dc h1 U ax;rw[h y (by rw[ax];simp[Op.operands,Call.operands])]
 rfl
theorem aoN{v:iG}{q:aI}(h:q.l' v.n2):∀a∈q.idx v.t v.j,a=v.i:=by
 have one:∀{a:bS},a.l' v.n2->∀x∈a.idx v.t v.j,x=v.i:=by
  intro a ad x aa;cases a with
  | one l=>exact ad.2 x aa
  | agg ls=>
   obtain⟨l,aj,aa⟩:=kF.1 aa;exact (ad l aj).2 x aa
 intro x aa;cases q with
 | bd a=>exact one h x aa
 | gv as=>
  obtain⟨a,ad,aa⟩:=kF.1 aa;exact one (h a ad) x aa
theorem aoO{v:iG}{q:aI}(h:q.l' v.n2):q.map (hM v.t v.i v.j v.k v.es v.kT v.esT)=q:=by
 have ls:∀{ls:List aD},(∀l∈ls,v.n2 l)->ls.map (hM v.t v.i v.j v.k v.es v.kT v.esT)=ls:=by
  intro ls aj
  conv=>rhs;rw[<-sU ls]
  exact lq fun l hm=>(aj l hm).1
 have one:∀{a:bS},a.l' v.n2->a.map (hM v.t v.i v.j v.k v.es v.kT v.esT)=a:=by
  intro a ad;cases a with
  | one l=>simp only[bS.map];rw[ad.1]
  | agg l=>simp only[bS.map];rw[ls ad]
 cases q with
 | bd a=>simp only[aI.map];rw[one h]
 | gv as=>
  simp only[aI.map]
  congr 1
  conv=>rhs;rw[<-sU as]
  exact lq fun a hm=>one (h a hm)
theorem Fact.dst{env:List aI}(h:Fact P ops bs env o e):e.dst≠none:=by
 rcases h with⟨_,_,_,_,d,aB,rfl⟩ | ⟨_,_,_,_,ans,cc,g,cj,obs,h1,_,U⟩ | ⟨_,_,_,_,ans,cj,obs,h1,_⟩
 rotate_left 2
 ·obtain⟨v,d,x,y,t,_,_,_,_,he,_⟩:=QP h1;rw[he];simp
 ·simp[zy]
 obtain⟨_,d,aF,_⟩:=Rf h1;obtain⟨u,U⟩:=U;rcases U with rfl | ⟨c,b,_,_,rfl⟩
 ·simp only[aF];simp
 simp only[aF];simp
variable{w0:eN}{a:Act}{w:World}
theorem Rel.bool{env:List aI}{d:Nat}{c:Bool}(h:Rel w0 ⟨env.set d (.one (.cg c)),bs⟩ a w):Rel w0 ⟨env.set d (.one (.v (.bool c))),bs⟩ a w:=by
 obtain⟨ω,τ,h⟩:=h;refine⟨ω,τ,h.defers,by have:=h.size;simpa using this,h.below,h.owned,h.fixed,h.pinned,fun i p hp=>?_,h.boxes⟩;by_cases hi:d=i
 ·subst hi;rw[jy]at hp;split at hp
  ·split at hp
   ·rename_i aj;simp only[aO]at hp;subst hp;obtain⟨v,h1,U⟩:=h.env d (.one (.cg c)) (by simp[aj]);exact⟨v,h1,U⟩
   cases hp
  rename_i cf;exact absurd rfl cf
 exact h.env i p (by simpa[jy,hi]using hp)
section
variable {P : Program} {ops : Array Oper} {bs : List (Nat × List aD)} {env0 : List aI} {es : List dA} {ms : List Nat}
def fs(bU:Array Bool)(j:Nat):Bool:=bU.getD j false
structure qu (P:Program) (ops:Array Oper) (bs:List (Nat×List aD)) (env0:List aI) (es:List dA) (ms:List Nat):Prop where
 len:es.length<=ops.size
 facts:∀(i:Nat) (o:Oper),i<es.length->ops[i]?=some o->∃e,es[i]?=some e/\Fact P ops bs (fp env0 bs (fun j=>decide (j<i)) es).env o e
 masks:sr ms ops.toList=true
 a8:∀(i:Nat) (o:Oper) (v:iG),i<es.length->ops[i]?=some o->sq ⟨(fp env0 bs (fun j=>decide (j<i)) es).env,bs⟩ o=some v->
  (∀q∈env0,q.l' v.n2)/\(∀(j:Nat) (x:dA),es[j]?=some x->j≠i->x.p.l' v.n2)/\∀x∈bs,∀l∈x.2,v.n2 l
 ord:KW ops ms es=true
 tok:KX ms es env0 bs=true
variable{bU:Array Bool}{i:Nat}{e:dA}
theorem qu.same(h:qu P ops bs env0 es ms)(af:rl ops bU)(ai:bU.size=ops.size)(hi:i∈Region.ready .any ops bU){o:Oper}(aN:ops[i]?=some o)(he:es[i]?=some e)
  {t:Nat} (bq:t∈FU ops o e):(fp env0 bs (fs bU) es).env.getD t .cu=(fp env0 bs (fun j=>decide (j<i)) es).env.getD t .cu:=by
 rw[iF,iF,rk,rk];have fJ:bU.getD i false=false:=by
  have bl:=(mem_ready.1 hi).1;have bu:i<bU.size:=ai▸(jz.1 aN).1;simp[hS bu]at bl ⊢;exact bl
 cases Y':env0[t]? with
 | none=>rfl
 | some p=>
  simp only[n0,jx];refine BP fun j yq aP Ba=>?_
  rw[dq];by_cases o3:j=i
  ·subst o3;simp[fs,fJ]
  have:=QN h.ord aN he aP o3 Ba bq;unfold ED at this;split at this
  ·rename_i bu;have:=BR h.masks af ai hi this;simp[fs,bu,this]
  rename_i bu;cases Ed:bU.getD j false with
  | false=>simp[fs,Ed,bu]
  | true=>have:=FT h.masks af ai j Ed this;rw[fJ]at this;cases this
theorem K0(bu:i<bU.size)(j:Nat):fs (bU.setIfInBounds i true) j=(if j=i then true else fs bU j):=by
 unfold fs;split
 ·rename_i h;subst h;simp[bu]
 rename_i h;rw[getD_set_ne false (Ne.symm h)]
theorem qu.eW(h:qu P ops bs env0 es ms)(bu:i<bU.size)(he:es[i]?=some e){t:Nat}(bq:e.hh t=none)(p:aI):
  hK (fs (bU.setIfInBounds i true)) t 0 es p=hK (fs bU) t 0 es p:=by
 refine BP fun j yq aP Ba=>?_
 rw[dq,K0 bu,a6];rintro rfl;rw[he]at aP;cases aP;exact Ba bq
theorem qu.last(h:qu P ops bs env0 es ms)(af:rl ops bU)(ai:bU.size=ops.size)(hi:i∈Region.ready .any ops bU){o:Oper}(aN:ops[i]?=some o)(he:es[i]?=some e)
  {t:Nat} {q:aI} (bq:e.hh t=some q) (p:aI):hK (fs (bU.setIfInBounds i true)) t 0 es p=q:=by
 have bu:i<bU.size:=ai▸(jz.1 aN).1;have fJ:bU.getD i false=false:=by
  have bl:=(mem_ready.1 hi).1;simp[hS bu]at bl ⊢;exact bl
 refine Rh he bq (by rw[dq,K0 bu,aZ rfl]) fun j yq aP Zy Ba=>?_
 rw[dq,K0 bu,a6 (by omega)];have:=QN h.ord aN he Zy (by omega) Ba (t:=t) (by
  unfold FU;exact hl _ (QM (by rw[bq];simp)))
 unfold ED at this;rw[a6 (by omega)]at this;cases Ed:fs bU j with
 | false=>rfl
 | true=>have:=FT h.masks af ai j Ed this;rw[fJ]at this;cases this
theorem qu.step(h:qu P ops bs env0 es ms)(af:rl ops bU)(ai:bU.size=ops.size)(hi:i∈Region.ready .any ops bU)(nA:i<es.length){w0:eN}{w:World}{a:Act}
  (az:Rel w0 (fp env0 bs (fs bU) es) a w) {Q:Exit->Act->World->Prop} {K:Act->World->Prop} (gN:∀cF aJ,Rel w0 (fp env0 bs (fs (bU.setIfInBounds i true)) es) cF aJ->K cF aJ):wpOp P ops Q i K a w:=by
 obtain⟨bl,o,aN,awH⟩:=mem_ready.1 hi;obtain⟨e,he,bg⟩:=h.facts i o nA aN;have bu:i<bU.size:=ai▸(jz.1 aN).1;have aad:=fun t bq=>h.same af ai hi aN he (t:=t) bq
 have A4:∀t∈reads ops o,(fp env0 bs (fun j=>decide (j<i)) es).env.getD t .cu=(fp env0 bs (fs bU) es).env.getD t .cu:=fun t bq=>(aad t (io _ bq)).symm
 unfold wpOp;rw[aN];simp only;rcases bg with⟨st1,eZ,dR,hw,d,aB,rfl⟩ | ⟨st1,eZ,dR,hw,ans,cc,g,cj,obs,eI,IT,D8⟩ | ⟨st1,eZ,dR,hw,ans,cj,obs,I2,IT⟩
 rotate_left 2
 ·have Bf:=KZ hw (br:=fp env0 bs (fs bU) es) A4;obtain⟨o7,_⟩:=xd Bf trivial az;rw[aZ o7];left;have Pk:∀x∈o.op.operands.toList,(fp env0 bs (fs bU) es).bj x=aG.bj ⟨(fp env0 bs (fun j=>decide (j<i)) es).env,bs⟩ x:=fun x aa=>O1 fun t bq=>(A4 t (by
   unfold reads;exact hl _ (List.mem_filterMap.2 ⟨x,aa,bq⟩))).symm
  have Iu:vO P (fp env0 bs (fs bU) es) o ans=some (e,cj,obs):=by
   rw[<-I2];exact aoM rfl Pk
  obtain⟨v,d,x,y,t,Zr,aB,q7,uL,oo,aa,o5⟩:=QP Iu;have Zs:sq ⟨(fp env0 bs (fun j=>decide (j<i)) es).env,bs⟩ o=some v:=by
   rw[<-Zr];exact (QQ (st:=fp env0 bs (fs bU) es) (br:=⟨(fp env0 bs (fun j=>decide (j<i)) es).env,bs⟩) rfl Pk).symm
  obtain⟨Zc,Zd,Pl⟩:=h.a8 i o v nA aN Zs;have fJ:bU.getD i false=false:=by
   simp[hS bu]at bl ⊢;exact bl
  have r6:∀q∈(fp env0 bs (fs bU) es).env,q.l' v.n2:=by
   intro q aA;simp only[fp]at aA;rw[jZ]at aA;obtain⟨⟨iz,n⟩,hm,rfl⟩:=aA;have lE:iz∈env0:=by
    rw[List.mem_zipIdx_iff_getElem?]at hm;exact fE hm
   simp only;rcases KY (L:=fs bU) (t:=n) (es:=es) (k:=0) (acc:=iz) with⟨h1,_⟩ | h1 | ⟨j,yq,h1,U,_,aF,_⟩
   ·rw[h1];exact Zc _ lE
   ·rw[h1];exact⟨rfl,fun a ad=>by simp[aD.idx]at ad⟩
   rw[aF];refine Zd j yq h1 ?_;rintro rfl;rw[dq]at U;unfold fs at U;rw[fJ]at U;cases U
  have Ef:(fp env0 bs (fs bU) es).map (hM v.t v.i v.j v.k v.es v.kT v.esT)=fp env0 bs (fs bU) es:=by
   have e1:(fp env0 bs (fs bU) es).env.map (aI.map (hM v.t v.i v.j v.k v.es v.kT v.esT))=(fp env0 bs (fs bU) es).env:=by
    conv=>rhs;rw[<-sU (fp env0 bs (fs bU) es).env]
    exact lq fun q aA=>aoO (r6 q aA)
   have e2:bs.map (fun x=>(x.1,x.2.map (hM v.t v.i v.j v.k v.es v.kT v.esT)))=bs:=by
    conv=>rhs;rw[<-sU bs]
    refine lq fun x aa=>?_
    obtain⟨hG,gd⟩:=x;simp only[id]
    congr 1
    conv=>rhs;rw[<-sU gd]
    exact lq fun l aj=>(Pl _ aa l aj).1
   unfold aG.map;rw[e1];show aG.mk _ (bs.map _)=_;rw[e2];rfl
  have pX:∀a∈(fp env0 bs (fs bU) es).idx v.t v.j,a=v.i:=by
   intro cF ad;unfold aG.idx at ad;rcases gV.1 ad with ad | ad
   ·obtain⟨q,aA,ad⟩:=kF.1 ad;exact aoN (r6 q aA) cF ad
   obtain⟨z,aW,ad⟩:=kF.1 ad;obtain⟨l,aj,ad⟩:=kF.1 ad;exact (Pl z aW l aj).2 cF ad
  obtain⟨ω,τ,e5⟩:=az;obtain⟨z,aJ,h1,U⟩:=e5.uw (P:=P) (d:=d) (ty:=o.type) (kT:=v.kT) (x:=x) (y:=y) (aI.dQ aa (e5.bj x)) uL IT (aoJ e5 o5) pX;rw[Ef]at U;obtain⟨dst,op,type,pos,after,guard⟩:=o;simp only at aB q7;subst aB;subst q7;refine Calls.of (z:=z) (aJ:=aJ) ?_ (gN _ _ ?_)
  ·have:(execOp a.eval ⟨some d,.call ⟨.builtin .append,⟨[x,y]⟩,⟨[t,t]⟩⟩,type,pos,after,guard⟩)=(builtin .append ⟨[t,t]⟩ type (Array.map (fun | .const _=>true | _=>false) ⟨[x,y]⟩) (Array.map a.eval ⟨[x,y]⟩)):=by
    simp only[execOp,resolve];rfl
   rw[this];exact jR (by simpa using h1)
  refine U.weaken (by simp[zx]) rfl ?_;intro n p hp;right;rw[rk,b2]at hp;obtain⟨iz,lE,rfl⟩:=hp;rw[jy];have r4:e.dst=some d:=by rw[oo]
  have uY:e.use=[]:=by rw[oo]
  by_cases om:d=n
  ·subst om;have:d<env0.length:=(ey.1 lE).1;rw[aZ rfl,aZ (by simp[zx,this]),h.last af ai hi aN he (q:=e.p) (by simp[dA.hh,r4])]
  rw[a6 om,rk,lE,n0,h.eW bu he (by simp[dA.hh,r4,om,uY])]
 ·have Bf:=KZ hw (br:=fp env0 bs (fs bU) es) A4;obtain⟨o7,_⟩:=xd Bf trivial az;rw[a6 (by rw[o7];simp)];refine gN _ _ ((LC az).weaken ?_ ?_ ?_)
  ·simp[zx,BO,aB]
  ·simp[fp,BO,aB]
  intro t p hp;rw[rk,b2]at hp;obtain⟨iz,lE,rfl⟩:=hp;right;simp only[BO,aB];rw[jy];by_cases om:d=t
  ·subst om;have:d<env0.length:=(ey.1 lE).1;rw[aZ rfl,aZ (by rw[zx];exact this),h.last af ai hi aN he (q:=.one (.v undef)) (by simp[dA.hh,zy])]
  rw[a6 om,rk,lE,n0,h.eW bu he (by simp[dA.hh,zy,om])]
 have Bf:=KZ hw (br:=fp env0 bs (fs bU) es) A4;obtain⟨o7,_⟩:=xd Bf trivial az;rw[aZ o7];left;have Iu:s' P (fp env0 bs (fs bU) es) o ans=some (cc,g,cj,obs):=by
  rw[<-eI];refine aoK rfl fun x aa=>O1 fun t bq=>(A4 t ?_).symm
  unfold reads;exact hl _ (List.mem_filterMap.2 ⟨x,aa,bq⟩)
 obtain⟨ar,d,Iz,q7⟩:=Rf Iu;obtain⟨u,D8⟩:=D8;have yO:e.oG=cc.oG/\e.dst=cc.dst:=by
  rcases D8 with rfl | ⟨c,b,_,_,rfl⟩
  ·exact⟨rfl,rfl⟩
  exact⟨rfl,rfl⟩
 obtain⟨yO,Y8⟩:=yO;rw[<-yO]at ar;obtain⟨aan,aao,aap⟩:=aoL h.tok he;have YP:((fp env0 bs (fs bU) es).map (aD.cr g fun _=>true)).boxes=bs:=by
  simp only[aG.map,fp]
  conv=>rhs;rw[<-sU bs]
  refine lq fun x aa=>?_
  obtain⟨hG,gd⟩:=x;simp only[id,Q9 ar (aap _ aa)]
 refine anr q7 IT az fun cF aJ ek=>gN _ _ ?_
 rw[YP]at ek;have mj:Rel w0 ⟨((fp env0 bs (fs bU) es).map (aD.cr g fun _=>true)).env.set d e.p,bs⟩ cF aJ:=by
  rcases D8 with rfl | ⟨c,b,hp,gD,rfl⟩
  ·exact ek
  rw[hp]at ek;subst gD;exact ek.bool
 refine mj.weaken (by simp[zx,aG.map]) rfl ?_;intro t p hp;rw[rk,b2]at hp;obtain⟨iz,lE,rfl⟩:=hp;rw[jy];have r4:e.dst=some d:=Y8.trans Iz;by_cases om:d=t
 ·subst om;right;have:d<env0.length:=(ey.1 lE).1;rw[aZ rfl,aZ (by simp[aG.map,zx,this]),h.last af ai hi aN he (q:=e.p) (by simp[dA.hh,r4])]
 rw[a6 om];by_cases Eo:t∈e.use
 ·left;exact h.last af ai hi aN he (by simp[dA.hh,r4,om,Eo]) iz
 have IK:=h.eW bu he (t:=t) (by simp[dA.hh,r4,om,Eo]) iz;rw[IK];have ZN:hK (fs bU) t 0 es iz=.cu\/(hK (fs bU) t 0 es iz).eX e.oG=false:=by
  rcases KY (L:=fs bU) (t:=t) (es:=es) (k:=0) (acc:=iz) with⟨h1,ht⟩ | h1 | ⟨j,yq,h1,U,ax,aF,ht⟩
  ·right;rw[h1];rcases aao t iz lE with (aQ | aQ) | aQ
   rotate_left 2
   ·rw[r4]at aQ;exact absurd (eQ aQ) om
   ·exact aQ.resolve_right Eo
   ·obtain⟨m,y,dc,hm,_,ad,hu,bq⟩:=Rl aQ;cases bq;have:=ht m y hm (by rw[dq];exact BR h.masks af ai hi ad);unfold dA.hh at this;rw[aZ hu]at this;split at this<;>cases this
  ·exact .inl h1
  right;rw[aF];rw[dq]at U;have fJ:bU.getD i false=false:=by
   simp[hS bu]at bl ⊢;exact bl
  have o3:j≠i:=by rintro rfl;unfold fs at U;rw[fJ]at U;cases U
  rcases aan j yq h1 o3 with aQ | aQ | aQ | aQ | aQ
  rotate_left 3
  ·rw[ax,r4]at aQ;exact absurd (eQ aQ).symm om
  ·obtain⟨m,y,dc,hm,Py,ad,hu,bq⟩:=Rl aQ;rw[ax]at bq;cases bq;have:=ht m y hm (by omega) (by rw[dq];exact BR h.masks af ai hi ad);unfold dA.hh at this;rw[aZ hu]at this;split at this<;>cases this
  ·have:=FT h.masks af ai j U aQ;rw[fJ]at this;cases this
  ·exact aQ
  obtain⟨dc,bb,bN⟩:=aQ;rw[ax]at bb;cases bb;exact absurd bN Eo
 rcases ZN with h1 | h1
 ·exact .inl h1
 right;simp only[aG.map,dG];rw[rk,lE];simp only[n0,aI.xX ar h1]
def K1(ops:Array Oper)(ms:List Nat)(k:Nat):Prop:=∀i,k<=i->i<ops.size->∀j,j<i->nu ms j i=true
theorem qu.any(h:qu P ops bs env0 es ms)(ao:K1 ops ms es.length){w0:eN}{Q:Exit->Act->World->Prop}
  (j7:∀(hW:Nat) {bU:Array Bool},rl ops bU->bU.size=ops.size->(∀j,j<es.length->bU.getD j false=true)->(∀j,es.length<=j->bU.getD j false=false)->bU.count false<=hW->
   ∀{a:Act} {w:World},Rel w0 (fp env0 bs (fun j=>decide (j<es.length)) es) a w->wpAny P .any ops Q hW bU a w):
  ∀(hW:Nat) {bU:Array Bool},rl ops bU->bU.size=ops.size->(∀j,es.length<=j->bU.getD j false=false)->bU.count false<=hW->
  ∀{a:Act} {w:World},Rel w0 (fp env0 bs (fs bU) es) a w->wpAny P .any ops Q hW bU a w:=by
 intro hW;induction hW with
 | zero=>
  intro bU af ai fJ tq a w az;by_cases hY:∀j,j<es.length->bU.getD j false=true
  ·refine j7 0 af ai hY fJ tq ?_;have:fp env0 bs (fs bU) es=fp env0 bs (fun j=>decide (j<es.length)) es:=by
    unfold fp
    congr 1
    refine lq fun x _=>?_
    refine BP fun j e aP _=>?_
    have bu:j<es.length:=(ey.1 aP).1;rw[dq];simp only[fs,hY j bu,bu,decide_true]
   rwa[<-this]
  exfalso;apply hY;intro j aP;have bu:j<bU.size:=ai▸An aP h.len;cases bg:bU[j] with
  | true=>simp[hS bu,bg]
  | false=>
   have:0<bU.count false:=by
    rw[Array.count_pos_iff];exact bg▸Array.getElem_mem bu
   omega
 | succ hW dk=>
  intro bU af ai fJ tq a w az;by_cases hY:∀j,j<es.length->bU.getD j false=true
  ·refine j7 _ af ai hY fJ tq ?_;have:fp env0 bs (fs bU) es=fp env0 bs (fun j=>decide (j<es.length)) es:=by
    unfold fp
    congr 1
    refine lq fun x _=>?_
    refine BP fun j e aP _=>?_
    have bu:j<es.length:=(ey.1 aP).1;rw[dq];simp only[fs,hY j bu,bu,decide_true]
   rwa[<-this]
  refine⟨fun wF=>absurd (fun j aP=>KV h.masks ai wF j (An aP h.len)) hY,fun i hi=>?_⟩;have nA:i<es.length:=by
   rcases pM i es.length with h1 | h1
   ·exact h1
   exfalso;obtain⟨_,o,aN,_⟩:=mem_ready.1 hi;have bu:i<ops.size:=(jz.1 aN).1;exact hY fun j aP=>BR h.masks af ai hi (ao i h1 bu j (An aP h1))
  refine h.step af ai hi nA az fun cF aJ ek=>dk (af.ready hi) (by simpa using ai) (fun j aP=>?_) ?_ ek
  ·rw[getD_set_ne false (by omega)];exact fJ j aP
  obtain⟨h1,o,aN,_⟩:=mem_ready.1 hi;have bu:i<bU.size:=ai▸(jz.1 aN).1;have bg:bU[i]=false:=by simpa[hS bu]using h1
  have:(bU.setIfInBounds i true).count false=bU.count false-1:=by
   have e:bU.setIfInBounds i true=bU.set i true bu:=by unfold Array.setIfInBounds;rw[dif_pos bu]
   rw[e,Array.count_set];simp[bg]
  omega
end
def zA(P:Program)(ops:Array Oper):List Oper->aG->List b6->Stepped
 | [],st,ans=>some (st,ans,[])
 | o::rest,st,ans=>
  match rh P ops o st ans with
  | some (st1,fy,gm)=>(zA P ops rest st1 fy).map fun r=>(r.1,r.2.1,gm++r.2.2)
  | none=>none
theorem QR{Q:Exit->Act->World->Prop}(hi:ops[i]?=some o)(h:rh P ops o st ans=some (br,cj,obs))(aN:c8 obs)
  {a:Act} {w:World} (aT:Rel w0 st a w) {K:Act->World->Prop} (gN:∀cF aJ,Rel w0 br cF aJ->K cF aJ):wpOp P ops Q i K a w:=by
 unfold wpOp;rw[hi];simp only;unfold rh at h;split at h
 ·rename_i st1 fy gm hw;rw[b2]at h;obtain⟨⟨cw,dt,eE⟩,h1,h⟩:=h;simp only[bx]at h;obtain⟨rfl,rfl,rfl⟩:=h;obtain⟨dR,dH⟩:=aN.append;obtain⟨o7,e5⟩:=xd hw dR aT;rw[aZ o7];exact .inl (LB h1 dH e5 fun cF aJ ek=>gN _ _ ek)
 ·rename_i st1 fy gm hw;simp only[aO,bx]at h;obtain⟨rfl,rfl,rfl⟩:=h;obtain⟨o7,e5⟩:=xd hw aN aT;rw[a6 (by rw[o7];simp)];exact gN _ _ (LC e5)
 cases h
theorem aoP(hm:sr ms ops.toList=true)(ao:K1 ops ms k){Q:Exit->Act->World->Prop}:∀(hW n:Nat) {bU:Array Bool},k<=n->n<=ops.size->
  rl ops bU->bU.size=ops.size->(∀j,j<n->bU.getD j false=true)->(∀j,n<=j->bU.getD j false=false)->bU.count false<=hW->
  ∀{st br:aG} {ans cj:List b6} {obs:List Prop},zA P ops (ops.toList.drop n) st ans=some (br,cj,obs)->c8 obs->
  ∀{a:Act} {w:World},Rel w0 st a w->(∀cF aJ,Rel w0 br cF aJ->Q .normal cF aJ)->wpAny P .any ops Q hW bU a w:=by
 have fin:∀{bU:Array Bool} {n:Nat},n=ops.size->bU.size=ops.size->(∀j,j<n->bU.getD j false=true)->Region.ready .any ops bU=[]:=by
  intro bU n aK ai h1;rw[List.eq_nil_iff_forall_not_mem];intro j aP;obtain⟨U,o,aN,_⟩:=mem_ready.1 aP;have bu:j<ops.size:=(jz.1 aN).1;have ax:=h1 j (aK▸bu);have ig:j<bU.size:=ai▸bu;simp[hS ig]at U ax;rw[U]at ax;cases ax
 intro hW;induction hW with
 | zero=>
  intro n bU ZC aK af ai h1 U tq st br ans cj obs h aN a w az j7;have wE:n=ops.size:=by
   rcases pM n ops.size with bu | nz
   ·have ig:n<bU.size:=ai▸bu;have bg:bU[n]=false:=by simpa[hS ig]using U n (dN _)
    have:0<bU.count false:=by
     rw[Array.count_pos_iff];exact bg▸Array.getElem_mem ig
    omega
   omega
  rw[List.drop_eq_nil_of_le (by simp[wE])]at h;simp only[zA,aO,bx]at h;obtain⟨rfl,_,_⟩:=h;exact⟨fin wE ai h1,j7 _ _ az⟩
 | succ hW dk=>
  intro n bU ZC aK af ai h1 U tq st br ans cj obs h aN a w az j7;rcases pM n ops.size with bu | nz
  ·have ig:n<bU.size:=ai▸bu;have aB:ops.toList.drop n=ops[n]::ops.toList.drop (n+1):=by
    rw[List.drop_eq_getElem_cons (by simpa using bu)];simp
   rw[aB]at h;simp only[zA]at h;split at h
   ·rename_i st1 fy gm ax;rw[b2]at h;obtain⟨⟨cw,dt,eE⟩,aF,h⟩:=h;simp only[bx]at h;obtain⟨rfl,rfl,rfl⟩:=h;obtain⟨dR,dH⟩:=aN.append;refine⟨fun wF=>?_,fun i hi=>?_⟩
    ·exfalso;have:=KV hm ai wF n bu;rw[U n (dN _)]at this;cases this
    have j8:i=n:=by
     obtain⟨aQ,o,lC,_⟩:=mem_ready.1 hi;have yK:i<ops.size:=(jz.1 lC).1;have lg:i<bU.size:=ai▸yK;rcases Nat.lt_trichotomy i n with bb | bb | bb
     ·have bN:=h1 i bb;simp[hS lg]at aQ bN;rw[aQ]at bN;cases bN
     ·exact bb
     have:=BR hm af ai hi (ao i (by omega) yK n bb);rw[U n (dN _)]at this;cases this
    subst j8;refine QR (hS bu) ax dR az fun cF aJ ek=>dk (i+1) (by omega) (by omega) (af.ready hi) (by simpa using ai) (fun j aP=>?_) (fun j aP=>?_) ?_ aF dH ek j7
    ·by_cases o3:j=i
     ·subst o3;have aW:j<(bU.setIfInBounds j true).size:=by simpa using ig
      simp[hS aW]
     rw[getD_set_ne false (Ne.symm o3)];exact h1 j (by omega)
    ·rw[getD_set_ne false (by omega)];exact U j (by omega)
    have bg:bU[i]=false:=by simpa[hS ig]using U i (dN _)
    have:(bU.setIfInBounds i true).count false=bU.count false-1:=by
     have e:bU.setIfInBounds i true=bU.set i true ig:=by unfold Array.setIfInBounds;rw[dif_pos ig]
     rw[e,Array.count_set];simp[bg]
    omega
   cases h
  have wE:n=ops.size:=by omega
  rw[List.drop_eq_nil_of_le (by simp[wE])]at h;simp only[zA,aO,bx]at h;obtain⟨rfl,_,_⟩:=h;have wF:=fin wE ai h1;refine⟨fun _=>j7 _ _ az,fun i hi=>?_⟩;rw[wF]at hi;cases hi
def uj(ms:List Nat):Nat->Nat
 | 0=>0
 | i+1=>if ms.getD i 0==2 ^ i-1 then uj ms i else i+1
theorem QS(ms:List Nat):∀n,uj ms n<=n
 | 0=>dN _
 | n+1=>by
  unfold uj;split
  ·exact n1 (QS ms n) (Nat.le_succ n)
  exact dN _
theorem QT(ms:List Nat):∀n i,uj ms n<=i->i<n->∀j,j<i->nu ms j i=true
 | 0,_,_,h,_,_=>absurd h (Nat.not_lt_zero _)
 | n+1,i,h1,U,j,aP=>by
  unfold uj at h1;split at h1
  ·rename_i he;by_cases j8:i=n
   ·subst j8;unfold nu;rw[eq_of_beq he,Nat.testBit_two_pow_sub_one,nh aP]
   exact QT ms n i h1 (by omega) j aP
  omega
theorem Sat.drew{ω:Own}{τ:Nat->Nat×Value}{l:aD}{y:Value}(h:Sat w ω τ l y):Sat w.drew ω τ l y:=by
 have bg:∀{R:List (Nat×Nat)->c0->Prop} {d:D} {y:Value},bX w ω R d y->bX w.drew ω R d y:=fun h=>h.frame fun _ _ _ aA=>⟨aA,rfl⟩
 cases l with
 | J t k es=>exact⟨bg h.1,h.2⟩
 | ep t k es i j=>
  obtain⟨b,off,cap,h1,U,ax,aF⟩:=h;exact⟨b,off,cap,h1,U,bg ax,aF⟩
 | iC ds off=>
  obtain⟨b,h1,U⟩:=h;exact⟨b,h1,bg U⟩
 | fd d=>exact bg h
 | gb t k es=>exact⟨bg h.1,h.2⟩
 | a8 t i j k es m=>
  obtain⟨u,hu,h1,hm⟩:=h;exact⟨u,hu,bg h1,hm⟩
 | fB t vs=>
  obtain⟨b,ty,arr,h1,U,ax,aK,bz⟩:=h;refine⟨b,ty,arr,h1,U,ax,aK,fun j c af=>?_⟩;obtain⟨u,fO,fb⟩:=bz j c af;refine⟨u,fO,?_⟩;cases c with
  | cu=>exact trivial
  | v x=>exact fb
  | J t k es=>exact⟨bg fb.1,fb.2⟩
 | _=>exact h
theorem Rel.drew(h:Rel w0 st a w):Rel w0 st a w.drew:=by
 obtain⟨ω,τ,h⟩:=h;have hi:∀p:aI,p.map _root_.id=p:=by
  intro p;cases p with
  | bd a=>cases a<;>simp[aI.map,bS.map]
  | gv as=>
   simp only[aI.map]
   congr 1
   have:bS.map _root_.id=_root_.id:=by funext a;cases a<;>simp[bS.map]
   rw[this];simp
 refine⟨ω,τ,h.defers,h.size,h.below.next (ho.refl _ _).drew,h.owned,h.fixed,h.pinned,fun i p hp=>?_,fun id ls aj=>?_⟩
 ·obtain⟨v,h1,U⟩:=h.env i p hp;have:=cP.map (lx:=Sat w.drew ω τ) (f:=_root_.id) (fun l v ai=>Sat.drew ai) U;rw[hi]at this;exact⟨v,h1,this⟩
 obtain⟨b,arr,ty,h1,U,ax,aF⟩:=h.boxes id ls aj;have:=lb.map (lx:=Sat w.drew ω τ) (f:=_root_.id) (fun l v ai=>Sat.drew ai) aF;rw[sU]at this;exact⟨b,arr,ty,h1,U,ax,this⟩
def FW:Nat->List aI->List Nat
 | _,[]=>[]
 | i,p::r=>match p.leaf with | some (.fB t _)=>if t=i then i::FW (i+1) r else FW (i+1) r | _=>FW (i+1) r
def zB(env:List aI):List Oper->List Nat
 | []=>[]
 | o::r=>
  match o.dst,o.op with
  | none,.store _ (.tmp s) _=>
   match (env.getD s .cu).leaf with
   | some (.ptr d 0)=>if d=s/\s<df/\!(zB env r).contains s then s::zB env r else zB env r
   | _=>zB env r
  | _,_=>zB env r
def aoQ(env0:List aI)(bs:List (Nat×List aD))(es:List dA)(i:Nat):List aD:=
 env0.flatMap aI.u2++(bs.flatMap (·.2)++(es.zipIdx.filter fun x=>x.2 != i).flatMap fun x=>x.1.p.u2)
def K2(P:Program)(ops:Array Oper)(st:aG)(ans:List b6):Stepped:=
 let gs:=ops.toList.filterMap (KS ops)
 let ms:=sj ops.toList []
 let k:=uj ms ops.size
 match BK (zB st.env (ops.toList.take k)) st with
 | some fV=>
  match vn P ops gs fV.boxes (ops.toList.take k) fV.env ans with
  | some (es,uD,fy,gm)=>
   if P.follows .mixedOrders&&sr ms ops.toList&&KW ops ms es&&KX ms es fV.env fV.boxes then
    match BL (FW 0 uD) ⟨uD,fV.boxes⟩,Ac fV.boxes (aoQ fV.env fV.boxes es) 0 (ops.toList.take k) fV.env es with
    | some st2,some y5=>(zA P ops (ops.toList.drop k) st2 fy).map fun r=>(r.1,r.2.1,gm++(y5++r.2.2))
    | _,_=>none
   else none
  | none=>none
 | none=>none
theorem aoR(h:K2 P ops st ans=some (br,cj,obs))(aN:c8 obs)(az:Rel w0 st a w){id:Nat}
  {Q:Exit->Act->World->Prop} (j7:∀cF aJ,Rel w0 br cF aJ->Q .normal cF aJ):(Code.region id ops true).wp P Q a w:=by
 unfold K2 at h;simp only at h;split at h
 case h_2=>cases h
 rename_i fV PT;replace az:=RI az PT;clear PT;revert az h;generalize fV=st;intro h az;split at h
 ·rename_i es uD fy gm fj;split at h
  ·rename_i af;split at h
   rotate_left
   ·cases h
   rename_i st2 y5 IN aag;rw[b2]at h;obtain⟨⟨cw,dt,eE⟩,aai,h⟩:=h;simp only[bx]at h;obtain⟨rfl,rfl,rfl⟩:=h;obtain⟨IP,IQ⟩:=aN.append;obtain⟨ZV,IQ⟩:=IQ.append;simp only[b8]at af;obtain⟨⟨⟨hm,PA⟩,ZY⟩,kR⟩:=af;have awP:=QS (sj ops.toList []) ops.size;obtain⟨hlen,tt,Pm⟩:=BQ fj IP;have Eb:es.length=uj (sj ops.toList []) ops.size:=by
    rw[hlen,qs,vX];omega
   have PU:∀(i:Nat),i<es.length->(ops.toList.take (uj (sj ops.toList []) ops.size))[i]?=ops[i]?:=by
    intro i hi;rw[hj,aZ (by omega),iX]
   have aB:∀(i:Nat) (e:dA),es[i]?=some e->e.dst≠none:=by
    intro i e hi;have bu:i<(ops.toList.take (uj (sj ops.toList []) ops.size)).length:=hlen▸(ey.1 hi).1;obtain⟨e',h1,U⟩:=Pm i _ (gz bu);rw[hi]at h1;cases h1;exact U.dst
   have yC:qu P ops st.boxes st.env es (sj ops.toList []):=by
    refine⟨by omega,fun i o nA hi=>?_,PA,fun i o v nA hi bz=>?_,ZY,kR⟩
    rotate_left
    ·have Em:=Ri aag ZV i o (by rw[PU i nA];exact hi) nA v (by
      rw[<-FV (bs:=st.boxes) aB i (by omega)]at bz;exact bz)
     rw[dq]at Em;refine⟨fun q aA=>aI.Bp fun l aj=>Em l ?_,fun j x aP cf=>aI.Bp fun l aj=>Em l ?_,fun x aa l aj=>Em l ?_⟩
     ·exact hl _ (kF.2 ⟨q,aA,aj⟩)
     ·refine io _ (io _ (kF.2 ⟨(x,j),List.mem_filter.2 ⟨?_,by simpa using cf⟩,aj⟩));rw[List.mem_zipIdx_iff_getElem?];exact aP
     exact io _ (hl _ (kF.2 ⟨x,aa,aj⟩))
    obtain⟨e,h1,U⟩:=Pm i o (by rw[PU i nA];exact hi);refine⟨e,h1,?_⟩;rwa[FV (bs:=st.boxes) aB i (by omega)]at U
   have AR:K1 ops (sj ops.toList []) es.length:=fun i h1 U j aP=>QT _ _ i (by omega) U j aP
   refine wp_region_any hm (yC.any AR (w0:=w0) ?_ ops.size ?_ (by simp) ?_ ?_ ?_)
   ·intro hW bU qU ai jE cV tq cF aJ ek;refine aoP PA AR hW es.length (dN _) (by omega) qU ai jE cV tq (st:=st2) (by rw[Eb];exact aai) IQ (RJ ?_ IN) j7;have:=FV (env0:=st.env) (bs:=st.boxes) aB es.length (dN _);rw[k6,<-tt]at this;rw[this];exact ek
   ·intro j o aP;have:=FR aP;simp at this;simp[this]at aP
   ·intro j _;by_cases aP:j<ops.size
    ·simp[aP]
    simp[aP]
   ·simp[Array.count_replicate]
   have:fp st.env st.boxes (fs (Array.replicate ops.size false)) es=st:=by
    have ht:∀(es:List dA) (t k:Nat) (acc:aI),hK (fs (Array.replicate ops.size false)) t k es acc=acc:=by
     intro es;induction es with
     | nil=>intro t k acc;rfl
     | cons e1 es dk=>
      intro t k acc;simp only[hK];rw[a6,dk];unfold fs;intro af;have:=FR af;simp at this;simp[this]at af
    obtain⟨env,bs⟩:=st;unfold fp
    congr 1
    simp only[ht];apply List.ext_getElem?;intro t;simp
   rw[this];exact az.drew
  cases h
 cases h
end Go.Sx
namespace Go.Sx
open Go.RowKit
def nr(P:Program)(ops:Array Oper)(st br:aG):Prop:=
 ∀(w0:eN) (a:Act) (w:World) (id:Nat) (Q:Exit->Act->World->Prop),Rel w0 st a w->(∀cF aJ,Rel w0 br cF aJ->Q .normal cF aJ)->(Code.region id ops true).wp P Q a w
def FX(o:Oper)(m:Nat):Bool:=o.after.toList.all fun e=>!Region.binds .any e||m.testBit e.on
def re(m:Nat):Nat->List Oper->List (Nat×Oper)
 | _,[]=>[]
 | i,o::r=>if !m.testBit i&&FX o m then (i,o)::re m (i+1) r else re m (i+1) r
def runM(P:Program)(ops:Array Oper)(A:List (List b6))(m:Nat):Nat->List Oper->aG->aG
 | _,[],st=>st
 | i,o::r,st=>if m.testBit i then (match rh P ops o st (A.getD i []) with | some x=>runM P ops A m (i+1) r x.1 | none=>st) else runM P ops A m (i+1) r st
def Au(x:Nat)(l:List Nat):List Nat:=if l.any (Nat.beq x) then l else x::l
def Bq:Nat->List (Nat×Oper)->List Nat->List Nat
 | _,[],l=>l
 | m,x::r,l=>Au (m ||| 2 ^ x.1) (Bq m r l)
def Bt(ops:List Oper):List Nat->List Nat
 | []=>[]
 | m::r=>Bq m (re m 0 ops) (Bt ops r)
abbrev yf:=Option (aG×List b6×List Prop)
def DT(P:Program)(ops:Array Oper)(A:List (List b6))(st:aG):List (Nat×Oper)->List yf
 | []=>[]
 | x::r=>rh P ops x.2 st (A.getD x.1 [])::DT P ops A st r
def DV(P:Program)(ops:Array Oper)(A:List (List b6))(O:List (List Prop))(fV:aG)(m:Nat):List (Nat×Oper)->List yf
 | []=>[]
 | x::r=>some (runM P ops A (m ||| 2 ^ x.1) 0 ops.toList fV,[],O.getD x.1 [])::DV P ops A O fV m r
def DU(P:Program)(ops:Array Oper)(A:List (List b6))(fV:aG):List Nat->List (List yf)
 | []=>[]
 | m::r=>DT P ops A (runM P ops A m 0 ops.toList fV) (re m 0 ops.toList)::DU P ops A fV r
def DW(P:Program)(ops:Array Oper)(A:List (List b6))(O:List (List Prop))(fV:aG):List Nat->List (List yf)
 | []=>[]
 | m::r=>DV P ops A O fV m (re m 0 ops.toList)::DW P ops A O fV r
def Ax(P:Program)(ops:Array Oper)(A:List (List b6))(fV:aG):Nat->List Nat->List (List (List yf))
 | 0,_=>[]
 | n+1,l=>DU P ops A fV l::Ax P ops A fV n (Bt ops.toList l)
def Ay(P:Program)(ops:Array Oper)(A:List (List b6))(O:List (List Prop))(fV:aG):Nat->List Nat->List (List (List yf))
 | 0,_=>[]
 | n+1,l=>DW P ops A O fV l::Ay P ops A O fV n (Bt ops.toList l)
variable{P:Program}{ops:Array Oper}{A:List (List b6)}{O:List (List Prop)}{fV st:aG}{m:Nat}
theorem QU:∀{l:List (Nat×Oper)},DT P ops A st l=DV P ops A O fV m l->
  ∀x∈l,rh P ops x.2 st (A.getD x.1 [])=some (runM P ops A (m ||| 2 ^ x.1) 0 ops.toList fV,[],O.getD x.1 [])
 | [],_,x,aa=>by cases aa
 | y::r,h,x,aa=>by
  simp only[DT,DV,sT]at h;rcases et.1 aa with rfl | aa
  ·exact h.1
  exact QU h.2 x aa
theorem QV:∀{l:List Nat},DU P ops A fV l=DW P ops A O fV l->
  ∀m∈l,∀x∈re m 0 ops.toList,rh P ops x.2 (runM P ops A m 0 ops.toList fV) (A.getD x.1 [])=some (runM P ops A (m ||| 2 ^ x.1) 0 ops.toList fV,[],O.getD x.1 [])
 | [],_,m,hm=>by cases hm
 | m0::r,h,m,hm=>by
  simp only[DU,DW,sT]at h;rcases et.1 hm with rfl | hm
  ·exact QU h.1
  exact QV h.2 m hm
theorem aoS{x:Nat}{l:List Nat}:x∈Au x l:=by
 unfold Au;split
 ·rename_i h;obtain⟨y,bn,he⟩:=l9.1 h;rwa[Nat.eq_of_beq_eq_true he]
 exact eY
theorem Sl{x y:Nat}{l:List Nat}(h:y∈l):y∈Au x l:=by
 unfold Au;split
 ·exact h
 exact fw _ h
theorem Sm{x:Nat×Oper}:∀{r:List (Nat×Oper)} {l:List Nat},x∈r->(m ||| 2 ^ x.1)∈Bq m r l
 | [],_,h=>by cases h
 | y::r,l,h=>by
  simp only[Bq];rcases et.1 h with rfl | h
  ·exact aoS
  exact Sl (Sm h)
theorem Sn{k:Nat}:∀{r:List (Nat×Oper)} {l:List Nat},k∈l->k∈Bq m r l
 | [],_,h=>h
 | _::_,_,h=>Sl (Sn h)
theorem Sp{ops:List Oper}{x:Nat×Oper}:∀{l:List Nat},m∈l->x∈re m 0 ops->(m ||| 2 ^ x.1)∈Bt ops l
 | [],h,_=>by cases h
 | k::r,h,aa=>by
  simp only[Bt];rcases et.1 h with rfl | h
  ·exact Sm aa
  exact Sn (Sp h aa)
theorem Sq{m:Nat}:∀{l:List Oper} {i j:Nat} {o:Oper},l[j]?=some o->m.testBit (i+j)=false->FX o m=true->(i+j,o)∈re m i l
 | [],_,_,_,h,_,_=>by simp at h
 | y::r,i,0,o,h,h1,U=>by
  simp only[kE,aO]at h;subst h;simp only[re];rw[aZ (by rw[nj]at h1;simp[h1,U])];exact eY
 | y::r,i,j+1,o,h,h1,U=>by
  have:=Sq (m:=m) (l:=r) (i:=i+1) (j:=j) (o:=o) (by simpa using h) (by rwa[show i+1+j=i+(j+1) by omega]) U;rw[show i+1+j=i+(j+1) by omega]at this;simp only[re];split
  ·exact fw _ this
  exact this
theorem K3{m k:Nat}:∀{l:List Oper} {i:Nat} {st:aG},(∀j,i<=j->j<i+l.length->m.testBit j=k.testBit j)->runM P ops A m i l st=runM P ops A k i l st
 | [],_,_,_=>rfl
 | o::r,i,st,h=>by
  simp only[runM];rw[h i (dN _) (by simp)];split
  ·split
   ·exact K3 fun j h1 U=>h j (by omega) (by simp only[dJ];omega)
   rfl
  exact K3 fun j h1 U=>h j (by omega) (by simp only[dJ];omega)
theorem Sr:∀{O:List (List Prop)} (i:Nat),c8 O.flatten->c8 (O.getD i [])
 | [],i,_=>by simp[c8]
 | o::r,0,h=>by
  rw[List.flatten_cons]at h;exact (c8.append h).1
 | o::r,i+1,h=>by
  rw[List.flatten_cons]at h;exact Sr i (c8.append h).2
theorem aoT{ms:List Nat}{w0:eN}{Q:Exit->Act->World->Prop}(hm:sr ms ops.toList=true)(aN:c8 O.flatten)
  (j7:∀cF aJ,Rel w0 (runM P ops A (2 ^ ops.size-1) 0 ops.toList fV) cF aJ->Q .normal cF aJ):∀(hW:Nat) {l:List Nat},Ax P ops A fV hW l=Ay P ops A O fV hW l->
  ∀{m:Nat} {bU:Array Bool},m∈l->bU.size=ops.size->(∀j,j<ops.size->bU.getD j false=m.testBit j)->bU.count false<=hW->
  ∀{a:Act} {w:World},Rel w0 (runM P ops A m 0 ops.toList fV) a w->wpAny P .any ops Q hW bU a w:=by
 have fin:∀{m:Nat} {bU:Array Bool},(∀j,j<ops.size->bU.getD j false=m.testBit j)->(∀j,j<ops.size->bU.getD j false=true)->
   ∀{a:Act} {w:World},Rel w0 (runM P ops A m 0 ops.toList fV) a w->Q .normal a w:=by
  intro m bU h1 U a w az;refine j7 a w ?_;rw[K3 (m:=2 ^ ops.size-1) (k:=m)]
  ·exact az
  intro j _ aP;have AZ:j<ops.size:=by simpa using aP
  rw[<-h1 j AZ,U j AZ,Nat.testBit_two_pow_sub_one,nh AZ]
 intro hW;induction hW with
 | zero=>
  intro l _ m bU _ ai h1 tq a w az;have hY:∀j,j<ops.size->bU.getD j false=true:=by
   intro j aP;cases aj:bU.getD j false with
   | true=>rfl
   | false=>
    exfalso;have ig:j<bU.size:=ai▸aP;have bg:bU[j]=false:=by simpa[hS ig]using aj
    have:0<bU.count false:=by
     rw[Array.count_pos_iff];exact bg▸Array.getElem_mem ig
    omega
  refine⟨?_,fin h1 hY az⟩;rw[List.eq_nil_iff_forall_not_mem];intro j aP;obtain⟨U,o,lC,_⟩:=mem_ready.1 aP;have bu:j<ops.size:=(jz.1 lC).1;have ax:=hY j bu;have ig:j<bU.size:=ai▸bu;simp[hS ig]at U ax;rw[U]at ax;cases ax
 | succ hW dk=>
  intro l he m bU r' ai h1 tq a w az;simp only[Ax,Ay,sT]at he;refine⟨fun wF=>fin h1 (KV hm ai wF) az,fun i hi=>?_⟩;obtain⟨aQ,o,lC,r4⟩:=mem_ready.1 hi;have bu:i<ops.size:=(jz.1 lC).1;have ig:i<bU.size:=ai▸bu;have Po:bU.getD i false=false:=by
   simp[hS ig]at aQ ⊢;exact aQ
  have ZL:FX o m=true:=by
   unfold FX;rw[fW];intro e uP;cases ao:Region.binds .any e with
   | false=>rfl
   | true=>
    have bb:=r4 e (by simpa using uP) ao;have bN:e.on<bU.size:=FR bb;rw[h1 e.on (ai▸bN)]at bb;simp[bb]
  have PH:(i,o)∈re m 0 ops.toList:=by
   have:=Sq (m:=m) (l:=ops.toList) (i:=0) (j:=i) (o:=o) (by simpa using lC) (by rw[dq,<-h1 i bu,Po]) ZL;rwa[dq]at this
  have q6:=QV he.1 m r' _ PH;refine QR lC q6 (Sr i aN) az fun cF aJ ek=>dk he.2 (Sp r' PH) (by simpa using ai) (fun j aP=>?_) ?_ ek
  ·rw[Nat.testBit_or,Nat.testBit_two_pow];by_cases o3:j=i
   ·subst o3;have aW:j<(bU.setIfInBounds j true).size:=by simpa using ig
    simp[hS aW]
   rw[getD_set_ne false (Ne.symm o3),h1 j aP,oN (Ne.symm o3),Bool.or_false]
  have bg:bU[i]=false:=by simpa[hS ig]using Po
  have:(bU.setIfInBounds i true).count false=bU.count false-1:=by
   have e:bU.setIfInBounds i true=bU.set i true ig:=by unfold Array.setIfInBounds;rw[dif_pos ig]
   rw[e,Array.count_set];simp[bg]
  omega
theorem nr.of{br:aG}(A:List (List b6))(O:List (List Prop))(af:(P.follows .mixedOrders&&sr (sj ops.toList []) ops.toList)=true)
  (he:Ax P ops A st ops.size [0]=Ay P ops A O st ops.size [0]) (bg:runM P ops A (2 ^ ops.size-1) 0 ops.toList st=br) (aN:c8 O.flatten):nr P ops st br:=by
 intro w0 a w id Q az j7;simp only[b8]at af;have aW:∀{l:List Oper} {i:Nat},runM P ops A 0 i l st=st:=by
  intro l;induction l with
  | nil=>intro i;rfl
  | cons o r dk=>intro i;simp only[runM,Nat.zero_testBit,ng,k9];exact dk
 refine wp_region_any af.1 (aoT af.2 aN (fun cF aJ h=>j7 cF aJ (bg▸h)) ops.size he (m:=0) eY (by simp) (fun j aP=>by simp[aP]) (by simp[Array.count_replicate]) ?_);rw[aW];exact az.drew
def K4(P:Program)(ops:Array Oper)(st:aG)(ans:List b6):Stepped:=
 match ans with
 | .z' br::r=>some (br,r,[nr P ops st br])
 | _=>K2 P ops st ans
theorem aoU{br:aG}{ans cj:List b6}{obs:List Prop}(h:K4 P ops st ans=some (br,cj,obs))(aN:c8 obs){w0:eN}{a:Act}{w:World}(az:Rel w0 st a w){id:Nat}
  {Q:Exit->Act->World->Prop} (j7:∀cF aJ,Rel w0 br cF aJ->Q .normal cF aJ):(Code.region id ops true).wp P Q a w:=by
 unfold K4 at h;split at h
 ·simp only[aO,bx]at h;obtain⟨rfl,_,rfl⟩:=h;exact aN.1 w0 a w id Q az j7
 exact aoR h aN az j7
