import Derived.Test.YtdchjefneblpgaaGreatR26
import Derived.Test.YtdchjefneblpgaaGreatR31
import Derived.Orders
set_option linter.unusedVariables false
set_option linter.unusedSimpArgs false
namespace Go.Sx
open Go.RowKit
def Js(P:Program)(st:aI)(d:Option Nat)(f:FuncId)(args:List Operand)(ans:List b9):Stepped:=
 match P.funcs[f]?,args.mapM (fun x=>(st.bi x).jz st.boxes),ans with
 | some fn,some fZ,.res rs::r=>
  if (fn.name == "runtime.NumGoroutine") = false /\ fn.body.isNone = false /\ ti rs = true /\ 10000 * (d.getD 0 + 1) + 10000 <= c7 then
   let t:=10000*(d.getD 0+1)
   match d with
   | some d=>some (⟨(st.uw t).env.set d (sj t rs),(st.uw t).boxes⟩,r,[h2 P f fZ rs])
   | none=>some (st.uw t,r,[h2 P f fZ rs])
  else none
 | _,_,_=>none
def Pf(P:Program)(st:aI)(d:Option Nat)(f:Operand)(args:List Operand)(ans:List b9):Stepped:=
 match (st.bi f).leaf.bind (aB.jz st.boxes),args.mapM (fun x=>(st.bi x).jz st.boxes),ans with
 | some (.cl g bC),some fZ,.res rs::r=>
  if ti rs=true/\10000*(d.getD 0+1)+10000<=c7 then
   let t:=10000*(d.getD 0+1)
   match d with
   | some d=>some (⟨(st.uw t).env.set d (sj t rs),(st.uw t).boxes⟩,r,[iQ P g=true,h2 P g (fZ++bC.map .one) rs])
   | none=>some (st.uw t,r,[iQ P g=true,h2 P g (fZ++bC.map .one) rs])
  else none
 | _,_,_=>none
def Oa:List b9->Bool
 | .qV _ _ _ _::_=>true
 | _=>false
def Oc:List b9->Bool
 | .dr _ _::_=>true
 | _=>false
def Ob:List b9->Bool
 | .own::_=>true
 | _=>false
def oI(P:Program)(st:aI)(o:Oper)(ans:List b9):Stepped:=
 match o.dst,o.op with
 | some d,.box _ x=>Im st d (st.bi x) ans
 | some d,.alloc ty=>Io P st d ty ans
 | some d,.makeSlice t l c=>CJ P st d t (st.bi l) (st.bi c) ans
 | some d,.buildSlice t n parts=>zA P st d t n parts.toList ans
 | none,.store ty x y=>
  match (st.bi x).leaf with
  | some (.ptr id off)=>Ip P st ty id off (st.bi y) ans
  | some (.cE (.own t) k es i j)=>HV P st ty t k es i j (st.bi y) ans
  | some (.aO t i j k es (.at_ a b))=>Jf P st ty t i j k es a b (st.bi y) ans
  | _=>none
 | d,.call ⟨.value (.func f),args,_⟩=>if Oc ans then Jp P st d f args.toList ans else if Oa ans then H3 P st d f args.toList ans else Js P st d f args.toList ans
 | d,.call ⟨.value (.tmp x),args,_⟩=>if Oc ans then Jq P st d (.tmp x) args.toList ans else Pf P st d (.tmp x) args.toList ans
 | some d,.call ⟨.builtin .append,⟨[x,y]⟩,⟨[t,c6]⟩⟩=>
  if t=c6 then
   match (st.bi x).leaf with
   | some (.aO s i j k es .here)=>Jg P st d t s i j k es y ans
   | _=>xL P st d t x y ans
  else none
 | some d,.slice t x cX hi iu=>if Ob ans then xM P st d t (st.bi x) cX hi iu ans.tail else (oE P st (.slice t x cX hi iu) ans).map fun r=>(⟨st.env.set d r.1,st.boxes⟩,r.2.1,r.2.2)
 | some d,op=>(oE P st op ans).map fun r=>(⟨st.env.set d r.1,st.boxes⟩,r.2.1,r.2.2)
 | none,op=>(oE P st op ans).map fun r=>(st,r.2.1,r.2.2)
variable{P:Program}{o:Oper}{a:Act}{w:World}{Q:Exit->Act->World->Prop}
theorem Calls.of{next:Act->World->Prop}{z:Value}{aN:World}(h:(execOp a.eval o).run P w=.ok (.value z) aN)(aW:next (a.put o.dst z) aN):
  o.wp P a w next Q:=by
 unfold Oper.wp;rw[h];exact aW
variable{w0:er}{st bp:aI}{ans cd:List b9}{obs:List Prop}
theorem Jt(h:oI P st o ans=some (bp,cd,obs))(aZ:cG obs)(aV:Rel w0 st a w)
  {next:Act->World->Prop} {Q:Exit->Act->World->Prop} (jF:∀cz aN,Rel w0 bp cz aN->next cz aN):o.wp P a w next Q:=by
 obtain⟨ω,τ,aV⟩:=aV;obtain⟨dst,op,type,pos,after,guard⟩:=o;simp only[oI]at h;split at h
 ·rename_i d ty x;obtain⟨z,aN,h1,U⟩:=cy.box (P:=P) aV (aV.bi x) h ty;exact Calls.of (iB h1) (jF _ _ U)
 ·rename_i d ty;obtain⟨z,aN,h1,U⟩:=cy.alloc aV h;exact Calls.of (iB h1) (jF _ _ U)
 ·rename_i d t l c;obtain⟨z,aN,h1,U⟩:=aV.make (aV.bi l) (aV.bi c) h aZ;exact Calls.of (iB h1) (jF _ _ U)
 ·rename_i d t n parts;obtain⟨z,aN,h1,U⟩:=aV.buildSlice h;exact Calls.of (iB h1) (jF _ _ U)
 ·rename_i ty x y;have fin:∀aN,(Instr.storeAt ty (a.eval x) (a.eval y)).run P w=.ok () aN->Rel w0 bp a aN->Oper.wp P ⟨none,.store ty x y,type,pos,after,guard⟩ a w next Q:=by
   intro aN h1 U;unfold Oper.wp execOp;simp only[Sem.run_bind,h1,Result.andThen_ok,Sem.run_pure,Oper.upon];exact jF _ _ U
  split at h
  ·rename_i id off e;obtain⟨b,ar,ag⟩:=aJ.dB e (aV.bi x);obtain⟨aN,h1,U⟩:=aV.asR (P:=P) ar (aV.bi y) h;exact fin aN (by rw[ag];exact h1) U
  ·rename_i t k es i j e;obtain⟨aN,h1,U⟩:=aV.asT (P:=P) (aJ.dB e (aV.bi x)) (aV.bi y) h aZ;exact fin aN h1 U
  ·rename_i t i j k es as8 ME e;obtain⟨aN,h1,U⟩:=aV.asV (P:=P) (aJ.dB e (aV.bi x)) (aV.bi y) h aZ;exact fin aN h1 U
  cases h
 ·rename_i f args ts;split at h
  ·exact ak7 aV h aZ jF
  split at h
  ·exact ajU aV h aZ jF
  rename_i Gk Xr;clear Gk;unfold Js at h;clear Xr;split at h
  ·rename_i fn fZ rs r kr F0;split at h
   ·rename_i ai;obtain⟨kp,kf,kq,rp⟩:=ai;obtain⟨al,au⟩:=mE F0;have lM:Dr w fZ (args.map a.eval):=by
     refine⟨by simp[al],fun i ck hi=>?_⟩;obtain⟨x,ag,jf⟩:=au i ck hi;refine⟨a.eval x,?_,aJ.we aV.boxes jf (aV.bi x)⟩;rw[xX];rw[iC]at ag;rw[ag];rfl
    have eQ:(execOp a.eval ⟨dst,.call ⟨.value (.func f),args,ts⟩,type,pos,after,guard⟩).run P w=.ok (.enter f (args.map a.eval)) w:=by
     have WN : fn.name ≠ "runtime.NumGoroutine" := by simpa using kp
     have rn:fn.body≠none:=by intro e;rw[e]at kf;cases kf
     simp[execOp,resolve,Act.eval,Deferred.ofValue,invoke,callFunc,kr,WN,rn]
    have key:∀(lW:List Prop),obs=lW->cG lW->lW=[h2 P f fZ rs]->∀(K:Act->World->Prop),(∀v aN,gk w.heap.size w aN->wb w aN rs v->K (a.put dst v) aN)->
      Oper.wp P ⟨dst,.call ⟨.value (.func f),args,ts⟩,type,pos,after,guard⟩ a w K Q:=by
     intro lW _ kg e K gp;subst e;unfold Oper.wp;rw[eQ];simp only[Oper.upon];refine (kg.1 w _ aV.below.laid lM).mono ?_;rintro e aN ⟨v,rfl,ar,aA⟩;exact gp v aN ar aA
    simp only at h;cases dst with
    | none=>
     simp only[aR,bx]at h;obtain⟨rfl,_,rfl⟩:=h;refine key _ rfl aZ rfl next fun v aN ar aA=>jF _ _ ?_
     obtain⟨a1,cN,h1,_⟩:=aV.called (10000*(Option.getD none 0+1)) kq rp ar aA;exact⟨a1,cN,h1⟩
    | some d=>
     simp only[aR,bx]at h;obtain⟨rfl,_,rfl⟩:=h;refine key _ rfl aZ rfl next fun v aN ar aA=>jF _ _ ?_
     obtain⟨a1,cN,h1,U⟩:=aV.called (10000*(Option.getD (some d) 0+1)) kq rp ar aA;exact⟨a1,cN,h1.put U⟩
   cases h
  cases h
 ·rename_i x args ts;split at h
  ·exact ak8 aV h aZ jF
  rename_i Gk;clear Gk;unfold Pf at h;split at h
  ·rename_i g bC fZ rs r bT F0;split at h
   ·rename_i ai;obtain⟨kq,rp⟩:=ai;obtain⟨al,au⟩:=mE F0;have cZ:fZ.length=args.size:=by rw[al,uc]
    rw[lA]at bT;obtain⟨ki,Cf,XB⟩:=bT;have Nt:kR w (.cl g bC) (a.eval (.tmp x)):=aB.we aV.boxes XB (aJ.dB Cf (aV.bi (.tmp x)));have Xb:∃cs:Array Value,a.eval (.tmp x)=.func (.func g) #[] cs/\cs.size=bC.length/\∀(j:Nat) (d:D),bC[j]?=some d->∃u,cs[j]?=some u/\kR w d u:=by
     generalize a.eval (.tmp x)=y at Nt;cases Nt with
     | cl R g bC cs us aj hu aD=>exact⟨cs,rfl,aj,fun j d a6=>⟨us j,hu j d a6,(aD j d a6).free⟩⟩
    obtain⟨cs,oi,WT,W0⟩:=Xb;have lM:Dr w (fZ++bC.map .one) (args.map a.eval++cs):=by
     refine⟨by simp[al,WT],fun i ck hi=>?_⟩;rw[kD]at hi;rw[ht];split at hi
     ·rename_i jZ;rw[br (by simp;omega)];obtain⟨y,bl,kO⟩:=au i ck hi;refine⟨a.eval y,?_,aJ.we aV.boxes kO (aV.bi y)⟩;rw[xX];rw[iC]at bl;rw[bl];rfl
     rename_i jZ;rw[bh (by simp;omega)];rw[dj,b1]at hi;obtain⟨d,aD,rfl⟩:=hi;obtain⟨u,fG,eV⟩:=W0 _ d aD;refine⟨u,?_,eV⟩;rw[<-fG]
     congr 1
     simp;omega
    have eQ:iQ P g=true->(execOp a.eval ⟨dst,.call ⟨.value (.tmp x),args,ts⟩,type,pos,after,guard⟩).run P w=.ok (.enter g (args.map a.eval++cs)) w:=by
     intro uI;unfold iQ at uI;split at uI
     ·rename_i fn kr;simp only[cx,hv,ua,hZ]at uI;have rn:fn.body≠none:=by intro e;rw[e]at uI;simp at uI
      simp[execOp,resolve,oi,Deferred.ofValue,invoke,callFunc,kr,uI.1,rn]
     cases uI
    have key:∀(lW:List Prop),obs=lW->cG lW->lW=[iQ P g=true,h2 P g (fZ++bC.map .one) rs]->∀(K:Act->World->Prop),(∀v aN,gk w.heap.size w aN->wb w aN rs v->K (a.put dst v) aN)->
      Oper.wp P ⟨dst,.call ⟨.value (.tmp x),args,ts⟩,type,pos,after,guard⟩ a w K Q:=by
     intro lW _ kg e K gp;subst e;unfold Oper.wp;rw[eQ kg.1];simp only[Oper.upon];refine (kg.2.1 w _ aV.below.laid lM).mono ?_;rintro e aN ⟨v,rfl,ar,aA⟩;exact gp v aN ar aA
    simp only at h;cases dst with
    | none=>
     simp only[aR,bx]at h;obtain⟨rfl,_,rfl⟩:=h;refine key _ rfl aZ rfl next fun v aN ar aA=>jF _ _ ?_
     obtain⟨a1,cN,h1,_⟩:=aV.called (10000*(Option.getD none 0+1)) kq rp ar aA;exact⟨a1,cN,h1⟩
    | some d=>
     simp only[aR,bx]at h;obtain⟨rfl,_,rfl⟩:=h;refine key _ rfl aZ rfl next fun v aN ar aA=>jF _ _ ?_
     obtain⟨a1,cN,h1,U⟩:=aV.called (10000*(Option.getD (some d) 0+1)) kq rp ar aA;exact⟨a1,cN,h1.put U⟩
   cases h
  cases h
 ·rename_i d x y t c6;split at h
  ·rename_i y0;subst y0;have wA:∃z aN,(Builtin.append_ #[t,t] type #[a.eval x,a.eval y]).run P w=.ok z aN/\Rel w0 bp (a.put (some d) z) aN:=by
    split at h
    ·rename_i s i j k es e;exact aV.V1 (P:=P) (ty:=type) (aJ.dB e (aV.bi x)) h aZ
    exact aV.xL (ty:=type) h aZ
   obtain⟨z,aN,h1,U⟩:=wA;refine Calls.of (z:=z) (aN:=aN) ?_ (jF _ _ U);have:(execOp a.eval ⟨some d,.call ⟨.builtin .append,⟨[x,y]⟩,⟨[t,t]⟩⟩,type,pos,after,guard⟩)=(builtin .append ⟨[t,t]⟩ type (Array.map (fun | .const _=>true | _=>false) ⟨[x,y]⟩) (Array.map a.eval ⟨[x,y]⟩)):=by
    simp only[execOp,resolve];rfl
   rw[this];exact iB (by simpa using h1)
  cases h
 ·rename_i d t x cX hi iu;split at h
  ·obtain⟨z,h1,U⟩:=aV.xM (P:=P) (aV.bi x) h aZ;exact Calls.of (iB h1) (jF _ _ U)
  rw[b1]at h;obtain⟨⟨bM,b2,cj⟩,h1,h⟩:=h;simp only[bx]at h;obtain⟨rfl,rfl,rfl⟩:=h;obtain⟨z,U,aw⟩:=Il (o:=⟨_,_,type,pos,after,guard⟩) aV h1 aZ;exact Calls.of U (jF _ _ ⟨ω,τ,aV.put aw⟩)
 ·rw[b1]at h;obtain⟨⟨bM,b2,cj⟩,h1,h⟩:=h;simp only[bx]at h;obtain⟨rfl,rfl,rfl⟩:=h;obtain⟨z,U,aw⟩:=Il (o:=⟨_,_,type,pos,after,guard⟩) aV h1 aZ;exact Calls.of U (jF _ _ ⟨ω,τ,aV.put aw⟩)
 rw[b1]at h;obtain⟨⟨bM,b2,cj⟩,h1,h⟩:=h;simp only[bx]at h;obtain⟨rfl,rfl,rfl⟩:=h;obtain⟨z,U,aw⟩:=Il (o:=⟨_,_,type,pos,after,guard⟩) aV h1 aZ;exact Calls.of U (jF _ _ ⟨ω,τ,aV⟩)
def nP(P:Program)(st:aI)(o:Oper)(ans:List b9):Stepped:=
 match o.dst,o.op with
 | some d,.alloc ty=>Dv P st d ty ans
 | none,.store ty (.tmp s) y=>Dx P st ty s (st.bi y) ans
 | _,_=>oI P st o ans
theorem ak9(h:nP P st o ans=some (bp,cd,obs))(aZ:cG obs)(aV:Rel w0 st a w)
  {next:Act->World->Prop} {Q:Exit->Act->World->Prop} (jF:∀cz aN,Rel w0 bp cz aN->next cz aN):o.wp P a w next Q:=by
 obtain⟨dst,op,type,pos,after,guard⟩:=o;unfold nP at h;split at h
 ·rename_i d ty e1 e2;simp only at e1 e2;subst e1;subst e2;obtain⟨ω,τ,aV⟩:=aV;obtain⟨z,aN,h1,U⟩:=cy.V0 aV h;exact Calls.of (iB h1) (jF _ _ U)
 ·rename_i ty s y e1 e2;simp only at e1 e2;subst e1;subst e2;obtain⟨ω,τ,aV⟩:=aV;obtain⟨aN,h1,U⟩:=aV.asU (P:=P) (aV.bi y) h;unfold Oper.wp execOp;simp only[Sem.run_bind,h1,Result.andThen_ok,Sem.run_pure,Oper.upon];exact jF _ _ U
 exact Jt h aZ aV jF
def zL(st:aI)(dst:Option Nat):aI:=
 match dst with
 | some d=>⟨st.env.set d (.one (.v undef)),st.boxes⟩
 | none=>st
theorem Ju{dst:Option Nat}(h:Rel w0 st a w):Rel w0 (zL st dst) (a.put dst undef) w:=by
 obtain⟨ω,τ,h⟩:=h;cases dst with
 | none=>exact⟨ω,τ,h⟩
 | some d=>exact⟨ω,τ,h.put (p:=.one (.v undef)) rfl⟩
def qK(ops:Array Oper)(st:aI)(o:Oper)(ans:List b9):Option (Bool×aI×List b9×List Prop):=
 match o.guard with
 | none=>some (true,st,ans,[])
 | some (j,want)=>
  match (ops[j]?).bind (·.dst) with
  | some s=>
   match (st.env.getD s .cq).leaf with
   | some (.v (.bool b))=>some (b==want,st,ans,[])
   | some (.v (.tuple _))=>some (false,st,ans,[])
   | some (.ba c)=>
    match ans with
    | .n9 b::r=>some (b==want,⟨st.env.set s (.one (.v (.bool b))),st.boxes⟩,r,[c=b])
    | _=>none
   | _=>none
  | none=>none
variable{ops:Array Oper}
theorem vE{b:Bool}(h:qK ops st o ans=some (b,bp,cd,obs))(aZ:cG obs)(aV:Rel w0 st a w):
  Region.wanted o (yielded ops a.tmps)=b/\Rel w0 bp a w:=by
 obtain⟨ω,τ,aV⟩:=aV;unfold qK at h;split at h
 ·rename_i au;simp only[aR,bx]at h;obtain⟨rfl,rfl,_,_⟩:=h;exact⟨by simp[Region.wanted,au],ω,τ,aV⟩
 rename_i j want au;split at h
 ·rename_i s aj;have ey:∀l,(st.env.getD s .cq).leaf=some l->∀x,(∀y,Sat w ω τ l y->y=x)->(l=.cq->False)->a.tmps[s]?=some x:=by
   intro l al x ag cB;rw[ii]at al;cases e:st.env[s]? with
   | none=>
    rw[e]at al;simp only[Option.getD_none,aJ.leaf,aR]at al;exact absurd al.symm cB
   | some p=>
    rw[e]at al;obtain⟨v,h1,U⟩:=aV.env s p e;rw[h1,ag v (aJ.dB al U)]
  split at h
  ·rename_i cW al;simp only[aR,bx]at h;obtain⟨rfl,rfl,_,_⟩:=h;have:=ey _ al (.bool cW) (fun y bl=>bl) (fun h=>by cases h);exact⟨by simp[Region.wanted,au,yielded,aj,this],ω,τ,aV⟩
  ·rename_i vs al;simp only[aR,bx]at h;obtain⟨rfl,rfl,_,_⟩:=h;have:=ey _ al (.tuple vs) (fun y bl=>bl) (fun h=>by cases h);exact⟨by simp[Region.wanted,au,yielded,aj,this],ω,τ,aV⟩
  ·rename_i c al;split at h
   ·rename_i cW r;simp only[aR,bx]at h;obtain⟨rfl,rfl,_,rfl⟩:=h;have fM:c=cW:=aZ.1;subst fM;have:=ey _ al (.bool c) (fun y bl=>bl) (fun h=>by cases h);refine⟨by simp[Region.wanted,au,yielded,aj,this],ω,τ,?_⟩;have Gv:=aV.put (d:=s) (p:=.one (.v (.bool c))) (v:=.bool c) rfl;have e:a.put (some s) (.bool c)=a:=by
     simp only[Act.put];have:a.tmps.setIfInBounds s (.bool c)=a.tmps:=by
      apply Array.ext
      ·simp
      intro i h1 U;rw[Array.getElem_setIfInBounds];split
      ·rename_i hi;subst hi;rw[gS U]at this;exact (eN this).symm
      rfl
     rw[this]
    rwa[e]at Gv
   cases h
  cases h
 cases h
def pI(P:Program)(ops:Array Oper)(o:Oper)(st:aI)(ans:List b9):Stepped:=
 match qK ops st o ans with
 | some (true,st1,e7,fC)=>(oI P st1 o e7).map fun r=>(r.1,r.2.1,fC++r.2.2)
 | some (false,st1,e7,fC)=>some (zL st1 o.dst,e7,fC)
 | none=>none
theorem Pg{rest:List Oper}(h:pI P ops o st ans=some (bp,cd,obs))(aZ:cG obs)
  {a:Act} {w:World} (aV:Rel w0 st a w) (gp:∀cz aN,Rel w0 bp cz aN->wpList P ops Q rest cz aN):wpList P ops Q (o::rest) a w:=by
 unfold pI at h;split at h
 ·rename_i st1 e7 fC hw;rw[b1]at h;obtain⟨⟨bM,b2,cj⟩,h1,h⟩:=h;simp only[bx]at h;obtain⟨rfl,rfl,rfl⟩:=h;obtain⟨cC,cc⟩:=aZ.append;obtain⟨nv,eI⟩:=vE hw cC aV;refine wpList_step fun K uB=>?_
  rw[br nv];exact Jt h1 cc eI fun cz aN dX=>uB _ _ (gp _ _ dX)
 ·rename_i st1 e7 fC hw;simp only[aR,bx]at h;obtain⟨rfl,rfl,rfl⟩:=h;obtain⟨nv,eI⟩:=vE hw aZ aV;refine wpList_step fun K uB=>?_
  rw[bh (by rw[nv];simp)];exact uB _ _ (gp _ _ (Ju eI))
 cases h
def Jv(o cc:Oper):Option (Nat×TypeId×Operand×Option Operand×TypeId):=
 match o.dst,o.op,o.guard,cc.dst,cc.op,cc.guard with
 | some d,.slice t x cX none none,none,none,.call ⟨.builtin .clear,⟨[.tmp dt]⟩,⟨[gx]⟩⟩,none=>if d=dt then some (d,t,x,cX,gx) else none
 | _,_,_,_,_,_=>none
theorem ala{cc:Oper}{rest:List Oper}{d:Nat}{t gx:TypeId}{x:Operand}{cX:Option Operand}(hp:Jv o cc=some (d,t,x,cX,gx))
  {st bp:aI} {ans cd:List b9} {obs:List Prop} (h:Dz P st d t x cX gx ans=some (bp,cd,obs)) (aZ:cG obs)
  {a:Act} {w:World} (aV:Rel w0 st a w) (gp:∀cz aN,Rel w0 bp cz aN->wpList P ops Q rest cz aN):wpList P ops Q (o::cc::rest) a w:=by
 obtain⟨dst,op,type,pos,after,guard⟩:=o;obtain⟨atN,auH,type2,auK,atA,atY⟩:=cc;unfold Jv at hp;split at hp
 ·rename_i d0 t0 hg auA dt auR e1 e2 cb ef gY lJ;simp only at e1 e2 cb ef gY lJ;subst e1 e2 cb ef gY lJ;split at hp
  ·rename_i aD;subst aD;simp only[aR,bx]at hp;obtain⟨rfl,rfl,rfl,rfl,rfl⟩:=hp;obtain⟨ω,τ,aV⟩:=aV;obtain⟨bz,y,z,aN,h1,U,aw⟩:=aV.clear h aZ;refine wpList_plain rfl fun K uB=>Calls.of (iB (by simpa using h1)) (uB _ _ ?_)
   refine wpList_plain rfl fun K uB=>?_
   have qi:(a.put (some d0) y).eval (.tmp d0)=y:=by
    simp only[Act.eval,Act.put,d',Array.getElem?_setIfInBounds];simp[bz]
   refine Calls.of (z:=z) (aN:=aN) ?_ (uB _ _ (gp _ _ aw));simp only[execOp,resolve,invoke,builtin,Sem.run_bind,Sem.run_pure,Result.andThen_ok,List.map_toArray,k4,List.map_nil,qi,U]
  cases hp
 cases hp
def vF(P:Program)(ops:Array Oper):List Oper->aI->List b9->Stepped
 | [],st,ans=>some (st,ans,[])
 | [o],st,ans=>pI P ops o st ans
 | o::cc::rest,st,ans=>
  match Jv o cc with
  | some (d,t,x,cX,gx)=>
   match Dz P st d t x cX gx ans with
   | some (st1,e7,fC)=>(vF P ops rest st1 e7).map fun r=>(r.1,r.2.1,fC++r.2.2)
   | none=>none
  | none=>
   match pI P ops o st ans with
   | some (st1,e7,fC)=>(vF P ops (cc::rest) st1 e7).map fun r=>(r.1,r.2.1,fC++r.2.2)
   | none=>none
theorem Jw:∀(l:List Oper) {st bp:aI} {ans cd:List b9} {obs:List Prop},vF P ops l st ans=some (bp,cd,obs)->cG obs->
  ∀{a:Act} {w:World},Rel w0 st a w->(∀cz aN,Rel w0 bp cz aN->Q .normal cz aN)->wpList P ops Q l a w
 | [],st,bp,ans,cd,obs,h,_,a,w,aV,iI=>by
  simp only[vF,aR,bx]at h;obtain⟨rfl,_,_⟩:=h;exact iI _ _ aV
 | [o],st,bp,ans,cd,obs,h,aZ,a,w,aV,iI=>by
  simp only[vF]at h;exact Pg h aZ aV fun cz aN dX=>iI _ _ dX
 | o::cc::rest,st,bp,ans,cd,obs,h,aZ,a,w,aV,iI=>by
  simp only[vF]at h;split at h
  ·rename_i d t x cX gx hp;split at h
   ·rename_i st1 e7 fC h1;rw[b1]at h;obtain⟨⟨bM,b2,cj⟩,U,h⟩:=h;simp only[bx]at h;obtain⟨rfl,rfl,rfl⟩:=h;obtain⟨cC,cH⟩:=aZ.append;exact ala hp h1 cC aV fun cz aN dX=>Jw rest U cH dX iI
   cases h
  split at h
  ·rename_i st1 e7 fC h1;rw[b1]at h;obtain⟨⟨bM,b2,cj⟩,U,h⟩:=h;simp only[bx]at h;obtain⟨rfl,rfl,rfl⟩:=h;obtain⟨cC,cH⟩:=aZ.append;exact Pg h1 cC aV fun cz aN dX=>Jw (cc::rest) U cH dX iI
  cases h
end Go.Sx
namespace Go.Sx
open Go.RowKit
abbrev fT:=List (Nat×Nat)
def fT.has(r:fT)(s:Nat):Bool:=r.any fun x=>decide (x.1<=s)&&decide (s<x.2)
def Tag.ez(r:fT):Tag->Bool
 | .free=>false
 | .own s=>r.has s
 | .ro s=>r.has s
def eL.ez(r:fT):eL->Bool
 | .J t _ _=>t.ez r
 | _=>false
def aB.ez(r:fT):aB->Bool
 | .J t _ _=>t.ez r
 | .cE t _ _ _ _=>t.ez r
 | .aO t _ _ _ _ _=>r.has t
 | .fa t vs=>r.has t||vs.any (eL.ez r)
 | _=>false
def bu.ez(r:fT):bu->Bool
 | .one l=>l.ez r
 | .agg ls=>ls.any (aB.ez r)
def aJ.ez(r:fT):aJ->Bool
 | .aK a=>a.ez r
 | .fJ as=>as.any (bu.ez r)
def nQ(g:Tag->Option Tag)(r:fT):Prop:=∀t:Tag,t.ez r=false->g t=some t
variable{g:Tag->Option Tag}{r:fT}
theorem aB.vN(au:nQ g r){l:aB}(h:l.ez r=false):l.ci g (fun _=>true)=l:=by
 cases l with
 | J t k es=>simp only[aB.ez]at h;simp only[aB.ci,au t h]
 | cE t k es i j=>simp only[aB.ez]at h;simp only[aB.ci,au t h]
 | ptr id off=>simp[aB.ci]
 | gn f ids=>simp[aB.ci]
 | aO t i j k es m=>simp only[aB.ez]at h;simp only[aB.ci,au (.own t) h,gy]
 | fa t vs=>
  simp only[aB.ez,gz]at h;simp only[aB.ci,au (.own t) h.1,gy]
  congr 1
  conv=>rhs;rw[<-q5 vs]
  refine kE fun c ai=>?_
  have:=hj.1 h.2 c ai;cases c with
  | cq=>rfl
  | v x=>rfl
  | J c6 k es=>simp only[eL.ci,au c6 (by simpa[eL.ez]using this),id]
 | _=>rfl
theorem OH(au:nQ g r){ls:List aB}(h:ls.any (aB.ez r)=false):ls.map (aB.ci g fun _=>true)=ls:=by
 conv=>rhs;rw[<-q5 ls]
 refine kE fun l al=>?_
 rw[hj]at h;exact aB.vN au (by simpa using h l al)
theorem bu.vN(au:nQ g r){a:bu}(h:a.ez r=false):a.map (aB.ci g fun _=>true)=a:=by
 cases a with
 | one l=>simp only[bu.ez]at h;simp only[bu.map,aB.vN au h]
 | agg ls=>simp only[bu.ez]at h;simp only[bu.map,OH au h]
theorem aJ.vN(au:nQ g r){p:aJ}(h:p.ez r=false):p.map (aB.ci g fun _=>true)=p:=by
 cases p with
 | aK a=>simp only[aJ.ez]at h;simp only[aJ.map,bu.vN au h]
 | fJ as=>
  simp only[aJ.ez]at h;simp only[aJ.map]
  congr 1
  conv=>rhs;rw[<-q5 as]
  refine kE fun a ah=>?_
  rw[hj]at h;exact bu.vN au (by simpa using h a ah)
structure dk where
 dst:Option Nat
 p:aJ
 use:List Nat
 mN:fT
abbrev lF:=Option (dk×(Tag->Option Tag)×List b9×List Prop)
def OI:Operand->Option Nat
 | .tmp t=>some t
 | _=>none
def zg:Option Nat->fT
 | none=>[]
 | some s=>[(s,s+1)]
def ya(P:Program)(st:aI)(d:Nat)(t:TypeId)(x y:Operand)(ans:List b9):lF:=
 match pM P t with
 | some (e,k)=>
  match P.info? e with
  | some i=>
   match i.zero,(st.bi x).leaf,x with
   | some z,some (.J (.own gJ) cp es),.tmp s=>
    match ur gJ k (st.bi y) ans with
    | some (bO,dK,cd,obs)=>
     if cp=k/\z.cells.size=k/\0<k/\gJ<c7 then
      some (⟨some d,.one (.J (.own gJ) k (es++bO)),[s],(gJ,gJ+1)::zg dK⟩,hz gJ dK,cd,((es.length+bO.length)*i.bytes<=140737488355328)::(es.length+bO.length<=9223372036854775807)::obs)
     else none
    | _=>none
   | some z,some (.v (.slice none 0 0)),_=>
    match ur d k ((st.bi y).map (aB.ci (hP d []) fun _=>true)) ans with
    | some (bO,dK,cd,obs)=>
     if z.cells.size=k/\0<k/\d<c7 then
      some (⟨some d,.one (.J (.own d) k ([]++bO)),[],(d,d+1)::zg dK⟩,(fun g=>(hP d [] g).bind (hz d dK)),cd,(((([]:List (List D)).length)+bO.length)*i.bytes<=140737488355328)::(([]:List (List D)).length+bO.length<=9223372036854775807)::obs)
     else none
    | _=>none
   | _,_,_=>none
  | none=>none
 | none=>none
def Fv(P:Program)(st:aI)(d:Nat)(t:TypeId)(x:Operand)(cX hi iu:Option Operand)(ans:List b9):lF:=
 match pM P t,(st.bi x).leaf,iu,x with
 | some (_,k),some (.J (.own s) cp es),none,.tmp jr=>
  if k=cp/\s<c7 then
   match ln st cX,ln st hi with
   | some l,some h=>some (⟨some d,.one (.J (.own s) k ((es.drop (l.getD 0).toNat).take ((h.getD es.length).toNat-(l.getD 0).toNat))),[jr],[(s,s+1)]⟩,j3 s s,ans,[0<=l.getD 0,l.getD 0<=h.getD es.length,h.getD es.length<=es.length])
   | _,_=>none
  else none
 | _,_,_,_=>none
variable{s:Nat}
theorem alb:nQ (j3 s s) [(s,s+1)]:=by
 intro t h;cases t with
 | free=>rfl
 | own x=>
  have:x≠s:=by rintro rfl;simp[Tag.ez,fT.has]at h
  simp[j3,this]
 | ro x=>
  have:x≠s:=by rintro rfl;simp[Tag.ez,fT.has]at h
  simp[j3,this]
def Oj(P:Program)(d:Nat)(t:TypeId)(p q:aJ)(ans:List b9):lF:=
 match P.underlying t with
 | some (.slice e)=>
  match P.info? e,p.int,q.int with
  | some i,some (_,l),some (_,c)=>
   match i.zero with
   | some z=>
    if i.size=z.cells.size/\0<i.size/\z.cells.all (·.oneCell')=true/\d<c7 then
     some (⟨some d,.one (.J (.own d) i.size (List.replicate l.toNat (z.cells.toList.map .v))),[],[(d,d+1)]⟩,hP d [],ans,[0<=l,l<=c,(i.bytes:Int)*c<=281474976710656,c<=9223372036854775807])
    else none
   | none=>none
  | _,_,_=>none
 | _=>none
def rf(P:Program)(st:aI)(o:Oper)(ans:List b9):lF:=
 match o.dst,o.op with
 | some d,.call ⟨.value (.func f),args,_⟩=>
  match P.funcs[f]?,args.toList.mapM (fun x=>(st.bi x).jz st.boxes),ans with
  | some fn,some fZ,.res rs::r=>
   if (fn.name == "runtime.NumGoroutine") = false /\ fn.body.isNone = false /\ ti rs = true /\ 10000 * (d + 1) + 10000 <= c7 then
    some (⟨some d,sj (10000*(d+1)) rs,[],[(10000*(d+1),10000*(d+1)+10000)]⟩,gf (10000*(d+1)),r,[h2 P f fZ rs])
   else none
  | _,_,_=>none
 | some d,.buildSlice t n parts=>
  match BN P st d t n parts.toList with
  | some (k,es,ms)=>some (⟨some d,.one (.J (.own d) k es),[],(d,d+1)::ms.map fun x=>(x.1,x.1+1)⟩,hP d ms,ans,[])
  | _=>none
 | some d,.call ⟨.builtin .append,⟨[x,y]⟩,⟨[t,c6]⟩⟩=>if t=c6 then ya P st d t x y ans else none
 | some _,.box _ _=>none
 | some d,.alloc ty=>
  match P.info? ty with
  | some i=>match i.zero with
   | some z=>if d<c7 then some (⟨some d,.one (.fa d (z.cells.toList.map .v)),[],[(d,d+1)]⟩,hP d [],ans,[]) else none
   | none=>none
  | none=>none
 | some d,.makeSlice t l c=>Oj P d t (st.bi l) (st.bi c) ans
 | some d,.slice t x cX hi iu=>if Ob ans then Fv P st d t x cX hi iu ans.tail else (oE P st (.slice t x cX hi iu) ans).map fun r=>(⟨some d,r.1,[],[]⟩,some,r.2.1,r.2.2)
 | some d,op=>(oE P st op ans).map fun r=>(⟨some d,r.1,[],[]⟩,some,r.2.1,r.2.2)
 | none,.store ty (.tmp s) y=>
  match (st.env.getD s .cq).leaf,HC (st.bi y),P.info? ty with
  | some (.fa t vs),some cs,some i=>
   if cs.length=i.size/\cs.length<=vs.length then
    some (⟨some s,.one (.fa t ((cs++vs.drop cs.length).map (eL.ci (e8 t)))),[],[(t,t+1)]⟩,e8 t,ans,[])
   else none
  | _,_,_=>none
 | none,_=>none
theorem alc:nQ (e8 s) [(s,s+1)]:=by
 intro t h;cases t with
 | free=>rfl
 | own x=>
  have:x≠s:=by rintro rfl;simp[Tag.ez,fT.has]at h
  simp[e8,this]
 | ro x=>
  have:x≠s:=by rintro rfl;simp[Tag.ez,fT.has]at h
  simp[e8,this]
theorem ald:eL.ci some=id:=by funext c;cases c<;>rfl
theorem ale(st:aI)(f:aB->aB)(bT:∀x,f (.v x)=.v x)(hu:f .cq=.cq)(aD:∀d,f (.fd d)=.fd d)(x:Operand):(st.map f).bi x=(st.bi x).map f:=by
 cases x with
 | tmp t=>
  simp only[aI.bi,aI.map];rw[ii,ii,dj];cases st.env[t]? with
  | none=>simp[aJ.map,bu.map,hu]
  | some p=>rfl
 | const v=>
  simp only[aI.bi,BU];split
  ·simp[aJ.map,bu.map,bT]
  simp[aJ.map,bu.map,bT]
 | global g=>simp[aI.bi,aJ.map,bu.map,hu]
 | func atT=>simp[aI.bi,aJ.map,bu.map,aD]
theorem aB.asJ(g1 g2:Tag->Option Tag)(U:∀g t,g2 g=some (.own t)->g=.own t)(l:aB):aB.ci g2 (fun _=>true) (aB.ci g1 (fun _=>true) l)=aB.ci (fun t=>(g1 t).bind g2) (fun _=>true) l:=by
 cases l with
 | J t k es=>simp only[aB.ci];cases g1 t<;>simp[aB.ci]
 | cE t k es i j=>simp only[aB.ci];cases g1 t<;>simp[aB.ci]
 | gn f ids=>simp[aB.ci]
 | aO t i j k es m=>
  simp only[aB.ci];cases e1:g1 (.own t) with
  | none=>simp[aB.ci]
  | some x=>
   simp only[l9];cases x with
   | own s=>
    simp only;by_cases aj:s=t
    ·subst aj;simp only[gy,aB.ci]
    rw[bh aj];simp only[aB.ci];cases e2:g2 (.own s) with
    | none=>rfl
    | some y=>
     cases y with
     | own u=>
      simp only;by_cases hu:u=t
      ·subst hu;have:=U _ _ e2;simp only[Tag.own.injEq]at this;exact absurd this aj
      rw[bh hu]
     | _=>rfl
   | free=>
    simp only[aB.ci];cases e2:g2 .free with
    | none=>rfl
    | some y=>
     cases y with
     | own u=>exact absurd (U _ _ e2) (by simp)
     | _=>rfl
   | ro s=>
    simp only[aB.ci];cases e2:g2 (.ro s) with
    | none=>rfl
    | some y=>
     cases y with
     | own u=>exact absurd (U _ _ e2) (by simp)
     | _=>rfl
 | fa t vs=>
  simp only[aB.ci];cases e1:g1 (.own t) with
  | none=>simp[aB.ci]
  | some x=>
   simp only[l9];cases x with
   | own s=>
    simp only;by_cases aj:s=t
    ·subst aj;simp only[gy,aB.ci];have oi:(vs.map (eL.ci g1)).map (eL.ci g2)=vs.map (eL.ci fun t=>(g1 t).bind g2):=by
      rw[List.map_map];refine kE fun c _=>?_
      cases c with
      | cq=>rfl
      | v x=>rfl
      | J c6 k es=>
       simp only[Function.comp,eL.ci];cases cb:g1 c6 with
       | none=>rfl
       | some t2=>simp only[l9,eL.ci]
     rw[oi]
    rw[bh aj];simp only[aB.ci];cases e2:g2 (.own s) with
    | none=>rfl
    | some y=>
     cases y with
     | own u=>
      simp only;by_cases hu:u=t
      ·subst hu;have:=U _ _ e2;simp only[Tag.own.injEq]at this;exact absurd this aj
      rw[bh hu]
     | _=>rfl
   | free=>
    simp only[aB.ci];cases e2:g2 .free with
    | none=>rfl
    | some y=>
     cases y with
     | own u=>exact absurd (U _ _ e2) (by simp)
     | _=>rfl
   | ro s=>
    simp only[aB.ci];cases e2:g2 (.ro s) with
    | none=>rfl
    | some y=>
     cases y with
     | own u=>exact absurd (U _ _ e2) (by simp)
     | _=>rfl
 | ptr id off=>simp[aB.ci]
 | _=>rfl
theorem bu.map_map(f g:aB->aB)(a:bu):(a.map f).map g=a.map (g ∘ f):=by cases a<;>simp[bu.map]
theorem aJ.map_map(f g:aB->aB)(p:aJ):(p.map f).map g=p.map (g ∘ f):=by
 cases p with
 | aK a=>simp[aJ.map,bu.map_map]
 | fJ as=>simp only[aJ.map,List.map_map];congr 1;refine kE fun a _=>?_;simp[bu.map_map]
theorem aI.map_map(f g:aB->aB)(s:aI):(s.map f).map g=s.map (g ∘ f):=by
 simp only[aI.map,List.map_map]
 congr 1
 ·refine kE fun p _=>?_
  simp[aJ.map_map]
 refine kE fun x _=>?_
 simp
theorem OJ:nQ some r:=fun _ _=>rfl
theorem fT.sG{a b:Nat}(h:fT.has ((a,b)::r) s=false):(s<a\/b<=s)/\fT.has r s=false:=by
 simp only[fT.has,ud,gz,Bool.and_eq_false_iff,mU]at h;exact⟨by omega,h.2⟩
variable{t:Nat}
theorem alf:nQ (gf t) [(t,t+10000)]:=by
 intro g au;cases g with
 | free=>rfl
 | own s=>
  obtain⟨h1,_⟩:=fT.sG au;simp only[gf];rw[bh (by omega)]
 | ro s=>
  obtain⟨h1,_⟩:=fT.sG au;simp only[gf];rw[bh (by omega)]
theorem Jx:∀{ms:hn},(fT.has (ms.map fun x=>(x.1,x.1+1)) s)=false->(ms.at s).isSome=false
 | [],_=>rfl
 | (i,p)::r,h=>by
  simp only[fT.has,k4,ud,gz,Bool.and_eq_false_iff,mU]at h;simp only[hn.at];rw[bh (by omega)];exact Jx (by simpa only[fT.has]using h.2)
theorem alg{ms:hn}:nQ (hP t ms) ((t,t+1)::ms.map fun x=>(x.1,x.1+1)):=by
 intro g au;cases g with
 | free=>rfl
 | own s=>
  obtain⟨h1,U⟩:=fT.sG au;simp only[hP];rw[bh (by omega),Jx U];rfl
 | ro s=>
  obtain⟨h1,U⟩:=fT.sG au;simp only[hP];rw[bh (by omega),Jx U];rfl
theorem OK{dK:Option Nat}(h:fT.has (zg dK) s=false):dK≠some s:=by
 rintro rfl;simp[fT.has,zg]at h
theorem OL(t:Nat)(dK:Option Nat):nQ (hz t dK) ((t,t+1)::zg dK):=by
 intro g au;cases g with
 | free=>rfl
 | own s=>
  obtain⟨h1,U⟩:=fT.sG au;simp only[hz];rw[bh (by omega),bh (OK U)]
 | ro s=>
  obtain⟨h1,U⟩:=fT.sG au;simp only[hz];rw[bh (by omega),bh (OK U)]
theorem Jy(t:Nat)(r:fT):nQ (hP t []) ((t,t+1)::r):=by
 intro g au;cases g with
 | free=>rfl
 | own s=>
  obtain⟨h1,U⟩:=fT.sG au;simp only[hP];rw[bh (by omega)];rfl
 | ro s=>
  obtain⟨h1,U⟩:=fT.sG au;simp only[hP];rw[bh (by omega)];rfl
variable{P:Program}{st:aI}{e:dk}{obs:List Prop}
theorem OM{d:Nat}{t:TypeId}{x y:Operand}{ans cd:List b9}(h:ya P st d t x y ans=some (e,g,cd,obs)):nQ g e.mN/\e.dst=some d:=by
 unfold ya at h;split at h
 ·split at h
  ·split at h
   ·split at h
    ·split at h
     ·simp only[aR,bx]at h;obtain⟨rfl,rfl,_,_⟩:=h;exact⟨OL _ _,rfl⟩
     cases h
    cases h
   ·split at h
    ·split at h
     ·simp only[aR,bx]at h;obtain⟨rfl,rfl,_,_⟩:=h;exact⟨fun t bQ=>by simp only[Jy d _ t bQ,l9];exact OL d _ t bQ,rfl⟩
     cases h
    cases h
   cases h
  cases h
 cases h
theorem ON{o:Oper}{ans cd:List b9}(h:rf P st o ans=some (e,g,cd,obs)):
  nQ g e.mN/\∃d,e.dst=some d/\nP P st o ans=some (⟨(st.map (aB.ci g fun _=>true)).env.set d e.p,(st.map (aB.ci g fun _=>true)).boxes⟩,cd,obs):=by
 obtain⟨dst,op,type,pos,after,guard⟩:=o;have fF:∀st:aI,st.map (aB.ci some fun _=>true)=st:=by
  intro st;have:(aB.ci some fun _=>true)=_root_.id:=by
   funext l;cases l<;>simp[aB.ci,ald]
  rw[this];simp only[aI.map];have h1:aJ.map _root_.id=_root_.id:=by
   funext p;cases p with
   | aK a=>cases a<;>simp[aJ.map,bu.map]
   | fJ as=>
    simp only[aJ.map,id]
    congr 1
    have:bu.map _root_.id=_root_.id:=by funext a;cases a<;>simp[bu.map]
    rw[this];simp
  rw[h1];simp
 simp only[rf]at h;split at h
 ·rename_i d f args ts;split at h
  ·rename_i fn fZ rs r h1 U;split at h
   ·rename_i ai;simp only[aR,bx]at h;obtain⟨rfl,rfl,rfl,rfl⟩:=h;refine⟨alf,d,rfl,?_⟩;simp only[nP,oI,Oa,oU,lD,Js,h1,U,ij];rw[br ai];rfl
   cases h
  cases h
 ·rename_i d t n parts;split at h
  ·rename_i k es ms ar;simp only[aR,bx]at h;obtain⟨rfl,rfl,rfl,rfl⟩:=h;refine⟨alg,d,rfl,?_⟩;simp only[nP,oI];exact akm ar ans
  cases h
 ·rename_i d x y t c6;split at h
  ·rename_i y0;subst y0;refine⟨(OM h).1,d,(OM h).2,?_⟩;simp only[nP,oI,gy,Sx.xL];unfold ya at h;split at h
   ·rename_i ux k he;simp only[he];split at h
    ·rename_i i hi;simp only[hi];split at h
     ·rename_i z gJ cp es s bf al;split at h
      ·rename_i bO dK a2 cc aj;split at h
       ·rename_i ai;obtain⟨rfl,ai⟩:=ai;simp only[aR,bx]at h;obtain⟨rfl,rfl,rfl,rfl⟩:=h;simp only[BJ,al,gy,bf,aj];rw[br ai];rfl
       cases h
      cases h
     ·rename_i z _ bf al;split at h
      ·rename_i bO dK a2 cc aj;split at h
       ·rename_i ai;simp only[aR,bx]at h;obtain⟨rfl,rfl,rfl,rfl⟩:=h;have qi:(st.iM d []).bi y=(st.bi y).map (aB.ci (hP d []) fun _=>true):=ale st _ (fun _=>rfl) rfl (fun _=>rfl) y;simp only[BJ,al,bf,qi,aj];rw[br ai];have:(st.iM d []).wc d dK=st.map (aB.ci (fun g=>(hP d [] g).bind (hz d dK)) fun _=>true):=by
         simp only[aI.iM,aI.wc,aI.map_map]
         congr 1
         funext l;refine aB.asJ _ _ (fun g t h=>?_) l;cases g with
         | free=>simp[hz]at h
         | own s=>
          simp only[hz]at h;split at h
          ·simp at h
          split at h
          ·cases h
          simpa using h
         | ro s=>
          simp only[hz]at h;split at h
          ·cases h
          split at h
          ·cases h
          simp at h
        rw[this]
       cases h
      cases h
     cases h
    cases h
   cases h
  cases h
 ·cases h
 ·rename_i d ty;split at h
  ·rename_i i hi;split at h
   ·rename_i z bf;split at h
    ·rename_i aD;simp only[aR,bx]at h;obtain⟨rfl,rfl,rfl,rfl⟩:=h;refine⟨Jy _ _,d,rfl,?_⟩;simp only[nP,Dv,hi,bf];rw[br aD];rfl
    cases h
   cases h
  cases h
 ·rename_i d t l c;unfold Oj at h;split at h
  ·rename_i e hu;split at h
   ·rename_i i cT gu b5 jA hi e1 e2;split at h
    ·rename_i z bf;split at h
     ·rename_i ai;simp only[aR,bx]at h;obtain⟨rfl,rfl,rfl,rfl⟩:=h;refine⟨Jy _ _,d,rfl,?_⟩;simp only[nP,oI,CJ,hu,hi,e1,e2,bf];rw[br ai];rfl
     cases h
    cases h
   cases h
  cases h
 ·rename_i d t x cX hi iu;split at h
  ·rename_i aZ;unfold Fv at h;split at h
   ·rename_i e k s cp es jr e1 e2;split at h
    ·rename_i ai;obtain⟨rfl,aj⟩:=ai;split at h
     ·rename_i l bJ cb ef;simp only[aR,bx]at h;obtain⟨rfl,rfl,rfl,rfl⟩:=h;refine⟨alb,d,rfl,?_⟩;simp only[nP,oI,aZ,gy,xM,e1,e2,cb,ef,nO,aj,true_and]
     cases h
    cases h
   cases h
  rename_i aZ;rw[b1]at h;obtain⟨⟨bM,b2,cj⟩,h1,h⟩:=h;simp only[bx]at h;obtain⟨rfl,rfl,rfl,rfl⟩:=h;refine⟨OJ,d,rfl,?_⟩;rw[fF];simp only[nP,oI];rw[bh aZ,h1];rfl
 ·rename_i d kv ll nE kP lV n6 n7;rw[b1]at h;obtain⟨⟨bM,b2,cj⟩,h1,h⟩:=h;simp only[bx]at h;obtain⟨rfl,rfl,rfl,rfl⟩:=h;refine⟨OJ,d,rfl,?_⟩;rw[fF];have FW:nP P st ⟨some d,op,type,pos,after,guard⟩ ans=oI P st ⟨some d,op,type,pos,after,guard⟩ ans:=by
   unfold nP;split
   ·rename_i e1 e2;exact (lV _ e2).elim
   ·rename_i e1 e2;cases e1
   rfl
  rw[FW];unfold oI;split
  all_goals first
   | exact (kP _ _ (by assumption)).elim
   | exact (lV _ (by assumption)).elim
   | exact (n6 _ _ _ (by assumption)).elim
   | exact (ll _ _ _ (by assumption)).elim
   | exact (kv _ _ _ (by assumption)).elim
   | exact (nE _ _ _ _ (by assumption)).elim
   | exact (n7 _ _ _ _ _ (by assumption)).elim
   | (simp_all;done)
   | (exfalso;rename_i e;subst e;simp[oE]at h1)
   | (exfalso;simp_all[oE])
 ·rename_i ty s y;split at h
  ·rename_i gJ vs v i e1 e2 cb;split at h
   ·rename_i ai;simp only[aR,bx]at h;obtain⟨rfl,rfl,rfl,rfl⟩:=h;refine⟨alc,s,rfl,?_⟩;simp only[nP,Dx,e1,e2,cb];rw[br ai]
   cases h
  cases h
 cases h
theorem Rel.weaken{w0:er}{bp:aI}{a:Act}{w:World}(h:Rel w0 st a w)(aW:bp.env.length=st.env.length)(ar:bp.boxes=st.boxes)
  (he:∀(i:Nat) (p:aJ),bp.env[i]?=some p->p=.cq\/st.env[i]?=some p):Rel w0 bp a w:=by
 obtain⟨ω,τ,h⟩:=h;refine⟨ω,τ,h.defers,h.size.trans aW.symm,h.below,h.owned,h.fixed,h.pinned,fun i p hp=>?_,by rw[ar];exact h.boxes⟩;rcases he i p hp with rfl | U
 ·have:i<a.tmps.size:=by
   rw[h.size,<-aW];exact (eh.1 hp).1
  exact⟨a.tmps[i],by simp[this],aa⟩
 exact h.env i p U
def dk.gh(e:dk)(t:Nat):Option aJ:=if e.dst=some t then some e.p else if t∈e.use then some .cq else none
def qL(env:List aJ):List Nat->List aJ
 | s::us=>qL (env.set s .cq) us
 | []=>env
theorem Jz:∀(us:List Nat) (env:List aJ),(qL env us).length=env.length
 | [],env=>rfl
 | s::us,env=>by simp[qL,Jz us]
theorem OO:∀(us:List Nat) (env:List aJ) (t:Nat),(qL env us)[t]?=(env[t]?).map fun p=>if t∈us then .cq else p
 | [],env,t=>by simp[qL]
 | s::us,env,t=>by
  simp only[qL,OO us,jR,eu];by_cases h:s=t
  ·subst h;by_cases al:s<env.length
   ·simp[al]
   simp[al]
  rw[bh h];have ja:¬t=s:=fun e=>h e.symm
  simp only[ja,false_or]
def dk.apply(e:dk)(env:List aJ):List aJ:=
 match e.dst with
 | some d=>(qL env e.use).set d e.p
 | none=>env
theorem dk.apply_get(aD:e.dst≠none)(env:List aJ)(t:Nat):(e.apply env)[t]?=(env[t]?).map fun p=>(e.gh t).getD p:=by
 unfold dk.apply dk.gh;split
 ·rename_i d dJ;have aj:∀(t:Nat),(qL env e.use)[t]?=(env[t]?).map fun p=>if t∈e.use then .cq else p:=OO e.use env
  rw[jR,aj t];by_cases h:d=t
  ·subst h;by_cases al:d<env.length
   ·have:d<(qL env e.use).length:=by rw[Jz];exact al
    simp[this,al,dJ]
   have:¬d<(qL env e.use).length:=by rw[Jz];exact al
   simp[this,al]
  rw[bh h];cases W6:env[t]? with
  | none=>simp
  | some p=>
   have cB:¬(e.dst=some t):=by rw[dJ];simpa using h
   simp only[l',aR,bh cB];by_cases hu:t∈e.use
   ·simp[hu]
   simp[hu]
 exact absurd ‹_› aD
def gL(L:Nat->Bool)(t:Nat):Nat->List dk->aJ->aJ
 | _,[],acc=>acc
 | k,e::es,acc=>gL L t (k+1) es (if L k then (e.gh t).getD acc else acc)
variable{L:Nat->Bool}
theorem zM{L':Nat->Bool}:∀{es:List dk} {k:Nat} {acc:aJ},(∀(j:Nat) (e:dk),es[j]?=some e->e.gh t≠none->L (k+j)=L' (k+j))->gL L t k es acc=gL L' t k es acc
 | [],_,_,_=>rfl
 | e::es,k,acc,h=>by
  simp only[gL];have bN:(if L k then (e.gh t).getD acc else acc)=(if L' k then (e.gh t).getD acc else acc):=by
   cases bQ:e.gh t with
   | none=>simp
   | some p=>have:=h 0 e rfl (by simp[bQ]);rw[lC]at this;rw[this]
  rw[bN];exact zM fun j e' a6 bQ=>by have:=h (j+1) e' (by simpa using a6) bQ;rwa[show k+(j+1)=k+1+j by omega]at this
theorem OP{p:aJ}:∀{es:List dk} {k i:Nat} {acc:aJ} {e:dk},es[i]?=some e->e.gh t=some p->L (k+i)=true->
  (∀(j:Nat) (e':dk),i<j->es[j]?=some e'->e'.gh t≠none->L (k+j)=false)->gL L t k es acc=p
 | [],_,_,_,_,h,_,_,_=>by simp at h
 | bE::es,k,0,acc,e,h,bQ,cw,h8=>by
  simp at h;subst h;simp only[gL];rw[lC]at cw;rw[cw,bQ];simp only[gy,ij];have:∀(es:List dk) (k:Nat),(∀(j:Nat) (e':dk),es[j]?=some e'->e'.gh t≠none->L (k+j)=false)->gL L t k es p=p:=by
   intro es;induction es with
   | nil=>intro k _;rfl
   | cons e1 es dP=>
    intro k h;simp only[gL];have h1:(if L k then (e1.gh t).getD p else p)=p:=by
     cases bQ:e1.gh t with
     | none=>simp
     | some q=>have:=h 0 e1 rfl (by simp[bQ]);rw[lC]at this;simp[this]
    rw[h1];exact dP (k+1) fun j e' a6 yX=>by have:=h (j+1) e' (by simpa using a6) yX;rwa[show k+(j+1)=k+1+j by omega]at this
  exact this es (k+1) fun j e' a6 yX=>by have:=h8 (j+1) e' (by omega) (by simpa using a6) yX;rwa[show k+(j+1)=k+1+j by omega]at this
 | bE::es,k,i+1,acc,e,h,bQ,cw,h8=>by
  simp only[gL];exact OP (i:=i) (by simpa using h) bQ (by rwa[show k+1+i=k+(i+1) by omega]) fun j e' a6 yG yX=>by
   have:=h8 (j+1) e' (by omega) (by simpa using yG) yX;rwa[show k+(j+1)=k+1+j by omega]at this
def eS(env0:List aJ)(bs:List (Nat×List aB))(L:Nat->Bool)(es:List dk):aI:=⟨env0.zipIdx.map fun x=>gL L x.2 0 es x.1,bs⟩
variable{bs:List (Nat×List aB)}
theorem pP{env0:List aJ}{es:List dk}(t:Nat):(eS env0 bs L es).env[t]?=(env0[t]?).map fun p=>gL L t 0 es p:=by
 simp only[eS,dj,List.getElem?_zipIdx,dg];cases env0[t]?<;>rfl
theorem xk{env0:List aJ}{es:List dk}:(eS env0 bs L es).env.length=env0.length:=by simp[eS]
def JA(ops:Array Oper)(o:Oper):Option Nat:=o.guard.bind fun x=>(ops[x.1]?).bind (·.dst)
def reads(ops:Array Oper)(o:Oper):List Nat:=o.op.operands.toList.filterMap OI++(JA ops o).toList
def xl(d:Nat):dk:=⟨some d,.one (.v undef),[],[]⟩
def ext(e:dk)(env:List aJ):dk:=
 if e.mN.isEmpty then e else { e with use:=e.use++(env.zipIdx.filterMap fun x=>if x.1.ez e.mN&&!(e.dst==some x.2) then some x.2 else none) }
theorem DK(e:dk)(env:List aJ):∃u,ext e env={ e with use:=u }:=by
 unfold ext;split
 ·exact⟨e.use,rfl⟩
 exact⟨_,rfl⟩
structure hI where
 t:Nat
 i:Nat
 j:Nat
 k:Nat
 kT:Nat
 es:List (List D)
 esT:List (List D)
def Ei(t:Nat)(bs:List (Nat×List aB)):Option (Nat×List (List D)):=
 (bs.find? fun x=>(x.2.findSome? (sk t)).isSome).bind fun x=>(dp x.1 bs).bind fun ls=>ls.findSome? (sk t)
theorem alh{w0:er}{a:Act}{w:World}{ω:Own}{τ:Nat->Nat×Value}(h:cy w0 st a w ω τ){kT:Nat}{esT:List (List D)}(e:Ei t st.boxes=some (kT,esT)):∃v,Sat w ω τ (.J (.own t) kT esT) v:=by
 unfold Ei at e;rw[lA]at e;obtain⟨x,_,e⟩:=e;rw[lA]at e;obtain⟨ls,ar,e⟩:=e;obtain⟨l,al,e⟩:=List.exists_of_findSome?_eq_some e;obtain⟨b,arr,ty,_,_,_,aj⟩:=h.boxes _ ls ar;obtain⟨n,aW⟩:=oT.1 al;obtain⟨u,_,hu⟩:=aj.2 n l aW;exact⟨u,Je e hu⟩
def qM(st:aI)(o:Oper):Option hI:=
 match o.dst,o.op with
 | some _,.call ⟨.builtin .append,⟨[x,_]⟩,⟨[_,_]⟩⟩=>
  match (st.bi x).leaf with
  | some (.aO s i j k es .here)=>
   match Ei s st.boxes with
   | some (kT,esT)=>some ⟨s,i,j,k,kT,es,esT⟩
   | none=>none
  | _=>none
 | _,_=>none
def tS(P:Program)(st:aI)(o:Oper)(ans:List b9):Option (dk×List b9×List Prop):=
 match qM st o,o.dst,o.op with
 | some v,some d,.call ⟨.builtin .append,⟨[_,y]⟩,⟨[t,c6]⟩⟩=>
  if t=c6 then (sC P t v.t v.i v.j v.k v.es v.esT (st.bi y) ans).map fun r=>(⟨some d,r.1,[],[]⟩,r.2.1,r.2.2) else none
 | _,_,_=>none
def hI.fix(v:hI):aB->Option (List Prop)
 | .J (.own s) da dE=>if s=v.t then (if da=v.kT then some [dE=v.esT] else none) else some []
 | .cE (.own s) da dE _ _=>if s=v.t then (if da=v.kT then some [dE=v.esT] else none) else some []
 | .J (.ro s) _ _=>if s=v.t then none else some []
 | .cE (.ro s) _ _ _ _=>if s=v.t then none else some []
 | .aO s a b da dE m=>if s=v.t/\b=v.j then (if da=v.k/\m.home=true then some [a=v.i,dE=v.es] else none) else some []
 | .fa _ _=>none
 | _=>some []
def hI.ma(v:hI)(l:aB):Prop:=gM v.t v.i v.j v.k v.es v.kT v.esT l=l/\∀a∈l.idx v.t v.j,a=v.i
theorem hI.Wr{v:hI}{l:aB}(h:v.fix l=some obs)(aZ:cG obs):v.ma l:=by
 obtain⟨t,i,j,k,kT,es,esT⟩:=v;unfold hI.ma;simp only;cases l with
 | J g da dE=>
  refine⟨?_,fun a ah=>by simp[aB.idx]at ah⟩;cases g with
  | free=>rfl
  | own s=>
   simp only[hI.fix]at h;split at h
   ·rename_i aj;subst aj;split at h
    ·rename_i hk;subst hk;cases h;have e:dE=esT:=aZ.1;subst e;simp[gM]
    cases h
   rename_i aj;simp[gM,aj]
  | ro s=>
   simp only[hI.fix]at h;split at h
   ·cases h
   rename_i aj;simp[gM,aj]
 | cE g da dE x y=>
  refine⟨?_,fun a ah=>by simp[aB.idx]at ah⟩;cases g with
  | free=>rfl
  | own s=>
   simp only[hI.fix]at h;split at h
   ·rename_i aj;subst aj;split at h
    ·rename_i hk;subst hk;cases h;have e:dE=esT:=aZ.1;subst e;simp[gM]
    cases h
   rename_i aj;simp[gM,aj]
  | ro s=>
   simp only[hI.fix]at h;split at h
   ·cases h
   rename_i aj;simp[gM,aj]
 | aO s a b da dE m=>
  simp only[hI.fix]at h;split at h
  ·rename_i aj;obtain⟨rfl,rfl⟩:=aj;split at h
   ·rename_i hk;cases h;have e1:a=i:=aZ.1;have e2:dE=es:=aZ.2.1;subst e1;subst e2;refine⟨?_,fun x ag=>?_⟩
    ·obtain⟨rfl,hm⟩:=hk;simp[gM,hm]
    simpa[aB.idx]using ag
   cases h
  rename_i aj;refine⟨?_,fun x ag=>?_⟩
  ·simp only[gM];rw[bh aj]
  simp[aB.idx,aj]at ag
 | fa t vs=>cases h
 | _=>exact⟨rfl,fun a ah=>by simp[aB.idx]at ah⟩
def bu.s3:bu->List aB
 | .one l=>[l]
 | .agg ls=>ls
def aJ.s3:aJ->List aB
 | .aK a=>a.s3
 | .fJ as=>as.flatMap bu.s3
theorem bu.ze{p:aB->Prop}{a:bu}(h:∀l∈a.s3,p l):a.kH p:=by
 cases a with
 | one l=>exact h l (by simp[bu.s3])
 | agg ls=>exact h
theorem aJ.ze{p:aB->Prop}{q:aJ}(h:∀l∈q.s3,p l):q.kH p:=by
 cases q with
 | aK a=>exact bu.ze h
 | fJ as=>exact fun a ah=>bu.ze fun l al=>h l (mS.2 ⟨a,ah,al⟩)
def hI.fixes(v:hI):List aB->Option (List Prop)
 | []=>some []
 | l::r=>
  match v.fix l,hI.fixes v r with
  | some a,some b=>some (a++b)
  | _,_=>none
theorem hI.M4{v:hI}:∀{ls:List aB} {obs:List Prop},v.fixes ls=some obs->cG obs->∀l∈ls,v.ma l
 | [],_,_,_,l,al=>by cases al
 | fx::r,obs,h,aZ,l,al=>by
  simp only[hI.fixes]at h;split at h
  ·rename_i a b h1 U;cases h;obtain⟨cC,cc⟩:=aZ.append;rcases eu.1 al with rfl | al
   ·exact hI.Wr h1 cC
   exact hI.M4 U cc l al
  cases h
def xK(bs:List (Nat×List aB))(all:Nat->List aB):Nat->List Oper->List aJ->List dk->Option (List Prop)
 | i,o::os,env,e::es=>
  match qM ⟨env,bs⟩ o with
  | some v=>
   match v.fixes (all i),xK bs all (i+1) os (e.apply env) es with
   | some a,some b=>some (a++b)
   | _,_=>none
  | none=>xK bs all (i+1) os (e.apply env) es
 | _,_,_,_=>some []
theorem OQ{all:Nat->List aB}:∀{l:List Oper} {es:List dk} {env:List aJ} {i0:Nat} {obs:List Prop},xK bs all i0 l env es=some obs->cG obs->
  ∀(i:Nat) (o:Oper),l[i]?=some o->i<es.length->∀v,qM ⟨(es.take i).foldl (fun env e=>e.apply env) env,bs⟩ o=some v->∀ki∈all (i0+i),v.ma ki
 | [],_,_,_,_,_,_,i,o,hi,_,_,_,_,_=>by simp at hi
 | _::_,[],_,_,_,_,_,i,o,_,al,_,_,_,_=>by simp at al
 | Cz::os,e::es,env,i0,obs,h,aZ,i,o,hi,al,v,bt,ki,Cf=>by
  simp only[xK]at h;cases i with
  | zero=>
   simp only[jS,aR]at hi;subst hi;simp only[List.take_zero,List.foldl_nil]at bt;rw[bt]at h;simp only at h;split at h
   ·rename_i a b h1 U;cases h;exact hI.M4 h1 aZ.append.1 ki Cf
   cases h
  | succ i=>
   have go:∀{b:List Prop},xK bs all (i0+1) os (e.apply env) es=some b->cG b->v.ma ki:=fun U cc=>
    OQ U cc i o (by simpa using hi) (by simpa using al) v (by simpa using bt) ki (by rw[show i0+1+i=i0+(i+1) by omega];exact Cf)
   split at h
   ·split at h
    ·rename_i a b h1 U;cases h;exact go U aZ.append.2
    cases h
   exact go h aZ
def tp(P:Program)(ops:Array Oper)(gs:List Nat)(bs:List (Nat×List aB)):List Oper->List aJ->List b9->Option (List dk×List aJ×List b9×List Prop)
 | [],env,ans=>some ([],env,ans,[])
 | o::rest,env,ans=>
  match qK ops ⟨env,bs⟩ o [] with
  | some (true,_,_,_)=>
   match rf P ⟨env,bs⟩ o ans with
   | some (e,_,e7,fC)=>
    match (match o.dst with | some d=>gs.contains d | none=>false),e.p.leaf,e7 with
    | true,some (.ba c),.n9 b::r=>
     (tp P ops gs bs rest (dk.apply { ext e env with p:=.one (.v (.bool b)) } env) r).map fun x=>({ ext e env with p:=.one (.v (.bool b)) }::x.1,x.2.1,x.2.2.1,(c=b)::(fC++x.2.2.2))
    | _,_,_=>(tp P ops gs bs rest ((ext e env).apply env) e7).map fun x=>(ext e env::x.1,x.2.1,x.2.2.1,fC++x.2.2.2)
   | none=>
    match tS P ⟨env,bs⟩ o ans with
    | some (e,e7,fC)=>(tp P ops gs bs rest (e.apply env) e7).map fun x=>(e::x.1,x.2.1,x.2.2.1,fC++x.2.2.2)
    | none=>none
  | some (false,_,_,_)=>
   match o.dst with
   | some d=>(tp P ops gs bs rest ((xl d).apply env) ans).map fun x=>(xl d::x.1,x.2.1,x.2.2.1,x.2.2.2)
   | none=>none
  | none=>none
def Fact(P:Program)(ops:Array Oper)(bs:List (Nat×List aB))(env:List aJ)(o:Oper)(e:dk):Prop:=
 (∃st1 eO cC,qK ops ⟨env,bs⟩ o []=some (false,st1,eO,cC)/\∃d,o.dst=some d/\e=xl d)\/
 (∃st1 eO cC,qK ops ⟨env,bs⟩ o []=some (true,st1,eO,cC)/\∃ans bE g cd obs,rf P ⟨env,bs⟩ o ans=some (bE,g,cd,obs)/\cG obs/\
  ∃u,(e={ bE with use:=u }\/∃c b,bE.p=.one (.ba c)/\c=b/\e={ bE with use:=u,p:=.one (.v (.bool b)) }))\/
 (∃st1 eO cC,qK ops ⟨env,bs⟩ o []=some (true,st1,eO,cC)/\∃ans cd obs,tS P ⟨env,bs⟩ o ans=some (e,cd,obs)/\cG obs)
theorem zN{ops:Array Oper}{gs:List Nat}:∀{l:List Oper} {env sJ:List aJ} {ans cd:List b9} {es:List dk} {obs:List Prop},
  tp P ops gs bs l env ans=some (es,sJ,cd,obs)->cG obs->
  es.length=l.length/\sJ=es.foldl (fun env e=>e.apply env) env/\∀(i:Nat) (o:Oper),l[i]?=some o->∃e,es[i]?=some e/\Fact P ops bs ((es.take i).foldl (fun env e=>e.apply env) env) o e
 | [],env,sJ,ans,cd,es,obs,h,_=>by
  simp only[tp,aR,bx]at h;obtain⟨rfl,rfl,_,_⟩:=h;exact⟨rfl,rfl,fun i o aZ=>by simp at aZ⟩
 | o::rest,env,sJ,ans,cd,es,obs,h,aZ=>by
  have fin:∀(e:dk) (dE:List dk) (Fz:List aJ),(dE.length=rest.length/\Fz=dE.foldl (fun env e=>e.apply env) (e.apply env)/\∀(i:Nat) (o:Oper),rest[i]?=some o->∃e',dE[i]?=some e'/\Fact P ops bs ((dE.take i).foldl (fun env e=>e.apply env) (e.apply env)) o e')->
    Fact P ops bs env o e->(e::dE).length=(o::rest).length/\Fz=(e::dE).foldl (fun env e=>e.apply env) env/\∀(i:Nat) (oz:Oper),(o::rest)[i]?=some oz->∃e',(e::dE)[i]?=some e'/\Fact P ops bs (((e::dE).take i).foldl (fun env e=>e.apply env) env) oz e':=by
   intro e dE Fz ⟨h1,U,aw⟩ bT;refine⟨by simp[h1],U,fun i oz kg=>?_⟩;cases i with
   | zero=>simp at kg;subst kg;exact⟨e,rfl,bT⟩
   | succ i=>exact aw i oz (by simpa using kg)
  simp only[tp]at h;split at h
  ·rename_i st1 eO cC hw;split at h
   ·rename_i e g e7 fC aD;split at h
    ·rename_i c b r au al;rw[b1]at h;obtain⟨⟨mQ,jv,tW,ss⟩,h1,h⟩:=h;simp only[bx]at h;obtain⟨rfl,rfl,_,rfl⟩:=h;have Oq:(c=b)/\cG ss:=⟨aZ.1,(cG.append aZ.2).2⟩
     have zi:=(cG.append aZ.2).1;refine fin _ _ _ (zN h1 Oq.2) (.inr (.inl ⟨_,_,_,hw,_,_,_,_,_,aD,zi,(DK e env).choose,.inr ⟨c,b,?_,?_,?_⟩⟩))
     ·cases hp:e.p with
      | aK a=>
       rw[hp]at al;cases a with
       | one l=>simp only[aJ.leaf,aR]at al;rw[al]
       | agg ls=>cases al
      | fJ as=>rw[hp]at al;cases al
     ·exact Oq.1
     conv=>lhs;rw[(DK e env).choose_spec]
    rw[b1]at h;obtain⟨⟨mQ,jv,tW,ss⟩,h1,h⟩:=h;simp only[bx]at h;obtain⟨rfl,rfl,_,rfl⟩:=h;obtain⟨zi,cc⟩:=aZ.append;exact fin _ _ _ (zN h1 cc) (.inr (.inl ⟨_,_,_,hw,_,_,_,_,_,aD,zi,(DK e env).choose,.inl (DK e env).choose_spec⟩))
   split at h
   ·rename_i e e7 fC GD;rw[b1]at h;obtain⟨⟨mQ,jv,tW,ss⟩,h1,h⟩:=h;simp only[bx]at h;obtain⟨rfl,rfl,_,rfl⟩:=h;obtain⟨zi,cc⟩:=aZ.append;exact fin _ _ _ (zN h1 cc) (.inr (.inr ⟨_,_,_,hw,_,_,_,GD,zi⟩))
   cases h
  ·rename_i st1 eO cC hw;split at h
   ·rename_i d aD;rw[b1]at h;obtain⟨⟨mQ,jv,tW,ss⟩,h1,h⟩:=h;simp only[bx]at h;obtain⟨rfl,rfl,_,rfl⟩:=h;exact fin _ _ _ (zN h1 aZ) (.inl ⟨_,_,_,hw,d,aD,rfl⟩)
   cases h
  cases h
end Go.Sx
namespace Go.Sx
open Go.RowKit
variable{st bp:aI}
theorem Qi{parts:List (Nat×Operand)}(h:∀x∈parts,st.bi x.2=bp.bi x.2):(parts.map fun x=>(x.1,st.bi x.2))=parts.map fun x=>(x.1,bp.bi x.2):=
 kE fun x ag=>by rw[h x ag]
variable{P:Program}{ans:List b9}
theorem Qj{op:Op}(ar:st.boxes=bp.boxes)(h:∀x∈op.operands.toList,st.bi x=bp.bi x):oE P st op ans=oE P bp op ans:=by
 cases op<;>simp only[oE,Op.operands,eu,List.mem_nil_iff,forall_eq_or_imp,or_false,forall_eq]at h ⊢
 case load t x=>simp only[CP,h,ar]
 case slice t x cX hi iu=>
  have ag:st.bi x=bp.bi x:=h x (by simp);have aZ:∀o:Option Operand,(∀y,o=some y->st.bi y=bp.bi y)->ln st o=ln bp o:=by
   intro o aZ;cases o with
   | none=>rfl
   | some y=>simp only[ln,aZ y rfl]
  simp only[CQ,ag];rw[aZ cX (fun y e=>h y (by simp[e])),aZ hi (fun y e=>h y (by simp[e]))]
 case build t ct=>
  have:(ct.toList.map fun x=>(x.1,st.bi x.2))=ct.toList.map fun x=>(x.1,bp.bi x.2):=Qi fun x ag=>h x.2 (by simp;exact⟨x.1,by simpa using ag⟩)
  simp only[CD,this]
 case call c=>
  obtain⟨callee,args,ts⟩:=c;cases callee with
  | value f=>rfl
  | invoke r i=>rfl
  | builtin b=>
   simp only[Call.operands]at h;have ja:∀x∈args.toList,st.bi x=bp.bi x:=fun x ag=>h x (by simpa using ag)
   simp only;generalize args.toList=l at ja;unfold CG;split
   ·rw[ja _ (by simp)]
   ·rw[ja _ (by simp),ja _ (by simp)]
   ·rw[ja _ (by simp),ja _ (by simp)]
   rfl
 case makeFunc fn first captured=>
  have ai:captured.toList.map st.bi=captured.toList.map bp.bi:=kE fun x ag=>h x (by simp;right;simpa using ag)
  simp only[CF,ai]
 all_goals simp[h]
variable{o:Oper}
theorem ali(ar:st.boxes=bp.boxes)(h:∀x∈o.op.operands.toList,st.bi x=bp.bi x):rf P st o ans=rf P bp o ans:=by
 obtain⟨dst,op,type,pos,after,guard⟩:=o;simp only at h;cases dst with
 | none=>
  cases op with
  | store ty x y=>
   cases x with
   | tmp s=>
    have ag:st.bi (.tmp s)=bp.bi (.tmp s):=h (.tmp s) (by simp[Op.operands]);have bl:st.bi y=bp.bi y:=h y (by simp[Op.operands]);simp only[aI.bi]at ag;simp only[rf,ag,bl]
   | _=>rfl
  | _=>rfl
 | some d=>
  unfold rf;split
  ·rename_i f args ts e1 e2;simp only at e1 e2;subst e2;have ja:∀x∈args.toList,st.bi x=bp.bi x:=fun x ag=>h x (by simp[Op.operands,Call.operands];right;simpa using ag)
   have:args.toList.mapM (fun x=>(st.bi x).jz st.boxes)=args.toList.mapM (fun x=>(bp.bi x).jz bp.boxes):=by
    rw[<-ar];generalize args.toList=l at ja;generalize st.boxes=bs;induction l with
    | nil=>rfl
    | cons x l dP=>simp only[vZ,ja x (by simp),dP fun y bl=>ja y (by simp[bl])]
   rw[this]
  ·rename_i t n parts e1 e2;simp only at e1 e2;subst e2;have:(parts.toList.map fun x=>(x.1,st.bi x.2))=parts.toList.map fun x=>(x.1,bp.bi x.2):=Qi fun x ag=>h x.2 (by simp[Op.operands];exact⟨x.1,by simpa using ag⟩)
   simp only[BN,this]
  ·rename_i x y t c6 e1 e2;simp only at e1 e2;subst e2;have ag:st.bi x=bp.bi x:=h x (by simp[Op.operands,Call.operands]);have bl:st.bi y=bp.bi y:=h y (by simp[Op.operands,Call.operands]);simp only[ya,ag,bl]
  ·rfl
  ·rfl
  ·rename_i t l c e1 e2;simp only at e1 e2;subst e2;rw[h l (by simp[Op.operands]),h c (by simp[Op.operands])]
  ·rename_i t x cX hi iu e1 e2;simp only at e1 e2;subst e2;have ag:st.bi x=bp.bi x:=h x (by simp[Op.operands]);have aZ:∀o:Option Operand,(∀y,o=some y->st.bi y=bp.bi y)->ln st o=ln bp o:=by
    intro o aZ;cases o with
    | none=>rfl
    | some y=>simp only[ln,aZ y rfl]
   rw[Qj ar h];simp only[Fv,ag];rw[aZ cX (fun y e=>h y (by simp[Op.operands,e])),aZ hi (fun y e=>h y (by simp[Op.operands,e]))]
  ·rw[Qj ar h]
  ·rename_i e1 e2;cases e1
  rfl
theorem M3{x:Operand}(h:∀t,OI x=some t->st.env.getD t .cq=bp.env.getD t .cq):st.bi x=bp.bi x:=by
 cases x with
 | tmp t=>simpa[aI.bi]using h t rfl
 | _=>rfl
def lH(ms:List Nat)(i j:Nat):Bool:=(ms.getD j 0).testBit i
def vG(ms:List Nat):List Edge->Nat
 | []=>0
 | e::r=>if Region.binds .any e then (2 ^ e.on ||| ms.getD e.on 0) ||| vG ms r else vG ms r
def qw:List Oper->List Nat->List Nat
 | [],acc=>acc
 | o::r,acc=>qw r (acc++[vG acc o.after.toList])
variable{ms:List Nat}{i:Nat}
theorem JB:∀{l:List Edge},(vG ms l).testBit i=true->∃e∈l,Region.binds .any e=true/\(i=e.on\/lH ms i e.on=true)
 | [],h=>by simp[vG]at h
 | e::r,h=>by
  simp only[vG]at h;split at h
  ·rename_i ar;rw[Nat.testBit_or,Nat.testBit_or,n3,n3,Nat.testBit_two_pow,cU]at h;rcases h with (h | h) | h
   ·exact⟨e,by simp,ar,.inl h.symm⟩
   ·exact⟨e,by simp,ar,.inr h⟩
   obtain⟨e',h1,U⟩:=JB h;exact⟨e',by simp[h1],U⟩
  obtain⟨e',h1,U⟩:=JB h;exact⟨e',by simp[h1],U⟩
def qa{α:Type}(f:Nat->α->Bool):Nat->List α->Bool
 | _,[]=>true
 | k,x::r=>f k x&&qa f (k+1) r
theorem vH{α:Type}{f:Nat->α->Bool}:∀{l:List α} {k:Nat},qa f k l=true->∀(i:Nat) (x:α),l[i]?=some x->f (k+i) x=true
 | [],_,_,i,x,h=>by simp at h
 | y::r,k,h,0,x,ag=>by
  simp only[qa,cx]at h;simp at ag;subst ag;exact h.1
 | y::r,k,h,i+1,x,ag=>by
  simp only[qa,cx]at h;have:=vH h.2 i x (by simpa using ag);rwa[show k+1+i=k+(i+1) by omega]at this
def qN(ms:List Nat)(os:List Oper):Bool:=
 qa (fun j o=>ms.getD j 0==vG ms o.after.toList&&o.after.toList.all fun e=>!Region.binds .any e||decide (e.on<j)) 0 os
variable{ops:Array Oper}
theorem IL(h:qN ms ops.toList=true){j:Nat}(aZ:ops[j]?=some o):(∀e∈o.after,Region.binds .any e=true->e.on<j)/\
  ∀i,lH ms i j=true->∃e∈o.after,Region.binds .any e=true/\(i=e.on\/lH ms i e.on=true):=by
 have:=vH h j o (by simpa using aZ);simp only[dg,cx,eD,fA,n3,hv,cU]at this;refine⟨fun e he ar=>(this.2 e (by simpa using he)).resolve_left (by simp[ar]),fun i hi=>?_⟩;unfold lH at hi;rw[this.1]at hi;obtain⟨e,h1,U⟩:=JB hi;exact⟨e,by simpa using h1,U⟩
def pQ(ops:Array Oper)(bR:Array Bool):Prop:=
 ∀(j:Nat) (o:Oper),bR.getD j false=true->ops[j]?=some o->∀e∈o.after,Region.binds .any e=true->bR.getD e.on false=true
variable{bR:Array Bool}
theorem DL{j:Nat}(h:bR.getD j false=true):j<bR.size:=by
 rcases n4 j bR.size with ja | ja
 ·exact ja
 simp[Bt ja]at h
theorem DM(h:qN ms ops.toList=true)(ai:pQ ops bR)(aj:bR.size=ops.size):∀(j:Nat),bR.getD j false=true->lH ms i j=true->bR.getD i false=true:=by
 intro j;induction j using Nat.strongRecOn with
 | ind j dP=>
  intro a6 ah;have bz:j<ops.size:=aj▸DL a6;have aZ:ops[j]?=some ops[j]:=gS bz;obtain⟨h1,U⟩:=IL h aZ;obtain⟨e,he,ar,mw⟩:=U i ah;have sP:=ai j _ a6 aZ e he ar;rcases mw with rfl | mw
  ·exact sP
  exact dP e.on (h1 e he ar) sP mw
variable{k:Nat}
theorem zl(h:qN ms ops.toList=true)(ai:pQ ops bR)(aj:bR.size=ops.size)(hi:i∈Region.ready .any ops bR)(ah:lH ms k i=true):bR.getD k false=true:=by
 rw[mem_ready]at hi;obtain⟨_,o,aZ,he⟩:=hi;obtain⟨_,U⟩:=IL h aZ;obtain⟨e,wD,ar,mw⟩:=U k ah;rcases mw with rfl | mw
 ·exact he e wD ar
 exact DM h ai aj _ (he e wD ar) mw
theorem pQ.ready(ai:pQ ops bR)(hi:i∈Region.ready .any ops bR):pQ ops (bR.setIfInBounds i true):=by
 intro j o a6 aZ e he ar;rw[mem_ready]at hi;obtain⟨_,auG,XT,lO⟩:=hi;by_cases ql:i=j
 ·subst ql;rw[XT]at aZ;cases aZ;exact getD_set_true (lO e he ar)
 rw[getD_set_ne false ql]at a6;exact getD_set_true (ai j o a6 aZ e he ar)
theorem IM(h:qN ms ops.toList=true)(aj:bR.size=ops.size)(aA:Region.ready .any ops bR=[]):∀j,j<ops.size->bR.getD j false=true:=by
 intro j;induction j using Nat.strongRecOn with
 | ind j dP=>
  intro bz;have aZ:ops[j]?=some ops[j]:=gS bz;obtain⟨h1,_⟩:=IL h aZ;cases al:bR.getD j false with
  | true=>rfl
  | false=>
   have:j∈Region.ready .any ops bR:=by
    rw[mem_ready];refine⟨?_,_,aZ,fun e he ar=>dP e.on (h1 e he ar) (Nat.lt_trans (h1 e he ar) bz)⟩;have XF:j<bR.size:=aj▸bz;simp[gS XF]at al ⊢;exact al
   rw[aA]at this;cases this
def zm(e:dk):List Nat:=e.dst.toList++e.use
def DN(ops:Array Oper)(o:Oper)(e:dk):List Nat:=zm e++reads ops o
def CB(ms:List Nat)(i k:Nat):Bool:=if k<i then lH ms k i else lH ms i k
def IN(ops:Array Oper)(ms:List Nat)(es:List dk):Bool:=
 qa (fun i x=>qa (fun k e=>k==i||CB ms i k||!((zm e).any fun t=>(DN ops x.1 x.2).contains t)) 0 es) 0 (ops.toList.zip es)
def xm(ms:List Nat)(es:List dk)(i cX:Nat)(s:Option Nat):Bool:=es.zipIdx.any fun y=>decide (cX<=y.2)&&lH ms y.2 i&&(match s with | some t=>y.1.use.contains t | none=>false)
variable{es:List dk}
theorem Qk{cX:Nat}{s:Option Nat}(h:xm ms es i cX s=true):∃m y t,es[m]?=some y/\cX<=m/\lH ms m i=true/\t∈y.use/\s=some t:=by
 unfold xm at h;rw[oX]at h;obtain⟨⟨y,m⟩,h1,U⟩:=h;rw[List.mem_zipIdx_iff_getElem?]at h1;simp only[cx,cU]at U;cases s with
 | none=>simp at U
 | some t=>exact⟨m,y,t,h1,U.1.1,U.1.2,by simpa using U.2,rfl⟩
def IP(ms:List Nat)(es:List dk)(env0:List aJ)(bs:List (Nat×List aB)):Bool:=
 qa (fun i e=>e.mN.isEmpty||
  (qa (fun j x=>j==i||lH ms i j||!x.p.ez e.mN||(match x.dst with | some t=>e.use.contains t | none=>false)||x.dst==e.dst||xm ms es i (j+1) x.dst) 0 es&&
   qa (fun t p=>!p.ez e.mN||e.use.contains t||xm ms es i 0 (some t)||e.dst==some t) 0 env0&&
   bs.all fun x=>!x.2.any (aB.ez e.mN))) 0 es
variable{e:dk}
theorem Ql{t:Nat}(h:e.gh t≠none):t∈zm e:=by
 unfold dk.gh at h;split at h
 ·rename_i aD;simp[zm,aD]
 split at h
 ·rename_i hu;simp[zm,hu]
 exact absurd rfl h
theorem Qm(h:IN ops ms es=true){lK Fy:dk}(aZ:ops[i]?=some o)(hi:es[i]?=some lK)(hk:es[k]?=some Fy)(cB:k≠i){t:Nat}
  (bQ:Fy.gh t≠none) (aW:t∈DN ops o lK):CB ms i k=true:=by
 have h1:=vH h i (o,lK) (by
  rw[List.getElem?_zip_eq_some];exact⟨by simpa using aZ,hi⟩)
 have U:=vH h1 k Fy hk;simp only[dg,n3,eD,hv]at U;rcases U with (U | U) | U
 ·exact absurd U cB
 ·exact U
 rw[hj]at U;have:=U t (Ql bQ);simp only[List.contains_iff_mem]at this;exact absurd aW this
variable{r:fT}
theorem Tag.oy(h:r.isEmpty=true)(t:Tag):t.ez r=false:=by
 cases t with
 | free=>rfl
 | own s=>rw[List.isEmpty_iff]at h;subst h;rfl
 | ro s=>rw[List.isEmpty_iff]at h;subst h;rfl
theorem aB.oy(h:r.isEmpty=true)(l:aB):l.ez r=false:=by
 cases l with
 | aO t i j k es m=>exact Tag.oy h (.own t)
 | fa t vs=>
  simp only[aB.ez,gz];refine⟨Tag.oy h (.own t),hj.2 fun c _=>?_⟩;cases c with
  | cq=>simp[eL.ez]
  | v x=>simp[eL.ez]
  | J t k es=>simp[eL.ez,Tag.oy h]
 | _=>simp[aB.ez,Tag.oy h]
theorem bu.oy(h:r.isEmpty=true)(a:bu):a.ez r=false:=by
 cases a<;>simp[bu.ez,aB.oy h]
theorem aJ.oy(h:r.isEmpty=true)(p:aJ):p.ez r=false:=by
 cases p<;>simp[aJ.ez,bu.oy h]
variable{bs:List (Nat×List aB)}
theorem alj{env0:List aJ}(h:IP ms es env0 bs=true)(hi:es[i]?=some e):
  (∀(j:Nat) (x:dk),es[j]?=some x->j≠i->lH ms i j=true\/x.p.ez e.mN=false\/(∃t,x.dst=some t/\t∈e.use)\/x.dst=e.dst\/xm ms es i (j+1) x.dst=true)/\
  (∀(t:Nat) (p:aJ),env0[t]?=some p->((p.ez e.mN=false\/t∈e.use)\/xm ms es i 0 (some t)=true)\/e.dst=some t)/\∀x∈bs,x.2.any (aB.ez e.mN)=false:=by
 have h1:=vH h i e hi;simp only[n3,cU]at h1;rcases h1 with h1 | h1
 ·refine⟨fun j x _ _=>.inr (.inl (aJ.oy h1 _)),fun t p _=>.inl (.inl (.inl (aJ.oy h1 _))),fun x _=>?_⟩;rw[hj];intro l _;simp[aB.oy h1]
 simp only[cx]at h1;obtain⟨⟨h1,U⟩,aw⟩:=h1;refine⟨fun j x ag cB=>?_,fun t p hp=>?_,fun x ag=>?_⟩
 ·have:=vH h1 j x ag;simp only[dg,n3,eD,hv,cx]at this;rcases this with ((((aH | aH) | aH) | aH) | aH) | aH
  rotate_left 4
  ·exact .inr (.inr (.inr (.inl aH)))
  ·exact .inr (.inr (.inr (.inr aH)))
  ·exact absurd aH cB
  ·exact .inl aH
  ·exact .inr (.inl aH)
  refine .inr (.inr (.inl ?_));split at aH
  ·rename_i t bQ;exact⟨t,bQ,by simpa using aH⟩
  cases aH
 ·have:=vH U t p hp;simp only[dg,n3,hv,List.contains_iff_mem,eD]at this;exact this
 rw[fA]at aw;simpa using aw x ag
theorem IQ{L:Nat->Bool}{t:Nat}:∀{es:List dk} {k:Nat} {acc:aJ},(gL L t k es acc=acc/\∀(m:Nat) (y:dk),es[m]?=some y->L (k+m)=true->y.gh t=none)\/gL L t k es acc=.cq\/
  ∃j e,es[j]?=some e/\L (k+j)=true/\e.dst=some t/\gL L t k es acc=e.p/\∀(m:Nat) (y:dk),es[m]?=some y->j<m->L (k+m)=true->y.gh t=none
 | [],_,_=>.inl ⟨rfl,fun m y h=>by simp at h⟩
 | e::es,k,acc=>by
  simp only[gL];rcases IQ (L:=L) (t:=t) (es:=es) (k:=k+1) (acc:=if L k then (e.gh t).getD acc else acc) with⟨h,aW⟩ | h | ⟨j,e',h1,U,aw,aH,aU⟩
  ·have tail:∀(m:Nat) (y:dk),(e::es)[m+1]?=some y->L (k+(m+1))=true->y.gh t=none:=fun m y bl al=>aW m y (by simpa using bl) (by rwa[show k+1+m=k+(m+1) by omega])
   by_cases cw:L k=true
   ·rw[br cw]at h ⊢;unfold dk.gh at h ⊢;by_cases aD:e.dst=some t
    ·rw[br aD]at h ⊢;refine .inr (.inr ⟨0,e,rfl,cw,aD,h,fun m y bl hm al=>?_⟩);cases m with
     | zero=>omega
     | succ m=>exact tail m y bl al
    rw[bh aD]at h ⊢;by_cases hu:t∈e.use
    ·rw[br hu]at h ⊢;exact .inr (.inl h)
    rw[bh hu]at h ⊢;refine .inl ⟨h,fun m y bl al=>?_⟩;cases m with
    | zero=>
     simp only[jS,aR]at bl;subst bl;rw[bh aD,bh hu]
    | succ m=>exact tail m y bl al
   rw[bh cw]at h ⊢;refine .inl ⟨h,fun m y bl al=>?_⟩;cases m with
   | zero=>exact absurd al (by simpa using cw)
   | succ m=>exact tail m y bl al
  ·exact .inr (.inl h)
  refine .inr (.inr ⟨j+1,e',by simpa using h1,by rwa[show k+(j+1)=k+1+j by omega],aw,aH,fun m y bl hm al=>?_⟩);cases m with
  | zero=>omega
  | succ m=>exact aU m y (by simpa using bl) (by omega) (by rwa[show k+1+m=k+(m+1) by omega])
theorem Qn{t:Nat}:∀{es:List dk} {k i:Nat} {acc:aJ} {e:dk},es[i]?=some e->
  gL (fun j=>decide (j<k+i+1)) t k es acc=(e.gh t).getD (gL (fun j=>decide (j<k+i)) t k es acc)
 | [],_,_,_,_,h=>by simp at h
 | bE::es,k,0,acc,e,h=>by
  simp at h;subst h;have h8:∀(es:List dk) (k m:Nat) (acc:aJ),m<=k->gL (fun j=>decide (j<m)) t k es acc=acc:=by
   intro es;induction es with
   | nil=>intro k m acc _;rfl
   | cons e1 es dP=>
    intro k m acc hm;simp only[gL];rw[bh (by simpa using hm)];exact dP (k+1) m acc (by omega)
  simp only[gL];rw[br (by simp),bh (by simp),h8 _ _ _ _ (by omega),h8 _ _ _ _ (by omega)]
 | bE::es,k,i+1,acc,e,h=>by
  simp only[gL];rw[br (by simp;omega),br (by simp)];have:=Qn (t:=t) (es:=es) (k:=k+1) (i:=i) (acc:=(bE.gh t).getD acc) (by simpa using h);rw[show k+1+i+1=k+(i+1)+1 by omega,show k+1+i=k+(i+1) by omega]at this;exact this
theorem DO{env0:List aJ}{bs:List (Nat×List aB)}(aD:∀(i:Nat) (e:dk),es[i]?=some e->e.dst≠none):∀(i:Nat),i<=es.length->
  (es.take i).foldl (fun env e=>e.apply env) env0=(eS env0 bs (fun j=>decide (j<i)) es).env
 | 0,_=>by
  apply List.ext_getElem?;intro t;rw[pP];have h8:∀(es:List dk) (k:Nat) (acc:aJ),gL (fun j=>decide (j<0)) t k es acc=acc:=by
   intro es;induction es with
   | nil=>intro k acc;rfl
   | cons e1 es dP=>intro k acc;simp only[gL];rw[bh (by simp)];exact dP _ _
  cases h:env0[t]? with
  | none=>simp[h]
  | some p=>have:=h8 es 0 p;simp only[h,List.take_zero,List.foldl_nil,l',this]
 | i+1,hi=>by
  have bz:i<es.length:=by omega
  have he:es[i]?=some es[i]:=gU bz;have dP:=DO (env0:=env0) (bs:=bs) aD i (by omega);rw[vW,he,Fb,List.foldl_append,dP];simp only[List.foldl_cons,List.foldl_nil];apply List.ext_getElem?;intro t;rw[dk.apply_get (aD i _ he),pP,pP];cases h:env0[t]? with
  | none=>rfl
  | some p=>
   have:=Qn (t:=t) (es:=es) (k:=0) (i:=i) (acc:=p) he;simp only[dg]at this;simp[this]
theorem IS{bp:aI}{st1:aI}{eO:List b9}{cC:List Prop}{b:Bool}(h:qK ops st o []=some (b,st1,eO,cC))(aj:∀t∈reads ops o,st.env.getD t .cq=bp.env.getD t .cq):
  qK ops bp o []=some (b,bp,[],[]):=by
 unfold qK at h ⊢;cases au:o.guard with
 | none=>rw[au]at h;simp only[aR,bx]at h;simp[<-h.1]
 | some g=>
  obtain⟨j,want⟩:=g;rw[au]at h;simp only at h ⊢;cases aD:(ops[j]?).bind (·.dst) with
  | none=>rw[aD]at h;cases h
  | some s=>
   rw[aD]at h;simp only at h ⊢;have:s∈reads ops o:=by simp[reads,JA,au,aD]
   rw[aj s this]at h;split at h
   ·rename_i e;simp only[aR,bx]at h;simp[e,<-h.1]
   ·rename_i e;simp only[aR,bx]at h;simp[e,<-h.1]
   ·cases h
   cases h
variable{cd:List b9}{obs:List Prop}
theorem Qo(h:tS P st o ans=some (e,cd,obs)):
  ∃(v:hI) (d:Nat) (x y:Operand) (t:TypeId),qM st o=some v/\o.dst=some d/\o.op=.call ⟨.builtin .append,⟨[x,y]⟩,⟨[t,t]⟩⟩/\sC P t v.t v.i v.j v.k v.es v.esT (st.bi y) ans=some (e.p,cd,obs)/\
   e=⟨some d,e.p,[],[]⟩/\(st.bi x).leaf=some (.aO v.t v.i v.j v.k v.es .here)/\Ei v.t st.boxes=some (v.kT,v.esT):=by
 obtain⟨dst,op,type,pos,after,guard⟩:=o;unfold tS at h;split at h
 ·rename_i v d gi y t c6 hi aD rB;simp only at aD rB;subst aD;subst rB;split at h
  ·rename_i y0;subst y0;rw[b1]at h;obtain⟨⟨bM,b2,cj⟩,h1,h⟩:=h;simp only[bx]at h;obtain⟨rfl,rfl,rfl⟩:=h;have jZ:=hi;simp only[qM]at jZ;split at jZ
   ·rename_i s i j k es al;split at jZ
    ·rename_i kT esT ar;cases jZ;exact⟨_,d,gi,y,t,hi,rfl,rfl,h1,rfl,al,ar⟩
    cases jZ
   cases jZ
  cases h
 cases h
theorem Qp{st bp:aI}(ar:st.boxes=bp.boxes)(h:∀x∈o.op.operands.toList,st.bi x=bp.bi x):qM st o=qM bp o:=by
 obtain⟨dst,op,type,pos,after,guard⟩:=o;simp only at h;unfold qM;simp only;split
 ·rename_i x y t c6;have ag:st.bi x=bp.bi x:=h x (by simp[Op.operands,Call.operands]);rw[ag,ar]
 rfl
theorem alk(ar:st.boxes=bp.boxes)(h:∀x∈o.op.operands.toList,st.bi x=bp.bi x):tS P st o ans=tS P bp o ans:=by
 unfold tS;rw[Qp ar h];split
 ·rename_i v d x y t c6 h1 U aw;rw[h y (by rw[aw];simp[Op.operands,Call.operands])]
 rfl
theorem alm{v:hI}{q:aJ}(h:q.kH v.ma):∀a∈q.idx v.t v.j,a=v.i:=by
 have one:∀{a:bu},a.kH v.ma->∀x∈a.idx v.t v.j,x=v.i:=by
  intro a ah x ag;cases a with
  | one l=>exact ah.2 x ag
  | agg ls=>
   obtain⟨l,al,ag⟩:=mS.1 ag;exact (ah l al).2 x ag
 intro x ag;cases q with
 | aK a=>exact one h x ag
 | fJ as=>
  obtain⟨a,ah,ag⟩:=mS.1 ag;exact one (h a ah) x ag
theorem aln{v:hI}{q:aJ}(h:q.kH v.ma):q.map (gM v.t v.i v.j v.k v.es v.kT v.esT)=q:=by
 have ls:∀{ls:List aB},(∀l∈ls,v.ma l)->ls.map (gM v.t v.i v.j v.k v.es v.kT v.esT)=ls:=by
  intro ls al
  conv=>rhs;rw[<-q5 ls]
  exact kE fun l hm=>(al l hm).1
 have one:∀{a:bu},a.kH v.ma->a.map (gM v.t v.i v.j v.k v.es v.kT v.esT)=a:=by
  intro a ah;cases a with
  | one l=>simp only[bu.map];rw[ah.1]
  | agg l=>simp only[bu.map];rw[ls ah]
 cases q with
 | aK a=>simp only[aJ.map];rw[one h]
 | fJ as=>
  simp only[aJ.map]
  congr 1
  conv=>rhs;rw[<-q5 as]
  exact kE fun a hm=>one (h a hm)
theorem Fact.dst{env:List aJ}(h:Fact P ops bs env o e):e.dst≠none:=by
 rcases h with⟨_,_,_,_,d,aD,rfl⟩ | ⟨_,_,_,_,ans,bE,g,cd,obs,h1,_,U⟩ | ⟨_,_,_,_,ans,cd,obs,h1,_⟩
 rotate_left 2
 ·obtain⟨v,d,x,y,t,_,_,_,_,he,_⟩:=Qo h1;rw[he];simp
 ·simp[xl]
 obtain⟨_,d,aH,_⟩:=ON h1;obtain⟨u,U⟩:=U;rcases U with rfl | ⟨c,b,_,_,rfl⟩
 ·simp only[aH];simp
 simp only[aH];simp
variable{w0:er}{a:Act}{w:World}
theorem Rel.bool{env:List aJ}{d:Nat}{c:Bool}(h:Rel w0 ⟨env.set d (.one (.ba c)),bs⟩ a w):Rel w0 ⟨env.set d (.one (.v (.bool c))),bs⟩ a w:=by
 obtain⟨ω,τ,h⟩:=h;refine⟨ω,τ,h.defers,by have:=h.size;simpa using this,h.below,h.owned,h.fixed,h.pinned,fun i p hp=>?_,h.boxes⟩;by_cases hi:d=i
 ·subst hi;rw[jR]at hp;split at hp
  ·split at hp
   ·rename_i al;simp only[aR]at hp;subst hp;obtain⟨v,h1,U⟩:=h.env d (.one (.ba c)) (by simp[al]);exact⟨v,h1,U⟩
   cases hp
  rename_i cB;exact absurd rfl cB
 exact h.env i p (by simpa[jR,hi]using hp)
section
variable {P : Program} {ops : Array Oper} {bs : List (Nat × List aB)} {env0 : List aJ} {es : List dk} {ms : List Nat}
def eX(bR:Array Bool)(j:Nat):Bool:=bR.getD j false
structure oY (P:Program) (ops:Array Oper) (bs:List (Nat×List aB)) (env0:List aJ) (es:List dk) (ms:List Nat):Prop where
 len:es.length<=ops.size
 facts:∀(i:Nat) (o:Oper),i<es.length->ops[i]?=some o->∃e,es[i]?=some e/\Fact P ops bs (eS env0 bs (fun j=>decide (j<i)) es).env o e
 masks:qN ms ops.toList=true
 aO:∀(i:Nat) (o:Oper) (v:hI),i<es.length->ops[i]?=some o->qM ⟨(eS env0 bs (fun j=>decide (j<i)) es).env,bs⟩ o=some v->
  (∀q∈env0,q.kH v.ma)/\(∀(j:Nat) (x:dk),es[j]?=some x->j≠i->x.p.kH v.ma)/\∀x∈bs,∀l∈x.2,v.ma l
 ord:IN ops ms es=true
 tok:IP ms es env0 bs=true
variable{bR:Array Bool}{i:Nat}{e:dk}
theorem oY.same(h:oY P ops bs env0 es ms)(ai:pQ ops bR)(aj:bR.size=ops.size)(hi:i∈Region.ready .any ops bR){o:Oper}(aZ:ops[i]?=some o)(he:es[i]?=some e)
  {t:Nat} (bQ:t∈DN ops o e):(eS env0 bs (eX bR) es).env.getD t .cq=(eS env0 bs (fun j=>decide (j<i)) es).env.getD t .cq:=by
 rw[ii,ii,pP,pP];have fO:bR.getD i false=false:=by
  have bN:=(mem_ready.1 hi).1;have bz:i<bR.size:=aj▸(ik.1 aZ).1;simp[gS bz]at bN ⊢;exact bN
 cases W6:env0[t]? with
 | none=>rfl
 | some p=>
  simp only[l',ij];refine zM fun j wj a6 yY=>?_
  rw[dg];by_cases nt:j=i
  ·subst nt;simp[eX,fO]
  have:=Qm h.ord aZ he a6 nt yY bQ;unfold CB at this;split at this
  ·rename_i bz;have:=zl h.masks ai aj hi this;simp[eX,bz,this]
  rename_i bz;cases Cg:bR.getD j false with
  | false=>simp[eX,Cg,bz]
  | true=>have:=DM h.masks ai aj j Cg this;rw[fO]at this;cases this
theorem IT(bz:i<bR.size)(j:Nat):eX (bR.setIfInBounds i true) j=(if j=i then true else eX bR j):=by
 unfold eX;split
 ·rename_i h;subst h;simp[bz]
 rename_i h;rw[getD_set_ne false (Ne.symm h)]
theorem oY.fo(h:oY P ops bs env0 es ms)(bz:i<bR.size)(he:es[i]?=some e){t:Nat}(bQ:e.gh t=none)(p:aJ):
  gL (eX (bR.setIfInBounds i true)) t 0 es p=gL (eX bR) t 0 es p:=by
 refine zM fun j wj a6 yY=>?_
 rw[dg,IT bz,bh];rintro rfl;rw[he]at a6;cases a6;exact yY bQ
theorem oY.last(h:oY P ops bs env0 es ms)(ai:pQ ops bR)(aj:bR.size=ops.size)(hi:i∈Region.ready .any ops bR){o:Oper}(aZ:ops[i]?=some o)(he:es[i]?=some e)
  {t:Nat} {q:aJ} (bQ:e.gh t=some q) (p:aJ):gL (eX (bR.setIfInBounds i true)) t 0 es p=q:=by
 have bz:i<bR.size:=aj▸(ik.1 aZ).1;have fO:bR.getD i false=false:=by
  have bN:=(mem_ready.1 hi).1;simp[gS bz]at bN ⊢;exact bN
 refine OP he bQ (by rw[dg,IT bz,br rfl]) fun j wj a6 Xu yY=>?_
 rw[dg,IT bz,bh (by omega)];have:=Qm h.ord aZ he Xu (by omega) yY (t:=t) (by
  unfold DN;exact hY _ (Ql (by rw[bQ];simp)))
 unfold CB at this;rw[bh (by omega)]at this;cases Cg:eX bR j with
 | false=>rfl
 | true=>have:=DM h.masks ai aj j Cg this;rw[fO]at this;cases this
theorem oY.step(h:oY P ops bs env0 es ms)(ai:pQ ops bR)(aj:bR.size=ops.size)(hi:i∈Region.ready .any ops bR)(lO:i<es.length){w0:er}{w:World}{a:Act}
  (aA:Rel w0 (eS env0 bs (eX bR) es) a w) {Q:Exit->Act->World->Prop} {K:Act->World->Prop} (gp:∀cz aN,Rel w0 (eS env0 bs (eX (bR.setIfInBounds i true)) es) cz aN->K cz aN):wpOp P ops Q i K a w:=by
 obtain⟨bN,o,aZ,aua⟩:=mem_ready.1 hi;obtain⟨e,he,bT⟩:=h.facts i o lO aZ;have bz:i<bR.size:=aj▸(ik.1 aZ).1;have X6:=fun t bQ=>h.same ai aj hi aZ he (t:=t) bQ
 have yQ:∀t∈reads ops o,(eS env0 bs (fun j=>decide (j<i)) es).env.getD t .cq=(eS env0 bs (eX bR) es).env.getD t .cq:=fun t bQ=>(X6 t (iD _ bQ)).symm
 unfold wpOp;rw[aZ];simp only;rcases bT with⟨st1,eO,cC,hw,d,aD,rfl⟩ | ⟨st1,eO,cC,hw,ans,bE,g,cd,obs,ek,Gt,Cb⟩ | ⟨st1,eO,cC,hw,ans,cd,obs,GD,Gt⟩
 rotate_left 2
 ·have y5:=IS hw (bp:=eS env0 bs (eX bR) es) yQ;obtain⟨nv,_⟩:=vE y5 trivial aA;rw[br nv];left;have Nn:∀x∈o.op.operands.toList,(eS env0 bs (eX bR) es).bi x=aI.bi ⟨(eS env0 bs (fun j=>decide (j<i)) es).env,bs⟩ x:=fun x ag=>M3 fun t bQ=>(yQ t (by
   unfold reads;exact hY _ (List.mem_filterMap.2 ⟨x,ag,bQ⟩))).symm
  have F7:tS P (eS env0 bs (eX bR) es) o ans=some (e,cd,obs):=by
   rw[<-GD];exact alk rfl Nn
  obtain⟨v,d,x,y,t,Xo,aD,rB,wA,mw,ag,nu⟩:=Qo F7;have Xp:qM ⟨(eS env0 bs (fun j=>decide (j<i)) es).env,bs⟩ o=some v:=by
   rw[<-Xo];exact (Qp (st:=eS env0 bs (eX bR) es) (bp:=⟨(eS env0 bs (fun j=>decide (j<i)) es).env,bs⟩) rfl Nn).symm
  obtain⟨W7,W8,No⟩:=h.aO i o v lO aZ Xp;have fO:bR.getD i false=false:=by
   simp[gS bz]at bN ⊢;exact bN
  have qj:∀q∈(eS env0 bs (eX bR) es).env,q.kH v.ma:=by
   intro q aE;simp only[eS]at aE;rw[k5]at aE;obtain⟨⟨kx,n⟩,hm,rfl⟩:=aE;have lQ:kx∈env0:=by
    rw[List.mem_zipIdx_iff_getElem?]at hm;exact fl hm
   simp only;rcases IQ (L:=eX bR) (t:=n) (es:=es) (k:=0) (acc:=kx) with⟨h1,_⟩ | h1 | ⟨j,wj,h1,U,_,aH,_⟩
   ·rw[h1];exact W7 _ lQ
   ·rw[h1];exact⟨rfl,fun a ah=>by simp[aB.idx]at ah⟩
   rw[aH];refine W8 j wj h1 ?_;rintro rfl;rw[dg]at U;unfold eX at U;rw[fO]at U;cases U
  have XH:(eS env0 bs (eX bR) es).map (gM v.t v.i v.j v.k v.es v.kT v.esT)=eS env0 bs (eX bR) es:=by
   have e1:(eS env0 bs (eX bR) es).env.map (aJ.map (gM v.t v.i v.j v.k v.es v.kT v.esT))=(eS env0 bs (eX bR) es).env:=by
    conv=>rhs;rw[<-q5 (eS env0 bs (eX bR) es).env]
    exact kE fun q aE=>aln (qj q aE)
   have e2:bs.map (fun x=>(x.1,x.2.map (gM v.t v.i v.j v.k v.es v.kT v.esT)))=bs:=by
    conv=>rhs;rw[<-q5 bs]
    refine kE fun x ag=>?_
    obtain⟨mQ,jv⟩:=x;simp only[id]
    congr 1
    conv=>rhs;rw[<-q5 jv]
    exact kE fun l al=>(No _ ag l al).1
   unfold aI.map;rw[e1];show aI.mk _ (bs.map _)=_;rw[e2];rfl
  have oj:∀a∈(eS env0 bs (eX bR) es).idx v.t v.j,a=v.i:=by
   intro cz ah;unfold aI.idx at ah;rcases lB.1 ah with ah | ah
   ·obtain⟨q,aE,ah⟩:=mS.1 ah;exact alm (qj q aE) cz ah
   obtain⟨z,bf,ah⟩:=mS.1 ah;obtain⟨l,al,ah⟩:=mS.1 ah;exact (No z bf l al).2 cz ah
  obtain⟨ω,τ,eI⟩:=aA;obtain⟨z,aN,h1,U⟩:=eI.sC (P:=P) (d:=d) (ty:=o.type) (kT:=v.kT) (x:=x) (y:=y) (aJ.dB ag (eI.bi x)) wA Gt (alh eI nu) oj;rw[XH]at U;obtain⟨dst,op,type,pos,after,guard⟩:=o;simp only at aD rB;subst aD;subst rB;refine Calls.of (z:=z) (aN:=aN) ?_ (gp _ _ ?_)
  ·have:(execOp a.eval ⟨some d,.call ⟨.builtin .append,⟨[x,y]⟩,⟨[t,t]⟩⟩,type,pos,after,guard⟩)=(builtin .append ⟨[t,t]⟩ type (Array.map (fun | .const _=>true | _=>false) ⟨[x,y]⟩) (Array.map a.eval ⟨[x,y]⟩)):=by
    simp only[execOp,resolve];rfl
   rw[this];exact iB (by simpa using h1)
  refine U.weaken (by simp[xk]) rfl ?_;intro n p hp;right;rw[pP,b1]at hp;obtain⟨kx,lQ,rfl⟩:=hp;rw[jR];have qh:e.dst=some d:=by rw[mw]
  have sW:e.use=[]:=by rw[mw]
  by_cases mv:d=n
  ·subst mv;have:d<env0.length:=(eh.1 lQ).1;rw[br rfl,br (by simp[xk,this]),h.last ai aj hi aZ he (q:=e.p) (by simp[dk.gh,qh])]
  rw[bh mv,pP,lQ,l',h.fo bz he (by simp[dk.gh,qh,mv,sW])]
 ·have y5:=IS hw (bp:=eS env0 bs (eX bR) es) yQ;obtain⟨nv,_⟩:=vE y5 trivial aA;rw[bh (by rw[nv];simp)];refine gp _ _ ((Ju aA).weaken ?_ ?_ ?_)
  ·simp[xk,zL,aD]
  ·simp[eS,zL,aD]
  intro t p hp;rw[pP,b1]at hp;obtain⟨kx,lQ,rfl⟩:=hp;right;simp only[zL,aD];rw[jR];by_cases mv:d=t
  ·subst mv;have:d<env0.length:=(eh.1 lQ).1;rw[br rfl,br (by rw[xk];exact this),h.last ai aj hi aZ he (q:=.one (.v undef)) (by simp[dk.gh,xl])]
  rw[bh mv,pP,lQ,l',h.fo bz he (by simp[dk.gh,xl,mv])]
 have y5:=IS hw (bp:=eS env0 bs (eX bR) es) yQ;obtain⟨nv,_⟩:=vE y5 trivial aA;rw[br nv];left;have F7:rf P (eS env0 bs (eX bR) es) o ans=some (bE,g,cd,obs):=by
  rw[<-ek];refine ali rfl fun x ag=>M3 fun t bQ=>(yQ t ?_).symm
  unfold reads;exact hY _ (List.mem_filterMap.2 ⟨x,ag,bQ⟩)
 obtain⟨au,d,Ga,rB⟩:=ON F7;obtain⟨u,Cb⟩:=Cb;have wJ:e.mN=bE.mN/\e.dst=bE.dst:=by
  rcases Cb with rfl | ⟨c,b,_,_,rfl⟩
  ·exact⟨rfl,rfl⟩
  exact⟨rfl,rfl⟩
 obtain⟨wJ,W4⟩:=wJ;rw[<-wJ]at au;obtain⟨Yb,Yc,Yd⟩:=alj h.tok he;have WJ:((eS env0 bs (eX bR) es).map (aB.ci g fun _=>true)).boxes=bs:=by
  simp only[aI.map,eS]
  conv=>rhs;rw[<-q5 bs]
  refine kE fun x ag=>?_
  obtain⟨mQ,jv⟩:=x;simp only[id,OH au (Yd _ ag)]
 refine ak9 rB Gt aA fun cz aN dX=>gp _ _ ?_
 rw[WJ]at dX;have kN:Rel w0 ⟨((eS env0 bs (eX bR) es).map (aB.ci g fun _=>true)).env.set d e.p,bs⟩ cz aN:=by
  rcases Cb with rfl | ⟨c,b,hp,fM,rfl⟩
  ·exact dX
  rw[hp]at dX;subst fM;exact dX.bool
 refine kN.weaken (by simp[xk,aI.map]) rfl ?_;intro t p hp;rw[pP,b1]at hp;obtain⟨kx,lQ,rfl⟩:=hp;rw[jR];have qh:e.dst=some d:=W4.trans Ga;by_cases mv:d=t
 ·subst mv;right;have:d<env0.length:=(eh.1 lQ).1;rw[br rfl,br (by simp[aI.map,xk,this]),h.last ai aj hi aZ he (q:=e.p) (by simp[dk.gh,qh])]
 rw[bh mv];by_cases Cp:t∈e.use
 ·left;exact h.last ai aj hi aZ he (by simp[dk.gh,qh,mv,Cp]) kx
 have Gm:=h.fo bz he (t:=t) (by simp[dk.gh,qh,mv,Cp]) kx;rw[Gm];have XJ:gL (eX bR) t 0 es kx=.cq\/(gL (eX bR) t 0 es kx).ez e.mN=false:=by
  rcases IQ (L:=eX bR) (t:=t) (es:=es) (k:=0) (acc:=kx) with⟨h1,h8⟩ | h1 | ⟨j,wj,h1,U,aw,aH,h8⟩
  ·right;rw[h1];rcases Yc t kx lQ with (aU | aU) | aU
   rotate_left 2
   ·rw[qh]at aU;exact absurd (eN aU) mv
   ·exact aU.resolve_right Cp
   ·obtain⟨m,y,c6,hm,_,ah,hu,bQ⟩:=Qk aU;cases bQ;have:=h8 m y hm (by rw[dg];exact zl h.masks ai aj hi ah);unfold dk.gh at this;rw[br hu]at this;split at this<;>cases this
  ·exact .inl h1
  right;rw[aH];rw[dg]at U;have fO:bR.getD i false=false:=by
   simp[gS bz]at bN ⊢;exact bN
  have nt:j≠i:=by rintro rfl;unfold eX at U;rw[fO]at U;cases U
  rcases Yb j wj h1 nt with aU | aU | aU | aU | aU
  rotate_left 3
  ·rw[aw,qh]at aU;exact absurd (eN aU).symm mv
  ·obtain⟨m,y,c6,hm,NA,ah,hu,bQ⟩:=Qk aU;rw[aw]at bQ;cases bQ;have:=h8 m y hm (by omega) (by rw[dg];exact zl h.masks ai aj hi ah);unfold dk.gh at this;rw[br hu]at this;split at this<;>cases this
  ·have:=DM h.masks ai aj j U aU;rw[fO]at this;cases this
  ·exact aU
  obtain⟨c6,bA,bP⟩:=aU;rw[aw]at bA;cases bA;exact absurd bP Cp
 rcases XJ with h1 | h1
 ·exact .inl h1
 right;simp only[aI.map,dj];rw[pP,lQ];simp only[l',aJ.vN au h1]
def IU(ops:Array Oper)(ms:List Nat)(k:Nat):Prop:=∀i,k<=i->i<ops.size->∀j,j<i->lH ms j i=true
theorem oY.any(h:oY P ops bs env0 es ms)(ar:IU ops ms es.length){w0:er}{Q:Exit->Act->World->Prop}
  (iI:∀(gZ:Nat) {bR:Array Bool},pQ ops bR->bR.size=ops.size->(∀j,j<es.length->bR.getD j false=true)->(∀j,es.length<=j->bR.getD j false=false)->bR.count false<=gZ->
   ∀{a:Act} {w:World},Rel w0 (eS env0 bs (fun j=>decide (j<es.length)) es) a w->wpAny P .any ops Q gZ bR a w):
  ∀(gZ:Nat) {bR:Array Bool},pQ ops bR->bR.size=ops.size->(∀j,es.length<=j->bR.getD j false=false)->bR.count false<=gZ->
  ∀{a:Act} {w:World},Rel w0 (eS env0 bs (eX bR) es) a w->wpAny P .any ops Q gZ bR a w:=by
 intro gZ;induction gZ with
 | zero=>
  intro bR ai aj fO rr a w aA;by_cases hA:∀j,j<es.length->bR.getD j false=true
  ·refine iI 0 ai aj hA fO rr ?_;have:eS env0 bs (eX bR) es=eS env0 bs (fun j=>decide (j<es.length)) es:=by
    unfold eS
    congr 1
    refine kE fun x _=>?_
    refine zM fun j e a6 _=>?_
    have bz:j<es.length:=(eh.1 a6).1;rw[dg];simp only[eX,hA j bz,bz,decide_true]
   rwa[<-this]
  exfalso;apply hA;intro j a6;have bz:j<bR.size:=aj▸xW a6 h.len;cases bT:bR[j] with
  | true=>simp[gS bz,bT]
  | false=>
   have:0<bR.count false:=by
    rw[Array.count_pos_iff];exact bT▸Array.getElem_mem bz
   omega
 | succ gZ dP=>
  intro bR ai aj fO rr a w aA;by_cases hA:∀j,j<es.length->bR.getD j false=true
  ·refine iI _ ai aj hA fO rr ?_;have:eS env0 bs (eX bR) es=eS env0 bs (fun j=>decide (j<es.length)) es:=by
    unfold eS
    congr 1
    refine kE fun x _=>?_
    refine zM fun j e a6 _=>?_
    have bz:j<es.length:=(eh.1 a6).1;rw[dg];simp only[eX,hA j bz,bz,decide_true]
   rwa[<-this]
  refine⟨fun uP=>absurd (fun j a6=>IM h.masks aj uP j (xW a6 h.len)) hA,fun i hi=>?_⟩;have lO:i<es.length:=by
   rcases n4 i es.length with h1 | h1
   ·exact h1
   exfalso;obtain⟨_,o,aZ,_⟩:=mem_ready.1 hi;have bz:i<ops.size:=(ik.1 aZ).1;exact hA fun j a6=>zl h.masks ai aj hi (ar i h1 bz j (xW a6 h1))
  refine h.step ai aj hi lO aA fun cz aN dX=>dP (ai.ready hi) (by simpa using aj) (fun j a6=>?_) ?_ dX
  ·rw[getD_set_ne false (by omega)];exact fO j a6
  obtain⟨h1,o,aZ,_⟩:=mem_ready.1 hi;have bz:i<bR.size:=aj▸(ik.1 aZ).1;have bT:bR[i]=false:=by simpa[gS bz]using h1
  have:(bR.setIfInBounds i true).count false=bR.count false-1:=by
   have e:bR.setIfInBounds i true=bR.set i true bz:=by unfold Array.setIfInBounds;rw[dif_pos bz]
   rw[e,Array.count_set];simp[bT]
  omega
end
def xn(P:Program)(ops:Array Oper):List Oper->aI->List b9->Stepped
 | [],st,ans=>some (st,ans,[])
 | o::rest,st,ans=>
  match pI P ops o st ans with
  | some (st1,e7,fC)=>(xn P ops rest st1 e7).map fun r=>(r.1,r.2.1,fC++r.2.2)
  | none=>none
theorem Qq{Q:Exit->Act->World->Prop}(hi:ops[i]?=some o)(h:pI P ops o st ans=some (bp,cd,obs))(aZ:cG obs)
  {a:Act} {w:World} (aV:Rel w0 st a w) {K:Act->World->Prop} (gp:∀cz aN,Rel w0 bp cz aN->K cz aN):wpOp P ops Q i K a w:=by
 unfold wpOp;rw[hi];simp only;unfold pI at h;split at h
 ·rename_i st1 e7 fC hw;rw[b1]at h;obtain⟨⟨bM,b2,cj⟩,h1,h⟩:=h;simp only[bx]at h;obtain⟨rfl,rfl,rfl⟩:=h;obtain⟨cC,cc⟩:=aZ.append;obtain⟨nv,eI⟩:=vE hw cC aV;rw[br nv];exact .inl (Jt h1 cc eI fun cz aN dX=>gp _ _ dX)
 ·rename_i st1 e7 fC hw;simp only[aR,bx]at h;obtain⟨rfl,rfl,rfl⟩:=h;obtain⟨nv,eI⟩:=vE hw aZ aV;rw[bh (by rw[nv];simp)];exact gp _ _ (Ju eI)
 cases h
theorem alo(hm:qN ms ops.toList=true)(ar:IU ops ms k){Q:Exit->Act->World->Prop}:∀(gZ n:Nat) {bR:Array Bool},k<=n->n<=ops.size->
  pQ ops bR->bR.size=ops.size->(∀j,j<n->bR.getD j false=true)->(∀j,n<=j->bR.getD j false=false)->bR.count false<=gZ->
  ∀{st bp:aI} {ans cd:List b9} {obs:List Prop},xn P ops (ops.toList.drop n) st ans=some (bp,cd,obs)->cG obs->
  ∀{a:Act} {w:World},Rel w0 st a w->(∀cz aN,Rel w0 bp cz aN->Q .normal cz aN)->wpAny P .any ops Q gZ bR a w:=by
 have fin:∀{bR:Array Bool} {n:Nat},n=ops.size->bR.size=ops.size->(∀j,j<n->bR.getD j false=true)->Region.ready .any ops bR=[]:=by
  intro bR n aW aj h1;rw[List.eq_nil_iff_forall_not_mem];intro j a6;obtain⟨U,o,aZ,_⟩:=mem_ready.1 a6;have bz:j<ops.size:=(ik.1 aZ).1;have aw:=h1 j (aW▸bz);have h6:j<bR.size:=aj▸bz;simp[gS h6]at U aw;rw[U]at aw;cases aw
 intro gZ;induction gZ with
 | zero=>
  intro n bR Xw aW ai aj h1 U rr st bp ans cd obs h aZ a w aA iI;have yN:n=ops.size:=by
   rcases n4 n ops.size with bz | lN
   ·have h6:n<bR.size:=aj▸bz;have bT:bR[n]=false:=by simpa[gS h6]using U n (fk _)
    have:0<bR.count false:=by
     rw[Array.count_pos_iff];exact bT▸Array.getElem_mem h6
    omega
   omega
  rw[List.drop_eq_nil_of_le (by simp[yN])]at h;simp only[xn,aR,bx]at h;obtain⟨rfl,_,_⟩:=h;exact⟨fin yN aj h1,iI _ _ aA⟩
 | succ gZ dP=>
  intro n bR Xw aW ai aj h1 U rr st bp ans cd obs h aZ a w aA iI;rcases n4 n ops.size with bz | lN
  ·have h6:n<bR.size:=aj▸bz;have aD:ops.toList.drop n=ops[n]::ops.toList.drop (n+1):=by
    rw[List.drop_eq_getElem_cons (by simpa using bz)];simp
   rw[aD]at h;simp only[xn]at h;split at h
   ·rename_i st1 e7 fC aw;rw[b1]at h;obtain⟨⟨bM,b2,cj⟩,aH,h⟩:=h;simp only[bx]at h;obtain⟨rfl,rfl,rfl⟩:=h;obtain⟨cC,cc⟩:=aZ.append;refine⟨fun uP=>?_,fun i hi=>?_⟩
    ·exfalso;have:=IM hm aj uP n bz;rw[U n (fk _)]at this;cases this
    have nr:i=n:=by
     obtain⟨aU,o,kg,_⟩:=mem_ready.1 hi;have wG:i<ops.size:=(ik.1 kg).1;have jZ:i<bR.size:=aj▸wG;rcases Nat.lt_trichotomy i n with bA | bA | bA
     ·have bP:=h1 i bA;simp[gS jZ]at aU bP;rw[aU]at bP;cases bP
     ·exact bA
     have:=zl hm ai aj hi (ar i (by omega) wG n bA);rw[U n (fk _)]at this;cases this
    subst nr;refine Qq (gS bz) aw cC aA fun cz aN dX=>dP (i+1) (by omega) (by omega) (ai.ready hi) (by simpa using aj) (fun j a6=>?_) (fun j a6=>?_) ?_ aH cc dX iI
    ·by_cases nt:j=i
     ·subst nt;have bf:j<(bR.setIfInBounds j true).size:=by simpa using h6
      simp[gS bf]
     rw[getD_set_ne false (Ne.symm nt)];exact h1 j (by omega)
    ·rw[getD_set_ne false (by omega)];exact U j (by omega)
    have bT:bR[i]=false:=by simpa[gS h6]using U i (fk _)
    have:(bR.setIfInBounds i true).count false=bR.count false-1:=by
     have e:bR.setIfInBounds i true=bR.set i true h6:=by unfold Array.setIfInBounds;rw[dif_pos h6]
     rw[e,Array.count_set];simp[bT]
    omega
   cases h
  have yN:n=ops.size:=by omega
  rw[List.drop_eq_nil_of_le (by simp[yN])]at h;simp only[xn,aR,bx]at h;obtain⟨rfl,_,_⟩:=h;have uP:=fin yN aj h1;refine⟨fun _=>iI _ _ aA,fun i hi=>?_⟩;rw[uP]at hi;cases hi
def sn(ms:List Nat):Nat->Nat
 | 0=>0
 | i+1=>if ms.getD i 0==2 ^ i-1 then sn ms i else i+1
theorem Qr(ms:List Nat):∀n,sn ms n<=n
 | 0=>fk _
 | n+1=>by
  unfold sn;split
  ·exact sv (Qr ms n) (Nat.le_succ n)
  exact fk _
theorem Qs(ms:List Nat):∀n i,sn ms n<=i->i<n->∀j,j<i->lH ms j i=true
 | 0,_,_,h,_,_=>absurd h (Nat.not_lt_zero _)
 | n+1,i,h1,U,j,a6=>by
  unfold sn at h1;split at h1
  ·rename_i he;by_cases nr:i=n
   ·subst nr;unfold lH;rw[eq_of_beq he,Nat.testBit_two_pow_sub_one,j' a6]
   exact Qs ms n i h1 (by omega) j a6
  omega
theorem Sat.drew{ω:Own}{τ:Nat->Nat×Value}{l:aB}{y:Value}(h:Sat w ω τ l y):Sat w.drew ω τ l y:=by
 have bT:∀{R:List (Nat×Nat)->cV->Prop} {d:D} {y:Value},bV w ω R d y->bV w.drew ω R d y:=fun h=>h.frame fun _ _ _ aE=>⟨aE,rfl⟩
 cases l with
 | J t k es=>exact⟨bT h.1,h.2⟩
 | cE t k es i j=>
  obtain⟨b,off,cap,h1,U,aw,aH⟩:=h;exact⟨b,off,cap,h1,U,bT aw,aH⟩
 | hF ds off=>
  obtain⟨b,h1,U⟩:=h;exact⟨b,h1,bT U⟩
 | fd d=>exact bT h
 | de t k es=>exact⟨bT h.1,h.2⟩
 | aO t i j k es m=>
  obtain⟨u,hu,h1,hm⟩:=h;exact⟨u,hu,bT h1,hm⟩
 | fa t vs=>
  obtain⟨b,ty,arr,h1,U,aw,aW,bt⟩:=h;refine⟨b,ty,arr,h1,U,aw,aW,fun j c ai=>?_⟩;obtain⟨u,fG,eV⟩:=bt j c ai;refine⟨u,fG,?_⟩;cases c with
  | cq=>exact trivial
  | v x=>exact eV
  | J t k es=>exact⟨bT eV.1,eV.2⟩
 | _=>exact h
theorem Rel.drew(h:Rel w0 st a w):Rel w0 st a w.drew:=by
 obtain⟨ω,τ,h⟩:=h;have hi:∀p:aJ,p.map _root_.id=p:=by
  intro p;cases p with
  | aK a=>cases a<;>simp[aJ.map,bu.map]
  | fJ as=>
   simp only[aJ.map]
   congr 1
   have:bu.map _root_.id=_root_.id:=by funext a;cases a<;>simp[bu.map]
   rw[this];simp
 refine⟨ω,τ,h.defers,h.size,h.below.next (gk.refl _ _).drew,h.owned,h.fixed,h.pinned,fun i p hp=>?_,fun id ls al=>?_⟩
 ·obtain⟨v,h1,U⟩:=h.env i p hp;have:=cL.map (kb:=Sat w.drew ω τ) (f:=_root_.id) (fun l v aj=>Sat.drew aj) U;rw[hi]at this;exact⟨v,h1,this⟩
 obtain⟨b,arr,ty,h1,U,aw,aH⟩:=h.boxes id ls al;have:=jW.map (kb:=Sat w.drew ω τ) (f:=_root_.id) (fun l v aj=>Sat.drew aj) aH;rw[q5]at this;exact⟨b,arr,ty,h1,U,aw,this⟩
def DP:Nat->List aJ->List Nat
 | _,[]=>[]
 | i,p::r=>match p.leaf with | some (.fa t _)=>if t=i then i::DP (i+1) r else DP (i+1) r | _=>DP (i+1) r
def xo(env:List aJ):List Oper->List Nat
 | []=>[]
 | o::r=>
  match o.dst,o.op with
  | none,.store _ (.tmp s) _=>
   match (env.getD s .cq).leaf with
   | some (.ptr d 0)=>if d=s/\s<c7/\!(xo env r).contains s then s::xo env r else xo env r
   | _=>xo env r
  | _,_=>xo env r
def alp(env0:List aJ)(bs:List (Nat×List aB))(es:List dk)(i:Nat):List aB:=
 env0.flatMap aJ.s3++(bs.flatMap (·.2)++(es.zipIdx.filter fun x=>x.2 != i).flatMap fun x=>x.1.p.s3)
def IV(P:Program)(ops:Array Oper)(st:aI)(ans:List b9):Stepped:=
 let gs:=ops.toList.filterMap (JA ops)
 let ms:=qw ops.toList []
 let k:=sn ms ops.size
 match zH (xo st.env (ops.toList.take k)) st with
 | some ft=>
  match tp P ops gs ft.boxes (ops.toList.take k) ft.env ans with
  | some (es,sJ,e7,fC)=>
   if P.follows .mixedOrders&&qN ms ops.toList&&IN ops ms es&&IP ms es ft.env ft.boxes then
    match zI (DP 0 sJ) ⟨sJ,ft.boxes⟩,xK ft.boxes (alp ft.env ft.boxes es) 0 (ops.toList.take k) ft.env es with
    | some st2,some wT=>(xn P ops (ops.toList.drop k) st2 e7).map fun r=>(r.1,r.2.1,fC++(wT++r.2.2))
    | _,_=>none
   else none
  | none=>none
 | none=>none
theorem alq(h:IV P ops st ans=some (bp,cd,obs))(aZ:cG obs)(aA:Rel w0 st a w){id:Nat}
  {Q:Exit->Act->World->Prop} (iI:∀cz aN,Rel w0 bp cz aN->Q .normal cz aN):(Code.region id ops true).wp P Q a w:=by
 unfold IV at h;simp only at h;split at h
 case h_2=>cases h
 rename_i ft NU;replace aA:=O1 aA NU;clear NU;revert aA h;generalize ft=st;intro h aA;split at h
 ·rename_i es sJ e7 fC eQ;split at h
  ·rename_i ai;split at h
   rotate_left
   ·cases h
   rename_i st2 wT Gp X8;rw[b1]at h;obtain⟨⟨bM,b2,cj⟩,X',h⟩:=h;simp only[bx]at h;obtain⟨rfl,rfl,rfl⟩:=h;obtain⟨Gq,Gr⟩:=aZ.append;obtain⟨XR,Gr⟩:=Gr.append;simp only[cx]at ai;obtain⟨⟨⟨hm,NC⟩,XU⟩,jH⟩:=ai;have auk:=Qr (qw ops.toList []) ops.size;obtain⟨hlen,yD,Np⟩:=zN eQ Gq;have XA:es.length=sn (qw ops.toList []) ops.size:=by
    rw[hlen,oV,uc];omega
   have NV:∀(i:Nat),i<es.length->(ops.toList.take (sn (qw ops.toList []) ops.size))[i]?=ops[i]?:=by
    intro i hi;rw[hh,br (by omega),iC]
   have aD:∀(i:Nat) (e:dk),es[i]?=some e->e.dst≠none:=by
    intro i e hi;have bz:i<(ops.toList.take (sn (qw ops.toList []) ops.size)).length:=hlen▸(eh.1 hi).1;obtain⟨e',h1,U⟩:=Np i _ (gU bz);rw[hi]at h1;cases h1;exact U.dst
   have FW:oY P ops st.boxes st.env es (qw ops.toList []):=by
    refine⟨by omega,fun i o lO hi=>?_,NC,fun i o v lO hi bt=>?_,XU,jH⟩
    rotate_left
    ·have Cn:=OQ X8 XR i o (by rw[NV i lO];exact hi) lO v (by
      rw[<-DO (bs:=st.boxes) aD i (by omega)]at bt;exact bt)
     rw[dg]at Cn;refine⟨fun q aE=>aJ.ze fun l al=>Cn l ?_,fun j x a6 cB=>aJ.ze fun l al=>Cn l ?_,fun x ag l al=>Cn l ?_⟩
     ·exact hY _ (mS.2 ⟨q,aE,al⟩)
     ·refine iD _ (iD _ (mS.2 ⟨(x,j),List.mem_filter.2 ⟨?_,by simpa using cB⟩,al⟩));rw[List.mem_zipIdx_iff_getElem?];exact a6
     exact iD _ (hY _ (mS.2 ⟨x,ag,al⟩))
    obtain⟨e,h1,U⟩:=Np i o (by rw[NV i lO];exact hi);refine⟨e,h1,?_⟩;rwa[DO (bs:=st.boxes) aD i (by omega)]at U
   have wy:IU ops (qw ops.toList []) es.length:=fun i h1 U j a6=>Qs _ _ i (by omega) U j a6
   refine wp_region_any hm (FW.any wy (w0:=w0) ?_ ops.size ?_ (by simp) ?_ ?_ ?_)
   ·intro gZ bR np aj jE cZ rr cz aN dX;refine alo NC wy gZ es.length (fk _) (by omega) np aj jE cZ rr (st:=st2) (by rw[XA];exact X') Gr (O2 ?_ Gp) iI;have:=DO (env0:=st.env) (bs:=st.boxes) aD es.length (fk _);rw[k3,<-yD]at this;rw[this];exact dX
   ·intro j o a6;have:=DL a6;simp at this;simp[this]at a6
   ·intro j _;by_cases a6:j<ops.size
    ·simp[a6]
    simp[a6]
   ·simp[Array.count_replicate]
   have:eS st.env st.boxes (eX (Array.replicate ops.size false)) es=st:=by
    have h8:∀(es:List dk) (t k:Nat) (acc:aJ),gL (eX (Array.replicate ops.size false)) t k es acc=acc:=by
     intro es;induction es with
     | nil=>intro t k acc;rfl
     | cons e1 es dP=>
      intro t k acc;simp only[gL];rw[bh,dP];unfold eX;intro ai;have:=DL ai;simp at this;simp[this]at ai
    obtain⟨env,bs⟩:=st;unfold eS
    congr 1
    simp only[h8];apply List.ext_getElem?;intro t;simp
   rw[this];exact aA.drew
  cases h
 cases h
end Go.Sx
namespace Go.Sx
open Go.RowKit
def ei(P:Program)(ops:Array Oper)(st bp:aI):Prop:=
 ∀(w0:er) (a:Act) (w:World) (id:Nat) (Q:Exit->Act->World->Prop),Rel w0 st a w->(∀cz aN,Rel w0 bp cz aN->Q .normal cz aN)->(Code.region id ops true).wp P Q a w
def DQ(o:Oper)(m:Nat):Bool:=o.after.toList.all fun e=>!Region.binds .any e||m.testBit e.on
def pG(m:Nat):Nat->List Oper->List (Nat×Oper)
 | _,[]=>[]
 | i,o::r=>if !m.testBit i&&DQ o m then (i,o)::pG m (i+1) r else pG m (i+1) r
def runM(P:Program)(ops:Array Oper)(A:List (List b9))(m:Nat):Nat->List Oper->aI->aI
 | _,[],st=>st
 | i,o::r,st=>if m.testBit i then (match pI P ops o st (A.getD i []) with | some x=>runM P ops A m (i+1) r x.1 | none=>st) else runM P ops A m (i+1) r st
def x'(x:Nat)(l:List Nat):List Nat:=if l.any (Nat.beq x) then l else x::l
def zf:Nat->List (Nat×Oper)->List Nat->List Nat
 | _,[],l=>l
 | m,x::r,l=>x' (m ||| 2 ^ x.1) (zf m r l)
def zh(ops:List Oper):List Nat->List Nat
 | []=>[]
 | m::r=>zf m (pG m 0 ops) (zh ops r)
abbrev wa:=Option (aI×List b9×List Prop)
def BX(P:Program)(ops:Array Oper)(A:List (List b9))(st:aI):List (Nat×Oper)->List wa
 | []=>[]
 | x::r=>pI P ops x.2 st (A.getD x.1 [])::BX P ops A st r
def BZ(P:Program)(ops:Array Oper)(A:List (List b9))(O:List (List Prop))(ft:aI)(m:Nat):List (Nat×Oper)->List wa
 | []=>[]
 | x::r=>some (runM P ops A (m ||| 2 ^ x.1) 0 ops.toList ft,[],O.getD x.1 [])::BZ P ops A O ft m r
def BY(P:Program)(ops:Array Oper)(A:List (List b9))(ft:aI):List Nat->List (List wa)
 | []=>[]
 | m::r=>BX P ops A (runM P ops A m 0 ops.toList ft) (pG m 0 ops.toList)::BY P ops A ft r
def B0(P:Program)(ops:Array Oper)(A:List (List b9))(O:List (List Prop))(ft:aI):List Nat->List (List wa)
 | []=>[]
 | m::r=>BZ P ops A O ft m (pG m 0 ops.toList)::B0 P ops A O ft r
def yd(P:Program)(ops:Array Oper)(A:List (List b9))(ft:aI):Nat->List Nat->List (List (List wa))
 | 0,_=>[]
 | n+1,l=>BY P ops A ft l::yd P ops A ft n (zh ops.toList l)
def ye(P:Program)(ops:Array Oper)(A:List (List b9))(O:List (List Prop))(ft:aI):Nat->List Nat->List (List (List wa))
 | 0,_=>[]
 | n+1,l=>B0 P ops A O ft l::ye P ops A O ft n (zh ops.toList l)
variable{P:Program}{ops:Array Oper}{A:List (List b9)}{O:List (List Prop)}{ft st:aI}{m:Nat}
theorem Qt:∀{l:List (Nat×Oper)},BX P ops A st l=BZ P ops A O ft m l->
  ∀x∈l,pI P ops x.2 st (A.getD x.1 [])=some (runM P ops A (m ||| 2 ^ x.1) 0 ops.toList ft,[],O.getD x.1 [])
 | [],_,x,ag=>by cases ag
 | y::r,h,x,ag=>by
  simp only[BX,BZ,q4]at h;rcases eu.1 ag with rfl | ag
  ·exact h.1
  exact Qt h.2 x ag
theorem Qu:∀{l:List Nat},BY P ops A ft l=B0 P ops A O ft l->
  ∀m∈l,∀x∈pG m 0 ops.toList,pI P ops x.2 (runM P ops A m 0 ops.toList ft) (A.getD x.1 [])=some (runM P ops A (m ||| 2 ^ x.1) 0 ops.toList ft,[],O.getD x.1 [])
 | [],_,m,hm=>by cases hm
 | m0::r,h,m,hm=>by
  simp only[BY,B0,q4]at h;rcases eu.1 hm with rfl | hm
  ·exact Qt h.1
  exact Qu h.2 m hm
theorem alr{x:Nat}{l:List Nat}:x∈x' x l:=by
 unfold x';split
 ·rename_i h;obtain⟨y,bl,he⟩:=oX.1 h;rwa[Nat.eq_of_beq_eq_true he]
 exact gT
theorem Qv{x y:Nat}{l:List Nat}(h:y∈l):y∈x' x l:=by
 unfold x';split
 ·exact h
 exact hy _ h
theorem Qw{x:Nat×Oper}:∀{r:List (Nat×Oper)} {l:List Nat},x∈r->(m ||| 2 ^ x.1)∈zf m r l
 | [],_,h=>by cases h
 | y::r,l,h=>by
  simp only[zf];rcases eu.1 h with rfl | h
  ·exact alr
  exact Qv (Qw h)
theorem Qx{k:Nat}:∀{r:List (Nat×Oper)} {l:List Nat},k∈l->k∈zf m r l
 | [],_,h=>h
 | _::_,_,h=>Qv (Qx h)
theorem Qy{ops:List Oper}{x:Nat×Oper}:∀{l:List Nat},m∈l->x∈pG m 0 ops->(m ||| 2 ^ x.1)∈zh ops l
 | [],h,_=>by cases h
 | k::r,h,ag=>by
  simp only[zh];rcases eu.1 h with rfl | h
  ·exact Qw ag
  exact Qx (Qy h ag)
theorem Qz{m:Nat}:∀{l:List Oper} {i j:Nat} {o:Oper},l[j]?=some o->m.testBit (i+j)=false->DQ o m=true->(i+j,o)∈pG m i l
 | [],_,_,_,h,_,_=>by simp at h
 | y::r,i,0,o,h,h1,U=>by
  simp only[jS,aR]at h;subst h;simp only[pG];rw[br (by rw[lC]at h1;simp[h1,U])];exact gT
 | y::r,i,j+1,o,h,h1,U=>by
  have:=Qz (m:=m) (l:=r) (i:=i+1) (j:=j) (o:=o) (by simpa using h) (by rwa[show i+1+j=i+(j+1) by omega]) U;rw[show i+1+j=i+(j+1) by omega]at this;simp only[pG];split
  ·exact hy _ this
  exact this
theorem IW{m k:Nat}:∀{l:List Oper} {i:Nat} {st:aI},(∀j,i<=j->j<i+l.length->m.testBit j=k.testBit j)->runM P ops A m i l st=runM P ops A k i l st
 | [],_,_,_=>rfl
 | o::r,i,st,h=>by
  simp only[runM];rw[h i (fk _) (by simp)];split
  ·split
   ·exact IW fun j h1 U=>h j (by omega) (by simp only[dN];omega)
   rfl
  exact IW fun j h1 U=>h j (by omega) (by simp only[dN];omega)
theorem QA:∀{O:List (List Prop)} (i:Nat),cG O.flatten->cG (O.getD i [])
 | [],i,_=>by simp[cG]
 | o::r,0,h=>by
  rw[List.flatten_cons]at h;exact (cG.append h).1
 | o::r,i+1,h=>by
  rw[List.flatten_cons]at h;exact QA i (cG.append h).2
theorem als{ms:List Nat}{w0:er}{Q:Exit->Act->World->Prop}(hm:qN ms ops.toList=true)(aZ:cG O.flatten)
  (iI:∀cz aN,Rel w0 (runM P ops A (2 ^ ops.size-1) 0 ops.toList ft) cz aN->Q .normal cz aN):∀(gZ:Nat) {l:List Nat},yd P ops A ft gZ l=ye P ops A O ft gZ l->
  ∀{m:Nat} {bR:Array Bool},m∈l->bR.size=ops.size->(∀j,j<ops.size->bR.getD j false=m.testBit j)->bR.count false<=gZ->
  ∀{a:Act} {w:World},Rel w0 (runM P ops A m 0 ops.toList ft) a w->wpAny P .any ops Q gZ bR a w:=by
 have fin:∀{m:Nat} {bR:Array Bool},(∀j,j<ops.size->bR.getD j false=m.testBit j)->(∀j,j<ops.size->bR.getD j false=true)->
   ∀{a:Act} {w:World},Rel w0 (runM P ops A m 0 ops.toList ft) a w->Q .normal a w:=by
  intro m bR h1 U a w aA;refine iI a w ?_;rw[IW (m:=2 ^ ops.size-1) (k:=m)]
  ·exact aA
  intro j _ a6;have yG:j<ops.size:=by simpa using a6
  rw[<-h1 j yG,U j yG,Nat.testBit_two_pow_sub_one,j' yG]
 intro gZ;induction gZ with
 | zero=>
  intro l _ m bR _ aj h1 rr a w aA;have hA:∀j,j<ops.size->bR.getD j false=true:=by
   intro j a6;cases al:bR.getD j false with
   | true=>rfl
   | false=>
    exfalso;have h6:j<bR.size:=aj▸a6;have bT:bR[j]=false:=by simpa[gS h6]using al
    have:0<bR.count false:=by
     rw[Array.count_pos_iff];exact bT▸Array.getElem_mem h6
    omega
  refine⟨?_,fin h1 hA aA⟩;rw[List.eq_nil_iff_forall_not_mem];intro j a6;obtain⟨U,o,kg,_⟩:=mem_ready.1 a6;have bz:j<ops.size:=(ik.1 kg).1;have aw:=hA j bz;have h6:j<bR.size:=aj▸bz;simp[gS h6]at U aw;rw[U]at aw;cases aw
 | succ gZ dP=>
  intro l he m bR qm aj h1 rr a w aA;simp only[yd,ye,q4]at he;refine⟨fun uP=>fin h1 (IM hm aj uP) aA,fun i hi=>?_⟩;obtain⟨aU,o,kg,qh⟩:=mem_ready.1 hi;have bz:i<ops.size:=(ik.1 kg).1;have h6:i<bR.size:=aj▸bz;have Nr:bR.getD i false=false:=by
   simp[gS h6]at aU ⊢;exact aU
  have XI:DQ o m=true:=by
   unfold DQ;rw[fA];intro e sP;cases ar:Region.binds .any e with
   | false=>rfl
   | true=>
    have bA:=qh e (by simpa using sP) ar;have bP:e.on<bR.size:=DL bA;rw[h1 e.on (aj▸bP)]at bA;simp[bA]
  have NJ:(i,o)∈pG m 0 ops.toList:=by
   have:=Qz (m:=m) (l:=ops.toList) (i:=0) (j:=i) (o:=o) (by simpa using kg) (by rw[dg,<-h1 i bz,Nr]) XI;rwa[dg]at this
  have pu:=Qu he.1 m qm _ NJ;refine Qq kg pu (QA i aZ) aA fun cz aN dX=>dP he.2 (Qy qm NJ) (by simpa using aj) (fun j a6=>?_) ?_ dX
  ·rw[Nat.testBit_or,Nat.testBit_two_pow];by_cases nt:j=i
   ·subst nt;have bf:j<(bR.setIfInBounds j true).size:=by simpa using h6
    simp[gS bf]
   rw[getD_set_ne false (Ne.symm nt),h1 j a6,lE (Ne.symm nt),Bool.or_false]
  have bT:bR[i]=false:=by simpa[gS h6]using Nr
  have:(bR.setIfInBounds i true).count false=bR.count false-1:=by
   have e:bR.setIfInBounds i true=bR.set i true h6:=by unfold Array.setIfInBounds;rw[dif_pos h6]
   rw[e,Array.count_set];simp[bT]
  omega
theorem ei.of{bp:aI}(A:List (List b9))(O:List (List Prop))(ai:(P.follows .mixedOrders&&qN (qw ops.toList []) ops.toList)=true)
  (he:yd P ops A st ops.size [0]=ye P ops A O st ops.size [0]) (bT:runM P ops A (2 ^ ops.size-1) 0 ops.toList st=bp) (aZ:cG O.flatten):ei P ops st bp:=by
 intro w0 a w id Q aA iI;simp only[cx]at ai;have bf:∀{l:List Oper} {i:Nat},runM P ops A 0 i l st=st:=by
  intro l;induction l with
  | nil=>intro i;rfl
  | cons o r dP=>intro i;simp only[runM,Nat.zero_testBit,oU,lD];exact dP
 refine wp_region_any ai.1 (als ai.2 aZ (fun cz aN h=>iI cz aN (bT▸h)) ops.size he (m:=0) gT (by simp) (fun j a6=>by simp[a6]) (by simp[Array.count_replicate]) ?_);rw[bf];exact aA.drew
def IX(P:Program)(ops:Array Oper)(st:aI)(ans:List b9):Stepped:=
 match ans with
 | .ie bp::r=>some (bp,r,[ei P ops st bp])
 | _=>IV P ops st ans
theorem alu{bp:aI}{ans cd:List b9}{obs:List Prop}(h:IX P ops st ans=some (bp,cd,obs))(aZ:cG obs){w0:er}{a:Act}{w:World}(aA:Rel w0 st a w){id:Nat}
  {Q:Exit->Act->World->Prop} (iI:∀cz aN,Rel w0 bp cz aN->Q .normal cz aN):(Code.region id ops true).wp P Q a w:=by
 unfold IX at h;split at h
 ·simp only[aR,bx]at h;obtain⟨rfl,_,rfl⟩:=h;exact aZ.1 w0 a w id Q aA iI
 exact alq h aZ aA iI
