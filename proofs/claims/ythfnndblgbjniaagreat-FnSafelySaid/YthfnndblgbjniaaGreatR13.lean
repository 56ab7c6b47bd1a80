import Derived.Test.YthfnndblgbjniaaGreatR26
import Derived.Test.YthfnndblgbjniaaGreatR31
import Derived.Orders
set_option linter.unusedVariables false
set_option linter.unusedSimpArgs false
namespace Go.Sx
open Go.RowKit
def ME(P:Program)(st:aD)(d:Option Nat)(f:FuncId)(args:List Operand)(ans:List cf):Stepped:=
 match P.funcs[f]?,args.mapM (fun x=>(st.bt x).kO st.boxes),ans with
 | some fn,some ha,.res rs::r=>
  if (fn.name == "runtime.NumGoroutine") = false /\ fn.body.isNone = false /\ wm rs = true /\ 10000 * (d.getD 0 + 1) + 10000 <= dk then
   let t:=10000*(d.getD 0+1)
   match d with
   | some d=>some (⟨(st.xc t).env.set d (uZ t rs),(st.xc t).boxes⟩,r,[iF P f ha rs])
   | none=>some (st.xc t,r,[iF P f ha rs])
  else none
 | _,_,_=>none
def Ug(P:Program)(st:aD)(d:Option Nat)(f:Operand)(args:List Operand)(ans:List cf):Stepped:=
 match (st.bt f).leaf.bind (aG.kO st.boxes),args.mapM (fun x=>(st.bt x).kO st.boxes),ans with
 | some (.cl g bk),some ha,.res rs::r=>
  if wm rs=true/\10000*(d.getD 0+1)+10000<=dk then
   let t:=10000*(d.getD 0+1)
   match d with
   | some d=>some (⟨(st.xc t).env.set d (uZ t rs),(st.xc t).boxes⟩,r,[fX P g=true,iF P g (ha++bk.map .one) rs])
   | none=>some (st.xc t,r,[fX P g=true,iF P g (ha++bk.map .one) rs])
  else none
 | _,_,_=>none
def S9:List cf->Bool
 | .qS _ _ _ _::_=>true
 | _=>false
def Ta:List cf->Bool
 | .dL _ _::_=>true
 | _=>false
def S':List cf->Bool
 | .own::_=>true
 | _=>false
def qO(P:Program)(st:aD)(o:Oper)(ans:List cf):Stepped:=
 match o.dst,o.op with
 | some d,.box _ x=>MW st d (st.bt x) ans
 | some d,.alloc ty=>MX P st d ty ans
 | some d,.makeSlice t l c=>Gq P st d t (st.bt l) (st.bt c) ans
 | some d,.buildSlice t n parts=>Da P st d t n parts.toList ans
 | none,.store ty x y=>
  match (st.bt x).leaf with
  | some (.ptr id off)=>MY P st ty id off (st.bt y) ans
  | some (.ep (.own t) k es i j)=>M7 P st ty t k es i j (st.bt y) ans
  | some (.aR t i j k es (.at_ a b))=>Nj P st ty t i j k es a b (st.bt y) ans
  | _=>none
 | d,.call ⟨.value (.func f),args,_⟩=>if Ta ans then MB P st d f args.toList ans else if S9 ans then Nd P st d f args.toList ans else ME P st d f args.toList ans
 | d,.call ⟨.value (.tmp x),args,_⟩=>if Ta ans then MC P st d (.tmp x) args.toList ans else Ug P st d (.tmp x) args.toList ans
 | some d,.call ⟨.builtin .append,⟨[x,y]⟩,⟨[t,dx]⟩⟩=>
  if t=dx then
   match (st.bt x).leaf with
   | some (.aR s i j k es .here)=>Nk P st d t s i j k es y ans
   | _=>A2 P st d t x y ans
  else none
 | some d,.slice t x c7 hi jL=>if S' ans then A3 P st d t (st.bt x) c7 hi jL ans.tail else (rW P st (.slice t x c7 hi jL) ans).map fun r=>(⟨st.env.set d r.1,st.boxes⟩,r.2.1,r.2.2)
 | some d,op=>(rW P st op ans).map fun r=>(⟨st.env.set d r.1,st.boxes⟩,r.2.1,r.2.2)
 | none,op=>(rW P st op ans).map fun r=>(st,r.2.1,r.2.2)
variable{P:Program}{o:Oper}{a:Act}{w:World}{Q:Exit->Act->World->Prop}
theorem Calls.of{next:Act->World->Prop}{z:Value}{aN:World}(h:(execOp a.eval o).run P w=.ok (.value z) aN)(aW:next (a.put o.dst z) aN):
  o.wp P a w next Q:=by
 unfold Oper.wp;rw[h];exact aW
variable{w0:eT}{st bG:aD}{ans cv:List cf}{obs:List Prop}
theorem MF(h:qO P st o ans=some (bG,cv,obs))(a8:cO obs)(a6:Rel w0 st a w)
  {next:Act->World->Prop} {Q:Exit->Act->World->Prop} (mu:∀cQ aN,Rel w0 bG cQ aN->next cQ aN):o.wp P a w next Q:=by
 obtain⟨ω,τ,a6⟩:=a6;obtain⟨dst,op,type,pos,after,guard⟩:=o;simp only[qO]at h;split at h
 ·rename_i d ty x;obtain⟨z,aN,h1,U⟩:=cM.box (P:=P) a6 (a6.bt x) h ty;exact Calls.of (jW h1) (mu _ _ U)
 ·rename_i d ty;obtain⟨z,aN,h1,U⟩:=cM.alloc a6 h;exact Calls.of (jW h1) (mu _ _ U)
 ·rename_i d t l c;obtain⟨z,aN,h1,U⟩:=a6.make (a6.bt l) (a6.bt c) h a8;exact Calls.of (jW h1) (mu _ _ U)
 ·rename_i d t n parts;obtain⟨z,aN,h1,U⟩:=a6.buildSlice h;exact Calls.of (jW h1) (mu _ _ U)
 ·rename_i ty x y;have fin:∀aN,(Instr.storeAt ty (a.eval x) (a.eval y)).run P w=.ok () aN->Rel w0 bG a aN->Oper.wp P ⟨none,.store ty x y,type,pos,after,guard⟩ a w next Q:=by
   intro aN h1 U;unfold Oper.wp execOp;simp only[Sem.run_bind,h1,Result.andThen_ok,Sem.run_pure,Oper.upon];exact mu _ _ U
  split at h
  ·rename_i id off e;obtain⟨b,aw,ag⟩:=aI.dU e (a6.bt x);obtain⟨aN,h1,U⟩:=a6.aDW (P:=P) aw (a6.bt y) h;grind
  ·rename_i t k es i j e;obtain⟨aN,h1,U⟩:=a6.aDY (P:=P) (aI.dU e (a6.bt x)) (a6.bt y) h a8;grind
  ·rename_i t i j k es aEc Rx e;obtain⟨aN,h1,U⟩:=a6.aD0 (P:=P) (aI.dU e (a6.bt x)) (a6.bt y) h a8;grind
  cases h
 ·rename_i f args ts;split at h
  ·grind[aAL]
  split at h
  ·grind[aAE]
  rename_i Kw ad4;clear Kw;unfold ME at h;clear ad4;split at h
  ·rename_i fn ha rs r lG J9;split at h
   ·rename_i ai;obtain⟨mY,mr,l4,tY⟩:=ai;obtain⟨al,ay⟩:=oR J9;have nP:Gv w ha (args.map a.eval):=by
     refine⟨by simp[al],fun i cw hi=>?_⟩;obtain⟨x,ag,kz⟩:=ay i cw hi;refine⟨a.eval x,?_,aI.y6 a6.boxes kz (a6.bt x)⟩;grind
    have fU:(execOp a.eval ⟨dst,.call ⟨.value (.func f),args,ts⟩,type,pos,after,guard⟩).run P w=.ok (.enter f (args.map a.eval)) w:=by
     have adu : fn.name ≠ "runtime.NumGoroutine" := by grind
     have rn:fn.body≠none:=by grind
     simp[execOp,resolve,Act.eval,Deferred.ofValue,invoke,callFunc,lG,adu,rn]
    have key:∀(nU:List Prop),obs=nU->cO nU->nU=[iF P f ha rs]->∀(K:Act->World->Prop),(∀v aN,g' w.heap.size w aN->y2 w aN rs v->K (a.put dst v) aN)->
      Oper.wp P ⟨dst,.call ⟨.value (.func f),args,ts⟩,type,pos,after,guard⟩ a w K Q:=by
     intro nU _ m' e K iv;subst e;unfold Oper.wp;rw[fU];simp only[Oper.upon];refine (m'.1 w _ a6.below.laid nP).mono ?_;grind
    simp only at h;cases dst with
    | none=>
     simp only[aZ,bL]at h;obtain⟨rfl,_,rfl⟩:=h;refine key _ rfl a8 rfl next fun v aN aw aC=>mu _ _ ?_
     obtain⟨bh,c3,h1,_⟩:=a6.called (10000*(Option.getD none 0+1)) l4 tY aw aC;exact⟨bh,c3,h1⟩
    | some d=>
     simp only[aZ,bL]at h;obtain⟨rfl,_,rfl⟩:=h;refine key _ rfl a8 rfl next fun v aN aw aC=>mu _ _ ?_
     obtain⟨bh,c3,h1,U⟩:=a6.called (10000*(Option.getD (some d) 0+1)) l4 tY aw aC;exact⟨bh,c3,h1.put U⟩
   cases h
  cases h
 ·rename_i x args ts;split at h
  ·grind[azW]
  rename_i Kw;clear Kw;unfold Ug at h;split at h
  ·rename_i g bk ha rs r bI J9;split at h
   ·rename_i ai;obtain⟨l4,tY⟩:=ai;obtain⟨al,ay⟩:=oR J9;have c4:ha.length=args.size:=by grind
    rw[nB]at bI;obtain⟨lN,Kz,aeg⟩:=bI;have Sm:mJ w (.cl g bk) (a.eval (.tmp x)):=aG.y6 a6.boxes aeg (aI.dU Kz (a6.bt (.tmp x)));have adN:∃cs:Array Value,a.eval (.tmp x)=.func (.func g) #[] cs/\cs.size=bk.length/\∀(j:Nat) (d:D),bk[j]?=some d->∃u,cs[j]?=some u/\mJ w d u:=by
     generalize a.eval (.tmp x)=y at Sm;cases Sm with
     | cl R g bk cs us ao hu aE=>exact⟨cs,rfl,ao,fun j d bf=>⟨us j,hu j d bf,(aE j d bf).free⟩⟩
    obtain⟨cs,oz,aFs,adF⟩:=adN;have nP:Gv w (ha++bk.map .one) (args.map a.eval++cs):=by
     refine⟨by grind,fun i cw hi=>?_⟩;rw[qY]at hi;rw[ji];split at hi
     ·rename_i oC;rw[bq (by simp;omega)];obtain⟨y,bu,kY⟩:=ay i cw hi;refine⟨a.eval y,?_,aI.y6 a6.boxes kY (a6.bt y)⟩;grind
     rename_i oC;rw[bD (by simp;omega)];rw[dI,ca]at hi;obtain⟨d,aE,rfl⟩:=hi;obtain⟨u,hd,fG⟩:=adF _ d aE;refine⟨u,?_,fG⟩;grind
    have fU:fX P g=true->(execOp a.eval ⟨dst,.call ⟨.value (.tmp x),args,ts⟩,type,pos,after,guard⟩).run P w=.ok (.enter g (args.map a.eval++cs)) w:=by
     intro BR;unfold fX at BR;split at BR
     ·rename_i fn lG;simp only[cu,gp,yU,lZ]at BR;have rn:fn.body≠none:=by grind
      simp[execOp,resolve,oz,Deferred.ofValue,invoke,callFunc,lG,BR.1,rn]
     cases BR
    have key:∀(nU:List Prop),obs=nU->cO nU->nU=[fX P g=true,iF P g (ha++bk.map .one) rs]->∀(K:Act->World->Prop),(∀v aN,g' w.heap.size w aN->y2 w aN rs v->K (a.put dst v) aN)->
      Oper.wp P ⟨dst,.call ⟨.value (.tmp x),args,ts⟩,type,pos,after,guard⟩ a w K Q:=by
     intro nU _ m' e K iv;subst e;unfold Oper.wp;rw[fU m'.1];simp only[Oper.upon];refine (m'.2.1 w _ a6.below.laid nP).mono ?_;grind
    simp only at h;cases dst with
    | none=>
     simp only[aZ,bL]at h;obtain⟨rfl,_,rfl⟩:=h;refine key _ rfl a8 rfl next fun v aN aw aC=>mu _ _ ?_
     obtain⟨bh,c3,h1,_⟩:=a6.called (10000*(Option.getD none 0+1)) l4 tY aw aC;exact⟨bh,c3,h1⟩
    | some d=>
     simp only[aZ,bL]at h;obtain⟨rfl,_,rfl⟩:=h;refine key _ rfl a8 rfl next fun v aN aw aC=>mu _ _ ?_
     obtain⟨bh,c3,h1,U⟩:=a6.called (10000*(Option.getD (some d) 0+1)) l4 tY aw aC;exact⟨bh,c3,h1.put U⟩
   cases h
  cases h
 ·rename_i d x y t dx;split at h
  ·rename_i Cg;subst Cg;have vt:∃z aN,(Builtin.append_ #[t,t] type #[a.eval x,a.eval y]).run P w=.ok z aN/\Rel w0 bG (a.put (some d) z) aN:=by
    split at h
    ·rename_i s i j k es e;exact a6.acN (P:=P) (ty:=type) (aI.dU e (a6.bt x)) h a8
    exact a6.A2 (ty:=type) h a8
   obtain⟨z,aN,h1,U⟩:=vt;refine Calls.of (z:=z) (aN:=aN) ?_ (mu _ _ U);have:(execOp a.eval ⟨some d,.call ⟨.builtin .append,⟨[x,y]⟩,⟨[t,t]⟩⟩,type,pos,after,guard⟩)=(builtin .append ⟨[t,t]⟩ type (Array.map (fun | .const _=>true | _=>false) ⟨[x,y]⟩) (Array.map a.eval ⟨[x,y]⟩)):=by
    simp only[execOp,resolve];rfl
   rw[this];exact jW (by grind)
  cases h
 ·rename_i d t x c7 hi jL;split at h
  ·obtain⟨z,h1,U⟩:=a6.A3 (P:=P) (a6.bt x) h a8;exact Calls.of (jW h1) (mu _ _ U)
  rw[ca]at h;obtain⟨⟨bC,b2,cg⟩,h1,h⟩:=h;simp only[bL]at h;obtain⟨rfl,rfl,rfl⟩:=h;obtain⟨z,U,aA⟩:=MV (o:=⟨_,_,type,pos,after,guard⟩) a6 h1 a8;exact Calls.of U (mu _ _ ⟨ω,τ,a6.put aA⟩)
 ·rw[ca]at h;obtain⟨⟨bC,b2,cg⟩,h1,h⟩:=h;simp only[bL]at h;obtain⟨rfl,rfl,rfl⟩:=h;obtain⟨z,U,aA⟩:=MV (o:=⟨_,_,type,pos,after,guard⟩) a6 h1 a8;exact Calls.of U (mu _ _ ⟨ω,τ,a6.put aA⟩)
 rw[ca]at h;obtain⟨⟨bC,b2,cg⟩,h1,h⟩:=h;simp only[bL]at h;obtain⟨rfl,rfl,rfl⟩:=h;obtain⟨z,U,aA⟩:=MV (o:=⟨_,_,type,pos,after,guard⟩) a6 h1 a8;exact Calls.of U (mu _ _ ⟨ω,τ,a6⟩)
def pR(P:Program)(st:aD)(o:Oper)(ans:List cf):Stepped:=
 match o.dst,o.op with
 | some d,.alloc ty=>F8 P st d ty ans
 | none,.store ty (.tmp s) y=>F' P st ty s (st.bt y) ans
 | _,_=>qO P st o ans
theorem azX(h:pR P st o ans=some (bG,cv,obs))(a8:cO obs)(a6:Rel w0 st a w)
  {next:Act->World->Prop} {Q:Exit->Act->World->Prop} (mu:∀cQ aN,Rel w0 bG cQ aN->next cQ aN):o.wp P a w next Q:=by
 obtain⟨dst,op,type,pos,after,guard⟩:=o;unfold pR at h;split at h
 ·rename_i d ty e1 e2;simp only at e1 e2;subst e1;subst e2;obtain⟨ω,τ,a6⟩:=a6;obtain⟨z,aN,h1,U⟩:=cM.acM a6 h;exact Calls.of (jW h1) (mu _ _ U)
 ·rename_i ty s y e1 e2;simp only at e1 e2;subst e1;subst e2;obtain⟨ω,τ,a6⟩:=a6;obtain⟨aN,h1,U⟩:=a6.aDZ (P:=P) (a6.bt y) h;unfold Oper.wp execOp;simp only[Sem.run_bind,h1,Result.andThen_ok,Sem.run_pure,Oper.upon];exact mu _ _ U
 grind[MF]
def Dm(st:aD)(dst:Option Nat):aD:=
 match dst with
 | some d=>⟨st.env.set d (.one (.v undef)),st.boxes⟩
 | none=>st
theorem MG{dst:Option Nat}(h:Rel w0 st a w):Rel w0 (Dm st dst) (a.put dst undef) w:=by
 obtain⟨ω,τ,h⟩:=h;cases dst with
 | none=>exact⟨ω,τ,h⟩
 | some d=>exact⟨ω,τ,h.put (p:=.one (.v undef)) rfl⟩
def th(ops:Array Oper)(st:aD)(o:Oper)(ans:List cf):Option (Bool×aD×List cf×List Prop):=
 match o.guard with
 | none=>some (true,st,ans,[])
 | some (j,want)=>
  match (ops[j]?).bind (·.dst) with
  | some s=>
   match (st.env.getD s .cp).leaf with
   | some (.v (.bool b))=>some (b==want,st,ans,[])
   | some (.v (.tuple _))=>some (false,st,ans,[])
   | some (.bg c)=>
    match ans with
    | .qb b::r=>some (b==want,⟨st.env.set s (.one (.v (.bool b))),st.boxes⟩,r,[c=b])
    | _=>none
   | _=>none
  | none=>none
variable{ops:Array Oper}
theorem xJ{b:Bool}(h:th ops st o ans=some (b,bG,cv,obs))(a8:cO obs)(a6:Rel w0 st a w):
  Region.wanted o (yielded ops a.tmps)=b/\Rel w0 bG a w:=by
 obtain⟨ω,τ,a6⟩:=a6;unfold th at h;split at h
 ·rename_i ay;simp only[aZ,bL]at h;obtain⟨rfl,rfl,_,_⟩:=h;exact⟨by simp[Region.wanted,ay],ω,τ,a6⟩
 rename_i j want ay;split at h
 ·rename_i s ao;have e8:∀l,(st.env.getD s .cp).leaf=some l->∀x,(∀y,Sat w ω τ l y->y=x)->(l=.cp->False)->a.tmps[s]?=some x:=by
   intro l al x ag cZ;rw[ly]at al;cases e:st.env[s]? with
   | none=>
    grind[aI.leaf,aZ,absurd]
   | some p=>
    rw[e]at al;obtain⟨v,h1,U⟩:=a6.env s p e;grind[aI.dU]
  split at h
  ·rename_i dE al;simp only[aZ,bL]at h;obtain⟨rfl,rfl,_,_⟩:=h;have:=e8 _ al (.bool dE) (fun y bu=>bu) (fun h=>by cases h);exact⟨by grind[Region.wanted,yielded],ω,τ,a6⟩
  ·rename_i vs al;simp only[aZ,bL]at h;obtain⟨rfl,rfl,_,_⟩:=h;have:=e8 _ al (.tuple vs) (fun y bu=>bu) (fun h=>by cases h);exact⟨by grind[Region.wanted,yielded],ω,τ,a6⟩
  ·rename_i c al;split at h
   ·rename_i dE r;simp only[aZ,bL]at h;obtain⟨rfl,rfl,_,rfl⟩:=h;have iT:c=dE:=a8.1;subst iT;have:=e8 _ al (.bool c) (fun y bu=>bu) (fun h=>by cases h);refine⟨by grind[Region.wanted,yielded],ω,τ,?_⟩;have SM:=a6.put (d:=s) (p:=.one (.v (.bool c))) (v:=.bool c) rfl;have e:a.put (some s) (.bool c)=a:=by
     simp only[Act.put];have:a.tmps.setIfInBounds s (.bool c)=a.tmps:=by
      grind
     rw[this]
    grind
   cases h
  cases h
 cases h
def rQ(P:Program)(ops:Array Oper)(o:Oper)(st:aD)(ans:List cf):Stepped:=
 match th ops st o ans with
 | some (true,st1,fN,gC)=>(qO P st1 o fN).map fun r=>(r.1,r.2.1,gC++r.2.2)
 | some (false,st1,fN,gC)=>some (Dm st1 o.dst,fN,gC)
 | none=>none
theorem Uh{rest:List Oper}(h:rQ P ops o st ans=some (bG,cv,obs))(a8:cO obs)
  {a:Act} {w:World} (a6:Rel w0 st a w) (iv:∀cQ aN,Rel w0 bG cQ aN->wpList P ops Q rest cQ aN):wpList P ops Q (o::rest) a w:=by
 unfold rQ at h;split at h
 ·rename_i st1 fN gC hw;rw[ca]at h;obtain⟨⟨bC,b2,cg⟩,h1,h⟩:=h;simp only[bL]at h;obtain⟨rfl,rfl,rfl⟩:=h;obtain⟨cy,ci⟩:=a8.append;obtain⟨sP,h'⟩:=xJ hw cy a6;refine wpList_step fun K BN=>?_
  rw[bq sP];grind[MF]
 ·rename_i st1 fN gC hw;simp only[aZ,bL]at h;obtain⟨rfl,rfl,rfl⟩:=h;obtain⟨sP,h'⟩:=xJ hw a8 a6;refine wpList_step fun K BN=>?_
  rw[bD (by grind)];grind[MG]
 cases h
def MH(o ci:Oper):Option (Nat×TypeId×Operand×Option Operand×TypeId):=
 match o.dst,o.op,o.guard,ci.dst,ci.op,ci.guard with
 | some d,.slice t x c7 none none,none,none,.call ⟨.builtin .clear,⟨[.tmp dQ]⟩,⟨[eS]⟩⟩,none=>if d=dQ then some (d,t,x,c7,eS) else none
 | _,_,_,_,_,_=>none
theorem azY{ci:Oper}{rest:List Oper}{d:Nat}{t eS:TypeId}{x:Operand}{c7:Option Operand}(hp:MH o ci=some (d,t,x,c7,eS))
  {st bG:aD} {ans cv:List cf} {obs:List Prop} (h:Gb P st d t x c7 eS ans=some (bG,cv,obs)) (a8:cO obs)
  {a:Act} {w:World} (a6:Rel w0 st a w) (iv:∀cQ aN,Rel w0 bG cQ aN->wpList P ops Q rest cQ aN):wpList P ops Q (o::ci::rest) a w:=by
 obtain⟨dst,op,type,pos,after,guard⟩:=o;obtain⟨aET,aGp,type2,aGw,aEF,aE8⟩:=ci;unfold MH at hp;split at hp
 ·rename_i d0 t0 cE aGi dQ aGF e1 e2 ch dS hz lg;simp only at e1 e2 ch dS hz lg;subst e1 e2 ch dS hz lg;split at hp
  ·rename_i aE;subst aE;simp only[aZ,bL]at hp;obtain⟨rfl,rfl,rfl,rfl,rfl⟩:=hp;obtain⟨ω,τ,a6⟩:=a6;obtain⟨bR,y,z,aN,h1,U,aA⟩:=a6.clear h a8;refine wpList_plain rfl fun K BN=>Calls.of (jW (by simpa using h1)) (BN _ _ ?_)
   refine wpList_plain rfl fun K BN=>?_
   have sG:(a.put (some d0) y).eval (.tmp d0)=y:=by
    simp_all[Act.eval,Act.put]
   refine Calls.of (z:=z) (aN:=aN) ?_ (BN _ _ (iv _ _ aA));simp only[execOp,resolve,invoke,builtin,Sem.run_bind,Sem.run_pure,Result.andThen_ok,List.map_toArray,mg,List.map_nil,sG,U]
  cases hp
 cases hp
def yi(P:Program)(ops:Array Oper):List Oper->aD->List cf->Stepped
 | [],st,ans=>some (st,ans,[])
 | [o],st,ans=>rQ P ops o st ans
 | o::ci::rest,st,ans=>
  match MH o ci with
  | some (d,t,x,c7,eS)=>
   match Gb P st d t x c7 eS ans with
   | some (st1,fN,gC)=>(yi P ops rest st1 fN).map fun r=>(r.1,r.2.1,gC++r.2.2)
   | none=>none
  | none=>
   match rQ P ops o st ans with
   | some (st1,fN,gC)=>(yi P ops (ci::rest) st1 fN).map fun r=>(r.1,r.2.1,gC++r.2.2)
   | none=>none
theorem MI:∀(l:List Oper) {st bG:aD} {ans cv:List cf} {obs:List Prop},yi P ops l st ans=some (bG,cv,obs)->cO obs->
  ∀{a:Act} {w:World},Rel w0 st a w->(∀cQ aN,Rel w0 bG cQ aN->Q .normal cQ aN)->wpList P ops Q l a w
 | [],st,bG,ans,cv,obs,h,_,a,w,a6,j7=>by
  simp only[yi,aZ,bL]at h;obtain⟨rfl,_,_⟩:=h;exact j7 _ _ a6
 | [o],st,bG,ans,cv,obs,h,a8,a,w,a6,j7=>by
  simp only[yi]at h;exact Uh h a8 a6 fun cQ aN eW=>j7 _ _ eW
 | o::ci::rest,st,bG,ans,cv,obs,h,a8,a,w,a6,j7=>by
  simp only[yi]at h;split at h
  ·rename_i d t x c7 eS hp;split at h
   ·rename_i st1 fN gC h1;rw[ca]at h;obtain⟨⟨bC,b2,cg⟩,U,h⟩:=h;simp only[bL]at h;obtain⟨rfl,rfl,rfl⟩:=h;obtain⟨cy,cI⟩:=a8.append;exact azY hp h1 cy a6 fun cQ aN eW=>MI rest U cI eW j7
   cases h
  split at h
  ·rename_i st1 fN gC h1;rw[ca]at h;obtain⟨⟨bC,b2,cg⟩,U,h⟩:=h;simp only[bL]at h;obtain⟨rfl,rfl,rfl⟩:=h;obtain⟨cy,cI⟩:=a8.append;exact Uh h1 cy a6 fun cQ aN eW=>MI (ci::rest) U cI eW j7
  cases h
end Go.Sx
namespace Go.Sx
open Go.RowKit
abbrev gP:=List (Nat×Nat)
def gP.has(r:gP)(s:Nat):Bool:=r.any fun x=>decide (x.1<=s)&&decide (s<x.2)
def Tag.fa(r:gP):Tag->Bool
 | .free=>false
 | .own s=>r.has s
 | .ro s=>r.has s
def fq.fa(r:gP):fq->Bool
 | .J t _ _=>t.fa r
 | _=>false
def aG.fa(r:gP):aG->Bool
 | .J t _ _=>t.fa r
 | .ep t _ _ _ _=>t.fa r
 | .aR t _ _ _ _ _=>r.has t
 | .fP t vs=>r.has t||vs.any (fq.fa r)
 | _=>false
def bp.fa(r:gP):bp->Bool
 | .one l=>l.fa r
 | .agg ls=>ls.any (aG.fa r)
def aI.fa(r:gP):aI->Bool
 | .aF a=>a.fa r
 | .gx as=>as.any (bp.fa r)
def pS(g:Tag->Option Tag)(r:gP):Prop:=∀t:Tag,t.fa r=false->g t=some t
variable{g:Tag->Option Tag}{r:gP}
theorem aG.yJ(ay:pS g r){l:aG}(h:l.fa r=false):l.cN g (fun _=>true)=l:=by
 cases l with
 | J t k es=>simp only[aG.fa]at h;simp only[aG.cN,ay t h]
 | ep t k es i j=>simp only[aG.fa]at h;simp only[aG.cN,ay t h]
 | ptr id off=>simp[aG.cN]
 | hq f ids=>simp[aG.cN]
 | aR t i j k es m=>simp only[aG.fa]at h;simp only[aG.cN,ay (.own t) h,gy]
 | fP t vs=>
  simp only[aG.fa,fC]at h;simp only[aG.cN,ay (.own t) h.1,gy]
  congr 1
  conv=>rhs;rw[<-tE vs]
  refine lX fun c ai=>?_
  have:=fx.1 h.2 c ai;cases c with
  | cp=>rfl
  | v x=>rfl
  | J dx k es=>simp only[fq.cN,ay dx (by grind[fq.fa]),id]
 | _=>rfl
theorem Ui(ay:pS g r){ls:List aG}(h:ls.any (aG.fa r)=false):ls.map (aG.cN g fun _=>true)=ls:=by
 conv=>rhs;rw[<-tE ls]
 grind[lX,fx,aG.yJ]
theorem bp.yJ(ay:pS g r){a:bp}(h:a.fa r=false):a.map (aG.cN g fun _=>true)=a:=by
 cases a with
 | one l=>grind[bp.fa,bp.map,aG.yJ]
 | agg ls=>grind[bp.fa,bp.map,Ui]
theorem aI.yJ(ay:pS g r){p:aI}(h:p.fa r=false):p.map (aG.cN g fun _=>true)=p:=by
 cases p with
 | aF a=>grind[aI.fa,aI.map,bp.yJ]
 | gx as=>
  simp only[aI.fa]at h;simp only[aI.map]
  congr 1
  conv=>rhs;rw[<-tE as]
  grind[lX,fx,bp.yJ]
structure dJ where
 dst:Option Nat
 p:aI
 use:List Nat
 oV:gP
abbrev la:=Option (dJ×(Tag->Option Tag)×List cf×List Prop)
def Uj:Operand->Option Nat
 | .tmp t=>some t
 | _=>none
def Cv:Option Nat->gP
 | none=>[]
 | some s=>[(s,s+1)]
def Bl(P:Program)(st:aD)(d:Nat)(t:TypeId)(x y:Operand)(ans:List cf):la:=
 match rV P t with
 | some (e,k)=>
  match P.info? e with
  | some i=>
   match i.zero,(st.bt x).leaf,x with
   | some z,some (.J (.own hG) ck es),.tmp s=>
    match xa hG k (st.bt y) ans with
    | some (bZ,ed,cv,obs)=>
     if ck=k/\z.cells.size=k/\0<k/\hG<dk then
      some (⟨some d,.one (.J (.own hG) k (es++bZ)),[s],(hG,hG+1)::Cv ed⟩,iG hG ed,cv,((es.length+bZ.length)*i.bytes<=140737488355328)::(es.length+bZ.length<=9223372036854775807)::obs)
     else none
    | _=>none
   | some z,some (.v (.slice none 0 0)),_=>
    match xa d k ((st.bt y).map (aG.cN (iX d []) fun _=>true)) ans with
    | some (bZ,ed,cv,obs)=>
     if z.cells.size=k/\0<k/\d<dk then
      some (⟨some d,.one (.J (.own d) k ([]++bZ)),[],(d,d+1)::Cv ed⟩,(fun g=>(iX d [] g).bind (iG d ed)),cv,(((([]:List (List D)).length)+bZ.length)*i.bytes<=140737488355328)::(([]:List (List D)).length+bZ.length<=9223372036854775807)::obs)
     else none
    | _=>none
   | _,_,_=>none
  | none=>none
 | none=>none
def JG(P:Program)(st:aD)(d:Nat)(t:TypeId)(x:Operand)(c7 hi jL:Option Operand)(ans:List cf):la:=
 match rV P t,(st.bt x).leaf,jL,x with
 | some (_,k),some (.J (.own s) ck es),none,.tmp gL=>
  if k=ck/\s<dk then
   match nf st c7,nf st hi with
   | some l,some h=>some (⟨some d,.one (.J (.own s) k ((es.drop (l.getD 0).toNat).take ((h.getD es.length).toNat-(l.getD 0).toNat))),[gL],[(s,s+1)]⟩,lp s s,ans,[0<=l.getD 0,l.getD 0<=h.getD es.length,h.getD es.length<=es.length])
   | _,_=>none
  else none
 | _,_,_,_=>none
variable{s:Nat}
theorem azZ:pS (lp s s) [(s,s+1)]:=by
 intro t h;cases t with
 | free=>rfl
 | own x=>
  have:x≠s:=by rintro rfl;grind[Tag.fa,gP.has]
  grind[lp]
 | ro x=>
  simp_all[Tag.fa,gP.has,lp]
def Tg(P:Program)(d:Nat)(t:TypeId)(p q:aI)(ans:List cf):la:=
 match P.underlying t with
 | some (.slice e)=>
  match P.info? e,p.int,q.int with
  | some i,some (_,l),some (_,c)=>
   match i.zero with
   | some z=>
    if i.size=z.cells.size/\0<i.size/\z.cells.all (·.oneCell')=true/\d<dk then
     some (⟨some d,.one (.J (.own d) i.size (List.replicate l.toNat (z.cells.toList.map .v))),[],[(d,d+1)]⟩,iX d [],ans,[0<=l,l<=c,(i.bytes:Int)*c<=281474976710656,c<=9223372036854775807])
    else none
   | none=>none
  | _,_,_=>none
 | _=>none
def tO(P:Program)(st:aD)(o:Oper)(ans:List cf):la:=
 match o.dst,o.op with
 | some d,.call ⟨.value (.func f),args,_⟩=>
  match P.funcs[f]?,args.toList.mapM (fun x=>(st.bt x).kO st.boxes),ans with
  | some fn,some ha,.res rs::r=>
   if (fn.name == "runtime.NumGoroutine") = false /\ fn.body.isNone = false /\ wm rs = true /\ 10000 * (d + 1) + 10000 <= dk then
    some (⟨some d,uZ (10000*(d+1)) rs,[],[(10000*(d+1),10000*(d+1)+10000)]⟩,hg (10000*(d+1)),r,[iF P f ha rs])
   else none
  | _,_,_=>none
 | some d,.buildSlice t n parts=>
  match E' P st d t n parts.toList with
  | some (k,es,ms)=>some (⟨some d,.one (.J (.own d) k es),[],(d,d+1)::ms.map fun x=>(x.1,x.1+1)⟩,iX d ms,ans,[])
  | _=>none
 | some d,.call ⟨.builtin .append,⟨[x,y]⟩,⟨[t,dx]⟩⟩=>if t=dx then Bl P st d t x y ans else none
 | some _,.box _ _=>none
 | some d,.alloc ty=>
  match P.info? ty with
  | some i=>match i.zero with
   | some z=>if d<dk then some (⟨some d,.one (.fP d (z.cells.toList.map .v)),[],[(d,d+1)]⟩,iX d [],ans,[]) else none
   | none=>none
  | none=>none
 | some d,.makeSlice t l c=>Tg P d t (st.bt l) (st.bt c) ans
 | some d,.slice t x c7 hi jL=>if S' ans then JG P st d t x c7 hi jL ans.tail else (rW P st (.slice t x c7 hi jL) ans).map fun r=>(⟨some d,r.1,[],[]⟩,some,r.2.1,r.2.2)
 | some d,op=>(rW P st op ans).map fun r=>(⟨some d,r.1,[],[]⟩,some,r.2.1,r.2.2)
 | none,.store ty (.tmp s) y=>
  match (st.env.getD s .cp).leaf,LH (st.bt y),P.info? ty with
  | some (.fP t vs),some cs,some i=>
   if cs.length=i.size/\cs.length<=vs.length then
    some (⟨some s,.one (.fP t ((cs++vs.drop cs.length).map (fq.cN (fO t)))),[],[(t,t+1)]⟩,fO t,ans,[])
   else none
  | _,_,_=>none
 | none,_=>none
theorem az0:pS (fO s) [(s,s+1)]:=by
 intro t h;cases t with
 | free=>rfl
 | own x=>
  have:x≠s:=by rintro rfl;grind[Tag.fa,gP.has]
  grind[fO]
 | ro x=>
  have:x≠s:=by rintro rfl;grind[Tag.fa,gP.has]
  grind[fO]
theorem az1:fq.cN some=id:=by funext c;cases c<;>rfl
theorem az2(st:aD)(f:aG->aG)(bI:∀x,f (.v x)=.v x)(hu:f .cp=.cp)(aE:∀d,f (.fd d)=.fd d)(x:Operand):(st.map f).bt x=(st.bt x).map f:=by
 cases x with
 | tmp t=>
  simp only[aD.bt,aD.map];rw[ly,ly,dI];cases st.env[t]? with
  | none=>simp[aI.map,bp.map,hu]
  | some p=>rfl
 | const v=>
  simp only[aD.bt,Fe];split
  ·simp[aI.map,bp.map,bI]
  grind[aI.map,bp.map]
 | global g=>simp[aD.bt,aI.map,bp.map,hu]
 | func aE2=>simp[aD.bt,aI.map,bp.map,aE]
theorem aG.aDO(g1 g2:Tag->Option Tag)(U:∀g t,g2 g=some (.own t)->g=.own t)(l:aG):aG.cN g2 (fun _=>true) (aG.cN g1 (fun _=>true) l)=aG.cN (fun t=>(g1 t).bind g2) (fun _=>true) l:=by
 cases l with
 | J t k es=>grind[aG.cN]
 | ep t k es i j=>grind[aG.cN]
 | hq f ids=>simp[aG.cN]
 | aR t i j k es m=>
  simp only[aG.cN];cases e1:g1 (.own t) with
  | none=>grind
  | some x=>
   simp only[q0];grind
 | fP t vs=>
  simp only[aG.cN];cases e1:g1 (.own t) with
  | none=>grind
  | some x=>
   simp only[q0];cases x with
   | own s=>
    simp only;by_cases ao:s=t
    ·subst ao;simp only[gy,aG.cN];have oz:(vs.map (fq.cN g1)).map (fq.cN g2)=vs.map (fq.cN fun t=>(g1 t).bind g2):=by
      rw[List.map_map];refine lX fun c _=>?_
      cases c with
      | cp=>rfl
      | v x=>rfl
      | J dx k es=>
       simp only[Function.comp,fq.cN];grind
     rw[oz]
    grind
   | free=>
    grind
   | ro s=>
    grind
 | ptr id off=>simp[aG.cN]
 | _=>rfl
theorem bp.map_map(f g:aG->aG)(a:bp):(a.map f).map g=a.map (g ∘ f):=by cases a<;>simp[bp.map]
theorem aI.map_map(f g:aG->aG)(p:aI):(p.map f).map g=p.map (g ∘ f):=by
 cases p with
 | aF a=>simp[aI.map,bp.map_map]
 | gx as=>simp only[aI.map,List.map_map];simp_all[congr,lX,bp.map_map]
theorem aD.map_map(f g:aG->aG)(s:aD):(s.map f).map g=s.map (g ∘ f):=by
 simp only[aD.map,List.map_map]
 congr 1
 ·grind[lX,aI.map_map]
 simp_all
theorem Uk(r:gP):pS some r:=fun _ _=>rfl
theorem gP.vj{a b:Nat}(h:gP.has ((a,b)::r) s=false):(s<a\/b<=s)/\gP.has r s=false:=by
 grind[gP.has,fC,Bool.and_eq_false_iff,kK]
variable{t:Nat}
theorem az3:pS (hg t) [(t,t+10000)]:=by
 intro g ay;cases g with
 | free=>rfl
 | own s=>
  obtain⟨h1,_⟩:=gP.vj ay;simp only[hg];grind
 | ro s=>
  obtain⟨h1,_⟩:=gP.vj ay;simp only[hg];grind
theorem MJ:∀{ms:io},(gP.has (ms.map fun x=>(x.1,x.1+1)) s)=false->(ms.at s).isSome=false
 | [],_=>rfl
 | (i,p)::r,h=>by
  simp only[gP.has,mg,EP,fC,Bool.and_eq_false_iff,kK]at h;simp only[io.at];rw[bD (by omega)];exact MJ (by simpa only[gP.has]using h.2)
theorem az4{ms:io}:pS (iX t ms) ((t,t+1)::ms.map fun x=>(x.1,x.1+1)):=by
 intro g ay;cases g with
 | free=>rfl
 | own s=>
  obtain⟨h1,U⟩:=gP.vj ay;simp only[iX];rw[bD (by omega),MJ U];rfl
 | ro s=>
  obtain⟨h1,U⟩:=gP.vj ay;simp only[iX];rw[bD (by omega),MJ U];rfl
theorem Ul{ed:Option Nat}(h:gP.has (Cv ed) s=false):ed≠some s:=by
 rintro rfl;grind[gP.has,Cv]
theorem Um(t:Nat)(ed:Option Nat):pS (iG t ed) ((t,t+1)::Cv ed):=by
 intro g ay;cases g with
 | free=>rfl
 | own s=>
  obtain⟨h1,U⟩:=gP.vj ay;simp only[iG];rw[bD (by omega),bD (Ul U)]
 | ro s=>
  obtain⟨h1,U⟩:=gP.vj ay;simp only[iG];rw[bD (by omega),bD (Ul U)]
theorem MK(t:Nat)(r:gP):pS (iX t []) ((t,t+1)::r):=by
 intro g ay;cases g with
 | free=>rfl
 | own s=>
  obtain⟨h1,U⟩:=gP.vj ay;simp only[iX];rw[bD (by omega)];rfl
 | ro s=>
  obtain⟨h1,U⟩:=gP.vj ay;simp only[iX];rw[bD (by omega)];rfl
variable{P:Program}{st:aD}{e:dJ}{obs:List Prop}
theorem Un{d:Nat}{t:TypeId}{x y:Operand}{ans cv:List cf}(h:Bl P st d t x y ans=some (e,g,cv,obs)):pS g e.oV/\e.dst=some d:=by
 unfold Bl at h;split at h
 ·split at h
  ·split at h
   ·split at h
    ·split at h
     ·simp only[aZ,bL]at h;obtain⟨rfl,rfl,_,_⟩:=h;simp_all[Um]
     cases h
    cases h
   ·split at h
    ·split at h
     ·simp only[aZ,bL]at h;obtain⟨rfl,rfl,_,_⟩:=h;exact⟨fun t bK=>by simp only[MK d _ t bK,q0];exact Um d _ t bK,rfl⟩
     cases h
    cases h
   cases h
  cases h
 cases h
theorem TP{o:Oper}{ans cv:List cf}(h:tO P st o ans=some (e,g,cv,obs)):
  pS g e.oV/\∃d,e.dst=some d/\pR P st o ans=some (⟨(st.map (aG.cN g fun _=>true)).env.set d e.p,(st.map (aG.cN g fun _=>true)).boxes⟩,cv,obs):=by
 obtain⟨dst,op,type,pos,after,guard⟩:=o;have hB:∀st:aD,st.map (aG.cN some fun _=>true)=st:=by
  intro st;have:(aG.cN some fun _=>true)=_root_.id:=by
   funext l;cases l<;>simp[aG.cN,az1]
  rw[this];simp only[aD.map];have h1:aI.map _root_.id=_root_.id:=by
   funext p;cases p with
   | aF a=>cases a<;>simp[aI.map,bp.map]
   | gx as=>
    simp only[aI.map,id]
    congr 1
    have:bp.map _root_.id=_root_.id:=by funext a;cases a<;>simp[bp.map]
    simp_all
  simp_all
 simp only[tO]at h;split at h
 ·rename_i d f args ts;split at h
  ·rename_i fn ha rs r h1 U;split at h
   ·rename_i ai;simp only[aZ,bL]at h;obtain⟨rfl,rfl,rfl,rfl⟩:=h;refine⟨az3,d,rfl,?_⟩;simp only[pR,qO,S9,oc,mh,ME,h1,U,lW];rw[bq ai];rfl
   cases h
  cases h
 ·rename_i d t n parts;split at h
  ·rename_i k es ms aw;simp only[aZ,bL]at h;obtain⟨rfl,rfl,rfl,rfl⟩:=h;refine⟨az4,d,rfl,?_⟩;simp only[pR,qO];exact aAw aw ans
  cases h
 ·rename_i d x y t dx;split at h
  ·rename_i Cg;subst Cg;refine⟨(Un h).1,d,(Un h).2,?_⟩;simp only[pR,qO,gy,Sx.A2];unfold Bl at h;split at h
   ·rename_i xd k he;simp only[he];split at h
    ·rename_i i hi;simp only[hi];split at h
     ·rename_i z hG ck es s bb al;split at h
      ·rename_i bZ ed a2 ci ao;split at h
       ·rename_i ai;obtain⟨rfl,ai⟩:=ai;simp only[aZ,bL]at h;obtain⟨rfl,rfl,rfl,rfl⟩:=h;simp only[E6,al,gy,bb,ao];rw[bq ai];rfl
       cases h
      cases h
     ·rename_i z _ bb al;split at h
      ·rename_i bZ ed a2 ci ao;split at h
       ·rename_i ai;simp only[aZ,bL]at h;obtain⟨rfl,rfl,rfl,rfl⟩:=h;have sG:(st.ki d []).bt y=(st.bt y).map (aG.cN (iX d []) fun _=>true):=az2 st _ (fun _=>rfl) rfl (fun _=>rfl) y;simp only[E6,al,bb,sG,ao];rw[bq ai];have:(st.ki d []).y5 d ed=st.map (aG.cN (fun g=>(iX d [] g).bind (iG d ed)) fun _=>true):=by
         simp only[aD.ki,aD.y5,aD.map_map]
         congr 1
         funext l;refine aG.aDO _ _ (fun g t h=>?_) l;cases g with
         | free=>grind[iG]
         | own s=>
          grind[iG]
         | ro s=>
          grind[iG]
        rw[this]
       cases h
      cases h
     cases h
    cases h
   cases h
  cases h
 ·cases h
 ·rename_i d ty;split at h
  ·rename_i i hi;split at h
   ·rename_i z bb;split at h
    ·rename_i aE;simp only[aZ,bL]at h;obtain⟨rfl,rfl,rfl,rfl⟩:=h;refine⟨MK _ _,d,rfl,?_⟩;simp only[pR,F8,hi,bb];rw[bq aE];rfl
    cases h
   cases h
  cases h
 ·rename_i d t l c;unfold Tg at h;split at h
  ·rename_i e hu;split at h
   ·rename_i i cA hf bm kP hi e1 e2;split at h
    ·rename_i z bb;split at h
     ·rename_i ai;simp only[aZ,bL]at h;obtain⟨rfl,rfl,rfl,rfl⟩:=h;refine⟨MK _ _,d,rfl,?_⟩;simp only[pR,qO,Gq,hu,hi,e1,e2,bb];rw[bq ai];rfl
     cases h
    cases h
   cases h
  cases h
 ·rename_i d t x c7 hi jL;split at h
  ·rename_i a8;unfold JG at h;split at h
   ·rename_i e k s ck es gL e1 e2;split at h
    ·rename_i ai;obtain⟨rfl,ao⟩:=ai;split at h
     ·rename_i l bO ch dS;simp only[aZ,bL]at h;obtain⟨rfl,rfl,rfl,rfl⟩:=h;refine⟨azZ,d,rfl,?_⟩;simp_all[pR,qO,gy,A3,pQ,true_and]
     cases h
    cases h
   cases h
  rename_i a8;rw[ca]at h;obtain⟨⟨bC,b2,cg⟩,h1,h⟩:=h;simp only[bL]at h;obtain⟨rfl,rfl,rfl,rfl⟩:=h;simp_all[Uk,pR,qO,bD]
 ·rename_i d ib iI k4 jM lm n6 n7;rw[ca]at h;obtain⟨⟨bC,b2,cg⟩,h1,h⟩:=h;simp only[bL]at h;obtain⟨rfl,rfl,rfl,rfl⟩:=h;refine⟨Uk _,d,rfl,?_⟩;rw[hB];have Fp:pR P st ⟨some d,op,type,pos,after,guard⟩ ans=qO P st ⟨some d,op,type,pos,after,guard⟩ ans:=by
   simp_all[pR]
  grind[qO,rW]
 ·rename_i ty s y;split at h
  ·rename_i hG vs v i e1 e2 ch;split at h
   ·rename_i ai;simp only[aZ,bL]at h;obtain⟨rfl,rfl,rfl,rfl⟩:=h;refine⟨az0,s,rfl,?_⟩;simp only[pR,F',e1,e2,ch];grind
   cases h
  cases h
 cases h
theorem Rel.weaken{w0:eT}{bG:aD}{a:Act}{w:World}(h:Rel w0 st a w)(aW:bG.env.length=st.env.length)(aw:bG.boxes=st.boxes)
  (he:∀(i:Nat) (p:aI),bG.env[i]?=some p->p=.cp\/st.env[i]?=some p):Rel w0 bG a w:=by
 obtain⟨ω,τ,h⟩:=h;refine⟨ω,τ,h.defers,h.size.trans aW.symm,h.below,h.owned,h.fixed,h.pinned,fun i p hp=>?_,by rw[aw];exact h.boxes⟩;rcases he i p hp with rfl | U
 ·have:i<a.tmps.size:=by
   rw[h.size,<-aW];grind
  exact⟨a.tmps[i],by simp[this],aa⟩
 exact h.env i p U
def dJ.hj(e:dJ)(t:Nat):Option aI:=if e.dst=some t then some e.p else if t∈e.use then some .cp else none
def AG(env:List aI):List Nat->List aI
 | s::us=>AG (env.set s .cp) us
 | []=>env
theorem TQ:∀(us:List Nat) (env:List aI) (t:Nat),(AG env us)[t]?=(env[t]?).map fun p=>if t∈us then .cp else p
 | [],env,t=>by simp[AG]
 | s::us,env,t=>by
  simp only[AG,TQ us,p7,ev];grind
def dJ.apply(e:dJ)(env:List aI):List aI:=
 match e.dst with
 | some d=>(AG env e.use).set d e.p
 | none=>env
theorem dJ.apply_get(aE:e.dst≠none)(env:List aI)(t:Nat):(e.apply env)[t]?=(env[t]?).map fun p=>(e.hj t).getD p:=by
 unfold dJ.apply dJ.hj;split
 ·rename_i d eQ;have ao:∀(t:Nat),(AG env e.use)[t]?=(env[t]?).map fun p=>if t∈e.use then .cp else p:=TQ e.use env
  grind
 grind
def hU(L:Nat->Bool)(t:Nat):Nat->List dJ->aI->aI
 | _,[],acc=>acc
 | k,e::es,acc=>hU L t (k+1) es (if L k then (e.hj t).getD acc else acc)
variable{L:Nat->Bool}
theorem Dn{L':Nat->Bool}:∀{es:List dJ} {k:Nat} {acc:aI},(∀(j:Nat) (e:dJ),es[j]?=some e->e.hj t≠none->L (k+j)=L' (k+j))->hU L t k es acc=hU L' t k es acc
 | [],_,_,_=>rfl
 | e::es,k,acc,h=>by
  simp only[hU];have bJ:(if L k then (e.hj t).getD acc else acc)=(if L' k then (e.hj t).getD acc else acc):=by
   cases bK:e.hj t with
   | none=>simp
   | some p=>have:=h 0 e rfl (by simp[bK]);grind
  rw[bJ];exact Dn fun j e' bf bK=>by have:=h (j+1) e' (by grind) bK;grind
theorem TR{p:aI}:∀{es:List dJ} {k i:Nat} {acc:aI} {e:dJ},es[i]?=some e->e.hj t=some p->L (k+i)=true->
  (∀(j:Nat) (e':dJ),i<j->es[j]?=some e'->e'.hj t≠none->L (k+j)=false)->hU L t k es acc=p
 | [],_,_,_,_,h,_,_,_=>by simp at h
 | bE::es,k,0,acc,e,h,bK,cJ,jH=>by
  simp at h;subst h;simp only[hU];rw[o6]at cJ;rw[cJ,bK];simp only[gy,lW];have:∀(es:List dJ) (k:Nat),(∀(j:Nat) (e':dJ),es[j]?=some e'->e'.hj t≠none->L (k+j)=false)->hU L t k es p=p:=by
   intro es;induction es with
   | nil=>intro k _;rfl
   | cons e1 es eA=>
    intro k h;simp only[hU];have h1:(if L k then (e1.hj t).getD p else p)=p:=by
     cases bK:e1.hj t with
     | none=>simp
     | some q=>have:=h 0 e1 rfl (by simp[bK]);grind
    rw[h1];exact eA (k+1) fun j e' bf Ce=>by have:=h (j+1) e' (by grind) Ce;grind
  exact this es (k+1) fun j e' bf Ce=>by have:=jH (j+1) e' (by omega) (by grind) Ce;grind
 | bE::es,k,i+1,acc,e,h,bK,cJ,jH=>by
  simp only[hU];exact TR (i:=i) (by simpa using h) bK (by rwa[show k+1+i=k+(i+1) by omega]) fun j e' bf B2 Ce=>by
   have:=jH (j+1) e' (by omega) (by simpa using B2) Ce;rwa[show k+(j+1)=k+1+j by omega]at this
def fv(env0:List aI)(bs:List (Nat×List aG))(L:Nat->Bool)(es:List dJ):aD:=⟨env0.zipIdx.map fun x=>hU L x.2 0 es x.1,bs⟩
variable{bs:List (Nat×List aG)}
theorem r0{env0:List aI}{es:List dJ}(t:Nat):(fv env0 bs L es).env[t]?=(env0[t]?).map fun p=>hU L t 0 es p:=by
 simp only[fv,dI,List.getElem?_zipIdx,dX];grind
theorem AH{env0:List aI}{es:List dJ}:(fv env0 bs L es).env.length=env0.length:=by simp[fv]
def ML(ops:Array Oper)(o:Oper):Option Nat:=o.guard.bind fun x=>(ops[x.1]?).bind (·.dst)
def reads(ops:Array Oper)(o:Oper):List Nat:=o.op.operands.toList.filterMap Uj++(ML ops o).toList
def AI(d:Nat):dJ:=⟨some d,.one (.v undef),[],[]⟩
def ext(e:dJ)(env:List aI):dJ:=
 if e.oV.isEmpty then e else { e with use:=e.use++(env.zipIdx.filterMap fun x=>if x.1.fa e.oV&&!(e.dst==some x.2) then some x.2 else none) }
theorem MN(e:dJ)(env:List aI):∃u,ext e env={ e with use:=u }:=by
 unfold ext;split
 ·grind
 grind
structure iQ where
 t:Nat
 i:Nat
 j:Nat
 k:Nat
 kT:Nat
 es:List (List D)
 esT:List (List D)
def Ir(t:Nat)(bs:List (Nat×List aG)):Option (Nat×List (List D)):=
 (bs.find? fun x=>(x.2.findSome? (u0 t)).isSome).bind fun x=>(dK x.1 bs).bind fun ls=>ls.findSome? (u0 t)
theorem az5{w0:eT}{a:Act}{w:World}{ω:Own}{τ:Nat->Nat×Value}(h:cM w0 st a w ω τ){kT:Nat}{esT:List (List D)}(e:Ir t st.boxes=some (kT,esT)):∃v,Sat w ω τ (.J (.own t) kT esT) v:=by
 unfold Ir at e;rw[nB]at e;obtain⟨x,_,e⟩:=e;rw[nB]at e;obtain⟨ls,aw,e⟩:=e;obtain⟨l,al,e⟩:=List.exists_of_findSome?_eq_some e;obtain⟨b,arr,ty,_,_,_,ao⟩:=h.boxes _ ls aw;obtain⟨n,aW⟩:=ob.1 al;obtain⟨u,_,hu⟩:=ao.2 n l aW;exact⟨u,Ni e hu⟩
def ti(st:aD)(o:Oper):Option iQ:=
 match o.dst,o.op with
 | some _,.call ⟨.builtin .append,⟨[x,_]⟩,⟨[_,_]⟩⟩=>
  match (st.bt x).leaf with
  | some (.aR s i j k es .here)=>
   match Ir s st.boxes with
   | some (kT,esT)=>some ⟨s,i,j,k,kT,es,esT⟩
   | none=>none
  | _=>none
 | _,_=>none
def wR(P:Program)(st:aD)(o:Oper)(ans:List cf):Option (dJ×List cf×List Prop):=
 match ti st o,o.dst,o.op with
 | some v,some d,.call ⟨.builtin .append,⟨[_,y]⟩,⟨[t,dx]⟩⟩=>
  if t=dx then (vf P t v.t v.i v.j v.k v.es v.esT (st.bt y) ans).map fun r=>(⟨some d,r.1,[],[]⟩,r.2.1,r.2.2) else none
 | _,_,_=>none
def iQ.fix(v:iQ):aG->Option (List Prop)
 | .J (.own s) dw dT=>if s=v.t then (if dw=v.kT then some [dT=v.esT] else none) else some []
 | .ep (.own s) dw dT _ _=>if s=v.t then (if dw=v.kT then some [dT=v.esT] else none) else some []
 | .J (.ro s) _ _=>if s=v.t then none else some []
 | .ep (.ro s) _ _ _ _=>if s=v.t then none else some []
 | .aR s a b dw dT m=>if s=v.t/\b=v.j then (if dw=v.k/\m.home=true then some [a=v.i,dT=v.es] else none) else some []
 | .fP _ _=>none
 | _=>some []
def iQ.oe(v:iQ)(l:aG):Prop:=hV v.t v.i v.j v.k v.es v.kT v.esT l=l/\∀a∈l.idx v.t v.j,a=v.i
theorem iQ.ac7{v:iQ}{l:aG}(h:v.fix l=some obs)(a8:cO obs):v.oe l:=by
 obtain⟨t,i,j,k,kT,es,esT⟩:=v;unfold iQ.oe;simp only;cases l with
 | J g dw dT=>
  refine⟨?_,fun a ah=>by grind[aG.idx]⟩;cases g with
  | free=>rfl
  | own s=>
   simp only[iQ.fix]at h;split at h
   ·rename_i ao;subst ao;split at h
    ·rename_i hk;subst hk;cases h;have e:dT=esT:=a8.1;grind[hV]
    cases h
   grind[hV]
  | ro s=>
   grind[iQ.fix,hV]
 | ep g dw dT x y=>
  refine⟨?_,fun a ah=>by grind[aG.idx]⟩;cases g with
  | free=>rfl
  | own s=>
   simp only[iQ.fix]at h;split at h
   ·rename_i ao;subst ao;split at h
    ·rename_i hk;subst hk;cases h;have e:dT=esT:=a8.1;grind[hV]
    cases h
   grind[hV]
  | ro s=>
   grind[iQ.fix,hV]
 | aR s a b dw dT m=>
  simp only[iQ.fix]at h;split at h
  ·rename_i ao;obtain⟨rfl,rfl⟩:=ao;split at h
   ·rename_i hk;cases h;have e1:a=i:=a8.1;have e2:dT=es:=a8.2.1;simp_all[hV,aG.idx]
   cases h
  simp_all[hV,bD,aG.idx]
 | fP t vs=>cases h
 | _=>exact⟨rfl,fun a ah=>by grind[aG.idx]⟩
def bp.vI:bp->List aG
 | .one l=>[l]
 | .agg ls=>ls
def aI.vI:aI->List aG
 | .aF a=>a.vI
 | .gx as=>as.flatMap bp.vI
theorem bp.Cs{p:aG->Prop}{a:bp}(h:∀l∈a.vI,p l):a.mi p:=by
 cases a with
 | one l=>exact h l (by simp[bp.vI])
 | agg ls=>exact h
theorem aI.Cs{p:aG->Prop}{q:aI}(h:∀l∈q.vI,p l):q.mi p:=by
 cases q with
 | aF a=>exact bp.Cs h
 | gx as=>exact fun a ah=>bp.Cs fun l al=>h l (lA.2 ⟨a,ah,al⟩)
def iQ.fixes(v:iQ):List aG->Option (List Prop)
 | []=>some []
 | l::r=>
  match v.fix l,iQ.fixes v r with
  | some a,some b=>some (a++b)
  | _,_=>none
theorem iQ.R0{v:iQ}:∀{ls:List aG} {obs:List Prop},v.fixes ls=some obs->cO obs->∀l∈ls,v.oe l
 | [],_,_,_,l,al=>by cases al
 | dn::r,obs,h,a8,l,al=>by
  simp only[iQ.fixes]at h;split at h
  ·rename_i a b h1 U;cases h;obtain⟨cy,ci⟩:=a8.append;rcases ev.1 al with rfl | al
   ·grind[iQ.ac7]
   exact iQ.R0 U ci l al
  cases h
def A1(bs:List (Nat×List aG))(all:Nat->List aG):Nat->List Oper->List aI->List dJ->Option (List Prop)
 | i,o::os,env,e::es=>
  match ti ⟨env,bs⟩ o with
  | some v=>
   match v.fixes (all i),A1 bs all (i+1) os (e.apply env) es with
   | some a,some b=>some (a++b)
   | _,_=>none
  | none=>A1 bs all (i+1) os (e.apply env) es
 | _,_,_,_=>some []
theorem TS{all:Nat->List aG}:∀{l:List Oper} {es:List dJ} {env:List aI} {i0:Nat} {obs:List Prop},A1 bs all i0 l env es=some obs->cO obs->
  ∀(i:Nat) (o:Oper),l[i]?=some o->i<es.length->∀v,ti ⟨(es.take i).foldl (fun env e=>e.apply env) env,bs⟩ o=some v->∀lN∈all (i0+i),v.oe lN
 | [],_,_,_,_,_,_,i,o,hi,_,_,_,_,_=>by simp at hi
 | _::_,[],_,_,_,_,_,i,o,_,al,_,_,_,_=>by simp at al
 | sY::os,e::es,env,i0,obs,h,a8,i,o,hi,al,v,bF,lN,Kz=>by
  simp only[A1]at h;cases i with
  | zero=>
   simp only[lY,aZ]at hi;subst hi;simp only[List.take_zero,List.foldl_nil]at bF;rw[bF]at h;simp only at h;split at h
   ·rename_i a b h1 U;cases h;exact iQ.R0 h1 a8.append.1 lN Kz
   cases h
  | succ i=>
   have go:∀{b:List Prop},A1 bs all (i0+1) os (e.apply env) es=some b->cO b->v.oe lN:=fun U ci=>
    TS U ci i o (by grind) (by grind) v (by grind) lN (by grind)
   split at h
   ·split at h
    ·rename_i a b h1 U;cases h;exact go U a8.append.2
    cases h
   grind
def wv(P:Program)(ops:Array Oper)(gs:List Nat)(bs:List (Nat×List aG)):List Oper->List aI->List cf->Option (List dJ×List aI×List cf×List Prop)
 | [],env,ans=>some ([],env,ans,[])
 | o::rest,env,ans=>
  match th ops ⟨env,bs⟩ o [] with
  | some (true,_,_,_)=>
   match tO P ⟨env,bs⟩ o ans with
   | some (e,_,fN,gC)=>
    match (match o.dst with | some d=>gs.contains d | none=>false),e.p.leaf,fN with
    | true,some (.bg c),.qb b::r=>
     (wv P ops gs bs rest (dJ.apply { ext e env with p:=.one (.v (.bool b)) } env) r).map fun x=>({ ext e env with p:=.one (.v (.bool b)) }::x.1,x.2.1,x.2.2.1,(c=b)::(gC++x.2.2.2))
    | _,_,_=>(wv P ops gs bs rest ((ext e env).apply env) fN).map fun x=>(ext e env::x.1,x.2.1,x.2.2.1,gC++x.2.2.2)
   | none=>
    match wR P ⟨env,bs⟩ o ans with
    | some (e,fN,gC)=>(wv P ops gs bs rest (e.apply env) fN).map fun x=>(e::x.1,x.2.1,x.2.2.1,gC++x.2.2.2)
    | none=>none
  | some (false,_,_,_)=>
   match o.dst with
   | some d=>(wv P ops gs bs rest ((AI d).apply env) ans).map fun x=>(AI d::x.1,x.2.1,x.2.2.1,x.2.2.2)
   | none=>none
  | none=>none
def Fact(P:Program)(ops:Array Oper)(bs:List (Nat×List aG))(env:List aI)(o:Oper)(e:dJ):Prop:=
 (∃st1 dN cy,th ops ⟨env,bs⟩ o []=some (false,st1,dN,cy)/\∃d,o.dst=some d/\e=AI d)\/
 (∃st1 dN cy,th ops ⟨env,bs⟩ o []=some (true,st1,dN,cy)/\∃ans bE g cv obs,tO P ⟨env,bs⟩ o ans=some (bE,g,cv,obs)/\cO obs/\
  ∃u,(e={ bE with use:=u }\/∃c b,bE.p=.one (.bg c)/\c=b/\e={ bE with use:=u,p:=.one (.v (.bool b)) }))\/
 (∃st1 dN cy,th ops ⟨env,bs⟩ o []=some (true,st1,dN,cy)/\∃ans cv obs,wR P ⟨env,bs⟩ o ans=some (e,cv,obs)/\cO obs)
theorem Dp{ops:Array Oper}{gs:List Nat}:∀{l:List Oper} {env vk:List aI} {ans cv:List cf} {es:List dJ} {obs:List Prop},
  wv P ops gs bs l env ans=some (es,vk,cv,obs)->cO obs->
  es.length=l.length/\vk=es.foldl (fun env e=>e.apply env) env/\∀(i:Nat) (o:Oper),l[i]?=some o->∃e,es[i]?=some e/\Fact P ops bs ((es.take i).foldl (fun env e=>e.apply env) env) o e
 | [],env,vk,ans,cv,es,obs,h,_=>by
  simp_all[wv,aZ,bL]
 | o::rest,env,vk,ans,cv,es,obs,h,a8=>by
  have fin:∀(e:dJ) (dT:List dJ) (JJ:List aI),(dT.length=rest.length/\JJ=dT.foldl (fun env e=>e.apply env) (e.apply env)/\∀(i:Nat) (o:Oper),rest[i]?=some o->∃e',dT[i]?=some e'/\Fact P ops bs ((dT.take i).foldl (fun env e=>e.apply env) (e.apply env)) o e')->
    Fact P ops bs env o e->(e::dT).length=(o::rest).length/\JJ=(e::dT).foldl (fun env e=>e.apply env) env/\∀(i:Nat) (rN:Oper),(o::rest)[i]?=some rN->∃e',(e::dT)[i]?=some e'/\Fact P ops bs (((e::dT).take i).foldl (fun env e=>e.apply env) env) rN e':=by
   intro e dT JJ ⟨h1,U,aA⟩ bI;refine⟨by simp[h1],U,fun i rN m'=>?_⟩;cases i with
   | zero=>grind
   | succ i=>grind
  simp only[wv]at h;split at h
  ·rename_i st1 dN cy hw;split at h
   ·rename_i e g fN gC aE;split at h
    ·rename_i c b r ay al;rw[ca]at h;obtain⟨⟨gY,gN,lU,sf⟩,h1,h⟩:=h;simp only[bL]at h;obtain⟨rfl,rfl,_,rfl⟩:=h;have Tl:(c=b)/\cO sf:=⟨a8.1,(cO.append a8.2).2⟩
     have Cx:=(cO.append a8.2).1;refine fin _ _ _ (Dp h1 Tl.2) (.inr (.inl ⟨_,_,_,hw,_,_,_,_,_,aE,Cx,(MN e env).choose,.inr ⟨c,b,?_,?_,?_⟩⟩))
     ·cases hp:e.p with
      | aF a=>
       rw[hp]at al;cases a with
       | one l=>grind[aI.leaf,aZ]
       | agg ls=>cases al
      | gx as=>rw[hp]at al;cases al
     ·exact Tl.1
     grind
    rw[ca]at h;obtain⟨⟨gY,gN,lU,sf⟩,h1,h⟩:=h;simp only[bL]at h;obtain⟨rfl,rfl,_,rfl⟩:=h;obtain⟨Cx,ci⟩:=a8.append;exact fin _ _ _ (Dp h1 ci) (.inr (.inl ⟨_,_,_,hw,_,_,_,_,_,aE,Cx,(MN e env).choose,.inl (MN e env).choose_spec⟩))
   split at h
   ·rename_i e fN gC KN;rw[ca]at h;obtain⟨⟨gY,gN,lU,sf⟩,h1,h⟩:=h;simp only[bL]at h;obtain⟨rfl,rfl,_,rfl⟩:=h;obtain⟨Cx,ci⟩:=a8.append;exact fin _ _ _ (Dp h1 ci) (.inr (.inr ⟨_,_,_,hw,_,_,_,KN,Cx⟩))
   cases h
  ·rename_i st1 dN cy hw;split at h
   ·rename_i d aE;rw[ca]at h;obtain⟨⟨gY,gN,lU,sf⟩,h1,h⟩:=h;simp only[bL]at h;obtain⟨rfl,rfl,_,rfl⟩:=h;exact fin _ _ _ (Dp h1 a8) (.inl ⟨_,_,_,hw,d,aE,rfl⟩)
   cases h
  cases h
end Go.Sx
namespace Go.Sx
open Go.RowKit
variable{st bG:aD}
theorem TT{parts:List (Nat×Operand)}(h:∀x∈parts,st.bt x.2=bG.bt x.2):(parts.map fun x=>(x.1,st.bt x.2))=parts.map fun x=>(x.1,bG.bt x.2):=
 lX fun x ag=>by rw[h x ag]
variable{P:Program}{ans:List cf}
theorem TU{op:Op}(aw:st.boxes=bG.boxes)(h:∀x∈op.operands.toList,st.bt x=bG.bt x):rW P st op ans=rW P bG op ans:=by
 cases op<;>simp only[rW,Op.operands,ev,List.mem_nil_iff,forall_eq_or_imp,or_false,forall_eq]at h ⊢
 case load t x=>grind[Gh]
 case slice t x c7 hi jL=>
  have ag:st.bt x=bG.bt x:=h x (by simp);have a8:∀o:Option Operand,(∀y,o=some y->st.bt y=bG.bt y)->nf st o=nf bG o:=by
   intro o a8;cases o with
   | none=>rfl
   | some y=>simp_all[nf]
  simp_all[Gi]
 case build t cz=>
  have:(cz.toList.map fun x=>(x.1,st.bt x.2))=cz.toList.map fun x=>(x.1,bG.bt x.2):=TT fun x ag=>h x.2 (by grind)
  grind[Gj]
 case call c=>
  obtain⟨callee,args,ts⟩:=c;cases callee with
  | value f=>rfl
  | invoke r i=>rfl
  | builtin b=>
   simp only[Call.operands]at h;have kS:∀x∈args.toList,st.bt x=bG.bt x:=fun x ag=>h x (by grind)
   simp only;generalize args.toList=l at kS;unfold Gm;grind
 case makeFunc fn first captured=>
  have ai:captured.toList.map st.bt=captured.toList.map bG.bt:=lX fun x ag=>h x (by grind)
  simp only[Gl,ai]
 all_goals simp[h]
variable{o:Oper}
theorem az6(aw:st.boxes=bG.boxes)(h:∀x∈o.op.operands.toList,st.bt x=bG.bt x):tO P st o ans=tO P bG o ans:=by
 obtain⟨dst,op,type,pos,after,guard⟩:=o;simp only at h;cases dst with
 | none=>
  cases op with
  | store ty x y=>
   cases x with
   | tmp s=>
    simp_all[Op.operands,aD.bt,tO]
   | _=>rfl
  | _=>rfl
 | some d=>
  unfold tO;split
  ·rename_i f args ts e1 e2;simp only at e1 e2;subst e2;have kS:∀x∈args.toList,st.bt x=bG.bt x:=fun x ag=>h x (by grind[Op.operands,Call.operands])
   have:args.toList.mapM (fun x=>(st.bt x).kO st.boxes)=args.toList.mapM (fun x=>(bG.bt x).kO bG.boxes):=by
    rw[<-aw];generalize args.toList=l at kS;generalize st.boxes=bs;induction l with
    | nil=>rfl
    | cons x l eA=>grind
   rw[this]
  ·rename_i t n parts e1 e2;simp only at e1 e2;subst e2;have:(parts.toList.map fun x=>(x.1,st.bt x.2))=parts.toList.map fun x=>(x.1,bG.bt x.2):=TT fun x ag=>h x.2 (by grind[Op.operands])
   grind[E']
  ·rename_i x y t dx e1 e2;simp only at e1 e2;subst e2;have ag:st.bt x=bG.bt x:=h x (by simp[Op.operands,Call.operands]);have bu:st.bt y=bG.bt y:=h y (by simp[Op.operands,Call.operands]);simp only[Bl,ag,bu]
  ·rfl
  ·rfl
  ·grind[Op.operands]
  ·rename_i t x c7 hi jL e1 e2;simp only at e1 e2;subst e2;have ag:st.bt x=bG.bt x:=h x (by simp[Op.operands]);have a8:∀o:Option Operand,(∀y,o=some y->st.bt y=bG.bt y)->nf st o=nf bG o:=by
    intro o a8;cases o with
    | none=>rfl
    | some y=>simp_all[nf]
   rw[TU aw h];simp only[JG,ag];rw[a8 c7 (fun y e=>h y (by simp[Op.operands,e])),a8 hi (fun y e=>h y (by simp[Op.operands,e]))]
  ·rw[TU aw h]
  ·grind
  rfl
theorem RZ{x:Operand}(h:∀t,Uj x=some t->st.env.getD t .cp=bG.env.getD t .cp):st.bt x=bG.bt x:=by
 cases x with
 | tmp t=>simpa[aD.bt]using h t rfl
 | _=>rfl
def nJ(ms:List Nat)(i j:Nat):Bool:=(ms.getD j 0).testBit i
def yj(ms:List Nat):List Edge->Nat
 | []=>0
 | e::r=>if Region.binds .any e then (2 ^ e.on ||| ms.getD e.on 0) ||| yj ms r else yj ms r
def sW:List Oper->List Nat->List Nat
 | [],acc=>acc
 | o::r,acc=>sW r (acc++[yj acc o.after.toList])
variable{ms:List Nat}{i:Nat}
theorem MO:∀{l:List Edge},(yj ms l).testBit i=true->∃e∈l,Region.binds .any e=true/\(i=e.on\/nJ ms i e.on=true)
 | [],h=>by grind[yj]
 | e::r,h=>by
  simp only[yj]at h;split at h
  ·rename_i aw;rw[Nat.testBit_or,Nat.testBit_or,o5,o5,Nat.testBit_two_pow,cj]at h;rcases h with (h | h) | h
   ·grind
   ·exact⟨e,by simp,aw,.inr h⟩
   obtain⟨e',h1,U⟩:=MO h;exact⟨e',by simp[h1],U⟩
  obtain⟨e',h1,U⟩:=MO h;exact⟨e',by simp[h1],U⟩
def su{α:Type}(f:Nat->α->Bool):Nat->List α->Bool
 | _,[]=>true
 | k,x::r=>f k x&&su f (k+1) r
theorem yk{α:Type}{f:Nat->α->Bool}:∀{l:List α} {k:Nat},su f k l=true->∀(i:Nat) (x:α),l[i]?=some x->f (k+i) x=true
 | [],_,_,i,x,h=>by simp at h
 | y::r,k,h,0,x,ag=>by
  simp_all[su,cu]
 | y::r,k,h,i+1,x,ag=>by
  simp only[su,cu]at h;have:=yk h.2 i x (by simpa using ag);rwa[show k+1+i=k+(i+1) by omega]at this
def tj(ms:List Nat)(os:List Oper):Bool:=
 su (fun j o=>ms.getD j 0==yj ms o.after.toList&&o.after.toList.all fun e=>!Region.binds .any e||decide (e.on<j)) 0 os
variable{ops:Array Oper}
theorem MP(h:tj ms ops.toList=true){j:Nat}(a8:ops[j]?=some o):(∀e∈o.after,Region.binds .any e=true->e.on<j)/\
  ∀i,nJ ms i j=true->∃e∈o.after,Region.binds .any e=true/\(i=e.on\/nJ ms i e.on=true):=by
 have:=yk h j o (by grind);simp only[dX,cu,kq,gn,o5,gp,cj]at this;grind[nJ,MO]
def r1(ops:Array Oper)(b6:Array Bool):Prop:=
 ∀(j:Nat) (o:Oper),b6.getD j false=true->ops[j]?=some o->∀e∈o.after,Region.binds .any e=true->b6.getD e.on false=true
variable{b6:Array Bool}
theorem Hj{j:Nat}(h:b6.getD j false=true):j<b6.size:=by
 grind
theorem Hk(h:tj ms ops.toList=true)(ai:r1 ops b6)(ao:b6.size=ops.size):∀(j:Nat),b6.getD j false=true->nJ ms i j=true->b6.getD i false=true:=by
 intro j;induction j using Nat.strongRecOn with
 | ind j eA=>
  intro bf ah;have bR:j<ops.size:=ao▸Hj bf;have a8:ops[j]?=some ops[j]:=lV bR;obtain⟨h1,U⟩:=MP h a8;obtain⟨e,he,aw,sF⟩:=U i ah;have zm:=ai j _ bf a8 e he aw;grind
variable{k:Nat}
theorem Dq(h:tj ms ops.toList=true)(ai:r1 ops b6)(ao:b6.size=ops.size)(hi:i∈Region.ready .any ops b6)(ah:nJ ms k i=true):b6.getD k false=true:=by
 rw[mem_ready]at hi;obtain⟨_,o,a8,he⟩:=hi;obtain⟨_,U⟩:=MP h a8;obtain⟨e,FA,aw,sF⟩:=U k ah;rcases sF with rfl | sF
 ·grind
 grind[Hk]
theorem r1.ready(ai:r1 ops b6)(hi:i∈Region.ready .any ops b6):r1 ops (b6.setIfInBounds i true):=by
 intro j o bf a8 e he aw;rw[mem_ready]at hi;obtain⟨_,aGo,aF0,qs⟩:=hi;by_cases oD:i=j
 ·grind[getD_set_true]
 rw[getD_set_ne false oD]at bf;exact getD_set_true (ai j o bf a8 e he aw)
theorem MQ(h:tj ms ops.toList=true)(ao:b6.size=ops.size)(aC:Region.ready .any ops b6=[]):∀j,j<ops.size->b6.getD j false=true:=by
 intro j;induction j using Nat.strongRecOn with
 | ind j eA=>
  intro bR;have a8:ops[j]?=some ops[j]:=lV bR;obtain⟨h1,_⟩:=MP h a8;cases al:b6.getD j false with
  | true=>rfl
  | false=>
   have:j∈Region.ready .any ops b6:=by
    grind[mem_ready,Nat.lt_trans]
   grind
def Dr(e:dJ):List Nat:=e.dst.toList++e.use
def Hl(ops:Array Oper)(o:Oper)(e:dJ):List Nat:=Dr e++reads ops o
def F2(ms:List Nat)(i k:Nat):Bool:=if k<i then nJ ms k i else nJ ms i k
def MR(ops:Array Oper)(ms:List Nat)(es:List dJ):Bool:=
 su (fun i x=>su (fun k e=>k==i||F2 ms i k||!((Dr e).any fun t=>(Hl ops x.1 x.2).contains t)) 0 es) 0 (ops.toList.zip es)
def AJ(ms:List Nat)(es:List dJ)(i c7:Nat)(s:Option Nat):Bool:=es.zipIdx.any fun y=>decide (c7<=y.2)&&nJ ms y.2 i&&(match s with | some t=>y.1.use.contains t | none=>false)
variable{es:List dJ}
theorem TV{c7:Nat}{s:Option Nat}(h:AJ ms es i c7 s=true):∃m y t,es[m]?=some y/\c7<=m/\nJ ms m i=true/\t∈y.use/\s=some t:=by
 unfold AJ at h;grind
def MS(ms:List Nat)(es:List dJ)(env0:List aI)(bs:List (Nat×List aG)):Bool:=
 su (fun i e=>e.oV.isEmpty||
  (su (fun j x=>j==i||nJ ms i j||!x.p.fa e.oV||(match x.dst with | some t=>e.use.contains t | none=>false)||x.dst==e.dst||AJ ms es i (j+1) x.dst) 0 es&&
   su (fun t p=>!p.fa e.oV||e.use.contains t||AJ ms es i 0 (some t)||e.dst==some t) 0 env0&&
   bs.all fun x=>!x.2.any (aG.fa e.oV))) 0 es
variable{e:dJ}
theorem TW{t:Nat}(h:e.hj t≠none):t∈Dr e:=by
 unfold dJ.hj at h;split at h
 ·grind[Dr]
 simp_all[Dr,absurd]
theorem TX(h:MR ops ms es=true){iu JI:dJ}(a8:ops[i]?=some o)(hi:es[i]?=some iu)(hk:es[k]?=some JI)(cZ:k≠i){t:Nat}
  (bK:JI.hj t≠none) (aW:t∈Hl ops o iu):F2 ms i k=true:=by
 have h1:=yk h i (o,iu) (by
  grind)
 have U:=yk h1 k JI hk;simp only[dX,o5,kq,gp]at U;rcases U with (U | U) | U
 ·grind
 ·exact U
 simp_all[fx,TW,List.contains_iff_mem,absurd]
variable{r:gP}
theorem Tag.rL(h:r.isEmpty=true)(t:Tag):t.fa r=false:=by
 cases t with
 | free=>rfl
 | own s=>rw[List.isEmpty_iff]at h;subst h;rfl
 | ro s=>rw[List.isEmpty_iff]at h;subst h;rfl
theorem aG.rL(h:r.isEmpty=true)(l:aG):l.fa r=false:=by
 cases l with
 | aR t i j k es m=>exact Tag.rL h (.own t)
 | fP t vs=>
  simp only[aG.fa,fC];refine⟨Tag.rL h (.own t),fx.2 fun c _=>?_⟩;cases c with
  | cp=>simp[fq.fa]
  | v x=>simp[fq.fa]
  | J t k es=>simp[fq.fa,Tag.rL h]
 | _=>simp[aG.fa,Tag.rL h]
theorem bp.rL(h:r.isEmpty=true)(a:bp):a.fa r=false:=by
 cases a<;>simp[bp.fa,aG.rL h]
theorem aI.rL(h:r.isEmpty=true)(p:aI):p.fa r=false:=by
 cases p<;>simp[aI.fa,bp.rL h]
variable{bs:List (Nat×List aG)}
theorem az7{env0:List aI}(h:MS ms es env0 bs=true)(hi:es[i]?=some e):
  (∀(j:Nat) (x:dJ),es[j]?=some x->j≠i->nJ ms i j=true\/x.p.fa e.oV=false\/(∃t,x.dst=some t/\t∈e.use)\/x.dst=e.dst\/AJ ms es i (j+1) x.dst=true)/\
  (∀(t:Nat) (p:aI),env0[t]?=some p->((p.fa e.oV=false\/t∈e.use)\/AJ ms es i 0 (some t)=true)\/e.dst=some t)/\∀x∈bs,x.2.any (aG.fa e.oV)=false:=by
 have h1:=yk h i e hi;simp only[o5,cj]at h1;rcases h1 with h1 | h1
 ·grind[aI.rL,fx,aG.rL]
 simp only[cu]at h1;obtain⟨⟨h1,U⟩,aA⟩:=h1;refine⟨fun j x ag cZ=>?_,fun t p hp=>?_,fun x ag=>?_⟩
 ·have:=yk h1 j x ag;grind
 ·have:=yk U t p hp;grind
 grind
theorem MT{L:Nat->Bool}{t:Nat}:∀{es:List dJ} {k:Nat} {acc:aI},(hU L t k es acc=acc/\∀(m:Nat) (y:dJ),es[m]?=some y->L (k+m)=true->y.hj t=none)\/hU L t k es acc=.cp\/
  ∃j e,es[j]?=some e/\L (k+j)=true/\e.dst=some t/\hU L t k es acc=e.p/\∀(m:Nat) (y:dJ),es[m]?=some y->j<m->L (k+m)=true->y.hj t=none
 | [],_,_=>.inl ⟨rfl,fun m y h=>by simp at h⟩
 | e::es,k,acc=>by
  simp only[hU];rcases MT (L:=L) (t:=t) (es:=es) (k:=k+1) (acc:=if L k then (e.hj t).getD acc else acc) with⟨h,aW⟩ | h | ⟨j,e',h1,U,aA,aJ,a7⟩
  ·have tail:∀(m:Nat) (y:dJ),(e::es)[m+1]?=some y->L (k+(m+1))=true->y.hj t=none:=fun m y bu al=>aW m y (by grind) (by grind)
   by_cases cJ:L k=true
   ·rw[bq cJ]at h ⊢;unfold dJ.hj at h ⊢;by_cases aE:e.dst=some t
    ·rw[bq aE]at h ⊢;refine .inr (.inr ⟨0,e,rfl,cJ,aE,h,fun m y bu hm al=>?_⟩);cases m with
     | zero=>omega
     | succ m=>exact tail m y bu al
    rw[bD aE]at h ⊢;by_cases hu:t∈e.use
    ·grind
    rw[bD hu]at h ⊢;refine .inl ⟨h,fun m y bu al=>?_⟩;cases m with
    | zero=>
     grind
    | succ m=>exact tail m y bu al
   grind
  ·grind
  refine .inr (.inr ⟨j+1,e',by grind,by grind,aA,aJ,fun m y bu hm al=>?_⟩);grind
theorem TY{t:Nat}:∀{es:List dJ} {k i:Nat} {acc:aI} {e:dJ},es[i]?=some e->
  hU (fun j=>decide (j<k+i+1)) t k es acc=(e.hj t).getD (hU (fun j=>decide (j<k+i)) t k es acc)
 | [],_,_,_,_,h=>by simp at h
 | bE::es,k,0,acc,e,h=>by
  simp at h;subst h;have jH:∀(es:List dJ) (k m:Nat) (acc:aI),m<=k->hU (fun j=>decide (j<m)) t k es acc=acc:=by
   intro es;induction es with
   | nil=>intro k m acc _;rfl
   | cons e1 es eA=>
    intro k m acc hm;simp only[hU];rw[bD (by grind)];exact eA (k+1) m acc (by omega)
  simp_all[hU,bq,bD]
 | bE::es,k,i+1,acc,e,h=>by
  simp only[hU];rw[bq (by simp;omega),bq (by simp)];have:=TY (t:=t) (es:=es) (k:=k+1) (i:=i) (acc:=(bE.hj t).getD acc) (by simpa using h);rw[show k+1+i+1=k+(i+1)+1 by omega,show k+1+i=k+(i+1) by omega]at this;exact this
theorem Hm{env0:List aI}{bs:List (Nat×List aG)}(aE:∀(i:Nat) (e:dJ),es[i]?=some e->e.dst≠none):∀(i:Nat),i<=es.length->
  (es.take i).foldl (fun env e=>e.apply env) env0=(fv env0 bs (fun j=>decide (j<i)) es).env
 | 0,_=>by
  apply List.ext_getElem?;intro t;rw[r0];have jH:∀(es:List dJ) (k:Nat) (acc:aI),hU (fun j=>decide (j<0)) t k es acc=acc:=by
   intro es;induction es with
   | nil=>intro k acc;rfl
   | cons e1 es eA=>simp_all[hU,bD]
  grind
 | i+1,hi=>by
  have bR:i<es.length:=by omega
  have he:es[i]?=some es[i]:=gU bR;have eA:=Hm (env0:=env0) (bs:=bs) aE i (by omega);rw[o4,he,Bd,List.foldl_append,eA];simp only[List.foldl_cons,List.foldl_nil];apply List.ext_getElem?;intro t;rw[dJ.apply_get (aE i _ he),r0,r0];cases h:env0[t]? with
  | none=>rfl
  | some p=>
   have:=TY (t:=t) (es:=es) (k:=0) (i:=i) (acc:=p) he;grind
theorem Mj{bG:aD}{st1:aD}{dN:List cf}{cy:List Prop}{b:Bool}(h:th ops st o []=some (b,st1,dN,cy))(ao:∀t∈reads ops o,st.env.getD t .cp=bG.env.getD t .cp):
  th ops bG o []=some (b,bG,[],[]):=by
 unfold th at h ⊢;cases ay:o.guard with
 | none=>grind
 | some g=>
  obtain⟨j,want⟩:=g;rw[ay]at h;simp only at h ⊢;cases aE:(ops[j]?).bind (·.dst) with
  | none=>grind
  | some s=>
   grind[reads,ML,aZ,bL]
variable{cv:List cf}{obs:List Prop}
theorem Vo(h:wR P st o ans=some (e,cv,obs)):
  ∃(v:iQ) (d:Nat) (x y:Operand) (t:TypeId),ti st o=some v/\o.dst=some d/\o.op=.call ⟨.builtin .append,⟨[x,y]⟩,⟨[t,t]⟩⟩/\vf P t v.t v.i v.j v.k v.es v.esT (st.bt y) ans=some (e.p,cv,obs)/\
   e=⟨some d,e.p,[],[]⟩/\(st.bt x).leaf=some (.aR v.t v.i v.j v.k v.es .here)/\Ir v.t st.boxes=some (v.kT,v.esT):=by
 obtain⟨dst,op,type,pos,after,guard⟩:=o;unfold wR at h;split at h
 ·rename_i v d hl y t dx hi aE rB;simp only at aE rB;subst aE;subst rB;split at h
  ·rename_i Cg;subst Cg;rw[ca]at h;obtain⟨⟨bC,b2,cg⟩,h1,h⟩:=h;simp only[bL]at h;obtain⟨rfl,rfl,rfl⟩:=h;have oC:=hi;simp only[ti]at oC;grind
  cases h
 cases h
theorem Vp{st bG:aD}(aw:st.boxes=bG.boxes)(h:∀x∈o.op.operands.toList,st.bt x=bG.bt x):ti st o=ti bG o:=by
 obtain⟨dst,op,type,pos,after,guard⟩:=o;simp only at h;unfold ti;simp only;split
 ·grind[Op.operands,Call.operands]
 rfl
theorem az8(aw:st.boxes=bG.boxes)(h:∀x∈o.op.operands.toList,st.bt x=bG.bt x):wR P st o ans=wR P bG o ans:=by
 unfold wR;rw[Vp aw h];split
 ·grind[Op.operands,Call.operands]
 rfl
theorem az9{v:iQ}{q:aI}(h:q.mi v.oe):∀a∈q.idx v.t v.j,a=v.i:=by
 have one:∀{a:bp},a.mi v.oe->∀x∈a.idx v.t v.j,x=v.i:=by
  intro a ah x ag;cases a with
  | one l=>exact ah.2 x ag
  | agg ls=>
   obtain⟨l,al,ag⟩:=lA.1 ag;exact (ah l al).2 x ag
 intro x ag;cases q with
 | aF a=>exact one h x ag
 | gx as=>
  obtain⟨a,ah,ag⟩:=lA.1 ag;exact one (h a ah) x ag
theorem aAa{v:iQ}{q:aI}(h:q.mi v.oe):q.map (hV v.t v.i v.j v.k v.es v.kT v.esT)=q:=by
 have ls:∀{ls:List aG},(∀l∈ls,v.oe l)->ls.map (hV v.t v.i v.j v.k v.es v.kT v.esT)=ls:=by
  intro ls al
  conv=>rhs;rw[<-tE ls]
  exact lX fun l hm=>(al l hm).1
 have one:∀{a:bp},a.mi v.oe->a.map (hV v.t v.i v.j v.k v.es v.kT v.esT)=a:=by
  intro a ah;cases a with
  | one l=>simp only[bp.map];rw[ah.1]
  | agg l=>simp only[bp.map];rw[ls ah]
 cases q with
 | aF a=>simp only[aI.map];rw[one h]
 | gx as=>
  simp only[aI.map]
  congr 1
  conv=>rhs;rw[<-tE as]
  exact lX fun a hm=>one (h a hm)
theorem Fact.dst{env:List aI}(h:Fact P ops bs env o e):e.dst≠none:=by
 rcases h with⟨_,_,_,_,d,aE,rfl⟩ | ⟨_,_,_,_,ans,bE,g,cv,obs,h1,_,U⟩ | ⟨_,_,_,_,ans,cv,obs,h1,_⟩
 rotate_left 2
 ·grind[Vo]
 ·simp[AI]
 obtain⟨_,d,aJ,_⟩:=TP h1;grind
variable{w0:eT}{a:Act}{w:World}
theorem Rel.bool{env:List aI}{d:Nat}{c:Bool}(h:Rel w0 ⟨env.set d (.one (.bg c)),bs⟩ a w):Rel w0 ⟨env.set d (.one (.v (.bool c))),bs⟩ a w:=by
 obtain⟨ω,τ,h⟩:=h;refine⟨ω,τ,h.defers,by have:=h.size;grind,h.below,h.owned,h.fixed,h.pinned,fun i p hp=>?_,h.boxes⟩;by_cases hi:d=i
 ·subst hi;rw[p7]at hp;split at hp
  ·split at hp
   ·rename_i al;simp only[aZ]at hp;subst hp;obtain⟨v,h1,U⟩:=h.env d (.one (.bg c)) (by simp[al]);exact⟨v,h1,U⟩
   cases hp
  grind
 exact h.env i p (by grind)
section
variable {P : Program} {ops : Array Oper} {bs : List (Nat × List aG)} {env0 : List aI} {es : List dJ} {ms : List Nat}
def fH(b6:Array Bool)(j:Nat):Bool:=b6.getD j false
structure q4 (P:Program) (ops:Array Oper) (bs:List (Nat×List aG)) (env0:List aI) (es:List dJ) (ms:List Nat):Prop where
 len:es.length<=ops.size
 facts:∀(i:Nat) (o:Oper),i<es.length->ops[i]?=some o->∃e,es[i]?=some e/\Fact P ops bs (fv env0 bs (fun j=>decide (j<i)) es).env o e
 masks:tj ms ops.toList=true
 aR:∀(i:Nat) (o:Oper) (v:iQ),i<es.length->ops[i]?=some o->ti ⟨(fv env0 bs (fun j=>decide (j<i)) es).env,bs⟩ o=some v->
  (∀q∈env0,q.mi v.oe)/\(∀(j:Nat) (x:dJ),es[j]?=some x->j≠i->x.p.mi v.oe)/\∀x∈bs,∀l∈x.2,v.oe l
 ord:MR ops ms es=true
 tok:MS ms es env0 bs=true
variable{b6:Array Bool}{i:Nat}{e:dJ}
theorem q4.same(h:q4 P ops bs env0 es ms)(ai:r1 ops b6)(ao:b6.size=ops.size)(hi:i∈Region.ready .any ops b6){o:Oper}(a8:ops[i]?=some o)(he:es[i]?=some e)
  {t:Nat} (bK:t∈Hl ops o e):(fv env0 bs (fH b6) es).env.getD t .cp=(fv env0 bs (fun j=>decide (j<i)) es).env.getD t .cp:=by
 rw[ly,ly,r0,r0];have gV:b6.getD i false=false:=by
  have bJ:=(mem_ready.1 hi).1;grind
 cases aFA:env0[t]? with
 | none=>rfl
 | some p=>
  simp only[sk,lW];refine Dn fun j tQ bf FP=>?_
  rw[dX];by_cases ua:j=i
  ·grind[fH]
  have:=TX h.ord a8 he bf ua FP bK;unfold F2 at this;split at this
  ·rename_i bR;have:=Dq h.masks ai ao hi this;grind[fH]
  rename_i bR;cases KA:b6.getD j false with
  | false=>grind[fH]
  | true=>have:=Hk h.masks ai ao j KA this;grind
theorem Mk(bR:i<b6.size)(j:Nat):fH (b6.setIfInBounds i true) j=(if j=i then true else fH b6 j):=by
 unfold fH;split
 ·simp_all
 simp_all[getD_set_ne,false,Ne.symm]
theorem q4.e9(h:q4 P ops bs env0 es ms)(bR:i<b6.size)(he:es[i]?=some e){t:Nat}(bK:e.hj t=none)(p:aI):
  hU (fH (b6.setIfInBounds i true)) t 0 es p=hU (fH b6) t 0 es p:=by
 refine Dn fun j tQ bf FP=>?_
 rw[dX,Mk bR,bD];grind
theorem q4.last(h:q4 P ops bs env0 es ms)(ai:r1 ops b6)(ao:b6.size=ops.size)(hi:i∈Region.ready .any ops b6){o:Oper}(a8:ops[i]?=some o)(he:es[i]?=some e)
  {t:Nat} {q:aI} (bK:e.hj t=some q) (p:aI):hU (fH (b6.setIfInBounds i true)) t 0 es p=q:=by
 have bR:i<b6.size:=ao▸(jj.1 a8).1;have gV:b6.getD i false=false:=by
  have bJ:=(mem_ready.1 hi).1;grind
 refine TR he bK (by rw[dX,Mk bR,bq rfl]) fun j tQ bf ad7 FP=>?_
 rw[dX,Mk bR,bD (by omega)];have:=TX h.ord a8 he ad7 (by omega) FP (t:=t) (by
  grind[Hl,hJ,TW])
 unfold F2 at this;rw[bD (by omega)]at this;cases KA:fH b6 j with
 | false=>rfl
 | true=>have:=Hk h.masks ai ao j KA this;grind
theorem q4.step(h:q4 P ops bs env0 es ms)(ai:r1 ops b6)(ao:b6.size=ops.size)(hi:i∈Region.ready .any ops b6)(qs:i<es.length){w0:eT}{w:World}{a:Act}
  (aC:Rel w0 (fv env0 bs (fH b6) es) a w) {Q:Exit->Act->World->Prop} {K:Act->World->Prop} (iv:∀cQ aN,Rel w0 (fv env0 bs (fH (b6.setIfInBounds i true)) es) cQ aN->K cQ aN):wpOp P ops Q i K a w:=by
 obtain⟨bJ,o,a8,aFy⟩:=mem_ready.1 hi;obtain⟨e,he,bI⟩:=h.facts i o qs a8;have bR:i<b6.size:=ao▸(jj.1 a8).1;have aeO:=fun t bK=>h.same ai ao hi a8 he (t:=t) bK
 have Ca:∀t∈reads ops o,(fv env0 bs (fun j=>decide (j<i)) es).env.getD t .cp=(fv env0 bs (fH b6) es).env.getD t .cp:=fun t bK=>(aeO t (iN _ bK)).symm
 unfold wpOp;rw[a8];simp only;rcases bI with⟨st1,dN,cy,hw,d,aE,rfl⟩ | ⟨st1,dN,cy,hw,ans,bE,g,cv,obs,fj,KF,Km⟩ | ⟨st1,dN,cy,hw,ans,cv,obs,KN,KF⟩
 rotate_left 2
 ·have Ci:=Mj hw (bG:=fv env0 bs (fH b6) es) Ca;obtain⟨sP,_⟩:=xJ Ci trivial aC;rw[bq sP];left;have Sh:∀x∈o.op.operands.toList,(fv env0 bs (fH b6) es).bt x=aD.bt ⟨(fv env0 bs (fun j=>decide (j<i)) es).env,bs⟩ x:=fun x ag=>RZ fun t bK=>(Ca t (by
   grind[reads,hJ])).symm
  have Kf:wR P (fv env0 bs (fH b6) es) o ans=some (e,cv,obs):=by
   rw[<-KN];exact az8 rfl Sh
  obtain⟨v,d,x,y,t,ad1,aE,rB,vt,sF,ag,pw⟩:=Vo Kf;have ad2:ti ⟨(fv env0 bs (fun j=>decide (j<i)) es).env,bs⟩ o=some v:=by
   rw[<-ad1];exact (Vp (st:=fv env0 bs (fH b6) es) (bG:=⟨(fv env0 bs (fun j=>decide (j<i)) es).env,bs⟩) rfl Sh).symm
  obtain⟨aFC,adJ,Si⟩:=h.aR i o v qs a8 ad2;have gV:b6.getD i false=false:=by
   grind
  have vy:∀q∈(fv env0 bs (fH b6) es).env,q.mi v.oe:=by
   intro q aH;simp only[fv]at aH;rw[kr]at aH;obtain⟨⟨ic,n⟩,hm,rfl⟩:=aH;have mv:ic∈env0:=by
    grind
   simp only;rcases MT (L:=fH b6) (t:=n) (es:=es) (k:=0) (acc:=ic) with⟨h1,_⟩ | h1 | ⟨j,tQ,h1,U,_,aJ,_⟩
   ·grind
   ·rw[h1];exact⟨rfl,fun a ah=>by grind[aG.idx]⟩
   rw[aJ];refine adJ j tQ h1 ?_;rintro rfl;rw[dX]at U;grind[fH]
  have FF:(fv env0 bs (fH b6) es).map (hV v.t v.i v.j v.k v.es v.kT v.esT)=fv env0 bs (fH b6) es:=by
   have e1:(fv env0 bs (fH b6) es).env.map (aI.map (hV v.t v.i v.j v.k v.es v.kT v.esT))=(fv env0 bs (fH b6) es).env:=by
    conv=>rhs;rw[<-tE (fv env0 bs (fH b6) es).env]
    grind[lX,aAa]
   have e2:bs.map (fun x=>(x.1,x.2.map (hV v.t v.i v.j v.k v.es v.kT v.esT)))=bs:=by
    conv=>rhs;rw[<-tE bs]
    refine lX fun x ag=>?_
    obtain⟨gY,gN⟩:=x;simp only[id]
    congr 1
    conv=>rhs;rw[<-tE gN]
    exact lX fun l al=>(Si _ ag l al).1
   unfold aD.map;rw[e1];show aD.mk _ (bs.map _)=_;rw[e2];rfl
  have qq:∀a∈(fv env0 bs (fH b6) es).idx v.t v.j,a=v.i:=by
   intro cQ ah;unfold aD.idx at ah;rcases hM.1 ah with ah | ah
   ·grind[az9]
   obtain⟨z,bb,ah⟩:=lA.1 ah;obtain⟨l,al,ah⟩:=lA.1 ah;exact (Si z bb l al).2 cQ ah
  obtain⟨ω,τ,h'⟩:=aC;obtain⟨z,aN,h1,U⟩:=h'.vf (P:=P) (d:=d) (ty:=o.type) (kT:=v.kT) (x:=x) (y:=y) (aI.dU ag (h'.bt x)) vt KF (az5 h' pw) qq;rw[FF]at U;obtain⟨dst,op,type,pos,after,guard⟩:=o;simp only at aE rB;subst aE;subst rB;refine Calls.of (z:=z) (aN:=aN) ?_ (iv _ _ ?_)
  ·have:(execOp a.eval ⟨some d,.call ⟨.builtin .append,⟨[x,y]⟩,⟨[t,t]⟩⟩,type,pos,after,guard⟩)=(builtin .append ⟨[t,t]⟩ type (Array.map (fun | .const _=>true | _=>false) ⟨[x,y]⟩) (Array.map a.eval ⟨[x,y]⟩)):=by
    simp only[execOp,resolve];rfl
   rw[this];exact jW (by grind)
  refine U.weaken (by simp[AH]) rfl ?_;intro n p hp;right;rw[r0,ca]at hp;obtain⟨ic,mv,rfl⟩:=hp;rw[p7];have Kl:e.dst=some d:=by rw[sF]
  have xt:e.use=[]:=by rw[sF]
  by_cases vx:d=n
  ·subst vx;have:d<env0.length:=(ga.1 mv).1;rw[bq rfl,bq (by grind[AH]),h.last ai ao hi a8 he (q:=e.p) (by grind[dJ.hj])]
  rw[bD vx,r0,mv,sk,h.e9 bR he (by grind[dJ.hj])]
 ·have Ci:=Mj hw (bG:=fv env0 bs (fH b6) es) Ca;obtain⟨sP,_⟩:=xJ Ci trivial aC;rw[bD (by grind)];refine iv _ _ ((MG aC).weaken ?_ ?_ ?_)
  ·simp[AH,Dm,aE]
  ·simp[fv,Dm,aE]
  intro t p hp;rw[r0,ca]at hp;obtain⟨ic,mv,rfl⟩:=hp;right;simp only[Dm,aE];rw[p7];by_cases vx:d=t
  ·subst vx;have:d<env0.length:=(ga.1 mv).1;rw[bq rfl,bq (by grind[AH]),h.last ai ao hi a8 he (q:=.one (.v undef)) (by simp[dJ.hj,AI])]
  rw[bD vx,r0,mv,sk,h.e9 bR he (by grind[dJ.hj,AI])]
 have Ci:=Mj hw (bG:=fv env0 bs (fH b6) es) Ca;obtain⟨sP,_⟩:=xJ Ci trivial aC;rw[bq sP];left;have Kf:tO P (fv env0 bs (fH b6) es) o ans=some (bE,g,cv,obs):=by
  rw[<-fj];refine az6 rfl fun x ag=>RZ fun t bK=>(Ca t ?_).symm
  grind[reads,hJ]
 obtain⟨ay,d,Kk,rB⟩:=TP Kf;obtain⟨u,Km⟩:=Km;have zx:e.oV=bE.oV/\e.dst=bE.dst:=by
  grind
 obtain⟨zx,adG⟩:=zx;rw[<-zx]at ay;obtain⟨aeY,aeZ,aF9⟩:=az7 h.tok he;have adq:((fv env0 bs (fH b6) es).map (aG.cN g fun _=>true)).boxes=bs:=by
  simp only[aD.map,fv]
  conv=>rhs;rw[<-tE bs]
  grind[lX,id,Ui]
 refine azX rB KF aC fun cQ aN eW=>iv _ _ ?_
 rw[adq]at eW;have oH:Rel w0 ⟨((fv env0 bs (fH b6) es).map (aG.cN g fun _=>true)).env.set d e.p,bs⟩ cQ aN:=by
  rcases Km with rfl | ⟨c,b,hp,iT,rfl⟩
  ·exact eW
  rw[hp]at eW;subst iT;exact eW.bool
 refine oH.weaken (by simp[AH,aD.map]) rfl ?_;intro t p hp;rw[r0,ca]at hp;obtain⟨ic,mv,rfl⟩:=hp;rw[p7];have Kl:e.dst=some d:=adG.trans Kk;by_cases vx:d=t
 ·subst vx;right;have:d<env0.length:=(ga.1 mv).1;rw[bq rfl,bq (by grind[aD.map,AH]),h.last ai ao hi a8 he (q:=e.p) (by grind[dJ.hj])]
 rw[bD vx];by_cases aGa:t∈e.use
 ·left;exact h.last ai ao hi a8 he (by grind[dJ.hj]) ic
 have Kx:=h.e9 bR he (t:=t) (by grind[dJ.hj]) ic;rw[Kx];have aFW:hU (fH b6) t 0 es ic=.cp\/(hU (fH b6) t 0 es ic).fa e.oV=false:=by
  rcases MT (L:=fH b6) (t:=t) (es:=es) (k:=0) (acc:=ic) with⟨h1,jH⟩ | h1 | ⟨j,tQ,h1,U,aA,aJ,jH⟩
  ·right;rw[h1];rcases aeZ t ic mv with (a7 | a7) | a7
   rotate_left 2
   ·grind
   ·grind
   obtain⟨m,y,dx,hm,_,ah,hu,bK⟩:=TV a7;cases bK;have:=jH m y hm (by rw[dX];exact Dq h.masks ai ao hi ah);unfold dJ.hj at this;grind
  ·exact .inl h1
  right;rw[aJ];rw[dX]at U;have gV:b6.getD i false=false:=by
   grind
  have ua:j≠i:=by grind
  rcases aeY j tQ h1 ua with a7 | a7 | a7 | a7 | a7
  rotate_left 3
  ·grind
  ·obtain⟨m,y,dx,hm,Sz,ah,hu,bK⟩:=TV a7;rw[aA]at bK;cases bK;have:=jH m y hm (by omega) (by rw[dX];exact Dq h.masks ai ao hi ah);unfold dJ.hj at this;grind
  ·have:=Hk h.masks ai ao j U a7;grind
  ·exact a7
  grind
 grind[aD.map,r0,aI.yJ]
def Ml(ops:Array Oper)(ms:List Nat)(k:Nat):Prop:=∀i,k<=i->i<ops.size->∀j,j<i->nJ ms j i=true
theorem q4.any(h:q4 P ops bs env0 es ms)(aw:Ml ops ms es.length){w0:eT}{Q:Exit->Act->World->Prop}
  (j7:∀(h7:Nat) {b6:Array Bool},r1 ops b6->b6.size=ops.size->(∀j,j<es.length->b6.getD j false=true)->(∀j,es.length<=j->b6.getD j false=false)->b6.count false<=h7->
   ∀{a:Act} {w:World},Rel w0 (fv env0 bs (fun j=>decide (j<es.length)) es) a w->wpAny P .any ops Q h7 b6 a w):
  ∀(h7:Nat) {b6:Array Bool},r1 ops b6->b6.size=ops.size->(∀j,es.length<=j->b6.getD j false=false)->b6.count false<=h7->
  ∀{a:Act} {w:World},Rel w0 (fv env0 bs (fH b6) es) a w->wpAny P .any ops Q h7 b6 a w:=by
 intro h7;induction h7 with
 | zero=>
  intro b6 ai ao gV t' a w aC;by_cases h9:∀j,j<es.length->b6.getD j false=true
  ·refine j7 0 ai ao h9 gV t' ?_;have:fv env0 bs (fH b6) es=fv env0 bs (fun j=>decide (j<es.length)) es:=by
    unfold fv
    congr 1
    refine lX fun x _=>?_
    refine Dn fun j e bf _=>?_
    have bR:j<es.length:=(ga.1 bf).1;simp_all[dX,fH,decide_true]
   grind
  exfalso;apply h9;intro j bf;have bR:j<b6.size:=ao▸Bb bf h.len;cases bI:b6[j] with
  | true=>simp[lV bR,bI]
  | false=>
   have:0<b6.count false:=by
    grind[Array.count_pos_iff,Array.getElem_mem]
   omega
 | succ h7 eA=>
  intro b6 ai ao gV t' a w aC;by_cases h9:∀j,j<es.length->b6.getD j false=true
  ·refine j7 _ ai ao h9 gV t' ?_;have:fv env0 bs (fH b6) es=fv env0 bs (fun j=>decide (j<es.length)) es:=by
    unfold fv
    congr 1
    refine lX fun x _=>?_
    refine Dn fun j e bf _=>?_
    have bR:j<es.length:=(ga.1 bf).1;simp_all[dX,fH,decide_true]
   grind
  refine⟨fun zv=>absurd (fun j bf=>MQ h.masks ao zv j (Bb bf h.len)) h9,fun i hi=>?_⟩;have qs:i<es.length:=by
   rcases q2 i es.length with h1 | h1
   ·exact h1
   exfalso;obtain⟨_,o,a8,_⟩:=mem_ready.1 hi;have bR:i<ops.size:=(jj.1 a8).1;exact h9 fun j bf=>Dq h.masks ai ao hi (aw i h1 bR j (Bb bf h1))
  refine h.step ai ao hi qs aC fun cQ aN eW=>eA (ai.ready hi) (by grind) (fun j bf=>?_) ?_ eW
  ·rw[getD_set_ne false (by omega)];grind
  obtain⟨h1,o,a8,_⟩:=mem_ready.1 hi;have bR:i<b6.size:=ao▸(jj.1 a8).1;have bI:b6[i]=false:=by simpa[lV bR]using h1
  grind
end
def AK(P:Program)(ops:Array Oper):List Oper->aD->List cf->Stepped
 | [],st,ans=>some (st,ans,[])
 | o::rest,st,ans=>
  match rQ P ops o st ans with
  | some (st1,fN,gC)=>(AK P ops rest st1 fN).map fun r=>(r.1,r.2.1,gC++r.2.2)
  | none=>none
theorem Vq{Q:Exit->Act->World->Prop}(hi:ops[i]?=some o)(h:rQ P ops o st ans=some (bG,cv,obs))(a8:cO obs)
  {a:Act} {w:World} (a6:Rel w0 st a w) {K:Act->World->Prop} (iv:∀cQ aN,Rel w0 bG cQ aN->K cQ aN):wpOp P ops Q i K a w:=by
 unfold wpOp;rw[hi];simp only;unfold rQ at h;split at h
 ·rename_i st1 fN gC hw;rw[ca]at h;obtain⟨⟨bC,b2,cg⟩,h1,h⟩:=h;simp only[bL]at h;obtain⟨rfl,rfl,rfl⟩:=h;obtain⟨cy,ci⟩:=a8.append;obtain⟨sP,h'⟩:=xJ hw cy a6;rw[bq sP];grind[MF]
 ·rename_i st1 fN gC hw;simp only[aZ,bL]at h;obtain⟨rfl,rfl,rfl⟩:=h;obtain⟨sP,h'⟩:=xJ hw a8 a6;simp_all[bD,MG]
 cases h
theorem aAb(hm:tj ms ops.toList=true)(aw:Ml ops ms k){Q:Exit->Act->World->Prop}:∀(h7 n:Nat) {b6:Array Bool},k<=n->n<=ops.size->
  r1 ops b6->b6.size=ops.size->(∀j,j<n->b6.getD j false=true)->(∀j,n<=j->b6.getD j false=false)->b6.count false<=h7->
  ∀{st bG:aD} {ans cv:List cf} {obs:List Prop},AK P ops (ops.toList.drop n) st ans=some (bG,cv,obs)->cO obs->
  ∀{a:Act} {w:World},Rel w0 st a w->(∀cQ aN,Rel w0 bG cQ aN->Q .normal cQ aN)->wpAny P .any ops Q h7 b6 a w:=by
 have fin:∀{b6:Array Bool} {n:Nat},n=ops.size->b6.size=ops.size->(∀j,j<n->b6.getD j false=true)->Region.ready .any ops b6=[]:=by
  intro b6 n aW ao h1;rw[List.eq_nil_iff_forall_not_mem];intro j bf;obtain⟨U,o,a8,_⟩:=mem_ready.1 bf;grind
 intro h7;induction h7 with
 | zero=>
  intro n b6 Sv aW ai ao h1 U t' st bG ans cv obs h a8 a w aC j7;have zu:n=ops.size:=by
   rcases q2 n ops.size with bR | qp
   ·have kx:n<b6.size:=ao▸bR;have bI:b6[n]=false:=by simpa[lV kx]using U n (fi _)
    have:0<b6.count false:=by
     grind[Array.count_pos_iff,Array.getElem_mem]
    omega
   omega
  rw[List.drop_eq_nil_of_le (by simp[zu])]at h;simp only[AK,aZ,bL]at h;obtain⟨rfl,_,_⟩:=h;exact⟨fin zu ao h1,j7 _ _ aC⟩
 | succ h7 eA=>
  intro n b6 Sv aW ai ao h1 U t' st bG ans cv obs h a8 a w aC j7;rcases q2 n ops.size with bR | qp
  ·have kx:n<b6.size:=ao▸bR;have aE:ops.toList.drop n=ops[n]::ops.toList.drop (n+1):=by
    grind[List.drop_eq_getElem_cons]
   rw[aE]at h;simp only[AK]at h;split at h
   ·rename_i st1 fN gC aA;rw[ca]at h;obtain⟨⟨bC,b2,cg⟩,aJ,h⟩:=h;simp only[bL]at h;obtain⟨rfl,rfl,rfl⟩:=h;obtain⟨cy,ci⟩:=a8.append;refine⟨fun zv=>?_,fun i hi=>?_⟩
    ·exfalso;have:=MQ hm ao zv n bR;grind
    have iU:i=n:=by
     obtain⟨a7,o,m',_⟩:=mem_ready.1 hi;have zq:i<ops.size:=(jj.1 m').1;have oC:i<b6.size:=ao▸zq;rcases Nat.lt_trichotomy i n with bw | bw | bw
     ·grind
     ·exact bw
     have:=Dq hm ai ao hi (aw i (by omega) zq n bw);grind
    subst iU;refine Vq (lV bR) aA cy aC fun cQ aN eW=>eA (i+1) (by omega) (by omega) (ai.ready hi) (by grind) (fun j bf=>?_) (fun j bf=>?_) ?_ aJ ci eW j7
    ·by_cases ua:j=i
     ·simp_all
     rw[getD_set_ne false (Ne.symm ua)];grind
    ·rw[getD_set_ne false (by omega)];grind
    have bI:b6[i]=false:=by simpa[lV kx]using U i (fi _)
    grind
   cases h
  have zu:n=ops.size:=by omega
  rw[List.drop_eq_nil_of_le (by simp[zu])]at h;simp only[AK,aZ,bL]at h;obtain⟨rfl,_,_⟩:=h;have zv:=fin zu ao h1;refine⟨fun _=>j7 _ _ aC,fun i hi=>?_⟩;grind
def u3(ms:List Nat):Nat->Nat
 | 0=>0
 | i+1=>if ms.getD i 0==2 ^ i-1 then u3 ms i else i+1
theorem Vr(ms:List Nat):∀n,u3 ms n<=n
 | 0=>fi _
 | n+1=>by
  unfold u3;split
  ·exact nD (Vr ms n) (Nat.le_succ n)
  grind
theorem Vs(ms:List Nat):∀n i,u3 ms n<=i->i<n->∀j,j<i->nJ ms j i=true
 | 0,_,_,h,_,_=>absurd h (Nat.not_lt_zero _)
 | n+1,i,h1,U,j,bf=>by
  unfold u3 at h1;split at h1
  ·rename_i he;by_cases iU:i=n
   ·subst iU;unfold nJ;grind
   exact Vs ms n i h1 (by omega) j bf
  omega
theorem Sat.drew{ω:Own}{τ:Nat->Nat×Value}{l:aG}{y:Value}(h:Sat w ω τ l y):Sat w.drew ω τ l y:=by
 have bI:∀{R:List (Nat×Nat)->dv->Prop} {d:D} {y:Value},b3 w ω R d y->b3 w.drew ω R d y:=fun h=>h.frame fun _ _ _ aH=>⟨aH,rfl⟩
 cases l with
 | J t k es=>exact⟨bI h.1,h.2⟩
 | ep t k es i j=>
  obtain⟨b,off,cap,h1,U,aA,aJ⟩:=h;exact⟨b,off,cap,h1,U,bI aA,aJ⟩
 | hY ds off=>
  obtain⟨b,h1,U⟩:=h;exact⟨b,h1,bI U⟩
 | fd d=>exact bI h
 | dC t k es=>exact⟨bI h.1,h.2⟩
 | aR t i j k es m=>
  obtain⟨u,hu,h1,hm⟩:=h;exact⟨u,hu,bI h1,hm⟩
 | fP t vs=>
  obtain⟨b,ty,arr,h1,U,aA,aW,bF⟩:=h;refine⟨b,ty,arr,h1,U,aA,aW,fun j c ai=>?_⟩;obtain⟨u,hd,fG⟩:=bF j c ai;refine⟨u,hd,?_⟩;cases c with
  | cp=>exact trivial
  | v x=>exact fG
  | J t k es=>exact⟨bI fG.1,fG.2⟩
 | _=>exact h
theorem Rel.drew(h:Rel w0 st a w):Rel w0 st a w.drew:=by
 obtain⟨ω,τ,h⟩:=h;have hi:∀p:aI,p.map _root_.id=p:=by
  intro p;cases p with
  | aF a=>cases a<;>simp[aI.map,bp.map]
  | gx as=>
   simp only[aI.map]
   congr 1
   have:bp.map _root_.id=_root_.id:=by funext a;cases a<;>simp[bp.map]
   simp_all
 refine⟨ω,τ,h.defers,h.size,h.below.next (g'.refl _ _).drew,h.owned,h.fixed,h.pinned,fun i p hp=>?_,fun id ls al=>?_⟩
 ·obtain⟨v,h1,U⟩:=h.env i p hp;have:=cW.map (lD:=Sat w.drew ω τ) (f:=_root_.id) (fun l v ao=>Sat.drew ao) U;grind
 obtain⟨b,arr,ty,h1,U,aA,aJ⟩:=h.boxes id ls al;have:=lf.map (lD:=Sat w.drew ω τ) (f:=_root_.id) (fun l v ao=>Sat.drew ao) aJ;rw[tE]at this;exact⟨b,arr,ty,h1,U,aA,this⟩
def Hn:Nat->List aI->List Nat
 | _,[]=>[]
 | i,p::r=>match p.leaf with | some (.fP t _)=>if t=i then i::Hn (i+1) r else Hn (i+1) r | _=>Hn (i+1) r
def AL(env:List aI):List Oper->List Nat
 | []=>[]
 | o::r=>
  match o.dst,o.op with
  | none,.store _ (.tmp s) _=>
   match (env.getD s .cp).leaf with
   | some (.ptr d 0)=>if d=s/\s<dk/\!(AL env r).contains s then s::AL env r else AL env r
   | _=>AL env r
  | _,_=>AL env r
def aAc(env0:List aI)(bs:List (Nat×List aG))(es:List dJ)(i:Nat):List aG:=
 env0.flatMap aI.vI++(bs.flatMap (·.2)++(es.zipIdx.filter fun x=>x.2 != i).flatMap fun x=>x.1.p.vI)
def Mm(P:Program)(ops:Array Oper)(st:aD)(ans:List cf):Stepped:=
 let gs:=ops.toList.filterMap (ML ops)
 let ms:=sW ops.toList []
 let k:=u3 ms ops.size
 match Dh (AL st.env (ops.toList.take k)) st with
 | some gm=>
  match wv P ops gs gm.boxes (ops.toList.take k) gm.env ans with
  | some (es,vk,fN,gC)=>
   if P.follows .mixedOrders&&tj ms ops.toList&&MR ops ms es&&MS ms es gm.env gm.boxes then
    match Di (Hn 0 vk) ⟨vk,gm.boxes⟩,A1 gm.boxes (aAc gm.env gm.boxes es) 0 (ops.toList.take k) gm.env es with
    | some st2,some zK=>(AK P ops (ops.toList.drop k) st2 fN).map fun r=>(r.1,r.2.1,gC++(zK++r.2.2))
    | _,_=>none
   else none
  | none=>none
 | none=>none
theorem aAd(h:Mm P ops st ans=some (bG,cv,obs))(a8:cO obs)(aC:Rel w0 st a w){id:Nat}
  {Q:Exit->Act->World->Prop} (j7:∀cQ aN,Rel w0 bG cQ aN->Q .normal cQ aN):(Code.region id ops true).wp P Q a w:=by
 unfold Mm at h;simp only at h;split at h
 case h_2=>cases h
 rename_i gm SS;replace aC:=T2 aC SS;clear SS;revert aC h;generalize gm=st;intro h aC;split at h
 ·rename_i es vk fN gC fU;split at h
  ·rename_i ai;split at h
   rotate_left
   ·cases h
   rename_i st2 zK KB aeQ;rw[ca]at h;obtain⟨⟨bC,b2,cg⟩,aeS,h⟩:=h;simp only[bL]at h;obtain⟨rfl,rfl,rfl⟩:=h;obtain⟨KC,KD⟩:=a8.append;obtain⟨aev,KD⟩:=KD.append;simp only[cu]at ai;obtain⟨⟨⟨hm,SA⟩,aex⟩,kX⟩:=ai;have aFO:=Vr (sW ops.toList []) ops.size;obtain⟨hlen,BY,adK⟩:=Dp fU KC;have FE:es.length=u3 (sW ops.toList []) ops.size:=by
    grind
   have aF7:∀(i:Nat),i<es.length->(ops.toList.take (u3 (sW ops.toList []) ops.size))[i]?=ops[i]?:=by
    grind
   have aE:∀(i:Nat) (e:dJ),es[i]?=some e->e.dst≠none:=by
    intro i e hi;have bR:i<(ops.toList.take (u3 (sW ops.toList []) ops.size)).length:=hlen▸(ga.1 hi).1;obtain⟨e',h1,U⟩:=adK i _ (gU bR);rw[hi]at h1;cases h1;exact U.dst
   have Fp:q4 P ops st.boxes st.env es (sW ops.toList []):=by
    refine⟨by omega,fun i o qs hi=>?_,SA,fun i o v qs hi bF=>?_,aex,kX⟩
    rotate_left
    ·have FO:=TS aeQ aev i o (by grind) qs v (by
      grind[Hm])
     rw[dX]at FO;refine⟨fun q aH=>aI.Cs fun l al=>FO l ?_,fun j x bf cZ=>aI.Cs fun l al=>FO l ?_,fun x ag l al=>FO l ?_⟩
     ·exact hJ _ (lA.2 ⟨q,aH,al⟩)
     ·refine iN _ (iN _ (lA.2 ⟨(x,j),List.mem_filter.2 ⟨?_,by grind⟩,al⟩));grind
     exact iN _ (hJ _ (lA.2 ⟨x,ag,al⟩))
    grind[Hm]
   have qm:Ml ops (sW ops.toList []) es.length:=fun i h1 U j bf=>Vs _ _ i (by omega) U j bf
   refine wp_region_any hm (Fp.any qm (w0:=w0) ?_ ops.size ?_ (by simp) ?_ ?_ ?_)
   ·intro h7 b6 ps ao jm c4 t' cQ aN eW;refine aAb SA qm h7 es.length (fi _) (by omega) ps ao jm c4 t' (st:=st2) (by rw[FE];exact aeS) KD (T3 ?_ KB) j7;have:=Hm (env0:=st.env) (bs:=st.boxes) aE es.length (fi _);rw[jh,<-BY]at this;rw[this];exact eW
   ·intro j o bf;have:=Hj bf;simp_all
   ·intro j _;by_cases bf:j<ops.size
    ·simp[bf]
    simp[bf]
   ·simp_all
   have:fv st.env st.boxes (fH (Array.replicate ops.size false)) es=st:=by
    have jH:∀(es:List dJ) (t k:Nat) (acc:aI),hU (fH (Array.replicate ops.size false)) t k es acc=acc:=by
     intro es;induction es with
     | nil=>intro t k acc;rfl
     | cons e1 es eA=>
      intro t k acc;simp only[hU];rw[bD,eA];unfold fH;intro ai;have:=Hj ai;simp_all
    obtain⟨env,bs⟩:=st;unfold fv;simp_all
   rw[this];exact aC.drew
  cases h
 cases h
end Go.Sx
namespace Go.Sx
open Go.RowKit
def ey(P:Program)(ops:Array Oper)(st bG:aD):Prop:=
 ∀(w0:eT) (a:Act) (w:World) (id:Nat) (Q:Exit->Act->World->Prop),Rel w0 st a w->(∀cQ aN,Rel w0 bG cQ aN->Q .normal cQ aN)->(Code.region id ops true).wp P Q a w
def Ho(o:Oper)(m:Nat):Bool:=o.after.toList.all fun e=>!Region.binds .any e||m.testBit e.on
def rM(m:Nat):Nat->List Oper->List (Nat×Oper)
 | _,[]=>[]
 | i,o::r=>if !m.testBit i&&Ho o m then (i,o)::rM m (i+1) r else rM m (i+1) r
def runM(P:Program)(ops:Array Oper)(A:List (List cf))(m:Nat):Nat->List Oper->aD->aD
 | _,[],st=>st
 | i,o::r,st=>if m.testBit i then (match rQ P ops o st (A.getD i []) with | some x=>runM P ops A m (i+1) r x.1 | none=>st) else runM P ops A m (i+1) r st
def Bk(x:Nat)(l:List Nat):List Nat:=if l.any (Nat.beq x) then l else x::l
def Ct:Nat->List (Nat×Oper)->List Nat->List Nat
 | _,[],l=>l
 | m,x::r,l=>Bk (m ||| 2 ^ x.1) (Ct m r l)
def Cw(ops:List Oper):List Nat->List Nat
 | []=>[]
 | m::r=>Ct m (rM m 0 ops) (Cw ops r)
abbrev y0:=Option (aD×List cf×List Prop)
def Fg(P:Program)(ops:Array Oper)(A:List (List cf))(st:aD):List (Nat×Oper)->List y0
 | []=>[]
 | x::r=>rQ P ops x.2 st (A.getD x.1 [])::Fg P ops A st r
def Fi(P:Program)(ops:Array Oper)(A:List (List cf))(O:List (List Prop))(gm:aD)(m:Nat):List (Nat×Oper)->List y0
 | []=>[]
 | x::r=>some (runM P ops A (m ||| 2 ^ x.1) 0 ops.toList gm,[],O.getD x.1 [])::Fi P ops A O gm m r
def Fh(P:Program)(ops:Array Oper)(A:List (List cf))(gm:aD):List Nat->List (List y0)
 | []=>[]
 | m::r=>Fg P ops A (runM P ops A m 0 ops.toList gm) (rM m 0 ops.toList)::Fh P ops A gm r
def Fj(P:Program)(ops:Array Oper)(A:List (List cf))(O:List (List Prop))(gm:aD):List Nat->List (List y0)
 | []=>[]
 | m::r=>Fi P ops A O gm m (rM m 0 ops.toList)::Fj P ops A O gm r
def Bq(P:Program)(ops:Array Oper)(A:List (List cf))(gm:aD):Nat->List Nat->List (List (List y0))
 | 0,_=>[]
 | n+1,l=>Fh P ops A gm l::Bq P ops A gm n (Cw ops.toList l)
def Br(P:Program)(ops:Array Oper)(A:List (List cf))(O:List (List Prop))(gm:aD):Nat->List Nat->List (List (List y0))
 | 0,_=>[]
 | n+1,l=>Fj P ops A O gm l::Br P ops A O gm n (Cw ops.toList l)
variable{P:Program}{ops:Array Oper}{A:List (List cf)}{O:List (List Prop)}{gm st:aD}{m:Nat}
theorem Vt:∀{l:List (Nat×Oper)},Fg P ops A st l=Fi P ops A O gm m l->
  ∀x∈l,rQ P ops x.2 st (A.getD x.1 [])=some (runM P ops A (m ||| 2 ^ x.1) 0 ops.toList gm,[],O.getD x.1 [])
 | [],_,x,ag=>by cases ag
 | y::r,h,x,ag=>by
  simp only[Fg,Fi,tD]at h;rcases ev.1 ag with rfl | ag
  ·exact h.1
  exact Vt h.2 x ag
theorem Vu:∀{l:List Nat},Fh P ops A gm l=Fj P ops A O gm l->
  ∀m∈l,∀x∈rM m 0 ops.toList,rQ P ops x.2 (runM P ops A m 0 ops.toList gm) (A.getD x.1 [])=some (runM P ops A (m ||| 2 ^ x.1) 0 ops.toList gm,[],O.getD x.1 [])
 | [],_,m,hm=>by cases hm
 | m0::r,h,m,hm=>by
  simp only[Fh,Fj,tD]at h;rcases ev.1 hm with rfl | hm
  ·exact Vt h.1
  exact Vu h.2 m hm
theorem aAe{x:Nat}{l:List Nat}:x∈Bk x l:=by
 unfold Bk;split
 ·rename_i h;obtain⟨y,bu,he⟩:=o7.1 h;rwa[Nat.eq_of_beq_eq_true he]
 exact h2
theorem Vv{x y:Nat}{l:List Nat}(h:y∈l):y∈Bk x l:=by
 unfold Bk;split
 ·exact h
 exact gE _ h
theorem Vw{x:Nat×Oper}:∀{r:List (Nat×Oper)} {l:List Nat},x∈r->(m ||| 2 ^ x.1)∈Ct m r l
 | [],_,h=>by cases h
 | y::r,l,h=>by
  simp only[Ct];rcases ev.1 h with rfl | h
  ·exact aAe
  exact Vv (Vw h)
theorem Vx{k:Nat}:∀{r:List (Nat×Oper)} {l:List Nat},k∈l->k∈Ct m r l
 | [],_,h=>h
 | _::_,_,h=>Vv (Vx h)
theorem Vy{ops:List Oper}{x:Nat×Oper}:∀{l:List Nat},m∈l->x∈rM m 0 ops->(m ||| 2 ^ x.1)∈Cw ops l
 | [],h,_=>by cases h
 | k::r,h,ag=>by
  simp only[Cw];rcases ev.1 h with rfl | h
  ·exact Vw ag
  exact Vx (Vy h ag)
theorem Vz{m:Nat}:∀{l:List Oper} {i j:Nat} {o:Oper},l[j]?=some o->m.testBit (i+j)=false->Ho o m=true->(i+j,o)∈rM m i l
 | [],_,_,_,h,_,_=>by simp at h
 | y::r,i,0,o,h,h1,U=>by
  simp only[lY,aZ]at h;subst h;simp only[rM];rw[bq (by rw[o6]at h1;simp[h1,U])];exact h2
 | y::r,i,j+1,o,h,h1,U=>by
  have:=Vz (m:=m) (l:=r) (i:=i+1) (j:=j) (o:=o) (by simpa using h) (by rwa[show i+1+j=i+(j+1) by omega]) U;rw[show i+1+j=i+(j+1) by omega]at this;simp only[rM];split
  ·exact gE _ this
  exact this
theorem Mn{m k:Nat}:∀{l:List Oper} {i:Nat} {st:aD},(∀j,i<=j->j<i+l.length->m.testBit j=k.testBit j)->runM P ops A m i l st=runM P ops A k i l st
 | [],_,_,_=>rfl
 | o::r,i,st,h=>by
  simp only[runM];rw[h i (fi _) (by simp)];split
  ·split
   ·exact Mn fun j h1 U=>h j (by omega) (by simp only[gT];omega)
   rfl
  exact Mn fun j h1 U=>h j (by omega) (by simp only[gT];omega)
theorem VA:∀{O:List (List Prop)} (i:Nat),cO O.flatten->cO (O.getD i [])
 | [],i,_=>by simp[cO]
 | o::r,0,h=>by
  rw[List.flatten_cons]at h;exact (cO.append h).1
 | o::r,i+1,h=>by
  rw[List.flatten_cons]at h;exact VA i (cO.append h).2
theorem aAf{ms:List Nat}{w0:eT}{Q:Exit->Act->World->Prop}(hm:tj ms ops.toList=true)(a8:cO O.flatten)
  (j7:∀cQ aN,Rel w0 (runM P ops A (2 ^ ops.size-1) 0 ops.toList gm) cQ aN->Q .normal cQ aN):∀(h7:Nat) {l:List Nat},Bq P ops A gm h7 l=Br P ops A O gm h7 l->
  ∀{m:Nat} {b6:Array Bool},m∈l->b6.size=ops.size->(∀j,j<ops.size->b6.getD j false=m.testBit j)->b6.count false<=h7->
  ∀{a:Act} {w:World},Rel w0 (runM P ops A m 0 ops.toList gm) a w->wpAny P .any ops Q h7 b6 a w:=by
 have fin:∀{m:Nat} {b6:Array Bool},(∀j,j<ops.size->b6.getD j false=m.testBit j)->(∀j,j<ops.size->b6.getD j false=true)->
   ∀{a:Act} {w:World},Rel w0 (runM P ops A m 0 ops.toList gm) a w->Q .normal a w:=by
  intro m b6 h1 U a w aC;refine j7 a w ?_;rw[Mn (m:=2 ^ ops.size-1) (k:=m)]
  ·exact aC
  intro j _ bf;have B2:j<ops.size:=by simpa using bf
  rw[<-h1 j B2,U j B2,Nat.testBit_two_pow_sub_one,k' B2]
 intro h7;induction h7 with
 | zero=>
  intro l _ m b6 _ ao h1 t' a w aC;have h9:∀j,j<ops.size->b6.getD j false=true:=by
   intro j bf;cases al:b6.getD j false with
   | true=>rfl
   | false=>
    exfalso;have kx:j<b6.size:=ao▸bf;have bI:b6[j]=false:=by simpa[lV kx]using al
    have:0<b6.count false:=by
     rw[Array.count_pos_iff];exact bI▸Array.getElem_mem kx
    omega
  refine⟨?_,fin h1 h9 aC⟩;rw[List.eq_nil_iff_forall_not_mem];intro j bf;obtain⟨U,o,m',_⟩:=mem_ready.1 bf;have bR:j<ops.size:=(jj.1 m').1;have aA:=h9 j bR;have kx:j<b6.size:=ao▸bR;simp[lV kx]at U aA;rw[U]at aA;cases aA
 | succ h7 eA=>
  intro l he m b6 sL ao h1 t' a w aC;simp only[Bq,Br,tD]at he;refine⟨fun zv=>fin h1 (MQ hm ao zv) aC,fun i hi=>?_⟩;obtain⟨a7,o,m',Kl⟩:=mem_ready.1 hi;have bR:i<ops.size:=(jj.1 m').1;have kx:i<b6.size:=ao▸bR;have Sk:b6.getD i false=false:=by
   simp[lV kx]at a7 ⊢;exact a7
  have aek:Ho o m=true:=by
   unfold Ho;rw[gn];intro e zm;cases aw:Region.binds .any e with
   | false=>rfl
   | true=>
    have bw:=Kl e (by simpa using zm) aw;have b1:e.on<b6.size:=Hj bw;rw[h1 e.on (ao▸b1)]at bw;simp[bw]
  have SF:(i,o)∈rM m 0 ops.toList:=by
   have:=Vz (m:=m) (l:=ops.toList) (i:=0) (j:=i) (o:=o) (by simpa using m') (by rw[dX,<-h1 i bR,Sk]) aek;rwa[dX]at this
  have oG:=Vu he.1 m sL _ SF;refine Vq m' oG (VA i a8) aC fun cQ aN eW=>eA he.2 (Vy sL SF) (by simpa using ao) (fun j bf=>?_) ?_ eW
  ·rw[Nat.testBit_or,Nat.testBit_two_pow];by_cases ua:j=i
   ·subst ua;have bb:j<(b6.setIfInBounds j true).size:=by simpa using kx
    simp[lV bb]
   rw[getD_set_ne false (Ne.symm ua),h1 j bf,o8 (Ne.symm ua),Bool.or_false]
  have bI:b6[i]=false:=by simpa[lV kx]using Sk
  have:(b6.setIfInBounds i true).count false=b6.count false-1:=by
   have e:b6.setIfInBounds i true=b6.set i true kx:=by unfold Array.setIfInBounds;rw[dif_pos kx]
   rw[e,Array.count_set];simp[bI]
  omega
theorem ey.of{bG:aD}(A:List (List cf))(O:List (List Prop))(ai:(P.follows .mixedOrders&&tj (sW ops.toList []) ops.toList)=true)
  (he:Bq P ops A st ops.size [0]=Br P ops A O st ops.size [0]) (bI:runM P ops A (2 ^ ops.size-1) 0 ops.toList st=bG) (a8:cO O.flatten):ey P ops st bG:=by
 intro w0 a w id Q aC j7;simp only[cu]at ai;have bb:∀{l:List Oper} {i:Nat},runM P ops A 0 i l st=st:=by
  intro l;induction l with
  | nil=>intro i;rfl
  | cons o r eA=>intro i;simp only[runM,Nat.zero_testBit,oc,mh];exact eA
 refine wp_region_any ai.1 (aAf ai.2 a8 (fun cQ aN h=>j7 cQ aN (bI▸h)) ops.size he (m:=0) h2 (by simp) (fun j bf=>by simp[bf]) (by simp[Array.count_replicate]) ?_);rw[bb];exact aC.drew
def Mo(P:Program)(ops:Array Oper)(st:aD)(ans:List cf):Stepped:=
 match ans with
 | .iL bG::r=>some (bG,r,[ey P ops st bG])
 | _=>Mm P ops st ans
theorem aAg{bG:aD}{ans cv:List cf}{obs:List Prop}(h:Mo P ops st ans=some (bG,cv,obs))(a8:cO obs){w0:eT}{a:Act}{w:World}(aC:Rel w0 st a w){id:Nat}
  {Q:Exit->Act->World->Prop} (j7:∀cQ aN,Rel w0 bG cQ aN->Q .normal cQ aN):(Code.region id ops true).wp P Q a w:=by
 unfold Mo at h;split at h
 ·simp only[aZ,bL]at h;obtain⟨rfl,_,rfl⟩:=h;exact a8.1 w0 a w id Q aC j7
 exact aAd h a8 aC j7
