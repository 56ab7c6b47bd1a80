import Derived.Test.YtdchjefneblpgaaGreatR26
import Derived.Test.YtdchjefneblpgaaGreatR31
import Derived.Orders
set_option linter.unusedVariables false
set_option linter.unusedSimpArgs false
namespace Go.Sx
open Go.RowKit
def MJ(P:Program)(st:aD)(d:Option Nat)(f:FuncId)(args:List Operand)(ans:List cb):Stepped:=
 match P.funcs[f]?,args.mapM (fun x=>(st.bp x).kQ st.boxes),ans with
 | some fn,some gZ,.res rs::r=>
  if (fn.name == "runtime.NumGoroutine") = false /\ fn.body.isNone = false /\ wq rs = true /\ 10000 * (d.getD 0 + 1) + 10000 <= dj then
   let t:=10000*(d.getD 0+1)
   match d with
   | some d=>some (⟨(st.xb t).env.set d (uV t rs),(st.xb t).boxes⟩,r,[ji P f gZ rs])
   | none=>some (st.xb t,r,[ji P f gZ rs])
  else none
 | _,_,_=>none
def T0(P:Program)(st:aD)(d:Option Nat)(f:Operand)(args:List Operand)(ans:List cb):Stepped:=
 match (st.bp f).leaf.bind (aG.kQ st.boxes),args.mapM (fun x=>(st.bp x).kQ st.boxes),ans with
 | some (.cl g bl),some gZ,.res rs::r=>
  if wq rs=true/\10000*(d.getD 0+1)+10000<=dj then
   let t:=10000*(d.getD 0+1)
   match d with
   | some d=>some (⟨(st.xb t).env.set d (uV t rs),(st.xb t).boxes⟩,r,[hV P g=true,ji P g (gZ++bl.map .one) rs])
   | none=>some (st.xb t,r,[hV P g=true,ji P g (gZ++bl.map .one) rs])
  else none
 | _,_,_=>none
def SU:List cb->Bool
 | .sa _ _ _ _::_=>true
 | _=>false
def SX:List cb->Bool
 | .e3 _ _::_=>true
 | _=>false
def SV:List cb->Bool
 | .own::_=>true
 | _=>false
def qH(P:Program)(st:aD)(o:Oper)(ans:List cb):Stepped:=
 match o.dst,o.op with
 | some d,.box _ x=>Me st d (st.bp x) ans
 | some d,.alloc ty=>Mf P st d ty ans
 | some d,.makeSlice t l c=>Gx P st d t (st.bp l) (st.bp c) ans
 | some d,.buildSlice t n parts=>Dr P st d t n parts.toList ans
 | none,.store ty x y=>
  match (st.bp x).leaf with
  | some (.ptr id off)=>M4 P st ty id off (st.bp y) ans
  | some (.ep (.own t) k es i j)=>Nb P st ty t k es i j (st.bp y) ans
  | some (.aS t i j k es (.at_ a b))=>Np P st ty t i j k es a b (st.bp y) ans
  | _=>none
 | d,.call ⟨.value (.func f),args,_⟩=>if SX ans then MG P st d f args.toList ans else if SU ans then Nj P st d f args.toList ans else MJ P st d f args.toList ans
 | d,.call ⟨.value (.tmp x),args,_⟩=>if SX ans then MH P st d (.tmp x) args.toList ans else T0 P st d (.tmp x) args.toList ans
 | some d,.call ⟨.builtin .append,⟨[x,y]⟩,⟨[t,du]⟩⟩=>
  if t=du then
   match (st.bp x).leaf with
   | some (.aS s i j k es .here)=>Nq P st d t s i j k es y ans
   | _=>Bj P st d t x y ans
  else none
 | some d,.slice t x c5 hi jR=>if SV ans then Bk P st d t (st.bp x) c5 hi jR ans.tail else (rQ P st (.slice t x c5 hi jR) ans).map fun r=>(⟨st.env.set d r.1,st.boxes⟩,r.2.1,r.2.2)
 | some d,op=>(rQ P st op ans).map fun r=>(⟨st.env.set d r.1,st.boxes⟩,r.2.1,r.2.2)
 | none,op=>(rQ P st op ans).map fun r=>(st,r.2.1,r.2.2)
variable{P:Program}{o:Oper}{a:Act}{w:World}{Q:Exit->Act->World->Prop}
theorem Calls.of{next:Act->World->Prop}{z:Value}{aM:World}(h:(execOp a.eval o).run P w=.ok (.value z) aM)(aP:next (a.put o.dst z) aM):
  o.wp P a w next Q:=by
 unfold Oper.wp;rw[h];exact aP
variable{w0:eN}{st bB:aD}{ans cq:List cb}{obs:List Prop}
theorem MK(h:qH P st o ans=some (bB,cq,obs))(aW:c8 obs)(aZ:Rel w0 st a w)
  {next:Act->World->Prop} {Q:Exit->Act->World->Prop} (mD:∀cJ aM,Rel w0 bB cJ aM->next cJ aM):o.wp P a w next Q:=by
 obtain⟨ω,τ,aZ⟩:=aZ;obtain⟨dst,op,type,pos,after,guard⟩:=o;simp only[qH]at h;split at h
 ·rename_i d ty x;obtain⟨z,aM,h1,U⟩:=cD.box (P:=P) aZ (aZ.bp x) h ty;exact Calls.of (j1 h1) (mD _ _ U)
 ·rename_i d ty;obtain⟨z,aM,h1,U⟩:=cD.alloc aZ h;exact Calls.of (j1 h1) (mD _ _ U)
 ·rename_i d t l c;obtain⟨z,aM,h1,U⟩:=aZ.make (aZ.bp l) (aZ.bp c) h aW;exact Calls.of (j1 h1) (mD _ _ U)
 ·rename_i d t n parts;obtain⟨z,aM,h1,U⟩:=aZ.buildSlice h;exact Calls.of (j1 h1) (mD _ _ U)
 ·rename_i ty x y;have fin:∀aM,(Instr.storeAt ty (a.eval x) (a.eval y)).run P w=.ok () aM->Rel w0 bB a aM->Oper.wp P ⟨none,.store ty x y,type,pos,after,guard⟩ a w next Q:=by
   intro aM h1 U;unfold Oper.wp execOp;simp only[Sem.run_bind,h1,Result.andThen_ok,Sem.run_pure,Oper.upon];exact mD _ _ U
  split at h
  ·rename_i id off e;obtain⟨b,aq,aa⟩:=aH.dX e (aZ.bp x);obtain⟨aM,h1,U⟩:=aZ.aBn (P:=P) aq (aZ.bp y) h;grind
  ·rename_i t k es i j e;obtain⟨aM,h1,U⟩:=aZ.aBp (P:=P) (aH.dX e (aZ.bp x)) (aZ.bp y) h aW;grind
  ·rename_i t i j k es aBC Rn e;obtain⟨aM,h1,U⟩:=aZ.aBr (P:=P) (aH.dX e (aZ.bp x)) (aZ.bp y) h aW;grind
  cases h
 ·rename_i f args ts;split at h
  ·grind[awy]
  split at h
  ·grind[aw1]
  rename_i KG ady;clear KG;unfold MJ at h;clear ady;split at h
  ·rename_i fn gZ rs r mC Ki;split at h
   ·rename_i al;obtain⟨lp,lL,ma,ua⟩:=al;obtain⟨aj,ar⟩:=oO Ki;have nR:GF w gZ (args.map a.eval):=by
     refine⟨by simp[aj],fun i ct hi=>?_⟩;obtain⟨x,aa,kB⟩:=ar i ct hi;refine⟨a.eval x,?_,aH.y7 aZ.boxes kB (aZ.bp x)⟩;grind
    have fG:(execOp a.eval ⟨dst,.call ⟨.value (.func f),args,ts⟩,type,pos,after,guard⟩).run P w=.ok (.enter f (args.map a.eval)) w:=by
     have acY : fn.name ≠ "runtime.NumGoroutine" := by grind
     have t':fn.body≠none:=by grind
     simp[execOp,resolve,Act.eval,Deferred.ofValue,invoke,callFunc,mC,acY,t']
    have key:∀(nY:List Prop),obs=nY->c8 nY->nY=[ji P f gZ rs]->∀(K:Act->World->Prop),(∀v aM,hq w.heap.size w aM->y4 w aM rs v->K (a.put dst v) aM)->
      Oper.wp P ⟨dst,.call ⟨.value (.func f),args,ts⟩,type,pos,after,guard⟩ a w K Q:=by
     intro nY _ nj e K im;subst e;unfold Oper.wp;rw[fG];simp only[Oper.upon];refine (nj.1 w _ aZ.below.laid nR).mono ?_;grind
    simp only at h;cases dst with
    | none=>
     simp only[aX,bH]at h;obtain⟨rfl,_,rfl⟩:=h;refine key _ rfl aW rfl next fun v aM aq aB=>mD _ _ ?_
     obtain⟨bc,cZ,h1,_⟩:=aZ.called (10000*(Option.getD none 0+1)) ma ua aq aB;exact⟨bc,cZ,h1⟩
    | some d=>
     simp only[aX,bH]at h;obtain⟨rfl,_,rfl⟩:=h;refine key _ rfl aW rfl next fun v aM aq aB=>mD _ _ ?_
     obtain⟨bc,cZ,h1,U⟩:=aZ.called (10000*(Option.getD (some d) 0+1)) ma ua aq aB;exact⟨bc,cZ,h1.put U⟩
   cases h
  cases h
 ·rename_i x args ts;split at h
  ·grind[awz]
  rename_i KG;clear KG;unfold T0 at h;split at h
  ·rename_i g bl gZ rs r br Ki;split at h
   ·rename_i al;obtain⟨ma,ua⟩:=al;obtain⟨aj,ar⟩:=oO Ki;have c':gZ.length=args.size:=by grind
    rw[nM]at br;obtain⟨lR,KJ,adJ⟩:=br;have Se:mJ w (.cl g bl) (a.eval (.tmp x)):=aG.y7 aZ.boxes adJ (aH.dX KJ (aZ.bp (.tmp x)));have adj:∃cs:Array Value,a.eval (.tmp x)=.func (.func g) #[] cs/\cs.size=bl.length/\∀(j:Nat) (d:D),bl[j]?=some d->∃u,cs[j]?=some u/\mJ w d u:=by
     generalize a.eval (.tmp x)=y at Se;cases Se with
     | cl R g bl cs us ai hu aF=>exact⟨cs,rfl,ai,fun j d a8=>⟨us j,hu j d a8,(aF j d a8).free⟩⟩
    obtain⟨cs,qk,aCP,ac9⟩:=adj;have nR:GF w (gZ++bl.map .one) (args.map a.eval++cs):=by
     refine⟨by grind,fun i ct hi=>?_⟩;rw[qS]at hi;rw[kr];split at hi
     ·rename_i oF;rw[bh (by simp;omega)];obtain⟨y,bk,lP⟩:=ar i ct hi;refine⟨a.eval y,?_,aH.y7 aZ.boxes lP (aZ.bp y)⟩;grind
     rename_i oF;rw[bq (by simp;omega)];rw[eg,b5]at hi;obtain⟨d,aF,rfl⟩:=hi;obtain⟨u,ha,fH⟩:=ac9 _ d aF;refine⟨u,?_,fH⟩;grind
    have fG:hV P g=true->(execOp a.eval ⟨dst,.call ⟨.value (.tmp x),args,ts⟩,type,pos,after,guard⟩).run P w=.ok (.enter g (args.map a.eval++cs)) w:=by
     intro xk;unfold hV at xk;split at xk
     ·rename_i fn mC;simp only[b9,gQ,Bs,lc]at xk;have t':fn.body≠none:=by grind
      simp[execOp,resolve,qk,Deferred.ofValue,invoke,callFunc,mC,xk.1,t']
     cases xk
    have key:∀(nY:List Prop),obs=nY->c8 nY->nY=[hV P g=true,ji P g (gZ++bl.map .one) rs]->∀(K:Act->World->Prop),(∀v aM,hq w.heap.size w aM->y4 w aM rs v->K (a.put dst v) aM)->
      Oper.wp P ⟨dst,.call ⟨.value (.tmp x),args,ts⟩,type,pos,after,guard⟩ a w K Q:=by
     intro nY _ nj e K im;subst e;unfold Oper.wp;rw[fG nj.1];simp only[Oper.upon];refine (nj.2.1 w _ aZ.below.laid nR).mono ?_;grind
    simp only at h;cases dst with
    | none=>
     simp only[aX,bH]at h;obtain⟨rfl,_,rfl⟩:=h;refine key _ rfl aW rfl next fun v aM aq aB=>mD _ _ ?_
     obtain⟨bc,cZ,h1,_⟩:=aZ.called (10000*(Option.getD none 0+1)) ma ua aq aB;exact⟨bc,cZ,h1⟩
    | some d=>
     simp only[aX,bH]at h;obtain⟨rfl,_,rfl⟩:=h;refine key _ rfl aW rfl next fun v aM aq aB=>mD _ _ ?_
     obtain⟨bc,cZ,h1,U⟩:=aZ.called (10000*(Option.getD (some d) 0+1)) ma ua aq aB;exact⟨bc,cZ,h1.put U⟩
   cases h
  cases h
 ·rename_i d x y t du;split at h
  ·rename_i Cr;subst Cr;have vv:∃z aM,(Builtin.append_ #[t,t] type #[a.eval x,a.eval y]).run P w=.ok z aM/\Rel w0 bB (a.put (some d) z) aM:=by
    split at h
    ·rename_i s i j k es e;exact aZ.ab8 (P:=P) (ty:=type) (aH.dX e (aZ.bp x)) h aW
    exact aZ.Bj (ty:=type) h aW
   obtain⟨z,aM,h1,U⟩:=vv;refine Calls.of (z:=z) (aM:=aM) ?_ (mD _ _ U);have:(execOp a.eval ⟨some d,.call ⟨.builtin .append,⟨[x,y]⟩,⟨[t,t]⟩⟩,type,pos,after,guard⟩)=(builtin .append ⟨[t,t]⟩ type (Array.map (fun | .const _=>true | _=>false) ⟨[x,y]⟩) (Array.map a.eval ⟨[x,y]⟩)):=by
    simp only[execOp,resolve];rfl
   rw[this];exact j1 (by grind)
  cases h
 ·rename_i d t x c5 hi jR;split at h
  ·obtain⟨z,h1,U⟩:=aZ.Bk (P:=P) (aZ.bp x) h aW;exact Calls.of (j1 h1) (mD _ _ U)
  rw[b5]at h;obtain⟨⟨b4,cQ,dz⟩,h1,h⟩:=h;simp only[bH]at h;obtain⟨rfl,rfl,rfl⟩:=h;obtain⟨z,U,aA⟩:=Md (o:=⟨_,_,type,pos,after,guard⟩) aZ h1 aW;exact Calls.of U (mD _ _ ⟨ω,τ,aZ.put aA⟩)
 ·rw[b5]at h;obtain⟨⟨b4,cQ,dz⟩,h1,h⟩:=h;simp only[bH]at h;obtain⟨rfl,rfl,rfl⟩:=h;obtain⟨z,U,aA⟩:=Md (o:=⟨_,_,type,pos,after,guard⟩) aZ h1 aW;exact Calls.of U (mD _ _ ⟨ω,τ,aZ.put aA⟩)
 rw[b5]at h;obtain⟨⟨b4,cQ,dz⟩,h1,h⟩:=h;simp only[bH]at h;obtain⟨rfl,rfl,rfl⟩:=h;obtain⟨z,U,aA⟩:=Md (o:=⟨_,_,type,pos,after,guard⟩) aZ h1 aW;exact Calls.of U (mD _ _ ⟨ω,τ,aZ⟩)
def pK(P:Program)(st:aD)(o:Oper)(ans:List cb):Stepped:=
 match o.dst,o.op with
 | some d,.alloc ty=>GJ P st d ty ans
 | none,.store ty (.tmp s) y=>Hz P st ty s (st.bp y) ans
 | _,_=>qH P st o ans
theorem awA(h:pK P st o ans=some (bB,cq,obs))(aW:c8 obs)(aZ:Rel w0 st a w)
  {next:Act->World->Prop} {Q:Exit->Act->World->Prop} (mD:∀cJ aM,Rel w0 bB cJ aM->next cJ aM):o.wp P a w next Q:=by
 obtain⟨dst,op,type,pos,after,guard⟩:=o;unfold pK at h;split at h
 ·rename_i d ty e1 e2;simp only at e1 e2;subst e1;subst e2;obtain⟨ω,τ,aZ⟩:=aZ;obtain⟨z,aM,h1,U⟩:=cD.ab7 aZ h;exact Calls.of (j1 h1) (mD _ _ U)
 ·rename_i ty s y e1 e2;simp only at e1 e2;subst e1;subst e2;obtain⟨ω,τ,aZ⟩:=aZ;obtain⟨aM,h1,U⟩:=aZ.aBq (P:=P) (aZ.bp y) h;unfold Oper.wp execOp;simp only[Sem.run_bind,h1,Result.andThen_ok,Sem.run_pure,Oper.upon];exact mD _ _ U
 grind[MK]
def C4(st:aD)(dst:Option Nat):aD:=
 match dst with
 | some d=>⟨st.env.set d (.one (.v undef)),st.boxes⟩
 | none=>st
theorem ML{dst:Option Nat}(h:Rel w0 st a w):Rel w0 (C4 st dst) (a.put dst undef) w:=by
 obtain⟨ω,τ,h⟩:=h;cases dst with
 | none=>exact⟨ω,τ,h⟩
 | some d=>exact⟨ω,τ,h.put (p:=.one (.v undef)) rfl⟩
def sW(ops:Array Oper)(st:aD)(o:Oper)(ans:List cb):Option (Bool×aD×List cb×List Prop):=
 match o.guard with
 | none=>some (true,st,ans,[])
 | some (j,want)=>
  match (ops[j]?).bind (·.dst) with
  | some s=>
   match (st.env.getD s .cu).leaf with
   | some (.v (.bool b))=>some (b==want,st,ans,[])
   | some (.v (.tuple _))=>some (false,st,ans,[])
   | some (.bR c)=>
    match ans with
    | .qa b::r=>some (b==want,⟨st.env.set s (.one (.v (.bool b))),st.boxes⟩,r,[c=b])
    | _=>none
   | _=>none
  | none=>none
variable{ops:Array Oper}
theorem yp{b:Bool}(h:sW ops st o ans=some (b,bB,cq,obs))(aW:c8 obs)(aZ:Rel w0 st a w):
  Region.wanted o (yielded ops a.tmps)=b/\Rel w0 bB a w:=by
 obtain⟨ω,τ,aZ⟩:=aZ;unfold sW at h;split at h
 ·rename_i ar;simp only[aX,bH]at h;obtain⟨rfl,rfl,_,_⟩:=h;exact⟨by simp[Region.wanted,ar],ω,τ,aZ⟩
 rename_i j want ar;split at h
 ·rename_i s ai;have eT:∀l,(st.env.getD s .cu).leaf=some l->∀x,(∀y,Sat w ω τ l y->y=x)->(l=.cu->False)->a.tmps[s]?=some x:=by
   intro l aj x aa cU;rw[lZ]at aj;cases e:st.env[s]? with
   | none=>
    grind[aH.leaf,aX,absurd]
   | some p=>
    rw[e]at aj;obtain⟨v,h1,U⟩:=aZ.env s p e;grind[aH.dX]
  split at h
  ·rename_i dA aj;simp only[aX,bH]at h;obtain⟨rfl,rfl,_,_⟩:=h;have:=eT _ aj (.bool dA) (fun y bk=>bk) (fun h=>by cases h);exact⟨by grind[Region.wanted,yielded],ω,τ,aZ⟩
  ·rename_i vs aj;simp only[aX,bH]at h;obtain⟨rfl,rfl,_,_⟩:=h;have:=eT _ aj (.tuple vs) (fun y bk=>bk) (fun h=>by cases h);exact⟨by grind[Region.wanted,yielded],ω,τ,aZ⟩
  ·rename_i c aj;split at h
   ·rename_i dA r;simp only[aX,bH]at h;obtain⟨rfl,rfl,_,rfl⟩:=h;have kc:c=dA:=aW.1;subst kc;have:=eT _ aj (.bool c) (fun y bk=>bk) (fun h=>by cases h);refine⟨by grind[Region.wanted,yielded],ω,τ,?_⟩;have Sy:=aZ.put (d:=s) (p:=.one (.v (.bool c))) (v:=.bool c) rfl;have e:a.put (some s) (.bool c)=a:=by
     simp only[Act.put];have:a.tmps.setIfInBounds s (.bool c)=a.tmps:=by
      grind
     rw[this]
    grind
   cases h
  cases h
 cases h
def rL(P:Program)(ops:Array Oper)(o:Oper)(st:aD)(ans:List cb):Stepped:=
 match sW ops st o ans with
 | some (true,st1,fy,gn)=>(qH P st1 o fy).map fun r=>(r.1,r.2.1,gn++r.2.2)
 | some (false,st1,fy,gn)=>some (C4 st1 o.dst,fy,gn)
 | none=>none
theorem T1{rest:List Oper}(h:rL P ops o st ans=some (bB,cq,obs))(aW:c8 obs)
  {a:Act} {w:World} (aZ:Rel w0 st a w) (im:∀cJ aM,Rel w0 bB cJ aM->wpList P ops Q rest cJ aM):wpList P ops Q (o::rest) a w:=by
 unfold rL at h;split at h
 ·rename_i st1 fy gn hw;rw[b5]at h;obtain⟨⟨b4,cQ,dz⟩,h1,h⟩:=h;simp only[bH]at h;obtain⟨rfl,rfl,rfl⟩:=h;obtain⟨dt,dm⟩:=aW.append;obtain⟨sK,ib⟩:=yp hw dt aZ;refine wpList_step fun K B2=>?_
  rw[bh sK];grind[MK]
 ·rename_i st1 fy gn hw;simp only[aX,bH]at h;obtain⟨rfl,rfl,rfl⟩:=h;obtain⟨sK,ib⟩:=yp hw aW aZ;refine wpList_step fun K B2=>?_
  rw[bq (by grind)];grind[ML]
 cases h
def MN(o dm:Oper):Option (Nat×TypeId×Operand×Option Operand×TypeId):=
 match o.dst,o.op,o.guard,dm.dst,dm.op,dm.guard with
 | some d,.slice t x c5 none none,none,none,.call ⟨.builtin .clear,⟨[.tmp dR]⟩,⟨[eM]⟩⟩,none=>if d=dR then some (d,t,x,c5,eM) else none
 | _,_,_,_,_,_=>none
theorem awB{dm:Oper}{rest:List Oper}{d:Nat}{t eM:TypeId}{x:Operand}{c5:Option Operand}(hp:MN o dm=some (d,t,x,c5,eM))
  {st bB:aD} {ans cq:List cb} {obs:List Prop} (h:HB P st d t x c5 eM ans=some (bB,cq,obs)) (aW:c8 obs)
  {a:Act} {w:World} (aZ:Rel w0 st a w) (im:∀cJ aM,Rel w0 bB cJ aM->wpList P ops Q rest cJ aM):wpList P ops Q (o::dm::rest) a w:=by
 obtain⟨dst,op,type,pos,after,guard⟩:=o;obtain⟨aCm,aDI,type2,aDN,aB6,aCz⟩:=dm;unfold MN at hp;split at hp
 ·rename_i d0 t0 cv aDC dR aDV e1 e2 cx eD iS nf;simp only at e1 e2 cx eD iS nf;subst e1 e2 cx eD iS nf;split at hp
  ·rename_i aF;subst aF;simp only[aX,bH]at hp;obtain⟨rfl,rfl,rfl,rfl,rfl⟩:=hp;obtain⟨ω,τ,aZ⟩:=aZ;obtain⟨bM,y,z,aM,h1,U,aA⟩:=aZ.clear h aW;refine wpList_plain rfl fun K B2=>Calls.of (j1 (by simpa using h1)) (B2 _ _ ?_)
   refine wpList_plain rfl fun K B2=>?_
   have sA:(a.put (some d0) y).eval (.tmp d0)=y:=by
    simp_all[Act.eval,Act.put]
   refine Calls.of (z:=z) (aM:=aM) ?_ (B2 _ _ (im _ _ aA));simp only[execOp,resolve,invoke,builtin,Sem.run_bind,Sem.run_pure,Result.andThen_ok,List.map_toArray,iM,List.map_nil,sA,U]
  cases hp
 cases hp
def yq(P:Program)(ops:Array Oper):List Oper->aD->List cb->Stepped
 | [],st,ans=>some (st,ans,[])
 | [o],st,ans=>rL P ops o st ans
 | o::dm::rest,st,ans=>
  match MN o dm with
  | some (d,t,x,c5,eM)=>
   match HB P st d t x c5 eM ans with
   | some (st1,fy,gn)=>(yq P ops rest st1 fy).map fun r=>(r.1,r.2.1,gn++r.2.2)
   | none=>none
  | none=>
   match rL P ops o st ans with
   | some (st1,fy,gn)=>(yq P ops (dm::rest) st1 fy).map fun r=>(r.1,r.2.1,gn++r.2.2)
   | none=>none
theorem MO:∀(l:List Oper) {st bB:aD} {ans cq:List cb} {obs:List Prop},yq P ops l st ans=some (bB,cq,obs)->c8 obs->
  ∀{a:Act} {w:World},Rel w0 st a w->(∀cJ aM,Rel w0 bB cJ aM->Q .normal cJ aM)->wpList P ops Q l a w
 | [],st,bB,ans,cq,obs,h,_,a,w,aZ,ka=>by
  simp only[yq,aX,bH]at h;obtain⟨rfl,_,_⟩:=h;exact ka _ _ aZ
 | [o],st,bB,ans,cq,obs,h,aW,a,w,aZ,ka=>by
  simp only[yq]at h;exact T1 h aW aZ fun cJ aM eX=>ka _ _ eX
 | o::dm::rest,st,bB,ans,cq,obs,h,aW,a,w,aZ,ka=>by
  simp only[yq]at h;split at h
  ·rename_i d t x c5 eM hp;split at h
   ·rename_i st1 fy gn h1;rw[b5]at h;obtain⟨⟨b4,cQ,dz⟩,U,h⟩:=h;simp only[bH]at h;obtain⟨rfl,rfl,rfl⟩:=h;obtain⟨dt,eY⟩:=aW.append;exact awB hp h1 dt aZ fun cJ aM eX=>MO rest U eY eX ka
   cases h
  split at h
  ·rename_i st1 fy gn h1;rw[b5]at h;obtain⟨⟨b4,cQ,dz⟩,U,h⟩:=h;simp only[bH]at h;obtain⟨rfl,rfl,rfl⟩:=h;obtain⟨dt,eY⟩:=aW.append;exact T1 h1 dt aZ fun cJ aM eX=>MO (dm::rest) U eY eX ka
  cases h
end Go.Sx
namespace Go.Sx
open Go.RowKit
abbrev gG:=List (Nat×Nat)
def gG.has(r:gG)(s:Nat):Bool:=r.any fun x=>decide (x.1<=s)&&decide (s<x.2)
def Tag.eV(r:gG):Tag->Bool
 | .free=>false
 | .own s=>r.has s
 | .ro s=>r.has s
def fg.eV(r:gG):fg->Bool
 | .J t _ _=>t.eV r
 | _=>false
def aG.eV(r:gG):aG->Bool
 | .J t _ _=>t.eV r
 | .ep t _ _ _ _=>t.eV r
 | .aS t _ _ _ _ _=>r.has t
 | .fr t vs=>r.has t||vs.any (fg.eV r)
 | _=>false
def bm.eV(r:gG):bm->Bool
 | .one l=>l.eV r
 | .agg ls=>ls.any (aG.eV r)
def aH.eV(r:gG):aH->Bool
 | .aR a=>a.eV r
 | .gB as=>as.any (bm.eV r)
def pL(g:Tag->Option Tag)(r:gG):Prop:=∀t:Tag,t.eV r=false->g t=some t
variable{g:Tag->Option Tag}{r:gG}
theorem aG.yN(ar:pL g r){l:aG}(h:l.eV r=false):l.cG g (fun _=>true)=l:=by
 cases l with
 | J t k es=>simp only[aG.eV]at h;simp only[aG.cG,ar t h]
 | ep t k es i j=>simp only[aG.eV]at h;simp only[aG.cG,ar t h]
 | ptr id off=>simp[aG.cG]
 | hr f ids=>simp[aG.cG]
 | aS t i j k es m=>simp only[aG.eV]at h;simp only[aG.cG,ar (.own t) h,fU]
 | fr t vs=>
  simp only[aG.eV,fw]at h;simp only[aG.cG,ar (.own t) h.1,fU]
  congr 1
  conv=>rhs;rw[<-tD vs]
  refine l1 fun c al=>?_
  have:=fm.1 h.2 c al;cases c with
  | cu=>rfl
  | v x=>rfl
  | J du k es=>simp only[fg.cG,ar du (by grind[fg.eV]),id]
 | _=>rfl
theorem T2(ar:pL g r){ls:List aG}(h:ls.any (aG.eV r)=false):ls.map (aG.cG g fun _=>true)=ls:=by
 conv=>rhs;rw[<-tD ls]
 grind[l1,fm,aG.yN]
theorem bm.yN(ar:pL g r){a:bm}(h:a.eV r=false):a.map (aG.cG g fun _=>true)=a:=by
 cases a with
 | one l=>grind[bm.eV,bm.map,aG.yN]
 | agg ls=>grind[bm.eV,bm.map,T2]
theorem aH.yN(ar:pL g r){p:aH}(h:p.eV r=false):p.map (aG.cG g fun _=>true)=p:=by
 cases p with
 | aR a=>grind[aH.eV,aH.map,bm.yN]
 | gB as=>
  simp only[aH.eV]at h;simp only[aH.map]
  congr 1
  conv=>rhs;rw[<-tD as]
  grind[l1,fm,bm.yN]
structure dD where
 dst:Option Nat
 p:aH
 use:List Nat
 oZ:gG
abbrev kL:=Option (dD×(Tag->Option Tag)×List cb×List Prop)
def T3:Operand->Option Nat
 | .tmp t=>some t
 | _=>none
def CJ:Option Nat->gG
 | none=>[]
 | some s=>[(s,s+1)]
def BB(P:Program)(st:aD)(d:Nat)(t:TypeId)(x y:Operand)(ans:List cb):kL:=
 match rP P t with
 | some (e,k)=>
  match P.info? e with
  | some i=>
   match i.zero,(st.bp x).leaf,x with
   | some z,some (.J (.own hL) cf es),.tmp s=>
    match w9 hL k (st.bp y) ans with
    | some (bS,ed,cq,obs)=>
     if cf=k/\z.cells.size=k/\0<k/\hL<dj then
      some (⟨some d,.one (.J (.own hL) k (es++bS)),[s],(hL,hL+1)::CJ ed⟩,iD hL ed,cq,((es.length+bS.length)*i.bytes<=140737488355328)::(es.length+bS.length<=9223372036854775807)::obs)
     else none
    | _=>none
   | some z,some (.v (.slice none 0 0)),_=>
    match w9 d k ((st.bp y).map (aG.cG (iW d []) fun _=>true)) ans with
    | some (bS,ed,cq,obs)=>
     if z.cells.size=k/\0<k/\d<dj then
      some (⟨some d,.one (.J (.own d) k ([]++bS)),[],(d,d+1)::CJ ed⟩,(fun g=>(iW d [] g).bind (iD d ed)),cq,(((([]:List (List D)).length)+bS.length)*i.bytes<=140737488355328)::(([]:List (List D)).length+bS.length<=9223372036854775807)::obs)
     else none
    | _=>none
   | _,_,_=>none
  | none=>none
 | none=>none
def JS(P:Program)(st:aD)(d:Nat)(t:TypeId)(x:Operand)(c5 hi jR:Option Operand)(ans:List cb):kL:=
 match rP P t,(st.bp x).leaf,jR,x with
 | some (_,k),some (.J (.own s) cf es),none,.tmp hj=>
  if k=cf/\s<dj then
   match ny st c5,ny st hi with
   | some l,some h=>some (⟨some d,.one (.J (.own s) k ((es.drop (l.getD 0).toNat).take ((h.getD es.length).toNat-(l.getD 0).toNat))),[hj],[(s,s+1)]⟩,lz s s,ans,[0<=l.getD 0,l.getD 0<=h.getD es.length,h.getD es.length<=es.length])
   | _,_=>none
  else none
 | _,_,_,_=>none
variable{s:Nat}
theorem awC:pL (lz s s) [(s,s+1)]:=by
 intro t h;cases t with
 | free=>rfl
 | own x=>
  have:x≠s:=by rintro rfl;grind[Tag.eV,gG.has]
  grind[lz]
 | ro x=>
  simp_all[Tag.eV,gG.has,lz]
def S3(P:Program)(d:Nat)(t:TypeId)(p q:aH)(ans:List cb):kL:=
 match P.underlying t with
 | some (.slice e)=>
  match P.info? e,p.int,q.int with
  | some i,some (_,l),some (_,c)=>
   match i.zero with
   | some z=>
    if i.size=z.cells.size/\0<i.size/\z.cells.all (·.oneCell')=true/\d<dj then
     some (⟨some d,.one (.J (.own d) i.size (List.replicate l.toNat (z.cells.toList.map .v))),[],[(d,d+1)]⟩,iW d [],ans,[0<=l,l<=c,(i.bytes:Int)*c<=281474976710656,c<=9223372036854775807])
    else none
   | none=>none
  | _,_,_=>none
 | _=>none
def tP(P:Program)(st:aD)(o:Oper)(ans:List cb):kL:=
 match o.dst,o.op with
 | some d,.call ⟨.value (.func f),args,_⟩=>
  match P.funcs[f]?,args.toList.mapM (fun x=>(st.bp x).kQ st.boxes),ans with
  | some fn,some gZ,.res rs::r=>
   if (fn.name == "runtime.NumGoroutine") = false /\ fn.body.isNone = false /\ wq rs = true /\ 10000 * (d + 1) + 10000 <= dj then
    some (⟨some d,uV (10000*(d+1)) rs,[],[(10000*(d+1),10000*(d+1)+10000)]⟩,hd (10000*(d+1)),r,[ji P f gZ rs])
   else none
  | _,_,_=>none
 | some d,.buildSlice t n parts=>
  match Fm P st d t n parts.toList with
  | some (k,es,ms)=>some (⟨some d,.one (.J (.own d) k es),[],(d,d+1)::ms.map fun x=>(x.1,x.1+1)⟩,iW d ms,ans,[])
  | _=>none
 | some d,.call ⟨.builtin .append,⟨[x,y]⟩,⟨[t,du]⟩⟩=>if t=du then BB P st d t x y ans else none
 | some _,.box _ _=>none
 | some d,.alloc ty=>
  match P.info? ty with
  | some i=>match i.zero with
   | some z=>if d<dj then some (⟨some d,.one (.fr d (z.cells.toList.map .v)),[],[(d,d+1)]⟩,iW d [],ans,[]) else none
   | none=>none
  | none=>none
 | some d,.makeSlice t l c=>S3 P d t (st.bp l) (st.bp c) ans
 | some d,.slice t x c5 hi jR=>if SV ans then JS P st d t x c5 hi jR ans.tail else (rQ P st (.slice t x c5 hi jR) ans).map fun r=>(⟨some d,r.1,[],[]⟩,some,r.2.1,r.2.2)
 | some d,op=>(rQ P st op ans).map fun r=>(⟨some d,r.1,[],[]⟩,some,r.2.1,r.2.2)
 | none,.store ty (.tmp s) y=>
  match (st.env.getD s .cu).leaf,LQ (st.bp y),P.info? ty with
  | some (.fr t vs),some cs,some i=>
   if cs.length=i.size/\cs.length<=vs.length then
    some (⟨some s,.one (.fr t ((cs++vs.drop cs.length).map (fg.cG (fz t)))),[],[(t,t+1)]⟩,fz t,ans,[])
   else none
  | _,_,_=>none
 | none,_=>none
theorem awD:pL (fz s) [(s,s+1)]:=by
 intro t h;cases t with
 | free=>rfl
 | own x=>
  have:x≠s:=by rintro rfl;grind[Tag.eV,gG.has]
  grind[fz]
 | ro x=>
  have:x≠s:=by rintro rfl;grind[Tag.eV,gG.has]
  grind[fz]
theorem axO:fg.cG some=id:=by funext c;cases c<;>rfl
theorem axP(st:aD)(f:aG->aG)(br:∀x,f (.v x)=.v x)(hu:f .cu=.cu)(aF:∀d,f (.fd d)=.fd d)(x:Operand):(st.map f).bp x=(st.bp x).map f:=by
 cases x with
 | tmp t=>
  simp only[aD.bp,aD.map];rw[lZ,lZ,eg];cases st.env[t]? with
  | none=>simp[aH.map,bm.map,hu]
  | some p=>rfl
 | const v=>
  simp only[aD.bp,Fs];split
  ·simp[aH.map,bm.map,br]
  grind[aH.map,bm.map]
 | global g=>simp[aD.bp,aH.map,bm.map,hu]
 | func aCu=>simp[aD.bp,aH.map,bm.map,aF]
theorem aG.aBg(g1 g2:Tag->Option Tag)(U:∀g t,g2 g=some (.own t)->g=.own t)(l:aG):aG.cG g2 (fun _=>true) (aG.cG g1 (fun _=>true) l)=aG.cG (fun t=>(g1 t).bind g2) (fun _=>true) l:=by
 cases l with
 | J t k es=>grind[aG.cG]
 | ep t k es i j=>grind[aG.cG]
 | hr f ids=>simp[aG.cG]
 | aS t i j k es m=>
  simp only[aG.cG];cases e1:g1 (.own t) with
  | none=>grind
  | some x=>
   simp only[qU];grind
 | fr t vs=>
  simp only[aG.cG];cases e1:g1 (.own t) with
  | none=>grind
  | some x=>
   simp only[qU];cases x with
   | own s=>
    simp only;by_cases ai:s=t
    ·subst ai;simp only[fU,aG.cG];have qk:(vs.map (fg.cG g1)).map (fg.cG g2)=vs.map (fg.cG fun t=>(g1 t).bind g2):=by
      rw[List.map_map];refine l1 fun c _=>?_
      cases c with
      | cu=>rfl
      | v x=>rfl
      | J du k es=>
       simp only[Function.comp,fg.cG];grind
     rw[qk]
    grind
   | free=>
    grind
   | ro s=>
    grind
 | ptr id off=>simp[aG.cG]
 | _=>rfl
theorem bm.map_map(f g:aG->aG)(a:bm):(a.map f).map g=a.map (g ∘ f):=by cases a<;>simp[bm.map]
theorem aH.map_map(f g:aG->aG)(p:aH):(p.map f).map g=p.map (g ∘ f):=by
 cases p with
 | aR a=>simp[aH.map,bm.map_map]
 | gB as=>simp only[aH.map,List.map_map];simp_all[congr,l1,bm.map_map]
theorem aD.map_map(f g:aG->aG)(s:aD):(s.map f).map g=s.map (g ∘ f):=by
 simp only[aD.map,List.map_map]
 congr 1
 ·grind[l1,aH.map_map]
 simp_all
theorem T4(r:gG):pL some r:=fun _ _=>rfl
theorem gG.vk{a b:Nat}(h:gG.has ((a,b)::r) s=false):(s<a\/b<=s)/\gG.has r s=false:=by
 grind[gG.has,fw,Bool.and_eq_false_iff,l4]
variable{t:Nat}
theorem axQ:pL (hd t) [(t,t+10000)]:=by
 intro g ar;cases g with
 | free=>rfl
 | own s=>
  obtain⟨h1,_⟩:=gG.vk ar;simp only[hd];grind
 | ro s=>
  obtain⟨h1,_⟩:=gG.vk ar;simp only[hd];grind
theorem MP:∀{ms:ij},(gG.has (ms.map fun x=>(x.1,x.1+1)) s)=false->(ms.at s).isSome=false
 | [],_=>rfl
 | (i,p)::r,h=>by
  simp only[gG.has,iM,E2,fw,Bool.and_eq_false_iff,l4]at h;simp only[ij.at];rw[bq (by omega)];exact MP (by simpa only[gG.has]using h.2)
theorem axR{ms:ij}:pL (iW t ms) ((t,t+1)::ms.map fun x=>(x.1,x.1+1)):=by
 intro g ar;cases g with
 | free=>rfl
 | own s=>
  obtain⟨h1,U⟩:=gG.vk ar;simp only[iW];rw[bq (by omega),MP U];rfl
 | ro s=>
  obtain⟨h1,U⟩:=gG.vk ar;simp only[iW];rw[bq (by omega),MP U];rfl
theorem T5{ed:Option Nat}(h:gG.has (CJ ed) s=false):ed≠some s:=by
 rintro rfl;grind[gG.has,CJ]
theorem T6(t:Nat)(ed:Option Nat):pL (iD t ed) ((t,t+1)::CJ ed):=by
 intro g ar;cases g with
 | free=>rfl
 | own s=>
  obtain⟨h1,U⟩:=gG.vk ar;simp only[iD];rw[bq (by omega),bq (T5 U)]
 | ro s=>
  obtain⟨h1,U⟩:=gG.vk ar;simp only[iD];rw[bq (by omega),bq (T5 U)]
theorem MQ(t:Nat)(r:gG):pL (iW t []) ((t,t+1)::r):=by
 intro g ar;cases g with
 | free=>rfl
 | own s=>
  obtain⟨h1,U⟩:=gG.vk ar;simp only[iW];rw[bq (by omega)];rfl
 | ro s=>
  obtain⟨h1,U⟩:=gG.vk ar;simp only[iW];rw[bq (by omega)];rfl
variable{P:Program}{st:aD}{e:dD}{obs:List Prop}
theorem T7{d:Nat}{t:TypeId}{x y:Operand}{ans cq:List cb}(h:BB P st d t x y ans=some (e,g,cq,obs)):pL g e.oZ/\e.dst=some d:=by
 unfold BB at h;split at h
 ·split at h
  ·split at h
   ·split at h
    ·split at h
     ·simp only[aX,bH]at h;obtain⟨rfl,rfl,_,_⟩:=h;simp_all[T6]
     cases h
    cases h
   ·split at h
    ·split at h
     ·simp only[aX,bH]at h;obtain⟨rfl,rfl,_,_⟩:=h;exact⟨fun t bG=>by simp only[MQ d _ t bG,qU];exact T6 d _ t bG,rfl⟩
     cases h
    cases h
   cases h
  cases h
 cases h
theorem T8{o:Oper}{ans cq:List cb}(h:tP P st o ans=some (e,g,cq,obs)):
  pL g e.oZ/\∃d,e.dst=some d/\pK P st o ans=some (⟨(st.map (aG.cG g fun _=>true)).env.set d e.p,(st.map (aG.cG g fun _=>true)).boxes⟩,cq,obs):=by
 obtain⟨dst,op,type,pos,after,guard⟩:=o;have hD:∀st:aD,st.map (aG.cG some fun _=>true)=st:=by
  intro st;have:(aG.cG some fun _=>true)=_root_.id:=by
   funext l;cases l<;>simp[aG.cG,axO]
  rw[this];simp only[aD.map];have h1:aH.map _root_.id=_root_.id:=by
   funext p;cases p with
   | aR a=>cases a<;>simp[aH.map,bm.map]
   | gB as=>
    simp only[aH.map,id]
    congr 1
    have:bm.map _root_.id=_root_.id:=by funext a;cases a<;>simp[bm.map]
    simp_all
  simp_all
 simp only[tP]at h;split at h
 ·rename_i d f args ts;split at h
  ·rename_i fn gZ rs r h1 U;split at h
   ·rename_i al;simp only[aX,bH]at h;obtain⟨rfl,rfl,rfl,rfl⟩:=h;refine⟨axQ,d,rfl,?_⟩;simp only[pK,qH,SU,oh,mr,MJ,h1,U,l0];rw[bh al];rfl
   cases h
  cases h
 ·rename_i d t n parts;split at h
  ·rename_i k es ms aq;simp only[aX,bH]at h;obtain⟨rfl,rfl,rfl,rfl⟩:=h;refine⟨axR,d,rfl,?_⟩;simp only[pK,qH];exact awT aq ans
  cases h
 ·rename_i d x y t du;split at h
  ·rename_i Cr;subst Cr;refine⟨(T7 h).1,d,(T7 h).2,?_⟩;simp only[pK,qH,fU,Sx.Bj];unfold BB at h;split at h
   ·rename_i xc k he;simp only[he];split at h
    ·rename_i i hi;simp only[hi];split at h
     ·rename_i z hL cf es s aL aj;split at h
      ·rename_i bS ed a2 dm ai;split at h
       ·rename_i al;obtain⟨rfl,al⟩:=al;simp only[aX,bH]at h;obtain⟨rfl,rfl,rfl,rfl⟩:=h;simp only[Fi,aj,fU,aL,ai];rw[bh al];rfl
       cases h
      cases h
     ·rename_i z _ aL aj;split at h
      ·rename_i bS ed a2 dm ai;split at h
       ·rename_i al;simp only[aX,bH]at h;obtain⟨rfl,rfl,rfl,rfl⟩:=h;have sA:(st.ki d []).bp y=(st.bp y).map (aG.cG (iW d []) fun _=>true):=axP st _ (fun _=>rfl) rfl (fun _=>rfl) y;simp only[Fi,aj,aL,sA,ai];rw[bh al];have:(st.ki d []).y6 d ed=st.map (aG.cG (fun g=>(iW d [] g).bind (iD d ed)) fun _=>true):=by
         simp only[aD.ki,aD.y6,aD.map_map]
         congr 1
         funext l;refine aG.aBg _ _ (fun g t h=>?_) l;cases g with
         | free=>grind[iD]
         | own s=>
          grind[iD]
         | ro s=>
          grind[iD]
        rw[this]
       cases h
      cases h
     cases h
    cases h
   cases h
  cases h
 ·cases h
 ·rename_i d ty;split at h
  ·rename_i i hi;split at h
   ·rename_i z aL;split at h
    ·rename_i aF;simp only[aX,bH]at h;obtain⟨rfl,rfl,rfl,rfl⟩:=h;refine⟨MQ _ _,d,rfl,?_⟩;simp only[pK,GJ,hi,aL];rw[bh aF];rfl
    cases h
   cases h
  cases h
 ·rename_i d t l c;unfold S3 at h;split at h
  ·rename_i e hu;split at h
   ·rename_i i b8 hb bt kS hi e1 e2;split at h
    ·rename_i z aL;split at h
     ·rename_i al;simp only[aX,bH]at h;obtain⟨rfl,rfl,rfl,rfl⟩:=h;refine⟨MQ _ _,d,rfl,?_⟩;simp only[pK,qH,Gx,hu,hi,e1,e2,aL];rw[bh al];rfl
     cases h
    cases h
   cases h
  cases h
 ·rename_i d t x c5 hi jR;split at h
  ·rename_i aW;unfold JS at h;split at h
   ·rename_i e k s cf es hj e1 e2;split at h
    ·rename_i al;obtain⟨rfl,ai⟩:=al;split at h
     ·rename_i l bK cx eD;simp only[aX,bH]at h;obtain⟨rfl,rfl,rfl,rfl⟩:=h;refine⟨awC,d,rfl,?_⟩;simp_all[pK,qH,fU,Bk,pJ,true_and]
     cases h
    cases h
   cases h
  rename_i aW;rw[b5]at h;obtain⟨⟨b4,cQ,dz⟩,h1,h⟩:=h;simp only[bH]at h;obtain⟨rfl,rfl,rfl,rfl⟩:=h;simp_all[T4,pK,qH,bq]
 ·rename_i d gv gT iX jS lv n6 n7;rw[b5]at h;obtain⟨⟨b4,cQ,dz⟩,h1,h⟩:=h;simp only[bH]at h;obtain⟨rfl,rfl,rfl,rfl⟩:=h;refine⟨T4 _,d,rfl,?_⟩;rw[hD];have FF:pK P st ⟨some d,op,type,pos,after,guard⟩ ans=qH P st ⟨some d,op,type,pos,after,guard⟩ ans:=by
   simp_all[pK]
  grind[qH,rQ]
 ·rename_i ty s y;split at h
  ·rename_i hL vs v i e1 e2 cx;split at h
   ·rename_i al;simp only[aX,bH]at h;obtain⟨rfl,rfl,rfl,rfl⟩:=h;refine⟨awD,s,rfl,?_⟩;simp only[pK,Hz,e1,e2,cx];grind
   cases h
  cases h
 cases h
theorem Rel.weaken{w0:eN}{bB:aD}{a:Act}{w:World}(h:Rel w0 st a w)(aP:bB.env.length=st.env.length)(aq:bB.boxes=st.boxes)
  (he:∀(i:Nat) (p:aH),bB.env[i]?=some p->p=.cu\/st.env[i]?=some p):Rel w0 bB a w:=by
 obtain⟨ω,τ,h⟩:=h;refine⟨ω,τ,h.defers,h.size.trans aP.symm,h.below,h.owned,h.fixed,h.pinned,fun i p hp=>?_,by rw[aq];exact h.boxes⟩;rcases he i p hp with rfl | U
 ·have:i<a.tmps.size:=by
   rw[h.size,<-aP];grind
  exact⟨a.tmps[i],by simp[this],ad⟩
 exact h.env i p U
def dD.hl(e:dD)(t:Nat):Option aH:=if e.dst=some t then some e.p else if t∈e.use then some .cu else none
def AM(env:List aH):List Nat->List aH
 | s::us=>AM (env.set s .cu) us
 | []=>env
theorem T9:∀(us:List Nat) (env:List aH) (t:Nat),(AM env us)[t]?=(env[t]?).map fun p=>if t∈us then .cu else p
 | [],env,t=>by simp[AM]
 | s::us,env,t=>by
  simp only[AM,T9 us,o3,dQ];grind
def dD.apply(e:dD)(env:List aH):List aH:=
 match e.dst with
 | some d=>(AM env e.use).set d e.p
 | none=>env
theorem dD.apply_get(aF:e.dst≠none)(env:List aH)(t:Nat):(e.apply env)[t]?=(env[t]?).map fun p=>(e.hl t).getD p:=by
 unfold dD.apply dD.hl;split
 ·rename_i d eK;have ai:∀(t:Nat),(AM env e.use)[t]?=(env[t]?).map fun p=>if t∈e.use then .cu else p:=T9 e.use env
  grind
 grind
def hU(L:Nat->Bool)(t:Nat):Nat->List dD->aH->aH
 | _,[],acc=>acc
 | k,e::es,acc=>hU L t (k+1) es (if L k then (e.hl t).getD acc else acc)
variable{L:Nat->Bool}
theorem C5{L':Nat->Bool}:∀{es:List dD} {k:Nat} {acc:aH},(∀(j:Nat) (e:dD),es[j]?=some e->e.hl t≠none->L (k+j)=L' (k+j))->hU L t k es acc=hU L' t k es acc
 | [],_,_,_=>rfl
 | e::es,k,acc,h=>by
  simp only[hU];have bE:(if L k then (e.hl t).getD acc else acc)=(if L' k then (e.hl t).getD acc else acc):=by
   cases bG:e.hl t with
   | none=>simp
   | some p=>have:=h 0 e rfl (by simp[bG]);grind
  rw[bE];exact C5 fun j e' a8 bG=>by have:=h (j+1) e' (by grind) bG;grind
theorem T'{p:aH}:∀{es:List dD} {k i:Nat} {acc:aH} {e:dD},es[i]?=some e->e.hl t=some p->L (k+i)=true->
  (∀(j:Nat) (e':dD),i<j->es[j]?=some e'->e'.hl t≠none->L (k+j)=false)->hU L t k es acc=p
 | [],_,_,_,_,h,_,_,_=>by simp at h
 | cd::es,k,0,acc,e,h,bG,cC,iU=>by
  simp at h;subst h;simp only[hU];rw[o7]at cC;rw[cC,bG];simp only[fU,l0];have:∀(es:List dD) (k:Nat),(∀(j:Nat) (e':dD),es[j]?=some e'->e'.hl t≠none->L (k+j)=false)->hU L t k es p=p:=by
   intro es;induction es with
   | nil=>intro k _;rfl
   | cons e1 es dL=>
    intro k h;simp only[hU];have h1:(if L k then (e1.hl t).getD p else p)=p:=by
     cases bG:e1.hl t with
     | none=>simp
     | some q=>have:=h 0 e1 rfl (by simp[bG]);grind
    rw[h1];exact dL (k+1) fun j e' a8 Cq=>by have:=h (j+1) e' (by grind) Cq;grind
  exact this es (k+1) fun j e' a8 Cq=>by have:=iU (j+1) e' (by omega) (by grind) Cq;grind
 | cd::es,k,i+1,acc,e,h,bG,cC,iU=>by
  simp only[hU];exact T' (i:=i) (by simpa using h) bG (by rwa[show k+1+i=k+(i+1) by omega]) fun j e' a8 Cd Cq=>by
   have:=iU (j+1) e' (by omega) (by simpa using Cd) Cq;rwa[show k+(j+1)=k+1+j by omega]at this
def fk(env0:List aH)(bs:List (Nat×List aG))(L:Nat->Bool)(es:List dD):aD:=⟨env0.zipIdx.map fun x=>hU L x.2 0 es x.1,bs⟩
variable{bs:List (Nat×List aG)}
theorem rU{env0:List aH}{es:List dD}(t:Nat):(fk env0 bs L es).env[t]?=(env0[t]?).map fun p=>hU L t 0 es p:=by
 simp only[fk,eg,List.getElem?_zipIdx,dV];grind
theorem AN{env0:List aH}{es:List dD}:(fk env0 bs L es).env.length=env0.length:=by simp[fk]
def MR(ops:Array Oper)(o:Oper):Option Nat:=o.guard.bind fun x=>(ops[x.1]?).bind (·.dst)
def reads(ops:Array Oper)(o:Oper):List Nat:=o.op.operands.toList.filterMap T3++(MR ops o).toList
def AO(d:Nat):dD:=⟨some d,.one (.v undef),[],[]⟩
def ext(e:dD)(env:List aH):dD:=
 if e.oZ.isEmpty then e else { e with use:=e.use++(env.zipIdx.filterMap fun x=>if x.1.eV e.oZ&&!(e.dst==some x.2) then some x.2 else none) }
theorem MS(e:dD)(env:List aH):∃u,ext e env={ e with use:=u }:=by
 unfold ext;split
 ·grind
 grind
structure iP where
 t:Nat
 i:Nat
 j:Nat
 k:Nat
 kT:Nat
 es:List (List D)
 esT:List (List D)
def IJ(t:Nat)(bs:List (Nat×List aG)):Option (Nat×List (List D)):=
 (bs.find? fun x=>(x.2.findSome? (uW t)).isSome).bind fun x=>(dI x.1 bs).bind fun ls=>ls.findSome? (uW t)
theorem axS{w0:eN}{a:Act}{w:World}{ω:Own}{τ:Nat->Nat×Value}(h:cD w0 st a w ω τ){kT:Nat}{esT:List (List D)}(e:IJ t st.boxes=some (kT,esT)):∃v,Sat w ω τ (.J (.own t) kT esT) v:=by
 unfold IJ at e;rw[nM]at e;obtain⟨x,_,e⟩:=e;rw[nM]at e;obtain⟨ls,aq,e⟩:=e;obtain⟨l,aj,e⟩:=List.exists_of_findSome?_eq_some e;obtain⟨b,arr,ty,_,_,_,ai⟩:=h.boxes _ ls aq;obtain⟨n,aP⟩:=p4.1 aj;obtain⟨u,_,hu⟩:=ai.2 n l aP;exact⟨u,No e hu⟩
def sX(st:aD)(o:Oper):Option iP:=
 match o.dst,o.op with
 | some _,.call ⟨.builtin .append,⟨[x,_]⟩,⟨[_,_]⟩⟩=>
  match (st.bp x).leaf with
  | some (.aS s i j k es .here)=>
   match IJ s st.boxes with
   | some (kT,esT)=>some ⟨s,i,j,k,kT,es,esT⟩
   | none=>none
  | _=>none
 | _,_=>none
def wM(P:Program)(st:aD)(o:Oper)(ans:List cb):Option (dD×List cb×List Prop):=
 match sX st o,o.dst,o.op with
 | some v,some d,.call ⟨.builtin .append,⟨[_,y]⟩,⟨[t,du]⟩⟩=>
  if t=du then (ve P t v.t v.i v.j v.k v.es v.esT (st.bp y) ans).map fun r=>(⟨some d,r.1,[],[]⟩,r.2.1,r.2.2) else none
 | _,_,_=>none
def iP.fix(v:iP):aG->Option (List Prop)
 | .J (.own s) eb dW=>if s=v.t then (if eb=v.kT then some [dW=v.esT] else none) else some []
 | .ep (.own s) eb dW _ _=>if s=v.t then (if eb=v.kT then some [dW=v.esT] else none) else some []
 | .J (.ro s) _ _=>if s=v.t then none else some []
 | .ep (.ro s) _ _ _ _=>if s=v.t then none else some []
 | .aS s a b eb dW m=>if s=v.t/\b=v.j then (if eb=v.k/\m.home=true then some [a=v.i,dW=v.es] else none) else some []
 | .fr _ _=>none
 | _=>some []
def iP.om(v:iP)(l:aG):Prop:=hW v.t v.i v.j v.k v.es v.kT v.esT l=l/\∀a∈l.idx v.t v.j,a=v.i
theorem iP.acv{v:iP}{l:aG}(h:v.fix l=some obs)(aW:c8 obs):v.om l:=by
 obtain⟨t,i,j,k,kT,es,esT⟩:=v;unfold iP.om;simp only;cases l with
 | J g eb dW=>
  refine⟨?_,fun a ae=>by grind[aG.idx]⟩;cases g with
  | free=>rfl
  | own s=>
   simp only[iP.fix]at h;split at h
   ·rename_i ai;subst ai;split at h
    ·rename_i hk;subst hk;cases h;have e:dW=esT:=aW.1;grind[hW]
    cases h
   grind[hW]
  | ro s=>
   grind[iP.fix,hW]
 | ep g eb dW x y=>
  refine⟨?_,fun a ae=>by grind[aG.idx]⟩;cases g with
  | free=>rfl
  | own s=>
   simp only[iP.fix]at h;split at h
   ·rename_i ai;subst ai;split at h
    ·rename_i hk;subst hk;cases h;have e:dW=esT:=aW.1;grind[hW]
    cases h
   grind[hW]
  | ro s=>
   grind[iP.fix,hW]
 | aS s a b eb dW m=>
  simp only[iP.fix]at h;split at h
  ·rename_i ai;obtain⟨rfl,rfl⟩:=ai;split at h
   ·rename_i hk;cases h;have e1:a=i:=aW.1;have e2:dW=es:=aW.2.1;simp_all[hW,aG.idx]
   cases h
  simp_all[hW,bq,aG.idx]
 | fr t vs=>cases h
 | _=>exact⟨rfl,fun a ae=>by grind[aG.idx]⟩
def bm.vH:bm->List aG
 | .one l=>[l]
 | .agg ls=>ls
def aH.vH:aH->List aG
 | .aR a=>a.vH
 | .gB as=>as.flatMap bm.vH
theorem bm.CG{p:aG->Prop}{a:bm}(h:∀l∈a.vH,p l):a.mu p:=by
 cases a with
 | one l=>exact h l (by simp[bm.vH])
 | agg ls=>exact h
theorem aH.CG{p:aG->Prop}{q:aH}(h:∀l∈q.vH,p l):q.mu p:=by
 cases q with
 | aR a=>exact bm.CG h
 | gB as=>exact fun a ae=>bm.CG fun l aj=>h l (l2.2 ⟨a,ae,aj⟩)
def iP.fixes(v:iP):List aG->Option (List Prop)
 | []=>some []
 | l::r=>
  match v.fix l,iP.fixes v r with
  | some a,some b=>some (a++b)
  | _,_=>none
theorem iP.RS{v:iP}:∀{ls:List aG} {obs:List Prop},v.fixes ls=some obs->c8 obs->∀l∈ls,v.om l
 | [],_,_,_,l,aj=>by cases aj
 | fR::r,obs,h,aW,l,aj=>by
  simp only[iP.fixes]at h;split at h
  ·rename_i a b h1 U;cases h;obtain⟨dt,dm⟩:=aW.append;rcases dQ.1 aj with rfl | aj
   ·grind[iP.acv]
   exact iP.RS U dm l aj
  cases h
def Bi(bs:List (Nat×List aG))(all:Nat->List aG):Nat->List Oper->List aH->List dD->Option (List Prop)
 | i,o::os,env,e::es=>
  match sX ⟨env,bs⟩ o with
  | some v=>
   match v.fixes (all i),Bi bs all (i+1) os (e.apply env) es with
   | some a,some b=>some (a++b)
   | _,_=>none
  | none=>Bi bs all (i+1) os (e.apply env) es
 | _,_,_,_=>some []
theorem Ua{all:Nat->List aG}:∀{l:List Oper} {es:List dD} {env:List aH} {i0:Nat} {obs:List Prop},Bi bs all i0 l env es=some obs->c8 obs->
  ∀(i:Nat) (o:Oper),l[i]?=some o->i<es.length->∀v,sX ⟨(es.take i).foldl (fun env e=>e.apply env) env,bs⟩ o=some v->∀lR∈all (i0+i),v.om lR
 | [],_,_,_,_,_,_,i,o,hi,_,_,_,_,_=>by simp at hi
 | _::_,[],_,_,_,_,_,i,o,_,aj,_,_,_,_=>by simp at aj
 | zO::os,e::es,env,i0,obs,h,aW,i,o,hi,aj,v,bD,lR,KJ=>by
  simp only[Bi]at h;cases i with
  | zero=>
   simp only[mV,aX]at hi;subst hi;simp only[List.take_zero,List.foldl_nil]at bD;rw[bD]at h;simp only at h;split at h
   ·rename_i a b h1 U;cases h;exact iP.RS h1 aW.append.1 lR KJ
   cases h
  | succ i=>
   have go:∀{b:List Prop},Bi bs all (i0+1) os (e.apply env) es=some b->c8 b->v.om lR:=fun U dm=>
    Ua U dm i o (by grind) (by grind) v (by grind) lR (by grind)
   split at h
   ·split at h
    ·rename_i a b h1 U;cases h;exact go U aW.append.2
    cases h
   grind
def wx(P:Program)(ops:Array Oper)(gs:List Nat)(bs:List (Nat×List aG)):List Oper->List aH->List cb->Option (List dD×List aH×List cb×List Prop)
 | [],env,ans=>some ([],env,ans,[])
 | o::rest,env,ans=>
  match sW ops ⟨env,bs⟩ o [] with
  | some (true,_,_,_)=>
   match tP P ⟨env,bs⟩ o ans with
   | some (e,_,fy,gn)=>
    match (match o.dst with | some d=>gs.contains d | none=>false),e.p.leaf,fy with
    | true,some (.bR c),.qa b::r=>
     (wx P ops gs bs rest (dD.apply { ext e env with p:=.one (.v (.bool b)) } env) r).map fun x=>({ ext e env with p:=.one (.v (.bool b)) }::x.1,x.2.1,x.2.2.1,(c=b)::(gn++x.2.2.2))
    | _,_,_=>(wx P ops gs bs rest ((ext e env).apply env) fy).map fun x=>(ext e env::x.1,x.2.1,x.2.2.1,gn++x.2.2.2)
   | none=>
    match wM P ⟨env,bs⟩ o ans with
    | some (e,fy,gn)=>(wx P ops gs bs rest (e.apply env) fy).map fun x=>(e::x.1,x.2.1,x.2.2.1,gn++x.2.2.2)
    | none=>none
  | some (false,_,_,_)=>
   match o.dst with
   | some d=>(wx P ops gs bs rest ((AO d).apply env) ans).map fun x=>(AO d::x.1,x.2.1,x.2.2.1,x.2.2.2)
   | none=>none
  | none=>none
def Fact(P:Program)(ops:Array Oper)(bs:List (Nat×List aG))(env:List aH)(o:Oper)(e:dD):Prop:=
 (∃st1 eB dt,sW ops ⟨env,bs⟩ o []=some (false,st1,eB,dt)/\∃d,o.dst=some d/\e=AO d)\/
 (∃st1 eB dt,sW ops ⟨env,bs⟩ o []=some (true,st1,eB,dt)/\∃ans cd g cq obs,tP P ⟨env,bs⟩ o ans=some (cd,g,cq,obs)/\c8 obs/\
  ∃u,(e={ cd with use:=u }\/∃c b,cd.p=.one (.bR c)/\c=b/\e={ cd with use:=u,p:=.one (.v (.bool b)) }))\/
 (∃st1 eB dt,sW ops ⟨env,bs⟩ o []=some (true,st1,eB,dt)/\∃ans cq obs,wM P ⟨env,bs⟩ o ans=some (e,cq,obs)/\c8 obs)
theorem C6{ops:Array Oper}{gs:List Nat}:∀{l:List Oper} {env vl:List aH} {ans cq:List cb} {es:List dD} {obs:List Prop},
  wx P ops gs bs l env ans=some (es,vl,cq,obs)->c8 obs->
  es.length=l.length/\vl=es.foldl (fun env e=>e.apply env) env/\∀(i:Nat) (o:Oper),l[i]?=some o->∃e,es[i]?=some e/\Fact P ops bs ((es.take i).foldl (fun env e=>e.apply env) env) o e
 | [],env,vl,ans,cq,es,obs,h,_=>by
  simp_all[wx,aX,bH]
 | o::rest,env,vl,ans,cq,es,obs,h,aW=>by
  have fin:∀(e:dD) (dW:List dD) (JU:List aH),(dW.length=rest.length/\JU=dW.foldl (fun env e=>e.apply env) (e.apply env)/\∀(i:Nat) (o:Oper),rest[i]?=some o->∃e',dW[i]?=some e'/\Fact P ops bs ((dW.take i).foldl (fun env e=>e.apply env) (e.apply env)) o e')->
    Fact P ops bs env o e->(e::dW).length=(o::rest).length/\JU=(e::dW).foldl (fun env e=>e.apply env) env/\∀(i:Nat) (rJ:Oper),(o::rest)[i]?=some rJ->∃e',(e::dW)[i]?=some e'/\Fact P ops bs (((e::dW).take i).foldl (fun env e=>e.apply env) env) rJ e':=by
   intro e dW JU ⟨h1,U,aA⟩ br;refine⟨by simp[h1],U,fun i rJ nj=>?_⟩;cases i with
   | zero=>grind
   | succ i=>grind
  simp only[wx]at h;split at h
  ·rename_i st1 eB dt hw;split at h
   ·rename_i e g fy gn aF;split at h
    ·rename_i c b r ar aj;rw[b5]at h;obtain⟨⟨fM,gO,nK,wT⟩,h1,h⟩:=h;simp only[bH]at h;obtain⟨rfl,rfl,_,rfl⟩:=h;have Tb:(c=b)/\c8 wT:=⟨aW.1,(c8.append aW.2).2⟩
     have CL:=(c8.append aW.2).1;refine fin _ _ _ (C6 h1 Tb.2) (.inr (.inl ⟨_,_,_,hw,_,_,_,_,_,aF,CL,(MS e env).choose,.inr ⟨c,b,?_,?_,?_⟩⟩))
     ·cases hp:e.p with
      | aR a=>
       rw[hp]at aj;cases a with
       | one l=>grind[aH.leaf,aX]
       | agg ls=>cases aj
      | gB as=>rw[hp]at aj;cases aj
     ·exact Tb.1
     grind
    rw[b5]at h;obtain⟨⟨fM,gO,nK,wT⟩,h1,h⟩:=h;simp only[bH]at h;obtain⟨rfl,rfl,_,rfl⟩:=h;obtain⟨CL,dm⟩:=aW.append;exact fin _ _ _ (C6 h1 dm) (.inr (.inl ⟨_,_,_,hw,_,_,_,_,_,aF,CL,(MS e env).choose,.inl (MS e env).choose_spec⟩))
   split at h
   ·rename_i e fy gn K0;rw[b5]at h;obtain⟨⟨fM,gO,nK,wT⟩,h1,h⟩:=h;simp only[bH]at h;obtain⟨rfl,rfl,_,rfl⟩:=h;obtain⟨CL,dm⟩:=aW.append;exact fin _ _ _ (C6 h1 dm) (.inr (.inr ⟨_,_,_,hw,_,_,_,K0,CL⟩))
   cases h
  ·rename_i st1 eB dt hw;split at h
   ·rename_i d aF;rw[b5]at h;obtain⟨⟨fM,gO,nK,wT⟩,h1,h⟩:=h;simp only[bH]at h;obtain⟨rfl,rfl,_,rfl⟩:=h;exact fin _ _ _ (C6 h1 aW) (.inl ⟨_,_,_,hw,d,aF,rfl⟩)
   cases h
  cases h
end Go.Sx
namespace Go.Sx
open Go.RowKit
variable{st bB:aD}
theorem Ub{parts:List (Nat×Operand)}(h:∀x∈parts,st.bp x.2=bB.bp x.2):(parts.map fun x=>(x.1,st.bp x.2))=parts.map fun x=>(x.1,bB.bp x.2):=
 l1 fun x aa=>by rw[h x aa]
variable{P:Program}{ans:List cb}
theorem Uc{op:Op}(aq:st.boxes=bB.boxes)(h:∀x∈op.operands.toList,st.bp x=bB.bp x):rQ P st op ans=rQ P bB op ans:=by
 cases op<;>simp only[rQ,Op.operands,dQ,List.mem_nil_iff,forall_eq_or_imp,or_false,forall_eq]at h ⊢
 case load t x=>grind[GM]
 case slice t x c5 hi jR=>
  have aa:st.bp x=bB.bp x:=h x (by simp);have aW:∀o:Option Operand,(∀y,o=some y->st.bp y=bB.bp y)->ny st o=ny bB o:=by
   intro o aW;cases o with
   | none=>rfl
   | some y=>simp_all[ny]
  simp_all[GN]
 case build t ca=>
  have:(ca.toList.map fun x=>(x.1,st.bp x.2))=ca.toList.map fun x=>(x.1,bB.bp x.2):=Ub fun x aa=>h x.2 (by grind)
  grind[GO]
 case call c=>
  obtain⟨callee,args,ts⟩:=c;cases callee with
  | value f=>rfl
  | invoke r i=>rfl
  | builtin b=>
   simp only[Call.operands]at h;have kV:∀x∈args.toList,st.bp x=bB.bp x:=fun x aa=>h x (by grind)
   simp only;generalize args.toList=l at kV;unfold GU;grind
 case makeFunc fn first captured=>
  have al:captured.toList.map st.bp=captured.toList.map bB.bp:=l1 fun x aa=>h x (by grind)
  simp only[GR,al]
 all_goals simp[h]
variable{o:Oper}
theorem axT(aq:st.boxes=bB.boxes)(h:∀x∈o.op.operands.toList,st.bp x=bB.bp x):tP P st o ans=tP P bB o ans:=by
 obtain⟨dst,op,type,pos,after,guard⟩:=o;simp only at h;cases dst with
 | none=>
  cases op with
  | store ty x y=>
   cases x with
   | tmp s=>
    simp_all[Op.operands,aD.bp,tP]
   | _=>rfl
  | _=>rfl
 | some d=>
  unfold tP;split
  ·rename_i f args ts e1 e2;simp only at e1 e2;subst e2;have kV:∀x∈args.toList,st.bp x=bB.bp x:=fun x aa=>h x (by grind[Op.operands,Call.operands])
   have:args.toList.mapM (fun x=>(st.bp x).kQ st.boxes)=args.toList.mapM (fun x=>(bB.bp x).kQ bB.boxes):=by
    rw[<-aq];generalize args.toList=l at kV;generalize st.boxes=bs;induction l with
    | nil=>rfl
    | cons x l dL=>grind
   rw[this]
  ·rename_i t n parts e1 e2;simp only at e1 e2;subst e2;have:(parts.toList.map fun x=>(x.1,st.bp x.2))=parts.toList.map fun x=>(x.1,bB.bp x.2):=Ub fun x aa=>h x.2 (by grind[Op.operands])
   grind[Fm]
  ·rename_i x y t du e1 e2;simp only at e1 e2;subst e2;have aa:st.bp x=bB.bp x:=h x (by simp[Op.operands,Call.operands]);have bk:st.bp y=bB.bp y:=h y (by simp[Op.operands,Call.operands]);simp only[BB,aa,bk]
  ·rfl
  ·rfl
  ·grind[Op.operands]
  ·rename_i t x c5 hi jR e1 e2;simp only at e1 e2;subst e2;have aa:st.bp x=bB.bp x:=h x (by simp[Op.operands]);have aW:∀o:Option Operand,(∀y,o=some y->st.bp y=bB.bp y)->ny st o=ny bB o:=by
    intro o aW;cases o with
    | none=>rfl
    | some y=>simp_all[ny]
   rw[Uc aq h];simp only[JS,aa];rw[aW c5 (fun y e=>h y (by simp[Op.operands,e])),aW hi (fun y e=>h y (by simp[Op.operands,e]))]
  ·rw[Uc aq h]
  ·grind
  rfl
theorem RR{x:Operand}(h:∀t,T3 x=some t->st.env.getD t .cu=bB.env.getD t .cu):st.bp x=bB.bp x:=by
 cases x with
 | tmp t=>simpa[aD.bp]using h t rfl
 | _=>rfl
def nP(ms:List Nat)(i j:Nat):Bool:=(ms.getD j 0).testBit i
def yr(ms:List Nat):List Edge->Nat
 | []=>0
 | e::r=>if Region.binds .any e then (2 ^ e.on ||| ms.getD e.on 0) ||| yr ms r else yr ms r
def sV:List Oper->List Nat->List Nat
 | [],acc=>acc
 | o::r,acc=>sV r (acc++[yr acc o.after.toList])
variable{ms:List Nat}{i:Nat}
theorem MT:∀{l:List Edge},(yr ms l).testBit i=true->∃e∈l,Region.binds .any e=true/\(i=e.on\/nP ms i e.on=true)
 | [],h=>by grind[yr]
 | e::r,h=>by
  simp only[yr]at h;split at h
  ·rename_i aq;rw[Nat.testBit_or,Nat.testBit_or,oi,oi,Nat.testBit_two_pow,cc]at h;rcases h with (h | h) | h
   ·grind
   ·exact⟨e,by simp,aq,.inr h⟩
   obtain⟨e',h1,U⟩:=MT h;exact⟨e',by simp[h1],U⟩
  obtain⟨e',h1,U⟩:=MT h;exact⟨e',by simp[h1],U⟩
def sq{α:Type}(f:Nat->α->Bool):Nat->List α->Bool
 | _,[]=>true
 | k,x::r=>f k x&&sq f (k+1) r
theorem yt{α:Type}{f:Nat->α->Bool}:∀{l:List α} {k:Nat},sq f k l=true->∀(i:Nat) (x:α),l[i]?=some x->f (k+i) x=true
 | [],_,_,i,x,h=>by simp at h
 | y::r,k,h,0,x,aa=>by
  simp_all[sq,b9]
 | y::r,k,h,i+1,x,aa=>by
  simp only[sq,b9]at h;have:=yt h.2 i x (by simpa using aa);rwa[show k+1+i=k+(i+1) by omega]at this
def sY(ms:List Nat)(os:List Oper):Bool:=
 sq (fun j o=>ms.getD j 0==yr ms o.after.toList&&o.after.toList.all fun e=>!Region.binds .any e||decide (e.on<j)) 0 os
variable{ops:Array Oper}
theorem MU(h:sY ms ops.toList=true){j:Nat}(aW:ops[j]?=some o):(∀e∈o.after,Region.binds .any e=true->e.on<j)/\
  ∀i,nP ms i j=true->∃e∈o.after,Region.binds .any e=true/\(i=e.on\/nP ms i e.on=true):=by
 have:=yt h j o (by grind);simp only[dV,b9,iL,gP,oi,gQ,cc]at this;grind[nP,MT]
def rV(ops:Array Oper)(b2:Array Bool):Prop:=
 ∀(j:Nat) (o:Oper),b2.getD j false=true->ops[j]?=some o->∀e∈o.after,Region.binds .any e=true->b2.getD e.on false=true
variable{b2:Array Bool}
theorem HL{j:Nat}(h:b2.getD j false=true):j<b2.size:=by
 grind
theorem HM(h:sY ms ops.toList=true)(al:rV ops b2)(ai:b2.size=ops.size):∀(j:Nat),b2.getD j false=true->nP ms i j=true->b2.getD i false=true:=by
 intro j;induction j using Nat.strongRecOn with
 | ind j dL=>
  intro a8 ae;have bM:j<ops.size:=ai▸HL a8;have aW:ops[j]?=some ops[j]:=nL bM;obtain⟨h1,U⟩:=MU h aW;obtain⟨e,he,aq,ql⟩:=U i ae;have zt:=al j _ a8 aW e he aq;grind
variable{k:Nat}
theorem C7(h:sY ms ops.toList=true)(al:rV ops b2)(ai:b2.size=ops.size)(hi:i∈Region.ready .any ops b2)(ae:nP ms k i=true):b2.getD k false=true:=by
 rw[mem_ready]at hi;obtain⟨_,o,aW,he⟩:=hi;obtain⟨_,U⟩:=MU h aW;obtain⟨e,zr,aq,ql⟩:=U k ae;rcases ql with rfl | ql
 ·grind
 grind[HM]
theorem rV.ready(al:rV ops b2)(hi:i∈Region.ready .any ops b2):rV ops (b2.setIfInBounds i true):=by
 intro j o a8 aW e he aq;rw[mem_ready]at hi;obtain⟨_,aDH,aDj,qq⟩:=hi;by_cases oG:i=j
 ·grind[getD_set_true]
 rw[getD_set_ne false oG]at a8;exact getD_set_true (al j o a8 aW e he aq)
theorem MV(h:sY ms ops.toList=true)(ai:b2.size=ops.size)(aB:Region.ready .any ops b2=[]):∀j,j<ops.size->b2.getD j false=true:=by
 intro j;induction j using Nat.strongRecOn with
 | ind j dL=>
  intro bM;have aW:ops[j]?=some ops[j]:=nL bM;obtain⟨h1,_⟩:=MU h aW;cases aj:b2.getD j false with
  | true=>rfl
  | false=>
   have:j∈Region.ready .any ops b2:=by
    grind[mem_ready,Nat.lt_trans]
   grind
def C8(e:dD):List Nat:=e.dst.toList++e.use
def HN(ops:Array Oper)(o:Oper)(e:dD):List Nat:=C8 e++reads ops o
def Gr(ms:List Nat)(i k:Nat):Bool:=if k<i then nP ms k i else nP ms i k
def MW(ops:Array Oper)(ms:List Nat)(es:List dD):Bool:=
 sq (fun i x=>sq (fun k e=>k==i||Gr ms i k||!((C8 e).any fun t=>(HN ops x.1 x.2).contains t)) 0 es) 0 (ops.toList.zip es)
def AP(ms:List Nat)(es:List dD)(i c5:Nat)(s:Option Nat):Bool:=es.zipIdx.any fun y=>decide (c5<=y.2)&&nP ms y.2 i&&(match s with | some t=>y.1.use.contains t | none=>false)
variable{es:List dD}
theorem Ud{c5:Nat}{s:Option Nat}(h:AP ms es i c5 s=true):∃m y t,es[m]?=some y/\c5<=m/\nP ms m i=true/\t∈y.use/\s=some t:=by
 unfold AP at h;grind
def MX(ms:List Nat)(es:List dD)(env0:List aH)(bs:List (Nat×List aG)):Bool:=
 sq (fun i e=>e.oZ.isEmpty||
  (sq (fun j x=>j==i||nP ms i j||!x.p.eV e.oZ||(match x.dst with | some t=>e.use.contains t | none=>false)||x.dst==e.dst||AP ms es i (j+1) x.dst) 0 es&&
   sq (fun t p=>!p.eV e.oZ||e.use.contains t||AP ms es i 0 (some t)||e.dst==some t) 0 env0&&
   bs.all fun x=>!x.2.any (aG.eV e.oZ))) 0 es
variable{e:dD}
theorem Ue{t:Nat}(h:e.hl t≠none):t∈C8 e:=by
 unfold dD.hl at h;split at h
 ·grind[C8]
 simp_all[C8,absurd]
theorem Uf(h:MW ops ms es=true){il JT:dD}(aW:ops[i]?=some o)(hi:es[i]?=some il)(hk:es[k]?=some JT)(cU:k≠i){t:Nat}
  (bG:JT.hl t≠none) (aP:t∈HN ops o il):Gr ms i k=true:=by
 have h1:=yt h i (o,il) (by
  grind)
 have U:=yt h1 k JT hk;simp only[dV,oi,iL,gQ]at U;rcases U with (U | U) | U
 ·grind
 ·exact U
 simp_all[fm,Ue,List.contains_iff_mem,absurd]
variable{r:gG}
theorem Tag.rH(h:r.isEmpty=true)(t:Tag):t.eV r=false:=by
 cases t with
 | free=>rfl
 | own s=>rw[List.isEmpty_iff]at h;subst h;rfl
 | ro s=>rw[List.isEmpty_iff]at h;subst h;rfl
theorem aG.rH(h:r.isEmpty=true)(l:aG):l.eV r=false:=by
 cases l with
 | aS t i j k es m=>exact Tag.rH h (.own t)
 | fr t vs=>
  simp only[aG.eV,fw];refine⟨Tag.rH h (.own t),fm.2 fun c _=>?_⟩;cases c with
  | cu=>simp[fg.eV]
  | v x=>simp[fg.eV]
  | J t k es=>simp[fg.eV,Tag.rH h]
 | _=>simp[aG.eV,Tag.rH h]
theorem bm.rH(h:r.isEmpty=true)(a:bm):a.eV r=false:=by
 cases a<;>simp[bm.eV,aG.rH h]
theorem aH.rH(h:r.isEmpty=true)(p:aH):p.eV r=false:=by
 cases p<;>simp[aH.eV,bm.rH h]
variable{bs:List (Nat×List aG)}
theorem axU{env0:List aH}(h:MX ms es env0 bs=true)(hi:es[i]?=some e):
  (∀(j:Nat) (x:dD),es[j]?=some x->j≠i->nP ms i j=true\/x.p.eV e.oZ=false\/(∃t,x.dst=some t/\t∈e.use)\/x.dst=e.dst\/AP ms es i (j+1) x.dst=true)/\
  (∀(t:Nat) (p:aH),env0[t]?=some p->((p.eV e.oZ=false\/t∈e.use)\/AP ms es i 0 (some t)=true)\/e.dst=some t)/\∀x∈bs,x.2.any (aG.eV e.oZ)=false:=by
 have h1:=yt h i e hi;simp only[oi,cc]at h1;rcases h1 with h1 | h1
 ·grind[aH.rH,fm,aG.rH]
 simp only[b9]at h1;obtain⟨⟨h1,U⟩,aA⟩:=h1;refine⟨fun j x aa cU=>?_,fun t p hp=>?_,fun x aa=>?_⟩
 ·have:=yt h1 j x aa;grind
 ·have:=yt U t p hp;grind
 grind
theorem MY{L:Nat->Bool}{t:Nat}:∀{es:List dD} {k:Nat} {acc:aH},(hU L t k es acc=acc/\∀(m:Nat) (y:dD),es[m]?=some y->L (k+m)=true->y.hl t=none)\/hU L t k es acc=.cu\/
  ∃j e,es[j]?=some e/\L (k+j)=true/\e.dst=some t/\hU L t k es acc=e.p/\∀(m:Nat) (y:dD),es[m]?=some y->j<m->L (k+m)=true->y.hl t=none
 | [],_,_=>.inl ⟨rfl,fun m y h=>by simp at h⟩
 | e::es,k,acc=>by
  simp only[hU];rcases MY (L:=L) (t:=t) (es:=es) (k:=k+1) (acc:=if L k then (e.hl t).getD acc else acc) with⟨h,aP⟩ | h | ⟨j,e',h1,U,aA,aI,a'⟩
  ·have tail:∀(m:Nat) (y:dD),(e::es)[m+1]?=some y->L (k+(m+1))=true->y.hl t=none:=fun m y bk aj=>aP m y (by grind) (by grind)
   by_cases cC:L k=true
   ·rw[bh cC]at h ⊢;unfold dD.hl at h ⊢;by_cases aF:e.dst=some t
    ·rw[bh aF]at h ⊢;refine .inr (.inr ⟨0,e,rfl,cC,aF,h,fun m y bk hm aj=>?_⟩);cases m with
     | zero=>omega
     | succ m=>exact tail m y bk aj
    rw[bq aF]at h ⊢;by_cases hu:t∈e.use
    ·grind
    rw[bq hu]at h ⊢;refine .inl ⟨h,fun m y bk aj=>?_⟩;cases m with
    | zero=>
     grind
    | succ m=>exact tail m y bk aj
   grind
  ·grind
  refine .inr (.inr ⟨j+1,e',by grind,by grind,aA,aI,fun m y bk hm aj=>?_⟩);grind
theorem Ug{t:Nat}:∀{es:List dD} {k i:Nat} {acc:aH} {e:dD},es[i]?=some e->
  hU (fun j=>decide (j<k+i+1)) t k es acc=(e.hl t).getD (hU (fun j=>decide (j<k+i)) t k es acc)
 | [],_,_,_,_,h=>by simp at h
 | cd::es,k,0,acc,e,h=>by
  simp at h;subst h;have iU:∀(es:List dD) (k m:Nat) (acc:aH),m<=k->hU (fun j=>decide (j<m)) t k es acc=acc:=by
   intro es;induction es with
   | nil=>intro k m acc _;rfl
   | cons e1 es dL=>
    intro k m acc hm;simp only[hU];rw[bq (by grind)];exact dL (k+1) m acc (by omega)
  simp_all[hU,bh,bq]
 | cd::es,k,i+1,acc,e,h=>by
  simp only[hU];rw[bh (by simp;omega),bh (by simp)];have:=Ug (t:=t) (es:=es) (k:=k+1) (i:=i) (acc:=(cd.hl t).getD acc) (by simpa using h);rw[show k+1+i+1=k+(i+1)+1 by omega,show k+1+i=k+(i+1) by omega]at this;exact this
theorem HO{env0:List aH}{bs:List (Nat×List aG)}(aF:∀(i:Nat) (e:dD),es[i]?=some e->e.dst≠none):∀(i:Nat),i<=es.length->
  (es.take i).foldl (fun env e=>e.apply env) env0=(fk env0 bs (fun j=>decide (j<i)) es).env
 | 0,_=>by
  apply List.ext_getElem?;intro t;rw[rU];have iU:∀(es:List dD) (k:Nat) (acc:aH),hU (fun j=>decide (j<0)) t k es acc=acc:=by
   intro es;induction es with
   | nil=>intro k acc;rfl
   | cons e1 es dL=>simp_all[hU,bq]
  grind
 | i+1,hi=>by
  have bM:i<es.length:=by omega
  have he:es[i]?=some es[i]:=jA bM;have dL:=HO (env0:=env0) (bs:=bs) aF i (by omega);rw[p6,he,yY,List.foldl_append,dL];simp only[List.foldl_cons,List.foldl_nil];apply List.ext_getElem?;intro t;rw[dD.apply_get (aF i _ he),rU,rU];cases h:env0[t]? with
  | none=>rfl
  | some p=>
   have:=Ug (t:=t) (es:=es) (k:=0) (i:=i) (acc:=p) he;grind
theorem MZ{bB:aD}{st1:aD}{eB:List cb}{dt:List Prop}{b:Bool}(h:sW ops st o []=some (b,st1,eB,dt))(ai:∀t∈reads ops o,st.env.getD t .cu=bB.env.getD t .cu):
  sW ops bB o []=some (b,bB,[],[]):=by
 unfold sW at h ⊢;cases ar:o.guard with
 | none=>grind
 | some g=>
  obtain⟨j,want⟩:=g;rw[ar]at h;simp only at h ⊢;cases aF:(ops[j]?).bind (·.dst) with
  | none=>grind
  | some s=>
   grind[reads,MR,aX,bH]
variable{cq:List cb}{obs:List Prop}
theorem TI(h:wM P st o ans=some (e,cq,obs)):
  ∃(v:iP) (d:Nat) (x y:Operand) (t:TypeId),sX st o=some v/\o.dst=some d/\o.op=.call ⟨.builtin .append,⟨[x,y]⟩,⟨[t,t]⟩⟩/\ve P t v.t v.i v.j v.k v.es v.esT (st.bp y) ans=some (e.p,cq,obs)/\
   e=⟨some d,e.p,[],[]⟩/\(st.bp x).leaf=some (.aS v.t v.i v.j v.k v.es .here)/\IJ v.t st.boxes=some (v.kT,v.esT):=by
 obtain⟨dst,op,type,pos,after,guard⟩:=o;unfold wM at h;split at h
 ·rename_i v d hn y t du hi aF ps;simp only at aF ps;subst aF;subst ps;split at h
  ·rename_i Cr;subst Cr;rw[b5]at h;obtain⟨⟨b4,cQ,dz⟩,h1,h⟩:=h;simp only[bH]at h;obtain⟨rfl,rfl,rfl⟩:=h;have oF:=hi;simp only[sX]at oF;grind
  cases h
 cases h
theorem TJ{st bB:aD}(aq:st.boxes=bB.boxes)(h:∀x∈o.op.operands.toList,st.bp x=bB.bp x):sX st o=sX bB o:=by
 obtain⟨dst,op,type,pos,after,guard⟩:=o;simp only at h;unfold sX;simp only;split
 ·grind[Op.operands,Call.operands]
 rfl
theorem axV(aq:st.boxes=bB.boxes)(h:∀x∈o.op.operands.toList,st.bp x=bB.bp x):wM P st o ans=wM P bB o ans:=by
 unfold wM;rw[TJ aq h];split
 ·grind[Op.operands,Call.operands]
 rfl
theorem axW{v:iP}{q:aH}(h:q.mu v.om):∀a∈q.idx v.t v.j,a=v.i:=by
 have one:∀{a:bm},a.mu v.om->∀x∈a.idx v.t v.j,x=v.i:=by
  intro a ae x aa;cases a with
  | one l=>exact ae.2 x aa
  | agg ls=>
   obtain⟨l,aj,aa⟩:=l2.1 aa;exact (ae l aj).2 x aa
 intro x aa;cases q with
 | aR a=>exact one h x aa
 | gB as=>
  obtain⟨a,ae,aa⟩:=l2.1 aa;exact one (h a ae) x aa
theorem axX{v:iP}{q:aH}(h:q.mu v.om):q.map (hW v.t v.i v.j v.k v.es v.kT v.esT)=q:=by
 have ls:∀{ls:List aG},(∀l∈ls,v.om l)->ls.map (hW v.t v.i v.j v.k v.es v.kT v.esT)=ls:=by
  intro ls aj
  conv=>rhs;rw[<-tD ls]
  exact l1 fun l hm=>(aj l hm).1
 have one:∀{a:bm},a.mu v.om->a.map (hW v.t v.i v.j v.k v.es v.kT v.esT)=a:=by
  intro a ae;cases a with
  | one l=>simp only[bm.map];rw[ae.1]
  | agg l=>simp only[bm.map];rw[ls ae]
 cases q with
 | aR a=>simp only[aH.map];rw[one h]
 | gB as=>
  simp only[aH.map]
  congr 1
  conv=>rhs;rw[<-tD as]
  exact l1 fun a hm=>one (h a hm)
theorem Fact.dst{env:List aH}(h:Fact P ops bs env o e):e.dst≠none:=by
 rcases h with⟨_,_,_,_,d,aF,rfl⟩ | ⟨_,_,_,_,ans,cd,g,cq,obs,h1,_,U⟩ | ⟨_,_,_,_,ans,cq,obs,h1,_⟩
 rotate_left 2
 ·grind[TI]
 ·simp[AO]
 obtain⟨_,d,aI,_⟩:=T8 h1;grind
variable{w0:eN}{a:Act}{w:World}
theorem Rel.bool{env:List aH}{d:Nat}{c:Bool}(h:Rel w0 ⟨env.set d (.one (.bR c)),bs⟩ a w):Rel w0 ⟨env.set d (.one (.v (.bool c))),bs⟩ a w:=by
 obtain⟨ω,τ,h⟩:=h;refine⟨ω,τ,h.defers,by have:=h.size;grind,h.below,h.owned,h.fixed,h.pinned,fun i p hp=>?_,h.boxes⟩;by_cases hi:d=i
 ·subst hi;rw[o3]at hp;split at hp
  ·split at hp
   ·rename_i aj;simp only[aX]at hp;subst hp;obtain⟨v,h1,U⟩:=h.env d (.one (.bR c)) (by simp[aj]);exact⟨v,h1,U⟩
   cases hp
  grind
 exact h.env i p (by grind)
section
variable {P : Program} {ops : Array Oper} {bs : List (Nat × List aG)} {env0 : List aH} {es : List dD} {ms : List Nat}
def fu(b2:Array Bool)(j:Nat):Bool:=b2.getD j false
structure qX (P:Program) (ops:Array Oper) (bs:List (Nat×List aG)) (env0:List aH) (es:List dD) (ms:List Nat):Prop where
 len:es.length<=ops.size
 facts:∀(i:Nat) (o:Oper),i<es.length->ops[i]?=some o->∃e,es[i]?=some e/\Fact P ops bs (fk env0 bs (fun j=>decide (j<i)) es).env o e
 masks:sY ms ops.toList=true
 aS:∀(i:Nat) (o:Oper) (v:iP),i<es.length->ops[i]?=some o->sX ⟨(fk env0 bs (fun j=>decide (j<i)) es).env,bs⟩ o=some v->
  (∀q∈env0,q.mu v.om)/\(∀(j:Nat) (x:dD),es[j]?=some x->j≠i->x.p.mu v.om)/\∀x∈bs,∀l∈x.2,v.om l
 ord:MW ops ms es=true
 tok:MX ms es env0 bs=true
variable{b2:Array Bool}{i:Nat}{e:dD}
theorem qX.same(h:qX P ops bs env0 es ms)(al:rV ops b2)(ai:b2.size=ops.size)(hi:i∈Region.ready .any ops b2){o:Oper}(aW:ops[i]?=some o)(he:es[i]?=some e)
  {t:Nat} (bG:t∈HN ops o e):(fk env0 bs (fu b2) es).env.getD t .cu=(fk env0 bs (fun j=>decide (j<i)) es).env.getD t .cu:=by
 rw[lZ,lZ,rU,rU];have gS:b2.getD i false=false:=by
  have bE:=(mem_ready.1 hi).1;grind
 cases aCV:env0[t]? with
 | none=>rfl
 | some p=>
  simp only[si,l0];refine C5 fun j zb a8 F8=>?_
  rw[dV];by_cases kX:j=i
  ·grind[fu]
  have:=Uf h.ord aW he a8 kX F8 bG;unfold Gr at this;split at this
  ·rename_i bM;have:=C7 h.masks al ai hi this;grind[fu]
  rename_i bM;cases KK:b2.getD j false with
  | false=>grind[fu]
  | true=>have:=HM h.masks al ai j KK this;grind
theorem M0(bM:i<b2.size)(j:Nat):fu (b2.setIfInBounds i true) j=(if j=i then true else fu b2 j):=by
 unfold fu;split
 ·simp_all
 simp_all[getD_set_ne,false,Ne.symm]
theorem qX.eU(h:qX P ops bs env0 es ms)(bM:i<b2.size)(he:es[i]?=some e){t:Nat}(bG:e.hl t=none)(p:aH):
  hU (fu (b2.setIfInBounds i true)) t 0 es p=hU (fu b2) t 0 es p:=by
 refine C5 fun j zb a8 F8=>?_
 rw[dV,M0 bM,bq];grind
theorem qX.last(h:qX P ops bs env0 es ms)(al:rV ops b2)(ai:b2.size=ops.size)(hi:i∈Region.ready .any ops b2){o:Oper}(aW:ops[i]?=some o)(he:es[i]?=some e)
  {t:Nat} {q:aH} (bG:e.hl t=some q) (p:aH):hU (fu (b2.setIfInBounds i true)) t 0 es p=q:=by
 have bM:i<b2.size:=ai▸(kt.1 aW).1;have gS:b2.getD i false=false:=by
  have bE:=(mem_ready.1 hi).1;grind
 refine T' he bG (by rw[dV,M0 bM,bh rfl]) fun j zb a8 adB F8=>?_
 rw[dV,M0 bM,bq (by omega)];have:=Uf h.ord aW he adB (by omega) F8 (t:=t) (by
  grind[HN,gE,Ue])
 unfold Gr at this;rw[bq (by omega)]at this;cases KK:fu b2 j with
 | false=>rfl
 | true=>have:=HM h.masks al ai j KK this;grind
theorem qX.step(h:qX P ops bs env0 es ms)(al:rV ops b2)(ai:b2.size=ops.size)(hi:i∈Region.ready .any ops b2)(qq:i<es.length){w0:eN}{w:World}{a:Act}
  (aB:Rel w0 (fk env0 bs (fu b2) es) a w) {Q:Exit->Act->World->Prop} {K:Act->World->Prop} (im:∀cJ aM,Rel w0 (fk env0 bs (fu (b2.setIfInBounds i true)) es) cJ aM->K cJ aM):wpOp P ops Q i K a w:=by
 obtain⟨bE,o,aW,aCU⟩:=mem_ready.1 hi;obtain⟨e,he,br⟩:=h.facts i o qq aW;have bM:i<b2.size:=ai▸(kt.1 aW).1;have aec:=fun t bG=>h.same al ai hi aW he (t:=t) bG
 have Cl:∀t∈reads ops o,(fk env0 bs (fun j=>decide (j<i)) es).env.getD t .cu=(fk env0 bs (fu b2) es).env.getD t .cu:=fun t bG=>(aec t (hP _ bG)).symm
 unfold wpOp;rw[aW];simp only;rcases br with⟨st1,eB,dt,hw,d,aF,rfl⟩ | ⟨st1,eB,dt,hw,ans,cd,g,cq,obs,e6,KQ,sy⟩ | ⟨st1,eB,dt,hw,ans,cq,obs,K0,KQ⟩
 rotate_left 2
 ·have Ct:=MZ hw (bB:=fk env0 bs (fu b2) es) Cl;obtain⟨sK,_⟩:=yp Ct trivial aB;rw[bh sK];left;have R':∀x∈o.op.operands.toList,(fk env0 bs (fu b2) es).bp x=aD.bp ⟨(fk env0 bs (fun j=>decide (j<i)) es).env,bs⟩ x:=fun x aa=>RR fun t bG=>(Cl t (by
   grind[reads,gE])).symm
  have Kn:wM P (fk env0 bs (fu b2) es) o ans=some (e,cq,obs):=by
   rw[<-K0];exact axV rfl R'
  obtain⟨v,d,x,y,t,adv,aF,ps,vv,ql,aa,pu⟩:=TI Kn;have adw:sX ⟨(fk env0 bs (fun j=>decide (j<i)) es).env,bs⟩ o=some v:=by
   rw[<-adv];exact (TJ (st:=fk env0 bs (fu b2) es) (bB:=⟨(fk env0 bs (fun j=>decide (j<i)) es).env,bs⟩) rfl R').symm
  obtain⟨aCX,Kw,Sa⟩:=h.aS i o v qq aW adw;have gS:b2.getD i false=false:=by
   grind
  have vA:∀q∈(fk env0 bs (fu b2) es).env,q.mu v.om:=by
   intro q aC;simp only[fk]at aC;rw[fV]at aC;obtain⟨⟨jm,n⟩,hm,rfl⟩:=aC;have mF:jm∈env0:=by
    grind
   simp only;rcases MY (L:=fu b2) (t:=n) (es:=es) (k:=0) (acc:=jm) with⟨h1,_⟩ | h1 | ⟨j,zb,h1,U,_,aI,_⟩
   ·grind
   ·rw[h1];exact⟨rfl,fun a ae=>by grind[aG.idx]⟩
   rw[aI];refine Kw j zb h1 ?_;rintro rfl;rw[dV]at U;grind[fu]
  have FW:(fk env0 bs (fu b2) es).map (hW v.t v.i v.j v.k v.es v.kT v.esT)=fk env0 bs (fu b2) es:=by
   have e1:(fk env0 bs (fu b2) es).env.map (aH.map (hW v.t v.i v.j v.k v.es v.kT v.esT))=(fk env0 bs (fu b2) es).env:=by
    conv=>rhs;rw[<-tD (fk env0 bs (fu b2) es).env]
    grind[l1,axX]
   have e2:bs.map (fun x=>(x.1,x.2.map (hW v.t v.i v.j v.k v.es v.kT v.esT)))=bs:=by
    conv=>rhs;rw[<-tD bs]
    refine l1 fun x aa=>?_
    obtain⟨fM,gO⟩:=x;simp only[id]
    congr 1
    conv=>rhs;rw[<-tD gO]
    exact l1 fun l aj=>(Sa _ aa l aj).1
   unfold aD.map;rw[e1];show aD.mk _ (bs.map _)=_;rw[e2];rfl
  have qp:∀a∈(fk env0 bs (fu b2) es).idx v.t v.j,a=v.i:=by
   intro cJ ae;unfold aD.idx at ae;rcases gg.1 ae with ae | ae
   ·grind[axW]
   obtain⟨z,aL,ae⟩:=l2.1 ae;obtain⟨l,aj,ae⟩:=l2.1 ae;exact (Sa z aL l aj).2 cJ ae
  obtain⟨ω,τ,ib⟩:=aB;obtain⟨z,aM,h1,U⟩:=ib.ve (P:=P) (d:=d) (ty:=o.type) (kT:=v.kT) (x:=x) (y:=y) (aH.dX aa (ib.bp x)) vv KQ (axS ib pu) qp;rw[FW]at U;obtain⟨dst,op,type,pos,after,guard⟩:=o;simp only at aF ps;subst aF;subst ps;refine Calls.of (z:=z) (aM:=aM) ?_ (im _ _ ?_)
  ·have:(execOp a.eval ⟨some d,.call ⟨.builtin .append,⟨[x,y]⟩,⟨[t,t]⟩⟩,type,pos,after,guard⟩)=(builtin .append ⟨[t,t]⟩ type (Array.map (fun | .const _=>true | _=>false) ⟨[x,y]⟩) (Array.map a.eval ⟨[x,y]⟩)):=by
    simp only[execOp,resolve];rfl
   rw[this];exact j1 (by grind)
  refine U.weaken (by simp[AN]) rfl ?_;intro n p hp;right;rw[rU,b5]at hp;obtain⟨jm,mF,rfl⟩:=hp;rw[o3];have Ku:e.dst=some d:=by rw[ql]
  have xw:e.use=[]:=by rw[ql]
  by_cases vz:d=n
  ·subst vz;have:d<env0.length:=(gh.1 mF).1;rw[bh rfl,bh (by grind[AN]),h.last al ai hi aW he (q:=e.p) (by grind[dD.hl])]
  rw[bq vz,rU,mF,si,h.eU bM he (by grind[dD.hl])]
 ·have Ct:=MZ hw (bB:=fk env0 bs (fu b2) es) Cl;obtain⟨sK,_⟩:=yp Ct trivial aB;rw[bq (by grind)];refine im _ _ ((ML aB).weaken ?_ ?_ ?_)
  ·simp[AN,C4,aF]
  ·simp[fk,C4,aF]
  intro t p hp;rw[rU,b5]at hp;obtain⟨jm,mF,rfl⟩:=hp;right;simp only[C4,aF];rw[o3];by_cases vz:d=t
  ·subst vz;have:d<env0.length:=(gh.1 mF).1;rw[bh rfl,bh (by grind[AN]),h.last al ai hi aW he (q:=.one (.v undef)) (by simp[dD.hl,AO])]
  rw[bq vz,rU,mF,si,h.eU bM he (by grind[dD.hl,AO])]
 have Ct:=MZ hw (bB:=fk env0 bs (fu b2) es) Cl;obtain⟨sK,_⟩:=yp Ct trivial aB;rw[bh sK];left;have Kn:tP P (fk env0 bs (fu b2) es) o ans=some (cd,g,cq,obs):=by
  rw[<-e6];refine axT rfl fun x aa=>RR fun t bG=>(Cl t ?_).symm
  grind[reads,gE]
 obtain⟨ar,d,Kt,ps⟩:=T8 Kn;obtain⟨u,sy⟩:=sy;have zD:e.oZ=cd.oZ/\e.dst=cd.dst:=by
  grind
 obtain⟨zD,ada⟩:=zD;rw[<-zD]at ar;obtain⟨ael,aem,aDs⟩:=axU h.tok he;have acU:((fk env0 bs (fu b2) es).map (aG.cG g fun _=>true)).boxes=bs:=by
  simp only[aD.map,fk]
  conv=>rhs;rw[<-tD bs]
  grind[l1,id,T2]
 refine awA ps KQ aB fun cJ aM eX=>im _ _ ?_
 rw[acU]at eX;have oK:Rel w0 ⟨((fk env0 bs (fu b2) es).map (aG.cG g fun _=>true)).env.set d e.p,bs⟩ cJ aM:=by
  rcases sy with rfl | ⟨c,b,hp,kc,rfl⟩
  ·exact eX
  rw[hp]at eX;subst kc;exact eX.bool
 refine oK.weaken (by simp[AN,aD.map]) rfl ?_;intro t p hp;rw[rU,b5]at hp;obtain⟨jm,mF,rfl⟩:=hp;rw[o3];have Ku:e.dst=some d:=ada.trans Kt;by_cases vz:d=t
 ·subst vz;right;have:d<env0.length:=(gh.1 mF).1;rw[bh rfl,bh (by grind[aD.map,AN]),h.last al ai hi aW he (q:=e.p) (by grind[dD.hl])]
 rw[bq vz];by_cases aDu:t∈e.use
 ·left;exact h.last al ai hi aW he (by grind[dD.hl]) jm
 have KH:=h.eU bM he (t:=t) (by grind[dD.hl]) jm;rw[KH];have aDf:hU (fu b2) t 0 es jm=.cu\/(hU (fu b2) t 0 es jm).eV e.oZ=false:=by
  rcases MY (L:=fu b2) (t:=t) (es:=es) (k:=0) (acc:=jm) with⟨h1,iU⟩ | h1 | ⟨j,zb,h1,U,aA,aI,iU⟩
  ·right;rw[h1];rcases aem t jm mF with (a' | a') | a'
   rotate_left 2
   ·grind
   ·grind
   obtain⟨m,y,du,hm,_,ae,hu,bG⟩:=Ud a';cases bG;have:=iU m y hm (by rw[dV];exact C7 h.masks al ai hi ae);unfold dD.hl at this;grind
  ·exact .inl h1
  right;rw[aI];rw[dV]at U;have gS:b2.getD i false=false:=by
   grind
  have kX:j≠i:=by grind
  rcases ael j zb h1 kX with a' | a' | a' | a' | a'
  rotate_left 3
  ·grind
  ·obtain⟨m,y,du,hm,Sl,ae,hu,bG⟩:=Ud a';rw[aA]at bG;cases bG;have:=iU m y hm (by omega) (by rw[dV];exact C7 h.masks al ai hi ae);unfold dD.hl at this;grind
  ·have:=HM h.masks al ai j U a';grind
  ·exact a'
  grind
 grind[aD.map,rU,aH.yN]
def M1(ops:Array Oper)(ms:List Nat)(k:Nat):Prop:=∀i,k<=i->i<ops.size->∀j,j<i->nP ms j i=true
theorem qX.any(h:qX P ops bs env0 es ms)(aq:M1 ops ms es.length){w0:eN}{Q:Exit->Act->World->Prop}
  (ka:∀(h':Nat) {b2:Array Bool},rV ops b2->b2.size=ops.size->(∀j,j<es.length->b2.getD j false=true)->(∀j,es.length<=j->b2.getD j false=false)->b2.count false<=h'->
   ∀{a:Act} {w:World},Rel w0 (fk env0 bs (fun j=>decide (j<es.length)) es) a w->wpAny P .any ops Q h' b2 a w):
  ∀(h':Nat) {b2:Array Bool},rV ops b2->b2.size=ops.size->(∀j,es.length<=j->b2.getD j false=false)->b2.count false<=h'->
  ∀{a:Act} {w:World},Rel w0 (fk env0 bs (fu b2) es) a w->wpAny P .any ops Q h' b2 a w:=by
 intro h';induction h' with
 | zero=>
  intro b2 al ai gS ud a w aB;by_cases jk:∀j,j<es.length->b2.getD j false=true
  ·refine ka 0 al ai jk gS ud ?_;have:fk env0 bs (fu b2) es=fk env0 bs (fun j=>decide (j<es.length)) es:=by
    unfold fk
    congr 1
    refine l1 fun x _=>?_
    refine C5 fun j e a8 _=>?_
    have bM:j<es.length:=(gh.1 a8).1;simp_all[dV,fu,decide_true]
   grind
  exfalso;apply jk;intro j a8;have bM:j<b2.size:=ai▸Bt a8 h.len;cases br:b2[j] with
  | true=>simp[nL bM,br]
  | false=>
   have:0<b2.count false:=by
    grind[Array.count_pos_iff,Array.getElem_mem]
   omega
 | succ h' dL=>
  intro b2 al ai gS ud a w aB;by_cases jk:∀j,j<es.length->b2.getD j false=true
  ·refine ka _ al ai jk gS ud ?_;have:fk env0 bs (fu b2) es=fk env0 bs (fun j=>decide (j<es.length)) es:=by
    unfold fk
    congr 1
    refine l1 fun x _=>?_
    refine C5 fun j e a8 _=>?_
    have bM:j<es.length:=(gh.1 a8).1;simp_all[dV,fu,decide_true]
   grind
  refine⟨fun zA=>absurd (fun j a8=>MV h.masks ai zA j (Bt a8 h.len)) jk,fun i hi=>?_⟩;have qq:i<es.length:=by
   rcases qV i es.length with h1 | h1
   ·exact h1
   exfalso;obtain⟨_,o,aW,_⟩:=mem_ready.1 hi;have bM:i<ops.size:=(kt.1 aW).1;exact jk fun j a8=>C7 h.masks al ai hi (aq i h1 bM j (Bt a8 h1))
  refine h.step al ai hi qq aB fun cJ aM eX=>dL (al.ready hi) (by grind) (fun j a8=>?_) ?_ eX
  ·rw[getD_set_ne false (by omega)];grind
  obtain⟨h1,o,aW,_⟩:=mem_ready.1 hi;have bM:i<b2.size:=ai▸(kt.1 aW).1;have br:b2[i]=false:=by simpa[nL bM]using h1
  grind
end
def AQ(P:Program)(ops:Array Oper):List Oper->aD->List cb->Stepped
 | [],st,ans=>some (st,ans,[])
 | o::rest,st,ans=>
  match rL P ops o st ans with
  | some (st1,fy,gn)=>(AQ P ops rest st1 fy).map fun r=>(r.1,r.2.1,gn++r.2.2)
  | none=>none
theorem TK{Q:Exit->Act->World->Prop}(hi:ops[i]?=some o)(h:rL P ops o st ans=some (bB,cq,obs))(aW:c8 obs)
  {a:Act} {w:World} (aZ:Rel w0 st a w) {K:Act->World->Prop} (im:∀cJ aM,Rel w0 bB cJ aM->K cJ aM):wpOp P ops Q i K a w:=by
 unfold wpOp;rw[hi];simp only;unfold rL at h;split at h
 ·rename_i st1 fy gn hw;rw[b5]at h;obtain⟨⟨b4,cQ,dz⟩,h1,h⟩:=h;simp only[bH]at h;obtain⟨rfl,rfl,rfl⟩:=h;obtain⟨dt,dm⟩:=aW.append;obtain⟨sK,ib⟩:=yp hw dt aZ;rw[bh sK];grind[MK]
 ·rename_i st1 fy gn hw;simp only[aX,bH]at h;obtain⟨rfl,rfl,rfl⟩:=h;obtain⟨sK,ib⟩:=yp hw aW aZ;simp_all[bq,ML]
 cases h
theorem axY(hm:sY ms ops.toList=true)(aq:M1 ops ms k){Q:Exit->Act->World->Prop}:∀(h' n:Nat) {b2:Array Bool},k<=n->n<=ops.size->
  rV ops b2->b2.size=ops.size->(∀j,j<n->b2.getD j false=true)->(∀j,n<=j->b2.getD j false=false)->b2.count false<=h'->
  ∀{st bB:aD} {ans cq:List cb} {obs:List Prop},AQ P ops (ops.toList.drop n) st ans=some (bB,cq,obs)->c8 obs->
  ∀{a:Act} {w:World},Rel w0 st a w->(∀cJ aM,Rel w0 bB cJ aM->Q .normal cJ aM)->wpAny P .any ops Q h' b2 a w:=by
 have fin:∀{b2:Array Bool} {n:Nat},n=ops.size->b2.size=ops.size->(∀j,j<n->b2.getD j false=true)->Region.ready .any ops b2=[]:=by
  intro b2 n aP ai h1;rw[List.eq_nil_iff_forall_not_mem];intro j a8;obtain⟨U,o,aW,_⟩:=mem_ready.1 a8;grind
 intro h';induction h' with
 | zero=>
  intro n b2 FT aP al ai h1 U ud st bB ans cq obs h aW a w aB ka;have sE:n=ops.size:=by
   rcases qV n ops.size with bM | qn
   ·have kx:n<b2.size:=ai▸bM;have br:b2[n]=false:=by simpa[nL kx]using U n (fl _)
    have:0<b2.count false:=by
     grind[Array.count_pos_iff,Array.getElem_mem]
    omega
   omega
  rw[List.drop_eq_nil_of_le (by simp[sE])]at h;simp only[AQ,aX,bH]at h;obtain⟨rfl,_,_⟩:=h;exact⟨fin sE ai h1,ka _ _ aB⟩
 | succ h' dL=>
  intro n b2 FT aP al ai h1 U ud st bB ans cq obs h aW a w aB ka;rcases qV n ops.size with bM | qn
  ·have kx:n<b2.size:=ai▸bM;have aF:ops.toList.drop n=ops[n]::ops.toList.drop (n+1):=by
    grind[List.drop_eq_getElem_cons]
   rw[aF]at h;simp only[AQ]at h;split at h
   ·rename_i st1 fy gn aA;rw[b5]at h;obtain⟨⟨b4,cQ,dz⟩,aI,h⟩:=h;simp only[bH]at h;obtain⟨rfl,rfl,rfl⟩:=h;obtain⟨dt,dm⟩:=aW.append;refine⟨fun zA=>?_,fun i hi=>?_⟩
    ·exfalso;have:=MV hm ai zA n bM;grind
    have iu:i=n:=by
     obtain⟨a',o,nj,_⟩:=mem_ready.1 hi;have zw:i<ops.size:=(kt.1 nj).1;have oF:i<b2.size:=ai▸zw;rcases Nat.lt_trichotomy i n with bu | bu | bu
     ·grind
     ·exact bu
     have:=C7 hm al ai hi (aq i (by omega) zw n bu);grind
    subst iu;refine TK (nL bM) aA dt aB fun cJ aM eX=>dL (i+1) (by omega) (by omega) (al.ready hi) (by grind) (fun j a8=>?_) (fun j a8=>?_) ?_ aI dm eX ka
    ·by_cases kX:j=i
     ·simp_all
     rw[getD_set_ne false (Ne.symm kX)];grind
    ·rw[getD_set_ne false (by omega)];grind
    have br:b2[i]=false:=by simpa[nL kx]using U i (fl _)
    grind
   cases h
  have sE:n=ops.size:=by omega
  rw[List.drop_eq_nil_of_le (by simp[sE])]at h;simp only[AQ,aX,bH]at h;obtain⟨rfl,_,_⟩:=h;have zA:=fin sE ai h1;refine⟨fun _=>ka _ _ aB,fun i hi=>?_⟩;grind
def uZ(ms:List Nat):Nat->Nat
 | 0=>0
 | i+1=>if ms.getD i 0==2 ^ i-1 then uZ ms i else i+1
theorem TL(ms:List Nat):∀n,uZ ms n<=n
 | 0=>fl _
 | n+1=>by
  unfold uZ;split
  ·exact mW (TL ms n) (Nat.le_succ n)
  grind
theorem TM(ms:List Nat):∀n i,uZ ms n<=i->i<n->∀j,j<i->nP ms j i=true
 | 0,_,_,h,_,_=>absurd h (Nat.not_lt_zero _)
 | n+1,i,h1,U,j,a8=>by
  unfold uZ at h1;split at h1
  ·rename_i he;by_cases iu:i=n
   ·subst iu;unfold nP;grind
   exact TM ms n i h1 (by omega) j a8
  omega
theorem Sat.drew{ω:Own}{τ:Nat->Nat×Value}{l:aG}{y:Value}(h:Sat w ω τ l y):Sat w.drew ω τ l y:=by
 have br:∀{R:List (Nat×Nat)->dp->Prop} {d:D} {y:Value},bZ w ω R d y->bZ w.drew ω R d y:=fun h=>h.frame fun _ _ _ aC=>⟨aC,rfl⟩
 cases l with
 | J t k es=>exact⟨br h.1,h.2⟩
 | ep t k es i j=>
  obtain⟨b,off,cap,h1,U,aA,aI⟩:=h;exact⟨b,off,cap,h1,U,br aA,aI⟩
 | jd ds off=>
  obtain⟨b,h1,U⟩:=h;exact⟨b,h1,br U⟩
 | fd d=>exact br h
 | e5 t k es=>exact⟨br h.1,h.2⟩
 | aS t i j k es m=>
  obtain⟨u,hu,h1,hm⟩:=h;exact⟨u,hu,br h1,hm⟩
 | fr t vs=>
  obtain⟨b,ty,arr,h1,U,aA,aP,bD⟩:=h;refine⟨b,ty,arr,h1,U,aA,aP,fun j c al=>?_⟩;obtain⟨u,ha,fH⟩:=bD j c al;refine⟨u,ha,?_⟩;cases c with
  | cu=>exact trivial
  | v x=>exact fH
  | J t k es=>exact⟨br fH.1,fH.2⟩
 | _=>exact h
theorem Rel.drew(h:Rel w0 st a w):Rel w0 st a w.drew:=by
 obtain⟨ω,τ,h⟩:=h;have hi:∀p:aH,p.map _root_.id=p:=by
  intro p;cases p with
  | aR a=>cases a<;>simp[aH.map,bm.map]
  | gB as=>
   simp only[aH.map]
   congr 1
   have:bm.map _root_.id=_root_.id:=by funext a;cases a<;>simp[bm.map]
   simp_all
 refine⟨ω,τ,h.defers,h.size,h.below.next (hq.refl _ _).drew,h.owned,h.fixed,h.pinned,fun i p hp=>?_,fun id ls aj=>?_⟩
 ·obtain⟨v,h1,U⟩:=h.env i p hp;have:=cT.map (lJ:=Sat w.drew ω τ) (f:=_root_.id) (fun l v ai=>Sat.drew ai) U;grind
 obtain⟨b,arr,ty,h1,U,aA,aI⟩:=h.boxes id ls aj;have:=lm.map (lJ:=Sat w.drew ω τ) (f:=_root_.id) (fun l v ai=>Sat.drew ai) aI;rw[tD]at this;exact⟨b,arr,ty,h1,U,aA,this⟩
def HP:Nat->List aH->List Nat
 | _,[]=>[]
 | i,p::r=>match p.leaf with | some (.fr t _)=>if t=i then i::HP (i+1) r else HP (i+1) r | _=>HP (i+1) r
def AR(env:List aH):List Oper->List Nat
 | []=>[]
 | o::r=>
  match o.dst,o.op with
  | none,.store _ (.tmp s) _=>
   match (env.getD s .cu).leaf with
   | some (.ptr d 0)=>if d=s/\s<dj/\!(AR env r).contains s then s::AR env r else AR env r
   | _=>AR env r
  | _,_=>AR env r
def axZ(env0:List aH)(bs:List (Nat×List aG))(es:List dD)(i:Nat):List aG:=
 env0.flatMap aH.vH++(bs.flatMap (·.2)++(es.zipIdx.filter fun x=>x.2 != i).flatMap fun x=>x.1.p.vH)
def M3(P:Program)(ops:Array Oper)(st:aD)(ans:List cb):Stepped:=
 let gs:=ops.toList.filterMap (MR ops)
 let ms:=sV ops.toList []
 let k:=uZ ms ops.size
 match CZ (AR st.env (ops.toList.take k)) st with
 | some fY=>
  match wx P ops gs fY.boxes (ops.toList.take k) fY.env ans with
  | some (es,vl,fy,gn)=>
   if P.follows .mixedOrders&&sY ms ops.toList&&MW ops ms es&&MX ms es fY.env fY.boxes then
    match C0 (HP 0 vl) ⟨vl,fY.boxes⟩,Bi fY.boxes (axZ fY.env fY.boxes es) 0 (ops.toList.take k) fY.env es with
    | some st2,some zP=>(AQ P ops (ops.toList.drop k) st2 fy).map fun r=>(r.1,r.2.1,gn++(zP++r.2.2))
    | _,_=>none
   else none
  | none=>none
 | none=>none
theorem ax0(h:M3 P ops st ans=some (bB,cq,obs))(aW:c8 obs)(aB:Rel w0 st a w){id:Nat}
  {Q:Exit->Act->World->Prop} (ka:∀cJ aM,Rel w0 bB cJ aM->Q .normal cJ aM):(Code.region id ops true).wp P Q a w:=by
 unfold M3 at h;simp only at h;split at h
 case h_2=>cases h
 rename_i fY SE;replace aB:=UA aB SE;clear SE;revert aB h;generalize fY=st;intro h aB;split at h
 ·rename_i es vl fy gn fG;split at h
  ·rename_i al;split at h
   rotate_left
   ·cases h
   rename_i st2 zP KM aee;rw[b5]at h;obtain⟨⟨b4,cQ,dz⟩,aeg,h⟩:=h;simp only[bH]at h;obtain⟨rfl,rfl,rfl⟩:=h;obtain⟨KN,KO⟩:=aW.append;obtain⟨adW,KO⟩:=KO.append;simp only[b9]at al;obtain⟨⟨⟨hm,Sm⟩,adY⟩,k1⟩:=al;have aC7:=TL (sV ops.toList []) ops.size;obtain⟨hlen,xm,adg⟩:=C6 fG KN;have FU:es.length=uZ (sV ops.toList []) ops.size:=by
    grind
   have aDq:∀(i:Nat),i<es.length->(ops.toList.take (uZ (sV ops.toList []) ops.size))[i]?=ops[i]?:=by
    grind
   have aF:∀(i:Nat) (e:dD),es[i]?=some e->e.dst≠none:=by
    intro i e hi;have bM:i<(ops.toList.take (uZ (sV ops.toList []) ops.size)).length:=hlen▸(gh.1 hi).1;obtain⟨e',h1,U⟩:=adg i _ (jA bM);rw[hi]at h1;cases h1;exact U.dst
   have FF:qX P ops st.boxes st.env es (sV ops.toList []):=by
    refine⟨by omega,fun i o qq hi=>?_,Sm,fun i o v qq hi bD=>?_,adY,k1⟩
    rotate_left
    ·have F6:=Ua aee adW i o (by grind) qq v (by
      grind[HO])
     rw[dV]at F6;refine⟨fun q aC=>aH.CG fun l aj=>F6 l ?_,fun j x a8 cU=>aH.CG fun l aj=>F6 l ?_,fun x aa l aj=>F6 l ?_⟩
     ·exact gE _ (l2.2 ⟨q,aC,aj⟩)
     ·refine hP _ (hP _ (l2.2 ⟨(x,j),List.mem_filter.2 ⟨?_,by grind⟩,aj⟩));grind
     exact hP _ (gE _ (l2.2 ⟨x,aa,aj⟩))
    grind[HO]
   have B0:M1 ops (sV ops.toList []) es.length:=fun i h1 U j a8=>TM _ _ i (by omega) U j a8
   refine wp_region_any hm (FF.any B0 (w0:=w0) ?_ ops.size ?_ (by simp) ?_ ?_ ?_)
   ·intro h' b2 uc ai jJ c' ud cJ aM eX;refine axY Sm B0 h' es.length (fl _) (by omega) uc ai jJ c' ud (st:=st2) (by rw[FU];exact aeg) KO (UB ?_ KM) ka;have:=HO (env0:=st.env) (bs:=st.boxes) aF es.length (fl _);rw[h6,<-xm]at this;rw[this];exact eX
   ·intro j o a8;have:=HL a8;simp_all
   ·intro j _;by_cases a8:j<ops.size
    ·simp[a8]
    simp[a8]
   ·simp_all
   have:fk st.env st.boxes (fu (Array.replicate ops.size false)) es=st:=by
    have iU:∀(es:List dD) (t k:Nat) (acc:aH),hU (fu (Array.replicate ops.size false)) t k es acc=acc:=by
     intro es;induction es with
     | nil=>intro t k acc;rfl
     | cons e1 es dL=>
      intro t k acc;simp only[hU];rw[bq,dL];unfold fu;intro al;have:=HL al;simp_all
    obtain⟨env,bs⟩:=st;unfold fk;simp_all
   rw[this];exact aB.drew
  cases h
 cases h
end Go.Sx
namespace Go.Sx
open Go.RowKit
def h7(P:Program)(ops:Array Oper)(st bB:aD):Prop:=
 ∀(w0:eN) (a:Act) (w:World) (id:Nat) (Q:Exit->Act->World->Prop),Rel w0 st a w->(∀cJ aM,Rel w0 bB cJ aM->Q .normal cJ aM)->(Code.region id ops true).wp P Q a w
def HQ(o:Oper)(m:Nat):Bool:=o.after.toList.all fun e=>!Region.binds .any e||m.testBit e.on
def rI(m:Nat):Nat->List Oper->List (Nat×Oper)
 | _,[]=>[]
 | i,o::r=>if !m.testBit i&&HQ o m then (i,o)::rI m (i+1) r else rI m (i+1) r
def runM(P:Program)(ops:Array Oper)(A:List (List cb))(m:Nat):Nat->List Oper->aD->aD
 | _,[],st=>st
 | i,o::r,st=>if m.testBit i then (match rL P ops o st (A.getD i []) with | some x=>runM P ops A m (i+1) r x.1 | none=>st) else runM P ops A m (i+1) r st
def BA(x:Nat)(l:List Nat):List Nat:=if l.any (Nat.beq x) then l else x::l
def CH:Nat->List (Nat×Oper)->List Nat->List Nat
 | _,[],l=>l
 | m,x::r,l=>BA (m ||| 2 ^ x.1) (CH m r l)
def CK(ops:List Oper):List Nat->List Nat
 | []=>[]
 | m::r=>CH m (rI m 0 ops) (CK ops r)
abbrev y0:=Option (aD×List cb×List Prop)
def Fv(P:Program)(ops:Array Oper)(A:List (List cb))(st:aD):List (Nat×Oper)->List y0
 | []=>[]
 | x::r=>rL P ops x.2 st (A.getD x.1 [])::Fv P ops A st r
def Fx(P:Program)(ops:Array Oper)(A:List (List cb))(O:List (List Prop))(fY:aD)(m:Nat):List (Nat×Oper)->List y0
 | []=>[]
 | x::r=>some (runM P ops A (m ||| 2 ^ x.1) 0 ops.toList fY,[],O.getD x.1 [])::Fx P ops A O fY m r
def Fw(P:Program)(ops:Array Oper)(A:List (List cb))(fY:aD):List Nat->List (List y0)
 | []=>[]
 | m::r=>Fv P ops A (runM P ops A m 0 ops.toList fY) (rI m 0 ops.toList)::Fw P ops A fY r
def Fy(P:Program)(ops:Array Oper)(A:List (List cb))(O:List (List Prop))(fY:aD):List Nat->List (List y0)
 | []=>[]
 | m::r=>Fx P ops A O fY m (rI m 0 ops.toList)::Fy P ops A O fY r
def BE(P:Program)(ops:Array Oper)(A:List (List cb))(fY:aD):Nat->List Nat->List (List (List y0))
 | 0,_=>[]
 | n+1,l=>Fw P ops A fY l::BE P ops A fY n (CK ops.toList l)
def BF(P:Program)(ops:Array Oper)(A:List (List cb))(O:List (List Prop))(fY:aD):Nat->List Nat->List (List (List y0))
 | 0,_=>[]
 | n+1,l=>Fy P ops A O fY l::BF P ops A O fY n (CK ops.toList l)
variable{P:Program}{ops:Array Oper}{A:List (List cb)}{O:List (List Prop)}{fY st:aD}{m:Nat}
theorem TN:∀{l:List (Nat×Oper)},Fv P ops A st l=Fx P ops A O fY m l->
  ∀x∈l,rL P ops x.2 st (A.getD x.1 [])=some (runM P ops A (m ||| 2 ^ x.1) 0 ops.toList fY,[],O.getD x.1 [])
 | [],_,x,aa=>by cases aa
 | y::r,h,x,aa=>by
  simp only[Fv,Fx,tC]at h;rcases dQ.1 aa with rfl | aa
  ·exact h.1
  exact TN h.2 x aa
theorem TO:∀{l:List Nat},Fw P ops A fY l=Fy P ops A O fY l->
  ∀m∈l,∀x∈rI m 0 ops.toList,rL P ops x.2 (runM P ops A m 0 ops.toList fY) (A.getD x.1 [])=some (runM P ops A (m ||| 2 ^ x.1) 0 ops.toList fY,[],O.getD x.1 [])
 | [],_,m,hm=>by cases hm
 | m0::r,h,m,hm=>by
  simp only[Fw,Fy,tC]at h;rcases dQ.1 hm with rfl | hm
  ·exact TN h.1
  exact TO h.2 m hm
theorem ax1{x:Nat}{l:List Nat}:x∈BA x l:=by
 unfold BA;split
 ·rename_i h;obtain⟨y,bk,he⟩:=oj.1 h;rwa[Nat.eq_of_beq_eq_true he]
 exact fN
theorem TP{x y:Nat}{l:List Nat}(h:y∈l):y∈BA x l:=by
 unfold BA;split
 ·exact h
 exact ff _ h
theorem TQ{x:Nat×Oper}:∀{r:List (Nat×Oper)} {l:List Nat},x∈r->(m ||| 2 ^ x.1)∈CH m r l
 | [],_,h=>by cases h
 | y::r,l,h=>by
  simp only[CH];rcases dQ.1 h with rfl | h
  ·exact ax1
  exact TP (TQ h)
theorem TR{k:Nat}:∀{r:List (Nat×Oper)} {l:List Nat},k∈l->k∈CH m r l
 | [],_,h=>h
 | _::_,_,h=>TP (TR h)
theorem Vh{ops:List Oper}{x:Nat×Oper}:∀{l:List Nat},m∈l->x∈rI m 0 ops->(m ||| 2 ^ x.1)∈CK ops l
 | [],h,_=>by cases h
 | k::r,h,aa=>by
  simp only[CK];rcases dQ.1 h with rfl | h
  ·exact TQ aa
  exact TR (Vh h aa)
theorem Vi{m:Nat}:∀{l:List Oper} {i j:Nat} {o:Oper},l[j]?=some o->m.testBit (i+j)=false->HQ o m=true->(i+j,o)∈rI m i l
 | [],_,_,_,h,_,_=>by simp at h
 | y::r,i,0,o,h,h1,U=>by
  simp only[mV,aX]at h;subst h;simp only[rI];rw[bh (by rw[o7]at h1;simp[h1,U])];exact fN
 | y::r,i,j+1,o,h,h1,U=>by
  have:=Vi (m:=m) (l:=r) (i:=i+1) (j:=j) (o:=o) (by simpa using h) (by rwa[show i+1+j=i+(j+1) by omega]) U;rw[show i+1+j=i+(j+1) by omega]at this;simp only[rI];split
  ·exact ff _ this
  exact this
theorem Ms{m k:Nat}:∀{l:List Oper} {i:Nat} {st:aD},(∀j,i<=j->j<i+l.length->m.testBit j=k.testBit j)->runM P ops A m i l st=runM P ops A k i l st
 | [],_,_,_=>rfl
 | o::r,i,st,h=>by
  simp only[runM];rw[h i (fl _) (by simp)];split
  ·split
   ·exact Ms fun j h1 U=>h j (by omega) (by simp only[fO];omega)
   rfl
  exact Ms fun j h1 U=>h j (by omega) (by simp only[fO];omega)
theorem Vj:∀{O:List (List Prop)} (i:Nat),c8 O.flatten->c8 (O.getD i [])
 | [],i,_=>by simp[c8]
 | o::r,0,h=>by
  rw[List.flatten_cons]at h;exact (c8.append h).1
 | o::r,i+1,h=>by
  rw[List.flatten_cons]at h;exact Vj i (c8.append h).2
theorem ax2{ms:List Nat}{w0:eN}{Q:Exit->Act->World->Prop}(hm:sY ms ops.toList=true)(aW:c8 O.flatten)
  (ka:∀cJ aM,Rel w0 (runM P ops A (2 ^ ops.size-1) 0 ops.toList fY) cJ aM->Q .normal cJ aM):∀(h':Nat) {l:List Nat},BE P ops A fY h' l=BF P ops A O fY h' l->
  ∀{m:Nat} {b2:Array Bool},m∈l->b2.size=ops.size->(∀j,j<ops.size->b2.getD j false=m.testBit j)->b2.count false<=h'->
  ∀{a:Act} {w:World},Rel w0 (runM P ops A m 0 ops.toList fY) a w->wpAny P .any ops Q h' b2 a w:=by
 have fin:∀{m:Nat} {b2:Array Bool},(∀j,j<ops.size->b2.getD j false=m.testBit j)->(∀j,j<ops.size->b2.getD j false=true)->
   ∀{a:Act} {w:World},Rel w0 (runM P ops A m 0 ops.toList fY) a w->Q .normal a w:=by
  intro m b2 h1 U a w aB;refine ka a w ?_;rw[Ms (m:=2 ^ ops.size-1) (k:=m)]
  ·exact aB
  intro j _ a8;have Cd:j<ops.size:=by simpa using a8
  rw[<-h1 j Cd,U j Cd,Nat.testBit_two_pow_sub_one,o4 Cd]
 intro h';induction h' with
 | zero=>
  intro l _ m b2 _ ai h1 ud a w aB;have jk:∀j,j<ops.size->b2.getD j false=true:=by
   intro j a8;cases aj:b2.getD j false with
   | true=>rfl
   | false=>
    exfalso;have kx:j<b2.size:=ai▸a8;have br:b2[j]=false:=by simpa[nL kx]using aj
    have:0<b2.count false:=by
     rw[Array.count_pos_iff];exact br▸Array.getElem_mem kx
    omega
  refine⟨?_,fin h1 jk aB⟩;rw[List.eq_nil_iff_forall_not_mem];intro j a8;obtain⟨U,o,nj,_⟩:=mem_ready.1 a8;have bM:j<ops.size:=(kt.1 nj).1;have aA:=jk j bM;have kx:j<b2.size:=ai▸bM;simp[nL kx]at U aA;rw[U]at aA;cases aA
 | succ h' dL=>
  intro l he m b2 sD ai h1 ud a w aB;simp only[BE,BF,tC]at he;refine⟨fun zA=>fin h1 (MV hm ai zA) aB,fun i hi=>?_⟩;obtain⟨a',o,nj,Ku⟩:=mem_ready.1 hi;have bM:i<ops.size:=(kt.1 nj).1;have kx:i<b2.size:=ai▸bM;have Sc:b2.getD i false=false:=by
   simp[nL kx]at a' ⊢;exact a'
  have adN:HQ o m=true:=by
   unfold HQ;rw[gP];intro e zt;cases aq:Region.binds .any e with
   | false=>rfl
   | true=>
    have bu:=Ku e (by simpa using zt) aq;have bU:e.on<b2.size:=HL bu;rw[h1 e.on (ai▸bU)]at bu;simp[bu]
  have FY:(i,o)∈rI m 0 ops.toList:=by
   have:=Vi (m:=m) (l:=ops.toList) (i:=0) (j:=i) (o:=o) (by simpa using nj) (by rw[dV,<-h1 i bM,Sc]) adN;rwa[dV]at this
  have rz:=TO he.1 m sD _ FY;refine TK nj rz (Vj i aW) aB fun cJ aM eX=>dL he.2 (Vh sD FY) (by simpa using ai) (fun j a8=>?_) ?_ eX
  ·rw[Nat.testBit_or,Nat.testBit_two_pow];by_cases kX:j=i
   ·subst kX;have aL:j<(b2.setIfInBounds j true).size:=by simpa using kx
    simp[nL aL]
   rw[getD_set_ne false (Ne.symm kX),h1 j a8,p7 (Ne.symm kX),Bool.or_false]
  have br:b2[i]=false:=by simpa[nL kx]using Sc
  have:(b2.setIfInBounds i true).count false=b2.count false-1:=by
   have e:b2.setIfInBounds i true=b2.set i true kx:=by unfold Array.setIfInBounds;rw[dif_pos kx]
   rw[e,Array.count_set];simp[br]
  omega
theorem h7.of{bB:aD}(A:List (List cb))(O:List (List Prop))(al:(P.follows .mixedOrders&&sY (sV ops.toList []) ops.toList)=true)
  (he:BE P ops A st ops.size [0]=BF P ops A O st ops.size [0]) (br:runM P ops A (2 ^ ops.size-1) 0 ops.toList st=bB) (aW:c8 O.flatten):h7 P ops st bB:=by
 intro w0 a w id Q aB ka;simp only[b9]at al;have aL:∀{l:List Oper} {i:Nat},runM P ops A 0 i l st=st:=by
  intro l;induction l with
  | nil=>intro i;rfl
  | cons o r dL=>intro i;simp only[runM,Nat.zero_testBit,oh,mr];exact dL
 refine wp_region_any al.1 (ax2 al.2 aW (fun cJ aM h=>ka cJ aM (br▸h)) ops.size he (m:=0) fN (by simp) (fun j a8=>by simp[a8]) (by simp[Array.count_replicate]) ?_);rw[aL];exact aB.drew
def Mt(P:Program)(ops:Array Oper)(st:aD)(ans:List cb):Stepped:=
 match ans with
 | .pZ bB::r=>some (bB,r,[h7 P ops st bB])
 | _=>M3 P ops st ans
theorem ax3{bB:aD}{ans cq:List cb}{obs:List Prop}(h:Mt P ops st ans=some (bB,cq,obs))(aW:c8 obs){w0:eN}{a:Act}{w:World}(aB:Rel w0 st a w){id:Nat}
  {Q:Exit->Act->World->Prop} (ka:∀cJ aM,Rel w0 bB cJ aM->Q .normal cJ aM):(Code.region id ops true).wp P Q a w:=by
 unfold Mt at h;split at h
 ·simp only[aX,bH]at h;obtain⟨rfl,_,rfl⟩:=h;exact aW.1 w0 a w id Q aB ka
 exact ax0 h aW aB ka
