import Derived.Test.YtdchjefneblpgaaGreatR26
import Derived.Test.YtdchjefneblpgaaGreatR31
import Derived.Orders
set_option linter.unusedVariables false
set_option linter.unusedSimpArgs false
namespace Go.Sx
open Go.RowKit
def Iz(P:Program)(st:aH)(d:Option Nat)(f:FuncId)(args:List Operand)(ans:List b7):Stepped:=
 match P.funcs[f]?,args.mapM (fun x=>(st.bh x).jj st.boxes),ans with
 | some fn,some fU,.res rs::r=>
  if (fn.name == "runtime.NumGoroutine") = false /\ fn.body.isNone = false /\ tv rs = true /\ 10000 * (d.getD 0 + 1) + 10000 <= c3 then
   let t:=10000*(d.getD 0+1)
   match d with
   | some d=>some (⟨(st.uL t).env.set d (su t rs),(st.uL t).boxes⟩,r,[im P f fU rs])
   | none=>some (st.uL t,r,[im P f fU rs])
  else none
 | _,_,_=>none
def Oz(P:Program)(st:aH)(d:Option Nat)(f:Operand)(args:List Operand)(ans:List b7):Stepped:=
 match (st.bh f).leaf.bind (aB.jj st.boxes),args.mapM (fun x=>(st.bh x).jj st.boxes),ans with
 | some (.cl g bK),some fU,.res rs::r=>
  if tv rs=true/\10000*(d.getD 0+1)+10000<=c3 then
   let t:=10000*(d.getD 0+1)
   match d with
   | some d=>some (⟨(st.uL t).env.set d (su t rs),(st.uL t).boxes⟩,r,[lj P g=true,im P g (fU++bK.map .one) rs])
   | none=>some (st.uL t,r,[lj P g=true,im P g (fU++bK.map .one) rs])
  else none
 | _,_,_=>none
def N5:List b7->Bool
 | .v7 _ _ _ _::_=>true
 | _=>false
def N7:List b7->Bool
 | .dj _ _::_=>true
 | _=>false
def N6:List b7->Bool
 | .own::_=>true
 | _=>false
def oW(P:Program)(st:aH)(o:Oper)(ans:List b7):Stepped:=
 match o.dst,o.op with
 | some d,.box _ x=>HU st d (st.bh x) ans
 | some d,.alloc ty=>HV P st d ty ans
 | some d,.makeSlice t l c=>CH P st d t (st.bh l) (st.bh c) ans
 | some d,.buildSlice t n parts=>zJ P st d t n parts.toList ans
 | none,.store ty x y=>
  match (st.bh x).leaf with
  | some (.ptr id off)=>HW P st ty id off (st.bh y) ans
  | some (.cX (.own t) k es i j)=>I2 P st ty t k es i j (st.bh y) ans
  | some (.aO t i j k es (.at_ a b))=>Jd P st ty t i j k es a b (st.bh y) ans
  | _=>none
 | d,.call ⟨.value (.func f),args,_⟩=>if N7 ans then Jn P st d f args.toList ans else if N5 ans then I9 P st d f args.toList ans else Iz P st d f args.toList ans
 | d,.call ⟨.value (.tmp x),args,_⟩=>if N7 ans then Jo P st d (.tmp x) args.toList ans else Oz P st d (.tmp x) args.toList ans
 | some d,.call ⟨.builtin .append,⟨[x,y]⟩,⟨[t,dc]⟩⟩=>
  if t=dc then
   match (st.bh x).leaf with
   | some (.aO s i j k es .here)=>Je P st d t s i j k es y ans
   | _=>xZ P st d t x y ans
  else none
 | some d,.slice t x cQ hi iu=>if N6 ans then x0 P st d t (st.bh x) cQ hi iu ans.tail else (oS P st (.slice t x cQ hi iu) ans).map fun r=>(⟨st.env.set d r.1,st.boxes⟩,r.2.1,r.2.2)
 | some d,op=>(oS P st op ans).map fun r=>(⟨st.env.set d r.1,st.boxes⟩,r.2.1,r.2.2)
 | none,op=>(oS P st op ans).map fun r=>(st,r.2.1,r.2.2)
variable{P:Program}{o:Oper}{a:Act}{w:World}{Q:Exit->Act->World->Prop}
theorem Calls.of{next:Act->World->Prop}{z:Value}{aN:World}(h:(execOp a.eval o).run P w=.ok (.value z) aN)(aT:next (a.put o.dst z) aN):
  o.wp P a w next Q:=by
 unfold Oper.wp;rw[h];exact aT
variable{w0:ej}{st bp:aH}{ans cd:List b7}{obs:List Prop}
theorem IA(h:oW P st o ans=some (bp,cd,obs))(aX:cE obs)(aU:Rel w0 st a w)
  {next:Act->World->Prop} {Q:Exit->Act->World->Prop} (jr:∀cx aN,Rel w0 bp cx aN->next cx aN):o.wp P a w next Q:=by
 obtain⟨ω,τ,aU⟩:=aU;obtain⟨dst,op,type,pos,after,guard⟩:=o;simp only[oW]at h;split at h
 ·rename_i d ty x;obtain⟨z,aN,h1,U⟩:=cw.box (P:=P) aU (aU.bh x) h ty;exact Calls.of (iy h1) (jr _ _ U)
 ·rename_i d ty;obtain⟨z,aN,h1,U⟩:=cw.alloc aU h;exact Calls.of (iy h1) (jr _ _ U)
 ·rename_i d t l c;obtain⟨z,aN,h1,U⟩:=aU.make (aU.bh l) (aU.bh c) h aX;exact Calls.of (iy h1) (jr _ _ U)
 ·rename_i d t n parts;obtain⟨z,aN,h1,U⟩:=aU.buildSlice h;exact Calls.of (iy h1) (jr _ _ U)
 ·rename_i ty x y;have fin:∀aN,(Instr.storeAt ty (a.eval x) (a.eval y)).run P w=.ok () aN->Rel w0 bp a aN->Oper.wp P ⟨none,.store ty x y,type,pos,after,guard⟩ a w next Q:=by
   intro aN h1 U;unfold Oper.wp execOp;simp only[Sem.run_bind,h1,Result.andThen_ok,Sem.run_pure,Oper.upon];exact jr _ _ U
  split at h
  ·rename_i id off e;obtain⟨b,aq,ag⟩:=aI.dy e (aU.bh x);obtain⟨aN,h1,U⟩:=aU.asf (P:=P) aq (aU.bh y) h;exact fin aN (by rw[ag];exact h1) U
  ·rename_i t k es i j e;obtain⟨aN,h1,U⟩:=aU.ash (P:=P) (aI.dy e (aU.bh x)) (aU.bh y) h aX;exact fin aN h1 U
  ·rename_i t i j k es asx Ms e;obtain⟨aN,h1,U⟩:=aU.asj (P:=P) (aI.dy e (aU.bh x)) (aU.bh y) h aX;exact fin aN h1 U
  cases h
 ·rename_i f args ts;split at h
  ·exact akP aU h aX jr
  split at h
  ·exact akG aU h aX jr
  rename_i Gm Xn;clear Gm;unfold Iz at h;clear Xn;split at h
  ·rename_i fn fU rs r kn F3;split at h
   ·rename_i ah;obtain⟨kl,j9,km,rI⟩:=ah;obtain⟨ak,au⟩:=mH F3;have lF:Dm w fU (args.map a.eval):=by
     refine⟨by simp[ak],fun i cj hi=>?_⟩;obtain⟨x,ag,ju⟩:=au i cj hi;refine⟨a.eval x,?_,aI.wo aU.boxes ju (aU.bh x)⟩;rw[yd];rw[mT]at ag;rw[ag];rfl
    have fC:(execOp a.eval ⟨dst,.call ⟨.value (.func f),args,ts⟩,type,pos,after,guard⟩).run P w=.ok (.enter f (args.map a.eval)) w:=by
     have WO : fn.name ≠ "runtime.NumGoroutine" := by simpa using kl
     have rH:fn.body≠none:=by intro e;rw[e]at j9;cases j9
     simp[execOp,resolve,Act.eval,Deferred.ofValue,invoke,callFunc,kn,WO,rH]
    have key:∀(lR:List Prop),obs=lR->cE lR->lR=[im P f fU rs]->∀(K:Act->World->Prop),(∀v aN,gd w.heap.size w aN->wk w aN rs v->K (a.put dst v) aN)->
      Oper.wp P ⟨dst,.call ⟨.value (.func f),args,ts⟩,type,pos,after,guard⟩ a w K Q:=by
     intro lR _ j' e K hN;subst e;unfold Oper.wp;rw[fC];simp only[Oper.upon];refine (j'.1 w _ aU.below.laid lF).mono ?_;rintro e aN ⟨v,rfl,aq,aD⟩;exact hN v aN aq aD
    simp only at h;cases dst with
    | none=>
     simp only[aQ,bu]at h;obtain⟨rfl,_,rfl⟩:=h;refine key _ rfl aX rfl next fun v aN aq aD=>jr _ _ ?_
     obtain⟨aY,cJ,h1,_⟩:=aU.called (10000*(Option.getD none 0+1)) km rI aq aD;exact⟨aY,cJ,h1⟩
    | some d=>
     simp only[aQ,bu]at h;obtain⟨rfl,_,rfl⟩:=h;refine key _ rfl aX rfl next fun v aN aq aD=>jr _ _ ?_
     obtain⟨aY,cJ,h1,U⟩:=aU.called (10000*(Option.getD (some d) 0+1)) km rI aq aD;exact⟨aY,cJ,h1.put U⟩
   cases h
  cases h
 ·rename_i x args ts;split at h
  ·exact akQ aU h aX jr
  rename_i Gm;clear Gm;unfold Oz at h;split at h
  ·rename_i g bK fU rs r bY F3;split at h
   ·rename_i ah;obtain⟨km,rI⟩:=ah;obtain⟨ak,au⟩:=mH F3;have da:fU.length=args.size:=by rw[ak,uh]
    rw[lv]at bY;obtain⟨ka,Cc,Xw⟩:=bY;have Np:kR w (.cl g bK) (a.eval (.tmp x)):=aB.wo aU.boxes Xw (aI.dy Cc (aU.bh (.tmp x)));have W':∃cs:Array Value,a.eval (.tmp x)=.func (.func g) #[] cs/\cs.size=bK.length/\∀(j:Nat) (d:D),bK[j]?=some d->∃u,cs[j]?=some u/\kR w d u:=by
     generalize a.eval (.tmp x)=y at Np;cases Np with
     | cl R g bK cs us ai hu aE=>exact⟨cs,rfl,ai,fun j d a'=>⟨us j,hu j d a',(aE j d a').free⟩⟩
    obtain⟨cs,ow,WU,WX⟩:=W';have lF:Dm w (fU++bK.map .one) (args.map a.eval++cs):=by
     refine⟨by simp[ak,WU],fun i cj hi=>?_⟩;rw[kB]at hi;rw[jI];split at hi
     ·rename_i jR;rw[br (by simp;omega)];obtain⟨y,bn,lL⟩:=au i cj hi;refine⟨a.eval y,?_,aI.wo aU.boxes lL (aU.bh y)⟩;rw[yd];rw[mT]at bn;rw[bn];rfl
     rename_i jR;rw[bg (by simp;omega)];rw[dd,b0]at hi;obtain⟨d,aE,rfl⟩:=hi;obtain⟨u,fN,eT⟩:=WX _ d aE;refine⟨u,?_,eT⟩;rw[<-fN]
     congr 1
     simp;omega
    have fC:lj P g=true->(execOp a.eval ⟨dst,.call ⟨.value (.tmp x),args,ts⟩,type,pos,after,guard⟩).run P w=.ok (.enter g (args.map a.eval++cs)) w:=by
     intro uS;unfold lj at uS;split at uS
     ·rename_i fn kn;simp only[cq,g',wh,gM]at uS;have rH:fn.body≠none:=by intro e;rw[e]at uS;simp at uS
      simp[execOp,resolve,ow,Deferred.ofValue,invoke,callFunc,kn,uS.1,rH]
     cases uS
    have key:∀(lR:List Prop),obs=lR->cE lR->lR=[lj P g=true,im P g (fU++bK.map .one) rs]->∀(K:Act->World->Prop),(∀v aN,gd w.heap.size w aN->wk w aN rs v->K (a.put dst v) aN)->
      Oper.wp P ⟨dst,.call ⟨.value (.tmp x),args,ts⟩,type,pos,after,guard⟩ a w K Q:=by
     intro lR _ j' e K hN;subst e;unfold Oper.wp;rw[fC j'.1];simp only[Oper.upon];refine (j'.2.1 w _ aU.below.laid lF).mono ?_;rintro e aN ⟨v,rfl,aq,aD⟩;exact hN v aN aq aD
    simp only at h;cases dst with
    | none=>
     simp only[aQ,bu]at h;obtain⟨rfl,_,rfl⟩:=h;refine key _ rfl aX rfl next fun v aN aq aD=>jr _ _ ?_
     obtain⟨aY,cJ,h1,_⟩:=aU.called (10000*(Option.getD none 0+1)) km rI aq aD;exact⟨aY,cJ,h1⟩
    | some d=>
     simp only[aQ,bu]at h;obtain⟨rfl,_,rfl⟩:=h;refine key _ rfl aX rfl next fun v aN aq aD=>jr _ _ ?_
     obtain⟨aY,cJ,h1,U⟩:=aU.called (10000*(Option.getD (some d) 0+1)) km rI aq aD;exact⟨aY,cJ,h1.put U⟩
   cases h
  cases h
 ·rename_i d x y t dc;split at h
  ·rename_i y6;subst y6;have wG:∃z aN,(Builtin.append_ #[t,t] type #[a.eval x,a.eval y]).run P w=.ok z aN/\Rel w0 bp (a.put (some d) z) aN:=by
    split at h
    ·rename_i s i j k es e;exact aU.V9 (P:=P) (ty:=type) (aI.dy e (aU.bh x)) h aX
    exact aU.xZ (ty:=type) h aX
   obtain⟨z,aN,h1,U⟩:=wG;refine Calls.of (z:=z) (aN:=aN) ?_ (jr _ _ U);have:(execOp a.eval ⟨some d,.call ⟨.builtin .append,⟨[x,y]⟩,⟨[t,t]⟩⟩,type,pos,after,guard⟩)=(builtin .append ⟨[t,t]⟩ type (Array.map (fun | .const _=>true | _=>false) ⟨[x,y]⟩) (Array.map a.eval ⟨[x,y]⟩)):=by
    simp only[execOp,resolve];rfl
   rw[this];exact iy (by simpa using h1)
  cases h
 ·rename_i d t x cQ hi iu;split at h
  ·obtain⟨z,h1,U⟩:=aU.x0 (P:=P) (aU.bh x) h aX;exact Calls.of (iy h1) (jr _ _ U)
  rw[b0]at h;obtain⟨⟨bI,bZ,ch⟩,h1,h⟩:=h;simp only[bu]at h;obtain⟨rfl,rfl,rfl⟩:=h;obtain⟨z,U,ax⟩:=HT (o:=⟨_,_,type,pos,after,guard⟩) aU h1 aX;exact Calls.of U (jr _ _ ⟨ω,τ,aU.put ax⟩)
 ·rw[b0]at h;obtain⟨⟨bI,bZ,ch⟩,h1,h⟩:=h;simp only[bu]at h;obtain⟨rfl,rfl,rfl⟩:=h;obtain⟨z,U,ax⟩:=HT (o:=⟨_,_,type,pos,after,guard⟩) aU h1 aX;exact Calls.of U (jr _ _ ⟨ω,τ,aU.put ax⟩)
 rw[b0]at h;obtain⟨⟨bI,bZ,ch⟩,h1,h⟩:=h;simp only[bu]at h;obtain⟨rfl,rfl,rfl⟩:=h;obtain⟨z,U,ax⟩:=HT (o:=⟨_,_,type,pos,after,guard⟩) aU h1 aX;exact Calls.of U (jr _ _ ⟨ω,τ,aU⟩)
def nO(P:Program)(st:aH)(o:Oper)(ans:List b7):Stepped:=
 match o.dst,o.op with
 | some d,.alloc ty=>Dr P st d ty ans
 | none,.store ty (.tmp s) y=>Dt P st ty s (st.bh y) ans
 | _,_=>oW P st o ans
theorem akR(h:nO P st o ans=some (bp,cd,obs))(aX:cE obs)(aU:Rel w0 st a w)
  {next:Act->World->Prop} {Q:Exit->Act->World->Prop} (jr:∀cx aN,Rel w0 bp cx aN->next cx aN):o.wp P a w next Q:=by
 obtain⟨dst,op,type,pos,after,guard⟩:=o;unfold nO at h;split at h
 ·rename_i d ty e1 e2;simp only at e1 e2;subst e1;subst e2;obtain⟨ω,τ,aU⟩:=aU;obtain⟨z,aN,h1,U⟩:=cw.V8 aU h;exact Calls.of (iy h1) (jr _ _ U)
 ·rename_i ty s y e1 e2;simp only at e1 e2;subst e1;subst e2;obtain⟨ω,τ,aU⟩:=aU;obtain⟨aN,h1,U⟩:=aU.asi (P:=P) (aU.bh y) h;unfold Oper.wp execOp;simp only[Sem.run_bind,h1,Result.andThen_ok,Sem.run_pure,Oper.upon];exact jr _ _ U
 exact IA h aX aU jr
def zU(st:aH)(dst:Option Nat):aH:=
 match dst with
 | some d=>⟨st.env.set d (.one (.v undef)),st.boxes⟩
 | none=>st
theorem IB{dst:Option Nat}(h:Rel w0 st a w):Rel w0 (zU st dst) (a.put dst undef) w:=by
 obtain⟨ω,τ,h⟩:=h;cases dst with
 | none=>exact⟨ω,τ,h⟩
 | some d=>exact⟨ω,τ,h.put (p:=.one (.v undef)) rfl⟩
def qY(ops:Array Oper)(st:aH)(o:Oper)(ans:List b7):Option (Bool×aH×List b7×List Prop):=
 match o.guard with
 | none=>some (true,st,ans,[])
 | some (j,want)=>
  match (ops[j]?).bind (·.dst) with
  | some s=>
   match (st.env.getD s .cp).leaf with
   | some (.v (.bool b))=>some (b==want,st,ans,[])
   | some (.v (.tuple _))=>some (false,st,ans,[])
   | some (.bc c)=>
    match ans with
    | .od b::r=>some (b==want,⟨st.env.set s (.one (.v (.bool b))),st.boxes⟩,r,[c=b])
    | _=>none
   | _=>none
  | none=>none
variable{ops:Array Oper}
theorem vJ{b:Bool}(h:qY ops st o ans=some (b,bp,cd,obs))(aX:cE obs)(aU:Rel w0 st a w):
  Region.wanted o (yielded ops a.tmps)=b/\Rel w0 bp a w:=by
 obtain⟨ω,τ,aU⟩:=aU;unfold qY at h;split at h
 ·rename_i au;simp only[aQ,bu]at h;obtain⟨rfl,rfl,_,_⟩:=h;exact⟨by simp[Region.wanted,au],ω,τ,aU⟩
 rename_i j want au;split at h
 ·rename_i s ai;have ey:∀l,(st.env.getD s .cp).leaf=some l->∀x,(∀y,Sat w ω τ l y->y=x)->(l=.cp->False)->a.tmps[s]?=some x:=by
   intro l ak x ag cC;rw[ik]at ak;cases e:st.env[s]? with
   | none=>
    rw[e]at ak;simp only[Option.getD_none,aI.leaf,aQ]at ak;exact absurd ak.symm cC
   | some p=>
    rw[e]at ak;obtain⟨v,h1,U⟩:=aU.env s p e;rw[h1,ag v (aI.dy ak U)]
  split at h
  ·rename_i cU ak;simp only[aQ,bu]at h;obtain⟨rfl,rfl,_,_⟩:=h;have:=ey _ ak (.bool cU) (fun y bn=>bn) (fun h=>by cases h);exact⟨by simp[Region.wanted,au,yielded,ai,this],ω,τ,aU⟩
  ·rename_i vs ak;simp only[aQ,bu]at h;obtain⟨rfl,rfl,_,_⟩:=h;have:=ey _ ak (.tuple vs) (fun y bn=>bn) (fun h=>by cases h);exact⟨by simp[Region.wanted,au,yielded,ai,this],ω,τ,aU⟩
  ·rename_i c ak;split at h
   ·rename_i cU r;simp only[aQ,bu]at h;obtain⟨rfl,rfl,_,rfl⟩:=h;have fG:c=cU:=aX.1;subst fG;have:=ey _ ak (.bool c) (fun y bn=>bn) (fun h=>by cases h);refine⟨by simp[Region.wanted,au,yielded,ai,this],ω,τ,?_⟩;have Gz:=aU.put (d:=s) (p:=.one (.v (.bool c))) (v:=.bool c) rfl;have e:a.put (some s) (.bool c)=a:=by
     simp only[Act.put];have:a.tmps.setIfInBounds s (.bool c)=a.tmps:=by
      apply Array.ext
      ·simp
      intro i h1 U;rw[Array.getElem_setIfInBounds];split
      ·rename_i hi;subst hi;rw[hJ U]at this;exact (eL this).symm
      rfl
     rw[this]
    rwa[e]at Gz
   cases h
  cases h
 cases h
def pR(P:Program)(ops:Array Oper)(o:Oper)(st:aH)(ans:List b7):Stepped:=
 match qY ops st o ans with
 | some (true,st1,e3,fy)=>(oW P st1 o e3).map fun r=>(r.1,r.2.1,fy++r.2.2)
 | some (false,st1,e3,fy)=>some (zU st1 o.dst,e3,fy)
 | none=>none
theorem OA{rest:List Oper}(h:pR P ops o st ans=some (bp,cd,obs))(aX:cE obs)
  {a:Act} {w:World} (aU:Rel w0 st a w) (hN:∀cx aN,Rel w0 bp cx aN->wpList P ops Q rest cx aN):wpList P ops Q (o::rest) a w:=by
 unfold pR at h;split at h
 ·rename_i st1 e3 fy hw;rw[b0]at h;obtain⟨⟨bI,bZ,ch⟩,h1,h⟩:=h;simp only[bu]at h;obtain⟨rfl,rfl,rfl⟩:=h;obtain⟨cn,ca⟩:=aX.append;obtain⟨nx,eH⟩:=vJ hw cn aU;refine wpList_step fun K uP=>?_
  rw[br nx];exact IA h1 ca eH fun cx aN dV=>uP _ _ (hN _ _ dV)
 ·rename_i st1 e3 fy hw;simp only[aQ,bu]at h;obtain⟨rfl,rfl,rfl⟩:=h;obtain⟨nx,eH⟩:=vJ hw aX aU;refine wpList_step fun K uP=>?_
  rw[bg (by rw[nx];simp)];exact uP _ _ (hN _ _ (IB eH))
 cases h
def IC(o ca:Oper):Option (Nat×TypeId×Operand×Option Operand×TypeId):=
 match o.dst,o.op,o.guard,ca.dst,ca.op,ca.guard with
 | some d,.slice t x cQ none none,none,none,.call ⟨.builtin .clear,⟨[.tmp dq]⟩,⟨[gn]⟩⟩,none=>if d=dq then some (d,t,x,cQ,gn) else none
 | _,_,_,_,_,_=>none
theorem akS{ca:Oper}{rest:List Oper}{d:Nat}{t gn:TypeId}{x:Operand}{cQ:Option Operand}(hp:IC o ca=some (d,t,x,cQ,gn))
  {st bp:aH} {ans cd:List b7} {obs:List Prop} (h:Du P st d t x cQ gn ans=some (bp,cd,obs)) (aX:cE obs)
  {a:Act} {w:World} (aU:Rel w0 st a w) (hN:∀cx aN,Rel w0 bp cx aN->wpList P ops Q rest cx aN):wpList P ops Q (o::ca::rest) a w:=by
 obtain⟨dst,op,type,pos,after,guard⟩:=o;obtain⟨atb,atX,type2,at0,asZ,atl⟩:=ca;unfold IC at hp;split at hp
 ·rename_i d0 t0 gZ atP dq at8 e1 e2 cc ec gQ lD;simp only at e1 e2 cc ec gQ lD;subst e1 e2 cc ec gQ lD;split at hp
  ·rename_i aE;subst aE;simp only[aQ,bu]at hp;obtain⟨rfl,rfl,rfl,rfl,rfl⟩:=hp;obtain⟨ω,τ,aU⟩:=aU;obtain⟨bC,y,z,aN,h1,U,ax⟩:=aU.clear h aX;refine wpList_plain rfl fun K uP=>Calls.of (iy (by simpa using h1)) (uP _ _ ?_)
   refine wpList_plain rfl fun K uP=>?_
   have qw:(a.put (some d0) y).eval (.tmp d0)=y:=by
    simp only[Act.eval,Act.put,d',Array.getElem?_setIfInBounds];simp[bC]
   refine Calls.of (z:=z) (aN:=aN) ?_ (uP _ _ (hN _ _ ax));simp only[execOp,resolve,invoke,builtin,Sem.run_bind,Sem.run_pure,Result.andThen_ok,List.map_toArray,l2,List.map_nil,qw,U]
  cases hp
 cases hp
def vK(P:Program)(ops:Array Oper):List Oper->aH->List b7->Stepped
 | [],st,ans=>some (st,ans,[])
 | [o],st,ans=>pR P ops o st ans
 | o::ca::rest,st,ans=>
  match IC o ca with
  | some (d,t,x,cQ,gn)=>
   match Du P st d t x cQ gn ans with
   | some (st1,e3,fy)=>(vK P ops rest st1 e3).map fun r=>(r.1,r.2.1,fy++r.2.2)
   | none=>none
  | none=>
   match pR P ops o st ans with
   | some (st1,e3,fy)=>(vK P ops (ca::rest) st1 e3).map fun r=>(r.1,r.2.1,fy++r.2.2)
   | none=>none
theorem ID:∀(l:List Oper) {st bp:aH} {ans cd:List b7} {obs:List Prop},vK P ops l st ans=some (bp,cd,obs)->cE obs->
  ∀{a:Act} {w:World},Rel w0 st a w->(∀cx aN,Rel w0 bp cx aN->Q .normal cx aN)->wpList P ops Q l a w
 | [],st,bp,ans,cd,obs,h,_,a,w,aU,iE=>by
  simp only[vK,aQ,bu]at h;obtain⟨rfl,_,_⟩:=h;exact iE _ _ aU
 | [o],st,bp,ans,cd,obs,h,aX,a,w,aU,iE=>by
  simp only[vK]at h;exact OA h aX aU fun cx aN dV=>iE _ _ dV
 | o::ca::rest,st,bp,ans,cd,obs,h,aX,a,w,aU,iE=>by
  simp only[vK]at h;split at h
  ·rename_i d t x cQ gn hp;split at h
   ·rename_i st1 e3 fy h1;rw[b0]at h;obtain⟨⟨bI,bZ,ch⟩,U,h⟩:=h;simp only[bu]at h;obtain⟨rfl,rfl,rfl⟩:=h;obtain⟨cn,cB⟩:=aX.append;exact akS hp h1 cn aU fun cx aN dV=>ID rest U cB dV iE
   cases h
  split at h
  ·rename_i st1 e3 fy h1;rw[b0]at h;obtain⟨⟨bI,bZ,ch⟩,U,h⟩:=h;simp only[bu]at h;obtain⟨rfl,rfl,rfl⟩:=h;obtain⟨cn,cB⟩:=aX.append;exact OA h1 cn aU fun cx aN dV=>ID (ca::rest) U cB dV iE
  cases h
end Go.Sx
namespace Go.Sx
open Go.RowKit
abbrev fL:=List (Nat×Nat)
def fL.has(r:fL)(s:Nat):Bool:=r.any fun x=>decide (x.1<=s)&&decide (s<x.2)
def Tag.ez(r:fL):Tag->Bool
 | .free=>false
 | .own s=>r.has s
 | .ro s=>r.has s
def eK.ez(r:fL):eK->Bool
 | .J t _ _=>t.ez r
 | _=>false
def aB.ez(r:fL):aB->Bool
 | .J t _ _=>t.ez r
 | .cX t _ _ _ _=>t.ez r
 | .aO t _ _ _ _ _=>r.has t
 | .e5 t vs=>r.has t||vs.any (eK.ez r)
 | _=>false
def bq.ez(r:fL):bq->Bool
 | .one l=>l.ez r
 | .agg ls=>ls.any (aB.ez r)
def aI.ez(r:fL):aI->Bool
 | .aJ a=>a.ez r
 | .fE as=>as.any (bq.ez r)
def nP(g:Tag->Option Tag)(r:fL):Prop:=∀t:Tag,t.ez r=false->g t=some t
variable{g:Tag->Option Tag}{r:fL}
theorem aB.vX(au:nP g r){l:aB}(h:l.ez r=false):l.ci g (fun _=>true)=l:=by
 cases l with
 | J t k es=>simp only[aB.ez]at h;simp only[aB.ci,au t h]
 | cX t k es i j=>simp only[aB.ez]at h;simp only[aB.ci,au t h]
 | ptr id off=>simp[aB.ci]
 | gg f ids=>simp[aB.ci]
 | aO t i j k es m=>simp only[aB.ez]at h;simp only[aB.ci,au (.own t) h,gL]
 | e5 t vs=>
  simp only[aB.ez,gq]at h;simp only[aB.ci,au (.own t) h.1,gL]
  congr 1
  conv=>rhs;rw[<-ri vs]
  refine kC fun c ah=>?_
  have:=hr.1 h.2 c ah;cases c with
  | cp=>rfl
  | v x=>rfl
  | J dc k es=>simp only[eK.ci,au dc (by simpa[eK.ez]using this),id]
 | _=>rfl
theorem OB(au:nP g r){ls:List aB}(h:ls.any (aB.ez r)=false):ls.map (aB.ci g fun _=>true)=ls:=by
 conv=>rhs;rw[<-ri ls]
 refine kC fun l ak=>?_
 rw[hr]at h;exact aB.vX au (by simpa using h l ak)
theorem bq.vX(au:nP g r){a:bq}(h:a.ez r=false):a.map (aB.ci g fun _=>true)=a:=by
 cases a with
 | one l=>simp only[bq.ez]at h;simp only[bq.map,aB.vX au h]
 | agg ls=>simp only[bq.ez]at h;simp only[bq.map,OB au h]
theorem aI.vX(au:nP g r){p:aI}(h:p.ez r=false):p.map (aB.ci g fun _=>true)=p:=by
 cases p with
 | aJ a=>simp only[aI.ez]at h;simp only[aI.map,bq.vX au h]
 | fE as=>
  simp only[aI.ez]at h;simp only[aI.map]
  congr 1
  conv=>rhs;rw[<-ri as]
  refine kC fun a aj=>?_
  rw[hr]at h;exact bq.vX au (by simpa using h a aj)
structure dk where
 dst:Option Nat
 p:aI
 use:List Nat
 mO:fL
abbrev lz:=Option (dk×(Tag->Option Tag)×List b7×List Prop)
def OC:Operand->Option Nat
 | .tmp t=>some t
 | _=>none
def zq:Option Nat->fL
 | none=>[]
 | some s=>[(s,s+1)]
def yi(P:Program)(st:aH)(d:Nat)(t:TypeId)(x y:Operand)(ans:List b7):lz:=
 match pW P t with
 | some (e,k)=>
  match P.info? e with
  | some i=>
   match i.zero,(st.bh x).leaf,x with
   | some z,some (.J (.own gC) cm es),.tmp s=>
    match uI gC k (st.bh y) ans with
    | some (bN,dF,cd,obs)=>
     if cm=k/\z.cells.size=k/\0<k/\gC<c3 then
      some (⟨some d,.one (.J (.own gC) k (es++bN)),[s],(gC,gC+1)::zq dF⟩,hz gC dF,cd,((es.length+bN.length)*i.bytes<=140737488355328)::(es.length+bN.length<=9223372036854775807)::obs)
     else none
    | _=>none
   | some z,some (.v (.slice none 0 0)),_=>
    match uI d k ((st.bh y).map (aB.ci (hR d []) fun _=>true)) ans with
    | some (bN,dF,cd,obs)=>
     if z.cells.size=k/\0<k/\d<c3 then
      some (⟨some d,.one (.J (.own d) k ([]++bN)),[],(d,d+1)::zq dF⟩,(fun g=>(hR d [] g).bind (hz d dF)),cd,(((([]:List (List D)).length)+bN.length)*i.bytes<=140737488355328)::(([]:List (List D)).length+bN.length<=9223372036854775807)::obs)
     else none
    | _=>none
   | _,_,_=>none
  | none=>none
 | none=>none
def Fw(P:Program)(st:aH)(d:Nat)(t:TypeId)(x:Operand)(cQ hi iu:Option Operand)(ans:List b7):lz:=
 match pW P t,(st.bh x).leaf,iu,x with
 | some (_,k),some (.J (.own s) cm es),none,.tmp hG=>
  if k=cm/\s<c3 then
   match lg st cQ,lg st hi with
   | some l,some h=>some (⟨some d,.one (.J (.own s) k ((es.drop (l.getD 0).toNat).take ((h.getD es.length).toNat-(l.getD 0).toNat))),[hG],[(s,s+1)]⟩,jV s s,ans,[0<=l.getD 0,l.getD 0<=h.getD es.length,h.getD es.length<=es.length])
   | _,_=>none
  else none
 | _,_,_,_=>none
variable{s:Nat}
theorem akT:nP (jV s s) [(s,s+1)]:=by
 intro t h;cases t with
 | free=>rfl
 | own x=>
  have:x≠s:=by rintro rfl;simp[Tag.ez,fL.has]at h
  simp[jV,this]
 | ro x=>
  have:x≠s:=by rintro rfl;simp[Tag.ez,fL.has]at h
  simp[jV,this]
def Od(P:Program)(d:Nat)(t:TypeId)(p q:aI)(ans:List b7):lz:=
 match P.underlying t with
 | some (.slice e)=>
  match P.info? e,p.int,q.int with
  | some i,some (_,l),some (_,c)=>
   match i.zero with
   | some z=>
    if i.size=z.cells.size/\0<i.size/\z.cells.all (·.oneCell')=true/\d<c3 then
     some (⟨some d,.one (.J (.own d) i.size (List.replicate l.toNat (z.cells.toList.map .v))),[],[(d,d+1)]⟩,hR d [],ans,[0<=l,l<=c,(i.bytes:Int)*c<=281474976710656,c<=9223372036854775807])
    else none
   | none=>none
  | _,_,_=>none
 | _=>none
def rA(P:Program)(st:aH)(o:Oper)(ans:List b7):lz:=
 match o.dst,o.op with
 | some d,.call ⟨.value (.func f),args,_⟩=>
  match P.funcs[f]?,args.toList.mapM (fun x=>(st.bh x).jj st.boxes),ans with
  | some fn,some fU,.res rs::r=>
   if (fn.name == "runtime.NumGoroutine") = false /\ fn.body.isNone = false /\ tv rs = true /\ 10000 * (d + 1) + 10000 <= c3 then
    some (⟨some d,su (10000*(d+1)) rs,[],[(10000*(d+1),10000*(d+1)+10000)]⟩,fY (10000*(d+1)),r,[im P f fU rs])
   else none
  | _,_,_=>none
 | some d,.buildSlice t n parts=>
  match BN P st d t n parts.toList with
  | some (k,es,ms)=>some (⟨some d,.one (.J (.own d) k es),[],(d,d+1)::ms.map fun x=>(x.1,x.1+1)⟩,hR d ms,ans,[])
  | _=>none
 | some d,.call ⟨.builtin .append,⟨[x,y]⟩,⟨[t,dc]⟩⟩=>if t=dc then yi P st d t x y ans else none
 | some _,.box _ _=>none
 | some d,.alloc ty=>
  match P.info? ty with
  | some i=>match i.zero with
   | some z=>if d<c3 then some (⟨some d,.one (.e5 d (z.cells.toList.map .v)),[],[(d,d+1)]⟩,hR d [],ans,[]) else none
   | none=>none
  | none=>none
 | some d,.makeSlice t l c=>Od P d t (st.bh l) (st.bh c) ans
 | some d,.slice t x cQ hi iu=>if N6 ans then Fw P st d t x cQ hi iu ans.tail else (oS P st (.slice t x cQ hi iu) ans).map fun r=>(⟨some d,r.1,[],[]⟩,some,r.2.1,r.2.2)
 | some d,op=>(oS P st op ans).map fun r=>(⟨some d,r.1,[],[]⟩,some,r.2.1,r.2.2)
 | none,.store ty (.tmp s) y=>
  match (st.env.getD s .cp).leaf,HF (st.bh y),P.info? ty with
  | some (.e5 t vs),some cs,some i=>
   if cs.length=i.size/\cs.length<=vs.length then
    some (⟨some s,.one (.e5 t ((cs++vs.drop cs.length).map (eK.ci (e4 t)))),[],[(t,t+1)]⟩,e4 t,ans,[])
   else none
  | _,_,_=>none
 | none,_=>none
theorem akU:nP (e4 s) [(s,s+1)]:=by
 intro t h;cases t with
 | free=>rfl
 | own x=>
  have:x≠s:=by rintro rfl;simp[Tag.ez,fL.has]at h
  simp[e4,this]
 | ro x=>
  have:x≠s:=by rintro rfl;simp[Tag.ez,fL.has]at h
  simp[e4,this]
theorem aj5:eK.ci some=id:=by funext c;cases c<;>rfl
theorem aj6(st:aH)(f:aB->aB)(bY:∀x,f (.v x)=.v x)(hu:f .cp=.cp)(aE:∀d,f (.fd d)=.fd d)(x:Operand):(st.map f).bh x=(st.bh x).map f:=by
 cases x with
 | tmp t=>
  simp only[aH.bh,aH.map];rw[ik,ik,dd];cases st.env[t]? with
  | none=>simp[aI.map,bq.map,hu]
  | some p=>rfl
 | const v=>
  simp only[aH.bh,BU];split
  ·simp[aI.map,bq.map,bY]
  simp[aI.map,bq.map,bY]
 | global g=>simp[aH.bh,aI.map,bq.map,hu]
 | func atg=>simp[aH.bh,aI.map,bq.map,aE]
theorem aB.ar6(g1 g2:Tag->Option Tag)(U:∀g t,g2 g=some (.own t)->g=.own t)(l:aB):aB.ci g2 (fun _=>true) (aB.ci g1 (fun _=>true) l)=aB.ci (fun t=>(g1 t).bind g2) (fun _=>true) l:=by
 cases l with
 | J t k es=>simp only[aB.ci];cases g1 t<;>simp[aB.ci]
 | cX t k es i j=>simp only[aB.ci];cases g1 t<;>simp[aB.ci]
 | gg f ids=>simp[aB.ci]
 | aO t i j k es m=>
  simp only[aB.ci];cases e1:g1 (.own t) with
  | none=>simp[aB.ci]
  | some x=>
   simp only[l1];cases x with
   | own s=>
    simp only;by_cases ai:s=t
    ·subst ai;simp only[gL,aB.ci]
    rw[bg ai];simp only[aB.ci];cases e2:g2 (.own s) with
    | none=>rfl
    | some y=>
     cases y with
     | own u=>
      simp only;by_cases hu:u=t
      ·subst hu;have:=U _ _ e2;simp only[Tag.own.injEq]at this;exact absurd this ai
      rw[bg hu]
     | _=>rfl
   | free=>
    simp only[aB.ci];cases e2:g2 .free with
    | none=>rfl
    | some y=>
     cases y with
     | own u=>exact absurd (U _ _ e2) (by simp)
     | _=>rfl
   | ro s=>
    simp only[aB.ci];cases e2:g2 (.ro s) with
    | none=>rfl
    | some y=>
     cases y with
     | own u=>exact absurd (U _ _ e2) (by simp)
     | _=>rfl
 | e5 t vs=>
  simp only[aB.ci];cases e1:g1 (.own t) with
  | none=>simp[aB.ci]
  | some x=>
   simp only[l1];cases x with
   | own s=>
    simp only;by_cases ai:s=t
    ·subst ai;simp only[gL,aB.ci];have ow:(vs.map (eK.ci g1)).map (eK.ci g2)=vs.map (eK.ci fun t=>(g1 t).bind g2):=by
      rw[List.map_map];refine kC fun c _=>?_
      cases c with
      | cp=>rfl
      | v x=>rfl
      | J dc k es=>
       simp only[Function.comp,eK.ci];cases cc:g1 dc with
       | none=>rfl
       | some t2=>simp only[l1,eK.ci]
     rw[ow]
    rw[bg ai];simp only[aB.ci];cases e2:g2 (.own s) with
    | none=>rfl
    | some y=>
     cases y with
     | own u=>
      simp only;by_cases hu:u=t
      ·subst hu;have:=U _ _ e2;simp only[Tag.own.injEq]at this;exact absurd this ai
      rw[bg hu]
     | _=>rfl
   | free=>
    simp only[aB.ci];cases e2:g2 .free with
    | none=>rfl
    | some y=>
     cases y with
     | own u=>exact absurd (U _ _ e2) (by simp)
     | _=>rfl
   | ro s=>
    simp only[aB.ci];cases e2:g2 (.ro s) with
    | none=>rfl
    | some y=>
     cases y with
     | own u=>exact absurd (U _ _ e2) (by simp)
     | _=>rfl
 | ptr id off=>simp[aB.ci]
 | _=>rfl
theorem bq.map_map(f g:aB->aB)(a:bq):(a.map f).map g=a.map (g ∘ f):=by cases a<;>simp[bq.map]
theorem aI.map_map(f g:aB->aB)(p:aI):(p.map f).map g=p.map (g ∘ f):=by
 cases p with
 | aJ a=>simp[aI.map,bq.map_map]
 | fE as=>simp only[aI.map,List.map_map];congr 1;refine kC fun a _=>?_;simp[bq.map_map]
theorem aH.map_map(f g:aB->aB)(s:aH):(s.map f).map g=s.map (g ∘ f):=by
 simp only[aH.map,List.map_map]
 congr 1
 ·refine kC fun p _=>?_
  simp[aI.map_map]
 refine kC fun x _=>?_
 simp
theorem OD:nP some r:=fun _ _=>rfl
theorem fL.sN{a b:Nat}(h:fL.has ((a,b)::r) s=false):(s<a\/b<=s)/\fL.has r s=false:=by
 simp only[fL.has,uj,gq,Bool.and_eq_false_iff,ki]at h;exact⟨by omega,h.2⟩
variable{t:Nat}
theorem aj7:nP (fY t) [(t,t+10000)]:=by
 intro g au;cases g with
 | free=>rfl
 | own s=>
  obtain⟨h1,_⟩:=fL.sN au;simp only[fY];rw[bg (by omega)]
 | ro s=>
  obtain⟨h1,_⟩:=fL.sN au;simp only[fY];rw[bg (by omega)]
theorem IE:∀{ms:hc},(fL.has (ms.map fun x=>(x.1,x.1+1)) s)=false->(ms.at s).isSome=false
 | [],_=>rfl
 | (i,p)::r,h=>by
  simp only[fL.has,l2,uj,gq,Bool.and_eq_false_iff,ki]at h;simp only[hc.at];rw[bg (by omega)];exact IE (by simpa only[fL.has]using h.2)
theorem aj8{ms:hc}:nP (hR t ms) ((t,t+1)::ms.map fun x=>(x.1,x.1+1)):=by
 intro g au;cases g with
 | free=>rfl
 | own s=>
  obtain⟨h1,U⟩:=fL.sN au;simp only[hR];rw[bg (by omega),IE U];rfl
 | ro s=>
  obtain⟨h1,U⟩:=fL.sN au;simp only[hR];rw[bg (by omega),IE U];rfl
theorem OE{dF:Option Nat}(h:fL.has (zq dF) s=false):dF≠some s:=by
 rintro rfl;simp[fL.has,zq]at h
theorem OF(t:Nat)(dF:Option Nat):nP (hz t dF) ((t,t+1)::zq dF):=by
 intro g au;cases g with
 | free=>rfl
 | own s=>
  obtain⟨h1,U⟩:=fL.sN au;simp only[hz];rw[bg (by omega),bg (OE U)]
 | ro s=>
  obtain⟨h1,U⟩:=fL.sN au;simp only[hz];rw[bg (by omega),bg (OE U)]
theorem IF(t:Nat)(r:fL):nP (hR t []) ((t,t+1)::r):=by
 intro g au;cases g with
 | free=>rfl
 | own s=>
  obtain⟨h1,U⟩:=fL.sN au;simp only[hR];rw[bg (by omega)];rfl
 | ro s=>
  obtain⟨h1,U⟩:=fL.sN au;simp only[hR];rw[bg (by omega)];rfl
variable{P:Program}{st:aH}{e:dk}{obs:List Prop}
theorem OG{d:Nat}{t:TypeId}{x y:Operand}{ans cd:List b7}(h:yi P st d t x y ans=some (e,g,cd,obs)):nP g e.mO/\e.dst=some d:=by
 unfold yi at h;split at h
 ·split at h
  ·split at h
   ·split at h
    ·split at h
     ·simp only[aQ,bu]at h;obtain⟨rfl,rfl,_,_⟩:=h;exact⟨OF _ _,rfl⟩
     cases h
    cases h
   ·split at h
    ·split at h
     ·simp only[aQ,bu]at h;obtain⟨rfl,rfl,_,_⟩:=h;exact⟨fun t bR=>by simp only[IF d _ t bR,l1];exact OF d _ t bR,rfl⟩
     cases h
    cases h
   cases h
  cases h
 cases h
theorem P9{o:Oper}{ans cd:List b7}(h:rA P st o ans=some (e,g,cd,obs)):
  nP g e.mO/\∃d,e.dst=some d/\nO P st o ans=some (⟨(st.map (aB.ci g fun _=>true)).env.set d e.p,(st.map (aB.ci g fun _=>true)).boxes⟩,cd,obs):=by
 obtain⟨dst,op,type,pos,after,guard⟩:=o;have fB:∀st:aH,st.map (aB.ci some fun _=>true)=st:=by
  intro st;have:(aB.ci some fun _=>true)=_root_.id:=by
   funext l;cases l<;>simp[aB.ci,aj5]
  rw[this];simp only[aH.map];have h1:aI.map _root_.id=_root_.id:=by
   funext p;cases p with
   | aJ a=>cases a<;>simp[aI.map,bq.map]
   | fE as=>
    simp only[aI.map,id]
    congr 1
    have:bq.map _root_.id=_root_.id:=by funext a;cases a<;>simp[bq.map]
    rw[this];simp
  rw[h1];simp
 simp only[rA]at h;split at h
 ·rename_i d f args ts;split at h
  ·rename_i fn fU rs r h1 U;split at h
   ·rename_i ah;simp only[aQ,bu]at h;obtain⟨rfl,rfl,rfl,rfl⟩:=h;refine⟨aj7,d,rfl,?_⟩;simp only[nO,oW,N5,rc,mY,Iz,h1,U,iA];rw[br ah];rfl
   cases h
  cases h
 ·rename_i d t n parts;split at h
  ·rename_i k es ms aq;simp only[aQ,bu]at h;obtain⟨rfl,rfl,rfl,rfl⟩:=h;refine⟨aj8,d,rfl,?_⟩;simp only[nO,oW];exact aky aq ans
  cases h
 ·rename_i d x y t dc;split at h
  ·rename_i y6;subst y6;refine⟨(OG h).1,d,(OG h).2,?_⟩;simp only[nO,oW,gL,Sx.xZ];unfold yi at h;split at h
   ·rename_i uM k he;simp only[he];split at h
    ·rename_i i hi;simp only[hi];split at h
     ·rename_i z gC cm es s bd ak;split at h
      ·rename_i bN dF a2 ca ai;split at h
       ·rename_i ah;obtain⟨rfl,ah⟩:=ah;simp only[aQ,bu]at h;obtain⟨rfl,rfl,rfl,rfl⟩:=h;simp only[BJ,ak,gL,bd,ai];rw[br ah];rfl
       cases h
      cases h
     ·rename_i z _ bd ak;split at h
      ·rename_i bN dF a2 ca ai;split at h
       ·rename_i ah;simp only[aQ,bu]at h;obtain⟨rfl,rfl,rfl,rfl⟩:=h;have qw:(st.iK d []).bh y=(st.bh y).map (aB.ci (hR d []) fun _=>true):=aj6 st _ (fun _=>rfl) rfl (fun _=>rfl) y;simp only[BJ,ak,bd,qw,ai];rw[br ah];have:(st.iK d []).wm d dF=st.map (aB.ci (fun g=>(hR d [] g).bind (hz d dF)) fun _=>true):=by
         simp only[aH.iK,aH.wm,aH.map_map]
         congr 1
         funext l;refine aB.ar6 _ _ (fun g t h=>?_) l;cases g with
         | free=>simp[hz]at h
         | own s=>
          simp only[hz]at h;split at h
          ·simp at h
          split at h
          ·cases h
          simpa using h
         | ro s=>
          simp only[hz]at h;split at h
          ·cases h
          split at h
          ·cases h
          simp at h
        rw[this]
       cases h
      cases h
     cases h
    cases h
   cases h
  cases h
 ·cases h
 ·rename_i d ty;split at h
  ·rename_i i hi;split at h
   ·rename_i z bd;split at h
    ·rename_i aE;simp only[aQ,bu]at h;obtain⟨rfl,rfl,rfl,rfl⟩:=h;refine⟨IF _ _,d,rfl,?_⟩;simp only[nO,Dr,hi,bd];rw[br aE];rfl
    cases h
   cases h
  cases h
 ·rename_i d t l c;unfold Od at h;split at h
  ·rename_i e hu;split at h
   ·rename_i i cV gU cA jk hi e1 e2;split at h
    ·rename_i z bd;split at h
     ·rename_i ah;simp only[aQ,bu]at h;obtain⟨rfl,rfl,rfl,rfl⟩:=h;refine⟨IF _ _,d,rfl,?_⟩;simp only[nO,oW,CH,hu,hi,e1,e2,bd];rw[br ah];rfl
     cases h
    cases h
   cases h
  cases h
 ·rename_i d t x cQ hi iu;split at h
  ·rename_i aX;unfold Fw at h;split at h
   ·rename_i e k s cm es hG e1 e2;split at h
    ·rename_i ah;obtain⟨rfl,ai⟩:=ah;split at h
     ·rename_i l bB cc ec;simp only[aQ,bu]at h;obtain⟨rfl,rfl,rfl,rfl⟩:=h;refine⟨akT,d,rfl,?_⟩;simp only[nO,oW,aX,gL,x0,e1,e2,cc,ec,nN,ai,true_and]
     cases h
    cases h
   cases h
  rename_i aX;rw[b0]at h;obtain⟨⟨bI,bZ,ch⟩,h1,h⟩:=h;simp only[bu]at h;obtain⟨rfl,rfl,rfl,rfl⟩:=h;refine⟨OD,d,rfl,?_⟩;rw[fB];simp only[nO,oW];rw[bg aX,h1];rfl
 ·rename_i d jz kb lc jU ks n6 n7;rw[b0]at h;obtain⟨⟨bI,bZ,ch⟩,h1,h⟩:=h;simp only[bu]at h;obtain⟨rfl,rfl,rfl,rfl⟩:=h;refine⟨OD,d,rfl,?_⟩;rw[fB];have FZ:nO P st ⟨some d,op,type,pos,after,guard⟩ ans=oW P st ⟨some d,op,type,pos,after,guard⟩ ans:=by
   unfold nO;split
   ·rename_i e1 e2;exact (ks _ e2).elim
   ·rename_i e1 e2;cases e1
   rfl
  rw[FZ];unfold oW;split
  all_goals first
   | exact (jU _ _ (by assumption)).elim
   | exact (ks _ (by assumption)).elim
   | exact (n6 _ _ _ (by assumption)).elim
   | exact (kb _ _ _ (by assumption)).elim
   | exact (jz _ _ _ (by assumption)).elim
   | exact (lc _ _ _ _ (by assumption)).elim
   | exact (n7 _ _ _ _ _ (by assumption)).elim
   | (simp_all;done)
   | (exfalso;rename_i e;subst e;simp[oS]at h1)
   | (exfalso;simp_all[oS])
 ·rename_i ty s y;split at h
  ·rename_i gC vs v i e1 e2 cc;split at h
   ·rename_i ah;simp only[aQ,bu]at h;obtain⟨rfl,rfl,rfl,rfl⟩:=h;refine⟨akU,s,rfl,?_⟩;simp only[nO,Dt,e1,e2,cc];rw[br ah]
   cases h
  cases h
 cases h
theorem Rel.weaken{w0:ej}{bp:aH}{a:Act}{w:World}(h:Rel w0 st a w)(aT:bp.env.length=st.env.length)(aq:bp.boxes=st.boxes)
  (he:∀(i:Nat) (p:aI),bp.env[i]?=some p->p=.cp\/st.env[i]?=some p):Rel w0 bp a w:=by
 obtain⟨ω,τ,h⟩:=h;refine⟨ω,τ,h.defers,h.size.trans aT.symm,h.below,h.owned,h.fixed,h.pinned,fun i p hp=>?_,by rw[aq];exact h.boxes⟩;rcases he i p hp with rfl | U
 ·have:i<a.tmps.size:=by
   rw[h.size,<-aT];exact (eu.1 hp).1
  exact⟨a.tmps[i],by simp[this],aa⟩
 exact h.env i p U
def dk.ga(e:dk)(t:Nat):Option aI:=if e.dst=some t then some e.p else if t∈e.use then some .cp else none
def qZ(env:List aI):List Nat->List aI
 | s::us=>qZ (env.set s .cp) us
 | []=>env
theorem IG:∀(us:List Nat) (env:List aI),(qZ env us).length=env.length
 | [],env=>rfl
 | s::us,env=>by simp[qZ,IG us]
theorem P':∀(us:List Nat) (env:List aI) (t:Nat),(qZ env us)[t]?=(env[t]?).map fun p=>if t∈us then .cp else p
 | [],env,t=>by simp[qZ]
 | s::us,env,t=>by
  simp only[qZ,P' us,jK,et];by_cases h:s=t
  ·subst h;by_cases ak:s<env.length
   ·simp[ak]
   simp[ak]
  rw[bg h];have iP:¬t=s:=fun e=>h e.symm
  simp only[iP,false_or]
def dk.apply(e:dk)(env:List aI):List aI:=
 match e.dst with
 | some d=>(qZ env e.use).set d e.p
 | none=>env
theorem dk.apply_get(aE:e.dst≠none)(env:List aI)(t:Nat):(e.apply env)[t]?=(env[t]?).map fun p=>(e.ga t).getD p:=by
 unfold dk.apply dk.ga;split
 ·rename_i d dD;have ai:∀(t:Nat),(qZ env e.use)[t]?=(env[t]?).map fun p=>if t∈e.use then .cp else p:=P' e.use env
  rw[jK,ai t];by_cases h:d=t
  ·subst h;by_cases ak:d<env.length
   ·have:d<(qZ env e.use).length:=by rw[IG];exact ak
    simp[this,ak,dD]
   have:¬d<(qZ env e.use).length:=by rw[IG];exact ak
   simp[this,ak]
  rw[bg h];cases W4:env[t]? with
  | none=>simp
  | some p=>
   have cC:¬(e.dst=some t):=by rw[dD];simpa using h
   simp only[l3,aQ,bg cC];by_cases hu:t∈e.use
   ·simp[hu]
   simp[hu]
 exact absurd ‹_› aE
def gG(L:Nat->Bool)(t:Nat):Nat->List dk->aI->aI
 | _,[],acc=>acc
 | k,e::es,acc=>gG L t (k+1) es (if L k then (e.ga t).getD acc else acc)
variable{L:Nat->Bool}
theorem zv{L':Nat->Bool}:∀{es:List dk} {k:Nat} {acc:aI},(∀(j:Nat) (e:dk),es[j]?=some e->e.ga t≠none->L (k+j)=L' (k+j))->gG L t k es acc=gG L' t k es acc
 | [],_,_,_=>rfl
 | e::es,k,acc,h=>by
  simp only[gG];have bJ:(if L k then (e.ga t).getD acc else acc)=(if L' k then (e.ga t).getD acc else acc):=by
   cases bR:e.ga t with
   | none=>simp
   | some p=>have:=h 0 e rfl (by simp[bR]);rw[l4]at this;rw[this]
  rw[bJ];exact zv fun j e' a' bR=>by have:=h (j+1) e' (by simpa using a') bR;rwa[show k+(j+1)=k+1+j by omega]at this
theorem Qa{p:aI}:∀{es:List dk} {k i:Nat} {acc:aI} {e:dk},es[i]?=some e->e.ga t=some p->L (k+i)=true->
  (∀(j:Nat) (e':dk),i<j->es[j]?=some e'->e'.ga t≠none->L (k+j)=false)->gG L t k es acc=p
 | [],_,_,_,_,h,_,_,_=>by simp at h
 | bz::es,k,0,acc,e,h,bR,cz,h6=>by
  simp at h;subst h;simp only[gG];rw[l4]at cz;rw[cz,bR];simp only[gL,iA];have:∀(es:List dk) (k:Nat),(∀(j:Nat) (e':dk),es[j]?=some e'->e'.ga t≠none->L (k+j)=false)->gG L t k es p=p:=by
   intro es;induction es with
   | nil=>intro k _;rfl
   | cons e1 es dE=>
    intro k h;simp only[gG];have h1:(if L k then (e1.ga t).getD p else p)=p:=by
     cases bR:e1.ga t with
     | none=>simp
     | some q=>have:=h 0 e1 rfl (by simp[bR]);rw[l4]at this;simp[this]
    rw[h1];exact dE (k+1) fun j e' a' y4=>by have:=h (j+1) e' (by simpa using a') y4;rwa[show k+(j+1)=k+1+j by omega]at this
  exact this es (k+1) fun j e' a' y4=>by have:=h6 (j+1) e' (by omega) (by simpa using a') y4;rwa[show k+(j+1)=k+1+j by omega]at this
 | bz::es,k,i+1,acc,e,h,bR,cz,h6=>by
  simp only[gG];exact Qa (i:=i) (by simpa using h) bR (by rwa[show k+1+i=k+(i+1) by omega]) fun j e' a' yO y4=>by
   have:=h6 (j+1) e' (by omega) (by simpa using yO) y4;rwa[show k+(j+1)=k+1+j by omega]at this
def eR(env0:List aI)(bs:List (Nat×List aB))(L:Nat->Bool)(es:List dk):aH:=⟨env0.zipIdx.map fun x=>gG L x.2 0 es x.1,bs⟩
variable{bs:List (Nat×List aB)}
theorem pZ{env0:List aI}{es:List dk}(t:Nat):(eR env0 bs L es).env[t]?=(env0[t]?).map fun p=>gG L t 0 es p:=by
 simp only[eR,dd,List.getElem?_zipIdx,dx];cases env0[t]?<;>rfl
theorem xd{env0:List aI}{es:List dk}:(eR env0 bs L es).env.length=env0.length:=by simp[eR]
def IH(ops:Array Oper)(o:Oper):Option Nat:=o.guard.bind fun x=>(ops[x.1]?).bind (·.dst)
def reads(ops:Array Oper)(o:Oper):List Nat:=o.op.operands.toList.filterMap OC++(IH ops o).toList
def xe(d:Nat):dk:=⟨some d,.one (.v undef),[],[]⟩
def ext(e:dk)(env:List aI):dk:=
 if e.mO.isEmpty then e else { e with use:=e.use++(env.zipIdx.filterMap fun x=>if x.1.ez e.mO&&!(e.dst==some x.2) then some x.2 else none) }
theorem DF(e:dk)(env:List aI):∃u,ext e env={ e with use:=u }:=by
 unfold ext;split
 ·exact⟨e.use,rfl⟩
 exact⟨_,rfl⟩
structure hK where
 t:Nat
 i:Nat
 j:Nat
 k:Nat
 kT:Nat
 es:List (List D)
 esT:List (List D)
def Em(t:Nat)(bs:List (Nat×List aB)):Option (Nat×List (List D)):=
 (bs.find? fun x=>(x.2.findSome? (sv t)).isSome).bind fun x=>(dn x.1 bs).bind fun ls=>ls.findSome? (sv t)
theorem aj9{w0:ej}{a:Act}{w:World}{ω:Own}{τ:Nat->Nat×Value}(h:cw w0 st a w ω τ){kT:Nat}{esT:List (List D)}(e:Em t st.boxes=some (kT,esT)):∃v,Sat w ω τ (.J (.own t) kT esT) v:=by
 unfold Em at e;rw[lv]at e;obtain⟨x,_,e⟩:=e;rw[lv]at e;obtain⟨ls,aq,e⟩:=e;obtain⟨l,ak,e⟩:=List.exists_of_findSome?_eq_some e;obtain⟨b,arr,ty,_,_,_,ai⟩:=h.boxes _ ls aq;obtain⟨n,aT⟩:=o7.1 ak;obtain⟨u,_,hu⟩:=ai.2 n l aT;exact⟨u,Jc e hu⟩
def qK(st:aH)(o:Oper):Option hK:=
 match o.dst,o.op with
 | some _,.call ⟨.builtin .append,⟨[x,_]⟩,⟨[_,_]⟩⟩=>
  match (st.bh x).leaf with
  | some (.aO s i j k es .here)=>
   match Em s st.boxes with
   | some (kT,esT)=>some ⟨s,i,j,k,kT,es,esT⟩
   | none=>none
  | _=>none
 | _,_=>none
def tY(P:Program)(st:aH)(o:Oper)(ans:List b7):Option (dk×List b7×List Prop):=
 match qK st o,o.dst,o.op with
 | some v,some d,.call ⟨.builtin .append,⟨[_,y]⟩,⟨[t,dc]⟩⟩=>
  if t=dc then (sJ P t v.t v.i v.j v.k v.es v.esT (st.bh y) ans).map fun r=>(⟨some d,r.1,[],[]⟩,r.2.1,r.2.2) else none
 | _,_,_=>none
def hK.fix(v:hK):aB->Option (List Prop)
 | .J (.own s) dh dz=>if s=v.t then (if dh=v.kT then some [dz=v.esT] else none) else some []
 | .cX (.own s) dh dz _ _=>if s=v.t then (if dh=v.kT then some [dz=v.esT] else none) else some []
 | .J (.ro s) _ _=>if s=v.t then none else some []
 | .cX (.ro s) _ _ _ _=>if s=v.t then none else some []
 | .aO s a b dh dz m=>if s=v.t/\b=v.j then (if dh=v.k/\m.home=true then some [a=v.i,dz=v.es] else none) else some []
 | .e5 _ _=>none
 | _=>some []
def hK.l8(v:hK)(l:aB):Prop:=gH v.t v.i v.j v.k v.es v.kT v.esT l=l/\∀a∈l.idx v.t v.j,a=v.i
theorem hK.Wu{v:hK}{l:aB}(h:v.fix l=some obs)(aX:cE obs):v.l8 l:=by
 obtain⟨t,i,j,k,kT,es,esT⟩:=v;unfold hK.l8;simp only;cases l with
 | J g dh dz=>
  refine⟨?_,fun a aj=>by simp[aB.idx]at aj⟩;cases g with
  | free=>rfl
  | own s=>
   simp only[hK.fix]at h;split at h
   ·rename_i ai;subst ai;split at h
    ·rename_i hk;subst hk;cases h;have e:dz=esT:=aX.1;subst e;simp[gH]
    cases h
   rename_i ai;simp[gH,ai]
  | ro s=>
   simp only[hK.fix]at h;split at h
   ·cases h
   rename_i ai;simp[gH,ai]
 | cX g dh dz x y=>
  refine⟨?_,fun a aj=>by simp[aB.idx]at aj⟩;cases g with
  | free=>rfl
  | own s=>
   simp only[hK.fix]at h;split at h
   ·rename_i ai;subst ai;split at h
    ·rename_i hk;subst hk;cases h;have e:dz=esT:=aX.1;subst e;simp[gH]
    cases h
   rename_i ai;simp[gH,ai]
  | ro s=>
   simp only[hK.fix]at h;split at h
   ·cases h
   rename_i ai;simp[gH,ai]
 | aO s a b dh dz m=>
  simp only[hK.fix]at h;split at h
  ·rename_i ai;obtain⟨rfl,rfl⟩:=ai;split at h
   ·rename_i hk;cases h;have e1:a=i:=aX.1;have e2:dz=es:=aX.2.1;subst e1;subst e2;refine⟨?_,fun x ag=>?_⟩
    ·obtain⟨rfl,hm⟩:=hk;simp[gH,hm]
    simpa[aB.idx]using ag
   cases h
  rename_i ai;refine⟨?_,fun x ag=>?_⟩
  ·simp only[gH];rw[bg ai]
  simp[aB.idx,ai]at ag
 | e5 t vs=>cases h
 | _=>exact⟨rfl,fun a aj=>by simp[aB.idx]at aj⟩
def bq.s9:bq->List aB
 | .one l=>[l]
 | .agg ls=>ls
def aI.s9:aI->List aB
 | .aJ a=>a.s9
 | .fE as=>as.flatMap bq.s9
theorem bq.zo{p:aB->Prop}{a:bq}(h:∀l∈a.s9,p l):a.kE p:=by
 cases a with
 | one l=>exact h l (by simp[bq.s9])
 | agg ls=>exact h
theorem aI.zo{p:aB->Prop}{q:aI}(h:∀l∈q.s9,p l):q.kE p:=by
 cases q with
 | aJ a=>exact bq.zo h
 | fE as=>exact fun a aj=>bq.zo fun l ak=>h l (mV.2 ⟨a,aj,ak⟩)
def hK.fixes(v:hK):List aB->Option (List Prop)
 | []=>some []
 | l::r=>
  match v.fix l,hK.fixes v r with
  | some a,some b=>some (a++b)
  | _,_=>none
theorem hK.MZ{v:hK}:∀{ls:List aB} {obs:List Prop},v.fixes ls=some obs->cE obs->∀l∈ls,v.l8 l
 | [],_,_,_,l,ak=>by cases ak
 | eP::r,obs,h,aX,l,ak=>by
  simp only[hK.fixes]at h;split at h
  ·rename_i a b h1 U;cases h;obtain⟨cn,ca⟩:=aX.append;rcases et.1 ak with rfl | ak
   ·exact hK.Wu h1 cn
   exact hK.MZ U ca l ak
  cases h
def xY(bs:List (Nat×List aB))(all:Nat->List aB):Nat->List Oper->List aI->List dk->Option (List Prop)
 | i,o::os,env,e::es=>
  match qK ⟨env,bs⟩ o with
  | some v=>
   match v.fixes (all i),xY bs all (i+1) os (e.apply env) es with
   | some a,some b=>some (a++b)
   | _,_=>none
  | none=>xY bs all (i+1) os (e.apply env) es
 | _,_,_,_=>some []
theorem Qb{all:Nat->List aB}:∀{l:List Oper} {es:List dk} {env:List aI} {i0:Nat} {obs:List Prop},xY bs all i0 l env es=some obs->cE obs->
  ∀(i:Nat) (o:Oper),l[i]?=some o->i<es.length->∀v,qK ⟨(es.take i).foldl (fun env e=>e.apply env) env,bs⟩ o=some v->∀ka∈all (i0+i),v.l8 ka
 | [],_,_,_,_,_,_,i,o,hi,_,_,_,_,_=>by simp at hi
 | _::_,[],_,_,_,_,_,i,o,_,ak,_,_,_,_=>by simp at ak
 | Ct::os,e::es,env,i0,obs,h,aX,i,o,hi,ak,v,bA,ka,Cc=>by
  simp only[xY]at h;cases i with
  | zero=>
   simp only[j2,aQ]at hi;subst hi;simp only[List.take_zero,List.foldl_nil]at bA;rw[bA]at h;simp only at h;split at h
   ·rename_i a b h1 U;cases h;exact hK.MZ h1 aX.append.1 ka Cc
   cases h
  | succ i=>
   have go:∀{b:List Prop},xY bs all (i0+1) os (e.apply env) es=some b->cE b->v.l8 ka:=fun U ca=>
    Qb U ca i o (by simpa using hi) (by simpa using ak) v (by simpa using bA) ka (by rw[show i0+1+i=i0+(i+1) by omega];exact Cc)
   split at h
   ·split at h
    ·rename_i a b h1 U;cases h;exact go U aX.append.2
    cases h
   exact go h aX
def tA(P:Program)(ops:Array Oper)(gs:List Nat)(bs:List (Nat×List aB)):List Oper->List aI->List b7->Option (List dk×List aI×List b7×List Prop)
 | [],env,ans=>some ([],env,ans,[])
 | o::rest,env,ans=>
  match qY ops ⟨env,bs⟩ o [] with
  | some (true,_,_,_)=>
   match rA P ⟨env,bs⟩ o ans with
   | some (e,_,e3,fy)=>
    match (match o.dst with | some d=>gs.contains d | none=>false),e.p.leaf,e3 with
    | true,some (.bc c),.od b::r=>
     (tA P ops gs bs rest (dk.apply { ext e env with p:=.one (.v (.bool b)) } env) r).map fun x=>({ ext e env with p:=.one (.v (.bool b)) }::x.1,x.2.1,x.2.2.1,(c=b)::(fy++x.2.2.2))
    | _,_,_=>(tA P ops gs bs rest ((ext e env).apply env) e3).map fun x=>(ext e env::x.1,x.2.1,x.2.2.1,fy++x.2.2.2)
   | none=>
    match tY P ⟨env,bs⟩ o ans with
    | some (e,e3,fy)=>(tA P ops gs bs rest (e.apply env) e3).map fun x=>(e::x.1,x.2.1,x.2.2.1,fy++x.2.2.2)
    | none=>none
  | some (false,_,_,_)=>
   match o.dst with
   | some d=>(tA P ops gs bs rest ((xe d).apply env) ans).map fun x=>(xe d::x.1,x.2.1,x.2.2.1,x.2.2.2)
   | none=>none
  | none=>none
def Fact(P:Program)(ops:Array Oper)(bs:List (Nat×List aB))(env:List aI)(o:Oper)(e:dk):Prop:=
 (∃st1 eC cn,qY ops ⟨env,bs⟩ o []=some (false,st1,eC,cn)/\∃d,o.dst=some d/\e=xe d)\/
 (∃st1 eC cn,qY ops ⟨env,bs⟩ o []=some (true,st1,eC,cn)/\∃ans bz g cd obs,rA P ⟨env,bs⟩ o ans=some (bz,g,cd,obs)/\cE obs/\
  ∃u,(e={ bz with use:=u }\/∃c b,bz.p=.one (.bc c)/\c=b/\e={ bz with use:=u,p:=.one (.v (.bool b)) }))\/
 (∃st1 eC cn,qY ops ⟨env,bs⟩ o []=some (true,st1,eC,cn)/\∃ans cd obs,tY P ⟨env,bs⟩ o ans=some (e,cd,obs)/\cE obs)
theorem zw{ops:Array Oper}{gs:List Nat}:∀{l:List Oper} {env sQ:List aI} {ans cd:List b7} {es:List dk} {obs:List Prop},
  tA P ops gs bs l env ans=some (es,sQ,cd,obs)->cE obs->
  es.length=l.length/\sQ=es.foldl (fun env e=>e.apply env) env/\∀(i:Nat) (o:Oper),l[i]?=some o->∃e,es[i]?=some e/\Fact P ops bs ((es.take i).foldl (fun env e=>e.apply env) env) o e
 | [],env,sQ,ans,cd,es,obs,h,_=>by
  simp only[tA,aQ,bu]at h;obtain⟨rfl,rfl,_,_⟩:=h;exact⟨rfl,rfl,fun i o aX=>by simp at aX⟩
 | o::rest,env,sQ,ans,cd,es,obs,h,aX=>by
  have fin:∀(e:dk) (dz:List dk) (FA:List aI),(dz.length=rest.length/\FA=dz.foldl (fun env e=>e.apply env) (e.apply env)/\∀(i:Nat) (o:Oper),rest[i]?=some o->∃e',dz[i]?=some e'/\Fact P ops bs ((dz.take i).foldl (fun env e=>e.apply env) (e.apply env)) o e')->
    Fact P ops bs env o e->(e::dz).length=(o::rest).length/\FA=(e::dz).foldl (fun env e=>e.apply env) env/\∀(i:Nat) (oJ:Oper),(o::rest)[i]?=some oJ->∃e',(e::dz)[i]?=some e'/\Fact P ops bs (((e::dz).take i).foldl (fun env e=>e.apply env) env) oJ e':=by
   intro e dz FA ⟨h1,U,ax⟩ bY;refine⟨by simp[h1],U,fun i oJ j'=>?_⟩;cases i with
   | zero=>simp at j';subst j';exact⟨e,rfl,bY⟩
   | succ i=>exact ax i oJ (by simpa using j')
  simp only[tA]at h;split at h
  ·rename_i st1 eC cn hw;split at h
   ·rename_i e g e3 fy aE;split at h
    ·rename_i c b r au ak;rw[b0]at h;obtain⟨⟨k0,ij,qh,o4⟩,h1,h⟩:=h;simp only[bu]at h;obtain⟨rfl,rfl,_,rfl⟩:=h;have Oi:(c=b)/\cE o4:=⟨aX.1,(cE.append aX.2).2⟩
     have zt:=(cE.append aX.2).1;refine fin _ _ _ (zw h1 Oi.2) (.inr (.inl ⟨_,_,_,hw,_,_,_,_,_,aE,zt,(DF e env).choose,.inr ⟨c,b,?_,?_,?_⟩⟩))
     ·cases hp:e.p with
      | aJ a=>
       rw[hp]at ak;cases a with
       | one l=>simp only[aI.leaf,aQ]at ak;rw[ak]
       | agg ls=>cases ak
      | fE as=>rw[hp]at ak;cases ak
     ·exact Oi.1
     conv=>lhs;rw[(DF e env).choose_spec]
    rw[b0]at h;obtain⟨⟨k0,ij,qh,o4⟩,h1,h⟩:=h;simp only[bu]at h;obtain⟨rfl,rfl,_,rfl⟩:=h;obtain⟨zt,ca⟩:=aX.append;exact fin _ _ _ (zw h1 ca) (.inr (.inl ⟨_,_,_,hw,_,_,_,_,_,aE,zt,(DF e env).choose,.inl (DF e env).choose_spec⟩))
   split at h
   ·rename_i e e3 fy GI;rw[b0]at h;obtain⟨⟨k0,ij,qh,o4⟩,h1,h⟩:=h;simp only[bu]at h;obtain⟨rfl,rfl,_,rfl⟩:=h;obtain⟨zt,ca⟩:=aX.append;exact fin _ _ _ (zw h1 ca) (.inr (.inr ⟨_,_,_,hw,_,_,_,GI,zt⟩))
   cases h
  ·rename_i st1 eC cn hw;split at h
   ·rename_i d aE;rw[b0]at h;obtain⟨⟨k0,ij,qh,o4⟩,h1,h⟩:=h;simp only[bu]at h;obtain⟨rfl,rfl,_,rfl⟩:=h;exact fin _ _ _ (zw h1 aX) (.inl ⟨_,_,_,hw,d,aE,rfl⟩)
   cases h
  cases h
end Go.Sx
namespace Go.Sx
open Go.RowKit
variable{st bp:aH}
theorem Qc{parts:List (Nat×Operand)}(h:∀x∈parts,st.bh x.2=bp.bh x.2):(parts.map fun x=>(x.1,st.bh x.2))=parts.map fun x=>(x.1,bp.bh x.2):=
 kC fun x ag=>by rw[h x ag]
variable{P:Program}{ans:List b7}
theorem Qd{op:Op}(aq:st.boxes=bp.boxes)(h:∀x∈op.operands.toList,st.bh x=bp.bh x):oS P st op ans=oS P bp op ans:=by
 cases op<;>simp only[oS,Op.operands,et,List.mem_nil_iff,forall_eq_or_imp,or_false,forall_eq]at h ⊢
 case load t x=>simp only[Cz,h,aq]
 case slice t x cQ hi iu=>
  have ag:st.bh x=bp.bh x:=h x (by simp);have aX:∀o:Option Operand,(∀y,o=some y->st.bh y=bp.bh y)->lg st o=lg bp o:=by
   intro o aX;cases o with
   | none=>rfl
   | some y=>simp only[lg,aX y rfl]
  simp only[CA,ag];rw[aX cQ (fun y e=>h y (by simp[e])),aX hi (fun y e=>h y (by simp[e]))]
 case build t ct=>
  have:(ct.toList.map fun x=>(x.1,st.bh x.2))=ct.toList.map fun x=>(x.1,bp.bh x.2):=Qc fun x ag=>h x.2 (by simp;exact⟨x.1,by simpa using ag⟩)
  simp only[CB,this]
 case call c=>
  obtain⟨callee,args,ts⟩:=c;cases callee with
  | value f=>rfl
  | invoke r i=>rfl
  | builtin b=>
   simp only[Call.operands]at h;have iP:∀x∈args.toList,st.bh x=bp.bh x:=fun x ag=>h x (by simpa using ag)
   simp only;generalize args.toList=l at iP;unfold CE;split
   ·rw[iP _ (by simp)]
   ·rw[iP _ (by simp),iP _ (by simp)]
   ·rw[iP _ (by simp),iP _ (by simp)]
   rfl
 case makeFunc fn first captured=>
  have ah:captured.toList.map st.bh=captured.toList.map bp.bh:=kC fun x ag=>h x (by simp;right;simpa using ag)
  simp only[CD,ah]
 all_goals simp[h]
variable{o:Oper}
theorem aka(aq:st.boxes=bp.boxes)(h:∀x∈o.op.operands.toList,st.bh x=bp.bh x):rA P st o ans=rA P bp o ans:=by
 obtain⟨dst,op,type,pos,after,guard⟩:=o;simp only at h;cases dst with
 | none=>
  cases op with
  | store ty x y=>
   cases x with
   | tmp s=>
    have ag:st.bh (.tmp s)=bp.bh (.tmp s):=h (.tmp s) (by simp[Op.operands]);have bn:st.bh y=bp.bh y:=h y (by simp[Op.operands]);simp only[aH.bh]at ag;simp only[rA,ag,bn]
   | _=>rfl
  | _=>rfl
 | some d=>
  unfold rA;split
  ·rename_i f args ts e1 e2;simp only at e1 e2;subst e2;have iP:∀x∈args.toList,st.bh x=bp.bh x:=fun x ag=>h x (by simp[Op.operands,Call.operands];right;simpa using ag)
   have:args.toList.mapM (fun x=>(st.bh x).jj st.boxes)=args.toList.mapM (fun x=>(bp.bh x).jj bp.boxes):=by
    rw[<-aq];generalize args.toList=l at iP;generalize st.boxes=bs;induction l with
    | nil=>rfl
    | cons x l dE=>simp only[wi,iP x (by simp),dE fun y bn=>iP y (by simp[bn])]
   rw[this]
  ·rename_i t n parts e1 e2;simp only at e1 e2;subst e2;have:(parts.toList.map fun x=>(x.1,st.bh x.2))=parts.toList.map fun x=>(x.1,bp.bh x.2):=Qc fun x ag=>h x.2 (by simp[Op.operands];exact⟨x.1,by simpa using ag⟩)
   simp only[BN,this]
  ·rename_i x y t dc e1 e2;simp only at e1 e2;subst e2;have ag:st.bh x=bp.bh x:=h x (by simp[Op.operands,Call.operands]);have bn:st.bh y=bp.bh y:=h y (by simp[Op.operands,Call.operands]);simp only[yi,ag,bn]
  ·rfl
  ·rfl
  ·rename_i t l c e1 e2;simp only at e1 e2;subst e2;rw[h l (by simp[Op.operands]),h c (by simp[Op.operands])]
  ·rename_i t x cQ hi iu e1 e2;simp only at e1 e2;subst e2;have ag:st.bh x=bp.bh x:=h x (by simp[Op.operands]);have aX:∀o:Option Operand,(∀y,o=some y->st.bh y=bp.bh y)->lg st o=lg bp o:=by
    intro o aX;cases o with
    | none=>rfl
    | some y=>simp only[lg,aX y rfl]
   rw[Qd aq h];simp only[Fw,ag];rw[aX cQ (fun y e=>h y (by simp[Op.operands,e])),aX hi (fun y e=>h y (by simp[Op.operands,e]))]
  ·rw[Qd aq h]
  ·rename_i e1 e2;cases e1
  rfl
theorem MY{x:Operand}(h:∀t,OC x=some t->st.env.getD t .cp=bp.env.getD t .cp):st.bh x=bp.bh x:=by
 cases x with
 | tmp t=>simpa[aH.bh]using h t rfl
 | _=>rfl
def lB(ms:List Nat)(i j:Nat):Bool:=(ms.getD j 0).testBit i
def vL(ms:List Nat):List Edge->Nat
 | []=>0
 | e::r=>if Region.binds .any e then (2 ^ e.on ||| ms.getD e.on 0) ||| vL ms r else vL ms r
def qJ:List Oper->List Nat->List Nat
 | [],acc=>acc
 | o::r,acc=>qJ r (acc++[vL acc o.after.toList])
variable{ms:List Nat}{i:Nat}
theorem II:∀{l:List Edge},(vL ms l).testBit i=true->∃e∈l,Region.binds .any e=true/\(i=e.on\/lB ms i e.on=true)
 | [],h=>by simp[vL]at h
 | e::r,h=>by
  simp only[vL]at h;split at h
  ·rename_i aq;rw[Nat.testBit_or,Nat.testBit_or,n3,n3,Nat.testBit_two_pow,cK]at h;rcases h with (h | h) | h
   ·exact⟨e,by simp,aq,.inl h.symm⟩
   ·exact⟨e,by simp,aq,.inr h⟩
   obtain⟨e',h1,U⟩:=II h;exact⟨e',by simp[h1],U⟩
  obtain⟨e',h1,U⟩:=II h;exact⟨e',by simp[h1],U⟩
def qo{α:Type}(f:Nat->α->Bool):Nat->List α->Bool
 | _,[]=>true
 | k,x::r=>f k x&&qo f (k+1) r
theorem vM{α:Type}{f:Nat->α->Bool}:∀{l:List α} {k:Nat},qo f k l=true->∀(i:Nat) (x:α),l[i]?=some x->f (k+i) x=true
 | [],_,_,i,x,h=>by simp at h
 | y::r,k,h,0,x,ag=>by
  simp only[qo,cq]at h;simp at ag;subst ag;exact h.1
 | y::r,k,h,i+1,x,ag=>by
  simp only[qo,cq]at h;have:=vM h.2 i x (by simpa using ag);rwa[show k+1+i=k+(i+1) by omega]at this
def qL(ms:List Nat)(os:List Oper):Bool:=
 qo (fun j o=>ms.getD j 0==vL ms o.after.toList&&o.after.toList.all fun e=>!Region.binds .any e||decide (e.on<j)) 0 os
variable{ops:Array Oper}
theorem IJ(h:qL ms ops.toList=true){j:Nat}(aX:ops[j]?=some o):(∀e∈o.after,Region.binds .any e=true->e.on<j)/\
  ∀i,lB ms i j=true->∃e∈o.after,Region.binds .any e=true/\(i=e.on\/lB ms i e.on=true):=by
 have:=vM h j o (by simpa using aX);simp only[dx,cq,dY,fv,n3,g',cK]at this;refine⟨fun e he aq=>(this.2 e (by simpa using he)).resolve_left (by simp[aq]),fun i hi=>?_⟩;unfold lB at hi;rw[this.1]at hi;obtain⟨e,h1,U⟩:=II hi;exact⟨e,by simpa using h1,U⟩
def p0(ops:Array Oper)(bQ:Array Bool):Prop:=
 ∀(j:Nat) (o:Oper),bQ.getD j false=true->ops[j]?=some o->∀e∈o.after,Region.binds .any e=true->bQ.getD e.on false=true
variable{bQ:Array Bool}
theorem DG{j:Nat}(h:bQ.getD j false=true):j<bQ.size:=by
 rcases rf j bQ.size with iP | iP
 ·exact iP
 simp[Bv iP]at h
theorem DH(h:qL ms ops.toList=true)(ah:p0 ops bQ)(ai:bQ.size=ops.size):∀(j:Nat),bQ.getD j false=true->lB ms i j=true->bQ.getD i false=true:=by
 intro j;induction j using Nat.strongRecOn with
 | ind j dE=>
  intro a' aj;have bC:j<ops.size:=ai▸DG a';have aX:ops[j]?=some ops[j]:=hJ bC;obtain⟨h1,U⟩:=IJ h aX;obtain⟨e,he,aq,mA⟩:=U i aj;have sW:=ah j _ a' aX e he aq;rcases mA with rfl | mA
  ·exact sW
  exact dE e.on (h1 e he aq) sW mA
variable{k:Nat}
theorem zx(h:qL ms ops.toList=true)(ah:p0 ops bQ)(ai:bQ.size=ops.size)(hi:i∈Region.ready .any ops bQ)(aj:lB ms k i=true):bQ.getD k false=true:=by
 rw[mem_ready]at hi;obtain⟨_,o,aX,he⟩:=hi;obtain⟨_,U⟩:=IJ h aX;obtain⟨e,wJ,aq,mA⟩:=U k aj;rcases mA with rfl | mA
 ·exact he e wJ aq
 exact DH h ah ai _ (he e wJ aq) mA
theorem p0.ready(ah:p0 ops bQ)(hi:i∈Region.ready .any ops bQ):p0 ops (bQ.setIfInBounds i true):=by
 intro j o a' aX e he aq;rw[mem_ready]at hi;obtain⟨_,atW,XO,lH⟩:=hi;by_cases qA:i=j
 ·subst qA;rw[XO]at aX;cases aX;exact getD_set_true (lH e he aq)
 rw[getD_set_ne false qA]at a';exact getD_set_true (ah j o a' aX e he aq)
theorem IK(h:qL ms ops.toList=true)(ai:bQ.size=ops.size)(aD:Region.ready .any ops bQ=[]):∀j,j<ops.size->bQ.getD j false=true:=by
 intro j;induction j using Nat.strongRecOn with
 | ind j dE=>
  intro bC;have aX:ops[j]?=some ops[j]:=hJ bC;obtain⟨h1,_⟩:=IJ h aX;cases ak:bQ.getD j false with
  | true=>rfl
  | false=>
   have:j∈Region.ready .any ops bQ:=by
    rw[mem_ready];refine⟨?_,_,aX,fun e he aq=>dE e.on (h1 e he aq) (Nat.lt_trans (h1 e he aq) bC)⟩;have XA:j<bQ.size:=ai▸bC;simp[hJ XA]at ak ⊢;exact ak
   rw[aD]at this;cases this
def zy(e:dk):List Nat:=e.dst.toList++e.use
def DI(ops:Array Oper)(o:Oper)(e:dk):List Nat:=zy e++reads ops o
def Cv(ms:List Nat)(i k:Nat):Bool:=if k<i then lB ms k i else lB ms i k
def IL(ops:Array Oper)(ms:List Nat)(es:List dk):Bool:=
 qo (fun i x=>qo (fun k e=>k==i||Cv ms i k||!((zy e).any fun t=>(DI ops x.1 x.2).contains t)) 0 es) 0 (ops.toList.zip es)
def xf(ms:List Nat)(es:List dk)(i cQ:Nat)(s:Option Nat):Bool:=es.zipIdx.any fun y=>decide (cQ<=y.2)&&lB ms y.2 i&&(match s with | some t=>y.1.use.contains t | none=>false)
variable{es:List dk}
theorem Qe{cQ:Nat}{s:Option Nat}(h:xf ms es i cQ s=true):∃m y t,es[m]?=some y/\cQ<=m/\lB ms m i=true/\t∈y.use/\s=some t:=by
 unfold xf at h;rw[qk]at h;obtain⟨⟨y,m⟩,h1,U⟩:=h;rw[List.mem_zipIdx_iff_getElem?]at h1;simp only[cq,cK]at U;cases s with
 | none=>simp at U
 | some t=>exact⟨m,y,t,h1,U.1.1,U.1.2,by simpa using U.2,rfl⟩
def IM(ms:List Nat)(es:List dk)(env0:List aI)(bs:List (Nat×List aB)):Bool:=
 qo (fun i e=>e.mO.isEmpty||
  (qo (fun j x=>j==i||lB ms i j||!x.p.ez e.mO||(match x.dst with | some t=>e.use.contains t | none=>false)||x.dst==e.dst||xf ms es i (j+1) x.dst) 0 es&&
   qo (fun t p=>!p.ez e.mO||e.use.contains t||xf ms es i 0 (some t)||e.dst==some t) 0 env0&&
   bs.all fun x=>!x.2.any (aB.ez e.mO))) 0 es
variable{e:dk}
theorem Qf{t:Nat}(h:e.ga t≠none):t∈zy e:=by
 unfold dk.ga at h;split at h
 ·rename_i aE;simp[zy,aE]
 split at h
 ·rename_i hu;simp[zy,hu]
 exact absurd rfl h
theorem Qg(h:IL ops ms es=true){lE Fz:dk}(aX:ops[i]?=some o)(hi:es[i]?=some lE)(hk:es[k]?=some Fz)(cC:k≠i){t:Nat}
  (bR:Fz.ga t≠none) (aT:t∈DI ops o lE):Cv ms i k=true:=by
 have h1:=vM h i (o,lE) (by
  rw[List.getElem?_zip_eq_some];exact⟨by simpa using aX,hi⟩)
 have U:=vM h1 k Fz hk;simp only[dx,n3,dY,g']at U;rcases U with (U | U) | U
 ·exact absurd U cC
 ·exact U
 rw[hr]at U;have:=U t (Qf bR);simp only[List.contains_iff_mem]at this;exact absurd aT this
variable{r:fL}
theorem Tag.oI(h:r.isEmpty=true)(t:Tag):t.ez r=false:=by
 cases t with
 | free=>rfl
 | own s=>rw[List.isEmpty_iff]at h;subst h;rfl
 | ro s=>rw[List.isEmpty_iff]at h;subst h;rfl
theorem aB.oI(h:r.isEmpty=true)(l:aB):l.ez r=false:=by
 cases l with
 | aO t i j k es m=>exact Tag.oI h (.own t)
 | e5 t vs=>
  simp only[aB.ez,gq];refine⟨Tag.oI h (.own t),hr.2 fun c _=>?_⟩;cases c with
  | cp=>simp[eK.ez]
  | v x=>simp[eK.ez]
  | J t k es=>simp[eK.ez,Tag.oI h]
 | _=>simp[aB.ez,Tag.oI h]
theorem bq.oI(h:r.isEmpty=true)(a:bq):a.ez r=false:=by
 cases a<;>simp[bq.ez,aB.oI h]
theorem aI.oI(h:r.isEmpty=true)(p:aI):p.ez r=false:=by
 cases p<;>simp[aI.ez,bq.oI h]
variable{bs:List (Nat×List aB)}
theorem akb{env0:List aI}(h:IM ms es env0 bs=true)(hi:es[i]?=some e):
  (∀(j:Nat) (x:dk),es[j]?=some x->j≠i->lB ms i j=true\/x.p.ez e.mO=false\/(∃t,x.dst=some t/\t∈e.use)\/x.dst=e.dst\/xf ms es i (j+1) x.dst=true)/\
  (∀(t:Nat) (p:aI),env0[t]?=some p->((p.ez e.mO=false\/t∈e.use)\/xf ms es i 0 (some t)=true)\/e.dst=some t)/\∀x∈bs,x.2.any (aB.ez e.mO)=false:=by
 have h1:=vM h i e hi;simp only[n3,cK]at h1;rcases h1 with h1 | h1
 ·refine⟨fun j x _ _=>.inr (.inl (aI.oI h1 _)),fun t p _=>.inl (.inl (.inl (aI.oI h1 _))),fun x _=>?_⟩;rw[hr];intro l _;simp[aB.oI h1]
 simp only[cq]at h1;obtain⟨⟨h1,U⟩,ax⟩:=h1;refine⟨fun j x ag cC=>?_,fun t p hp=>?_,fun x ag=>?_⟩
 ·have:=vM h1 j x ag;simp only[dx,n3,dY,g',cq]at this;rcases this with ((((aK | aK) | aK) | aK) | aK) | aK
  rotate_left 4
  ·exact .inr (.inr (.inr (.inl aK)))
  ·exact .inr (.inr (.inr (.inr aK)))
  ·exact absurd aK cC
  ·exact .inl aK
  ·exact .inr (.inl aK)
  refine .inr (.inr (.inl ?_));split at aK
  ·rename_i t bR;exact⟨t,bR,by simpa using aK⟩
  cases aK
 ·have:=vM U t p hp;simp only[dx,n3,g',List.contains_iff_mem,dY]at this;exact this
 rw[fv]at ax;simpa using ax x ag
theorem IN{L:Nat->Bool}{t:Nat}:∀{es:List dk} {k:Nat} {acc:aI},(gG L t k es acc=acc/\∀(m:Nat) (y:dk),es[m]?=some y->L (k+m)=true->y.ga t=none)\/gG L t k es acc=.cp\/
  ∃j e,es[j]?=some e/\L (k+j)=true/\e.dst=some t/\gG L t k es acc=e.p/\∀(m:Nat) (y:dk),es[m]?=some y->j<m->L (k+m)=true->y.ga t=none
 | [],_,_=>.inl ⟨rfl,fun m y h=>by simp at h⟩
 | e::es,k,acc=>by
  simp only[gG];rcases IN (L:=L) (t:=t) (es:=es) (k:=k+1) (acc:=if L k then (e.ga t).getD acc else acc) with⟨h,aT⟩ | h | ⟨j,e',h1,U,ax,aK,aV⟩
  ·have tail:∀(m:Nat) (y:dk),(e::es)[m+1]?=some y->L (k+(m+1))=true->y.ga t=none:=fun m y bn ak=>aT m y (by simpa using bn) (by rwa[show k+1+m=k+(m+1) by omega])
   by_cases cz:L k=true
   ·rw[br cz]at h ⊢;unfold dk.ga at h ⊢;by_cases aE:e.dst=some t
    ·rw[br aE]at h ⊢;refine .inr (.inr ⟨0,e,rfl,cz,aE,h,fun m y bn hm ak=>?_⟩);cases m with
     | zero=>omega
     | succ m=>exact tail m y bn ak
    rw[bg aE]at h ⊢;by_cases hu:t∈e.use
    ·rw[br hu]at h ⊢;exact .inr (.inl h)
    rw[bg hu]at h ⊢;refine .inl ⟨h,fun m y bn ak=>?_⟩;cases m with
    | zero=>
     simp only[j2,aQ]at bn;subst bn;rw[bg aE,bg hu]
    | succ m=>exact tail m y bn ak
   rw[bg cz]at h ⊢;refine .inl ⟨h,fun m y bn ak=>?_⟩;cases m with
   | zero=>exact absurd ak (by simpa using cz)
   | succ m=>exact tail m y bn ak
  ·exact .inr (.inl h)
  refine .inr (.inr ⟨j+1,e',by simpa using h1,by rwa[show k+(j+1)=k+1+j by omega],ax,aK,fun m y bn hm ak=>?_⟩);cases m with
  | zero=>omega
  | succ m=>exact aV m y (by simpa using bn) (by omega) (by rwa[show k+1+m=k+(m+1) by omega])
theorem Qh{t:Nat}:∀{es:List dk} {k i:Nat} {acc:aI} {e:dk},es[i]?=some e->
  gG (fun j=>decide (j<k+i+1)) t k es acc=(e.ga t).getD (gG (fun j=>decide (j<k+i)) t k es acc)
 | [],_,_,_,_,h=>by simp at h
 | bz::es,k,0,acc,e,h=>by
  simp at h;subst h;have h6:∀(es:List dk) (k m:Nat) (acc:aI),m<=k->gG (fun j=>decide (j<m)) t k es acc=acc:=by
   intro es;induction es with
   | nil=>intro k m acc _;rfl
   | cons e1 es dE=>
    intro k m acc hm;simp only[gG];rw[bg (by simpa using hm)];exact dE (k+1) m acc (by omega)
  simp only[gG];rw[br (by simp),bg (by simp),h6 _ _ _ _ (by omega),h6 _ _ _ _ (by omega)]
 | bz::es,k,i+1,acc,e,h=>by
  simp only[gG];rw[br (by simp;omega),br (by simp)];have:=Qh (t:=t) (es:=es) (k:=k+1) (i:=i) (acc:=(bz.ga t).getD acc) (by simpa using h);rw[show k+1+i+1=k+(i+1)+1 by omega,show k+1+i=k+(i+1) by omega]at this;exact this
theorem DJ{env0:List aI}{bs:List (Nat×List aB)}(aE:∀(i:Nat) (e:dk),es[i]?=some e->e.dst≠none):∀(i:Nat),i<=es.length->
  (es.take i).foldl (fun env e=>e.apply env) env0=(eR env0 bs (fun j=>decide (j<i)) es).env
 | 0,_=>by
  apply List.ext_getElem?;intro t;rw[pZ];have h6:∀(es:List dk) (k:Nat) (acc:aI),gG (fun j=>decide (j<0)) t k es acc=acc:=by
   intro es;induction es with
   | nil=>intro k acc;rfl
   | cons e1 es dE=>intro k acc;simp only[gG];rw[bg (by simp)];exact dE _ _
  cases h:env0[t]? with
  | none=>simp[h]
  | some p=>have:=h6 es 0 p;simp only[h,List.take_zero,List.foldl_nil,l3,this]
 | i+1,hi=>by
  have bC:i<es.length:=by omega
  have he:es[i]?=some es[i]:=gp bC;have dE:=DJ (env0:=env0) (bs:=bs) aE i (by omega);rw[sE,he,Fl,List.foldl_append,dE];simp only[List.foldl_cons,List.foldl_nil];apply List.ext_getElem?;intro t;rw[dk.apply_get (aE i _ he),pZ,pZ];cases h:env0[t]? with
  | none=>rfl
  | some p=>
   have:=Qh (t:=t) (es:=es) (k:=0) (i:=i) (acc:=p) he;simp only[dx]at this;simp[this]
theorem IP{bp:aH}{st1:aH}{eC:List b7}{cn:List Prop}{b:Bool}(h:qY ops st o []=some (b,st1,eC,cn))(ai:∀t∈reads ops o,st.env.getD t .cp=bp.env.getD t .cp):
  qY ops bp o []=some (b,bp,[],[]):=by
 unfold qY at h ⊢;cases au:o.guard with
 | none=>rw[au]at h;simp only[aQ,bu]at h;simp[<-h.1]
 | some g=>
  obtain⟨j,want⟩:=g;rw[au]at h;simp only at h ⊢;cases aE:(ops[j]?).bind (·.dst) with
  | none=>rw[aE]at h;cases h
  | some s=>
   rw[aE]at h;simp only at h ⊢;have:s∈reads ops o:=by simp[reads,IH,au,aE]
   rw[ai s this]at h;split at h
   ·rename_i e;simp only[aQ,bu]at h;simp[e,<-h.1]
   ·rename_i e;simp only[aQ,bu]at h;simp[e,<-h.1]
   ·cases h
   cases h
variable{cd:List b7}{obs:List Prop}
theorem Qi(h:tY P st o ans=some (e,cd,obs)):
  ∃(v:hK) (d:Nat) (x y:Operand) (t:TypeId),qK st o=some v/\o.dst=some d/\o.op=.call ⟨.builtin .append,⟨[x,y]⟩,⟨[t,t]⟩⟩/\sJ P t v.t v.i v.j v.k v.es v.esT (st.bh y) ans=some (e.p,cd,obs)/\
   e=⟨some d,e.p,[],[]⟩/\(st.bh x).leaf=some (.aO v.t v.i v.j v.k v.es .here)/\Em v.t st.boxes=some (v.kT,v.esT):=by
 obtain⟨dst,op,type,pos,after,guard⟩:=o;unfold tY at h;split at h
 ·rename_i v d gb y t dc hi aE uZ;simp only at aE uZ;subst aE;subst uZ;split at h
  ·rename_i y6;subst y6;rw[b0]at h;obtain⟨⟨bI,bZ,ch⟩,h1,h⟩:=h;simp only[bu]at h;obtain⟨rfl,rfl,rfl⟩:=h;have jR:=hi;simp only[qK]at jR;split at jR
   ·rename_i s i j k es ak;split at jR
    ·rename_i kT esT aq;cases jR;exact⟨_,d,gb,y,t,hi,rfl,rfl,h1,rfl,ak,aq⟩
    cases jR
   cases jR
  cases h
 cases h
theorem Qj{st bp:aH}(aq:st.boxes=bp.boxes)(h:∀x∈o.op.operands.toList,st.bh x=bp.bh x):qK st o=qK bp o:=by
 obtain⟨dst,op,type,pos,after,guard⟩:=o;simp only at h;unfold qK;simp only;split
 ·rename_i x y t dc;have ag:st.bh x=bp.bh x:=h x (by simp[Op.operands,Call.operands]);rw[ag,aq]
 rfl
theorem akc(aq:st.boxes=bp.boxes)(h:∀x∈o.op.operands.toList,st.bh x=bp.bh x):tY P st o ans=tY P bp o ans:=by
 unfold tY;rw[Qj aq h];split
 ·rename_i v d x y t dc h1 U ax;rw[h y (by rw[ax];simp[Op.operands,Call.operands])]
 rfl
theorem akd{v:hK}{q:aI}(h:q.kE v.l8):∀a∈q.idx v.t v.j,a=v.i:=by
 have one:∀{a:bq},a.kE v.l8->∀x∈a.idx v.t v.j,x=v.i:=by
  intro a aj x ag;cases a with
  | one l=>exact aj.2 x ag
  | agg ls=>
   obtain⟨l,ak,ag⟩:=mV.1 ag;exact (aj l ak).2 x ag
 intro x ag;cases q with
 | aJ a=>exact one h x ag
 | fE as=>
  obtain⟨a,aj,ag⟩:=mV.1 ag;exact one (h a aj) x ag
theorem ake{v:hK}{q:aI}(h:q.kE v.l8):q.map (gH v.t v.i v.j v.k v.es v.kT v.esT)=q:=by
 have ls:∀{ls:List aB},(∀l∈ls,v.l8 l)->ls.map (gH v.t v.i v.j v.k v.es v.kT v.esT)=ls:=by
  intro ls ak
  conv=>rhs;rw[<-ri ls]
  exact kC fun l hm=>(ak l hm).1
 have one:∀{a:bq},a.kE v.l8->a.map (gH v.t v.i v.j v.k v.es v.kT v.esT)=a:=by
  intro a aj;cases a with
  | one l=>simp only[bq.map];rw[aj.1]
  | agg l=>simp only[bq.map];rw[ls aj]
 cases q with
 | aJ a=>simp only[aI.map];rw[one h]
 | fE as=>
  simp only[aI.map]
  congr 1
  conv=>rhs;rw[<-ri as]
  exact kC fun a hm=>one (h a hm)
theorem Fact.dst{env:List aI}(h:Fact P ops bs env o e):e.dst≠none:=by
 rcases h with⟨_,_,_,_,d,aE,rfl⟩ | ⟨_,_,_,_,ans,bz,g,cd,obs,h1,_,U⟩ | ⟨_,_,_,_,ans,cd,obs,h1,_⟩
 rotate_left 2
 ·obtain⟨v,d,x,y,t,_,_,_,_,he,_⟩:=Qi h1;rw[he];simp
 ·simp[xe]
 obtain⟨_,d,aK,_⟩:=P9 h1;obtain⟨u,U⟩:=U;rcases U with rfl | ⟨c,b,_,_,rfl⟩
 ·simp only[aK];simp
 simp only[aK];simp
variable{w0:ej}{a:Act}{w:World}
theorem Rel.bool{env:List aI}{d:Nat}{c:Bool}(h:Rel w0 ⟨env.set d (.one (.bc c)),bs⟩ a w):Rel w0 ⟨env.set d (.one (.v (.bool c))),bs⟩ a w:=by
 obtain⟨ω,τ,h⟩:=h;refine⟨ω,τ,h.defers,by have:=h.size;simpa using this,h.below,h.owned,h.fixed,h.pinned,fun i p hp=>?_,h.boxes⟩;by_cases hi:d=i
 ·subst hi;rw[jK]at hp;split at hp
  ·split at hp
   ·rename_i ak;simp only[aQ]at hp;subst hp;obtain⟨v,h1,U⟩:=h.env d (.one (.bc c)) (by simp[ak]);exact⟨v,h1,U⟩
   cases hp
  rename_i cC;exact absurd rfl cC
 exact h.env i p (by simpa[jK,hi]using hp)
section
variable {P : Program} {ops : Array Oper} {bs : List (Nat × List aB)} {env0 : List aI} {es : List dk} {ms : List Nat}
def eV(bQ:Array Bool)(j:Nat):Bool:=bQ.getD j false
structure o' (P:Program) (ops:Array Oper) (bs:List (Nat×List aB)) (env0:List aI) (es:List dk) (ms:List Nat):Prop where
 len:es.length<=ops.size
 facts:∀(i:Nat) (o:Oper),i<es.length->ops[i]?=some o->∃e,es[i]?=some e/\Fact P ops bs (eR env0 bs (fun j=>decide (j<i)) es).env o e
 masks:qL ms ops.toList=true
 aO:∀(i:Nat) (o:Oper) (v:hK),i<es.length->ops[i]?=some o->qK ⟨(eR env0 bs (fun j=>decide (j<i)) es).env,bs⟩ o=some v->
  (∀q∈env0,q.kE v.l8)/\(∀(j:Nat) (x:dk),es[j]?=some x->j≠i->x.p.kE v.l8)/\∀x∈bs,∀l∈x.2,v.l8 l
 ord:IL ops ms es=true
 tok:IM ms es env0 bs=true
variable{bQ:Array Bool}{i:Nat}{e:dk}
theorem o'.same(h:o' P ops bs env0 es ms)(ah:p0 ops bQ)(ai:bQ.size=ops.size)(hi:i∈Region.ready .any ops bQ){o:Oper}(aX:ops[i]?=some o)(he:es[i]?=some e)
  {t:Nat} (bR:t∈DI ops o e):(eR env0 bs (eV bQ) es).env.getD t .cp=(eR env0 bs (fun j=>decide (j<i)) es).env.getD t .cp:=by
 rw[ik,ik,pZ,pZ];have iH:bQ.getD i false=false:=by
  have bJ:=(mem_ready.1 hi).1;have bC:i<bQ.size:=ai▸(iO.1 aX).1;simp[hJ bC]at bJ ⊢;exact bJ
 cases W4:env0[t]? with
 | none=>rfl
 | some p=>
  simp only[l3,iA];refine zv fun j ww a' y5=>?_
  rw[dx];by_cases pD:j=i
  ·subst pD;simp[eV,iH]
  have:=Qg h.ord aX he a' pD y5 bR;unfold Cv at this;split at this
  ·rename_i bC;have:=zx h.masks ah ai hi this;simp[eV,bC,this]
  rename_i bC;cases Cd:bQ.getD j false with
  | false=>simp[eV,Cd,bC]
  | true=>have:=DH h.masks ah ai j Cd this;rw[iH]at this;cases this
theorem IQ(bC:i<bQ.size)(j:Nat):eV (bQ.setIfInBounds i true) j=(if j=i then true else eV bQ j):=by
 unfold eV;split
 ·rename_i h;subst h;simp[bC]
 rename_i h;rw[getD_set_ne false (Ne.symm h)]
theorem o'.fh(h:o' P ops bs env0 es ms)(bC:i<bQ.size)(he:es[i]?=some e){t:Nat}(bR:e.ga t=none)(p:aI):
  gG (eV (bQ.setIfInBounds i true)) t 0 es p=gG (eV bQ) t 0 es p:=by
 refine zv fun j ww a' y5=>?_
 rw[dx,IQ bC,bg];rintro rfl;rw[he]at a';cases a';exact y5 bR
theorem o'.last(h:o' P ops bs env0 es ms)(ah:p0 ops bQ)(ai:bQ.size=ops.size)(hi:i∈Region.ready .any ops bQ){o:Oper}(aX:ops[i]?=some o)(he:es[i]?=some e)
  {t:Nat} {q:aI} (bR:e.ga t=some q) (p:aI):gG (eV (bQ.setIfInBounds i true)) t 0 es p=q:=by
 have bC:i<bQ.size:=ai▸(iO.1 aX).1;have iH:bQ.getD i false=false:=by
  have bJ:=(mem_ready.1 hi).1;simp[hJ bC]at bJ ⊢;exact bJ
 refine Qa he bR (by rw[dx,IQ bC,br rfl]) fun j ww a' Xq y5=>?_
 rw[dx,IQ bC,bg (by omega)];have:=Qg h.ord aX he Xq (by omega) y5 (t:=t) (by
  unfold DI;exact hZ _ (Qf (by rw[bR];simp)))
 unfold Cv at this;rw[bg (by omega)]at this;cases Cd:eV bQ j with
 | false=>rfl
 | true=>have:=DH h.masks ah ai j Cd this;rw[iH]at this;cases this
theorem o'.step(h:o' P ops bs env0 es ms)(ah:p0 ops bQ)(ai:bQ.size=ops.size)(hi:i∈Region.ready .any ops bQ)(lH:i<es.length){w0:ej}{w:World}{a:Act}
  (aD:Rel w0 (eR env0 bs (eV bQ) es) a w) {Q:Exit->Act->World->Prop} {K:Act->World->Prop} (hN:∀cx aN,Rel w0 (eR env0 bs (eV (bQ.setIfInBounds i true)) es) cx aN->K cx aN):wpOp P ops Q i K a w:=by
 obtain⟨bJ,o,aX,atr⟩:=mem_ready.1 hi;obtain⟨e,he,bY⟩:=h.facts i o lH aX;have bC:i<bQ.size:=ai▸(iO.1 aX).1;have XZ:=fun t bR=>h.same ah ai hi aX he (t:=t) bR
 have yY:∀t∈reads ops o,(eR env0 bs (fun j=>decide (j<i)) es).env.getD t .cp=(eR env0 bs (eV bQ) es).env.getD t .cp:=fun t bR=>(XZ t (iz _ bR)).symm
 unfold wpOp;rw[aX];simp only;rcases bY with⟨st1,eC,cn,hw,d,aE,rfl⟩ | ⟨st1,eC,cn,hw,ans,bz,g,cd,obs,eh,Gx,B9⟩ | ⟨st1,eC,cn,hw,ans,cd,obs,GI,Gx⟩
 rotate_left 2
 ·have zb:=IP hw (bp:=eR env0 bs (eV bQ) es) yY;obtain⟨nx,_⟩:=vJ zb trivial aD;rw[br nx];left;have Ni:∀x∈o.op.operands.toList,(eR env0 bs (eV bQ) es).bh x=aH.bh ⟨(eR env0 bs (fun j=>decide (j<i)) es).env,bs⟩ x:=fun x ag=>MY fun t bR=>(yY t (by
   unfold reads;exact hZ _ (List.mem_filterMap.2 ⟨x,ag,bR⟩))).symm
  have F':tY P (eR env0 bs (eV bQ) es) o ans=some (e,cd,obs):=by
   rw[<-GI];exact akc rfl Ni
  obtain⟨v,d,x,y,t,Xk,aE,uZ,wG,mA,ag,nv⟩:=Qi F';have Xl:qK ⟨(eR env0 bs (fun j=>decide (j<i)) es).env,bs⟩ o=some v:=by
   rw[<-Xk];exact (Qj (st:=eR env0 bs (eV bQ) es) (bp:=⟨(eR env0 bs (fun j=>decide (j<i)) es).env,bs⟩) rfl Ni).symm
  obtain⟨W5,W6,Nj⟩:=h.aO i o v lH aX Xl;have iH:bQ.getD i false=false:=by
   simp[hJ bC]at bJ ⊢;exact bJ
  have qx:∀q∈(eR env0 bs (eV bQ) es).env,q.kE v.l8:=by
   intro q aC;simp only[eR]at aC;rw[k2]at aC;obtain⟨⟨kP,n⟩,hm,rfl⟩:=aC;have lJ:kP∈env0:=by
    rw[List.mem_zipIdx_iff_getElem?]at hm;exact fp hm
   simp only;rcases IN (L:=eV bQ) (t:=n) (es:=es) (k:=0) (acc:=kP) with⟨h1,_⟩ | h1 | ⟨j,ww,h1,U,_,aK,_⟩
   ·rw[h1];exact W5 _ lJ
   ·rw[h1];exact⟨rfl,fun a aj=>by simp[aB.idx]at aj⟩
   rw[aK];refine W6 j ww h1 ?_;rintro rfl;rw[dx]at U;unfold eV at U;rw[iH]at U;cases U
  have XC:(eR env0 bs (eV bQ) es).map (gH v.t v.i v.j v.k v.es v.kT v.esT)=eR env0 bs (eV bQ) es:=by
   have e1:(eR env0 bs (eV bQ) es).env.map (aI.map (gH v.t v.i v.j v.k v.es v.kT v.esT))=(eR env0 bs (eV bQ) es).env:=by
    conv=>rhs;rw[<-ri (eR env0 bs (eV bQ) es).env]
    exact kC fun q aC=>ake (qx q aC)
   have e2:bs.map (fun x=>(x.1,x.2.map (gH v.t v.i v.j v.k v.es v.kT v.esT)))=bs:=by
    conv=>rhs;rw[<-ri bs]
    refine kC fun x ag=>?_
    obtain⟨k0,ij⟩:=x;simp only[id]
    congr 1
    conv=>rhs;rw[<-ri ij]
    exact kC fun l ak=>(Nj _ ag l ak).1
   unfold aH.map;rw[e1];show aH.mk _ (bs.map _)=_;rw[e2];rfl
  have ox:∀a∈(eR env0 bs (eV bQ) es).idx v.t v.j,a=v.i:=by
   intro cx aj;unfold aH.idx at aj;rcases mW.1 aj with aj | aj
   ·obtain⟨q,aC,aj⟩:=mV.1 aj;exact akd (qx q aC) cx aj
   obtain⟨z,bd,aj⟩:=mV.1 aj;obtain⟨l,ak,aj⟩:=mV.1 aj;exact (Nj z bd l ak).2 cx aj
  obtain⟨ω,τ,eH⟩:=aD;obtain⟨z,aN,h1,U⟩:=eH.sJ (P:=P) (d:=d) (ty:=o.type) (kT:=v.kT) (x:=x) (y:=y) (aI.dy ag (eH.bh x)) wG Gx (aj9 eH nv) ox;rw[XC]at U;obtain⟨dst,op,type,pos,after,guard⟩:=o;simp only at aE uZ;subst aE;subst uZ;refine Calls.of (z:=z) (aN:=aN) ?_ (hN _ _ ?_)
  ·have:(execOp a.eval ⟨some d,.call ⟨.builtin .append,⟨[x,y]⟩,⟨[t,t]⟩⟩,type,pos,after,guard⟩)=(builtin .append ⟨[t,t]⟩ type (Array.map (fun | .const _=>true | _=>false) ⟨[x,y]⟩) (Array.map a.eval ⟨[x,y]⟩)):=by
    simp only[execOp,resolve];rfl
   rw[this];exact iy (by simpa using h1)
  refine U.weaken (by simp[xd]) rfl ?_;intro n p hp;right;rw[pZ,b0]at hp;obtain⟨kP,lJ,rfl⟩:=hp;rw[jK];have qv:e.dst=some d:=by rw[mA]
  have s7:e.use=[]:=by rw[mA]
  by_cases mz:d=n
  ·subst mz;have:d<env0.length:=(eu.1 lJ).1;rw[br rfl,br (by simp[xd,this]),h.last ah ai hi aX he (q:=e.p) (by simp[dk.ga,qv])]
  rw[bg mz,pZ,lJ,l3,h.fh bC he (by simp[dk.ga,qv,mz,s7])]
 ·have zb:=IP hw (bp:=eR env0 bs (eV bQ) es) yY;obtain⟨nx,_⟩:=vJ zb trivial aD;rw[bg (by rw[nx];simp)];refine hN _ _ ((IB aD).weaken ?_ ?_ ?_)
  ·simp[xd,zU,aE]
  ·simp[eR,zU,aE]
  intro t p hp;rw[pZ,b0]at hp;obtain⟨kP,lJ,rfl⟩:=hp;right;simp only[zU,aE];rw[jK];by_cases mz:d=t
  ·subst mz;have:d<env0.length:=(eu.1 lJ).1;rw[br rfl,br (by rw[xd];exact this),h.last ah ai hi aX he (q:=.one (.v undef)) (by simp[dk.ga,xe])]
  rw[bg mz,pZ,lJ,l3,h.fh bC he (by simp[dk.ga,xe,mz])]
 have zb:=IP hw (bp:=eR env0 bs (eV bQ) es) yY;obtain⟨nx,_⟩:=vJ zb trivial aD;rw[br nx];left;have F':rA P (eR env0 bs (eV bQ) es) o ans=some (bz,g,cd,obs):=by
  rw[<-eh];refine aka rfl fun x ag=>MY fun t bR=>(yY t ?_).symm
  unfold reads;exact hZ _ (List.mem_filterMap.2 ⟨x,ag,bR⟩)
 obtain⟨au,d,Gd,uZ⟩:=P9 F';obtain⟨u,B9⟩:=B9;have wQ:e.mO=bz.mO/\e.dst=bz.dst:=by
  rcases B9 with rfl | ⟨c,b,_,_,rfl⟩
  ·exact⟨rfl,rfl⟩
  exact⟨rfl,rfl⟩
 obtain⟨wQ,W2⟩:=wQ;rw[<-wQ]at au;obtain⟨X4,X5,X6⟩:=akb h.tok he;have WK:((eR env0 bs (eV bQ) es).map (aB.ci g fun _=>true)).boxes=bs:=by
  simp only[aH.map,eR]
  conv=>rhs;rw[<-ri bs]
  refine kC fun x ag=>?_
  obtain⟨k0,ij⟩:=x;simp only[id,OB au (X6 _ ag)]
 refine akR uZ Gx aD fun cx aN dV=>hN _ _ ?_
 rw[WK]at dV;have kM:Rel w0 ⟨((eR env0 bs (eV bQ) es).map (aB.ci g fun _=>true)).env.set d e.p,bs⟩ cx aN:=by
  rcases B9 with rfl | ⟨c,b,hp,fG,rfl⟩
  ·exact dV
  rw[hp]at dV;subst fG;exact dV.bool
 refine kM.weaken (by simp[xd,aH.map]) rfl ?_;intro t p hp;rw[pZ,b0]at hp;obtain⟨kP,lJ,rfl⟩:=hp;rw[jK];have qv:e.dst=some d:=W2.trans Gd;by_cases mz:d=t
 ·subst mz;right;have:d<env0.length:=(eu.1 lJ).1;rw[br rfl,br (by simp[aH.map,xd,this]),h.last ah ai hi aX he (q:=e.p) (by simp[dk.ga,qv])]
 rw[bg mz];by_cases Cm:t∈e.use
 ·left;exact h.last ah ai hi aX he (by simp[dk.ga,qv,mz,Cm]) kP
 have Gp:=h.fh bC he (t:=t) (by simp[dk.ga,qv,mz,Cm]) kP;rw[Gp];have XE:gG (eV bQ) t 0 es kP=.cp\/(gG (eV bQ) t 0 es kP).ez e.mO=false:=by
  rcases IN (L:=eV bQ) (t:=t) (es:=es) (k:=0) (acc:=kP) with⟨h1,h6⟩ | h1 | ⟨j,ww,h1,U,ax,aK,h6⟩
  ·right;rw[h1];rcases X5 t kP lJ with (aV | aV) | aV
   rotate_left 2
   ·rw[qv]at aV;exact absurd (eL aV) mz
   ·exact aV.resolve_right Cm
   ·obtain⟨m,y,dc,hm,_,aj,hu,bR⟩:=Qe aV;cases bR;have:=h6 m y hm (by rw[dx];exact zx h.masks ah ai hi aj);unfold dk.ga at this;rw[br hu]at this;split at this<;>cases this
  ·exact .inl h1
  right;rw[aK];rw[dx]at U;have iH:bQ.getD i false=false:=by
   simp[hJ bC]at bJ ⊢;exact bJ
  have pD:j≠i:=by rintro rfl;unfold eV at U;rw[iH]at U;cases U
  rcases X4 j ww h1 pD with aV | aV | aV | aV | aV
  rotate_left 3
  ·rw[ax,qv]at aV;exact absurd (eL aV).symm mz
  ·obtain⟨m,y,dc,hm,Nx,aj,hu,bR⟩:=Qe aV;rw[ax]at bR;cases bR;have:=h6 m y hm (by omega) (by rw[dx];exact zx h.masks ah ai hi aj);unfold dk.ga at this;rw[br hu]at this;split at this<;>cases this
  ·have:=DH h.masks ah ai j U aV;rw[iH]at this;cases this
  ·exact aV
  obtain⟨dc,bw,bX⟩:=aV;rw[ax]at bw;cases bw;exact absurd bX Cm
 rcases XE with h1 | h1
 ·exact .inl h1
 right;simp only[aH.map,dd];rw[pZ,lJ];simp only[l3,aI.vX au h1]
def IS(ops:Array Oper)(ms:List Nat)(k:Nat):Prop:=∀i,k<=i->i<ops.size->∀j,j<i->lB ms j i=true
theorem o'.any(h:o' P ops bs env0 es ms)(aq:IS ops ms es.length){w0:ej}{Q:Exit->Act->World->Prop}
  (iE:∀(gR:Nat) {bQ:Array Bool},p0 ops bQ->bQ.size=ops.size->(∀j,j<es.length->bQ.getD j false=true)->(∀j,es.length<=j->bQ.getD j false=false)->bQ.count false<=gR->
   ∀{a:Act} {w:World},Rel w0 (eR env0 bs (fun j=>decide (j<es.length)) es) a w->wpAny P .any ops Q gR bQ a w):
  ∀(gR:Nat) {bQ:Array Bool},p0 ops bQ->bQ.size=ops.size->(∀j,es.length<=j->bQ.getD j false=false)->bQ.count false<=gR->
  ∀{a:Act} {w:World},Rel w0 (eR env0 bs (eV bQ) es) a w->wpAny P .any ops Q gR bQ a w:=by
 intro gR;induction gR with
 | zero=>
  intro bQ ah ai iH rK a w aD;by_cases hA:∀j,j<es.length->bQ.getD j false=true
  ·refine iE 0 ah ai hA iH rK ?_;have:eR env0 bs (eV bQ) es=eR env0 bs (fun j=>decide (j<es.length)) es:=by
    unfold eR
    congr 1
    refine kC fun x _=>?_
    refine zv fun j e a' _=>?_
    have bC:j<es.length:=(eu.1 a').1;rw[dx];simp only[eV,hA j bC,bC,decide_true]
   rwa[<-this]
  exfalso;apply hA;intro j a';have bC:j<bQ.size:=ai▸yb a' h.len;cases bY:bQ[j] with
  | true=>simp[hJ bC,bY]
  | false=>
   have:0<bQ.count false:=by
    rw[Array.count_pos_iff];exact bY▸Array.getElem_mem bC
   omega
 | succ gR dE=>
  intro bQ ah ai iH rK a w aD;by_cases hA:∀j,j<es.length->bQ.getD j false=true
  ·refine iE _ ah ai hA iH rK ?_;have:eR env0 bs (eV bQ) es=eR env0 bs (fun j=>decide (j<es.length)) es:=by
    unfold eR
    congr 1
    refine kC fun x _=>?_
    refine zv fun j e a' _=>?_
    have bC:j<es.length:=(eu.1 a').1;rw[dx];simp only[eV,hA j bC,bC,decide_true]
   rwa[<-this]
  refine⟨fun uX=>absurd (fun j a'=>IK h.masks ai uX j (yb a' h.len)) hA,fun i hi=>?_⟩;have lH:i<es.length:=by
   rcases rf i es.length with h1 | h1
   ·exact h1
   exfalso;obtain⟨_,o,aX,_⟩:=mem_ready.1 hi;have bC:i<ops.size:=(iO.1 aX).1;exact hA fun j a'=>zx h.masks ah ai hi (aq i h1 bC j (yb a' h1))
  refine h.step ah ai hi lH aD fun cx aN dV=>dE (ah.ready hi) (by simpa using ai) (fun j a'=>?_) ?_ dV
  ·rw[getD_set_ne false (by omega)];exact iH j a'
  obtain⟨h1,o,aX,_⟩:=mem_ready.1 hi;have bC:i<bQ.size:=ai▸(iO.1 aX).1;have bY:bQ[i]=false:=by simpa[hJ bC]using h1
  have:(bQ.setIfInBounds i true).count false=bQ.count false-1:=by
   have e:bQ.setIfInBounds i true=bQ.set i true bC:=by unfold Array.setIfInBounds;rw[dif_pos bC]
   rw[e,Array.count_set];simp[bY]
  omega
end
def xx(P:Program)(ops:Array Oper):List Oper->aH->List b7->Stepped
 | [],st,ans=>some (st,ans,[])
 | o::rest,st,ans=>
  match pR P ops o st ans with
  | some (st1,e3,fy)=>(xx P ops rest st1 e3).map fun r=>(r.1,r.2.1,fy++r.2.2)
  | none=>none
theorem Qk{Q:Exit->Act->World->Prop}(hi:ops[i]?=some o)(h:pR P ops o st ans=some (bp,cd,obs))(aX:cE obs)
  {a:Act} {w:World} (aU:Rel w0 st a w) {K:Act->World->Prop} (hN:∀cx aN,Rel w0 bp cx aN->K cx aN):wpOp P ops Q i K a w:=by
 unfold wpOp;rw[hi];simp only;unfold pR at h;split at h
 ·rename_i st1 e3 fy hw;rw[b0]at h;obtain⟨⟨bI,bZ,ch⟩,h1,h⟩:=h;simp only[bu]at h;obtain⟨rfl,rfl,rfl⟩:=h;obtain⟨cn,ca⟩:=aX.append;obtain⟨nx,eH⟩:=vJ hw cn aU;rw[br nx];exact .inl (IA h1 ca eH fun cx aN dV=>hN _ _ dV)
 ·rename_i st1 e3 fy hw;simp only[aQ,bu]at h;obtain⟨rfl,rfl,rfl⟩:=h;obtain⟨nx,eH⟩:=vJ hw aX aU;rw[bg (by rw[nx];simp)];exact hN _ _ (IB eH)
 cases h
theorem akf(hm:qL ms ops.toList=true)(aq:IS ops ms k){Q:Exit->Act->World->Prop}:∀(gR n:Nat) {bQ:Array Bool},k<=n->n<=ops.size->
  p0 ops bQ->bQ.size=ops.size->(∀j,j<n->bQ.getD j false=true)->(∀j,n<=j->bQ.getD j false=false)->bQ.count false<=gR->
  ∀{st bp:aH} {ans cd:List b7} {obs:List Prop},xx P ops (ops.toList.drop n) st ans=some (bp,cd,obs)->cE obs->
  ∀{a:Act} {w:World},Rel w0 st a w->(∀cx aN,Rel w0 bp cx aN->Q .normal cx aN)->wpAny P .any ops Q gR bQ a w:=by
 have fin:∀{bQ:Array Bool} {n:Nat},n=ops.size->bQ.size=ops.size->(∀j,j<n->bQ.getD j false=true)->Region.ready .any ops bQ=[]:=by
  intro bQ n aT ai h1;rw[List.eq_nil_iff_forall_not_mem];intro j a';obtain⟨U,o,aX,_⟩:=mem_ready.1 a';have bC:j<ops.size:=(iO.1 aX).1;have ax:=h1 j (aT▸bC);have iS:j<bQ.size:=ai▸bC;simp[hJ iS]at U ax;rw[U]at ax;cases ax
 intro gR;induction gR with
 | zero=>
  intro n bQ Nu aT ah ai h1 U rK st bp ans cd obs h aX a w aD iE;have yU:n=ops.size:=by
   rcases rf n ops.size with bC | mB
   ·have iS:n<bQ.size:=ai▸bC;have bY:bQ[n]=false:=by simpa[hJ iS]using U n (fK _)
    have:0<bQ.count false:=by
     rw[Array.count_pos_iff];exact bY▸Array.getElem_mem iS
    omega
   omega
  rw[List.drop_eq_nil_of_le (by simp[yU])]at h;simp only[xx,aQ,bu]at h;obtain⟨rfl,_,_⟩:=h;exact⟨fin yU ai h1,iE _ _ aD⟩
 | succ gR dE=>
  intro n bQ Nu aT ah ai h1 U rK st bp ans cd obs h aX a w aD iE;rcases rf n ops.size with bC | mB
  ·have iS:n<bQ.size:=ai▸bC;have aE:ops.toList.drop n=ops[n]::ops.toList.drop (n+1):=by
    rw[List.drop_eq_getElem_cons (by simpa using bC)];simp
   rw[aE]at h;simp only[xx]at h;split at h
   ·rename_i st1 e3 fy ax;rw[b0]at h;obtain⟨⟨bI,bZ,ch⟩,aK,h⟩:=h;simp only[bu]at h;obtain⟨rfl,rfl,rfl⟩:=h;obtain⟨cn,ca⟩:=aX.append;refine⟨fun uX=>?_,fun i hi=>?_⟩
    ·exfalso;have:=IK hm ai uX n bC;rw[U n (fK _)]at this;cases this
    have pC:i=n:=by
     obtain⟨aV,o,j',_⟩:=mem_ready.1 hi;have wM:i<ops.size:=(iO.1 j').1;have jR:i<bQ.size:=ai▸wM;rcases Nat.lt_trichotomy i n with bw | bw | bw
     ·have bX:=h1 i bw;simp[hJ jR]at aV bX;rw[aV]at bX;cases bX
     ·exact bw
     have:=zx hm ah ai hi (aq i (by omega) wM n bw);rw[U n (fK _)]at this;cases this
    subst pC;refine Qk (hJ bC) ax cn aD fun cx aN dV=>dE (i+1) (by omega) (by omega) (ah.ready hi) (by simpa using ai) (fun j a'=>?_) (fun j a'=>?_) ?_ aK ca dV iE
    ·by_cases pD:j=i
     ·subst pD;have bd:j<(bQ.setIfInBounds j true).size:=by simpa using iS
      simp[hJ bd]
     rw[getD_set_ne false (Ne.symm pD)];exact h1 j (by omega)
    ·rw[getD_set_ne false (by omega)];exact U j (by omega)
    have bY:bQ[i]=false:=by simpa[hJ iS]using U i (fK _)
    have:(bQ.setIfInBounds i true).count false=bQ.count false-1:=by
     have e:bQ.setIfInBounds i true=bQ.set i true iS:=by unfold Array.setIfInBounds;rw[dif_pos iS]
     rw[e,Array.count_set];simp[bY]
    omega
   cases h
  have yU:n=ops.size:=by omega
  rw[List.drop_eq_nil_of_le (by simp[yU])]at h;simp only[xx,aQ,bu]at h;obtain⟨rfl,_,_⟩:=h;have uX:=fin yU ai h1;refine⟨fun _=>iE _ _ aD,fun i hi=>?_⟩;rw[uX]at hi;cases hi
def sy(ms:List Nat):Nat->Nat
 | 0=>0
 | i+1=>if ms.getD i 0==2 ^ i-1 then sy ms i else i+1
theorem Ql(ms:List Nat):∀n,sy ms n<=n
 | 0=>fK _
 | n+1=>by
  unfold sy;split
  ·exact ui (Ql ms n) (Nat.le_succ n)
  exact fK _
theorem Qm(ms:List Nat):∀n i,sy ms n<=i->i<n->∀j,j<i->lB ms j i=true
 | 0,_,_,h,_,_=>absurd h (Nat.not_lt_zero _)
 | n+1,i,h1,U,j,a'=>by
  unfold sy at h1;split at h1
  ·rename_i he;by_cases pC:i=n
   ·subst pC;unfold lB;rw[eq_of_beq he,Nat.testBit_two_pow_sub_one,j3 a']
   exact Qm ms n i h1 (by omega) j a'
  omega
theorem Sat.drew{ω:Own}{τ:Nat->Nat×Value}{l:aB}{y:Value}(h:Sat w ω τ l y):Sat w.drew ω τ l y:=by
 have bY:∀{R:List (Nat×Nat)->cS->Prop} {d:D} {y:Value},bW w ω R d y->bW w.drew ω R d y:=fun h=>h.frame fun _ _ _ aC=>⟨aC,rfl⟩
 cases l with
 | J t k es=>exact⟨bY h.1,h.2⟩
 | cX t k es i j=>
  obtain⟨b,off,cap,h1,U,ax,aK⟩:=h;exact⟨b,off,cap,h1,U,bY ax,aK⟩
 | hF ds off=>
  obtain⟨b,h1,U⟩:=h;exact⟨b,h1,bY U⟩
 | fd d=>exact bY h
 | dg t k es=>exact⟨bY h.1,h.2⟩
 | aO t i j k es m=>
  obtain⟨u,hu,h1,hm⟩:=h;exact⟨u,hu,bY h1,hm⟩
 | e5 t vs=>
  obtain⟨b,ty,arr,h1,U,ax,aT,bA⟩:=h;refine⟨b,ty,arr,h1,U,ax,aT,fun j c ah=>?_⟩;obtain⟨u,fN,eT⟩:=bA j c ah;refine⟨u,fN,?_⟩;cases c with
  | cp=>exact trivial
  | v x=>exact eT
  | J t k es=>exact⟨bY eT.1,eT.2⟩
 | _=>exact h
theorem Rel.drew(h:Rel w0 st a w):Rel w0 st a w.drew:=by
 obtain⟨ω,τ,h⟩:=h;have hi:∀p:aI,p.map _root_.id=p:=by
  intro p;cases p with
  | aJ a=>cases a<;>simp[aI.map,bq.map]
  | fE as=>
   simp only[aI.map]
   congr 1
   have:bq.map _root_.id=_root_.id:=by funext a;cases a<;>simp[bq.map]
   rw[this];simp
 refine⟨ω,τ,h.defers,h.size,h.below.next (gd.refl _ _).drew,h.owned,h.fixed,h.pinned,fun i p hp=>?_,fun id ls ak=>?_⟩
 ·obtain⟨v,h1,U⟩:=h.env i p hp;have:=cI.map (j4:=Sat w.drew ω τ) (f:=_root_.id) (fun l v ai=>Sat.drew ai) U;rw[hi]at this;exact⟨v,h1,this⟩
 obtain⟨b,arr,ty,h1,U,ax,aK⟩:=h.boxes id ls ak;have:=jP.map (j4:=Sat w.drew ω τ) (f:=_root_.id) (fun l v ai=>Sat.drew ai) aK;rw[ri]at this;exact⟨b,arr,ty,h1,U,ax,this⟩
def DK:Nat->List aI->List Nat
 | _,[]=>[]
 | i,p::r=>match p.leaf with | some (.e5 t _)=>if t=i then i::DK (i+1) r else DK (i+1) r | _=>DK (i+1) r
def xy(env:List aI):List Oper->List Nat
 | []=>[]
 | o::r=>
  match o.dst,o.op with
  | none,.store _ (.tmp s) _=>
   match (env.getD s .cp).leaf with
   | some (.ptr d 0)=>if d=s/\s<c3/\!(xy env r).contains s then s::xy env r else xy env r
   | _=>xy env r
  | _,_=>xy env r
def akg(env0:List aI)(bs:List (Nat×List aB))(es:List dk)(i:Nat):List aB:=
 env0.flatMap aI.s9++(bs.flatMap (·.2)++(es.zipIdx.filter fun x=>x.2 != i).flatMap fun x=>x.1.p.s9)
def IT(P:Program)(ops:Array Oper)(st:aH)(ans:List b7):Stepped:=
 let gs:=ops.toList.filterMap (IH ops)
 let ms:=qJ ops.toList []
 let k:=sy ms ops.size
 match zQ (xy st.env (ops.toList.take k)) st with
 | some fm=>
  match tA P ops gs fm.boxes (ops.toList.take k) fm.env ans with
  | some (es,sQ,e3,fy)=>
   if P.follows .mixedOrders&&qL ms ops.toList&&IL ops ms es&&IM ms es fm.env fm.boxes then
    match zR (DK 0 sQ) ⟨sQ,fm.boxes⟩,xY fm.boxes (akg fm.env fm.boxes es) 0 (ops.toList.take k) fm.env es with
    | some st2,some w4=>(xx P ops (ops.toList.drop k) st2 e3).map fun r=>(r.1,r.2.1,fy++(w4++r.2.2))
    | _,_=>none
   else none
  | none=>none
 | none=>none
theorem akh(h:IT P ops st ans=some (bp,cd,obs))(aX:cE obs)(aD:Rel w0 st a w){id:Nat}
  {Q:Exit->Act->World->Prop} (iE:∀cx aN,Rel w0 bp cx aN->Q .normal cx aN):(Code.region id ops true).wp P Q a w:=by
 unfold IT at h;simp only at h;split at h
 case h_2=>cases h
 rename_i fm NS;replace aD:=OU aD NS;clear NS;revert aD h;generalize fm=st;intro h aD;split at h
 ·rename_i es sQ e3 fy fC;split at h
  ·rename_i ah;split at h
   rotate_left
   ·cases h
   rename_i st2 w4 Gt X1;rw[b0]at h;obtain⟨⟨bI,bZ,ch⟩,X3,h⟩:=h;simp only[bu]at h;obtain⟨rfl,rfl,rfl⟩:=h;obtain⟨Gu,Gv⟩:=aX.append;obtain⟨XM,Gv⟩:=Gv.append;simp only[cq]at ah;obtain⟨⟨⟨hm,Nz⟩,XP⟩,jt⟩:=ah;have atA:=Ql (qJ ops.toList []) ops.size;obtain⟨hlen,yL,Nk⟩:=zw fC Gu;have Xv:es.length=sy (qJ ops.toList []) ops.size:=by
    rw[hlen,lx,uh];omega
   have NT:∀(i:Nat),i<es.length->(ops.toList.take (sy (qJ ops.toList []) ops.size))[i]?=ops[i]?:=by
    intro i hi;rw[j1,br (by omega),mT]
   have aE:∀(i:Nat) (e:dk),es[i]?=some e->e.dst≠none:=by
    intro i e hi;have bC:i<(ops.toList.take (sy (qJ ops.toList []) ops.size)).length:=hlen▸(eu.1 hi).1;obtain⟨e',h1,U⟩:=Nk i _ (gp bC);rw[hi]at h1;cases h1;exact U.dst
   have FZ:o' P ops st.boxes st.env es (qJ ops.toList []):=by
    refine⟨by omega,fun i o lH hi=>?_,Nz,fun i o v lH hi bA=>?_,XP,jt⟩
    rotate_left
    ·have Ck:=Qb X1 XM i o (by rw[NT i lH];exact hi) lH v (by
      rw[<-DJ (bs:=st.boxes) aE i (by omega)]at bA;exact bA)
     rw[dx]at Ck;refine⟨fun q aC=>aI.zo fun l ak=>Ck l ?_,fun j x a' cC=>aI.zo fun l ak=>Ck l ?_,fun x ag l ak=>Ck l ?_⟩
     ·exact hZ _ (mV.2 ⟨q,aC,ak⟩)
     ·refine iz _ (iz _ (mV.2 ⟨(x,j),List.mem_filter.2 ⟨?_,by simpa using cC⟩,ak⟩));rw[List.mem_zipIdx_iff_getElem?];exact a'
     exact iz _ (hZ _ (mV.2 ⟨x,ag,ak⟩))
    obtain⟨e,h1,U⟩:=Nk i o (by rw[NT i lH];exact hi);refine⟨e,h1,?_⟩;rwa[DJ (bs:=st.boxes) aE i (by omega)]at U
   have yF:IS ops (qJ ops.toList []) es.length:=fun i h1 U j a'=>Qm _ _ i (by omega) U j a'
   refine wp_region_any hm (FZ.any yF (w0:=w0) ?_ ops.size ?_ (by simp) ?_ ?_ ?_)
   ·intro gR bQ py ai qC da rK cx aN dV;refine akf Nz yF gR es.length (fK _) (by omega) py ai qC da rK (st:=st2) (by rw[Xv];exact X3) Gv (OV ?_ Gt) iE;have:=DJ (env0:=st.env) (bs:=st.boxes) aE es.length (fK _);rw[k1,<-yL]at this;rw[this];exact dV
   ·intro j o a';have:=DG a';simp at this;simp[this]at a'
   ·intro j _;by_cases a':j<ops.size
    ·simp[a']
    simp[a']
   ·simp[Array.count_replicate]
   have:eR st.env st.boxes (eV (Array.replicate ops.size false)) es=st:=by
    have h6:∀(es:List dk) (t k:Nat) (acc:aI),gG (eV (Array.replicate ops.size false)) t k es acc=acc:=by
     intro es;induction es with
     | nil=>intro t k acc;rfl
     | cons e1 es dE=>
      intro t k acc;simp only[gG];rw[bg,dE];unfold eV;intro ah;have:=DG ah;simp at this;simp[this]at ah
    obtain⟨env,bs⟩:=st;unfold eR
    congr 1
    simp only[h6];apply List.ext_getElem?;intro t;simp
   rw[this];exact aD.drew
  cases h
 cases h
end Go.Sx
namespace Go.Sx
open Go.RowKit
def ee(P:Program)(ops:Array Oper)(st bp:aH):Prop:=
 ∀(w0:ej) (a:Act) (w:World) (id:Nat) (Q:Exit->Act->World->Prop),Rel w0 st a w->(∀cx aN,Rel w0 bp cx aN->Q .normal cx aN)->(Code.region id ops true).wp P Q a w
def DL(o:Oper)(m:Nat):Bool:=o.after.toList.all fun e=>!Region.binds .any e||m.testBit e.on
def pP(m:Nat):Nat->List Oper->List (Nat×Oper)
 | _,[]=>[]
 | i,o::r=>if !m.testBit i&&DL o m then (i,o)::pP m (i+1) r else pP m (i+1) r
def runM(P:Program)(ops:Array Oper)(A:List (List b7))(m:Nat):Nat->List Oper->aH->aH
 | _,[],st=>st
 | i,o::r,st=>if m.testBit i then (match pR P ops o st (A.getD i []) with | some x=>runM P ops A m (i+1) r x.1 | none=>st) else runM P ops A m (i+1) r st
def yh(x:Nat)(l:List Nat):List Nat:=if l.any (Nat.beq x) then l else x::l
def zp:Nat->List (Nat×Oper)->List Nat->List Nat
 | _,[],l=>l
 | m,x::r,l=>yh (m ||| 2 ^ x.1) (zp m r l)
def zr(ops:List Oper):List Nat->List Nat
 | []=>[]
 | m::r=>zp m (pP m 0 ops) (zr ops r)
abbrev wj:=Option (aH×List b7×List Prop)
def BW(P:Program)(ops:Array Oper)(A:List (List b7))(st:aH):List (Nat×Oper)->List wj
 | []=>[]
 | x::r=>pR P ops x.2 st (A.getD x.1 [])::BW P ops A st r
def BY(P:Program)(ops:Array Oper)(A:List (List b7))(O:List (List Prop))(fm:aH)(m:Nat):List (Nat×Oper)->List wj
 | []=>[]
 | x::r=>some (runM P ops A (m ||| 2 ^ x.1) 0 ops.toList fm,[],O.getD x.1 [])::BY P ops A O fm m r
def BX(P:Program)(ops:Array Oper)(A:List (List b7))(fm:aH):List Nat->List (List wj)
 | []=>[]
 | m::r=>BW P ops A (runM P ops A m 0 ops.toList fm) (pP m 0 ops.toList)::BX P ops A fm r
def BZ(P:Program)(ops:Array Oper)(A:List (List b7))(O:List (List Prop))(fm:aH):List Nat->List (List wj)
 | []=>[]
 | m::r=>BY P ops A O fm m (pP m 0 ops.toList)::BZ P ops A O fm r
def yl(P:Program)(ops:Array Oper)(A:List (List b7))(fm:aH):Nat->List Nat->List (List (List wj))
 | 0,_=>[]
 | n+1,l=>BX P ops A fm l::yl P ops A fm n (zr ops.toList l)
def ym(P:Program)(ops:Array Oper)(A:List (List b7))(O:List (List Prop))(fm:aH):Nat->List Nat->List (List (List wj))
 | 0,_=>[]
 | n+1,l=>BZ P ops A O fm l::ym P ops A O fm n (zr ops.toList l)
variable{P:Program}{ops:Array Oper}{A:List (List b7)}{O:List (List Prop)}{fm st:aH}{m:Nat}
theorem Qn:∀{l:List (Nat×Oper)},BW P ops A st l=BY P ops A O fm m l->
  ∀x∈l,pR P ops x.2 st (A.getD x.1 [])=some (runM P ops A (m ||| 2 ^ x.1) 0 ops.toList fm,[],O.getD x.1 [])
 | [],_,x,ag=>by cases ag
 | y::r,h,x,ag=>by
  simp only[BW,BY,rh]at h;rcases et.1 ag with rfl | ag
  ·exact h.1
  exact Qn h.2 x ag
theorem Qo:∀{l:List Nat},BX P ops A fm l=BZ P ops A O fm l->
  ∀m∈l,∀x∈pP m 0 ops.toList,pR P ops x.2 (runM P ops A m 0 ops.toList fm) (A.getD x.1 [])=some (runM P ops A (m ||| 2 ^ x.1) 0 ops.toList fm,[],O.getD x.1 [])
 | [],_,m,hm=>by cases hm
 | m0::r,h,m,hm=>by
  simp only[BX,BZ,rh]at h;rcases et.1 hm with rfl | hm
  ·exact Qn h.1
  exact Qo h.2 m hm
theorem aki{x:Nat}{l:List Nat}:x∈yh x l:=by
 unfold yh;split
 ·rename_i h;obtain⟨y,bn,he⟩:=qk.1 h;rwa[Nat.eq_of_beq_eq_true he]
 exact gN
theorem Qp{x y:Nat}{l:List Nat}(h:y∈l):y∈yh x l:=by
 unfold yh;split
 ·exact h
 exact ht _ h
theorem Qq{x:Nat×Oper}:∀{r:List (Nat×Oper)} {l:List Nat},x∈r->(m ||| 2 ^ x.1)∈zp m r l
 | [],_,h=>by cases h
 | y::r,l,h=>by
  simp only[zp];rcases et.1 h with rfl | h
  ·exact aki
  exact Qp (Qq h)
theorem Qr{k:Nat}:∀{r:List (Nat×Oper)} {l:List Nat},k∈l->k∈zp m r l
 | [],_,h=>h
 | _::_,_,h=>Qp (Qr h)
theorem Qs{ops:List Oper}{x:Nat×Oper}:∀{l:List Nat},m∈l->x∈pP m 0 ops->(m ||| 2 ^ x.1)∈zr ops l
 | [],h,_=>by cases h
 | k::r,h,ag=>by
  simp only[zr];rcases et.1 h with rfl | h
  ·exact Qq ag
  exact Qr (Qs h ag)
theorem Qt{m:Nat}:∀{l:List Oper} {i j:Nat} {o:Oper},l[j]?=some o->m.testBit (i+j)=false->DL o m=true->(i+j,o)∈pP m i l
 | [],_,_,_,h,_,_=>by simp at h
 | y::r,i,0,o,h,h1,U=>by
  simp only[j2,aQ]at h;subst h;simp only[pP];rw[br (by rw[l4]at h1;simp[h1,U])];exact gN
 | y::r,i,j+1,o,h,h1,U=>by
  have:=Qt (m:=m) (l:=r) (i:=i+1) (j:=j) (o:=o) (by simpa using h) (by rwa[show i+1+j=i+(j+1) by omega]) U;rw[show i+1+j=i+(j+1) by omega]at this;simp only[pP];split
  ·exact ht _ this
  exact this
theorem IU{m k:Nat}:∀{l:List Oper} {i:Nat} {st:aH},(∀j,i<=j->j<i+l.length->m.testBit j=k.testBit j)->runM P ops A m i l st=runM P ops A k i l st
 | [],_,_,_=>rfl
 | o::r,i,st,h=>by
  simp only[runM];rw[h i (fK _) (by simp)];split
  ·split
   ·exact IU fun j h1 U=>h j (by omega) (by simp only[dH];omega)
   rfl
  exact IU fun j h1 U=>h j (by omega) (by simp only[dH];omega)
theorem Qu:∀{O:List (List Prop)} (i:Nat),cE O.flatten->cE (O.getD i [])
 | [],i,_=>by simp[cE]
 | o::r,0,h=>by
  rw[List.flatten_cons]at h;exact (cE.append h).1
 | o::r,i+1,h=>by
  rw[List.flatten_cons]at h;exact Qu i (cE.append h).2
theorem akj{ms:List Nat}{w0:ej}{Q:Exit->Act->World->Prop}(hm:qL ms ops.toList=true)(aX:cE O.flatten)
  (iE:∀cx aN,Rel w0 (runM P ops A (2 ^ ops.size-1) 0 ops.toList fm) cx aN->Q .normal cx aN):∀(gR:Nat) {l:List Nat},yl P ops A fm gR l=ym P ops A O fm gR l->
  ∀{m:Nat} {bQ:Array Bool},m∈l->bQ.size=ops.size->(∀j,j<ops.size->bQ.getD j false=m.testBit j)->bQ.count false<=gR->
  ∀{a:Act} {w:World},Rel w0 (runM P ops A m 0 ops.toList fm) a w->wpAny P .any ops Q gR bQ a w:=by
 have fin:∀{m:Nat} {bQ:Array Bool},(∀j,j<ops.size->bQ.getD j false=m.testBit j)->(∀j,j<ops.size->bQ.getD j false=true)->
   ∀{a:Act} {w:World},Rel w0 (runM P ops A m 0 ops.toList fm) a w->Q .normal a w:=by
  intro m bQ h1 U a w aD;refine iE a w ?_;rw[IU (m:=2 ^ ops.size-1) (k:=m)]
  ·exact aD
  intro j _ a';have yO:j<ops.size:=by simpa using a'
  rw[<-h1 j yO,U j yO,Nat.testBit_two_pow_sub_one,j3 yO]
 intro gR;induction gR with
 | zero=>
  intro l _ m bQ _ ai h1 rK a w aD;have hA:∀j,j<ops.size->bQ.getD j false=true:=by
   intro j a';cases ak:bQ.getD j false with
   | true=>rfl
   | false=>
    exfalso;have iS:j<bQ.size:=ai▸a';have bY:bQ[j]=false:=by simpa[hJ iS]using ak
    have:0<bQ.count false:=by
     rw[Array.count_pos_iff];exact bY▸Array.getElem_mem iS
    omega
  refine⟨?_,fin h1 hA aD⟩;rw[List.eq_nil_iff_forall_not_mem];intro j a';obtain⟨U,o,j',_⟩:=mem_ready.1 a';have bC:j<ops.size:=(iO.1 j').1;have ax:=hA j bC;have iS:j<bQ.size:=ai▸bC;simp[hJ iS]at U ax;rw[U]at ax;cases ax
 | succ gR dE=>
  intro l he m bQ NB ai h1 rK a w aD;simp only[yl,ym,rh]at he;refine⟨fun uX=>fin h1 (IK hm ai uX) aD,fun i hi=>?_⟩;obtain⟨aV,o,j',qv⟩:=mem_ready.1 hi;have bC:i<ops.size:=(iO.1 j').1;have iS:i<bQ.size:=ai▸bC;have Nn:bQ.getD i false=false:=by
   simp[hJ iS]at aV ⊢;exact aV
  have XD:DL o m=true:=by
   unfold DL;rw[fv];intro e sW;cases aq:Region.binds .any e with
   | false=>rfl
   | true=>
    have bw:=qv e (by simpa using sW) aq;have bX:e.on<bQ.size:=DG bw;rw[h1 e.on (ai▸bX)]at bw;simp[bw]
  have NH:(i,o)∈pP m 0 ops.toList:=by
   have:=Qt (m:=m) (l:=ops.toList) (i:=0) (j:=i) (o:=o) (by simpa using j') (by rw[dx,<-h1 i bC,Nn]) XD;rwa[dx]at this
  have pH:=Qo he.1 m NB _ NH;refine Qk j' pH (Qu i aX) aD fun cx aN dV=>dE he.2 (Qs NB NH) (by simpa using ai) (fun j a'=>?_) ?_ dV
  ·rw[Nat.testBit_or,Nat.testBit_two_pow];by_cases pD:j=i
   ·subst pD;have bd:j<(bQ.setIfInBounds j true).size:=by simpa using iS
    simp[hJ bd]
   rw[getD_set_ne false (Ne.symm pD),h1 j a',ly (Ne.symm pD),Bool.or_false]
  have bY:bQ[i]=false:=by simpa[hJ iS]using Nn
  have:(bQ.setIfInBounds i true).count false=bQ.count false-1:=by
   have e:bQ.setIfInBounds i true=bQ.set i true iS:=by unfold Array.setIfInBounds;rw[dif_pos iS]
   rw[e,Array.count_set];simp[bY]
  omega
theorem ee.of{bp:aH}(A:List (List b7))(O:List (List Prop))(ah:(P.follows .mixedOrders&&qL (qJ ops.toList []) ops.toList)=true)
  (he:yl P ops A st ops.size [0]=ym P ops A O st ops.size [0]) (bY:runM P ops A (2 ^ ops.size-1) 0 ops.toList st=bp) (aX:cE O.flatten):ee P ops st bp:=by
 intro w0 a w id Q aD iE;simp only[cq]at ah;have bd:∀{l:List Oper} {i:Nat},runM P ops A 0 i l st=st:=by
  intro l;induction l with
  | nil=>intro i;rfl
  | cons o r dE=>intro i;simp only[runM,Nat.zero_testBit,rc,mY];exact dE
 refine wp_region_any ah.1 (akj ah.2 aX (fun cx aN h=>iE cx aN (bY▸h)) ops.size he (m:=0) gN (by simp) (fun j a'=>by simp[a']) (by simp[Array.count_replicate]) ?_);rw[bd];exact aD.drew
def IV(P:Program)(ops:Array Oper)(st:aH)(ans:List b7):Stepped:=
 match ans with
 | .ig bp::r=>some (bp,r,[ee P ops st bp])
 | _=>IT P ops st ans
theorem akk{bp:aH}{ans cd:List b7}{obs:List Prop}(h:IV P ops st ans=some (bp,cd,obs))(aX:cE obs){w0:ej}{a:Act}{w:World}(aD:Rel w0 st a w){id:Nat}
  {Q:Exit->Act->World->Prop} (iE:∀cx aN,Rel w0 bp cx aN->Q .normal cx aN):(Code.region id ops true).wp P Q a w:=by
 unfold IV at h;split at h
 ·simp only[aQ,bu]at h;obtain⟨rfl,_,rfl⟩:=h;exact aX.1 w0 a w id Q aD iE
 exact akh h aX aD iE
