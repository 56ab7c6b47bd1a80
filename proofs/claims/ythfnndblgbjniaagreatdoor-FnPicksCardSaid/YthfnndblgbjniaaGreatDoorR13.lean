import Derived.Test.YthfnndblgbjniaaGreatDoorR26
import Derived.Test.YthfnndblgbjniaaGreatDoorR31
import Derived.Orders
set_option linter.unusedVariables false
set_option linter.unusedSimpArgs false
namespace Go.Sx
open Go.RowKit
def I8(P:Program)(st:aF)(d:Option Nat)(f:FuncId)(args:List Operand)(ans:List cd):Stepped:=
 match P.funcs[f]?,args.mapM (fun x=>(st.bn x).j4 st.boxes),ans with
 | some fn,some gk,.res rs::r=>
  if (fn.name == "runtime.NumGoroutine") = false /\ fn.body.isNone = false /\ uf rs = true /\ 10000 * (d.getD 0 + 1) + 10000 <= da then
   let t:=10000*(d.getD 0+1)
   match d with
   | some d=>some (⟨(st.u5 t).env.set d (s7 t rs),(st.u5 t).boxes⟩,r,[ie P f gk rs])
   | none=>some (st.u5 t,r,[ie P f gk rs])
  else none
 | _,_,_=>none
def Qa(P:Program)(st:aF)(d:Option Nat)(f:Operand)(args:List Operand)(ans:List cd):Stepped:=
 match (st.bn f).leaf.bind (aE.j4 st.boxes),args.mapM (fun x=>(st.bn x).j4 st.boxes),ans with
 | some (.a8 g bt),some gk,.res rs::r=>
  if uf rs=true/\10000*(d.getD 0+1)+10000<=da then
   let t:=10000*(d.getD 0+1)
   match d with
   | some d=>some (⟨(st.u5 t).env.set d (s7 t rs),(st.u5 t).boxes⟩,r,[hj P g=true,ie P g (gk++bt.map .one) rs])
   | none=>some (st.u5 t,r,[hj P g=true,ie P g (gk++bt.map .one) rs])
  else none
 | _,_,_=>none
def O7:List cd->Bool
 | .qH _ _ _ _::_=>true
 | _=>false
def O9:List cd->Bool
 | .dB _ _::_=>true
 | _=>false
def O8:List cd->Bool
 | .own::_=>true
 | _=>false
def ps(P:Program)(st:aF)(o:Oper)(ans:List cd):Stepped:=
 match o.dst,o.op with
 | some d,.box _ x=>I9 st d (st.bn x) ans
 | some d,.alloc ty=>I' P st d ty ans
 | some d,.makeSlice t l c=>DC P st d t (st.bn l) (st.bn c) ans
 | some d,.buildSlice t n parts=>z1 P st d t n parts.toList ans
 | none,.store ty x y=>
  match (st.bn x).leaf with
  | some (.ptr id off)=>Ja P st ty id off (st.bn y) ans
  | some (.cL (.own t) k es i j)=>Ji P st ty t k es i j (st.bn y) ans
  | some (.aP t i j k es (.at_ a b))=>Ju P st ty t i j k es a b (st.bn y) ans
  | _=>none
 | d,.call ⟨.value (.func f),args,_⟩=>if O9 ans then I5 P st d f args.toList ans else if O7 ans then Jp P st d f args.toList ans else I8 P st d f args.toList ans
 | d,.call ⟨.value (.tmp x),args,_⟩=>if O9 ans then I6 P st d (.tmp x) args.toList ans else Qa P st d (.tmp x) args.toList ans
 | some d,.call ⟨.builtin .append,⟨[x,y]⟩,⟨[t,dn]⟩⟩=>
  if t=dn then
   match (st.bn x).leaf with
   | some (.aP s i j k es .here)=>Jv P st d t s i j k es y ans
   | _=>yu P st d t x y ans
  else none
 | some d,.slice t x cW hi iM=>if O8 ans then yv P st d t (st.bn x) cW hi iM ans.tail else (qn P st (.slice t x cW hi iM) ans).map fun r=>(⟨st.env.set d r.1,st.boxes⟩,r.2.1,r.2.2)
 | some d,op=>(qn P st op ans).map fun r=>(⟨st.env.set d r.1,st.boxes⟩,r.2.1,r.2.2)
 | none,op=>(qn P st op ans).map fun r=>(st,r.2.1,r.2.2)
variable{P:Program}{o:Oper}{a:Act}{w:World}{Q:Exit->Act->World->Prop}
theorem Calls.of{next:Act->World->Prop}{z:Value}{aN:World}(h:(execOp a.eval o).run P w=.ok (.value z) aN)(a':next (a.put o.dst z) aN):
  o.wp P a w next Q:=by
 unfold Oper.wp;rw[h];exact a'
variable{w0:eE}{st bu:aF}{ans cm:List cd}{obs:List Prop}
theorem Kr(h:ps P st o ans=some (bu,cm,obs))(bc:cK obs)(aZ:Rel w0 st a w)
  {next:Act->World->Prop} {Q:Exit->Act->World->Prop} (lq:∀cI aN,Rel w0 bu cI aN->next cI aN):o.wp P a w next Q:=by
 obtain⟨ω,τ,aZ⟩:=aZ;obtain⟨dst,op,type,pos,after,guard⟩:=o;simp only[ps]at h;split at h
 ·rename_i d ty x;obtain⟨z,aN,U,aa⟩:=cD.box (P:=P) aZ (aZ.bn x) h ty;exact Calls.of (iX U) (lq _ _ aa)
 ·rename_i d ty;obtain⟨z,aN,U,aa⟩:=cD.alloc aZ h;exact Calls.of (iX U) (lq _ _ aa)
 ·rename_i d t l c;obtain⟨z,aN,U,aa⟩:=aZ.make (aZ.bn l) (aZ.bn c) h bc;exact Calls.of (iX U) (lq _ _ aa)
 ·rename_i d t n parts;obtain⟨z,aN,U,aa⟩:=aZ.buildSlice h;exact Calls.of (iX U) (lq _ _ aa)
 ·rename_i ty x y;have fin:∀aN,(Instr.storeAt ty (a.eval x) (a.eval y)).run P w=.ok () aN->Rel w0 bu a aN->Oper.wp P ⟨none,.store ty x y,type,pos,after,guard⟩ a w next Q:=by
   intro aN U aa;unfold Oper.wp execOp;simp only[Sem.run_bind,U,Result.andThen_ok,Sem.run_pure,Oper.upon];exact lq _ _ aa
  split at h
  ·rename_i id off e;obtain⟨b,ay,aq⟩:=aG.dN e (aZ.bn x);obtain⟨aN,U,aa⟩:=aZ.awA (P:=P) ay (aZ.bn y) h;grind
  ·rename_i t k es i j e;obtain⟨aN,U,aa⟩:=aZ.awC (P:=P) (aG.dN e (aZ.bn x)) (aZ.bn y) h bc;grind
  ·rename_i t i j k es awO NF e;obtain⟨aN,U,aa⟩:=aZ.awE (P:=P) (aG.dN e (aZ.bn x)) (aZ.bn y) h bc;grind
  cases h
 ·rename_i f args ts;split at h
  ·grind[ap8]
  split at h
  ·grind[ap1]
  rename_i Hv YV;clear Hv;unfold I8 at h;clear YV;split at h
  ·rename_i fn gk rs r kL Ha;split at h
   ·rename_i ao;obtain⟨lW,lp,k3,sg⟩:=ao;obtain⟨ar,ax⟩:=nx Ha;have mu:DI w gk (args.map a.eval):=by
     refine⟨by simp[ar],fun i cq hi=>?_⟩;obtain⟨x,aq,jO⟩:=ax i cq hi;refine⟨a.eval x,?_,aG.wR aZ.boxes jO (aZ.bn x)⟩;grind
    have fv:(execOp a.eval ⟨dst,.call ⟨.value (.func f),args,ts⟩,type,pos,after,guard⟩).run P w=.ok (.enter f (args.map a.eval)) w:=by
     have Yk : fn.name ≠ "runtime.NumGoroutine" := by grind
     have sf:fn.body≠none:=by grind
     simp[execOp,resolve,Act.eval,Deferred.ofValue,invoke,callFunc,kL,Yk,sf]
    have key:∀(mz:List Prop),obs=mz->cK mz->mz=[ie P f gk rs]->∀(K:Act->World->Prop),(∀v aN,gA w.heap.size w aN->wP w aN rs v->K (a.put dst v) aN)->
      Oper.wp P ⟨dst,.call ⟨.value (.func f),args,ts⟩,type,pos,after,guard⟩ a w K Q:=by
     intro mz _ lX e K hH;subst e;unfold Oper.wp;rw[fv];simp only[Oper.upon];refine (lX.1 w _ aZ.below.laid mu).mono ?_;grind
    simp only at h;cases dst with
    | none=>
     simp only[aW,bA]at h;obtain⟨rfl,_,rfl⟩:=h;refine key _ rfl bc rfl next fun v aN ay aH=>lq _ _ ?_
     obtain⟨bd,cR,U,_⟩:=aZ.called (10000*(Option.getD none 0+1)) k3 sg ay aH;exact⟨bd,cR,U⟩
    | some d=>
     simp only[aW,bA]at h;obtain⟨rfl,_,rfl⟩:=h;refine key _ rfl bc rfl next fun v aN ay aH=>lq _ _ ?_
     obtain⟨bd,cR,U,aa⟩:=aZ.called (10000*(Option.getD (some d) 0+1)) k3 sg ay aH;exact⟨bd,cR,U.put aa⟩
   cases h
  cases h
 ·rename_i x args ts;split at h
  ·grind[ap9]
  rename_i Hv;clear Hv;unfold Qa at h;split at h
  ·rename_i g bt gk rs r b8 Ha;split at h
   ·rename_i ao;obtain⟨k3,sg⟩:=ao;obtain⟨ar,ax⟩:=nx Ha;have c1:gk.length=args.size:=by grind
    rw[mf]at b8;obtain⟨kQ,HA,Y4⟩:=b8;have Ou:lA w (.a8 g bt) (a.eval (.tmp x)):=aE.wR aZ.boxes Y4 (aG.dN HA (aZ.bn (.tmp x)));have YF:∃cs:Array Value,a.eval (.tmp x)=.func (.func g) #[] cs/\cs.size=bt.length/\∀(j:Nat) (d:D),bt[j]?=some d->∃u,cs[j]?=some u/\lA w d u:=by
     generalize a.eval (.tmp x)=y at Ou;cases Ou with
     | a8 R g bt cs us ak hu aI=>exact⟨cs,rfl,ak,fun j d bm=>⟨us j,hu j d bm,(aI j d bm).free⟩⟩
    obtain⟨cs,o5,axU,Yv⟩:=YF;have mu:DI w (gk++bt.map .one) (args.map a.eval++cs):=by
     refine⟨by grind,fun i cq hi=>?_⟩;rw[pz]at hi;rw[jE];split at hi
     ·rename_i ni;rw[bL (by simp;omega)];obtain⟨y,bM,kN⟩:=ax i cq hi;refine⟨a.eval y,?_,aG.wR aZ.boxes kN (aZ.bn y)⟩;grind
     rename_i ni;rw[bH (by simp;omega)];rw[dP,ca]at hi;obtain⟨d,aI,rfl⟩:=hi;obtain⟨u,gG,fw⟩:=Yv _ d aI;refine⟨u,?_,fw⟩;grind
    have fv:hj P g=true->(execOp a.eval ⟨dst,.call ⟨.value (.tmp x),args,ts⟩,type,pos,after,guard⟩).run P w=.ok (.enter g (args.map a.eval++cs)) w:=by
     intro zf;unfold hj at zf;split at zf
     ·rename_i fn kL;simp only[cH,i',yC,nQ]at zf;have sf:fn.body≠none:=by grind
      simp[execOp,resolve,o5,Deferred.ofValue,invoke,callFunc,kL,zf.1,sf]
     cases zf
    have key:∀(mz:List Prop),obs=mz->cK mz->mz=[hj P g=true,ie P g (gk++bt.map .one) rs]->∀(K:Act->World->Prop),(∀v aN,gA w.heap.size w aN->wP w aN rs v->K (a.put dst v) aN)->
      Oper.wp P ⟨dst,.call ⟨.value (.tmp x),args,ts⟩,type,pos,after,guard⟩ a w K Q:=by
     intro mz _ lX e K hH;subst e;unfold Oper.wp;rw[fv lX.1];simp only[Oper.upon];refine (lX.2.1 w _ aZ.below.laid mu).mono ?_;grind
    simp only at h;cases dst with
    | none=>
     simp only[aW,bA]at h;obtain⟨rfl,_,rfl⟩:=h;refine key _ rfl bc rfl next fun v aN ay aH=>lq _ _ ?_
     obtain⟨bd,cR,U,_⟩:=aZ.called (10000*(Option.getD none 0+1)) k3 sg ay aH;exact⟨bd,cR,U⟩
    | some d=>
     simp only[aW,bA]at h;obtain⟨rfl,_,rfl⟩:=h;refine key _ rfl bc rfl next fun v aN ay aH=>lq _ _ ?_
     obtain⟨bd,cR,U,aa⟩:=aZ.called (10000*(Option.getD (some d) 0+1)) k3 sg ay aH;exact⟨bd,cR,U.put aa⟩
   cases h
  cases h
 ·rename_i d x y t dn;split at h
  ·rename_i zC;subst zC;have tD:∃z aN,(Builtin.append_ #[t,t] type #[a.eval x,a.eval y]).run P w=.ok z aN/\Rel w0 bu (a.put (some d) z) aN:=by
    split at h
    ·rename_i s i j k es e;exact aZ.XL (P:=P) (ty:=type) (aG.dN e (aZ.bn x)) h bc
    exact aZ.yu (ty:=type) h bc
   obtain⟨z,aN,U,aa⟩:=tD;refine Calls.of (z:=z) (aN:=aN) ?_ (lq _ _ aa);have:(execOp a.eval ⟨some d,.call ⟨.builtin .append,⟨[x,y]⟩,⟨[t,t]⟩⟩,type,pos,after,guard⟩)=(builtin .append ⟨[t,t]⟩ type (Array.map (fun | .const _=>true | _=>false) ⟨[x,y]⟩) (Array.map a.eval ⟨[x,y]⟩)):=by
    simp only[execOp,resolve];rfl
   rw[this];exact iX (by grind)
  cases h
 ·rename_i d t x cW hi iM;split at h
  ·obtain⟨z,U,aa⟩:=aZ.yv (P:=P) (aZ.bn x) h bc;exact Calls.of (iX U) (lq _ _ aa)
  rw[ca]at h;obtain⟨⟨bE,b0,ch⟩,U,h⟩:=h;simp only[bA]at h;obtain⟨rfl,rfl,rfl⟩:=h;obtain⟨z,aa,aB⟩:=JR (o:=⟨_,_,type,pos,after,guard⟩) aZ U bc;exact Calls.of aa (lq _ _ ⟨ω,τ,aZ.put aB⟩)
 ·rw[ca]at h;obtain⟨⟨bE,b0,ch⟩,U,h⟩:=h;simp only[bA]at h;obtain⟨rfl,rfl,rfl⟩:=h;obtain⟨z,aa,aB⟩:=JR (o:=⟨_,_,type,pos,after,guard⟩) aZ U bc;exact Calls.of aa (lq _ _ ⟨ω,τ,aZ.put aB⟩)
 rw[ca]at h;obtain⟨⟨bE,b0,ch⟩,U,h⟩:=h;simp only[bA]at h;obtain⟨rfl,rfl,rfl⟩:=h;obtain⟨z,aa,aB⟩:=JR (o:=⟨_,_,type,pos,after,guard⟩) aZ U bc;exact Calls.of aa (lq _ _ ⟨ω,τ,aZ⟩)
def ox(P:Program)(st:aF)(o:Oper)(ans:List cd):Stepped:=
 match o.dst,o.op with
 | some d,.alloc ty=>DM P st d ty ans
 | none,.store ty (.tmp s) y=>DO P st ty s (st.bn y) ans
 | _,_=>ps P st o ans
theorem aqa(h:ox P st o ans=some (bu,cm,obs))(bc:cK obs)(aZ:Rel w0 st a w)
  {next:Act->World->Prop} {Q:Exit->Act->World->Prop} (lq:∀cI aN,Rel w0 bu cI aN->next cI aN):o.wp P a w next Q:=by
 obtain⟨dst,op,type,pos,after,guard⟩:=o;unfold ox at h;split at h
 ·rename_i d ty e1 e2;simp only at e1 e2;subst e1;subst e2;obtain⟨ω,τ,aZ⟩:=aZ;obtain⟨z,aN,U,aa⟩:=cD.XK aZ h;exact Calls.of (iX U) (lq _ _ aa)
 ·rename_i ty s y e1 e2;simp only at e1 e2;subst e1;subst e2;obtain⟨ω,τ,aZ⟩:=aZ;obtain⟨aN,U,aa⟩:=aZ.awD (P:=P) (aZ.bn y) h;unfold Oper.wp execOp;simp only[Sem.run_bind,U,Result.andThen_ok,Sem.run_pure,Oper.upon];exact lq _ _ aa
 grind[Kr]
def AR(st:aF)(dst:Option Nat):aF:=
 match dst with
 | some d=>⟨st.env.set d (.one (.v undef)),st.boxes⟩
 | none=>st
theorem Ks{dst:Option Nat}(h:Rel w0 st a w):Rel w0 (AR st dst) (a.put dst undef) w:=by
 obtain⟨ω,τ,h⟩:=h;cases dst with
 | none=>exact⟨ω,τ,h⟩
 | some d=>exact⟨ω,τ,h.put (p:=.one (.v undef)) rfl⟩
def rm(ops:Array Oper)(st:aF)(o:Oper)(ans:List cd):Option (Bool×aF×List cd×List Prop):=
 match o.guard with
 | none=>some (true,st,ans,[])
 | some (j,want)=>
  match (ops[j]?).bind (·.dst) with
  | some s=>
   match (st.env.getD s .cw).leaf with
   | some (.v (.bool b))=>some (b==want,st,ans,[])
   | some (.v (.tuple _))=>some (false,st,ans,[])
   | some (.bg c)=>
    match ans with
    | .oT b::r=>some (b==want,⟨st.env.set s (.one (.v (.bool b))),st.boxes⟩,r,[c=b])
    | _=>none
   | _=>none
  | none=>none
variable{ops:Array Oper}
theorem ww{b:Bool}(h:rm ops st o ans=some (b,bu,cm,obs))(bc:cK obs)(aZ:Rel w0 st a w):
  Region.wanted o (yielded ops a.tmps)=b/\Rel w0 bu a w:=by
 obtain⟨ω,τ,aZ⟩:=aZ;unfold rm at h;split at h
 ·rename_i ax;simp only[aW,bA]at h;obtain⟨rfl,rfl,_,_⟩:=h;exact⟨by simp[Region.wanted,ax],ω,τ,aZ⟩
 rename_i j want ax;split at h
 ·rename_i s ak;have eN:∀l,(st.env.getD s .cw).leaf=some l->∀x,(∀y,Sat w ω τ l y->y=x)->(l=.cw->False)->a.tmps[s]?=some x:=by
   intro l ar x aq db;rw[kY]at ar;cases e:st.env[s]? with
   | none=>
    grind[aG.leaf,aW,absurd]
   | some p=>
    rw[e]at ar;obtain⟨v,U,aa⟩:=aZ.env s p e;grind[aG.dN]
  split at h
  ·rename_i dw ar;simp only[aW,bA]at h;obtain⟨rfl,rfl,_,_⟩:=h;have:=eN _ ar (.bool dw) (fun y bM=>bM) (fun h=>by cases h);exact⟨by grind[Region.wanted,yielded],ω,τ,aZ⟩
  ·rename_i vs ar;simp only[aW,bA]at h;obtain⟨rfl,rfl,_,_⟩:=h;have:=eN _ ar (.tuple vs) (fun y bM=>bM) (fun h=>by cases h);exact⟨by grind[Region.wanted,yielded],ω,τ,aZ⟩
  ·rename_i c ar;split at h
   ·rename_i dw r;simp only[aW,bA]at h;obtain⟨rfl,rfl,_,rfl⟩:=h;have ji:c=dw:=bc.1;subst ji;have:=eN _ ar (.bool c) (fun y bM=>bM) (fun h=>by cases h);refine⟨by grind[Region.wanted,yielded],ω,τ,?_⟩;have OL:=aZ.put (d:=s) (p:=.one (.v (.bool c))) (v:=.bool c) rfl;have e:a.put (some s) (.bool c)=a:=by
     simp only[Act.put];have:a.tmps.setIfInBounds s (.bool c)=a.tmps:=by
      grind
     rw[this]
    grind
   cases h
  cases h
 cases h
def qh(P:Program)(ops:Array Oper)(o:Oper)(st:aF)(ans:List cd):Stepped:=
 match rm ops st o ans with
 | some (true,dR,fl,fT)=>(ps P dR o fl).map fun r=>(r.1,r.2.1,fT++r.2.2)
 | some (false,dR,fl,fT)=>some (AR dR o.dst,fl,fT)
 | none=>none
theorem Qb{rest:List Oper}(h:qh P ops o st ans=some (bu,cm,obs))(bc:cK obs)
  {a:Act} {w:World} (aZ:Rel w0 st a w) (hH:∀cI aN,Rel w0 bu cI aN->wpList P ops Q rest cI aN):wpList P ops Q (o::rest) a w:=by
 unfold qh at h;split at h
 ·rename_i dR fl fT hw;rw[ca]at h;obtain⟨⟨bE,b0,ch⟩,U,h⟩:=h;simp only[bA]at h;obtain⟨rfl,rfl,rfl⟩:=h;obtain⟨cC,cg⟩:=bc.append;obtain⟨q',hy⟩:=ww hw cC aZ;refine wpList_step fun K zc=>?_
  rw[bL q'];grind[Kr]
 ·rename_i dR fl fT hw;simp only[aW,bA]at h;obtain⟨rfl,rfl,rfl⟩:=h;obtain⟨q',hy⟩:=ww hw bc aZ;refine wpList_step fun K zc=>?_
  rw[bH (by grind)];grind[Ks]
 cases h
def Kt(o cg:Oper):Option (Nat×TypeId×Operand×Option Operand×TypeId):=
 match o.dst,o.op,o.guard,cg.dst,cg.op,cg.guard with
 | some d,.slice t x cW none none,none,none,.call ⟨.builtin .clear,⟨[.tmp dK]⟩,⟨[eC]⟩⟩,none=>if d=dK then some (d,t,x,cW,eC) else none
 | _,_,_,_,_,_=>none
theorem aqb{cg:Oper}{rest:List Oper}{d:Nat}{t eC:TypeId}{x:Operand}{cW:Option Operand}(hp:Kt o cg=some (d,t,x,cW,eC))
  {st bu:aF} {ans cm:List cd} {obs:List Prop} (h:DQ P st d t x cW eC ans=some (bu,cm,obs)) (bc:cK obs)
  {a:Act} {w:World} (aZ:Rel w0 st a w) (hH:∀cI aN,Rel w0 bu cI aN->wpList P ops Q rest cI aN):wpList P ops Q (o::cg::rest) a w:=by
 obtain⟨dst,op,type,pos,after,guard⟩:=o;obtain⟨axr,ayF,type2,ayJ,axd,axG⟩:=cg;unfold Kt at hp;split at hp
 ·rename_i d0 t0 e9 ayy dK ayQ e1 e2 cn ed hP mr;simp only at e1 e2 cn ed hP mr;subst e1 e2 cn ed hP mr;split at hp
  ·rename_i aI;subst aI;simp only[aW,bA]at hp;obtain⟨rfl,rfl,rfl,rfl,rfl⟩:=hp;obtain⟨ω,τ,aZ⟩:=aZ;obtain⟨bO,y,z,aN,U,aa,aB⟩:=aZ.clear h bc;refine wpList_plain rfl fun K zc=>Calls.of (iX (by simpa using U)) (zc _ _ ?_)
   refine wpList_plain rfl fun K zc=>?_
   have q3:(a.put (some d0) y).eval (.tmp d0)=y:=by
    simp_all[Act.eval,Act.put]
   refine Calls.of (z:=z) (aN:=aN) ?_ (zc _ _ (hH _ _ aB));simp only[execOp,resolve,invoke,builtin,Sem.run_bind,Sem.run_pure,Result.andThen_ok,List.map_toArray,mM,List.map_nil,q3,aa]
  cases hp
 cases hp
def wx(P:Program)(ops:Array Oper):List Oper->aF->List cd->Stepped
 | [],st,ans=>some (st,ans,[])
 | [o],st,ans=>qh P ops o st ans
 | o::cg::rest,st,ans=>
  match Kt o cg with
  | some (d,t,x,cW,eC)=>
   match DQ P st d t x cW eC ans with
   | some (dR,fl,fT)=>(wx P ops rest dR fl).map fun r=>(r.1,r.2.1,fT++r.2.2)
   | none=>none
  | none=>
   match qh P ops o st ans with
   | some (dR,fl,fT)=>(wx P ops (cg::rest) dR fl).map fun r=>(r.1,r.2.1,fT++r.2.2)
   | none=>none
theorem Ku:∀(l:List Oper) {st bu:aF} {ans cm:List cd} {obs:List Prop},wx P ops l st ans=some (bu,cm,obs)->cK obs->
  ∀{a:Act} {w:World},Rel w0 st a w->(∀cI aN,Rel w0 bu cI aN->Q .normal cI aN)->wpList P ops Q l a w
 | [],st,bu,ans,cm,obs,h,_,a,w,aZ,jg=>by
  simp only[wx,aW,bA]at h;obtain⟨rfl,_,_⟩:=h;exact jg _ _ aZ
 | [o],st,bu,ans,cm,obs,h,bc,a,w,aZ,jg=>by
  simp only[wx]at h;exact Qb h bc aZ fun cI aN eS=>jg _ _ eS
 | o::cg::rest,st,bu,ans,cm,obs,h,bc,a,w,aZ,jg=>by
  simp only[wx]at h;split at h
  ·rename_i d t x cW eC hp;split at h
   ·rename_i dR fl fT U;rw[ca]at h;obtain⟨⟨bE,b0,ch⟩,aa,h⟩:=h;simp only[bA]at h;obtain⟨rfl,rfl,rfl⟩:=h;obtain⟨cC,cE⟩:=bc.append;exact aqb hp U cC aZ fun cI aN eS=>Ku rest aa cE eS jg
   cases h
  split at h
  ·rename_i dR fl fT U;rw[ca]at h;obtain⟨⟨bE,b0,ch⟩,aa,h⟩:=h;simp only[bA]at h;obtain⟨rfl,rfl,rfl⟩:=h;obtain⟨cC,cE⟩:=bc.append;exact Qb U cC aZ fun cI aN eS=>Ku (cg::rest) aa cE eS jg
  cases h
end Go.Sx
namespace Go.Sx
open Go.RowKit
abbrev fZ:=List (Nat×Nat)
def fZ.has(r:fZ)(s:Nat):Bool:=r.any fun x=>decide (x.1<=s)&&decide (s<x.2)
def Tag.eP(r:fZ):Tag->Bool
 | .free=>false
 | .own s=>r.has s
 | .ro s=>r.has s
def eZ.eP(r:fZ):eZ->Bool
 | .J t _ _=>t.eP r
 | _=>false
def aE.eP(r:fZ):aE->Bool
 | .J t _ _=>t.eP r
 | .cL t _ _ _ _=>t.eP r
 | .aP t _ _ _ _ _=>r.has t
 | .fp t vs=>r.has t||vs.any (eZ.eP r)
 | _=>false
def bl.eP(r:fZ):bl->Bool
 | .one l=>l.eP r
 | .agg ls=>ls.any (aE.eP r)
def aG.eP(r:fZ):aG->Bool
 | .aC a=>a.eP r
 | .fN as=>as.any (bl.eP r)
def oy(g:Tag->Option Tag)(r:fZ):Prop:=∀t:Tag,t.eP r=false->g t=some t
variable{g:Tag->Option Tag}{r:fZ}
theorem aE.wA(ax:oy g r){l:aE}(h:l.eP r=false):l.cF g (fun _=>true)=l:=by
 cases l with
 | J t k es=>simp only[aE.eP]at h;simp only[aE.cF,ax t h]
 | cL t k es i j=>simp only[aE.eP]at h;simp only[aE.cF,ax t h]
 | ptr id off=>simp[aE.cF]
 | gC f ids=>simp[aE.cF]
 | aP t i j k es m=>simp only[aE.eP]at h;simp only[aE.cF,ax (.own t) h,gy]
 | fp t vs=>
  simp only[aE.eP,gX]at h;simp only[aE.cF,ax (.own t) h.1,gy]
  congr 1
  conv=>rhs;rw[<-rT vs]
  refine lK fun c ao=>?_
  have:=hW.1 h.2 c ao;cases c with
  | cw=>rfl
  | v x=>rfl
  | J dn k es=>simp only[eZ.cF,ax dn (by grind[eZ.eP]),id]
 | _=>rfl
theorem Qc(ax:oy g r){ls:List aE}(h:ls.any (aE.eP r)=false):ls.map (aE.cF g fun _=>true)=ls:=by
 conv=>rhs;rw[<-rT ls]
 grind[lK,hW,aE.wA]
theorem bl.wA(ax:oy g r){a:bl}(h:a.eP r=false):a.map (aE.cF g fun _=>true)=a:=by
 cases a with
 | one l=>grind[bl.eP,bl.map,aE.wA]
 | agg ls=>grind[bl.eP,bl.map,Qc]
theorem aG.wA(ax:oy g r){p:aG}(h:p.eP r=false):p.map (aE.cF g fun _=>true)=p:=by
 cases p with
 | aC a=>grind[aG.eP,aG.map,bl.wA]
 | fN as=>
  simp only[aG.eP]at h;simp only[aG.map]
  congr 1
  conv=>rhs;rw[<-rT as]
  grind[lK,hW,bl.wA]
structure dA where
 dst:Option Nat
 p:aG
 use:List Nat
 nF:fZ
abbrev mh:=Option (dA×(Tag->Option Tag)×List cd×List Prop)
def Qd:Operand->Option Nat
 | .tmp t=>some t
 | _=>none
def zR:Option Nat->fZ
 | none=>[]
 | some s=>[(s,s+1)]
def yN(P:Program)(st:aF)(d:Nat)(t:TypeId)(x y:Operand)(ans:List cd):mh:=
 match qm P t with
 | some (e,k)=>
  match P.info? e with
  | some i=>
   match i.zero,(st.bn x).leaf,x with
   | some z,some (.J (.own gW) cu es),.tmp s=>
    match u3 gW k (st.bn y) ans with
    | some (bS,dT,cm,obs)=>
     if cu=k/\z.cells.size=k/\0<k/\gW<da then
      some (⟨some d,.one (.J (.own gW) k (es++bS)),[s],(gW,gW+1)::zR dT⟩,hO gW dT,cm,((es.length+bS.length)*i.bytes<=140737488355328)::(es.length+bS.length<=9223372036854775807)::obs)
     else none
    | _=>none
   | some z,some (.v (.slice none 0 0)),_=>
    match u3 d k ((st.bn y).map (aE.cF (h2 d []) fun _=>true)) ans with
    | some (bS,dT,cm,obs)=>
     if z.cells.size=k/\0<k/\d<da then
      some (⟨some d,.one (.J (.own d) k ([]++bS)),[],(d,d+1)::zR dT⟩,(fun g=>(h2 d [] g).bind (hO d dT)),cm,(((([]:List (List D)).length)+bS.length)*i.bytes<=140737488355328)::(([]:List (List D)).length+bS.length<=9223372036854775807)::obs)
     else none
    | _=>none
   | _,_,_=>none
  | none=>none
 | none=>none
def GG(P:Program)(st:aF)(d:Nat)(t:TypeId)(x:Operand)(cW hi iM:Option Operand)(ans:List cd):mh:=
 match qm P t,(st.bn x).leaf,iM,x with
 | some (_,k),some (.J (.own s) cu es),none,.tmp gu=>
  if k=cu/\s<da then
   match l5 st cW,l5 st hi with
   | some l,some h=>some (⟨some d,.one (.J (.own s) k ((es.drop (l.getD 0).toNat).take ((h.getD es.length).toNat-(l.getD 0).toNat))),[gu],[(s,s+1)]⟩,kC s s,ans,[0<=l.getD 0,l.getD 0<=h.getD es.length,h.getD es.length<=es.length])
   | _,_=>none
  else none
 | _,_,_,_=>none
variable{s:Nat}
theorem aqc:oy (kC s s) [(s,s+1)]:=by
 intro t h;cases t with
 | free=>rfl
 | own x=>
  have:x≠s:=by rintro rfl;grind[Tag.eP,fZ.has]
  grind[kC]
 | ro x=>
  simp_all[Tag.eP,fZ.has,kC]
def Pg(P:Program)(d:Nat)(t:TypeId)(p q:aG)(ans:List cd):mh:=
 match P.underlying t with
 | some (.slice e)=>
  match P.info? e,p.int,q.int with
  | some i,some (_,l),some (_,c)=>
   match i.zero with
   | some z=>
    if i.size=z.cells.size/\0<i.size/\z.cells.all (·.oneCell')=true/\d<da then
     some (⟨some d,.one (.J (.own d) i.size (List.replicate l.toNat (z.cells.toList.map .v))),[],[(d,d+1)]⟩,h2 d [],ans,[0<=l,l<=c,(i.bytes:Int)*c<=281474976710656,c<=9223372036854775807])
    else none
   | none=>none
  | _,_,_=>none
 | _=>none
def r7(P:Program)(st:aF)(o:Oper)(ans:List cd):mh:=
 match o.dst,o.op with
 | some d,.call ⟨.value (.func f),args,_⟩=>
  match P.funcs[f]?,args.toList.mapM (fun x=>(st.bn x).j4 st.boxes),ans with
  | some fn,some gk,.res rs::r=>
   if (fn.name == "runtime.NumGoroutine") = false /\ fn.body.isNone = false /\ uf rs = true /\ 10000 * (d + 1) + 10000 <= da then
    some (⟨some d,s7 (10000*(d+1)) rs,[],[(10000*(d+1),10000*(d+1)+10000)]⟩,gp (10000*(d+1)),r,[ie P f gk rs])
   else none
  | _,_,_=>none
 | some d,.buildSlice t n parts=>
  match Cs P st d t n parts.toList with
  | some (k,es,ms)=>some (⟨some d,.one (.J (.own d) k es),[],(d,d+1)::ms.map fun x=>(x.1,x.1+1)⟩,h2 d ms,ans,[])
  | _=>none
 | some d,.call ⟨.builtin .append,⟨[x,y]⟩,⟨[t,dn]⟩⟩=>if t=dn then yN P st d t x y ans else none
 | some _,.box _ _=>none
 | some d,.alloc ty=>
  match P.info? ty with
  | some i=>match i.zero with
   | some z=>if d<da then some (⟨some d,.one (.fp d (z.cells.toList.map .v)),[],[(d,d+1)]⟩,h2 d [],ans,[]) else none
   | none=>none
  | none=>none
 | some d,.makeSlice t l c=>Pg P d t (st.bn l) (st.bn c) ans
 | some d,.slice t x cW hi iM=>if O8 ans then GG P st d t x cW hi iM ans.tail else (qn P st (.slice t x cW hi iM) ans).map fun r=>(⟨some d,r.1,[],[]⟩,some,r.2.1,r.2.2)
 | some d,op=>(qn P st op ans).map fun r=>(⟨some d,r.1,[],[]⟩,some,r.2.1,r.2.2)
 | none,.store ty (.tmp s) y=>
  match (st.env.getD s .cw).leaf,II (st.bn y),P.info? ty with
  | some (.fp t vs),some cs,some i=>
   if cs.length=i.size/\cs.length<=vs.length then
    some (⟨some s,.one (.fp t ((cs++vs.drop cs.length).map (eZ.cF (fm t)))),[],[(t,t+1)]⟩,fm t,ans,[])
   else none
  | _,_,_=>none
 | none,_=>none
theorem aqd:oy (fm s) [(s,s+1)]:=by
 intro t h;cases t with
 | free=>rfl
 | own x=>
  have:x≠s:=by rintro rfl;grind[Tag.eP,fZ.has]
  grind[fm]
 | ro x=>
  have:x≠s:=by rintro rfl;grind[Tag.eP,fZ.has]
  grind[fm]
theorem aqe:eZ.cF some=id:=by funext c;cases c<;>rfl
theorem aqf(st:aF)(f:aE->aE)(b8:∀x,f (.v x)=.v x)(hu:f .cw=.cw)(aI:∀d,f (.fd d)=.fd d)(x:Operand):(st.map f).bn x=(st.bn x).map f:=by
 cases x with
 | tmp t=>
  simp only[aF.bn,aF.map];rw[kY,kY,dP];cases st.env[t]? with
  | none=>simp[aG.map,bl.map,hu]
  | some p=>rfl
 | const v=>
  simp only[aF.bn,Cw];split
  ·simp[aG.map,bl.map,b8]
  grind[aG.map,bl.map]
 | global g=>simp[aF.bn,aG.map,bl.map,hu]
 | func axB=>simp[aF.bn,aG.map,bl.map,aI]
theorem aE.awt(g1 g2:Tag->Option Tag)(aa:∀g t,g2 g=some (.own t)->g=.own t)(l:aE):aE.cF g2 (fun _=>true) (aE.cF g1 (fun _=>true) l)=aE.cF (fun t=>(g1 t).bind g2) (fun _=>true) l:=by
 cases l with
 | J t k es=>grind[aE.cF]
 | cL t k es i j=>grind[aE.cF]
 | gC f ids=>simp[aE.cF]
 | aP t i j k es m=>
  simp only[aE.cF];cases e1:g1 (.own t) with
  | none=>grind
  | some x=>
   simp only[nL];grind
 | fp t vs=>
  simp only[aE.cF];cases e1:g1 (.own t) with
  | none=>grind
  | some x=>
   simp only[nL];cases x with
   | own s=>
    simp only;by_cases ak:s=t
    ·subst ak;simp only[gy,aE.cF];have o5:(vs.map (eZ.cF g1)).map (eZ.cF g2)=vs.map (eZ.cF fun t=>(g1 t).bind g2):=by
      rw[List.map_map];refine lK fun c _=>?_
      cases c with
      | cw=>rfl
      | v x=>rfl
      | J dn k es=>
       simp only[Function.comp,eZ.cF];grind
     rw[o5]
    grind
   | free=>
    grind
   | ro s=>
    grind
 | ptr id off=>simp[aE.cF]
 | _=>rfl
theorem bl.map_map(f g:aE->aE)(a:bl):(a.map f).map g=a.map (g ∘ f):=by cases a<;>simp[bl.map]
theorem aG.map_map(f g:aE->aE)(p:aG):(p.map f).map g=p.map (g ∘ f):=by
 cases p with
 | aC a=>simp[aG.map,bl.map_map]
 | fN as=>simp only[aG.map,List.map_map];simp_all[congr,lK,bl.map_map]
theorem aF.map_map(f g:aE->aE)(s:aF):(s.map f).map g=s.map (g ∘ f):=by
 simp only[aF.map,List.map_map]
 congr 1
 ·grind[lK,aG.map_map]
 simp_all
theorem Qe(r:fZ):oy some r:=fun _ _=>rfl
theorem fZ.tt{a b:Nat}(h:fZ.has ((a,b)::r) s=false):(s<a\/b<=s)/\fZ.has r s=false:=by
 grind[fZ.has,gX,Bool.and_eq_false_iff,nR]
variable{t:Nat}
theorem aqg:oy (gp t) [(t,t+10000)]:=by
 intro g ax;cases g with
 | free=>rfl
 | own s=>
  obtain⟨U,_⟩:=fZ.tt ax;simp only[gp];grind
 | ro s=>
  obtain⟨U,_⟩:=fZ.tt ax;simp only[gp];grind
theorem Kv:∀{ms:hE},(fZ.has (ms.map fun x=>(x.1,x.1+1)) s)=false->(ms.at s).isSome=false
 | [],_=>rfl
 | (i,p)::r,h=>by
  simp only[fZ.has,mM,B',gX,Bool.and_eq_false_iff,nR]at h;simp only[hE.at];rw[bH (by omega)];exact Kv (by simpa only[fZ.has]using h.2)
theorem aqh{ms:hE}:oy (h2 t ms) ((t,t+1)::ms.map fun x=>(x.1,x.1+1)):=by
 intro g ax;cases g with
 | free=>rfl
 | own s=>
  obtain⟨U,aa⟩:=fZ.tt ax;simp only[h2];rw[bH (by omega),Kv aa];rfl
 | ro s=>
  obtain⟨U,aa⟩:=fZ.tt ax;simp only[h2];rw[bH (by omega),Kv aa];rfl
theorem Qf{dT:Option Nat}(h:fZ.has (zR dT) s=false):dT≠some s:=by
 rintro rfl;grind[fZ.has,zR]
theorem Qg(t:Nat)(dT:Option Nat):oy (hO t dT) ((t,t+1)::zR dT):=by
 intro g ax;cases g with
 | free=>rfl
 | own s=>
  obtain⟨U,aa⟩:=fZ.tt ax;simp only[hO];rw[bH (by omega),bH (Qf aa)]
 | ro s=>
  obtain⟨U,aa⟩:=fZ.tt ax;simp only[hO];rw[bH (by omega),bH (Qf aa)]
theorem Kw(t:Nat)(r:fZ):oy (h2 t []) ((t,t+1)::r):=by
 intro g ax;cases g with
 | free=>rfl
 | own s=>
  obtain⟨U,aa⟩:=fZ.tt ax;simp only[h2];rw[bH (by omega)];rfl
 | ro s=>
  obtain⟨U,aa⟩:=fZ.tt ax;simp only[h2];rw[bH (by omega)];rfl
variable{P:Program}{st:aF}{e:dA}{obs:List Prop}
theorem Qh{d:Nat}{t:TypeId}{x y:Operand}{ans cm:List cd}(h:yN P st d t x y ans=some (e,g,cm,obs)):oy g e.nF/\e.dst=some d:=by
 unfold yN at h;split at h
 ·split at h
  ·split at h
   ·split at h
    ·split at h
     ·simp only[aW,bA]at h;obtain⟨rfl,rfl,_,_⟩:=h;simp_all[Qg]
     cases h
    cases h
   ·split at h
    ·split at h
     ·simp only[aW,bA]at h;obtain⟨rfl,rfl,_,_⟩:=h;exact⟨fun t bZ=>by simp only[Kw d _ t bZ,nL];exact Qg d _ t bZ,rfl⟩
     cases h
    cases h
   cases h
  cases h
 cases h
theorem Qi{o:Oper}{ans cm:List cd}(h:r7 P st o ans=some (e,g,cm,obs)):
  oy g e.nF/\∃d,e.dst=some d/\ox P st o ans=some (⟨(st.map (aE.cF g fun _=>true)).env.set d e.p,(st.map (aE.cF g fun _=>true)).boxes⟩,cm,obs):=by
 obtain⟨dst,op,type,pos,after,guard⟩:=o;have hid:∀st:aF,st.map (aE.cF some fun _=>true)=st:=by
  intro st;have:(aE.cF some fun _=>true)=_root_.id:=by
   funext l;cases l<;>simp[aE.cF,aqe]
  rw[this];simp only[aF.map];have U:aG.map _root_.id=_root_.id:=by
   funext p;cases p with
   | aC a=>cases a<;>simp[aG.map,bl.map]
   | fN as=>
    simp only[aG.map,id]
    congr 1
    have:bl.map _root_.id=_root_.id:=by funext a;cases a<;>simp[bl.map]
    simp_all
  simp_all
 simp only[r7]at h;split at h
 ·rename_i d f args ts;split at h
  ·rename_i fn gk rs r U aa;split at h
   ·rename_i ao;simp only[aW,bA]at h;obtain⟨rfl,rfl,rfl,rfl⟩:=h;refine⟨aqg,d,rfl,?_⟩;simp only[ox,ps,O7,nM,lN,I8,U,aa,kZ];rw[bL ao];rfl
   cases h
  cases h
 ·rename_i d t n parts;split at h
  ·rename_i k es ms ay;simp only[aW,bA]at h;obtain⟨rfl,rfl,rfl,rfl⟩:=h;refine⟨aqh,d,rfl,?_⟩;simp only[ox,ps];exact apT ay ans
  cases h
 ·rename_i d x y t dn;split at h
  ·rename_i zC;subst zC;refine⟨(Qh h).1,d,(Qh h).2,?_⟩;simp only[ox,ps,gy,Sx.yu];unfold yN at h;split at h
   ·rename_i u6 k he;simp only[he];split at h
    ·rename_i i hi;simp only[hi];split at h
     ·rename_i z gW cu es s bp ar;split at h
      ·rename_i bS dT a2 cg ak;split at h
       ·rename_i ao;obtain⟨rfl,ao⟩:=ao;simp only[aW,bA]at h;obtain⟨rfl,rfl,rfl,rfl⟩:=h;simp only[Co,ar,gy,bp,ak];rw[bL ao];rfl
       cases h
      cases h
     ·rename_i z _ bp ar;split at h
      ·rename_i bS dT a2 cg ak;split at h
       ·rename_i ao;simp only[aW,bA]at h;obtain⟨rfl,rfl,rfl,rfl⟩:=h;have q3:(st.jo d []).bn y=(st.bn y).map (aE.cF (h2 d []) fun _=>true):=aqf st _ (fun _=>rfl) rfl (fun _=>rfl) y;simp only[Co,ar,bp,q3,ak];rw[bL ao];have:(st.jo d []).wQ d dT=st.map (aE.cF (fun g=>(h2 d [] g).bind (hO d dT)) fun _=>true):=by
         simp only[aF.jo,aF.wQ,aF.map_map]
         congr 1
         funext l;refine aE.awt _ _ (fun g t h=>?_) l;cases g with
         | free=>grind[hO]
         | own s=>
          grind[hO]
         | ro s=>
          grind[hO]
        rw[this]
       cases h
      cases h
     cases h
    cases h
   cases h
  cases h
 ·cases h
 ·rename_i d ty;split at h
  ·rename_i i hi;split at h
   ·rename_i z bp;split at h
    ·rename_i aI;simp only[aW,bA]at h;obtain⟨rfl,rfl,rfl,rfl⟩:=h;refine⟨Kw _ _,d,rfl,?_⟩;simp only[ox,DM,hi,bp];rw[bL aI];rfl
    cases h
   cases h
  cases h
 ·rename_i d t l c;unfold Pg at h;split at h
  ·rename_i e hu;split at h
   ·rename_i i c7 gH bQ j5 hi e1 e2;split at h
    ·rename_i z bp;split at h
     ·rename_i ao;simp only[aW,bA]at h;obtain⟨rfl,rfl,rfl,rfl⟩:=h;refine⟨Kw _ _,d,rfl,?_⟩;simp only[ox,ps,DC,hu,hi,e1,e2,bp];rw[bL ao];rfl
     cases h
    cases h
   cases h
  cases h
 ·rename_i d t x cW hi iM;split at h
  ·rename_i bc;unfold GG at h;split at h
   ·rename_i e k s cu es gu e1 e2;split at h
    ·rename_i ao;obtain⟨rfl,ak⟩:=ao;split at h
     ·rename_i l bD cn ed;simp only[aW,bA]at h;obtain⟨rfl,rfl,rfl,rfl⟩:=h;refine⟨aqc,d,rfl,?_⟩;simp_all[ox,ps,gy,yv,ow,true_and]
     cases h
    cases h
   cases h
  rename_i bc;rw[ca]at h;obtain⟨⟨bE,b0,ch⟩,U,h⟩:=h;simp only[bA]at h;obtain⟨rfl,rfl,rfl,rfl⟩:=h;simp_all[Qe,ox,ps,bH]
 ·rename_i d hI ih kd iN kx n6 sB;rw[ca]at h;obtain⟨⟨bE,b0,ch⟩,U,h⟩:=h;simp only[bA]at h;obtain⟨rfl,rfl,rfl,rfl⟩:=h;refine⟨Qe _,d,rfl,?_⟩;rw[hid];have Oa:ox P st ⟨some d,op,type,pos,after,guard⟩ ans=ps P st ⟨some d,op,type,pos,after,guard⟩ ans:=by
   simp_all[ox]
  grind[ps,qn]
 ·rename_i ty s y;split at h
  ·rename_i gW vs v i e1 e2 cn;split at h
   ·rename_i ao;simp only[aW,bA]at h;obtain⟨rfl,rfl,rfl,rfl⟩:=h;refine⟨aqd,s,rfl,?_⟩;simp only[ox,DO,e1,e2,cn];grind
   cases h
  cases h
 cases h
theorem Rel.weaken{w0:eE}{bu:aF}{a:Act}{w:World}(h:Rel w0 st a w)(a':bu.env.length=st.env.length)(ay:bu.boxes=st.boxes)
  (he:∀(i:Nat) (p:aG),bu.env[i]?=some p->p=.cw\/st.env[i]?=some p):Rel w0 bu a w:=by
 obtain⟨ω,τ,h⟩:=h;refine⟨ω,τ,h.defers,h.size.trans a'.symm,h.below,h.owned,h.fixed,h.pinned,fun i p hp=>?_,by rw[ay];exact h.boxes⟩;rcases he i p hp with rfl | aa
 ·have:i<a.tmps.size:=by
   rw[h.size,<-a'];grind
  exact⟨a.tmps[i],by simp[this],ad⟩
 exact h.env i p aa
def dA.gv(e:dA)(t:Nat):Option aG:=if e.dst=some t then some e.p else if t∈e.use then some .cw else none
def yb(env:List aG):List Nat->List aG
 | s::us=>yb (env.set s .cw) us
 | []=>env
theorem Qj:∀(us:List Nat) (env:List aG) (t:Nat),(yb env us)[t]?=(env[t]?).map fun p=>if t∈us then .cw else p
 | [],env,t=>by simp[yb]
 | s::us,env,t=>by
  simp only[yb,Qj us,oM,eK];grind
def dA.apply(e:dA)(env:List aG):List aG:=
 match e.dst with
 | some d=>(yb env e.use).set d e.p
 | none=>env
theorem dA.apply_get(aI:e.dst≠none)(env:List aG)(t:Nat):(e.apply env)[t]?=(env[t]?).map fun p=>(e.gv t).getD p:=by
 unfold dA.apply dA.gv;split
 ·rename_i d ez;have ak:∀(t:Nat),(yb env e.use)[t]?=(env[t]?).map fun p=>if t∈e.use then .cw else p:=Qj e.use env
  grind
 grind
def hf(L:Nat->Bool)(t:Nat):Nat->List dA->aG->aG
 | _,[],acc=>acc
 | k,e::es,acc=>hf L t (k+1) es (if L k then (e.gv t).getD acc else acc)
variable{L:Nat->Bool}
theorem AS{L':Nat->Bool}:∀{es:List dA} {k:Nat} {acc:aG},(∀(j:Nat) (e:dA),es[j]?=some e->e.gv t≠none->L (k+j)=L' (k+j))->hf L t k es acc=hf L' t k es acc
 | [],_,_,_=>rfl
 | e::es,k,acc,h=>by
  simp only[hf];have b4:(if L k then (e.gv t).getD acc else acc)=(if L' k then (e.gv t).getD acc else acc):=by
   cases bZ:e.gv t with
   | none=>simp
   | some p=>have:=h 0 e rfl (by simp[bZ]);grind
  rw[b4];exact AS fun j e' bm bZ=>by have:=h (j+1) e' (by grind) bZ;grind
theorem Qk{p:aG}:∀{es:List dA} {k i:Nat} {acc:aG} {e:dA},es[i]?=some e->e.gv t=some p->L (k+i)=true->
  (∀(j:Nat) (e':dA),i<j->es[j]?=some e'->e'.gv t≠none->L (k+j)=false)->hf L t k es acc=p
 | [],_,_,_,_,h,_,_,_=>by simp at h
 | bz::es,k,0,acc,e,h,bZ,cB,lr=>by
  simp at h;subst h;simp only[hf];rw[nO]at cB;rw[cB,bZ];simp only[gy,kZ];have:∀(es:List dA) (k:Nat),(∀(j:Nat) (e':dA),es[j]?=some e'->e'.gv t≠none->L (k+j)=false)->hf L t k es p=p:=by
   intro es;induction es with
   | nil=>intro k _;rfl
   | cons e1 es eO=>
    intro k h;simp only[hf];have U:(if L k then (e1.gv t).getD p else p)=p:=by
     cases bZ:e1.gv t with
     | none=>simp
     | some q=>have:=h 0 e1 rfl (by simp[bZ]);grind
    rw[U];exact eO (k+1) fun j e' bm zA=>by have:=h (j+1) e' (by grind) zA;grind
  exact this es (k+1) fun j e' bm zA=>by have:=lr (j+1) e' (by omega) (by grind) zA;grind
 | bz::es,k,i+1,acc,e,h,bZ,cB,lr=>by
  simp only[hf];exact Qk (i:=i) (by simpa using h) bZ (by rwa[show k+1+i=k+(i+1) by omega]) fun j e' bm zn zA=>by
   have:=lr (j+1) e' (by omega) (by simpa using zn) zA;rwa[show k+(j+1)=k+1+j by omega]at this
def e8(env0:List aG)(bs:List (Nat×List aE))(L:Nat->Bool)(es:List dA):aF:=⟨env0.zipIdx.map fun x=>hf L x.2 0 es x.1,bs⟩
variable{bs:List (Nat×List aE)}
theorem qs{env0:List aG}{es:List dA}(t:Nat):(e8 env0 bs L es).env[t]?=(env0[t]?).map fun p=>hf L t 0 es p:=by
 simp only[e8,dP,List.getElem?_zipIdx,dW];grind
theorem yc{env0:List aG}{es:List dA}:(e8 env0 bs L es).env.length=env0.length:=by simp[e8]
def Kx(ops:Array Oper)(o:Oper):Option Nat:=o.guard.bind fun x=>(ops[x.1]?).bind (·.dst)
def reads(ops:Array Oper)(o:Oper):List Nat:=o.op.operands.toList.filterMap Qd++(Kx ops o).toList
def yd(d:Nat):dA:=⟨some d,.one (.v undef),[],[]⟩
def ext(e:dA)(env:List aG):dA:=
 if e.nF.isEmpty then e else { e with use:=e.use++(env.zipIdx.filterMap fun x=>if x.1.eP e.nF&&!(e.dst==some x.2) then some x.2 else none) }
theorem Ky(e:dA)(env:List aG):∃u,ext e env={ e with use:=u }:=by
 unfold ext;split
 ·grind
 grind
structure hX where
 t:Nat
 i:Nat
 j:Nat
 k:Nat
 kT:Nat
 es:List (List D)
 esT:List (List D)
def Fo(t:Nat)(bs:List (Nat×List aE)):Option (Nat×List (List D)):=
 (bs.find? fun x=>(x.2.findSome? (s8 t)).isSome).bind fun x=>(dD x.1 bs).bind fun ls=>ls.findSome? (s8 t)
theorem aqi{w0:eE}{a:Act}{w:World}{ω:Own}{τ:Nat->Nat×Value}(h:cD w0 st a w ω τ){kT:Nat}{esT:List (List D)}(e:Fo t st.boxes=some (kT,esT)):∃v,Sat w ω τ (.J (.own t) kT esT) v:=by
 unfold Fo at e;rw[mf]at e;obtain⟨x,_,e⟩:=e;rw[mf]at e;obtain⟨ls,ay,e⟩:=e;obtain⟨l,ar,e⟩:=List.exists_of_findSome?_eq_some e;obtain⟨b,arr,ty,_,_,_,ak⟩:=h.boxes _ ls ay;obtain⟨n,a'⟩:=oN.1 ar;obtain⟨u,_,hu⟩:=ak.2 n l a';exact⟨u,Jt e hu⟩
def rn(st:aF)(o:Oper):Option hX:=
 match o.dst,o.op with
 | some _,.call ⟨.builtin .append,⟨[x,_]⟩,⟨[_,_]⟩⟩=>
  match (st.bn x).leaf with
  | some (.aP s i j k es .here)=>
   match Fo s st.boxes with
   | some (kT,esT)=>some ⟨s,i,j,k,kT,es,esT⟩
   | none=>none
  | _=>none
 | _,_=>none
def uO(P:Program)(st:aF)(o:Oper)(ans:List cd):Option (dA×List cd×List Prop):=
 match rn st o,o.dst,o.op with
 | some v,some d,.call ⟨.builtin .append,⟨[_,y]⟩,⟨[t,dn]⟩⟩=>
  if t=dn then (tm P t v.t v.i v.j v.k v.es v.esT (st.bn y) ans).map fun r=>(⟨some d,r.1,[],[]⟩,r.2.1,r.2.2) else none
 | _,_,_=>none
def hX.fix(v:hX):aE->Option (List Prop)
 | .J (.own s) dk dM=>if s=v.t then (if dk=v.kT then some [dM=v.esT] else none) else some []
 | .cL (.own s) dk dM _ _=>if s=v.t then (if dk=v.kT then some [dM=v.esT] else none) else some []
 | .J (.ro s) _ _=>if s=v.t then none else some []
 | .cL (.ro s) _ _ _ _=>if s=v.t then none else some []
 | .aP s a b dk dM m=>if s=v.t/\b=v.j then (if dk=v.k/\m.home=true then some [a=v.i,dM=v.es] else none) else some []
 | .fp _ _=>none
 | _=>some []
def hX.mP(v:hX)(l:aE):Prop:=hk v.t v.i v.j v.k v.es v.kT v.esT l=l/\∀a∈l.idx v.t v.j,a=v.i
theorem hX.X0{v:hX}{l:aE}(h:v.fix l=some obs)(bc:cK obs):v.mP l:=by
 obtain⟨t,i,j,k,kT,es,esT⟩:=v;unfold hX.mP;simp only;cases l with
 | J g dk dM=>
  refine⟨?_,fun a aj=>by grind[aE.idx]⟩;cases g with
  | free=>rfl
  | own s=>
   simp only[hX.fix]at h;split at h
   ·rename_i ak;subst ak;split at h
    ·rename_i ba;subst ba;cases h;have e:dM=esT:=bc.1;grind[hk]
    cases h
   grind[hk]
  | ro s=>
   grind[hX.fix,hk]
 | cL g dk dM x y=>
  refine⟨?_,fun a aj=>by grind[aE.idx]⟩;cases g with
  | free=>rfl
  | own s=>
   simp only[hX.fix]at h;split at h
   ·rename_i ak;subst ak;split at h
    ·rename_i ba;subst ba;cases h;have e:dM=esT:=bc.1;grind[hk]
    cases h
   grind[hk]
  | ro s=>
   grind[hX.fix,hk]
 | aP s a b dk dM m=>
  simp only[hX.fix]at h;split at h
  ·rename_i ak;obtain⟨rfl,rfl⟩:=ak;split at h
   ·rename_i ba;cases h;have e1:a=i:=bc.1;have e2:dM=es:=bc.2.1;simp_all[hk,aE.idx]
   cases h
  simp_all[hk,bH,aE.idx]
 | fp t vs=>cases h
 | _=>exact⟨rfl,fun a aj=>by grind[aE.idx]⟩
def bl.tP:bl->List aE
 | .one l=>[l]
 | .agg ls=>ls
def aG.tP:aG->List aE
 | .aC a=>a.tP
 | .fN as=>as.flatMap bl.tP
theorem bl.zO{p:aE->Prop}{a:bl}(h:∀l∈a.tP,p l):a.lh p:=by
 cases a with
 | one l=>exact h l (by simp[bl.tP])
 | agg ls=>exact h
theorem aG.zO{p:aE->Prop}{q:aG}(h:∀l∈q.tP,p l):q.lh p:=by
 cases q with
 | aC a=>exact bl.zO h
 | fN as=>exact fun a aj=>bl.zO fun l ar=>h l (oO.2 ⟨a,aj,ar⟩)
def hX.fixes(v:hX):List aE->Option (List Prop)
 | []=>some []
 | l::r=>
  match v.fix l,hX.fixes v r with
  | some a,some b=>some (a++b)
  | _,_=>none
theorem hX.N6{v:hX}:∀{ls:List aE} {obs:List Prop},v.fixes ls=some obs->cK obs->∀l∈ls,v.mP l
 | [],_,_,_,l,ar=>by cases ar
 | eW::r,obs,h,bc,l,ar=>by
  simp only[hX.fixes]at h;split at h
  ·rename_i a b U aa;cases h;obtain⟨cC,cg⟩:=bc.append;rcases eK.1 ar with rfl | ar
   ·grind[hX.X0]
   exact hX.N6 aa cg l ar
  cases h
def yt(bs:List (Nat×List aE))(all:Nat->List aE):Nat->List Oper->List aG->List dA->Option (List Prop)
 | i,o::os,env,e::es=>
  match rn ⟨env,bs⟩ o with
  | some v=>
   match v.fixes (all i),yt bs all (i+1) os (e.apply env) es with
   | some a,some b=>some (a++b)
   | _,_=>none
  | none=>yt bs all (i+1) os (e.apply env) es
 | _,_,_,_=>some []
theorem Ql{all:Nat->List aE}:∀{l:List Oper} {es:List dA} {env:List aG} {i0:Nat} {obs:List Prop},yt bs all i0 l env es=some obs->cK obs->
  ∀(i:Nat) (o:Oper),l[i]?=some o->i<es.length->∀v,rn ⟨(es.take i).foldl (fun env e=>e.apply env) env,bs⟩ o=some v->∀kQ∈all (i0+i),v.mP kQ
 | [],_,_,_,_,_,_,i,o,hi,_,_,_,_,_=>by simp at hi
 | _::_,[],_,_,_,_,_,i,o,_,ar,_,_,_,_=>by simp at ar
 | sC::os,e::es,env,i0,obs,h,bc,i,o,hi,ar,v,bx,kQ,HA=>by
  simp only[yt]at h;cases i with
  | zero=>
   simp only[lg,aW]at hi;subst hi;simp only[List.take_zero,List.foldl_nil]at bx;rw[bx]at h;simp only at h;split at h
   ·rename_i a b U aa;cases h;exact hX.N6 U bc.append.1 kQ HA
   cases h
  | succ i=>
   have go:∀{b:List Prop},yt bs all (i0+1) os (e.apply env) es=some b->cK b->v.mP kQ:=fun aa cg=>
    Ql aa cg i o (by grind) (by grind) v (by grind) kQ (by grind)
   split at h
   ·split at h
    ·rename_i a b U aa;cases h;exact go aa bc.append.2
    cases h
   grind
def uj(P:Program)(ops:Array Oper)(gs:List Nat)(bs:List (Nat×List aE)):List Oper->List aG->List cd->Option (List dA×List aG×List cd×List Prop)
 | [],env,ans=>some ([],env,ans,[])
 | o::rest,env,ans=>
  match rm ops ⟨env,bs⟩ o [] with
  | some (true,_,_,_)=>
   match r7 P ⟨env,bs⟩ o ans with
   | some (e,_,fl,fT)=>
    match (match o.dst with | some d=>gs.contains d | none=>false),e.p.leaf,fl with
    | true,some (.bg c),.oT b::r=>
     (uj P ops gs bs rest (dA.apply { ext e env with p:=.one (.v (.bool b)) } env) r).map fun x=>({ ext e env with p:=.one (.v (.bool b)) }::x.1,x.2.1,x.2.2.1,(c=b)::(fT++x.2.2.2))
    | _,_,_=>(uj P ops gs bs rest ((ext e env).apply env) fl).map fun x=>(ext e env::x.1,x.2.1,x.2.2.1,fT++x.2.2.2)
   | none=>
    match uO P ⟨env,bs⟩ o ans with
    | some (e,fl,fT)=>(uj P ops gs bs rest (e.apply env) fl).map fun x=>(e::x.1,x.2.1,x.2.2.1,fT++x.2.2.2)
    | none=>none
  | some (false,_,_,_)=>
   match o.dst with
   | some d=>(uj P ops gs bs rest ((yd d).apply env) ans).map fun x=>(yd d::x.1,x.2.1,x.2.2.1,x.2.2.2)
   | none=>none
  | none=>none
def Fact(P:Program)(ops:Array Oper)(bs:List (Nat×List aE))(env:List aG)(o:Oper)(e:dA):Prop:=
 (∃dR ef cC,rm ops ⟨env,bs⟩ o []=some (false,dR,ef,cC)/\∃d,o.dst=some d/\e=yd d)\/
 (∃dR ef cC,rm ops ⟨env,bs⟩ o []=some (true,dR,ef,cC)/\∃ans bz g cm obs,r7 P ⟨env,bs⟩ o ans=some (bz,g,cm,obs)/\cK obs/\
  ∃u,(e={ bz with use:=u }\/∃c b,bz.p=.one (.bg c)/\c=b/\e={ bz with use:=u,p:=.one (.v (.bool b)) }))\/
 (∃dR ef cC,rm ops ⟨env,bs⟩ o []=some (true,dR,ef,cC)/\∃ans cm obs,uO P ⟨env,bs⟩ o ans=some (e,cm,obs)/\cK obs)
theorem AT{ops:Array Oper}{gs:List Nat}:∀{l:List Oper} {env tv:List aG} {ans cm:List cd} {es:List dA} {obs:List Prop},
  uj P ops gs bs l env ans=some (es,tv,cm,obs)->cK obs->
  es.length=l.length/\tv=es.foldl (fun env e=>e.apply env) env/\∀(i:Nat) (o:Oper),l[i]?=some o->∃e,es[i]?=some e/\Fact P ops bs ((es.take i).foldl (fun env e=>e.apply env) env) o e
 | [],env,tv,ans,cm,es,obs,h,_=>by
  simp_all[uj,aW,bA]
 | o::rest,env,tv,ans,cm,es,obs,h,bc=>by
  have fin:∀(e:dA) (dM:List dA) (GI:List aG),(dM.length=rest.length/\GI=dM.foldl (fun env e=>e.apply env) (e.apply env)/\∀(i:Nat) (o:Oper),rest[i]?=some o->∃e',dM[i]?=some e'/\Fact P ops bs ((dM.take i).foldl (fun env e=>e.apply env) (e.apply env)) o e')->
    Fact P ops bs env o e->(e::dM).length=(o::rest).length/\GI=(e::dM).foldl (fun env e=>e.apply env) env/\∀(i:Nat) (qf:Oper),(o::rest)[i]?=some qf->∃e',(e::dM)[i]?=some e'/\Fact P ops bs (((e::dM).take i).foldl (fun env e=>e.apply env) env) qf e':=by
   intro e dM GI ⟨U,aa,aB⟩ b8;refine⟨by simp[U],aa,fun i qf lX=>?_⟩;cases i with
   | zero=>grind
   | succ i=>grind
  simp only[uj]at h;split at h
  ·rename_i dR ef cC hw;split at h
   ·rename_i e g fl fT aI;split at h
    ·rename_i c b r ax ar;rw[ca]at h;obtain⟨⟨ix,jB,wH,uR⟩,U,h⟩:=h;simp only[bA]at h;obtain⟨rfl,rfl,_,rfl⟩:=h;have Pm:(c=b)/\cK uR:=⟨bc.1,(cK.append bc.2).2⟩
     have zT:=(cK.append bc.2).1;refine fin _ _ _ (AT U Pm.2) (.inr (.inl ⟨_,_,_,hw,_,_,_,_,_,aI,zT,(Ky e env).choose,.inr ⟨c,b,?_,?_,?_⟩⟩))
     ·cases hp:e.p with
      | aC a=>
       rw[hp]at ar;cases a with
       | one l=>grind[aG.leaf,aW]
       | agg ls=>cases ar
      | fN as=>rw[hp]at ar;cases ar
     ·exact Pm.1
     grind
    rw[ca]at h;obtain⟨⟨ix,jB,wH,uR⟩,U,h⟩:=h;simp only[bA]at h;obtain⟨rfl,rfl,_,rfl⟩:=h;obtain⟨zT,cg⟩:=bc.append;exact fin _ _ _ (AT U cg) (.inr (.inl ⟨_,_,_,hw,_,_,_,_,_,aI,zT,(Ky e env).choose,.inl (Ky e env).choose_spec⟩))
   split at h
   ·rename_i e fl fT HN;rw[ca]at h;obtain⟨⟨ix,jB,wH,uR⟩,U,h⟩:=h;simp only[bA]at h;obtain⟨rfl,rfl,_,rfl⟩:=h;obtain⟨zT,cg⟩:=bc.append;exact fin _ _ _ (AT U cg) (.inr (.inr ⟨_,_,_,hw,_,_,_,HN,zT⟩))
   cases h
  ·rename_i dR ef cC hw;split at h
   ·rename_i d aI;rw[ca]at h;obtain⟨⟨ix,jB,wH,uR⟩,U,h⟩:=h;simp only[bA]at h;obtain⟨rfl,rfl,_,rfl⟩:=h;exact fin _ _ _ (AT U bc) (.inl ⟨_,_,_,hw,d,aI,rfl⟩)
   cases h
  cases h
end Go.Sx
namespace Go.Sx
open Go.RowKit
variable{st bu:aF}
theorem Qm{parts:List (Nat×Operand)}(h:∀x∈parts,st.bn x.2=bu.bn x.2):(parts.map fun x=>(x.1,st.bn x.2))=parts.map fun x=>(x.1,bu.bn x.2):=
 lK fun x aq=>by rw[h x aq]
variable{P:Program}{ans:List cd}
theorem Qn{op:Op}(ay:st.boxes=bu.boxes)(h:∀x∈op.operands.toList,st.bn x=bu.bn x):qn P st op ans=qn P bu op ans:=by
 cases op<;>simp only[qn,Op.operands,eK,List.mem_nil_iff,forall_eq_or_imp,or_false,forall_eq]at h ⊢
 case load t x=>grind[D5]
 case slice t x cW hi iM=>
  have aq:st.bn x=bu.bn x:=h x (by simp);have bc:∀o:Option Operand,(∀y,o=some y->st.bn y=bu.bn y)->l5 st o=l5 bu o:=by
   intro o bc;cases o with
   | none=>rfl
   | some y=>simp_all[l5]
  simp_all[D6]
 case build t b7=>
  have:(b7.toList.map fun x=>(x.1,st.bn x.2))=b7.toList.map fun x=>(x.1,bu.bn x.2):=Qm fun x aq=>h x.2 (by grind)
  grind[D7]
 case call c=>
  obtain⟨callee,args,ts⟩:=c;cases callee with
  | value f=>rfl
  | invoke r i=>rfl
  | builtin b=>
   simp only[Call.operands]at h;have sa:∀x∈args.toList,st.bn x=bu.bn x:=fun x aq=>h x (by grind)
   simp only;generalize args.toList=l at sa;unfold D';grind
 case makeFunc fn first captured=>
  have ao:captured.toList.map st.bn=captured.toList.map bu.bn:=lK fun x aq=>h x (by grind)
  simp only[D9,ao]
 all_goals simp[h]
variable{o:Oper}
theorem apt(ay:st.boxes=bu.boxes)(h:∀x∈o.op.operands.toList,st.bn x=bu.bn x):r7 P st o ans=r7 P bu o ans:=by
 obtain⟨dst,op,type,pos,after,guard⟩:=o;simp only at h;cases dst with
 | none=>
  cases op with
  | store ty x y=>
   cases x with
   | tmp s=>
    simp_all[Op.operands,aF.bn,r7]
   | _=>rfl
  | _=>rfl
 | some d=>
  unfold r7;split
  ·rename_i f args ts e1 e2;simp only at e1 e2;subst e2;have sa:∀x∈args.toList,st.bn x=bu.bn x:=fun x aq=>h x (by grind[Op.operands,Call.operands])
   have:args.toList.mapM (fun x=>(st.bn x).j4 st.boxes)=args.toList.mapM (fun x=>(bu.bn x).j4 bu.boxes):=by
    rw[<-ay];generalize args.toList=l at sa;generalize st.boxes=bs;induction l with
    | nil=>rfl
    | cons x l eO=>grind
   rw[this]
  ·rename_i t n parts e1 e2;simp only at e1 e2;subst e2;have:(parts.toList.map fun x=>(x.1,st.bn x.2))=parts.toList.map fun x=>(x.1,bu.bn x.2):=Qm fun x aq=>h x.2 (by grind[Op.operands])
   grind[Cs]
  ·rename_i x y t dn e1 e2;simp only at e1 e2;subst e2;have aq:st.bn x=bu.bn x:=h x (by simp[Op.operands,Call.operands]);have bM:st.bn y=bu.bn y:=h y (by simp[Op.operands,Call.operands]);simp only[yN,aq,bM]
  ·rfl
  ·rfl
  ·grind[Op.operands]
  ·rename_i t x cW hi iM e1 e2;simp only at e1 e2;subst e2;have aq:st.bn x=bu.bn x:=h x (by simp[Op.operands]);have bc:∀o:Option Operand,(∀y,o=some y->st.bn y=bu.bn y)->l5 st o=l5 bu o:=by
    intro o bc;cases o with
    | none=>rfl
    | some y=>simp_all[l5]
   rw[Qn ay h];simp only[GG,aq];rw[bc cW (fun y e=>h y (by simp[Op.operands,e])),bc hi (fun y e=>h y (by simp[Op.operands,e]))]
  ·rw[Qn ay h]
  ·grind
  rfl
theorem N5{x:Operand}(h:∀t,Qd x=some t->st.env.getD t .cw=bu.env.getD t .cw):st.bn x=bu.bn x:=by
 cases x with
 | tmp t=>simpa[aF.bn]using h t rfl
 | _=>rfl
def mj(ms:List Nat)(i j:Nat):Bool:=(ms.getD j 0).testBit i
def wy(ms:List Nat):List Edge->Nat
 | []=>0
 | e::r=>if Region.binds .any e then (2 ^ e.on ||| ms.getD e.on 0) ||| wy ms r else wy ms r
def ri:List Oper->List Nat->List Nat
 | [],acc=>acc
 | o::r,acc=>ri r (acc++[wy acc o.after.toList])
variable{ms:List Nat}{i:Nat}
theorem Kz:∀{l:List Edge},(wy ms l).testBit i=true->∃e∈l,Region.binds .any e=true/\(i=e.on\/mj ms i e.on=true)
 | [],h=>by grind[wy]
 | e::r,h=>by
  simp only[wy]at h;split at h
  ·rename_i ay;rw[Nat.testBit_or,Nat.testBit_or,qQ,qQ,Nat.testBit_two_pow,c3]at h;rcases h with (h | h) | h
   ·grind
   ·exact⟨e,by simp,ay,.inr h⟩
   obtain⟨e',U,aa⟩:=Kz h;exact⟨e',by simp[U],aa⟩
  obtain⟨e',U,aa⟩:=Kz h;exact⟨e',by simp[U],aa⟩
def qT{α:Type}(f:Nat->α->Bool):Nat->List α->Bool
 | _,[]=>true
 | k,x::r=>f k x&&qT f (k+1) r
theorem vH{α:Type}{f:Nat->α->Bool}:∀{l:List α} {k:Nat},qT f k l=true->∀(i:Nat) (x:α),l[i]?=some x->f (k+i) x=true
 | [],_,_,i,x,h=>by simp at h
 | y::r,k,h,0,x,aq=>by
  simp_all[qT,cH]
 | y::r,k,h,i+1,x,aq=>by
  simp only[qT,cH]at h;have:=vH h.2 i x (by simpa using aq);rwa[show k+1+i=k+(i+1) by omega]at this
def rp(ms:List Nat)(os:List Oper):Bool:=
 qT (fun j o=>ms.getD j 0==wy ms o.after.toList&&o.after.toList.all fun e=>!Region.binds .any e||decide (e.on<j)) 0 os
variable{ops:Array Oper}
theorem KA(h:rp ms ops.toList=true){j:Nat}(bc:ops[j]?=some o):(∀e∈o.after,Region.binds .any e=true->e.on<j)/\
  ∀i,mj ms i j=true->∃e∈o.after,Region.binds .any e=true/\(i=e.on\/mj ms i e.on=true):=by
 have:=vH h j o (by grind);simp only[dW,cH,kE,fU,qQ,i',c3]at this;grind[mj,Kz]
def qt(ops:Array Oper)(listed:Array Bool):Prop:=
 ∀(j:Nat) (o:Oper),listed.getD j false=true->ops[j]?=some o->∀e∈o.after,Region.binds .any e=true->listed.getD e.on false=true
variable{listed:Array Bool}
theorem D0{j:Nat}(h:listed.getD j false=true):j<listed.size:=by
 grind
theorem D1(h:rp ms ops.toList=true)(ao:qt ops listed)(ak:listed.size=ops.size):∀(j:Nat),listed.getD j false=true->mj ms i j=true->listed.getD i false=true:=by
 intro j;induction j using Nat.strongRecOn with
 | ind j eO=>
  intro bm aj;have bO:j<ops.size:=ak▸D0 bm;have bc:ops[j]?=some ops[j]:=lI bO;obtain⟨U,aa⟩:=KA h bc;obtain⟨e,he,ay,q2⟩:=aa i aj;have xc:=ao j _ bm bc e he ay;grind
variable{k:Nat}
theorem AU(h:rp ms ops.toList=true)(ao:qt ops listed)(ak:listed.size=ops.size)(hi:i∈Region.ready .any ops listed)(aj:mj ms k i=true):listed.getD k false=true:=by
 rw[mem_ready]at hi;obtain⟨_,o,bc,he⟩:=hi;obtain⟨_,aa⟩:=KA h bc;obtain⟨e,CS,ay,q2⟩:=aa k aj;rcases q2 with rfl | q2
 ·grind
 grind[D1]
theorem qt.ready(ao:qt ops listed)(hi:i∈Region.ready .any ops listed):qt ops (listed.setIfInBounds i true):=by
 intro j o bm bc e he ay;rw[mem_ready]at hi;obtain⟨_,ayE,ayl,o8⟩:=hi;by_cases o9:i=j
 ·grind[getD_set_true]
 rw[getD_set_ne false o9]at bm;exact getD_set_true (ao j o bm bc e he ay)
theorem KB(h:rp ms ops.toList=true)(ak:listed.size=ops.size)(aH:Region.ready .any ops listed=[]):∀j,j<ops.size->listed.getD j false=true:=by
 intro j;induction j using Nat.strongRecOn with
 | ind j eO=>
  intro bO;have bc:ops[j]?=some ops[j]:=lI bO;obtain⟨U,_⟩:=KA h bc;cases ar:listed.getD j false with
  | true=>rfl
  | false=>
   have:j∈Region.ready .any ops listed:=by
    grind[mem_ready,Nat.lt_trans]
   grind
def AV(e:dA):List Nat:=e.dst.toList++e.use
def D2(ops:Array Oper)(o:Oper)(e:dA):List Nat:=AV e++reads ops o
def Dp(ms:List Nat)(i k:Nat):Bool:=if k<i then mj ms k i else mj ms i k
def KC(ops:Array Oper)(ms:List Nat)(es:List dA):Bool:=
 qT (fun i x=>qT (fun k e=>k==i||Dp ms i k||!((AV e).any fun t=>(D2 ops x.1 x.2).contains t)) 0 es) 0 (ops.toList.zip es)
def ye(ms:List Nat)(es:List dA)(i cW:Nat)(s:Option Nat):Bool:=es.zipIdx.any fun y=>decide (cW<=y.2)&&mj ms y.2 i&&(match s with | some t=>y.1.use.contains t | none=>false)
variable{es:List dA}
theorem Qo{cW:Nat}{s:Option Nat}(h:ye ms es i cW s=true):∃m y t,es[m]?=some y/\cW<=m/\mj ms m i=true/\t∈y.use/\s=some t:=by
 unfold ye at h;grind
def KD(ms:List Nat)(es:List dA)(env0:List aG)(bs:List (Nat×List aE)):Bool:=
 qT (fun i e=>e.nF.isEmpty||
  (qT (fun j x=>j==i||mj ms i j||!x.p.eP e.nF||(match x.dst with | some t=>e.use.contains t | none=>false)||x.dst==e.dst||ye ms es i (j+1) x.dst) 0 es&&
   qT (fun t p=>!p.eP e.nF||e.use.contains t||ye ms es i 0 (some t)||e.dst==some t) 0 env0&&
   bs.all fun x=>!x.2.any (aE.eP e.nF))) 0 es
variable{e:dA}
theorem Qp{t:Nat}(h:e.gv t≠none):t∈AV e:=by
 unfold dA.gv at h;split at h
 ·grind[AV]
 simp_all[AV,absurd]
theorem Qq(h:KC ops ms es=true){hG GH:dA}(bc:ops[i]?=some o)(hi:es[i]?=some hG)(ba:es[k]?=some GH)(db:k≠i){t:Nat}
  (bZ:GH.gv t≠none) (a':t∈D2 ops o hG):Dp ms i k=true:=by
 have U:=vH h i (o,hG) (by
  grind)
 have aa:=vH U k GH ba;simp only[dW,qQ,kE,i']at aa;rcases aa with (aa | aa) | aa
 ·grind
 ·exact aa
 simp_all[hW,Qp,List.contains_iff_mem,absurd]
variable{r:fZ}
theorem Tag.qd(h:r.isEmpty=true)(t:Tag):t.eP r=false:=by
 cases t with
 | free=>rfl
 | own s=>rw[List.isEmpty_iff]at h;subst h;rfl
 | ro s=>rw[List.isEmpty_iff]at h;subst h;rfl
theorem aE.qd(h:r.isEmpty=true)(l:aE):l.eP r=false:=by
 cases l with
 | aP t i j k es m=>exact Tag.qd h (.own t)
 | fp t vs=>
  simp only[aE.eP,gX];refine⟨Tag.qd h (.own t),hW.2 fun c _=>?_⟩;cases c with
  | cw=>simp[eZ.eP]
  | v x=>simp[eZ.eP]
  | J t k es=>simp[eZ.eP,Tag.qd h]
 | _=>simp[aE.eP,Tag.qd h]
theorem bl.qd(h:r.isEmpty=true)(a:bl):a.eP r=false:=by
 cases a<;>simp[bl.eP,aE.qd h]
theorem aG.qd(h:r.isEmpty=true)(p:aG):p.eP r=false:=by
 cases p<;>simp[aG.eP,bl.qd h]
variable{bs:List (Nat×List aE)}
theorem apu{env0:List aG}(h:KD ms es env0 bs=true)(hi:es[i]?=some e):
  (∀(j:Nat) (x:dA),es[j]?=some x->j≠i->mj ms i j=true\/x.p.eP e.nF=false\/(∃t,x.dst=some t/\t∈e.use)\/x.dst=e.dst\/ye ms es i (j+1) x.dst=true)/\
  (∀(t:Nat) (p:aG),env0[t]?=some p->((p.eP e.nF=false\/t∈e.use)\/ye ms es i 0 (some t)=true)\/e.dst=some t)/\∀x∈bs,x.2.any (aE.eP e.nF)=false:=by
 have U:=vH h i e hi;simp only[qQ,c3]at U;rcases U with U | U
 ·grind[aG.qd,hW,aE.qd]
 simp only[cH]at U;obtain⟨⟨U,aa⟩,aB⟩:=U;refine⟨fun j x aq db=>?_,fun t p hp=>?_,fun x aq=>?_⟩
 ·have:=vH U j x aq;grind
 ·have:=vH aa t p hp;grind
 grind
theorem KE{L:Nat->Bool}{t:Nat}:∀{es:List dA} {k:Nat} {acc:aG},(hf L t k es acc=acc/\∀(m:Nat) (y:dA),es[m]?=some y->L (k+m)=true->y.gv t=none)\/hf L t k es acc=.cw\/
  ∃j e,es[j]?=some e/\L (k+j)=true/\e.dst=some t/\hf L t k es acc=e.p/\∀(m:Nat) (y:dA),es[m]?=some y->j<m->L (k+m)=true->y.gv t=none
 | [],_,_=>.inl ⟨rfl,fun m y h=>by simp at h⟩
 | e::es,k,acc=>by
  simp only[hf];rcases KE (L:=L) (t:=t) (es:=es) (k:=k+1) (acc:=if L k then (e.gv t).getD acc else acc) with⟨h,a'⟩ | h | ⟨j,e',U,aa,aB,aJ,a6⟩
  ·have tail:∀(m:Nat) (y:dA),(e::es)[m+1]?=some y->L (k+(m+1))=true->y.gv t=none:=fun m y bM ar=>a' m y (by grind) (by grind)
   by_cases cB:L k=true
   ·rw[bL cB]at h ⊢;unfold dA.gv at h ⊢;by_cases aI:e.dst=some t
    ·rw[bL aI]at h ⊢;refine .inr (.inr ⟨0,e,rfl,cB,aI,h,fun m y bM hm ar=>?_⟩);cases m with
     | zero=>omega
     | succ m=>exact tail m y bM ar
    rw[bH aI]at h ⊢;by_cases hu:t∈e.use
    ·grind
    rw[bH hu]at h ⊢;refine .inl ⟨h,fun m y bM ar=>?_⟩;cases m with
    | zero=>
     grind
    | succ m=>exact tail m y bM ar
   grind
  ·grind
  refine .inr (.inr ⟨j+1,e',by grind,by grind,aB,aJ,fun m y bM hm ar=>?_⟩);grind
theorem Qr{t:Nat}:∀{es:List dA} {k i:Nat} {acc:aG} {e:dA},es[i]?=some e->
  hf (fun j=>decide (j<k+i+1)) t k es acc=(e.gv t).getD (hf (fun j=>decide (j<k+i)) t k es acc)
 | [],_,_,_,_,h=>by simp at h
 | bz::es,k,0,acc,e,h=>by
  simp at h;subst h;have lr:∀(es:List dA) (k m:Nat) (acc:aG),m<=k->hf (fun j=>decide (j<m)) t k es acc=acc:=by
   intro es;induction es with
   | nil=>intro k m acc _;rfl
   | cons e1 es eO=>
    intro k m acc hm;simp only[hf];rw[bH (by grind)];exact eO (k+1) m acc (by omega)
  simp_all[hf,bL,bH]
 | bz::es,k,i+1,acc,e,h=>by
  simp only[hf];rw[bL (by simp;omega),bL (by simp)];have:=Qr (t:=t) (es:=es) (k:=k+1) (i:=i) (acc:=(bz.gv t).getD acc) (by simpa using h);rw[show k+1+i+1=k+(i+1)+1 by omega,show k+1+i=k+(i+1) by omega]at this;exact this
theorem Ds{env0:List aG}{bs:List (Nat×List aE)}(aI:∀(i:Nat) (e:dA),es[i]?=some e->e.dst≠none):∀(i:Nat),i<=es.length->
  (es.take i).foldl (fun env e=>e.apply env) env0=(e8 env0 bs (fun j=>decide (j<i)) es).env
 | 0,_=>by
  apply List.ext_getElem?;intro t;rw[qs];have lr:∀(es:List dA) (k:Nat) (acc:aG),hf (fun j=>decide (j<0)) t k es acc=acc:=by
   intro es;induction es with
   | nil=>intro k acc;rfl
   | cons e1 es eO=>simp_all[hf,bH]
  grind
 | i+1,hi=>by
  have bO:i<es.length:=by omega
  have he:es[i]?=some es[i]:=iB bO;have eO:=Ds (env0:=env0) (bs:=bs) aI i (by omega);rw[wL,he,Gj,List.foldl_append,eO];simp only[List.foldl_cons,List.foldl_nil];apply List.ext_getElem?;intro t;rw[dA.apply_get (aI i _ he),qs,qs];cases h:env0[t]? with
  | none=>rfl
  | some p=>
   have:=Qr (t:=t) (es:=es) (k:=0) (i:=i) (acc:=p) he;grind
theorem KF{bu:aF}{dR:aF}{ef:List cd}{cC:List Prop}{b:Bool}(h:rm ops st o []=some (b,dR,ef,cC))(ak:∀t∈reads ops o,st.env.getD t .cw=bu.env.getD t .cw):
  rm ops bu o []=some (b,bu,[],[]):=by
 unfold rm at h ⊢;cases ax:o.guard with
 | none=>grind
 | some g=>
  obtain⟨j,want⟩:=g;rw[ax]at h;simp only at h ⊢;cases aI:(ops[j]?).bind (·.dst) with
  | none=>grind
  | some s=>
   grind[reads,Kx,aW,bA]
variable{cm:List cd}{obs:List Prop}
theorem Qs(h:uO P st o ans=some (e,cm,obs)):
  ∃(v:hX) (d:Nat) (x y:Operand) (t:TypeId),rn st o=some v/\o.dst=some d/\o.op=.call ⟨.builtin .append,⟨[x,y]⟩,⟨[t,t]⟩⟩/\tm P t v.t v.i v.j v.k v.es v.esT (st.bn y) ans=some (e.p,cm,obs)/\
   e=⟨some d,e.p,[],[]⟩/\(st.bn x).leaf=some (.aP v.t v.i v.j v.k v.es .here)/\Fo v.t st.boxes=some (v.kT,v.esT):=by
 obtain⟨dst,op,type,pos,after,guard⟩:=o;unfold uO at h;split at h
 ·rename_i v d gL y t dn hi aI p5;simp only at aI p5;subst aI;subst p5;split at h
  ·rename_i zC;subst zC;rw[ca]at h;obtain⟨⟨bE,b0,ch⟩,U,h⟩:=h;simp only[bA]at h;obtain⟨rfl,rfl,rfl⟩:=h;have ni:=hi;simp only[rn]at ni;grind
  cases h
 cases h
theorem Qt{st bu:aF}(ay:st.boxes=bu.boxes)(h:∀x∈o.op.operands.toList,st.bn x=bu.bn x):rn st o=rn bu o:=by
 obtain⟨dst,op,type,pos,after,guard⟩:=o;simp only at h;unfold rn;simp only;split
 ·grind[Op.operands,Call.operands]
 rfl
theorem apv(ay:st.boxes=bu.boxes)(h:∀x∈o.op.operands.toList,st.bn x=bu.bn x):uO P st o ans=uO P bu o ans:=by
 unfold uO;rw[Qt ay h];split
 ·grind[Op.operands,Call.operands]
 rfl
theorem apw{v:hX}{q:aG}(h:q.lh v.mP):∀a∈q.idx v.t v.j,a=v.i:=by
 have one:∀{a:bl},a.lh v.mP->∀x∈a.idx v.t v.j,x=v.i:=by
  intro a aj x aq;cases a with
  | one l=>exact aj.2 x aq
  | agg ls=>
   obtain⟨l,ar,aq⟩:=oO.1 aq;exact (aj l ar).2 x aq
 intro x aq;cases q with
 | aC a=>exact one h x aq
 | fN as=>
  obtain⟨a,aj,aq⟩:=oO.1 aq;exact one (h a aj) x aq
theorem apx{v:hX}{q:aG}(h:q.lh v.mP):q.map (hk v.t v.i v.j v.k v.es v.kT v.esT)=q:=by
 have ls:∀{ls:List aE},(∀l∈ls,v.mP l)->ls.map (hk v.t v.i v.j v.k v.es v.kT v.esT)=ls:=by
  intro ls ar
  conv=>rhs;rw[<-rT ls]
  exact lK fun l hm=>(ar l hm).1
 have one:∀{a:bl},a.lh v.mP->a.map (hk v.t v.i v.j v.k v.es v.kT v.esT)=a:=by
  intro a aj;cases a with
  | one l=>simp only[bl.map];rw[aj.1]
  | agg l=>simp only[bl.map];rw[ls aj]
 cases q with
 | aC a=>simp only[aG.map];rw[one h]
 | fN as=>
  simp only[aG.map]
  congr 1
  conv=>rhs;rw[<-rT as]
  exact lK fun a hm=>one (h a hm)
theorem Fact.dst{env:List aG}(h:Fact P ops bs env o e):e.dst≠none:=by
 rcases h with⟨_,_,_,_,d,aI,rfl⟩ | ⟨_,_,_,_,ans,bz,g,cm,obs,U,_,aa⟩ | ⟨_,_,_,_,ans,cm,obs,U,_⟩
 rotate_left 2
 ·grind[Qs]
 ·simp[yd]
 obtain⟨_,d,aJ,_⟩:=Qi U;grind
variable{w0:eE}{a:Act}{w:World}
theorem Rel.bool{env:List aG}{d:Nat}{c:Bool}(h:Rel w0 ⟨env.set d (.one (.bg c)),bs⟩ a w):Rel w0 ⟨env.set d (.one (.v (.bool c))),bs⟩ a w:=by
 obtain⟨ω,τ,h⟩:=h;refine⟨ω,τ,h.defers,by have:=h.size;grind,h.below,h.owned,h.fixed,h.pinned,fun i p hp=>?_,h.boxes⟩;by_cases hi:d=i
 ·subst hi;rw[oM]at hp;split at hp
  ·split at hp
   ·rename_i ar;simp only[aW]at hp;subst hp;obtain⟨v,U,aa⟩:=h.env d (.one (.bg c)) (by simp[ar]);exact⟨v,U,aa⟩
   cases hp
  grind
 exact h.env i p (by grind)
section
variable {P : Program} {ops : Array Oper} {bs : List (Nat × List aE)} {env0 : List aG} {es : List dA} {ms : List Nat}
def fe(listed:Array Bool)(j:Nat):Bool:=listed.getD j false
structure pF (P:Program) (ops:Array Oper) (bs:List (Nat×List aE)) (env0:List aG) (es:List dA) (ms:List Nat):Prop where
 len:es.length<=ops.size
 facts:∀(i:Nat) (o:Oper),i<es.length->ops[i]?=some o->∃e,es[i]?=some e/\Fact P ops bs (e8 env0 bs (fun j=>decide (j<i)) es).env o e
 masks:rp ms ops.toList=true
 aP:∀(i:Nat) (o:Oper) (v:hX),i<es.length->ops[i]?=some o->rn ⟨(e8 env0 bs (fun j=>decide (j<i)) es).env,bs⟩ o=some v->
  (∀q∈env0,q.lh v.mP)/\(∀(j:Nat) (x:dA),es[j]?=some x->j≠i->x.p.lh v.mP)/\∀x∈bs,∀l∈x.2,v.mP l
 ord:KC ops ms es=true
 tok:KD ms es env0 bs=true
variable{listed:Array Bool}{i:Nat}{e:dA}
theorem pF.same(h:pF P ops bs env0 es ms)(ao:qt ops listed)(ak:listed.size=ops.size)(hi:i∈Region.ready .any ops listed){o:Oper}(bc:ops[i]?=some o)(he:es[i]?=some e)
  {t:Nat} (bZ:t∈D2 ops o e):(e8 env0 bs (fe listed) es).env.getD t .cw=(e8 env0 bs (fun j=>decide (j<i)) es).env.getD t .cw:=by
 rw[kY,kY,qs,qs];have gg:listed.getD i false=false:=by
  have b4:=(mem_ready.1 hi).1;grind
 cases axY:env0[t]? with
 | none=>rfl
 | some p=>
  simp only[rR,kZ];refine AS fun j wW bm C'=>?_
  rw[dW];by_cases si:j=i
  ·grind[fe]
  have:=Qq h.ord bc he bm si C' bZ;unfold Dp at this;split at this
  ·rename_i bO;have:=AU h.masks ao ak hi this;grind[fe]
  rename_i bO;cases HB:listed.getD j false with
  | false=>grind[fe]
  | true=>have:=D1 h.masks ao ak j HB this;grind
theorem KG(bO:i<listed.size)(j:Nat):fe (listed.setIfInBounds i true) j=(if j=i then true else fe listed j):=by
 unfold fe;split
 ·simp_all
 simp_all[getD_set_ne,false,Ne.symm]
theorem pF.fF(h:pF P ops bs env0 es ms)(bO:i<listed.size)(he:es[i]?=some e){t:Nat}(bZ:e.gv t=none)(p:aG):
  hf (fe (listed.setIfInBounds i true)) t 0 es p=hf (fe listed) t 0 es p:=by
 refine AS fun j wW bm C'=>?_
 rw[dW,KG bO,bH];grind
theorem pF.last(h:pF P ops bs env0 es ms)(ao:qt ops listed)(ak:listed.size=ops.size)(hi:i∈Region.ready .any ops listed){o:Oper}(bc:ops[i]?=some o)(he:es[i]?=some e)
  {t:Nat} {q:aG} (bZ:e.gv t=some q) (p:aG):hf (fe (listed.setIfInBounds i true)) t 0 es p=q:=by
 have bO:i<listed.size:=ak▸(jF.1 bc).1;have gg:listed.getD i false=false:=by
  have b4:=(mem_ready.1 hi).1;grind
 refine Qk he bZ (by rw[dW,KG bO,bL rfl]) fun j wW bm YY C'=>?_
 rw[dW,KG bO,bH (by omega)];have:=Qq h.ord bc he YY (by omega) C' (t:=t) (by
  grind[D2,iy,Qp])
 unfold Dp at this;rw[bH (by omega)]at this;cases HB:fe listed j with
 | false=>rfl
 | true=>have:=D1 h.masks ao ak j HB this;grind
theorem pF.step(h:pF P ops bs env0 es ms)(ao:qt ops listed)(ak:listed.size=ops.size)(hi:i∈Region.ready .any ops listed)(o8:i<es.length){w0:eE}{w:World}{a:Act}
  (aH:Rel w0 (e8 env0 bs (fe listed) es) a w) {Q:Exit->Act->World->Prop} {K:Act->World->Prop} (hH:∀cI aN,Rel w0 (e8 env0 bs (fe (listed.setIfInBounds i true)) es) cI aN->K cI aN):wpOp P ops Q i K a w:=by
 obtain⟨b4,o,bc,axW⟩:=mem_ready.1 hi;obtain⟨e,he,b8⟩:=h.facts i o o8 bc;have bO:i<listed.size:=ak▸(jF.1 bc).1;have Zs:=fun t bZ=>h.same ao ak hi bc he (t:=t) bZ
 have zw:∀t∈reads ops o,(e8 env0 bs (fun j=>decide (j<i)) es).env.getD t .cw=(e8 env0 bs (fe listed) es).env.getD t .cw:=fun t bZ=>(Zs t (jD _ bZ)).symm
 unfold wpOp;rw[bc];simp only;rcases b8 with⟨dR,ef,cC,hw,d,aI,rfl⟩ | ⟨dR,ef,cC,hw,ans,bz,g,cm,obs,eU,HG,Hn⟩ | ⟨dR,ef,cC,hw,ans,cm,obs,HN,HG⟩
 rotate_left 2
 ·have zE:=KF hw (bu:=e8 env0 bs (fe listed) es) zw;obtain⟨q',_⟩:=ww zE trivial aH;rw[bL q'];left;have Om:∀x∈o.op.operands.toList,(e8 env0 bs (fe listed) es).bn x=aF.bn ⟨(e8 env0 bs (fun j=>decide (j<i)) es).env,bs⟩ x:=fun x aq=>N5 fun t bZ=>(zw t (by
   grind[reads,iy])).symm
  have Hg:uO P (e8 env0 bs (fe listed) es) o ans=some (e,cm,obs):=by
   rw[<-HN];exact apv rfl Om
  obtain⟨v,d,x,y,t,YT,aI,p5,tD,q2,aq,n'⟩:=Qs Hg;have YU:rn ⟨(e8 env0 bs (fun j=>decide (j<i)) es).env,bs⟩ o=some v:=by
   rw[<-YT];exact (Qt (st:=e8 env0 bs (fe listed) es) (bu:=⟨(e8 env0 bs (fun j=>decide (j<i)) es).env,bs⟩) rfl Om).symm
  obtain⟨axZ,YB,On⟩:=h.aP i o v o8 bc YU;have gg:listed.getD i false=false:=by
   grind
  have tG:∀q∈(e8 env0 bs (fe listed) es).env,q.lh v.mP:=by
   intro q aL;simp only[e8]at aL;rw[mO]at aL;obtain⟨⟨jr,n⟩,hm,rfl⟩:=aL;have lv:jr∈env0:=by
    grind
   simp only;rcases KE (L:=fe listed) (t:=n) (es:=es) (k:=0) (acc:=jr) with⟨U,_⟩ | U | ⟨j,wW,U,aa,_,aJ,_⟩
   ·grind
   ·rw[U];exact⟨rfl,fun a aj=>by grind[aE.idx]⟩
   rw[aJ];refine YB j wW U ?_;rintro rfl;rw[dW]at aa;grind[fe]
  have Y8:(e8 env0 bs (fe listed) es).map (hk v.t v.i v.j v.k v.es v.kT v.esT)=e8 env0 bs (fe listed) es:=by
   have e1:(e8 env0 bs (fe listed) es).env.map (aG.map (hk v.t v.i v.j v.k v.es v.kT v.esT))=(e8 env0 bs (fe listed) es).env:=by
    conv=>rhs;rw[<-rT (e8 env0 bs (fe listed) es).env]
    grind[lK,apx]
   have e2:bs.map (fun x=>(x.1,x.2.map (hk v.t v.i v.j v.k v.es v.kT v.esT)))=bs:=by
    conv=>rhs;rw[<-rT bs]
    refine lK fun x aq=>?_
    obtain⟨ix,jB⟩:=x;simp only[id]
    congr 1
    conv=>rhs;rw[<-rT jB]
    exact lK fun l ar=>(On _ aq l ar).1
   unfold aF.map;rw[e1];show aF.mk _ (bs.map _)=_;rw[e2];rfl
  have o7:∀a∈(e8 env0 bs (fe listed) es).idx v.t v.j,a=v.i:=by
   intro cI aj;unfold aF.idx at aj;rcases lM.1 aj with aj | aj
   ·grind[apw]
   obtain⟨z,bp,aj⟩:=oO.1 aj;obtain⟨l,ar,aj⟩:=oO.1 aj;exact (On z bp l ar).2 cI aj
  obtain⟨ω,τ,hy⟩:=aH;obtain⟨z,aN,U,aa⟩:=hy.tm (P:=P) (d:=d) (ty:=o.type) (kT:=v.kT) (x:=x) (y:=y) (aG.dN aq (hy.bn x)) tD HG (aqi hy n') o7;rw[Y8]at aa;obtain⟨dst,op,type,pos,after,guard⟩:=o;simp only at aI p5;subst aI;subst p5;refine Calls.of (z:=z) (aN:=aN) ?_ (hH _ _ ?_)
  ·have:(execOp a.eval ⟨some d,.call ⟨.builtin .append,⟨[x,y]⟩,⟨[t,t]⟩⟩,type,pos,after,guard⟩)=(builtin .append ⟨[t,t]⟩ type (Array.map (fun | .const _=>true | _=>false) ⟨[x,y]⟩) (Array.map a.eval ⟨[x,y]⟩)):=by
    simp only[execOp,resolve];rfl
   rw[this];exact iX (by grind)
  refine aa.weaken (by simp[yc]) rfl ?_;intro n p hp;right;rw[qs,ca]at hp;obtain⟨jr,lv,rfl⟩:=hp;rw[oM];have Hm:e.dst=some d:=by rw[q2]
  have vq:e.use=[]:=by rw[q2]
  by_cases tF:d=n
  ·subst tF;have:d<env0.length:=(fP.1 lv).1;rw[bL rfl,bL (by grind[yc]),h.last ao ak hi bc he (q:=e.p) (by grind[dA.gv])]
  rw[bH tF,qs,lv,rR,h.fF bO he (by grind[dA.gv])]
 ·have zE:=KF hw (bu:=e8 env0 bs (fe listed) es) zw;obtain⟨q',_⟩:=ww zE trivial aH;rw[bH (by grind)];refine hH _ _ ((Ks aH).weaken ?_ ?_ ?_)
  ·simp[yc,AR,aI]
  ·simp[e8,AR,aI]
  intro t p hp;rw[qs,ca]at hp;obtain⟨jr,lv,rfl⟩:=hp;right;simp only[AR,aI];rw[oM];by_cases tF:d=t
  ·subst tF;have:d<env0.length:=(fP.1 lv).1;rw[bL rfl,bL (by grind[yc]),h.last ao ak hi bc he (q:=.one (.v undef)) (by simp[dA.gv,yd])]
  rw[bH tF,qs,lv,rR,h.fF bO he (by grind[dA.gv,yd])]
 have zE:=KF hw (bu:=e8 env0 bs (fe listed) es) zw;obtain⟨q',_⟩:=ww zE trivial aH;rw[bL q'];left;have Hg:r7 P (e8 env0 bs (fe listed) es) o ans=some (bz,g,cm,obs):=by
  rw[<-eU];refine apt rfl fun x aq=>N5 fun t bZ=>(zw t ?_).symm
  grind[reads,iy]
 obtain⟨ax,d,Hk,p5⟩:=Qi Hg;obtain⟨u,Hn⟩:=Hn;have xk:e.nF=bz.nF/\e.dst=bz.dst:=by
  grind
 obtain⟨xk,Yy⟩:=xk;rw[<-xk]at ax;obtain⟨ZA,ZB,ayp⟩:=apu h.tok he;have Yg:((e8 env0 bs (fe listed) es).map (aE.cF g fun _=>true)).boxes=bs:=by
  simp only[aF.map,e8]
  conv=>rhs;rw[<-rT bs]
  grind[lK,id,Qc]
 refine aqa p5 HG aH fun cI aN eS=>hH _ _ ?_
 rw[Yg]at eS;have np:Rel w0 ⟨((e8 env0 bs (fe listed) es).map (aE.cF g fun _=>true)).env.set d e.p,bs⟩ cI aN:=by
  rcases Hn with rfl | ⟨c,b,hp,ji,rfl⟩
  ·exact eS
  rw[hp]at eS;subst ji;exact eS.bool
 refine np.weaken (by simp[yc,aF.map]) rfl ?_;intro t p hp;rw[qs,ca]at hp;obtain⟨jr,lv,rfl⟩:=hp;rw[oM];have Hm:e.dst=some d:=Yy.trans Hk;by_cases tF:d=t
 ·subst tF;right;have:d<env0.length:=(fP.1 lv).1;rw[bL rfl,bL (by grind[aF.map,yc]),h.last ao ak hi bc he (q:=e.p) (by grind[dA.gv])]
 rw[bH tF];by_cases ayr:t∈e.use
 ·left;exact h.last ao ak hi bc he (by grind[dA.gv]) jr
 have Hy:=h.fF bO he (t:=t) (by grind[dA.gv]) jr;rw[Hy];have ayg:hf (fe listed) t 0 es jr=.cw\/(hf (fe listed) t 0 es jr).eP e.nF=false:=by
  rcases KE (L:=fe listed) (t:=t) (es:=es) (k:=0) (acc:=jr) with⟨U,lr⟩ | U | ⟨j,wW,U,aa,aB,aJ,lr⟩
  ·right;rw[U];rcases ZB t jr lv with (a6 | a6) | a6
   rotate_left 2
   ·grind
   ·grind
   obtain⟨m,y,dn,hm,_,aj,hu,bZ⟩:=Qo a6;cases bZ;have:=lr m y hm (by rw[dW];exact AU h.masks ao ak hi aj);unfold dA.gv at this;grind
  ·exact .inl U
  right;rw[aJ];rw[dW]at aa;have gg:listed.getD i false=false:=by
   grind
  have si:j≠i:=by grind
  rcases ZA j wW U si with a6 | a6 | a6 | a6 | a6
  rotate_left 3
  ·grind
  ·obtain⟨m,y,dn,hm,Oz,aj,hu,bZ⟩:=Qo a6;rw[aB]at bZ;cases bZ;have:=lr m y hm (by omega) (by rw[dW];exact AU h.masks ao ak hi aj);unfold dA.gv at this;grind
  ·have:=D1 h.masks ao ak j aa a6;grind
  ·exact a6
  grind
 grind[aF.map,qs,aG.wA]
def KH(ops:Array Oper)(ms:List Nat)(k:Nat):Prop:=∀i,k<=i->i<ops.size->∀j,j<i->mj ms j i=true
theorem pF.any(h:pF P ops bs env0 es ms)(ay:KH ops ms es.length){w0:eE}{Q:Exit->Act->World->Prop}
  (jg:∀(gZ:Nat) {listed:Array Bool},qt ops listed->listed.size=ops.size->(∀j,j<es.length->listed.getD j false=true)->(∀j,es.length<=j->listed.getD j false=false)->listed.count false<=gZ->
   ∀{a:Act} {w:World},Rel w0 (e8 env0 bs (fun j=>decide (j<es.length)) es) a w->wpAny P .any ops Q gZ listed a w):
  ∀(gZ:Nat) {listed:Array Bool},qt ops listed->listed.size=ops.size->(∀j,es.length<=j->listed.getD j false=false)->listed.count false<=gZ->
  ∀{a:Act} {w:World},Rel w0 (e8 env0 bs (fe listed) es) a w->wpAny P .any ops Q gZ listed a w:=by
 intro gZ;induction gZ with
 | zero=>
  intro listed ao ak gg sh a w aH;by_cases hQ:∀j,j<es.length->listed.getD j false=true
  ·refine jg 0 ao ak hQ gg sh ?_;have:e8 env0 bs (fe listed) es=e8 env0 bs (fun j=>decide (j<es.length)) es:=by
    unfold e8
    congr 1
    refine lK fun x _=>?_
    refine AS fun j e bm _=>?_
    have bO:j<es.length:=(fP.1 bm).1;simp_all[dW,fe,decide_true]
   grind
  exfalso;apply hQ;intro j bm;have bO:j<listed.size:=ak▸yE bm h.len;cases b8:listed[j] with
  | true=>simp[lI bO,b8]
  | false=>
   have:0<listed.count false:=by
    grind[Array.count_pos_iff,Array.getElem_mem]
   omega
 | succ gZ eO=>
  intro listed ao ak gg sh a w aH;by_cases hQ:∀j,j<es.length->listed.getD j false=true
  ·refine jg _ ao ak hQ gg sh ?_;have:e8 env0 bs (fe listed) es=e8 env0 bs (fun j=>decide (j<es.length)) es:=by
    unfold e8
    congr 1
    refine lK fun x _=>?_
    refine AS fun j e bm _=>?_
    have bO:j<es.length:=(fP.1 bm).1;simp_all[dW,fe,decide_true]
   grind
  refine⟨fun xi=>absurd (fun j bm=>KB h.masks ak xi j (yE bm h.len)) hQ,fun i hi=>?_⟩;have o8:i<es.length:=by
   rcases pE i es.length with U | U
   ·exact U
   exfalso;obtain⟨_,o,bc,_⟩:=mem_ready.1 hi;have bO:i<ops.size:=(jF.1 bc).1;exact hQ fun j bm=>AU h.masks ao ak hi (ay i U bO j (yE bm U))
  refine h.step ao ak hi o8 aH fun cI aN eS=>eO (ao.ready hi) (by grind) (fun j bm=>?_) ?_ eS
  ·rw[getD_set_ne false (by omega)];grind
  obtain⟨U,o,bc,_⟩:=mem_ready.1 hi;have bO:i<listed.size:=ak▸(jF.1 bc).1;have b8:listed[i]=false:=by simpa[lI bO]using U
  grind
end
def yf(P:Program)(ops:Array Oper):List Oper->aF->List cd->Stepped
 | [],st,ans=>some (st,ans,[])
 | o::rest,st,ans=>
  match qh P ops o st ans with
  | some (dR,fl,fT)=>(yf P ops rest dR fl).map fun r=>(r.1,r.2.1,fT++r.2.2)
  | none=>none
theorem Qu{Q:Exit->Act->World->Prop}(hi:ops[i]?=some o)(h:qh P ops o st ans=some (bu,cm,obs))(bc:cK obs)
  {a:Act} {w:World} (aZ:Rel w0 st a w) {K:Act->World->Prop} (hH:∀cI aN,Rel w0 bu cI aN->K cI aN):wpOp P ops Q i K a w:=by
 unfold wpOp;rw[hi];simp only;unfold qh at h;split at h
 ·rename_i dR fl fT hw;rw[ca]at h;obtain⟨⟨bE,b0,ch⟩,U,h⟩:=h;simp only[bA]at h;obtain⟨rfl,rfl,rfl⟩:=h;obtain⟨cC,cg⟩:=bc.append;obtain⟨q',hy⟩:=ww hw cC aZ;rw[bL q'];grind[Kr]
 ·rename_i dR fl fT hw;simp only[aW,bA]at h;obtain⟨rfl,rfl,rfl⟩:=h;obtain⟨q',hy⟩:=ww hw bc aZ;simp_all[bH,Ks]
 cases h
theorem apy(hm:rp ms ops.toList=true)(ay:KH ops ms k){Q:Exit->Act->World->Prop}:∀(gZ n:Nat) {listed:Array Bool},k<=n->n<=ops.size->
  qt ops listed->listed.size=ops.size->(∀j,j<n->listed.getD j false=true)->(∀j,n<=j->listed.getD j false=false)->listed.count false<=gZ->
  ∀{st bu:aF} {ans cm:List cd} {obs:List Prop},yf P ops (ops.toList.drop n) st ans=some (bu,cm,obs)->cK obs->
  ∀{a:Act} {w:World},Rel w0 st a w->(∀cI aN,Rel w0 bu cI aN->Q .normal cI aN)->wpAny P .any ops Q gZ listed a w:=by
 have fin:∀{listed:Array Bool} {n:Nat},n=ops.size->listed.size=ops.size->(∀j,j<n->listed.getD j false=true)->Region.ready .any ops listed=[]:=by
  intro listed n a' ak U;rw[List.eq_nil_iff_forall_not_mem];intro j bm;obtain⟨aa,o,bc,_⟩:=mem_ready.1 bm;grind
 intro gZ;induction gZ with
 | zero=>
  intro n listed Y0 a' ao ak U aa sh st bu ans cm obs h bc a w aH jg;have zr:n=ops.size:=by
   rcases pE n ops.size with bO | o6
   ·have jM:n<listed.size:=ak▸bO;have b8:listed[n]=false:=by simpa[lI jM]using aa n (gw _)
    have:0<listed.count false:=by
     grind[Array.count_pos_iff,Array.getElem_mem]
    omega
   omega
  rw[List.drop_eq_nil_of_le (by simp[zr])]at h;simp only[yf,aW,bA]at h;obtain⟨rfl,_,_⟩:=h;exact⟨fin zr ak U,jg _ _ aH⟩
 | succ gZ eO=>
  intro n listed Y0 a' ao ak U aa sh st bu ans cm obs h bc a w aH jg;rcases pE n ops.size with bO | o6
  ·have jM:n<listed.size:=ak▸bO;have aI:ops.toList.drop n=ops[n]::ops.toList.drop (n+1):=by
    grind[List.drop_eq_getElem_cons]
   rw[aI]at h;simp only[yf]at h;split at h
   ·rename_i dR fl fT aB;rw[ca]at h;obtain⟨⟨bE,b0,ch⟩,aJ,h⟩:=h;simp only[bA]at h;obtain⟨rfl,rfl,rfl⟩:=h;obtain⟨cC,cg⟩:=bc.append;refine⟨fun xi=>?_,fun i hi=>?_⟩
    ·exfalso;have:=KB hm ak xi n bO;grind
    have n8:i=n:=by
     obtain⟨a6,o,lX,_⟩:=mem_ready.1 hi;have xf:i<ops.size:=(jF.1 lX).1;have ni:i<listed.size:=ak▸xf;rcases Nat.lt_trichotomy i n with bF | bF | bF
     ·grind
     ·exact bF
     have:=AU hm ao ak hi (ay i (by omega) xf n bF);grind
    subst n8;refine Qu (lI bO) aB cC aH fun cI aN eS=>eO (i+1) (by omega) (by omega) (ao.ready hi) (by grind) (fun j bm=>?_) (fun j bm=>?_) ?_ aJ cg eS jg
    ·by_cases si:j=i
     ·simp_all
     rw[getD_set_ne false (Ne.symm si)];grind
    ·rw[getD_set_ne false (by omega)];grind
    have b8:listed[i]=false:=by simpa[lI jM]using aa i (gw _)
    grind
   cases h
  have zr:n=ops.size:=by omega
  rw[List.drop_eq_nil_of_le (by simp[zr])]at h;simp only[yf,aW,bA]at h;obtain⟨rfl,_,_⟩:=h;have xi:=fin zr ak U;refine⟨fun _=>jg _ _ aH,fun i hi=>?_⟩;grind
def ta(ms:List Nat):Nat->Nat
 | 0=>0
 | i+1=>if ms.getD i 0==2 ^ i-1 then ta ms i else i+1
theorem Qv(ms:List Nat):∀n,ta ms n<=n
 | 0=>gw _
 | n+1=>by
  unfold ta;split
  ·exact tj (Qv ms n) (Nat.le_succ n)
  grind
theorem Qw(ms:List Nat):∀n i,ta ms n<=i->i<n->∀j,j<i->mj ms j i=true
 | 0,_,_,h,_,_=>absurd h (Nat.not_lt_zero _)
 | n+1,i,U,aa,j,bm=>by
  unfold ta at U;split at U
  ·rename_i he;by_cases n8:i=n
   ·subst n8;unfold mj;grind
   exact Qw ms n i U (by omega) j bm
  omega
theorem Sat.drew{ω:Own}{τ:Nat->Nat×Value}{l:aE}{y:Value}(h:Sat w ω τ l y):Sat w.drew ω τ l y:=by
 have b8:∀{R:List (Nat×Nat)->di->Prop} {d:D} {y:Value},b1 w ω R d y->b1 w.drew ω R d y:=fun h=>h.frame fun _ _ _ aL=>⟨aL,rfl⟩
 cases l with
 | J t k es=>exact⟨b8 h.1,h.2⟩
 | cL t k es i j=>
  obtain⟨b,off,cap,U,aa,aB,aJ⟩:=h;exact⟨b,off,cap,U,aa,b8 aB,aJ⟩
 | hU ds off=>
  obtain⟨b,U,aa⟩:=h;exact⟨b,U,b8 aa⟩
 | fd d=>exact b8 h
 | dt t k es=>exact⟨b8 h.1,h.2⟩
 | aP t i j k es m=>
  obtain⟨u,hu,U,hm⟩:=h;exact⟨u,hu,b8 U,hm⟩
 | fp t vs=>
  obtain⟨b,ty,arr,U,aa,aB,a',bx⟩:=h;refine⟨b,ty,arr,U,aa,aB,a',fun j c ao=>?_⟩;obtain⟨u,gG,fw⟩:=bx j c ao;refine⟨u,gG,?_⟩;cases c with
  | cw=>exact trivial
  | v x=>exact fw
  | J t k es=>exact⟨b8 fw.1,fw.2⟩
 | _=>exact h
theorem Rel.drew(h:Rel w0 st a w):Rel w0 st a w.drew:=by
 obtain⟨ω,τ,h⟩:=h;have hi:∀p:aG,p.map _root_.id=p:=by
  intro p;cases p with
  | aC a=>cases a<;>simp[aG.map,bl.map]
  | fN as=>
   simp only[aG.map]
   congr 1
   have:bl.map _root_.id=_root_.id:=by funext a;cases a<;>simp[bl.map]
   simp_all
 refine⟨ω,τ,h.defers,h.size,h.below.next (gA.refl _ _).drew,h.owned,h.fixed,h.pinned,fun i p hp=>?_,fun id ls ar=>?_⟩
 ·obtain⟨v,U,aa⟩:=h.env i p hp;have:=cO.map (kI:=Sat w.drew ω τ) (f:=_root_.id) (fun l v ak=>Sat.drew ak) aa;grind
 obtain⟨b,arr,ty,U,aa,aB,aJ⟩:=h.boxes id ls ar;have:=kn.map (kI:=Sat w.drew ω τ) (f:=_root_.id) (fun l v ak=>Sat.drew ak) aJ;rw[rT]at this;exact⟨b,arr,ty,U,aa,aB,this⟩
def Dt:Nat->List aG->List Nat
 | _,[]=>[]
 | i,p::r=>match p.leaf with | some (.fp t _)=>if t=i then i::Dt (i+1) r else Dt (i+1) r | _=>Dt (i+1) r
def yg(env:List aG):List Oper->List Nat
 | []=>[]
 | o::r=>
  match o.dst,o.op with
  | none,.store _ (.tmp s) _=>
   match (env.getD s .cw).leaf with
   | some (.ptr d 0)=>if d=s/\s<da/\!(yg env r).contains s then s::yg env r else yg env r
   | _=>yg env r
  | _,_=>yg env r
def apz(env0:List aG)(bs:List (Nat×List aE))(es:List dA)(i:Nat):List aE:=
 env0.flatMap aG.tP++(bs.flatMap (·.2)++(es.zipIdx.filter fun x=>x.2 != i).flatMap fun x=>x.1.p.tP)
def KI(P:Program)(ops:Array Oper)(st:aF)(ans:List cd):Stepped:=
 let gs:=ops.toList.filterMap (Kx ops)
 let ms:=ri ops.toList []
 let k:=ta ms ops.size
 match AM (yg st.env (ops.toList.take k)) st with
 | some fH=>
  match uj P ops gs fH.boxes (ops.toList.take k) fH.env ans with
  | some (es,tv,fl,fT)=>
   if P.follows .mixedOrders&&rp ms ops.toList&&KC ops ms es&&KD ms es fH.env fH.boxes then
    match AN (Dt 0 tv) ⟨tv,fH.boxes⟩,yt fH.boxes (apz fH.env fH.boxes es) 0 (ops.toList.take k) fH.env es with
    | some oI,some xw=>(yf P ops (ops.toList.drop k) oI fl).map fun r=>(r.1,r.2.1,fT++(xw++r.2.2))
    | _,_=>none
   else none
  | none=>none
 | none=>none
theorem apA(h:KI P ops st ans=some (bu,cm,obs))(bc:cK obs)(aH:Rel w0 st a w){id:Nat}
  {Q:Exit->Act->World->Prop} (jg:∀cI aN,Rel w0 bu cI aN->Q .normal cI aN):(Code.region id ops true).wp P Q a w:=by
 unfold KI at h;simp only at h;split at h
 case h_2=>cases h
 rename_i fH OT;replace aH:=QL aH OT;clear OT;revert aH h;generalize fH=st;intro h aH;split at h
 ·rename_i es tv fl fT fv;split at h
  ·rename_i ao;split at h
   rotate_left
   ·cases h
   rename_i oI xw HC Zu;rw[ca]at h;obtain⟨⟨bE,b0,ch⟩,Zw,h⟩:=h;simp only[bA]at h;obtain⟨rfl,rfl,rfl⟩:=h;obtain⟨HD,HE⟩:=bc.append;obtain⟨Zg,HE⟩:=HE.append;simp only[cH]at ao;obtain⟨⟨⟨hm,OA⟩,Zi⟩,j9⟩:=ao;have aya:=Qv (ri ops.toList []) ops.size;obtain⟨hlen,zj,YC⟩:=AT fv HD;have CW:es.length=ta (ri ops.toList []) ops.size:=by
    grind
   have ayn:∀(i:Nat),i<es.length->(ops.toList.take (ta (ri ops.toList []) ops.size))[i]?=ops[i]?:=by
    grind
   have aI:∀(i:Nat) (e:dA),es[i]?=some e->e.dst≠none:=by
    intro i e hi;have bO:i<(ops.toList.take (ta (ri ops.toList []) ops.size)).length:=hlen▸(fP.1 hi).1;obtain⟨e',U,aa⟩:=YC i _ (iB bO);rw[hi]at U;cases U;exact aa.dst
   have Oa:pF P ops st.boxes st.env es (ri ops.toList []):=by
    refine⟨by omega,fun i o o8 hi=>?_,OA,fun i o v o8 hi bx=>?_,Zi,j9⟩
    rotate_left
    ·have C9:=Ql Zu Zg i o (by grind) o8 v (by
      grind[Ds])
     rw[dW]at C9;refine⟨fun q aL=>aG.zO fun l ar=>C9 l ?_,fun j x bm db=>aG.zO fun l ar=>C9 l ?_,fun x aq l ar=>C9 l ?_⟩
     ·exact iy _ (oO.2 ⟨q,aL,ar⟩)
     ·refine jD _ (jD _ (oO.2 ⟨(x,j),List.mem_filter.2 ⟨?_,by grind⟩,ar⟩));grind
     exact jD _ (iy _ (oO.2 ⟨x,aq,ar⟩))
    grind[Ds]
   have va:KH ops (ri ops.toList []) es.length:=fun i U aa j bm=>Qw _ _ i (by omega) aa j bm
   refine wp_region_any hm (Oa.any va (w0:=w0) ?_ ops.size ?_ (by simp) ?_ ?_ ?_)
   ·intro gZ listed pW ak iI c1 sh cI aN eS;refine apy OA va gZ es.length (gw _) (by omega) pW ak iI c1 sh (st:=oI) (by rw[CW];exact Zw) HE (QM ?_ HC) jg;have:=Ds (env0:=st.env) (bs:=st.boxes) aI es.length (gw _);rw[kX,<-zj]at this;rw[this];exact eS
   ·intro j o bm;have:=D0 bm;simp_all
   ·intro j _;by_cases bm:j<ops.size
    ·simp[bm]
    simp[bm]
   ·simp_all
   have:e8 st.env st.boxes (fe (Array.replicate ops.size false)) es=st:=by
    have lr:∀(es:List dA) (t k:Nat) (acc:aG),hf (fe (Array.replicate ops.size false)) t k es acc=acc:=by
     intro es;induction es with
     | nil=>intro t k acc;rfl
     | cons e1 es eO=>
      intro t k acc;simp only[hf];rw[bH,eO];unfold fe;intro ao;have:=D0 ao;simp_all
    obtain⟨env,bs⟩:=st;unfold e8;simp_all
   rw[this];exact aH.drew
  cases h
 cases h
end Go.Sx
namespace Go.Sx
open Go.RowKit
def ek(P:Program)(ops:Array Oper)(st bu:aF):Prop:=
 ∀(w0:eE) (a:Act) (w:World) (id:Nat) (Q:Exit->Act->World->Prop),Rel w0 st a w->(∀cI aN,Rel w0 bu cI aN->Q .normal cI aN)->(Code.region id ops true).wp P Q a w
def Du(o:Oper)(m:Nat):Bool:=o.after.toList.all fun e=>!Region.binds .any e||m.testBit e.on
def qe(m:Nat):Nat->List Oper->List (Nat×Oper)
 | _,[]=>[]
 | i,o::r=>if !m.testBit i&&Du o m then (i,o)::qe m (i+1) r else qe m (i+1) r
def runM(P:Program)(ops:Array Oper)(A:List (List cd))(m:Nat):Nat->List Oper->aF->aF
 | _,[],st=>st
 | i,o::r,st=>if m.testBit i then (match qh P ops o st (A.getD i []) with | some x=>runM P ops A m (i+1) r x.1 | none=>st) else runM P ops A m (i+1) r st
def yM(x:Nat)(l:List Nat):List Nat:=if l.any (Nat.beq x) then l else x::l
def zP:Nat->List (Nat×Oper)->List Nat->List Nat
 | _,[],l=>l
 | m,x::r,l=>yM (m ||| 2 ^ x.1) (zP m r l)
def zS(ops:List Oper):List Nat->List Nat
 | []=>[]
 | m::r=>zP m (qe m 0 ops) (zS ops r)
abbrev wO:=Option (aF×List cd×List Prop)
def Cz(P:Program)(ops:Array Oper)(A:List (List cd))(st:aF):List (Nat×Oper)->List wO
 | []=>[]
 | x::r=>qh P ops x.2 st (A.getD x.1 [])::Cz P ops A st r
def CB(P:Program)(ops:Array Oper)(A:List (List cd))(O:List (List Prop))(fH:aF)(m:Nat):List (Nat×Oper)->List wO
 | []=>[]
 | x::r=>some (runM P ops A (m ||| 2 ^ x.1) 0 ops.toList fH,[],O.getD x.1 [])::CB P ops A O fH m r
def CA(P:Program)(ops:Array Oper)(A:List (List cd))(fH:aF):List Nat->List (List wO)
 | []=>[]
 | m::r=>Cz P ops A (runM P ops A m 0 ops.toList fH) (qe m 0 ops.toList)::CA P ops A fH r
def CC(P:Program)(ops:Array Oper)(A:List (List cd))(O:List (List Prop))(fH:aF):List Nat->List (List wO)
 | []=>[]
 | m::r=>CB P ops A O fH m (qe m 0 ops.toList)::CC P ops A O fH r
def yR(P:Program)(ops:Array Oper)(A:List (List cd))(fH:aF):Nat->List Nat->List (List (List wO))
 | 0,_=>[]
 | n+1,l=>CA P ops A fH l::yR P ops A fH n (zS ops.toList l)
def yS(P:Program)(ops:Array Oper)(A:List (List cd))(O:List (List Prop))(fH:aF):Nat->List Nat->List (List (List wO))
 | 0,_=>[]
 | n+1,l=>CC P ops A O fH l::yS P ops A O fH n (zS ops.toList l)
variable{P:Program}{ops:Array Oper}{A:List (List cd)}{O:List (List Prop)}{fH st:aF}{m:Nat}
theorem Qx:∀{l:List (Nat×Oper)},Cz P ops A st l=CB P ops A O fH m l->
  ∀x∈l,qh P ops x.2 st (A.getD x.1 [])=some (runM P ops A (m ||| 2 ^ x.1) 0 ops.toList fH,[],O.getD x.1 [])
 | [],_,x,aq=>by cases aq
 | y::r,h,x,aq=>by
  simp only[Cz,CB,rS]at h;rcases eK.1 aq with rfl | aq
  ·exact h.1
  exact Qx h.2 x aq
theorem Qy:∀{l:List Nat},CA P ops A fH l=CC P ops A O fH l->
  ∀m∈l,∀x∈qe m 0 ops.toList,qh P ops x.2 (runM P ops A m 0 ops.toList fH) (A.getD x.1 [])=some (runM P ops A (m ||| 2 ^ x.1) 0 ops.toList fH,[],O.getD x.1 [])
 | [],_,m,hm=>by cases hm
 | m0::r,h,m,hm=>by
  simp only[CA,CC,rS]at h;rcases eK.1 hm with rfl | hm
  ·exact Qx h.1
  exact Qy h.2 m hm
theorem apB{x:Nat}{l:List Nat}:x∈yM x l:=by
 unfold yM;split
 ·rename_i h;obtain⟨y,bM,he⟩:=rU.1 h;rwa[Nat.eq_of_beq_eq_true he]
 exact kG
theorem Qz{x y:Nat}{l:List Nat}(h:y∈l):y∈yM x l:=by
 unfold yM;split
 ·exact h
 exact iA _ h
theorem P1{x:Nat×Oper}:∀{r:List (Nat×Oper)} {l:List Nat},x∈r->(m ||| 2 ^ x.1)∈zP m r l
 | [],_,h=>by cases h
 | y::r,l,h=>by
  simp only[zP];rcases eK.1 h with rfl | h
  ·exact apB
  exact Qz (P1 h)
theorem P2{k:Nat}:∀{r:List (Nat×Oper)} {l:List Nat},k∈l->k∈zP m r l
 | [],_,h=>h
 | _::_,_,h=>Qz (P2 h)
theorem P3{ops:List Oper}{x:Nat×Oper}:∀{l:List Nat},m∈l->x∈qe m 0 ops->(m ||| 2 ^ x.1)∈zS ops l
 | [],h,_=>by cases h
 | k::r,h,aq=>by
  simp only[zS];rcases eK.1 h with rfl | h
  ·exact P1 aq
  exact P2 (P3 h aq)
theorem P4{m:Nat}:∀{l:List Oper} {i j:Nat} {o:Oper},l[j]?=some o->m.testBit (i+j)=false->Du o m=true->(i+j,o)∈qe m i l
 | [],_,_,_,h,_,_=>by simp at h
 | y::r,i,0,o,h,U,aa=>by
  simp only[lg,aW]at h;subst h;simp only[qe];rw[bL (by rw[nO]at U;simp[U,aa])];exact kG
 | y::r,i,j+1,o,h,U,aa=>by
  have:=P4 (m:=m) (l:=r) (i:=i+1) (j:=j) (o:=o) (by simpa using h) (by rwa[show i+1+j=i+(j+1) by omega]) aa;rw[show i+1+j=i+(j+1) by omega]at this;simp only[qe];split
  ·exact iA _ this
  exact this
theorem KJ{m k:Nat}:∀{l:List Oper} {i:Nat} {st:aF},(∀j,i<=j->j<i+l.length->m.testBit j=k.testBit j)->runM P ops A m i l st=runM P ops A k i l st
 | [],_,_,_=>rfl
 | o::r,i,st,h=>by
  simp only[runM];rw[h i (gw _) (by simp)];split
  ·split
   ·exact KJ fun j U aa=>h j (by omega) (by simp only[ic];omega)
   rfl
  exact KJ fun j U aa=>h j (by omega) (by simp only[ic];omega)
theorem P5:∀{O:List (List Prop)} (i:Nat),cK O.flatten->cK (O.getD i [])
 | [],i,_=>by simp[cK]
 | o::r,0,h=>by
  rw[List.flatten_cons]at h;exact (cK.append h).1
 | o::r,i+1,h=>by
  rw[List.flatten_cons]at h;exact P5 i (cK.append h).2
theorem apC{ms:List Nat}{w0:eE}{Q:Exit->Act->World->Prop}(hm:rp ms ops.toList=true)(bc:cK O.flatten)
  (jg:∀cI aN,Rel w0 (runM P ops A (2 ^ ops.size-1) 0 ops.toList fH) cI aN->Q .normal cI aN):∀(gZ:Nat) {l:List Nat},yR P ops A fH gZ l=yS P ops A O fH gZ l->
  ∀{m:Nat} {listed:Array Bool},m∈l->listed.size=ops.size->(∀j,j<ops.size->listed.getD j false=m.testBit j)->listed.count false<=gZ->
  ∀{a:Act} {w:World},Rel w0 (runM P ops A m 0 ops.toList fH) a w->wpAny P .any ops Q gZ listed a w:=by
 have fin:∀{m:Nat} {listed:Array Bool},(∀j,j<ops.size->listed.getD j false=m.testBit j)->(∀j,j<ops.size->listed.getD j false=true)->
   ∀{a:Act} {w:World},Rel w0 (runM P ops A m 0 ops.toList fH) a w->Q .normal a w:=by
  intro m listed U aa a w aH;refine jg a w ?_;rw[KJ (m:=2 ^ ops.size-1) (k:=m)]
  ·exact aH
  intro j _ bm;have zn:j<ops.size:=by simpa using bm
  rw[<-U j zn,aa j zn,Nat.testBit_two_pow_sub_one,kF zn]
 intro gZ;induction gZ with
 | zero=>
  intro l _ m listed _ ak U sh a w aH;have hQ:∀j,j<ops.size->listed.getD j false=true:=by
   intro j bm;cases ar:listed.getD j false with
   | true=>rfl
   | false=>
    exfalso;have jM:j<listed.size:=ak▸bm;have b8:listed[j]=false:=by simpa[lI jM]using ar
    have:0<listed.count false:=by
     rw[Array.count_pos_iff];exact b8▸Array.getElem_mem jM
    omega
  refine⟨?_,fin U hQ aH⟩;rw[List.eq_nil_iff_forall_not_mem];intro j bm;obtain⟨aa,o,lX,_⟩:=mem_ready.1 bm;have bO:j<ops.size:=(jF.1 lX).1;have aB:=hQ j bO;have jM:j<listed.size:=ak▸bO;simp[lI jM]at aa aB;rw[aa]at aB;cases aB
 | succ gZ eO=>
  intro l he m listed q7 ak U sh a w aH;simp only[yR,yS,rS]at he;refine⟨fun xi=>fin U (KB hm ak xi) aH,fun i hi=>?_⟩;obtain⟨a6,o,lX,Hm⟩:=mem_ready.1 hi;have bO:i<ops.size:=(jF.1 lX).1;have jM:i<listed.size:=ak▸bO;have Oq:listed.getD i false=false:=by
   simp[lI jM]at a6 ⊢;exact a6
  have Y9:Du o m=true:=by
   unfold Du;rw[fU];intro e xc;cases ay:Region.binds .any e with
   | false=>rfl
   | true=>
    have bF:=Hm e (by simpa using xc) ay;have bY:e.on<listed.size:=D0 bF;rw[U e.on (ak▸bY)]at bF;simp[bF]
  have OF:(i,o)∈qe m 0 ops.toList:=by
   have:=P4 (m:=m) (l:=ops.toList) (i:=0) (j:=i) (o:=o) (by simpa using lX) (by rw[dW,<-U i bO,Oq]) Y9;rwa[dW]at this
  have p4:=Qy he.1 m q7 _ OF;refine Qu lX p4 (P5 i bc) aH fun cI aN eS=>eO he.2 (P3 q7 OF) (by simpa using ak) (fun j bm=>?_) ?_ eS
  ·rw[Nat.testBit_or,Nat.testBit_two_pow];by_cases si:j=i
   ·subst si;have bp:j<(listed.setIfInBounds j true).size:=by simpa using jM
    simp[lI bp]
   rw[getD_set_ne false (Ne.symm si),U j bm,mg (Ne.symm si),Bool.or_false]
  have b8:listed[i]=false:=by simpa[lI jM]using Oq
  have:(listed.setIfInBounds i true).count false=listed.count false-1:=by
   have e:listed.setIfInBounds i true=listed.set i true jM:=by unfold Array.setIfInBounds;rw[dif_pos jM]
   rw[e,Array.count_set];simp[b8]
  omega
theorem ek.of{bu:aF}(A:List (List cd))(O:List (List Prop))(ao:(P.follows .mixedOrders&&rp (ri ops.toList []) ops.toList)=true)
  (he:yR P ops A st ops.size [0]=yS P ops A O st ops.size [0]) (b8:runM P ops A (2 ^ ops.size-1) 0 ops.toList st=bu) (bc:cK O.flatten):ek P ops st bu:=by
 intro w0 a w id Q aH jg;simp only[cH]at ao;have bp:∀{l:List Oper} {i:Nat},runM P ops A 0 i l st=st:=by
  intro l;induction l with
  | nil=>intro i;rfl
  | cons o r eO=>intro i;simp only[runM,Nat.zero_testBit,nM,lN];exact eO
 refine wp_region_any ao.1 (apC ao.2 bc (fun cI aN h=>jg cI aN (b8▸h)) ops.size he (m:=0) kG (by simp) (fun j bm=>by simp[bm]) (by simp[Array.count_replicate]) ?_);rw[bp];exact aH.drew
def KK(P:Program)(ops:Array Oper)(st:aF)(ans:List cd):Stepped:=
 match ans with
 | .h' bu::r=>some (bu,r,[ek P ops st bu])
 | _=>KI P ops st ans
theorem apD{bu:aF}{ans cm:List cd}{obs:List Prop}(h:KK P ops st ans=some (bu,cm,obs))(bc:cK obs){w0:eE}{a:Act}{w:World}(aH:Rel w0 st a w){id:Nat}
  {Q:Exit->Act->World->Prop} (jg:∀cI aN,Rel w0 bu cI aN->Q .normal cI aN):(Code.region id ops true).wp P Q a w:=by
 unfold KK at h;split at h
 ·simp only[aW,bA]at h;obtain⟨rfl,_,rfl⟩:=h;exact bc.1 w0 a w id Q aH jg
 exact apA h bc aH jg
