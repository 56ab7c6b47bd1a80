import Derived.Test.YtdchjefneblpgaaGreatR15
set_option linter.unusedVariables false
set_option linter.unusedSimpArgs false
namespace Go.Sx
open Go.RowKit
def jQ(i:Nat):Nat:=dn+i
def jv(i j:Nat):Nat:=dn+100+(100*i+j)
def aN.aI(i:Nat):aN->bn
 | .ro (.one (.J k es))=>.one (.dw (jv i 0) k es)
 | .ro a=>a.arg
 | .jf _ _ _=>.one (.ptr (jQ i) 0)
 | .fn g cT=>.one (.hv g (cT.map jQ))
def D.Sk(t:Nat):D->aH
 | .J k es=>.dw t k es
 | _=>.cA
def tO(i:Nat)(pn:List Bool):Nat->List D->List aH
 | _,[]=>[]
 | j,d::ds=>(if stays pn j then d.Sk (jv i j) else d.qn (rF i j))::tO i pn (j+1) ds
theorem UK(i:Nat)(pn:List Bool):∀(ds:List D) (j x:Nat),(tO i pn j ds)[x]?=(ds[x]?).map fun d=>if stays pn (j+x) then d.Sk (jv i (j+x)) else d.qn (rF i (j+x))
 | [],_,_=>by simp[tO]
 | d::ds,j,0=>by simp[tO]
 | d::ds,j,x+1=>by
  simp only[tO,oL,UK i pn ds (j+1) x];rw[show j+1+x=j+(x+1) by omega]
theorem UL(i:Nat)(pn:List Bool):∀(ds:List D) (j:Nat),(tO i pn j ds).length=ds.length
 | [],_=>rfl
 | d::ds,j=>by simp[tO,UL i pn ds (j+1)]
def vR:Nat->List aN->List aL
 | _,[]=>[]
 | i,a::as=>.aI (a.aI i)::vR (i+1) as
def zl:Nat->List aN->List (Nat×List aH)
 | _,[]=>[]
 | i,.jf pn pre _::as=>(jQ i,tO i pn 0 pre)::zl (i+1) as
 | i,.ro _::as=>zl (i+1) as
 | i,.fn _ _::as=>zl (i+1) as
def Bx(args:List aN)(ntmps:Nat):aJ:=⟨(vR 0 args).take (uc args)++List.replicate (ntmps-uc args) .cA,zl 0 args⟩
theorem TX:∀(as:List aN) (i x:Nat),(vR i as)[x]?=(as[x]?).map fun a=>.aI (a.aI (i+x))
 | [],i,x=>by simp[vR]
 | a::as,i,0=>by simp[vR]
 | a::as,i,x+1=>by
  simp only[vR,oL,TX as (i+1) x];rw[show i+1+x=i+(x+1) by omega]
theorem ML:∀(as:List aN) (i:Nat),(vR i as).length=as.length
 | [],_=>rfl
 | a::as,i=>by simp[vR,ML as (i+1)]
theorem F'{id:Nat}{ls:List aH}:∀{as:List aN} {i:Nat},dM id (zl i as)=some ls->∃x pn pre post,as[x]?=some (.jf pn pre post)/\id=jQ (i+x)/\ls=tO (i+x) pn 0 pre
 | [],i,h=>by cases h
 | .ro _::as,i,h=>by
  obtain⟨x,pn,pre,post,h1,U,ax⟩:=F' (as:=as) (i:=i+1) h;exact⟨x+1,pn,pre,post,by simpa using h1,by rw[U,show i+1+x=i+(x+1) by omega],by rw[ax,show i+1+x=i+(x+1) by omega]⟩
 | .fn _ _::as,i,h=>by
  obtain⟨x,pn,pre,post,h1,U,ax⟩:=F' (as:=as) (i:=i+1) h;exact⟨x+1,pn,pre,post,by simpa using h1,by rw[U,show i+1+x=i+(x+1) by omega],by rw[ax,show i+1+x=i+(x+1) by omega]⟩
 | .jf pn pre post::as,i,h=>by
  simp only[zl,dM]at h;split at h
  ·rename_i e;exact⟨0,pn,pre,post,rfl,e.symm,(eW h).symm⟩
  obtain⟨x,KC,pre,post,h1,U,ax⟩:=F' (as:=as) (i:=i+1) h;exact⟨x+1,KC,pre,post,by simpa using h1,by rw[U,show i+1+x=i+(x+1) by omega],by rw[ax,show i+1+x=i+(x+1) by omega]⟩
def CT(args:List aN):Bool:=decide (args.length<49)&&args.all fun
 | .ro _=>true
 | .jf pn pre post=>decide (pn.length<100)&&decide (pre.length<100)&&decide (post.length<100)
 | .fn _ cT=>cT.all fun k=>match args[k]? with | some (.jf _ _ _)=>true | _=>false
def DV:Value->Nat
 | .pointer (some p)=>p.block
 | _=>0
def oI(args:List aN)(w:World)(vs:Array Value)(t:Nat):Nat×Value:=
 if dn+100<=t then
  match args[(t-(dn+100)) / 100]? with
  | some (.jf _ pre _)=>(((pre[(t-(dn+100)) % 100]?).map D.ug).getD 0,jw w (vs.getD ((t-(dn+100)) / 100) undef) ((t-(dn+100)) % 100))
  | some (.ro (.one d))=>(d.ug,vs.getD ((t-(dn+100)) / 100) undef)
  | _=>(0,undef)
 else if dn<=t then (DV (vs.getD (t-dn) undef),undef) else
 match args[(t-900000000) / 100]? with
 | some (.jf _ pre _)=>(((pre[(t-900000000) % 100]?).map D.ug).getD 0,jw w (vs.getD ((t-900000000) / 100) undef) ((t-900000000) % 100))
 | _=>(0,undef)
def tD(ω:Own):Own:=fun b=>match ω b with | .box i=>.box (jQ i) | o=>o
variable{ω:Own}{b:Nat}
theorem axh{t:Nat}{q:List (Nat×Nat)}(h:ω b=.tok t q):tD ω b=.tok t q:=by simp only[tD,h]
theorem TY:tD ω b=.bI<->ω b=.bI:=by
 simp only[tD];cases ω b<;>simp
variable{i:Nat}
theorem Fi:tD ω b=.box (jQ i)<->ω b=.box i:=by
 simp only[tD];cases ω b with
 | bI=>simp
 | box j=>simp only[jQ,db.box.injEq];omega
 | tok t q=>simp
variable{args:List aN}{w:World}{vs:Array Value}
theorem TZ{j:Nat}{pn:List Bool}{pre post:List D}(h:args[i]?=some (.jf pn pre post))(a1:j<100):
  oI args w vs (jv i j)=(((pre[j]?).map D.ug).getD 0,jw w (vs.getD i undef) j):=by
 have e1:(jv i j-(dn+100)) / 100=i:=by simp only[jv];omega
 have e2:(jv i j-(dn+100)) % 100=j:=by simp only[jv];omega
 unfold oI;rw[bm (by simp only[jv];omega),e1,e2,h]
theorem T0{d:D}(h:args[i]?=some (.ro (.one d))):oI args w vs (jv i 0)=(d.ug,vs.getD i undef):=by
 have e1:(jv i 0-(dn+100)) / 100=i:=by simp only[jv];omega
 unfold oI;rw[bm (by simp only[jv];omega),e1,h]
theorem axi(dI:CT args=true)(h:H2 w ω args vs)(la:HY args vs)(lC:Tidy w ω)(ntmps:Nat):
  Rel ⟨w,fun b=>ω b≠.bI,oI args w vs⟩ (Bx args ntmps) { tmps:=vs.extract 0 (uc args)++Array.replicate (ntmps-(vs.extract 0 (uc args)).size) undef,defers:=[] } w:=by
 have Jv:uc args<=args.length:=Nat.sub_le _ _;obtain⟨fx,cy,aX,ak⟩:=h;simp only[CT,cx,cV,gx]at dI;have yA:∀{d:D} {y:Value},b0 w ω Tag.free.R d y->b0 w (tD ω) Tag.free.R d y:=fun h=>h.frame fun b q _ aK=>⟨TY.2 aK,rfl⟩
 have c':(vs.extract 0 (uc args)).size=uc args:=by simp[aX];omega
 refine⟨tD ω,oI args w vs,rfl,by rw[c'];simp[Bx,ML,aX],ha.start lC,fun b av=>?_,fun _ _=>rfl,?_,?_,fun id ls ap=>?_⟩
 ·have:ω b≠.bI:=fun e=>av (TY.2 e)
  exact⟨.inr this,fx b this⟩
 ·intro id b hi av;simp only[tD]at av;cases e:ω b with
  | bI=>rw[e]at av;cases av
  | tok t q=>rw[e]at av;cases av
  | box i=>
   rw[e]at av;simp only[db.box.injEq]at av;subst av;obtain⟨pn,pre,post,h1⟩:=cy b i e;obtain⟨v,bp,⟨eC,arr,ty,rfl,U,ax,_⟩,_⟩:=ak i _ h1;have:=ax b e;subst this;have A3:i<49:=by
    have:=(ek.1 h1).1;omega
   simp only[oI];rw[bk (by simp only[jQ];omega),bm hi,show jQ i-dn=i by simp[jQ],eG,bp];rfl
 ·intro i p hp;simp only[Bx]at hp;rw[l8,ma,ML,Nat.min_eq_left Jv]at hp;split at hp
  ·rename_i hi;rw[gI,bm hi,TX,cc]at hp;obtain⟨jP,p1,rfl⟩:=hp;rw[dF];obtain⟨v,bp,cF⟩:=ak i jP p1;have lb:i<vs.size:=by omega
   refine⟨v,by rw[hW,bm (by rw[c'];exact hi),Array.getElem?_extract,bm (by omega),dF,bp],?_⟩;cases jP with
   | fn g cT=>
    have h1:=la i g cT p1;rw[bp]at h1;cases h1;refine⟨cT.map fun k=>DV (vs.getD k undef),?_,by simp,fun j id a1=>?_⟩
    ·congr 2
     rw[List.map_map];refine l9 fun k hk=>?_
     have U:=dI.2 _ (ft p1);have ax:=gx.1 U k hk;split at ax
     ·rename_i pn pre post dd;obtain⟨v2,q5,⟨fG,_,_,rfl,_⟩,_⟩:=ak k _ dd;simp[eG,q5,ptrTo,DV]
     cases ax
    rw[dq,cc]at a1;obtain⟨k,hk,rfl⟩:=a1;have U:=dI.2 _ (ft p1);have ax:=gx.1 U k (ft hk);split at ax
    ·rename_i pn pre post dd;obtain⟨v2,q5,⟨fG,_,_,rfl,aZ,_⟩,_⟩:=ak k _ dd;refine⟨fG,?_,Fi.2 aZ⟩;simp[hk,eG,q5,ptrTo,DV]
    cases ax
   | jf pn pre post=>
    obtain⟨⟨b,arr,ty,rfl,U,_⟩,_⟩:=cF;exact⟨b,Fi.2 U,rfl⟩
   | ro cm=>
    cases cm with
    | one d=>
     cases d with
     | J k es=>
      refine⟨yA cF,fun _=>?_⟩;rw[T0 p1,eG,bp];rfl
     | v x=>exact D.dV (τ:=oI args w vs) (p:=(0,0)) (t:=.free) (yA cF)
     | ptr ds=>exact D.dV (τ:=oI args w vs) (p:=(0,0)) (t:=.free) (yA cF)
     | cl g cs=>exact D.dV (τ:=oI args w vs) (p:=(0,0)) (t:=.free) (yA cF)
    | agg ds=>
     obtain⟨us,rfl,hlen,pX⟩:=cF;refine⟨us,rfl,by simpa using hlen,fun j l ap=>?_⟩;rw[dq,cc]at ap;obtain⟨d,aG,rfl⟩:=ap;obtain⟨u,h1,U⟩:=pX j d aG;exact⟨u,h1,D.dV (p:=(0,0)) (t:=.free) (yA U)⟩
  rename_i hi;rw[DB]at hp;split at hp
  ·rename_i bz;simp only[aV]at hp;subst hp;refine⟨undef,?_,aa⟩;rw[hW,bk (by rw[c'];omega),Array.getElem?_replicate,bm (by rw[c'];omega)]
  cases hp
 obtain⟨i,pn,pre,post,h1,rfl,rfl⟩:=F' ap;rw[dF];obtain⟨v,bp,⟨b,arr,ty,rfl,U,ax,aF,aZ,bB⟩,bS⟩:=ak i _ h1;refine⟨b,arr,ty,Fi.2 U,fun dc dL=>ax dc (Fi.1 dL),aF,by rw[UL];exact aZ,fun j l ap=>?_⟩;rw[UK,cc]at ap;obtain⟨d,aG,rfl⟩:=ap;rw[dF];obtain⟨u,hu,aA⟩:=bB j d aG;have a1:j<100:=by
  have e1:=dI.2 _ (ft h1);simp only[cx,cV]at e1;have:=(ek.1 aG).1;omega
 refine⟨u,hu,?_⟩;cases fb:stays pn j with
 | true=>
  rw[bm rfl];have dv:=bS j d aG fb;have e:jw w (ptrTo b) j=u:=by simp[jw,ptrTo,aF,eG,hu]
  rw[e]at dv;cases d with
  | J k es=>
   refine⟨yA dv,fun _=>?_⟩;rw[TZ h1 a1,eG,bp];simp only[il,e,aG,mz];rfl
  | _=>exact trivial
 | false=>
 rw[bk (by simp)];replace aA:=aA fb;cases d with
 | v x=>
  have e:u=x:=by cases aA;rfl
  subst e;unfold D.qn;split
  ·rename_i h;cases h;exact rfl
  ·rename_i h;cases h;exact rfl
  ·rename_i h;cases h
  ·exact trivial
  exact trivial
 | ptr ds=>exact trivial
 | cl g bx=>exact trivial
 | J k es=>
  refine⟨aA.frame fun c q _ aK=>⟨axh aK,rfl⟩,?_⟩;have e1:(rF i j-900000000) / 100=i:=by simp only[rF];omega
  have e2:(rF i j-900000000) % 100=j:=by simp only[rF];omega
  have hi:i<49:=by
   have:=(ek.1 h1).1;omega
  simp only[Tag.ev,oI];rw[bk (by simp only[rF,dn];omega),bk (by simp only[rF,dn];omega)];simp only[e1,e2,h1,aG];simp[jw,ptrTo,aF,eG,bp,hu,D.ug]
def qp:List (Option Nat)->List aH->Option (List aH)
 | [],ls=>some ls
 | some t::ts,.dw s _ _::ls=>if s=t then (qp ts ls).map fun r=>.v (.bool true)::r else none
 | none::ts,l::ls=>(qp ts ls).map fun r=>l::r
 | none::ts,[]=>qp ts []
 | some _::_,_=>none
theorem Fj:∀{ts:List (Option Nat)} {ls fz:List aH},qp ts ls=some fz->fz.length=ls.length/\(∀(j t:Nat),ts[j]?=some (some t)->∃k es,ls[j]?=some (.dw t k es))/\∀j,ts.getD j none=none->fz[j]?=ls[j]?
 | [],ls,fz,h=>by
  simp only[qp,aV]at h;subst h;exact⟨rfl,fun j t h=>by simp at h,fun _ _=>rfl⟩
 | some t::ts,.dw s k es::ls,fz,h=>by
  simp only[qp]at h;split at h
  ·rename_i e;subst e;rw[cc]at h;obtain⟨r,h1,rfl⟩:=h;obtain⟨g1,g2,g3⟩:=Fj h1;refine⟨by simp[g1],fun j t a1=>?_,fun j a1=>?_⟩
   ·cases j with
    | zero=>
     simp only[kh,aV]at a1;subst a1;exact⟨k,es,rfl⟩
    | succ j=>exact g2 j t (by simpa using a1)
   cases j with
   | zero=>simp at a1
   | succ j=>simpa using g3 j (by simpa using a1)
  cases h
 | none::ts,l::ls,fz,h=>by
  simp only[qp,cc]at h;obtain⟨r,h1,rfl⟩:=h;obtain⟨g1,g2,g3⟩:=Fj h1;refine⟨by simp[g1],fun j t a1=>?_,fun j a1=>?_⟩
  ·cases j with
   | zero=>simp at a1
   | succ j=>exact g2 j t (by simpa using a1)
  cases j with
  | zero=>rfl
  | succ j=>simpa using g3 j (by simpa using a1)
 | none::ts,[],fz,h=>by
  simp only[qp]at h;obtain⟨g1,g2,g3⟩:=Fj h;refine⟨g1,fun j t a1=>?_,fun j a1=>?_⟩
  ·cases j with
   | zero=>simp at a1
   | succ j=>obtain⟨k,es,h⟩:=g2 j t (by simpa using a1);simp at h
  have:fz=[]:=sV g1;rw[this]
def td:List (Option Nat)->List aH->List D->List D
 | some _::ts,.dw _ k es::ls,_::ds=>.J k es::td ts ls ds
 | _::ts,_::ls,d::ds=>d::td ts ls ds
 | _,_,ds=>ds
theorem axj:∀(ts:List (Option Nat)) (ls:List aH) (ds:List D),(td ts ls ds).length=ds.length/\∀j,ts.getD j none=none->(td ts ls ds)[j]?=ds[j]?:=by
 intro ts ls ds
 fun_induction td ts ls ds with
 | case1 t ts s k es ls d ds ee=>
  refine⟨by simp[ee.1],fun j a1=>?_⟩;cases j with
  | zero=>simp at a1
  | succ j=>simpa using ee.2 j (by simpa using a1)
 | case2 x ts l ls d ds _ ee=>
  refine⟨by simp[ee.1],fun j a1=>?_⟩;cases j with
  | zero=>rfl
  | succ j=>simpa using ee.2 j (by simpa using a1)
 | case3=>exact⟨rfl,fun _ _=>rfl⟩
def sv(i:Nat):Nat->List Bool->List (Option Nat)
 | _,[]=>[]
 | j,b::r=>(if b then some (jv i j) else none)::sv i (j+1) r
theorem MN(i:Nat):∀(pn:List Bool) (j x:Nat),(sv i j pn)[x]?=(pn[x]?).map fun b=>if b then some (jv i (j+x)) else none
 | [],_,_=>by simp[sv]
 | b::r,j,0=>by simp[sv]
 | b::r,j,x+1=>by
  simp only[sv,oL,MN i r (j+1) x];rw[show j+1+x=j+(x+1) by omega]
def tP(st:aJ):Nat->List aN->Option (List aN×iR)
 | _,[]=>some ([],[])
 | i,.ro a::as=>(tP st (i+1) as).map fun r=>(.ro a::r.1,r.2)
 | i,.fn g cT::as=>(tP st (i+1) as).map fun r=>(.fn g cT::r.1,r.2)
 | i,.jf pn pre post::as=>
  match dM (jQ i) st.boxes with
  | some ls=>
   match qp (sv i 0 pn) ls with
   | some fz=>
    match rG (h7 i 0) fz post,tP st (i+1) as with
    | some (ds,ts),some r=>some (.jf pn pre (td (sv i 0 pn) ls ds)::r.1,ts++r.2)
    | _,_=>none
   | none=>none
  | none=>none
theorem Fk{st:aJ}:∀{as me:List aN} {i:Nat} {ts:iR},tP st i as=some (me,ts)->me.length=as.length/\∀(x:Nat) (pn:List Bool) (pre post:List D),me[x]?=some (.jf pn pre post)->
  ∃ls fz ds hint k4,dM (jQ (i+x)) st.boxes=some ls/\qp (sv (i+x) 0 pn) ls=some fz/\rG (h7 (i+x) 0) fz hint=some (ds,k4)/\post=td (sv (i+x) 0 pn) ls ds/\∀y∈k4,y∈ts
 | [],me,i,ts,h=>by
  simp only[tP,aV,bH]at h;obtain⟨rfl,rfl⟩:=h;exact⟨rfl,fun x pn pre post h=>by simp at h⟩
 | .ro a::as,me,i,ts,h=>by
  simp only[tP,cc]at h;obtain⟨⟨bF,bQ⟩,h1,h⟩:=h;simp only[bH]at h;obtain⟨rfl,rfl⟩:=h;obtain⟨cG,bM⟩:=Fk h1;refine⟨by simp[cG],fun x pn pre post ah=>?_⟩;cases x with
  | zero=>simp at ah
  | succ x=>
   have:=bM x pn pre post (by simpa using ah);rwa[show i+1+x=i+(x+1) by omega]at this
 | .fn g cT::as,me,i,ts,h=>by
  simp only[tP,cc]at h;obtain⟨⟨bF,bQ⟩,h1,h⟩:=h;simp only[bH]at h;obtain⟨rfl,rfl⟩:=h;obtain⟨cG,bM⟩:=Fk h1;refine⟨by simp[cG],fun x pn pre post ah=>?_⟩;cases x with
  | zero=>simp at ah
  | succ x=>
   have:=bM x pn pre post (by simpa using ah);rwa[show i+1+x=i+(x+1) by omega]at this
 | .jf pn pre post::as,me,i,ts,h=>by
  simp only[tP]at h;split at h
  ·rename_i ls e1;split at h
   ·rename_i fz bu;split at h
    ·rename_i ds G3 r e2 cg;simp only[aV,bH]at h;obtain⟨rfl,rfl⟩:=h;obtain⟨cG,bM⟩:=Fk cg;refine⟨by simp[cG],fun x KC yV adV ah=>?_⟩;cases x with
     | zero=>
      simp only[kh,aV,aN.jf.injEq]at ah;obtain⟨rfl,rfl,rfl⟩:=ah;exact⟨ls,fz,ds,post,G3,e1,bu,e2,rfl,fun y bf=>ij _ bf⟩
     | succ x=>
      obtain⟨ls,fz,ds,hint,k4,g1,g0,g2,g4,g3⟩:=bM x KC yV adV (by simpa using ah);rw[show i+1+x=i+(x+1) by omega]at g1 g2 g0 g4;exact⟨ls,fz,ds,hint,k4,g1,g0,g2,g4,fun y bf=>jU _ (g3 y bf)⟩
    cases h
   cases h
  cases h
def Fl(src:List (Option Nat)):List (Option Nat):=src.map fun x=>x.map fun a=>jv a 0
def aBu(args:List aN):aU->Bool
 | .vals _=>true
 | .iX src _=>src.all fun
  | some a=>match args[a]? with | some (.ro (.one _))=>true | _=>false
  | none=>true
def OW(P:Program)(st:aJ)(kC:List ResultVar):aU->Option (aU×iR×Option Nat)
 | .vals hint=>
  match kC.mapM (rB P st) with
  | some cr=>(sM 0 cr hint).map fun r=>(.vals r.1,r.2,none)
  | none=>none
 | .iX src hint=>
  match kC.mapM (rB P st) with
  | some [.aI (.one (.ptr id 0))]=>
   match dM id st.boxes with
   | some ls=>
    match qp (Fl src) ls with
    | some fz=>if id<dn then (rG (h7 49 0) fz hint).map fun r=>(.iX src (td (Fl src) ls r.1),r.2,some id) else none
    | none=>none
   | none=>none
  | _=>none
def D7(P:Program)(st:aJ)(kC:List ResultVar)(args:List aN)(hint:aU):Option (aU×List aN):=
 match OW P st kC hint,tP st 0 args with
 | some (r,ts,_),some (as,ui)=>if CT args&&aBu args r&&F2 (ts++ui) then some (r,as) else none
 | _,_=>none
def nS(ω:Own)(ts:iR)(nw:Option Nat):Own:=fun b=>
 match ω b with
 | .tok t q=>match ts.at t with | some n=>.tok n q | none=>.bI
 | .box id=>if nw=some id then .box 49 else if dn<=id/\id<dn+49 then .box (id-dn) else .bI
 | .bI=>.bI
variable{ts:iR}
theorem MO{nw:Option Nat}{n:Nat}{q:List (Nat×Nat)}(h:jx ω ts b=.tok n q):nS ω ts nw b=.tok n q:=by
 simp only[jx]at h;simp only[nS];cases e:ω b with
 | bI=>rw[e]at h;cases h
 | box id=>rw[e]at h;cases h
 | tok t dJ=>rw[e]at h;exact h
theorem mR.aBC{nw:Option Nat}{r:Nat}{d:cQ}{y:Value}(h:mR w (jx ω ts) r d y):mR w (nS ω ts nw) r d y:=by
 cases d with
 | one d=>exact b0.frame h fun b q _ aK=>⟨MO aK,rfl⟩
 | agg ds=>
  obtain⟨vs,e,aX,a1⟩:=h;exact⟨vs,e,aX,fun j d aG=>by
   obtain⟨u,hu,aA⟩:=a1 j d aG;exact⟨u,hu,aA.frame fun b q _ aK=>⟨MO aK,rfl⟩⟩⟩
theorem T1{τ:Nat->Nat×Value}{nw:Option Nat}{id i:Nat}{ls fz:List aH}{hint ds:List D}{k4:iR}{cT:List (Option Nat)}{pn:List Bool}(lg:∀t n,(t,n)∈ts->ts.at t=some n)
  (av:uw w ω τ id ls) (fx:qp cT ls=some fz) (acs:∀j,stays pn j=false->cT.getD j none=none) (aA:rG (h7 i 0) fz hint=some (ds,k4)) (j5:∀y∈k4,y∈ts) (gE:∀b,ω b=.box id->nS ω ts nw b=.box i) (adg:∀b,nS ω ts nw b=.box i->ω b=.box id):
  ∀{y:Value},(∃b,ω b=.box id/\y=ptrTo b)->wj w (nS ω ts nw) i pn (h7 i) (td cT ls ds) y/\∀(j t:Nat),cT[j]?=some (some t)->dn<=t->(τ t).2=jw w y j:=by
 rintro y ⟨dc,dL,rfl⟩;obtain⟨b,arr,ty,h1,U,ax,aF⟩:=av;have:=U dc dL;subst this;obtain⟨aZ,bB⟩:=K9 (w:=w) (ω:=ω) (τ:=τ) lg aA j5;obtain⟨g',kf,x3⟩:=Fj fx;obtain⟨f1,f2⟩:=axj cT ls ds;refine⟨⟨dc,arr,ty,rfl,gE dc dL,fun c aj=>U c (adg c aj),ax,by have:=aF.1;omega,fun j d aG=>?_⟩,fun j t a1 bT=>?_⟩
 ·have jF:j<ls.length:=by
   have:=(ek.1 aG).1;omega
  obtain⟨u,hu,ao⟩:=aF.2 j _ (fJ jF);refine⟨u,hu,fun fb=>?_⟩;have hk:=acs j fb;rw[f2 j hk]at aG;obtain⟨l,ap,c4⟩:=bB j d aG;rw[x3 j hk,fJ jF]at ap;cases ap;have:=c4 u ao;rw[show h7 i 0+j=h7 i j by simp only[h7];omega]at this;exact this.frame fun b q _ aK=>⟨MO aK,rfl⟩
 obtain⟨k,es,ap⟩:=kf j t a1;obtain⟨u,hu,ao⟩:=aF.2 j _ ap;rw[ao.2 bT];simp[jw,ptrTo,ax,eG,hu]
theorem T2{P:Program}{f:FuncId}{fn:Func}{c:Code}{r:aU}{ans cq:List cf}{obs:List Prop}{e:hY}{st:aJ}(b2:P.funcs[f]?=some fn)(av:fn.body=some c)
  (fm:run P c (Bx args fn.ntmps) ans=some (e,st,cq,obs)) (ba:cL obs) (he:e=.ret\/e=.normal) (fi:D7 P st fn.results.toList args r=some (r,args)):bW P f args r:=by
 intro w vs DF nD Ja lC;unfold D7 at fi;split at fi
 ·rename_i bF ts nw as ui fh ml;split at fi
  ·rename_i cF;simp only[aV,bH]at fi;obtain⟨rfl,rfl⟩:=fi;rw[cx,cx]at cF;obtain⟨⟨dI,jG⟩,cF⟩:=cF;have lg:∀t n,(t,n)∈ts++ui->iR.at t (ts++ui)=some n:=fun t n h=>F3 cF h
   refine calls_of_wp b2 av (Code.wp_mono (fun e' cK aO hp=>?_) (oB c fm ba _ _ w (axi dI nD Ja lC fn.ntmps)));obtain⟨rfl,ω,τ,a8⟩:=hp;have aCX:bF=bF/\as.length<49:=by
    simp only[CT,cx,cV]at dI;exact⟨rfl,dI.1⟩
   have Ba:∀id,nw=some id->id<dn:=by
    intro id e;subst e;unfold OW at fh;split at fh
    ·split at fh
     ·rw[cc]at fh;obtain⟨_,_,h⟩:=fh;simp only[bH]at h;exact absurd h.2.2 (by simp)
     cases fh
    split at fh
    ·split at fh
     ·split at fh
      ·split at fh
       ·rename_i bz;rw[cc]at fh;obtain⟨_,_,h⟩:=fh;simp only[bH,aV]at h;rw[<-h.2.2];exact bz
       cases fh
      cases fh
     cases fh
    cases fh
   have hm:∃v,(results fn cK.tmps).run P aO=.ok v aO/\DO aO (nS ω (ts++ui) nw) vs bF v:=by
    have RP:∀{cr:List aL},fn.results.toList.mapM (rB P st)=some cr->∃zs:List Value,(results fn cK.tmps).run P aO=.ok (if h:zs.toArray.size=1 then zs.toArray[0] else .tuple zs.toArray) aO/\zs.length=cr.length/\∀(i:Nat) (p:aL),cr[i]?=some p->∃z,zs[i]?=some z/\cW (Sat aO ω τ) p z:=by
     intro cr tq;obtain⟨zs,h1,U,ax⟩:=F5 a8 tq;have hm:=E0 (P:=P) _ fn.results aO _ h1;refine⟨zs,?_,U,ax⟩;rw[K',Sem.run_bind,hm];rfl
    unfold OW at fh;split at fh
    ·rename_i hint;split at fh
     ·rename_i cr tq;rw[cc]at fh;obtain⟨⟨ds,G3⟩,eR,h⟩:=fh;simp only[bH,aU.vals.injEq]at h;obtain⟨rfl,rfl,rfl⟩:=h;obtain⟨zs,h1,U,ax⟩:=RP tq;obtain⟨aF,aZ⟩:=F4 (w:=aO) (ω:=ω) (τ:=τ) lg eR (fun x ah=>ij _ ah);have fH:∀(j:Nat) (d:cQ),ds[j]?=some d->∃z,zs[j]?=some z/\mR aO (nS ω (G3++ui) none) j d z:=by
       intro j d aG;obtain⟨p,hp,tp⟩:=aZ j d aG;obtain⟨z,bi,sc⟩:=ax j p hp;have:=tp z sc;rw[dF]at this;exact⟨z,bi,this.aBC⟩
      have lh:zs.length=ds.length:=by omega
      refine⟨_,h1,?_⟩;show nQ _ _ _ _;generalize bp:(if h:zs.toArray.size=1 then zs.toArray[0] else Value.tuple zs.toArray)=v;unfold nQ;split
      ·rename_i cm;obtain⟨z,bi,aj⟩:=fH 0 cm rfl;have h1:zs.length=1:=by rw[lh];rfl
       have p3:zs=[z]:=by
        match zs,h1,bi with
        | [z0],_,bi=>simp at bi;rw[bi]
       have Bp:v=z:=by
        rw[<-bp];simp[p3]
       rw[Bp];exact aj
      rename_i cC;have h1:¬zs.toArray.size=1:=by
       intro h;simp at h;rw[lh]at h;obtain⟨d,aG⟩:=List.length_eq_one_iff.1 h;exact cC d aG
      rw[dif_neg h1]at bp;exact⟨zs.toArray,bp.symm,by simpa using lh,fun r cm aA=>by obtain⟨z,bi,aj⟩:=fH r cm aA;exact⟨z,by simpa using bi,aj⟩⟩
     cases fh
    rename_i src hint;split at fh
    ·rename_i id tq;split at fh
     ·rename_i ls cy;split at fh
      case h_2=>cases fh
      rename_i fz fx;split at fh
      ·rename_i bz;rw[cc]at fh;obtain⟨⟨ds,G3⟩,eR,h⟩:=fh;simp only[bH,aU.iX.injEq,true_and]at h;obtain⟨rfl,rfl,rfl⟩:=h;obtain⟨zs,h1,U,ax⟩:=RP tq;obtain⟨z,bi,b,adt,sd⟩:=ax 0 _ rfl;have p3:zs=[z]:=by
        match zs,U,bi with
        | [z0],_,bi=>simp at bi;rw[bi]
       subst p3;refine⟨z,by simpa using h1,?_⟩;have Bo:=T1 (pn:=x0 src) (nw:=some id) (i:=49) lg (a8.boxes id ls cy) fx (fun j a1=>by
        simp only[stays,x0,jB,dq]at a1;simp only[Fl,jB,dq];cases e:src[j]? with
        | none=>rfl
        | some x=>cases x with
         | none=>rfl
         | some a=>rw[e]at a1;cases a1) eR (fun y bf=>ij _ bf) (fun b av=>by simp only[nS,av,fX]) (fun b av=>?_) ⟨b,adt,sd⟩
       ·refine⟨Bo.1,fun j x ah=>?_⟩;have aF:=Bo.2 j (jv x 0) (by simp[Fl,ah]) (by simp only[jv];omega);have aZ:=gx.1 jG _ (ft ah);simp only at aZ;split at aZ
        ·rename_i d aG;rw[a8.fixed _ (by simp only[jv];omega)]at aF;change (oI as w vs (jv x 0)).2=_ at aF;rw[T0 aG]at aF;have bB:x<vs.size:=by
          have:=(ek.1 aG).1;have:=nD.2.2.1;omega
         rw[<-aF,ht bB,eG,ht bB];rfl
        cases aZ
       simp only[nS]at av;cases e:ω b with
       | bI=>rw[e]at av;cases av
       | tok t q=>rw[e]at av;simp only at av;split at av<;>cases av
       | box hM=>
        rw[e]at av;simp only at av;split at av
        ·rename_i e2;rw[eW e2]
        split at av
        ·simp only[db.box.injEq]at av;omega
        cases av
      cases fh
     cases fh
    cases fh
   obtain⟨v,u2,q5⟩:=hm;have ej:∃v,(results fn cK.tmps).run P aO=.ok v aO/\∃u,Ending.returned v=.returned u/\ha ⟨w,fun b=>DF b≠.bI,fun _=>(0,undef)⟩ aO/\
     ∃bc:Own,(∀b,b<w.heap.size->DF b=.bI->bc b=.bI)/\FN aO bc/\(∀(i:Nat) (pn:List Bool) (pre post:List D) (y:Value),as[i]?=some (.jf pn pre post)->vs[i]?=some y->wj aO bc i pn (h7 i) post y/\∀j,stays pn j=true->jw aO y j=jw w y j)/\DO aO bc vs bF u:=by
    refine⟨v,u2,v,rfl,⟨a8.below.os,a8.below.tape,a8.below.output,a8.below.size,a8.below.block,a8.below.drawn,a8.below.laid,a8.below.free⟩,nS ω (ts++ui) nw,fun b av ay=>?_,fun b av=>?_,?_,q5⟩
    ·have:ω b=.bI:=by
      cases e:ω b with
      | bI=>rfl
      | box id=>
       rcases (a8.owned b (by simp[e])).1 with h | h
       ·exact absurd av (by have h:w.heap.size<=b:=h;omega)
       exact absurd ay h
      | tok t q=>
       rcases (a8.owned b (by simp[e])).1 with h | h
       ·exact absurd av (by have h:w.heap.size<=b:=h;omega)
       exact absurd ay h
     simp only[nS,this]
    ·have:ω b≠.bI:=fun e=>av (by simp only[nS,e])
     exact (a8.owned b this).2
    intro i pn pre post y p1 bf;obtain⟨ls,fz,ds,hint,k4,g1,g0,g2,rfl,g3⟩:=(Fk ml).2 i pn pre post p1;simp only[dF]at g1 g2 g0 p1 ⊢;have hi:i<49:=by
     have:=(ek.1 p1).1;omega
    have cC:nw≠some (jQ i):=fun e=>by have:=Ba _ e;simp only[jQ]at this;omega
    obtain⟨bX,uz,vW,fZ,gK,Ee,wB⟩:=a8.boxes _ ls g1;obtain⟨fP,RW,⟨eC,_,_,hyp,_⟩,_⟩:=nD.2.2.2 i _ p1;rw[bf]at RW;have:=eW RW;subst this;have wR:=a8.pinned (jQ i) bX (by simp[jQ]) fZ;simp only[oI]at wR;rw[bk (by simp only[jQ];omega),bm (by simp[jQ]),show jQ i-dn=i by simp[jQ],eG,bf,hyp]at wR;have wR:eC=bX:=wR;subst wR;have acr:∀j,stays pn j=true->(sv i 0 pn)[j]?=some (some (jv i j)):=fun j a1=>by
     simp only[stays,jB]at a1;rw[MN,dF];cases e:pn[j]? with
     | none=>rw[e]at a1;cases a1
     | some x=>
      rw[e]at a1;simp only[il]at a1;simp[a1]
    have Bo:=T1 (pn:=pn) (nw:=nw) (i:=i) lg ⟨eC,uz,vW,fZ,gK,Ee,wB⟩ g0 (fun j a1=>by
     simp only[stays,jB]at a1;rw[jB,MN];cases e:pn[j]? with
     | none=>rfl
     | some x=>
      rw[e]at a1;simp only[il]at a1;simp[a1]) g2 (fun y bf=>jU _ (g3 y bf)) (fun b av=>?_) (fun b av=>?_) ⟨eC,fZ,hyp⟩
    ·refine⟨Bo.1,fun j a1=>?_⟩;have acn:j<100:=by
      simp only[CT,cx,cV,gx]at dI;have aF:=dI.2 _ (ft p1);simp only[cx,cV]at aF;simp only[stays,jB]at a1;rcases pI j pn.length with h | h
      ·omega
      rw[List.getElem?_eq_none h]at a1;cases a1
     have aF:=Bo.2 j (jv i j) (acr j a1) (by simp only[jv];omega);rw[a8.fixed _ (by simp only[jv];omega)]at aF;change (oI as w vs (jv i j)).2=_ at aF;rw[TZ p1 acn]at aF;rw[<-aF];simp only[eG,bf,il]
    ·simp only[nS,av];rw[bk cC,bm ⟨by simp[jQ],by simp only[jQ];omega⟩];simp[jQ]
    simp only[nS]at av;cases e:ω b with
    | bI=>rw[e]at av;cases av
    | tok t q=>rw[e]at av;simp only at av;split at av<;>cases av
    | box hM=>
     rw[e]at av;simp only at av;split at av
     ·simp only[db.box.injEq]at av;omega
     split at av
     ·simp only[db.box.injEq]at av;simp only[jQ,db.box.injEq];omega
     cases av
   obtain⟨v,bB,bS⟩:=ej;rcases he with rfl | rfl
   ·exact⟨a8.defers,v,bB,bS⟩
   exact⟨a8.defers,v,bB,bS⟩
  cases fi
 cases fi
def Kz(P:Program)(c:Code)(ntmps:Nat)(kC:List ResultVar)(args:List aN)(hint:aU)(ans:List cf):Option (aU×List aN×List Prop):=
 match run P c (Bx args ntmps) ans with
 | some (.ret,st,_,obs)=>(D7 P st kC args hint).map fun r=>(r.1,r.2,obs)
 | some (.normal,st,_,obs)=>(D7 P st kC args hint).map fun r=>(r.1,r.2,obs)
 | _=>none
theorem bW.of{P:Program}{f:FuncId}{fn:Func}{r:aU}(ans:List cf)(obs:List Prop)(b2:P.funcs[f]?=some fn)(av:fn.body.isSome=true)
  (h:Kz P (oC fn) fn.ntmps fn.results.toList args r ans=some (r,args,obs)) (ba:cL obs):bW P f args r:=by
 obtain⟨c,aj⟩:=qt.1 av;have AZ:oC fn=c:=by simp[oC,aj]
 unfold Kz at h;rw[AZ]at h;split at h
 ·rename_i st a nO aA;rw[cc]at h;obtain⟨⟨z6,OZ⟩,h1,h⟩:=h;simp only[bH]at h;obtain⟨rfl,rfl,rfl⟩:=h;exact T2 b2 aj aA ba (.inl rfl) h1
 ·rename_i st a nO aA;rw[cc]at h;obtain⟨⟨z6,OZ⟩,h1,h⟩:=h;simp only[bH]at h;obtain⟨rfl,rfl,rfl⟩:=h;exact T2 b2 aj aA ba (.inr rfl) h1
 cases h
end Go.Sx
namespace Go.Sx
open Go.RowKit
mutual
inductive Fit:D->D->Prop
 | refl (d:D):Fit d d
 | nil (k:Nat):Fit (.v (.slice none 0 0)) (.J k [])
 | J (k:Nat) {es cv:List (List D)} (h:nr es cv):Fit (.J k es) (.J k cv)
inductive lq:List D->List D->Prop
 | nil:lq [] []
 | cons {d dP:D} {e e':List D} (h:Fit d dP) (t:lq e e'):lq (d::e) (dP::e')
inductive nr:List (List D)->List (List D)->Prop
 | nil:nr [] []
 | cons {e e':List D} {es cv:List (List D)} (h:lq e e') (t:nr es cv):nr (e::es) (e'::cv)
end
theorem lq.refl:∀e:List D,lq e e
 | []=>.nil
 | d::e=>.cons (.refl d) (lq.refl e)
mutual
theorem Fit.rep{w:World}{ω:Own}:∀{d dP:D},Fit d dP->∀{R:List (Nat×Nat)->db->Prop} {y:Value},b0 w ω R d y->b0 w ω R dP y
 | _,_,.refl d,_,_,h=>h
 | _,_,.nil k,_,_,h=>by cases h;exact .nil _ _ _
 | _,_,.J k f,_,_,h=>by
  obtain⟨ap,ay⟩:=nr.get (w:=w) (ω:=ω) f;cases h with
  | nil=>
   have:=sV ap.symm;subst this;exact .nil _ _ _
  | row R k es b off cap arr ty c3 us av ej aj ao hk hu aG=>
   rw[ap];refine .row _ _ _ b off cap arr ty c3 us av ej (ap▸aj) ao (fun e he=>?_) (fun i j dP ed=>?_) (fun i j dP ed=>?_)
   ·obtain⟨i,hi⟩:=nj.1 he;obtain⟨bu,h1,U,_⟩:=ay i e hi;rw[<-U];exact hk bu (ft h1)
   ·unfold df at ed;rw[ni]at ed;obtain⟨e,h1,U⟩:=ed;obtain⟨bu,ax,_,aZ⟩:=ay i e h1;obtain⟨d,bB,_⟩:=aZ j dP U;exact hu i j d (by unfold df;rw[ax];exact bB)
   unfold df at ed;rw[ni]at ed;obtain⟨e,h1,U⟩:=ed;obtain⟨bu,ax,_,aZ⟩:=ay i e h1;obtain⟨d,bB,bS⟩:=aZ j dP U;exact bS (aG i j d (by unfold df;rw[ax];exact bB))
theorem lq.get{w:World}{ω:Own}:∀{e e':List D},lq e e'->e.length=e'.length/\∀(j:Nat) (dP:D),e'[j]?=some dP->∃d,e[j]?=some d/\∀{R:List (Nat×Nat)->db->Prop} {y:Value},b0 w ω R d y->b0 w ω R dP y
 | _,_,.nil=>⟨rfl,fun j dP h=>by simp at h⟩
 | _,_,.cons h t=>by
  obtain⟨h1,U⟩:=lq.get (w:=w) (ω:=ω) t;refine⟨by simp[h1],fun j dP aG=>?_⟩;cases j with
  | zero=>
   simp only[kh,aV]at aG;subst aG;exact⟨_,rfl,fun aA=>Fit.rep h aA⟩
  | succ j=>exact U j dP (by simpa using aG)
theorem nr.get{w:World}{ω:Own}:∀{es cv:List (List D)},nr es cv->es.length=cv.length/\∀(i:Nat) (e':List D),cv[i]?=some e'->∃e,es[i]?=some e/\e.length=e'.length/\∀(j:Nat) (dP:D),e'[j]?=some dP->∃d,e[j]?=some d/\∀{R:List (Nat×Nat)->db->Prop} {y:Value},b0 w ω R d y->b0 w ω R dP y
 | _,_,.nil=>⟨rfl,fun j dP h=>by simp at h⟩
 | _,_,.cons h t=>by
  obtain⟨h1,U⟩:=nr.get (w:=w) (ω:=ω) t;obtain⟨ax,aF⟩:=lq.get (w:=w) (ω:=ω) h;refine⟨by simp[h1],fun j dP aG=>?_⟩;cases j with
  | zero=>
   simp only[kh,aV]at aG;subst aG;exact⟨_,rfl,ax,aF⟩
  | succ j=>exact U j dP (by simpa using aG)
end
inductive rR:cQ->cQ->Prop
 | one {d dP:D} (h:Fit d dP):rR (.one d) (.one dP)
 | agg {e e':List D} (h:lq e e'):rR (.agg e) (.agg e')
theorem rR.refl(a:cQ):rR a a:=by
 cases a with
 | one d=>exact .one (.refl d)
 | agg e=>exact .agg (.refl e)
inductive pK:List cQ->List cQ->Prop
 | nil:pK [] []
 | cons {a cK:cQ} {as me:List cQ} (h:rR a cK) (t:pK as me):pK (a::as) (cK::me)
theorem pK.get:∀{as me:List cQ},pK as me->as.length=me.length/\∀(i:Nat) (cK:cQ),me[i]?=some cK->∃a,as[i]?=some a/\rR a cK
 | _,_,.nil=>⟨rfl,fun j dP h=>by simp at h⟩
 | _,_,.cons h t=>by
  obtain⟨h1,U⟩:=pK.get t;refine⟨by simp[h1],fun j dP aG=>?_⟩;cases j with
  | zero=>
   simp only[kh,aV]at aG;subst aG;exact⟨_,rfl,h⟩
  | succ j=>exact U j dP (by simpa using aG)
variable{w:World}
theorem rR.cell{ω:Own}{r:Nat}{a cK:cQ}{y:Value}(h:rR a cK)(aj:mR w ω r a y):mR w ω r cK y:=by
 cases h with
 | one h=>exact h.rep aj
 | agg h=>
  obtain⟨vs,rfl,aX,a1⟩:=aj;obtain⟨h1,U⟩:=lq.get (w:=w) (ω:=ω) h;refine⟨vs,rfl,by omega,fun j dP aG=>?_⟩;obtain⟨d,ax,aF⟩:=U j dP aG;obtain⟨u,aZ,bB⟩:=a1 j d ax;exact⟨u,aZ,aF bB⟩
variable{rs vS:List cQ}
theorem pK.all{ω:Own}{v:Value}(h:pK rs vS)(aA:nQ w ω rs v):nQ w ω vS v:=by
 cases h with
 | nil=>exact aA
 | cons h t=>
  cases t with
  | nil=>exact h.cell aA
  | cons U t2=>
   obtain⟨vs,e,aX,bp⟩:=aA;obtain⟨ax,aF⟩:=pK.get (.cons h (.cons U t2));refine⟨vs,e,by omega,fun i cK ak=>?_⟩;obtain⟨a,aZ,bB⟩:=aF i cK ak;obtain⟨y,bS,dv⟩:=bp i a aZ;exact⟨y,bS,bB.cell dv⟩
variable{P:Program}{f:FuncId}
theorem bW.fit{args:List aN}(h:bW P f args (.vals rs))(k:pK rs vS):bW P f args (.vals vS):=by
 intro w vs ω aA la lC;refine (h w vs ω aA la lC).mono ?_;rintro e aO ⟨v,rfl,av,bc,h1,U,ax,aF⟩;exact⟨v,rfl,av,bc,h1,U,ax,k.all aF⟩
theorem jn.fit{args:List cQ}(h:jn P f args rs)(k:pK rs vS):jn P f args vS:=by
 intro w vs tu aA;refine (h w vs tu aA).mono ?_;rintro e aO ⟨v,rfl,av,ω,h1,U,ax⟩;exact⟨v,rfl,av,ω,h1,U,k.all ax⟩
theorem rR.arg{a cK:cQ}{y:Value}(h:rR a cK)(aj:uv w a y):uv w cK y:=by
 cases h with
 | one h=>exact h.rep aj
 | agg h=>
  obtain⟨vs,rfl,aX,a1⟩:=aj;obtain⟨h1,U⟩:=lq.get (w:=w) (ω:=fun _=>.bI) h;refine⟨vs,rfl,by omega,fun j dP aG=>?_⟩;obtain⟨d,ax,aF⟩:=U j dP aG;obtain⟨u,aZ,bB⟩:=a1 j d ax;exact⟨u,aZ,aF bB⟩
theorem jn.args{as me:List cQ}(h:jn P f me rs)(k:pK as me):jn P f as rs:=by
 intro w vs tu aA;obtain⟨h1,U⟩:=k.get;refine h w vs tu ⟨by rw[aA.1,h1],fun i cK ak=>?_⟩;obtain⟨a,ax,aF⟩:=U i cK ak;obtain⟨v,aZ,bB⟩:=aA.2 i a ax;exact⟨v,aZ,aF.arg bB⟩
