import Derived.Test.YtdchjefneblpgaaGreatR15
set_option linter.unusedVariables false
set_option linter.unusedSimpArgs false
namespace Go.Sx
open Go.RowKit
def je(i:Nat):Nat:=c5+i
def iJ(i j:Nat):Nat:=c5+100+(100*i+j)
def aJ.aD(i:Nat):aJ->bd
 | .ro (.one (.J k es))=>.one (.db (iJ i 0) k es)
 | .ro a=>a.arg
 | .iv _ _ _=>.one (.ptr (je i) 0)
 | .fn g cK=>.one (.gP g (cK.map je))
def D.Oy(t:Nat):D->aC
 | .J k es=>.db t k es
 | _=>.cc
def sT(i:Nat)(pn:List Bool):Nat->List D->List aC
 | _,[]=>[]
 | j,d::ds=>(if stays pn j then d.Oy (iJ i j) else d.pE (qD i j))::sT i pn (j+1) ds
theorem P7(i:Nat)(pn:List Bool):∀(ds:List D) (j x:Nat),(sT i pn j ds)[x]?=(ds[x]?).map fun d=>if stays pn (j+x) then d.Oy (iJ i (j+x)) else d.pE (qD i (j+x))
 | [],_,_=>by simp[sT]
 | d::ds,j,0=>by simp[sT]
 | d::ds,j,x+1=>by
  simp only[sT,nY,P7 i pn ds (j+1) x];rw[show j+1+x=j+(x+1) by omega]
theorem P8(i:Nat)(pn:List Bool):∀(ds:List D) (j:Nat),(sT i pn j ds).length=ds.length
 | [],_=>rfl
 | d::ds,j=>by simp[sT,P8 i pn ds (j+1)]
def uP:Nat->List aJ->List aB
 | _,[]=>[]
 | i,a::as=>.aD (a.aD i)::uP (i+1) as
def yp:Nat->List aJ->List (Nat×List aC)
 | _,[]=>[]
 | i,.iv pn pre _::as=>(je i,sT i pn 0 pre)::yp (i+1) as
 | i,.ro _::as=>yp (i+1) as
 | i,.fn _ _::as=>yp (i+1) as
def Ah(args:List aJ)(ntmps:Nat):aE:=⟨(uP 0 args).take (td args)++List.replicate (ntmps-td args) .cc,yp 0 args⟩
theorem P9:∀(as:List aJ) (i x:Nat),(uP i as)[x]?=(as[x]?).map fun a=>.aD (a.aD (i+x))
 | [],i,x=>by simp[uP]
 | a::as,i,0=>by simp[uP]
 | a::as,i,x+1=>by
  simp only[uP,nY,P9 as (i+1) x];rw[show i+1+x=i+(x+1) by omega]
theorem Jk:∀(as:List aJ) (i:Nat),(uP i as).length=as.length
 | [],_=>rfl
 | a::as,i=>by simp[uP,Jk as (i+1)]
theorem EQ{id:Nat}{ls:List aC}:∀{as:List aJ} {i:Nat},dj id (yp i as)=some ls->∃x pn pre post,as[x]?=some (.iv pn pre post)/\id=je (i+x)/\ls=sT (i+x) pn 0 pre
 | [],i,h=>by cases h
 | .ro _::as,i,h=>by
  obtain⟨x,pn,pre,post,h1,U,au⟩:=EQ (as:=as) (i:=i+1) h;exact⟨x+1,pn,pre,post,by simpa using h1,by rw[U,show i+1+x=i+(x+1) by omega],by rw[au,show i+1+x=i+(x+1) by omega]⟩
 | .fn _ _::as,i,h=>by
  obtain⟨x,pn,pre,post,h1,U,au⟩:=EQ (as:=as) (i:=i+1) h;exact⟨x+1,pn,pre,post,by simpa using h1,by rw[U,show i+1+x=i+(x+1) by omega],by rw[au,show i+1+x=i+(x+1) by omega]⟩
 | .iv pn pre post::as,i,h=>by
  simp only[yp,dj]at h;split at h
  ·rename_i e;exact⟨0,pn,pre,post,rfl,e.symm,(ei h).symm⟩
  obtain⟨x,H3,pre,post,h1,U,au⟩:=EQ (as:=as) (i:=i+1) h;exact⟨x+1,H3,pre,post,by simpa using h1,by rw[U,show i+1+x=i+(x+1) by omega],by rw[au,show i+1+x=i+(x+1) by omega]⟩
def BL(args:List aJ):Bool:=decide (args.length<49)&&args.all fun
 | .ro _=>true
 | .iv pn pre post=>decide (pn.length<100)&&decide (pre.length<100)&&decide (post.length<100)
 | .fn _ cK=>cK.all fun k=>match args[k]? with | some (.iv _ _ _)=>true | _=>false
def Cx:Value->Nat
 | .pointer (some p)=>p.block
 | _=>0
def nX(args:List aJ)(w:World)(vs:Array Value)(t:Nat):Nat×Value:=
 if c5+100<=t then
  match args[(t-(c5+100)) / 100]? with
  | some (.iv _ pre _)=>(((pre[(t-(c5+100)) % 100]?).map D.th).getD 0,iL w (vs.getD ((t-(c5+100)) / 100) undef) ((t-(c5+100)) % 100))
  | some (.ro (.one d))=>(d.th,vs.getD ((t-(c5+100)) / 100) undef)
  | _=>(0,undef)
 else if c5<=t then (Cx (vs.getD (t-c5) undef),undef) else
 match args[(t-900000000) / 100]? with
 | some (.iv _ pre _)=>(((pre[(t-900000000) % 100]?).map D.th).getD 0,iL w (vs.getD ((t-900000000) / 100) undef) ((t-900000000) % 100))
 | _=>(0,undef)
def sP(ω:Own):Own:=fun b=>match ω b with | .box i=>.box (je i) | o=>o
variable{ω:Own}{b:Nat}
theorem akC{t:Nat}{q:List (Nat×Nat)}(h:ω b=.tok t q):sP ω b=.tok t q:=by simp only[sP,h]
theorem P':sP ω b=.bx<->ω b=.bx:=by
 simp only[sP];cases ω b<;>simp
variable{i:Nat}
theorem ER:sP ω b=.box (je i)<->ω b=.box i:=by
 simp only[sP];cases ω b with
 | bx=>simp
 | box j=>simp only[je,cS.box.injEq];omega
 | tok t q=>simp
variable{args:List aJ}{w:World}{vs:Array Value}
theorem Qa{j:Nat}{pn:List Bool}{pre post:List D}(h:args[i]?=some (.iv pn pre post))(aM:j<100):
  nX args w vs (iJ i j)=(((pre[j]?).map D.th).getD 0,iL w (vs.getD i undef) j):=by
 have e1:(iJ i j-(c5+100)) / 100=i:=by simp only[iJ];omega
 have e2:(iJ i j-(c5+100)) % 100=j:=by simp only[iJ];omega
 unfold nX;rw[a6 (by simp only[iJ];omega),e1,e2,h]
theorem Qb{d:D}(h:args[i]?=some (.ro (.one d))):nX args w vs (iJ i 0)=(d.th,vs.getD i undef):=by
 have e1:(iJ i 0-(c5+100)) / 100=i:=by simp only[iJ];omega
 unfold nX;rw[a6 (by simp only[iJ];omega),e1,h]
theorem akD(dD:BL args=true)(h:F3 w ω args vs)(j':FU args vs)(kE:Tidy w ω)(ntmps:Nat):
  Rel ⟨w,fun b=>ω b≠.bx,nX args w vs⟩ (Ah args ntmps) { tmps:=vs.extract 0 (td args)++Array.replicate (ntmps-(vs.extract 0 (td args)).size) undef,defers:=[] } w:=by
 have Hj:td args<=args.length:=Nat.sub_le _ _;obtain⟨gj,cq,aL,ag⟩:=h;simp only[BL,ca,ci,fN]at dD;have xE:∀{d:D} {y:Value},bR w ω Tag.free.R d y->bR w (sP ω) Tag.free.R d y:=fun h=>h.frame fun b q _ av=>⟨P'.2 av,rfl⟩
 have di:(vs.extract 0 (td args)).size=td args:=by simp[aL];omega
 refine⟨sP ω,nX args w vs,rfl,by rw[di];simp[Ah,Jk,aL],gn.start kE,fun b ah=>?_,fun _ _=>rfl,?_,?_,fun id ls af=>?_⟩
 ·have:ω b≠.bx:=fun e=>ah (P'.2 e)
  exact⟨.inr this,gj b this⟩
 ·intro id b hi ah;simp only[sP]at ah;cases e:ω b with
  | bx=>rw[e]at ah;cases ah
  | tok t q=>rw[e]at ah;cases ah
  | box i=>
   rw[e]at ah;simp only[cS.box.injEq]at ah;subst ah;obtain⟨pn,pre,post,h1⟩:=cq b i e;obtain⟨v,bj,⟨fQ,arr,ty,rfl,U,au,_⟩,_⟩:=ag i _ h1;have:=au b e;subst this;have zI:i<49:=by
    have:=(dK.1 h1).1;omega
   simp only[nX];rw[aX (by simp only[je];omega),a6 hi,show je i-c5=i by simp[je],ea,bj];rfl
 ·intro i p hp;simp only[Ah]at hp;rw[lc,lJ,Jk,Nat.min_eq_left Hj]at hp;split at hp
  ·rename_i hi;rw[gX,a6 hi,P9,bX]at hp;obtain⟨jd,o',rfl⟩:=hp;rw[c'];obtain⟨v,bj,bH⟩:=ag i jd o';have ka:i<vs.size:=by omega
   refine⟨v,by rw[hj,a6 (by rw[di];exact hi),Array.getElem?_extract,a6 (by omega),c',bj],?_⟩;cases jd with
   | fn g cK=>
    have h1:=j' i g cK o';rw[bj]at h1;cases h1;refine⟨cK.map fun k=>Cx (vs.getD k undef),?_,by simp,fun j id aM=>?_⟩
    ·congr 2
     rw[List.map_map];refine kr fun k hk=>?_
     have U:=dD.2 _ (e4 o');have au:=fN.1 U k hk;split at au
     ·rename_i pn pre post q7;obtain⟨v2,sG,⟨fH,_,_,rfl,_⟩,_⟩:=ag k _ q7;simp[ea,sG,ptrTo,Cx]
     cases au
    rw[c9,bX]at aM;obtain⟨k,hk,rfl⟩:=aM;have U:=dD.2 _ (e4 o');have au:=fN.1 U k (e4 hk);split at au
    ·rename_i pn pre post q7;obtain⟨v2,sG,⟨fH,_,_,rfl,ba,_⟩,_⟩:=ag k _ q7;refine⟨fH,?_,ER.2 ba⟩;simp[hk,ea,sG,ptrTo,Cx]
    cases au
   | iv pn pre post=>
    obtain⟨⟨b,arr,ty,rfl,U,_⟩,_⟩:=bH;exact⟨b,ER.2 U,rfl⟩
   | ro cj=>
    cases cj with
    | one d=>
     cases d with
     | J k es=>
      refine⟨xE bH,fun _=>?_⟩;rw[Qb o',ea,bj];rfl
     | v x=>exact D.dw (τ:=nX args w vs) (p:=(0,0)) (t:=.free) (xE bH)
     | ptr ds=>exact D.dw (τ:=nX args w vs) (p:=(0,0)) (t:=.free) (xE bH)
     | cl g cs=>exact D.dw (τ:=nX args w vs) (p:=(0,0)) (t:=.free) (xE bH)
    | agg ds=>
     obtain⟨us,rfl,hlen,mC⟩:=bH;refine⟨us,rfl,by simpa using hlen,fun j l af=>?_⟩;rw[c9,bX]at af;obtain⟨d,ax,rfl⟩:=af;obtain⟨u,h1,U⟩:=mC j d ax;exact⟨u,h1,D.dw (p:=(0,0)) (t:=.free) (xE U)⟩
  rename_i hi;rw[zd]at hp;split at hp
  ·rename_i bq;simp only[aQ]at hp;subst hp;refine⟨undef,?_,aj⟩;rw[hj,aX (by rw[di];omega),Array.getElem?_replicate,a6 (by rw[di];omega)]
  cases hp
 obtain⟨i,pn,pre,post,h1,rfl,rfl⟩:=EQ af;rw[c'];obtain⟨v,bj,⟨b,arr,ty,rfl,U,au,aH,ba,br⟩,b7⟩:=ag i _ h1;refine⟨b,arr,ty,ER.2 U,fun cT c7=>au cT (ER.1 c7),aH,by rw[P8];exact ba,fun j l af=>?_⟩;rw[P7,bX]at af;obtain⟨d,ax,rfl⟩:=af;rw[c'];obtain⟨u,hu,ar⟩:=br j d ax;have aM:j<100:=by
  have e1:=dD.2 _ (e4 h1);simp only[ca,ci]at e1;have:=(dK.1 ax).1;omega
 refine⟨u,hu,?_⟩;cases ew:stays pn j with
 | true=>
  rw[a6 rfl];have dV:=b7 j d ax ew;have e:iL w (ptrTo b) j=u:=by simp[iL,ptrTo,aH,ea,hu]
  rw[e]at dV;cases d with
  | J k es=>
   refine⟨xE dV,fun _=>?_⟩;rw[Qa h1 aM,ea,bj];simp only[hl,e,ax,mn];rfl
  | _=>exact trivial
 | false=>
 rw[aX (by simp)];replace ar:=ar ew;cases d with
 | v x=>
  have e:u=x:=by cases ar;rfl
  subst e;unfold D.pE;split
  ·rename_i h;cases h;exact rfl
  ·rename_i h;cases h;exact rfl
  ·rename_i h;cases h
  ·exact trivial
  exact trivial
 | ptr ds=>exact trivial
 | cl g bA=>exact trivial
 | J k es=>
  refine⟨ar.frame fun c q _ av=>⟨akC av,rfl⟩,?_⟩;have e1:(qD i j-900000000) / 100=i:=by simp only[qD];omega
  have e2:(qD i j-900000000) % 100=j:=by simp only[qD];omega
  have hi:i<49:=by
   have:=(dK.1 h1).1;omega
  simp only[Tag.dS,nX];rw[aX (by simp only[qD,c5];omega),aX (by simp only[qD,c5];omega)];simp only[e1,e2,h1,ax];simp[iL,ptrTo,aH,ea,bj,hu,D.th]
def pI:List (Option Nat)->List aC->Option (List aC)
 | [],ls=>some ls
 | some t::ts,.db s _ _::ls=>if s=t then (pI ts ls).map fun r=>.v (.bool true)::r else none
 | none::ts,l::ls=>(pI ts ls).map fun r=>l::r
 | none::ts,[]=>pI ts []
 | some _::_,_=>none
theorem ES:∀{ts:List (Option Nat)} {ls e6:List aC},pI ts ls=some e6->e6.length=ls.length/\(∀(j t:Nat),ts[j]?=some (some t)->∃k es,ls[j]?=some (.db t k es))/\∀j,ts.getD j none=none->e6[j]?=ls[j]?
 | [],ls,e6,h=>by
  simp only[pI,aQ]at h;subst h;exact⟨rfl,fun j t h=>by simp at h,fun _ _=>rfl⟩
 | some t::ts,.db s k es::ls,e6,h=>by
  simp only[pI]at h;split at h
  ·rename_i e;subst e;rw[bX]at h;obtain⟨r,h1,rfl⟩:=h;obtain⟨g1,g2,g3⟩:=ES h1;refine⟨by simp[g1],fun j t aM=>?_,fun j aM=>?_⟩
   ·cases j with
    | zero=>
     simp only[iy,aQ]at aM;subst aM;exact⟨k,es,rfl⟩
    | succ j=>exact g2 j t (by simpa using aM)
   cases j with
   | zero=>simp at aM
   | succ j=>simpa using g3 j (by simpa using aM)
  cases h
 | none::ts,l::ls,e6,h=>by
  simp only[pI,bX]at h;obtain⟨r,h1,rfl⟩:=h;obtain⟨g1,g2,g3⟩:=ES h1;refine⟨by simp[g1],fun j t aM=>?_,fun j aM=>?_⟩
  ·cases j with
   | zero=>simp at aM
   | succ j=>exact g2 j t (by simpa using aM)
  cases j with
  | zero=>rfl
  | succ j=>simpa using g3 j (by simpa using aM)
 | none::ts,[],e6,h=>by
  simp only[pI]at h;obtain⟨g1,g2,g3⟩:=ES h;refine⟨g1,fun j t aM=>?_,fun j aM=>?_⟩
  ·cases j with
   | zero=>simp at aM
   | succ j=>obtain⟨k,es,h⟩:=g2 j t (by simpa using aM);simp at h
  have:e6=[]:=u0 g1;rw[this]
def sh:List (Option Nat)->List aC->List D->List D
 | some _::ts,.db _ k es::ls,_::ds=>.J k es::sh ts ls ds
 | _::ts,_::ls,d::ds=>d::sh ts ls ds
 | _,_,ds=>ds
theorem akE:∀(ts:List (Option Nat)) (ls:List aC) (ds:List D),(sh ts ls ds).length=ds.length/\∀j,ts.getD j none=none->(sh ts ls ds)[j]?=ds[j]?:=by
 intro ts ls ds
 fun_induction sh ts ls ds with
 | case1 t ts s k es ls d ds dt=>
  refine⟨by simp[dt.1],fun j aM=>?_⟩;cases j with
  | zero=>simp at aM
  | succ j=>simpa using dt.2 j (by simpa using aM)
 | case2 x ts l ls d ds _ dt=>
  refine⟨by simp[dt.1],fun j aM=>?_⟩;cases j with
  | zero=>rfl
  | succ j=>simpa using dt.2 j (by simpa using aM)
 | case3=>exact⟨rfl,fun _ _=>rfl⟩
def rA(i:Nat):Nat->List Bool->List (Option Nat)
 | _,[]=>[]
 | j,b::r=>(if b then some (iJ i j) else none)::rA i (j+1) r
theorem Jl(i:Nat):∀(pn:List Bool) (j x:Nat),(rA i j pn)[x]?=(pn[x]?).map fun b=>if b then some (iJ i (j+x)) else none
 | [],_,_=>by simp[rA]
 | b::r,j,0=>by simp[rA]
 | b::r,j,x+1=>by
  simp only[rA,nY,Jl i r (j+1) x];rw[show j+1+x=j+(x+1) by omega]
def sU(st:aE):Nat->List aJ->Option (List aJ×ib)
 | _,[]=>some ([],[])
 | i,.ro a::as=>(sU st (i+1) as).map fun r=>(.ro a::r.1,r.2)
 | i,.fn g cK::as=>(sU st (i+1) as).map fun r=>(.fn g cK::r.1,r.2)
 | i,.iv pn pre post::as=>
  match dj (je i) st.boxes with
  | some ls=>
   match pI (rA i 0 pn) ls with
   | some e6=>
    match qE (hD i 0) e6 post,sU st (i+1) as with
    | some (ds,ts),some r=>some (.iv pn pre (sh (rA i 0 pn) ls ds)::r.1,ts++r.2)
    | _,_=>none
   | none=>none
  | none=>none
theorem ET{st:aE}:∀{as lk:List aJ} {i:Nat} {ts:ib},sU st i as=some (lk,ts)->lk.length=as.length/\∀(x:Nat) (pn:List Bool) (pre post:List D),lk[x]?=some (.iv pn pre post)->
  ∃ls e6 ds hint j3,dj (je (i+x)) st.boxes=some ls/\pI (rA (i+x) 0 pn) ls=some e6/\qE (hD (i+x) 0) e6 hint=some (ds,j3)/\post=sh (rA (i+x) 0 pn) ls ds/\∀y∈j3,y∈ts
 | [],lk,i,ts,h=>by
  simp only[sU,aQ,bw]at h;obtain⟨rfl,rfl⟩:=h;exact⟨rfl,fun x pn pre post h=>by simp at h⟩
 | .ro a::as,lk,i,ts,h=>by
  simp only[sU,bX]at h;obtain⟨⟨bB,bV⟩,h1,h⟩:=h;simp only[bw]at h;obtain⟨rfl,rfl⟩:=h;obtain⟨cC,b6⟩:=ET h1;refine⟨by simp[cC],fun x pn pre post aa=>?_⟩;cases x with
  | zero=>simp at aa
  | succ x=>
   have:=b6 x pn pre post (by simpa using aa);rwa[show i+1+x=i+(x+1) by omega]at this
 | .fn g cK::as,lk,i,ts,h=>by
  simp only[sU,bX]at h;obtain⟨⟨bB,bV⟩,h1,h⟩:=h;simp only[bw]at h;obtain⟨rfl,rfl⟩:=h;obtain⟨cC,b6⟩:=ET h1;refine⟨by simp[cC],fun x pn pre post aa=>?_⟩;cases x with
  | zero=>simp at aa
  | succ x=>
   have:=b6 x pn pre post (by simpa using aa);rwa[show i+1+x=i+(x+1) by omega]at this
 | .iv pn pre post::as,lk,i,ts,h=>by
  simp only[sU]at h;split at h
  ·rename_i ls e1;split at h
   ·rename_i e6 bE;split at h
    ·rename_i ds Fo r e2 b2;simp only[aQ,bw]at h;obtain⟨rfl,rfl⟩:=h;obtain⟨cC,b6⟩:=ET b2;refine⟨by simp[cC],fun x H3 x3 Zu aa=>?_⟩;cases x with
     | zero=>
      simp only[iy,aQ,aJ.iv.injEq]at aa;obtain⟨rfl,rfl,rfl⟩:=aa;exact⟨ls,e6,ds,post,Fo,e1,bE,e2,rfl,fun y a1=>gm _ a1⟩
     | succ x=>
      obtain⟨ls,e6,ds,hint,j3,g1,g0,g2,g4,g3⟩:=b6 x H3 x3 Zu (by simpa using aa);rw[show i+1+x=i+(x+1) by omega]at g1 g2 g0 g4;exact⟨ls,e6,ds,hint,j3,g1,g0,g2,g4,fun y a1=>hZ _ (g3 y a1)⟩
    cases h
   cases h
  cases h
def EU(src:List (Option Nat)):List (Option Nat):=src.map fun x=>x.map fun a=>iJ a 0
def aqq(args:List aJ):aT->Bool
 | .vals _=>true
 | .iH src _=>src.all fun
  | some a=>match args[a]? with | some (.ro (.one _))=>true | _=>false
  | none=>true
def LX(P:Program)(st:aE)(jJ:List ResultVar):aT->Option (aT×ib×Option Nat)
 | .vals hint=>
  match jJ.mapM (qw P st) with
  | some cw=>(rU 0 cw hint).map fun r=>(.vals r.1,r.2,none)
  | none=>none
 | .iH src hint=>
  match jJ.mapM (qw P st) with
  | some [.aD (.one (.ptr id 0))]=>
   match dj id st.boxes with
   | some ls=>
    match pI (EU src) ls with
    | some e6=>if id<c5 then (qE (hD 49 0) e6 hint).map fun r=>(.iH src (sh (EU src) ls r.1),r.2,some id) else none
    | none=>none
   | none=>none
  | _=>none
def CK(P:Program)(st:aE)(jJ:List ResultVar)(args:List aJ)(hint:aT):Option (aT×List aJ):=
 match LX P st jJ hint,sU st 0 args with
 | some (r,ts,_),some (as,tj)=>if BL args&&aqq args r&&EI (ts++tj) then some (r,as) else none
 | _,_=>none
def mT(ω:Own)(ts:ib)(nw:Option Nat):Own:=fun b=>
 match ω b with
 | .tok t q=>match ts.at t with | some n=>.tok n q | none=>.bx
 | .box id=>if nw=some id then .box 49 else if c5<=id/\id<c5+49 then .box (id-c5) else .bx
 | .bx=>.bx
variable{ts:ib}
theorem Jm{nw:Option Nat}{n:Nat}{q:List (Nat×Nat)}(h:iM ω ts b=.tok n q):mT ω ts nw b=.tok n q:=by
 simp only[iM]at h;simp only[mT];cases e:ω b with
 | bx=>rw[e]at h;cases h
 | box id=>rw[e]at h;cases h
 | tok t dh=>rw[e]at h;exact h
theorem l4.aqA{nw:Option Nat}{r:Nat}{d:cH}{y:Value}(h:l4 w (iM ω ts) r d y):l4 w (mT ω ts nw) r d y:=by
 cases d with
 | one d=>exact bR.frame h fun b q _ av=>⟨Jm av,rfl⟩
 | agg ds=>
  obtain⟨vs,e,aL,aM⟩:=h;exact⟨vs,e,aL,fun j d ax=>by
   obtain⟨u,hu,ar⟩:=aM j d ax;exact⟨u,hu,ar.frame fun b q _ av=>⟨Jm av,rfl⟩⟩⟩
theorem Qc{τ:Nat->Nat×Value}{nw:Option Nat}{id i:Nat}{ls e6:List aC}{hint ds:List D}{j3:ib}{cK:List (Option Nat)}{pn:List Bool}(kd:∀t n,(t,n)∈ts->ts.at t=some n)
  (ah:tt w ω τ id ls) (gj:pI cK ls=some e6) (XY:∀j,stays pn j=false->cK.getD j none=none) (ar:qE (hD i 0) e6 hint=some (ds,j3)) (jq:∀y∈j3,y∈ts) (fX:∀b,ω b=.box id->mT ω ts nw b=.box i) (YP:∀b,mT ω ts nw b=.box i->ω b=.box id):
  ∀{y:Value},(∃b,ω b=.box id/\y=ptrTo b)->u' w (mT ω ts nw) i pn (hD i) (sh cK ls ds) y/\∀(j t:Nat),cK[j]?=some (some t)->c5<=t->(τ t).2=iL w y j:=by
 rintro y ⟨cT,c7,rfl⟩;obtain⟨b,arr,ty,h1,U,au,aH⟩:=ah;have:=U cT c7;subst this;obtain⟨ba,br⟩:=Jc (w:=w) (ω:=ω) (τ:=τ) kd ar jq;obtain⟨qI,tm,xd⟩:=ES gj;obtain⟨f1,f2⟩:=akE cK ls ds;refine⟨⟨cT,arr,ty,rfl,fX cT c7,fun c ad=>U c (YP c ad),au,by have:=aH.1;omega,fun j d ax=>?_⟩,fun j t aM bt=>?_⟩
 ·have h4:j<ls.length:=by
   have:=(dK.1 ax).1;omega
  obtain⟨u,hu,ae⟩:=aH.2 j _ (fC h4);refine⟨u,hu,fun ew=>?_⟩;have hk:=XY j ew;rw[f2 j hk]at ax;obtain⟨l,af,cU⟩:=br j d ax;rw[xd j hk,fC h4]at af;cases af;have:=cU u ae;rw[show hD i 0+j=hD i j by simp only[hD];omega]at this;exact this.frame fun b q _ av=>⟨Jm av,rfl⟩
 obtain⟨k,es,af⟩:=tm j t aM;obtain⟨u,hu,ae⟩:=aH.2 j _ af;rw[ae.2 bt];simp[iL,ptrTo,au,ea,hu]
theorem PD{P:Program}{f:FuncId}{fn:Func}{c:Code}{r:aT}{ans ch:List b4}{obs:List Prop}{e:gO}{st:aE}(bl:P.funcs[f]?=some fn)(ah:fn.body=some c)
  (eZ:run P c (Ah args fn.ntmps) ans=some (e,st,ch,obs)) (aN:cB obs) (he:e=.ret\/e=.normal) (eA:CK P st fn.results.toList args r=some (r,args)):bU P f args r:=by
 intro w vs Cl mA GV kE;unfold CK at eA;split at eA
 ·rename_i bB ts nw as tj eN lq;split at eA
  ·rename_i bH;simp only[aQ,bw]at eA;obtain⟨rfl,rfl⟩:=eA;rw[ca,ca]at bH;obtain⟨⟨dD,iZ⟩,bH⟩:=bH;have kd:∀t n,(t,n)∈ts++tj->ib.at t (ts++tj)=some n:=fun t n h=>EJ bH h
   refine calls_of_wp bl ah (Code.wp_mono (fun e' cy aG hp=>?_) (nO c eZ aN _ _ w (akD dD mA GV kE fn.ntmps)));obtain⟨rfl,ω,τ,aV⟩:=hp;have arP:bB=bB/\as.length<49:=by
    simp only[BL,ca,ci]at dD;exact⟨rfl,dD.1⟩
   have zO:∀id,nw=some id->id<c5:=by
    intro id e;subst e;unfold LX at eN;split at eN
    ·split at eN
     ·rw[bX]at eN;obtain⟨_,_,h⟩:=eN;simp only[bw]at h;exact absurd h.2.2 (by simp)
     cases eN
    split at eN
    ·split at eN
     ·split at eN
      ·split at eN
       ·rename_i bq;rw[bX]at eN;obtain⟨_,_,h⟩:=eN;simp only[bw,aQ]at h;rw[<-h.2.2];exact bq
       cases eN
      cases eN
     cases eN
    cases eN
   have hm:∃v,(results fn cy.tmps).run P aG=.ok v aG/\Cq aG (mT ω (ts++tj) nw) vs bB v:=by
    have N1:∀{cw:List aB},fn.results.toList.mapM (qw P st)=some cw->∃zs:List Value,(results fn cy.tmps).run P aG=.ok (if h:zs.toArray.size=1 then zs.toArray[0] else .tuple zs.toArray) aG/\zs.length=cw.length/\∀(i:Nat) (p:aB),cw[i]?=some p->∃z,zs[i]?=some z/\cM (Sat aG ω τ) p z:=by
     intro cw sB;obtain⟨zs,h1,U,au⟩:=EL aV sB;have hm:=DJ (P:=P) _ fn.results aG _ h1;refine⟨zs,?_,U,au⟩;rw[Jd,Sem.run_bind,hm];rfl
    unfold LX at eN;split at eN
    ·rename_i hint;split at eN
     ·rename_i cw sB;rw[bX]at eN;obtain⟨⟨ds,Fo⟩,eo,h⟩:=eN;simp only[bw,aT.vals.injEq]at h;obtain⟨rfl,rfl,rfl⟩:=h;obtain⟨zs,h1,U,au⟩:=N1 sB;obtain⟨aH,ba⟩:=EK (w:=aG) (ω:=ω) (τ:=τ) kd eo (fun x aa=>gm _ aa);have eU:∀(j:Nat) (d:cH),ds[j]?=some d->∃z,zs[j]?=some z/\l4 aG (mT ω (Fo++tj) none) j d z:=by
       intro j d ax;obtain⟨p,hp,sy⟩:=ba j d ax;obtain⟨z,aR,p'⟩:=au j p hp;have:=sy z p';rw[c']at this;exact⟨z,aR,this.aqA⟩
      have l0:zs.length=ds.length:=by omega
      refine⟨_,h1,?_⟩;show mY _ _ _ _;generalize bj:(if h:zs.toArray.size=1 then zs.toArray[0] else Value.tuple zs.toArray)=v;unfold mY;split
      ·rename_i cj;obtain⟨z,aR,ad⟩:=eU 0 cj rfl;have h1:zs.length=1:=by rw[l0];rfl
       have pb:zs=[z]:=by
        match zs,h1,aR with
        | [z0],_,aR=>simp at aR;rw[aR]
       have z':v=z:=by
        rw[<-bj];simp[pb]
       rw[z'];exact ad
      rename_i b5;have h1:¬zs.toArray.size=1:=by
       intro h;simp at h;rw[l0]at h;obtain⟨d,ax⟩:=List.length_eq_one_iff.1 h;exact b5 d ax
      rw[dif_neg h1]at bj;exact⟨zs.toArray,bj.symm,by simpa using l0,fun r cj ar=>by obtain⟨z,aR,ad⟩:=eU r cj ar;exact⟨z,by simpa using aR,ad⟩⟩
     cases eN
    rename_i src hint;split at eN
    ·rename_i id sB;split at eN
     ·rename_i ls cq;split at eN
      case h_2=>cases eN
      rename_i e6 gj;split at eN
      ·rename_i bq;rw[bX]at eN;obtain⟨⟨ds,Fo⟩,eo,h⟩:=eN;simp only[bw,aT.iH.injEq,true_and]at h;obtain⟨rfl,rfl,rfl⟩:=h;obtain⟨zs,h1,U,au⟩:=N1 sB;obtain⟨z,aR,b,Y1,rb⟩:=au 0 _ rfl;have pb:zs=[z]:=by
        match zs,U,aR with
        | [z0],_,aR=>simp at aR;rw[aR]
       subst pb;refine⟨z,by simpa using h1,?_⟩;have z8:=Qc (pn:=xa src) (nw:=some id) (i:=49) kd (aV.boxes id ls cq) gj (fun j aM=>by
        simp only[stays,xa,iw,c9]at aM;simp only[EU,iw,c9];cases e:src[j]? with
        | none=>rfl
        | some x=>cases x with
         | none=>rfl
         | some a=>rw[e]at aM;cases aM) eo (fun y a1=>gm _ a1) (fun b ah=>by simp only[mT,ah,fO]) (fun b ah=>?_) ⟨b,Y1,rb⟩
       ·refine⟨z8.1,fun j x aa=>?_⟩;have aH:=z8.2 j (iJ x 0) (by simp[EU,aa]) (by simp only[iJ];omega);have ba:=fN.1 iZ _ (e4 aa);simp only at ba;split at ba
        ·rename_i d ax;rw[aV.fixed _ (by simp only[iJ];omega)]at aH;change (nX as w vs (iJ x 0)).2=_ at aH;rw[Qb ax]at aH;have br:x<vs.size:=by
          have:=(dK.1 ax).1;have:=mA.2.2.1;omega
         rw[<-aH,gN br,ea,gN br];rfl
        cases ba
       simp only[mT]at ah;cases e:ω b with
       | bx=>rw[e]at ah;cases ah
       | tok t q=>rw[e]at ah;simp only at ah;split at ah<;>cases ah
       | box hb=>
        rw[e]at ah;simp only at ah;split at ah
        ·rename_i e2;rw[ei e2]
        split at ah
        ·simp only[cS.box.injEq]at ah;omega
        cases ah
      cases eN
     cases eN
    cases eN
   obtain⟨v,sF,sG⟩:=hm;have dI:∃v,(results fn cy.tmps).run P aG=.ok v aG/\∃u,Ending.returned v=.returned u/\gn ⟨w,fun b=>Cl b≠.bx,fun _=>(0,undef)⟩ aG/\
     ∃aY:Own,(∀b,b<w.heap.size->Cl b=.bx->aY b=.bx)/\Dy aG aY/\(∀(i:Nat) (pn:List Bool) (pre post:List D) (y:Value),as[i]?=some (.iv pn pre post)->vs[i]?=some y->u' aG aY i pn (hD i) post y/\∀j,stays pn j=true->iL aG y j=iL w y j)/\Cq aG aY vs bB u:=by
    refine⟨v,sF,v,rfl,⟨aV.below.os,aV.below.tape,aV.below.output,aV.below.size,aV.below.block,aV.below.drawn,aV.below.laid,aV.below.free⟩,mT ω (ts++tj) nw,fun b ah ao=>?_,fun b ah=>?_,?_,sG⟩
    ·have:ω b=.bx:=by
      cases e:ω b with
      | bx=>rfl
      | box id=>
       rcases (aV.owned b (by simp[e])).1 with h | h
       ·exact absurd ah (by have h:w.heap.size<=b:=h;omega)
       exact absurd ao h
      | tok t q=>
       rcases (aV.owned b (by simp[e])).1 with h | h
       ·exact absurd ah (by have h:w.heap.size<=b:=h;omega)
       exact absurd ao h
     simp only[mT,this]
    ·have:ω b≠.bx:=fun e=>ah (by simp only[mT,e])
     exact (aV.owned b this).2
    intro i pn pre post y o' a1;obtain⟨ls,e6,ds,hint,j3,g1,g0,g2,rfl,g3⟩:=(ET lq).2 i pn pre post o';simp only[c']at g1 g2 g0 o' ⊢;have hi:i<49:=by
     have:=(dK.1 o').1;omega
    have b5:nw≠some (je i):=fun e=>by have:=zO _ e;simp only[je]at this;omega
    obtain⟨cf,tv,uV,gr,gg,CU,vr⟩:=aV.boxes _ ls g1;obtain⟨fq,N8,⟨fQ,_,_,hyp,_⟩,_⟩:=mA.2.2.2 i _ o';rw[a1]at N8;have:=ei N8;subst this;have vL:=aV.pinned (je i) cf (by simp[je]) gr;simp only[nX]at vL;rw[aX (by simp only[je];omega),a6 (by simp[je]),show je i-c5=i by simp[je],ea,a1,hyp]at vL;have vL:fQ=cf:=vL;subst vL;have XX:∀j,stays pn j=true->(rA i 0 pn)[j]?=some (some (iJ i j)):=fun j aM=>by
     simp only[stays,iw]at aM;rw[Jl,c'];cases e:pn[j]? with
     | none=>rw[e]at aM;cases aM
     | some x=>
      rw[e]at aM;simp only[hl]at aM;simp[aM]
    have z8:=Qc (pn:=pn) (nw:=nw) (i:=i) kd ⟨fQ,tv,uV,gr,gg,CU,vr⟩ g0 (fun j aM=>by
     simp only[stays,iw]at aM;rw[iw,Jl];cases e:pn[j]? with
     | none=>rfl
     | some x=>
      rw[e]at aM;simp only[hl]at aM;simp[aM]) g2 (fun y a1=>hZ _ (g3 y a1)) (fun b ah=>?_) (fun b ah=>?_) ⟨fQ,gr,hyp⟩
    ·refine⟨z8.1,fun j aM=>?_⟩;have XS:j<100:=by
      simp only[BL,ca,ci,fN]at dD;have aH:=dD.2 _ (e4 o');simp only[ca,ci]at aH;simp only[stays,iw]at aM;rcases lN j pn.length with h | h
      ·omega
      rw[List.getElem?_eq_none h]at aM;cases aM
     have aH:=z8.2 j (iJ i j) (XX j aM) (by simp only[iJ];omega);rw[aV.fixed _ (by simp only[iJ];omega)]at aH;change (nX as w vs (iJ i j)).2=_ at aH;rw[Qa o' XS]at aH;rw[<-aH];simp only[ea,a1,hl]
    ·simp only[mT,ah];rw[aX b5,a6 ⟨by simp[je],by simp only[je];omega⟩];simp[je]
    simp only[mT]at ah;cases e:ω b with
    | bx=>rw[e]at ah;cases ah
    | tok t q=>rw[e]at ah;simp only at ah;split at ah<;>cases ah
    | box hb=>
     rw[e]at ah;simp only at ah;split at ah
     ·simp only[cS.box.injEq]at ah;omega
     split at ah
     ·simp only[cS.box.injEq]at ah;simp only[je,cS.box.injEq];omega
     cases ah
   obtain⟨v,br,b7⟩:=dI;rcases he with rfl | rfl
   ·exact⟨aV.defers,v,br,b7⟩
   exact⟨aV.defers,v,br,b7⟩
  cases eA
 cases eA
def HZ(P:Program)(c:Code)(ntmps:Nat)(jJ:List ResultVar)(args:List aJ)(hint:aT)(ans:List b4):Option (aT×List aJ×List Prop):=
 match run P c (Ah args ntmps) ans with
 | some (.ret,st,_,obs)=>(CK P st jJ args hint).map fun r=>(r.1,r.2,obs)
 | some (.normal,st,_,obs)=>(CK P st jJ args hint).map fun r=>(r.1,r.2,obs)
 | _=>none
theorem bU.of{P:Program}{f:FuncId}{fn:Func}{r:aT}(ans:List b4)(obs:List Prop)(bl:P.funcs[f]?=some fn)(ah:fn.body.isSome=true)
  (h:HZ P (oL fn) fn.ntmps fn.results.toList args r ans=some (r,args,obs)) (aN:cB obs):bU P f args r:=by
 obtain⟨c,ad⟩:=pL.1 ah;have zF:oL fn=c:=by simp[oL,ad]
 unfold HZ at h;rw[zF]at h;split at h
 ·rename_i st a mR ar;rw[bX]at h;obtain⟨⟨y2,L0⟩,h1,h⟩:=h;simp only[bw]at h;obtain⟨rfl,rfl,rfl⟩:=h;exact PD bl ad ar aN (.inl rfl) h1
 ·rename_i st a mR ar;rw[bX]at h;obtain⟨⟨y2,L0⟩,h1,h⟩:=h;simp only[bw]at h;obtain⟨rfl,rfl,rfl⟩:=h;exact PD bl ad ar aN (.inr rfl) h1
 cases h
end Go.Sx
namespace Go.Sx
open Go.RowKit
mutual
inductive Fit:D->D->Prop
 | refl (d:D):Fit d d
 | nil (k:Nat):Fit (.v (.slice none 0 0)) (.J k [])
 | J (k:Nat) {es cp:List (List D)} (h:mv es cp):Fit (.J k es) (.J k cp)
inductive kv:List D->List D->Prop
 | nil:kv [] []
 | cons {d dr:D} {e e':List D} (h:Fit d dr) (t:kv e e'):kv (d::e) (dr::e')
inductive mv:List (List D)->List (List D)->Prop
 | nil:mv [] []
 | cons {e e':List D} {es cp:List (List D)} (h:kv e e') (t:mv es cp):mv (e::es) (e'::cp)
end
theorem kv.refl:∀e:List D,kv e e
 | []=>.nil
 | d::e=>.cons (.refl d) (kv.refl e)
mutual
theorem Fit.rep{w:World}{ω:Own}:∀{d dr:D},Fit d dr->∀{R:List (Nat×Nat)->cS->Prop} {y:Value},bR w ω R d y->bR w ω R dr y
 | _,_,.refl d,_,_,h=>h
 | _,_,.nil k,_,_,h=>by cases h;exact .nil _ _ _
 | _,_,.J k f,_,_,h=>by
  obtain⟨af,ao⟩:=mv.get (w:=w) (ω:=ω) f;cases h with
  | nil=>
   have:=u0 af.symm;subst this;exact .nil _ _ _
  | row R k es b off cap arr ty cO us ah dI ad ae hk hu ax=>
   rw[af];refine .row _ _ _ b off cap arr ty cO us ah dI (af▸ad) ae (fun e he=>?_) (fun i j dr dC=>?_) (fun i j dr dC=>?_)
   ·obtain⟨i,hi⟩:=ng.1 he;obtain⟨bE,h1,U,_⟩:=ao i e hi;rw[<-U];exact hk bE (e4 h1)
   ·unfold cX at dC;rw[mj]at dC;obtain⟨e,h1,U⟩:=dC;obtain⟨bE,au,_,ba⟩:=ao i e h1;obtain⟨d,br,_⟩:=ba j dr U;exact hu i j d (by unfold cX;rw[au];exact br)
   unfold cX at dC;rw[mj]at dC;obtain⟨e,h1,U⟩:=dC;obtain⟨bE,au,_,ba⟩:=ao i e h1;obtain⟨d,br,b7⟩:=ba j dr U;exact b7 (ax i j d (by unfold cX;rw[au];exact br))
theorem kv.get{w:World}{ω:Own}:∀{e e':List D},kv e e'->e.length=e'.length/\∀(j:Nat) (dr:D),e'[j]?=some dr->∃d,e[j]?=some d/\∀{R:List (Nat×Nat)->cS->Prop} {y:Value},bR w ω R d y->bR w ω R dr y
 | _,_,.nil=>⟨rfl,fun j dr h=>by simp at h⟩
 | _,_,.cons h t=>by
  obtain⟨h1,U⟩:=kv.get (w:=w) (ω:=ω) t;refine⟨by simp[h1],fun j dr ax=>?_⟩;cases j with
  | zero=>
   simp only[iy,aQ]at ax;subst ax;exact⟨_,rfl,fun ar=>Fit.rep h ar⟩
  | succ j=>exact U j dr (by simpa using ax)
theorem mv.get{w:World}{ω:Own}:∀{es cp:List (List D)},mv es cp->es.length=cp.length/\∀(i:Nat) (e':List D),cp[i]?=some e'->∃e,es[i]?=some e/\e.length=e'.length/\∀(j:Nat) (dr:D),e'[j]?=some dr->∃d,e[j]?=some d/\∀{R:List (Nat×Nat)->cS->Prop} {y:Value},bR w ω R d y->bR w ω R dr y
 | _,_,.nil=>⟨rfl,fun j dr h=>by simp at h⟩
 | _,_,.cons h t=>by
  obtain⟨h1,U⟩:=mv.get (w:=w) (ω:=ω) t;obtain⟨au,aH⟩:=kv.get (w:=w) (ω:=ω) h;refine⟨by simp[h1],fun j dr ax=>?_⟩;cases j with
  | zero=>
   simp only[iy,aQ]at ax;subst ax;exact⟨_,rfl,au,aH⟩
  | succ j=>exact U j dr (by simpa using ax)
end
inductive qN:cH->cH->Prop
 | one {d dr:D} (h:Fit d dr):qN (.one d) (.one dr)
 | agg {e e':List D} (h:kv e e'):qN (.agg e) (.agg e')
theorem qN.refl(a:cH):qN a a:=by
 cases a with
 | one d=>exact .one (.refl d)
 | agg e=>exact .agg (.refl e)
inductive n0:List cH->List cH->Prop
 | nil:n0 [] []
 | cons {a cy:cH} {as lk:List cH} (h:qN a cy) (t:n0 as lk):n0 (a::as) (cy::lk)
theorem n0.get:∀{as lk:List cH},n0 as lk->as.length=lk.length/\∀(i:Nat) (cy:cH),lk[i]?=some cy->∃a,as[i]?=some a/\qN a cy
 | _,_,.nil=>⟨rfl,fun j dr h=>by simp at h⟩
 | _,_,.cons h t=>by
  obtain⟨h1,U⟩:=n0.get t;refine⟨by simp[h1],fun j dr ax=>?_⟩;cases j with
  | zero=>
   simp only[iy,aQ]at ax;subst ax;exact⟨_,rfl,h⟩
  | succ j=>exact U j dr (by simpa using ax)
variable{w:World}
theorem qN.cell{ω:Own}{r:Nat}{a cy:cH}{y:Value}(h:qN a cy)(ad:l4 w ω r a y):l4 w ω r cy y:=by
 cases h with
 | one h=>exact h.rep ad
 | agg h=>
  obtain⟨vs,rfl,aL,aM⟩:=ad;obtain⟨h1,U⟩:=kv.get (w:=w) (ω:=ω) h;refine⟨vs,rfl,by omega,fun j dr ax=>?_⟩;obtain⟨d,au,aH⟩:=U j dr ax;obtain⟨u,ba,br⟩:=aM j d au;exact⟨u,ba,aH br⟩
variable{rs uQ:List cH}
theorem n0.all{ω:Own}{v:Value}(h:n0 rs uQ)(ar:mY w ω rs v):mY w ω uQ v:=by
 cases h with
 | nil=>exact ar
 | cons h t=>
  cases t with
  | nil=>exact h.cell ar
  | cons U t2=>
   obtain⟨vs,e,aL,bj⟩:=ar;obtain⟨au,aH⟩:=n0.get (.cons h (.cons U t2));refine⟨vs,e,by omega,fun i cy ag=>?_⟩;obtain⟨a,ba,br⟩:=aH i cy ag;obtain⟨y,b7,dV⟩:=bj i a ba;exact⟨y,b7,br.cell dV⟩
variable{P:Program}{f:FuncId}
theorem bU.fit{args:List aJ}(h:bU P f args (.vals rs))(k:n0 rs uQ):bU P f args (.vals uQ):=by
 intro w vs ω ar j' kE;refine (h w vs ω ar j' kE).mono ?_;rintro e aG ⟨v,rfl,ah,aY,h1,U,au,aH⟩;exact⟨v,rfl,ah,aY,h1,U,au,k.all aH⟩
theorem iW.fit{args:List cH}(h:iW P f args rs)(k:n0 rs uQ):iW P f args uQ:=by
 intro w vs sE ar;refine (h w vs sE ar).mono ?_;rintro e aG ⟨v,rfl,ah,ω,h1,U,au⟩;exact⟨v,rfl,ah,ω,h1,U,k.all au⟩
theorem qN.arg{a cy:cH}{y:Value}(h:qN a cy)(ad:r3 w a y):r3 w cy y:=by
 cases h with
 | one h=>exact h.rep ad
 | agg h=>
  obtain⟨vs,rfl,aL,aM⟩:=ad;obtain⟨h1,U⟩:=kv.get (w:=w) (ω:=fun _=>.bx) h;refine⟨vs,rfl,by omega,fun j dr ax=>?_⟩;obtain⟨d,au,aH⟩:=U j dr ax;obtain⟨u,ba,br⟩:=aM j d au;exact⟨u,ba,aH br⟩
theorem iW.args{as lk:List cH}(h:iW P f lk rs)(k:n0 as lk):iW P f as rs:=by
 intro w vs sE ar;obtain⟨h1,U⟩:=k.get;refine h w vs sE ⟨by rw[ar.1,h1],fun i cy ag=>?_⟩;obtain⟨a,au,aH⟩:=U i cy ag;obtain⟨v,ba,br⟩:=ar.2 i a au;exact⟨v,ba,aH.arg br⟩
