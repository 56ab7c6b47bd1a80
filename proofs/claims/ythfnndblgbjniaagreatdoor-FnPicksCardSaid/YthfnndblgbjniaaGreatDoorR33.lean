import Derived.Test.YthfnndblgbjniaaGreatDoorR15
set_option linter.unusedVariables false
set_option linter.unusedSimpArgs false
namespace Go.Sx
open Go.RowKit
def iW(i:Nat):Nat:=da+i
def js(i j:Nat):Nat:=da+100+(100*i+j)
def aM.aC(i:Nat):aM->bl
 | .ro (.one (.J k es))=>.one (.dt (js i 0) k es)
 | .ro a=>a.arg
 | .io _ _ _=>.one (.ptr (iW i) 0)
 | .fn g cQ=>.one (.gC g (cQ.map iW))
def D.Pr(t:Nat):D->aE
 | .J k es=>.dt t k es
 | _=>.cw
def sX(i:Nat)(pn:List Bool):Nat->List D->List aE
 | _,[]=>[]
 | j,d::ds=>(if stays pn j then d.Pr (js i j) else d.pw (qG i j))::sX i pn (j+1) ds
theorem RP(i:Nat)(pn:List Bool):∀(ds:List D) (j x:Nat),(sX i pn j ds)[x]?=(ds[x]?).map fun d=>if stays pn (j+x) then d.Pr (js i (j+x)) else d.pw (qG i (j+x))
 | [],_,_=>by simp[sX]
 | d::ds,j,0=>by simp[sX]
 | d::ds,j,x+1=>by
  simp only[sX,mL,RP i pn ds (j+1) x];rw[show j+1+x=j+(x+1) by omega]
theorem RQ(i:Nat)(pn:List Bool):∀(ds:List D) (j:Nat),(sX i pn j ds).length=ds.length
 | [],_=>rfl
 | d::ds,j=>by simp[sX,RQ i pn ds (j+1)]
def uM:Nat->List aM->List aG
 | _,[]=>[]
 | i,a::as=>.aC (a.aC i)::uM (i+1) as
def yk:Nat->List aM->List (Nat×List aE)
 | _,[]=>[]
 | i,.io pn pre _::as=>(iW i,sX i pn 0 pre)::yk (i+1) as
 | i,.ro _::as=>yk (i+1) as
 | i,.fn _ _::as=>yk (i+1) as
def zL(args:List aM)(ntmps:Nat):aF:=⟨(uM 0 args).take (s6 args)++List.replicate (ntmps-s6 args) .cw,yk 0 args⟩
theorem RR:∀(as:List aM) (i x:Nat),(uM i as)[x]?=(as[x]?).map fun a=>.aC (a.aC (i+x))
 | [],i,x=>by simp[uM]
 | a::as,i,0=>by simp[uM]
 | a::as,i,x+1=>by
  simp only[uM,mL,RR as (i+1) x];rw[show i+1+x=i+(x+1) by omega]
theorem J7:∀(as:List aM) (i:Nat),(uM i as).length=as.length
 | [],_=>rfl
 | a::as,i=>by simp[uM,J7 as (i+1)]
theorem EP{id:Nat}{ls:List aE}:∀{as:List aM} {i:Nat},dD id (yk i as)=some ls->∃x pn pre post,as[x]?=some (.io pn pre post)/\id=iW (i+x)/\ls=sX (i+x) pn 0 pre
 | [],i,h=>by cases h
 | .ro _::as,i,h=>by
  obtain⟨x,pn,pre,post,U,aa,aB⟩:=EP (as:=as) (i:=i+1) h;exact⟨x+1,pn,pre,post,by simpa using U,by rw[aa,show i+1+x=i+(x+1) by omega],by rw[aB,show i+1+x=i+(x+1) by omega]⟩
 | .fn _ _::as,i,h=>by
  obtain⟨x,pn,pre,post,U,aa,aB⟩:=EP (as:=as) (i:=i+1) h;exact⟨x+1,pn,pre,post,by simpa using U,by rw[aa,show i+1+x=i+(x+1) by omega],by rw[aB,show i+1+x=i+(x+1) by omega]⟩
 | .io pn pre post::as,i,h=>by
  simp only[yk,dD]at h;split at h
  ·rename_i e;exact⟨0,pn,pre,post,rfl,e.symm,(gd h).symm⟩
  obtain⟨x,aak,pre,post,U,aa,aB⟩:=EP (as:=as) (i:=i+1) h;exact⟨x+1,aak,pre,post,by grind,by grind,by grind⟩
def Bl(args:List aM):Bool:=decide (args.length<49)&&args.all fun
 | .ro _=>true
 | .io pn pre post=>decide (pn.length<100)&&decide (pre.length<100)&&decide (post.length<100)
 | .fn _ cQ=>cQ.all fun k=>match args[k]? with | some (.io _ _ _)=>true | _=>false
def Cr:Value->Nat
 | .pointer (some p)=>p.block
 | _=>0
def nH(args:List aM)(w:World)(vs:Array Value)(t:Nat):Nat×Value:=
 if da+100<=t then
  match args[(t-(da+100)) / 100]? with
  | some (.io _ pre _)=>(((pre[(t-(da+100)) % 100]?).map D.s').getD 0,ii w (vs.getD ((t-(da+100)) / 100) undef) ((t-(da+100)) % 100))
  | some (.ro (.one d))=>(d.s',vs.getD ((t-(da+100)) / 100) undef)
  | _=>(0,undef)
 else if da<=t then (Cr (vs.getD (t-da) undef),undef) else
 match args[(t-900000000) / 100]? with
 | some (.io _ pre _)=>(((pre[(t-900000000) % 100]?).map D.s').getD 0,ii w (vs.getD ((t-900000000) / 100) undef) ((t-900000000) % 100))
 | _=>(0,undef)
def sE(ω:Own):Own:=fun b=>match ω b with | .box i=>.box (iW i) | o=>o
variable{ω:Own}{b:Nat}
theorem apn{t:Nat}{q:List (Nat×Nat)}(h:ω b=.tok t q):sE ω b=.tok t q:=by grind[sE]
theorem RS:sE ω b=.bG<->ω b=.bG:=by
 grind[sE]
variable{i:Nat}
theorem EQ:sE ω b=.box (iW i)<->ω b=.box i:=by
 grind[sE,iW,di.box.injEq]
variable{args:List aM}{w:World}{vs:Array Value}
theorem RT{j:Nat}{pn:List Bool}{pre post:List D}(h:args[i]?=some (.io pn pre post))(bm:j<100):
  nH args w vs (js i j)=(((pre[j]?).map D.s').getD 0,ii w (vs.getD i undef) j):=by
 have e1:(js i j-(da+100)) / 100=i:=by grind[js]
 have e2:(js i j-(da+100)) % 100=j:=by grind[js]
 unfold nH;rw[bL (by grind[js]),e1,e2,h]
theorem RU{d:D}(h:args[i]?=some (.ro (.one d))):nH args w vs (js i 0)=(d.s',vs.getD i undef):=by
 simp_all[js,da,nH,bL]
theorem apo(ee:Bl args=true)(h:Gv w ω args vs)(kL:Gp args vs)(ob:Tidy w ω)(ntmps:Nat):
  Rel ⟨w,fun b=>ω b≠.bG,nH args w vs⟩ (zL args ntmps) { tmps:=vs.extract 0 (s6 args)++Array.replicate (ntmps-(vs.extract 0 (s6 args)).size) undef,defers:=[] } w:=by
 have HL:s6 args<=args.length:=Nat.sub_le _ _;obtain⟨gg,df,a',aj⟩:=h;simp only[Bl,cH,c3,fU]at ee;have xd:∀{d:D} {y:Value},b1 w ω Tag.free.R d y->b1 w (sE ω) Tag.free.R d y:=fun h=>h.frame fun b q _ aL=>⟨RS.2 aL,rfl⟩
 have dI:(vs.extract 0 (s6 args)).size=s6 args:=by grind
 refine⟨sE ω,nH args w vs,rfl,by grind[zL,J7],gz.start ob,fun b ay=>?_,fun _ _=>rfl,?_,?_,fun id ls ar=>?_⟩
 ·have:ω b≠.bG:=fun e=>ay (RS.2 e)
  exact⟨.inr this,gg b this⟩
 ·intro id b hi ay;simp only[sE]at ay;cases e:ω b with
  | bG=>grind
  | tok t q=>grind
  | box i=>
   rw[e]at ay;simp only[di.box.injEq]at ay;subst ay;obtain⟨pn,pre,post,U⟩:=df b i e;obtain⟨v,bx,⟨e0,arr,ty,rfl,aa,aB,_⟩,_⟩:=aj i _ U;have:=aB b e;subst this;have zl:i<49:=by
    grind
   simp only[nH];rw[bH (by grind[iW]),bL hi,show iW i-da=i by simp[iW],eR,bx];rfl
 ·intro i p hp;simp only[zL]at hp;rw[pz,uT,J7,Nat.min_eq_left HL]at hp;split at hp
  ·rename_i hi;rw[jZ,bL hi,RR,ca]at hp;obtain⟨jz,p7,rfl⟩:=hp;rw[dW];obtain⟨v,bx,cN⟩:=aj i jz p7;have nh:i<vs.size:=by omega
   refine⟨v,by rw[jE,bL (by grind),Array.getElem?_extract,bL (by omega),dW,bx],?_⟩;cases jz with
   | fn g cQ=>
    have U:=kL i g cQ p7;rw[bx]at U;cases U;refine⟨cQ.map fun k=>Cr (vs.getD k undef),?_,by simp,fun j id bm=>?_⟩
    ·congr 2
     rw[List.map_map];refine lK fun k ba=>?_
     have aa:=ee.2 _ (fI p7);have aB:=fU.1 aa k ba;split at aB
     ·rename_i pn pre post sj;obtain⟨v2,sq,⟨fQ,_,_,rfl,_⟩,_⟩:=aj k _ sj;simp[eR,sq,ptrTo,Cr]
     cases aB
    rw[dP,ca]at bm;obtain⟨k,ba,rfl⟩:=bm;have aa:=ee.2 _ (fI p7);have aB:=fU.1 aa k (fI ba);split at aB
    ·rename_i pn pre post sj;obtain⟨v2,sq,⟨fQ,_,_,rfl,a6,_⟩,_⟩:=aj k _ sj;refine⟨fQ,?_,EQ.2 a6⟩;simp[ba,eR,sq,ptrTo,Cr]
    cases aB
   | io pn pre post=>
    obtain⟨⟨b,arr,ty,rfl,aa,_⟩,_⟩:=cN;exact⟨b,EQ.2 aa,rfl⟩
   | ro cq=>
    cases cq with
    | one d=>
     cases d with
     | J k es=>
      refine⟨xd cN,fun _=>?_⟩;rw[RU p7,eR,bx];rfl
     | v x=>exact D.dN (τ:=nH args w vs) (p:=(0,0)) (t:=.free) (xd cN)
     | ptr ds=>exact D.dN (τ:=nH args w vs) (p:=(0,0)) (t:=.free) (xd cN)
     | a8 g cs=>exact D.dN (τ:=nH args w vs) (p:=(0,0)) (t:=.free) (xd cN)
    | agg ds=>
     obtain⟨us,rfl,hlen,o5⟩:=cN;refine⟨us,rfl,by grind,fun j l ar=>?_⟩;rw[dP,ca]at ar;obtain⟨d,aI,rfl⟩:=ar;obtain⟨u,U,aa⟩:=o5 j d aI;exact⟨u,U,D.dN (p:=(0,0)) (t:=.free) (xd aa)⟩
  rename_i hi;rw[B9]at hp;split at hp
  ·rename_i bO;simp only[aW]at hp;subst hp;refine⟨undef,?_,ad⟩;grind
  cases hp
 obtain⟨i,pn,pre,post,U,rfl,rfl⟩:=EP ar;rw[dW];obtain⟨v,bx,⟨b,arr,ty,rfl,aa,aB,aJ,a6,bF⟩,bY⟩:=aj i _ U;refine⟨b,arr,ty,EQ.2 aa,fun dw eM=>aB dw (EQ.1 eM),aJ,by grind[RQ],fun j l ar=>?_⟩;rw[RP,ca]at ar;obtain⟨d,aI,rfl⟩:=ar;rw[dW];obtain⟨u,hu,aH⟩:=bF j d aI;have bm:j<100:=by
  have e1:=ee.2 _ (fI U);grind
 refine⟨u,hu,?_⟩;cases fc:stays pn j with
 | true=>
  rw[bL rfl];have dy:=bY j d aI fc;have e:ii w (ptrTo b) j=u:=by simp_all[ii,ptrTo]
  rw[e]at dy;cases d with
  | J k es=>
   refine⟨xd dy,fun _=>?_⟩;rw[RT U bm,eR,bx];simp only[kZ,e,aI,rR];rfl
  | _=>exact trivial
 | false=>
 rw[bH (by simp)];replace aH:=aH fc;cases d with
 | v x=>
  have e:u=x:=by cases aH;rfl
  subst e;unfold D.pw;split
  ·rename_i h;cases h;exact rfl
  ·rename_i h;cases h;exact rfl
  ·grind
  ·exact trivial
  grind
 | ptr ds=>exact trivial
 | a8 g bt=>exact trivial
 | J k es=>
  refine⟨aH.frame fun c q _ aL=>⟨apn aL,rfl⟩,?_⟩;have e1:(qG i j-900000000) / 100=i:=by grind[qG]
  have e2:(qG i j-900000000) % 100=j:=by grind[qG]
  have hi:i<49:=by
   grind
  simp only[Tag.eb,nH];rw[bH (by grind[qG,da]),bH (by grind[qG,da])];simp only[e1,e2,U,aI];simp[ii,ptrTo,aJ,eR,bx,hu,D.s']
def py:List (Option Nat)->List aE->Option (List aE)
 | [],ls=>some ls
 | some t::ts,.dt s _ _::ls=>if s=t then (py ts ls).map fun r=>.v (.bool true)::r else none
 | none::ts,l::ls=>(py ts ls).map fun r=>l::r
 | none::ts,[]=>py ts []
 | some _::_,_=>none
theorem ER:∀{ts:List (Option Nat)} {ls fx:List aE},py ts ls=some fx->fx.length=ls.length/\(∀(j t:Nat),ts[j]?=some (some t)->∃k es,ls[j]?=some (.dt t k es))/\∀j,ts.getD j none=none->fx[j]?=ls[j]?
 | [],ls,fx,h=>by
  simp_all[py,aW]
 | some t::ts,.dt s k es::ls,fx,h=>by
  simp only[py]at h;split at h
  ·rename_i e;subst e;rw[ca]at h;obtain⟨r,U,rfl⟩:=h;obtain⟨g1,g2,g3⟩:=ER U;grind
  cases h
 | none::ts,l::ls,fx,h=>by
  simp only[py,ca]at h;obtain⟨r,U,rfl⟩:=h;obtain⟨g1,g2,g3⟩:=ER U;grind
 | none::ts,[],fx,h=>by
  simp only[py]at h;obtain⟨g1,g2,g3⟩:=ER h;refine⟨g1,fun j t bm=>?_,fun j bm=>?_⟩
  ·cases j with
   | zero=>simp at bm
   | succ j=>obtain⟨k,es,h⟩:=g2 j t (by simpa using bm);simp at h
  have:fx=[]:=yD g1;rw[this]
def r':List (Option Nat)->List aE->List D->List D
 | some _::ts,.dt _ k es::ls,_::ds=>.J k es::r' ts ls ds
 | _::ts,_::ls,d::ds=>d::r' ts ls ds
 | _,_,ds=>ds
theorem apq:∀(ts:List (Option Nat)) (ls:List aE) (ds:List D),(r' ts ls ds).length=ds.length/\∀j,ts.getD j none=none->(r' ts ls ds)[j]?=ds[j]?:=by
 intro ts ls ds
 fun_induction r' ts ls ds with
 | case1 t ts s k es ls d ds eO=>
  grind
 | case2 x ts l ls d ds _ eO=>
  grind
 | case3=>grind
def rq(i:Nat):Nat->List Bool->List (Option Nat)
 | _,[]=>[]
 | j,b::r=>(if b then some (js i j) else none)::rq i (j+1) r
theorem J8(i:Nat):∀(pn:List Bool) (j x:Nat),(rq i j pn)[x]?=(pn[x]?).map fun b=>if b then some (js i (j+x)) else none
 | [],_,_=>by simp[rq]
 | b::r,j,0=>by simp[rq]
 | b::r,j,x+1=>by
  simp only[rq,mL,J8 i r (j+1) x];rw[show j+1+x=j+(x+1) by omega]
def sY(st:aF):Nat->List aM->Option (List aM×hY)
 | _,[]=>some ([],[])
 | i,.ro a::as=>(sY st (i+1) as).map fun r=>(.ro a::r.1,r.2)
 | i,.fn g cQ::as=>(sY st (i+1) as).map fun r=>(.fn g cQ::r.1,r.2)
 | i,.io pn pre post::as=>
  match dD (iW i) st.boxes with
  | some ls=>
   match py (rq i 0 pn) ls with
   | some fx=>
    match qI (hs i 0) fx post,sY st (i+1) as with
    | some (ds,ts),some r=>some (.io pn pre (r' (rq i 0 pn) ls ds)::r.1,ts++r.2)
    | _,_=>none
   | none=>none
  | none=>none
theorem ES{st:aF}:∀{as ll:List aM} {i:Nat} {ts:hY},sY st i as=some (ll,ts)->ll.length=as.length/\∀(x:Nat) (pn:List Bool) (pre post:List D),ll[x]?=some (.io pn pre post)->
  ∃ls fx ds hint kV,dD (iW (i+x)) st.boxes=some ls/\py (rq (i+x) 0 pn) ls=some fx/\qI (hs (i+x) 0) fx hint=some (ds,kV)/\post=r' (rq (i+x) 0 pn) ls ds/\∀y∈kV,y∈ts
 | [],ll,i,ts,h=>by
  simp_all[sY,aW,bA]
 | .ro a::as,ll,i,ts,h=>by
  simp only[sY,ca]at h;obtain⟨⟨bE,b0⟩,U,h⟩:=h;simp only[bA]at h;obtain⟨rfl,rfl⟩:=h;obtain⟨c7,bQ⟩:=ES U;refine⟨by simp[c7],fun x pn pre post aq=>?_⟩;cases x with
  | zero=>simp at aq
  | succ x=>
   have:=bQ x pn pre post (by simpa using aq);rwa[show i+1+x=i+(x+1) by omega]at this
 | .fn g cQ::as,ll,i,ts,h=>by
  simp only[sY,ca]at h;obtain⟨⟨bE,b0⟩,U,h⟩:=h;simp only[bA]at h;obtain⟨rfl,rfl⟩:=h;obtain⟨c7,bQ⟩:=ES U;refine⟨by simp[c7],fun x pn pre post aq=>?_⟩;cases x with
  | zero=>simp at aq
  | succ x=>
   have:=bQ x pn pre post (by simpa using aq);rwa[show i+1+x=i+(x+1) by omega]at this
 | .io pn pre post::as,ll,i,ts,h=>by
  simp only[sY]at h;split at h
  ·rename_i ls e1;split at h
   ·rename_i fx bz;split at h
    ·rename_i ds Ms r e2 cn;simp only[aW,bA]at h;obtain⟨rfl,rfl⟩:=h;obtain⟨c7,bQ⟩:=ES cn;grind
    cases h
   cases h
  cases h
def ET(src:List (Option Nat)):List (Option Nat):=src.map fun x=>x.map fun a=>js a 0
def awx(args:List aM):aV->Bool
 | .vals _=>true
 | .iO src _=>src.all fun
  | some a=>match args[a]? with | some (.ro (.one _))=>true | _=>false
  | none=>true
def Mo(P:Program)(st:aF)(jW:List ResultVar):aV->Option (aV×hY×Option Nat)
 | .vals hint=>
  match jW.mapM (qu P st) with
  | some b7=>(rK 0 b7 hint).map fun r=>(.vals r.1,r.2,none)
  | none=>none
 | .iO src hint=>
  match jW.mapM (qu P st) with
  | some [.aC (.one (.ptr id 0))]=>
   match dD id st.boxes with
   | some ls=>
    match py (ET src) ls with
    | some fx=>if id<da then (qI (hs 49 0) fx hint).map fun r=>(.iO src (r' (ET src) ls r.1),r.2,some id) else none
    | none=>none
   | none=>none
  | _=>none
def CD(P:Program)(st:aF)(jW:List ResultVar)(args:List aM)(hint:aV):Option (aV×List aM):=
 match Mo P st jW hint,sY st 0 args with
 | some (r,ts,_),some (as,tc)=>if Bl args&&awx args r&&Dw (ts++tc) then some (r,as) else none
 | _,_=>none
def mD(ω:Own)(ts:hY)(nw:Option Nat):Own:=fun b=>
 match ω b with
 | .tok t q=>match ts.at t with | some n=>.tok n q | none=>.bG
 | .box id=>if nw=some id then .box 49 else if da<=id/\id<da+49 then .box (id-da) else .bG
 | .bG=>.bG
variable{ts:hY}
theorem J9{nw:Option Nat}{n:Nat}{q:List (Nat×Nat)}(h:ij ω ts b=.tok n q):mD ω ts nw b=.tok n q:=by
 grind[ij,mD,id]
theorem l6.awF{nw:Option Nat}{r:Nat}{d:cJ}{y:Value}(h:l6 w (ij ω ts) r d y):l6 w (mD ω ts nw) r d y:=by
 cases d with
 | one d=>exact b1.frame h fun b q _ aL=>⟨J9 aL,rfl⟩
 | agg ds=>
  obtain⟨vs,e,a',bm⟩:=h;exact⟨vs,e,a',fun j d aI=>by
   obtain⟨u,hu,aH⟩:=bm j d aI;exact⟨u,hu,aH.frame fun b q _ aL=>⟨J9 aL,rfl⟩⟩⟩
theorem RV{τ:Nat->Nat×Value}{nw:Option Nat}{id i:Nat}{ls fx:List aE}{hint ds:List D}{kV:hY}{cQ:List (Option Nat)}{pn:List Bool}(kr:∀t n,(t,n)∈ts->ts.at t=some n)
  (ay:tk w ω τ id ls) (gg:py cQ ls=some fx) (Y1:∀j,stays pn j=false->cQ.getD j none=none) (aH:qI (hs i 0) fx hint=some (ds,kV)) (jj:∀y∈kV,y∈ts) (hid:∀b,ω b=.box id->mD ω ts nw b=.box i) (ZE:∀b,mD ω ts nw b=.box i->ω b=.box id):
  ∀{y:Value},(∃b,ω b=.box id/\y=ptrTo b)->u1 w (mD ω ts nw) i pn (hs i) (r' cQ ls ds) y/\∀(j t:Nat),cQ[j]?=some (some t)->da<=t->(τ t).2=ii w y j:=by
 rintro y ⟨dw,eM,rfl⟩;obtain⟨b,arr,ty,U,aa,aB,aJ⟩:=ay;have:=aa dw eM;subst this;obtain⟨a6,bF⟩:=KO (w:=w) (ω:=ω) (τ:=τ) kr aH jj;obtain⟨gK,kk,qK⟩:=ER gg;obtain⟨f1,f2⟩:=apq cQ ls ds;refine⟨⟨dw,arr,ty,rfl,hid dw eM,fun c ao=>aa c (ZE c ao),aB,by have:=aJ.1;omega,fun j d aI=>?_⟩,fun j t bm bZ=>?_⟩
 ·have kM:j<ls.length:=by
   grind
  obtain⟨u,hu,ak⟩:=aJ.2 j _ (iB kM);refine⟨u,hu,fun fc=>?_⟩;have ba:=Y1 j fc;rw[f2 j ba]at aI;obtain⟨l,ar,c1⟩:=bF j d aI;rw[qK j ba,iB kM]at ar;cases ar;have:=c1 u ak;rw[show hs i 0+j=hs i j by grind[hs]]at this;exact this.frame fun b q _ aL=>⟨J9 aL,rfl⟩
 obtain⟨k,es,ar⟩:=kk j t bm;obtain⟨u,hu,ak⟩:=aJ.2 j _ ar;rw[ak.2 bZ];simp[ii,ptrTo,aB,eR,hu]
theorem RW{P:Program}{f:FuncId}{fn:Func}{c:Code}{r:aV}{ans cm:List cd}{obs:List Prop}{e:hD}{st:aF}(b8:P.funcs[f]?=some fn)(ay:fn.body=some c)
  (fv:run P c (zL args fn.ntmps) ans=some (e,st,cm,obs)) (bc:cK obs) (he:e=.ret\/e=.normal) (e4:CD P st fn.results.toList args r=some (r,args)):b3 P f args r:=by
 intro w vs Cb mu Hq ob;unfold CD at e4;split at e4
 ·rename_i bE ts nw as tc hy np;split at e4
  ·rename_i cN;simp only[aW,bA]at e4;obtain⟨rfl,rfl⟩:=e4;rw[cH,cH]at cN;obtain⟨⟨ee,iK⟩,cN⟩:=cN;have kr:∀t n,(t,n)∈ts++tc->hY.at t (ts++tc)=some n:=fun t n h=>Dx cN h
   refine calls_of_wp b8 ay (Code.wp_mono (fun e' cI aN hp=>?_) (nz c fv bc _ _ w (apo ee mu Hq ob fn.ntmps)));obtain⟨rfl,ω,τ,aZ⟩:=hp;have ayb:bE=bE/\as.length<49:=by
    simp_all[Bl,cH,c3]
   have C2:∀id,nw=some id->id<da:=by
    intro id e;subst e;unfold Mo at hy;split at hy
    ·grind[ca,bA,absurd]
    grind[ca,bA,aW]
   have hm:∃v,(results fn cI.tmps).run P aN=.ok v aN/\Cl aN (mD ω (ts++tc) nw) vs bE v:=by
    have OW:∀{b7:List aG},fn.results.toList.mapM (qu P st)=some b7->∃zs:List Value,(results fn cI.tmps).run P aN=.ok (if h:zs.toArray.size=1 then zs.toArray[0] else .tuple zs.toArray) aN/\zs.length=b7.length/\∀(i:Nat) (p:aG),b7[i]?=some p->∃z,zs[i]?=some z/\cO (Sat aN ω τ) p z:=by
     intro b7 sn;obtain⟨zs,U,aa,aB⟩:=Dz aZ sn;have hm:=D8 (P:=P) _ fn.results aN _ U;refine⟨zs,?_,aa,aB⟩;rw[KP,Sem.run_bind,hm];rfl
    unfold Mo at hy;split at hy
    ·rename_i hint;split at hy
     ·rename_i b7 sn;rw[ca]at hy;obtain⟨⟨ds,Ms⟩,eU,h⟩:=hy;simp only[bA,aV.vals.injEq]at h;obtain⟨rfl,rfl,rfl⟩:=h;obtain⟨zs,U,aa,aB⟩:=OW sn;obtain⟨aJ,a6⟩:=Dy (w:=aN) (ω:=ω) (τ:=τ) kr eU (fun x aq=>iy _ aq);have fo:∀(j:Nat) (d:cJ),ds[j]?=some d->∃z,zs[j]?=some z/\l6 aN (mD ω (Ms++tc) none) j d z:=by
       intro j d aI;obtain⟨p,hp,sl⟩:=a6 j d aI;obtain⟨z,bp,rb⟩:=aB j p hp;have:=sl z rb;rw[dW]at this;exact⟨z,bp,this.awF⟩
      have lZ:zs.length=ds.length:=by omega
      refine⟨_,U,?_⟩;show mB _ _ _ _;generalize bx:(if h:zs.toArray.size=1 then zs.toArray[0] else Value.tuple zs.toArray)=v;unfold mB;split
      ·rename_i cq;obtain⟨z,bp,ao⟩:=fo 0 cq rfl;grind
      rename_i db;have U:¬zs.toArray.size=1:=by
       intro h;simp at h;rw[lZ]at h;obtain⟨d,aI⟩:=List.length_eq_one_iff.1 h;grind
      grind
     cases hy
    rename_i src hint;split at hy
    ·rename_i id sn;split at hy
     ·rename_i ls df;split at hy
      case h_2=>cases hy
      rename_i fx gg;split at hy
      ·rename_i bO;rw[ca]at hy;obtain⟨⟨ds,Ms⟩,eU,h⟩:=hy;simp only[bA,aV.iO.injEq,true_and]at h;obtain⟨rfl,rfl,rfl⟩:=h;obtain⟨zs,U,aa,aB⟩:=OW sn;obtain⟨z,bp,b,ZQ,rc⟩:=aB 0 _ rfl;have ra:zs=[z]:=by
        match zs,aa,bp with
        | [z0],_,bp=>grind
       subst ra;refine⟨z,by grind,?_⟩;have zD:=RV (pn:=wD src) (nw:=some id) (i:=49) kr (aZ.boxes id ls df) gg (fun j bm=>by
        simp only[stays,wD,kY,dP]at bm;simp only[ET,kY,dP];cases e:src[j]? with
        | none=>rfl
        | some x=>simp_all) eU (fun y bM=>iy _ bM) (fun b ay=>by simp_all[mD,gy]) (fun b ay=>?_) ⟨b,ZQ,rc⟩
       ·refine⟨zD.1,fun j x aq=>?_⟩;have aJ:=zD.2 j (js x 0) (by simp[ET,aq]) (by grind[js]);have a6:=fU.1 iK _ (fI aq);simp only at a6;split at a6
        ·rename_i d aI;rw[aZ.fixed _ (by grind[js])]at aJ;change (nH as w vs (js x 0)).2=_ at aJ;rw[RU aI]at aJ;have bF:x<vs.size:=by
          have:=(fP.1 aI).1;have:=mu.2.2.1;omega
         simp_all
        cases a6
       grind[mD,gd,di.box.injEq]
      cases hy
     cases hy
    cases hy
   obtain⟨v,tM,sq⟩:=hm;have dY:∃v,(results fn cI.tmps).run P aN=.ok v aN/\∃u,Ending.returned v=.returned u/\gz ⟨w,fun b=>Cb b≠.bG,fun _=>(0,undef)⟩ aN/\
     ∃bd:Own,(∀b,b<w.heap.size->Cb b=.bG->bd b=.bG)/\DU aN bd/\(∀(i:Nat) (pn:List Bool) (pre post:List D) (y:Value),as[i]?=some (.io pn pre post)->vs[i]?=some y->u1 aN bd i pn (hs i) post y/\∀j,stays pn j=true->ii aN y j=ii w y j)/\Cl aN bd vs bE u:=by
    refine⟨v,tM,v,rfl,⟨aZ.below.os,aZ.below.tape,aZ.below.output,aZ.below.size,aZ.below.block,aZ.below.drawn,aZ.below.laid,aZ.below.free⟩,mD ω (ts++tc) nw,fun b ay ax=>?_,fun b ay=>?_,?_,sq⟩
    ·have:ω b=.bG:=by
      cases e:ω b with
      | bG=>rfl
      | box id=>
       rcases (aZ.owned b (by simp[e])).1 with h | h
       ·grind
       grind
      | tok t q=>
       rcases (aZ.owned b (by simp[e])).1 with h | h
       ·grind
       grind
     grind[mD]
    ·have:ω b≠.bG:=fun e=>ay (by grind[mD])
     exact (aZ.owned b this).2
    intro i pn pre post y p7 bM;obtain⟨ls,fx,ds,hint,kV,g1,g0,g2,rfl,g3⟩:=(ES np).2 i pn pre post p7;simp only[dW]at g1 g2 g0 p7 ⊢;have hi:i<49:=by
     grind
    have db:nw≠some (iW i):=fun e=>by grind[iW]
    obtain⟨b6,tn,uQ,gD,hx,CN,vd⟩:=aZ.boxes _ ls g1;obtain⟨gM,O1,⟨e0,_,_,hyp,_⟩,_⟩:=mu.2.2.2 i _ p7;rw[bM]at O1;have:=gd O1;subst this;have vm:=aZ.pinned (iW i) b6 (by simp[iW]) gD;simp only[nH]at vm;rw[bH (by grind[iW]),bL (by simp[iW]),show iW i-da=i by simp[iW],eR,bM,hyp]at vm;have vm:e0=b6:=vm;subst vm;have YZ:∀j,stays pn j=true->(rq i 0 pn)[j]?=some (some (js i j)):=fun j bm=>by
     simp only[stays,kY]at bm;rw[J8,dW];grind
    have zD:=RV (pn:=pn) (nw:=nw) (i:=i) kr ⟨e0,tn,uQ,gD,hx,CN,vd⟩ g0 (fun j bm=>by
     simp only[stays,kY]at bm;rw[kY,J8];grind) g2 (fun y bM=>jD _ (g3 y bM)) (fun b ay=>?_) (fun b ay=>?_) ⟨e0,gD,hyp⟩
    ·refine⟨zD.1,fun j bm=>?_⟩;have YX:j<100:=by
      simp only[Bl,cH,c3,fU]at ee;have aJ:=ee.2 _ (fI p7);simp only[cH,c3]at aJ;grind[stays,pE]
     have aJ:=zD.2 j (js i j) (YZ j bm) (by grind[js]);rw[aZ.fixed _ (by grind[js])]at aJ;change (nH as w vs (js i j)).2=_ at aJ;rw[RT p7 YX]at aJ;rw[<-aJ];simp only[eR,bM,kZ]
    ·simp only[mD,ay];rw[bH db,bL ⟨by simp[iW],by grind[iW]⟩];simp[iW]
    grind[mD,di.box.injEq,iW]
   obtain⟨v,bF,bY⟩:=dY;rcases he with rfl | rfl
   ·exact⟨aZ.defers,v,bF,bY⟩
   exact⟨aZ.defers,v,bF,bY⟩
  cases e4
 cases e4
def IQ(P:Program)(c:Code)(ntmps:Nat)(jW:List ResultVar)(args:List aM)(hint:aV)(ans:List cd):Option (aV×List aM×List Prop):=
 match run P c (zL args ntmps) ans with
 | some (.ret,st,_,obs)=>(CD P st jW args hint).map fun r=>(r.1,r.2,obs)
 | some (.normal,st,_,obs)=>(CD P st jW args hint).map fun r=>(r.1,r.2,obs)
 | _=>none
theorem b3.of{P:Program}{f:FuncId}{fn:Func}{r:aV}(ans:List cd)(obs:List Prop)(b8:P.funcs[f]?=some fn)(ay:fn.body.isSome=true)
  (h:IQ P (nA fn) fn.ntmps fn.results.toList args r ans=some (r,args,obs)) (bc:cK obs):b3 P f args r:=by
 obtain⟨c,ao⟩:=qO.1 ay;have zh:nA fn=c:=by simp[nA,ao]
 unfold IQ at h;rw[zh]at h;split at h
 ·rename_i st a mz aH;rw[ca]at h;obtain⟨⟨yr,Mr⟩,U,h⟩:=h;simp only[bA]at h;obtain⟨rfl,rfl,rfl⟩:=h;exact RW b8 ao aH bc (.inl rfl) U
 ·rename_i st a mz aH;rw[ca]at h;obtain⟨⟨yr,Mr⟩,U,h⟩:=h;simp only[bA]at h;obtain⟨rfl,rfl,rfl⟩:=h;exact RW b8 ao aH bc (.inr rfl) U
 cases h
end Go.Sx
namespace Go.Sx
open Go.RowKit
mutual
inductive Fit:D->D->Prop
 | refl (d:D):Fit d d
 | nil (k:Nat):Fit (.v (.slice none 0 0)) (.J k [])
 | J (k:Nat) {es cv:List (List D)} (h:mi es cv):Fit (.J k es) (.J k cv)
inductive kH:List D->List D->Prop
 | nil:kH [] []
 | cons {d dK:D} {e e':List D} (h:Fit d dK) (t:kH e e'):kH (d::e) (dK::e')
inductive mi:List (List D)->List (List D)->Prop
 | nil:mi [] []
 | cons {e e':List D} {es cv:List (List D)} (h:kH e e') (t:mi es cv):mi (e::es) (e'::cv)
end
theorem kH.refl:∀e:List D,kH e e
 | []=>.nil
 | d::e=>.cons (.refl d) (kH.refl e)
mutual
theorem Fit.rep{w:World}{ω:Own}:∀{d dK:D},Fit d dK->∀{R:List (Nat×Nat)->di->Prop} {y:Value},b1 w ω R d y->b1 w ω R dK y
 | _,_,.refl d,_,_,h=>h
 | _,_,.nil k,_,_,h=>by cases h;exact .nil _ _ _
 | _,_,.J k f,_,_,h=>by
  obtain⟨ar,ax⟩:=mi.get (w:=w) (ω:=ω) f;cases h with
  | nil=>
   have:=yD ar.symm;subst this;exact .nil _ _ _
  | row R k es b off cap arr ty cT us ay dY ao ak ba hu aI=>
   rw[ar];refine .row _ _ _ b off cap arr ty cT us ay dY (ar▸ao) ak (fun e he=>?_) (fun i j dK ez=>?_) (fun i j dK ez=>?_)
   ·obtain⟨i,hi⟩:=oN.1 he;obtain⟨bz,U,aa,_⟩:=ax i e hi;rw[<-aa];exact ba bz (fI U)
   ·unfold c5 at ez;rw[mf]at ez;obtain⟨e,U,aa⟩:=ez;obtain⟨bz,aB,_,a6⟩:=ax i e U;obtain⟨d,bF,_⟩:=a6 j dK aa;exact hu i j d (by unfold c5;rw[aB];exact bF)
   unfold c5 at ez;rw[mf]at ez;obtain⟨e,U,aa⟩:=ez;obtain⟨bz,aB,_,a6⟩:=ax i e U;obtain⟨d,bF,bY⟩:=a6 j dK aa;exact bY (aI i j d (by unfold c5;rw[aB];exact bF))
theorem kH.get{w:World}{ω:Own}:∀{e e':List D},kH e e'->e.length=e'.length/\∀(j:Nat) (dK:D),e'[j]?=some dK->∃d,e[j]?=some d/\∀{R:List (Nat×Nat)->di->Prop} {y:Value},b1 w ω R d y->b1 w ω R dK y
 | _,_,.nil=>⟨rfl,fun j dK h=>by simp at h⟩
 | _,_,.cons h t=>by
  obtain⟨U,aa⟩:=kH.get (w:=w) (ω:=ω) t;refine⟨by simp[U],fun j dK aI=>?_⟩;cases j with
  | zero=>
   simp only[lg,aW]at aI;subst aI;exact⟨_,rfl,fun aH=>Fit.rep h aH⟩
  | succ j=>exact aa j dK (by simpa using aI)
theorem mi.get{w:World}{ω:Own}:∀{es cv:List (List D)},mi es cv->es.length=cv.length/\∀(i:Nat) (e':List D),cv[i]?=some e'->∃e,es[i]?=some e/\e.length=e'.length/\∀(j:Nat) (dK:D),e'[j]?=some dK->∃d,e[j]?=some d/\∀{R:List (Nat×Nat)->di->Prop} {y:Value},b1 w ω R d y->b1 w ω R dK y
 | _,_,.nil=>⟨rfl,fun j dK h=>by simp at h⟩
 | _,_,.cons h t=>by
  obtain⟨U,aa⟩:=mi.get (w:=w) (ω:=ω) t;obtain⟨aB,aJ⟩:=kH.get (w:=w) (ω:=ω) h;refine⟨by simp[U],fun j dK aI=>?_⟩;cases j with
  | zero=>
   simp only[lg,aW]at aI;subst aI;exact⟨_,rfl,aB,aJ⟩
  | succ j=>exact aa j dK (by simpa using aI)
end
inductive qR:cJ->cJ->Prop
 | one {d dK:D} (h:Fit d dK):qR (.one d) (.one dK)
 | agg {e e':List D} (h:kH e e'):qR (.agg e) (.agg e')
theorem qR.refl(a:cJ):qR a a:=by
 cases a with
 | one d=>exact .one (.refl d)
 | agg e=>exact .agg (.refl e)
inductive oQ:List cJ->List cJ->Prop
 | nil:oQ [] []
 | cons {a cI:cJ} {as ll:List cJ} (h:qR a cI) (t:oQ as ll):oQ (a::as) (cI::ll)
theorem oQ.get:∀{as ll:List cJ},oQ as ll->as.length=ll.length/\∀(i:Nat) (cI:cJ),ll[i]?=some cI->∃a,as[i]?=some a/\qR a cI
 | _,_,.nil=>⟨rfl,fun j dK h=>by simp at h⟩
 | _,_,.cons h t=>by
  obtain⟨U,aa⟩:=oQ.get t;refine⟨by simp[U],fun j dK aI=>?_⟩;cases j with
  | zero=>
   simp only[lg,aW]at aI;subst aI;exact⟨_,rfl,h⟩
  | succ j=>exact aa j dK (by simpa using aI)
variable{w:World}
theorem qR.cell{ω:Own}{r:Nat}{a cI:cJ}{y:Value}(h:qR a cI)(ao:l6 w ω r a y):l6 w ω r cI y:=by
 cases h with
 | one h=>exact h.rep ao
 | agg h=>
  obtain⟨vs,rfl,a',bm⟩:=ao;obtain⟨U,aa⟩:=kH.get (w:=w) (ω:=ω) h;refine⟨vs,rfl,by omega,fun j dK aI=>?_⟩;obtain⟨d,aB,aJ⟩:=aa j dK aI;obtain⟨u,a6,bF⟩:=bm j d aB;exact⟨u,a6,aJ bF⟩
variable{rs uN:List cJ}
theorem oQ.all{ω:Own}{v:Value}(h:oQ rs uN)(aH:mB w ω rs v):mB w ω uN v:=by
 cases h with
 | nil=>exact aH
 | cons h t=>
  cases t with
  | nil=>exact h.cell aH
  | cons aa t2=>
   obtain⟨vs,e,a',bx⟩:=aH;obtain⟨aB,aJ⟩:=oQ.get (.cons h (.cons aa t2));refine⟨vs,e,by omega,fun i cI aj=>?_⟩;obtain⟨a,a6,bF⟩:=aJ i cI aj;obtain⟨y,bY,dy⟩:=bx i a a6;exact⟨y,bY,bF.cell dy⟩
variable{P:Program}{f:FuncId}
theorem b3.fit{args:List aM}(h:b3 P f args (.vals rs))(k:oQ rs uN):b3 P f args (.vals uN):=by
 intro w vs ω aH kL ob;refine (h w vs ω aH kL ob).mono ?_;rintro e aN ⟨v,rfl,ay,bd,U,aa,aB,aJ⟩;exact⟨v,rfl,ay,bd,U,aa,aB,k.all aJ⟩
theorem ie.fit{args:List cJ}(h:ie P f args rs)(k:oQ rs uN):ie P f args uN:=by
 intro w vs p' aH;refine (h w vs p' aH).mono ?_;rintro e aN ⟨v,rfl,ay,ω,U,aa,aB⟩;exact⟨v,rfl,ay,ω,U,aa,k.all aB⟩
theorem qR.arg{a cI:cJ}{y:Value}(h:qR a cI)(ao:uX w a y):uX w cI y:=by
 cases h with
 | one h=>exact h.rep ao
 | agg h=>
  obtain⟨vs,rfl,a',bm⟩:=ao;obtain⟨U,aa⟩:=kH.get (w:=w) (ω:=fun _=>.bG) h;refine⟨vs,rfl,by omega,fun j dK aI=>?_⟩;obtain⟨d,aB,aJ⟩:=aa j dK aI;obtain⟨u,a6,bF⟩:=bm j d aB;exact⟨u,a6,aJ bF⟩
theorem ie.args{as ll:List cJ}(h:ie P f ll rs)(k:oQ as ll):ie P f as rs:=by
 intro w vs p' aH;obtain⟨U,aa⟩:=k.get;refine h w vs p' ⟨by rw[aH.1,U],fun i cI aj=>?_⟩;obtain⟨a,aB,aJ⟩:=aa i cI aj;obtain⟨v,a6,bF⟩:=aH.2 i a aB;exact⟨v,a6,aJ.arg bF⟩
