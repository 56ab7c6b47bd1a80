import Derived.Test.YthfnndblgbjniaaGreatR15
set_option linter.unusedVariables false
set_option linter.unusedSimpArgs false
namespace Go.Sx
open Go.RowKit
def jV(i:Nat):Nat:=dk+i
def kj(i j:Nat):Nat:=dk+100+(100*i+j)
def aM.aF(i:Nat):aM->bp
 | .ro (.one (.J k es))=>.one (.dC (kj i 0) k es)
 | .ro a=>a.arg
 | .jx _ _ _=>.one (.ptr (jV i) 0)
 | .fn g cV=>.one (.hq g (cV.map jV))
def D.Tp(t:Nat):D->aG
 | .J k es=>.dC t k es
 | _=>.cp
def uP(i:Nat)(pn:List Bool):Nat->List D->List aG
 | _,[]=>[]
 | j,d::ds=>(if stays pn j then d.Tp (kj i j) else d.qT (sc i j))::uP i pn (j+1) ds
theorem U'(i:Nat)(pn:List Bool):∀(ds:List D) (j x:Nat),(uP i pn j ds)[x]?=(ds[x]?).map fun d=>if stays pn (j+x) then d.Tp (kj i (j+x)) else d.qT (sc i (j+x))
 | [],_,_=>by simp[uP]
 | d::ds,j,0=>by simp[uP]
 | d::ds,j,x+1=>by
  simp only[uP,p8,U' i pn ds (j+1) x];rw[show j+1+x=j+(x+1) by omega]
theorem Va(i:Nat)(pn:List Bool):∀(ds:List D) (j:Nat),(uP i pn j ds).length=ds.length
 | [],_=>rfl
 | d::ds,j=>by simp[uP,Va i pn ds (j+1)]
def wP:Nat->List aM->List aI
 | _,[]=>[]
 | i,a::as=>.aF (a.aF i)::wP (i+1) as
def AQ:Nat->List aM->List (Nat×List aG)
 | _,[]=>[]
 | i,.jx pn pre _::as=>(jV i,uP i pn 0 pre)::AQ (i+1) as
 | i,.ro _::as=>AQ (i+1) as
 | i,.fn _ _::as=>AQ (i+1) as
def Co(args:List aM)(ntmps:Nat):aD:=⟨(wP 0 args).take (uY args)++List.replicate (ntmps-uY args) .cp,AQ 0 args⟩
theorem Vb:∀(as:List aM) (i x:Nat),(wP i as)[x]?=(as[x]?).map fun a=>.aF (a.aF (i+x))
 | [],i,x=>by simp[wP]
 | a::as,i,0=>by simp[wP]
 | a::as,i,x+1=>by
  simp only[wP,p8,Vb as (i+1) x];rw[show i+1+x=i+(x+1) by omega]
theorem N6:∀(as:List aM) (i:Nat),(wP i as).length=as.length
 | [],_=>rfl
 | a::as,i=>by simp[wP,N6 as (i+1)]
theorem HA{id:Nat}{ls:List aG}:∀{as:List aM} {i:Nat},dK id (AQ i as)=some ls->∃x pn pre post,as[x]?=some (.jx pn pre post)/\id=jV (i+x)/\ls=uP (i+x) pn 0 pre
 | [],i,h=>by cases h
 | .ro _::as,i,h=>by
  obtain⟨x,pn,pre,post,h1,U,aA⟩:=HA (as:=as) (i:=i+1) h;exact⟨x+1,pn,pre,post,by simpa using h1,by rw[U,show i+1+x=i+(x+1) by omega],by rw[aA,show i+1+x=i+(x+1) by omega]⟩
 | .fn _ _::as,i,h=>by
  obtain⟨x,pn,pre,post,h1,U,aA⟩:=HA (as:=as) (i:=i+1) h;exact⟨x+1,pn,pre,post,by simpa using h1,by rw[U,show i+1+x=i+(x+1) by omega],by rw[aA,show i+1+x=i+(x+1) by omega]⟩
 | .jx pn pre post::as,i,h=>by
  simp only[AQ,dK]at h;split at h
  ·rename_i e;exact⟨0,pn,pre,post,rfl,e.symm,(gO h).symm⟩
  obtain⟨x,afI,pre,post,h1,U,aA⟩:=HA (as:=as) (i:=i+1) h;exact⟨x+1,afI,pre,post,by grind,by grind,by grind⟩
def D5(args:List aM):Bool:=decide (args.length<49)&&args.all fun
 | .ro _=>true
 | .jx pn pre post=>decide (pn.length<100)&&decide (pre.length<100)&&decide (post.length<100)
 | .fn _ cV=>cV.all fun k=>match args[k]? with | some (.jx _ _ _)=>true | _=>false
def E9:Value->Nat
 | .pointer (some p)=>p.block
 | _=>0
def oW(args:List aM)(w:World)(vs:Array Value)(t:Nat):Nat×Value:=
 if dk+100<=t then
  match args[(t-(dk+100)) / 100]? with
  | some (.jx _ pre _)=>(((pre[(t-(dk+100)) % 100]?).map D.u2).getD 0,jq w (vs.getD ((t-(dk+100)) / 100) undef) ((t-(dk+100)) % 100))
  | some (.ro (.one d))=>(d.u2,vs.getD ((t-(dk+100)) / 100) undef)
  | _=>(0,undef)
 else if dk<=t then (E9 (vs.getD (t-dk) undef),undef) else
 match args[(t-900000000) / 100]? with
 | some (.jx _ pre _)=>(((pre[(t-900000000) % 100]?).map D.u2).getD 0,jq w (vs.getD ((t-900000000) / 100) undef) ((t-900000000) % 100))
 | _=>(0,undef)
def uv(ω:Own):Own:=fun b=>match ω b with | .box i=>.box (jV i) | o=>o
variable{ω:Own}{b:Nat}
theorem aBs{t:Nat}{q:List (Nat×Nat)}(h:ω b=.tok t q):uv ω b=.tok t q:=by grind[uv]
theorem Vc:uv ω b=.bP<->ω b=.bP:=by
 grind[uv]
variable{i:Nat}
theorem HB:uv ω b=.box (jV i)<->ω b=.box i:=by
 grind[uv,jV,dv.box.injEq]
variable{args:List aM}{w:World}{vs:Array Value}
theorem Vd{j:Nat}{pn:List Bool}{pre post:List D}(h:args[i]?=some (.jx pn pre post))(bf:j<100):
  oW args w vs (kj i j)=(((pre[j]?).map D.u2).getD 0,jq w (vs.getD i undef) j):=by
 have e1:(kj i j-(dk+100)) / 100=i:=by grind[kj]
 have e2:(kj i j-(dk+100)) % 100=j:=by grind[kj]
 unfold oW;rw[bq (by grind[kj]),e1,e2,h]
theorem Ve{d:D}(h:args[i]?=some (.ro (.one d))):oW args w vs (kj i 0)=(d.u2,vs.getD i undef):=by
 simp_all[kj,dk,oW,bq]
theorem aBt(eo:D5 args=true)(h:Jv w ω args vs)(lG:Js args vs)(mx:Tidy w ω)(ntmps:Nat):
  Rel ⟨w,fun b=>ω b≠.bP,oW args w vs⟩ (Co args ntmps) { tmps:=vs.extract 0 (uY args)++Array.replicate (ntmps-(vs.extract 0 (uY args)).size) undef,defers:=[] } w:=by
 have KL:uY args<=args.length:=Nat.sub_le _ _;obtain⟨gV,dm,aW,ah⟩:=h;simp only[D5,cu,cj,gn]at eo;have zn:∀{d:D} {y:Value},b3 w ω Tag.free.R d y->b3 w (uv ω) Tag.free.R d y:=fun h=>h.frame fun b q _ aH=>⟨Vc.2 aH,rfl⟩
 have dO:(vs.extract 0 (uY args)).size=uY args:=by grind
 refine⟨uv ω,oW args w vs,rfl,by grind[Co,N6],gZ.start mx,fun b aw=>?_,fun _ _=>rfl,?_,?_,fun id ls al=>?_⟩
 ·have:ω b≠.bP:=fun e=>aw (Vc.2 e)
  exact⟨.inr this,gV b this⟩
 ·intro id b hi aw;simp only[uv]at aw;cases e:ω b with
  | bP=>grind
  | tok t q=>grind
  | box i=>
   rw[e]at aw;simp only[dv.box.injEq]at aw;subst aw;obtain⟨pn,pre,post,h1⟩:=dm b i e;obtain⟨v,bF,⟨e7,arr,ty,rfl,U,aA,_⟩,_⟩:=ah i _ h1;have:=aA b e;subst this;have B0:i<49:=by
    grind
   simp only[oW];rw[bD (by grind[jV]),bq hi,show jV i-dk=i by simp[jV],fc,bF];rfl
 ·intro i p hp;simp only[Co]at hp;rw[qY,nC,N6,Nat.min_eq_left KL]at hp;split at hp
  ·rename_i hi;rw[jZ,bq hi,Vb,ca]at hp;obtain⟨kn,rE,rfl⟩:=hp;rw[dX];obtain⟨v,bF,bY⟩:=ah i kn rE;have oB:i<vs.size:=by omega
   refine⟨v,by rw[ji,bq (by grind),Array.getElem?_extract,bq (by omega),dX,bF],?_⟩;cases kn with
   | fn g cV=>
    have h1:=lG i g cV rE;rw[bF]at h1;cases h1;refine⟨cV.map fun k=>E9 (vs.getD k undef),?_,by simp,fun j id bf=>?_⟩
    ·congr 2
     rw[List.map_map];refine lX fun k hk=>?_
     have U:=eo.2 _ (gj rE);have aA:=gn.1 U k hk;split at aA
     ·rename_i pn pre post ub;obtain⟨v2,uh,⟨fT,_,_,rfl,_⟩,_⟩:=ah k _ ub;simp[fc,uh,ptrTo,E9]
     cases aA
    rw[dI,ca]at bf;obtain⟨k,hk,rfl⟩:=bf;have U:=eo.2 _ (gj rE);have aA:=gn.1 U k (gj hk);split at aA
    ·rename_i pn pre post ub;obtain⟨v2,uh,⟨fT,_,_,rfl,a7,_⟩,_⟩:=ah k _ ub;refine⟨fT,?_,HB.2 a7⟩;simp[hk,fc,uh,ptrTo,E9]
    cases aA
   | jx pn pre post=>
    obtain⟨⟨b,arr,ty,rfl,U,_⟩,_⟩:=bY;exact⟨b,HB.2 U,rfl⟩
   | ro cw=>
    cases cw with
    | one d=>
     cases d with
     | J k es=>
      refine⟨zn bY,fun _=>?_⟩;rw[Ve rE,fc,bF];rfl
     | v x=>exact D.dU (τ:=oW args w vs) (p:=(0,0)) (t:=.free) (zn bY)
     | ptr ds=>exact D.dU (τ:=oW args w vs) (p:=(0,0)) (t:=.free) (zn bY)
     | cl g cs=>exact D.dU (τ:=oW args w vs) (p:=(0,0)) (t:=.free) (zn bY)
    | agg ds=>
     obtain⟨us,rfl,hlen,oz⟩:=bY;refine⟨us,rfl,by grind,fun j l al=>?_⟩;rw[dI,ca]at al;obtain⟨d,aE,rfl⟩:=al;obtain⟨u,h1,U⟩:=oz j d aE;exact⟨u,h1,D.dU (p:=(0,0)) (t:=.free) (zn U)⟩
  rename_i hi;rw[EO]at hp;split at hp
  ·rename_i bR;simp only[aZ]at hp;subst hp;refine⟨undef,?_,aa⟩;grind
  cases hp
 obtain⟨i,pn,pre,post,h1,rfl,rfl⟩:=HA al;rw[dX];obtain⟨v,bF,⟨b,arr,ty,rfl,U,aA,aJ,a7,bw⟩,b1⟩:=ah i _ h1;refine⟨b,arr,ty,HB.2 U,fun dE eE=>aA dE (HB.1 eE),aJ,by grind[Va],fun j l al=>?_⟩;rw[U',ca]at al;obtain⟨d,aE,rfl⟩:=al;rw[dX];obtain⟨u,hu,aC⟩:=bw j d aE;have bf:j<100:=by
  have e1:=eo.2 _ (gj h1);grind
 refine⟨u,hu,?_⟩;cases fr:stays pn j with
 | true=>
  rw[bq rfl];have dA:=b1 j d aE fr;have e:jq w (ptrTo b) j=u:=by simp_all[jq,ptrTo]
  rw[e]at dA;cases d with
  | J k es=>
   refine⟨zn dA,fun _=>?_⟩;rw[Vd h1 bf,fc,bF];simp only[lW,e,aE,sk];rfl
  | _=>exact trivial
 | false=>
 rw[bD (by simp)];replace aC:=aC fr;cases d with
 | v x=>
  have e:u=x:=by cases aC;rfl
  subst e;unfold D.qT;split
  ·rename_i h;cases h;exact rfl
  ·rename_i h;cases h;exact rfl
  ·grind
  ·exact trivial
  grind
 | ptr ds=>exact trivial
 | cl g bk=>exact trivial
 | J k es=>
  refine⟨aC.frame fun c q _ aH=>⟨aBs aH,rfl⟩,?_⟩;have e1:(sc i j-900000000) / 100=i:=by grind[sc]
  have e2:(sc i j-900000000) % 100=j:=by grind[sc]
  have hi:i<49:=by
   grind
  simp only[Tag.et,oW];rw[bD (by grind[sc,dk]),bD (by grind[sc,dk])];simp only[e1,e2,h1,aE];simp[jq,ptrTo,aJ,fc,bF,hu,D.u2]
def qW:List (Option Nat)->List aG->Option (List aG)
 | [],ls=>some ls
 | some t::ts,.dC s _ _::ls=>if s=t then (qW ts ls).map fun r=>.v (.bool true)::r else none
 | none::ts,l::ls=>(qW ts ls).map fun r=>l::r
 | none::ts,[]=>qW ts []
 | some _::_,_=>none
theorem HC:∀{ts:List (Option Nat)} {ls fV:List aG},qW ts ls=some fV->fV.length=ls.length/\(∀(j t:Nat),ts[j]?=some (some t)->∃k es,ls[j]?=some (.dC t k es))/\∀j,ts.getD j none=none->fV[j]?=ls[j]?
 | [],ls,fV,h=>by
  simp_all[qW,aZ]
 | some t::ts,.dC s k es::ls,fV,h=>by
  simp only[qW]at h;split at h
  ·rename_i e;subst e;rw[ca]at h;obtain⟨r,h1,rfl⟩:=h;obtain⟨g1,g2,g3⟩:=HC h1;grind
  cases h
 | none::ts,l::ls,fV,h=>by
  simp only[qW,ca]at h;obtain⟨r,h1,rfl⟩:=h;obtain⟨g1,g2,g3⟩:=HC h1;grind
 | none::ts,[],fV,h=>by
  simp only[qW]at h;obtain⟨g1,g2,g3⟩:=HC h;refine⟨g1,fun j t bf=>?_,fun j bf=>?_⟩
  ·cases j with
   | zero=>simp at bf
   | succ j=>obtain⟨k,es,h⟩:=g2 j t (by simpa using bf);simp at h
  have:fV=[]:=yV g1;rw[this]
def tR:List (Option Nat)->List aG->List D->List D
 | some _::ts,.dC _ k es::ls,_::ds=>.J k es::tR ts ls ds
 | _::ts,_::ls,d::ds=>d::tR ts ls ds
 | _,_,ds=>ds
theorem aBu:∀(ts:List (Option Nat)) (ls:List aG) (ds:List D),(tR ts ls ds).length=ds.length/\∀j,ts.getD j none=none->(tR ts ls ds)[j]?=ds[j]?:=by
 intro ts ls ds
 fun_induction tR ts ls ds with
 | case1 t ts s k es ls d ds eA=>
  grind
 | case2 x ts l ls d ds _ eA=>
  grind
 | case3=>grind
def tk(i:Nat):Nat->List Bool->List (Option Nat)
 | _,[]=>[]
 | j,b::r=>(if b then some (kj i j) else none)::tk i (j+1) r
theorem N7(i:Nat):∀(pn:List Bool) (j x:Nat),(tk i j pn)[x]?=(pn[x]?).map fun b=>if b then some (kj i (j+x)) else none
 | [],_,_=>by simp[tk]
 | b::r,j,0=>by simp[tk]
 | b::r,j,x+1=>by
  simp only[tk,p8,N7 i r (j+1) x];rw[show j+1+x=j+(x+1) by omega]
def uQ(st:aD):Nat->List aM->Option (List aM×iR)
 | _,[]=>some ([],[])
 | i,.ro a::as=>(uQ st (i+1) as).map fun r=>(.ro a::r.1,r.2)
 | i,.fn g cV::as=>(uQ st (i+1) as).map fun r=>(.fn g cV::r.1,r.2)
 | i,.jx pn pre post::as=>
  match dK (jV i) st.boxes with
  | some ls=>
   match qW (tk i 0 pn) ls with
   | some fV=>
    match sd (h4 i 0) fV post,uQ st (i+1) as with
    | some (ds,ts),some r=>some (.jx pn pre (tR (tk i 0 pn) ls ds)::r.1,ts++r.2)
    | _,_=>none
   | none=>none
  | none=>none
theorem HD{st:aD}:∀{as ml:List aM} {i:Nat} {ts:iR},uQ st i as=some (ml,ts)->ml.length=as.length/\∀(x:Nat) (pn:List Bool) (pre post:List D),ml[x]?=some (.jx pn pre post)->
  ∃ls fV ds hint lT,dK (jV (i+x)) st.boxes=some ls/\qW (tk (i+x) 0 pn) ls=some fV/\sd (h4 (i+x) 0) fV hint=some (ds,lT)/\post=tR (tk (i+x) 0 pn) ls ds/\∀y∈lT,y∈ts
 | [],ml,i,ts,h=>by
  simp_all[uQ,aZ,bL]
 | .ro a::as,ml,i,ts,h=>by
  simp only[uQ,ca]at h;obtain⟨⟨bC,b2⟩,h1,h⟩:=h;simp only[bL]at h;obtain⟨rfl,rfl⟩:=h;obtain⟨cA,bm⟩:=HD h1;refine⟨by simp[cA],fun x pn pre post ag=>?_⟩;cases x with
  | zero=>simp at ag
  | succ x=>
   have:=bm x pn pre post (by simpa using ag);rwa[show i+1+x=i+(x+1) by omega]at this
 | .fn g cV::as,ml,i,ts,h=>by
  simp only[uQ,ca]at h;obtain⟨⟨bC,b2⟩,h1,h⟩:=h;simp only[bL]at h;obtain⟨rfl,rfl⟩:=h;obtain⟨cA,bm⟩:=HD h1;refine⟨by simp[cA],fun x pn pre post ag=>?_⟩;cases x with
  | zero=>simp at ag
  | succ x=>
   have:=bm x pn pre post (by simpa using ag);rwa[show i+1+x=i+(x+1) by omega]at this
 | .jx pn pre post::as,ml,i,ts,h=>by
  simp only[uQ]at h;split at h
  ·rename_i ls e1;split at h
   ·rename_i fV bE;split at h
    ·rename_i ds Qk r e2 ch;simp only[aZ,bL]at h;obtain⟨rfl,rfl⟩:=h;obtain⟨cA,bm⟩:=HD ch;grind
    cases h
   cases h
  cases h
def GK(src:List (Option Nat)):List (Option Nat):=src.map fun x=>x.map fun a=>kj a 0
def aDT(args:List aM):a1->Bool
 | .vals _=>true
 | .iY src _=>src.all fun
  | some a=>match args[a]? with | some (.ro (.one _))=>true | _=>false
  | none=>true
def Qg(P:Program)(st:aD)(kH:List ResultVar):a1->Option (a1×iR×Option Nat)
 | .vals hint=>
  match kH.mapM (r2 P st) with
  | some cz=>(tv 0 cz hint).map fun r=>(.vals r.1,r.2,none)
  | none=>none
 | .iY src hint=>
  match kH.mapM (r2 P st) with
  | some [.aF (.one (.ptr id 0))]=>
   match dK id st.boxes with
   | some ls=>
    match qW (GK src) ls with
    | some fV=>if id<dk then (sd (h4 49 0) fV hint).map fun r=>(.iY src (tR (GK src) ls r.1),r.2,some id) else none
    | none=>none
   | none=>none
  | _=>none
def Fk(P:Program)(st:aD)(kH:List ResultVar)(args:List aM)(hint:a1):Option (a1×List aM):=
 match Qg P st kH hint,uQ st 0 args with
 | some (r,ts,_),some (as,u4)=>if D5 args&&aDT args r&&Hq (ts++u4) then some (r,as) else none
 | _,_=>none
def nZ(ω:Own)(ts:iR)(nw:Option Nat):Own:=fun b=>
 match ω b with
 | .tok t q=>match ts.at t with | some n=>.tok n q | none=>.bP
 | .box id=>if nw=some id then .box 49 else if dk<=id/\id<dk+49 then .box (id-dk) else .bP
 | .bP=>.bP
variable{ts:iR}
theorem N8{nw:Option Nat}{n:Nat}{q:List (Nat×Nat)}(h:jr ω ts b=.tok n q):nZ ω ts nw b=.tok n q:=by
 grind[jr,nZ,id]
theorem ng.aD1{nw:Option Nat}{r:Nat}{d:cR}{y:Value}(h:ng w (jr ω ts) r d y):ng w (nZ ω ts nw) r d y:=by
 cases d with
 | one d=>exact b3.frame h fun b q _ aH=>⟨N8 aH,rfl⟩
 | agg ds=>
  obtain⟨vs,e,aW,bf⟩:=h;exact⟨vs,e,aW,fun j d aE=>by
   obtain⟨u,hu,aC⟩:=bf j d aE;exact⟨u,hu,aC.frame fun b q _ aH=>⟨N8 aH,rfl⟩⟩⟩
theorem Vf{τ:Nat->Nat×Value}{nw:Option Nat}{id i:Nat}{ls fV:List aG}{hint ds:List D}{lT:iR}{cV:List (Option Nat)}{pn:List Bool}(ll:∀t n,(t,n)∈ts->ts.at t=some n)
  (aw:vd w ω τ id ls) (gV:qW cV ls=some fV) (aed:∀j,stays pn j=false->cV.getD j none=none) (aC:sd (h4 i 0) fV hint=some (ds,lT)) (kc:∀y∈lT,y∈ts) (hB:∀b,ω b=.box id->nZ ω ts nw b=.box i) (ae3:∀b,nZ ω ts nw b=.box i->ω b=.box id):
  ∀{y:Value},(∃b,ω b=.box id/\y=ptrTo b)->w9 w (nZ ω ts nw) i pn (h4 i) (tR cV ls ds) y/\∀(j t:Nat),cV[j]?=some (some t)->dk<=t->(τ t).2=jq w y j:=by
 rintro y ⟨dE,eE,rfl⟩;obtain⟨b,arr,ty,h1,U,aA,aJ⟩:=aw;have:=U dE eE;subst this;obtain⟨a7,bw⟩:=Ms (w:=w) (ω:=ω) (τ:=τ) ll aC kc;obtain⟨gD,ko,u6⟩:=HC gV;obtain⟨f1,f2⟩:=aBu cV ls ds;refine⟨⟨dE,arr,ty,rfl,hB dE eE,fun c ai=>U c (ae3 c ai),aA,by have:=aJ.1;omega,fun j d aE=>?_⟩,fun j t bf bK=>?_⟩
 ·have jG:j<ls.length:=by
   grind
  obtain⟨u,hu,ao⟩:=aJ.2 j _ (gU jG);refine⟨u,hu,fun fr=>?_⟩;have hk:=aed j fr;rw[f2 j hk]at aE;obtain⟨l,al,c4⟩:=bw j d aE;rw[u6 j hk,gU jG]at al;cases al;have:=c4 u ao;rw[show h4 i 0+j=h4 i j by grind[h4]]at this;exact this.frame fun b q _ aH=>⟨N8 aH,rfl⟩
 obtain⟨k,es,al⟩:=ko j t bf;obtain⟨u,hu,ao⟩:=aJ.2 j _ al;rw[ao.2 bK];simp[jq,ptrTo,aA,fc,hu]
theorem Vg{P:Program}{f:FuncId}{fn:Func}{c:Code}{r:a1}{ans cv:List cf}{obs:List Prop}{e:h3}{st:aD}(bI:P.funcs[f]?=some fn)(aw:fn.body=some c)
  (fU:run P c (Co args fn.ntmps) ans=some (e,st,cv,obs)) (a8:cO obs) (he:e=.ret\/e=.normal) (fl:Fk P st fn.results.toList args r=some (r,args)):b4 P f args r:=by
 intro w vs ET nP Kp mx;unfold Fk at fl;split at fl
 ·rename_i bC ts nw as u4 h' oH;split at fl
  ·rename_i bY;simp only[aZ,bL]at fl;obtain⟨rfl,rfl⟩:=fl;rw[cu,cu]at bY;obtain⟨⟨eo,jJ⟩,bY⟩:=bY;have ll:∀t n,(t,n)∈ts++u4->iR.at t (ts++u4)=some n:=fun t n h=>Hr bY h
   refine calls_of_wp bI aw (Code.wp_mono (fun e' cQ aN hp=>?_) (oT c fU a8 _ _ w (aBt eo nP Kp mx fn.ntmps)));obtain⟨rfl,ω,τ,a6⟩:=hp;have aFP:bC=bC/\as.length<49:=by
    simp_all[D5,cu,cj]
   have FH:∀id,nw=some id->id<dk:=by
    intro id e;subst e;unfold Qg at h';split at h'
    ·grind[ca,bL,absurd]
    grind[ca,bL,aZ]
   have hm:∃v,(results fn cQ.tmps).run P aN=.ok v aN/\E2 aN (nZ ω (ts++u4) nw) vs bC v:=by
    have SX:∀{cz:List aI},fn.results.toList.mapM (r2 P st)=some cz->∃zs:List Value,(results fn cQ.tmps).run P aN=.ok (if h:zs.toArray.size=1 then zs.toArray[0] else .tuple zs.toArray) aN/\zs.length=cz.length/\∀(i:Nat) (p:aI),cz[i]?=some p->∃z,zs[i]?=some z/\cW (Sat aN ω τ) p z:=by
     intro cz ue;obtain⟨zs,h1,U,aA⟩:=Ht a6 ue;have hm:=Gk (P:=P) _ fn.results aN _ h1;refine⟨zs,?_,U,aA⟩;rw[NW,Sem.run_bind,hm];rfl
    unfold Qg at h';split at h'
    ·rename_i hint;split at h'
     ·rename_i cz ue;rw[ca]at h';obtain⟨⟨ds,Qk⟩,fj,h⟩:=h';simp only[bL,a1.vals.injEq]at h;obtain⟨rfl,rfl,rfl⟩:=h;obtain⟨zs,h1,U,aA⟩:=SX ue;obtain⟨aJ,a7⟩:=Hs (w:=aN) (ω:=ω) (τ:=τ) ll fj (fun x ag=>hJ _ ag);have fA:∀(j:Nat) (d:cR),ds[j]?=some d->∃z,zs[j]?=some z/\ng aN (nZ ω (Qk++u4) none) j d z:=by
       intro j d aE;obtain⟨p,hp,ud⟩:=a7 j d aE;obtain⟨z,bb,qy⟩:=aA j p hp;have:=ud z qy;rw[dX]at this;exact⟨z,bb,this.aD1⟩
      have nd:zs.length=ds.length:=by omega
      refine⟨_,h1,?_⟩;show nX _ _ _ _;generalize bF:(if h:zs.toArray.size=1 then zs.toArray[0] else Value.tuple zs.toArray)=v;unfold nX;split
      ·rename_i cw;obtain⟨z,bb,ai⟩:=fA 0 cw rfl;grind
      rename_i cZ;have h1:¬zs.toArray.size=1:=by
       intro h;simp at h;rw[nd]at h;obtain⟨d,aE⟩:=List.length_eq_one_iff.1 h;grind
      grind
     cases h'
    rename_i src hint;split at h'
    ·rename_i id ue;split at h'
     ·rename_i ls dm;split at h'
      case h_2=>cases h'
      rename_i fV gV;split at h'
      ·rename_i bR;rw[ca]at h';obtain⟨⟨ds,Qk⟩,fj,h⟩:=h';simp only[bL,a1.iY.injEq,true_and]at h;obtain⟨rfl,rfl,rfl⟩:=h;obtain⟨zs,h1,U,aA⟩:=SX ue;obtain⟨z,bb,b,afg,sT⟩:=aA 0 _ rfl;have sS:zs=[z]:=by
        match zs,U,bb with
        | [z0],_,bb=>grind
       subst sS;refine⟨z,by grind,?_⟩;have Ch:=Vf (pn:=yM src) (nw:=some id) (i:=49) ll (a6.boxes id ls dm) gV (fun j bf=>by
        simp only[stays,yM,ly,dI]at bf;simp only[GK,ly,dI];cases e:src[j]? with
        | none=>rfl
        | some x=>simp_all) fj (fun y bu=>hJ _ bu) (fun b aw=>by simp_all[nZ,gy]) (fun b aw=>?_) ⟨b,afg,sT⟩
       ·refine⟨Ch.1,fun j x ag=>?_⟩;have aJ:=Ch.2 j (kj x 0) (by simp[GK,ag]) (by grind[kj]);have a7:=gn.1 jJ _ (gj ag);simp only at a7;split at a7
        ·rename_i d aE;rw[a6.fixed _ (by grind[kj])]at aJ;change (oW as w vs (kj x 0)).2=_ at aJ;rw[Ve aE]at aJ;have bw:x<vs.size:=by
          have:=(ga.1 aE).1;have:=nP.2.2.1;omega
         simp_all
        cases a7
       grind[nZ,gO,dv.box.injEq]
      cases h'
     cases h'
    cases h'
   obtain⟨v,ug,uh⟩:=hm;have ef:∃v,(results fn cQ.tmps).run P aN=.ok v aN/\∃u,Ending.returned v=.returned u/\gZ ⟨w,fun b=>ET b≠.bP,fun _=>(0,undef)⟩ aN/\
     ∃bh:Own,(∀b,b<w.heap.size->ET b=.bP->bh b=.bP)/\Hd aN bh/\(∀(i:Nat) (pn:List Bool) (pre post:List D) (y:Value),as[i]?=some (.jx pn pre post)->vs[i]?=some y->w9 aN bh i pn (h4 i) post y/\∀j,stays pn j=true->jq aN y j=jq w y j)/\E2 aN bh vs bC u:=by
    refine⟨v,ug,v,rfl,⟨a6.below.os,a6.below.tape,a6.below.output,a6.below.size,a6.below.block,a6.below.drawn,a6.below.laid,a6.below.free⟩,nZ ω (ts++u4) nw,fun b aw ay=>?_,fun b aw=>?_,?_,uh⟩
    ·have:ω b=.bP:=by
      cases e:ω b with
      | bP=>rfl
      | box id=>
       rcases (a6.owned b (by simp[e])).1 with h | h
       ·grind
       grind
      | tok t q=>
       rcases (a6.owned b (by simp[e])).1 with h | h
       ·grind
       grind
     grind[nZ]
    ·have:ω b≠.bP:=fun e=>aw (by grind[nZ])
     exact (a6.owned b this).2
    intro i pn pre post y rE bu;obtain⟨ls,fV,ds,hint,lT,g1,g0,g2,rfl,g3⟩:=(HD oH).2 i pn pre post rE;simp only[dX]at g1 g2 g0 rE ⊢;have hi:i<49:=by
     grind
    have cZ:nw≠some (jV i):=fun e=>by grind[jV]
    obtain⟨b8,vg,wU,hs,hS,BO,tW⟩:=a6.boxes _ ls g1;obtain⟨gh,S4,⟨e7,_,_,hyp,_⟩,_⟩:=nP.2.2.2 i _ rE;rw[bu]at S4;have:=gO S4;subst this;have xo:=a6.pinned (jV i) b8 (by simp[jV]) hs;simp only[oW]at xo;rw[bD (by grind[jV]),bq (by simp[jV]),show jV i-dk=i by simp[jV],fc,bu,hyp]at xo;have xo:e7=b8:=xo;subst xo;have aec:∀j,stays pn j=true->(tk i 0 pn)[j]?=some (some (kj i j)):=fun j bf=>by
     simp only[stays,ly]at bf;rw[N7,dX];grind
    have Ch:=Vf (pn:=pn) (nw:=nw) (i:=i) ll ⟨e7,vg,wU,hs,hS,BO,tW⟩ g0 (fun j bf=>by
     simp only[stays,ly]at bf;rw[ly,N7];grind) g2 (fun y bu=>iN _ (g3 y bu)) (fun b aw=>?_) (fun b aw=>?_) ⟨e7,hs,hyp⟩
    ·refine⟨Ch.1,fun j bf=>?_⟩;have ad6:j<100:=by
      simp only[D5,cu,cj,gn]at eo;have aJ:=eo.2 _ (gj rE);simp only[cu,cj]at aJ;grind[stays,q2]
     have aJ:=Ch.2 j (kj i j) (aec j bf) (by grind[kj]);rw[a6.fixed _ (by grind[kj])]at aJ;change (oW as w vs (kj i j)).2=_ at aJ;rw[Vd rE ad6]at aJ;rw[<-aJ];simp only[fc,bu,lW]
    ·simp only[nZ,aw];rw[bD cZ,bq ⟨by simp[jV],by grind[jV]⟩];simp[jV]
    grind[nZ,dv.box.injEq,jV]
   obtain⟨v,bw,b1⟩:=ef;rcases he with rfl | rfl
   ·exact⟨a6.defers,v,bw,b1⟩
   exact⟨a6.defers,v,bw,b1⟩
  cases fl
 cases fl
def LQ(P:Program)(c:Code)(ntmps:Nat)(kH:List ResultVar)(args:List aM)(hint:a1)(ans:List cf):Option (a1×List aM×List Prop):=
 match run P c (Co args ntmps) ans with
 | some (.ret,st,_,obs)=>(Fk P st kH args hint).map fun r=>(r.1,r.2,obs)
 | some (.normal,st,_,obs)=>(Fk P st kH args hint).map fun r=>(r.1,r.2,obs)
 | _=>none
theorem b4.of{P:Program}{f:FuncId}{fn:Func}{r:a1}(ans:List cf)(obs:List Prop)(bI:P.funcs[f]?=some fn)(aw:fn.body.isSome=true)
  (h:LQ P (oU fn) fn.ntmps fn.results.toList args r ans=some (r,args,obs)) (a8:cO obs):b4 P f args r:=by
 obtain⟨c,ai⟩:=sj.1 aw;have BU:oU fn=c:=by simp[oU,ai]
 unfold LQ at h;rw[BU]at h;split at h
 ·rename_i st a nU aC;rw[ca]at h;obtain⟨⟨A0,Qj⟩,h1,h⟩:=h;simp only[bL]at h;obtain⟨rfl,rfl,rfl⟩:=h;exact Vg bI ai aC a8 (.inl rfl) h1
 ·rename_i st a nU aC;rw[ca]at h;obtain⟨⟨A0,Qj⟩,h1,h⟩:=h;simp only[bL]at h;obtain⟨rfl,rfl,rfl⟩:=h;exact Vg bI ai aC a8 (.inr rfl) h1
 cases h
end Go.Sx
namespace Go.Sx
open Go.RowKit
mutual
inductive Fit:D->D->Prop
 | refl (d:D):Fit d d
 | nil (k:Nat):Fit (.v (.slice none 0 0)) (.J k [])
 | J (k:Nat) {es cC:List (List D)} (h:nE es cC):Fit (.J k es) (.J k cC)
inductive lb:List D->List D->Prop
 | nil:lb [] []
 | cons {d dQ:D} {e e':List D} (h:Fit d dQ) (t:lb e e'):lb (d::e) (dQ::e')
inductive nE:List (List D)->List (List D)->Prop
 | nil:nE [] []
 | cons {e e':List D} {es cC:List (List D)} (h:lb e e') (t:nE es cC):nE (e::es) (e'::cC)
end
theorem lb.refl:∀e:List D,lb e e
 | []=>.nil
 | d::e=>.cons (.refl d) (lb.refl e)
mutual
theorem Fit.rep{w:World}{ω:Own}:∀{d dQ:D},Fit d dQ->∀{R:List (Nat×Nat)->dv->Prop} {y:Value},b3 w ω R d y->b3 w ω R dQ y
 | _,_,.refl d,_,_,h=>h
 | _,_,.nil k,_,_,h=>by cases h;exact .nil _ _ _
 | _,_,.J k f,_,_,h=>by
  obtain⟨al,ay⟩:=nE.get (w:=w) (ω:=ω) f;cases h with
  | nil=>
   have:=yV al.symm;subst this;exact .nil _ _ _
  | row R k es b off cap arr ty cY us aw ef ai ao hk hu aE=>
   rw[al];refine .row _ _ _ b off cap arr ty cY us aw ef (al▸ai) ao (fun e he=>?_) (fun i j dQ eQ=>?_) (fun i j dQ eQ=>?_)
   ·obtain⟨i,hi⟩:=ob.1 he;obtain⟨bE,h1,U,_⟩:=ay i e hi;rw[<-U];exact hk bE (gj h1)
   ·unfold df at eQ;rw[nB]at eQ;obtain⟨e,h1,U⟩:=eQ;obtain⟨bE,aA,_,a7⟩:=ay i e h1;obtain⟨d,bw,_⟩:=a7 j dQ U;exact hu i j d (by unfold df;rw[aA];exact bw)
   unfold df at eQ;rw[nB]at eQ;obtain⟨e,h1,U⟩:=eQ;obtain⟨bE,aA,_,a7⟩:=ay i e h1;obtain⟨d,bw,b1⟩:=a7 j dQ U;exact b1 (aE i j d (by unfold df;rw[aA];exact bw))
theorem lb.get{w:World}{ω:Own}:∀{e e':List D},lb e e'->e.length=e'.length/\∀(j:Nat) (dQ:D),e'[j]?=some dQ->∃d,e[j]?=some d/\∀{R:List (Nat×Nat)->dv->Prop} {y:Value},b3 w ω R d y->b3 w ω R dQ y
 | _,_,.nil=>⟨rfl,fun j dQ h=>by simp at h⟩
 | _,_,.cons h t=>by
  obtain⟨h1,U⟩:=lb.get (w:=w) (ω:=ω) t;refine⟨by simp[h1],fun j dQ aE=>?_⟩;cases j with
  | zero=>
   simp only[lY,aZ]at aE;subst aE;exact⟨_,rfl,fun aC=>Fit.rep h aC⟩
  | succ j=>exact U j dQ (by simpa using aE)
theorem nE.get{w:World}{ω:Own}:∀{es cC:List (List D)},nE es cC->es.length=cC.length/\∀(i:Nat) (e':List D),cC[i]?=some e'->∃e,es[i]?=some e/\e.length=e'.length/\∀(j:Nat) (dQ:D),e'[j]?=some dQ->∃d,e[j]?=some d/\∀{R:List (Nat×Nat)->dv->Prop} {y:Value},b3 w ω R d y->b3 w ω R dQ y
 | _,_,.nil=>⟨rfl,fun j dQ h=>by simp at h⟩
 | _,_,.cons h t=>by
  obtain⟨h1,U⟩:=nE.get (w:=w) (ω:=ω) t;obtain⟨aA,aJ⟩:=lb.get (w:=w) (ω:=ω) h;refine⟨by simp[h1],fun j dQ aE=>?_⟩;cases j with
  | zero=>
   simp only[lY,aZ]at aE;subst aE;exact⟨_,rfl,aA,aJ⟩
  | succ j=>exact U j dQ (by simpa using aE)
end
inductive sn:cR->cR->Prop
 | one {d dQ:D} (h:Fit d dQ):sn (.one d) (.one dQ)
 | agg {e e':List D} (h:lb e e'):sn (.agg e) (.agg e')
theorem sn.refl(a:cR):sn a a:=by
 cases a with
 | one d=>exact .one (.refl d)
 | agg e=>exact .agg (.refl e)
inductive o9:List cR->List cR->Prop
 | nil:o9 [] []
 | cons {a cQ:cR} {as ml:List cR} (h:sn a cQ) (t:o9 as ml):o9 (a::as) (cQ::ml)
theorem o9.get:∀{as ml:List cR},o9 as ml->as.length=ml.length/\∀(i:Nat) (cQ:cR),ml[i]?=some cQ->∃a,as[i]?=some a/\sn a cQ
 | _,_,.nil=>⟨rfl,fun j dQ h=>by simp at h⟩
 | _,_,.cons h t=>by
  obtain⟨h1,U⟩:=o9.get t;refine⟨by simp[h1],fun j dQ aE=>?_⟩;cases j with
  | zero=>
   simp only[lY,aZ]at aE;subst aE;exact⟨_,rfl,h⟩
  | succ j=>exact U j dQ (by simpa using aE)
variable{w:World}
theorem sn.cell{ω:Own}{r:Nat}{a cQ:cR}{y:Value}(h:sn a cQ)(ai:ng w ω r a y):ng w ω r cQ y:=by
 cases h with
 | one h=>exact h.rep ai
 | agg h=>
  obtain⟨vs,rfl,aW,bf⟩:=ai;obtain⟨h1,U⟩:=lb.get (w:=w) (ω:=ω) h;refine⟨vs,rfl,by omega,fun j dQ aE=>?_⟩;obtain⟨d,aA,aJ⟩:=U j dQ aE;obtain⟨u,a7,bw⟩:=bf j d aA;exact⟨u,a7,aJ bw⟩
variable{rs wQ:List cR}
theorem o9.all{ω:Own}{v:Value}(h:o9 rs wQ)(aC:nX w ω rs v):nX w ω wQ v:=by
 cases h with
 | nil=>exact aC
 | cons h t=>
  cases t with
  | nil=>exact h.cell aC
  | cons U t2=>
   obtain⟨vs,e,aW,bF⟩:=aC;obtain⟨aA,aJ⟩:=o9.get (.cons h (.cons U t2));refine⟨vs,e,by omega,fun i cQ ah=>?_⟩;obtain⟨a,a7,bw⟩:=aJ i cQ ah;obtain⟨y,b1,dA⟩:=bF i a a7;exact⟨y,b1,bw.cell dA⟩
variable{P:Program}{f:FuncId}
theorem b4.fit{args:List aM}(h:b4 P f args (.vals rs))(k:o9 rs wQ):b4 P f args (.vals wQ):=by
 intro w vs ω aC lG mx;refine (h w vs ω aC lG mx).mono ?_;rintro e aN ⟨v,rfl,aw,bh,h1,U,aA,aJ⟩;exact⟨v,rfl,aw,bh,h1,U,aA,k.all aJ⟩
theorem iF.fit{args:List cR}(h:iF P f args rs)(k:o9 rs wQ):iF P f args wQ:=by
 intro w vs uf aC;refine (h w vs uf aC).mono ?_;rintro e aN ⟨v,rfl,aw,ω,h1,U,aA⟩;exact⟨v,rfl,aw,ω,h1,U,k.all aA⟩
theorem sn.arg{a cQ:cR}{y:Value}(h:sn a cQ)(ai:vb w a y):vb w cQ y:=by
 cases h with
 | one h=>exact h.rep ai
 | agg h=>
  obtain⟨vs,rfl,aW,bf⟩:=ai;obtain⟨h1,U⟩:=lb.get (w:=w) (ω:=fun _=>.bP) h;refine⟨vs,rfl,by omega,fun j dQ aE=>?_⟩;obtain⟨d,aA,aJ⟩:=U j dQ aE;obtain⟨u,a7,bw⟩:=bf j d aA;exact⟨u,a7,aJ bw⟩
theorem iF.args{as ml:List cR}(h:iF P f ml rs)(k:o9 as ml):iF P f as rs:=by
 intro w vs uf aC;obtain⟨h1,U⟩:=k.get;refine h w vs uf ⟨by rw[aC.1,h1],fun i cQ ah=>?_⟩;obtain⟨a,aA,aJ⟩:=U i cQ ah;obtain⟨v,a7,bw⟩:=aC.2 i a aA;exact⟨v,a7,aJ.arg bw⟩
