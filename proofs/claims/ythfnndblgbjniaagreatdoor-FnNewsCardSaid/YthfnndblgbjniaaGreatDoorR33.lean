import Derived.Test.YthfnndblgbjniaaGreatDoorR15
set_option linter.unusedVariables false
set_option linter.unusedSimpArgs false
namespace Go.Sx
open Go.RowKit
def hQ(i:Nat):Nat:=cX+i
def h7(i j:Nat):Nat:=cX+100+(100*i+j)
def aJ.az(i:Nat):aJ->bg
 | .ro (.one (.J k es))=>.one (.c9 (h7 i 0) k es)
 | .ro a=>a.arg
 | .hD _ _ _=>.one (.ptr (hQ i) 0)
 | .fn g cK=>.one (.fK g (cK.map hQ))
def D.Np(t:Nat):D->aC
 | .J k es=>.c9 t k es
 | _=>.cp
def rl(i:Nat)(pn:List Bool):Nat->List D->List aC
 | _,[]=>[]
 | j,d::ds=>(if stays pn j then d.Np (h7 i j) else d.n0 (pd i j))::rl i pn (j+1) ds
theorem OW(i:Nat)(pn:List Bool):∀(ds:List D) (j x:Nat),(rl i pn j ds)[x]?=(ds[x]?).map fun d=>if stays pn (j+x) then d.Np (h7 i (j+x)) else d.n0 (pd i (j+x))
 | [],_,_=>by simp[rl]
 | d::ds,j,0=>by simp[rl]
 | d::ds,j,x+1=>by
  simp only[rl,n7,OW i pn ds (j+1) x];rw[show j+1+x=j+(x+1) by omega]
theorem OX(i:Nat)(pn:List Bool):∀(ds:List D) (j:Nat),(rl i pn j ds).length=ds.length
 | [],_=>rfl
 | d::ds,j=>by simp[rl,OX i pn ds (j+1)]
def s6:Nat->List aJ->List aE
 | _,[]=>[]
 | i,a::as=>.az (a.az i)::s6 (i+1) as
def wC:Nat->List aJ->List (Nat×List aC)
 | _,[]=>[]
 | i,.hD pn pre _::as=>(hQ i,rl i pn 0 pre)::wC (i+1) as
 | i,.ro _::as=>wC (i+1) as
 | i,.fn _ _::as=>wC (i+1) as
def yb(args:List aJ)(ntmps:Nat):aD:=⟨(s6 0 args).take (rE args)++List.replicate (ntmps-rE args) .cp,wC 0 args⟩
theorem OY:∀(as:List aJ) (i x:Nat),(s6 i as)[x]?=(as[x]?).map fun a=>.az (a.az (i+x))
 | [],i,x=>by simp[s6]
 | a::as,i,0=>by simp[s6]
 | a::as,i,x+1=>by
  simp only[s6,n7,OY as (i+1) x];rw[show i+1+x=i+(x+1) by omega]
theorem Ic:∀(as:List aJ) (i:Nat),(s6 i as).length=as.length
 | [],_=>rfl
 | a::as,i=>by simp[s6,Ic as (i+1)]
theorem B7{id:Nat}{ls:List aC}:∀{as:List aJ} {i:Nat},dh id (wC i as)=some ls->∃x pn pre post,as[x]?=some (.hD pn pre post)/\id=hQ (i+x)/\ls=rl (i+x) pn 0 pre
 | [],i,h=>by cases h
 | .ro _::as,i,h=>by
  obtain⟨x,pn,pre,post,U,aa,aA⟩:=B7 (as:=as) (i:=i+1) h;exact⟨x+1,pn,pre,post,by simpa using U,by rw[aa,show i+1+x=i+(x+1) by omega],by rw[aA,show i+1+x=i+(x+1) by omega]⟩
 | .fn _ _::as,i,h=>by
  obtain⟨x,pn,pre,post,U,aa,aA⟩:=B7 (as:=as) (i:=i+1) h;exact⟨x+1,pn,pre,post,by simpa using U,by rw[aa,show i+1+x=i+(x+1) by omega],by rw[aA,show i+1+x=i+(x+1) by omega]⟩
 | .hD pn pre post::as,i,h=>by
  simp only[wC,dh]at h;split at h
  ·rename_i e;exact⟨0,pn,pre,post,rfl,e.symm,(fB h).symm⟩
  obtain⟨x,Xs,pre,post,U,aa,aA⟩:=B7 (as:=as) (i:=i+1) h;exact⟨x+1,Xs,pre,post,by grind,by grind,by grind⟩
def zy(args:List aJ):Bool:=decide (args.length<49)&&args.all fun
 | .ro _=>true
 | .hD pn pre post=>decide (pn.length<100)&&decide (pre.length<100)&&decide (post.length<100)
 | .fn _ cK=>cK.all fun k=>match args[k]? with | some (.hD _ _ _)=>true | _=>false
def AE:Value->Nat
 | .pointer (some p)=>p.block
 | _=>0
def l5(args:List aJ)(w:World)(vs:Array Value)(t:Nat):Nat×Value:=
 if cX+100<=t then
  match args[(t-(cX+100)) / 100]? with
  | some (.hD _ pre _)=>(((pre[(t-(cX+100)) % 100]?).map D.rI).getD 0,hy w (vs.getD ((t-(cX+100)) / 100) undef) ((t-(cX+100)) % 100))
  | some (.ro (.one d))=>(d.rI,vs.getD ((t-(cX+100)) / 100) undef)
  | _=>(0,undef)
 else if cX<=t then (AE (vs.getD (t-cX) undef),undef) else
 match args[(t-900000000) / 100]? with
 | some (.hD _ pre _)=>(((pre[(t-900000000) % 100]?).map D.rI).getD 0,hy w (vs.getD ((t-900000000) / 100) undef) ((t-900000000) % 100))
 | _=>(0,undef)
def q'(ω:Own):Own:=fun b=>match ω b with | .box i=>.box (hQ i) | o=>o
variable{ω:Own}{b:Nat}
theorem ajF{t:Nat}{q:List (Nat×Nat)}(h:ω b=.tok t q):q' ω b=.tok t q:=by grind[q']
theorem OZ:q' ω b=.bz<->ω b=.bz:=by
 grind[q']
variable{i:Nat}
theorem B8:q' ω b=.box (hQ i)<->ω b=.box i:=by
 grind[q',hQ,c4.box.injEq]
variable{args:List aJ}{w:World}{vs:Array Value}
theorem O0{j:Nat}{pn:List Bool}{pre post:List D}(h:args[i]?=some (.hD pn pre post))(bm:j<100):
  l5 args w vs (h7 i j)=(((pre[j]?).map D.rI).getD 0,hy w (vs.getD i undef) j):=by
 have e1:(h7 i j-(cX+100)) / 100=i:=by grind[h7]
 have e2:(h7 i j-(cX+100)) % 100=j:=by grind[h7]
 unfold l5;rw[bU (by grind[h7]),e1,e2,h]
theorem O1{d:D}(h:args[i]?=some (.ro (.one d))):l5 args w vs (h7 i 0)=(d.rI,vs.getD i undef):=by
 simp_all[h7,cX,l5,bU]
theorem ajG(ez:zy args=true)(h:Em w ω args vs)(jt:Ec args vs)(oG:Tidy w ω)(ntmps:Nat):
  Rel ⟨w,fun b=>ω b≠.bz,l5 args w vs⟩ (yb args ntmps) { tmps:=vs.extract 0 (rE args)++Array.replicate (ntmps-(vs.extract 0 (rE args)).size) undef,defers:=[] } w:=by
 have FJ:rE args<=args.length:=Nat.sub_le _ _;obtain⟨kG,cZ,a7,ai⟩:=h;simp only[zy,cJ,cW,fp]at ez;have vI:∀{d:D} {y:Value},bS w ω Tag.free.R d y->bS w (q' ω) Tag.free.R d y:=fun h=>h.frame fun b q _ aM=>⟨OZ.2 aM,rfl⟩
 have eL:(vs.extract 0 (rE args)).size=rE args:=by grind
 refine⟨q' ω,l5 args w vs,rfl,by grind[yb,Ic],fX.start oG,fun b aw=>?_,fun _ _=>rfl,?_,?_,fun id ls au=>?_⟩
 ·have:ω b≠.bz:=fun e=>aw (OZ.2 e)
  exact⟨.inr this,kG b this⟩
 ·intro id b hi aw;simp only[q']at aw;cases e:ω b with
  | bz=>grind
  | tok t q=>grind
  | box i=>
   rw[e]at aw;simp only[c4.box.injEq]at aw;subst aw;obtain⟨pn,pre,post,U⟩:=cZ b i e;obtain⟨v,br,⟨hK,arr,ty,rfl,aa,aA,_⟩,_⟩:=ai i _ U;have:=aA b e;subst this;have xO:i<49:=by
    grind
   simp only[l5];rw[bE (by grind[hQ]),bU hi,show hQ i-cX=i by simp[hQ],eg,br];rfl
 ·intro i p hp;simp only[yb]at hp;rw[n5,qm,Ic,Nat.min_eq_left FJ]at hp;split at hp
  ·rename_i hi;rw[pk,bU hi,OY,b0]at hp;obtain⟨ie,oD,rfl⟩:=hp;rw[dL];obtain⟨v,br,cG⟩:=ai i ie oD;have kD:i<vs.size:=by omega
   refine⟨v,by rw[kU,bU (by grind),Array.getElem?_extract,bU (by omega),dL,br],?_⟩;cases ie with
   | fn g cK=>
    have U:=jt i g cK oD;rw[br]at U;cases U;refine⟨cK.map fun k=>AE (vs.getD k undef),?_,by simp,fun j id bm=>?_⟩
    ·congr 2
     rw[List.map_map];refine ks fun k bc=>?_
     have aa:=ez.2 _ (fe oD);have aA:=fp.1 aa k bc;split at aA
     ·rename_i pn pre post sh;obtain⟨v2,q2,⟨gj,_,_,rfl,_⟩,_⟩:=ai k _ sh;simp[eg,q2,ptrTo,AE]
     cases aA
    rw[dk,b0]at bm;obtain⟨k,bc,rfl⟩:=bm;have aa:=ez.2 _ (fe oD);have aA:=fp.1 aa k (fe bc);split at aA
    ·rename_i pn pre post sh;obtain⟨v2,q2,⟨gj,_,_,rfl,a8,_⟩,_⟩:=ai k _ sh;refine⟨gj,?_,B8.2 a8⟩;simp[bc,eg,q2,ptrTo,AE]
    cases aA
   | hD pn pre post=>
    obtain⟨⟨b,arr,ty,rfl,aa,_⟩,_⟩:=cG;exact⟨b,B8.2 aa,rfl⟩
   | ro cl=>
    cases cl with
    | one d=>
     cases d with
     | J k es=>
      refine⟨vI cG,fun _=>?_⟩;rw[O1 oD,eg,br];rfl
     | v x=>exact D.dt (τ:=l5 args w vs) (p:=(0,0)) (t:=.free) (vI cG)
     | ptr ds=>exact D.dt (τ:=l5 args w vs) (p:=(0,0)) (t:=.free) (vI cG)
     | bI g cs=>exact D.dt (τ:=l5 args w vs) (p:=(0,0)) (t:=.free) (vI cG)
    | agg ds=>
     obtain⟨us,rfl,hlen,nv⟩:=cG;refine⟨us,rfl,by grind,fun j l au=>?_⟩;rw[dk,b0]at au;obtain⟨d,aF,rfl⟩:=au;obtain⟨u,U,aa⟩:=nv j d aF;exact⟨u,U,D.dt (p:=(0,0)) (t:=.free) (vI aa)⟩
  rename_i hi;rw[Ak]at hp;split at hp
  ·rename_i bM;simp only[aT]at hp;subst hp;refine⟨undef,?_,ad⟩;grind
  cases hp
 obtain⟨i,pn,pre,post,U,rfl,rfl⟩:=B7 au;rw[dL];obtain⟨v,br,⟨b,arr,ty,rfl,aa,aA,aO,a8,bG⟩,b9⟩:=ai i _ U;refine⟨b,arr,ty,B8.2 aa,fun de eE=>aA de (B8.1 eE),aO,by grind[OX],fun j l au=>?_⟩;rw[OW,b0]at au;obtain⟨d,aF,rfl⟩:=au;rw[dL];obtain⟨u,hu,aI⟩:=bG j d aF;have bm:j<100:=by
  have e1:=ez.2 _ (fe U);grind
 refine⟨u,hu,?_⟩;cases e5:stays pn j with
 | true=>
  rw[bU rfl];have da:=b9 j d aF e5;have e:hy w (ptrTo b) j=u:=by simp_all[hy,ptrTo]
  rw[e]at da;cases d with
  | J k es=>
   refine⟨vI da,fun _=>?_⟩;rw[O0 U bm,eg,br];simp only[j5,e,aF,rP];rfl
  | _=>exact trivial
 | false=>
 rw[bE (by simp)];replace aI:=aI e5;cases d with
 | v x=>
  have e:u=x:=by cases aI;rfl
  subst e;unfold D.n0;split
  ·rename_i h;cases h;exact rfl
  ·rename_i h;cases h;exact rfl
  ·grind
  ·exact trivial
  grind
 | ptr ds=>exact trivial
 | bI g bB=>exact trivial
 | J k es=>
  refine⟨aI.frame fun c q _ aM=>⟨ajF aM,rfl⟩,?_⟩;have e1:(pd i j-900000000) / 100=i:=by grind[pd]
  have e2:(pd i j-900000000) % 100=j:=by grind[pd]
  have hi:i<49:=by
   grind
  simp only[Tag.dG,l5];rw[bE (by grind[pd,cX]),bE (by grind[pd,cX])];simp only[e1,e2,U,aF];simp[hy,ptrTo,aO,eg,br,hu,D.rI]
def n2:List (Option Nat)->List aC->Option (List aC)
 | [],ls=>some ls
 | some t::ts,.c9 s _ _::ls=>if s=t then (n2 ts ls).map fun r=>.v (.bool true)::r else none
 | none::ts,l::ls=>(n2 ts ls).map fun r=>l::r
 | none::ts,[]=>n2 ts []
 | some _::_,_=>none
theorem B9:∀{ts:List (Option Nat)} {ls eW:List aC},n2 ts ls=some eW->eW.length=ls.length/\(∀(j t:Nat),ts[j]?=some (some t)->∃k es,ls[j]?=some (.c9 t k es))/\∀j,ts.getD j none=none->eW[j]?=ls[j]?
 | [],ls,eW,h=>by
  simp_all[n2,aT]
 | some t::ts,.c9 s k es::ls,eW,h=>by
  simp only[n2]at h;split at h
  ·rename_i e;subst e;rw[b0]at h;obtain⟨r,U,rfl⟩:=h;obtain⟨g1,g2,g3⟩:=B9 U;grind
  cases h
 | none::ts,l::ls,eW,h=>by
  simp only[n2,b0]at h;obtain⟨r,U,rfl⟩:=h;obtain⟨g1,g2,g3⟩:=B9 U;grind
 | none::ts,[],eW,h=>by
  simp only[n2]at h;obtain⟨g1,g2,g3⟩:=B9 h;refine⟨g1,fun j t bm=>?_,fun j bm=>?_⟩
  ·cases j with
   | zero=>simp at bm
   | succ j=>obtain⟨k,es,h⟩:=g2 j t (by simpa using bm);simp at h
  have:eW=[]:=w9 g1;rw[this]
def qE:List (Option Nat)->List aC->List D->List D
 | some _::ts,.c9 _ k es::ls,_::ds=>.J k es::qE ts ls ds
 | _::ts,_::ls,d::ds=>d::qE ts ls ds
 | _,_,ds=>ds
theorem ajH:∀(ts:List (Option Nat)) (ls:List aC) (ds:List D),(qE ts ls ds).length=ds.length/\∀j,ts.getD j none=none->(qE ts ls ds)[j]?=ds[j]?:=by
 intro ts ls ds
 fun_induction qE ts ls ds with
 | case1 t ts s k es ls d ds d'=>
  grind
 | case2 x ts l ls d ds _ d'=>
  grind
 | case3=>grind
def qc(i:Nat):Nat->List Bool->List (Option Nat)
 | _,[]=>[]
 | j,b::r=>(if b then some (h7 i j) else none)::qc i (j+1) r
theorem Ie(i:Nat):∀(pn:List Bool) (j x:Nat),(qc i j pn)[x]?=(pn[x]?).map fun b=>if b then some (h7 i (j+x)) else none
 | [],_,_=>by simp[qc]
 | b::r,j,0=>by simp[qc]
 | b::r,j,x+1=>by
  simp only[qc,n7,Ie i r (j+1) x];rw[show j+1+x=j+(x+1) by omega]
def rm(st:aD):Nat->List aJ->Option (List aJ×hf)
 | _,[]=>some ([],[])
 | i,.ro a::as=>(rm st (i+1) as).map fun r=>(.ro a::r.1,r.2)
 | i,.fn g cK::as=>(rm st (i+1) as).map fun r=>(.fn g cK::r.1,r.2)
 | i,.hD pn pre post::as=>
  match dh (hQ i) st.boxes with
  | some ls=>
   match n2 (qc i 0 pn) ls with
   | some eW=>
    match pe (gA i 0) eW post,rm st (i+1) as with
    | some (ds,ts),some r=>some (.hD pn pre (qE (qc i 0 pn) ls ds)::r.1,ts++r.2)
    | _,_=>none
   | none=>none
  | none=>none
theorem B'{st:aD}:∀{as j':List aJ} {i:Nat} {ts:hf},rm st i as=some (j',ts)->j'.length=as.length/\∀(x:Nat) (pn:List Bool) (pre post:List D),j'[x]?=some (.hD pn pre post)->
  ∃ls eW ds hint jG,dh (hQ (i+x)) st.boxes=some ls/\n2 (qc (i+x) 0 pn) ls=some eW/\pe (gA (i+x) 0) eW hint=some (ds,jG)/\post=qE (qc (i+x) 0 pn) ls ds/\∀y∈jG,y∈ts
 | [],j',i,ts,h=>by
  simp_all[rm,aT,bq]
 | .ro a::as,j',i,ts,h=>by
  simp only[rm,b0]at h;obtain⟨⟨bF,bY⟩,U,h⟩:=h;simp only[bq]at h;obtain⟨rfl,rfl⟩:=h;obtain⟨c6,b8⟩:=B' U;refine⟨by simp[c6],fun x pn pre post ao=>?_⟩;cases x with
  | zero=>simp at ao
  | succ x=>
   have:=b8 x pn pre post (by simpa using ao);rwa[show i+1+x=i+(x+1) by omega]at this
 | .fn g cK::as,j',i,ts,h=>by
  simp only[rm,b0]at h;obtain⟨⟨bF,bY⟩,U,h⟩:=h;simp only[bq]at h;obtain⟨rfl,rfl⟩:=h;obtain⟨c6,b8⟩:=B' U;refine⟨by simp[c6],fun x pn pre post ao=>?_⟩;cases x with
  | zero=>simp at ao
  | succ x=>
   have:=b8 x pn pre post (by simpa using ao);rwa[show i+1+x=i+(x+1) by omega]at this
 | .hD pn pre post::as,j',i,ts,h=>by
  simp only[rm]at h;split at h
  ·rename_i ls e1;split at h
   ·rename_i eW bD;split at h
    ·rename_i ds KI r e2 ch;simp only[aT,bq]at h;obtain⟨rfl,rfl⟩:=h;obtain⟨c6,b8⟩:=B' ch;grind
    cases h
   cases h
  cases h
def Ca(src:List (Option Nat)):List (Option Nat):=src.map fun x=>x.map fun a=>h7 a 0
def arp(args:List aJ):aS->Bool
 | .vals _=>true
 | .gW src _=>src.all fun
  | some a=>match args[a]? with | some (.ro (.one _))=>true | _=>false
  | none=>true
def KC(P:Program)(st:aD)(iz:List ResultVar):aS->Option (aS×hf×Option Nat)
 | .vals hint=>
  match iz.mapM (oZ P st) with
  | some ct=>(qg 0 ct hint).map fun r=>(.vals r.1,r.2,none)
  | none=>none
 | .gW src hint=>
  match iz.mapM (oZ P st) with
  | some [.az (.one (.ptr id 0))]=>
   match dh id st.boxes with
   | some ls=>
    match n2 (Ca src) ls with
    | some eW=>if id<cX then (pe (gA 49 0) eW hint).map fun r=>(.gW src (qE (Ca src) ls r.1),r.2,some id) else none
    | none=>none
   | none=>none
  | _=>none
def AQ(P:Program)(st:aD)(iz:List ResultVar)(args:List aJ)(hint:aS):Option (aS×List aJ):=
 match KC P st iz hint,rm st 0 args with
 | some (r,ts,_),some (as,rK)=>if zy args&&arp args r&&CN (ts++rK) then some (r,as) else none
 | _,_=>none
def lh(ω:Own)(ts:hf)(nw:Option Nat):Own:=fun b=>
 match ω b with
 | .tok t q=>match ts.at t with | some n=>.tok n q | none=>.bz
 | .box id=>if nw=some id then .box 49 else if cX<=id/\id<cX+49 then .box (id-cX) else .bz
 | .bz=>.bz
variable{ts:hf}
theorem Ig{nw:Option Nat}{n:Nat}{q:List (Nat×Nat)}(h:hz ω ts b=.tok n q):lh ω ts nw b=.tok n q:=by
 grind[hz,lh,id]
theorem kM.ary{nw:Option Nat}{r:Nat}{d:cE}{y:Value}(h:kM w (hz ω ts) r d y):kM w (lh ω ts nw) r d y:=by
 cases d with
 | one d=>exact bS.frame h fun b q _ aM=>⟨Ig aM,rfl⟩
 | agg ds=>
  obtain⟨vs,e,a7,bm⟩:=h;exact⟨vs,e,a7,fun j d aF=>by
   obtain⟨u,hu,aI⟩:=bm j d aF;exact⟨u,hu,aI.frame fun b q _ aM=>⟨Ig aM,rfl⟩⟩⟩
theorem O2{τ:Nat->Nat×Value}{nw:Option Nat}{id i:Nat}{ls eW:List aC}{hint ds:List D}{jG:hf}{cK:List (Option Nat)}{pn:List Bool}(jd:∀t n,(t,n)∈ts->ts.at t=some n)
  (aw:rW w ω τ id ls) (kG:n2 cK ls=some eW) (Wc:∀j,stays pn j=false->cK.getD j none=none) (aI:pe (gA i 0) eW hint=some (ds,jG)) (h1:∀y∈jG,y∈ts) (hid:∀b,ω b=.box id->lh ω ts nw b=.box i) (WO:∀b,lh ω ts nw b=.box i->ω b=.box id):
  ∀{y:Value},(∃b,ω b=.box id/\y=ptrTo b)->tu w (lh ω ts nw) i pn (gA i) (qE cK ls ds) y/\∀(j t:Nat),cK[j]?=some (some t)->cX<=t->(τ t).2=hy w y j:=by
 rintro y ⟨de,eE,rfl⟩;obtain⟨b,arr,ty,U,aa,aA,aO⟩:=aw;have:=aa de eE;subst this;obtain⟨a8,bG⟩:=H5 (w:=w) (ω:=ω) (τ:=τ) jd aI h1;obtain⟨mV,l6,ve⟩:=B9 kG;obtain⟨f1,f2⟩:=ajH cK ls ds;refine⟨⟨de,arr,ty,rfl,hid de eE,fun c ap=>aa c (WO c ap),aA,by have:=aO.1;omega,fun j d aF=>?_⟩,fun j t bm bZ=>?_⟩
 ·have k5:j<ls.length:=by
   grind
  obtain⟨u,hu,aj⟩:=aO.2 j _ (ih k5);refine⟨u,hu,fun e5=>?_⟩;have bc:=Wc j e5;rw[f2 j bc]at aF;obtain⟨l,au,c2⟩:=bG j d aF;rw[ve j bc,ih k5]at au;cases au;have:=c2 u aj;rw[show gA i 0+j=gA i j by grind[gA]]at this;exact this.frame fun b q _ aM=>⟨Ig aM,rfl⟩
 obtain⟨k,es,au⟩:=l6 j t bm;obtain⟨u,hu,aj⟩:=aO.2 j _ au;rw[aj.2 bZ];simp[hy,ptrTo,aA,eg,hu]
theorem O3{P:Program}{f:FuncId}{fn:Func}{c:Code}{r:aS}{ans cf:List b'}{obs:List Prop}{e:gQ}{st:aD}(b7:P.funcs[f]?=some fn)(aw:fn.body=some c)
  (fO:run P c (yb args fn.ntmps) ans=some (e,st,cf,obs)) (a6:cv obs) (he:e=.ret\/e=.normal) (eF:AQ P st fn.results.toList args r=some (r,args)):bP P f args r:=by
 intro w vs Ar k4 Fk oG;unfold AQ at eF;split at eF
 ·rename_i bF ts nw as rK gB lO;split at eF
  ·rename_i cG;simp only[aT,bq]at eF;obtain⟨rfl,rfl⟩:=eF;rw[cJ,cJ]at cG;obtain⟨⟨ez,ik⟩,cG⟩:=cG;have jd:∀t n,(t,n)∈ts++rK->hf.at t (ts++rK)=some n:=fun t n h=>CO cG h
   refine calls_of_wp b7 aw (Code.wp_mono (fun e' cC aP hp=>?_) (lX c fO a6 _ _ w (ajG ez k4 Fk oG fn.ntmps)));obtain⟨rfl,ω,τ,aW⟩:=hp;have as5:bF=bF/\as.length<49:=by
    simp_all[zy,cJ,cW]
   have Ba:∀id,nw=some id->id<cX:=by
    intro id e;subst e;unfold KC at gB;split at gB
    ·grind[b0,bq,absurd]
    grind[b0,bq,aT]
   have hm:∃v,(results fn cC.tmps).run P aP=.ok v aP/\Ax aP (lh ω (ts++rK) nw) vs bF v:=by
    have MV:∀{ct:List aE},fn.results.toList.mapM (oZ P st)=some ct->∃zs:List Value,(results fn cC.tmps).run P aP=.ok (if h:zs.toArray.size=1 then zs.toArray[0] else .tuple zs.toArray) aP/\zs.length=ct.length/\∀(i:Nat) (p:aE),ct[i]?=some p->∃z,zs[i]?=some z/\cH (Sat aP ω τ) p z:=by
     intro ct qW;obtain⟨zs,U,aa,aA⟩:=CQ aW qW;have hm:=BO (P:=P) _ fn.results aP _ U;refine⟨zs,?_,aa,aA⟩;rw[H6,Sem.run_bind,hm];rfl
    unfold KC at gB;split at gB
    ·rename_i hint;split at gB
     ·rename_i ct qW;rw[b0]at gB;obtain⟨⟨ds,KI⟩,er,h⟩:=gB;simp only[bq,aS.vals.injEq]at h;obtain⟨rfl,rfl,rfl⟩:=h;obtain⟨zs,U,aa,aA⟩:=MV qW;obtain⟨aO,a8⟩:=CP (w:=aP) (ω:=ω) (τ:=τ) jd er (fun x ao=>hG _ ao);have eI:∀(j:Nat) (d:cE),ds[j]?=some d->∃z,zs[j]?=some z/\kM aP (lh ω (KI++rK) none) j d z:=by
       intro j d aF;obtain⟨p,hp,qV⟩:=a8 j d aF;obtain⟨z,bk,q4⟩:=aA j p hp;have:=qV z q4;rw[dL]at this;exact⟨z,bk,this.ary⟩
      have kH:zs.length=ds.length:=by omega
      refine⟨_,U,?_⟩;show lV _ _ _ _;generalize br:(if h:zs.toArray.size=1 then zs.toArray[0] else Value.tuple zs.toArray)=v;unfold lV;split
      ·rename_i cl;obtain⟨z,bk,ap⟩:=eI 0 cl rfl;grind
      rename_i c1;have U:¬zs.toArray.size=1:=by
       intro h;simp at h;rw[kH]at h;obtain⟨d,aF⟩:=List.length_eq_one_iff.1 h;grind
      grind
     cases gB
    rename_i src hint;split at gB
    ·rename_i id qW;split at gB
     ·rename_i ls cZ;split at gB
      case h_2=>cases gB
      rename_i eW kG;split at gB
      ·rename_i bM;rw[b0]at gB;obtain⟨⟨ds,KI⟩,er,h⟩:=gB;simp only[bq,aS.gW.injEq,true_and]at h;obtain⟨rfl,rfl,rfl⟩:=h;obtain⟨zs,U,aa,aA⟩:=MV qW;obtain⟨z,bk,b,W1,pQ⟩:=aA 0 _ rfl;have pP:zs=[z]:=by
        match zs,aa,bk with
        | [z0],_,bk=>grind
       subst pP;refine⟨z,by grind,?_⟩;have x4:=O2 (pn:=vb src) (nw:=some id) (i:=49) jd (aW.boxes id ls cZ) kG (fun j bm=>by
        simp only[stays,vb,jJ,dk]at bm;simp only[Ca,jJ,dk];cases e:src[j]? with
        | none=>rfl
        | some x=>simp_all) er (fun y bO=>hG _ bO) (fun b aw=>by simp_all[lh,gO]) (fun b aw=>?_) ⟨b,W1,pQ⟩
       ·refine⟨x4.1,fun j x ao=>?_⟩;have aO:=x4.2 j (h7 x 0) (by simp[Ca,ao]) (by grind[h7]);have a8:=fp.1 ik _ (fe ao);simp only at a8;split at a8
        ·rename_i d aF;rw[aW.fixed _ (by grind[h7])]at aO;change (l5 as w vs (h7 x 0)).2=_ at aO;rw[O1 aF]at aO;have bG:x<vs.size:=by
          have:=(fA.1 aF).1;have:=k4.2.2.1;omega
         simp_all
        cases a8
       grind[lh,fB,c4.box.injEq]
      cases gB
     cases gB
    cases gB
   obtain⟨v,x3,q2⟩:=hm;have dz:∃v,(results fn cC.tmps).run P aP=.ok v aP/\∃u,Ending.returned v=.returned u/\fX ⟨w,fun b=>Ar b≠.bz,fun _=>(0,undef)⟩ aP/\
     ∃a':Own,(∀b,b<w.heap.size->Ar b=.bz->a' b=.bz)/\CA aP a'/\(∀(i:Nat) (pn:List Bool) (pre post:List D) (y:Value),as[i]?=some (.hD pn pre post)->vs[i]?=some y->tu aP a' i pn (gA i) post y/\∀j,stays pn j=true->hy aP y j=hy w y j)/\Ax aP a' vs bF u:=by
    refine⟨v,x3,v,rfl,⟨aW.below.os,aW.below.tape,aW.below.output,aW.below.size,aW.below.block,aW.below.drawn,aW.below.laid,aW.below.free⟩,lh ω (ts++rK) nw,fun b aw ay=>?_,fun b aw=>?_,?_,q2⟩
    ·have:ω b=.bz:=by
      cases e:ω b with
      | bz=>rfl
      | box id=>
       rcases (aW.owned b (by simp[e])).1 with h | h
       ·grind
       grind
      | tok t q=>
       rcases (aW.owned b (by simp[e])).1 with h | h
       ·grind
       grind
     grind[lh]
    ·have:ω b≠.bz:=fun e=>aw (by grind[lh])
     exact (aW.owned b this).2
    intro i pn pre post y oD bO;obtain⟨ls,eW,ds,hint,jG,g1,g0,g2,rfl,g3⟩:=(B' lO).2 i pn pre post oD;simp only[dL]at g1 g2 g0 oD ⊢;have hi:i<49:=by
     grind
    have c1:nw≠some (hQ i):=fun e=>by grind[hQ]
    obtain⟨cj,r1,tc,hh,gI,Mf,AY⟩:=aW.boxes _ ls g1;obtain⟨fW,MZ,⟨hK,_,_,hyp,_⟩,_⟩:=k4.2.2.2 i _ oD;rw[bO]at MZ;have:=fB MZ;subst this;have tO:=aW.pinned (hQ i) cj (by simp[hQ]) hh;simp only[l5]at tO;rw[bE (by grind[hQ]),bU (by simp[hQ]),show hQ i-cX=i by simp[hQ],eg,bO,hyp]at tO;have tO:hK=cj:=tO;subst tO;have Wa:∀j,stays pn j=true->(qc i 0 pn)[j]?=some (some (h7 i j)):=fun j bm=>by
     simp only[stays,jJ]at bm;rw[Ie,dL];grind
    have x4:=O2 (pn:=pn) (nw:=nw) (i:=i) jd ⟨hK,r1,tc,hh,gI,Mf,AY⟩ g0 (fun j bm=>by
     simp only[stays,jJ]at bm;rw[jJ,Ie];grind) g2 (fun y bO=>ig _ (g3 y bO)) (fun b aw=>?_) (fun b aw=>?_) ⟨hK,hh,hyp⟩
    ·refine⟨x4.1,fun j bm=>?_⟩;have V9:j<100:=by
      simp only[zy,cJ,cW,fp]at ez;have aO:=ez.2 _ (fe oD);simp only[cJ,cW]at aO;grind[stays,qn]
     have aO:=x4.2 j (h7 i j) (Wa j bm) (by grind[h7]);rw[aW.fixed _ (by grind[h7])]at aO;change (l5 as w vs (h7 i j)).2=_ at aO;rw[O0 oD V9]at aO;rw[<-aO];simp only[eg,bO,j5]
    ·simp only[lh,aw];rw[bE c1,bU ⟨by simp[hQ],by grind[hQ]⟩];simp[hQ]
    grind[lh,c4.box.injEq,hQ]
   obtain⟨v,bG,b9⟩:=dz;rcases he with rfl | rfl
   ·exact⟨aW.defers,v,bG,b9⟩
   exact⟨aW.defers,v,bG,b9⟩
  cases eF
 cases eF
def GO(P:Program)(c:Code)(ntmps:Nat)(iz:List ResultVar)(args:List aJ)(hint:aS)(ans:List b'):Option (aS×List aJ×List Prop):=
 match run P c (yb args ntmps) ans with
 | some (.ret,st,_,obs)=>(AQ P st iz args hint).map fun r=>(r.1,r.2,obs)
 | some (.normal,st,_,obs)=>(AQ P st iz args hint).map fun r=>(r.1,r.2,obs)
 | _=>none
theorem bP.of{P:Program}{f:FuncId}{fn:Func}{r:aS}(ans:List b')(obs:List Prop)(b7:P.funcs[f]?=some fn)(aw:fn.body.isSome=true)
  (h:GO P (mL fn) fn.ntmps fn.results.toList args r ans=some (r,args,obs)) (a6:cv obs):bP P f args r:=by
 obtain⟨c,ap⟩:=pq.1 aw;have xK:mL fn=c:=by simp[mL,ap]
 unfold GO at h;rw[xK]at h;split at h
 ·rename_i st a ld aI;rw[b0]at h;obtain⟨⟨wU,KF⟩,U,h⟩:=h;simp only[bq]at h;obtain⟨rfl,rfl,rfl⟩:=h;exact O3 b7 ap aI a6 (.inl rfl) U
 ·rename_i st a ld aI;rw[b0]at h;obtain⟨⟨wU,KF⟩,U,h⟩:=h;simp only[bq]at h;obtain⟨rfl,rfl,rfl⟩:=h;exact O3 b7 ap aI a6 (.inr rfl) U
 cases h
end Go.Sx
namespace Go.Sx
open Go.RowKit
mutual
inductive Fit:D->D->Prop
 | refl (d:D):Fit d d
 | nil (k:Nat):Fit (.v (.slice none 0 0)) (.J k [])
 | J (k:Nat) {es cq:List (List D)} (h:kZ es cq):Fit (.J k es) (.J k cq)
inductive iY:List D->List D->Prop
 | nil:iY [] []
 | cons {d dn:D} {e e':List D} (h:Fit d dn) (t:iY e e'):iY (d::e) (dn::e')
inductive kZ:List (List D)->List (List D)->Prop
 | nil:kZ [] []
 | cons {e e':List D} {es cq:List (List D)} (h:iY e e') (t:kZ es cq):kZ (e::es) (e'::cq)
end
theorem iY.refl:∀e:List D,iY e e
 | []=>.nil
 | d::e=>.cons (.refl d) (iY.refl e)
mutual
theorem Fit.rep{w:World}{ω:Own}:∀{d dn:D},Fit d dn->∀{R:List (Nat×Nat)->c4->Prop} {y:Value},bS w ω R d y->bS w ω R dn y
 | _,_,.refl d,_,_,h=>h
 | _,_,.nil k,_,_,h=>by cases h;exact .nil _ _ _
 | _,_,.J k f,_,_,h=>by
  obtain⟨au,ay⟩:=kZ.get (w:=w) (ω:=ω) f;cases h with
  | nil=>
   have:=w9 au.symm;subst this;exact .nil _ _ _
  | row R k es b off cap arr ty cF us aw dz ap aj bc hu aF=>
   rw[au];refine .row _ _ _ b off cap arr ty cF us aw dz (au▸ap) aj (fun e he=>?_) (fun i j dn dX=>?_) (fun i j dn dX=>?_)
   ·obtain⟨i,hi⟩:=pr.1 he;obtain⟨bD,U,aa,_⟩:=ay i e hi;rw[<-aa];exact bc bD (fe U)
   ·unfold cN at dX;rw[kW]at dX;obtain⟨e,U,aa⟩:=dX;obtain⟨bD,aA,_,a8⟩:=ay i e U;obtain⟨d,bG,_⟩:=a8 j dn aa;exact hu i j d (by unfold cN;rw[aA];exact bG)
   unfold cN at dX;rw[kW]at dX;obtain⟨e,U,aa⟩:=dX;obtain⟨bD,aA,_,a8⟩:=ay i e U;obtain⟨d,bG,b9⟩:=a8 j dn aa;exact b9 (aF i j d (by unfold cN;rw[aA];exact bG))
theorem iY.get{w:World}{ω:Own}:∀{e e':List D},iY e e'->e.length=e'.length/\∀(j:Nat) (dn:D),e'[j]?=some dn->∃d,e[j]?=some d/\∀{R:List (Nat×Nat)->c4->Prop} {y:Value},bS w ω R d y->bS w ω R dn y
 | _,_,.nil=>⟨rfl,fun j dn h=>by simp at h⟩
 | _,_,.cons h t=>by
  obtain⟨U,aa⟩:=iY.get (w:=w) (ω:=ω) t;refine⟨by simp[U],fun j dn aF=>?_⟩;cases j with
  | zero=>
   simp only[kV,aT]at aF;subst aF;exact⟨_,rfl,fun aI=>Fit.rep h aI⟩
  | succ j=>exact aa j dn (by simpa using aF)
theorem kZ.get{w:World}{ω:Own}:∀{es cq:List (List D)},kZ es cq->es.length=cq.length/\∀(i:Nat) (e':List D),cq[i]?=some e'->∃e,es[i]?=some e/\e.length=e'.length/\∀(j:Nat) (dn:D),e'[j]?=some dn->∃d,e[j]?=some d/\∀{R:List (Nat×Nat)->c4->Prop} {y:Value},bS w ω R d y->bS w ω R dn y
 | _,_,.nil=>⟨rfl,fun j dn h=>by simp at h⟩
 | _,_,.cons h t=>by
  obtain⟨U,aa⟩:=kZ.get (w:=w) (ω:=ω) t;obtain⟨aA,aO⟩:=iY.get (w:=w) (ω:=ω) h;refine⟨by simp[U],fun j dn aF=>?_⟩;cases j with
  | zero=>
   simp only[kV,aT]at aF;subst aF;exact⟨_,rfl,aA,aO⟩
  | succ j=>exact aa j dn (by simpa using aF)
end
inductive pv:cE->cE->Prop
 | one {d dn:D} (h:Fit d dn):pv (.one d) (.one dn)
 | agg {e e':List D} (h:iY e e'):pv (.agg e) (.agg e')
theorem pv.refl(a:cE):pv a a:=by
 cases a with
 | one d=>exact .one (.refl d)
 | agg e=>exact .agg (.refl e)
inductive mb:List cE->List cE->Prop
 | nil:mb [] []
 | cons {a cC:cE} {as j':List cE} (h:pv a cC) (t:mb as j'):mb (a::as) (cC::j')
theorem mb.get:∀{as j':List cE},mb as j'->as.length=j'.length/\∀(i:Nat) (cC:cE),j'[i]?=some cC->∃a,as[i]?=some a/\pv a cC
 | _,_,.nil=>⟨rfl,fun j dn h=>by simp at h⟩
 | _,_,.cons h t=>by
  obtain⟨U,aa⟩:=mb.get t;refine⟨by simp[U],fun j dn aF=>?_⟩;cases j with
  | zero=>
   simp only[kV,aT]at aF;subst aF;exact⟨_,rfl,h⟩
  | succ j=>exact aa j dn (by simpa using aF)
variable{w:World}
theorem pv.cell{ω:Own}{r:Nat}{a cC:cE}{y:Value}(h:pv a cC)(ap:kM w ω r a y):kM w ω r cC y:=by
 cases h with
 | one h=>exact h.rep ap
 | agg h=>
  obtain⟨vs,rfl,a7,bm⟩:=ap;obtain⟨U,aa⟩:=iY.get (w:=w) (ω:=ω) h;refine⟨vs,rfl,by omega,fun j dn aF=>?_⟩;obtain⟨d,aA,aO⟩:=aa j dn aF;obtain⟨u,a8,bG⟩:=bm j d aA;exact⟨u,a8,aO bG⟩
variable{rs s8:List cE}
theorem mb.all{ω:Own}{v:Value}(h:mb rs s8)(aI:lV w ω rs v):lV w ω s8 v:=by
 cases h with
 | nil=>exact aI
 | cons h t=>
  cases t with
  | nil=>exact h.cell aI
  | cons aa t2=>
   obtain⟨vs,e,a7,br⟩:=aI;obtain⟨aA,aO⟩:=mb.get (.cons h (.cons aa t2));refine⟨vs,e,by omega,fun i cC ai=>?_⟩;obtain⟨a,a8,bG⟩:=aO i cC ai;obtain⟨y,b9,da⟩:=br i a a8;exact⟨y,b9,bG.cell da⟩
variable{P:Program}{f:FuncId}
theorem bP.fit{args:List aJ}(h:bP P f args (.vals rs))(k:mb rs s8):bP P f args (.vals s8):=by
 intro w vs ω aI jt oG;refine (h w vs ω aI jt oG).mono ?_;rintro e aP ⟨v,rfl,aw,a',U,aa,aA,aO⟩;exact⟨v,rfl,aw,a',U,aa,aA,k.all aO⟩
theorem hI.fit{args:List cE}(h:hI P f args rs)(k:mb rs s8):hI P f args s8:=by
 intro w vs oF aI;refine (h w vs oF aI).mono ?_;rintro e aP ⟨v,rfl,aw,ω,U,aa,aA⟩;exact⟨v,rfl,aw,ω,U,aa,k.all aA⟩
theorem pv.arg{a cC:cE}{y:Value}(h:pv a cC)(ap:tn w a y):tn w cC y:=by
 cases h with
 | one h=>exact h.rep ap
 | agg h=>
  obtain⟨vs,rfl,a7,bm⟩:=ap;obtain⟨U,aa⟩:=iY.get (w:=w) (ω:=fun _=>.bz) h;refine⟨vs,rfl,by omega,fun j dn aF=>?_⟩;obtain⟨d,aA,aO⟩:=aa j dn aF;obtain⟨u,a8,bG⟩:=bm j d aA;exact⟨u,a8,aO bG⟩
theorem hI.args{as j':List cE}(h:hI P f j' rs)(k:mb as j'):hI P f as rs:=by
 intro w vs oF aI;obtain⟨U,aa⟩:=k.get;refine h w vs oF ⟨by rw[aI.1,U],fun i cC ai=>?_⟩;obtain⟨a,aA,aO⟩:=aa i cC ai;obtain⟨v,a8,bG⟩:=aI.2 i a aA;exact⟨v,a8,aO.arg bG⟩
