import Derived.Test.YtdchjefneblpgaaGreatR15
set_option linter.unusedVariables false
set_option linter.unusedSimpArgs false
namespace Go.Sx
open Go.RowKit
def h5(i:Nat):Nat:=cX+i
def iq(i j:Nat):Nat:=cX+100+(100*i+j)
def aL.aF(i:Nat):aL->bm
 | .ro (.one (.J k es))=>.one (.c' (iq i 0) k es)
 | .ro a=>a.arg
 | .hJ _ _ _=>.one (.ptr (h5 i) 0)
 | .fn g cG=>.one (.fR g (cG.map h5))
def D.NY(t:Nat):D->az
 | .J k es=>.c' t k es
 | _=>.cj
def rP(i:Nat)(pn:List Bool):Nat->List D->List az
 | _,[]=>[]
 | j,d::ds=>(if stays pn j then d.NY (iq i j) else d.oi (pJ i j))::rP i pn (j+1) ds
theorem Py(i:Nat)(pn:List Bool):∀(ds:List D) (j x:Nat),(rP i pn j ds)[x]?=(ds[x]?).map fun d=>if stays pn (j+x) then d.NY (iq i (j+x)) else d.oi (pJ i (j+x))
 | [],_,_=>by simp[rP]
 | d::ds,j,0=>by simp[rP]
 | d::ds,j,x+1=>by
  simp only[rP,nD,Py i pn ds (j+1) x];rw[show j+1+x=j+(x+1) by omega]
theorem Pz(i:Nat)(pn:List Bool):∀(ds:List D) (j:Nat),(rP i pn j ds).length=ds.length
 | [],_=>rfl
 | d::ds,j=>by simp[rP,Pz i pn ds (j+1)]
def tt:Nat->List aL->List aE
 | _,[]=>[]
 | i,a::as=>.aF (a.aF i)::tt (i+1) as
def wX:Nat->List aL->List (Nat×List az)
 | _,[]=>[]
 | i,.hJ pn pre _::as=>(h5 i,rP i pn 0 pre)::wX (i+1) as
 | i,.ro _::as=>wX (i+1) as
 | i,.fn _ _::as=>wX (i+1) as
def yH(args:List aL)(ntmps:Nat):aD:=⟨(tt 0 args).take (r3 args)++List.replicate (ntmps-r3 args) .cj,wX 0 args⟩
theorem PA:∀(as:List aL) (i x:Nat),(tt i as)[x]?=(as[x]?).map fun a=>.aF (a.aF (i+x))
 | [],i,x=>by simp[tt]
 | a::as,i,0=>by simp[tt]
 | a::as,i,x+1=>by
  simp only[tt,nD,PA as (i+1) x];rw[show i+1+x=i+(x+1) by omega]
theorem IH:∀(as:List aL) (i:Nat),(tt i as).length=as.length
 | [],_=>rfl
 | a::as,i=>by simp[tt,IH as (i+1)]
theorem CI{id:Nat}{ls:List az}:∀{as:List aL} {i:Nat},df id (wX i as)=some ls->∃x pn pre post,as[x]?=some (.hJ pn pre post)/\id=h5 (i+x)/\ls=rP (i+x) pn 0 pre
 | [],i,h=>by cases h
 | .ro _::as,i,h=>by
  obtain⟨x,pn,pre,post,h1,U,ax⟩:=CI (as:=as) (i:=i+1) h;exact⟨x+1,pn,pre,post,by simpa using h1,by rw[U,show i+1+x=i+(x+1) by omega],by rw[ax,show i+1+x=i+(x+1) by omega]⟩
 | .fn _ _::as,i,h=>by
  obtain⟨x,pn,pre,post,h1,U,ax⟩:=CI (as:=as) (i:=i+1) h;exact⟨x+1,pn,pre,post,by simpa using h1,by rw[U,show i+1+x=i+(x+1) by omega],by rw[ax,show i+1+x=i+(x+1) by omega]⟩
 | .hJ pn pre post::as,i,h=>by
  simp only[wX,df]at h;split at h
  ·rename_i e;exact⟨0,pn,pre,post,rfl,e.symm,(gP h).symm⟩
  obtain⟨x,Ye,pre,post,h1,U,ax⟩:=CI (as:=as) (i:=i+1) h;exact⟨x+1,Ye,pre,post,by grind,by grind,by grind⟩
def Aa(args:List aL):Bool:=decide (args.length<49)&&args.all fun
 | .ro _=>true
 | .hJ pn pre post=>decide (pn.length<100)&&decide (pre.length<100)&&decide (post.length<100)
 | .fn _ cG=>cG.all fun k=>match args[k]? with | some (.hJ _ _ _)=>true | _=>false
def Bg:Value->Nat
 | .pointer (some p)=>p.block
 | _=>0
def mm(args:List aL)(w:World)(vs:Array Value)(t:Nat):Nat×Value:=
 if cX+100<=t then
  match args[(t-(cX+100)) / 100]? with
  | some (.hJ _ pre _)=>(((pre[(t-(cX+100)) % 100]?).map D.r7).getD 0,hF w (vs.getD ((t-(cX+100)) / 100) undef) ((t-(cX+100)) % 100))
  | some (.ro (.one d))=>(d.r7,vs.getD ((t-(cX+100)) / 100) undef)
  | _=>(0,undef)
 else if cX<=t then (Bg (vs.getD (t-cX) undef),undef) else
 match args[(t-900000000) / 100]? with
 | some (.hJ _ pre _)=>(((pre[(t-900000000) % 100]?).map D.r7).getD 0,hF w (vs.getD ((t-900000000) / 100) undef) ((t-900000000) % 100))
 | _=>(0,undef)
def rE(ω:Own):Own:=fun b=>match ω b with | .box i=>.box (h5 i) | o=>o
variable{ω:Own}{b:Nat}
theorem akg{t:Nat}{q:List (Nat×Nat)}(h:ω b=.tok t q):rE ω b=.tok t q:=by grind[rE]
theorem PB:rE ω b=.bt<->ω b=.bt:=by
 grind[rE]
variable{i:Nat}
theorem CJ:rE ω b=.box (h5 i)<->ω b=.box i:=by
 grind[rE,h5,c0.box.injEq]
variable{args:List aL}{w:World}{vs:Array Value}
theorem PC{j:Nat}{pn:List Bool}{pre post:List D}(h:args[i]?=some (.hJ pn pre post))(bg:j<100):
  mm args w vs (iq i j)=(((pre[j]?).map D.r7).getD 0,hF w (vs.getD i undef) j):=by
 have e1:(iq i j-(cX+100)) / 100=i:=by grind[iq]
 have e2:(iq i j-(cX+100)) % 100=j:=by grind[iq]
 unfold mm;rw[bM (by grind[iq]),e1,e2,h]
theorem PD{d:D}(h:args[i]?=some (.ro (.one d))):mm args w vs (iq i 0)=(d.r7,vs.getD i undef):=by
 simp_all[iq,cX,mm,bM]
theorem akh(dX:Aa args=true)(h:EX w ω args vs)(kp:ET args vs)(o8:Tidy w ω)(ntmps:Nat):
  Rel ⟨w,fun b=>ω b≠.bt,mm args w vs⟩ (yH args ntmps) { tmps:=vs.extract 0 (r3 args)++Array.replicate (ntmps-(vs.extract 0 (r3 args)).size) undef,defers:=[] } w:=by
 have Ga:r3 args<=args.length:=Nat.sub_le _ _;obtain⟨gS,cY,a8,ah⟩:=h;simp only[Aa,cF,cW,fx]at dX;have vX:∀{d:D} {y:Value},bQ w ω Tag.free.R d y->bQ w (rE ω) Tag.free.R d y:=fun h=>h.frame fun b q _ aK=>⟨PB.2 aK,rfl⟩
 have dN:(vs.extract 0 (r3 args)).size=r3 args:=by grind
 refine⟨rE ω,mm args w vs,rfl,by grind[yH,IH],fO.start o8,fun b aw=>?_,fun _ _=>rfl,?_,?_,fun id ls ap=>?_⟩
 ·have:ω b≠.bt:=fun e=>aw (PB.2 e)
  exact⟨.inr this,gS b this⟩
 ·intro id b hi aw;simp only[rE]at aw;cases e:ω b with
  | bt=>grind
  | tok t q=>grind
  | box i=>
   rw[e]at aw;simp only[c0.box.injEq]at aw;subst aw;obtain⟨pn,pre,post,h1⟩:=cY b i e;obtain⟨v,bz,⟨gC,arr,ty,rfl,U,ax,_⟩,_⟩:=ah i _ h1;have:=ax b e;subst this;have yh:i<49:=by
    grind
   simp only[mm];rw[bG (by grind[h5]),bM hi,show h5 i-cX=i by simp[h5],er,bz];rfl
 ·intro i p hp;simp only[yH]at hp;rw[ov,tF,IH,Nat.min_eq_left Ga]at hp;split at hp
  ·rename_i hi;rw[jX,bM hi,PA,bX]at hp;obtain⟨iA,o5,rfl⟩:=hp;rw[dF];obtain⟨v,bz,cJ⟩:=ah i iA o5;have nW:i<vs.size:=by omega
   refine⟨v,by rw[iD,bM (by grind),Array.getElem?_extract,bM (by omega),dF,bz],?_⟩;cases iA with
   | fn g cG=>
    have h1:=kp i g cG o5;rw[bz]at h1;cases h1;refine⟨cG.map fun k=>Bg (vs.getD k undef),?_,by simp,fun j id bg=>?_⟩
    ·congr 2
     rw[List.map_map];refine kG fun k hk=>?_
     have U:=dX.2 _ (fl o5);have ax:=fx.1 U k hk;split at ax
     ·rename_i pn pre post rf;obtain⟨v2,rp,⟨fQ,_,_,rfl,_⟩,_⟩:=ah k _ rf;simp[er,rp,ptrTo,Bg]
     cases ax
    rw[dr,bX]at bg;obtain⟨k,hk,rfl⟩:=bg;have U:=dX.2 _ (fl o5);have ax:=fx.1 U k (fl hk);split at ax
    ·rename_i pn pre post rf;obtain⟨v2,rp,⟨fQ,_,_,rfl,aY,_⟩,_⟩:=ah k _ rf;refine⟨fQ,?_,CJ.2 aY⟩;simp[hk,er,rp,ptrTo,Bg]
    cases ax
   | hJ pn pre post=>
    obtain⟨⟨b,arr,ty,rfl,U,_⟩,_⟩:=cJ;exact⟨b,CJ.2 U,rfl⟩
   | ro ci=>
    cases ci with
    | one d=>
     cases d with
     | J k es=>
      refine⟨vX cJ,fun _=>?_⟩;rw[PD o5,er,bz];rfl
     | v x=>exact D.du (τ:=mm args w vs) (p:=(0,0)) (t:=.free) (vX cJ)
     | ptr ds=>exact D.du (τ:=mm args w vs) (p:=(0,0)) (t:=.free) (vX cJ)
     | cl g cs=>exact D.du (τ:=mm args w vs) (p:=(0,0)) (t:=.free) (vX cJ)
    | agg ds=>
     obtain⟨us,rfl,hlen,nU⟩:=cJ;refine⟨us,rfl,by grind,fun j l ap=>?_⟩;rw[dr,bX]at ap;obtain⟨d,aG,rfl⟩:=ap;obtain⟨u,h1,U⟩:=nU j d aG;exact⟨u,h1,D.du (p:=(0,0)) (t:=.free) (vX U)⟩
  rename_i hi;rw[AZ]at hp;split at hp
  ·rename_i bJ;simp only[aS]at hp;subst hp;refine⟨undef,?_,aa⟩;grind
  cases hp
 obtain⟨i,pn,pre,post,h1,rfl,rfl⟩:=CI ap;rw[dF];obtain⟨v,bz,⟨b,arr,ty,rfl,U,ax,aJ,aY,bx⟩,bN⟩:=ah i _ h1;refine⟨b,arr,ty,CJ.2 U,fun da eh=>ax da (CJ.1 eh),aJ,by grind[Pz],fun j l ap=>?_⟩;rw[Py,bX]at ap;obtain⟨d,aG,rfl⟩:=ap;rw[dF];obtain⟨u,hu,aH⟩:=bx j d aG;have bg:j<100:=by
  have e1:=dX.2 _ (fl h1);grind
 refine⟨u,hu,?_⟩;cases eP:stays pn j with
 | true=>
  rw[bM rfl];have db:=bN j d aG eP;have e:hF w (ptrTo b) j=u:=by simp_all[hF,ptrTo]
  rw[e]at db;cases d with
  | J k es=>
   refine⟨vX db,fun _=>?_⟩;rw[PC h1 bg,er,bz];simp only[jZ,e,aG,qL];rfl
  | _=>exact trivial
 | false=>
 rw[bG (by simp)];replace aH:=aH eP;cases d with
 | v x=>
  have e:u=x:=by cases aH;rfl
  subst e;unfold D.oi;split
  ·rename_i h;cases h;exact rfl
  ·rename_i h;cases h;exact rfl
  ·grind
  ·exact trivial
  grind
 | ptr ds=>exact trivial
 | cl g br=>exact trivial
 | J k es=>
  refine⟨aH.frame fun c q _ aK=>⟨akg aK,rfl⟩,?_⟩;have e1:(pJ i j-900000000) / 100=i:=by grind[pJ]
  have e2:(pJ i j-900000000) % 100=j:=by grind[pJ]
  have hi:i<49:=by
   grind
  simp only[Tag.dJ,mm];rw[bG (by grind[pJ,cX]),bG (by grind[pJ,cX])];simp only[e1,e2,h1,aG];simp[hF,ptrTo,aJ,er,bz,hu,D.r7]
def oo:List (Option Nat)->List az->Option (List az)
 | [],ls=>some ls
 | some t::ts,.c' s _ _::ls=>if s=t then (oo ts ls).map fun r=>.v (.bool true)::r else none
 | none::ts,l::ls=>(oo ts ls).map fun r=>l::r
 | none::ts,[]=>oo ts []
 | some _::_,_=>none
theorem CK:∀{ts:List (Option Nat)} {ls e6:List az},oo ts ls=some e6->e6.length=ls.length/\(∀(j t:Nat),ts[j]?=some (some t)->∃k es,ls[j]?=some (.c' t k es))/\∀j,ts.getD j none=none->e6[j]?=ls[j]?
 | [],ls,e6,h=>by
  simp_all[oo,aS]
 | some t::ts,.c' s k es::ls,e6,h=>by
  simp only[oo]at h;split at h
  ·rename_i e;subst e;rw[bX]at h;obtain⟨r,h1,rfl⟩:=h;obtain⟨g1,g2,g3⟩:=CK h1;grind
  cases h
 | none::ts,l::ls,e6,h=>by
  simp only[oo,bX]at h;obtain⟨r,h1,rfl⟩:=h;obtain⟨g1,g2,g3⟩:=CK h1;grind
 | none::ts,[],e6,h=>by
  simp only[oo]at h;obtain⟨g1,g2,g3⟩:=CK h;refine⟨g1,fun j t bg=>?_,fun j bg=>?_⟩
  ·cases j with
   | zero=>simp at bg
   | succ j=>obtain⟨k,es,h⟩:=g2 j t (by simpa using bg);simp at h
  have:e6=[]:=xt g1;rw[this]
def q2:List (Option Nat)->List az->List D->List D
 | some _::ts,.c' _ k es::ls,_::ds=>.J k es::q2 ts ls ds
 | _::ts,_::ls,d::ds=>d::q2 ts ls ds
 | _,_,ds=>ds
theorem aki:∀(ts:List (Option Nat)) (ls:List az) (ds:List D),(q2 ts ls ds).length=ds.length/\∀j,ts.getD j none=none->(q2 ts ls ds)[j]?=ds[j]?:=by
 intro ts ls ds
 fun_induction q2 ts ls ds with
 | case1 t ts s k es ls d ds eH=>
  grind
 | case2 x ts l ls d ds _ eH=>
  grind
 | case3=>grind
def qx(i:Nat):Nat->List Bool->List (Option Nat)
 | _,[]=>[]
 | j,b::r=>(if b then some (iq i j) else none)::qx i (j+1) r
theorem II(i:Nat):∀(pn:List Bool) (j x:Nat),(qx i j pn)[x]?=(pn[x]?).map fun b=>if b then some (iq i (j+x)) else none
 | [],_,_=>by simp[qx]
 | b::r,j,0=>by simp[qx]
 | b::r,j,x+1=>by
  simp only[qx,nD,II i r (j+1) x];rw[show j+1+x=j+(x+1) by omega]
def rQ(st:aD):Nat->List aL->Option (List aL×hg)
 | _,[]=>some ([],[])
 | i,.ro a::as=>(rQ st (i+1) as).map fun r=>(.ro a::r.1,r.2)
 | i,.fn g cG::as=>(rQ st (i+1) as).map fun r=>(.fn g cG::r.1,r.2)
 | i,.hJ pn pre post::as=>
  match df (h5 i) st.boxes with
  | some ls=>
   match oo (qx i 0 pn) ls with
   | some e6=>
    match pK (gD i 0) e6 post,rQ st (i+1) as with
    | some (ds,ts),some r=>some (.hJ pn pre (q2 (qx i 0 pn) ls ds)::r.1,ts++r.2)
    | _,_=>none
   | none=>none
  | none=>none
theorem CL{st:aD}:∀{as kk:List aL} {i:Nat} {ts:hg},rQ st i as=some (kk,ts)->kk.length=as.length/\∀(x:Nat) (pn:List Bool) (pre post:List D),kk[x]?=some (.hJ pn pre post)->
  ∃ls e6 ds hint jW,df (h5 (i+x)) st.boxes=some ls/\oo (qx (i+x) 0 pn) ls=some e6/\pK (gD (i+x) 0) e6 hint=some (ds,jW)/\post=q2 (qx (i+x) 0 pn) ls ds/\∀y∈jW,y∈ts
 | [],kk,i,ts,h=>by
  simp_all[rQ,aS,bq]
 | .ro a::as,kk,i,ts,h=>by
  simp only[rQ,bX]at h;obtain⟨⟨bK,b2⟩,h1,h⟩:=h;simp only[bq]at h;obtain⟨rfl,rfl⟩:=h;obtain⟨c4,b8⟩:=CL h1;refine⟨by simp[c4],fun x pn pre post ak=>?_⟩;cases x with
  | zero=>simp at ak
  | succ x=>
   have:=b8 x pn pre post (by simpa using ak);rwa[show i+1+x=i+(x+1) by omega]at this
 | .fn g cG::as,kk,i,ts,h=>by
  simp only[rQ,bX]at h;obtain⟨⟨bK,b2⟩,h1,h⟩:=h;simp only[bq]at h;obtain⟨rfl,rfl⟩:=h;obtain⟨c4,b8⟩:=CL h1;refine⟨by simp[c4],fun x pn pre post ak=>?_⟩;cases x with
  | zero=>simp at ak
  | succ x=>
   have:=b8 x pn pre post (by simpa using ak);rwa[show i+1+x=i+(x+1) by omega]at this
 | .hJ pn pre post::as,kk,i,ts,h=>by
  simp only[rQ]at h;split at h
  ·rename_i ls e1;split at h
   ·rename_i e6 bB;split at h
    ·rename_i ds K6 r e2 cb;simp only[aS,bq]at h;obtain⟨rfl,rfl⟩:=h;obtain⟨c4,b8⟩:=CL cb;grind
    cases h
   cases h
  cases h
def CM(src:List (Option Nat)):List (Option Nat):=src.map fun x=>x.map fun a=>iq a 0
def asc(args:List aL):aT->Bool
 | .vals _=>true
 | .im src _=>src.all fun
  | some a=>match args[a]? with | some (.ro (.one _))=>true | _=>false
  | none=>true
def K1(P:Program)(st:aD)(iT:List ResultVar):aT->Option (aT×hg×Option Nat)
 | .vals hint=>
  match iT.mapM (py P st) with
  | some cn=>(qF 0 cn hint).map fun r=>(.vals r.1,r.2,none)
  | none=>none
 | .im src hint=>
  match iT.mapM (py P st) with
  | some [.aF (.one (.ptr id 0))]=>
   match df id st.boxes with
   | some ls=>
    match oo (CM src) ls with
    | some e6=>if id<cX then (pK (gD 49 0) e6 hint).map fun r=>(.im src (q2 (CM src) ls r.1),r.2,some id) else none
    | none=>none
   | none=>none
  | _=>none
def Bu(P:Program)(st:aD)(iT:List ResultVar)(args:List aL)(hint:aT):Option (aT×List aL):=
 match K1 P st iT hint,rQ st 0 args with
 | some (r,ts,_),some (as,r9)=>if Aa args&&asc args r&&Dq (ts++r9) then some (r,as) else none
 | _,_=>none
def lD(ω:Own)(ts:hg)(nw:Option Nat):Own:=fun b=>
 match ω b with
 | .tok t q=>match ts.at t with | some n=>.tok n q | none=>.bt
 | .box id=>if nw=some id then .box 49 else if cX<=id/\id<cX+49 then .box (id-cX) else .bt
 | .bt=>.bt
variable{ts:hg}
theorem IJ{nw:Option Nat}{n:Nat}{q:List (Nat×Nat)}(h:hG ω ts b=.tok n q):lD ω ts nw b=.tok n q:=by
 grind[hG,lD,id]
theorem kZ.asn{nw:Option Nat}{r:Nat}{d:cz}{y:Value}(h:kZ w (hG ω ts) r d y):kZ w (lD ω ts nw) r d y:=by
 cases d with
 | one d=>exact bQ.frame h fun b q _ aK=>⟨IJ aK,rfl⟩
 | agg ds=>
  obtain⟨vs,e,a8,bg⟩:=h;exact⟨vs,e,a8,fun j d aG=>by
   obtain⟨u,hu,aH⟩:=bg j d aG;exact⟨u,hu,aH.frame fun b q _ aK=>⟨IJ aK,rfl⟩⟩⟩
theorem PE{τ:Nat->Nat×Value}{nw:Option Nat}{id i:Nat}{ls e6:List az}{hint ds:List D}{jW:hg}{cG:List (Option Nat)}{pn:List Bool}(jA:∀t n,(t,n)∈ts->ts.at t=some n)
  (aw:sd w ω τ id ls) (gS:oo cG ls=some e6) (WZ:∀j,stays pn j=false->cG.getD j none=none) (aH:pK (gD i 0) e6 hint=some (ds,jW)) (ih:∀y∈jW,y∈ts) (gh:∀b,ω b=.box id->lD ω ts nw b=.box i) (XE:∀b,lD ω ts nw b=.box i->ω b=.box id):
  ∀{y:Value},(∃b,ω b=.box id/\y=ptrTo b)->tR w (lD ω ts nw) i pn (gD i) (q2 cG ls ds) y/\∀(j t:Nat),cG[j]?=some (some t)->cX<=t->(τ t).2=hF w y j:=by
 rintro y ⟨da,eh,rfl⟩;obtain⟨b,arr,ty,h1,U,ax,aJ⟩:=aw;have:=U da eh;subst this;obtain⟨aY,bx⟩:=Iz (w:=w) (ω:=ω) (τ:=τ) jA aH ih;obtain⟨nz,om,vu⟩:=CK gS;obtain⟨f1,f2⟩:=aki cG ls ds;refine⟨⟨da,arr,ty,rfl,gh da eh,fun c al=>U c (XE c al),ax,by have:=aJ.1;omega,fun j d aG=>?_⟩,fun j t bg bU=>?_⟩
 ·have jQ:j<ls.length:=by
   grind
  obtain⟨u,hu,ai⟩:=aJ.2 j _ (iZ jQ);refine⟨u,hu,fun eP=>?_⟩;have hk:=WZ j eP;rw[f2 j hk]at aG;obtain⟨l,ap,cR⟩:=bx j d aG;rw[vu j hk,iZ jQ]at ap;cases ap;have:=cR u ai;rw[show gD i 0+j=gD i j by grind[gD]]at this;exact this.frame fun b q _ aK=>⟨IJ aK,rfl⟩
 obtain⟨k,es,ap⟩:=om j t bg;obtain⟨u,hu,ai⟩:=aJ.2 j _ ap;rw[ai.2 bU];simp[hF,ptrTo,ax,er,hu]
theorem PF{P:Program}{f:FuncId}{fn:Func}{c:Code}{r:aT}{ans b':List b4}{obs:List Prop}{e:gQ}{st:aD}(b0:P.funcs[f]?=some fn)(aw:fn.body=some c)
  (e5:run P c (yH args fn.ntmps) ans=some (e,st,b',obs)) (aZ:cA obs) (he:e=.ret\/e=.normal) (eG:Bu P st fn.results.toList args r=some (r,args)):bT P f args r:=by
 intro w vs A1 ll FP o8;unfold Bu at eG;split at eG
 ·rename_i bK ts nw as r9 gI l2;split at eG
  ·rename_i cJ;simp only[aS,bq]at eG;obtain⟨rfl,rfl⟩:=eG;rw[cF,cF]at cJ;obtain⟨⟨dX,hY⟩,cJ⟩:=cJ;have jA:∀t n,(t,n)∈ts++r9->hg.at t (ts++r9)=some n:=fun t n h=>Dr cJ h
   refine calls_of_wp b0 aw (Code.wp_mono (fun e' cx aM hp=>?_) (mc c e5 aZ _ _ w (akh dX ll FP o8 fn.ntmps)));obtain⟨rfl,ω,τ,aU⟩:=hp;have at2:bK=bK/\as.length<49:=by
    simp_all[Aa,cF,cW]
   have BO:∀id,nw=some id->id<cX:=by
    intro id e;subst e;unfold K1 at gI;split at gI
    ·grind[bX,bq,absurd]
    grind[bX,bq,aS]
   have hm:∃v,(results fn cx.tmps).run P aM=.ok v aM/\A' aM (lD ω (ts++r9) nw) vs bK v:=by
    have Nt:∀{cn:List aE},fn.results.toList.mapM (py P st)=some cn->∃zs:List Value,(results fn cx.tmps).run P aM=.ok (if h:zs.toArray.size=1 then zs.toArray[0] else .tuple zs.toArray) aM/\zs.length=cn.length/\∀(i:Nat) (p:aE),cn[i]?=some p->∃z,zs[i]?=some z/\cE (Sat aM ω τ) p z:=by
     intro cn rk;obtain⟨zs,h1,U,ax⟩:=CD aU rk;have hm:=Cs (P:=P) _ fn.results aM _ h1;refine⟨zs,?_,U,ax⟩;rw[IA,Sem.run_bind,hm];rfl
    unfold K1 at gI;split at gI
    ·rename_i hint;split at gI
     ·rename_i cn rk;rw[bX]at gI;obtain⟨⟨ds,K6⟩,ey,h⟩:=gI;simp only[bq,aT.vals.injEq]at h;obtain⟨rfl,rfl,rfl⟩:=h;obtain⟨zs,h1,U,ax⟩:=Nt rk;obtain⟨aJ,aY⟩:=Ds (w:=aM) (ω:=ω) (τ:=τ) jA ey (fun x ak=>hP _ ak);have eW:∀(j:Nat) (d:cz),ds[j]?=some d->∃z,zs[j]?=some z/\kZ aM (lD ω (K6++r9) none) j d z:=by
       intro j d aG;obtain⟨p,hp,rj⟩:=aY j d aG;obtain⟨z,bl,p'⟩:=ax j p hp;have:=rj z p';rw[dF]at this;exact⟨z,bl,this.asn⟩
      have l3:zs.length=ds.length:=by omega
      refine⟨_,h1,?_⟩;show lB _ _ _ _;generalize bz:(if h:zs.toArray.size=1 then zs.toArray[0] else Value.tuple zs.toArray)=v;unfold lB;split
      ·rename_i ci;obtain⟨z,bl,al⟩:=eW 0 ci rfl;grind
      rename_i c3;have h1:¬zs.toArray.size=1:=by
       intro h;simp at h;rw[l3]at h;obtain⟨d,aG⟩:=List.length_eq_one_iff.1 h;grind
      grind
     cases gI
    rename_i src hint;split at gI
    ·rename_i id rk;split at gI
     ·rename_i ls cY;split at gI
      case h_2=>cases gI
      rename_i e6 gS;split at gI
      ·rename_i bJ;rw[bX]at gI;obtain⟨⟨ds,K6⟩,ey,h⟩:=gI;simp only[bq,aT.im.injEq,true_and]at h;obtain⟨rfl,rfl,rfl⟩:=h;obtain⟨zs,h1,U,ax⟩:=Nt rk;obtain⟨z,bl,b,XP,qa⟩:=ax 0 _ rfl;have p9:zs=[z]:=by
        match zs,U,bl with
        | [z0],_,bl=>grind
       subst p9;refine⟨z,by grind,?_⟩;have yz:=PE (pn:=vr src) (nw:=some id) (i:=49) jA (aU.boxes id ls cY) gS (fun j bg=>by
        simp only[stays,vr,jY,dr]at bg;simp only[CM,jY,dr];cases e:src[j]? with
        | none=>rfl
        | some x=>simp_all) ey (fun y bD=>hP _ bD) (fun b aw=>by simp_all[lD,gO]) (fun b aw=>?_) ⟨b,XP,qa⟩
       ·refine⟨yz.1,fun j x ak=>?_⟩;have aJ:=yz.2 j (iq x 0) (by simp[CM,ak]) (by grind[iq]);have aY:=fx.1 hY _ (fl ak);simp only at aY;split at aY
        ·rename_i d aG;rw[aU.fixed _ (by grind[iq])]at aJ;change (mm as w vs (iq x 0)).2=_ at aJ;rw[PD aG]at aJ;have bx:x<vs.size:=by
          have:=(fy.1 aG).1;have:=ll.2.2.1;omega
         simp_all
        cases aY
       grind[lD,gP,c0.box.injEq]
      cases gI
     cases gI
    cases gI
   obtain⟨v,sD,rp⟩:=hm;have dG:∃v,(results fn cx.tmps).run P aM=.ok v aM/\∃u,Ending.returned v=.returned u/\fO ⟨w,fun b=>A1 b≠.bt,fun _=>(0,undef)⟩ aM/\
     ∃a7:Own,(∀b,b<w.heap.size->A1 b=.bt->a7 b=.bt)/\Dc aM a7/\(∀(i:Nat) (pn:List Bool) (pre post:List D) (y:Value),as[i]?=some (.hJ pn pre post)->vs[i]?=some y->tR aM a7 i pn (gD i) post y/\∀j,stays pn j=true->hF aM y j=hF w y j)/\A' aM a7 vs bK u:=by
    refine⟨v,sD,v,rfl,⟨aU.below.os,aU.below.tape,aU.below.output,aU.below.size,aU.below.block,aU.below.drawn,aU.below.laid,aU.below.free⟩,lD ω (ts++r9) nw,fun b aw av=>?_,fun b aw=>?_,?_,rp⟩
    ·have:ω b=.bt:=by
      cases e:ω b with
      | bt=>rfl
      | box id=>
       rcases (aU.owned b (by simp[e])).1 with h | h
       ·grind
       grind
      | tok t q=>
       rcases (aU.owned b (by simp[e])).1 with h | h
       ·grind
       grind
     grind[lD]
    ·have:ω b≠.bt:=fun e=>aw (by grind[lD])
     exact (aU.owned b this).2
    intro i pn pre post y o5 bD;obtain⟨ls,e6,ds,hint,jW,g1,g0,g2,rfl,g3⟩:=(CL l2).2 i pn pre post o5;simp only[dF]at g1 g2 g0 o5 ⊢;have hi:i<49:=by
     grind
    have c3:nw≠some (h5 i):=fun e=>by grind[h5]
    obtain⟨cc,sj,tA,gG,gH,BC,x'⟩:=aU.boxes _ ls g1;obtain⟨f',Ny,⟨gC,_,_,hyp,_⟩,_⟩:=ll.2.2.2 i _ o5;rw[bD]at Ny;have:=gP Ny;subst this;have uo:=aU.pinned (h5 i) cc (by simp[h5]) gG;simp only[mm]at uo;rw[bG (by grind[h5]),bM (by simp[h5]),show h5 i-cX=i by simp[h5],er,bD,hyp]at uo;have uo:gC=cc:=uo;subst uo;have WX:∀j,stays pn j=true->(qx i 0 pn)[j]?=some (some (iq i j)):=fun j bg=>by
     simp only[stays,jY]at bg;rw[II,dF];grind
    have yz:=PE (pn:=pn) (nw:=nw) (i:=i) jA ⟨gC,sj,tA,gG,gH,BC,x'⟩ g0 (fun j bg=>by
     simp only[stays,jY]at bg;rw[jY,II];grind) g2 (fun y bD=>iC _ (g3 y bD)) (fun b aw=>?_) (fun b aw=>?_) ⟨gC,gG,hyp⟩
    ·refine⟨yz.1,fun j bg=>?_⟩;have WV:j<100:=by
      simp only[Aa,cF,cW,fx]at dX;have aJ:=dX.2 _ (fl o5);simp only[cF,cW]at aJ;grind[stays,oA]
     have aJ:=yz.2 j (iq i j) (WX j bg) (by grind[iq]);rw[aU.fixed _ (by grind[iq])]at aJ;change (mm as w vs (iq i j)).2=_ at aJ;rw[PC o5 WV]at aJ;rw[<-aJ];simp only[er,bD,jZ]
    ·simp only[lD,aw];rw[bG c3,bM ⟨by simp[h5],by grind[h5]⟩];simp[h5]
    grind[lD,c0.box.injEq,h5]
   obtain⟨v,bx,bN⟩:=dG;rcases he with rfl | rfl
   ·exact⟨aU.defers,v,bx,bN⟩
   exact⟨aU.defers,v,bx,bN⟩
  cases eG
 cases eG
def Hl(P:Program)(c:Code)(ntmps:Nat)(iT:List ResultVar)(args:List aL)(hint:aT)(ans:List b4):Option (aT×List aL×List Prop):=
 match run P c (yH args ntmps) ans with
 | some (.ret,st,_,obs)=>(Bu P st iT args hint).map fun r=>(r.1,r.2,obs)
 | some (.normal,st,_,obs)=>(Bu P st iT args hint).map fun r=>(r.1,r.2,obs)
 | _=>none
theorem bT.of{P:Program}{f:FuncId}{fn:Func}{r:aT}(ans:List b4)(obs:List Prop)(b0:P.funcs[f]?=some fn)(aw:fn.body.isSome=true)
  (h:Hl P (me fn) fn.ntmps fn.results.toList args r ans=some (r,args,obs)) (aZ:cA obs):bT P f args r:=by
 obtain⟨c,al⟩:=pQ.1 aw;have yd:me fn=c:=by simp[me,al]
 unfold Hl at h;rw[yd]at h;split at h
 ·rename_i st a lr aH;rw[bX]at h;obtain⟨⟨xg,K4⟩,h1,h⟩:=h;simp only[bq]at h;obtain⟨rfl,rfl,rfl⟩:=h;exact PF b0 al aH aZ (.inl rfl) h1
 ·rename_i st a lr aH;rw[bX]at h;obtain⟨⟨xg,K4⟩,h1,h⟩:=h;simp only[bq]at h;obtain⟨rfl,rfl,rfl⟩:=h;exact PF b0 al aH aZ (.inr rfl) h1
 cases h
end Go.Sx
namespace Go.Sx
open Go.RowKit
mutual
inductive Fit:D->D->Prop
 | refl (d:D):Fit d d
 | nil (k:Nat):Fit (.v (.slice none 0 0)) (.J k [])
 | J (k:Nat) {es ck:List (List D)} (h:lc es ck):Fit (.J k es) (.J k ck)
inductive jt:List D->List D->Prop
 | nil:jt [] []
 | cons {d dn:D} {e e':List D} (h:Fit d dn) (t:jt e e'):jt (d::e) (dn::e')
inductive lc:List (List D)->List (List D)->Prop
 | nil:lc [] []
 | cons {e e':List D} {es ck:List (List D)} (h:jt e e') (t:lc es ck):lc (e::es) (e'::ck)
end
theorem jt.refl:∀e:List D,jt e e
 | []=>.nil
 | d::e=>.cons (.refl d) (jt.refl e)
mutual
theorem Fit.rep{w:World}{ω:Own}:∀{d dn:D},Fit d dn->∀{R:List (Nat×Nat)->c0->Prop} {y:Value},bQ w ω R d y->bQ w ω R dn y
 | _,_,.refl d,_,_,h=>h
 | _,_,.nil k,_,_,h=>by cases h;exact .nil _ _ _
 | _,_,.J k f,_,_,h=>by
  obtain⟨ap,av⟩:=lc.get (w:=w) (ω:=ω) f;cases h with
  | nil=>
   have:=xt ap.symm;subst this;exact .nil _ _ _
  | row R k es b off cap arr ty cL us aw dG al ai hk hu aG=>
   rw[ap];refine .row _ _ _ b off cap arr ty cL us aw dG (ap▸al) ai (fun e he=>?_) (fun i j dn eb=>?_) (fun i j dn eb=>?_)
   ·obtain⟨i,hi⟩:=ow.1 he;obtain⟨bB,h1,U,_⟩:=av i e hi;rw[<-U];exact hk bB (fl h1)
   ·unfold cQ at eb;rw[la]at eb;obtain⟨e,h1,U⟩:=eb;obtain⟨bB,ax,_,aY⟩:=av i e h1;obtain⟨d,bx,_⟩:=aY j dn U;exact hu i j d (by unfold cQ;rw[ax];exact bx)
   unfold cQ at eb;rw[la]at eb;obtain⟨e,h1,U⟩:=eb;obtain⟨bB,ax,_,aY⟩:=av i e h1;obtain⟨d,bx,bN⟩:=aY j dn U;exact bN (aG i j d (by unfold cQ;rw[ax];exact bx))
theorem jt.get{w:World}{ω:Own}:∀{e e':List D},jt e e'->e.length=e'.length/\∀(j:Nat) (dn:D),e'[j]?=some dn->∃d,e[j]?=some d/\∀{R:List (Nat×Nat)->c0->Prop} {y:Value},bQ w ω R d y->bQ w ω R dn y
 | _,_,.nil=>⟨rfl,fun j dn h=>by simp at h⟩
 | _,_,.cons h t=>by
  obtain⟨h1,U⟩:=jt.get (w:=w) (ω:=ω) t;refine⟨by simp[h1],fun j dn aG=>?_⟩;cases j with
  | zero=>
   simp only[kI,aS]at aG;subst aG;exact⟨_,rfl,fun aH=>Fit.rep h aH⟩
  | succ j=>exact U j dn (by simpa using aG)
theorem lc.get{w:World}{ω:Own}:∀{es ck:List (List D)},lc es ck->es.length=ck.length/\∀(i:Nat) (e':List D),ck[i]?=some e'->∃e,es[i]?=some e/\e.length=e'.length/\∀(j:Nat) (dn:D),e'[j]?=some dn->∃d,e[j]?=some d/\∀{R:List (Nat×Nat)->c0->Prop} {y:Value},bQ w ω R d y->bQ w ω R dn y
 | _,_,.nil=>⟨rfl,fun j dn h=>by simp at h⟩
 | _,_,.cons h t=>by
  obtain⟨h1,U⟩:=lc.get (w:=w) (ω:=ω) t;obtain⟨ax,aJ⟩:=jt.get (w:=w) (ω:=ω) h;refine⟨by simp[h1],fun j dn aG=>?_⟩;cases j with
  | zero=>
   simp only[kI,aS]at aG;subst aG;exact⟨_,rfl,ax,aJ⟩
  | succ j=>exact U j dn (by simpa using aG)
end
inductive pT:cz->cz->Prop
 | one {d dn:D} (h:Fit d dn):pT (.one d) (.one dn)
 | agg {e e':List D} (h:jt e e'):pT (.agg e) (.agg e')
theorem pT.refl(a:cz):pT a a:=by
 cases a with
 | one d=>exact .one (.refl d)
 | agg e=>exact .agg (.refl e)
inductive mv:List cz->List cz->Prop
 | nil:mv [] []
 | cons {a cx:cz} {as kk:List cz} (h:pT a cx) (t:mv as kk):mv (a::as) (cx::kk)
theorem mv.get:∀{as kk:List cz},mv as kk->as.length=kk.length/\∀(i:Nat) (cx:cz),kk[i]?=some cx->∃a,as[i]?=some a/\pT a cx
 | _,_,.nil=>⟨rfl,fun j dn h=>by simp at h⟩
 | _,_,.cons h t=>by
  obtain⟨h1,U⟩:=mv.get t;refine⟨by simp[h1],fun j dn aG=>?_⟩;cases j with
  | zero=>
   simp only[kI,aS]at aG;subst aG;exact⟨_,rfl,h⟩
  | succ j=>exact U j dn (by simpa using aG)
variable{w:World}
theorem pT.cell{ω:Own}{r:Nat}{a cx:cz}{y:Value}(h:pT a cx)(al:kZ w ω r a y):kZ w ω r cx y:=by
 cases h with
 | one h=>exact h.rep al
 | agg h=>
  obtain⟨vs,rfl,a8,bg⟩:=al;obtain⟨h1,U⟩:=jt.get (w:=w) (ω:=ω) h;refine⟨vs,rfl,by omega,fun j dn aG=>?_⟩;obtain⟨d,ax,aJ⟩:=U j dn aG;obtain⟨u,aY,bx⟩:=bg j d ax;exact⟨u,aY,aJ bx⟩
variable{rs tu:List cz}
theorem mv.all{ω:Own}{v:Value}(h:mv rs tu)(aH:lB w ω rs v):lB w ω tu v:=by
 cases h with
 | nil=>exact aH
 | cons h t=>
  cases t with
  | nil=>exact h.cell aH
  | cons U t2=>
   obtain⟨vs,e,a8,bz⟩:=aH;obtain⟨ax,aJ⟩:=mv.get (.cons h (.cons U t2));refine⟨vs,e,by omega,fun i cx ah=>?_⟩;obtain⟨a,aY,bx⟩:=aJ i cx ah;obtain⟨y,bN,db⟩:=bz i a aY;exact⟨y,bN,bx.cell db⟩
variable{P:Program}{f:FuncId}
theorem bT.fit{args:List aL}(h:bT P f args (.vals rs))(k:mv rs tu):bT P f args (.vals tu):=by
 intro w vs ω aH kp o8;refine (h w vs ω aH kp o8).mono ?_;rintro e aM ⟨v,rfl,aw,a7,h1,U,ax,aJ⟩;exact⟨v,rfl,aw,a7,h1,U,ax,k.all aJ⟩
theorem hA.fit{args:List cz}(h:hA P f args rs)(k:mv rs tu):hA P f args tu:=by
 intro w vs rn aH;refine (h w vs rn aH).mono ?_;rintro e aM ⟨v,rfl,aw,ω,h1,U,ax⟩;exact⟨v,rfl,aw,ω,h1,U,k.all ax⟩
theorem pT.arg{a cx:cz}{y:Value}(h:pT a cx)(al:tK w a y):tK w cx y:=by
 cases h with
 | one h=>exact h.rep al
 | agg h=>
  obtain⟨vs,rfl,a8,bg⟩:=al;obtain⟨h1,U⟩:=jt.get (w:=w) (ω:=fun _=>.bt) h;refine⟨vs,rfl,by omega,fun j dn aG=>?_⟩;obtain⟨d,ax,aJ⟩:=U j dn aG;obtain⟨u,aY,bx⟩:=bg j d ax;exact⟨u,aY,aJ bx⟩
theorem hA.args{as kk:List cz}(h:hA P f kk rs)(k:mv as kk):hA P f as rs:=by
 intro w vs rn aH;obtain⟨h1,U⟩:=k.get;refine h w vs rn ⟨by rw[aH.1,h1],fun i cx ah=>?_⟩;obtain⟨a,ax,aJ⟩:=U i cx ah;obtain⟨v,aY,bx⟩:=aH.2 i a ax;exact⟨v,aY,aJ.arg bx⟩
