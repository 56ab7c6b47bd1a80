import Derived.Test.YtdchjefneblpgaaGreatR15
set_option linter.unusedVariables false
set_option linter.unusedSimpArgs false
namespace Go.Sx
open Go.RowKit
def h5(i:Nat):Nat:=cX+i
def iq(i j:Nat):Nat:=cX+100+(100*i+j)
def aL.aF(i:Nat):aL->bm
 | .ro (.one (.J k es))=>.one (.c' (iq i 0) k es)
 | .ro a=>a.arg
 | .hJ _ _ _=>.one (.ptr (h5 i) 0)
 | .fn g cG=>.one (.fR g (cG.map h5))
def D.N0(t:Nat):D->az
 | .J k es=>.c' t k es
 | _=>.ck
def rP(i:Nat)(pn:List Bool):Nat->List D->List az
 | _,[]=>[]
 | j,d::ds=>(if stays pn j then d.N0 (iq i j) else d.oj (pJ i j))::rP i pn (j+1) ds
theorem PA(i:Nat)(pn:List Bool):∀(ds:List D) (j x:Nat),(rP i pn j ds)[x]?=(ds[x]?).map fun d=>if stays pn (j+x) then d.N0 (iq i (j+x)) else d.oj (pJ i (j+x))
 | [],_,_=>by simp[rP]
 | d::ds,j,0=>by simp[rP]
 | d::ds,j,x+1=>by
  simp only[rP,nE,PA i pn ds (j+1) x];rw[show j+1+x=j+(x+1) by omega]
theorem PB(i:Nat)(pn:List Bool):∀(ds:List D) (j:Nat),(rP i pn j ds).length=ds.length
 | [],_=>rfl
 | d::ds,j=>by simp[rP,PB i pn ds (j+1)]
def tv:Nat->List aL->List aE
 | _,[]=>[]
 | i,a::as=>.aF (a.aF i)::tv (i+1) as
def wY:Nat->List aL->List (Nat×List az)
 | _,[]=>[]
 | i,.hJ pn pre _::as=>(h5 i,rP i pn 0 pre)::wY (i+1) as
 | i,.ro _::as=>wY (i+1) as
 | i,.fn _ _::as=>wY (i+1) as
def yJ(args:List aL)(ntmps:Nat):aD:=⟨(tv 0 args).take (r3 args)++List.replicate (ntmps-r3 args) .ck,wY 0 args⟩
theorem PC:∀(as:List aL) (i x:Nat),(tv i as)[x]?=(as[x]?).map fun a=>.aF (a.aF (i+x))
 | [],i,x=>by simp[tv]
 | a::as,i,0=>by simp[tv]
 | a::as,i,x+1=>by
  simp only[tv,nE,PC as (i+1) x];rw[show i+1+x=i+(x+1) by omega]
theorem II:∀(as:List aL) (i:Nat),(tv i as).length=as.length
 | [],_=>rfl
 | a::as,i=>by simp[tv,II as (i+1)]
theorem CK{id:Nat}{ls:List az}:∀{as:List aL} {i:Nat},df id (wY i as)=some ls->∃x pn pre post,as[x]?=some (.hJ pn pre post)/\id=h5 (i+x)/\ls=rP (i+x) pn 0 pre
 | [],i,h=>by cases h
 | .ro _::as,i,h=>by
  obtain⟨x,pn,pre,post,h1,U,ax⟩:=CK (as:=as) (i:=i+1) h;exact⟨x+1,pn,pre,post,by simpa using h1,by rw[U,show i+1+x=i+(x+1) by omega],by rw[ax,show i+1+x=i+(x+1) by omega]⟩
 | .fn _ _::as,i,h=>by
  obtain⟨x,pn,pre,post,h1,U,ax⟩:=CK (as:=as) (i:=i+1) h;exact⟨x+1,pn,pre,post,by simpa using h1,by rw[U,show i+1+x=i+(x+1) by omega],by rw[ax,show i+1+x=i+(x+1) by omega]⟩
 | .hJ pn pre post::as,i,h=>by
  simp only[wY,df]at h;split at h
  ·rename_i e;exact⟨0,pn,pre,post,rfl,e.symm,(gQ h).symm⟩
  obtain⟨x,Yi,pre,post,h1,U,ax⟩:=CK (as:=as) (i:=i+1) h;exact⟨x+1,Yi,pre,post,by grind,by grind,by grind⟩
def Ac(args:List aL):Bool:=decide (args.length<49)&&args.all fun
 | .ro _=>true
 | .hJ pn pre post=>decide (pn.length<100)&&decide (pre.length<100)&&decide (post.length<100)
 | .fn _ cG=>cG.all fun k=>match args[k]? with | some (.hJ _ _ _)=>true | _=>false
def Bi:Value->Nat
 | .pointer (some p)=>p.block
 | _=>0
def mq(args:List aL)(w:World)(vs:Array Value)(t:Nat):Nat×Value:=
 if cX+100<=t then
  match args[(t-(cX+100)) / 100]? with
  | some (.hJ _ pre _)=>(((pre[(t-(cX+100)) % 100]?).map D.r7).getD 0,hF w (vs.getD ((t-(cX+100)) / 100) undef) ((t-(cX+100)) % 100))
  | some (.ro (.one d))=>(d.r7,vs.getD ((t-(cX+100)) / 100) undef)
  | _=>(0,undef)
 else if cX<=t then (Bi (vs.getD (t-cX) undef),undef) else
 match args[(t-900000000) / 100]? with
 | some (.hJ _ pre _)=>(((pre[(t-900000000) % 100]?).map D.r7).getD 0,hF w (vs.getD ((t-900000000) / 100) undef) ((t-900000000) % 100))
 | _=>(0,undef)
def rE(ω:Own):Own:=fun b=>match ω b with | .box i=>.box (h5 i) | o=>o
variable{ω:Own}{b:Nat}
theorem akk{t:Nat}{q:List (Nat×Nat)}(h:ω b=.tok t q):rE ω b=.tok t q:=by grind[rE]
theorem PD:rE ω b=.bt<->ω b=.bt:=by
 grind[rE]
variable{i:Nat}
theorem CL:rE ω b=.box (h5 i)<->ω b=.box i:=by
 grind[rE,h5,c0.box.injEq]
variable{args:List aL}{w:World}{vs:Array Value}
theorem PE{j:Nat}{pn:List Bool}{pre post:List D}(h:args[i]?=some (.hJ pn pre post))(bg:j<100):
  mq args w vs (iq i j)=(((pre[j]?).map D.r7).getD 0,hF w (vs.getD i undef) j):=by
 have e1:(iq i j-(cX+100)) / 100=i:=by grind[iq]
 have e2:(iq i j-(cX+100)) % 100=j:=by grind[iq]
 unfold mq;rw[bM (by grind[iq]),e1,e2,h]
theorem PF{d:D}(h:args[i]?=some (.ro (.one d))):mq args w vs (iq i 0)=(d.r7,vs.getD i undef):=by
 simp_all[iq,cX,mq,bM]
theorem akl(dX:Ac args=true)(h:EY w ω args vs)(kp:EU args vs)(o8:Tidy w ω)(ntmps:Nat):
  Rel ⟨w,fun b=>ω b≠.bt,mq args w vs⟩ (yJ args ntmps) { tmps:=vs.extract 0 (r3 args)++Array.replicate (ntmps-(vs.extract 0 (r3 args)).size) undef,defers:=[] } w:=by
 have Gb:r3 args<=args.length:=Nat.sub_le _ _;obtain⟨gT,cY,a8,ag⟩:=h;simp only[Ac,cF,cU,fx]at dX;have vZ:∀{d:D} {y:Value},bQ w ω Tag.free.R d y->bQ w (rE ω) Tag.free.R d y:=fun h=>h.frame fun b q _ aK=>⟨PD.2 aK,rfl⟩
 have dN:(vs.extract 0 (r3 args)).size=r3 args:=by grind
 refine⟨rE ω,mq args w vs,rfl,by grind[yJ,II],fO.start o8,fun b aw=>?_,fun _ _=>rfl,?_,?_,fun id ls ap=>?_⟩
 ·have:ω b≠.bt:=fun e=>aw (PD.2 e)
  exact⟨.inr this,gT b this⟩
 ·intro id b hi aw;simp only[rE]at aw;cases e:ω b with
  | bt=>grind
  | tok t q=>grind
  | box i=>
   rw[e]at aw;simp only[c0.box.injEq]at aw;subst aw;obtain⟨pn,pre,post,h1⟩:=cY b i e;obtain⟨v,bz,⟨gD,arr,ty,rfl,U,ax,_⟩,_⟩:=ag i _ h1;have:=ax b e;subst this;have yj:i<49:=by
    grind
   simp only[mq];rw[bG (by grind[h5]),bM hi,show h5 i-cX=i by simp[h5],ep,bz];rfl
 ·intro i p hp;simp only[yJ]at hp;rw[ow,tH,II,Nat.min_eq_left Gb]at hp;split at hp
  ·rename_i hi;rw[jY,bM hi,PC,bX]at hp;obtain⟨iA,o5,rfl⟩:=hp;rw[dF];obtain⟨v,bz,cJ⟩:=ag i iA o5;have nX:i<vs.size:=by omega
   refine⟨v,by rw[iD,bM (by grind),Array.getElem?_extract,bM (by omega),dF,bz],?_⟩;cases iA with
   | fn g cG=>
    have h1:=kp i g cG o5;rw[bz]at h1;cases h1;refine⟨cG.map fun k=>Bi (vs.getD k undef),?_,by simp,fun j id bg=>?_⟩
    ·congr 2
     rw[List.map_map];refine kH fun k hk=>?_
     have U:=dX.2 _ (fl o5);have ax:=fx.1 U k hk;split at ax
     ·rename_i pn pre post rf;obtain⟨v2,rp,⟨fQ,_,_,rfl,_⟩,_⟩:=ag k _ rf;simp[ep,rp,ptrTo,Bi]
     cases ax
    rw[dr,bX]at bg;obtain⟨k,hk,rfl⟩:=bg;have U:=dX.2 _ (fl o5);have ax:=fx.1 U k (fl hk);split at ax
    ·rename_i pn pre post rf;obtain⟨v2,rp,⟨fQ,_,_,rfl,aX,_⟩,_⟩:=ag k _ rf;refine⟨fQ,?_,CL.2 aX⟩;simp[hk,ep,rp,ptrTo,Bi]
    cases ax
   | hJ pn pre post=>
    obtain⟨⟨b,arr,ty,rfl,U,_⟩,_⟩:=cJ;exact⟨b,CL.2 U,rfl⟩
   | ro cj=>
    cases cj with
    | one d=>
     cases d with
     | J k es=>
      refine⟨vZ cJ,fun _=>?_⟩;rw[PF o5,ep,bz];rfl
     | v x=>exact D.du (τ:=mq args w vs) (p:=(0,0)) (t:=.free) (vZ cJ)
     | ptr ds=>exact D.du (τ:=mq args w vs) (p:=(0,0)) (t:=.free) (vZ cJ)
     | cl g cs=>exact D.du (τ:=mq args w vs) (p:=(0,0)) (t:=.free) (vZ cJ)
    | agg ds=>
     obtain⟨us,rfl,hlen,nV⟩:=cJ;refine⟨us,rfl,by grind,fun j l ap=>?_⟩;rw[dr,bX]at ap;obtain⟨d,aG,rfl⟩:=ap;obtain⟨u,h1,U⟩:=nV j d aG;exact⟨u,h1,D.du (p:=(0,0)) (t:=.free) (vZ U)⟩
  rename_i hi;rw[A1]at hp;split at hp
  ·rename_i bJ;simp only[aS]at hp;subst hp;refine⟨undef,?_,aa⟩;grind
  cases hp
 obtain⟨i,pn,pre,post,h1,rfl,rfl⟩:=CK ap;rw[dF];obtain⟨v,bz,⟨b,arr,ty,rfl,U,ax,aI,aX,bx⟩,bN⟩:=ag i _ h1;refine⟨b,arr,ty,CL.2 U,fun da eh=>ax da (CL.1 eh),aI,by grind[PB],fun j l ap=>?_⟩;rw[PA,bX]at ap;obtain⟨d,aG,rfl⟩:=ap;rw[dF];obtain⟨u,hu,aH⟩:=bx j d aG;have bg:j<100:=by
  have e1:=dX.2 _ (fl h1);grind
 refine⟨u,hu,?_⟩;cases eP:stays pn j with
 | true=>
  rw[bM rfl];have db:=bN j d aG eP;have e:hF w (ptrTo b) j=u:=by simp_all[hF,ptrTo]
  rw[e]at db;cases d with
  | J k es=>
   refine⟨vZ db,fun _=>?_⟩;rw[PE h1 bg,ep,bz];simp only[jM,e,aG,qL];rfl
  | _=>exact trivial
 | false=>
 rw[bG (by simp)];replace aH:=aH eP;cases d with
 | v x=>
  have e:u=x:=by cases aH;rfl
  subst e;unfold D.oj;split
  ·rename_i h;cases h;exact rfl
  ·rename_i h;cases h;exact rfl
  ·grind
  ·exact trivial
  grind
 | ptr ds=>exact trivial
 | cl g br=>exact trivial
 | J k es=>
  refine⟨aH.frame fun c q _ aK=>⟨akk aK,rfl⟩,?_⟩;have e1:(pJ i j-900000000) / 100=i:=by grind[pJ]
  have e2:(pJ i j-900000000) % 100=j:=by grind[pJ]
  have hi:i<49:=by
   grind
  simp only[Tag.dJ,mq];rw[bG (by grind[pJ,cX]),bG (by grind[pJ,cX])];simp only[e1,e2,h1,aG];simp[hF,ptrTo,aI,ep,bz,hu,D.r7]
def oq:List (Option Nat)->List az->Option (List az)
 | [],ls=>some ls
 | some t::ts,.c' s _ _::ls=>if s=t then (oq ts ls).map fun r=>.v (.bool true)::r else none
 | none::ts,l::ls=>(oq ts ls).map fun r=>l::r
 | none::ts,[]=>oq ts []
 | some _::_,_=>none
theorem CM:∀{ts:List (Option Nat)} {ls e6:List az},oq ts ls=some e6->e6.length=ls.length/\(∀(j t:Nat),ts[j]?=some (some t)->∃k es,ls[j]?=some (.c' t k es))/\∀j,ts.getD j none=none->e6[j]?=ls[j]?
 | [],ls,e6,h=>by
  simp_all[oq,aS]
 | some t::ts,.c' s k es::ls,e6,h=>by
  simp only[oq]at h;split at h
  ·rename_i e;subst e;rw[bX]at h;obtain⟨r,h1,rfl⟩:=h;obtain⟨g1,g2,g3⟩:=CM h1;grind
  cases h
 | none::ts,l::ls,e6,h=>by
  simp only[oq,bX]at h;obtain⟨r,h1,rfl⟩:=h;obtain⟨g1,g2,g3⟩:=CM h1;grind
 | none::ts,[],e6,h=>by
  simp only[oq]at h;obtain⟨g1,g2,g3⟩:=CM h;refine⟨g1,fun j t bg=>?_,fun j bg=>?_⟩
  ·cases j with
   | zero=>simp at bg
   | succ j=>obtain⟨k,es,h⟩:=g2 j t (by simpa using bg);simp at h
  have:e6=[]:=xu g1;rw[this]
def q2:List (Option Nat)->List az->List D->List D
 | some _::ts,.c' _ k es::ls,_::ds=>.J k es::q2 ts ls ds
 | _::ts,_::ls,d::ds=>d::q2 ts ls ds
 | _,_,ds=>ds
theorem akm:∀(ts:List (Option Nat)) (ls:List az) (ds:List D),(q2 ts ls ds).length=ds.length/\∀j,ts.getD j none=none->(q2 ts ls ds)[j]?=ds[j]?:=by
 intro ts ls ds
 fun_induction q2 ts ls ds with
 | case1 t ts s k es ls d ds eH=>
  grind
 | case2 x ts l ls d ds _ eH=>
  grind
 | case3=>grind
def qx(i:Nat):Nat->List Bool->List (Option Nat)
 | _,[]=>[]
 | j,b::r=>(if b then some (iq i j) else none)::qx i (j+1) r
theorem IJ(i:Nat):∀(pn:List Bool) (j x:Nat),(qx i j pn)[x]?=(pn[x]?).map fun b=>if b then some (iq i (j+x)) else none
 | [],_,_=>by simp[qx]
 | b::r,j,0=>by simp[qx]
 | b::r,j,x+1=>by
  simp only[qx,nE,IJ i r (j+1) x];rw[show j+1+x=j+(x+1) by omega]
def rQ(st:aD):Nat->List aL->Option (List aL×hj)
 | _,[]=>some ([],[])
 | i,.ro a::as=>(rQ st (i+1) as).map fun r=>(.ro a::r.1,r.2)
 | i,.fn g cG::as=>(rQ st (i+1) as).map fun r=>(.fn g cG::r.1,r.2)
 | i,.hJ pn pre post::as=>
  match df (h5 i) st.boxes with
  | some ls=>
   match oq (qx i 0 pn) ls with
   | some e6=>
    match pK (gE i 0) e6 post,rQ st (i+1) as with
    | some (ds,ts),some r=>some (.hJ pn pre (q2 (qx i 0 pn) ls ds)::r.1,ts++r.2)
    | _,_=>none
   | none=>none
  | none=>none
theorem CN{st:aD}:∀{as kk:List aL} {i:Nat} {ts:hj},rQ st i as=some (kk,ts)->kk.length=as.length/\∀(x:Nat) (pn:List Bool) (pre post:List D),kk[x]?=some (.hJ pn pre post)->
  ∃ls e6 ds hint jX,df (h5 (i+x)) st.boxes=some ls/\oq (qx (i+x) 0 pn) ls=some e6/\pK (gE (i+x) 0) e6 hint=some (ds,jX)/\post=q2 (qx (i+x) 0 pn) ls ds/\∀y∈jX,y∈ts
 | [],kk,i,ts,h=>by
  simp_all[rQ,aS,bq]
 | .ro a::as,kk,i,ts,h=>by
  simp only[rQ,bX]at h;obtain⟨⟨bK,b2⟩,h1,h⟩:=h;simp only[bq]at h;obtain⟨rfl,rfl⟩:=h;obtain⟨c4,b8⟩:=CN h1;refine⟨by simp[c4],fun x pn pre post ak=>?_⟩;cases x with
  | zero=>simp at ak
  | succ x=>
   have:=b8 x pn pre post (by simpa using ak);rwa[show i+1+x=i+(x+1) by omega]at this
 | .fn g cG::as,kk,i,ts,h=>by
  simp only[rQ,bX]at h;obtain⟨⟨bK,b2⟩,h1,h⟩:=h;simp only[bq]at h;obtain⟨rfl,rfl⟩:=h;obtain⟨c4,b8⟩:=CN h1;refine⟨by simp[c4],fun x pn pre post ak=>?_⟩;cases x with
  | zero=>simp at ak
  | succ x=>
   have:=b8 x pn pre post (by simpa using ak);rwa[show i+1+x=i+(x+1) by omega]at this
 | .hJ pn pre post::as,kk,i,ts,h=>by
  simp only[rQ]at h;split at h
  ·rename_i ls e1;split at h
   ·rename_i e6 bB;split at h
    ·rename_i ds K7 r e2 cb;simp only[aS,bq]at h;obtain⟨rfl,rfl⟩:=h;obtain⟨c4,b8⟩:=CN cb;grind
    cases h
   cases h
  cases h
def CO(src:List (Option Nat)):List (Option Nat):=src.map fun x=>x.map fun a=>iq a 0
def asg(args:List aL):aT->Bool
 | .vals _=>true
 | .im src _=>src.all fun
  | some a=>match args[a]? with | some (.ro (.one _))=>true | _=>false
  | none=>true
def K2(P:Program)(st:aD)(iT:List ResultVar):aT->Option (aT×hj×Option Nat)
 | .vals hint=>
  match iT.mapM (py P st) with
  | some cn=>(qF 0 cn hint).map fun r=>(.vals r.1,r.2,none)
  | none=>none
 | .im src hint=>
  match iT.mapM (py P st) with
  | some [.aF (.one (.ptr id 0))]=>
   match df id st.boxes with
   | some ls=>
    match oq (CO src) ls with
    | some e6=>if id<cX then (pK (gE 49 0) e6 hint).map fun r=>(.im src (q2 (CO src) ls r.1),r.2,some id) else none
    | none=>none
   | none=>none
  | _=>none
def Bw(P:Program)(st:aD)(iT:List ResultVar)(args:List aL)(hint:aT):Option (aT×List aL):=
 match K2 P st iT hint,rQ st 0 args with
 | some (r,ts,_),some (as,r9)=>if Ac args&&asg args r&&Ds (ts++r9) then some (r,as) else none
 | _,_=>none
def lG(ω:Own)(ts:hj)(nw:Option Nat):Own:=fun b=>
 match ω b with
 | .tok t q=>match ts.at t with | some n=>.tok n q | none=>.bt
 | .box id=>if nw=some id then .box 49 else if cX<=id/\id<cX+49 then .box (id-cX) else .bt
 | .bt=>.bt
variable{ts:hj}
theorem IK{nw:Option Nat}{n:Nat}{q:List (Nat×Nat)}(h:hG ω ts b=.tok n q):lG ω ts nw b=.tok n q:=by
 grind[hG,lG,id]
theorem k2.asr{nw:Option Nat}{r:Nat}{d:cz}{y:Value}(h:k2 w (hG ω ts) r d y):k2 w (lG ω ts nw) r d y:=by
 cases d with
 | one d=>exact bQ.frame h fun b q _ aK=>⟨IK aK,rfl⟩
 | agg ds=>
  obtain⟨vs,e,a8,bg⟩:=h;exact⟨vs,e,a8,fun j d aG=>by
   obtain⟨u,hu,aH⟩:=bg j d aG;exact⟨u,hu,aH.frame fun b q _ aK=>⟨IK aK,rfl⟩⟩⟩
theorem PG{τ:Nat->Nat×Value}{nw:Option Nat}{id i:Nat}{ls e6:List az}{hint ds:List D}{jX:hj}{cG:List (Option Nat)}{pn:List Bool}(jC:∀t n,(t,n)∈ts->ts.at t=some n)
  (aw:sd w ω τ id ls) (gT:oq cG ls=some e6) (W3:∀j,stays pn j=false->cG.getD j none=none) (aH:pK (gE i 0) e6 hint=some (ds,jX)) (ih:∀y∈jX,y∈ts) (gh:∀b,ω b=.box id->lG ω ts nw b=.box i) (XI:∀b,lG ω ts nw b=.box i->ω b=.box id):
  ∀{y:Value},(∃b,ω b=.box id/\y=ptrTo b)->tT w (lG ω ts nw) i pn (gE i) (q2 cG ls ds) y/\∀(j t:Nat),cG[j]?=some (some t)->cX<=t->(τ t).2=hF w y j:=by
 rintro y ⟨da,eh,rfl⟩;obtain⟨b,arr,ty,h1,U,ax,aI⟩:=aw;have:=U da eh;subst this;obtain⟨aX,bx⟩:=IA (w:=w) (ω:=ω) (τ:=τ) jC aH ih;obtain⟨nA,oo,vw⟩:=CM gT;obtain⟨f1,f2⟩:=akm cG ls ds;refine⟨⟨da,arr,ty,rfl,gh da eh,fun c al=>U c (XI c al),ax,by have:=aI.1;omega,fun j d aG=>?_⟩,fun j t bg bU=>?_⟩
 ·have jR:j<ls.length:=by
   grind
  obtain⟨u,hu,ai⟩:=aI.2 j _ (iZ jR);refine⟨u,hu,fun eP=>?_⟩;have hk:=W3 j eP;rw[f2 j hk]at aG;obtain⟨l,ap,cR⟩:=bx j d aG;rw[vw j hk,iZ jR]at ap;cases ap;have:=cR u ai;rw[show gE i 0+j=gE i j by grind[gE]]at this;exact this.frame fun b q _ aK=>⟨IK aK,rfl⟩
 obtain⟨k,es,ap⟩:=oo j t bg;obtain⟨u,hu,ai⟩:=aI.2 j _ ap;rw[ai.2 bU];simp[hF,ptrTo,ax,ep,hu]
theorem PH{P:Program}{f:FuncId}{fn:Func}{c:Code}{r:aT}{ans b':List b4}{obs:List Prop}{e:gR}{st:aD}(b0:P.funcs[f]?=some fn)(aw:fn.body=some c)
  (e5:run P c (yJ args fn.ntmps) ans=some (e,st,b',obs)) (aZ:cA obs) (he:e=.ret\/e=.normal) (eG:Bw P st fn.results.toList args r=some (r,args)):bT P f args r:=by
 intro w vs A3 lo FQ o8;unfold Bw at eG;split at eG
 ·rename_i bK ts nw as r9 gJ l5;split at eG
  ·rename_i cJ;simp only[aS,bq]at eG;obtain⟨rfl,rfl⟩:=eG;rw[cF,cF]at cJ;obtain⟨⟨dX,hY⟩,cJ⟩:=cJ;have jC:∀t n,(t,n)∈ts++r9->hj.at t (ts++r9)=some n:=fun t n h=>Dt cJ h
   refine calls_of_wp b0 aw (Code.wp_mono (fun e' cx aM hp=>?_) (mg c e5 aZ _ _ w (akl dX lo FQ o8 fn.ntmps)));obtain⟨rfl,ω,τ,aU⟩:=hp;have at2:bK=bK/\as.length<49:=by
    simp_all[Ac,cF,cU]
   have BQ:∀id,nw=some id->id<cX:=by
    intro id e;subst e;unfold K2 at gJ;split at gJ
    ·grind[bX,bq,absurd]
    grind[bX,bq,aS]
   have hm:∃v,(results fn cx.tmps).run P aM=.ok v aM/\Bb aM (lG ω (ts++r9) nw) vs bK v:=by
    have Nv:∀{cn:List aE},fn.results.toList.mapM (py P st)=some cn->∃zs:List Value,(results fn cx.tmps).run P aM=.ok (if h:zs.toArray.size=1 then zs.toArray[0] else .tuple zs.toArray) aM/\zs.length=cn.length/\∀(i:Nat) (p:aE),cn[i]?=some p->∃z,zs[i]?=some z/\cE (Sat aM ω τ) p z:=by
     intro cn rk;obtain⟨zs,h1,U,ax⟩:=CF aU rk;have hm:=Cu (P:=P) _ fn.results aM _ h1;refine⟨zs,?_,U,ax⟩;rw[IB,Sem.run_bind,hm];rfl
    unfold K2 at gJ;split at gJ
    ·rename_i hint;split at gJ
     ·rename_i cn rk;rw[bX]at gJ;obtain⟨⟨ds,K7⟩,ey,h⟩:=gJ;simp only[bq,aT.vals.injEq]at h;obtain⟨rfl,rfl,rfl⟩:=h;obtain⟨zs,h1,U,ax⟩:=Nv rk;obtain⟨aI,aX⟩:=Du (w:=aM) (ω:=ω) (τ:=τ) jC ey (fun x ak=>hQ _ ak);have eW:∀(j:Nat) (d:cz),ds[j]?=some d->∃z,zs[j]?=some z/\k2 aM (lG ω (K7++r9) none) j d z:=by
       intro j d aG;obtain⟨p,hp,rj⟩:=aX j d aG;obtain⟨z,bk,p'⟩:=ax j p hp;have:=rj z p';rw[dF]at this;exact⟨z,bk,this.asr⟩
      have l6:zs.length=ds.length:=by omega
      refine⟨_,h1,?_⟩;show lE _ _ _ _;generalize bz:(if h:zs.toArray.size=1 then zs.toArray[0] else Value.tuple zs.toArray)=v;unfold lE;split
      ·rename_i cj;obtain⟨z,bk,al⟩:=eW 0 cj rfl;grind
      rename_i c3;have h1:¬zs.toArray.size=1:=by
       intro h;simp at h;rw[l6]at h;obtain⟨d,aG⟩:=List.length_eq_one_iff.1 h;grind
      grind
     cases gJ
    rename_i src hint;split at gJ
    ·rename_i id rk;split at gJ
     ·rename_i ls cY;split at gJ
      case h_2=>cases gJ
      rename_i e6 gT;split at gJ
      ·rename_i bJ;rw[bX]at gJ;obtain⟨⟨ds,K7⟩,ey,h⟩:=gJ;simp only[bq,aT.im.injEq,true_and]at h;obtain⟨rfl,rfl,rfl⟩:=h;obtain⟨zs,h1,U,ax⟩:=Nv rk;obtain⟨z,bk,b,XT,qa⟩:=ax 0 _ rfl;have p9:zs=[z]:=by
        match zs,U,bk with
        | [z0],_,bk=>grind
       subst p9;refine⟨z,by grind,?_⟩;have yB:=PG (pn:=vu src) (nw:=some id) (i:=49) jC (aU.boxes id ls cY) gT (fun j bg=>by
        simp only[stays,vu,jZ,dr]at bg;simp only[CO,jZ,dr];cases e:src[j]? with
        | none=>rfl
        | some x=>simp_all) ey (fun y bD=>hQ _ bD) (fun b aw=>by simp_all[lG,gC]) (fun b aw=>?_) ⟨b,XT,qa⟩
       ·refine⟨yB.1,fun j x ak=>?_⟩;have aI:=yB.2 j (iq x 0) (by simp[CO,ak]) (by grind[iq]);have aX:=fx.1 hY _ (fl ak);simp only at aX;split at aX
        ·rename_i d aG;rw[aU.fixed _ (by grind[iq])]at aI;change (mq as w vs (iq x 0)).2=_ at aI;rw[PF aG]at aI;have bx:x<vs.size:=by
          have:=(fy.1 aG).1;have:=lo.2.2.1;omega
         simp_all
        cases aX
       grind[lG,gQ,c0.box.injEq]
      cases gJ
     cases gJ
    cases gJ
   obtain⟨v,sD,rp⟩:=hm;have dG:∃v,(results fn cx.tmps).run P aM=.ok v aM/\∃u,Ending.returned v=.returned u/\fO ⟨w,fun b=>A3 b≠.bt,fun _=>(0,undef)⟩ aM/\
     ∃a7:Own,(∀b,b<w.heap.size->A3 b=.bt->a7 b=.bt)/\De aM a7/\(∀(i:Nat) (pn:List Bool) (pre post:List D) (y:Value),as[i]?=some (.hJ pn pre post)->vs[i]?=some y->tT aM a7 i pn (gE i) post y/\∀j,stays pn j=true->hF aM y j=hF w y j)/\Bb aM a7 vs bK u:=by
    refine⟨v,sD,v,rfl,⟨aU.below.os,aU.below.tape,aU.below.output,aU.below.size,aU.below.block,aU.below.drawn,aU.below.laid,aU.below.free⟩,lG ω (ts++r9) nw,fun b aw av=>?_,fun b aw=>?_,?_,rp⟩
    ·have:ω b=.bt:=by
      cases e:ω b with
      | bt=>rfl
      | box id=>
       rcases (aU.owned b (by simp[e])).1 with h | h
       ·grind
       grind
      | tok t q=>
       rcases (aU.owned b (by simp[e])).1 with h | h
       ·grind
       grind
     grind[lG]
    ·have:ω b≠.bt:=fun e=>aw (by grind[lG])
     exact (aU.owned b this).2
    intro i pn pre post y o5 bD;obtain⟨ls,e6,ds,hint,jX,g1,g0,g2,rfl,g3⟩:=(CN l5).2 i pn pre post o5;simp only[dF]at g1 g2 g0 o5 ⊢;have hi:i<49:=by
     grind
    have c3:nw≠some (h5 i):=fun e=>by grind[h5]
    obtain⟨cc,sj,tC,gH,gI,BE,yb⟩:=aU.boxes _ ls g1;obtain⟨f',NA,⟨gD,_,_,hyp,_⟩,_⟩:=lo.2.2.2 i _ o5;rw[bD]at NA;have:=gQ NA;subst this;have ur:=aU.pinned (h5 i) cc (by simp[h5]) gH;simp only[mq]at ur;rw[bG (by grind[h5]),bM (by simp[h5]),show h5 i-cX=i by simp[h5],ep,bD,hyp]at ur;have ur:gD=cc:=ur;subst ur;have W1:∀j,stays pn j=true->(qx i 0 pn)[j]?=some (some (iq i j)):=fun j bg=>by
     simp only[stays,jZ]at bg;rw[IJ,dF];grind
    have yB:=PG (pn:=pn) (nw:=nw) (i:=i) jC ⟨gD,sj,tC,gH,gI,BE,yb⟩ g0 (fun j bg=>by
     simp only[stays,jZ]at bg;rw[jZ,IJ];grind) g2 (fun y bD=>iC _ (g3 y bD)) (fun b aw=>?_) (fun b aw=>?_) ⟨gD,gH,hyp⟩
    ·refine⟨yB.1,fun j bg=>?_⟩;have WZ:j<100:=by
      simp only[Ac,cF,cU,fx]at dX;have aI:=dX.2 _ (fl o5);simp only[cF,cU]at aI;grind[stays,oB]
     have aI:=yB.2 j (iq i j) (W1 j bg) (by grind[iq]);rw[aU.fixed _ (by grind[iq])]at aI;change (mq as w vs (iq i j)).2=_ at aI;rw[PE o5 WZ]at aI;rw[<-aI];simp only[ep,bD,jM]
    ·simp only[lG,aw];rw[bG c3,bM ⟨by simp[h5],by grind[h5]⟩];simp[h5]
    grind[lG,c0.box.injEq,h5]
   obtain⟨v,bx,bN⟩:=dG;rcases he with rfl | rfl
   ·exact⟨aU.defers,v,bx,bN⟩
   exact⟨aU.defers,v,bx,bN⟩
  cases eG
 cases eG
def Hm(P:Program)(c:Code)(ntmps:Nat)(iT:List ResultVar)(args:List aL)(hint:aT)(ans:List b4):Option (aT×List aL×List Prop):=
 match run P c (yJ args ntmps) ans with
 | some (.ret,st,_,obs)=>(Bw P st iT args hint).map fun r=>(r.1,r.2,obs)
 | some (.normal,st,_,obs)=>(Bw P st iT args hint).map fun r=>(r.1,r.2,obs)
 | _=>none
theorem bT.of{P:Program}{f:FuncId}{fn:Func}{r:aT}(ans:List b4)(obs:List Prop)(b0:P.funcs[f]?=some fn)(aw:fn.body.isSome=true)
  (h:Hm P (mh fn) fn.ntmps fn.results.toList args r ans=some (r,args,obs)) (aZ:cA obs):bT P f args r:=by
 obtain⟨c,al⟩:=pQ.1 aw;have yf:mh fn=c:=by simp[mh,al]
 unfold Hm at h;rw[yf]at h;split at h
 ·rename_i st a lx aH;rw[bX]at h;obtain⟨⟨xg,K5⟩,h1,h⟩:=h;simp only[bq]at h;obtain⟨rfl,rfl,rfl⟩:=h;exact PH b0 al aH aZ (.inl rfl) h1
 ·rename_i st a lx aH;rw[bX]at h;obtain⟨⟨xg,K5⟩,h1,h⟩:=h;simp only[bq]at h;obtain⟨rfl,rfl,rfl⟩:=h;exact PH b0 al aH aZ (.inr rfl) h1
 cases h
end Go.Sx
namespace Go.Sx
open Go.RowKit
mutual
inductive Fit:D->D->Prop
 | refl (d:D):Fit d d
 | nil (k:Nat):Fit (.v (.slice none 0 0)) (.J k [])
 | J (k:Nat) {es cm:List (List D)} (h:lh es cm):Fit (.J k es) (.J k cm)
inductive jv:List D->List D->Prop
 | nil:jv [] []
 | cons {d dn:D} {e e':List D} (h:Fit d dn) (t:jv e e'):jv (d::e) (dn::e')
inductive lh:List (List D)->List (List D)->Prop
 | nil:lh [] []
 | cons {e e':List D} {es cm:List (List D)} (h:jv e e') (t:lh es cm):lh (e::es) (e'::cm)
end
theorem jv.refl:∀e:List D,jv e e
 | []=>.nil
 | d::e=>.cons (.refl d) (jv.refl e)
mutual
theorem Fit.rep{w:World}{ω:Own}:∀{d dn:D},Fit d dn->∀{R:List (Nat×Nat)->c0->Prop} {y:Value},bQ w ω R d y->bQ w ω R dn y
 | _,_,.refl d,_,_,h=>h
 | _,_,.nil k,_,_,h=>by cases h;exact .nil _ _ _
 | _,_,.J k f,_,_,h=>by
  obtain⟨ap,av⟩:=lh.get (w:=w) (ω:=ω) f;cases h with
  | nil=>
   have:=xu ap.symm;subst this;exact .nil _ _ _
  | row R k es b off cap arr ty cL us aw dG al ai hk hu aG=>
   rw[ap];refine .row _ _ _ b off cap arr ty cL us aw dG (ap▸al) ai (fun e he=>?_) (fun i j dn eb=>?_) (fun i j dn eb=>?_)
   ·obtain⟨i,hi⟩:=ox.1 he;obtain⟨bB,h1,U,_⟩:=av i e hi;rw[<-U];exact hk bB (fl h1)
   ·unfold cQ at eb;rw[lf]at eb;obtain⟨e,h1,U⟩:=eb;obtain⟨bB,ax,_,aX⟩:=av i e h1;obtain⟨d,bx,_⟩:=aX j dn U;exact hu i j d (by unfold cQ;rw[ax];exact bx)
   unfold cQ at eb;rw[lf]at eb;obtain⟨e,h1,U⟩:=eb;obtain⟨bB,ax,_,aX⟩:=av i e h1;obtain⟨d,bx,bN⟩:=aX j dn U;exact bN (aG i j d (by unfold cQ;rw[ax];exact bx))
theorem jv.get{w:World}{ω:Own}:∀{e e':List D},jv e e'->e.length=e'.length/\∀(j:Nat) (dn:D),e'[j]?=some dn->∃d,e[j]?=some d/\∀{R:List (Nat×Nat)->c0->Prop} {y:Value},bQ w ω R d y->bQ w ω R dn y
 | _,_,.nil=>⟨rfl,fun j dn h=>by simp at h⟩
 | _,_,.cons h t=>by
  obtain⟨h1,U⟩:=jv.get (w:=w) (ω:=ω) t;refine⟨by simp[h1],fun j dn aG=>?_⟩;cases j with
  | zero=>
   simp only[kJ,aS]at aG;subst aG;exact⟨_,rfl,fun aH=>Fit.rep h aH⟩
  | succ j=>exact U j dn (by simpa using aG)
theorem lh.get{w:World}{ω:Own}:∀{es cm:List (List D)},lh es cm->es.length=cm.length/\∀(i:Nat) (e':List D),cm[i]?=some e'->∃e,es[i]?=some e/\e.length=e'.length/\∀(j:Nat) (dn:D),e'[j]?=some dn->∃d,e[j]?=some d/\∀{R:List (Nat×Nat)->c0->Prop} {y:Value},bQ w ω R d y->bQ w ω R dn y
 | _,_,.nil=>⟨rfl,fun j dn h=>by simp at h⟩
 | _,_,.cons h t=>by
  obtain⟨h1,U⟩:=lh.get (w:=w) (ω:=ω) t;obtain⟨ax,aI⟩:=jv.get (w:=w) (ω:=ω) h;refine⟨by simp[h1],fun j dn aG=>?_⟩;cases j with
  | zero=>
   simp only[kJ,aS]at aG;subst aG;exact⟨_,rfl,ax,aI⟩
  | succ j=>exact U j dn (by simpa using aG)
end
inductive pT:cz->cz->Prop
 | one {d dn:D} (h:Fit d dn):pT (.one d) (.one dn)
 | agg {e e':List D} (h:jv e e'):pT (.agg e) (.agg e')
theorem pT.refl(a:cz):pT a a:=by
 cases a with
 | one d=>exact .one (.refl d)
 | agg e=>exact .agg (.refl e)
inductive mw:List cz->List cz->Prop
 | nil:mw [] []
 | cons {a cx:cz} {as kk:List cz} (h:pT a cx) (t:mw as kk):mw (a::as) (cx::kk)
theorem mw.get:∀{as kk:List cz},mw as kk->as.length=kk.length/\∀(i:Nat) (cx:cz),kk[i]?=some cx->∃a,as[i]?=some a/\pT a cx
 | _,_,.nil=>⟨rfl,fun j dn h=>by simp at h⟩
 | _,_,.cons h t=>by
  obtain⟨h1,U⟩:=mw.get t;refine⟨by simp[h1],fun j dn aG=>?_⟩;cases j with
  | zero=>
   simp only[kJ,aS]at aG;subst aG;exact⟨_,rfl,h⟩
  | succ j=>exact U j dn (by simpa using aG)
variable{w:World}
theorem pT.cell{ω:Own}{r:Nat}{a cx:cz}{y:Value}(h:pT a cx)(al:k2 w ω r a y):k2 w ω r cx y:=by
 cases h with
 | one h=>exact h.rep al
 | agg h=>
  obtain⟨vs,rfl,a8,bg⟩:=al;obtain⟨h1,U⟩:=jv.get (w:=w) (ω:=ω) h;refine⟨vs,rfl,by omega,fun j dn aG=>?_⟩;obtain⟨d,ax,aI⟩:=U j dn aG;obtain⟨u,aX,bx⟩:=bg j d ax;exact⟨u,aX,aI bx⟩
variable{rs tw:List cz}
theorem mw.all{ω:Own}{v:Value}(h:mw rs tw)(aH:lE w ω rs v):lE w ω tw v:=by
 cases h with
 | nil=>exact aH
 | cons h t=>
  cases t with
  | nil=>exact h.cell aH
  | cons U t2=>
   obtain⟨vs,e,a8,bz⟩:=aH;obtain⟨ax,aI⟩:=mw.get (.cons h (.cons U t2));refine⟨vs,e,by omega,fun i cx ag=>?_⟩;obtain⟨a,aX,bx⟩:=aI i cx ag;obtain⟨y,bN,db⟩:=bz i a aX;exact⟨y,bN,bx.cell db⟩
variable{P:Program}{f:FuncId}
theorem bT.fit{args:List aL}(h:bT P f args (.vals rs))(k:mw rs tw):bT P f args (.vals tw):=by
 intro w vs ω aH kp o8;refine (h w vs ω aH kp o8).mono ?_;rintro e aM ⟨v,rfl,aw,a7,h1,U,ax,aI⟩;exact⟨v,rfl,aw,a7,h1,U,ax,k.all aI⟩
theorem hA.fit{args:List cz}(h:hA P f args rs)(k:mw rs tw):hA P f args tw:=by
 intro w vs rn aH;refine (h w vs rn aH).mono ?_;rintro e aM ⟨v,rfl,aw,ω,h1,U,ax⟩;exact⟨v,rfl,aw,ω,h1,U,k.all ax⟩
theorem pT.arg{a cx:cz}{y:Value}(h:pT a cx)(al:tM w a y):tM w cx y:=by
 cases h with
 | one h=>exact h.rep al
 | agg h=>
  obtain⟨vs,rfl,a8,bg⟩:=al;obtain⟨h1,U⟩:=jv.get (w:=w) (ω:=fun _=>.bt) h;refine⟨vs,rfl,by omega,fun j dn aG=>?_⟩;obtain⟨d,ax,aI⟩:=U j dn aG;obtain⟨u,aX,bx⟩:=bg j d ax;exact⟨u,aX,aI bx⟩
theorem hA.args{as kk:List cz}(h:hA P f kk rs)(k:mw as kk):hA P f as rs:=by
 intro w vs rn aH;obtain⟨h1,U⟩:=k.get;refine h w vs rn ⟨by rw[aH.1,h1],fun i cx ag=>?_⟩;obtain⟨a,ax,aI⟩:=U i cx ag;obtain⟨v,aX,bx⟩:=aH.2 i a ax;exact⟨v,aX,aI.arg bx⟩
