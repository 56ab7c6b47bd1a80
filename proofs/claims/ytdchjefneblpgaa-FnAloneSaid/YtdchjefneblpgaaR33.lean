import Derived.Test.YtdchjefneblpgaaR15
set_option linter.unusedVariables false
set_option linter.unusedSimpArgs false
namespace Go.Sx
open Go.RowKit
def gY(i:Nat):Nat:=cy+i
def hr(i j:Nat):Nat:=cy+100+(100*i+j)
def ba.aN(i:Nat):ba->bi
 | .ro (.one (.aa k es))=>.one (.dL (hr i 0) k es)
 | .ro a=>a.arg
 | .gN _ _ _=>.one (.ptr (gY i) 0)
 | .fn g cg=>.one (.eL g (cg.map gY))
def D.IE(t:Nat):D->aq
 | .aa k es=>.dL t k es
 | _=>.b5
def pK(i:Nat)(pn:List Bool):Nat->List D->List aq
 | _,[]=>[]
 | j,d::ds=>(if stays pn j then d.IE (hr i j) else d.mu (nT i j))::pK i pn (j+1) ds
theorem Kd(i:Nat)(pn:List Bool):∀(ds:List D) (j x:Nat),(pK i pn j ds)[x]?=(ds[x]?).map fun d=>if stays pn (j+x) then d.IE (hr i (j+x)) else d.mu (nT i (j+x))
 | [],_,_=>by simp[pK]
 | d::ds,j,0=>by simp[pK]
 | d::ds,j,x+1=>by
  simp only[pK,lK,Kd i pn ds (j+1) x];rw[show j+1+x=j+(x+1) by omega]
theorem Ke(i:Nat)(pn:List Bool):∀(ds:List D) (j:Nat),(pK i pn j ds).length=ds.length
 | [],_=>rfl
 | d::ds,j=>by simp[pK,Ke i pn ds (j+1)]
def ra:Nat->List ba->List az
 | _,[]=>[]
 | i,a::as=>.aN (a.aN i)::ra (i+1) as
def ug:Nat->List ba->List (Nat×List aq)
 | _,[]=>[]
 | i,.gN pn pre _::as=>(gY i,pK i pn 0 pre)::ug (i+1) as
 | i,.ro _::as=>ug (i+1) as
 | i,.fn _ _::as=>ug (i+1) as
def vU(args:List ba)(ntmps:Nat):aG:=⟨(ra 0 args).take (pX args)++List.replicate (ntmps-pX args) .b5,ug 0 args⟩
theorem Kf:∀(as:List ba) (i x:Nat),(ra i as)[x]?=(as[x]?).map fun a=>.aN (a.aN (i+x))
 | [],i,x=>by simp[ra]
 | a::as,i,0=>by simp[ra]
 | a::as,i,x+1=>by
  simp only[ra,lK,Kf as (i+1) x];rw[show i+1+x=i+(x+1) by omega]
theorem Eg:∀(as:List ba) (i:Nat),(ra i as).length=as.length
 | [],_=>rfl
 | a::as,i=>by simp[ra,Eg as (i+1)]
theorem y4{id:Nat}{ls:List aq}:∀{as:List ba} {i:Nat},cM id (ug i as)=some ls->∃x pn pre post,as[x]?=some (.gN pn pre post)/\id=gY (i+x)/\ls=pK (i+x) pn 0 pre
 | [],i,h=>by cases h
 | .ro _::as,i,h=>by
  obtain⟨x,pn,pre,post,J,U,ax⟩:=y4 (as:=as) (i:=i+1) h;exact⟨x+1,pn,pre,post,by simpa using J,by rw[U,show i+1+x=i+(x+1) by omega],by rw[ax,show i+1+x=i+(x+1) by omega]⟩
 | .fn _ _::as,i,h=>by
  obtain⟨x,pn,pre,post,J,U,ax⟩:=y4 (as:=as) (i:=i+1) h;exact⟨x+1,pn,pre,post,by simpa using J,by rw[U,show i+1+x=i+(x+1) by omega],by rw[ax,show i+1+x=i+(x+1) by omega]⟩
 | .gN pn pre post::as,i,h=>by
  simp only[ug,cM]at h;split at h
  ·rename_i e;exact⟨0,pn,pre,post,rfl,e.symm,(e0 h).symm⟩
  obtain⟨x,Rt,pre,post,J,U,ax⟩:=y4 (as:=as) (i:=i+1) h;exact⟨x+1,Rt,pre,post,by grind,by grind,by grind⟩
def wW(args:List ba):Bool:=decide (args.length<49)&&args.all fun
 | .ro _=>true
 | .gN pn pre post=>decide (pn.length<100)&&decide (pre.length<100)&&decide (post.length<100)
 | .fn _ cg=>cg.all fun k=>match args[k]? with | some (.gN _ _ _)=>true | _=>false
def xG:Value->Nat
 | .pointer (some p)=>p.block
 | _=>0
def k1(args:List ba)(w:World)(vs:Array Value)(t:Nat):Nat×Value:=
 if cy+100<=t then
  match args[(t-(cy+100)) / 100]? with
  | some (.gN _ pre _)=>(((pre[(t-(cy+100)) % 100]?).map D.p2).getD 0,gK w (vs.getD ((t-(cy+100)) / 100) undef) ((t-(cy+100)) % 100))
  | some (.ro (.one d))=>(d.p2,vs.getD ((t-(cy+100)) / 100) undef)
  | _=>(0,undef)
 else if cy<=t then (xG (vs.getD (t-cy) undef),undef) else
 match args[(t-900000000) / 100]? with
 | some (.gN _ pre _)=>(((pre[(t-900000000) % 100]?).map D.p2).getD 0,gK w (vs.getD ((t-900000000) / 100) undef) ((t-900000000) % 100))
 | _=>(0,undef)
def pI(ω:Own):Own:=fun b=>match ω b with | .box i=>.box (gY i) | o=>o
variable{ω:Own}{b:Nat}
theorem Sy{t:Nat}{q:List (Nat×Nat)}(h:ω b=.tok t q):pI ω b=.tok t q:=by grind[pI]
theorem Kg:pI ω b=.bc<->ω b=.bc:=by
 grind[pI]
variable{i:Nat}
theorem y5:pI ω b=.box (gY i)<->ω b=.box i:=by
 grind[pI,gY,cx.box.injEq]
variable{args:List ba}{w:World}{vs:Array Value}
theorem Kh{j:Nat}{pn:List Bool}{pre post:List D}(h:args[i]?=some (.gN pn pre post))(aU:j<100):
  k1 args w vs (hr i j)=(((pre[j]?).map D.p2).getD 0,gK w (vs.getD i undef) j):=by
 have aK:(hr i j-(cy+100)) / 100=i:=by grind[hr]
 have aO:(hr i j-(cy+100)) % 100=j:=by grind[hr]
 unfold k1;rw[bb (by grind[hr]),aK,aO,h]
theorem Ki{d:D}(h:args[i]?=some (.ro (.one d))):k1 args w vs (hr i 0)=(d.p2,vs.getD i undef):=by
 simp_all[hr,cy,k1,bb]
theorem Sz(dc:wW args=true)(h:AO w ω args vs)(jk:AK args vs)(nq:Tidy w ω)(ntmps:Nat):
  Rel ⟨w,fun b=>ω b≠.bc,k1 args w vs⟩ (vU args ntmps) { tmps:=vs.extract 0 (pX args)++Array.replicate (ntmps-(vs.extract 0 (pX args)).size) undef,defers:=[] } w:=by
 have B6:pX args<=args.length:=Nat.sub_le _ _;obtain⟨fV,cA,aR,aC⟩:=h;simp only[wW,b0,cF,eP]at dc;have tt:∀{d:D} {y:Value},bA w ω Tag.free.R d y->bA w (pI ω) Tag.free.R d y:=fun h=>h.frame fun b q _ aw=>⟨Kg.2 aw,rfl⟩
 have dN:(vs.extract 0 (pX args)).size=pX args:=by grind
 refine⟨pI ω,k1 args w vs,rfl,by grind[vU,Eg],e8.start nq,fun b ah=>?_,fun _ _=>rfl,?_,?_,fun id ls ak=>?_⟩
 ·have:ω b≠.bc:=fun e=>ah (Kg.2 e)
  exact⟨.inr this,fV b this⟩
 ·intro id b hi ah;simp only[pI]at ah;cases e:ω b with
  | bc=>grind
  | tok t q=>grind
  | box i=>
   rw[e]at ah;simp only[cx.box.injEq]at ah;subst ah;obtain⟨pn,pre,post,J⟩:=cA b i e;obtain⟨v,a8,⟨fU,arr,ty,rfl,U,ax,_⟩,_⟩:=aC i _ J;have:=ax b e;subst this;have vv:i<49:=by
    grind
   simp only[k1];rw[aZ (by grind[gY]),bb hi,show gY i-cy=i by simp[gY],dF,a8];rfl
 ·intro i p hp;simp only[vU]at hp;rw[kf,xp,Eg,Nat.min_eq_left B6]at hp;split at hp
  ·rename_i hi;rw[h9,bb hi,Kf,bF]at hp;obtain⟨hv,nm,rfl⟩:=hp;rw[cP];obtain⟨v,a8,cb⟩:=aC i hv nm;have kD:i<vs.size:=by omega
   refine⟨v,by rw[hz,bb (by grind),Array.getElem?_extract,bb (by omega),cP,a8],?_⟩;cases hv with
   | fn g cg=>
    have J:=jk i g cg nm;rw[a8]at J;cases J;refine⟨cg.map fun k=>xG (vs.getD k undef),?_,by simp,fun j id aU=>?_⟩
    ·congr 2
     rw[List.map_map];refine jA fun k aT=>?_
     have U:=dc.2 _ (eD nm);have ax:=eP.1 U k aT;split at ax
     ·rename_i pn pre post l4;obtain⟨v2,pB,⟨fa,_,_,rfl,_⟩,_⟩:=aC k _ l4;simp[dF,pB,ptrTo,xG]
     cases ax
    rw[dG,bF]at aU;obtain⟨k,aT,rfl⟩:=aU;have U:=dc.2 _ (eD nm);have ax:=eP.1 U k (eD aT);split at ax
    ·rename_i pn pre post l4;obtain⟨v2,pB,⟨fa,_,_,rfl,a1,_⟩,_⟩:=aC k _ l4;refine⟨fa,?_,y5.2 a1⟩;simp[aT,dF,pB,ptrTo,xG]
    cases ax
   | gN pn pre post=>
    obtain⟨⟨b,arr,ty,rfl,U,_⟩,_⟩:=cb;exact⟨b,y5.2 U,rfl⟩
   | ro bT=>
    cases bT with
    | one d=>
     cases d with
     | aa k es=>
      refine⟨tt cb,fun _=>?_⟩;rw[Ki nm,dF,a8];rfl
     | v x=>exact D.cW (τ:=k1 args w vs) (p:=(0,0)) (t:=.free) (tt cb)
     | ptr ds=>exact D.cW (τ:=k1 args w vs) (p:=(0,0)) (t:=.free) (tt cb)
     | da g cs=>exact D.cW (τ:=k1 args w vs) (p:=(0,0)) (t:=.free) (tt cb)
    | agg ds=>
     obtain⟨us,rfl,hlen,iB⟩:=cb;refine⟨us,rfl,by grind,fun j l ak=>?_⟩;rw[dG,bF]at ak;obtain⟨d,ay,rfl⟩:=ak;obtain⟨u,J,U⟩:=iB j d ay;exact⟨u,J,D.cW (p:=(0,0)) (t:=.free) (tt U)⟩
  rename_i hi;rw[xr]at hp;split at hp
  ·rename_i bk;simp only[aH]at hp;subst hp;refine⟨undef,?_,aj⟩;grind
  cases hp
 obtain⟨i,pn,pre,post,J,rfl,rfl⟩:=y4 ak;rw[cP];obtain⟨v,a8,⟨b,arr,ty,rfl,U,ax,aJ,a1,bt⟩,bQ⟩:=aC i _ J;refine⟨b,arr,ty,y5.2 U,fun cH dv=>ax cH (y5.1 dv),aJ,by grind[Ke],fun j l ak=>?_⟩;rw[Kd,bF]at ak;obtain⟨d,ay,rfl⟩:=ak;rw[cP];obtain⟨u,hu,ar⟩:=bt j d ay;have aU:j<100:=by
  have aK:=dc.2 _ (eD J);grind
 refine⟨u,hu,?_⟩;cases ek:stays pn j with
 | true=>
  rw[bb rfl];have cZ:=bQ j d ay ek;have e:gK w (ptrTo b) j=u:=by simp_all[gK,ptrTo]
  rw[e]at cZ;cases d with
  | aa k es=>
   refine⟨tt cZ,fun _=>?_⟩;rw[Kh J aU,dF,a8];simp only[kh,e,ay,oU];rfl
  | _=>exact trivial
 | false=>
 rw[aZ (by simp)];replace ar:=ar ek;cases d with
 | v x=>
  have e:u=x:=by cases ar;rfl
  subst e;unfold D.mu;split
  ·rename_i h;cases h;exact rfl
  ·rename_i h;cases h;exact rfl
  ·grind
  ·exact trivial
  grind
 | ptr ds=>exact trivial
 | da g cD=>exact trivial
 | aa k es=>
  refine⟨ar.frame fun c q _ aw=>⟨Sy aw,rfl⟩,?_⟩;have aK:(nT i j-900000000) / 100=i:=by grind[nT]
  have aO:(nT i j-900000000) % 100=j:=by grind[nT]
  have hi:i<49:=by
   grind
  simp only[Tag.de,k1];rw[aZ (by grind[nT,cy]),aZ (by grind[nT,cy])];simp only[aK,aO,J,ay];simp[gK,ptrTo,aJ,dF,a8,hu,D.p2]
def mx:List (Option Nat)->List aq->Option (List aq)
 | [],ls=>some ls
 | some t::ts,.dL s _ _::ls=>if s=t then (mx ts ls).map fun r=>.v (.bool true)::r else none
 | none::ts,l::ls=>(mx ts ls).map fun r=>l::r
 | none::ts,[]=>mx ts []
 | some _::_,_=>none
theorem y6:∀{ts:List (Option Nat)} {ls ej:List aq},mx ts ls=some ej->ej.length=ls.length/\(∀(j t:Nat),ts[j]?=some (some t)->∃k es,ls[j]?=some (.dL t k es))/\∀j,ts.getD j none=none->ej[j]?=ls[j]?
 | [],ls,ej,h=>by
  simp_all[mx,aH]
 | some t::ts,.dL s k es::ls,ej,h=>by
  simp only[mx]at h;split at h
  ·rename_i e;subst e;rw[bF]at h;obtain⟨r,J,rfl⟩:=h;obtain⟨g1,g2,g3⟩:=y6 J;grind
  cases h
 | none::ts,l::ls,ej,h=>by
  simp only[mx,bF]at h;obtain⟨r,J,rfl⟩:=h;obtain⟨g1,g2,g3⟩:=y6 J;grind
 | none::ts,[],ej,h=>by
  simp only[mx]at h;obtain⟨g1,g2,g3⟩:=y6 h;refine⟨g1,fun j t aU=>?_,fun j aU=>?_⟩
  ·cases j with
   | zero=>simp at aU
   | succ j=>obtain⟨k,es,h⟩:=g2 j t (by simpa using aU);simp at h
  have:ej=[]:=rm g1;rw[this]
def pd:List (Option Nat)->List aq->List D->List D
 | some _::ts,.dL _ k es::ls,_::ds=>.aa k es::pd ts ls ds
 | _::ts,_::ls,d::ds=>d::pd ts ls ds
 | _,_,ds=>ds
theorem SA:∀(ts:List (Option Nat)) (ls:List aq) (ds:List D),(pd ts ls ds).length=ds.length/\∀j,ts.getD j none=none->(pd ts ls ds)[j]?=ds[j]?:=by
 intro ts ls ds
 fun_induction pd ts ls ds with
 | case1 t ts s k es ls d ds dw=>
  grind
 | case2 x ts l ls d ds _ dw=>
  grind
 | case3=>grind
def oE(i:Nat):Nat->List Bool->List (Option Nat)
 | _,[]=>[]
 | j,b::r=>(if b then some (hr i j) else none)::oE i (j+1) r
theorem Eh(i:Nat):∀(pn:List Bool) (j x:Nat),(oE i j pn)[x]?=(pn[x]?).map fun b=>if b then some (hr i (j+x)) else none
 | [],_,_=>by simp[oE]
 | b::r,j,0=>by simp[oE]
 | b::r,j,x+1=>by
  simp only[oE,lK,Eh i r (j+1) x];rw[show j+1+x=j+(x+1) by omega]
def pL(st:aG):Nat->List ba->Option (List ba×gp)
 | _,[]=>some ([],[])
 | i,.ro a::as=>(pL st (i+1) as).map fun r=>(.ro a::r.1,r.2)
 | i,.fn g cg::as=>(pL st (i+1) as).map fun r=>(.fn g cg::r.1,r.2)
 | i,.gN pn pre post::as=>
  match cM (gY i) st.boxes with
  | some ls=>
   match mx (oE i 0 pn) ls with
   | some ej=>
    match nV (fI i 0) ej post,pL st (i+1) as with
    | some (ds,ts),some r=>some (.gN pn pre (pd (oE i 0 pn) ls ds)::r.1,ts++r.2)
    | _,_=>none
   | none=>none
  | none=>none
theorem y7{st:aG}:∀{as jf:List ba} {i:Nat} {ts:gp},pL st i as=some (jf,ts)->jf.length=as.length/\∀(x:Nat) (pn:List Bool) (pre post:List D),jf[x]?=some (.gN pn pre post)->
  ∃ls ej ds hint iK,cM (gY (i+x)) st.boxes=some ls/\mx (oE (i+x) 0 pn) ls=some ej/\nV (fI (i+x) 0) ej hint=some (ds,iK)/\post=pd (oE (i+x) 0 pn) ls ds/\∀y∈iK,y∈ts
 | [],jf,i,ts,h=>by
  simp_all[pL,aH,a']
 | .ro a::as,jf,i,ts,h=>by
  simp only[pL,bF]at h;obtain⟨⟨bO,b6⟩,J,h⟩:=h;simp only[a']at h;obtain⟨rfl,rfl⟩:=h;obtain⟨cf,bM⟩:=y7 J;refine⟨by simp[cf],fun x pn pre post ae=>?_⟩;cases x with
  | zero=>simp at ae
  | succ x=>
   have:=bM x pn pre post (by simpa using ae);rwa[show i+1+x=i+(x+1) by omega]at this
 | .fn g cg::as,jf,i,ts,h=>by
  simp only[pL,bF]at h;obtain⟨⟨bO,b6⟩,J,h⟩:=h;simp only[a']at h;obtain⟨rfl,rfl⟩:=h;obtain⟨cf,bM⟩:=y7 J;refine⟨by simp[cf],fun x pn pre post ae=>?_⟩;cases x with
  | zero=>simp at ae
  | succ x=>
   have:=bM x pn pre post (by simpa using ae);rwa[show i+1+x=i+(x+1) by omega]at this
 | .gN pn pre post::as,jf,i,ts,h=>by
  simp only[pL]at h;split at h
  ·rename_i ls aK;split at h
   ·rename_i ej b8;split at h
    ·rename_i ds FU r aO b2;simp only[aH,a']at h;obtain⟨rfl,rfl⟩:=h;obtain⟨cf,bM⟩:=y7 b2;grind
    cases h
   cases h
  cases h
def y8(src:List (Option Nat)):List (Option Nat):=src.map fun x=>x.map fun a=>hr a 0
def adR(args:List ba):bd->Bool
 | .vals _=>true
 | .gW src _=>src.all fun
  | some a=>match args[a]? with | some (.ro (.one _))=>true | _=>false
  | none=>true
def FP(P:Program)(st:aG)(hN:List ResultVar):bd->Option (bd×gp×Option Nat)
 | .vals hint=>
  match hN.mapM (nJ P st) with
  | some b'=>(oP 0 b' hint).map fun r=>(.vals r.1,r.2,none)
  | none=>none
 | .gW src hint=>
  match hN.mapM (nJ P st) with
  | some [.aN (.one (.ptr id 0))]=>
   match cM id st.boxes with
   | some ls=>
    match mx (y8 src) ls with
    | some ej=>if id<cy then (nV (fI 49 0) ej hint).map fun r=>(.gW src (pd (y8 src) ls r.1),r.2,some id) else none
    | none=>none
   | none=>none
  | _=>none
def xQ(P:Program)(st:aG)(hN:List ResultVar)(args:List ba)(hint:bd):Option (bd×List ba):=
 match FP P st hN hint,pL st 0 args with
 | some (r,ts,_),some (as,p5)=>if wW args&&adR args r&&yY (ts++p5) then some (r,as) else none
 | _,_=>none
def j9(ω:Own)(ts:gp)(nw:Option Nat):Own:=fun b=>
 match ω b with
 | .tok t q=>match ts.at t with | some n=>.tok n q | none=>.bc
 | .box id=>if nw=some id then .box 49 else if cy<=id/\id<cy+49 then .box (id-cy) else .bc
 | .bc=>.bc
variable{ts:gp}
theorem Ei{nw:Option Nat}{n:Nat}{q:List (Nat×Nat)}(h:gL ω ts b=.tok n q):j9 ω ts nw b=.tok n q:=by
 grind[gL,j9,id]
theorem jP.ad0{nw:Option Nat}{r:Nat}{d:b7}{y:Value}(h:jP w (gL ω ts) r d y):jP w (j9 ω ts nw) r d y:=by
 cases d with
 | one d=>exact bA.frame h fun b q _ aw=>⟨Ei aw,rfl⟩
 | agg ds=>
  obtain⟨vs,e,aR,aU⟩:=h;exact⟨vs,e,aR,fun j d ay=>by
   obtain⟨u,hu,ar⟩:=aU j d ay;exact⟨u,hu,ar.frame fun b q _ aw=>⟨Ei aw,rfl⟩⟩⟩
theorem Kj{τ:Nat->Nat×Value}{nw:Option Nat}{id i:Nat}{ls ej:List aq}{hint ds:List D}{iK:gp}{cg:List (Option Nat)}{pn:List Bool}(ii:∀t n,(t,n)∈ts->ts.at t=some n)
  (ah:qb w ω τ id ls) (fV:mx cg ls=some ej) (Qc:∀j,stays pn j=false->cg.getD j none=none) (ar:nV (fI i 0) ej hint=some (ds,iK)) (gb:∀y∈iK,y∈ts) (fp:∀b,ω b=.box id->j9 ω ts nw b=.box i) (QR:∀b,j9 ω ts nw b=.box i->ω b=.box id):
  ∀{y:Value},(∃b,ω b=.box id/\y=ptrTo b)->rz w (j9 ω ts nw) i pn (fI i) (pd cg ls ds) y/\∀(j t:Nat),cg[j]?=some (some t)->cy<=t->(τ t).2=gK w y j:=by
 rintro y ⟨cH,dv,rfl⟩;obtain⟨b,arr,ty,J,U,ax,aJ⟩:=ah;have:=U cH dv;subst this;obtain⟨a1,bt⟩:=D' (w:=w) (ω:=ω) (τ:=τ) ii ar gb;obtain⟨Np,ad4,ad5⟩:=y6 fV;obtain⟨f1,f2⟩:=SA cg ls ds;refine⟨⟨cH,arr,ty,rfl,fp cH dv,fun c ai=>U c (QR c ai),ax,by have:=aJ.1;omega,fun j d ay=>?_⟩,fun j t aU bH=>?_⟩
 ·have h0:j<ls.length:=by
   grind
  obtain⟨u,hu,ad⟩:=aJ.2 j _ (iM h0);refine⟨u,hu,fun ek=>?_⟩;have aT:=Qc j ek;rw[f2 j aT]at ay;obtain⟨l,ak,cr⟩:=bt j d ay;rw[ad5 j aT,iM h0]at ak;cases ak;have:=cr u ad;rw[show fI i 0+j=fI i j by grind[fI]]at this;exact this.frame fun b q _ aw=>⟨Ei aw,rfl⟩
 obtain⟨k,es,ak⟩:=ad4 j t aU;obtain⟨u,hu,ad⟩:=aJ.2 j _ ak;rw[ad.2 bH];simp[gK,ptrTo,ax,dF,hu]
theorem Kk{P:Program}{f:FuncId}{fn:Func}{c:Code}{r:bd}{ans bN:List bI}{obs:List Prop}{e:fH}{st:aG}(bn:P.funcs[f]?=some fn)(ah:fn.body=some c)
  (ei:run P c (vU args fn.ntmps) ans=some (e,st,bN,obs)) (aM:cn obs) (he:e=.ret\/e=.normal) (dS:xQ P st fn.results.toList args r=some (r,args)):cv P f args r:=by
 intro w vs xu j1 BI nq;unfold xQ at dS;split at dS
 ·rename_i bO ts nw as p5 fr lj;split at dS
  ·rename_i cb;simp only[aH,a']at dS;obtain⟨rfl,rfl⟩:=dS;rw[b0,b0]at cb;obtain⟨⟨dc,gT⟩,cb⟩:=cb;have ii:∀t n,(t,n)∈ts++p5->gp.at t (ts++p5)=some n:=fun t n h=>yZ cb h
   refine calls_of_wp bn ah (Code.wp_mono (fun e' b4 aD hp=>?_) (kW c ei aM _ _ w (Sz dc j1 BI nq fn.ntmps)));obtain⟨rfl,ω,τ,aI⟩:=hp;have afs:bO=bO/\as.length<49:=by
    simp_all[wW,b0,cF]
   have x6:∀id,nw=some id->id<cy:=by
    intro id e;subst e;unfold FP at fr;split at fr
    ·grind[bF,a',absurd]
    grind[bF,a',aH]
   have hm:∃v,(results fn b4.tmps).run P aD=.ok v aD/\xy aD (j9 ω (ts++p5) nw) vs bO v:=by
    have H4:∀{b':List az},fn.results.toList.mapM (nJ P st)=some b'->∃zs:List Value,(results fn b4.tmps).run P aD=.ok (if h:zs.toArray.size=1 then zs.toArray[0] else .tuple zs.toArray) aD/\zs.length=b'.length/\∀(i:Nat) (p:az),b'[i]?=some p->∃z,zs[i]?=some z/\cd (Sat aD ω τ) p z:=by
     intro b' py;obtain⟨zs,J,U,ax⟩:=y1 aI py;have hm:=zf (P:=P) _ fn.results aD _ J;refine⟨zs,?_,U,ax⟩;rw[Ea,Sem.run_bind,hm];rfl
    unfold FP at fr;split at fr
    ·rename_i hint;split at fr
     ·rename_i b' py;rw[bF]at fr;obtain⟨⟨ds,FU⟩,dM,h⟩:=fr;simp only[a',bd.vals.injEq]at h;obtain⟨rfl,rfl,rfl⟩:=h;obtain⟨zs,J,U,ax⟩:=H4 py;obtain⟨aJ,a1⟩:=y0 (w:=aD) (ω:=ω) (τ:=τ) ii dM (fun x ae=>gl _ ae);have ee:∀(j:Nat) (d:b7),ds[j]?=some d->∃z,zs[j]?=some z/\jP aD (j9 ω (FU++p5) none) j d z:=by
       intro j d ay;obtain⟨p,hp,px⟩:=a1 j d ay;obtain⟨z,aL,l7⟩:=ax j p hp;have:=px z l7;rw[cP]at this;exact⟨z,aL,this.ad0⟩
      have kI:zs.length=ds.length:=by omega
      refine⟨_,J,?_⟩;show j7 _ _ _ _;generalize a8:(if h:zs.toArray.size=1 then zs.toArray[0] else Value.tuple zs.toArray)=v;unfold j7;split
      ·rename_i bT;obtain⟨z,aL,ai⟩:=ee 0 bT rfl;grind
      rename_i cl;have J:¬zs.toArray.size=1:=by
       intro h;simp at h;rw[kI]at h;obtain⟨d,ay⟩:=List.length_eq_one_iff.1 h;grind
      grind
     cases fr
    rename_i src hint;split at fr
    ·rename_i id py;split at fr
     ·rename_i ls cA;split at fr
      case h_2=>cases fr
      rename_i ej fV;split at fr
      ·rename_i bk;rw[bF]at fr;obtain⟨⟨ds,FU⟩,dM,h⟩:=fr;simp only[a',bd.gW.injEq,true_and]at h;obtain⟨rfl,rfl,rfl⟩:=h;obtain⟨zs,J,U,ax⟩:=H4 py;obtain⟨z,aL,b,Q2,oi⟩:=ax 0 _ rfl;have oh:zs=[z]:=by
        match zs,U,aL with
        | [z0],_,aL=>grind
       subst oh;refine⟨z,by grind,?_⟩;have vN:=Kj (pn:=sT src) (nw:=some id) (i:=49) ii (aI.boxes id ls cA) fV (fun j aU=>by
        simp only[stays,sT,jz,dG]at aU;simp only[y8,jz,dG];cases e:src[j]? with
        | none=>rfl
        | some x=>simp_all) dM (fun y a7=>gl _ a7) (fun b ah=>by simp_all[j9,fZ]) (fun b ah=>?_) ⟨b,Q2,oi⟩
       ·refine⟨vN.1,fun j x ae=>?_⟩;have aJ:=vN.2 j (hr x 0) (by simp[y8,ae]) (by grind[hr]);have a1:=eP.1 gT _ (eD ae);simp only at a1;split at a1
        ·rename_i d ay;rw[aI.fixed _ (by grind[hr])]at aJ;change (k1 as w vs (hr x 0)).2=_ at aJ;rw[Ki ay]at aJ;have bt:x<vs.size:=by
          have:=(eJ.1 ay).1;have:=j1.2.2.1;omega
         simp_all
        cases a1
       grind[j9,e0,cx.box.injEq]
      cases fr
     cases fr
    cases fr
   obtain⟨v,qz,pB⟩:=hm;have c6:∃v,(results fn b4.tmps).run P aD=.ok v aD/\∃u,Ending.returned v=.returned u/\e8 ⟨w,fun b=>xu b≠.bc,fun _=>(0,undef)⟩ aD/\
     ∃aP:Own,(∀b,b<w.heap.size->xu b=.bc->aP b=.bc)/\zB aD aP/\(∀(i:Nat) (pn:List Bool) (pre post:List D) (y:Value),as[i]?=some (.gN pn pre post)->vs[i]?=some y->rz aD aP i pn (fI i) post y/\∀j,stays pn j=true->gK aD y j=gK w y j)/\xy aD aP vs bO u:=by
    refine⟨v,qz,v,rfl,⟨aI.below.os,aI.below.tape,aI.below.output,aI.below.size,aI.below.block,aI.below.drawn,aI.below.laid,aI.below.free⟩,j9 ω (ts++p5) nw,fun b ah ag=>?_,fun b ah=>?_,?_,pB⟩
    ·have:ω b=.bc:=by
      cases e:ω b with
      | bc=>rfl
      | box id=>
       rcases (aI.owned b (by simp[e])).1 with h | h
       ·grind
       grind
      | tok t q=>
       rcases (aI.owned b (by simp[e])).1 with h | h
       ·grind
       grind
     grind[j9]
    ·have:ω b≠.bc:=fun e=>ah (by grind[j9])
     exact (aI.owned b this).2
    intro i pn pre post y nm a7;obtain⟨ls,ej,ds,hint,iK,g1,g0,g2,rfl,g3⟩:=(y7 lj).2 i pn pre post nm;simp only[cP]at g1 g2 g0 nm ⊢;have hi:i<49:=by
     grind
    have cl:nw≠some (gY i):=fun e=>by grind[gY]
    obtain⟨cm,qe,rf,fM,dX,xZ,Br⟩:=aI.boxes _ ls g1;obtain⟨fj,H',⟨fU,_,_,hyp,_⟩,_⟩:=j1.2.2.2 i _ nm;rw[a7]at H';have:=e0 H';subst this;have rW:=aI.pinned (gY i) cm (by simp[gY]) fM;simp only[k1]at rW;rw[aZ (by grind[gY]),bb (by simp[gY]),show gY i-cy=i by simp[gY],dF,a7,hyp]at rW;have rW:fU=cm:=rW;subst rW;have Qb:∀j,stays pn j=true->(oE i 0 pn)[j]?=some (some (hr i j)):=fun j aU=>by
     simp only[stays,jz]at aU;rw[Eh,cP];grind
    have vN:=Kj (pn:=pn) (nw:=nw) (i:=i) ii ⟨fU,qe,rf,fM,dX,xZ,Br⟩ g0 (fun j aU=>by
     simp only[stays,jz]at aU;rw[jz,Eh];grind) g2 (fun y a7=>gQ _ (g3 y a7)) (fun b ah=>?_) (fun b ah=>?_) ⟨fU,fM,hyp⟩
    ·refine⟨vN.1,fun j aU=>?_⟩;have P9:j<100:=by
      simp only[wW,b0,cF,eP]at dc;have aJ:=dc.2 _ (eD nm);simp only[b0,cF]at aJ;grind[stays,mE]
     have aJ:=vN.2 j (hr i j) (Qb j aU) (by grind[hr]);rw[aI.fixed _ (by grind[hr])]at aJ;change (k1 as w vs (hr i j)).2=_ at aJ;rw[Kh nm P9]at aJ;rw[<-aJ];simp only[dF,a7,kh]
    ·simp only[j9,ah];rw[aZ cl,bb ⟨by simp[gY],by grind[gY]⟩];simp[gY]
    grind[j9,cx.box.injEq,gY]
   obtain⟨v,bt,bQ⟩:=c6;rcases he with rfl | rfl
   ·exact⟨aI.defers,v,bt,bQ⟩
   exact⟨aI.defers,v,bt,bQ⟩
  cases dS
 cases dS
def C5(P:Program)(c:Code)(ntmps:Nat)(hN:List ResultVar)(args:List ba)(hint:bd)(ans:List bI):Option (bd×List ba×List Prop):=
 match run P c (vU args ntmps) ans with
 | some (.ret,st,_,obs)=>(xQ P st hN args hint).map fun r=>(r.1,r.2,obs)
 | some (.normal,st,_,obs)=>(xQ P st hN args hint).map fun r=>(r.1,r.2,obs)
 | _=>none
theorem cv.of{P:Program}{f:FuncId}{fn:Func}{r:bd}(ans:List bI)(obs:List Prop)(bn:P.funcs[f]?=some fn)(ah:fn.body.isSome=true)
  (h:C5 P (kX fn) fn.ntmps fn.results.toList args r ans=some (r,args,obs)) (aM:cn obs):cv P f args r:=by
 obtain⟨c,ai⟩:=nY.1 ah;have vq:kX fn=c:=by simp[kX,ai]
 unfold C5 at h;rw[vq]at h;split at h
 ·rename_i st a j5 ar;rw[bF]at h;obtain⟨⟨uB,FT⟩,J,h⟩:=h;simp only[a']at h;obtain⟨rfl,rfl,rfl⟩:=h;exact Kk bn ai ar aM (.inl rfl) J
 ·rename_i st a j5 ar;rw[bF]at h;obtain⟨⟨uB,FT⟩,J,h⟩:=h;simp only[a']at h;obtain⟨rfl,rfl,rfl⟩:=h;exact Kk bn ai ar aM (.inr rfl) J
 cases h
end Go.Sx
namespace Go.Sx
open Go.RowKit
mutual
inductive Fit:D->D->Prop
 | refl (d:D):Fit d d
 | nil (k:Nat):Fit (.v (.slice none 0 0)) (.aa k [])
 | aa (k:Nat) {es bV:List (List D)} (h:jV es bV):Fit (.aa k es) (.aa k bV)
inductive hQ:List D->List D->Prop
 | nil:hQ [] []
 | cons {d cN:D} {e e':List D} (h:Fit d cN) (t:hQ e e'):hQ (d::e) (cN::e')
inductive jV:List (List D)->List (List D)->Prop
 | nil:jV [] []
 | cons {e e':List D} {es bV:List (List D)} (h:hQ e e') (t:jV es bV):jV (e::es) (e'::bV)
end
theorem hQ.refl:∀e:List D,hQ e e
 | []=>.nil
 | d::e=>.cons (.refl d) (hQ.refl e)
mutual
theorem Fit.rep{w:World}{ω:Own}:∀{d cN:D},Fit d cN->∀{R:List (Nat×Nat)->cx->Prop} {y:Value},bA w ω R d y->bA w ω R cN y
 | _,_,.refl d,_,_,h=>h
 | _,_,.nil k,_,_,h=>by cases h;exact .nil _ _ _
 | _,_,.aa k f,_,_,h=>by
  obtain⟨ak,ag⟩:=jV.get (w:=w) (ω:=ω) f;cases h with
  | nil=>
   have:=rm ak.symm;subst this;exact .nil _ _ _
  | row R k es b off cap arr ty cj us ah c6 ai ad aT hu ay=>
   rw[ak];refine .row _ _ _ b off cap arr ty cj us ah c6 (ak▸ai) ad (fun e he=>?_) (fun i j cN dp=>?_) (fun i j cN dp=>?_)
   ·obtain⟨i,hi⟩:=mA.1 he;obtain⟨b8,J,U,_⟩:=ag i e hi;rw[<-U];exact aT b8 (eD J)
   ·unfold cq at dp;rw[jT]at dp;obtain⟨e,J,U⟩:=dp;obtain⟨b8,ax,_,a1⟩:=ag i e J;obtain⟨d,bt,_⟩:=a1 j cN U;exact hu i j d (by unfold cq;rw[ax];exact bt)
   unfold cq at dp;rw[jT]at dp;obtain⟨e,J,U⟩:=dp;obtain⟨b8,ax,_,a1⟩:=ag i e J;obtain⟨d,bt,bQ⟩:=a1 j cN U;exact bQ (ay i j d (by unfold cq;rw[ax];exact bt))
theorem hQ.get{w:World}{ω:Own}:∀{e e':List D},hQ e e'->e.length=e'.length/\∀(j:Nat) (cN:D),e'[j]?=some cN->∃d,e[j]?=some d/\∀{R:List (Nat×Nat)->cx->Prop} {y:Value},bA w ω R d y->bA w ω R cN y
 | _,_,.nil=>⟨rfl,fun j cN h=>by simp at h⟩
 | _,_,.cons h t=>by
  obtain⟨J,U⟩:=hQ.get (w:=w) (ω:=ω) t;refine⟨by simp[J],fun j cN ay=>?_⟩;cases j with
  | zero=>
   simp only[jB,aH]at ay;subst ay;exact⟨_,rfl,fun ar=>Fit.rep h ar⟩
  | succ j=>exact U j cN (by simpa using ay)
theorem jV.get{w:World}{ω:Own}:∀{es bV:List (List D)},jV es bV->es.length=bV.length/\∀(i:Nat) (e':List D),bV[i]?=some e'->∃e,es[i]?=some e/\e.length=e'.length/\∀(j:Nat) (cN:D),e'[j]?=some cN->∃d,e[j]?=some d/\∀{R:List (Nat×Nat)->cx->Prop} {y:Value},bA w ω R d y->bA w ω R cN y
 | _,_,.nil=>⟨rfl,fun j cN h=>by simp at h⟩
 | _,_,.cons h t=>by
  obtain⟨J,U⟩:=jV.get (w:=w) (ω:=ω) t;obtain⟨ax,aJ⟩:=hQ.get (w:=w) (ω:=ω) h;refine⟨by simp[J],fun j cN ay=>?_⟩;cases j with
  | zero=>
   simp only[jB,aH]at ay;subst ay;exact⟨_,rfl,ax,aJ⟩
  | succ j=>exact U j cN (by simpa using ay)
end
inductive n0:b7->b7->Prop
 | one {d cN:D} (h:Fit d cN):n0 (.one d) (.one cN)
 | agg {e e':List D} (h:hQ e e'):n0 (.agg e) (.agg e')
theorem n0.refl(a:b7):n0 a a:=by
 cases a with
 | one d=>exact .one (.refl d)
 | agg e=>exact .agg (.refl e)
inductive k4:List b7->List b7->Prop
 | nil:k4 [] []
 | cons {a b4:b7} {as jf:List b7} (h:n0 a b4) (t:k4 as jf):k4 (a::as) (b4::jf)
theorem k4.get:∀{as jf:List b7},k4 as jf->as.length=jf.length/\∀(i:Nat) (b4:b7),jf[i]?=some b4->∃a,as[i]?=some a/\n0 a b4
 | _,_,.nil=>⟨rfl,fun j cN h=>by simp at h⟩
 | _,_,.cons h t=>by
  obtain⟨J,U⟩:=k4.get t;refine⟨by simp[J],fun j cN ay=>?_⟩;cases j with
  | zero=>
   simp only[jB,aH]at ay;subst ay;exact⟨_,rfl,h⟩
  | succ j=>exact U j cN (by simpa using ay)
variable{w:World}
theorem n0.cell{ω:Own}{r:Nat}{a b4:b7}{y:Value}(h:n0 a b4)(ai:jP w ω r a y):jP w ω r b4 y:=by
 cases h with
 | one h=>exact h.rep ai
 | agg h=>
  obtain⟨vs,rfl,aR,aU⟩:=ai;obtain⟨J,U⟩:=hQ.get (w:=w) (ω:=ω) h;refine⟨vs,rfl,by omega,fun j cN ay=>?_⟩;obtain⟨d,ax,aJ⟩:=U j cN ay;obtain⟨u,a1,bt⟩:=aU j d ax;exact⟨u,a1,aJ bt⟩
variable{rs rb:List b7}
theorem k4.all{ω:Own}{v:Value}(h:k4 rs rb)(ar:j7 w ω rs v):j7 w ω rb v:=by
 cases h with
 | nil=>exact ar
 | cons h t=>
  cases t with
  | nil=>exact h.cell ar
  | cons U t2=>
   obtain⟨vs,e,aR,a8⟩:=ar;obtain⟨ax,aJ⟩:=k4.get (.cons h (.cons U t2));refine⟨vs,e,by omega,fun i b4 aC=>?_⟩;obtain⟨a,a1,bt⟩:=aJ i b4 aC;obtain⟨y,bQ,cZ⟩:=a8 i a a1;exact⟨y,bQ,bt.cell cZ⟩
variable{P:Program}{f:FuncId}
theorem cv.fit{args:List ba}(h:cv P f args (.vals rs))(k:k4 rs rb):cv P f args (.vals rb):=by
 intro w vs ω ar jk nq;refine (h w vs ω ar jk nq).mono ?_;rintro e aD ⟨v,rfl,ah,aP,J,U,ax,aJ⟩;exact⟨v,rfl,ah,aP,J,U,ax,k.all aJ⟩
theorem gm.fit{args:List b7}(h:gm P f args rs)(k:k4 rs rb):gm P f args rb:=by
 intro w vs pA ar;refine (h w vs pA ar).mono ?_;rintro e aD ⟨v,rfl,ah,ω,J,U,ax⟩;exact⟨v,rfl,ah,ω,J,U,k.all ax⟩
theorem n0.arg{a b4:b7}{y:Value}(h:n0 a b4)(ai:rr w a y):rr w b4 y:=by
 cases h with
 | one h=>exact h.rep ai
 | agg h=>
  obtain⟨vs,rfl,aR,aU⟩:=ai;obtain⟨J,U⟩:=hQ.get (w:=w) (ω:=fun _=>.bc) h;refine⟨vs,rfl,by omega,fun j cN ay=>?_⟩;obtain⟨d,ax,aJ⟩:=U j cN ay;obtain⟨u,a1,bt⟩:=aU j d ax;exact⟨u,a1,aJ bt⟩
theorem gm.args{as jf:List b7}(h:gm P f jf rs)(k:k4 as jf):gm P f as rs:=by
 intro w vs pA ar;obtain⟨J,U⟩:=k.get;refine h w vs pA ⟨by rw[ar.1,J],fun i b4 aC=>?_⟩;obtain⟨a,ax,aJ⟩:=U i b4 aC;obtain⟨v,a1,bt⟩:=ar.2 i a ax;exact⟨v,a1,aJ.arg bt⟩
