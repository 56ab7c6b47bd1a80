import Derived.Test.YtdchjefneblpgaaGreatR15
set_option linter.unusedVariables false
set_option linter.unusedSimpArgs false
namespace Go.Sx
open Go.RowKit
def jZ(i:Nat):Nat:=dj+i
def kl(i j:Nat):Nat:=dj+100+(100*i+j)
def a7.aR(i:Nat):a7->bm
 | .ro (.one (.J k es))=>.one (.e5 (kl i 0) k es)
 | .ro a=>a.arg
 | .jv _ _ _=>.one (.ptr (jZ i) 0)
 | .fn g cS=>.one (.hr g (cS.map jZ))
def D.Th(t:Nat):D->aG
 | .J k es=>.e5 t k es
 | _=>.cu
def uF(i:Nat)(pn:List Bool):Nat->List D->List aG
 | _,[]=>[]
 | j,d::ds=>(if stays pn j then d.Th (kl i j) else d.qO (r' i j))::uF i pn (j+1) ds
theorem VD(i:Nat)(pn:List Bool):∀(ds:List D) (j x:Nat),(uF i pn j ds)[x]?=(ds[x]?).map fun d=>if stays pn (j+x) then d.Th (kl i (j+x)) else d.qO (r' i (j+x))
 | [],_,_=>by simp[uF]
 | d::ds,j,0=>by simp[uF]
 | d::ds,j,x+1=>by
  simp only[uF,p3,VD i pn ds (j+1) x];rw[show j+1+x=j+(x+1) by omega]
theorem VE(i:Nat)(pn:List Bool):∀(ds:List D) (j:Nat),(uF i pn j ds).length=ds.length
 | [],_=>rfl
 | d::ds,j=>by simp[uF,VE i pn ds (j+1)]
def wK:Nat->List a7->List aH
 | _,[]=>[]
 | i,a::as=>.aR (a.aR i)::wK (i+1) as
def AW:Nat->List a7->List (Nat×List aG)
 | _,[]=>[]
 | i,.jv pn pre _::as=>(jZ i,uF i pn 0 pre)::AW (i+1) as
 | i,.ro _::as=>AW (i+1) as
 | i,.fn _ _::as=>AW (i+1) as
def CC(args:List a7)(ntmps:Nat):aD:=⟨(wK 0 args).take (uU args)++List.replicate (ntmps-uU args) .cu,AW 0 args⟩
theorem VF:∀(as:List a7) (i x:Nat),(wK i as)[x]?=(as[x]?).map fun a=>.aR (a.aR (i+x))
 | [],i,x=>by simp[wK]
 | a::as,i,0=>by simp[wK]
 | a::as,i,x+1=>by
  simp only[wK,p3,VF as (i+1) x];rw[show i+1+x=i+(x+1) by omega]
theorem N9:∀(as:List a7) (i:Nat),(wK i as).length=as.length
 | [],_=>rfl
 | a::as,i=>by simp[wK,N9 as (i+1)]
theorem Hb{id:Nat}{ls:List aG}:∀{as:List a7} {i:Nat},dI id (AW i as)=some ls->∃x pn pre post,as[x]?=some (.jv pn pre post)/\id=jZ (i+x)/\ls=uF (i+x) pn 0 pre
 | [],i,h=>by cases h
 | .ro _::as,i,h=>by
  obtain⟨x,pn,pre,post,h1,U,aA⟩:=Hb (as:=as) (i:=i+1) h;exact⟨x+1,pn,pre,post,by simpa using h1,by rw[U,show i+1+x=i+(x+1) by omega],by rw[aA,show i+1+x=i+(x+1) by omega]⟩
 | .fn _ _::as,i,h=>by
  obtain⟨x,pn,pre,post,h1,U,aA⟩:=Hb (as:=as) (i:=i+1) h;exact⟨x+1,pn,pre,post,by simpa using h1,by rw[U,show i+1+x=i+(x+1) by omega],by rw[aA,show i+1+x=i+(x+1) by omega]⟩
 | .jv pn pre post::as,i,h=>by
  simp only[AW,dI]at h;split at h
  ·rename_i e;exact⟨0,pn,pre,post,rfl,e.symm,(gX h).symm⟩
  obtain⟨x,ae4,pre,post,h1,U,aA⟩:=Hb (as:=as) (i:=i+1) h;exact⟨x+1,ae4,pre,post,by grind,by grind,by grind⟩
def Ec(args:List a7):Bool:=decide (args.length<49)&&args.all fun
 | .ro _=>true
 | .jv pn pre post=>decide (pn.length<100)&&decide (pre.length<100)&&decide (post.length<100)
 | .fn _ cS=>cS.all fun k=>match args[k]? with | some (.jv _ _ _)=>true | _=>false
def Fl:Value->Nat
 | .pointer (some p)=>p.block
 | _=>0
def o0(args:List a7)(w:World)(vs:Array Value)(t:Nat):Nat×Value:=
 if dj+100<=t then
  match args[(t-(dj+100)) / 100]? with
  | some (.jv _ pre _)=>(((pre[(t-(dj+100)) % 100]?).map D.uY).getD 0,jn w (vs.getD ((t-(dj+100)) / 100) undef) ((t-(dj+100)) % 100))
  | some (.ro (.one d))=>(d.uY,vs.getD ((t-(dj+100)) / 100) undef)
  | _=>(0,undef)
 else if dj<=t then (Fl (vs.getD (t-dj) undef),undef) else
 match args[(t-900000000) / 100]? with
 | some (.jv _ pre _)=>(((pre[(t-900000000) % 100]?).map D.uY).getD 0,jn w (vs.getD ((t-900000000) / 100) undef) ((t-900000000) % 100))
 | _=>(0,undef)
def uw(ω:Own):Own:=fun b=>match ω b with | .box i=>.box (jZ i) | o=>o
variable{ω:Own}{b:Nat}
theorem axA{t:Nat}{q:List (Nat×Nat)}(h:ω b=.tok t q):uw ω b=.tok t q:=by grind[uw]
theorem VG:uw ω b=.bJ<->ω b=.bJ:=by
 grind[uw]
variable{i:Nat}
theorem Hc:uw ω b=.box (jZ i)<->ω b=.box i:=by
 grind[uw,jZ,dp.box.injEq]
variable{args:List a7}{w:World}{vs:Array Value}
theorem UR{j:Nat}{pn:List Bool}{pre post:List D}(h:args[i]?=some (.jv pn pre post))(a8:j<100):
  o0 args w vs (kl i j)=(((pre[j]?).map D.uY).getD 0,jn w (vs.getD i undef) j):=by
 have e1:(kl i j-(dj+100)) / 100=i:=by grind[kl]
 have e2:(kl i j-(dj+100)) % 100=j:=by grind[kl]
 unfold o0;rw[bh (by grind[kl]),e1,e2,h]
theorem US{d:D}(h:args[i]?=some (.ro (.one d))):o0 args w vs (kl i 0)=(d.uY,vs.getD i undef):=by
 simp_all[kl,dj,o0,bh]
theorem axB(eh:Ec args=true)(h:JH w ω args vs)(mC:JC args vs)(pw:Tidy w ω)(ntmps:Nat):
  Rel ⟨w,fun b=>ω b≠.bJ,o0 args w vs⟩ (CC args ntmps) { tmps:=vs.extract 0 (uU args)++Array.replicate (ntmps-(vs.extract 0 (uU args)).size) undef,defers:=[] } w:=by
 have KX:uU args<=args.length:=Nat.sub_le _ _;obtain⟨gS,dk,aP,ae⟩:=h;simp only[Ec,b9,cc,gP]at eh;have zu:∀{d:D} {y:Value},bZ w ω Tag.free.R d y->bZ w (uw ω) Tag.free.R d y:=fun h=>h.frame fun b q _ aC=>⟨VG.2 aC,rfl⟩
 have dN:(vs.extract 0 (uU args)).size=uU args:=by grind
 refine⟨uw ω,o0 args w vs,rfl,by grind[CC,N9],ho.start pw,fun b aq=>?_,fun _ _=>rfl,?_,?_,fun id ls aj=>?_⟩
 ·have:ω b≠.bJ:=fun e=>aq (VG.2 e)
  exact⟨.inr this,gS b this⟩
 ·intro id b hi aq;simp only[uw]at aq;cases e:ω b with
  | bJ=>grind
  | tok t q=>grind
  | box i=>
   rw[e]at aq;simp only[dp.box.injEq]at aq;subst aq;obtain⟨pn,pre,post,h1⟩:=dk b i e;obtain⟨v,bD,⟨eO,arr,ty,rfl,U,aA,_⟩,_⟩:=ae i _ h1;have:=aA b e;subst this;have Cc:i<49:=by
    grind
   simp only[o0];rw[bq (by grind[jZ]),bh hi,show jZ i-dj=i by simp[jZ],eW,bD];rfl
 ·intro i p hp;simp only[CC]at hp;rw[qS,u7,N9,Nat.min_eq_left KX]at hp;split at hp
  ·rename_i hi;rw[kK,bh hi,VF,b5]at hp;obtain⟨iy,rD,rfl⟩:=hp;rw[dV];obtain⟨v,bD,bI⟩:=ae i iy rD;have qo:i<vs.size:=by omega
   refine⟨v,by rw[kr,bh (by grind),Array.getElem?_extract,bh (by omega),dV,bD],?_⟩;cases iy with
   | fn g cS=>
    have h1:=mC i g cS rD;rw[bD]at h1;cases h1;refine⟨cS.map fun k=>Fl (vs.getD k undef),?_,by simp,fun j id a8=>?_⟩
    ·congr 2
     rw[List.map_map];refine l1 fun k hk=>?_
     have U:=eh.2 _ (f' rD);have aA:=gP.1 U k hk;split at aA
     ·rename_i pn pre post ru;obtain⟨v2,ui,⟨fo,_,_,rfl,_⟩,_⟩:=ae k _ ru;simp[eW,ui,ptrTo,Fl]
     cases aA
    rw[eg,b5]at a8;obtain⟨k,hk,rfl⟩:=a8;have U:=eh.2 _ (f' rD);have aA:=gP.1 U k (f' hk);split at aA
    ·rename_i pn pre post ru;obtain⟨v2,ui,⟨fo,_,_,rfl,a',_⟩,_⟩:=ae k _ ru;refine⟨fo,?_,Hc.2 a'⟩;simp[hk,eW,ui,ptrTo,Fl]
    cases aA
   | jv pn pre post=>
    obtain⟨⟨b,arr,ty,rfl,U,_⟩,_⟩:=bI;exact⟨b,Hc.2 U,rfl⟩
   | ro ct=>
    cases ct with
    | one d=>
     cases d with
     | J k es=>
      refine⟨zu bI,fun _=>?_⟩;rw[US rD,eW,bD];rfl
     | v x=>exact D.dX (τ:=o0 args w vs) (p:=(0,0)) (t:=.free) (zu bI)
     | ptr ds=>exact D.dX (τ:=o0 args w vs) (p:=(0,0)) (t:=.free) (zu bI)
     | cl g cs=>exact D.dX (τ:=o0 args w vs) (p:=(0,0)) (t:=.free) (zu bI)
    | agg ds=>
     obtain⟨us,rfl,hlen,qk⟩:=bI;refine⟨us,rfl,by grind,fun j l aj=>?_⟩;rw[eg,b5]at aj;obtain⟨d,aF,rfl⟩:=aj;obtain⟨u,h1,U⟩:=qk j d aF;exact⟨u,h1,D.dX (p:=(0,0)) (t:=.free) (zu U)⟩
  rename_i hi;rw[E0]at hp;split at hp
  ·rename_i bM;simp only[aX]at hp;subst hp;refine⟨undef,?_,ad⟩;grind
  cases hp
 obtain⟨i,pn,pre,post,h1,rfl,rfl⟩:=Hb aj;rw[dV];obtain⟨v,bD,⟨b,arr,ty,rfl,U,aA,aI,a',bu⟩,bU⟩:=ae i _ h1;refine⟨b,arr,ty,Hc.2 U,fun dA er=>aA dA (Hc.1 er),aI,by grind[VE],fun j l aj=>?_⟩;rw[VD,b5]at aj;obtain⟨d,aF,rfl⟩:=aj;rw[dV];obtain⟨u,hu,aB⟩:=bu j d aF;have a8:j<100:=by
  have e1:=eh.2 _ (f' h1);grind
 refine⟨u,hu,?_⟩;cases fQ:stays pn j with
 | true=>
  rw[bh rfl];have cI:=bU j d aF fQ;have e:jn w (ptrTo b) j=u:=by simp_all[jn,ptrTo]
  rw[e]at cI;cases d with
  | J k es=>
   refine⟨zu cI,fun _=>?_⟩;rw[UR h1 a8,eW,bD];simp only[l0,e,aF,si];rfl
  | _=>exact trivial
 | false=>
 rw[bq (by simp)];replace aB:=aB fQ;cases d with
 | v x=>
  have e:u=x:=by cases aB;rfl
  subst e;unfold D.qO;split
  ·rename_i h;cases h;exact rfl
  ·rename_i h;cases h;exact rfl
  ·grind
  ·exact trivial
  grind
 | ptr ds=>exact trivial
 | cl g bl=>exact trivial
 | J k es=>
  refine⟨aB.frame fun c q _ aC=>⟨axA aC,rfl⟩,?_⟩;have e1:(r' i j-900000000) / 100=i:=by grind[r']
  have e2:(r' i j-900000000) % 100=j:=by grind[r']
  have hi:i<49:=by
   grind
  simp only[Tag.ev,o0];rw[bq (by grind[r',dj]),bq (by grind[r',dj])];simp only[e1,e2,h1,aF];simp[jn,ptrTo,aI,eW,bD,hu,D.uY]
def qR:List (Option Nat)->List aG->Option (List aG)
 | [],ls=>some ls
 | some t::ts,.e5 s _ _::ls=>if s=t then (qR ts ls).map fun r=>.v (.bool true)::r else none
 | none::ts,l::ls=>(qR ts ls).map fun r=>l::r
 | none::ts,[]=>qR ts []
 | some _::_,_=>none
theorem Hd:∀{ts:List (Option Nat)} {ls fJ:List aG},qR ts ls=some fJ->fJ.length=ls.length/\(∀(j t:Nat),ts[j]?=some (some t)->∃k es,ls[j]?=some (.e5 t k es))/\∀j,ts.getD j none=none->fJ[j]?=ls[j]?
 | [],ls,fJ,h=>by
  simp_all[qR,aX]
 | some t::ts,.e5 s k es::ls,fJ,h=>by
  simp only[qR]at h;split at h
  ·rename_i e;subst e;rw[b5]at h;obtain⟨r,h1,rfl⟩:=h;obtain⟨g1,g2,g3⟩:=Hd h1;grind
  cases h
 | none::ts,l::ls,fJ,h=>by
  simp only[qR,b5]at h;obtain⟨r,h1,rfl⟩:=h;obtain⟨g1,g2,g3⟩:=Hd h1;grind
 | none::ts,[],fJ,h=>by
  simp only[qR]at h;obtain⟨g1,g2,g3⟩:=Hd h;refine⟨g1,fun j t a8=>?_,fun j a8=>?_⟩
  ·cases j with
   | zero=>simp at a8
   | succ j=>obtain⟨k,es,h⟩:=g2 j t (by simpa using a8);simp at h
  have:fJ=[]:=u' g1;rw[this]
def tT:List (Option Nat)->List aG->List D->List D
 | some _::ts,.e5 _ k es::ls,_::ds=>.J k es::tT ts ls ds
 | _::ts,_::ls,d::ds=>d::tT ts ls ds
 | _,_,ds=>ds
theorem axC:∀(ts:List (Option Nat)) (ls:List aG) (ds:List D),(tT ts ls ds).length=ds.length/\∀j,ts.getD j none=none->(tT ts ls ds)[j]?=ds[j]?:=by
 intro ts ls ds
 fun_induction tT ts ls ds with
 | case1 t ts s k es ls d ds dL=>
  grind
 | case2 x ts l ls d ds _ dL=>
  grind
 | case3=>grind
def sZ(i:Nat):Nat->List Bool->List (Option Nat)
 | _,[]=>[]
 | j,b::r=>(if b then some (kl i j) else none)::sZ i (j+1) r
theorem N'(i:Nat):∀(pn:List Bool) (j x:Nat),(sZ i j pn)[x]?=(pn[x]?).map fun b=>if b then some (kl i (j+x)) else none
 | [],_,_=>by simp[sZ]
 | b::r,j,0=>by simp[sZ]
 | b::r,j,x+1=>by
  simp only[sZ,p3,N' i r (j+1) x];rw[show j+1+x=j+(x+1) by omega]
def uG(st:aD):Nat->List a7->Option (List a7×iQ)
 | _,[]=>some ([],[])
 | i,.ro a::as=>(uG st (i+1) as).map fun r=>(.ro a::r.1,r.2)
 | i,.fn g cS::as=>(uG st (i+1) as).map fun r=>(.fn g cS::r.1,r.2)
 | i,.jv pn pre post::as=>
  match dI (jZ i) st.boxes with
  | some ls=>
   match qR (sZ i 0 pn) ls with
   | some fJ=>
    match sb (h8 i 0) fJ post,uG st (i+1) as with
    | some (ds,ts),some r=>some (.jv pn pre (tT (sZ i 0 pn) ls ds)::r.1,ts++r.2)
    | _,_=>none
   | none=>none
  | none=>none
theorem He{st:aD}:∀{as mx:List a7} {i:Nat} {ts:iQ},uG st i as=some (mx,ts)->mx.length=as.length/\∀(x:Nat) (pn:List Bool) (pre post:List D),mx[x]?=some (.jv pn pre post)->
  ∃ls fJ ds hint lX,dI (jZ (i+x)) st.boxes=some ls/\qR (sZ (i+x) 0 pn) ls=some fJ/\sb (h8 (i+x) 0) fJ hint=some (ds,lX)/\post=tT (sZ (i+x) 0 pn) ls ds/\∀y∈lX,y∈ts
 | [],mx,i,ts,h=>by
  simp_all[uG,aX,bH]
 | .ro a::as,mx,i,ts,h=>by
  simp only[uG,b5]at h;obtain⟨⟨b4,cQ⟩,h1,h⟩:=h;simp only[bH]at h;obtain⟨rfl,rfl⟩:=h;obtain⟨b8,bt⟩:=He h1;refine⟨by simp[b8],fun x pn pre post aa=>?_⟩;cases x with
  | zero=>simp at aa
  | succ x=>
   have:=bt x pn pre post (by simpa using aa);rwa[show i+1+x=i+(x+1) by omega]at this
 | .fn g cS::as,mx,i,ts,h=>by
  simp only[uG,b5]at h;obtain⟨⟨b4,cQ⟩,h1,h⟩:=h;simp only[bH]at h;obtain⟨rfl,rfl⟩:=h;obtain⟨b8,bt⟩:=He h1;refine⟨by simp[b8],fun x pn pre post aa=>?_⟩;cases x with
  | zero=>simp at aa
  | succ x=>
   have:=bt x pn pre post (by simpa using aa);rwa[show i+1+x=i+(x+1) by omega]at this
 | .jv pn pre post::as,mx,i,ts,h=>by
  simp only[uG]at h;split at h
  ·rename_i ls e1;split at h
   ·rename_i fJ cd;split at h
    ·rename_i ds Qi r e2 cx;simp only[aX,bH]at h;obtain⟨rfl,rfl⟩:=h;obtain⟨b8,bt⟩:=He cx;grind
    cases h
   cases h
  cases h
def Hf(src:List (Option Nat)):List (Option Nat):=src.map fun x=>x.map fun a=>kl a 0
def aBk(args:List a7):bi->Bool
 | .vals _=>true
 | .iZ src _=>src.all fun
  | some a=>match args[a]? with | some (.ro (.one _))=>true | _=>false
  | none=>true
def Qe(P:Program)(st:aD)(kJ:List ResultVar):bi->Option (bi×iQ×Option Nat)
 | .vals hint=>
  match kJ.mapM (rW P st) with
  | some ca=>(tt 0 ca hint).map fun r=>(.vals r.1,r.2,none)
  | none=>none
 | .iZ src hint=>
  match kJ.mapM (rW P st) with
  | some [.aR (.one (.ptr id 0))]=>
   match dI id st.boxes with
   | some ls=>
    match qR (Hf src) ls with
    | some fJ=>if id<dj then (sb (h8 49 0) fJ hint).map fun r=>(.iZ src (tT (Hf src) ls r.1),r.2,some id) else none
    | none=>none
   | none=>none
  | _=>none
def Fz(P:Program)(st:aD)(kJ:List ResultVar)(args:List a7)(hint:bi):Option (bi×List a7):=
 match Qe P st kJ hint,uG st 0 args with
 | some (r,ts,_),some (as,u1)=>if Ec args&&aBk args r&&HS (ts++u1) then some (r,as) else none
 | _,_=>none
def n2(ω:Own)(ts:iQ)(nw:Option Nat):Own:=fun b=>
 match ω b with
 | .tok t q=>match ts.at t with | some n=>.tok n q | none=>.bJ
 | .box id=>if nw=some id then .box 49 else if dj<=id/\id<dj+49 then .box (id-dj) else .bJ
 | .bJ=>.bJ
variable{ts:iQ}
theorem Oa{nw:Option Nat}{n:Nat}{q:List (Nat×Nat)}(h:jo ω ts b=.tok n q):n2 ω ts nw b=.tok n q:=by
 grind[jo,n2,id]
theorem nz.aBs{nw:Option Nat}{r:Nat}{d:cL}{y:Value}(h:nz w (jo ω ts) r d y):nz w (n2 ω ts nw) r d y:=by
 cases d with
 | one d=>exact bZ.frame h fun b q _ aC=>⟨Oa aC,rfl⟩
 | agg ds=>
  obtain⟨vs,e,aP,a8⟩:=h;exact⟨vs,e,aP,fun j d aF=>by
   obtain⟨u,hu,aB⟩:=a8 j d aF;exact⟨u,hu,aB.frame fun b q _ aC=>⟨Oa aC,rfl⟩⟩⟩
theorem UT{τ:Nat->Nat×Value}{nw:Option Nat}{id i:Nat}{ls fJ:List aG}{hint ds:List D}{lX:iQ}{cS:List (Option Nat)}{pn:List Bool}(lu:∀t n,(t,n)∈ts->ts.at t=some n)
  (aq:vb w ω τ id ls) (gS:qR cS ls=some fJ) (adG:∀j,stays pn j=false->cS.getD j none=none) (aB:sb (h8 i 0) fJ hint=some (ds,lX)) (iF:∀y∈lX,y∈ts) (hD:∀b,ω b=.box id->n2 ω ts nw b=.box i) (aep:∀b,n2 ω ts nw b=.box i->ω b=.box id):
  ∀{y:Value},(∃b,ω b=.box id/\y=ptrTo b)->w7 w (n2 ω ts nw) i pn (h8 i) (tT cS ls ds) y/\∀(j t:Nat),cS[j]?=some (some t)->dj<=t->(τ t).2=jn w y j:=by
 rintro y ⟨dA,er,rfl⟩;obtain⟨b,arr,ty,h1,U,aA,aI⟩:=aq;have:=U dA er;subst this;obtain⟨a',bu⟩:=Mx (w:=w) (ω:=ω) (τ:=τ) lu aB iF;obtain⟨gV,kq,u3⟩:=Hd gS;obtain⟨f1,f2⟩:=axC cS ls ds;refine⟨⟨dA,arr,ty,rfl,hD dA er,fun c al=>U c (aep c al),aA,by have:=aI.1;omega,fun j d aF=>?_⟩,fun j t a8 bG=>?_⟩
 ·have kY:j<ls.length:=by
   grind
  obtain⟨u,hu,ai⟩:=aI.2 j _ (jA kY);refine⟨u,hu,fun fQ=>?_⟩;have hk:=adG j fQ;rw[f2 j hk]at aF;obtain⟨l,aj,c'⟩:=bu j d aF;rw[u3 j hk,jA kY]at aj;cases aj;have:=c' u ai;rw[show h8 i 0+j=h8 i j by grind[h8]]at this;exact this.frame fun b q _ aC=>⟨Oa aC,rfl⟩
 obtain⟨k,es,aj⟩:=kq j t a8;obtain⟨u,hu,ai⟩:=aI.2 j _ aj;rw[ai.2 bG];simp[jn,ptrTo,aA,eW,hu]
theorem UU{P:Program}{f:FuncId}{fn:Func}{c:Code}{r:bi}{ans cq:List cb}{obs:List Prop}{e:hA}{st:aD}(br:P.funcs[f]?=some fn)(aq:fn.body=some c)
  (fG:run P c (CC args fn.ntmps) ans=some (e,st,cq,obs)) (aW:c8 obs) (he:e=.ret\/e=.normal) (fi:Fz P st fn.results.toList args r=some (r,args)):cH P f args r:=by
 intro w vs E4 nR Ky pw;unfold Fz at fi;split at fi
 ·rename_i b4 ts nw as u1 ib oK;split at fi
  ·rename_i bI;simp only[aX,bH]at fi;obtain⟨rfl,rfl⟩:=fi;rw[b9,b9]at bI;obtain⟨⟨eh,jL⟩,bI⟩:=bI;have lu:∀t n,(t,n)∈ts++u1->iQ.at t (ts++u1)=some n:=fun t n h=>HT bI h
   refine calls_of_wp br aq (Code.wp_mono (fun e' cJ aM hp=>?_) (oQ c fG aW _ _ w (axB eh nR Ky pw fn.ntmps)));obtain⟨rfl,ω,τ,aZ⟩:=hp;have aC9:b4=b4/\as.length<49:=by
    simp_all[Ec,b9,cc]
   have FX:∀id,nw=some id->id<dj:=by
    intro id e;subst e;unfold Qe at ib;split at ib
    ·grind[b5,bH,absurd]
    grind[b5,bH,aX]
   have hm:∃v,(results fn cJ.tmps).run P aM=.ok v aM/\Fc aM (n2 ω (ts++u1) nw) vs b4 v:=by
    have SG:∀{ca:List aH},fn.results.toList.mapM (rW P st)=some ca->∃zs:List Value,(results fn cJ.tmps).run P aM=.ok (if h:zs.toArray.size=1 then zs.toArray[0] else .tuple zs.toArray) aM/\zs.length=ca.length/\∀(i:Nat) (p:aH),ca[i]?=some p->∃z,zs[i]?=some z/\cT (Sat aM ω τ) p z:=by
     intro ca uf;obtain⟨zs,h1,U,aA⟩:=HV aZ uf;have hm:=GQ (P:=P) _ fn.results aM _ h1;refine⟨zs,?_,U,aA⟩;rw[My,Sem.run_bind,hm];rfl
    unfold Qe at ib;split at ib
    ·rename_i hint;split at ib
     ·rename_i ca uf;rw[b5]at ib;obtain⟨⟨ds,Qi⟩,e6,h⟩:=ib;simp only[bH,bi.vals.injEq]at h;obtain⟨rfl,rfl,rfl⟩:=h;obtain⟨zs,h1,U,aA⟩:=SG uf;obtain⟨aI,a'⟩:=HU (w:=aM) (ω:=ω) (τ:=τ) lu e6 (fun x aa=>gE _ aa);have fq:∀(j:Nat) (d:cL),ds[j]?=some d->∃z,zs[j]?=some z/\nz aM (n2 ω (Qi++u1) none) j d z:=by
       intro j d aF;obtain⟨p,hp,ue⟩:=a' j d aF;obtain⟨z,aL,nV⟩:=aA j p hp;have:=ue z nV;rw[dV]at this;exact⟨z,aL,this.aBs⟩
      have np:zs.length=ds.length:=by omega
      refine⟨_,h1,?_⟩;show n0 _ _ _ _;generalize bD:(if h:zs.toArray.size=1 then zs.toArray[0] else Value.tuple zs.toArray)=v;unfold n0;split
      ·rename_i ct;obtain⟨z,aL,al⟩:=fq 0 ct rfl;grind
      rename_i cU;have h1:¬zs.toArray.size=1:=by
       intro h;simp at h;rw[np]at h;obtain⟨d,aF⟩:=List.length_eq_one_iff.1 h;grind
      grind
     cases ib
    rename_i src hint;split at ib
    ·rename_i id uf;split at ib
     ·rename_i ls dk;split at ib
      case h_2=>cases ib
      rename_i fJ gS;split at ib
      ·rename_i bM;rw[b5]at ib;obtain⟨⟨ds,Qi⟩,e6,h⟩:=ib;simp only[bH,bi.iZ.injEq,true_and]at h;obtain⟨rfl,rfl,rfl⟩:=h;obtain⟨zs,h1,U,aA⟩:=SG uf;obtain⟨z,aL,b,aeA,sO⟩:=aA 0 _ rfl;have sN:zs=[z]:=by
        match zs,U,aL with
        | [z0],_,aL=>grind
       subst sN;refine⟨z,by grind,?_⟩;have Cs:=UT (pn:=yS src) (nw:=some id) (i:=49) lu (aZ.boxes id ls dk) gS (fun j a8=>by
        simp only[stays,yS,lZ,eg]at a8;simp only[Hf,lZ,eg];cases e:src[j]? with
        | none=>rfl
        | some x=>simp_all) e6 (fun y bk=>gE _ bk) (fun b aq=>by simp_all[n2,fU]) (fun b aq=>?_) ⟨b,aeA,sO⟩
       ·refine⟨Cs.1,fun j x aa=>?_⟩;have aI:=Cs.2 j (kl x 0) (by simp[Hf,aa]) (by grind[kl]);have a':=gP.1 jL _ (f' aa);simp only at a';split at a'
        ·rename_i d aF;rw[aZ.fixed _ (by grind[kl])]at aI;change (o0 as w vs (kl x 0)).2=_ at aI;rw[US aF]at aI;have bu:x<vs.size:=by
          have:=(gh.1 aF).1;have:=nR.2.2.1;omega
         simp_all
        cases a'
       grind[n2,gX,dp.box.injEq]
      cases ib
     cases ib
    cases ib
   obtain⟨v,uh,ui⟩:=hm;have ef:∃v,(results fn cJ.tmps).run P aM=.ok v aM/\∃u,Ending.returned v=.returned u/\ho ⟨w,fun b=>E4 b≠.bJ,fun _=>(0,undef)⟩ aM/\
     ∃bc:Own,(∀b,b<w.heap.size->E4 b=.bJ->bc b=.bJ)/\HF aM bc/\(∀(i:Nat) (pn:List Bool) (pre post:List D) (y:Value),as[i]?=some (.jv pn pre post)->vs[i]?=some y->w7 aM bc i pn (h8 i) post y/\∀j,stays pn j=true->jn aM y j=jn w y j)/\Fc aM bc vs b4 u:=by
    refine⟨v,uh,v,rfl,⟨aZ.below.os,aZ.below.tape,aZ.below.output,aZ.below.size,aZ.below.block,aZ.below.drawn,aZ.below.laid,aZ.below.free⟩,n2 ω (ts++u1) nw,fun b aq ar=>?_,fun b aq=>?_,?_,ui⟩
    ·have:ω b=.bJ:=by
      cases e:ω b with
      | bJ=>rfl
      | box id=>
       rcases (aZ.owned b (by simp[e])).1 with h | h
       ·grind
       grind
      | tok t q=>
       rcases (aZ.owned b (by simp[e])).1 with h | h
       ·grind
       grind
     grind[n2]
    ·have:ω b≠.bJ:=fun e=>aq (by grind[n2])
     exact (aZ.owned b this).2
    intro i pn pre post y rD bk;obtain⟨ls,fJ,ds,hint,lX,g1,g0,g2,rfl,g3⟩:=(He oK).2 i pn pre post rD;simp only[dV]at g1 g2 g0 rD ⊢;have hi:i<49:=by
     grind
    have cU:nw≠some (jZ i):=fun e=>by grind[jZ]
    obtain⟨ch,vf,wQ,ht,gj,xh,tX⟩:=aZ.boxes _ ls g1;obtain⟨hz,SN,⟨eO,_,_,hyp,_⟩,_⟩:=nR.2.2.2 i _ rD;rw[bk]at SN;have:=gX SN;subst this;have xr:=aZ.pinned (jZ i) ch (by simp[jZ]) ht;simp only[o0]at xr;rw[bq (by grind[jZ]),bh (by simp[jZ]),show jZ i-dj=i by simp[jZ],eW,bk,hyp]at xr;have xr:eO=ch:=xr;subst xr;have adF:∀j,stays pn j=true->(sZ i 0 pn)[j]?=some (some (kl i j)):=fun j a8=>by
     simp only[stays,lZ]at a8;rw[N',dV];grind
    have Cs:=UT (pn:=pn) (nw:=nw) (i:=i) lu ⟨eO,vf,wQ,ht,gj,xh,tX⟩ g0 (fun j a8=>by
     simp only[stays,lZ]at a8;rw[lZ,N'];grind) g2 (fun y bk=>hP _ (g3 y bk)) (fun b aq=>?_) (fun b aq=>?_) ⟨eO,ht,hyp⟩
    ·refine⟨Cs.1,fun j a8=>?_⟩;have adA:j<100:=by
      simp only[Ec,b9,cc,gP]at eh;have aI:=eh.2 _ (f' rD);simp only[b9,cc]at aI;grind[stays,qV]
     have aI:=Cs.2 j (kl i j) (adF j a8) (by grind[kl]);rw[aZ.fixed _ (by grind[kl])]at aI;change (o0 as w vs (kl i j)).2=_ at aI;rw[UR rD adA]at aI;rw[<-aI];simp only[eW,bk,l0]
    ·simp only[n2,aq];rw[bq cU,bh ⟨by simp[jZ],by grind[jZ]⟩];simp[jZ]
    grind[n2,dp.box.injEq,jZ]
   obtain⟨v,bu,bU⟩:=ef;rcases he with rfl | rfl
   ·exact⟨aZ.defers,v,bu,bU⟩
   exact⟨aZ.defers,v,bu,bU⟩
  cases fi
 cases fi
def L0(P:Program)(c:Code)(ntmps:Nat)(kJ:List ResultVar)(args:List a7)(hint:bi)(ans:List cb):Option (bi×List a7×List Prop):=
 match run P c (CC args ntmps) ans with
 | some (.ret,st,_,obs)=>(Fz P st kJ args hint).map fun r=>(r.1,r.2,obs)
 | some (.normal,st,_,obs)=>(Fz P st kJ args hint).map fun r=>(r.1,r.2,obs)
 | _=>none
theorem cH.of{P:Program}{f:FuncId}{fn:Func}{r:bi}(ans:List cb)(obs:List Prop)(br:P.funcs[f]?=some fn)(aq:fn.body.isSome=true)
  (h:L0 P (oR fn) fn.ntmps fn.results.toList args r ans=some (r,args,obs)) (aW:c8 obs):cH P f args r:=by
 obtain⟨c,al⟩:=sh.1 aq;have B9:oR fn=c:=by simp[oR,al]
 unfold L0 at h;rw[B9]at h;split at h
 ·rename_i st a nY aB;rw[b5]at h;obtain⟨⟨Bh,Qh⟩,h1,h⟩:=h;simp only[bH]at h;obtain⟨rfl,rfl,rfl⟩:=h;exact UU br al aB aW (.inl rfl) h1
 ·rename_i st a nY aB;rw[b5]at h;obtain⟨⟨Bh,Qh⟩,h1,h⟩:=h;simp only[bH]at h;obtain⟨rfl,rfl,rfl⟩:=h;exact UU br al aB aW (.inr rfl) h1
 cases h
end Go.Sx
namespace Go.Sx
open Go.RowKit
mutual
inductive Fit:D->D->Prop
 | refl (d:D):Fit d d
 | nil (k:Nat):Fit (.v (.slice none 0 0)) (.J k [])
 | J (k:Nat) {es cy:List (List D)} (h:nN es cy):Fit (.J k es) (.J k cy)
inductive kM:List D->List D->Prop
 | nil:kM [] []
 | cons {d dR:D} {e e':List D} (h:Fit d dR) (t:kM e e'):kM (d::e) (dR::e')
inductive nN:List (List D)->List (List D)->Prop
 | nil:nN [] []
 | cons {e e':List D} {es cy:List (List D)} (h:kM e e') (t:nN es cy):nN (e::es) (e'::cy)
end
theorem kM.refl:∀e:List D,kM e e
 | []=>.nil
 | d::e=>.cons (.refl d) (kM.refl e)
mutual
theorem Fit.rep{w:World}{ω:Own}:∀{d dR:D},Fit d dR->∀{R:List (Nat×Nat)->dp->Prop} {y:Value},bZ w ω R d y->bZ w ω R dR y
 | _,_,.refl d,_,_,h=>h
 | _,_,.nil k,_,_,h=>by cases h;exact .nil _ _ _
 | _,_,.J k f,_,_,h=>by
  obtain⟨aj,ar⟩:=nN.get (w:=w) (ω:=ω) f;cases h with
  | nil=>
   have:=u' aj.symm;subst this;exact .nil _ _ _
  | row R k es b off cap arr ty cM us aq ef al ai hk hu aF=>
   rw[aj];refine .row _ _ _ b off cap arr ty cM us aq ef (aj▸al) ai (fun e he=>?_) (fun i j dR eK=>?_) (fun i j dR eK=>?_)
   ·obtain⟨i,hi⟩:=p4.1 he;obtain⟨cd,h1,U,_⟩:=ar i e hi;rw[<-U];exact hk cd (f' h1)
   ·unfold dd at eK;rw[nM]at eK;obtain⟨e,h1,U⟩:=eK;obtain⟨cd,aA,_,a'⟩:=ar i e h1;obtain⟨d,bu,_⟩:=a' j dR U;exact hu i j d (by unfold dd;rw[aA];exact bu)
   unfold dd at eK;rw[nM]at eK;obtain⟨e,h1,U⟩:=eK;obtain⟨cd,aA,_,a'⟩:=ar i e h1;obtain⟨d,bu,bU⟩:=a' j dR U;exact bU (aF i j d (by unfold dd;rw[aA];exact bu))
theorem kM.get{w:World}{ω:Own}:∀{e e':List D},kM e e'->e.length=e'.length/\∀(j:Nat) (dR:D),e'[j]?=some dR->∃d,e[j]?=some d/\∀{R:List (Nat×Nat)->dp->Prop} {y:Value},bZ w ω R d y->bZ w ω R dR y
 | _,_,.nil=>⟨rfl,fun j dR h=>by simp at h⟩
 | _,_,.cons h t=>by
  obtain⟨h1,U⟩:=kM.get (w:=w) (ω:=ω) t;refine⟨by simp[h1],fun j dR aF=>?_⟩;cases j with
  | zero=>
   simp only[mV,aX]at aF;subst aF;exact⟨_,rfl,fun aB=>Fit.rep h aB⟩
  | succ j=>exact U j dR (by simpa using aF)
theorem nN.get{w:World}{ω:Own}:∀{es cy:List (List D)},nN es cy->es.length=cy.length/\∀(i:Nat) (e':List D),cy[i]?=some e'->∃e,es[i]?=some e/\e.length=e'.length/\∀(j:Nat) (dR:D),e'[j]?=some dR->∃d,e[j]?=some d/\∀{R:List (Nat×Nat)->dp->Prop} {y:Value},bZ w ω R d y->bZ w ω R dR y
 | _,_,.nil=>⟨rfl,fun j dR h=>by simp at h⟩
 | _,_,.cons h t=>by
  obtain⟨h1,U⟩:=nN.get (w:=w) (ω:=ω) t;obtain⟨aA,aI⟩:=kM.get (w:=w) (ω:=ω) h;refine⟨by simp[h1],fun j dR aF=>?_⟩;cases j with
  | zero=>
   simp only[mV,aX]at aF;subst aF;exact⟨_,rfl,aA,aI⟩
  | succ j=>exact U j dR (by simpa using aF)
end
inductive sk:cL->cL->Prop
 | one {d dR:D} (h:Fit d dR):sk (.one d) (.one dR)
 | agg {e e':List D} (h:kM e e'):sk (.agg e) (.agg e')
theorem sk.refl(a:cL):sk a a:=by
 cases a with
 | one d=>exact .one (.refl d)
 | agg e=>exact .agg (.refl e)
inductive p8:List cL->List cL->Prop
 | nil:p8 [] []
 | cons {a cJ:cL} {as mx:List cL} (h:sk a cJ) (t:p8 as mx):p8 (a::as) (cJ::mx)
theorem p8.get:∀{as mx:List cL},p8 as mx->as.length=mx.length/\∀(i:Nat) (cJ:cL),mx[i]?=some cJ->∃a,as[i]?=some a/\sk a cJ
 | _,_,.nil=>⟨rfl,fun j dR h=>by simp at h⟩
 | _,_,.cons h t=>by
  obtain⟨h1,U⟩:=p8.get t;refine⟨by simp[h1],fun j dR aF=>?_⟩;cases j with
  | zero=>
   simp only[mV,aX]at aF;subst aF;exact⟨_,rfl,h⟩
  | succ j=>exact U j dR (by simpa using aF)
variable{w:World}
theorem sk.cell{ω:Own}{r:Nat}{a cJ:cL}{y:Value}(h:sk a cJ)(al:nz w ω r a y):nz w ω r cJ y:=by
 cases h with
 | one h=>exact h.rep al
 | agg h=>
  obtain⟨vs,rfl,aP,a8⟩:=al;obtain⟨h1,U⟩:=kM.get (w:=w) (ω:=ω) h;refine⟨vs,rfl,by omega,fun j dR aF=>?_⟩;obtain⟨d,aA,aI⟩:=U j dR aF;obtain⟨u,a',bu⟩:=a8 j d aA;exact⟨u,a',aI bu⟩
variable{rs wL:List cL}
theorem p8.all{ω:Own}{v:Value}(h:p8 rs wL)(aB:n0 w ω rs v):n0 w ω wL v:=by
 cases h with
 | nil=>exact aB
 | cons h t=>
  cases t with
  | nil=>exact h.cell aB
  | cons U t2=>
   obtain⟨vs,e,aP,bD⟩:=aB;obtain⟨aA,aI⟩:=p8.get (.cons h (.cons U t2));refine⟨vs,e,by omega,fun i cJ ae=>?_⟩;obtain⟨a,a',bu⟩:=aI i cJ ae;obtain⟨y,bU,cI⟩:=bD i a a';exact⟨y,bU,bu.cell cI⟩
variable{P:Program}{f:FuncId}
theorem cH.fit{args:List a7}(h:cH P f args (.vals rs))(k:p8 rs wL):cH P f args (.vals wL):=by
 intro w vs ω aB mC pw;refine (h w vs ω aB mC pw).mono ?_;rintro e aM ⟨v,rfl,aq,bc,h1,U,aA,aI⟩;exact⟨v,rfl,aq,bc,h1,U,aA,k.all aI⟩
theorem ji.fit{args:List cL}(h:ji P f args rs)(k:p8 rs wL):ji P f args wL:=by
 intro w vs ug aB;refine (h w vs ug aB).mono ?_;rintro e aM ⟨v,rfl,aq,ω,h1,U,aA⟩;exact⟨v,rfl,aq,ω,h1,U,k.all aA⟩
theorem sk.arg{a cJ:cL}{y:Value}(h:sk a cJ)(al:w2 w a y):w2 w cJ y:=by
 cases h with
 | one h=>exact h.rep al
 | agg h=>
  obtain⟨vs,rfl,aP,a8⟩:=al;obtain⟨h1,U⟩:=kM.get (w:=w) (ω:=fun _=>.bJ) h;refine⟨vs,rfl,by omega,fun j dR aF=>?_⟩;obtain⟨d,aA,aI⟩:=U j dR aF;obtain⟨u,a',bu⟩:=a8 j d aA;exact⟨u,a',aI bu⟩
theorem ji.args{as mx:List cL}(h:ji P f mx rs)(k:p8 as mx):ji P f as rs:=by
 intro w vs ug aB;obtain⟨h1,U⟩:=k.get;refine h w vs ug ⟨by rw[aB.1,h1],fun i cJ ae=>?_⟩;obtain⟨a,aA,aI⟩:=U i cJ ae;obtain⟨v,a',bu⟩:=aB.2 i a aA;exact⟨v,a',aI.arg bu⟩
