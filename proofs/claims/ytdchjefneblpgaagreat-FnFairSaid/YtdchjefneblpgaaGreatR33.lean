import Derived.Test.YtdchjefneblpgaaGreatR15
set_option linter.unusedVariables false
set_option linter.unusedSimpArgs false
namespace Go.Sx
open Go.RowKit
def jG(i:Nat):Nat:=dj+i
def j2(i j:Nat):Nat:=dj+100+(100*i+j)
def aM.aG(i:Nat):aM->bl
 | .ro (.one (.J k es))=>.one (.dA (j2 i 0) k es)
 | .ro a=>a.arg
 | .jk _ _ _=>.one (.ptr (jG i) 0)
 | .fn g cT=>.one (.hg g (cT.map jG))
def D.Sj(t:Nat):D->aF
 | .J k es=>.dA t k es
 | _=>.cp
def ue(i:Nat)(pn:List Bool):Nat->List D->List aF
 | _,[]=>[]
 | j,d::ds=>(if stays pn j then d.Sj (j2 i j) else d.qz (rU i j))::ue i pn (j+1) ds
theorem Tk(i:Nat)(pn:List Bool):∀(ds:List D) (j x:Nat),(ue i pn j ds)[x]?=(ds[x]?).map fun d=>if stays pn (j+x) then d.Sj (j2 i (j+x)) else d.qz (rU i (j+x))
 | [],_,_=>by simp[ue]
 | d::ds,j,0=>by simp[ue]
 | d::ds,j,x+1=>by
  simp only[ue,pR,Tk i pn ds (j+1) x];rw[show j+1+x=j+(x+1) by omega]
theorem Tl(i:Nat)(pn:List Bool):∀(ds:List D) (j:Nat),(ue i pn j ds).length=ds.length
 | [],_=>rfl
 | d::ds,j=>by simp[ue,Tl i pn ds (j+1)]
def wb:Nat->List aM->List aI
 | _,[]=>[]
 | i,a::as=>.aG (a.aG i)::wb (i+1) as
def Ai:Nat->List aM->List (Nat×List aF)
 | _,[]=>[]
 | i,.jk pn pre _::as=>(jG i,ue i pn 0 pre)::Ai (i+1) as
 | i,.ro _::as=>Ai (i+1) as
 | i,.fn _ _::as=>Ai (i+1) as
def B1(args:List aM)(ntmps:Nat):aC:=⟨(wb 0 args).take (uw args)++List.replicate (ntmps-uw args) .cp,Ai 0 args⟩
theorem Tm:∀(as:List aM) (i x:Nat),(wb i as)[x]?=(as[x]?).map fun a=>.aG (a.aG (i+x))
 | [],i,x=>by simp[wb]
 | a::as,i,0=>by simp[wb]
 | a::as,i,x+1=>by
  simp only[wb,pR,Tm as (i+1) x];rw[show i+1+x=i+(x+1) by omega]
theorem Mv:∀(as:List aM) (i:Nat),(wb i as).length=as.length
 | [],_=>rfl
 | a::as,i=>by simp[wb,Mv as (i+1)]
theorem G7{id:Nat}{ls:List aF}:∀{as:List aM} {i:Nat},dI id (Ai i as)=some ls->∃x pn pre post,as[x]?=some (.jk pn pre post)/\id=jG (i+x)/\ls=ue (i+x) pn 0 pre
 | [],i,h=>by cases h
 | .ro _::as,i,h=>by
  obtain⟨x,pn,pre,post,h1,U,aA⟩:=G7 (as:=as) (i:=i+1) h;exact⟨x+1,pn,pre,post,by simpa using h1,by rw[U,show i+1+x=i+(x+1) by omega],by rw[aA,show i+1+x=i+(x+1) by omega]⟩
 | .fn _ _::as,i,h=>by
  obtain⟨x,pn,pre,post,h1,U,aA⟩:=G7 (as:=as) (i:=i+1) h;exact⟨x+1,pn,pre,post,by simpa using h1,by rw[U,show i+1+x=i+(x+1) by omega],by rw[aA,show i+1+x=i+(x+1) by omega]⟩
 | .jk pn pre post::as,i,h=>by
  simp only[Ai,dI]at h;split at h
  ·rename_i e;exact⟨0,pn,pre,post,rfl,e.symm,(gJ h).symm⟩
  obtain⟨x,aei,pre,post,h1,U,aA⟩:=G7 (as:=as) (i:=i+1) h;exact⟨x+1,aei,pre,post,by grind,by grind,by grind⟩
def DK(args:List aM):Bool:=decide (args.length<49)&&args.all fun
 | .ro _=>true
 | .jk pn pre post=>decide (pn.length<100)&&decide (pre.length<100)&&decide (post.length<100)
 | .fn _ cT=>cT.all fun k=>match args[k]? with | some (.jk _ _ _)=>true | _=>false
def EG:Value->Nat
 | .pointer (some p)=>p.block
 | _=>0
def oE(args:List aM)(w:World)(vs:Array Value)(t:Nat):Nat×Value:=
 if dj+100<=t then
  match args[(t-(dj+100)) / 100]? with
  | some (.jk _ pre _)=>(((pre[(t-(dj+100)) % 100]?).map D.uA).getD 0,jc w (vs.getD ((t-(dj+100)) / 100) undef) ((t-(dj+100)) % 100))
  | some (.ro (.one d))=>(d.uA,vs.getD ((t-(dj+100)) / 100) undef)
  | _=>(0,undef)
 else if dj<=t then (EG (vs.getD (t-dj) undef),undef) else
 match args[(t-900000000) / 100]? with
 | some (.jk _ pre _)=>(((pre[(t-900000000) % 100]?).map D.uA).getD 0,jc w (vs.getD ((t-900000000) / 100) undef) ((t-900000000) % 100))
 | _=>(0,undef)
def tT(ω:Own):Own:=fun b=>match ω b with | .box i=>.box (jG i) | o=>o
variable{ω:Own}{b:Nat}
theorem axt{t:Nat}{q:List (Nat×Nat)}(h:ω b=.tok t q):tT ω b=.tok t q:=by grind[tT]
theorem Tn:tT ω b=.bM<->ω b=.bM:=by
 grind[tT]
variable{i:Nat}
theorem G8:tT ω b=.box (jG i)<->ω b=.box i:=by
 grind[tT,jG,dr.box.injEq]
variable{args:List aM}{w:World}{vs:Array Value}
theorem To{j:Nat}{pn:List Bool}{pre post:List D}(h:args[i]?=some (.jk pn pre post))(bk:j<100):
  oE args w vs (j2 i j)=(((pre[j]?).map D.uA).getD 0,jc w (vs.getD i undef) j):=by
 have e1:(j2 i j-(dj+100)) / 100=i:=by grind[j2]
 have e2:(j2 i j-(dj+100)) % 100=j:=by grind[j2]
 unfold oE;rw[bn (by grind[j2]),e1,e2,h]
theorem Tp{d:D}(h:args[i]?=some (.ro (.one d))):oE args w vs (j2 i 0)=(d.uA,vs.getD i undef):=by
 simp_all[j2,dj,oE,bn]
theorem axu(er:DK args=true)(h:IZ w ω args vs)(mg:IW args vs)(o6:Tidy w ω)(ntmps:Nat):
  Rel ⟨w,fun b=>ω b≠.bM,oE args w vs⟩ (B1 args ntmps) { tmps:=vs.extract 0 (uw args)++Array.replicate (ntmps-(vs.extract 0 (uw args)).size) undef,defers:=[] } w:=by
 have Kb:uw args<=args.length:=Nat.sub_le _ _;obtain⟨gK,dk,aZ,ai⟩:=h;simp only[DK,cw,ck,gA]at er;have y8:∀{d:D} {y:Value},b4 w ω Tag.free.R d y->b4 w (tT ω) Tag.free.R d y:=fun h=>h.frame fun b q _ aH=>⟨Tn.2 aH,rfl⟩
 have dM:(vs.extract 0 (uw args)).size=uw args:=by grind
 refine⟨tT ω,oE args w vs,rfl,by grind[B1,Mv],hd.start o6,fun b aw=>?_,fun _ _=>rfl,?_,?_,fun id ls al=>?_⟩
 ·have:ω b≠.bM:=fun e=>aw (Tn.2 e)
  exact⟨.inr this,gK b this⟩
 ·intro id b hi aw;simp only[tT]at aw;cases e:ω b with
  | bM=>grind
  | tok t q=>grind
  | box i=>
   rw[e]at aw;simp only[dr.box.injEq]at aw;subst aw;obtain⟨pn,pre,post,h1⟩:=dk b i e;obtain⟨v,bI,⟨fb,arr,ty,rfl,U,aA,_⟩,_⟩:=ai i _ h1;have:=aA b e;subst this;have BA:i<49:=by
    grind
   simp only[oE];rw[bw (by grind[jG]),bn hi,show jG i-dj=i by simp[jG],e7,bI];rfl
 ·intro i p hp;simp only[B1]at hp;rw[qE,nS,Mv,Nat.min_eq_left Kb]at hp;split at hp
  ·rename_i hi;rw[kb,bn hi,Tm,b9]at hp;obtain⟨j8,ri,rfl⟩:=hp;rw[dV];obtain⟨v,bI,bW⟩:=ai i j8 ri;have qb:i<vs.size:=by omega
   refine⟨v,by rw[kc,bn (by grind),Array.getElem?_extract,bn (by omega),dV,bI],?_⟩;cases j8 with
   | fn g cT=>
    have h1:=mg i g cT ri;rw[bI]at h1;cases h1;refine⟨cT.map fun k=>EG (vs.getD k undef),?_,by simp,fun j id bk=>?_⟩
    ·congr 2
     rw[List.map_map];refine lM fun k hk=>?_
     have U:=er.2 _ (gb ri);have aA:=gA.1 U k hk;split at aA
     ·rename_i pn pre post tH;obtain⟨v2,tM,⟨fY,_,_,rfl,_⟩,_⟩:=ai k _ tH;simp[e7,tM,ptrTo,EG]
     cases aA
    rw[dK,b9]at bk;obtain⟨k,hk,rfl⟩:=bk;have U:=er.2 _ (gb ri);have aA:=gA.1 U k (gb hk);split at aA
    ·rename_i pn pre post tH;obtain⟨v2,tM,⟨fY,_,_,rfl,a',_⟩,_⟩:=ai k _ tH;refine⟨fY,?_,G8.2 a'⟩;simp[hk,e7,tM,ptrTo,EG]
    cases aA
   | jk pn pre post=>
    obtain⟨⟨b,arr,ty,rfl,U,_⟩,_⟩:=bW;exact⟨b,G8.2 U,rfl⟩
   | ro cy=>
    cases cy with
    | one d=>
     cases d with
     | J k es=>
      refine⟨y8 bW,fun _=>?_⟩;rw[Tp ri,e7,bI];rfl
     | v x=>exact D.dS (τ:=oE args w vs) (p:=(0,0)) (t:=.free) (y8 bW)
     | ptr ds=>exact D.dS (τ:=oE args w vs) (p:=(0,0)) (t:=.free) (y8 bW)
     | cl g cs=>exact D.dS (τ:=oE args w vs) (p:=(0,0)) (t:=.free) (y8 bW)
    | agg ds=>
     obtain⟨us,rfl,hlen,ob⟩:=bW;refine⟨us,rfl,by grind,fun j l al=>?_⟩;rw[dK,b9]at al;obtain⟨d,aE,rfl⟩:=al;obtain⟨u,h1,U⟩:=ob j d aE;exact⟨u,h1,D.dS (p:=(0,0)) (t:=.free) (y8 U)⟩
  rename_i hi;rw[Eo]at hp;split at hp
  ·rename_i bS;simp only[aX]at hp;subst hp;refine⟨undef,?_,aa⟩;grind
  cases hp
 obtain⟨i,pn,pre,post,h1,rfl,rfl⟩:=G7 al;rw[dV];obtain⟨v,bI,⟨b,arr,ty,rfl,U,aA,aJ,a',bu⟩,b1⟩:=ai i _ h1;refine⟨b,arr,ty,G8.2 U,fun dD ey=>aA dD (G8.1 ey),aJ,by grind[Tl],fun j l al=>?_⟩;rw[Tk,b9]at al;obtain⟨d,aE,rfl⟩:=al;rw[dV];obtain⟨u,hu,aD⟩:=bu j d aE;have bk:j<100:=by
  have e1:=er.2 _ (gb h1);grind
 refine⟨u,hu,?_⟩;cases fm:stays pn j with
 | true=>
  rw[bn rfl];have dy:=b1 j d aE fm;have e:jc w (ptrTo b) j=u:=by simp_all[jc,ptrTo]
  rw[e]at dy;cases d with
  | J k es=>
   refine⟨y8 dy,fun _=>?_⟩;rw[To h1 bk,e7,bI];simp only[lL,e,aE,tc];rfl
  | _=>exact trivial
 | false=>
 rw[bw (by simp)];replace aD:=aD fm;cases d with
 | v x=>
  have e:u=x:=by cases aD;rfl
  subst e;unfold D.qz;split
  ·rename_i h;cases h;exact rfl
  ·rename_i h;cases h;exact rfl
  ·grind
  ·exact trivial
  grind
 | ptr ds=>exact trivial
 | cl g bj=>exact trivial
 | J k es=>
  refine⟨aD.frame fun c q _ aH=>⟨axt aH,rfl⟩,?_⟩;have e1:(rU i j-900000000) / 100=i:=by grind[rU]
  have e2:(rU i j-900000000) % 100=j:=by grind[rU]
  have hi:i<49:=by
   grind
  simp only[Tag.ei,oE];rw[bw (by grind[rU,dj]),bw (by grind[rU,dj])];simp only[e1,e2,h1,aE];simp[jc,ptrTo,aJ,e7,bI,hu,D.uA]
def qD:List (Option Nat)->List aF->Option (List aF)
 | [],ls=>some ls
 | some t::ts,.dA s _ _::ls=>if s=t then (qD ts ls).map fun r=>.v (.bool true)::r else none
 | none::ts,l::ls=>(qD ts ls).map fun r=>l::r
 | none::ts,[]=>qD ts []
 | some _::_,_=>none
theorem G9:∀{ts:List (Option Nat)} {ls fQ:List aF},qD ts ls=some fQ->fQ.length=ls.length/\(∀(j t:Nat),ts[j]?=some (some t)->∃k es,ls[j]?=some (.dA t k es))/\∀j,ts.getD j none=none->fQ[j]?=ls[j]?
 | [],ls,fQ,h=>by
  simp_all[qD,aX]
 | some t::ts,.dA s k es::ls,fQ,h=>by
  simp only[qD]at h;split at h
  ·rename_i e;subst e;rw[b9]at h;obtain⟨r,h1,rfl⟩:=h;obtain⟨g1,g2,g3⟩:=G9 h1;grind
  cases h
 | none::ts,l::ls,fQ,h=>by
  simp only[qD,b9]at h;obtain⟨r,h1,rfl⟩:=h;obtain⟨g1,g2,g3⟩:=G9 h1;grind
 | none::ts,[],fQ,h=>by
  simp only[qD]at h;obtain⟨g1,g2,g3⟩:=G9 h;refine⟨g1,fun j t bk=>?_,fun j bk=>?_⟩
  ·cases j with
   | zero=>simp at bk
   | succ j=>obtain⟨k,es,h⟩:=g2 j t (by simpa using bk);simp at h
  have:fQ=[]:=yA g1;rw[this]
def tv:List (Option Nat)->List aF->List D->List D
 | some _::ts,.dA _ k es::ls,_::ds=>.J k es::tv ts ls ds
 | _::ts,_::ls,d::ds=>d::tv ts ls ds
 | _,_,ds=>ds
theorem axv:∀(ts:List (Option Nat)) (ls:List aF) (ds:List D),(tv ts ls ds).length=ds.length/\∀j,ts.getD j none=none->(tv ts ls ds)[j]?=ds[j]?:=by
 intro ts ls ds
 fun_induction tv ts ls ds with
 | case1 t ts s k es ls d ds eg=>
  grind
 | case2 x ts l ls d ds _ eg=>
  grind
 | case3=>grind
def sR(i:Nat):Nat->List Bool->List (Option Nat)
 | _,[]=>[]
 | j,b::r=>(if b then some (j2 i j) else none)::sR i (j+1) r
theorem Mw(i:Nat):∀(pn:List Bool) (j x:Nat),(sR i j pn)[x]?=(pn[x]?).map fun b=>if b then some (j2 i (j+x)) else none
 | [],_,_=>by simp[sR]
 | b::r,j,0=>by simp[sR]
 | b::r,j,x+1=>by
  simp only[sR,pR,Mw i r (j+1) x];rw[show j+1+x=j+(x+1) by omega]
def uf(st:aC):Nat->List aM->Option (List aM×iF)
 | _,[]=>some ([],[])
 | i,.ro a::as=>(uf st (i+1) as).map fun r=>(.ro a::r.1,r.2)
 | i,.fn g cT::as=>(uf st (i+1) as).map fun r=>(.fn g cT::r.1,r.2)
 | i,.jk pn pre post::as=>
  match dI (jG i) st.boxes with
  | some ls=>
   match qD (sR i 0 pn) ls with
   | some fQ=>
    match rW (hW i 0) fQ post,uf st (i+1) as with
    | some (ds,ts),some r=>some (.jk pn pre (tv (sR i 0 pn) ls ds)::r.1,ts++r.2)
    | _,_=>none
   | none=>none
  | none=>none
theorem G'{st:aC}:∀{as l9:List aM} {i:Nat} {ts:iF},uf st i as=some (l9,ts)->l9.length=as.length/\∀(x:Nat) (pn:List Bool) (pre post:List D),l9[x]?=some (.jk pn pre post)->
  ∃ls fQ ds hint lH,dI (jG (i+x)) st.boxes=some ls/\qD (sR (i+x) 0 pn) ls=some fQ/\rW (hW (i+x) 0) fQ hint=some (ds,lH)/\post=tv (sR (i+x) 0 pn) ls ds/\∀y∈lH,y∈ts
 | [],l9,i,ts,h=>by
  simp_all[uf,aX,bK]
 | .ro a::as,l9,i,ts,h=>by
  simp only[uf,b9]at h;obtain⟨⟨bx,b0⟩,h1,h⟩:=h;simp only[bK]at h;obtain⟨rfl,rfl⟩:=h;obtain⟨cS,bt⟩:=G' h1;refine⟨by simp[cS],fun x pn pre post af=>?_⟩;cases x with
  | zero=>simp at af
  | succ x=>
   have:=bt x pn pre post (by simpa using af);rwa[show i+1+x=i+(x+1) by omega]at this
 | .fn g cT::as,l9,i,ts,h=>by
  simp only[uf,b9]at h;obtain⟨⟨bx,b0⟩,h1,h⟩:=h;simp only[bK]at h;obtain⟨rfl,rfl⟩:=h;obtain⟨cS,bt⟩:=G' h1;refine⟨by simp[cS],fun x pn pre post af=>?_⟩;cases x with
  | zero=>simp at af
  | succ x=>
   have:=bt x pn pre post (by simpa using af);rwa[show i+1+x=i+(x+1) by omega]at this
 | .jk pn pre post::as,l9,i,ts,h=>by
  simp only[uf]at h;split at h
  ·rename_i ls e1;split at h
   ·rename_i fQ bE;split at h
    ·rename_i ds Pp r e2 cj;simp only[aX,bK]at h;obtain⟨rfl,rfl⟩:=h;obtain⟨cS,bt⟩:=G' cj;grind
    cases h
   cases h
  cases h
def Ha(src:List (Option Nat)):List (Option Nat):=src.map fun x=>x.map fun a=>j2 a 0
def aBo(args:List aM):aY->Bool
 | .vals _=>true
 | .iM src _=>src.all fun
  | some a=>match args[a]? with | some (.ro (.one _))=>true | _=>false
  | none=>true
def Pl(P:Program)(st:aC)(kt:List ResultVar):aY->Option (aY×iF×Option Nat)
 | .vals hint=>
  match kt.mapM (rH P st) with
  | some cz=>(s5 0 cz hint).map fun r=>(.vals r.1,r.2,none)
  | none=>none
 | .iM src hint=>
  match kt.mapM (rH P st) with
  | some [.aG (.one (.ptr id 0))]=>
   match dI id st.boxes with
   | some ls=>
    match qD (Ha src) ls with
    | some fQ=>if id<dj then (rW (hW 49 0) fQ hint).map fun r=>(.iM src (tv (Ha src) ls r.1),r.2,some id) else none
    | none=>none
   | none=>none
  | _=>none
def ER(P:Program)(st:aC)(kt:List ResultVar)(args:List aM)(hint:aY):Option (aY×List aM):=
 match Pl P st kt hint,uf st 0 args with
 | some (r,ts,_),some (as,uC)=>if DK args&&aBo args r&&FI (ts++uC) then some (r,as) else none
 | _,_=>none
def nJ(ω:Own)(ts:iF)(nw:Option Nat):Own:=fun b=>
 match ω b with
 | .tok t q=>match ts.at t with | some n=>.tok n q | none=>.bM
 | .box id=>if nw=some id then .box 49 else if dj<=id/\id<dj+49 then .box (id-dj) else .bM
 | .bM=>.bM
variable{ts:iF}
theorem Mx{nw:Option Nat}{n:Nat}{q:List (Nat×Nat)}(h:jd ω ts b=.tok n q):nJ ω ts nw b=.tok n q:=by
 grind[jd,nJ,id]
theorem mW.aBw{nw:Option Nat}{r:Nat}{d:cP}{y:Value}(h:mW w (jd ω ts) r d y):mW w (nJ ω ts nw) r d y:=by
 cases d with
 | one d=>exact b4.frame h fun b q _ aH=>⟨Mx aH,rfl⟩
 | agg ds=>
  obtain⟨vs,e,aZ,bk⟩:=h;exact⟨vs,e,aZ,fun j d aE=>by
   obtain⟨u,hu,aD⟩:=bk j d aE;exact⟨u,hu,aD.frame fun b q _ aH=>⟨Mx aH,rfl⟩⟩⟩
theorem UP{τ:Nat->Nat×Value}{nw:Option Nat}{id i:Nat}{ls fQ:List aF}{hint ds:List D}{lH:iF}{cT:List (Option Nat)}{pn:List Bool}(k5:∀t n,(t,n)∈ts->ts.at t=some n)
  (aw:uJ w ω τ id ls) (gK:qD cT ls=some fQ) (acS:∀j,stays pn j=false->cT.getD j none=none) (aD:rW (hW i 0) fQ hint=some (ds,lH)) (jV:∀y∈lH,y∈ts) (hx:∀b,ω b=.box id->nJ ω ts nw b=.box i) (adG:∀b,nJ ω ts nw b=.box i->ω b=.box id):
  ∀{y:Value},(∃b,ω b=.box id/\y=ptrTo b)->wH w (nJ ω ts nw) i pn (hW i) (tv cT ls ds) y/\∀(j t:Nat),cT[j]?=some (some t)->dj<=t->(τ t).2=jc w y j:=by
 rintro y ⟨dD,ey,rfl⟩;obtain⟨b,arr,ty,h1,U,aA,aJ⟩:=aw;have:=U dD ey;subst this;obtain⟨a',bu⟩:=Mn (w:=w) (ω:=ω) (τ:=τ) k5 aD jV;obtain⟨gO,j9,uE⟩:=G9 gK;obtain⟨f1,f2⟩:=axv cT ls ds;refine⟨⟨dD,arr,ty,rfl,hx dD ey,fun c ak=>U c (adG c ak),aA,by have:=aJ.1;omega,fun j d aE=>?_⟩,fun j t bk bG=>?_⟩
 ·have kD:j<ls.length:=by
   grind
  obtain⟨u,hu,ao⟩:=aJ.2 j _ (iD kD);refine⟨u,hu,fun fm=>?_⟩;have hk:=acS j fm;rw[f2 j hk]at aE;obtain⟨l,al,c3⟩:=bu j d aE;rw[uE j hk,iD kD]at al;cases al;have:=c3 u ao;rw[show hW i 0+j=hW i j by grind[hW]]at this;exact this.frame fun b q _ aH=>⟨Mx aH,rfl⟩
 obtain⟨k,es,al⟩:=j9 j t bk;obtain⟨u,hu,ao⟩:=aJ.2 j _ al;rw[ao.2 bG];simp[jc,ptrTo,aA,e7,hu]
theorem UQ{P:Program}{f:FuncId}{fn:Func}{c:Code}{r:aY}{ans cu:List cd}{obs:List Prop}{e:hV}{st:aC}(bF:P.funcs[f]?=some fn)(aw:fn.body=some c)
  (fN:run P c (B1 args fn.ntmps) ans=some (e,st,cu,obs)) (a7:cQ obs) (he:e=.ret\/e=.normal) (fl:ER P st fn.results.toList args r=some (r,args)):b2 P f args r:=by
 intro w vs Es ny JR o6;unfold ER at fl;split at fl
 ·rename_i bx ts nw as uC h3 oi;split at fl
  ·rename_i bW;simp only[aX,bK]at fl;obtain⟨rfl,rfl⟩:=fl;rw[cw,cw]at bW;obtain⟨⟨er,jv⟩,bW⟩:=bW;have k5:∀t n,(t,n)∈ts++uC->iF.at t (ts++uC)=some n:=fun t n h=>FJ bW h
   refine calls_of_wp bF aw (Code.wp_mono (fun e' cO aP hp=>?_) (ox c fN a7 _ _ w (axu er ny JR o6 fn.ntmps)));obtain⟨rfl,ω,τ,a6⟩:=hp;have aDg:bx=bx/\as.length<49:=by
    simp_all[DK,cw,ck]
   have Fb:∀id,nw=some id->id<dj:=by
    intro id e;subst e;unfold Pl at h3;split at h3
    ·grind[b9,bK,absurd]
    grind[b9,bK,aX]
   have hm:∃v,(results fn cO.tmps).run P aP=.ok v aP/\Ez aP (nJ ω (ts++uC) nw) vs bx v:=by
    have RN:∀{cz:List aI},fn.results.toList.mapM (rH P st)=some cz->∃zs:List Value,(results fn cO.tmps).run P aP=.ok (if h:zs.toArray.size=1 then zs.toArray[0] else .tuple zs.toArray) aP/\zs.length=cz.length/\∀(i:Nat) (p:aI),cz[i]?=some p->∃z,zs[i]?=some z/\cV (Sat aP ω τ) p z:=by
     intro cz tJ;obtain⟨zs,h1,U,aA⟩:=FL a6 tJ;have hm:=Gj (P:=P) _ fn.results aP _ h1;refine⟨zs,?_,U,aA⟩;rw[Mo,Sem.run_bind,hm];rfl
    unfold Pl at h3;split at h3
    ·rename_i hint;split at h3
     ·rename_i cz tJ;rw[b9]at h3;obtain⟨⟨ds,Pp⟩,fc,h⟩:=h3;simp only[bK,aY.vals.injEq]at h;obtain⟨rfl,rfl,rfl⟩:=h;obtain⟨zs,h1,U,aA⟩:=RN tJ;obtain⟨aJ,a'⟩:=FK (w:=aP) (ω:=ω) (τ:=τ) k5 fc (fun x af=>hD _ af);have fw:∀(j:Nat) (d:cP),ds[j]?=some d->∃z,zs[j]?=some z/\mW aP (nJ ω (Pp++uC) none) j d z:=by
       intro j d aE;obtain⟨p,hp,tI⟩:=a' j d aE;obtain⟨z,bd,qh⟩:=aA j p hp;have:=tI z qh;rw[dV]at this;exact⟨z,bd,this.aBw⟩
      have mU:zs.length=ds.length:=by omega
      refine⟨_,h1,?_⟩;show nH _ _ _ _;generalize bI:(if h:zs.toArray.size=1 then zs.toArray[0] else Value.tuple zs.toArray)=v;unfold nH;split
      ·rename_i cy;obtain⟨z,bd,ak⟩:=fw 0 cy rfl;grind
      rename_i cX;have h1:¬zs.toArray.size=1:=by
       intro h;simp at h;rw[mU]at h;obtain⟨d,aE⟩:=List.length_eq_one_iff.1 h;grind
      grind
     cases h3
    rename_i src hint;split at h3
    ·rename_i id tJ;split at h3
     ·rename_i ls dk;split at h3
      case h_2=>cases h3
      rename_i fQ gK;split at h3
      ·rename_i bS;rw[b9]at h3;obtain⟨⟨ds,Pp⟩,fc,h⟩:=h3;simp only[bK,aY.iM.injEq,true_and]at h;obtain⟨rfl,rfl,rfl⟩:=h;obtain⟨zs,h1,U,aA⟩:=RN tJ;obtain⟨z,bd,b,adR,sx⟩:=aA 0 _ rfl;have sw:zs=[z]:=by
        match zs,U,bd with
        | [z0],_,bd=>grind
       subst sw;refine⟨z,by grind,?_⟩;have BS:=UP (pn:=yq src) (nw:=some id) (i:=49) k5 (a6.boxes id ls dk) gK (fun j bk=>by
        simp only[stays,yq,lK,dK]at bk;simp only[Ha,lK,dK];cases e:src[j]? with
        | none=>rfl
        | some x=>simp_all) fc (fun y bD=>hD _ bD) (fun b aw=>by simp_all[nJ,gj]) (fun b aw=>?_) ⟨b,adR,sx⟩
       ·refine⟨BS.1,fun j x af=>?_⟩;have aJ:=BS.2 j (j2 x 0) (by simp[Ha,af]) (by grind[j2]);have a':=gA.1 jv _ (gb af);simp only at a';split at a'
        ·rename_i d aE;rw[a6.fixed _ (by grind[j2])]at aJ;change (oE as w vs (j2 x 0)).2=_ at aJ;rw[Tp aE]at aJ;have bu:x<vs.size:=by
          have:=(gk.1 aE).1;have:=ny.2.2.1;omega
         simp_all
        cases a'
       grind[nJ,gJ,dr.box.injEq]
      cases h3
     cases h3
    cases h3
   obtain⟨v,tL,tM⟩:=hm;have ed:∃v,(results fn cO.tmps).run P aP=.ok v aP/\∃u,Ending.returned v=.returned u/\hd ⟨w,fun b=>Es b≠.bM,fun _=>(0,undef)⟩ aP/\
     ∃bf:Own,(∀b,b<w.heap.size->Es b=.bM->bf b=.bM)/\F6 aP bf/\(∀(i:Nat) (pn:List Bool) (pre post:List D) (y:Value),as[i]?=some (.jk pn pre post)->vs[i]?=some y->wH aP bf i pn (hW i) post y/\∀j,stays pn j=true->jc aP y j=jc w y j)/\Ez aP bf vs bx u:=by
    refine⟨v,tL,v,rfl,⟨a6.below.os,a6.below.tape,a6.below.output,a6.below.size,a6.below.block,a6.below.drawn,a6.below.laid,a6.below.free⟩,nJ ω (ts++uC) nw,fun b aw ax=>?_,fun b aw=>?_,?_,tM⟩
    ·have:ω b=.bM:=by
      cases e:ω b with
      | bM=>rfl
      | box id=>
       rcases (a6.owned b (by simp[e])).1 with h | h
       ·grind
       grind
      | tok t q=>
       rcases (a6.owned b (by simp[e])).1 with h | h
       ·grind
       grind
     grind[nJ]
    ·have:ω b≠.bM:=fun e=>aw (by grind[nJ])
     exact (a6.owned b this).2
    intro i pn pre post y ri bD;obtain⟨ls,fQ,ds,hint,lH,g1,g0,g2,rfl,g3⟩:=(G' oi).2 i pn pre post ri;simp only[dV]at g1 g2 g0 ri ⊢;have hi:i<49:=by
     grind
    have cX:nw≠some (jG i):=fun e=>by grind[jG]
    obtain⟨b6,uM,wi,hl,h2,E2,tA⟩:=a6.boxes _ ls g1;obtain⟨fW,RU,⟨fb,_,_,hyp,_⟩,_⟩:=ny.2.2.2 i _ ri;rw[bD]at RU;have:=gJ RU;subst this;have wY:=a6.pinned (jG i) b6 (by simp[jG]) hl;simp only[oE]at wY;rw[bw (by grind[jG]),bn (by simp[jG]),show jG i-dj=i by simp[jG],e7,bD,hyp]at wY;have wY:fb=b6:=wY;subst wY;have acR:∀j,stays pn j=true->(sR i 0 pn)[j]?=some (some (j2 i j)):=fun j bk=>by
     simp only[stays,lK]at bk;rw[Mw,dV];grind
    have BS:=UP (pn:=pn) (nw:=nw) (i:=i) k5 ⟨fb,uM,wi,hl,h2,E2,tA⟩ g0 (fun j bk=>by
     simp only[stays,lK]at bk;rw[lK,Mw];grind) g2 (fun y bD=>iC _ (g3 y bD)) (fun b aw=>?_) (fun b aw=>?_) ⟨fb,hl,hyp⟩
    ·refine⟨BS.1,fun j bk=>?_⟩;have acM:j<100:=by
      simp only[DK,cw,ck,gA]at er;have aJ:=er.2 _ (gb ri);simp only[cw,ck]at aJ;grind[stays,qI]
     have aJ:=BS.2 j (j2 i j) (acR j bk) (by grind[j2]);rw[a6.fixed _ (by grind[j2])]at aJ;change (oE as w vs (j2 i j)).2=_ at aJ;rw[To ri acM]at aJ;rw[<-aJ];simp only[e7,bD,lL]
    ·simp only[nJ,aw];rw[bw cX,bn ⟨by simp[jG],by grind[jG]⟩];simp[jG]
    grind[nJ,dr.box.injEq,jG]
   obtain⟨v,bu,b1⟩:=ed;rcases he with rfl | rfl
   ·exact⟨a6.defers,v,bu,b1⟩
   exact⟨a6.defers,v,bu,b1⟩
  cases fl
 cases fl
def Lc(P:Program)(c:Code)(ntmps:Nat)(kt:List ResultVar)(args:List aM)(hint:aY)(ans:List cd):Option (aY×List aM×List Prop):=
 match run P c (B1 args ntmps) ans with
 | some (.ret,st,_,obs)=>(ER P st kt args hint).map fun r=>(r.1,r.2,obs)
 | some (.normal,st,_,obs)=>(ER P st kt args hint).map fun r=>(r.1,r.2,obs)
 | _=>none
theorem b2.of{P:Program}{f:FuncId}{fn:Func}{r:aY}(ans:List cd)(obs:List Prop)(bF:P.funcs[f]?=some fn)(aw:fn.body.isSome=true)
  (h:Lc P (oy fn) fn.ntmps fn.results.toList args r ans=some (r,args,obs)) (a7:cQ obs):b2 P f args r:=by
 obtain⟨c,ak⟩:=r2.1 aw;have Bw:oy fn=c:=by simp[oy,ak]
 unfold Lc at h;rw[Bw]at h;split at h
 ·rename_i st a nF aD;rw[b9]at h;obtain⟨⟨AF,Po⟩,h1,h⟩:=h;simp only[bK]at h;obtain⟨rfl,rfl,rfl⟩:=h;exact UQ bF ak aD a7 (.inl rfl) h1
 ·rename_i st a nF aD;rw[b9]at h;obtain⟨⟨AF,Po⟩,h1,h⟩:=h;simp only[bK]at h;obtain⟨rfl,rfl,rfl⟩:=h;exact UQ bF ak aD a7 (.inr rfl) h1
 cases h
end Go.Sx
namespace Go.Sx
open Go.RowKit
mutual
inductive Fit:D->D->Prop
 | refl (d:D):Fit d d
 | nil (k:Nat):Fit (.v (.slice none 0 0)) (.J k [])
 | J (k:Nat) {es cD:List (List D)} (h:np es cD):Fit (.J k es) (.J k cD)
inductive lj:List D->List D->Prop
 | nil:lj [] []
 | cons {d dP:D} {e e':List D} (h:Fit d dP) (t:lj e e'):lj (d::e) (dP::e')
inductive np:List (List D)->List (List D)->Prop
 | nil:np [] []
 | cons {e e':List D} {es cD:List (List D)} (h:lj e e') (t:np es cD):np (e::es) (e'::cD)
end
theorem lj.refl:∀e:List D,lj e e
 | []=>.nil
 | d::e=>.cons (.refl d) (lj.refl e)
mutual
theorem Fit.rep{w:World}{ω:Own}:∀{d dP:D},Fit d dP->∀{R:List (Nat×Nat)->dr->Prop} {y:Value},b4 w ω R d y->b4 w ω R dP y
 | _,_,.refl d,_,_,h=>h
 | _,_,.nil k,_,_,h=>by cases h;exact .nil _ _ _
 | _,_,.J k f,_,_,h=>by
  obtain⟨al,ax⟩:=np.get (w:=w) (ω:=ω) f;cases h with
  | nil=>
   have:=yA al.symm;subst this;exact .nil _ _ _
  | row R k es b off cap arr ty cZ us aw ed ak ao hk hu aE=>
   rw[al];refine .row _ _ _ b off cap arr ty cZ us aw ed (al▸ak) ao (fun e he=>?_) (fun i j dP eN=>?_) (fun i j dP eN=>?_)
   ·obtain⟨i,hi⟩:=pS.1 he;obtain⟨bE,h1,U,_⟩:=ax i e hi;rw[<-U];exact hk bE (gb h1)
   ·unfold df at eN;rw[nn]at eN;obtain⟨e,h1,U⟩:=eN;obtain⟨bE,aA,_,a'⟩:=ax i e h1;obtain⟨d,bu,_⟩:=a' j dP U;exact hu i j d (by unfold df;rw[aA];exact bu)
   unfold df at eN;rw[nn]at eN;obtain⟨e,h1,U⟩:=eN;obtain⟨bE,aA,_,a'⟩:=ax i e h1;obtain⟨d,bu,b1⟩:=a' j dP U;exact b1 (aE i j d (by unfold df;rw[aA];exact bu))
theorem lj.get{w:World}{ω:Own}:∀{e e':List D},lj e e'->e.length=e'.length/\∀(j:Nat) (dP:D),e'[j]?=some dP->∃d,e[j]?=some d/\∀{R:List (Nat×Nat)->dr->Prop} {y:Value},b4 w ω R d y->b4 w ω R dP y
 | _,_,.nil=>⟨rfl,fun j dP h=>by simp at h⟩
 | _,_,.cons h t=>by
  obtain⟨h1,U⟩:=lj.get (w:=w) (ω:=ω) t;refine⟨by simp[h1],fun j dP aE=>?_⟩;cases j with
  | zero=>
   simp only[mE,aX]at aE;subst aE;exact⟨_,rfl,fun aD=>Fit.rep h aD⟩
  | succ j=>exact U j dP (by simpa using aE)
theorem np.get{w:World}{ω:Own}:∀{es cD:List (List D)},np es cD->es.length=cD.length/\∀(i:Nat) (e':List D),cD[i]?=some e'->∃e,es[i]?=some e/\e.length=e'.length/\∀(j:Nat) (dP:D),e'[j]?=some dP->∃d,e[j]?=some d/\∀{R:List (Nat×Nat)->dr->Prop} {y:Value},b4 w ω R d y->b4 w ω R dP y
 | _,_,.nil=>⟨rfl,fun j dP h=>by simp at h⟩
 | _,_,.cons h t=>by
  obtain⟨h1,U⟩:=np.get (w:=w) (ω:=ω) t;obtain⟨aA,aJ⟩:=lj.get (w:=w) (ω:=ω) h;refine⟨by simp[h1],fun j dP aE=>?_⟩;cases j with
  | zero=>
   simp only[mE,aX]at aE;subst aE;exact⟨_,rfl,aA,aJ⟩
  | succ j=>exact U j dP (by simpa using aE)
end
inductive r3:cP->cP->Prop
 | one {d dP:D} (h:Fit d dP):r3 (.one d) (.one dP)
 | agg {e e':List D} (h:lj e e'):r3 (.agg e) (.agg e')
theorem r3.refl(a:cP):r3 a a:=by
 cases a with
 | one d=>exact .one (.refl d)
 | agg e=>exact .agg (.refl e)
inductive pX:List cP->List cP->Prop
 | nil:pX [] []
 | cons {a cO:cP} {as l9:List cP} (h:r3 a cO) (t:pX as l9):pX (a::as) (cO::l9)
theorem pX.get:∀{as l9:List cP},pX as l9->as.length=l9.length/\∀(i:Nat) (cO:cP),l9[i]?=some cO->∃a,as[i]?=some a/\r3 a cO
 | _,_,.nil=>⟨rfl,fun j dP h=>by simp at h⟩
 | _,_,.cons h t=>by
  obtain⟨h1,U⟩:=pX.get t;refine⟨by simp[h1],fun j dP aE=>?_⟩;cases j with
  | zero=>
   simp only[mE,aX]at aE;subst aE;exact⟨_,rfl,h⟩
  | succ j=>exact U j dP (by simpa using aE)
variable{w:World}
theorem r3.cell{ω:Own}{r:Nat}{a cO:cP}{y:Value}(h:r3 a cO)(ak:mW w ω r a y):mW w ω r cO y:=by
 cases h with
 | one h=>exact h.rep ak
 | agg h=>
  obtain⟨vs,rfl,aZ,bk⟩:=ak;obtain⟨h1,U⟩:=lj.get (w:=w) (ω:=ω) h;refine⟨vs,rfl,by omega,fun j dP aE=>?_⟩;obtain⟨d,aA,aJ⟩:=U j dP aE;obtain⟨u,a',bu⟩:=bk j d aA;exact⟨u,a',aJ bu⟩
variable{rs wc:List cP}
theorem pX.all{ω:Own}{v:Value}(h:pX rs wc)(aD:nH w ω rs v):nH w ω wc v:=by
 cases h with
 | nil=>exact aD
 | cons h t=>
  cases t with
  | nil=>exact h.cell aD
  | cons U t2=>
   obtain⟨vs,e,aZ,bI⟩:=aD;obtain⟨aA,aJ⟩:=pX.get (.cons h (.cons U t2));refine⟨vs,e,by omega,fun i cO ai=>?_⟩;obtain⟨a,a',bu⟩:=aJ i cO ai;obtain⟨y,b1,dy⟩:=bI i a a';exact⟨y,b1,bu.cell dy⟩
variable{P:Program}{f:FuncId}
theorem b2.fit{args:List aM}(h:b2 P f args (.vals rs))(k:pX rs wc):b2 P f args (.vals wc):=by
 intro w vs ω aD mg o6;refine (h w vs ω aD mg o6).mono ?_;rintro e aP ⟨v,rfl,aw,bf,h1,U,aA,aJ⟩;exact⟨v,rfl,aw,bf,h1,U,aA,k.all aJ⟩
theorem iV.fit{args:List cP}(h:iV P f args rs)(k:pX rs wc):iV P f args wc:=by
 intro w vs tK aD;refine (h w vs tK aD).mono ?_;rintro e aP ⟨v,rfl,aw,ω,h1,U,aA⟩;exact⟨v,rfl,aw,ω,h1,U,k.all aA⟩
theorem r3.arg{a cO:cP}{y:Value}(h:r3 a cO)(ak:wy w a y):wy w cO y:=by
 cases h with
 | one h=>exact h.rep ak
 | agg h=>
  obtain⟨vs,rfl,aZ,bk⟩:=ak;obtain⟨h1,U⟩:=lj.get (w:=w) (ω:=fun _=>.bM) h;refine⟨vs,rfl,by omega,fun j dP aE=>?_⟩;obtain⟨d,aA,aJ⟩:=U j dP aE;obtain⟨u,a',bu⟩:=bk j d aA;exact⟨u,a',aJ bu⟩
theorem iV.args{as l9:List cP}(h:iV P f l9 rs)(k:pX as l9):iV P f as rs:=by
 intro w vs tK aD;obtain⟨h1,U⟩:=k.get;refine h w vs tK ⟨by rw[aD.1,h1],fun i cO ai=>?_⟩;obtain⟨a,aA,aJ⟩:=U i cO ai;obtain⟨v,a',bu⟩:=aD.2 i a aA;exact⟨v,a',aJ.arg bu⟩
