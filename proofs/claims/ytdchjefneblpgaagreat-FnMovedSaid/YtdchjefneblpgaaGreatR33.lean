import Derived.Test.YtdchjefneblpgaaGreatR15
set_option linter.unusedVariables false
set_option linter.unusedSimpArgs false
namespace Go.Sx
open Go.RowKit
def ix(i:Nat):Nat:=c3+i
def h8(i j:Nat):Nat:=c3+100+(100*i+j)
def aM.aJ(i:Nat):aM->bq
 | .ro (.one (.J k es))=>.one (.dg (h8 i 0) k es)
 | .ro a=>a.arg
 | .hY _ _ _=>.one (.ptr (ix i) 0)
 | .fn g cH=>.one (.gg g (cH.map ix))
def D.Om(t:Nat):D->aB
 | .J k es=>.dg t k es
 | _=>.cp
def sd(i:Nat)(pn:List Bool):Nat->List D->List aB
 | _,[]=>[]
 | j,d::ds=>(if stays pn j then d.Om (h8 i j) else d.oZ (qb i j))::sd i pn (j+1) ds
theorem PX(i:Nat)(pn:List Bool):∀(ds:List D) (j x:Nat),(sd i pn j ds)[x]?=(ds[x]?).map fun d=>if stays pn (j+x) then d.Om (h8 i (j+x)) else d.oZ (qb i (j+x))
 | [],_,_=>by simp[sd]
 | d::ds,j,0=>by simp[sd]
 | d::ds,j,x+1=>by
  simp only[sd,n1,PX i pn ds (j+1) x];rw[show j+1+x=j+(x+1) by omega]
theorem PY(i:Nat)(pn:List Bool):∀(ds:List D) (j:Nat),(sd i pn j ds).length=ds.length
 | [],_=>rfl
 | d::ds,j=>by simp[sd,PY i pn ds (j+1)]
def tV:Nat->List aM->List aI
 | _,[]=>[]
 | i,a::as=>.aJ (a.aJ i)::tV (i+1) as
def xB:Nat->List aM->List (Nat×List aB)
 | _,[]=>[]
 | i,.hY pn pre _::as=>(ix i,sd i pn 0 pre)::xB (i+1) as
 | i,.ro _::as=>xB (i+1) as
 | i,.fn _ _::as=>xB (i+1) as
def zi(args:List aM)(ntmps:Nat):aH:=⟨(tV 0 args).take (ss args)++List.replicate (ntmps-ss args) .cp,xB 0 args⟩
theorem PZ:∀(as:List aM) (i x:Nat),(tV i as)[x]?=(as[x]?).map fun a=>.aJ (a.aJ (i+x))
 | [],i,x=>by simp[tV]
 | a::as,i,0=>by simp[tV]
 | a::as,i,x+1=>by
  simp only[tV,n1,PZ as (i+1) x];rw[show i+1+x=i+(x+1) by omega]
theorem Iw:∀(as:List aM) (i:Nat),(tV i as).length=as.length
 | [],_=>rfl
 | a::as,i=>by simp[tV,Iw as (i+1)]
theorem C4{id:Nat}{ls:List aB}:∀{as:List aM} {i:Nat},dn id (xB i as)=some ls->∃x pn pre post,as[x]?=some (.hY pn pre post)/\id=ix (i+x)/\ls=sd (i+x) pn 0 pre
 | [],i,h=>by cases h
 | .ro _::as,i,h=>by
  obtain⟨x,pn,pre,post,h1,U,ax⟩:=C4 (as:=as) (i:=i+1) h;exact⟨x+1,pn,pre,post,by simpa using h1,by rw[U,show i+1+x=i+(x+1) by omega],by rw[ax,show i+1+x=i+(x+1) by omega]⟩
 | .fn _ _::as,i,h=>by
  obtain⟨x,pn,pre,post,h1,U,ax⟩:=C4 (as:=as) (i:=i+1) h;exact⟨x+1,pn,pre,post,by simpa using h1,by rw[U,show i+1+x=i+(x+1) by omega],by rw[ax,show i+1+x=i+(x+1) by omega]⟩
 | .hY pn pre post::as,i,h=>by
  simp only[xB,dn]at h;split at h
  ·rename_i e;exact⟨0,pn,pre,post,rfl,e.symm,(eL h).symm⟩
  obtain⟨x,HN,pre,post,h1,U,ax⟩:=C4 (as:=as) (i:=i+1) h;exact⟨x+1,HN,pre,post,by simpa using h1,by rw[U,show i+1+x=i+(x+1) by omega],by rw[ax,show i+1+x=i+(x+1) by omega]⟩
def AP(args:List aM):Bool:=decide (args.length<49)&&args.all fun
 | .ro _=>true
 | .hY pn pre post=>decide (pn.length<100)&&decide (pre.length<100)&&decide (post.length<100)
 | .fn _ cH=>cH.all fun k=>match args[k]? with | some (.hY _ _ _)=>true | _=>false
def BM:Value->Nat
 | .pointer (some p)=>p.block
 | _=>0
def mR(args:List aM)(w:World)(vs:Array Value)(t:Nat):Nat×Value:=
 if c3+100<=t then
  match args[(t-(c3+100)) / 100]? with
  | some (.hY _ pre _)=>(((pre[(t-(c3+100)) % 100]?).map D.sx).getD 0,h9 w (vs.getD ((t-(c3+100)) / 100) undef) ((t-(c3+100)) % 100))
  | some (.ro (.one d))=>(d.sx,vs.getD ((t-(c3+100)) / 100) undef)
  | _=>(0,undef)
 else if c3<=t then (BM (vs.getD (t-c3) undef),undef) else
 match args[(t-900000000) / 100]? with
 | some (.hY _ pre _)=>(((pre[(t-900000000) % 100]?).map D.sx).getD 0,h9 w (vs.getD ((t-900000000) / 100) undef) ((t-900000000) % 100))
 | _=>(0,undef)
def r4(ω:Own):Own:=fun b=>match ω b with | .box i=>.box (ix i) | o=>o
variable{ω:Own}{b:Nat}
theorem aj4{t:Nat}{q:List (Nat×Nat)}(h:ω b=.tok t q):r4 ω b=.tok t q:=by simp only[r4,h]
theorem P0:r4 ω b=.bE<->ω b=.bE:=by
 simp only[r4];cases ω b<;>simp
variable{i:Nat}
theorem C5:r4 ω b=.box (ix i)<->ω b=.box i:=by
 simp only[r4];cases ω b with
 | bE=>simp
 | box j=>simp only[ix,cS.box.injEq];omega
 | tok t q=>simp
variable{args:List aM}{w:World}{vs:Array Value}
theorem P1{j:Nat}{pn:List Bool}{pre post:List D}(h:args[i]?=some (.hY pn pre post))(a':j<100):
  mR args w vs (h8 i j)=(((pre[j]?).map D.sx).getD 0,h9 w (vs.getD i undef) j):=by
 have e1:(h8 i j-(c3+100)) / 100=i:=by simp only[h8];omega
 have e2:(h8 i j-(c3+100)) % 100=j:=by simp only[h8];omega
 unfold mR;rw[br (by simp only[h8];omega),e1,e2,h]
theorem P2{d:D}(h:args[i]?=some (.ro (.one d))):mR args w vs (h8 i 0)=(d.sx,vs.getD i undef):=by
 have e1:(h8 i 0-(c3+100)) / 100=i:=by simp only[h8];omega
 unfold mR;rw[br (by simp only[h8];omega),e1,h]
theorem alx(ev:AP args=true)(h:Fq w ω args vs)(kn:Fm args vs)(rW:Tidy w ω)(ntmps:Nat):
  Rel ⟨w,fun b=>ω b≠.bE,mR args w vs⟩ (zi args ntmps) { tmps:=vs.extract 0 (ss args)++Array.replicate (ntmps-(vs.extract 0 (ss args)).size) undef,defers:=[] } w:=by
 have GG:ss args<=args.length:=Nat.sub_le _ _;obtain⟨iH,ck,aT,aj⟩:=h;simp only[AP,cq,cK,fv]at ev;have wK:∀{d:D} {y:Value},bW w ω Tag.free.R d y->bW w (r4 ω) Tag.free.R d y:=fun h=>h.frame fun b q _ aC=>⟨P0.2 aC,rfl⟩
 have ek:(vs.extract 0 (ss args)).size=ss args:=by simp[aT];omega
 refine⟨r4 ω,mR args w vs,rfl,by rw[ek];simp[zi,Iw,aT],gO.start rW,fun b aq=>?_,fun _ _=>rfl,?_,?_,fun id ls ak=>?_⟩
 ·have:ω b≠.bE:=fun e=>aq (P0.2 e)
  exact⟨.inr this,iH b this⟩
 ·intro id b hi aq;simp only[r4]at aq;cases e:ω b with
  | bE=>rw[e]at aq;cases aq
  | tok t q=>rw[e]at aq;cases aq
  | box i=>
   rw[e]at aq;simp only[cS.box.injEq]at aq;subst aq;obtain⟨pn,pre,post,h1⟩:=ck b i e;obtain⟨v,bA,⟨gD,arr,ty,rfl,U,ax,_⟩,_⟩:=aj i _ h1;have:=ax b e;subst this;have yN:i<49:=by
    have:=(eu.1 h1).1;omega
   simp only[mR];rw[bg (by simp only[ix];omega),br hi,show ix i-c3=i by simp[ix],d',bA];rfl
 ·intro i p hp;simp only[zi]at hp;rw[kB,lx,Iw,Nat.min_eq_left GG]at hp;split at hp
  ·rename_i hi;rw[j1,br hi,PZ,b0]at hp;obtain⟨iw,oz,rfl⟩:=hp;rw[dx];obtain⟨v,bA,cG⟩:=aj i iw oz;have k9:i<vs.size:=by omega
   refine⟨v,by rw[jI,br (by rw[ek];exact hi),Array.getElem?_extract,br (by omega),dx,bA],?_⟩;cases iw with
   | fn g cH=>
    have h1:=kn i g cH oz;rw[bA]at h1;cases h1;refine⟨cH.map fun k=>BM (vs.getD k undef),?_,by simp,fun j id a'=>?_⟩
    ·congr 2
     rw[List.map_map];refine kC fun k hk=>?_
     have U:=ev.2 _ (fp oz);have ax:=fv.1 U k hk;split at ax
     ·rename_i pn pre post qB;obtain⟨v2,rX,⟨gf,_,_,rfl,_⟩,_⟩:=aj k _ qB;simp[d',rX,ptrTo,BM]
     cases ax
    rw[dd,b0]at a';obtain⟨k,hk,rfl⟩:=a';have U:=ev.2 _ (fp oz);have ax:=fv.1 U k (fp hk);split at ax
    ·rename_i pn pre post qB;obtain⟨v2,rX,⟨gf,_,_,rfl,aV,_⟩,_⟩:=aj k _ qB;refine⟨gf,?_,C5.2 aV⟩;simp[hk,d',rX,ptrTo,BM]
    cases ax
   | hY pn pre post=>
    obtain⟨⟨b,arr,ty,rfl,U,_⟩,_⟩:=cG;exact⟨b,C5.2 U,rfl⟩
   | ro cj=>
    cases cj with
    | one d=>
     cases d with
     | J k es=>
      refine⟨wK cG,fun _=>?_⟩;rw[P2 oz,d',bA];rfl
     | v x=>exact D.dy (τ:=mR args w vs) (p:=(0,0)) (t:=.free) (wK cG)
     | ptr ds=>exact D.dy (τ:=mR args w vs) (p:=(0,0)) (t:=.free) (wK cG)
     | cl g cs=>exact D.dy (τ:=mR args w vs) (p:=(0,0)) (t:=.free) (wK cG)
    | agg ds=>
     obtain⟨us,rfl,hlen,ow⟩:=cG;refine⟨us,rfl,by simpa using hlen,fun j l ak=>?_⟩;rw[dd,b0]at ak;obtain⟨d,aE,rfl⟩:=ak;obtain⟨u,h1,U⟩:=ow j d aE;exact⟨u,h1,D.dy (p:=(0,0)) (t:=.free) (wK U)⟩
  rename_i hi;rw[Bu]at hp;split at hp
  ·rename_i bC;simp only[aQ]at hp;subst hp;refine⟨undef,?_,aa⟩;rw[jI,bg (by rw[ek];omega),Array.getElem?_replicate,br (by rw[ek];omega)]
  cases hp
 obtain⟨i,pn,pre,post,h1,rfl,rfl⟩:=C4 ak;rw[dx];obtain⟨v,bA,⟨b,arr,ty,rfl,U,ax,aK,aV,bw⟩,bX⟩:=aj i _ h1;refine⟨b,arr,ty,C5.2 U,fun cU dA=>ax cU (C5.1 dA),aK,by rw[PY];exact aV,fun j l ak=>?_⟩;rw[PX,b0]at ak;obtain⟨d,aE,rfl⟩:=ak;rw[dx];obtain⟨u,hu,aD⟩:=bw j d aE;have a':j<100:=by
  have e1:=ev.2 _ (fp h1);simp only[cq,cK]at e1;have:=(eu.1 aE).1;omega
 refine⟨u,hu,?_⟩;cases eO:stays pn j with
 | true=>
  rw[br rfl];have c8:=bX j d aE eO;have e:h9 w (ptrTo b) j=u:=by simp[h9,ptrTo,aK,d',hu]
  rw[e]at c8;cases d with
  | J k es=>
   refine⟨wK c8,fun _=>?_⟩;rw[P1 h1 a',d',bA];simp only[iA,e,aE,l3];rfl
  | _=>exact trivial
 | false=>
 rw[bg (by simp)];replace aD:=aD eO;cases d with
 | v x=>
  have e:u=x:=by cases aD;rfl
  subst e;unfold D.oZ;split
  ·rename_i h;cases h;exact rfl
  ·rename_i h;cases h;exact rfl
  ·rename_i h;cases h
  ·exact trivial
  exact trivial
 | ptr ds=>exact trivial
 | cl g bK=>exact trivial
 | J k es=>
  refine⟨aD.frame fun c q _ aC=>⟨aj4 aC,rfl⟩,?_⟩;have e1:(qb i j-900000000) / 100=i:=by simp only[qb];omega
  have e2:(qb i j-900000000) % 100=j:=by simp only[qb];omega
  have hi:i<49:=by
   have:=(eu.1 h1).1;omega
  simp only[Tag.dN,mR];rw[bg (by simp only[qb,c3];omega),bg (by simp only[qb,c3];omega)];simp only[e1,e2,h1,aE];simp[h9,ptrTo,aK,d',bA,hu,D.sx]
def o2:List (Option Nat)->List aB->Option (List aB)
 | [],ls=>some ls
 | some t::ts,.dg s _ _::ls=>if s=t then (o2 ts ls).map fun r=>.v (.bool true)::r else none
 | none::ts,l::ls=>(o2 ts ls).map fun r=>l::r
 | none::ts,[]=>o2 ts []
 | some _::_,_=>none
theorem C6:∀{ts:List (Option Nat)} {ls eU:List aB},o2 ts ls=some eU->eU.length=ls.length/\(∀(j t:Nat),ts[j]?=some (some t)->∃k es,ls[j]?=some (.dg t k es))/\∀j,ts.getD j none=none->eU[j]?=ls[j]?
 | [],ls,eU,h=>by
  simp only[o2,aQ]at h;subst h;exact⟨rfl,fun j t h=>by simp at h,fun _ _=>rfl⟩
 | some t::ts,.dg s k es::ls,eU,h=>by
  simp only[o2]at h;split at h
  ·rename_i e;subst e;rw[b0]at h;obtain⟨r,h1,rfl⟩:=h;obtain⟨g1,g2,g3⟩:=C6 h1;refine⟨by simp[g1],fun j t a'=>?_,fun j a'=>?_⟩
   ·cases j with
    | zero=>
     simp only[j2,aQ]at a';subst a';exact⟨k,es,rfl⟩
    | succ j=>exact g2 j t (by simpa using a')
   cases j with
   | zero=>simp at a'
   | succ j=>simpa using g3 j (by simpa using a')
  cases h
 | none::ts,l::ls,eU,h=>by
  simp only[o2,b0]at h;obtain⟨r,h1,rfl⟩:=h;obtain⟨g1,g2,g3⟩:=C6 h1;refine⟨by simp[g1],fun j t a'=>?_,fun j a'=>?_⟩
  ·cases j with
   | zero=>simp at a'
   | succ j=>exact g2 j t (by simpa using a')
  cases j with
  | zero=>rfl
  | succ j=>simpa using g3 j (by simpa using a')
 | none::ts,[],eU,h=>by
  simp only[o2]at h;obtain⟨g1,g2,g3⟩:=C6 h;refine⟨g1,fun j t a'=>?_,fun j a'=>?_⟩
  ·cases j with
   | zero=>simp at a'
   | succ j=>obtain⟨k,es,h⟩:=g2 j t (by simpa using a');simp at h
  have:eU=[]:=ug g1;rw[this]
def rC:List (Option Nat)->List aB->List D->List D
 | some _::ts,.dg _ k es::ls,_::ds=>.J k es::rC ts ls ds
 | _::ts,_::ls,d::ds=>d::rC ts ls ds
 | _,_,ds=>ds
theorem aly:∀(ts:List (Option Nat)) (ls:List aB) (ds:List D),(rC ts ls ds).length=ds.length/\∀j,ts.getD j none=none->(rC ts ls ds)[j]?=ds[j]?:=by
 intro ts ls ds
 fun_induction rC ts ls ds with
 | case1 t ts s k es ls d ds dE=>
  refine⟨by simp[dE.1],fun j a'=>?_⟩;cases j with
  | zero=>simp at a'
  | succ j=>simpa using dE.2 j (by simpa using a')
 | case2 x ts l ls d ds _ dE=>
  refine⟨by simp[dE.1],fun j a'=>?_⟩;cases j with
  | zero=>rfl
  | succ j=>simpa using dE.2 j (by simpa using a')
 | case3=>exact⟨rfl,fun _ _=>rfl⟩
def qM(i:Nat):Nat->List Bool->List (Option Nat)
 | _,[]=>[]
 | j,b::r=>(if b then some (h8 i j) else none)::qM i (j+1) r
theorem Ix(i:Nat):∀(pn:List Bool) (j x:Nat),(qM i j pn)[x]?=(pn[x]?).map fun b=>if b then some (h8 i (j+x)) else none
 | [],_,_=>by simp[qM]
 | b::r,j,0=>by simp[qM]
 | b::r,j,x+1=>by
  simp only[qM,n1,Ix i r (j+1) x];rw[show j+1+x=j+(x+1) by omega]
def se(st:aH):Nat->List aM->Option (List aM×hL)
 | _,[]=>some ([],[])
 | i,.ro a::as=>(se st (i+1) as).map fun r=>(.ro a::r.1,r.2)
 | i,.fn g cH::as=>(se st (i+1) as).map fun r=>(.fn g cH::r.1,r.2)
 | i,.hY pn pre post::as=>
  match dn (ix i) st.boxes with
  | some ls=>
   match o2 (qM i 0 pn) ls with
   | some eU=>
    match qc (gP i 0) eU post,se st (i+1) as with
    | some (ds,ts),some r=>some (.hY pn pre (rC (qM i 0 pn) ls ds)::r.1,ts++r.2)
    | _,_=>none
   | none=>none
  | none=>none
theorem C7{st:aH}:∀{as kF:List aM} {i:Nat} {ts:hL},se st i as=some (kF,ts)->kF.length=as.length/\∀(x:Nat) (pn:List Bool) (pre post:List D),kF[x]?=some (.hY pn pre post)->
  ∃ls eU ds hint jH,dn (ix (i+x)) st.boxes=some ls/\o2 (qM (i+x) 0 pn) ls=some eU/\qc (gP (i+x) 0) eU hint=some (ds,jH)/\post=rC (qM (i+x) 0 pn) ls ds/\∀y∈jH,y∈ts
 | [],kF,i,ts,h=>by
  simp only[se,aQ,bu]at h;obtain⟨rfl,rfl⟩:=h;exact⟨rfl,fun x pn pre post h=>by simp at h⟩
 | .ro a::as,kF,i,ts,h=>by
  simp only[se,b0]at h;obtain⟨⟨bI,bZ⟩,h1,h⟩:=h;simp only[bu]at h;obtain⟨rfl,rfl⟩:=h;obtain⟨cV,cA⟩:=C7 h1;refine⟨by simp[cV],fun x pn pre post ag=>?_⟩;cases x with
  | zero=>simp at ag
  | succ x=>
   have:=cA x pn pre post (by simpa using ag);rwa[show i+1+x=i+(x+1) by omega]at this
 | .fn g cH::as,kF,i,ts,h=>by
  simp only[se,b0]at h;obtain⟨⟨bI,bZ⟩,h1,h⟩:=h;simp only[bu]at h;obtain⟨rfl,rfl⟩:=h;obtain⟨cV,cA⟩:=C7 h1;refine⟨by simp[cV],fun x pn pre post ag=>?_⟩;cases x with
  | zero=>simp at ag
  | succ x=>
   have:=cA x pn pre post (by simpa using ag);rwa[show i+1+x=i+(x+1) by omega]at this
 | .hY pn pre post::as,kF,i,ts,h=>by
  simp only[se]at h;split at h
  ·rename_i ls e1;split at h
   ·rename_i eU bz;split at h
    ·rename_i ds Eu r e2 cc;simp only[aQ,bu]at h;obtain⟨rfl,rfl⟩:=h;obtain⟨cV,cA⟩:=C7 cc;refine⟨by simp[cV],fun x HN w6 YJ ag=>?_⟩;cases x with
     | zero=>
      simp only[j2,aQ,aM.hY.injEq]at ag;obtain⟨rfl,rfl,rfl⟩:=ag;exact⟨ls,eU,ds,post,Eu,e1,bz,e2,rfl,fun y bn=>hZ _ bn⟩
     | succ x=>
      obtain⟨ls,eU,ds,hint,jH,g1,g0,g2,g4,g3⟩:=cA x HN w6 YJ (by simpa using ag);rw[show i+1+x=i+(x+1) by omega]at g1 g2 g0 g4;exact⟨ls,eU,ds,hint,jH,g1,g0,g2,g4,fun y bn=>iz _ (g3 y bn)⟩
    cases h
   cases h
  cases h
def C8(src:List (Option Nat)):List (Option Nat):=src.map fun x=>x.map fun a=>h8 a 0
def ar9(args:List aM):aS->Bool
 | .vals _=>true
 | .h7 src _=>src.all fun
  | some a=>match args[a]? with | some (.ro (.one _))=>true | _=>false
  | none=>true
def Lj(P:Program)(st:aH)(jd:List ResultVar):aS->Option (aS×hL×Option Nat)
 | .vals hint=>
  match jd.mapM (p1 P st) with
  | some ct=>(q8 0 ct hint).map fun r=>(.vals r.1,r.2,none)
  | none=>none
 | .h7 src hint=>
  match jd.mapM (p1 P st) with
  | some [.aJ (.one (.ptr id 0))]=>
   match dn id st.boxes with
   | some ls=>
    match o2 (C8 src) ls with
    | some eU=>if id<c3 then (qc (gP 49 0) eU hint).map fun r=>(.h7 src (rC (C8 src) ls r.1),r.2,some id) else none
    | none=>none
   | none=>none
  | _=>none
def B0(P:Program)(st:aH)(jd:List ResultVar)(args:List aM)(hint:aS):Option (aS×List aM):=
 match Lj P st jd hint,se st 0 args with
 | some (r,ts,_),some (as,sA)=>if AP args&&ar9 args r&&CW (ts++sA) then some (r,as) else none
 | _,_=>none
def lX(ω:Own)(ts:hL)(nw:Option Nat):Own:=fun b=>
 match ω b with
 | .tok t q=>match ts.at t with | some n=>.tok n q | none=>.bE
 | .box id=>if nw=some id then .box 49 else if c3<=id/\id<c3+49 then .box (id-c3) else .bE
 | .bE=>.bE
variable{ts:hL}
theorem JZ{nw:Option Nat}{n:Nat}{q:List (Nat×Nat)}(h:h' ω ts b=.tok n q):lX ω ts nw b=.tok n q:=by
 simp only[h']at h;simp only[lX];cases e:ω b with
 | bE=>rw[e]at h;cases h
 | box id=>rw[e]at h;cases h
 | tok t di=>rw[e]at h;exact h
theorem lh.asl{nw:Option Nat}{r:Nat}{d:cF}{y:Value}(h:lh w (h' ω ts) r d y):lh w (lX ω ts nw) r d y:=by
 cases d with
 | one d=>exact bW.frame h fun b q _ aC=>⟨JZ aC,rfl⟩
 | agg ds=>
  obtain⟨vs,e,aT,a'⟩:=h;exact⟨vs,e,aT,fun j d aE=>by
   obtain⟨u,hu,aD⟩:=a' j d aE;exact⟨u,hu,aD.frame fun b q _ aC=>⟨JZ aC,rfl⟩⟩⟩
theorem P3{τ:Nat->Nat×Value}{nw:Option Nat}{id i:Nat}{ls eU:List aB}{hint ds:List D}{jH:hL}{cH:List (Option Nat)}{pn:List Bool}(jS:∀t n,(t,n)∈ts->ts.at t=some n)
  (aq:sG w ω τ id ls) (iH:o2 cH ls=some eU) (Xs:∀j,stays pn j=false->cH.getD j none=none) (aD:qc (gP i 0) eU hint=some (ds,jH)) (iG:∀y∈jH,y∈ts) (fB:∀b,ω b=.box id->lX ω ts nw b=.box i) (X9:∀b,lX ω ts nw b=.box i->ω b=.box id):
  ∀{y:Value},(∃b,ω b=.box id/\y=ptrTo b)->uA w (lX ω ts nw) i pn (gP i) (rC cH ls ds) y/\∀(j t:Nat),cH[j]?=some (some t)->c3<=t->(τ t).2=h9 w y j:=by
 rintro y ⟨cU,dA,rfl⟩;obtain⟨b,arr,ty,h1,U,ax,aK⟩:=aq;have:=U cU dA;subst this;obtain⟨aV,bw⟩:=IZ (w:=w) (ω:=ω) (τ:=τ) jS aD iG;obtain⟨mS,o1,wc⟩:=C6 iH;obtain⟨f1,f2⟩:=aly cH ls ds;refine⟨⟨cU,arr,ty,rfl,fB cU dA,fun c ah=>U c (X9 c ah),ax,by have:=aK.1;omega,fun j d aE=>?_⟩,fun j t a' bR=>?_⟩
 ·have ko:j<ls.length:=by
   have:=(eu.1 aE).1;omega
  obtain⟨u,hu,ai⟩:=aK.2 j _ (gp ko);refine⟨u,hu,fun eO=>?_⟩;have hk:=Xs j eO;rw[f2 j hk]at aE;obtain⟨l,ak,da⟩:=bw j d aE;rw[wc j hk,gp ko]at ak;cases ak;have:=da u ai;rw[show gP i 0+j=gP i j by simp only[gP];omega]at this;exact this.frame fun b q _ aC=>⟨JZ aC,rfl⟩
 obtain⟨k,es,ak⟩:=o1 j t a';obtain⟨u,hu,ai⟩:=aK.2 j _ ak;rw[ai.2 bR];simp[h9,ptrTo,ax,d',hu]
theorem P4{P:Program}{f:FuncId}{fn:Func}{c:Code}{r:aS}{ans cd:List b7}{obs:List Prop}{e:hb}{st:aH}(bY:P.funcs[f]?=some fn)(aq:fn.body=some c)
  (fC:run P c (zi args fn.ntmps) ans=some (e,st,cd,obs)) (aX:cE obs) (he:e=.ret\/e=.normal) (eN:B0 P st fn.results.toList args r=some (r,args)):bT P f args r:=by
 intro w vs Bz lF Gh rW;unfold B0 at eN;split at eN
 ·rename_i bI ts nw as sA eH kM;split at eN
  ·rename_i cG;simp only[aQ,bu]at eN;obtain⟨rfl,rfl⟩:=eN;rw[cq,cq]at cG;obtain⟨⟨ev,iT⟩,cG⟩:=cG;have jS:∀t n,(t,n)∈ts++sA->hL.at t (ts++sA)=some n:=fun t n h=>CX cG h
   refine calls_of_wp bY aq (Code.wp_mono (fun e' cx aN hp=>?_) (mK c fC aX _ _ w (alx ev lF Gh rW fn.ntmps)));obtain⟨rfl,ω,τ,aU⟩:=hp;have atB:bI=bI/\as.length<49:=by
    simp only[AP,cq,cK]at ev;exact⟨rfl,ev.1⟩
   have yW:∀id,nw=some id->id<c3:=by
    intro id e;subst e;unfold Lj at eH;split at eH
    ·split at eH
     ·rw[b0]at eH;obtain⟨_,_,h⟩:=eH;simp only[bu]at h;exact absurd h.2.2 (by simp)
     cases eH
    split at eH
    ·split at eH
     ·split at eH
      ·split at eH
       ·rename_i bC;rw[b0]at eH;obtain⟨_,_,h⟩:=eH;simp only[bu,aQ]at h;rw[<-h.2.2];exact bC
       cases eH
      cases eH
     cases eH
    cases eH
   have hm:∃v,(results fn cx.tmps).run P aN=.ok v aN/\BE aN (lX ω (ts++sA) nw) vs bI v:=by
    have NU:∀{ct:List aI},fn.results.toList.mapM (p1 P st)=some ct->∃zs:List Value,(results fn cx.tmps).run P aN=.ok (if h:zs.toArray.size=1 then zs.toArray[0] else .tuple zs.toArray) aN/\zs.length=ct.length/\∀(i:Nat) (p:aI),ct[i]?=some p->∃z,zs[i]?=some z/\cI (Sat aN ω τ) p z:=by
     intro ct rR;obtain⟨zs,h1,U,ax⟩:=CZ aU rR;have hm:=CC (P:=P) _ fn.results aN _ h1;refine⟨zs,?_,U,ax⟩;rw[Io,Sem.run_bind,hm];rfl
    unfold Lj at eH;split at eH
    ·rename_i hint;split at eH
     ·rename_i ct rR;rw[b0]at eH;obtain⟨⟨ds,Eu⟩,eh,h⟩:=eH;simp only[bu,aS.vals.injEq]at h;obtain⟨rfl,rfl,rfl⟩:=h;obtain⟨zs,h1,U,ax⟩:=NU rR;obtain⟨aK,aV⟩:=CY (w:=aN) (ω:=ω) (τ:=τ) jS eh (fun x ag=>hZ _ ag);have eW:∀(j:Nat) (d:cF),ds[j]?=some d->∃z,zs[j]?=some z/\lh aN (lX ω (Eu++sA) none) j d z:=by
       intro j d aE;obtain⟨p,hp,rQ⟩:=aV j d aE;obtain⟨z,bd,wX⟩:=ax j p hp;have:=rQ z wX;rw[dx]at this;exact⟨z,bd,this.asl⟩
      have lb:zs.length=ds.length:=by omega
      refine⟨_,h1,?_⟩;show mI _ _ _ _;generalize bA:(if h:zs.toArray.size=1 then zs.toArray[0] else Value.tuple zs.toArray)=v;unfold mI;split
      ·rename_i cj;obtain⟨z,bd,ah⟩:=eW 0 cj rfl;have h1:zs.length=1:=by rw[lb];rfl
       have oC:zs=[z]:=by
        match zs,h1,bd with
        | [z0],_,bd=>simp at bd;rw[bd]
       have za:v=z:=by
        rw[<-bA];simp[oC]
       rw[za];exact ah
      rename_i cC;have h1:¬zs.toArray.size=1:=by
       intro h;simp at h;rw[lb]at h;obtain⟨d,aE⟩:=List.length_eq_one_iff.1 h;exact cC d aE
      rw[dif_neg h1]at bA;exact⟨zs.toArray,bA.symm,by simpa using lb,fun r cj aD=>by obtain⟨z,bd,ah⟩:=eW r cj aD;exact⟨z,by simpa using bd,ah⟩⟩
     cases eH
    rename_i src hint;split at eH
    ·rename_i id rR;split at eH
     ·rename_i ls ck;split at eH
      case h_2=>cases eH
      rename_i eU iH;split at eH
      ·rename_i bC;rw[b0]at eH;obtain⟨⟨ds,Eu⟩,eh,h⟩:=eH;simp only[bu,aS.h7.injEq,true_and]at h;obtain⟨rfl,rfl,rfl⟩:=h;obtain⟨zs,h1,U,ax⟩:=NU rR;obtain⟨z,bd,b,Yk,qE⟩:=ax 0 _ rfl;have oC:zs=[z]:=by
        match zs,U,bd with
        | [z0],_,bd=>simp at bd;rw[bd]
       subst oC;refine⟨z,by simpa using h1,?_⟩;have y':=P3 (pn:=v8 src) (nw:=some id) (i:=49) jS (aU.boxes id ls ck) iH (fun j a'=>by
        simp only[stays,v8,ik,dd]at a';simp only[C8,ik,dd];cases e:src[j]? with
        | none=>rfl
        | some x=>cases x with
         | none=>rfl
         | some a=>rw[e]at a';cases a') eh (fun y bn=>hZ _ bn) (fun b aq=>by simp only[lX,aq,gL]) (fun b aq=>?_) ⟨b,Yk,qE⟩
       ·refine⟨y'.1,fun j x ag=>?_⟩;have aK:=y'.2 j (h8 x 0) (by simp[C8,ag]) (by simp only[h8];omega);have aV:=fv.1 iT _ (fp ag);simp only at aV;split at aV
        ·rename_i d aE;rw[aU.fixed _ (by simp only[h8];omega)]at aK;change (mR as w vs (h8 x 0)).2=_ at aK;rw[P2 aE]at aK;have bw:x<vs.size:=by
          have:=(eu.1 aE).1;have:=lF.2.2.1;omega
         rw[<-aK,hJ bw,d',hJ bw];rfl
        cases aV
       simp only[lX]at aq;cases e:ω b with
       | bE=>rw[e]at aq;cases aq
       | tok t q=>rw[e]at aq;simp only at aq;split at aq<;>cases aq
       | box gv=>
        rw[e]at aq;simp only at aq;split at aq
        ·rename_i e2;rw[eL e2]
        split at aq
        ·simp only[cS.box.injEq]at aq;omega
        cases aq
      cases eH
     cases eH
    cases eH
   obtain⟨v,y9,rX⟩:=hm;have dI:∃v,(results fn cx.tmps).run P aN=.ok v aN/\∃u,Ending.returned v=.returned u/\gO ⟨w,fun b=>Bz b≠.bE,fun _=>(0,undef)⟩ aN/\
     ∃aY:Own,(∀b,b<w.heap.size->Bz b=.bE->aY b=.bE)/\Dy aN aY/\(∀(i:Nat) (pn:List Bool) (pre post:List D) (y:Value),as[i]?=some (.hY pn pre post)->vs[i]?=some y->uA aN aY i pn (gP i) post y/\∀j,stays pn j=true->h9 aN y j=h9 w y j)/\BE aN aY vs bI u:=by
    refine⟨v,y9,v,rfl,⟨aU.below.os,aU.below.tape,aU.below.output,aU.below.size,aU.below.block,aU.below.drawn,aU.below.laid,aU.below.free⟩,lX ω (ts++sA) nw,fun b aq au=>?_,fun b aq=>?_,?_,rX⟩
    ·have:ω b=.bE:=by
      cases e:ω b with
      | bE=>rfl
      | box id=>
       rcases (aU.owned b (by simp[e])).1 with h | h
       ·exact absurd aq (by have h:w.heap.size<=b:=h;omega)
       exact absurd au h
      | tok t q=>
       rcases (aU.owned b (by simp[e])).1 with h | h
       ·exact absurd aq (by have h:w.heap.size<=b:=h;omega)
       exact absurd au h
     simp only[lX,this]
    ·have:ω b≠.bE:=fun e=>aq (by simp only[lX,e])
     exact (aU.owned b this).2
    intro i pn pre post y oz bn;obtain⟨ls,eU,ds,hint,jH,g1,g0,g2,rfl,g3⟩:=(C7 kM).2 i pn pre post oz;simp only[dx]at g1 g2 g0 oz ⊢;have hi:i<49:=by
     have:=(eu.1 oz).1;omega
    have cC:nw≠some (ix i):=fun e=>by have:=yW _ e;simp only[ix]at this;omega
    obtain⟨b4,sK,ua,hg,fM,M',B6⟩:=aU.boxes _ ls g1;obtain⟨e9,N1,⟨gD,_,_,hyp,_⟩,_⟩:=lF.2.2.2 i _ oz;rw[bn]at N1;have:=eL N1;subst this;have u1:=aU.pinned (ix i) b4 (by simp[ix]) hg;simp only[mR]at u1;rw[bg (by simp only[ix];omega),br (by simp[ix]),show ix i-c3=i by simp[ix],d',bn,hyp]at u1;have u1:gD=b4:=u1;subst u1;have Xr:∀j,stays pn j=true->(qM i 0 pn)[j]?=some (some (h8 i j)):=fun j a'=>by
     simp only[stays,ik]at a';rw[Ix,dx];cases e:pn[j]? with
     | none=>rw[e]at a';cases a'
     | some x=>
      rw[e]at a';simp only[iA]at a';simp[a']
    have y':=P3 (pn:=pn) (nw:=nw) (i:=i) jS ⟨gD,sK,ua,hg,fM,M',B6⟩ g0 (fun j a'=>by
     simp only[stays,ik]at a';rw[ik,Ix];cases e:pn[j]? with
     | none=>rfl
     | some x=>
      rw[e]at a';simp only[iA]at a';simp[a']) g2 (fun y bn=>iz _ (g3 y bn)) (fun b aq=>?_) (fun b aq=>?_) ⟨gD,hg,hyp⟩
    ·refine⟨y'.1,fun j a'=>?_⟩;have Xp:j<100:=by
      simp only[AP,cq,cK,fv]at ev;have aK:=ev.2 _ (fp oz);simp only[cq,cK]at aK;simp only[stays,ik]at a';rcases rf j pn.length with h | h
      ·omega
      rw[List.getElem?_eq_none h]at a';cases a'
     have aK:=y'.2 j (h8 i j) (Xr j a') (by simp only[h8];omega);rw[aU.fixed _ (by simp only[h8];omega)]at aK;change (mR as w vs (h8 i j)).2=_ at aK;rw[P1 oz Xp]at aK;rw[<-aK];simp only[d',bn,iA]
    ·simp only[lX,aq];rw[bg cC,br ⟨by simp[ix],by simp only[ix];omega⟩];simp[ix]
    simp only[lX]at aq;cases e:ω b with
    | bE=>rw[e]at aq;cases aq
    | tok t q=>rw[e]at aq;simp only at aq;split at aq<;>cases aq
    | box gv=>
     rw[e]at aq;simp only at aq;split at aq
     ·simp only[cS.box.injEq]at aq;omega
     split at aq
     ·simp only[cS.box.injEq]at aq;simp only[ix,cS.box.injEq];omega
     cases aq
   obtain⟨v,bw,bX⟩:=dI;rcases he with rfl | rfl
   ·exact⟨aU.defers,v,bw,bX⟩
   exact⟨aU.defers,v,bw,bX⟩
  cases eN
 cases eN
def HK(P:Program)(c:Code)(ntmps:Nat)(jd:List ResultVar)(args:List aM)(hint:aS)(ans:List b7):Option (aS×List aM×List Prop):=
 match run P c (zi args ntmps) ans with
 | some (.ret,st,_,obs)=>(B0 P st jd args hint).map fun r=>(r.1,r.2,obs)
 | some (.normal,st,_,obs)=>(B0 P st jd args hint).map fun r=>(r.1,r.2,obs)
 | _=>none
theorem bT.of{P:Program}{f:FuncId}{fn:Func}{r:aS}(ans:List b7)(obs:List Prop)(bY:P.funcs[f]?=some fn)(aq:fn.body.isSome=true)
  (h:HK P (nQ fn) fn.ntmps fn.results.toList args r ans=some (r,args,obs)) (aX:cE obs):bT P f args r:=by
 obtain⟨c,ah⟩:=o6.1 aq;have yJ:nQ fn=c:=by simp[nQ,ah]
 unfold HK at h;rw[yJ]at h;split at h
 ·rename_i st a lR aD;rw[b0]at h;obtain⟨⟨xX,Lm⟩,h1,h⟩:=h;simp only[bu]at h;obtain⟨rfl,rfl,rfl⟩:=h;exact P4 bY ah aD aX (.inl rfl) h1
 ·rename_i st a lR aD;rw[b0]at h;obtain⟨⟨xX,Lm⟩,h1,h⟩:=h;simp only[bu]at h;obtain⟨rfl,rfl,rfl⟩:=h;exact P4 bY ah aD aX (.inr rfl) h1
 cases h
end Go.Sx
namespace Go.Sx
open Go.RowKit
mutual
inductive Fit:D->D->Prop
 | refl (d:D):Fit d d
 | nil (k:Nat):Fit (.v (.slice none 0 0)) (.J k [])
 | J (k:Nat) {es cv:List (List D)} (h:lA es cv):Fit (.J k es) (.J k cv)
inductive jN:List D->List D->Prop
 | nil:jN [] []
 | cons {d dq:D} {e e':List D} (h:Fit d dq) (t:jN e e'):jN (d::e) (dq::e')
inductive lA:List (List D)->List (List D)->Prop
 | nil:lA [] []
 | cons {e e':List D} {es cv:List (List D)} (h:jN e e') (t:lA es cv):lA (e::es) (e'::cv)
end
theorem jN.refl:∀e:List D,jN e e
 | []=>.nil
 | d::e=>.cons (.refl d) (jN.refl e)
mutual
theorem Fit.rep{w:World}{ω:Own}:∀{d dq:D},Fit d dq->∀{R:List (Nat×Nat)->cS->Prop} {y:Value},bW w ω R d y->bW w ω R dq y
 | _,_,.refl d,_,_,h=>h
 | _,_,.nil k,_,_,h=>by cases h;exact .nil _ _ _
 | _,_,.J k f,_,_,h=>by
  obtain⟨ak,au⟩:=lA.get (w:=w) (ω:=ω) f;cases h with
  | nil=>
   have:=ug ak.symm;subst this;exact .nil _ _ _
  | row R k es b off cap arr ty cN us aq dI ah ai hk hu aE=>
   rw[ak];refine .row _ _ _ b off cap arr ty cN us aq dI (ak▸ah) ai (fun e he=>?_) (fun i j dq dD=>?_) (fun i j dq dD=>?_)
   ·obtain⟨i,hi⟩:=o7.1 he;obtain⟨bz,h1,U,_⟩:=au i e hi;rw[<-U];exact hk bz (fp h1)
   ·unfold cT at dD;rw[lv]at dD;obtain⟨e,h1,U⟩:=dD;obtain⟨bz,ax,_,aV⟩:=au i e h1;obtain⟨d,bw,_⟩:=aV j dq U;exact hu i j d (by unfold cT;rw[ax];exact bw)
   unfold cT at dD;rw[lv]at dD;obtain⟨e,h1,U⟩:=dD;obtain⟨bz,ax,_,aV⟩:=au i e h1;obtain⟨d,bw,bX⟩:=aV j dq U;exact bX (aE i j d (by unfold cT;rw[ax];exact bw))
theorem jN.get{w:World}{ω:Own}:∀{e e':List D},jN e e'->e.length=e'.length/\∀(j:Nat) (dq:D),e'[j]?=some dq->∃d,e[j]?=some d/\∀{R:List (Nat×Nat)->cS->Prop} {y:Value},bW w ω R d y->bW w ω R dq y
 | _,_,.nil=>⟨rfl,fun j dq h=>by simp at h⟩
 | _,_,.cons h t=>by
  obtain⟨h1,U⟩:=jN.get (w:=w) (ω:=ω) t;refine⟨by simp[h1],fun j dq aE=>?_⟩;cases j with
  | zero=>
   simp only[j2,aQ]at aE;subst aE;exact⟨_,rfl,fun aD=>Fit.rep h aD⟩
  | succ j=>exact U j dq (by simpa using aE)
theorem lA.get{w:World}{ω:Own}:∀{es cv:List (List D)},lA es cv->es.length=cv.length/\∀(i:Nat) (e':List D),cv[i]?=some e'->∃e,es[i]?=some e/\e.length=e'.length/\∀(j:Nat) (dq:D),e'[j]?=some dq->∃d,e[j]?=some d/\∀{R:List (Nat×Nat)->cS->Prop} {y:Value},bW w ω R d y->bW w ω R dq y
 | _,_,.nil=>⟨rfl,fun j dq h=>by simp at h⟩
 | _,_,.cons h t=>by
  obtain⟨h1,U⟩:=lA.get (w:=w) (ω:=ω) t;obtain⟨ax,aK⟩:=jN.get (w:=w) (ω:=ω) h;refine⟨by simp[h1],fun j dq aE=>?_⟩;cases j with
  | zero=>
   simp only[j2,aQ]at aE;subst aE;exact⟨_,rfl,ax,aK⟩
  | succ j=>exact U j dq (by simpa using aE)
end
inductive ql:cF->cF->Prop
 | one {d dq:D} (h:Fit d dq):ql (.one d) (.one dq)
 | agg {e e':List D} (h:jN e e'):ql (.agg e) (.agg e')
theorem ql.refl(a:cF):ql a a:=by
 cases a with
 | one d=>exact .one (.refl d)
 | agg e=>exact .agg (.refl e)
inductive mZ:List cF->List cF->Prop
 | nil:mZ [] []
 | cons {a cx:cF} {as kF:List cF} (h:ql a cx) (t:mZ as kF):mZ (a::as) (cx::kF)
theorem mZ.get:∀{as kF:List cF},mZ as kF->as.length=kF.length/\∀(i:Nat) (cx:cF),kF[i]?=some cx->∃a,as[i]?=some a/\ql a cx
 | _,_,.nil=>⟨rfl,fun j dq h=>by simp at h⟩
 | _,_,.cons h t=>by
  obtain⟨h1,U⟩:=mZ.get t;refine⟨by simp[h1],fun j dq aE=>?_⟩;cases j with
  | zero=>
   simp only[j2,aQ]at aE;subst aE;exact⟨_,rfl,h⟩
  | succ j=>exact U j dq (by simpa using aE)
variable{w:World}
theorem ql.cell{ω:Own}{r:Nat}{a cx:cF}{y:Value}(h:ql a cx)(ah:lh w ω r a y):lh w ω r cx y:=by
 cases h with
 | one h=>exact h.rep ah
 | agg h=>
  obtain⟨vs,rfl,aT,a'⟩:=ah;obtain⟨h1,U⟩:=jN.get (w:=w) (ω:=ω) h;refine⟨vs,rfl,by omega,fun j dq aE=>?_⟩;obtain⟨d,ax,aK⟩:=U j dq aE;obtain⟨u,aV,bw⟩:=a' j d ax;exact⟨u,aV,aK bw⟩
variable{rs tW:List cF}
theorem mZ.all{ω:Own}{v:Value}(h:mZ rs tW)(aD:mI w ω rs v):mI w ω tW v:=by
 cases h with
 | nil=>exact aD
 | cons h t=>
  cases t with
  | nil=>exact h.cell aD
  | cons U t2=>
   obtain⟨vs,e,aT,bA⟩:=aD;obtain⟨ax,aK⟩:=mZ.get (.cons h (.cons U t2));refine⟨vs,e,by omega,fun i cx aj=>?_⟩;obtain⟨a,aV,bw⟩:=aK i cx aj;obtain⟨y,bX,c8⟩:=bA i a aV;exact⟨y,bX,bw.cell c8⟩
variable{P:Program}{f:FuncId}
theorem bT.fit{args:List aM}(h:bT P f args (.vals rs))(k:mZ rs tW):bT P f args (.vals tW):=by
 intro w vs ω aD kn rW;refine (h w vs ω aD kn rW).mono ?_;rintro e aN ⟨v,rfl,aq,aY,h1,U,ax,aK⟩;exact⟨v,rfl,aq,aY,h1,U,ax,k.all aK⟩
theorem im.fit{args:List cF}(h:im P f args rs)(k:mZ rs tW):im P f args tW:=by
 intro w vs rV aD;refine (h w vs rV aD).mono ?_;rintro e aN ⟨v,rfl,aq,ω,h1,U,ax⟩;exact⟨v,rfl,aq,ω,h1,U,k.all ax⟩
theorem ql.arg{a cx:cF}{y:Value}(h:ql a cx)(ah:uq w a y):uq w cx y:=by
 cases h with
 | one h=>exact h.rep ah
 | agg h=>
  obtain⟨vs,rfl,aT,a'⟩:=ah;obtain⟨h1,U⟩:=jN.get (w:=w) (ω:=fun _=>.bE) h;refine⟨vs,rfl,by omega,fun j dq aE=>?_⟩;obtain⟨d,ax,aK⟩:=U j dq aE;obtain⟨u,aV,bw⟩:=a' j d ax;exact⟨u,aV,aK bw⟩
theorem im.args{as kF:List cF}(h:im P f kF rs)(k:mZ as kF):im P f as rs:=by
 intro w vs rV aD;obtain⟨h1,U⟩:=k.get;refine h w vs rV ⟨by rw[aD.1,h1],fun i cx aj=>?_⟩;obtain⟨a,ax,aK⟩:=U i cx aj;obtain⟨v,aV,bw⟩:=aD.2 i a ax;exact⟨v,aV,aK.arg bw⟩
