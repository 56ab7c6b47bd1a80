import Derived.Test.YtdchjefneblpgaaGreatR15
set_option linter.unusedVariables false
set_option linter.unusedSimpArgs false
namespace Go.Sx
open Go.RowKit
def jQ(i:Nat):Nat:=df+i
def ji(i j:Nat):Nat:=df+100+(100*i+j)
def bc.bd(i:Nat):bc->bS
 | .ro (.one (.J k es))=>.one (.gb (ji i 0) k es)
 | .ro a=>a.arg
 | .iU _ _ _=>.one (.ptr (jQ i) 0)
 | .fn g cO=>.one (.hq g (cO.map jQ))
def D.Qo(t:Nat):D->aD
 | .J k es=>.gb t k es
 | _=>.cu
def tT(i:Nat)(pn:List Bool):Nat->List D->List aD
 | _,[]=>[]
 | j,d::ds=>(if stays pn j then d.Qo (ji i j) else d.qk (rF i j))::tT i pn (j+1) ds
theorem SM(i:Nat)(pn:List Bool):∀(ds:List D) (j x:Nat),(tT i pn j ds)[x]?=(ds[x]?).map fun d=>if stays pn (j+x) then d.Qo (ji i (j+x)) else d.qk (rF i (j+x))
 | [],_,_=>by simp[tT]
 | d::ds,j,0=>by simp[tT]
 | d::ds,j,x+1=>by
  simp only[tT,oK,SM i pn ds (j+1) x];rw[show j+1+x=j+(x+1) by omega]
theorem RW(i:Nat)(pn:List Bool):∀(ds:List D) (j:Nat),(tT i pn j ds).length=ds.length
 | [],_=>rfl
 | d::ds,j=>by simp[tT,RW i pn ds (j+1)]
def vM:Nat->List bc->List aI
 | _,[]=>[]
 | i,a::as=>.bd (a.bd i)::vM (i+1) as
def zF:Nat->List bc->List (Nat×List aD)
 | _,[]=>[]
 | i,.iU pn pre _::as=>(jQ i,tT i pn 0 pre)::zF (i+1) as
 | i,.ro _::as=>zF (i+1) as
 | i,.fn _ _::as=>zF (i+1) as
def Bl(args:List bc)(ntmps:Nat):aG:=⟨(vM 0 args).take (ue args)++List.replicate (ntmps-ue args) .cu,zF 0 args⟩
theorem RX:∀(as:List bc) (i x:Nat),(vM i as)[x]?=(as[x]?).map fun a=>.bd (a.bd (i+x))
 | [],i,x=>by simp[vM]
 | a::as,i,0=>by simp[vM]
 | a::as,i,x+1=>by
  simp only[vM,oK,RX as (i+1) x];rw[show i+1+x=i+(x+1) by omega]
theorem KJ:∀(as:List bc) (i:Nat),(vM i as).length=as.length
 | [],_=>rfl
 | a::as,i=>by simp[vM,KJ as (i+1)]
theorem F7{id:Nat}{ls:List aD}:∀{as:List bc} {i:Nat},dE id (zF i as)=some ls->∃x pn pre post,as[x]?=some (.iU pn pre post)/\id=jQ (i+x)/\ls=tT (i+x) pn 0 pre
 | [],i,h=>by cases h
 | .ro _::as,i,h=>by
  obtain⟨x,pn,pre,post,h1,U,ax⟩:=F7 (as:=as) (i:=i+1) h;exact⟨x+1,pn,pre,post,by simpa using h1,by rw[U,show i+1+x=i+(x+1) by omega],by rw[ax,show i+1+x=i+(x+1) by omega]⟩
 | .fn _ _::as,i,h=>by
  obtain⟨x,pn,pre,post,h1,U,ax⟩:=F7 (as:=as) (i:=i+1) h;exact⟨x+1,pn,pre,post,by simpa using h1,by rw[U,show i+1+x=i+(x+1) by omega],by rw[ax,show i+1+x=i+(x+1) by omega]⟩
 | .iU pn pre post::as,i,h=>by
  simp only[zF,dE]at h;split at h
  ·rename_i e;exact⟨0,pn,pre,post,rfl,e.symm,(eQ h).symm⟩
  obtain⟨x,J3,pre,post,h1,U,ax⟩:=F7 (as:=as) (i:=i+1) h;exact⟨x+1,J3,pre,post,by simpa using h1,by rw[U,show i+1+x=i+(x+1) by omega],by rw[ax,show i+1+x=i+(x+1) by omega]⟩
def CN(args:List bc):Bool:=decide (args.length<49)&&args.all fun
 | .ro _=>true
 | .iU pn pre post=>decide (pn.length<100)&&decide (pre.length<100)&&decide (post.length<100)
 | .fn _ cO=>cO.all fun k=>match args[k]? with | some (.iU _ _ _)=>true | _=>false
def DM:Value->Nat
 | .pointer (some p)=>p.block
 | _=>0
def oH(args:List bc)(w:World)(vs:Array Value)(t:Nat):Nat×Value:=
 if df+100<=t then
  match args[(t-(df+100)) / 100]? with
  | some (.iU _ pre _)=>(((pre[(t-(df+100)) % 100]?).map D.ui).getD 0,jj w (vs.getD ((t-(df+100)) / 100) undef) ((t-(df+100)) % 100))
  | some (.ro (.one d))=>(d.ui,vs.getD ((t-(df+100)) / 100) undef)
  | _=>(0,undef)
 else if df<=t then (DM (vs.getD (t-df) undef),undef) else
 match args[(t-900000000) / 100]? with
 | some (.iU _ pre _)=>(((pre[(t-900000000) % 100]?).map D.ui).getD 0,jj w (vs.getD ((t-900000000) / 100) undef) ((t-900000000) % 100))
 | _=>(0,undef)
def tJ(ω:Own):Own:=fun b=>match ω b with | .box i=>.box (jQ i) | o=>o
variable{ω:Own}{b:Nat}
theorem aom{t:Nat}{q:List (Nat×Nat)}(h:ω b=.tok t q):tJ ω b=.tok t q:=by simp only[tJ,h]
theorem RY:tJ ω b=.bB<->ω b=.bB:=by
 simp only[tJ];cases ω b<;>simp
variable{i:Nat}
theorem F8:tJ ω b=.box (jQ i)<->ω b=.box i:=by
 simp only[tJ];cases ω b with
 | bB=>simp
 | box j=>simp only[jQ,c0.box.injEq];omega
 | tok t q=>simp
variable{args:List bc}{w:World}{vs:Array Value}
theorem RZ{j:Nat}{pn:List Bool}{pre post:List D}(h:args[i]?=some (.iU pn pre post))(aP:j<100):
  oH args w vs (ji i j)=(((pre[j]?).map D.ui).getD 0,jj w (vs.getD i undef) j):=by
 have e1:(ji i j-(df+100)) / 100=i:=by simp only[ji];omega
 have e2:(ji i j-(df+100)) % 100=j:=by simp only[ji];omega
 unfold oH;rw[aZ (by simp only[ji];omega),e1,e2,h]
theorem R0{d:D}(h:args[i]?=some (.ro (.one d))):oH args w vs (ji i 0)=(d.ui,vs.getD i undef):=by
 have e1:(ji i 0-(df+100)) / 100=i:=by simp only[ji];omega
 unfold oH;rw[aZ (by simp only[ji];omega),e1,h]
theorem aon(dV:CN args=true)(h:HG w ω args vs)(lU:HA args vs)(o6:Tidy w ω)(ntmps:Nat):
  Rel ⟨w,fun b=>ω b≠.bB,oH args w vs⟩ (Bl args ntmps) { tmps:=vs.extract 0 (ue args)++Array.replicate (ntmps-(vs.extract 0 (ue args)).size) undef,defers:=[] } w:=by
 have I0:ue args<=args.length:=Nat.sub_le _ _;obtain⟨fJ,cv,aK,ad⟩:=h;simp only[CN,b8,b',fW]at dV;have yI:∀{d:D} {y:Value},bX w ω Tag.free.R d y->bX w (tJ ω) Tag.free.R d y:=fun h=>h.frame fun b q _ aA=>⟨RY.2 aA,rfl⟩
 have c7:(vs.extract 0 (ue args)).size=ue args:=by simp[aK];omega
 refine⟨tJ ω,oH args w vs,rfl,by rw[c7];simp[Bl,KJ,aK],hn.start o6,fun b ao=>?_,fun _ _=>rfl,?_,?_,fun id ls aj=>?_⟩
 ·have:ω b≠.bB:=fun e=>ao (RY.2 e)
  exact⟨.inr this,fJ b this⟩
 ·intro id b hi ao;simp only[tJ]at ao;cases e:ω b with
  | bB=>rw[e]at ao;cases ao
  | tok t q=>rw[e]at ao;cases ao
  | box i=>
   rw[e]at ao;simp only[c0.box.injEq]at ao;subst ao;obtain⟨pn,pre,post,h1⟩:=cv b i e;obtain⟨v,bz,⟨eU,arr,ty,rfl,U,ax,_⟩,_⟩:=ad i _ h1;have:=ax b e;subst this;have AY:i<49:=by
    have:=(ey.1 h1).1;omega
   simp only[oH];rw[a6 (by simp only[jQ];omega),aZ hi,show jQ i-df=i by simp[jQ],eu,bz];rfl
 ·intro i p hp;simp only[Bl]at hp;rw[l7,qs,KJ,Nat.min_eq_left I0]at hp;split at hp
  ·rename_i hi;rw[hj,aZ hi,RX,b2]at hp;obtain⟨jP,pZ,rfl⟩:=hp;rw[dq];obtain⟨v,bz,bD⟩:=ad i jP pZ;have lV:i<vs.size:=by omega
   refine⟨v,by rw[iq,aZ (by rw[c7];exact hi),Array.getElem?_extract,aZ (by omega),dq,bz],?_⟩;cases jP with
   | fn g cO=>
    have h1:=lU i g cO pZ;rw[bz]at h1;cases h1;refine⟨cO.map fun k=>DM (vs.getD k undef),?_,by simp,fun j id aP=>?_⟩
    ·congr 2
     rw[List.map_map];refine lq fun k hk=>?_
     have U:=dV.2 _ (fE pZ);have ax:=fW.1 U k hk;split at ax
     ·rename_i pn pre post q2;obtain⟨v2,tB,⟨fH,_,_,rfl,_⟩,_⟩:=ad k _ q2;simp[eu,tB,ptrTo,DM]
     cases ax
    rw[dG,b2]at aP;obtain⟨k,hk,rfl⟩:=aP;have U:=dV.2 _ (fE pZ);have ax:=fW.1 U k (fE hk);split at ax
    ·rename_i pn pre post q2;obtain⟨v2,tB,⟨fH,_,_,rfl,aQ,_⟩,_⟩:=ad k _ q2;refine⟨fH,?_,F8.2 aQ⟩;simp[hk,eu,tB,ptrTo,DM]
    cases ax
   | iU pn pre post=>
    obtain⟨⟨b,arr,ty,rfl,U,_⟩,_⟩:=bD;exact⟨b,F8.2 U,rfl⟩
   | ro cn=>
    cases cn with
    | one d=>
     cases d with
     | J k es=>
      refine⟨yI bD,fun _=>?_⟩;rw[R0 pZ,eu,bz];rfl
     | v x=>exact D.dQ (τ:=oH args w vs) (p:=(0,0)) (t:=.free) (yI bD)
     | ptr ds=>exact D.dQ (τ:=oH args w vs) (p:=(0,0)) (t:=.free) (yI bD)
     | cl g cs=>exact D.dQ (τ:=oH args w vs) (p:=(0,0)) (t:=.free) (yI bD)
    | agg ds=>
     obtain⟨us,rfl,hlen,o1⟩:=bD;refine⟨us,rfl,by simpa using hlen,fun j l aj=>?_⟩;rw[dG,b2]at aj;obtain⟨d,aB,rfl⟩:=aj;obtain⟨u,h1,U⟩:=o1 j d aB;exact⟨u,h1,D.dQ (p:=(0,0)) (t:=.free) (yI U)⟩
  rename_i hi;rw[Am]at hp;split at hp
  ·rename_i bu;simp only[aO]at hp;subst hp;refine⟨undef,?_,ae⟩;rw[iq,a6 (by rw[c7];omega),Array.getElem?_replicate,aZ (by rw[c7];omega)]
  cases hp
 obtain⟨i,pn,pre,post,h1,rfl,rfl⟩:=F7 aj;rw[dq];obtain⟨v,bz,⟨b,arr,ty,rfl,U,ax,aF,aQ,bb⟩,bN⟩:=ad i _ h1;refine⟨b,arr,ty,F8.2 U,fun c3 di=>ax c3 (F8.1 di),aF,by rw[RW];exact aQ,fun j l aj=>?_⟩;rw[SM,b2]at aj;obtain⟨d,aB,rfl⟩:=aj;rw[dq];obtain⟨u,hu,az⟩:=bb j d aB;have aP:j<100:=by
  have e1:=dV.2 _ (fE h1);simp only[b8,b']at e1;have:=(ey.1 aB).1;omega
 refine⟨u,hu,?_⟩;cases fk:stays pn j with
 | true=>
  rw[aZ rfl];have dj:=bN j d aB fk;have e:jj w (ptrTo b) j=u:=by simp[jj,ptrTo,aF,eu,hu]
  rw[e]at dj;cases d with
  | J k es=>
   refine⟨yI dj,fun _=>?_⟩;rw[RZ h1 aP,eu,bz];simp only[jx,e,aB,n0];rfl
  | _=>exact trivial
 | false=>
 rw[a6 (by simp)];replace az:=az fk;cases d with
 | v x=>
  have e:u=x:=by cases az;rfl
  subst e;unfold D.qk;split
  ·rename_i h;cases h;exact rfl
  ·rename_i h;cases h;exact rfl
  ·rename_i h;cases h
  ·exact trivial
  exact trivial
 | ptr ds=>exact trivial
 | cl g bm=>exact trivial
 | J k es=>
  refine⟨az.frame fun c q _ aA=>⟨aom aA,rfl⟩,?_⟩;have e1:(rF i j-900000000) / 100=i:=by simp only[rF];omega
  have e2:(rF i j-900000000) % 100=j:=by simp only[rF];omega
  have hi:i<49:=by
   have:=(ey.1 h1).1;omega
  simp only[Tag.eg,oH];rw[a6 (by simp only[rF,df];omega),a6 (by simp only[rF,df];omega)];simp only[e1,e2,h1,aB];simp[jj,ptrTo,aF,eu,bz,hu,D.ui]
def qn:List (Option Nat)->List aD->Option (List aD)
 | [],ls=>some ls
 | some t::ts,.gb s _ _::ls=>if s=t then (qn ts ls).map fun r=>.v (.bool true)::r else none
 | none::ts,l::ls=>(qn ts ls).map fun r=>l::r
 | none::ts,[]=>qn ts []
 | some _::_,_=>none
theorem F9:∀{ts:List (Option Nat)} {ls fr:List aD},qn ts ls=some fr->fr.length=ls.length/\(∀(j t:Nat),ts[j]?=some (some t)->∃k es,ls[j]?=some (.gb t k es))/\∀j,ts.getD j none=none->fr[j]?=ls[j]?
 | [],ls,fr,h=>by
  simp only[qn,aO]at h;subst h;exact⟨rfl,fun j t h=>by simp at h,fun _ _=>rfl⟩
 | some t::ts,.gb s k es::ls,fr,h=>by
  simp only[qn]at h;split at h
  ·rename_i e;subst e;rw[b2]at h;obtain⟨r,h1,rfl⟩:=h;obtain⟨g1,g2,g3⟩:=F9 h1;refine⟨by simp[g1],fun j t aP=>?_,fun j aP=>?_⟩
   ·cases j with
    | zero=>
     simp only[kE,aO]at aP;subst aP;exact⟨k,es,rfl⟩
    | succ j=>exact g2 j t (by simpa using aP)
   cases j with
   | zero=>simp at aP
   | succ j=>simpa using g3 j (by simpa using aP)
  cases h
 | none::ts,l::ls,fr,h=>by
  simp only[qn,b2]at h;obtain⟨r,h1,rfl⟩:=h;obtain⟨g1,g2,g3⟩:=F9 h1;refine⟨by simp[g1],fun j t aP=>?_,fun j aP=>?_⟩
  ·cases j with
   | zero=>simp at aP
   | succ j=>exact g2 j t (by simpa using aP)
  cases j with
  | zero=>rfl
  | succ j=>simpa using g3 j (by simpa using aP)
 | none::ts,[],fr,h=>by
  simp only[qn]at h;obtain⟨g1,g2,g3⟩:=F9 h;refine⟨g1,fun j t aP=>?_,fun j aP=>?_⟩
  ·cases j with
   | zero=>simp at aP
   | succ j=>obtain⟨k,es,h⟩:=g2 j t (by simpa using aP);simp at h
  have:fr=[]:=x' g1;rw[this]
def td:List (Option Nat)->List aD->List D->List D
 | some _::ts,.gb _ k es::ls,_::ds=>.J k es::td ts ls ds
 | _::ts,_::ls,d::ds=>d::td ts ls ds
 | _,_,ds=>ds
theorem aoo:∀(ts:List (Option Nat)) (ls:List aD) (ds:List D),(td ts ls ds).length=ds.length/\∀j,ts.getD j none=none->(td ts ls ds)[j]?=ds[j]?:=by
 intro ts ls ds
 fun_induction td ts ls ds with
 | case1 t ts s k es ls d ds dk=>
  refine⟨by simp[dk.1],fun j aP=>?_⟩;cases j with
  | zero=>simp at aP
  | succ j=>simpa using dk.2 j (by simpa using aP)
 | case2 x ts l ls d ds _ dk=>
  refine⟨by simp[dk.1],fun j aP=>?_⟩;cases j with
  | zero=>rfl
  | succ j=>simpa using dk.2 j (by simpa using aP)
 | case3=>exact⟨rfl,fun _ _=>rfl⟩
def ss(i:Nat):Nat->List Bool->List (Option Nat)
 | _,[]=>[]
 | j,b::r=>(if b then some (ji i j) else none)::ss i (j+1) r
theorem KK(i:Nat):∀(pn:List Bool) (j x:Nat),(ss i j pn)[x]?=(pn[x]?).map fun b=>if b then some (ji i (j+x)) else none
 | [],_,_=>by simp[ss]
 | b::r,j,0=>by simp[ss]
 | b::r,j,x+1=>by
  simp only[ss,oK,KK i r (j+1) x];rw[show j+1+x=j+(x+1) by omega]
def tU(st:aG):Nat->List bc->Option (List bc×iH)
 | _,[]=>some ([],[])
 | i,.ro a::as=>(tU st (i+1) as).map fun r=>(.ro a::r.1,r.2)
 | i,.fn g cO::as=>(tU st (i+1) as).map fun r=>(.fn g cO::r.1,r.2)
 | i,.iU pn pre post::as=>
  match dE (jQ i) st.boxes with
  | some ls=>
   match qn (ss i 0 pn) ls with
   | some fr=>
    match rH (hU i 0) fr post,tU st (i+1) as with
    | some (ds,ts),some r=>some (.iU pn pre (td (ss i 0 pn) ls ds)::r.1,ts++r.2)
    | _,_=>none
   | none=>none
  | none=>none
theorem Fh{st:aG}:∀{as mc:List bc} {i:Nat} {ts:iH},tU st i as=some (mc,ts)->mc.length=as.length/\∀(x:Nat) (pn:List Bool) (pre post:List D),mc[x]?=some (.iU pn pre post)->
  ∃ls fr ds hint k3,dE (jQ (i+x)) st.boxes=some ls/\qn (ss (i+x) 0 pn) ls=some fr/\rH (hU (i+x) 0) fr hint=some (ds,k3)/\post=td (ss (i+x) 0 pn) ls ds/\∀y∈k3,y∈ts
 | [],mc,i,ts,h=>by
  simp only[tU,aO,bx]at h;obtain⟨rfl,rfl⟩:=h;exact⟨rfl,fun x pn pre post h=>by simp at h⟩
 | .ro a::as,mc,i,ts,h=>by
  simp only[tU,b2]at h;obtain⟨⟨cw,dt⟩,h1,h⟩:=h;simp only[bx]at h;obtain⟨rfl,rfl⟩:=h;obtain⟨cy,bw⟩:=Fh h1;refine⟨by simp[cy],fun x pn pre post aa=>?_⟩;cases x with
  | zero=>simp at aa
  | succ x=>
   have:=bw x pn pre post (by simpa using aa);rwa[show i+1+x=i+(x+1) by omega]at this
 | .fn g cO::as,mc,i,ts,h=>by
  simp only[tU,b2]at h;obtain⟨⟨cw,dt⟩,h1,h⟩:=h;simp only[bx]at h;obtain⟨rfl,rfl⟩:=h;obtain⟨cy,bw⟩:=Fh h1;refine⟨by simp[cy],fun x pn pre post aa=>?_⟩;cases x with
  | zero=>simp at aa
  | succ x=>
   have:=bw x pn pre post (by simpa using aa);rwa[show i+1+x=i+(x+1) by omega]at this
 | .iU pn pre post::as,mc,i,ts,h=>by
  simp only[tU]at h;split at h
  ·rename_i ls e1;split at h
   ·rename_i fr cc;split at h
    ·rename_i ds GX r e2 cJ;simp only[aO,bx]at h;obtain⟨rfl,rfl⟩:=h;obtain⟨cy,bw⟩:=Fh cJ;refine⟨by simp[cy],fun x J3 za aba aa=>?_⟩;cases x with
     | zero=>
      simp only[kE,aO,bc.iU.injEq]at aa;obtain⟨rfl,rfl,rfl⟩:=aa;exact⟨ls,fr,ds,post,GX,e1,cc,e2,rfl,fun y bn=>hl _ bn⟩
     | succ x=>
      obtain⟨ls,fr,ds,hint,k3,g1,g0,g2,g4,g3⟩:=bw x J3 za aba (by simpa using aa);rw[show i+1+x=i+(x+1) by omega]at g1 g2 g0 g4;exact⟨ls,fr,ds,hint,k3,g1,g0,g2,g4,fun y bn=>io _ (g3 y bn)⟩
    cases h
   cases h
  cases h
def Fi(src:List (Option Nat)):List (Option Nat):=src.map fun x=>x.map fun a=>ji a 0
def ave(args:List bc):bG->Bool
 | .vals _=>true
 | .kf src _=>src.all fun
  | some a=>match args[a]? with | some (.ro (.one _))=>true | _=>false
  | none=>true
def No(P:Program)(st:aG)(kC:List ResultVar):bG->Option (bG×iH×Option Nat)
 | .vals hint=>
  match kC.mapM (rm P st) with
  | some cx=>(sL 0 cx hint).map fun r=>(.vals r.1,r.2,none)
  | none=>none
 | .kf src hint=>
  match kC.mapM (rm P st) with
  | some [.bd (.one (.ptr id 0))]=>
   match dE id st.boxes with
   | some ls=>
    match qn (Fi src) ls with
    | some fr=>if id<df then (rH (hU 49 0) fr hint).map fun r=>(.kf src (td (Fi src) ls r.1),r.2,some id) else none
    | none=>none
   | none=>none
  | _=>none
def DX(P:Program)(st:aG)(kC:List ResultVar)(args:List bc)(hint:bG):Option (bG×List bc):=
 match No P st kC hint,tU st 0 args with
 | some (r,ts,_),some (as,uk)=>if CN args&&ave args r&&FZ (ts++uk) then some (r,as) else none
 | _,_=>none
def nN(ω:Own)(ts:iH)(nw:Option Nat):Own:=fun b=>
 match ω b with
 | .tok t q=>match ts.at t with | some n=>.tok n q | none=>.bB
 | .box id=>if nw=some id then .box 49 else if df<=id/\id<df+49 then .box (id-df) else .bB
 | .bB=>.bB
variable{ts:iH}
theorem KL{nw:Option Nat}{n:Nat}{q:List (Nat×Nat)}(h:jk ω ts b=.tok n q):nN ω ts nw b=.tok n q:=by
 simp only[jk]at h;simp only[nN];cases e:ω b with
 | bB=>rw[e]at h;cases h
 | box id=>rw[e]at h;cases h
 | tok t dB=>rw[e]at h;exact h
theorem mT.avn{nw:Option Nat}{r:Nat}{d:cK}{y:Value}(h:mT w (jk ω ts) r d y):mT w (nN ω ts nw) r d y:=by
 cases d with
 | one d=>exact bX.frame h fun b q _ aA=>⟨KL aA,rfl⟩
 | agg ds=>
  obtain⟨vs,e,aK,aP⟩:=h;exact⟨vs,e,aK,fun j d aB=>by
   obtain⟨u,hu,az⟩:=aP j d aB;exact⟨u,hu,az.frame fun b q _ aA=>⟨KL aA,rfl⟩⟩⟩
theorem R1{τ:Nat->Nat×Value}{nw:Option Nat}{id i:Nat}{ls fr:List aD}{hint ds:List D}{k3:iH}{cO:List (Option Nat)}{pn:List Bool}(lk:∀t n,(t,n)∈ts->ts.at t=some n)
  (ao:uv w ω τ id ls) (fJ:qn cO ls=some fr) (ZD:∀j,stays pn j=false->cO.getD j none=none) (az:rH (hU i 0) fr hint=some (ds,k3)) (j':∀y∈k3,y∈ts) (gq:∀b,ω b=.box id->nN ω ts nw b=.box i) (aat:∀b,nN ω ts nw b=.box i->ω b=.box id):
  ∀{y:Value},(∃b,ω b=.box id/\y=ptrTo b)->wc w (nN ω ts nw) i pn (hU i) (td cO ls ds) y/\∀(j t:Nat),cO[j]?=some (some t)->df<=t->(τ t).2=jj w y j:=by
 rintro y ⟨c3,di,rfl⟩;obtain⟨b,arr,ty,h1,U,ax,aF⟩:=ao;have:=U c3 di;subst this;obtain⟨aQ,bb⟩:=K8 (w:=w) (ω:=ω) (τ:=τ) lk az j';obtain⟨gw,jU,sP⟩:=F9 fJ;obtain⟨f1,f2⟩:=aoo cO ls ds;refine⟨⟨c3,arr,ty,rfl,gq c3 di,fun c af=>U c (aat c af),ax,by have:=aF.1;omega,fun j d aB=>?_⟩,fun j t aP bq=>?_⟩
 ·have j9:j<ls.length:=by
   have:=(ey.1 aB).1;omega
  obtain⟨u,hu,ai⟩:=aF.2 j _ (gz j9);refine⟨u,hu,fun fk=>?_⟩;have hk:=ZD j fk;rw[f2 j hk]at aB;obtain⟨l,aj,cV⟩:=bb j d aB;rw[sP j hk,gz j9]at aj;cases aj;have:=cV u ai;rw[show hU i 0+j=hU i j by simp only[hU];omega]at this;exact this.frame fun b q _ aA=>⟨KL aA,rfl⟩
 obtain⟨k,es,aj⟩:=jU j t aP;obtain⟨u,hu,ai⟩:=aF.2 j _ aj;rw[ai.2 bq];simp[jj,ptrTo,ax,eu,hu]
theorem R2{P:Program}{f:FuncId}{fn:Func}{c:Code}{r:bG}{ans cj:List b6}{obs:List Prop}{e:h'}{st:aG}(bg:P.funcs[f]?=some fn)(ao:fn.body=some c)
  (fj:run P c (Bl args fn.ntmps) ans=some (e,st,cj,obs)) (aN:c8 obs) (he:e=.ret\/e=.normal) (fi:DX P st fn.results.toList args r=some (r,args)):dC P f args r:=by
 intro w vs Du nx IC o6;unfold DX at fi;split at fi
 ·rename_i cw ts nw as uk e5 mj;split at fi
  ·rename_i bD;simp only[aO,bx]at fi;obtain⟨rfl,rfl⟩:=fi;rw[b8,b8]at bD;obtain⟨⟨dV,jG⟩,bD⟩:=bD;have lk:∀t n,(t,n)∈ts++uk->iH.at t (ts++uk)=some n:=fun t n h=>F0 bD h
   refine calls_of_wp bg ao (Code.wp_mono (fun e' cF aJ hp=>?_) (oz c fj aN _ _ w (aon dV nx IC o6 fn.ntmps)));obtain⟨rfl,ω,τ,aT⟩:=hp;have awQ:cw=cw/\as.length<49:=by
    simp only[CN,b8,b']at dV;exact⟨rfl,dV.1⟩
   have A3:∀id,nw=some id->id<df:=by
    intro id e;subst e;unfold No at e5;split at e5
    ·split at e5
     ·rw[b2]at e5;obtain⟨_,_,h⟩:=e5;simp only[bx]at h;exact absurd h.2.2 (by simp)
     cases e5
    split at e5
    ·split at e5
     ·split at e5
      ·split at e5
       ·rename_i bu;rw[b2]at e5;obtain⟨_,_,h⟩:=e5;simp only[bx,aO]at h;rw[<-h.2.2];exact bu
       cases e5
      cases e5
     cases e5
    cases e5
   have hm:∃v,(results fn cF.tmps).run P aJ=.ok v aJ/\DF aJ (nN ω (ts++uk) nw) vs cw v:=by
    have PW:∀{cx:List aI},fn.results.toList.mapM (rm P st)=some cx->∃zs:List Value,(results fn cF.tmps).run P aJ=.ok (if h:zs.toArray.size=1 then zs.toArray[0] else .tuple zs.toArray) aJ/\zs.length=cx.length/\∀(i:Nat) (p:aI),cx[i]?=some p->∃z,zs[i]?=some z/\cP (Sat aJ ω τ) p z:=by
     intro cx tw;obtain⟨zs,h1,U,ax⟩:=F2 aT tw;have hm:=EW (P:=P) _ fn.results aJ _ h1;refine⟨zs,?_,U,ax⟩;rw[K9,Sem.run_bind,hm];rfl
    unfold No at e5;split at e5
    ·rename_i hint;split at e5
     ·rename_i cx tw;rw[b2]at e5;obtain⟨⟨ds,GX⟩,eI,h⟩:=e5;simp only[bx,bG.vals.injEq]at h;obtain⟨rfl,rfl,rfl⟩:=h;obtain⟨zs,h1,U,ax⟩:=PW tw;obtain⟨aF,aQ⟩:=F1 (w:=aJ) (ω:=ω) (τ:=τ) lk eI (fun x aa=>hl _ aa);have fa:∀(j:Nat) (d:cK),ds[j]?=some d->∃z,zs[j]?=some z/\mT aJ (nN ω (GX++uk) none) j d z:=by
       intro j d aB;obtain⟨p,hp,tv⟩:=aQ j d aB;obtain⟨z,aW,se⟩:=ax j p hp;have:=tv z se;rw[dq]at this;exact⟨z,aW,this.avn⟩
      have lY:zs.length=ds.length:=by omega
      refine⟨_,h1,?_⟩;show nL _ _ _ _;generalize bz:(if h:zs.toArray.size=1 then zs.toArray[0] else Value.tuple zs.toArray)=v;unfold nL;split
      ·rename_i cn;obtain⟨z,aW,af⟩:=fa 0 cn rfl;have h1:zs.length=1:=by rw[lY];rfl
       have p1:zs=[z]:=by
        match zs,h1,aW with
        | [z0],_,aW=>simp at aW;rw[aW]
       have Be:v=z:=by
        rw[<-bz];simp[p1]
       rw[Be];exact af
      rename_i cf;have h1:¬zs.toArray.size=1:=by
       intro h;simp at h;rw[lY]at h;obtain⟨d,aB⟩:=List.length_eq_one_iff.1 h;exact cf d aB
      rw[dif_neg h1]at bz;exact⟨zs.toArray,bz.symm,by simpa using lY,fun r cn az=>by obtain⟨z,aW,af⟩:=fa r cn az;exact⟨z,by simpa using aW,af⟩⟩
     cases e5
    rename_i src hint;split at e5
    ·rename_i id tw;split at e5
     ·rename_i ls cv;split at e5
      case h_2=>cases e5
      rename_i fr fJ;split at e5
      ·rename_i bu;rw[b2]at e5;obtain⟨⟨ds,GX⟩,eI,h⟩:=e5;simp only[bx,bG.kf.injEq,true_and]at h;obtain⟨rfl,rfl,rfl⟩:=h;obtain⟨zs,h1,U,ax⟩:=PW tw;obtain⟨z,aW,b,aaF,sf⟩:=ax 0 _ rfl;have p1:zs=[z]:=by
        match zs,U,aW with
        | [z0],_,aW=>simp at aW;rw[aW]
       subst p1;refine⟨z,by simpa using h1,?_⟩;have Bd:=R1 (pn:=x0 src) (nw:=some id) (i:=49) lk (aT.boxes id ls cv) fJ (fun j aP=>by
        simp only[stays,x0,iF,dG]at aP;simp only[Fi,iF,dG];cases e:src[j]? with
        | none=>rfl
        | some x=>cases x with
         | none=>rfl
         | some a=>rw[e]at aP;cases aP) eI (fun y bn=>hl _ bn) (fun b ao=>by simp only[nN,ao,fL]) (fun b ao=>?_) ⟨b,aaF,sf⟩
       ·refine⟨Bd.1,fun j x aa=>?_⟩;have aF:=Bd.2 j (ji x 0) (by simp[Fi,aa]) (by simp only[ji];omega);have aQ:=fW.1 jG _ (fE aa);simp only at aQ;split at aQ
        ·rename_i d aB;rw[aT.fixed _ (by simp only[ji];omega)]at aF;change (oH as w vs (ji x 0)).2=_ at aF;rw[R0 aB]at aF;have bb:x<vs.size:=by
          have:=(ey.1 aB).1;have:=nx.2.2.1;omega
         rw[<-aF,hS bb,eu,hS bb];rfl
        cases aQ
       simp only[nN]at ao;cases e:ω b with
       | bB=>rw[e]at ao;cases ao
       | tok t q=>rw[e]at ao;simp only at ao;split at ao<;>cases ao
       | box hB=>
        rw[e]at ao;simp only at ao;split at ao
        ·rename_i e2;rw[eQ e2]
        split at ao
        ·simp only[c0.box.injEq]at ao;omega
        cases ao
      cases e5
     cases e5
    cases e5
   obtain⟨v,tA,tB⟩:=hm;have ed:∃v,(results fn cF.tmps).run P aJ=.ok v aJ/\∃u,Ending.returned v=.returned u/\hn ⟨w,fun b=>Du b≠.bB,fun _=>(0,undef)⟩ aJ/\
     ∃a1:Own,(∀b,b<w.heap.size->Du b=.bB->a1 b=.bB)/\FK aJ a1/\(∀(i:Nat) (pn:List Bool) (pre post:List D) (y:Value),as[i]?=some (.iU pn pre post)->vs[i]?=some y->wc aJ a1 i pn (hU i) post y/\∀j,stays pn j=true->jj aJ y j=jj w y j)/\DF aJ a1 vs cw u:=by
    refine⟨v,tA,v,rfl,⟨aT.below.os,aT.below.tape,aT.below.output,aT.below.size,aT.below.block,aT.below.drawn,aT.below.laid,aT.below.free⟩,nN ω (ts++uk) nw,fun b ao ar=>?_,fun b ao=>?_,?_,tB⟩
    ·have:ω b=.bB:=by
      cases e:ω b with
      | bB=>rfl
      | box id=>
       rcases (aT.owned b (by simp[e])).1 with h | h
       ·exact absurd ao (by have h:w.heap.size<=b:=h;omega)
       exact absurd ar h
      | tok t q=>
       rcases (aT.owned b (by simp[e])).1 with h | h
       ·exact absurd ao (by have h:w.heap.size<=b:=h;omega)
       exact absurd ar h
     simp only[nN,this]
    ·have:ω b≠.bB:=fun e=>ao (by simp only[nN,e])
     exact (aT.owned b this).2
    intro i pn pre post y pZ bn;obtain⟨ls,fr,ds,hint,k3,g1,g0,g2,rfl,g3⟩:=(Fh mj).2 i pn pre post pZ;simp only[dq]at g1 g2 g0 pZ ⊢;have hi:i<49:=by
     have:=(ey.1 pZ).1;omega
    have cf:nw≠some (jQ i):=fun e=>by have:=A3 _ e;simp only[jQ]at this;omega
    obtain⟨ck,ux,vR,gj,gC,yE,ti⟩:=aT.boxes _ ls g1;obtain⟨gT,P3,⟨eU,_,_,hyp,_⟩,_⟩:=nx.2.2.2 i _ pZ;rw[bn]at P3;have:=eQ P3;subst this;have wJ:=aT.pinned (jQ i) ck (by simp[jQ]) gj;simp only[oH]at wJ;rw[a6 (by simp only[jQ];omega),aZ (by simp[jQ]),show jQ i-df=i by simp[jQ],eu,bn,hyp]at wJ;have wJ:eU=ck:=wJ;subst wJ;have ZB:∀j,stays pn j=true->(ss i 0 pn)[j]?=some (some (ji i j)):=fun j aP=>by
     simp only[stays,iF]at aP;rw[KK,dq];cases e:pn[j]? with
     | none=>rw[e]at aP;cases aP
     | some x=>
      rw[e]at aP;simp only[jx]at aP;simp[aP]
    have Bd:=R1 (pn:=pn) (nw:=nw) (i:=i) lk ⟨eU,ux,vR,gj,gC,yE,ti⟩ g0 (fun j aP=>by
     simp only[stays,iF]at aP;rw[iF,KK];cases e:pn[j]? with
     | none=>rfl
     | some x=>
      rw[e]at aP;simp only[jx]at aP;simp[aP]) g2 (fun y bn=>io _ (g3 y bn)) (fun b ao=>?_) (fun b ao=>?_) ⟨eU,gj,hyp⟩
    ·refine⟨Bd.1,fun j aP=>?_⟩;have Zx:j<100:=by
      simp only[CN,b8,b',fW]at dV;have aF:=dV.2 _ (fE pZ);simp only[b8,b']at aF;simp only[stays,iF]at aP;rcases pM j pn.length with h | h
      ·omega
      rw[List.getElem?_eq_none h]at aP;cases aP
     have aF:=Bd.2 j (ji i j) (ZB j aP) (by simp only[ji];omega);rw[aT.fixed _ (by simp only[ji];omega)]at aF;change (oH as w vs (ji i j)).2=_ at aF;rw[RZ pZ Zx]at aF;rw[<-aF];simp only[eu,bn,jx]
    ·simp only[nN,ao];rw[a6 cf,aZ ⟨by simp[jQ],by simp only[jQ];omega⟩];simp[jQ]
    simp only[nN]at ao;cases e:ω b with
    | bB=>rw[e]at ao;cases ao
    | tok t q=>rw[e]at ao;simp only at ao;split at ao<;>cases ao
    | box hB=>
     rw[e]at ao;simp only at ao;split at ao
     ·simp only[c0.box.injEq]at ao;omega
     split at ao
     ·simp only[c0.box.injEq]at ao;simp only[jQ,c0.box.injEq];omega
     cases ao
   obtain⟨v,bb,bN⟩:=ed;rcases he with rfl | rfl
   ·exact⟨aT.defers,v,bb,bN⟩
   exact⟨aT.defers,v,bb,bN⟩
  cases fi
 cases fi
def J1(P:Program)(c:Code)(ntmps:Nat)(kC:List ResultVar)(args:List bc)(hint:bG)(ans:List b6):Option (bG×List bc×List Prop):=
 match run P c (Bl args ntmps) ans with
 | some (.ret,st,_,obs)=>(DX P st kC args hint).map fun r=>(r.1,r.2,obs)
 | some (.normal,st,_,obs)=>(DX P st kC args hint).map fun r=>(r.1,r.2,obs)
 | _=>none
theorem dC.of{P:Program}{f:FuncId}{fn:Func}{r:bG}(ans:List b6)(obs:List Prop)(bg:P.funcs[f]?=some fn)(ao:fn.body.isSome=true)
  (h:J1 P (oA fn) fn.ntmps fn.results.toList args r ans=some (r,args,obs)) (aN:c8 obs):dC P f args r:=by
 obtain⟨c,af⟩:=qo.1 ao;have AV:oA fn=c:=by simp[oA,af]
 unfold J1 at h;rw[AV]at h;split at h
 ·rename_i st a nJ az;rw[b2]at h;obtain⟨⟨Ab,Nr⟩,h1,h⟩:=h;simp only[bx]at h;obtain⟨rfl,rfl,rfl⟩:=h;exact R2 bg af az aN (.inl rfl) h1
 ·rename_i st a nJ az;rw[b2]at h;obtain⟨⟨Ab,Nr⟩,h1,h⟩:=h;simp only[bx]at h;obtain⟨rfl,rfl,rfl⟩:=h;exact R2 bg af az aN (.inr rfl) h1
 cases h
end Go.Sx
namespace Go.Sx
open Go.RowKit
mutual
inductive Fit:D->D->Prop
 | refl (d:D):Fit d d
 | nil (k:Nat):Fit (.v (.slice none 0 0)) (.J k [])
 | J (k:Nat) {es cB:List (List D)} (h:sY es cB):Fit (.J k es) (.J k cB)
inductive nm:List D->List D->Prop
 | nil:nm [] []
 | cons {d dK:D} {e e':List D} (h:Fit d dK) (t:nm e e'):nm (d::e) (dK::e')
inductive sY:List (List D)->List (List D)->Prop
 | nil:sY [] []
 | cons {e e':List D} {es cB:List (List D)} (h:nm e e') (t:sY es cB):sY (e::es) (e'::cB)
end
theorem nm.refl:∀e:List D,nm e e
 | []=>.nil
 | d::e=>.cons (.refl d) (nm.refl e)
mutual
theorem Fit.rep{w:World}{ω:Own}:∀{d dK:D},Fit d dK->∀{R:List (Nat×Nat)->c0->Prop} {y:Value},bX w ω R d y->bX w ω R dK y
 | _,_,.refl d,_,_,h=>h
 | _,_,.nil k,_,_,h=>by cases h;exact .nil _ _ _
 | _,_,.J k f,_,_,h=>by
  obtain⟨aj,ar⟩:=sY.get (w:=w) (ω:=ω) f;cases h with
  | nil=>
   have:=x' aj.symm;subst this;exact .nil _ _ _
  | row R k es b off cap arr ty cR us ao ed af ai hk hu aB=>
   rw[aj];refine .row _ _ _ b off cap arr ty cR us ao ed (aj▸af) ai (fun e he=>?_) (fun i j dK d'=>?_) (fun i j dK d'=>?_)
   ·obtain⟨i,hi⟩:=pJ.1 he;obtain⟨cc,h1,U,_⟩:=ar i e hi;rw[<-U];exact hk cc (fE h1)
   ·unfold c5 at d';rw[nf]at d';obtain⟨e,h1,U⟩:=d';obtain⟨cc,ax,_,aQ⟩:=ar i e h1;obtain⟨d,bb,_⟩:=aQ j dK U;exact hu i j d (by unfold c5;rw[ax];exact bb)
   unfold c5 at d';rw[nf]at d';obtain⟨e,h1,U⟩:=d';obtain⟨cc,ax,_,aQ⟩:=ar i e h1;obtain⟨d,bb,bN⟩:=aQ j dK U;exact bN (aB i j d (by unfold c5;rw[ax];exact bb))
theorem nm.get{w:World}{ω:Own}:∀{e e':List D},nm e e'->e.length=e'.length/\∀(j:Nat) (dK:D),e'[j]?=some dK->∃d,e[j]?=some d/\∀{R:List (Nat×Nat)->c0->Prop} {y:Value},bX w ω R d y->bX w ω R dK y
 | _,_,.nil=>⟨rfl,fun j dK h=>by simp at h⟩
 | _,_,.cons h t=>by
  obtain⟨h1,U⟩:=nm.get (w:=w) (ω:=ω) t;refine⟨by simp[h1],fun j dK aB=>?_⟩;cases j with
  | zero=>
   simp only[kE,aO]at aB;subst aB;exact⟨_,rfl,fun az=>Fit.rep h az⟩
  | succ j=>exact U j dK (by simpa using aB)
theorem sY.get{w:World}{ω:Own}:∀{es cB:List (List D)},sY es cB->es.length=cB.length/\∀(i:Nat) (e':List D),cB[i]?=some e'->∃e,es[i]?=some e/\e.length=e'.length/\∀(j:Nat) (dK:D),e'[j]?=some dK->∃d,e[j]?=some d/\∀{R:List (Nat×Nat)->c0->Prop} {y:Value},bX w ω R d y->bX w ω R dK y
 | _,_,.nil=>⟨rfl,fun j dK h=>by simp at h⟩
 | _,_,.cons h t=>by
  obtain⟨h1,U⟩:=sY.get (w:=w) (ω:=ω) t;obtain⟨ax,aF⟩:=nm.get (w:=w) (ω:=ω) h;refine⟨by simp[h1],fun j dK aB=>?_⟩;cases j with
  | zero=>
   simp only[kE,aO]at aB;subst aB;exact⟨_,rfl,ax,aF⟩
  | succ j=>exact U j dK (by simpa using aB)
end
inductive rP:cK->cK->Prop
 | one {d dK:D} (h:Fit d dK):rP (.one d) (.one dK)
 | agg {e e':List D} (h:nm e e'):rP (.agg e) (.agg e')
theorem rP.refl(a:cK):rP a a:=by
 cases a with
 | one d=>exact .one (.refl d)
 | agg e=>exact .agg (.refl e)
inductive pN:List cK->List cK->Prop
 | nil:pN [] []
 | cons {a cF:cK} {as mc:List cK} (h:rP a cF) (t:pN as mc):pN (a::as) (cF::mc)
theorem pN.get:∀{as mc:List cK},pN as mc->as.length=mc.length/\∀(i:Nat) (cF:cK),mc[i]?=some cF->∃a,as[i]?=some a/\rP a cF
 | _,_,.nil=>⟨rfl,fun j dK h=>by simp at h⟩
 | _,_,.cons h t=>by
  obtain⟨h1,U⟩:=pN.get t;refine⟨by simp[h1],fun j dK aB=>?_⟩;cases j with
  | zero=>
   simp only[kE,aO]at aB;subst aB;exact⟨_,rfl,h⟩
  | succ j=>exact U j dK (by simpa using aB)
variable{w:World}
theorem rP.cell{ω:Own}{r:Nat}{a cF:cK}{y:Value}(h:rP a cF)(af:mT w ω r a y):mT w ω r cF y:=by
 cases h with
 | one h=>exact h.rep af
 | agg h=>
  obtain⟨vs,rfl,aK,aP⟩:=af;obtain⟨h1,U⟩:=nm.get (w:=w) (ω:=ω) h;refine⟨vs,rfl,by omega,fun j dK aB=>?_⟩;obtain⟨d,ax,aF⟩:=U j dK aB;obtain⟨u,aQ,bb⟩:=aP j d ax;exact⟨u,aQ,aF bb⟩
variable{rs vN:List cK}
theorem pN.all{ω:Own}{v:Value}(h:pN rs vN)(az:nL w ω rs v):nL w ω vN v:=by
 cases h with
 | nil=>exact az
 | cons h t=>
  cases t with
  | nil=>exact h.cell az
  | cons U t2=>
   obtain⟨vs,e,aK,bz⟩:=az;obtain⟨ax,aF⟩:=pN.get (.cons h (.cons U t2));refine⟨vs,e,by omega,fun i cF ad=>?_⟩;obtain⟨a,aQ,bb⟩:=aF i cF ad;obtain⟨y,bN,dj⟩:=bz i a aQ;exact⟨y,bN,bb.cell dj⟩
variable{P:Program}{f:FuncId}
theorem dC.fit{args:List bc}(h:dC P f args (.vals rs))(k:pN rs vN):dC P f args (.vals vN):=by
 intro w vs ω az lU o6;refine (h w vs ω az lU o6).mono ?_;rintro e aJ ⟨v,rfl,ao,a1,h1,U,ax,aF⟩;exact⟨v,rfl,ao,a1,h1,U,ax,k.all aF⟩
theorem ja.fit{args:List cK}(h:ja P f args rs)(k:pN rs vN):ja P f args vN:=by
 intro w vs tz az;refine (h w vs tz az).mono ?_;rintro e aJ ⟨v,rfl,ao,ω,h1,U,ax⟩;exact⟨v,rfl,ao,ω,h1,U,k.all ax⟩
theorem rP.arg{a cF:cK}{y:Value}(h:rP a cF)(af:v7 w a y):v7 w cF y:=by
 cases h with
 | one h=>exact h.rep af
 | agg h=>
  obtain⟨vs,rfl,aK,aP⟩:=af;obtain⟨h1,U⟩:=nm.get (w:=w) (ω:=fun _=>.bB) h;refine⟨vs,rfl,by omega,fun j dK aB=>?_⟩;obtain⟨d,ax,aF⟩:=U j dK aB;obtain⟨u,aQ,bb⟩:=aP j d ax;exact⟨u,aQ,aF bb⟩
theorem ja.args{as mc:List cK}(h:ja P f mc rs)(k:pN as mc):ja P f as rs:=by
 intro w vs tz az;obtain⟨h1,U⟩:=k.get;refine h w vs tz ⟨by rw[az.1,h1],fun i cF ad=>?_⟩;obtain⟨a,ax,aF⟩:=U i cF ad;obtain⟨v,aQ,bb⟩:=az.2 i a ax;exact⟨v,aQ,aF.arg bb⟩
