import Derived.Test.YtdchjefneblpgaaGreatR15
set_option linter.unusedVariables false
set_option linter.unusedSimpArgs false
namespace Go.Sx
open Go.RowKit
def iz(i:Nat):Nat:=c7+i
def h9(i j:Nat):Nat:=c7+100+(100*i+j)
def aM.aK(i:Nat):aM->bu
 | .ro (.one (.J k es))=>.one (.de (h9 i 0) k es)
 | .ro a=>a.arg
 | .hV _ _ _=>.one (.ptr (iz i) 0)
 | .fn g cK=>.one (.gn g (cK.map iz))
def D.Ox(t:Nat):D->aB
 | .J k es=>.de t k es
 | _=>.cq
def r5(i:Nat)(pn:List Bool):Nat->List D->List aB
 | _,[]=>[]
 | j,d::ds=>(if stays pn j then d.Ox (h9 i j) else d.oK (p2 i j))::r5 i pn (j+1) ds
theorem P5(i:Nat)(pn:List Bool):∀(ds:List D) (j x:Nat),(r5 i pn j ds)[x]?=(ds[x]?).map fun d=>if stays pn (j+x) then d.Ox (h9 i (j+x)) else d.oK (p2 i (j+x))
 | [],_,_=>by simp[r5]
 | d::ds,j,0=>by simp[r5]
 | d::ds,j,x+1=>by
  simp only[r5,mR,P5 i pn ds (j+1) x];rw[show j+1+x=j+(x+1) by omega]
theorem P6(i:Nat)(pn:List Bool):∀(ds:List D) (j:Nat),(r5 i pn j ds).length=ds.length
 | [],_=>rfl
 | d::ds,j=>by simp[r5,P6 i pn ds (j+1)]
def tP:Nat->List aM->List aJ
 | _,[]=>[]
 | i,a::as=>.aK (a.aK i)::tP (i+1) as
def xt:Nat->List aM->List (Nat×List aB)
 | _,[]=>[]
 | i,.hV pn pre _::as=>(iz i,r5 i pn 0 pre)::xt (i+1) as
 | i,.ro _::as=>xt (i+1) as
 | i,.fn _ _::as=>xt (i+1) as
def y'(args:List aM)(ntmps:Nat):aI:=⟨(tP 0 args).take (si args)++List.replicate (ntmps-si args) .cq,xt 0 args⟩
theorem P7:∀(as:List aM) (i x:Nat),(tP i as)[x]?=(as[x]?).map fun a=>.aK (a.aK (i+x))
 | [],i,x=>by simp[tP]
 | a::as,i,0=>by simp[tP]
 | a::as,i,x+1=>by
  simp only[tP,mR,P7 as (i+1) x];rw[show i+1+x=i+(x+1) by omega]
theorem I9:∀(as:List aM) (i:Nat),(tP i as).length=as.length
 | [],_=>rfl
 | a::as,i=>by simp[tP,I9 as (i+1)]
theorem C9{id:Nat}{ls:List aB}:∀{as:List aM} {i:Nat},dp id (xt i as)=some ls->∃x pn pre post,as[x]?=some (.hV pn pre post)/\id=iz (i+x)/\ls=r5 (i+x) pn 0 pre
 | [],i,h=>by cases h
 | .ro _::as,i,h=>by
  obtain⟨x,pn,pre,post,h1,U,aw⟩:=C9 (as:=as) (i:=i+1) h;exact⟨x+1,pn,pre,post,by simpa using h1,by rw[U,show i+1+x=i+(x+1) by omega],by rw[aw,show i+1+x=i+(x+1) by omega]⟩
 | .fn _ _::as,i,h=>by
  obtain⟨x,pn,pre,post,h1,U,aw⟩:=C9 (as:=as) (i:=i+1) h;exact⟨x+1,pn,pre,post,by simpa using h1,by rw[U,show i+1+x=i+(x+1) by omega],by rw[aw,show i+1+x=i+(x+1) by omega]⟩
 | .hV pn pre post::as,i,h=>by
  simp only[xt,dp]at h;split at h
  ·rename_i e;exact⟨0,pn,pre,post,rfl,e.symm,(eN h).symm⟩
  obtain⟨x,HP,pre,post,h1,U,aw⟩:=C9 (as:=as) (i:=i+1) h;exact⟨x+1,HP,pre,post,by simpa using h1,by rw[U,show i+1+x=i+(x+1) by omega],by rw[aw,show i+1+x=i+(x+1) by omega]⟩
def AG(args:List aM):Bool:=decide (args.length<49)&&args.all fun
 | .ro _=>true
 | .hV pn pre post=>decide (pn.length<100)&&decide (pre.length<100)&&decide (post.length<100)
 | .fn _ cK=>cK.all fun k=>match args[k]? with | some (.hV _ _ _)=>true | _=>false
def BM:Value->Nat
 | .pointer (some p)=>p.block
 | _=>0
def mP(args:List aM)(w:World)(vs:Array Value)(t:Nat):Nat×Value:=
 if c7+100<=t then
  match args[(t-(c7+100)) / 100]? with
  | some (.hV _ pre _)=>(((pre[(t-(c7+100)) % 100]?).map D.sm).getD 0,ia w (vs.getD ((t-(c7+100)) / 100) undef) ((t-(c7+100)) % 100))
  | some (.ro (.one d))=>(d.sm,vs.getD ((t-(c7+100)) / 100) undef)
  | _=>(0,undef)
 else if c7<=t then (BM (vs.getD (t-c7) undef),undef) else
 match args[(t-900000000) / 100]? with
 | some (.hV _ pre _)=>(((pre[(t-900000000) % 100]?).map D.sm).getD 0,ia w (vs.getD ((t-900000000) / 100) undef) ((t-900000000) % 100))
 | _=>(0,undef)
def rU(ω:Own):Own:=fun b=>match ω b with | .box i=>.box (iz i) | o=>o
variable{ω:Own}{b:Nat}
theorem akV{t:Nat}{q:List (Nat×Nat)}(h:ω b=.tok t q):rU ω b=.tok t q:=by simp only[rU,h]
theorem P8:rU ω b=.bB<->ω b=.bB:=by
 simp only[rU];cases ω b<;>simp
variable{i:Nat}
theorem C':rU ω b=.box (iz i)<->ω b=.box i:=by
 simp only[rU];cases ω b with
 | bB=>simp
 | box j=>simp only[iz,cV.box.injEq];omega
 | tok t q=>simp
variable{args:List aM}{w:World}{vs:Array Value}
theorem P9{j:Nat}{pn:List Bool}{pre post:List D}(h:args[i]?=some (.hV pn pre post))(a6:j<100):
  mP args w vs (h9 i j)=(((pre[j]?).map D.sm).getD 0,ia w (vs.getD i undef) j):=by
 have e1:(h9 i j-(c7+100)) / 100=i:=by simp only[h9];omega
 have e2:(h9 i j-(c7+100)) % 100=j:=by simp only[h9];omega
 unfold mP;rw[br (by simp only[h9];omega),e1,e2,h]
theorem P'{d:D}(h:args[i]?=some (.ro (.one d))):mP args w vs (h9 i 0)=(d.sm,vs.getD i undef):=by
 have e1:(h9 i 0-(c7+100)) / 100=i:=by simp only[h9];omega
 unfold mP;rw[br (by simp only[h9];omega),e1,h]
theorem akW(dO:AG args=true)(h:Fi w ω args vs)(kr:Fe args vs)(pz:Tidy w ω)(ntmps:Nat):
  Rel ⟨w,fun b=>ω b≠.bB,mP args w vs⟩ (y' args ntmps) { tmps:=vs.extract 0 (si args)++Array.replicate (ntmps-(vs.extract 0 (si args)).size) undef,defers:=[] } w:=by
 have Gz:si args<=args.length:=Nat.sub_le _ _;obtain⟨fO,cn,aW,ah⟩:=h;simp only[AG,cx,cU,fA]at dO;have wE:∀{d:D} {y:Value},bV w ω Tag.free.R d y->bV w (rU ω) Tag.free.R d y:=fun h=>h.frame fun b q _ aE=>⟨P8.2 aE,rfl⟩
 have di:(vs.extract 0 (si args)).size=si args:=by simp[aW];omega
 refine⟨rU ω,mP args w vs,rfl,by rw[di];simp[y',I9,aW],gj.start pz,fun b ar=>?_,fun _ _=>rfl,?_,?_,fun id ls al=>?_⟩
 ·have:ω b≠.bB:=fun e=>ar (P8.2 e)
  exact⟨.inr this,fO b this⟩
 ·intro id b hi ar;simp only[rU]at ar;cases e:ω b with
  | bB=>rw[e]at ar;cases ar
  | tok t q=>rw[e]at ar;cases ar
  | box i=>
   rw[e]at ar;simp only[cV.box.injEq]at ar;subst ar;obtain⟨pn,pre,post,h1⟩:=cn b i e;obtain⟨v,bt,⟨gV,arr,ty,rfl,U,aw,_⟩,_⟩:=ah i _ h1;have:=aw b e;subst this;have yF:i<49:=by
    have:=(eh.1 h1).1;omega
   simp only[mP];rw[bh (by simp only[iz];omega),br hi,show iz i-c7=i by simp[iz],d',bt];rfl
 ·intro i p hp;simp only[y']at hp;rw[kD,oV,I9,Nat.min_eq_left Gz]at hp;split at hp
  ·rename_i hi;rw[hh,br hi,P7,b1]at hp;obtain⟨iy,oo,rfl⟩:=hp;rw[dg];obtain⟨v,bt,cJ⟩:=ah i iy oo;have ks:i<vs.size:=by omega
   refine⟨v,by rw[ht,br (by rw[di];exact hi),Array.getElem?_extract,br (by omega),dg,bt],?_⟩;cases iy with
   | fn g cK=>
    have h1:=kr i g cK oo;rw[bt]at h1;cases h1;refine⟨cK.map fun k=>BM (vs.getD k undef),?_,by simp,fun j id a6=>?_⟩
    ·congr 2
     rw[List.map_map];refine kE fun k hk=>?_
     have U:=dO.2 _ (fl oo);have aw:=fA.1 U k hk;split at aw
     ·rename_i pn pre post pk;obtain⟨v2,rI,⟨gm,_,_,rfl,_⟩,_⟩:=ah k _ pk;simp[d',rI,ptrTo,BM]
     cases aw
    rw[dj,b1]at a6;obtain⟨k,hk,rfl⟩:=a6;have U:=dO.2 _ (fl oo);have aw:=fA.1 U k (fl hk);split at aw
    ·rename_i pn pre post pk;obtain⟨v2,rI,⟨gm,_,_,rfl,aU,_⟩,_⟩:=ah k _ pk;refine⟨gm,?_,C'.2 aU⟩;simp[hk,d',rI,ptrTo,BM]
    cases aw
   | hV pn pre post=>
    obtain⟨⟨b,arr,ty,rfl,U,_⟩,_⟩:=cJ;exact⟨b,C'.2 U,rfl⟩
   | ro ck=>
    cases ck with
    | one d=>
     cases d with
     | J k es=>
      refine⟨wE cJ,fun _=>?_⟩;rw[P' oo,d',bt];rfl
     | v x=>exact D.dB (τ:=mP args w vs) (p:=(0,0)) (t:=.free) (wE cJ)
     | ptr ds=>exact D.dB (τ:=mP args w vs) (p:=(0,0)) (t:=.free) (wE cJ)
     | cl g cs=>exact D.dB (τ:=mP args w vs) (p:=(0,0)) (t:=.free) (wE cJ)
    | agg ds=>
     obtain⟨us,rfl,hlen,oi⟩:=cJ;refine⟨us,rfl,by simpa using hlen,fun j l al=>?_⟩;rw[dj,b1]at al;obtain⟨d,aD,rfl⟩:=al;obtain⟨u,h1,U⟩:=oi j d aD;exact⟨u,h1,D.dB (p:=(0,0)) (t:=.free) (wE U)⟩
  rename_i hi;rw[Br]at hp;split at hp
  ·rename_i bz;simp only[aR]at hp;subst hp;refine⟨undef,?_,aa⟩;rw[ht,bh (by rw[di];omega),Array.getElem?_replicate,br (by rw[di];omega)]
  cases hp
 obtain⟨i,pn,pre,post,h1,rfl,rfl⟩:=C9 al;rw[dg];obtain⟨v,bt,⟨b,arr,ty,rfl,U,aw,aH,aU,bA⟩,bP⟩:=ah i _ h1;refine⟨b,arr,ty,C'.2 U,fun cW dn=>aw cW (C'.1 dn),aH,by rw[P6];exact aU,fun j l al=>?_⟩;rw[P5,b1]at al;obtain⟨d,aD,rfl⟩:=al;rw[dg];obtain⟨u,hu,aA⟩:=bA j d aD;have a6:j<100:=by
  have e1:=dO.2 _ (fl h1);simp only[cx,cU]at e1;have:=(eh.1 aD).1;omega
 refine⟨u,hu,?_⟩;cases eE:stays pn j with
 | true=>
  rw[br rfl];have c':=bP j d aD eE;have e:ia w (ptrTo b) j=u:=by simp[ia,ptrTo,aH,d',hu]
  rw[e]at c';cases d with
  | J k es=>
   refine⟨wE c',fun _=>?_⟩;rw[P9 h1 a6,d',bt];simp only[ij,e,aD,l'];rfl
  | _=>exact trivial
 | false=>
 rw[bh (by simp)];replace aA:=aA eE;cases d with
 | v x=>
  have e:u=x:=by cases aA;rfl
  subst e;unfold D.oK;split
  ·rename_i h;cases h;exact rfl
  ·rename_i h;cases h;exact rfl
  ·rename_i h;cases h
  ·exact trivial
  exact trivial
 | ptr ds=>exact trivial
 | cl g bC=>exact trivial
 | J k es=>
  refine⟨aA.frame fun c q _ aE=>⟨akV aE,rfl⟩,?_⟩;have e1:(p2 i j-900000000) / 100=i:=by simp only[p2];omega
  have e2:(p2 i j-900000000) % 100=j:=by simp only[p2];omega
  have hi:i<49:=by
   have:=(eh.1 h1).1;omega
  simp only[Tag.dT,mP];rw[bh (by simp only[p2,c7];omega),bh (by simp only[p2,c7];omega)];simp only[e1,e2,h1,aD];simp[ia,ptrTo,aH,d',bt,hu,D.sm]
def oN:List (Option Nat)->List aB->Option (List aB)
 | [],ls=>some ls
 | some t::ts,.de s _ _::ls=>if s=t then (oN ts ls).map fun r=>.v (.bool true)::r else none
 | none::ts,l::ls=>(oN ts ls).map fun r=>l::r
 | none::ts,[]=>oN ts []
 | some _::_,_=>none
theorem Da:∀{ts:List (Option Nat)} {ls eW:List aB},oN ts ls=some eW->eW.length=ls.length/\(∀(j t:Nat),ts[j]?=some (some t)->∃k es,ls[j]?=some (.de t k es))/\∀j,ts.getD j none=none->eW[j]?=ls[j]?
 | [],ls,eW,h=>by
  simp only[oN,aR]at h;subst h;exact⟨rfl,fun j t h=>by simp at h,fun _ _=>rfl⟩
 | some t::ts,.de s k es::ls,eW,h=>by
  simp only[oN]at h;split at h
  ·rename_i e;subst e;rw[b1]at h;obtain⟨r,h1,rfl⟩:=h;obtain⟨g1,g2,g3⟩:=Da h1;refine⟨by simp[g1],fun j t a6=>?_,fun j a6=>?_⟩
   ·cases j with
    | zero=>
     simp only[jS,aR]at a6;subst a6;exact⟨k,es,rfl⟩
    | succ j=>exact g2 j t (by simpa using a6)
   cases j with
   | zero=>simp at a6
   | succ j=>simpa using g3 j (by simpa using a6)
  cases h
 | none::ts,l::ls,eW,h=>by
  simp only[oN,b1]at h;obtain⟨r,h1,rfl⟩:=h;obtain⟨g1,g2,g3⟩:=Da h1;refine⟨by simp[g1],fun j t a6=>?_,fun j a6=>?_⟩
  ·cases j with
   | zero=>simp at a6
   | succ j=>exact g2 j t (by simpa using a6)
  cases j with
  | zero=>rfl
  | succ j=>simpa using g3 j (by simpa using a6)
 | none::ts,[],eW,h=>by
  simp only[oN]at h;obtain⟨g1,g2,g3⟩:=Da h;refine⟨g1,fun j t a6=>?_,fun j a6=>?_⟩
  ·cases j with
   | zero=>simp at a6
   | succ j=>obtain⟨k,es,h⟩:=g2 j t (by simpa using a6);simp at h
  have:eW=[]:=vY g1;rw[this]
def ri:List (Option Nat)->List aB->List D->List D
 | some _::ts,.de _ k es::ls,_::ds=>.J k es::ri ts ls ds
 | _::ts,_::ls,d::ds=>d::ri ts ls ds
 | _,_,ds=>ds
theorem akX:∀(ts:List (Option Nat)) (ls:List aB) (ds:List D),(ri ts ls ds).length=ds.length/\∀j,ts.getD j none=none->(ri ts ls ds)[j]?=ds[j]?:=by
 intro ts ls ds
 fun_induction ri ts ls ds with
 | case1 t ts s k es ls d ds dP=>
  refine⟨by simp[dP.1],fun j a6=>?_⟩;cases j with
  | zero=>simp at a6
  | succ j=>simpa using dP.2 j (by simpa using a6)
 | case2 x ts l ls d ds _ dP=>
  refine⟨by simp[dP.1],fun j a6=>?_⟩;cases j with
  | zero=>rfl
  | succ j=>simpa using dP.2 j (by simpa using a6)
 | case3=>exact⟨rfl,fun _ _=>rfl⟩
def qx(i:Nat):Nat->List Bool->List (Option Nat)
 | _,[]=>[]
 | j,b::r=>(if b then some (h9 i j) else none)::qx i (j+1) r
theorem I'(i:Nat):∀(pn:List Bool) (j x:Nat),(qx i j pn)[x]?=(pn[x]?).map fun b=>if b then some (h9 i (j+x)) else none
 | [],_,_=>by simp[qx]
 | b::r,j,0=>by simp[qx]
 | b::r,j,x+1=>by
  simp only[qx,mR,I' i r (j+1) x];rw[show j+1+x=j+(x+1) by omega]
def r6(st:aI):Nat->List aM->Option (List aM×hJ)
 | _,[]=>some ([],[])
 | i,.ro a::as=>(r6 st (i+1) as).map fun r=>(.ro a::r.1,r.2)
 | i,.fn g cK::as=>(r6 st (i+1) as).map fun r=>(.fn g cK::r.1,r.2)
 | i,.hV pn pre post::as=>
  match dp (iz i) st.boxes with
  | some ls=>
   match oN (qx i 0 pn) ls with
   | some eW=>
    match p3 (gW i 0) eW post,r6 st (i+1) as with
    | some (ds,ts),some r=>some (.hV pn pre (ri (qx i 0 pn) ls ds)::r.1,ts++r.2)
    | _,_=>none
   | none=>none
  | none=>none
theorem Db{st:aI}:∀{as kJ:List aM} {i:Nat} {ts:hJ},r6 st i as=some (kJ,ts)->kJ.length=as.length/\∀(x:Nat) (pn:List Bool) (pre post:List D),kJ[x]?=some (.hV pn pre post)->
  ∃ls eW ds hint jQ,dp (iz (i+x)) st.boxes=some ls/\oN (qx (i+x) 0 pn) ls=some eW/\p3 (gW (i+x) 0) eW hint=some (ds,jQ)/\post=ri (qx (i+x) 0 pn) ls ds/\∀y∈jQ,y∈ts
 | [],kJ,i,ts,h=>by
  simp only[r6,aR,bx]at h;obtain⟨rfl,rfl⟩:=h;exact⟨rfl,fun x pn pre post h=>by simp at h⟩
 | .ro a::as,kJ,i,ts,h=>by
  simp only[r6,b1]at h;obtain⟨⟨bM,b2⟩,h1,h⟩:=h;simp only[bx]at h;obtain⟨rfl,rfl⟩:=h;obtain⟨cT,b5⟩:=Db h1;refine⟨by simp[cT],fun x pn pre post ag=>?_⟩;cases x with
  | zero=>simp at ag
  | succ x=>
   have:=b5 x pn pre post (by simpa using ag);rwa[show i+1+x=i+(x+1) by omega]at this
 | .fn g cK::as,kJ,i,ts,h=>by
  simp only[r6,b1]at h;obtain⟨⟨bM,b2⟩,h1,h⟩:=h;simp only[bx]at h;obtain⟨rfl,rfl⟩:=h;obtain⟨cT,b5⟩:=Db h1;refine⟨by simp[cT],fun x pn pre post ag=>?_⟩;cases x with
  | zero=>simp at ag
  | succ x=>
   have:=b5 x pn pre post (by simpa using ag);rwa[show i+1+x=i+(x+1) by omega]at this
 | .hV pn pre post::as,kJ,i,ts,h=>by
  simp only[r6]at h;split at h
  ·rename_i ls e1;split at h
   ·rename_i eW bE;split at h
    ·rename_i ds Ep r e2 cb;simp only[aR,bx]at h;obtain⟨rfl,rfl⟩:=h;obtain⟨cT,b5⟩:=Db cb;refine⟨by simp[cT],fun x HP wX YS ag=>?_⟩;cases x with
     | zero=>
      simp only[jS,aR,aM.hV.injEq]at ag;obtain⟨rfl,rfl,rfl⟩:=ag;exact⟨ls,eW,ds,post,Ep,e1,bE,e2,rfl,fun y bl=>hY _ bl⟩
     | succ x=>
      obtain⟨ls,eW,ds,hint,jQ,g1,g0,g2,g4,g3⟩:=b5 x HP wX YS (by simpa using ag);rw[show i+1+x=i+(x+1) by omega]at g1 g2 g0 g4;exact⟨ls,eW,ds,hint,jQ,g1,g0,g2,g4,fun y bl=>iD _ (g3 y bl)⟩
    cases h
   cases h
  cases h
def Dc(src:List (Option Nat)):List (Option Nat):=src.map fun x=>x.map fun a=>h9 a 0
def asM(args:List aM):aT->Bool
 | .vals _=>true
 | .iN src _=>src.all fun
  | some a=>match args[a]? with | some (.ro (.one _))=>true | _=>false
  | none=>true
def Lu(P:Program)(st:aI)(jq:List ResultVar):aT->Option (aT×hJ×Option Nat)
 | .vals hint=>
  match jq.mapM (pR P st) with
  | some ct=>(qW 0 ct hint).map fun r=>(.vals r.1,r.2,none)
  | none=>none
 | .iN src hint=>
  match jq.mapM (pR P st) with
  | some [.aK (.one (.ptr id 0))]=>
   match dp id st.boxes with
   | some ls=>
    match oN (Dc src) ls with
    | some eW=>if id<c7 then (p3 (gW 49 0) eW hint).map fun r=>(.iN src (ri (Dc src) ls r.1),r.2,some id) else none
    | none=>none
   | none=>none
  | _=>none
def B1(P:Program)(st:aI)(jq:List ResultVar)(args:List aM)(hint:aT):Option (aT×List aM):=
 match Lu P st jq hint,r6 st 0 args with
 | some (r,ts,_),some (as,so)=>if AG args&&asM args r&&C1 (ts++so) then some (r,as) else none
 | _,_=>none
def l5(ω:Own)(ts:hJ)(nw:Option Nat):Own:=fun b=>
 match ω b with
 | .tok t q=>match ts.at t with | some n=>.tok n q | none=>.bB
 | .box id=>if nw=some id then .box 49 else if c7<=id/\id<c7+49 then .box (id-c7) else .bB
 | .bB=>.bB
variable{ts:hJ}
theorem Ja{nw:Option Nat}{n:Nat}{q:List (Nat×Nat)}(h:ib ω ts b=.tok n q):l5 ω ts nw b=.tok n q:=by
 simp only[ib]at h;simp only[l5];cases e:ω b with
 | bB=>rw[e]at h;cases h
 | box id=>rw[e]at h;cases h
 | tok t dm=>rw[e]at h;exact h
theorem lo.asW{nw:Option Nat}{r:Nat}{d:cF}{y:Value}(h:lo w (ib ω ts) r d y):lo w (l5 ω ts nw) r d y:=by
 cases d with
 | one d=>exact bV.frame h fun b q _ aE=>⟨Ja aE,rfl⟩
 | agg ds=>
  obtain⟨vs,e,aW,a6⟩:=h;exact⟨vs,e,aW,fun j d aD=>by
   obtain⟨u,hu,aA⟩:=a6 j d aD;exact⟨u,hu,aA.frame fun b q _ aE=>⟨Ja aE,rfl⟩⟩⟩
theorem Qa{τ:Nat->Nat×Value}{nw:Option Nat}{id i:Nat}{ls eW:List aB}{hint ds:List D}{jQ:hJ}{cK:List (Option Nat)}{pn:List Bool}(j1:∀t n,(t,n)∈ts->ts.at t=some n)
  (ar:sw w ω τ id ls) (fO:oN cK ls=some eW) (Xx:∀j,stays pn j=false->cK.getD j none=none) (aA:p3 (gW i 0) eW hint=some (ds,jQ)) (iJ:∀y∈jQ,y∈ts) (fF:∀b,ω b=.box id->l5 ω ts nw b=.box i) (Yh:∀b,l5 ω ts nw b=.box i->ω b=.box id):
  ∀{y:Value},(∃b,ω b=.box id/\y=ptrTo b)->uo w (l5 ω ts nw) i pn (gW i) (ri cK ls ds) y/\∀(j t:Nat),cK[j]?=some (some t)->c7<=t->(τ t).2=ia w y j:=by
 rintro y ⟨cW,dn,rfl⟩;obtain⟨b,arr,ty,h1,U,aw,aH⟩:=ar;have:=U cW dn;subst this;obtain⟨aU,bA⟩:=I1 (w:=w) (ω:=ω) (τ:=τ) j1 aA iJ;obtain⟨n0,oM,vS⟩:=Da fO;obtain⟨f1,f2⟩:=akX cK ls ds;refine⟨⟨cW,arr,ty,rfl,fF cW dn,fun c ai=>U c (Yh c ai),aw,by have:=aH.1;omega,fun j d aD=>?_⟩,fun j t a6 bQ=>?_⟩
 ·have jD:j<ls.length:=by
   have:=(eh.1 aD).1;omega
  obtain⟨u,hu,aj⟩:=aH.2 j _ (gU jD);refine⟨u,hu,fun eE=>?_⟩;have hk:=Xx j eE;rw[f2 j hk]at aD;obtain⟨l,al,cZ⟩:=bA j d aD;rw[vS j hk,gU jD]at al;cases al;have:=cZ u aj;rw[show gW i 0+j=gW i j by simp only[gW];omega]at this;exact this.frame fun b q _ aE=>⟨Ja aE,rfl⟩
 obtain⟨k,es,al⟩:=oM j t a6;obtain⟨u,hu,aj⟩:=aH.2 j _ al;rw[aj.2 bQ];simp[ia,ptrTo,aw,d',hu]
theorem Qb{P:Program}{f:FuncId}{fn:Func}{c:Code}{r:aT}{ans cd:List b9}{obs:List Prop}{e:hl}{st:aI}(bT:P.funcs[f]?=some fn)(ar:fn.body=some c)
  (eQ:run P c (y' args fn.ntmps) ans=some (e,st,cd,obs)) (aZ:cG obs) (he:e=.ret\/e=.normal) (eP:B1 P st fn.results.toList args r=some (r,args)):bY P f args r:=by
 intro w vs Bw lM Ge pz;unfold B1 at eP;split at eP
 ·rename_i bM ts nw as so eI kN;split at eP
  ·rename_i cJ;simp only[aR,bx]at eP;obtain⟨rfl,rfl⟩:=eP;rw[cx,cx]at cJ;obtain⟨⟨dO,io⟩,cJ⟩:=cJ;have j1:∀t n,(t,n)∈ts++so->hJ.at t (ts++so)=some n:=fun t n h=>C2 cJ h
   refine calls_of_wp bT ar (Code.wp_mono (fun e' cz aN hp=>?_) (mH c eQ aZ _ _ w (akW dO lM Ge pz fn.ntmps)));obtain⟨rfl,ω,τ,aV⟩:=hp;have aul:bM=bM/\as.length<49:=by
    simp only[AG,cx,cU]at dO;exact⟨rfl,dO.1⟩
   have yP:∀id,nw=some id->id<c7:=by
    intro id e;subst e;unfold Lu at eI;split at eI
    ·split at eI
     ·rw[b1]at eI;obtain⟨_,_,h⟩:=eI;simp only[bx]at h;exact absurd h.2.2 (by simp)
     cases eI
    split at eI
    ·split at eI
     ·split at eI
      ·split at eI
       ·rename_i bz;rw[b1]at eI;obtain⟨_,_,h⟩:=eI;simp only[bx,aR]at h;rw[<-h.2.2];exact bz
       cases eI
      cases eI
     cases eI
    cases eI
   have hm:∃v,(results fn cz.tmps).run P aN=.ok v aN/\BF aN (l5 ω (ts++so) nw) vs bM v:=by
    have NY:∀{ct:List aJ},fn.results.toList.mapM (pR P st)=some ct->∃zs:List Value,(results fn cz.tmps).run P aN=.ok (if h:zs.toArray.size=1 then zs.toArray[0] else .tuple zs.toArray) aN/\zs.length=ct.length/\∀(i:Nat) (p:aJ),ct[i]?=some p->∃z,zs[i]?=some z/\cL (Sat aN ω τ) p z:=by
     intro ct rD;obtain⟨zs,h1,U,aw⟩:=C4 aV rD;have hm:=CE (P:=P) _ fn.results aN _ h1;refine⟨zs,?_,U,aw⟩;rw[I2,Sem.run_bind,hm];rfl
    unfold Lu at eI;split at eI
    ·rename_i hint;split at eI
     ·rename_i ct rD;rw[b1]at eI;obtain⟨⟨ds,Ep⟩,ek,h⟩:=eI;simp only[bx,aT.vals.injEq]at h;obtain⟨rfl,rfl,rfl⟩:=h;obtain⟨zs,h1,U,aw⟩:=NY rD;obtain⟨aH,aU⟩:=C3 (w:=aN) (ω:=ω) (τ:=τ) j1 ek (fun x ag=>hY _ ag);have e3:∀(j:Nat) (d:cF),ds[j]?=some d->∃z,zs[j]?=some z/\lo aN (l5 ω (Ep++so) none) j d z:=by
       intro j d aD;obtain⟨p,hp,rC⟩:=aU j d aD;obtain⟨z,bf,qo⟩:=aw j p hp;have:=rC z qo;rw[dg]at this;exact⟨z,bf,this.asW⟩
      have lj:zs.length=ds.length:=by omega
      refine⟨_,h1,?_⟩;show l3 _ _ _ _;generalize bt:(if h:zs.toArray.size=1 then zs.toArray[0] else Value.tuple zs.toArray)=v;unfold l3;split
      ·rename_i ck;obtain⟨z,bf,ai⟩:=e3 0 ck rfl;have h1:zs.length=1:=by rw[lj];rfl
       have ot:zs=[z]:=by
        match zs,h1,bf with
        | [z0],_,bf=>simp at bf;rw[bf]
       have y4:v=z:=by
        rw[<-bt];simp[ot]
       rw[y4];exact ai
      rename_i cB;have h1:¬zs.toArray.size=1:=by
       intro h;simp at h;rw[lj]at h;obtain⟨d,aD⟩:=List.length_eq_one_iff.1 h;exact cB d aD
      rw[dif_neg h1]at bt;exact⟨zs.toArray,bt.symm,by simpa using lj,fun r ck aA=>by obtain⟨z,bf,ai⟩:=e3 r ck aA;exact⟨z,by simpa using bf,ai⟩⟩
     cases eI
    rename_i src hint;split at eI
    ·rename_i id rD;split at eI
     ·rename_i ls cn;split at eI
      case h_2=>cases eI
      rename_i eW fO;split at eI
      ·rename_i bz;rw[b1]at eI;obtain⟨⟨ds,Ep⟩,ek,h⟩:=eI;simp only[bx,aT.iN.injEq,true_and]at h;obtain⟨rfl,rfl,rfl⟩:=h;obtain⟨zs,h1,U,aw⟩:=NY rD;obtain⟨z,bf,b,Ys,qp⟩:=aw 0 _ rfl;have ot:zs=[z]:=by
        match zs,U,bf with
        | [z0],_,bf=>simp at bf;rw[bf]
       subst ot;refine⟨z,by simpa using h1,?_⟩;have y3:=Qa (pn:=vQ src) (nw:=some id) (i:=49) j1 (aV.boxes id ls cn) fO (fun j a6=>by
        simp only[stays,vQ,ii,dj]at a6;simp only[Dc,ii,dj];cases e:src[j]? with
        | none=>rfl
        | some x=>cases x with
         | none=>rfl
         | some a=>rw[e]at a6;cases a6) ek (fun y bl=>hY _ bl) (fun b ar=>by simp only[l5,ar,gy]) (fun b ar=>?_) ⟨b,Ys,qp⟩
       ·refine⟨y3.1,fun j x ag=>?_⟩;have aH:=y3.2 j (h9 x 0) (by simp[Dc,ag]) (by simp only[h9];omega);have aU:=fA.1 io _ (fl ag);simp only at aU;split at aU
        ·rename_i d aD;rw[aV.fixed _ (by simp only[h9];omega)]at aH;change (mP as w vs (h9 x 0)).2=_ at aH;rw[P' aD]at aH;have bA:x<vs.size:=by
          have:=(eh.1 aD).1;have:=lM.2.2.1;omega
         rw[<-aH,gS bA,d',gS bA];rfl
        cases aU
       simp only[l5]at ar;cases e:ω b with
       | bB=>rw[e]at ar;cases ar
       | tok t q=>rw[e]at ar;simp only at ar;split at ar<;>cases ar
       | box gE=>
        rw[e]at ar;simp only at ar;split at ar
        ·rename_i e2;rw[eN e2]
        split at ar
        ·simp only[cV.box.injEq]at ar;omega
        cases ar
      cases eI
     cases eI
    cases eI
   obtain⟨v,sX,rI⟩:=hm;have dM:∃v,(results fn cz.tmps).run P aN=.ok v aN/\∃u,Ending.returned v=.returned u/\gj ⟨w,fun b=>Bw b≠.bB,fun _=>(0,undef)⟩ aN/\
     ∃a1:Own,(∀b,b<w.heap.size->Bw b=.bB->a1 b=.bB)/\DE aN a1/\(∀(i:Nat) (pn:List Bool) (pre post:List D) (y:Value),as[i]?=some (.hV pn pre post)->vs[i]?=some y->uo aN a1 i pn (gW i) post y/\∀j,stays pn j=true->ia aN y j=ia w y j)/\BF aN a1 vs bM u:=by
    refine⟨v,sX,v,rfl,⟨aV.below.os,aV.below.tape,aV.below.output,aV.below.size,aV.below.block,aV.below.drawn,aV.below.laid,aV.below.free⟩,l5 ω (ts++so) nw,fun b ar au=>?_,fun b ar=>?_,?_,rI⟩
    ·have:ω b=.bB:=by
      cases e:ω b with
      | bB=>rfl
      | box id=>
       rcases (aV.owned b (by simp[e])).1 with h | h
       ·exact absurd ar (by have h:w.heap.size<=b:=h;omega)
       exact absurd au h
      | tok t q=>
       rcases (aV.owned b (by simp[e])).1 with h | h
       ·exact absurd ar (by have h:w.heap.size<=b:=h;omega)
       exact absurd au h
     simp only[l5,this]
    ·have:ω b≠.bB:=fun e=>ar (by simp only[l5,e])
     exact (aV.owned b this).2
    intro i pn pre post y oo bl;obtain⟨ls,eW,ds,hint,jQ,g1,g0,g2,rfl,g3⟩:=(Db kN).2 i pn pre post oo;simp only[dg]at g1 g2 g0 oo ⊢;have hi:i<49:=by
     have:=(eh.1 oo).1;omega
    have cB:nw≠some (iz i):=fun e=>by have:=yP _ e;simp only[iz]at this;omega
    obtain⟨cg,sD,tV,fU,fL,B9,yz⟩:=aV.boxes _ ls g1;obtain⟨fY,N5,⟨gV,_,_,hyp,_⟩,_⟩:=lM.2.2.2 i _ oo;rw[bl]at N5;have:=eN N5;subst this;have uS:=aV.pinned (iz i) cg (by simp[iz]) fU;simp only[mP]at uS;rw[bh (by simp only[iz];omega),br (by simp[iz]),show iz i-c7=i by simp[iz],d',bl,hyp]at uS;have uS:gV=cg:=uS;subst uS;have Xv:∀j,stays pn j=true->(qx i 0 pn)[j]?=some (some (h9 i j)):=fun j a6=>by
     simp only[stays,ii]at a6;rw[I',dg];cases e:pn[j]? with
     | none=>rw[e]at a6;cases a6
     | some x=>
      rw[e]at a6;simp only[ij]at a6;simp[a6]
    have y3:=Qa (pn:=pn) (nw:=nw) (i:=i) j1 ⟨gV,sD,tV,fU,fL,B9,yz⟩ g0 (fun j a6=>by
     simp only[stays,ii]at a6;rw[ii,I'];cases e:pn[j]? with
     | none=>rfl
     | some x=>
      rw[e]at a6;simp only[ij]at a6;simp[a6]) g2 (fun y bl=>iD _ (g3 y bl)) (fun b ar=>?_) (fun b ar=>?_) ⟨gV,fU,hyp⟩
    ·refine⟨y3.1,fun j a6=>?_⟩;have Xt:j<100:=by
      simp only[AG,cx,cU,fA]at dO;have aH:=dO.2 _ (fl oo);simp only[cx,cU]at aH;simp only[stays,ii]at a6;rcases n4 j pn.length with h | h
      ·omega
      rw[List.getElem?_eq_none h]at a6;cases a6
     have aH:=y3.2 j (h9 i j) (Xv j a6) (by simp only[h9];omega);rw[aV.fixed _ (by simp only[h9];omega)]at aH;change (mP as w vs (h9 i j)).2=_ at aH;rw[P9 oo Xt]at aH;rw[<-aH];simp only[d',bl,ij]
    ·simp only[l5,ar];rw[bh cB,br ⟨by simp[iz],by simp only[iz];omega⟩];simp[iz]
    simp only[l5]at ar;cases e:ω b with
    | bB=>rw[e]at ar;cases ar
    | tok t q=>rw[e]at ar;simp only at ar;split at ar<;>cases ar
    | box gE=>
     rw[e]at ar;simp only at ar;split at ar
     ·simp only[cV.box.injEq]at ar;omega
     split at ar
     ·simp only[cV.box.injEq]at ar;simp only[iz,cV.box.injEq];omega
     cases ar
   obtain⟨v,bA,bP⟩:=dM;rcases he with rfl | rfl
   ·exact⟨aV.defers,v,bA,bP⟩
   exact⟨aV.defers,v,bA,bP⟩
  cases eP
 cases eP
def HL(P:Program)(c:Code)(ntmps:Nat)(jq:List ResultVar)(args:List aM)(hint:aT)(ans:List b9):Option (aT×List aM×List Prop):=
 match run P c (y' args ntmps) ans with
 | some (.ret,st,_,obs)=>(B1 P st jq args hint).map fun r=>(r.1,r.2,obs)
 | some (.normal,st,_,obs)=>(B1 P st jq args hint).map fun r=>(r.1,r.2,obs)
 | _=>none
theorem bY.of{P:Program}{f:FuncId}{fn:Func}{r:aT}(ans:List b9)(obs:List Prop)(bT:P.funcs[f]?=some fn)(ar:fn.body.isSome=true)
  (h:HL P (mI fn) fn.ntmps fn.results.toList args r ans=some (r,args,obs)) (aZ:cG obs):bY P f args r:=by
 obtain⟨c,ai⟩:=oS.1 ar;have yB:mI fn=c:=by simp[mI,ai]
 unfold HL at h;rw[yB]at h;split at h
 ·rename_i st a lW aA;rw[b1]at h;obtain⟨⟨xJ,Lx⟩,h1,h⟩:=h;simp only[bx]at h;obtain⟨rfl,rfl,rfl⟩:=h;exact Qb bT ai aA aZ (.inl rfl) h1
 ·rename_i st a lW aA;rw[b1]at h;obtain⟨⟨xJ,Lx⟩,h1,h⟩:=h;simp only[bx]at h;obtain⟨rfl,rfl,rfl⟩:=h;exact Qb bT ai aA aZ (.inr rfl) h1
 cases h
end Go.Sx
namespace Go.Sx
open Go.RowKit
mutual
inductive Fit:D->D->Prop
 | refl (d:D):Fit d d
 | nil (k:Nat):Fit (.v (.slice none 0 0)) (.J k [])
 | J (k:Nat) {es cr:List (List D)} (h:lG es cr):Fit (.J k es) (.J k cr)
inductive jU:List D->List D->Prop
 | nil:jU [] []
 | cons {d dt:D} {e e':List D} (h:Fit d dt) (t:jU e e'):jU (d::e) (dt::e')
inductive lG:List (List D)->List (List D)->Prop
 | nil:lG [] []
 | cons {e e':List D} {es cr:List (List D)} (h:jU e e') (t:lG es cr):lG (e::es) (e'::cr)
end
theorem jU.refl:∀e:List D,jU e e
 | []=>.nil
 | d::e=>.cons (.refl d) (jU.refl e)
mutual
theorem Fit.rep{w:World}{ω:Own}:∀{d dt:D},Fit d dt->∀{R:List (Nat×Nat)->cV->Prop} {y:Value},bV w ω R d y->bV w ω R dt y
 | _,_,.refl d,_,_,h=>h
 | _,_,.nil k,_,_,h=>by cases h;exact .nil _ _ _
 | _,_,.J k f,_,_,h=>by
  obtain⟨al,au⟩:=lG.get (w:=w) (ω:=ω) f;cases h with
  | nil=>
   have:=vY al.symm;subst this;exact .nil _ _ _
  | row R k es b off cap arr ty cO us ar dM ai aj hk hu aD=>
   rw[al];refine .row _ _ _ b off cap arr ty cO us ar dM (al▸ai) aj (fun e he=>?_) (fun i j dt dJ=>?_) (fun i j dt dJ=>?_)
   ·obtain⟨i,hi⟩:=oT.1 he;obtain⟨bE,h1,U,_⟩:=au i e hi;rw[<-U];exact hk bE (fl h1)
   ·unfold cY at dJ;rw[lA]at dJ;obtain⟨e,h1,U⟩:=dJ;obtain⟨bE,aw,_,aU⟩:=au i e h1;obtain⟨d,bA,_⟩:=aU j dt U;exact hu i j d (by unfold cY;rw[aw];exact bA)
   unfold cY at dJ;rw[lA]at dJ;obtain⟨e,h1,U⟩:=dJ;obtain⟨bE,aw,_,aU⟩:=au i e h1;obtain⟨d,bA,bP⟩:=aU j dt U;exact bP (aD i j d (by unfold cY;rw[aw];exact bA))
theorem jU.get{w:World}{ω:Own}:∀{e e':List D},jU e e'->e.length=e'.length/\∀(j:Nat) (dt:D),e'[j]?=some dt->∃d,e[j]?=some d/\∀{R:List (Nat×Nat)->cV->Prop} {y:Value},bV w ω R d y->bV w ω R dt y
 | _,_,.nil=>⟨rfl,fun j dt h=>by simp at h⟩
 | _,_,.cons h t=>by
  obtain⟨h1,U⟩:=jU.get (w:=w) (ω:=ω) t;refine⟨by simp[h1],fun j dt aD=>?_⟩;cases j with
  | zero=>
   simp only[jS,aR]at aD;subst aD;exact⟨_,rfl,fun aA=>Fit.rep h aA⟩
  | succ j=>exact U j dt (by simpa using aD)
theorem lG.get{w:World}{ω:Own}:∀{es cr:List (List D)},lG es cr->es.length=cr.length/\∀(i:Nat) (e':List D),cr[i]?=some e'->∃e,es[i]?=some e/\e.length=e'.length/\∀(j:Nat) (dt:D),e'[j]?=some dt->∃d,e[j]?=some d/\∀{R:List (Nat×Nat)->cV->Prop} {y:Value},bV w ω R d y->bV w ω R dt y
 | _,_,.nil=>⟨rfl,fun j dt h=>by simp at h⟩
 | _,_,.cons h t=>by
  obtain⟨h1,U⟩:=lG.get (w:=w) (ω:=ω) t;obtain⟨aw,aH⟩:=jU.get (w:=w) (ω:=ω) h;refine⟨by simp[h1],fun j dt aD=>?_⟩;cases j with
  | zero=>
   simp only[jS,aR]at aD;subst aD;exact⟨_,rfl,aw,aH⟩
  | succ j=>exact U j dt (by simpa using aD)
end
inductive p9:cF->cF->Prop
 | one {d dt:D} (h:Fit d dt):p9 (.one d) (.one dt)
 | agg {e e':List D} (h:jU e e'):p9 (.agg e) (.agg e')
theorem p9.refl(a:cF):p9 a a:=by
 cases a with
 | one d=>exact .one (.refl d)
 | agg e=>exact .agg (.refl e)
inductive mV:List cF->List cF->Prop
 | nil:mV [] []
 | cons {a cz:cF} {as kJ:List cF} (h:p9 a cz) (t:mV as kJ):mV (a::as) (cz::kJ)
theorem mV.get:∀{as kJ:List cF},mV as kJ->as.length=kJ.length/\∀(i:Nat) (cz:cF),kJ[i]?=some cz->∃a,as[i]?=some a/\p9 a cz
 | _,_,.nil=>⟨rfl,fun j dt h=>by simp at h⟩
 | _,_,.cons h t=>by
  obtain⟨h1,U⟩:=mV.get t;refine⟨by simp[h1],fun j dt aD=>?_⟩;cases j with
  | zero=>
   simp only[jS,aR]at aD;subst aD;exact⟨_,rfl,h⟩
  | succ j=>exact U j dt (by simpa using aD)
variable{w:World}
theorem p9.cell{ω:Own}{r:Nat}{a cz:cF}{y:Value}(h:p9 a cz)(ai:lo w ω r a y):lo w ω r cz y:=by
 cases h with
 | one h=>exact h.rep ai
 | agg h=>
  obtain⟨vs,rfl,aW,a6⟩:=ai;obtain⟨h1,U⟩:=jU.get (w:=w) (ω:=ω) h;refine⟨vs,rfl,by omega,fun j dt aD=>?_⟩;obtain⟨d,aw,aH⟩:=U j dt aD;obtain⟨u,aU,bA⟩:=a6 j d aw;exact⟨u,aU,aH bA⟩
variable{rs tQ:List cF}
theorem mV.all{ω:Own}{v:Value}(h:mV rs tQ)(aA:l3 w ω rs v):l3 w ω tQ v:=by
 cases h with
 | nil=>exact aA
 | cons h t=>
  cases t with
  | nil=>exact h.cell aA
  | cons U t2=>
   obtain⟨vs,e,aW,bt⟩:=aA;obtain⟨aw,aH⟩:=mV.get (.cons h (.cons U t2));refine⟨vs,e,by omega,fun i cz ah=>?_⟩;obtain⟨a,aU,bA⟩:=aH i cz ah;obtain⟨y,bP,c'⟩:=bt i a aU;exact⟨y,bP,bA.cell c'⟩
variable{P:Program}{f:FuncId}
theorem bY.fit{args:List aM}(h:bY P f args (.vals rs))(k:mV rs tQ):bY P f args (.vals tQ):=by
 intro w vs ω aA kr pz;refine (h w vs ω aA kr pz).mono ?_;rintro e aN ⟨v,rfl,ar,a1,h1,U,aw,aH⟩;exact⟨v,rfl,ar,a1,h1,U,aw,k.all aH⟩
theorem h2.fit{args:List cF}(h:h2 P f args rs)(k:mV rs tQ):h2 P f args tQ:=by
 intro w vs rH aA;refine (h w vs rH aA).mono ?_;rintro e aN ⟨v,rfl,ar,ω,h1,U,aw⟩;exact⟨v,rfl,ar,ω,h1,U,k.all aw⟩
theorem p9.arg{a cz:cF}{y:Value}(h:p9 a cz)(ai:uf w a y):uf w cz y:=by
 cases h with
 | one h=>exact h.rep ai
 | agg h=>
  obtain⟨vs,rfl,aW,a6⟩:=ai;obtain⟨h1,U⟩:=jU.get (w:=w) (ω:=fun _=>.bB) h;refine⟨vs,rfl,by omega,fun j dt aD=>?_⟩;obtain⟨d,aw,aH⟩:=U j dt aD;obtain⟨u,aU,bA⟩:=a6 j d aw;exact⟨u,aU,aH bA⟩
theorem h2.args{as kJ:List cF}(h:h2 P f kJ rs)(k:mV as kJ):h2 P f as rs:=by
 intro w vs rH aA;obtain⟨h1,U⟩:=k.get;refine h w vs rH ⟨by rw[aA.1,h1],fun i cz ah=>?_⟩;obtain⟨a,aw,aH⟩:=U i cz ah;obtain⟨v,aU,bA⟩:=aA.2 i a aw;exact⟨v,aU,aH.arg bA⟩
