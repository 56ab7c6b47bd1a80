import Derived.Test.YtdchjefneblpgaaGreatR15
set_option linter.unusedVariables false
set_option linter.unusedSimpArgs false
namespace Go.Sx
open Go.RowKit
def jg(i:Nat):Nat:=dj+i
def iG(i j:Nat):Nat:=dj+100+(100*i+j)
def aN.aI(i:Nat):aN->bC
 | .ro (.one (.J k es))=>.one (.dx (iG i 0) k es)
 | .ro a=>a.arg
 | .iq _ _ _=>.one (.ptr (jg i) 0)
 | .fn g cT=>.one (.gP g (cT.map jg))
def D.QZ(t:Nat):D->aH
 | .J k es=>.dx t k es
 | _=>.cq
def ta(i:Nat)(pn:List Bool):Nat->List D->List aH
 | _,[]=>[]
 | j,d::ds=>(if stays pn j then d.QZ (iG i j) else d.pK (qP i j))::ta i pn (j+1) ds
theorem To(i:Nat)(pn:List Bool):∀(ds:List D) (j x:Nat),(ta i pn j ds)[x]?=(ds[x]?).map fun d=>if stays pn (j+x) then d.QZ (iG i (j+x)) else d.pK (qP i (j+x))
 | [],_,_=>by simp[ta]
 | d::ds,j,0=>by simp[ta]
 | d::ds,j,x+1=>by
  simp only[ta,oY,To i pn ds (j+1) x];rw[show j+1+x=j+(x+1) by omega]
theorem Tp(i:Nat)(pn:List Bool):∀(ds:List D) (j:Nat),(ta i pn j ds).length=ds.length
 | [],_=>rfl
 | d::ds,j=>by simp[ta,Tp i pn ds (j+1)]
def vj:Nat->List aN->List aJ
 | _,[]=>[]
 | i,a::as=>.aI (a.aI i)::vj (i+1) as
def yS:Nat->List aN->List (Nat×List aH)
 | _,[]=>[]
 | i,.iq pn pre _::as=>(jg i,ta i pn 0 pre)::yS (i+1) as
 | i,.ro _::as=>yS (i+1) as
 | i,.fn _ _::as=>yS (i+1) as
def AT(args:List aN)(ntmps:Nat):aF:=⟨(vj 0 args).take (tk args)++List.replicate (ntmps-tk args) .cq,yS 0 args⟩
theorem Tq:∀(as:List aN) (i x:Nat),(vj i as)[x]?=(as[x]?).map fun a=>.aI (a.aI (i+x))
 | [],i,x=>by simp[vj]
 | a::as,i,0=>by simp[vj]
 | a::as,i,x+1=>by
  simp only[vj,oY,Tq as (i+1) x];rw[show i+1+x=i+(x+1) by omega]
theorem LK:∀(as:List aN) (i:Nat),(vj i as).length=as.length
 | [],_=>rfl
 | a::as,i=>by simp[vj,LK as (i+1)]
theorem EF{id:Nat}{ls:List aH}:∀{as:List aN} {i:Nat},dF id (yS i as)=some ls->∃x pn pre post,as[x]?=some (.iq pn pre post)/\id=jg (i+x)/\ls=ta (i+x) pn 0 pre
 | [],i,h=>by cases h
 | .ro _::as,i,h=>by
  obtain⟨x,pn,pre,post,h1,U,ax⟩:=EF (as:=as) (i:=i+1) h;exact⟨x+1,pn,pre,post,by simpa using h1,by rw[U,show i+1+x=i+(x+1) by omega],by rw[ax,show i+1+x=i+(x+1) by omega]⟩
 | .fn _ _::as,i,h=>by
  obtain⟨x,pn,pre,post,h1,U,ax⟩:=EF (as:=as) (i:=i+1) h;exact⟨x+1,pn,pre,post,by simpa using h1,by rw[U,show i+1+x=i+(x+1) by omega],by rw[ax,show i+1+x=i+(x+1) by omega]⟩
 | .iq pn pre post::as,i,h=>by
  simp only[yS,dF]at h;split at h
  ·rename_i e;exact⟨0,pn,pre,post,rfl,e.symm,(eE h).symm⟩
  obtain⟨x,JF,pre,post,h1,U,ax⟩:=EF (as:=as) (i:=i+1) h;exact⟨x+1,JF,pre,post,by simpa using h1,by rw[U,show i+1+x=i+(x+1) by omega],by rw[ax,show i+1+x=i+(x+1) by omega]⟩
def Cp(args:List aN):Bool:=decide (args.length<49)&&args.all fun
 | .ro _=>true
 | .iq pn pre post=>decide (pn.length<100)&&decide (pre.length<100)&&decide (post.length<100)
 | .fn _ cT=>cT.all fun k=>match args[k]? with | some (.iq _ _ _)=>true | _=>false
def Di:Value->Nat
 | .pointer (some p)=>p.block
 | _=>0
def nX(args:List aN)(w:World)(vs:Array Value)(t:Nat):Nat×Value:=
 if dj+100<=t then
  match args[(t-(dj+100)) / 100]? with
  | some (.iq _ pre _)=>(((pre[(t-(dj+100)) % 100]?).map D.tq).getD 0,iH w (vs.getD ((t-(dj+100)) / 100) undef) ((t-(dj+100)) % 100))
  | some (.ro (.one d))=>(d.tq,vs.getD ((t-(dj+100)) / 100) undef)
  | _=>(0,undef)
 else if dj<=t then (Di (vs.getD (t-dj) undef),undef) else
 match args[(t-900000000) / 100]? with
 | some (.iq _ pre _)=>(((pre[(t-900000000) % 100]?).map D.tq).getD 0,iH w (vs.getD ((t-900000000) / 100) undef) ((t-900000000) % 100))
 | _=>(0,undef)
def s0(ω:Own):Own:=fun b=>match ω b with | .box i=>.box (jg i) | o=>o
variable{ω:Own}{b:Nat}
theorem as9{t:Nat}{q:List (Nat×Nat)}(h:ω b=.tok t q):s0 ω b=.tok t q:=by simp only[s0,h]
theorem Tr:s0 ω b=.bO<->ω b=.bO:=by
 simp only[s0];cases ω b<;>simp
variable{i:Nat}
theorem EG:s0 ω b=.box (jg i)<->ω b=.box i:=by
 simp only[s0];cases ω b with
 | bO=>simp
 | box j=>simp only[jg,c8.box.injEq];omega
 | tok t q=>simp
variable{args:List aN}{w:World}{vs:Array Value}
theorem SB{j:Nat}{pn:List Bool}{pre post:List D}(h:args[i]?=some (.iq pn pre post))(bd:j<100):
  nX args w vs (iG i j)=(((pre[j]?).map D.tq).getD 0,iH w (vs.getD i undef) j):=by
 have e1:(iG i j-(dj+100)) / 100=i:=by simp only[iG];omega
 have e2:(iG i j-(dj+100)) % 100=j:=by simp only[iG];omega
 unfold nX;rw[bi (by simp only[iG];omega),e1,e2,h]
theorem SC{d:D}(h:args[i]?=some (.ro (.one d))):nX args w vs (iG i 0)=(d.tq,vs.getD i undef):=by
 have e1:(iG i 0-(dj+100)) / 100=i:=by simp only[iG];omega
 unfold nX;rw[bi (by simp only[iG];omega),e1,h]
theorem ata(eQ:Cp args=true)(h:Hk w ω args vs)(k4:Hc args vs)(sR:Tidy w ω)(ntmps:Nat):
  Rel ⟨w,fun b=>ω b≠.bO,nX args w vs⟩ (AT args ntmps) { tmps:=vs.extract 0 (tk args)++Array.replicate (ntmps-(vs.extract 0 (tk args)).size) undef,defers:=[] } w:=by
 have Iy:tk args<=args.length:=Nat.sub_le _ _;obtain⟨kp,cA,aR,ae⟩:=h;simp only[Cp,cm,cr,fK]at eQ;have yl:∀{d:D} {y:Value},b7 w ω Tag.free.R d y->b7 w (s0 ω) Tag.free.R d y:=fun h=>h.frame fun b q _ az=>⟨Tr.2 az,rfl⟩
 have eT:(vs.extract 0 (tk args)).size=tk args:=by simp[aR];omega
 refine⟨s0 ω,nX args w vs,rfl,by rw[eT];simp[AT,LK,aR],hr.start sR,fun b aj=>?_,fun _ _=>rfl,?_,?_,fun id ls ag=>?_⟩
 ·have:ω b≠.bO:=fun e=>aj (Tr.2 e)
  exact⟨.inr this,kp b this⟩
 ·intro id b hi aj;simp only[s0]at aj;cases e:ω b with
  | bO=>rw[e]at aj;cases aj
  | tok t q=>rw[e]at aj;cases aj
  | box i=>
   rw[e]at aj;simp only[c8.box.injEq]at aj;subst aj;obtain⟨pn,pre,post,h1⟩:=cA b i e;obtain⟨v,bF,⟨eP,arr,ty,rfl,U,ax,_⟩,_⟩:=ae i _ h1;have:=ax b e;subst this;have Au:i<49:=by
    have:=(eW.1 h1).1;omega
   simp only[nX];rw[ba (by simp only[jg];omega),bi hi,show jg i-dj=i by simp[jg],ew,bF];rfl
 ·intro i p hp;simp only[AT]at hp;rw[lk,qW,LK,Nat.min_eq_left Iy]at hp;split at hp
  ·rename_i hi;rw[kX,bi hi,Tq,b8]at hp;obtain⟨jf,pf,rfl⟩:=hp;rw[dG];obtain⟨v,bF,bP⟩:=ae i jf pf;have lX:i<vs.size:=by omega
   refine⟨v,by rw[kf,bi (by rw[eT];exact hi),Array.getElem?_extract,bi (by omega),dG,bF],?_⟩;cases jf with
   | fn g cT=>
    have h1:=k4 i g cT pf;rw[bF]at h1;cases h1;refine⟨cT.map fun k=>Di (vs.getD k undef),?_,by simp,fun j id bd=>?_⟩
    ·congr 2
     rw[List.map_map];refine kz fun k hk=>?_
     have U:=eQ.2 _ (fF pf);have ax:=fK.1 U k hk;split at ax
     ·rename_i pn pre post rk;obtain⟨v2,sS,⟨eX,_,_,rfl,_⟩,_⟩:=ae k _ rk;simp[ew,sS,ptrTo,Di]
     cases ax
    rw[du,b8]at bd;obtain⟨k,hk,rfl⟩:=bd;have U:=eQ.2 _ (fF pf);have ax:=fK.1 U k (fF hk);split at ax
    ·rename_i pn pre post rk;obtain⟨v2,sS,⟨eX,_,_,rfl,a7,_⟩,_⟩:=ae k _ rk;refine⟨eX,?_,EG.2 a7⟩;simp[hk,ew,sS,ptrTo,Di]
    cases ax
   | iq pn pre post=>
    obtain⟨⟨b,arr,ty,rfl,U,_⟩,_⟩:=bP;exact⟨b,EG.2 U,rfl⟩
   | ro cB=>
    cases cB with
    | one d=>
     cases d with
     | J k es=>
      refine⟨yl bP,fun _=>?_⟩;rw[SC pf,ew,bF];rfl
     | v x=>exact D.dN (τ:=nX args w vs) (p:=(0,0)) (t:=.free) (yl bP)
     | ptr ds=>exact D.dN (τ:=nX args w vs) (p:=(0,0)) (t:=.free) (yl bP)
     | cl g cs=>exact D.dN (τ:=nX args w vs) (p:=(0,0)) (t:=.free) (yl bP)
    | agg ds=>
     obtain⟨us,rfl,hlen,mx⟩:=bP;refine⟨us,rfl,by simpa using hlen,fun j l ag=>?_⟩;rw[du,b8]at ag;obtain⟨d,aE,rfl⟩:=ag;obtain⟨u,h1,U⟩:=mx j d aE;exact⟨u,h1,D.dN (p:=(0,0)) (t:=.free) (yl U)⟩
  rename_i hi;rw[zS]at hp;split at hp
  ·rename_i bL;simp only[aX]at hp;subst hp;refine⟨undef,?_,ad⟩;rw[kf,ba (by rw[eT];omega),Array.getElem?_replicate,bi (by rw[eT];omega)]
  cases hp
 obtain⟨i,pn,pre,post,h1,rfl,rfl⟩:=EF ag;rw[dG];obtain⟨v,bF,⟨b,arr,ty,rfl,U,ax,aK,a7,bp⟩,b6⟩:=ae i _ h1;refine⟨b,arr,ty,EG.2 U,fun da dz=>ax da (EG.1 dz),aK,by rw[Tp];exact a7,fun j l ag=>?_⟩;rw[To,b8]at ag;obtain⟨d,aE,rfl⟩:=ag;rw[dG];obtain⟨u,hu,aA⟩:=bp j d aE;have bd:j<100:=by
  have e1:=eQ.2 _ (fF h1);simp only[cm,cr]at e1;have:=(eW.1 aE).1;omega
 refine⟨u,hu,?_⟩;cases e5:stays pn j with
 | true=>
  rw[bi rfl];have dn:=b6 j d aE e5;have e:iH w (ptrTo b) j=u:=by simp[iH,ptrTo,aK,ew,hu]
  rw[e]at dn;cases d with
  | J k es=>
   refine⟨yl dn,fun _=>?_⟩;rw[SB h1 bd,ew,bF];simp only[ji,e,aE,n0];rfl
  | _=>exact trivial
 | false=>
 rw[ba (by simp)];replace aA:=aA e5;cases d with
 | v x=>
  have e:u=x:=by cases aA;rfl
  subst e;unfold D.pK;split
  ·rename_i h;cases h;exact rfl
  ·rename_i h;cases h;exact rfl
  ·rename_i h;cases h
  ·exact trivial
  exact trivial
 | ptr ds=>exact trivial
 | cl g bB=>exact trivial
 | J k es=>
  refine⟨aA.frame fun c q _ az=>⟨as9 az,rfl⟩,?_⟩;have e1:(qP i j-900000000) / 100=i:=by simp only[qP];omega
  have e2:(qP i j-900000000) % 100=j:=by simp only[qP];omega
  have hi:i<49:=by
   have:=(eW.1 h1).1;omega
  simp only[Tag.ee,nX];rw[ba (by simp only[qP,dj];omega),ba (by simp only[qP,dj];omega)];simp only[e1,e2,h1,aE];simp[iH,ptrTo,aK,ew,bF,hu,D.tq]
def pN:List (Option Nat)->List aH->Option (List aH)
 | [],ls=>some ls
 | some t::ts,.dx s _ _::ls=>if s=t then (pN ts ls).map fun r=>.v (.bool true)::r else none
 | none::ts,l::ls=>(pN ts ls).map fun r=>l::r
 | none::ts,[]=>pN ts []
 | some _::_,_=>none
theorem EH:∀{ts:List (Option Nat)} {ls fl:List aH},pN ts ls=some fl->fl.length=ls.length/\(∀(j t:Nat),ts[j]?=some (some t)->∃k es,ls[j]?=some (.dx t k es))/\∀j,ts.getD j none=none->fl[j]?=ls[j]?
 | [],ls,fl,h=>by
  simp only[pN,aX]at h;subst h;exact⟨rfl,fun j t h=>by simp at h,fun _ _=>rfl⟩
 | some t::ts,.dx s k es::ls,fl,h=>by
  simp only[pN]at h;split at h
  ·rename_i e;subst e;rw[b8]at h;obtain⟨r,h1,rfl⟩:=h;obtain⟨g1,g2,g3⟩:=EH h1;refine⟨by simp[g1],fun j t bd=>?_,fun j bd=>?_⟩
   ·cases j with
    | zero=>
     simp only[kg,aX]at bd;subst bd;exact⟨k,es,rfl⟩
    | succ j=>exact g2 j t (by simpa using bd)
   cases j with
   | zero=>simp at bd
   | succ j=>simpa using g3 j (by simpa using bd)
  cases h
 | none::ts,l::ls,fl,h=>by
  simp only[pN,b8]at h;obtain⟨r,h1,rfl⟩:=h;obtain⟨g1,g2,g3⟩:=EH h1;refine⟨by simp[g1],fun j t bd=>?_,fun j bd=>?_⟩
  ·cases j with
   | zero=>simp at bd
   | succ j=>exact g2 j t (by simpa using bd)
  cases j with
  | zero=>rfl
  | succ j=>simpa using g3 j (by simpa using bd)
 | none::ts,[],fl,h=>by
  simp only[pN]at h;obtain⟨g1,g2,g3⟩:=EH h;refine⟨g1,fun j t bd=>?_,fun j bd=>?_⟩
  ·cases j with
   | zero=>simp at bd
   | succ j=>obtain⟨k,es,h⟩:=g2 j t (by simpa using bd);simp at h
  have:fl=[]:=xN g1;rw[this]
def ss:List (Option Nat)->List aH->List D->List D
 | some _::ts,.dx _ k es::ls,_::ds=>.J k es::ss ts ls ds
 | _::ts,_::ls,d::ds=>d::ss ts ls ds
 | _,_,ds=>ds
theorem atb:∀(ts:List (Option Nat)) (ls:List aH) (ds:List D),(ss ts ls ds).length=ds.length/\∀j,ts.getD j none=none->(ss ts ls ds)[j]?=ds[j]?:=by
 intro ts ls ds
 fun_induction ss ts ls ds with
 | case1 t ts s k es ls d ds dI=>
  refine⟨by simp[dI.1],fun j bd=>?_⟩;cases j with
  | zero=>simp at bd
  | succ j=>simpa using dI.2 j (by simpa using bd)
 | case2 x ts l ls d ds _ dI=>
  refine⟨by simp[dI.1],fun j bd=>?_⟩;cases j with
  | zero=>rfl
  | succ j=>simpa using dI.2 j (by simpa using bd)
 | case3=>exact⟨rfl,fun _ _=>rfl⟩
def rM(i:Nat):Nat->List Bool->List (Option Nat)
 | _,[]=>[]
 | j,b::r=>(if b then some (iG i j) else none)::rM i (j+1) r
theorem LL(i:Nat):∀(pn:List Bool) (j x:Nat),(rM i j pn)[x]?=(pn[x]?).map fun b=>if b then some (iG i (j+x)) else none
 | [],_,_=>by simp[rM]
 | b::r,j,0=>by simp[rM]
 | b::r,j,x+1=>by
  simp only[rM,oY,LL i r (j+1) x];rw[show j+1+x=j+(x+1) by omega]
def tc(st:aF):Nat->List aN->Option (List aN×h6)
 | _,[]=>some ([],[])
 | i,.ro a::as=>(tc st (i+1) as).map fun r=>(.ro a::r.1,r.2)
 | i,.fn g cT::as=>(tc st (i+1) as).map fun r=>(.fn g cT::r.1,r.2)
 | i,.iq pn pre post::as=>
  match dF (jg i) st.boxes with
  | some ls=>
   match pN (rM i 0 pn) ls with
   | some fl=>
    match qQ (hs i 0) fl post,tc st (i+1) as with
    | some (ds,ts),some r=>some (.iq pn pre (ss (rM i 0 pn) ls ds)::r.1,ts++r.2)
    | _,_=>none
   | none=>none
  | none=>none
theorem EI{st:aF}:∀{as ln:List aN} {i:Nat} {ts:h6},tc st i as=some (ln,ts)->ln.length=as.length/\∀(x:Nat) (pn:List Bool) (pre post:List D),ln[x]?=some (.iq pn pre post)->
  ∃ls fl ds hint ke,dF (jg (i+x)) st.boxes=some ls/\pN (rM (i+x) 0 pn) ls=some fl/\qQ (hs (i+x) 0) fl hint=some (ds,ke)/\post=ss (rM (i+x) 0 pn) ls ds/\∀y∈ke,y∈ts
 | [],ln,i,ts,h=>by
  simp only[tc,aX,bJ]at h;obtain⟨rfl,rfl⟩:=h;exact⟨rfl,fun x pn pre post h=>by simp at h⟩
 | .ro a::as,ln,i,ts,h=>by
  simp only[tc,b8]at h;obtain⟨⟨bI,b2⟩,h1,h⟩:=h;simp only[bJ]at h;obtain⟨rfl,rfl⟩:=h;obtain⟨cG,cg⟩:=EI h1;refine⟨by simp[cG],fun x pn pre post aa=>?_⟩;cases x with
  | zero=>simp at aa
  | succ x=>
   have:=cg x pn pre post (by simpa using aa);rwa[show i+1+x=i+(x+1) by omega]at this
 | .fn g cT::as,ln,i,ts,h=>by
  simp only[tc,b8]at h;obtain⟨⟨bI,b2⟩,h1,h⟩:=h;simp only[bJ]at h;obtain⟨rfl,rfl⟩:=h;obtain⟨cG,cg⟩:=EI h1;refine⟨by simp[cG],fun x pn pre post aa=>?_⟩;cases x with
  | zero=>simp at aa
  | succ x=>
   have:=cg x pn pre post (by simpa using aa);rwa[show i+1+x=i+(x+1) by omega]at this
 | .iq pn pre post::as,ln,i,ts,h=>by
  simp only[tc]at h;split at h
  ·rename_i ls e1;split at h
   ·rename_i fl bM;split at h
    ·rename_i ds Gi r e2 ck;simp only[aX,bJ]at h;obtain⟨rfl,rfl⟩:=h;obtain⟨cG,cg⟩:=EI ck;refine⟨by simp[cG],fun x JF yJ acN aa=>?_⟩;cases x with
     | zero=>
      simp only[kg,aX,aN.iq.injEq]at aa;obtain⟨rfl,rfl,rfl⟩:=aa;exact⟨ls,fl,ds,post,Gi,e1,bM,e2,rfl,fun y bu=>gN _ bu⟩
     | succ x=>
      obtain⟨ls,fl,ds,hint,ke,g1,g0,g2,g4,g3⟩:=cg x JF yJ acN (by simpa using aa);rw[show i+1+x=i+(x+1) by omega]at g1 g2 g0 g4;exact⟨ls,fl,ds,hint,ke,g1,g0,g2,g4,fun y bu=>hR _ (g3 y bu)⟩
    cases h
   cases h
  cases h
def EJ(src:List (Option Nat)):List (Option Nat):=src.map fun x=>x.map fun a=>iG a 0
def axT(args:List aN):aV->Bool
 | .vals _=>true
 | .hX src _=>src.all fun
  | some a=>match args[a]? with | some (.ro (.one _))=>true | _=>false
  | none=>true
def NK(P:Program)(st:aF)(jQ:List ResultVar):aV->Option (aV×h6×Option Nat)
 | .vals hint=>
  match jQ.mapM (qM P st) with
  | some cF=>(r2 0 cF hint).map fun r=>(.vals r.1,r.2,none)
  | none=>none
 | .hX src hint=>
  match jQ.mapM (qM P st) with
  | some [.aI (.one (.ptr id 0))]=>
   match dF id st.boxes with
   | some ls=>
    match pN (EJ src) ls with
    | some fl=>if id<dj then (qQ (hs 49 0) fl hint).map fun r=>(.hX src (ss (EJ src) ls r.1),r.2,some id) else none
    | none=>none
   | none=>none
  | _=>none
def Dv(P:Program)(st:aF)(jQ:List ResultVar)(args:List aN)(hint:aV):Option (aV×List aN):=
 match NK P st jQ hint,tc st 0 args with
 | some (r,ts,_),some (as,tt)=>if Cp args&&axT args r&&Ey (ts++tt) then some (r,as) else none
 | _,_=>none
def mN(ω:Own)(ts:h6)(nw:Option Nat):Own:=fun b=>
 match ω b with
 | .tok t q=>match ts.at t with | some n=>.tok n q | none=>.bO
 | .box id=>if nw=some id then .box 49 else if dj<=id/\id<dj+49 then .box (id-dj) else .bO
 | .bO=>.bO
variable{ts:h6}
theorem LM{nw:Option Nat}{n:Nat}{q:List (Nat×Nat)}(h:iI ω ts b=.tok n q):mN ω ts nw b=.tok n q:=by
 simp only[iI]at h;simp only[mN];cases e:ω b with
 | bO=>rw[e]at h;cases h
 | box id=>rw[e]at h;cases h
 | tok t dD=>rw[e]at h;exact h
theorem mi.ax2{nw:Option Nat}{r:Nat}{d:cQ}{y:Value}(h:mi w (iI ω ts) r d y):mi w (mN ω ts nw) r d y:=by
 cases d with
 | one d=>exact b7.frame h fun b q _ az=>⟨LM az,rfl⟩
 | agg ds=>
  obtain⟨vs,e,aR,bd⟩:=h;exact⟨vs,e,aR,fun j d aE=>by
   obtain⟨u,hu,aA⟩:=bd j d aE;exact⟨u,hu,aA.frame fun b q _ az=>⟨LM az,rfl⟩⟩⟩
theorem SD{τ:Nat->Nat×Value}{nw:Option Nat}{id i:Nat}{ls fl:List aH}{hint ds:List D}{ke:h6}{cT:List (Option Nat)}{pn:List Bool}(ko:∀t n,(t,n)∈ts->ts.at t=some n)
  (aj:tC w ω τ id ls) (kp:pN cT ls=some fl) (abm:∀j,stays pn j=false->cT.getD j none=none) (aA:qQ (hs i 0) fl hint=some (ds,ke)) (jo:∀y∈ke,y∈ts) (fT:∀b,ω b=.box id->mN ω ts nw b=.box i) (acb:∀b,mN ω ts nw b=.box i->ω b=.box id):
  ∀{y:Value},(∃b,ω b=.box id/\y=ptrTo b)->vI w (mN ω ts nw) i pn (hs i) (ss cT ls ds) y/\∀(j t:Nat),cT[j]?=some (some t)->dj<=t->(τ t).2=iH w y j:=by
 rintro y ⟨da,dz,rfl⟩;obtain⟨b,arr,ty,h1,U,ax,aK⟩:=aj;have:=U da dz;subst this;obtain⟨a7,bp⟩:=Kb (w:=w) (ω:=ω) (τ:=τ) ko aA jo;obtain⟨mV,mW,r4⟩:=EH kp;obtain⟨f1,f2⟩:=atb cT ls ds;refine⟨⟨da,arr,ty,rfl,fT da dz,fun c ak=>U c (acb c ak),ax,by have:=aK.1;omega,fun j d aE=>?_⟩,fun j t bd bH=>?_⟩
 ·have lv:j<ls.length:=by
   have:=(eW.1 aE).1;omega
  obtain⟨u,hu,ai⟩:=aK.2 j _ (h4 lv);refine⟨u,hu,fun e5=>?_⟩;have hk:=abm j e5;rw[f2 j hk]at aE;obtain⟨l,ag,dq⟩:=bp j d aE;rw[r4 j hk,h4 lv]at ag;cases ag;have:=dq u ai;rw[show hs i 0+j=hs i j by simp only[hs];omega]at this;exact this.frame fun b q _ az=>⟨LM az,rfl⟩
 obtain⟨k,es,ag⟩:=mW j t bd;obtain⟨u,hu,ai⟩:=aK.2 j _ ag;rw[ai.2 bH];simp[iH,ptrTo,ax,ew,hu]
theorem SE{P:Program}{f:FuncId}{fn:Func}{c:Code}{r:aV}{ans cu:List ci}{obs:List Prop}{e:hE}{st:aF}(bw:P.funcs[f]?=some fn)(aj:fn.body=some c)
  (fU:run P c (AT args fn.ntmps) ans=some (e,st,cu,obs)) (aU:cO obs) (he:e=.ret\/e=.normal) (fe:Dv P st fn.results.toList args r=some (r,args)):bZ P f args r:=by
 intro w vs C6 mw H' sR;unfold Dv at fe;split at fe
 ·rename_i bI ts nw as tt e4 lx;split at fe
  ·rename_i bP;simp only[aX,bJ]at fe;obtain⟨rfl,rfl⟩:=fe;rw[cm,cm]at bP;obtain⟨⟨eQ,jF⟩,bP⟩:=bP;have ko:∀t n,(t,n)∈ts++tt->h6.at t (ts++tt)=some n:=fun t n h=>Ez bP h
   refine calls_of_wp bw aj (Code.wp_mono (fun e' cJ aS hp=>?_) (nQ c fU aU _ _ w (ata eQ mw H' sR fn.ntmps)));obtain⟨rfl,ω,τ,aZ⟩:=hp;have azn:bI=bI/\as.length<49:=by
    simp only[Cp,cm,cr]at eQ;exact⟨rfl,eQ.1⟩
   have Az:∀id,nw=some id->id<dj:=by
    intro id e;subst e;unfold NK at e4;split at e4
    ·split at e4
     ·rw[b8]at e4;obtain⟨_,_,h⟩:=e4;simp only[bJ]at h;exact absurd h.2.2 (by simp)
     cases e4
    split at e4
    ·split at e4
     ·split at e4
      ·split at e4
       ·rename_i bL;rw[b8]at e4;obtain⟨_,_,h⟩:=e4;simp only[bJ,aX]at h;rw[<-h.2.2];exact bL
       cases e4
      cases e4
     cases e4
    cases e4
   have hm:∃v,(results fn cJ.tmps).run P aS=.ok v aS/\Da aS (mN ω (ts++tt) nw) vs bI v:=by
    have Qu:∀{cF:List aJ},fn.results.toList.mapM (qM P st)=some cF->∃zs:List Value,(results fn cJ.tmps).run P aS=.ok (if h:zs.toArray.size=1 then zs.toArray[0] else .tuple zs.toArray) aS/\zs.length=cF.length/\∀(i:Nat) (p:aJ),cF[i]?=some p->∃z,zs[i]?=some z/\cU (Sat aS ω τ) p z:=by
     intro cF sN;obtain⟨zs,h1,U,ax⟩:=EB aZ sN;have hm:=Ed (P:=P) _ fn.results aS _ h1;refine⟨zs,?_,U,ax⟩;rw[LC,Sem.run_bind,hm];rfl
    unfold NK at e4;split at e4
    ·rename_i hint;split at e4
     ·rename_i cF sN;rw[b8]at e4;obtain⟨⟨ds,Gi⟩,eI,h⟩:=e4;simp only[bJ,aV.vals.injEq]at h;obtain⟨rfl,rfl,rfl⟩:=h;obtain⟨zs,h1,U,ax⟩:=Qu sN;obtain⟨aK,a7⟩:=EA (w:=aS) (ω:=ω) (τ:=τ) ko eI (fun x aa=>gN _ aa);have fa:∀(j:Nat) (d:cQ),ds[j]?=some d->∃z,zs[j]?=some z/\mi aS (mN ω (Gi++tt) none) j d z:=by
       intro j d aE;obtain⟨p,hp,sM⟩:=a7 j d aE;obtain⟨z,a6,yA⟩:=ax j p hp;have:=sM z yA;rw[dG]at this;exact⟨z,a6,this.ax2⟩
      have l1:zs.length=ds.length:=by omega
      refine⟨_,h1,?_⟩;show nO _ _ _ _;generalize bF:(if h:zs.toArray.size=1 then zs.toArray[0] else Value.tuple zs.toArray)=v;unfold nO;split
      ·rename_i cB;obtain⟨z,a6,ak⟩:=fa 0 cB rfl;have h1:zs.length=1:=by rw[l1];rfl
       have ph:zs=[z]:=by
        match zs,h1,a6 with
        | [z0],_,a6=>simp at a6;rw[a6]
       have AM:v=z:=by
        rw[<-bF];simp[ph]
       rw[AM];exact ak
      rename_i ct;have h1:¬zs.toArray.size=1:=by
       intro h;simp at h;rw[l1]at h;obtain⟨d,aE⟩:=List.length_eq_one_iff.1 h;exact ct d aE
      rw[dif_neg h1]at bF;exact⟨zs.toArray,bF.symm,by simpa using l1,fun r cB aA=>by obtain⟨z,a6,ak⟩:=fa r cB aA;exact⟨z,by simpa using a6,ak⟩⟩
     cases e4
    rename_i src hint;split at e4
    ·rename_i id sN;split at e4
     ·rename_i ls cA;split at e4
      case h_2=>cases e4
      rename_i fl kp;split at e4
      ·rename_i bL;rw[b8]at e4;obtain⟨⟨ds,Gi⟩,eI,h⟩:=e4;simp only[bJ,aV.hX.injEq,true_and]at h;obtain⟨rfl,rfl,rfl⟩:=h;obtain⟨zs,h1,U,ax⟩:=Qu sN;obtain⟨z,a6,b,acn,rn⟩:=ax 0 _ rfl;have ph:zs=[z]:=by
        match zs,U,a6 with
        | [z0],_,a6=>simp at a6;rw[a6]
       subst ph;refine⟨z,by simpa using h1,?_⟩;have AL:=SD (pn:=xI src) (nw:=some id) (i:=49) ko (aZ.boxes id ls cA) kp (fun j bd=>by
        simp only[stays,xI,iv,du]at bd;simp only[EJ,iv,du];cases e:src[j]? with
        | none=>rfl
        | some x=>cases x with
         | none=>rfl
         | some a=>rw[e]at bd;cases bd) eI (fun y bu=>gN _ bu) (fun b aj=>by simp only[mN,aj,fQ]) (fun b aj=>?_) ⟨b,acn,rn⟩
       ·refine⟨AL.1,fun j x aa=>?_⟩;have aK:=AL.2 j (iG x 0) (by simp[EJ,aa]) (by simp only[iG];omega);have a7:=fK.1 jF _ (fF aa);simp only at a7;split at a7
        ·rename_i d aE;rw[aZ.fixed _ (by simp only[iG];omega)]at aK;change (nX as w vs (iG x 0)).2=_ at aK;rw[SC aE]at aK;have bp:x<vs.size:=by
          have:=(eW.1 aE).1;have:=mw.2.2.1;omega
         rw[<-aK,h3 bp,ew,h3 bp];rfl
        cases a7
       simp only[mN]at aj;cases e:ω b with
       | bO=>rw[e]at aj;cases aj
       | tok t q=>rw[e]at aj;simp only at aj;split at aj<;>cases aj
       | box gZ=>
        rw[e]at aj;simp only at aj;split at aj
        ·rename_i e2;rw[eE e2]
        split at aj
        ·simp only[c8.box.injEq]at aj;omega
        cases aj
      cases e4
     cases e4
    cases e4
   obtain⟨v,yw,sS⟩:=hm;have dT:∃v,(results fn cJ.tmps).run P aS=.ok v aS/\∃u,Ending.returned v=.returned u/\hr ⟨w,fun b=>C6 b≠.bO,fun _=>(0,undef)⟩ aS/\
     ∃a':Own,(∀b,b<w.heap.size->C6 b=.bO->a' b=.bO)/\E' aS a'/\(∀(i:Nat) (pn:List Bool) (pre post:List D) (y:Value),as[i]?=some (.iq pn pre post)->vs[i]?=some y->vI aS a' i pn (hs i) post y/\∀j,stays pn j=true->iH aS y j=iH w y j)/\Da aS a' vs bI u:=by
    refine⟨v,yw,v,rfl,⟨aZ.below.os,aZ.below.tape,aZ.below.output,aZ.below.size,aZ.below.block,aZ.below.drawn,aZ.below.laid,aZ.below.free⟩,mN ω (ts++tt) nw,fun b aj av=>?_,fun b aj=>?_,?_,sS⟩
    ·have:ω b=.bO:=by
      cases e:ω b with
      | bO=>rfl
      | box id=>
       rcases (aZ.owned b (by simp[e])).1 with h | h
       ·exact absurd aj (by have h:w.heap.size<=b:=h;omega)
       exact absurd av h
      | tok t q=>
       rcases (aZ.owned b (by simp[e])).1 with h | h
       ·exact absurd aj (by have h:w.heap.size<=b:=h;omega)
       exact absurd av h
     simp only[mN,this]
    ·have:ω b≠.bO:=fun e=>aj (by simp only[mN,e])
     exact (aZ.owned b this).2
    intro i pn pre post y pf bu;obtain⟨ls,fl,ds,hint,ke,g1,g0,g2,rfl,g3⟩:=(EI lx).2 i pn pre post pf;simp only[dG]at g1 g2 g0 pf ⊢;have hi:i<49:=by
     have:=(eW.1 pf).1;omega
    have ct:nw≠some (jg i):=fun e=>by have:=Az _ e;simp only[jg]at this;omega
    obtain⟨b9,tH,vq,hJ,gp,PM,yh⟩:=aZ.boxes _ ls g1;obtain⟨gy,QB,⟨eP,_,_,hyp,_⟩,_⟩:=mw.2.2.2 i _ pf;rw[bu]at QB;have:=eE QB;subst this;have wi:=aZ.pinned (jg i) b9 (by simp[jg]) hJ;simp only[nX]at wi;rw[ba (by simp only[jg];omega),bi (by simp[jg]),show jg i-dj=i by simp[jg],ew,bu,hyp]at wi;have wi:eP=b9:=wi;subst wi;have abk:∀j,stays pn j=true->(rM i 0 pn)[j]?=some (some (iG i j)):=fun j bd=>by
     simp only[stays,iv]at bd;rw[LL,dG];cases e:pn[j]? with
     | none=>rw[e]at bd;cases bd
     | some x=>
      rw[e]at bd;simp only[ji]at bd;simp[bd]
    have AL:=SD (pn:=pn) (nw:=nw) (i:=i) ko ⟨eP,tH,vq,hJ,gp,PM,yh⟩ g0 (fun j bd=>by
     simp only[stays,iv]at bd;rw[iv,LL];cases e:pn[j]? with
     | none=>rfl
     | some x=>
      rw[e]at bd;simp only[ji]at bd;simp[bd]) g2 (fun y bu=>hR _ (g3 y bu)) (fun b aj=>?_) (fun b aj=>?_) ⟨eP,hJ,hyp⟩
    ·refine⟨AL.1,fun j bd=>?_⟩;have abg:j<100:=by
      simp only[Cp,cm,cr,fK]at eQ;have aK:=eQ.2 _ (fF pf);simp only[cm,cr]at aK;simp only[stays,iv]at bd;rcases sa j pn.length with h | h
      ·omega
      rw[List.getElem?_eq_none h]at bd;cases bd
     have aK:=AL.2 j (iG i j) (abk j bd) (by simp only[iG];omega);rw[aZ.fixed _ (by simp only[iG];omega)]at aK;change (nX as w vs (iG i j)).2=_ at aK;rw[SB pf abg]at aK;rw[<-aK];simp only[ew,bu,ji]
    ·simp only[mN,aj];rw[ba ct,bi ⟨by simp[jg],by simp only[jg];omega⟩];simp[jg]
    simp only[mN]at aj;cases e:ω b with
    | bO=>rw[e]at aj;cases aj
    | tok t q=>rw[e]at aj;simp only at aj;split at aj<;>cases aj
    | box gZ=>
     rw[e]at aj;simp only at aj;split at aj
     ·simp only[c8.box.injEq]at aj;omega
     split at aj
     ·simp only[c8.box.injEq]at aj;simp only[jg,c8.box.injEq];omega
     cases aj
   obtain⟨v,bp,b6⟩:=dT;rcases he with rfl | rfl
   ·exact⟨aZ.defers,v,bp,b6⟩
   exact⟨aZ.defers,v,bp,b6⟩
  cases fe
 cases fe
def JD(P:Program)(c:Code)(ntmps:Nat)(jQ:List ResultVar)(args:List aN)(hint:aV)(ans:List ci):Option (aV×List aN×List Prop):=
 match run P c (AT args ntmps) ans with
 | some (.ret,st,_,obs)=>(Dv P st jQ args hint).map fun r=>(r.1,r.2,obs)
 | some (.normal,st,_,obs)=>(Dv P st jQ args hint).map fun r=>(r.1,r.2,obs)
 | _=>none
theorem bZ.of{P:Program}{f:FuncId}{fn:Func}{r:aV}(ans:List ci)(obs:List Prop)(bw:P.funcs[f]?=some fn)(aj:fn.body.isSome=true)
  (h:JD P (oR fn) fn.ntmps fn.results.toList args r ans=some (r,args,obs)) (aU:cO obs):bZ P f args r:=by
 obtain⟨c,ak⟩:=pQ.1 aj;have Aq:oR fn=c:=by simp[oR,ak]
 unfold JD at h;rw[Aq]at h;split at h
 ·rename_i st a mK aA;rw[b8]at h;obtain⟨⟨zy,NN⟩,h1,h⟩:=h;simp only[bJ]at h;obtain⟨rfl,rfl,rfl⟩:=h;exact SE bw ak aA aU (.inl rfl) h1
 ·rename_i st a mK aA;rw[b8]at h;obtain⟨⟨zy,NN⟩,h1,h⟩:=h;simp only[bJ]at h;obtain⟨rfl,rfl,rfl⟩:=h;exact SE bw ak aA aU (.inr rfl) h1
 cases h
end Go.Sx
namespace Go.Sx
open Go.RowKit
mutual
inductive Fit:D->D->Prop
 | refl (d:D):Fit d d
 | nil (k:Nat):Fit (.v (.slice none 0 0)) (.J k [])
 | J (k:Nat) {es cH:List (List D)} (h:mq es cH):Fit (.J k es) (.J k cH)
inductive ki:List D->List D->Prop
 | nil:ki [] []
 | cons {d dE:D} {e e':List D} (h:Fit d dE) (t:ki e e'):ki (d::e) (dE::e')
inductive mq:List (List D)->List (List D)->Prop
 | nil:mq [] []
 | cons {e e':List D} {es cH:List (List D)} (h:ki e e') (t:mq es cH):mq (e::es) (e'::cH)
end
theorem ki.refl:∀e:List D,ki e e
 | []=>.nil
 | d::e=>.cons (.refl d) (ki.refl e)
mutual
theorem Fit.rep{w:World}{ω:Own}:∀{d dE:D},Fit d dE->∀{R:List (Nat×Nat)->c8->Prop} {y:Value},b7 w ω R d y->b7 w ω R dE y
 | _,_,.refl d,_,_,h=>h
 | _,_,.nil k,_,_,h=>by cases h;exact .nil _ _ _
 | _,_,.J k f,_,_,h=>by
  obtain⟨ag,av⟩:=mq.get (w:=w) (ω:=ω) f;cases h with
  | nil=>
   have:=xN ag.symm;subst this;exact .nil _ _ _
  | row R k es b off cap arr ty c0 us aj dT ak ai hk hu aE=>
   rw[ag];refine .row _ _ _ b off cap arr ty c0 us aj dT (ag▸ak) ai (fun e he=>?_) (fun i j dE dP=>?_) (fun i j dE dP=>?_)
   ·obtain⟨i,hi⟩:=r8.1 he;obtain⟨bM,h1,U,_⟩:=av i e hi;rw[<-U];exact hk bM (fF h1)
   ·unfold c9 at dP;rw[mo]at dP;obtain⟨e,h1,U⟩:=dP;obtain⟨bM,ax,_,a7⟩:=av i e h1;obtain⟨d,bp,_⟩:=a7 j dE U;exact hu i j d (by unfold c9;rw[ax];exact bp)
   unfold c9 at dP;rw[mo]at dP;obtain⟨e,h1,U⟩:=dP;obtain⟨bM,ax,_,a7⟩:=av i e h1;obtain⟨d,bp,b6⟩:=a7 j dE U;exact b6 (aE i j d (by unfold c9;rw[ax];exact bp))
theorem ki.get{w:World}{ω:Own}:∀{e e':List D},ki e e'->e.length=e'.length/\∀(j:Nat) (dE:D),e'[j]?=some dE->∃d,e[j]?=some d/\∀{R:List (Nat×Nat)->c8->Prop} {y:Value},b7 w ω R d y->b7 w ω R dE y
 | _,_,.nil=>⟨rfl,fun j dE h=>by simp at h⟩
 | _,_,.cons h t=>by
  obtain⟨h1,U⟩:=ki.get (w:=w) (ω:=ω) t;refine⟨by simp[h1],fun j dE aE=>?_⟩;cases j with
  | zero=>
   simp only[kg,aX]at aE;subst aE;exact⟨_,rfl,fun aA=>Fit.rep h aA⟩
  | succ j=>exact U j dE (by simpa using aE)
theorem mq.get{w:World}{ω:Own}:∀{es cH:List (List D)},mq es cH->es.length=cH.length/\∀(i:Nat) (e':List D),cH[i]?=some e'->∃e,es[i]?=some e/\e.length=e'.length/\∀(j:Nat) (dE:D),e'[j]?=some dE->∃d,e[j]?=some d/\∀{R:List (Nat×Nat)->c8->Prop} {y:Value},b7 w ω R d y->b7 w ω R dE y
 | _,_,.nil=>⟨rfl,fun j dE h=>by simp at h⟩
 | _,_,.cons h t=>by
  obtain⟨h1,U⟩:=mq.get (w:=w) (ω:=ω) t;obtain⟨ax,aK⟩:=ki.get (w:=w) (ω:=ω) h;refine⟨by simp[h1],fun j dE aE=>?_⟩;cases j with
  | zero=>
   simp only[kg,aX]at aE;subst aE;exact⟨_,rfl,ax,aK⟩
  | succ j=>exact U j dE (by simpa using aE)
end
inductive qY:cQ->cQ->Prop
 | one {d dE:D} (h:Fit d dE):qY (.one d) (.one dE)
 | agg {e e':List D} (h:ki e e'):qY (.agg e) (.agg e')
theorem qY.refl(a:cQ):qY a a:=by
 cases a with
 | one d=>exact .one (.refl d)
 | agg e=>exact .agg (.refl e)
inductive n2:List cQ->List cQ->Prop
 | nil:n2 [] []
 | cons {a cJ:cQ} {as ln:List cQ} (h:qY a cJ) (t:n2 as ln):n2 (a::as) (cJ::ln)
theorem n2.get:∀{as ln:List cQ},n2 as ln->as.length=ln.length/\∀(i:Nat) (cJ:cQ),ln[i]?=some cJ->∃a,as[i]?=some a/\qY a cJ
 | _,_,.nil=>⟨rfl,fun j dE h=>by simp at h⟩
 | _,_,.cons h t=>by
  obtain⟨h1,U⟩:=n2.get t;refine⟨by simp[h1],fun j dE aE=>?_⟩;cases j with
  | zero=>
   simp only[kg,aX]at aE;subst aE;exact⟨_,rfl,h⟩
  | succ j=>exact U j dE (by simpa using aE)
variable{w:World}
theorem qY.cell{ω:Own}{r:Nat}{a cJ:cQ}{y:Value}(h:qY a cJ)(ak:mi w ω r a y):mi w ω r cJ y:=by
 cases h with
 | one h=>exact h.rep ak
 | agg h=>
  obtain⟨vs,rfl,aR,bd⟩:=ak;obtain⟨h1,U⟩:=ki.get (w:=w) (ω:=ω) h;refine⟨vs,rfl,by omega,fun j dE aE=>?_⟩;obtain⟨d,ax,aK⟩:=U j dE aE;obtain⟨u,a7,bp⟩:=bd j d ax;exact⟨u,a7,aK bp⟩
variable{rs vk:List cQ}
theorem n2.all{ω:Own}{v:Value}(h:n2 rs vk)(aA:nO w ω rs v):nO w ω vk v:=by
 cases h with
 | nil=>exact aA
 | cons h t=>
  cases t with
  | nil=>exact h.cell aA
  | cons U t2=>
   obtain⟨vs,e,aR,bF⟩:=aA;obtain⟨ax,aK⟩:=n2.get (.cons h (.cons U t2));refine⟨vs,e,by omega,fun i cJ ae=>?_⟩;obtain⟨a,a7,bp⟩:=aK i cJ ae;obtain⟨y,b6,dn⟩:=bF i a a7;exact⟨y,b6,bp.cell dn⟩
variable{P:Program}{f:FuncId}
theorem bZ.fit{args:List aN}(h:bZ P f args (.vals rs))(k:n2 rs vk):bZ P f args (.vals vk):=by
 intro w vs ω aA k4 sR;refine (h w vs ω aA k4 sR).mono ?_;rintro e aS ⟨v,rfl,aj,a',h1,U,ax,aK⟩;exact⟨v,rfl,aj,a',h1,U,ax,k.all aK⟩
theorem iX.fit{args:List cQ}(h:iX P f args rs)(k:n2 rs vk):iX P f args vk:=by
 intro w vs sQ aA;refine (h w vs sQ aA).mono ?_;rintro e aS ⟨v,rfl,aj,ω,h1,U,ax⟩;exact⟨v,rfl,aj,ω,h1,U,k.all ax⟩
theorem qY.arg{a cJ:cQ}{y:Value}(h:qY a cJ)(ak:vB w a y):vB w cJ y:=by
 cases h with
 | one h=>exact h.rep ak
 | agg h=>
  obtain⟨vs,rfl,aR,bd⟩:=ak;obtain⟨h1,U⟩:=ki.get (w:=w) (ω:=fun _=>.bO) h;refine⟨vs,rfl,by omega,fun j dE aE=>?_⟩;obtain⟨d,ax,aK⟩:=U j dE aE;obtain⟨u,a7,bp⟩:=bd j d ax;exact⟨u,a7,aK bp⟩
theorem iX.args{as ln:List cQ}(h:iX P f ln rs)(k:n2 as ln):iX P f as rs:=by
 intro w vs sQ aA;obtain⟨h1,U⟩:=k.get;refine h w vs sQ ⟨by rw[aA.1,h1],fun i cJ ae=>?_⟩;obtain⟨a,ax,aK⟩:=U i cJ ae;obtain⟨v,a7,bp⟩:=aA.2 i a ax;exact⟨v,a7,aK.arg bp⟩
