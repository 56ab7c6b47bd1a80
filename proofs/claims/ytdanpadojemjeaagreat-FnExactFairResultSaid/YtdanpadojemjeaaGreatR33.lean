/- The contract of a function that is handed pointers to variables, out of a run of its body. -/
import Derived.Test.YtdanpadojemjeaaGreatR15
import Derived.Test.YtdanpadojemjeaaGreatR31
import Derived.Test.YtdanpadojemjeaaGreatR22
set_option linter.unusedVariables false
set_option linter.unusedSimpArgs false
namespace Go.Sx
open Go.RowKit
def raId(i:Nat):Nat:=giv+i
def RA.al(i:Nat):RA→AL
 | .ro a=>a.arg
 | .ref _ _=>.one (.ptr (raId i) 0)
def raEnv:Nat→List RA→List PV
 | _,[]=>[]
 | i,a::as=>.al (a.al i)::raEnv (i+1) as
def qgB:Nat→List RA→List (Nat×List Leaf)
 | _,[]=>[]
 | i,.ref pre _::as=>(raId i,qb3 (rTok i 0) 0 pre)::qgB (i+1) as
 | i,.ro _::as=>qgB (i+1) as
def initR(args:List RA)(ntmps:Nat):St:=⟨raEnv 0 args++List.replicate (ntmps-args.length) .und,qgB 0 args⟩
theorem qnG:∀(as:List RA) (i x:Nat),(raEnv i as)[x]?=(as[x]?).map fun a=>.al (a.al (i+x))
 | [],i,x=>by simp[raEnv]
 | a::as,i,0=>by simp[raEnv]
 | a::as,i,x+1=>by
  simp only[raEnv,zaf,qnG as (i+1) x]
  rw[show i+1+x=i+(x+1) by omega]
theorem qko:∀(as:List RA) (i:Nat),(raEnv i as).length=as.length
 | [],_=>rfl
 | a::as,i=>by simp[raEnv,qko as (i+1)]
theorem qkp{id:Nat}{ls:List Leaf}:∀{as:List RA} {i:Nat},qam id (qgB i as)=some ls→∃x pre post,as[x]?=some (.ref pre post)∧id=raId (i+x)∧ls=qb3 (rTok (i+x) 0) 0 pre
 | [],i,h=>by cases h
 | .ro _::as,i,h=>by
  obtain⟨x,pre,post,h1,h2,h3⟩:=qkp (as:=as) (i:=i+1) h
  exact⟨x+1,pre,post,by simpa using h1,by rw[h2,show i+1+x=i+(x+1) by omega],by rw[h3,show i+1+x=i+(x+1) by omega]⟩
 | .ref pre post::as,i,h=>by
  simp only[qgB,qam]at h
  split at h
  ·rename_i e
   exact⟨0,pre,post,rfl,e.symm,(zx h).symm⟩
  ·obtain⟨x,pre,post,h1,h2,h3⟩:=qkp (as:=as) (i:=i+1) h
   exact⟨x+1,pre,post,by simpa using h1,by rw[h2,show i+1+x=i+(x+1) by omega],by rw[h3,show i+1+x=i+(x+1) by omega]⟩
def rFits(args:List RA):Bool:=decide (args.length<49)&&args.all fun | .ro _=>true | .ref pre post=>decide (pre.length<100)&&decide (post.length<100)
def blkOf:Value→Nat
 | .pointer (some p)=>p.block
 | _=>0
def tauR(args:List RA)(w:World)(vs:Array Value)(t:Nat):Nat×Value:=
 if giv≤t then (blkOf (vs.getD (t-giv) undef),undef) else
 match args[(t-900000000) / 100]? with
 | some (.ref pre _)=>(((pre[(t-900000000) % 100]?).map D.slK).getD 0,qhT w (vs.getD ((t-900000000) / 100) undef) ((t-900000000) % 100))
 | _=>(0,undef)
def ownR(ω:Own):Own:=fun b=>match ω b with | .box i=>.box (raId i) | o=>o
theorem qsM{ω:Own}{b t:Nat}{q:List (Nat×Nat)}(h:ω b=.tok t q):ownR ω b=.tok t q:=by simp only[ownR,h]
theorem qnH{ω:Own}{b:Nat}:ownR ω b=.imm↔ω b=.imm:=by
 simp only[ownR]
 cases ω b<;>simp
theorem qkq{ω:Own}{b i:Nat}:ownR ω b=.box (raId i)↔ω b=.box i:=by
 simp only[ownR]
 cases ω b with
 | imm=>simp
 | box j=>simp only[raId,Owner.box.injEq];omega
 | tok t q=>simp
theorem qsN{w:World}{ω:Own}{args:List RA}{vs:Array Value}(hfit:rFits args=true)(h:RasOk w ω args vs)(ntmps:Nat):
  Rel ⟨w,fun b=>ω b≠.imm,tauR args w vs⟩ (initR args ntmps) { tmps:=vs++Array.replicate (ntmps-vs.size) undef,defers:=[] } w:=by
 obtain⟨hun,hbx,hn,ha⟩:=h
 simp only[rFits,zj,zi,zM]at hfit
 have hfree:∀{d:D} {y:Value},Rep w ω Tag.free.R d y→Rep w (ownR ω) Tag.free.R d y:=fun h=>h.frame fun b q _ hq=>⟨qnH.2 hq,rfl⟩
 refine⟨ownR ω,tauR args w vs,rfl,by simp[initR,hn,qko],Bel.refl _,fun b hb=>?_,fun _ _=>rfl,?_,?_,fun id ls hl=>?_⟩
 ·have:ω b≠.imm:=fun e=>hb (qnH.2 e)
  exact⟨.inr this,hun b this⟩
 ·intro id b hi hb
  simp only[ownR]at hb
  cases e:ω b with
  | imm=>rw[e]at hb;cases hb
  | tok t q=>rw[e]at hb;cases hb
  | box i=>
   rw[e]at hb
   simp only[Owner.box.injEq]at hb
   subst hb
   obtain⟨pre,post,h1⟩:=hbx b i e
   obtain⟨v,hv,b1,arr,ty,rfl,h2,h3,_⟩:=ha i _ h1
   have:=h3 b e
   subst this
   simp only[tauR]
   rw[zp hi,show raId i-giv=i by simp[raId],zl,hv]
   rfl
 ·intro i p hp
  simp only[initR]at hp
  rw[zT,qko]at hp
  split at hp
  ·rename_i hi
   rw[qnG,zc]at hp
   obtain⟨ra,hra,rfl⟩:=hp
   rw[zv]
   obtain⟨v,hv,hok⟩:=ha i ra hra
   have hi':i<vs.size:=by omega
   refine⟨v,by rw[zK,zp hi',hv],?_⟩
   cases ra with
   | ref pre post=>
    obtain⟨b,arr,ty,rfl,h2,_⟩:=hok
    exact⟨b,qkq.2 h2,rfl⟩
   | ro ad=>
    cases ad with
    | one d=>exact D.leaf_sat (p:=(0,0)) (t:=.free) (hfree hok)
    | agg ds=>
     obtain⟨us,rfl,hlen,hcs⟩:=hok
     refine⟨us,rfl,by simpa using hlen,fun j l hl=>?_⟩
     rw[zr,zc]at hl
     obtain⟨d,hd,rfl⟩:=hl
     obtain⟨u,h1,h2⟩:=hcs j d hd
     exact⟨u,h1,D.leaf_sat (p:=(0,0)) (t:=.free) (hfree h2)⟩
  ·rename_i hi
   rw[zbo]at hp
   split at hp
   ·rename_i hlt
    simp only[za]at hp
    subst hp
    refine⟨undef,?_,trivial⟩
    rw[zK,zo (by omega),Array.getElem?_replicate,zp (by omega)]
   ·cases hp
 ·obtain⟨i,pre,post,h1,rfl,rfl⟩:=qkp hl
  rw[zv]
  obtain⟨v,hv,b,arr,ty,rfl,h2,h3,h4,h5,h6⟩:=ha i _ h1
  refine⟨b,arr,ty,qkq.2 h2,fun b' hb'=>h3 b' (qkq.1 hb'),h4,by rw[qfz];exact h5,fun j l hl=>?_⟩
  rw[qfy,zc]at hl
  obtain⟨d,hd,rfl⟩:=hl
  obtain⟨u,hu,hr⟩:=h6 j d hd
  have hj:j<100:=by
   have e1:=hfit.2 _ (zw h1)
   simp only[zj,zi]at e1
   have:=(zk.1 hd).1
   omega
  refine⟨u,hu,?_⟩
  rw[show rTok i 0+(0+j)=rTok i j by simp only[rTok];omega]
  cases d with
  | v x=>
   have e:u=x:=by cases hr;rfl
   subst e
   unfold D.resLeaf
   split
   ·rename_i h;cases h;exact rfl
   ·rename_i h;cases h;exact rfl
   ·rename_i h;cases h
   ·exact trivial
   ·exact trivial
  | ptr ds=>exact trivial
  | cl g caps=>exact trivial
  | sl k es=>
   refine⟨hr.frame fun c q _ hq=>⟨qsM hq,rfl⟩,?_⟩
   have e1:(rTok i j-900000000) / 100=i:=by simp only[rTok];omega
   have e2:(rTok i j-900000000) % 100=j:=by simp only[rTok];omega
   have hi:i<49:=by
    have:=(zk.1 h1).1
    omega
   simp only[Tag.hdr,tauR]
   rw[zo (by simp only[rTok,giv];omega)]
   simp only[e1,e2,h1,hd]
   simp[qhT,ptrTo,h4,zl,hv,hu,D.slK]
def qeC(st:St):Nat→List RA→Option (List RA×Toks)
 | _,[]=>some ([],[])
 | i,.ro a::as=>(qeC st (i+1) as).map fun r=>(.ro a::r.1,r.2)
 | i,.ref pre post::as=>
  match qam (raId i) st.boxes with
  | some ls=>
   match resLs (bTok i 0) ls post,qeC st (i+1) as with
   | some (ds,ts),some r=>some (.ref pre ds::r.1,ts++r.2)
   | _,_=>none
  | none=>none
theorem qkr{st:St}:∀{as as':List RA} {i:Nat} {ts:Toks},qeC st i as=some (as',ts)→as'.length=as.length∧∀(x:Nat) (pre post:List D),as'[x]?=some (.ref pre post)→
  ∃ls hint ts',qam (raId (i+x)) st.boxes=some ls∧resLs (bTok (i+x) 0) ls hint=some (post,ts')∧∀y∈ts',y∈ts
 | [],as',i,ts,h=>by
  simp only[qeC,za,zd]at h
  obtain⟨rfl,rfl⟩:=h
  exact⟨rfl,fun x pre post h=>by simp at h⟩
 | .ro a::as,as',i,ts,h=>by
  simp only[qeC,zc]at h
  obtain⟨⟨r1,r2⟩,h1,h⟩:=h
  simp only[zd]at h
  obtain⟨rfl,rfl⟩:=h
  obtain⟨k1,k2⟩:=qkr h1
  refine⟨by simp[k1],fun x pre post hx=>?_⟩
  cases x with
  | zero=>simp at hx
  | succ x=>
   obtain⟨ls,hint,ts',g1,g2,g3⟩:=k2 x pre post (by simpa using hx)
   rw[show i+1+x=i+(x+1) by omega]at g1 g2
   exact⟨ls,hint,ts',g1,g2,g3⟩
 | .ref pre post::as,as',i,ts,h=>by
  simp only[qeC]at h
  split at h
  ·rename_i ls e1
   split at h
   ·rename_i ds ts1 r e2 e3
    simp only[za,zd]at h
    obtain⟨rfl,rfl⟩:=h
    obtain⟨k1,k2⟩:=qkr e3
    refine⟨by simp[k1],fun x pre' post' hx=>?_⟩
    cases x with
    | zero=>
     simp only[zag,za,RA.ref.injEq]at hx
     obtain⟨rfl,rfl⟩:=hx
     exact⟨ls,post,ts1,e1,e2,fun y hy=>zI _ hy⟩
    | succ x=>
     obtain⟨ls,hint,ts',g1,g2,g3⟩:=k2 x pre' post' (by simpa using hx)
     rw[show i+1+x=i+(x+1) by omega]at g1 g2
     exact⟨ls,hint,ts',g1,g2,fun y hy=>zJ _ (g3 y hy)⟩
   ·cases h
  ·cases h
def resRR(P:Program)(st:St)(rv:List ResultVar):RR→Option (RR×Toks×Option Nat)
 | .vals hint=>
  match rv.mapM (qcU P st) with
  | some ps=>(resPs 0 ps hint).map fun r=>(.vals r.1,r.2,none)
  | none=>none
 | .new hint=>
  match rv.mapM (qcU P st) with
  | some [.al (.one (.ptr id 0))]=>
   match qam id st.boxes with
   | some ls=>if id<giv then (resLs (bTok 49 0) ls hint).map fun r=>(.new r.1,r.2,some id) else none
   | none=>none
  | _=>none
def endR(P:Program)(st:St)(rv:List ResultVar)(args:List RA)(hint:RR):Option (RR×List RA):=
 match resRR P st rv hint,qeC st 0 args with
 | some (r,ts,_),some (as,ts2)=>if rFits args&&qh1 (ts++ts2) then some (r,as) else none
 | _,_=>none
def qb6(ω:Own)(ts:Toks)(nw:Option Nat):Own:=fun b=>
 match ω b with
 | .tok t q=>match ts.at t with | some n=>.tok n q | none=>.imm
 | .box id=>if nw=some id then .box 49 else if giv≤id∧id<giv+49 then .box (id-giv) else .imm
 | .imm=>.imm
theorem qks{ω:Own}{ts:Toks}{nw:Option Nat}{b n:Nat}{q:List (Nat×Nat)}(h:qa8 ω ts b=.tok n q):qb6 ω ts nw b=.tok n q:=by
 simp only[qa8]at h
 simp only[qb6]
 cases e:ω b with
 | imm=>rw[e]at h;cases h
 | box id=>rw[e]at h;cases h
 | tok t q'=>rw[e]at h;exact h
theorem qcf.toR{w:World}{ω:Own}{ts:Toks}{nw:Option Nat}{r:Nat}{d:AD}{y:Value}(h:qcf w (qa8 ω ts) r d y):qcf w (qb6 ω ts nw) r d y:=by
 cases d with
 | one d=>exact Rep.frame h fun b q _ hq=>⟨qks hq,rfl⟩
 | agg ds=>
  obtain⟨vs,e,hn,hj⟩:=h
  exact⟨vs,e,hn,fun j d hd=>by
   obtain⟨u,hu,hr⟩:=hj j d hd
   exact⟨u,hu,hr.frame fun b q _ hq=>⟨qks hq,rfl⟩⟩⟩
theorem qnI{w:World}{ω:Own}{τ:Nat→Nat×Value}{ts:Toks}{nw:Option Nat}{id i:Nat}{ls:List Leaf}{hint post:List D}{ts':Toks}(hts:∀t n,(t,n)∈ts→ts.at t=some n)
  (hb:BoxOk w ω τ id ls) (hr:resLs (bTok i 0) ls hint=some (post,ts')) (hsub:∀y∈ts',y∈ts) (hid:∀b,ω b=.box id→qb6 ω ts nw b=.box i) (huq:∀b,qb6 ω ts nw b=.box i→ω b=.box id):
  ∀{y:Value},(∃b,ω b=.box id∧y=ptrTo b)→VarAt w (qb6 ω ts nw) i (bTok i) post y:=by
 rintro y ⟨b',hb',rfl⟩
 obtain⟨b,arr,ty,h1,h2,h3,h4⟩:=hb
 have:=h2 b' hb'
 subst this
 obtain⟨h5,h6⟩:=qkc (w:=w) (ω:=ω) (τ:=τ) hts hr hsub
 refine⟨b',arr,ty,rfl,hid b' hb',fun c hc=>h2 c (huq c hc),h3,by have:=h4.1;omega,fun j d hd=>?_⟩
 obtain⟨l,hl,hl2⟩:=h6 j d hd
 obtain⟨u,hu,hs⟩:=h4.2 j l hl
 refine⟨u,hu,?_⟩
 have:=hl2 u hs
 rw[show bTok i 0+j=bTok i j by simp only[bTok];omega]at this
 exact this.frame fun b q _ hq=>⟨qks hq,rfl⟩
theorem qnJ{P:Program}{f:FuncId}{fn:Func}{c:Code}{args:List RA}{r:RR}{ans ans':List Ans}{obs:List Prop}{e:Ex}{st:St}(hf:P.funcs[f]?=some fn)(hb:fn.body=some c)
  (hrun:run P c (initR args fn.ntmps) ans=some (e,st,ans',obs)) (ho:Obs obs) (he:e=.ret∨e=.normal) (hres:endR P st fn.results.toList args r=some (r,args)):RetR P f args r:=by
 intro w vs ωg hargs
 unfold endR at hres
 split at hres
 ·rename_i r1 ts nw as ts2 hr1 hr2
  split at hres
  ·rename_i hok
   simp only[za,zd]at hres
   obtain⟨rfl,rfl⟩:=hres
   rw[zj]at hok
   obtain⟨hfit,hok⟩:=hok
   have hts:∀t n,(t,n)∈ts++ts2→Toks.at t (ts++ts2)=some n:=fun t n h=>qh2 hok h
   refine calls_of_wp hf hb (Code.wp_mono (fun e' a' w' hp=>?_) (qcg c hrun ho _ _ w (qsN hfit hargs fn.ntmps)))
   obtain⟨rfl,ω,τ,hrel⟩:=hp
   have hlen49:r1=r1∧as.length<49:=by
    simp only[rFits,zj,zi]at hfit
    exact⟨rfl,hfit.1⟩
   have hnw:∀id,nw=some id→id<giv:=by
    intro id e
    subst e
    unfold resRR at hr1
    split at hr1
    ·split at hr1
     ·rw[zc]at hr1
      obtain⟨_,_,h⟩:=hr1
      simp only[zd]at h
      exact absurd h.2.2 (by simp)
     ·cases hr1
    ·split at hr1
     ·split at hr1
      ·split at hr1
       ·rename_i hlt
        rw[zc]at hr1
        obtain⟨_,_,h⟩:=hr1
        simp only[zd,za]at h
        rw[←h.2.2];exact hlt
       ·cases hr1
      ·cases hr1
     ·cases hr1
   have hm:∃v,(results fn a'.tmps).run P w'=.ok v w'∧RROk w' (qb6 ω (ts++ts2) nw) r1 v:=by
    have hvals:∀{ps:List PV},fn.results.toList.mapM (qcU P st)=some ps→∃zs:List Value,(results fn a'.tmps).run P w'=.ok (if h:zs.toArray.size=1 then zs.toArray[0] else .tuple zs.toArray) w'∧zs.length=ps.length∧∀(i:Nat) (p:PV),ps[i]?=some p→∃z,zs[i]?=some z∧SatP (Sat w' ω τ) p z:=by
     intro ps hps
     obtain⟨zs,h1,h2,h3⟩:=qh4 hrel hps
     have hm:=qhv (P:=P) _ fn.results w' _ h1
     refine⟨zs,?_,h2,h3⟩
     rw[qkd,Sem.run_bind,hm]
     rfl
    unfold resRR at hr1
    split at hr1
    ·rename_i hint
     split at hr1
     ·rename_i ps hps
      rw[zc]at hr1
      obtain⟨⟨ds,ts1⟩,hds,h⟩:=hr1
      simp only[zd,RR.vals.injEq]at h
      obtain⟨rfl,rfl,rfl⟩:=h
      obtain⟨zs,h1,h2,h3⟩:=hvals hps
      obtain⟨h4,h5⟩:=qh3 (w:=w') (ω:=ω) (τ:=τ) hts hds (fun x hx=>zI _ hx)
      have hcell:∀(j:Nat) (d:AD),ds[j]?=some d→∃z,zs[j]?=some z∧qcf w' (qb6 ω (ts1++ts2) none) j d z:=by
       intro j d hd
       obtain⟨p,hp,hp2⟩:=h5 j d hd
       obtain⟨z,hz,hz2⟩:=h3 j p hp
       have:=hp2 z hz2
       rw[zv]at this
       exact⟨z,hz,this.toR⟩
      have hzl:zs.length=ds.length:=by omega
      refine⟨_,h1,?_⟩
      show qck _ _ _ _
      generalize hv:(if h:zs.toArray.size=1 then zs.toArray[0] else Value.tuple zs.toArray)=v
      unfold qck
      split
      ·rename_i ad
       obtain⟨z,hz,hc⟩:=hcell 0 ad rfl
       have h1:zs.length=1:=by rw[hzl];rfl
       have hz0:zs=[z]:=by
        match zs,h1,hz with
        | [z0],_,hz=>simp at hz;rw[hz]
       have hvz:v=z:=by
        rw[←hv]
        simp[hz0]
       rw[hvz]
       exact hc
      ·rename_i hne
       have h1:¬zs.toArray.size=1:=by
        intro h
        simp at h
        rw[hzl]at h
        obtain⟨d,hd⟩:=List.length_eq_one_iff.1 h
        exact hne d hd
       rw[dif_neg h1]at hv
       exact⟨zs.toArray,hv.symm,by simpa using hzl,fun r ad hr=>by obtain⟨z,hz,hc⟩:=hcell r ad hr;exact⟨z,by simpa using hz,hc⟩⟩
     ·cases hr1
    ·rename_i hint
     split at hr1
     ·rename_i id hps
      split at hr1
      ·rename_i ls hbx
       split at hr1
       ·rename_i hlt
        rw[zc]at hr1
        obtain⟨⟨ds,ts1⟩,hds,h⟩:=hr1
        simp only[zd,RR.new.injEq]at h
        obtain⟨rfl,rfl,rfl⟩:=h
        obtain⟨zs,h1,h2,h3⟩:=hvals hps
        obtain⟨z,hz,b,hzb,hzp⟩:=h3 0 _ rfl
        have hz0:zs=[z]:=by
         match zs,h2,hz with
         | [z0],_,hz=>simp at hz;rw[hz]
        refine⟨_,h1,?_⟩
        subst hz0
        show VarAt _ _ 49 (bTok 49) ds z
        refine qnI hts (hrel.boxes id ls hbx) hds (fun y hy=>zI _ hy) (fun b hb=>by simp only[qb6,hb,zbb]) (fun b hb=>?_) ⟨b,hzb,hzp⟩
        simp only[qb6]at hb
        cases e:ω b with
        | imm=>rw[e]at hb;cases hb
        | tok t q=>rw[e]at hb;simp only at hb;split at hb<;>cases hb
        | box id'=>
         rw[e]at hb
         simp only at hb
         split at hb
         ·rename_i e2
          rw[zx e2]
         ·split at hb
          ·simp only[Owner.box.injEq]at hb;omega
          ·cases hb
       ·cases hr1
      ·cases hr1
     ·cases hr1
   obtain⟨v,hv1,hv2⟩:=hm
   have hR:∃v,(results fn a'.tmps).run P w'=.ok v w'∧∃u,Ending.returned v=.returned u∧Bel ⟨w,fun b=>ωg b≠.imm,fun _=>(0,undef)⟩ w'∧
     ∃ω':Own,(∀b,b<w.heap.size→ωg b=.imm→ω' b=.imm)∧qhR w' ω'∧(∀(i:Nat) (pre post:List D) (y:Value),as[i]?=some (.ref pre post)→vs[i]?=some y→VarAt w' ω' i (bTok i) post y)∧RROk w' ω' r1 u:=by
    refine⟨v,hv1,v,rfl,⟨hrel.below.os,hrel.below.tape,hrel.below.output,hrel.below.size,hrel.below.block,hrel.below.drawn⟩,qb6 ω (ts++ts2) nw,fun b hb hg=>?_,fun b hb=>?_,?_,hv2⟩
    ·have:ω b=.imm:=by
      cases e:ω b with
      | imm=>rfl
      | box id=>
       rcases (hrel.owned b (by simp[e])).1 with h | h
       ·exact absurd hb (by have h:w.heap.size≤b:=h;omega)
       ·exact absurd hg h
      | tok t q=>
       rcases (hrel.owned b (by simp[e])).1 with h | h
       ·exact absurd hb (by have h:w.heap.size≤b:=h;omega)
       ·exact absurd hg h
     simp only[qb6,this]
    ·have:ω b≠.imm:=fun e=>hb (by simp only[qb6,e])
     exact (hrel.owned b this).2
    ·intro i pre post y hra hy
     obtain⟨ls,hint,ts',g1,g2,g3⟩:=(qkr hr2).2 i pre post hra
     rw[zv]at g1 g2
     have hi:i<49:=by
      have:=(zk.1 hra).1
      omega
     have hne:nw≠some (raId i):=fun e=>by have:=hnw _ e;simp only[raId]at this;omega
     obtain⟨b0,arr0,ty0,hb1,hb2,hb3,hb4⟩:=hrel.boxes _ ls g1
     obtain⟨y',hy',b1,_,_,hyp,_⟩:=hargs.2.2.2 i _ hra
     rw[hy]at hy'
     have:=zx hy'
     subst this
     have hpin:=hrel.pinned (raId i) b0 (by simp[raId]) hb1
     simp only[tauR]at hpin
     rw[zp (by simp[raId]),show raId i-giv=i by simp[raId],zl,hy,hyp]at hpin
     have hpin:b1=b0:=hpin
     subst hpin
     refine qnI hts ⟨b1,arr0,ty0,hb1,hb2,hb3,hb4⟩ g2 (fun y hy=>zJ _ (g3 y hy)) (fun b hb=>?_) (fun b hb=>?_) ⟨b1,hb1,hyp⟩
     ·simp only[qb6,hb]
      rw[zo hne,zp ⟨by simp[raId],by simp only[raId];omega⟩]
      simp[raId]
     ·simp only[qb6]at hb
      cases e:ω b with
      | imm=>rw[e]at hb;cases hb
      | tok t q=>rw[e]at hb;simp only at hb;split at hb<;>cases hb
      | box id'=>
       rw[e]at hb
       simp only at hb
       split at hb
       ·simp only[Owner.box.injEq]at hb;omega
       ·split at hb
        ·simp only[Owner.box.injEq]at hb
         simp only[raId,Owner.box.injEq]
         omega
        ·cases hb
   obtain⟨v,h6,h7⟩:=hR
   rcases he with rfl | rfl
   ·exact⟨hrel.defers,v,h6,h7⟩
   ·exact⟨hrel.defers,v,h6,h7⟩
  ·cases hres
 ·cases hres
def outR(P:Program)(c:Code)(ntmps:Nat)(rv:List ResultVar)(args:List RA)(hint:RR)(ans:List Ans):Option (RR×List RA×List Prop):=
 match run P c (initR args ntmps) ans with
 | some (.ret,st,_,obs)=>(endR P st rv args hint).map fun r=>(r.1,r.2,obs)
 | some (.normal,st,_,obs)=>(endR P st rv args hint).map fun r=>(r.1,r.2,obs)
 | _=>none
theorem RetR.of{P:Program}{f:FuncId}{fn:Func}{args:List RA}{r:RR}(ans:List Ans)(obs:List Prop)(hf:P.funcs[f]?=some fn)(hb:fn.body.isSome=true)
  (h:outR P (qcq fn) fn.ntmps fn.results.toList args r ans=some (r,args,obs)) (ho:Obs obs):RetR P f args r:=by
 obtain⟨c,hc⟩:=zaj.1 hb
 have hcode:qcq fn=c:=by simp[qcq,hc]
 unfold outR at h
 rw[hcode]at h
 split at h
 ·rename_i st a obs' hr
  rw[zc]at h
  obtain⟨⟨rs1,rs2⟩,h1,h⟩:=h
  simp only[zd]at h
  obtain⟨rfl,rfl,rfl⟩:=h
  exact qnJ hf hc hr ho (.inl rfl) h1
 ·rename_i st a obs' hr
  rw[zc]at h
  obtain⟨⟨rs1,rs2⟩,h1,h⟩:=h
  simp only[zd]at h
  obtain⟨rfl,rfl,rfl⟩:=h
  exact qnJ hf hc hr ho (.inr rfl) h1
 ·cases h
end Go.Sx
namespace Go.Sx
open Go.RowKit
inductive O where
 | p (x:Prop)
 | b (x y:Bool)
 | e (l:List (List D)) (i:Nat) (ds:List D)
 | r (f:Nat) (args rs:List AD)
 | l (nils:List (Nat×Nat×Nat)) (keep boxes:List Nat) (c:Code) (st:St) (e:Ex) (st':St)
 | a (x:Ans)
 | i (l:List (List D)) (n:Int) (ds:List D)
 | x (l:List (List D)) (n:Int) (ds:List D)
 | g (l m:List (List D)) (k:Nat)
 | u (n:Int)
 | v (n:Int)
 | f (l:List (List D)) (n:Int) (b:Bool)
 | h (l:List (List D))
 | n (x y:Bool)
def OB(P:Program):List O→Prop
 | []=>True
 | .p x::r=>x∧OB P r
 | .b x y::r=>x=y∧OB P r
 | .e l i ds::r=>l[i]?=some ds∧OB P r
 | .r f x y::r=>Ret P f x y∧OB P r
 | .l _ _ _ c st e st'::r=>qaj P c st e st'∧OB P r
 | .a _::r=>OB P r
 | .i l n ds::r=>decide (n<(l.length:Int))=true∧0≤n∧n<(l.length:Int)∧l[n.toNat]?=some ds∧OB P r
 | .x l n ds::r=>0≤n∧n<(l.length:Int)∧l[n.toNat]?=some ds∧OB P r
 | .g l m k::r=>(l.length+m.length)*k≤140737488355328∧l.length+m.length≤9223372036854775807∧OB P r
 | .u n::r=>inInt .i64 (n+1)∧OB P r
 | .v n::r=>inInt .i64 n∧OB P r
 | .f l n b::r=>decide (n<(l.length:Int))=b∧OB P r
 | .h l::r=>Flat l∧OB P r
 | .n x y::r=>(!x)=y∧OB P r
def props(P:Program):List O→List Prop
 | []=>[]
 | .p x::r=>x::props P r
 | .b x y::r=>(x=y)::props P r
 | .e l i ds::r=>(l[i]?=some ds)::props P r
 | .r f x y::r=>Ret P f x y::props P r
 | .l _ _ _ c st e st'::r=>qaj P c st e st'::props P r
 | .a _::r=>props P r
 | .i l n ds::r=>(decide (n<(l.length:Int))=true)::(0≤n)::(n<(l.length:Int))::(l[n.toNat]?=some ds)::props P r
 | .x l n ds::r=>(0≤n)::(n<(l.length:Int))::(l[n.toNat]?=some ds)::props P r
 | .g l m k::r=>((l.length+m.length)*k≤140737488355328)::(l.length+m.length≤9223372036854775807)::props P r
 | .u n::r=>inInt .i64 (n+1)::props P r
 | .v n::r=>inInt .i64 n::props P r
 | .f l n b::r=>(decide (n<(l.length:Int))=b)::props P r
 | .h l::r=>Flat l::props P r
 | .n x y::r=>((!x)=y)::props P r
def anss:List O→List Ans
 | []=>[]
 | .p _::r=>anss r
 | .b _ y::r=>.br y::anss r
 | .e _ _ ds::r=>.el ds::anss r
 | .r _ _ y::r=>.res y::anss r
 | .l n k b _ _ e st'::r=>.loop n k b e st'::anss r
 | .a x::r=>x::anss r
 | .i _ _ ds::r=>.br true::.el ds::anss r
 | .x _ _ ds::r=>.el ds::anss r
 | .g _ _ _::r=>anss r
 | .u _::r=>anss r
 | .v _::r=>anss r
 | .f _ _ b::r=>.br b::anss r
 | .h _::r=>anss r
 | .n _ y::r=>.br y::anss r
theorem OB.obs{P:Program}:∀{os:List O},OB P os→Obs (props P os)
 | [],_=>trivial
 | .p _::_,h=>⟨h.1,OB.obs h.2⟩
 | .b _ _::_,h=>⟨h.1,OB.obs h.2⟩
 | .e _ _ _::_,h=>⟨h.1,OB.obs h.2⟩
 | .r _ _ _::_,h=>⟨h.1,OB.obs h.2⟩
 | .l _ _ _ _ _ _ _::_,h=>⟨h.1,OB.obs h.2⟩
 | .a _::r,h=>OB.obs (os:=r) h
 | .i _ _ _::_,h=>⟨h.1,h.2.1,h.2.2.1,h.2.2.2.1,OB.obs h.2.2.2.2⟩
 | .x _ _ _::_,h=>⟨h.1,h.2.1,h.2.2.1,OB.obs h.2.2.2⟩
 | .g _ _ _::_,h=>⟨h.1,h.2.1,OB.obs h.2.2⟩
 | .u _::_,h=>⟨h.1,OB.obs h.2⟩
 | .v _::_,h=>⟨h.1,OB.obs h.2⟩
 | .f _ _ _::_,h=>⟨h.1,OB.obs h.2⟩
 | .h _::_,h=>⟨h.1,OB.obs h.2⟩
 | .n _ _::_,h=>⟨h.1,OB.obs h.2⟩
def outF{α:Type}(P:Program)(f:Nat)(g:Func→Option α):Option α:=P.funcs[f]?.bind fun fn=>if fn.body.isSome then g fn else none
theorem ql6{α:Type}{P:Program}{f:Nat}{g:Func→Option α}{x:α}(h:outF P f g=some x):∃fn,P.funcs[f]?=some fn∧fn.body.isSome=true∧g fn=some x:=by
 unfold outF at h
 rw[zah]at h
 obtain⟨fn,h1,h2⟩:=h
 split at h2
 ·exact⟨fn,h1,‹_›,h2⟩
 ·cases h2
theorem OB.of{P:Program}{os:List O}{f:Nat}{args rs:List AD}(h:OB P os)(k:(outF P f fun fn=>outc P (qcq fn) fn.ntmps fn.results.toList args rs (anss os))=some (rs,props P os):=by kernel_rfl):Ret P f args rs:=by
 obtain⟨fn,h1,h2,h3⟩:=ql6 k
 exact Ret.of _ _ h1 h2 h3 h.obs
theorem OB.ofG{P:Program}{os:List O}{f:Nat}{args:List GA}{rs:List AD}(h:OB P os)(k:(outF P f fun fn=>outG P (qcq fn) fn.ntmps fn.results.toList args rs (anss os))=some (rs,args,props P os):=by kernel_rfl):RetG P f args rs:=by
 obtain⟨fn,h1,h2,h3⟩:=ql6 k
 exact RetG.of _ _ h1 h2 h3 h.obs
theorem OB.ofR{P:Program}{os:List O}{f:Nat}{args:List RA}{r:RR}(h:OB P os)(k:(outF P f fun fn=>outR P (qcq fn) fn.ntmps fn.results.toList args r (anss os))=some (r,args,props P os):=by kernel_rfl):RetR P f args r:=by
 obtain⟨fn,h1,h2,h3⟩:=ql6 k
 exact RetR.of _ _ h1 h2 h3 h.obs
theorem OB.lp{P:Program}{os:List O}{c:Code}{st st':St}{e:Ex}(ks bs:List Nat)(h:OB P os)(k:loopc P c st (anss os) ks bs=some (e,st',props P os):=by kernel_rfl):Tr P c st e st':=Tr.of_loopc k h.obs
theorem OB.lr{P:Program}{os:List O}{c:Code}{st st':St}{e:Ex}(ns:List (Nat×Nat×Nat))(ks bs:List Nat)(h:OB P os)(k:loopr P c st (anss os) ns ks bs=some (e,st',props P os):=by kernel_rfl):Tr P c st e st':=Tr.of_loopr k h.obs
abbrev LL:=List (List D)
abbrev cl(a:LL)(b c:Int)(d e f g:LL):List D:=[.sl 4 a,I b,I c,.sl 8 d,.sl 6 e,.sl 5 f,.sl 3 g]
abbrev wk(a b c d e f g h:LL):List D:=[.sl 5 a,.sl 5 b,.sl 5 c,.sl 4 d,.sl 1 e,.sl 1 f,.sl 1 g,.sl 2 h]
abbrev lk(a:Int)(b:LL)(c d e f:Int):List D:=[I a,.sl 5 b,I c,I d,I e,I f]
abbrev ri(a b c d e:Int):List D:=[I a,I b,I c,I d,I e]
abbrev nd(a b c:Int)(d:LL):List D:=[I a,I b,I c,.sl 1 d]
abbrev gr(a:LL)(b c:Int):List D:=[.sl 4 a,I b,I c]
abbrev sn:Value:=.slice none 0 0
abbrev vI(n:Int):PV:=.al (.one (.v (.int .i64 n)))
abbrev vF(k:Nat)(l:LL):PV:=.al (.one (.sl .free k l))
abbrev lI(n:Int):Leaf:=.v (.int .i64 n)
abbrev vP(k:Nat):PV:=.al (.one (.ptr k 0))
abbrev lO(t k:Nat)(l:LL):Leaf:=.sl (.own t) k l
abbrev cI(x:Int):AD:=.one (I x)
abbrev cB(x:Bool):AD:=.one (B x)
abbrev cS(k:Nat)(l:LL):AD:=.one (.sl k l)
end Go.Sx
