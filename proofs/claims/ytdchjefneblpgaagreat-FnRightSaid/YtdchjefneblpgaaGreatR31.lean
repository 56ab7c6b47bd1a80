import Derived.Test.YtdchjefneblpgaaGreatR11
set_option linter.unusedVariables false
set_option linter.unusedSimpArgs false
namespace Go.Sx
open Go.RowKit
inductive a7 where
 | ro (a:cL)
 | jv (pn:List Bool) (pre post:List D)
 | fn (g:FuncId) (cS:List Nat)
abbrev a7.ref (pre post : List D) : a7 := .jv [] pre post
abbrev a7.cur(pre post:List D):a7:=.jv [true,false,false] pre post
def stays(pn:List Bool)(j:Nat):Bool:=pn.getD j false
def jn(w:World)(y:Value)(j:Nat):Value:=
 match y with
 | .pointer (some p)=>match w.heap[p.block]? with | some (.cells arr _ _)=>arr.getD j undef | _=>undef
 | _=>undef
def r'(i j:Nat):Nat:=900000000+(100*i+j)
def h8(i j:Nat):Nat:=5000+(100*i+j)
def w7(w:World)(ω:Own)(i:Nat)(pn:List Bool)(f:Nat->Nat)(ds:List D)(y:Value):Prop:=
 ∃b arr ty,y=ptrTo b/\ω b=.box i/\(∀dA,ω dA=.box i->dA=b)/\w.heap[b]?=some (.cells arr ty (0,0))/\arr.size=ds.length/\∀(j:Nat) (d:D),ds[j]?=some d->∃u,arr[j]?=some u/\(stays pn j=false->bZ w ω (Tag.own (f j)).R d u)
def ab4(w:World)(ω:Own)(i:Nat):a7->Value->Prop
 | .ro (.one d),y=>bZ w ω Tag.free.R d y
 | .ro (.agg ds),y=>∃vs:Array Value,y=.agg vs/\vs.size=ds.length/\∀(j:Nat) (d:D),ds[j]?=some d->∃u,vs[j]?=some u/\bZ w ω Tag.free.R d u
 | .jv pn pre _,y=>w7 w ω i pn (r' i) pre y/\∀(j:Nat) (d:D),pre[j]?=some d->stays pn j=true->bZ w ω Tag.free.R d (jn w y j)
 | .fn _ _,_=>True
def a7.bl:a7->Nat
 | .fn _ cS=>cS.length
 | _=>0
def uU(args:List a7):Nat:=args.length-(args.map a7.bl).sum
def JC(args:List a7)(vs:Array Value):Prop:=∀(i:Nat) (g:FuncId) (cS:List Nat),args[i]?=some (.fn g cS)->vs[i]?=some (.func (.func g) #[] (cS.map fun k=>vs.getD k undef).toArray)
def HF(w:World)(ω:Own):Prop:=∀b,ω b≠.bJ->∃arr ty,w.heap[b]?=some (.cells arr ty (0,0))
def JH(w:World)(ω:Own)(args:List a7)(vs:Array Value):Prop:=HF w ω/\(∀b i,ω b=.box i->∃pn pre post,args[i]?=some (.jv pn pre post))/\vs.size=args.length/\∀(i:Nat) (iy:a7),args[i]?=some iy->∃v,vs[i]?=some v/\ab4 w ω i iy v
def yS(src:List (Option Nat)):List Bool:=src.map Option.isSome
def Fc(w:World)(ω:Own)(vs:Array Value):bi->Value->Prop
 | .vals rs,v=>n0 w ω rs v
 | .iZ src ds,v=>w7 w ω 49 (yS src) (h8 49) ds v/\∀(j i:Nat),src[j]?=some (some i)->vs[i]?=some (jn w v j)
def cH(P:Program)(f:FuncId)(args:List a7)(r:bi):Prop:=
 ∀(w:World) (vs:Array Value) (ω:Own),JH w ω args vs->JC args vs->Tidy w ω->Calls P f (vs.extract 0 (uU args)) w fun e aM=>∃v,e=.returned v/\ho ⟨w,fun b=>ω b≠.bJ,fun _=>(0,undef)⟩ aM/\
  ∃bc:Own,(∀b,b<w.heap.size->ω b=.bJ->bc b=.bJ)/\HF aM bc/\(∀(i:Nat) (pn:List Bool) (pre post:List D) (y:Value),args[i]?=some (.jv pn pre post)->vs[i]?=some y->w7 aM bc i pn (h8 i) post y/\∀j,stays pn j=true->jn aM y j=jn w y j)/\Fc aM bc vs r v
abbrev aB4:=List (Nat×Nat)
def look(t:Nat):List (Nat×Nat)->Option Nat
 | []=>none
 | (s,n)::r=>if s=t then some n else look t r
def Nr(ts:List (Nat×Nat)):Bool:=ts.all fun x=>ts.all fun y=>(x.1==y.1)==(x.2==y.2)
variable{ts:List (Nat×Nat)}
theorem TT{t n:Nat}(h:Nr ts=true)(hm:(t,n)∈ts):look t ts=some n:=by
 have key:∀l:List (Nat×Nat),(∀x∈l,x∈ts)->(t,n)∈l->look t l=some n:=by
  intro l;induction l with
  | nil=>grind
  | cons x l dL=>
   intro ai hm;obtain⟨s,m⟩:=x;simp only[look];split
   ·rename_i e;subst e;have h1:=gP.1 (gP.1 h _ (ai _ fN)) _ (by exact ‹(s,n)∈ts›);grind
   grind
 grind
theorem awv{t n:Nat}(h:look t ts=some n):(t,n)∈ts:=by
 induction ts with
 | nil=>cases h
 | cons x l dL=>
  grind[look,gX,fN,ff]
def hT(bs ts:List (Nat×Nat)):dp->dp
 | .bJ=>.bJ
 | .box id=>match look id bs with | some i=>.box i | none=>.bJ
 | .tok t q=>match look t ts with | some n=>.tok n q | none=>.bJ
def Tag.qB(ts:List (Nat×Nat)):Tag->Bool
 | .free=>false
 | .own t=>(look t ts).isSome
 | .ro t=>(look t ts).isSome
def uq:Option Nat->Nat->Bool
 | none=>fun _=>true
 | some d=>kD d
def C1(ts:List (Nat×Nat))(t0:Nat)(g:Tag):Option Tag:=if g.qB ts then none else hd t0 g
abbrev yO(ts:List (Nat×Nat))(t0:Nat)(c0:Option Nat)(l:aG):aG:=l.cG (C1 ts t0) (uq c0)
structure j5 where
 i:Nat
 id:Nat
 post:List D
 eU:List (Option aG)
def mj(cS:List (Option aG)):List Bool:=cS.map Option.isSome
def mi:List (Option aG)->List aG->List aG
 | [],ls=>ls
 | _,[]=>[]
 | some l::cS,_::ls=>l::mi cS ls
 | none::cS,l::ls=>l::mi cS ls
theorem HG:∀(cS:List (Option aG)) (ls:List aG),(mi cS ls).length=ls.length
 | [],ls=>rfl
 | _::_,[]=>by simp[mi]
 | some l::cS,_::ls=>by simp[mi,HG cS ls]
 | none::cS,_::ls=>by simp[mi,HG cS ls]
theorem Ns:∀(cS:List (Option aG)) (ls:List aG) (j:Nat) (l:aG),(mi cS ls)[j]?=some l->(cS[j]?=some (some l)/\stays (mj cS) j=true)\/(ls[j]?=some l/\stays (mj cS) j=false)
 | [],ls,j,l,h=>.inr ⟨h,by simp[stays,mj]⟩
 | _::_,[],j,l,h=>by grind[mi]
 | some k::cS,x::ls,0,l,h=>by simp only[mi,mV,aX]at h;subst h;exact .inl ⟨rfl,rfl⟩
 | none::cS,x::ls,0,l,h=>by simp only[mi,mV]at h;exact .inr ⟨h,rfl⟩
 | some k::cS,x::ls,j+1,l,h=>by
  have:=Ns cS ls j l (by simpa[mi]using h);simpa[stays,mj]using this
 | none::cS,x::ls,j+1,l,h=>by
  have:=Ns cS ls j l (by simpa[mi]using h);simpa[stays,mj]using this
def ym(t0:Nat):List j5->List (Nat×List aG)->List (Nat×List aG)
 | [],bs=>bs
 | r::rs,bs=>ym t0 rs (rR r.id (mi r.eU (oP (t0+h8 r.i 0) 0 r.post)) bs)
def TU(t0:Nat)(c0:Option Nat)(nk:List (Option aG))(ds:List D)(bs:List (Nat×List aG)):List (Nat×List aG):=
 match c0 with
 | some d=>(d,mi nk (oP (t0+h8 49 0) 0 ds))::qM d bs
 | none=>bs
def aD.yP(st:aD)(ts:List (Nat×Nat))(t0:Nat)(refs:List j5)(c0:Option Nat)(nk:List (Option aG))(ds:List D):aD:=
 ⟨st.env.map (aH.map (yO ts t0 c0)),TU t0 c0 nk ds (ym t0 refs (st.boxes.map fun x=>(x.1,x.2.map (yO ts t0 c0))))⟩
def qC(t0:Nat)(c0:Option Nat):dp->dp
 | .tok s q=>if t0<=s/\s<t0+10000 then .bJ else .tok s q
 | .box id=>if uq c0 id then .box id else .bJ
 | .bJ=>.bJ
def qx(i:Nat)(c0:Option Nat):List j5->Option Nat
 | []=>if i=49 then c0 else none
 | r::rs=>if r.i=i then some r.id else qx i c0 rs
def oq(t0:Nat)(refs:List j5)(c0:Option Nat):dp->dp
 | .tok s q=>if s<10000 then .tok (t0+s) q else .bJ
 | .box i=>match qx i c0 refs with | some id=>.box id | none=>.bJ
 | .bJ=>.bJ
def D.uY:D->Nat
 | .J k _=>k
 | _=>0
def yn(i:Nat)(ds:List D):List j5->List D
 | []=>ds
 | r::rs=>if r.i=i then r.post else yn i ds rs
def lV(refs:List j5):List (Nat×Nat):=refs.map fun r=>(r.id,r.i)
def AK:List j5->Option Nat->Bool
 | [],_=>true
 | x::r,c0=>decide (x.i<49)&&decide (x.post.length<100)&&decide (c0≠some x.id)&&r.all (fun y=>x.i != y.i&&x.id != y.id)&&AK r c0
variable{id:Nat}
theorem Nt{t0:Nat}:∀{refs:List j5} {bs:List (Nat×List aG)},(∀r∈refs,r.id≠id)->dI id (ym t0 refs bs)=dI id bs
 | [],bs,_=>rfl
 | r::rs,bs,h=>by
  simp_all[ym,Nt,ff,AG,Ne.symm,fN]
theorem aww{iV:Nat}{ls:List aG}:∀{bs:List (Nat×List aG)},(dI id bs).isSome=true->(dI id (rR iV ls bs)).isSome=true:=by
 intro bs h;by_cases e:id=iV
 ·subst e;obtain⟨x,aa⟩:=sh.1 h;rw[AF aa];rfl
 grind[AG]
theorem TV{t0:Nat}:∀{refs:List j5} {bs:List (Nat×List aG)} {r:j5},r∈refs->(∀x∈refs,x.id=r.id->x=r)->(dI r.id bs).isSome=true->dI r.id (ym t0 refs bs)=some (mi r.eU (oP (t0+h8 r.i 0) 0 r.post))
 | [],_,_,h,_,_=>by cases h
 | x::rs,bs,r,h,hu,ai=>by
  simp only[ym];by_cases hm:r∈rs
  ·exact TV hm (fun y bk=>hu y (ff _ bk)) (aww ai)
  rcases dQ.1 h with e | h
  ·subst e;obtain⟨l,aj⟩:=sh.1 ai;grind[Nt,AF,ff]
  grind
variable{c0:Option Nat}
theorem uD:∀{refs:List j5},AK refs c0=true->∀{x:j5},x∈refs->x.i<49/\x.post.length<100/\c0≠some x.id/\∀y∈refs,(y.i=x.i->y=x)/\(y.id=x.id->y=x)
 | [],_,x,aa=>by cases aa
 | z::r,h,x,aa=>by
  simp only[AK,b9,cc,gP,bne_iff_ne,lc]at h;obtain⟨⟨⟨⟨h1,U⟩,aA⟩,aI⟩,a'⟩:=h;rcases dQ.1 aa with e | hF
  ·subst e;refine⟨h1,U,aA,fun y bk=>?_⟩;rcases dQ.1 bk with e | bk
   ·exact⟨fun _=>e,fun _=>e⟩
   exact⟨fun e=>absurd e.symm (aI y bk).1,fun e=>absurd e.symm (aI y bk).2⟩
  obtain⟨b8,bt,eL,k4⟩:=uD a' hF;refine⟨b8,bt,eL,fun y bk=>?_⟩;rcases dQ.1 bk with e | bk
  ·subst e;exact⟨fun e=>absurd e (aI x hF).1,fun e=>absurd e (aI x hF).2⟩
  exact k4 y bk
theorem Nu:∀{refs:List j5} {r:j5},r∈refs->(∀y∈refs,y.i=r.i->y.id=r.id)->qx r.i c0 refs=some r.id
 | [],_,h,_=>by cases h
 | x::rs,r,h,hu=>by
  simp only[qx];split
  ·grind
  rename_i e;rcases dQ.1 h with e1 | h
  ·grind
  exact Nu h fun y bk=>hu y (ff _ bk)
theorem AL{i:Nat}:∀{refs:List j5},qx i c0 refs=some id->(∃r∈refs,r.i=i/\r.id=id)\/(i=49/\c0=some id)
 | [],h=>by
  grind[qx]
 | x::rs,h=>by
  simp only[qx]at h;split at h
  ·rename_i e;exact .inl ⟨x,fN,e,gX h⟩
  rcases AL h with⟨r,aB,h1⟩ | h1
  ·exact .inl ⟨r,ff _ aB,h1⟩
  exact .inr h1
theorem MC:∀{refs:List j5},(∀r∈refs,r.i<49)->qx 49 c0 refs=c0
 | [],_=>by simp[qx]
 | x::rs,h=>by
  simp only[qx];rw[bq (by grind)];exact MC fun r aB=>h r (ff _ aB)
theorem TW{ds:List D}:∀{refs:List j5} {r:j5},r∈refs->(∀y∈refs,y.i=r.i->y=r)->yn r.i ds refs=r.post
 | [],_,h,_=>by cases h
 | x::rs,r,h,hu=>by
  simp only[yn];split
  ·grind
  rename_i e;rcases dQ.1 h with e1 | h
  ·grind
  exact TW h fun y bk=>hu y (ff _ bk)
theorem MD{ds:List D}:∀{refs:List j5},(∀r∈refs,r.i<49)->yn 49 ds refs=ds
 | [],_=>rfl
 | x::rs,h=>by
  simp only[yn];rw[bq (by grind)];exact MD fun r aB=>h r (ff _ aB)
variable{refs:List j5}
theorem TX(h:AK refs c0=true){r:j5}(aB:r∈refs):look r.id (lV refs)=some r.i:=by
 refine TT ?_ (fV.2 ⟨r,aB,rfl⟩);unfold Nr;rw[gP];intro x aa;rw[gP];intro y bk;obtain⟨rx,KY,rfl⟩:=fV.1 aa;obtain⟨aBi,aea,rfl⟩:=fV.1 bk;have:=(uD h KY).2.2.2 aBi aea;grind
theorem HH{i:Nat}(h:look id (lV refs)=some i):∃r∈refs,r.id=id/\r.i=i:=by
 obtain⟨r,aB,e⟩:=fV.1 (awv h);grind
def ME(rs:List cL):Bool:=decide (rs.length<50)&&rs.all fun | .one _=>true | .agg ds=>ds.length<100
def bi.fits(c0:Option Nat)(pD:List D):bi->Prop
 | .vals rs=>c0=none/\ME rs=true
 | .iZ _ ds=>c0.isSome=true/\pD=ds/\ds.length<100
def bi.ev(v:Value)(n:Nat):bi->Nat×Value
 | .vals rs=>(rp rs n,oE rs v n)
 | .iZ _ _=>(0,undef)
def bi.pF(t0:Nat)(c0:Option Nat):bi->aH
 | .vals rs=>uV t0 rs
 | .iZ _ _=>.one (.ptr (c0.getD 0) 0)
theorem cD.ach{w0:eN}{st:aD}{a:Act}{w aM:World}{ω:Own}{τ:Nat->Nat×Value}(aZ:cD w0 st a w ω τ)(t0:Nat){nk:List (Option aG)}{pD:List D}{ii:bi}{v:Value}{vs:Array Value}{ys:Nat->Value}{H:Nat->Nat×Value}
  (bI:AK refs c0=true) (jM:t0+10000<=dj) (aq:ho ⟨w,fun b=>hT (lV refs) ts (ω b)≠.bJ,H⟩ aM) (fx:Own)
  (lp:∀b,b<w.heap.size->hT (lV refs) ts (ω b)=.bJ->fx b=.bJ) (lL:HF aM fx)
  (hrefs:∀r∈refs,w7 aM fx r.i (mj r.eU) (h8 r.i) r.post (ys r.i)/\(∃b,ys r.i=ptrTo b/\ω b=.box r.id)/\(dI r.id st.boxes).isSome=true) (fi:Fc aM fx vs ii v) (F5:ii.fits c0 pD) (vy:∀d,c0=some d->d<dj)
  (KH:∀r∈refs,∀(j:Nat) (l:aG),r.eU[j]?=some (some l)->yO ts t0 c0 l=l/\Sat w ω τ l (jn aM (ys r.i) j)) (Ch:∀(j:Nat) (l:aG),nk[j]?=some (some l)->yO ts t0 c0 l=l/\Sat w ω τ l (jn aM v j))
  (Sr:∀src ds,ii=.iZ src ds->yS src=mj nk):
  ∃bc cZ,cD w0 (st.yP ts t0 refs c0 nk pD) a aM bc cZ/\cT (Sat aM bc cZ) (ii.pF t0 c0) v:=by
 classical
 let bc:Own:=fun b=>if b<w.heap.size/\hT (lV refs) ts (ω b)=.bJ then qC t0 c0 (ω b) else oq t0 refs c0 (fx b)
 let aF:Nat->Nat×Value:=fun n=>if n<5000 then ii.ev v n else
  ((((yn ((n-5000) / 100) pD refs)[(n-5000) % 100]?).map D.uY).getD 0,jn aM (if (n-5000) / 100=49 then v else ys ((n-5000) / 100)) ((n-5000) % 100))
 let cZ:Nat->Nat×Value:=fun s=>if t0<=s/\s<t0+10000 then aF (s-t0) else τ s
 have Cc:∀r∈refs,r.i<49:=fun r aB=>(uD bI aB).1
 have hold:∀b,b<w.heap.size->hT (lV refs) ts (ω b)=.bJ->bc b=qC t0 c0 (ω b):=fun b h1 U=>by grind
 have hx:∀b,fx b≠.bJ->bc b=oq t0 refs c0 (fx b):=fun b h=>by
  grind
 have hblk:∀b,b<w.heap.size->hT (lV refs) ts (ω b)=.bJ->aM.heap[b]?=w.heap[b]?:=fun b h1 U=>aq.block b h1 (fun aP=>aP U)
 have F9:∀r∈refs,∀b,ω b=.box r.id->fx b=.box r.i/\ys r.i=ptrTo b:=by
  intro r aB b dk;obtain⟨⟨eO,arr,ty,h1,U,_⟩,⟨fo,aA,aI⟩,a'⟩:=hrefs r aB;obtain⟨ls,xn⟩:=sh.1 a';obtain⟨l7,_,_,_,hu,_⟩:=aZ.boxes r.id ls xn;have e1:=hu b dk;have e2:=hu fo aI;have cx:fo=b:=by rw[e1,e2]
  subst cx;rw[aA]at h1;simp only[ptrTo,Value.pointer.injEq,aX,Addr.mk.injEq]at h1;grind
 have zK:∀id b,uq c0 id=true->ω b=.box id->bc b=.box id:=by
  intro id b hp dk;have bM:=aZ.owned.lt (b:=b) (by simp[dk]);cases e:look id (lV refs) with
  | none=>
   simp_all[hT,lV,qC,fU]
  | some i=>
   obtain⟨r,aB,rfl,rfl⟩:=HH e;grind[oq,Nu,uD]
 have bp:mY w ω τ aM bc cZ (C1 ts t0) (uq c0):=by
  refine⟨?_,?_,fun id b hp h=>zK id b hp h,?_,fun s ai=>by simp only[cZ];rw[bq (by omega)]⟩
  ·intro g ek b q ar bM aC;unfold C1 at ar;split at ar
   ·cases ar
   rename_i hm;simp only[wX]at hm;have hi:hT (lV refs) ts (ω b)=.bJ:=by
    cases g with
    | free=>simp only[Tag.R]at aC;rw[aC];rfl
    | own s=>
     grind[Tag.R,Tag.qB,Jv,Jw,hT]
    | ro s=>
     simp only[Tag.qB,Jv,Jw]at hm;rcases aC with h | ⟨ee,h⟩
     ·rw[h];rfl
     grind[hT]
   refine⟨?_,hblk b bM hi⟩;rw[hold b bM hi];cases g with
   | free=>simp only[hd,aX]at ar;subst ar;simp only[Tag.R]at aC ⊢;rw[aC];rfl
   | own s=>
    simp only[Tag.R]at aC;simp only[hd]at ar;rw[aC];simp only[qC];split at ar
    ·simp only[aX]at ar;subst ar;rw[bh ‹_›];rfl
    simp only[aX]at ar;subst ar;rw[bq ‹_›];rfl
   | ro s=>
    simp only[Tag.R]at aC;simp only[hd]at ar;split at ar
    ·simp only[aX]at ar;subst ar;rcases aC with h | ⟨ee,h⟩
     ·rw[h];rfl
     rw[h];simp only[qC];rw[bh ‹_›];rfl
    simp only[aX]at ar;subst ar;rcases aC with h | ⟨ee,h⟩
    ·rw[h];exact .inl rfl
    rw[h];simp only[qC];rw[bq ‹_›];exact .inr ⟨ee,rfl⟩
  ·intro g ek y ar bk;unfold C1 at ar;split at ar
   ·cases ar
   cases g with
   | free=>simp only[hd,aX]at ar;subst ar;exact trivial
   | own s=>
    simp only[hd]at ar;split at ar
    ·simp only[aX]at ar;subst ar;exact trivial
    simp only[aX]at ar;subst ar;simp only[Tag.ev,cZ]at bk ⊢;simp_all[bq]
   | ro s=>
    simp only[hd]at ar;split at ar
    ·simp only[aX]at ar;subst ar;exact trivial
    simp only[aX]at ar;subst ar;exact trivial
  rfl
 have cell:∀(n:Nat) (d:D) (u:Value),n<10000->aF n=(d.uY,u)->bZ aM fx (Tag.own n).R d u->Sat aM bc cZ (d.qO (t0+n)) u:=by
  intro n d u aP bD aB;cases d with
  | v x=>
   have e:u=x:=by cases aB;rfl
   subst e;unfold D.qO;split
   ·rename_i h;cases h;exact rfl
   ·rename_i h;cases h;exact rfl
   ·grind
   ·exact trivial
   grind
  | ptr ds=>exact trivial
  | cl g bl=>exact trivial
  | J k es=>
   refine⟨aB.frame fun b q bM aC=>⟨?_,rfl⟩,?_⟩
   ·simp_all[Tag.R,oq,bh]
   simp only[Tag.ev,cZ];rw[bh (by omega),show t0+n-t0=n by omega,bD];rfl
 have var:∀(i:Nat) (post:List D) (y:Value) (id:Nat) (cS:List (Option aG)),i<50->post.length<100->yn i pD refs=post->(if i=49 then v else ys i)=y->w7 aM fx i (mj cS) (h8 i) post y->qx i c0 refs=some id->(∀(j:Nat) (l:aG),cS[j]?=some (some l)->yO ts t0 c0 l=l/\Sat w ω τ l (jn aM y j))->
   (∀dA fW,qx fW c0 refs=some id->fx dA=.box fW->fW=i)->(∀dA,ω dA=.box id->uq c0 id=true->¬hT (lV refs) ts (ω dA)=.bJ)->vb aM bc cZ id (mi cS (oP (t0+h8 i 0) 0 post))/\∃b,y=ptrTo b/\bc b=.box id:=by
  rintro i post y id cS hi F1 ad4 bk ⟨b,arr,ty,rfl,U,aA,aI,a',bu⟩ hD adH aC5 iU;have er:bc b=.box id:=by
   grind[oq]
  refine⟨⟨b,arr,ty,er,fun dA dk=>?_,aI,by grind[HG,AI],fun j l aj=>?_⟩,b,rfl,er⟩
  ·by_cases al:dA<w.heap.size/\hT (lV refs) ts (ω dA)=.bJ
   ·rw[hold dA al.1 al.2]at dk;cases e:ω dA with
    | bJ=>rw[e]at dk;cases dk
    | tok s q=>grind[qC]
    | box iV=>
     grind[qC,dp.box.injEq,absurd]
   have oD:oq t0 refs c0 (fx dA)=.box id:=by
    grind
   cases e:fx dA with
   | bJ=>rw[e]at oD;cases oD
   | tok s q=>grind[oq]
   | box fW=>
    grind[oq,dp.box.injEq]
  have kY:j<(mi cS (oP (t0+h8 i 0) 0 post)).length:=(gh.1 aj).1;rw[HG,AI]at kY;rcases Ns cS _ j l aj with⟨aj,_⟩ | ⟨aj,KM⟩
  ·obtain⟨u,hu,_⟩:=bu j _ (jA kY);obtain⟨g1,g2⟩:=adH j l aj;refine⟨u,hu,?_⟩;have e:jn aM (ptrTo b) j=u:=by simp[jn,ptrTo,aI,eW,hu]
   rw[e]at g2;have:=bp.sat l u g2;grind
  rw[Dt,b5]at aj;obtain⟨d,eK,rfl⟩:=aj;obtain⟨u,hu,aB⟩:=bu j d eK;replace aB:=aB KM;have a8:j<100:=by
   grind
  refine⟨u,hu,?_⟩;have:=cell (h8 i j) d u (by grind[h8]) (by
   have e1:(h8 i j-5000) / 100=i:=by grind[h8]
   have e2:(h8 i j-5000) % 100=j:=by grind[h8]
   simp only[aF];rw[bq (by grind[h8]),e1,e2,ad4,eK,bk];simp[jn,ptrTo,aI,eW,hu]) aB
  rw[show t0+h8 i 0+(0+j)=t0+h8 i j by grind[h8]];exact this
 have aDm:∀r∈refs,vb aM bc cZ r.id (mi r.eU (oP (t0+h8 r.i 0) 0 r.post)):=by
  intro r aB;obtain⟨h1,U,aA,aI⟩:=uD bI aB;refine (var r.i r.post (ys r.i) r.id r.eU (by omega) U (TW aB fun y bk e=>(aI y bk).1 e) (by grind) (hrefs r aB).1 (Nu aB fun y bk e=>by grind) (KH r aB) (fun dA fW e _=>?_) (fun dA e _=>?_)).1
  ·grind[AL,absurd]
  grind[hT,TX]
 have tZ:∀id ls,dI id (st.yP ts t0 refs c0 nk pD).boxes=some ls->vb aM bc cZ id ls:=by
  intro id ls aj;have rest:∀id ls,c0≠some id->dI id (ym t0 refs (st.boxes.map fun x=>(x.1,x.2.map (yO ts t0 c0))))=some ls->vb aM bc cZ id ls:=by
   intro id ls pq aj;by_cases aB:∃r∈refs,r.id=id
   ·obtain⟨r,aB,rfl⟩:=aB;rw[TV aB (fun y bk e=>((uD bI aB).2.2.2 y bk).2 e) (by
     rw[uM];grind)]at aj
    grind
   have eX:∀r∈refs,r.id≠id:=fun r h1 U=>aB ⟨r,h1,U⟩
   rw[Nt eX,uM,b5]at aj;obtain⟨kh,bE,rfl⟩:=aj;obtain⟨b,arr,ty,h1,U,aA,aI⟩:=aZ.boxes id kh bE;have hp:uq c0 id=true:=by
    unfold uq;split
    ·rfl
    simp only[kD,cc];grind
   have bM:=aZ.owned.lt (b:=b) (by simp[h1]);have oI:look id (lV refs)=none:=by
    cases e:look id (lV refs) with
    | none=>rfl
    | some i=>
     grind[HH,absurd]
   have hi:hT (lV refs) ts (ω b)=.bJ:=by grind[hT]
   refine⟨b,arr,ty,zK id b hp h1,fun dA dk=>?_,(hblk b bM hi).trans aA,aI.map bp.sat⟩;by_cases al:dA<w.heap.size/\hT (lV refs) ts (ω dA)=.bJ
   ·rw[hold dA al.1 al.2]at dk;cases e:ω dA with
    | bJ=>rw[e]at dk;cases dk
    | tok s q=>grind[qC]
    | box iV=>
     grind[qC,dp.box.injEq]
   have oD:oq t0 refs c0 (fx dA)=.box id:=by
    grind
   cases e:fx dA with
   | bJ=>rw[e]at oD;cases oD
   | tok s q=>grind[oq]
   | box fW=>
    grind[oq,dp.box.injEq,AL,absurd]
  simp only[aD.yP,TU]at aj;cases c0 with
  | none=>grind
  | some d=>
   simp only[dI]at aj;by_cases aF:d=id
   ·subst aF;rw[bh rfl]at aj;rw[<-gX aj];cases ii with
    | vals rs=>exact absurd F5.1 (by simp)
    | iZ src ds=>
     obtain⟨_,rfl,hlen⟩:=F5;obtain⟨fi,_⟩:=fi;rw[Sr _ _ rfl]at fi;refine (var 49 pD v d nk (by omega) hlen (MD Cc) (bh rfl) fi (MC Cc) Ch (fun dA fW e _=>?_) (fun dA _ e=>?_)).1
     ·grind[AL,absurd,uD]
     simp[uq,kD]at e
   rw[bq aF,Az (fun e=>aF e.symm)]at aj;grind
 refine⟨bc,cZ,⟨aZ.defers,by simp[aD.yP,aZ.size],?_,?_,fun s ai=>?_,fun id b hi dk=>?_,?_,tZ⟩,?_⟩
 ·refine⟨aq.os.trans aZ.below.os,aq.tape.trans aZ.below.tape,aq.output.trans aZ.below.output,mW aZ.below.size aq.size,fun b bM ar=>?_,fun ai=>mW (aZ.below.drawn ai) (aq.drawn ai),aq.laid,aZ.below.free⟩;have kx:b<w.heap.size:=Bt bM aZ.below.size;have rr:ω b=.bJ:=by
   cases e:ω b with
   | bJ=>rfl
   | box id=>exact absurd (aZ.owned b (by simp[e])).1 (fun h=>h.elim (fun h=>by omega) ar)
   | tok s q=>exact absurd (aZ.owned b (by simp[e])).1 (fun h=>h.elim (fun h=>by omega) ar)
  exact (hblk b kx (by rw[rr];rfl)).trans (aZ.below.block b bM ar)
 ·intro b gu;by_cases al:b<w.heap.size/\hT (lV refs) ts (ω b)=.bJ
  ·rw[hold b al.1 al.2]at gu;have U:ω b≠.bJ:=fun e=>by rw[e]at gu;exact gu rfl
   obtain⟨aA,arr,ty,aI⟩:=aZ.owned b U;grind
  have U:fx b≠.bJ:=fun e=>by
   simp only[bc]at gu;rw[bq al,e]at gu;exact gu rfl
  obtain⟨arr,ty,aI⟩:=lL b U;refine⟨?_,arr,ty,aI⟩;by_cases bM:b<w.heap.size
  ·have a':ω b≠.bJ:=fun e=>al ⟨bM,by rw[e];rfl⟩
   exact (aZ.owned b a').1
  exact .inl (by have:=aZ.below.size;omega)
 ·have:cZ s=τ s:=by simp only[cZ];rw[bq (by omega)]
  rw[this];exact aZ.fixed s ai
 ·by_cases al:b<w.heap.size/\hT (lV refs) ts (ω b)=.bJ
  ·rw[hold b al.1 al.2]at dk;cases e:ω b with
   | bJ=>rw[e]at dk;cases dk
   | tok s q=>grind[qC]
   | box iV=>
    rw[e]at dk;simp only[qC]at dk;split at dk
    ·simp only[dp.box.injEq]at dk;subst dk;exact aZ.pinned iV b hi e
    cases dk
  have oD:oq t0 refs c0 (fx b)=.box id:=by
   grind
  cases e:fx b with
  | bJ=>rw[e]at oD;cases oD
  | tok s q=>grind[oq]
  | box fW=>
   rw[e]at oD;simp only[oq]at oD;split at oD
   ·rename_i iV e2;simp only[dp.box.injEq]at oD;subst oD;rcases AL e2 with⟨r,a',rfl,rfl⟩ | ⟨_,bu⟩
    ·obtain⟨⟨eO,arr,ty,g1,g2,g3,_⟩,⟨fo,g4,g5⟩,_⟩:=hrefs r a';have cx:=g3 b e;rw[g4]at g1;simp only[ptrTo,Value.pointer.injEq,aX,Addr.mk.injEq]at g1;rw[cx,<-g1.1];exact aZ.pinned r.id fo hi g5
    grind
   cases oD
 ·intro i q aC;simp only[aD.yP]at aC;rw[eg,b5]at aC;obtain⟨gJ,bE,rfl⟩:=aC;obtain⟨u,h1,U⟩:=aZ.env i gJ bE;exact⟨u,h1,cT.map bp.sat U⟩
 cases ii with
 | iZ src ds=>
  obtain⟨pq,rfl,hlen⟩:=F5;obtain⟨d,rfl⟩:=sh.1 pq;obtain⟨fi,_⟩:=fi;rw[Sr _ _ rfl]at fi;obtain⟨b,h1,U⟩:=(var 49 pD v d nk (by omega) hlen (MD Cc) (bh rfl) fi (MC Cc) Ch (fun dA fW e _=>by
   grind[AL,absurd,uD]) (fun dA _ e=>by simp[uq,kD]at e)).2
  exact⟨b,U,h1⟩
 | vals rs=>
  obtain⟨rfl,eh⟩:=F5;simp only[ME,b9,cc]at eh;have e6:∀(r:Nat) (ct:cL),rs[r]?=some ct->∀ds,ct=.agg ds->ds.length<100:=by
   intro r ct aB ds e;have:=gP.1 eh.2 ct (f' aB);grind
  have vj:∀(r:Nat) (ct:cL) (y:Value),r<50->(∀ds,ct=.agg ds->ds.length<100)->rs[r]?=some ct->(∀j,j<100->oE rs v (100*r+j)=y.cells.getD j undef)->nz aM fx r ct y->ll (Sat aM bc cZ) (ct.res (t0+100*r)) y:=by
   intro r ct y aB e6 Cn bD nS;have hv:∀j,j<100->rp rs (100*r+j)=(match cL.cell j ct with | some (.J k _)=>k | _=>0):=by
    intro j a8;unfold rp;rw[show (100*r+j) / 100=r by omega,show (100*r+j) % 100=j by omega,Cn];rfl
   have SD:∀d:D,(match some d with | some (.J k _)=>k | _=>0)=d.uY:=fun d=>by cases d<;>rfl
   cases ct with
   | one d=>
    have h1:=nS.qD;have U:=bD 0 (by omega);rw[Dp h1]at U;have:=cell (100*r) d y (by omega) (by
     simp only[aF,bi.ev];rw[bh (by omega)];have aA:=hv 0 (by omega);rw[o7]at U aA;rw[aA,U];simp only[cL.cell,fU];rw[SD];rfl) nS
    exact this
   | agg ds=>
    obtain⟨vs,rfl,aP,a8⟩:=nS;refine⟨vs,rfl,by grind[AI],fun j l aj=>?_⟩;rw[Dt,b5]at aj;obtain⟨d,eK,rfl⟩:=aj;obtain⟨u,hu,Co⟩:=a8 j d eK;have kY:j<100:=by
     grind
    refine⟨u,hu,?_⟩;have:=cell (100*r+j) d u (by omega) (by
     simp only[aF,bi.ev];rw[bh (by omega),hv j kY,bD j kY];simp only[cL.cell,eK];rw[SD];simp[Value.cells,eW,hu]) Co
    grind
  show cT (Sat aM bc cZ) (uV t0 rs) v;cases rs with
  | nil=>
   obtain⟨vs,rfl,aP,_⟩:=fi;exact⟨vs,rfl,aP,fun i a ae=>by grind[rS]⟩
  | cons ct rest=>
   cases rest with
   | nil=>
    have:=vj 0 ct v (by omega) (e6 0 ct rfl) rfl (fun j a8=>by
     unfold oE;grind) fi
    exact this
   | cons RB rest=>
    obtain⟨vs,rfl,aP,bD⟩:=fi;refine⟨vs,rfl,by grind[GH],fun i a ae=>?_⟩;rw[GG,b5]at ae;obtain⟨o',h1,rfl⟩:=ae;obtain⟨y,bk,B'⟩:=bD i o' h1;have lN:i<50:=by
     grind
    refine⟨y,bk,?_⟩;have:=vj i o' y lN (e6 i o' h1) h1 (fun j a8=>by
     unfold oE;simp only;rw[show (100*i+j) / 100=i by omega,show (100*i+j) % 100=j by omega];simp[eW,bk]) B'
    grind
end Go.Sx
namespace Go.Sx
open Go.RowKit
def aG.qB(ts:List (Nat×Nat)):aG->Bool
 | .J g _ _=>g.qB ts
 | .aS t _ _ _ _ _=>(look t ts).isSome
 | _=>false
variable{w:World}{ω:Own}{τ:Nat->Nat×Value}{l:aG}
theorem TY{bs ts:List (Nat×Nat)}{d:D}{y:Value}(h:l.g'=some d)(hm:l.qB ts=false)(ai:Sat w ω τ l y):
  bZ w (fun b=>hT bs ts (ω b)) Tag.free.R d y:=by
 have tag:∀(g:Tag) (b:Nat) (q:List (Nat×Nat)),g.qB ts=false->g.R q (ω b)->hT bs ts (ω b)=.bJ:=by
  intro g b q ar aC;cases g with
  | free=>simp only[Tag.R]at aC;rw[aC];rfl
  | own s=>
   grind[Tag.R,Tag.qB,Jv,Jw,hT]
  | ro s=>
   simp only[Tag.qB,Jv,Jw]at ar;rcases aC with h | ⟨ee,h⟩
   ·rw[h];rfl
   grind[hT]
 cases l with
 | cu=>cases h
 | v x=>
  simp only[aG.g']at h;split at h
  ·simp only[aX]at h;subst h;have:y=x:=ai;subst this;exact .v _ _ ‹_›
  cases h
 | bR c=>
  simp only[aG.g',aX]at h;subst h;have:y=.bool c:=ai;subst this;exact .v _ _ rfl
 | J t k es=>simp only[aG.g',aX]at h;subst h;exact ai.1.frame fun b q _ aC=>⟨tag t b q hm aC,rfl⟩
 | ptr=>cases h
 | ep=>cases h
 | hr=>cases h
 | fr=>cases h
 | jd ds off=>
  simp only[aG.g']at h;split at h
  ·rename_i aW;subst aW;simp only[aX]at h;subst h;obtain⟨b,rfl,aB⟩:=ai;exact aB.frame fun b q _ aC=>⟨tag .free b q rfl aC,rfl⟩
  cases h
 | fd dR=>simp only[aG.g',aX]at h;subst h;exact bZ.frame ai fun b q _ aC=>⟨tag .free b q rfl aC,rfl⟩
 | e5 t k es=>simp only[aG.g',aX]at h;subst h;exact bZ.frame ai.1 fun b q _ aC=>⟨tag .free b q rfl aC,rfl⟩
 | aS t i j k es m=>
  obtain⟨u,hu,aB,_⟩:=ai;have fin:y=u->bZ w (fun b=>hT bs ts (ω b)) Tag.free.R (.J k es) y:=by
   intro e;rw[e];exact aB.frame fun b q _ aC=>⟨tag (.own t) b _ hm aC,rfl⟩
  cases m with
  | at_ x z=>cases h
  | here=>simp only[aG.g',aX]at h;subst h;exact fin hu
  | mZ=>simp only[aG.g',aX]at h;subst h;exact fin hu
def aH.Fj:aH->Option (cL×List aG)
 | .aR (.one l)=>l.g'.map fun d=>(.one d,[l])
 | .aR (.agg ls)=>(ls.mapM aG.g').map fun ds=>(.agg ds,ls)
 | _=>none
def yo(i:Nat):Nat->List aG->List (Nat×Nat)
 | _,[]=>[]
 | j,l::ls=>match l.tok with | some t=>(t,r' i j)::yo i (j+1) ls | none=>yo i (j+1) ls
theorem TZ{i:Nat}:∀{ls:List aG} {j0 j:Nat} {l:aG} {t:Nat},ls[j]?=some l->l.tok=some t->(t,r' i (j0+j))∈yo i j0 ls
 | [],_,_,_,_,h,_=>by simp at h
 | fR::ls,j0,0,l,t,h,bG=>by
  grind[yo,fN]
 | fR::ls,j0,j+1,l,t,h,bG=>by
  have:=TZ (i:=i) (ls:=ls) (j0:=j0+1) (j:=j) (by simpa using h) bG;grind[yo,ff]
def rN:aG->Option aG
 | .e5 t k es=>some (.e5 t k es)
 | .J .free k es=>some (.J .free k es)
 | _=>none
def uE(ls:List aG):List (Option aG):=if (ls.map rN).all Option.isNone then [] else ls.map rN
def aG.IP(l:aG):Option D:=match rN l with | some l=>l.g' | none=>l.jx
theorem C2{hb:aG}(h:rN l=some hb):hb=l/\(∀ts t0 c0,yO ts t0 c0 l=l)/\∃k es,l.g'=some (.J k es)/\∀{w ω τ y},Sat w ω τ l y->bZ w ω Tag.free.R (.J k es) y:=by
 unfold rN at h;split at h
 ·rename_i t k es;cases h;exact⟨rfl,fun _ _ _=>rfl,k,es,rfl,fun ai=>ai.1⟩
 ·rename_i k es;cases h;exact⟨rfl,fun _ _ _=>by simp[aG.cG,C1,Tag.qB,hd],k,es,rfl,fun ai=>ai.1⟩
 cases h
theorem awx{ls:List aG}{j:Nat}(h:(uE ls)[j]?=some (some l)):ls[j]?=some l/\rN l=some l:=by
 grind[uE,b5,C2]
theorem MF{ls:List aG}{j:Nat}(aj:ls[j]?=some l):stays (mj (uE ls)) j=(rN l).isSome:=by
 unfold uE;split
 ·rename_i h;have:=gP.1 h (rN l) (fV.2 ⟨l,f' aj,rfl⟩);simp only[stays,mj,List.map_nil,List.getD_nil];simp_all
 simp_all[stays,mj,List.map_map]
def xB(ca:List aH):List (Option Nat)->Option (List (Option aG))
 | []=>some []
 | none::r=>(xB ca r).map fun x=>none::x
 | some a::r=>
  match ca[a]? with
  | some (.aR (.one l))=>
   match rN l,xB ca r with
   | some hb,some ob=>some (some hb::ob)
   | _,_=>none
  | _=>none
theorem HI{ca:List aH}:∀{src:List (Option Nat)} {nk:List (Option aG)},xB ca src=some nk->yS src=mj nk/\∀(j:Nat) (l:aG),nk[j]?=some (some l)->∃a,src[j]?=some (some a)/\ca[a]?=some (.aR (.one l))/\rN l=some l
 | [],nk,h=>by
  simp only[xB,aX]at h;subst h;exact⟨rfl,fun j l h=>by simp at h⟩
 | none::r,nk,h=>by
  simp only[xB,b5]at h;obtain⟨x,h1,rfl⟩:=h;obtain⟨g1,g2⟩:=HI h1;grind[yS,mj]
 | some a::r,nk,h=>by
  simp only[xB]at h;split at h
  ·rename_i l e;split at h
   ·rename_i hb ob e1 e2;simp only[aX]at h;subst h;obtain⟨g1,g2⟩:=HI e2;have:=(C2 e1).1;subst this;refine⟨by grind[yS,mj],fun j l a8=>?_⟩;grind
   cases h
  cases h
def ZU:aH->Option Nat
 | .aR (.one (.ptr id 0))=>some id
 | _=>none
structure E5 where
 pY:List a7
 refs:List j5
 ts:List (Nat×Nat)
 qP:List aG
def tO:aH->Option (FuncId×List Nat)
 | .aR (.one (.hr g ids))=>some (g,ids)
 | _=>none
def Tj(id:Nat):aH:=.aR (.one (.ptr id 0))
def q2(bs:mX):Nat->List (Option (List D))->List aH->Option E5
 | _,[],[]=>some ⟨[],[],[],[]⟩
 | i,none::ms,p::ca=>
  match tO p with
  | some (g,ids)=>(q2 bs (i+1) ms ca).map fun r=>⟨.fn g (List.range' (i+1) ids.length)::r.pY,r.refs,r.ts,r.qP⟩
  | none=>
   match p.Fj,q2 bs (i+1) ms ca with
   | some (ct,ls),some r=>some ⟨.ro ct::r.pY,r.refs,r.ts,ls++r.qP⟩
   | _,_=>none
 | i,some post::ms,p::ca=>
  match ZU p,q2 bs (i+1) ms ca with
  | some id,some r=>
   match dI id bs with
   | some ls=>
    match ls.mapM aG.IP with
    | some pre=>some ⟨.jv (mj (uE ls)) pre post::r.pY,⟨i,id,post,uE ls⟩::r.refs,yo i 0 ls++r.ts,r.qP⟩
    | none=>none
   | none=>none
  | _,_=>none
 | _,_,_=>none
def E6(bs:mX)(a:E5)(i:Nat)(iy:a7)(p:aH):Prop:=
 (∃g ids,iy=.fn g (List.range' (i+1) ids.length)/\p=.aR (.one (.hr g ids)))\/
 (∃ct ls,iy=.ro ct/\p.Fj=some (ct,ls)/\∀l∈ls,l∈a.qP)\/
 (∃id ls pre post,iy=.jv (mj (uE ls)) pre post/\p=.aR (.one (.ptr id 0))/\dI id bs=some ls/\ls.mapM aG.IP=some pre/\(⟨i,id,post,uE ls⟩:j5)∈a.refs/\∀x∈yo i 0 ls,x∈a.ts)
theorem E6.mono{bs:mX}{a b:E5}{i:Nat}{iy:a7}{p:aH}(h:E6 bs a i iy p)(h1:∀l∈a.qP,l∈b.qP)(U:∀x∈a.refs,x∈b.refs)(aA:∀x∈a.ts,x∈b.ts):E6 bs b i iy p:=by
 rcases h with h | ⟨ct,ls,e1,e2,cx⟩ | ⟨id,ls,pre,post,e1,e2,cx,eD,iS,nf⟩
 ·exact .inl h
 ·exact .inr (.inl ⟨ct,ls,e1,e2,fun l aj=>h1 l (cx l aj)⟩)
 exact .inr (.inr ⟨id,ls,pre,post,e1,e2,cx,eD,U _ iS,fun x aa=>aA x (nf x aa)⟩)
theorem HJ{bs:mX}:∀{ms:List (Option (List D))} {ca:List aH} {i:Nat} {a:E5},q2 bs i ms ca=some a->a.pY.length=ca.length/\
  (∀(x:Nat) (iy:a7),a.pY[x]?=some iy->∃p,ca[x]?=some p/\E6 bs a (i+x) iy p)/\
  (∀r∈a.refs,∃(x:Nat) (pre:List D),r.i=i+x/\a.pY[x]?=some (.jv (mj r.eU) pre r.post)/\ca[x]?=some (.aR (.one (.ptr r.id 0)))/\∃ls,dI r.id bs=some ls/\r.eU=uE ls)
 | [],[],i,a,h=>by
  simp only[q2,aX]at h;grind
 | none::ms,p::ca,i,a,h=>by
  simp only[q2]at h;split at h
  ·rename_i g ids cd;rw[b5]at h;obtain⟨r,e2,rfl⟩:=h;obtain⟨eb,b8,bt⟩:=HJ e2;have hp:p=.aR (.one (.hr g ids)):=by
    unfold tO at cd;grind
   refine⟨by simp[eb],fun x iy aa=>?_,fun y bk=>?_⟩
   ·cases x with
    | zero=>
     simp only[mV,aX]at aa;subst aa;exact⟨p,rfl,.inl ⟨g,ids,rfl,hp⟩⟩
    | succ x=>
     obtain⟨rM,h1,U⟩:=b8 x iy (by grind);refine⟨rM,by grind,?_⟩;rw[show i+1+x=i+(x+1) by omega]at U;exact U.mono (fun _ h=>h) (fun _ h=>h) (fun _ h=>h)
   obtain⟨x,pre,h1,U,aA,aI⟩:=bt y bk;exact⟨x+1,pre,by omega,by grind,by grind,aI⟩
  split at h
  ·rename_i ct ls r e1 e2;simp only[aX]at h;subst h;obtain⟨eb,b8,bt⟩:=HJ e2;refine⟨by simp[eb],fun x iy aa=>?_,fun y bk=>?_⟩
   ·cases x with
    | zero=>
     simp only[mV,aX]at aa;subst aa;exact⟨p,rfl,.inr (.inl ⟨ct,ls,rfl,e1,fun l aj=>gE _ aj⟩)⟩
    | succ x=>
     obtain⟨rM,h1,U⟩:=b8 x iy (by grind);refine⟨rM,by grind,?_⟩;rw[show i+1+x=i+(x+1) by omega]at U;exact U.mono (fun l aj=>hP _ aj) (fun _ h=>h) (fun _ h=>h)
   obtain⟨x,pre,h1,U,aA,aI⟩:=bt y bk;exact⟨x+1,pre,by omega,by grind,by grind,aI⟩
  cases h
 | some post::ms,p::ca,i,a,h=>by
  simp only[q2]at h;split at h
  ·rename_i id r e1 e2;split at h
   ·rename_i ls cx;split at h
    ·rename_i pre eD;simp only[aX]at h;subst h;obtain⟨eb,b8,bt⟩:=HJ e2;have hp:p=.aR (.one (.ptr id 0)):=by
      unfold ZU at e1;grind
     refine⟨by simp[eb],fun x iy aa=>?_,fun y bk=>?_⟩
     ·cases x with
      | zero=>
       simp only[mV,aX]at aa;subst aa;exact⟨p,rfl,.inr (.inr ⟨id,ls,pre,post,rfl,hp,cx,eD,fN,fun x aa=>gE _ aa⟩)⟩
      | succ x=>
       obtain⟨rM,h1,U⟩:=b8 x iy (by grind);refine⟨rM,by grind,?_⟩;rw[show i+1+x=i+(x+1) by omega]at U;exact U.mono (fun _ h=>h) (fun x h=>ff _ h) (fun x h=>hP _ h)
     rcases dQ.1 bk with rfl | bk
     ·grind
     obtain⟨x,Gv,h1,U,aA,aI⟩:=bt y bk;exact⟨x+1,Gv,by omega,by grind,by grind,aI⟩
    cases h
   cases h
  cases h
 | [],_::_,i,a,h=>by grind[q2]
 | none::_,[],i,a,h=>by grind[q2]
 | some _::_,[],i,a,h=>by grind[q2]
def bi.J0(d:Option Nat):bi->Bool
 | .vals rs=>ME rs
 | .iZ _ ds=>d.isSome&&decide (ds.length<100)
def bi.c0(d:Option Nat):bi->Option Nat
 | .vals _=>none
 | .iZ _ _=>d
def bi.pD:bi->List D
 | .vals _=>[]
 | .iZ _ ds=>ds
def bi.nk(ca:List aH):bi->Option (List (Option aG))
 | .vals _=>some []
 | .iZ src _=>xB ca src
theorem bi.acu{d:Option Nat}{r:bi}(h:r.J0 d=true):r.fits (r.c0 d) r.pD:=by
 cases r with
 | vals rs=>exact⟨rfl,h⟩
 | iZ src ds=>
  simp only[bi.J0,b9,cc]at h;exact⟨h.1,rfl,h.2⟩
def ww(n:Nat):Nat->List a7->Bool
 | _,[]=>true
 | i,.fn _ _::r=>i+1==n&&ww n (i+1) r
 | i,_::r=>ww n (i+1) r
theorem HK{n:Nat}:∀{as:List a7} {i x:Nat} {g:FuncId} {cS:List Nat},ww n i as=true->as[x]?=some (.fn g cS)->i+x+1=n
 | [],_,_,_,_,_,h=>by simp at h
 | .fn _ _::r,i,0,g,cS,h,aa=>by
  simp_all[ww,b9,iL]
 | .fn _ _::r,i,x+1,g,cS,h,aa=>by
  simp only[ww,b9,iL]at h;have:=HK h.2 (x:=x) (by simpa using aa);omega
 | .ro _::r,i,0,g,cS,h,aa=>by simp at aa
 | .jv _ _ _::r,i,0,g,cS,h,aa=>by simp at aa
 | .ro _::r,i,x+1,g,cS,h,aa=>by
  have:=HK (i:=i+1) (by simpa[ww]using h) (x:=x) (by simpa using aa);omega
 | .jv _ _ _::r,i,x+1,g,cS,h,aa=>by
  have:=HK (i:=i+1) (by simpa[ww]using h) (x:=x) (by simpa using aa);omega
def C3(P:Program)(st:aD)(d:Option Nat)(f:FuncId)(n:Nat)(ca:List aH)(ans:List cb):Option (aD×List cb×List Prop):=
 match ans with
 | .e3 xD ii::r=>
  match q2 st.boxes 0 xD ca,ii.nk ca with
  | some a,some nk=>
   let t0:=10000*(d.getD 0+1)
   if hV P f=true/\t0+10000<=dj/\AK a.refs (ii.c0 d)=true/\Nr a.ts=true/\ii.J0 d=true/\a.qP.all (fun l=>!(l.qB a.ts))=true/\uU a.pY=n/\ww n 0 a.pY=true then
    let bB:=st.yP a.ts t0 a.refs (ii.c0 d) nk ii.pD
    match d with
    | some d=>some (⟨bB.env.set d (ii.pF t0 (ii.c0 (some d))),bB.boxes⟩,r,[cH P f a.pY ii])
    | none=>some (bB,r,[cH P f a.pY ii])
   else none
  | _,_=>none
 | _=>none
def MG(P:Program)(st:aD)(d:Option Nat)(f:FuncId)(args:List Operand)(ans:List cb):Option (aD×List cb×List Prop):=
 match (args.map st.bp).getLast?.bind tO with
 | some (_,ids)=>C3 P st d f args.length (args.map st.bp++ids.map Tj) ans
 | none=>C3 P st d f args.length (args.map st.bp) ans
def MH(P:Program)(st:aD)(d:Option Nat)(f:Operand)(args:List Operand)(ans:List cb):Option (aD×List cb×List Prop):=
 match tO (st.bp f) with
 | some (g,ids)=>if (args.map st.bp).all (fun p=>(tO p).isNone) then C3 P st d g (args.length+ids.length) (args.map st.bp++ids.map Tj) ans else none
 | none=>none
variable{a:Act}{P:Program}{w0:eN}{st bB:aD}{dst:Option Nat}{ans cq:List cb}{obs:List Prop}
theorem MI{f:FuncId}{n:Nat}{ca:List aH}{vs:Array Value}{o:Oper}
  (Kt:o.dst=dst) (aZ:cD w0 st a w ω τ) (h:C3 P st dst f n ca ans=some (bB,cq,obs)) (aW:c8 obs) (dN:vs.size=ca.length) (hE:∀(x:Nat) (p:aH),ca[x]?=some p->∃v,vs[x]?=some v/\cT (Sat w ω τ) p v)
  (mC:∀(x:Nat) (g:FuncId) (ids:List Nat),x+1=n->ca[x]?=some (.aR (.one (.hr g ids)))->vs[x]?=some (.func (.func g) #[] ((List.range' n ids.length).map fun k=>vs.getD k undef).toArray))
  (fG:hV P f=true->(execOp a.eval o).run P w=.ok (.enter f (vs.extract 0 n)) w) {K:Act->World->Prop} {Q:Exit->Act->World->Prop} (im:∀cJ aM,Rel w0 bB cJ aM->K cJ aM):
  Oper.wp P o a w K Q:=by
 unfold C3 at h;split at h
 ·rename_i xD ii r;split at h
  ·rename_i tH nk nR Ch;simp only at h;split at h
   ·rename_i al;obtain⟨kb,jM,bI,oI,eh,F4,KX,vB⟩:=al;rw[gP]at F4;have Cm:∀l∈tH.qP,l.qB tH.ts=false:=fun l aj=>by grind
    obtain⟨hlen,b8,bt⟩:=HJ nR
    let Bw:Own:=fun b=>hT (lV tH.refs) tH.ts (ω b)
    have cU:∀b,Bw b≠.bJ->ω b≠.bJ:=fun b h e=>h (by simp only[Bw,e];rfl)
    have ad6:JH w Bw tH.pY vs:=by
     refine⟨fun b aq=>(aZ.owned b (cU b aq)).2,fun b i aq=>?_,by grind,fun x iy aa=>?_⟩
     ·simp only[Bw]at aq;cases e:ω b with
      | bJ=>grind
      | tok s q=>grind[hT]
      | box iV=>
       rw[e]at aq;simp only[hT]at aq;split at aq
       ·rename_i fW tS;simp only[dp.box.injEq]at aq;subst aq;obtain⟨ob,eX,_,BD⟩:=HH tS;grind
       cases aq
     obtain⟨p,hp,sv⟩:=b8 x iy aa;obtain⟨v,bD,ai⟩:=hE x p hp;refine⟨v,bD,?_⟩;rw[dV]at sv;rcases sv with⟨g,ids,rfl,_⟩ | ⟨ct,ls,rfl,e2,cx⟩ | ⟨id,ls,pre,post,rfl,rfl,cx,eD,iS,nf⟩
     ·exact trivial
     ·cases p with
      | gB as=>cases e2
      | aR aR=>
       cases aR with
       | one l=>
        simp only[aH.Fj,b5]at e2;obtain⟨d,h1,U⟩:=e2;simp only[bH]at U;obtain⟨rfl,rfl⟩:=U;exact TY h1 (Cm l (cx l (by simp))) ai
       | agg fJ=>
        simp only[aH.Fj,b5]at e2;obtain⟨ds,h1,U⟩:=e2;simp only[bH]at U;obtain⟨rfl,rfl⟩:=U;obtain⟨aA,aI⟩:=oO h1;obtain⟨vs,rfl,aP,aet⟩:=ai;refine⟨vs,rfl,by omega,fun j d aF=>?_⟩;obtain⟨l,aj,c'⟩:=aI j d aF;obtain⟨u,hu,fH⟩:=aet j l aj;exact⟨u,hu,TY c' (Cm l (cx l (f' aj))) fH⟩
     obtain⟨b,aq,rfl⟩:=ai;obtain⟨dA,arr,ty,er,hu,bK,eT⟩:=aZ.boxes id ls cx;have:=hu b aq;subst this;have adM:=TX bI iS;simp only at adM;obtain⟨aA,aI⟩:=oO eD;refine⟨⟨b,arr,ty,rfl,by grind[hT],fun c al=>?_,bK,by have:=eT.1;omega,fun j d aF=>?_⟩,fun j d aF fQ=>?_⟩
     ·simp only[Bw]at al;cases e:ω c with
      | bJ=>grind
      | tok s q=>grind[hT]
      | box iV=>
       grind[hT,dp.box.injEq,HH,uD]
     rotate_left
     ·obtain⟨l,aj,c'⟩:=aI j d aF;obtain⟨u,ha,fH⟩:=eT.2 j l aj;rw[MF aj]at fQ;obtain⟨hb,ni⟩:=sh.1 fQ;obtain⟨rfl,_,k,es,dC,ru⟩:=C2 ni;simp only[aG.IP,ni]at c';rw[dC]at c';cases c';have e:jn w (.pointer (some ⟨b,0,none⟩)) j=u:=by simp[jn,bK,eW,ha]
      rw[e];refine (ru fH).frame fun c q _ aC=>⟨?_,rfl⟩
      grind[Tag.R,hT]
     obtain⟨l,aj,c'⟩:=aI j d aF;obtain⟨u,ha,fH⟩:=eT.2 j l aj;refine⟨u,ha,fun fQ=>?_⟩;rw[MF aj]at fQ;have Sw:rN l=none:=by simpa using fQ
     simp only[aG.IP,Sw]at c';clear fQ Sw;cases l with
     | v z=>
      simp only[aG.jx]at c';split at c'
      ·simp only[aX]at c';subst c';have:u=z:=fH;subst this;exact .v _ _ ‹_›
      cases c'
     | bR c=>
      simp only[aG.jx,aX]at c';subst c';have:u=.bool c:=fH;subst this;exact .v _ _ rfl
     | J g k es=>
      cases g with
      | free=>cases c'
      | ro s=>cases c'
      | own s=>
       simp only[aG.jx,aX]at c';subst c';have hm:=nf _ (TZ (i:=x) (j0:=0) aj rfl);rw[dV]at hm;have aDb:=TT oI hm;refine fH.1.frame fun c q _ aC=>⟨?_,rfl⟩
       grind[Tag.R,hT]
     | cu=>cases c'
     | ptr=>cases c'
     | ep=>cases c'
     | jd=>cases c'
     | fd=>cases c'
     | e5=>cases c'
     | hr=>cases c'
     | aS=>cases c'
     | fr=>cases c'
    have Ky:JC tH.pY vs:=by
     intro x g cS aa;have Cu:=HK vB aa;rw[dV]at Cu;obtain⟨p,hp,sv⟩:=b8 x _ aa;rw[dV]at sv;rcases sv with⟨ek,ids,e1,rfl⟩ | ⟨ct,ls,e1,_⟩ | ⟨id,ls,pre,post,e1,_⟩
     ·grind
     ·cases e1
     cases e1
    have key:cH P f tH.pY ii->(∀v aM bc cZ,cD w0 (st.yP tH.ts (10000*(dst.getD 0+1)) tH.refs (ii.c0 dst) nk ii.pD) a aM bc cZ->cT (Sat aM bc cZ) (ii.pF (10000*(dst.getD 0+1)) (ii.c0 dst)) v->K (a.put dst v) aM)->
      Oper.wp P o a w K Q:=by
     intro KW RY;unfold Oper.wp;rw[fG kb,<-KX];simp only[Oper.upon];rw[Kt];refine (KW w _ Bw ad6 Ky (aZ.tidy fun b aq=>by grind)).mono ?_;rintro e aM ⟨v,rfl,l',fx,c1,c2,cw,et⟩;obtain⟨bc,cZ,h1,U⟩:=aZ.ach (10000*(dst.getD 0+1)) (nk:=nk) (ys:=fun i=>vs.getD i undef) bI jM l' fx c1 c2 (fun r aB=>by
      obtain⟨x,pre,g1,g2,g3,g4⟩:=bt r aB;rw[dV]at g1;obtain⟨y,bk,ai⟩:=hE x _ g3;obtain⟨b,aq,rfl⟩:=ai;have e:vs.getD r.i undef=ptrTo b:=by rw[g1,eW,bk];rfl
      rw[e];obtain⟨ls,g5,g6⟩:=g4;simp_all[ptrTo]) et (bi.acu eh) (fun d aF=>by
      cases ii with
      | vals rs=>cases aF
      | iZ src ds=>
       have aF:dst=some d:=aF;grind) (fun r aB j l a8=>by
      obtain⟨x,pre,g1,g2,g3,ls,g5,g6⟩:=bt r aB;rw[dV]at g1;obtain⟨y,bk,ai⟩:=hE x _ g3;obtain⟨b,aq,rfl⟩:=ai;have e:vs.getD r.i undef=ptrTo b:=by rw[g1,eW,bk];rfl
      rw[e];rw[g6]at a8;obtain⟨i1,i2⟩:=awx a8;refine⟨(C2 i2).2.1 _ _ _,?_⟩;have fQ:stays (mj r.eU) j=true:=by simp_all[MF]
      rw[(cw r.i _ pre r.post (ptrTo b) (by grind) (by simp_all)).2 j fQ];obtain⟨dA,arr,ty,er,hu,bK,eT⟩:=aZ.boxes _ ls g5;have:=hu b aq;subst this;obtain⟨u,ha,fH⟩:=eT.2 j l i1;have e:jn w (ptrTo b) j=u:=by simp[jn,ptrTo,bK,eW,ha]
      grind) (fun j l a8=>by
      cases ii with
      | vals rs=>
       grind[bi.nk,aX]
      | iZ src ds=>
       obtain⟨_,i2⟩:=HI Ch;obtain⟨x,qy,py,aeG⟩:=i2 j l a8;refine⟨(C2 aeG).2.1 _ _ _,?_⟩;obtain⟨y,bk,ai⟩:=hE x _ py;have:=et.2 j x qy;rw[bk]at this;rw[<-gX this];exact ai) (fun src ds e=>by
      subst e;exact (HI Ch).1)
     grind
    cases dst with
    | none=>
     simp only[aX,bH]at h;obtain⟨rfl,_,rfl⟩:=h;exact key aW.1 fun v aM bc cZ h1 _=>im _ _ ⟨bc,cZ,h1⟩
    | some d=>
     simp only[aX,bH]at h;obtain⟨rfl,_,rfl⟩:=h;exact key aW.1 fun v aM bc cZ h1 U=>im _ _ ⟨bc,cZ,h1.put U⟩
   cases h
  cases h
 cases h
theorem awy{f:FuncId}{args:Array Operand}{ts:Array TypeId}{type:TypeId}{pos:String}{after:Array Edge}{guard:Option (Nat×Bool)}
  (aZ:cD w0 st a w ω τ) (h:MG P st dst f args.toList ans=some (bB,cq,obs)) (aW:c8 obs) {K:Act->World->Prop} {Q:Exit->Act->World->Prop} (im:∀cJ aM,Rel w0 bB cJ aM->K cJ aM):
  Oper.wp P ⟨dst,.call ⟨.value (.func f),args,ts⟩,type,pos,after,guard⟩ a w K Q:=by
 have hE:∀(x:Nat) (p:aH),(args.toList.map st.bp)[x]?=some p->∃v,(args.map a.eval)[x]?=some v/\cT (Sat w ω τ) p v:=by
  intro x p hp;rw[eg,b5]at hp;obtain⟨o,h1,rfl⟩:=hp;refine⟨a.eval o,?_,aZ.bp o⟩;grind
 have fG:hV P f=true->(execOp a.eval ⟨dst,.call ⟨.value (.func f),args,ts⟩,type,pos,after,guard⟩).run P w=.ok (.enter f (args.map a.eval)) w:=by
  intro kb;unfold hV at kb;split at kb
  ·rename_i fn mC;simp only[b9,gQ,Bs,lc]at kb;have t':fn.body≠none:=by grind
   simp[execOp,resolve,Act.eval,Deferred.ofValue,invoke,callFunc,mC,kb.1,t']
  cases kb
 unfold MG at h;split at h
 ·rename_i g ids vD;rw[nM]at vD;obtain⟨p,hp,Km⟩:=vD;have mE:p=.aR (.one (.hr g ids)):=by
   unfold tO at Km;grind
  subst mE;have zy:0<(args.toList.map st.bp).length:=by
   grind
  have KT:(args.toList.map st.bp)[args.toList.length-1]?=some (.aR (.one (.hr g ids))):=by
   grind
  obtain⟨v,bD,bs,B6,tY,gu⟩:=hE _ _ KT;have aP:0<args.size:=by grind
  refine MI (n:=args.toList.length) (vs:=args.map a.eval++(bs.map ptrTo).toArray) rfl aZ h aW (by simp[tY]) (fun x p aa=>?_) (fun x ek aeC Cu aa=>?_) (fun kb=>?_) im
  ·rw[qS]at aa;rw[kr];split at aa
   ·grind
   rename_i qn;rw[bq (by grind)];rw[eg,b5]at aa;obtain⟨id,hD,rfl⟩:=aa;obtain⟨b,ht,gj⟩:=gu _ id hD;refine⟨ptrTo b,?_,b,gj,rfl⟩;grind
  ·have bM:x<args.size:=by grind
   have sM:x=args.toList.length-1:=by omega
   rw[qS,bh (by grind),sM,KT]at aa;simp only[aX,aH.aR.injEq,bm.one.injEq,aG.hr.injEq]at aa;obtain⟨rfl,rfl⟩:=aa;rw[kr,bh (by grind),sM,bD,B6]
   congr 2
   apply Array.ext
   ·simp[tY]
   simp_all
  have e:(args.map a.eval++(bs.map ptrTo).toArray).extract 0 args.toList.length=args.map a.eval:=by
   simp_all
  grind
 refine MI (n:=args.toList.length) (vs:=args.map a.eval) rfl aZ h aW (by simp) hE (fun x g ids Cu aa=>?_) (fun kb=>?_) im
 ·rename_i iU;exfalso;have:(args.toList.map st.bp).getLast?=some (.aR (.one (.hr g ids))):=by
   grind
  grind[tO]
 have e:(args.map a.eval).extract 0 args.toList.length=args.map a.eval:=by simp
 grind
theorem awz{y:Nat}{args:Array Operand}{ts:Array TypeId}{type:TypeId}{pos:String}{after:Array Edge}{guard:Option (Nat×Bool)}
  (aZ:cD w0 st a w ω τ) (h:MH P st dst (.tmp y) args.toList ans=some (bB,cq,obs)) (aW:c8 obs) {K:Act->World->Prop} {Q:Exit->Act->World->Prop} (im:∀cJ aM,Rel w0 bB cJ aM->K cJ aM):
  Oper.wp P ⟨dst,.call ⟨.value (.tmp y),args,ts⟩,type,pos,after,guard⟩ a w K Q:=by
 have hE:∀(x:Nat) (p:aH),(args.toList.map st.bp)[x]?=some p->∃v,(args.map a.eval)[x]?=some v/\cT (Sat w ω τ) p v:=by
  intro x p hp;rw[eg,b5]at hp;obtain⟨o,h1,rfl⟩:=hp;refine⟨a.eval o,?_,aZ.bp o⟩;grind
 unfold MH at h;split at h
 ·rename_i g ids Km;have mE:st.bp (.tmp y)=.aR (.one (.hr g ids)):=by
   unfold tO at Km;grind
  have ai:=aZ.bp (.tmp y);rw[mE]at ai;obtain⟨bs,B6,tY,gu⟩:=ai;split at h
  case isFalse=>cases h
  rename_i iU;refine MI (n:=args.toList.length+ids.length) (vs:=args.map a.eval++(bs.map ptrTo).toArray) rfl aZ h aW (by simp[tY]) (fun x p aa=>?_) (fun x ek aeC Cu aa=>?_) (fun kb=>?_) im
  ·rw[qS]at aa;rw[kr];split at aa
   ·grind
   rename_i qn;rw[bq (by grind)];rw[eg,b5]at aa;obtain⟨id,hD,rfl⟩:=aa;obtain⟨b,ht,gj⟩:=gu _ id hD;refine⟨ptrTo b,?_,b,gj,rfl⟩;grind
  ·exfalso;rw[qS]at aa;split at aa
   ·rename_i bM;have:=gP.1 iU _ (f' aa);grind[tO]
   rw[eg,b5]at aa;obtain⟨id,_,e⟩:=aa;cases e
  have e:(args.map a.eval++(bs.map ptrTo).toArray).extract 0 (args.toList.length+ids.length)=args.map a.eval++(bs.map ptrTo).toArray:=by
   have e2:args.toList.length+ids.length=(args.map a.eval++(bs.map ptrTo).toArray).size:=by simp[tY]
   grind
  rw[e];unfold hV at kb;split at kb
  ·rename_i fn mC;simp only[b9,gQ,Bs,lc]at kb;have t':fn.body≠none:=by grind
   simp[execOp,resolve,B6,Deferred.ofValue,invoke,callFunc,mC,kb.1,t']
  cases kb
 cases h
