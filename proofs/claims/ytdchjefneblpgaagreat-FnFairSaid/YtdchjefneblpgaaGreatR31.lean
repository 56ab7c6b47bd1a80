import Derived.Test.YtdchjefneblpgaaGreatR11
set_option linter.unusedVariables false
set_option linter.unusedSimpArgs false
namespace Go.Sx
open Go.RowKit
inductive aM where
 | ro (a:cP)
 | jk (pn:List Bool) (pre post:List D)
 | fn (g:FuncId) (cT:List Nat)
abbrev aM.ref (pre post : List D) : aM := .jk [] pre post
abbrev aM.cur(pre post:List D):aM:=.jk [true,false,false] pre post
def stays(pn:List Bool)(j:Nat):Bool:=pn.getD j false
def jc(w:World)(y:Value)(j:Nat):Value:=
 match y with
 | .pointer (some p)=>match w.heap[p.block]? with | some (.cells arr _ _)=>arr.getD j undef | _=>undef
 | _=>undef
def rU(i j:Nat):Nat:=900000000+(100*i+j)
def hW(i j:Nat):Nat:=5000+(100*i+j)
def wH(w:World)(ω:Own)(i:Nat)(pn:List Bool)(f:Nat->Nat)(ds:List D)(y:Value):Prop:=
 ∃b arr ty,y=ptrTo b/\ω b=.box i/\(∀dD,ω dD=.box i->dD=b)/\w.heap[b]?=some (.cells arr ty (0,0))/\arr.size=ds.length/\∀(j:Nat) (d:D),ds[j]?=some d->∃u,arr[j]?=some u/\(stays pn j=false->b4 w ω (Tag.own (f j)).R d u)
def abo(w:World)(ω:Own)(i:Nat):aM->Value->Prop
 | .ro (.one d),y=>b4 w ω Tag.free.R d y
 | .ro (.agg ds),y=>∃vs:Array Value,y=.agg vs/\vs.size=ds.length/\∀(j:Nat) (d:D),ds[j]?=some d->∃u,vs[j]?=some u/\b4 w ω Tag.free.R d u
 | .jk pn pre _,y=>wH w ω i pn (rU i) pre y/\∀(j:Nat) (d:D),pre[j]?=some d->stays pn j=true->b4 w ω Tag.free.R d (jc w y j)
 | .fn _ _,_=>True
def aM.bj:aM->Nat
 | .fn _ cT=>cT.length
 | _=>0
def uw(args:List aM):Nat:=args.length-(args.map aM.bj).sum
def IW(args:List aM)(vs:Array Value):Prop:=∀(i:Nat) (g:FuncId) (cT:List Nat),args[i]?=some (.fn g cT)->vs[i]?=some (.func (.func g) #[] (cT.map fun k=>vs.getD k undef).toArray)
def F6(w:World)(ω:Own):Prop:=∀b,ω b≠.bM->∃arr ty,w.heap[b]?=some (.cells arr ty (0,0))
def IZ(w:World)(ω:Own)(args:List aM)(vs:Array Value):Prop:=F6 w ω/\(∀b i,ω b=.box i->∃pn pre post,args[i]?=some (.jk pn pre post))/\vs.size=args.length/\∀(i:Nat) (j8:aM),args[i]?=some j8->∃v,vs[i]?=some v/\abo w ω i j8 v
def yq(src:List (Option Nat)):List Bool:=src.map Option.isSome
def Ez(w:World)(ω:Own)(vs:Array Value):aY->Value->Prop
 | .vals rs,v=>nH w ω rs v
 | .iM src ds,v=>wH w ω 49 (yq src) (hW 49) ds v/\∀(j i:Nat),src[j]?=some (some i)->vs[i]?=some (jc w v j)
def b2(P:Program)(f:FuncId)(args:List aM)(r:aY):Prop:=
 ∀(w:World) (vs:Array Value) (ω:Own),IZ w ω args vs->IW args vs->Tidy w ω->Calls P f (vs.extract 0 (uw args)) w fun e aP=>∃v,e=.returned v/\hd ⟨w,fun b=>ω b≠.bM,fun _=>(0,undef)⟩ aP/\
  ∃bf:Own,(∀b,b<w.heap.size->ω b=.bM->bf b=.bM)/\F6 aP bf/\(∀(i:Nat) (pn:List Bool) (pre post:List D) (y:Value),args[i]?=some (.jk pn pre post)->vs[i]?=some y->wH aP bf i pn (hW i) post y/\∀j,stays pn j=true->jc aP y j=jc w y j)/\Ez aP bf vs r v
abbrev aB8:=List (Nat×Nat)
def look(t:Nat):List (Nat×Nat)->Option Nat
 | []=>none
 | (s,n)::r=>if s=t then some n else look t r
def ME(ts:List (Nat×Nat)):Bool:=ts.all fun x=>ts.all fun y=>(x.1==y.1)==(x.2==y.2)
variable{ts:List (Nat×Nat)}
theorem Sw{t n:Nat}(h:ME ts=true)(hm:(t,n)∈ts):look t ts=some n:=by
 have key:∀l:List (Nat×Nat),(∀x∈l,x∈ts)->(t,n)∈l->look t l=some n:=by
  intro l;induction l with
  | nil=>grind
  | cons x l eg=>
   intro ao hm;obtain⟨s,m⟩:=x;simp only[look];split
   ·rename_i e;subst e;have h1:=gA.1 (gA.1 h _ (ao _ hU)) _ (by exact ‹(s,n)∈ts›);grind
   grind
 grind
theorem awX{t n:Nat}(h:look t ts=some n):(t,n)∈ts:=by
 induction ts with
 | nil=>cases h
 | cons x l eg=>
  grind[look,gJ,hU,gI]
def hI(bs ts:List (Nat×Nat)):dr->dr
 | .bM=>.bM
 | .box id=>match look id bs with | some i=>.box i | none=>.bM
 | .tok t q=>match look t ts with | some n=>.tok n q | none=>.bM
def Tag.qm(ts:List (Nat×Nat)):Tag->Bool
 | .free=>false
 | .own t=>(look t ts).isSome
 | .ro t=>(look t ts).isSome
def tR:Option Nat->Nat->Bool
 | none=>fun _=>true
 | some d=>ko d
def Cl(ts:List (Nat×Nat))(t0:Nat)(g:Tag):Option Tag:=if g.qm ts then none else gX t0 g
abbrev yn(ts:List (Nat×Nat))(t0:Nat)(dn:Option Nat)(l:aF):aF:=l.cM (Cl ts t0) (tR dn)
structure jL where
 i:Nat
 id:Nat
 post:List D
 e3:List (Option aF)
def l1(cT:List (Option aF)):List Bool:=cT.map Option.isSome
def lZ:List (Option aF)->List aF->List aF
 | [],ls=>ls
 | _,[]=>[]
 | some l::cT,_::ls=>l::lZ cT ls
 | none::cT,l::ls=>l::lZ cT ls
theorem F7:∀(cT:List (Option aF)) (ls:List aF),(lZ cT ls).length=ls.length
 | [],ls=>rfl
 | _::_,[]=>by simp[lZ]
 | some l::cT,_::ls=>by simp[lZ,F7 cT ls]
 | none::cT,_::ls=>by simp[lZ,F7 cT ls]
theorem MF:∀(cT:List (Option aF)) (ls:List aF) (j:Nat) (l:aF),(lZ cT ls)[j]?=some l->(cT[j]?=some (some l)/\stays (l1 cT) j=true)\/(ls[j]?=some l/\stays (l1 cT) j=false)
 | [],ls,j,l,h=>.inr ⟨h,by simp[stays,l1]⟩
 | _::_,[],j,l,h=>by grind[lZ]
 | some k::cT,x::ls,0,l,h=>by simp only[lZ,mE,aX]at h;subst h;exact .inl ⟨rfl,rfl⟩
 | none::cT,x::ls,0,l,h=>by simp only[lZ,mE]at h;exact .inr ⟨h,rfl⟩
 | some k::cT,x::ls,j+1,l,h=>by
  have:=MF cT ls j l (by simpa[lZ]using h);simpa[stays,l1]using this
 | none::cT,x::ls,j+1,l,h=>by
  have:=MF cT ls j l (by simpa[lZ]using h);simpa[stays,l1]using this
def xu(t0:Nat):List jL->List (Nat×List aF)->List (Nat×List aF)
 | [],bs=>bs
 | r::rs,bs=>xu t0 rs (rC r.id (lZ r.e3 (ow (t0+hW r.i 0) 0 r.post)) bs)
def Sy(t0:Nat)(dn:Option Nat)(nk:List (Option aF))(ds:List D)(bs:List (Nat×List aF)):List (Nat×List aF):=
 match dn with
 | some d=>(d,lZ nk (ow (t0+hW 49 0) 0 ds))::qp d bs
 | none=>bs
def aC.yo(st:aC)(ts:List (Nat×Nat))(t0:Nat)(refs:List jL)(dn:Option Nat)(nk:List (Option aF))(ds:List D):aC:=
 ⟨st.env.map (aI.map (yn ts t0 dn)),Sy t0 dn nk ds (xu t0 refs (st.boxes.map fun x=>(x.1,x.2.map (yn ts t0 dn))))⟩
def qn(t0:Nat)(dn:Option Nat):dr->dr
 | .tok s q=>if t0<=s/\s<t0+10000 then .bM else .tok s q
 | .box id=>if tR dn id then .box id else .bM
 | .bM=>.bM
def qi(i:Nat)(dn:Option Nat):List jL->Option Nat
 | []=>if i=49 then dn else none
 | r::rs=>if r.i=i then some r.id else qi i dn rs
def nW(t0:Nat)(refs:List jL)(dn:Option Nat):dr->dr
 | .tok s q=>if s<10000 then .tok (t0+s) q else .bM
 | .box i=>match qi i dn refs with | some id=>.box id | none=>.bM
 | .bM=>.bM
def D.uA:D->Nat
 | .J k _=>k
 | _=>0
def xv(i:Nat)(ds:List D):List jL->List D
 | []=>ds
 | r::rs=>if r.i=i then r.post else xv i ds rs
def lF(refs:List jL):List (Nat×Nat):=refs.map fun r=>(r.id,r.i)
def zC:List jL->Option Nat->Bool
 | [],_=>true
 | x::r,dn=>decide (x.i<49)&&decide (x.post.length<100)&&decide (dn≠some x.id)&&r.all (fun y=>x.i != y.i&&x.id != y.id)&&zC r dn
variable{id:Nat}
theorem MG{t0:Nat}:∀{refs:List jL} {bs:List (Nat×List aF)},(∀r∈refs,r.id≠id)->dI id (xu t0 refs bs)=dI id bs
 | [],bs,_=>rfl
 | r::rs,bs,h=>by
  simp_all[xu,MG,gI,zy,Ne.symm,hU]
theorem awY{iK:Nat}{ls:List aF}:∀{bs:List (Nat×List aF)},(dI id bs).isSome=true->(dI id (rC iK ls bs)).isSome=true:=by
 intro bs h;by_cases e:id=iK
 ·subst e;obtain⟨x,af⟩:=r2.1 h;rw[zN af];rfl
 grind[zy]
theorem TQ{t0:Nat}:∀{refs:List jL} {bs:List (Nat×List aF)} {r:jL},r∈refs->(∀x∈refs,x.id=r.id->x=r)->(dI r.id bs).isSome=true->dI r.id (xu t0 refs bs)=some (lZ r.e3 (ow (t0+hW r.i 0) 0 r.post))
 | [],_,_,h,_,_=>by cases h
 | x::rs,bs,r,h,hu,ao=>by
  simp only[xu];by_cases hm:r∈rs
  ·exact TQ hm (fun y bD=>hu y (gI _ bD)) (awY ao)
  rcases eH.1 h with e | h
  ·subst e;obtain⟨l,al⟩:=r2.1 ao;grind[MG,zN,gI]
  grind
variable{dn:Option Nat}
theorem ub:∀{refs:List jL},zC refs dn=true->∀{x:jL},x∈refs->x.i<49/\x.post.length<100/\dn≠some x.id/\∀y∈refs,(y.i=x.i->y=x)/\(y.id=x.id->y=x)
 | [],_,x,af=>by cases af
 | z::r,h,x,af=>by
  simp only[zC,cw,ck,gA,bne_iff_ne,l6]at h;obtain⟨⟨⟨⟨h1,U⟩,aA⟩,aJ⟩,a'⟩:=h;rcases eH.1 af with e | o7
  ·subst e;refine⟨h1,U,aA,fun y bD=>?_⟩;rcases eH.1 bD with e | bD
   ·exact⟨fun _=>e,fun _=>e⟩
   exact⟨fun e=>absurd e.symm (aJ y bD).1,fun e=>absurd e.symm (aJ y bD).2⟩
  obtain⟨cS,bt,fP,pa⟩:=ub a' o7;refine⟨cS,bt,fP,fun y bD=>?_⟩;rcases eH.1 bD with e | bD
  ·subst e;exact⟨fun e=>absurd e (aJ x o7).1,fun e=>absurd e (aJ x o7).2⟩
  exact pa y bD
theorem MH:∀{refs:List jL} {r:jL},r∈refs->(∀y∈refs,y.i=r.i->y.id=r.id)->qi r.i dn refs=some r.id
 | [],_,h,_=>by cases h
 | x::rs,r,h,hu=>by
  simp only[qi];split
  ·grind
  rename_i e;rcases eH.1 h with e1 | h
  ·grind
  exact MH h fun y bD=>hu y (gI _ bD)
theorem zD{i:Nat}:∀{refs:List jL},qi i dn refs=some id->(∃r∈refs,r.i=i/\r.id=id)\/(i=49/\dn=some id)
 | [],h=>by
  grind[qi]
 | x::rs,h=>by
  simp only[qi]at h;split at h
  ·rename_i e;exact .inl ⟨x,hU,e,gJ h⟩
  rcases zD h with⟨r,aD,h1⟩ | h1
  ·exact .inl ⟨r,gI _ aD,h1⟩
  exact .inr h1
theorem MI:∀{refs:List jL},(∀r∈refs,r.i<49)->qi 49 dn refs=dn
 | [],_=>by simp[qi]
 | x::rs,h=>by
  simp only[qi];rw[bw (by grind)];exact MI fun r aD=>h r (gI _ aD)
theorem TR{ds:List D}:∀{refs:List jL} {r:jL},r∈refs->(∀y∈refs,y.i=r.i->y=r)->xv r.i ds refs=r.post
 | [],_,h,_=>by cases h
 | x::rs,r,h,hu=>by
  simp only[xv];split
  ·grind
  rename_i e;rcases eH.1 h with e1 | h
  ·grind
  exact TR h fun y bD=>hu y (gI _ bD)
theorem MJ{ds:List D}:∀{refs:List jL},(∀r∈refs,r.i<49)->xv 49 ds refs=ds
 | [],_=>rfl
 | x::rs,h=>by
  simp only[xv];rw[bw (by grind)];exact MJ fun r aD=>h r (gI _ aD)
variable{refs:List jL}
theorem TS(h:zC refs dn=true){r:jL}(aD:r∈refs):look r.id (lF refs)=some r.i:=by
 refine Sw ?_ (lh.2 ⟨r,aD,rfl⟩);unfold ME;rw[gA];intro x af;rw[gA];intro y bD;obtain⟨rx,adq,rfl⟩:=lh.1 af;obtain⟨aBm,adr,rfl⟩:=lh.1 bD;have:=(ub h adq).2.2.2 aBm adr;grind
theorem F8{i:Nat}(h:look id (lF refs)=some i):∃r∈refs,r.id=id/\r.i=i:=by
 obtain⟨r,aD,e⟩:=lh.1 (awX h);grind
def MK(rs:List cP):Bool:=decide (rs.length<50)&&rs.all fun | .one _=>true | .agg ds=>ds.length<100
def aY.fits(dn:Option Nat)(pg:List D):aY->Prop
 | .vals rs=>dn=none/\MK rs=true
 | .iM _ ds=>dn.isSome=true/\pg=ds/\ds.length<100
def aY.ei(v:Value)(n:Nat):aY->Nat×Value
 | .vals rs=>(q8 rs n,oc rs v n)
 | .iM _ _=>(0,undef)
def aY.pq(t0:Nat)(dn:Option Nat):aY->aI
 | .vals rs=>ux t0 rs
 | .iM _ _=>.one (.ptr (dn.getD 0) 0)
theorem cK.abB{w0:eR}{st:aC}{a:Act}{w aP:World}{ω:Own}{τ:Nat->Nat×Value}(a6:cK w0 st a w ω τ)(t0:Nat){nk:List (Option aF)}{pg:List D}{h9:aY}{v:Value}{vs:Array Value}{ys:Nat->Value}{H:Nat->Nat×Value}
  (bW:zC refs dn=true) (jw:t0+10000<=dj) (aw:hd ⟨w,fun b=>hI (lF refs) ts (ω b)≠.bM,H⟩ aP) (fA:Own)
  (mP:∀b,b<w.heap.size->hI (lF refs) ts (ω b)=.bM->fA b=.bM) (me:F6 aP fA)
  (hrefs:∀r∈refs,wH aP fA r.i (l1 r.e3) (hW r.i) r.post (ys r.i)/\(∃b,ys r.i=ptrTo b/\ω b=.box r.id)/\(dI r.id st.boxes).isSome=true) (fl:Ez aP fA vs h9 v) (Fi:h9.fits dn pg) (u3:∀d,dn=some d->d<dj)
  (JY:∀r∈refs,∀(j:Nat) (l:aF),r.e3[j]?=some (some l)->yn ts t0 dn l=l/\Sat w ω τ l (jc aP (ys r.i) j)) (BG:∀(j:Nat) (l:aF),nk[j]?=some (some l)->yn ts t0 dn l=l/\Sat w ω τ l (jc aP v j))
  (Rw:∀src ds,h9=.iM src ds->yq src=l1 nk):
  ∃bf c0,cK w0 (st.yo ts t0 refs dn nk pg) a aP bf c0/\cV (Sat aP bf c0) (h9.pq t0 dn) v:=by
 classical
 let bf:Own:=fun b=>if b<w.heap.size/\hI (lF refs) ts (ω b)=.bM then qn t0 dn (ω b) else nW t0 refs dn (fA b)
 let aE:Nat->Nat×Value:=fun n=>if n<5000 then h9.ei v n else
  ((((xv ((n-5000) / 100) pg refs)[(n-5000) % 100]?).map D.uA).getD 0,jc aP (if (n-5000) / 100=49 then v else ys ((n-5000) / 100)) ((n-5000) % 100))
 let c0:Nat->Nat×Value:=fun s=>if t0<=s/\s<t0+10000 then aE (s-t0) else τ s
 have BA:∀r∈refs,r.i<49:=fun r aD=>(ub bW aD).1
 have hold:∀b,b<w.heap.size->hI (lF refs) ts (ω b)=.bM->bf b=qn t0 dn (ω b):=fun b h1 U=>by grind
 have ho:∀b,fA b≠.bM->bf b=nW t0 refs dn (fA b):=fun b h=>by
  grind
 have hblk:∀b,b<w.heap.size->hI (lF refs) ts (ω b)=.bM->aP.heap[b]?=w.heap[b]?:=fun b h1 U=>aw.block b h1 (fun aZ=>aZ U)
 have Fl:∀r∈refs,∀b,ω b=.box r.id->fA b=.box r.i/\ys r.i=ptrTo b:=by
  intro r aD b dk;obtain⟨⟨fb,arr,ty,h1,U,_⟩,⟨fY,aA,aJ⟩,a'⟩:=hrefs r aD;obtain⟨ls,wV⟩:=r2.1 a';obtain⟨r8,_,_,_,hu,_⟩:=a6.boxes r.id ls wV;have e1:=hu b dk;have e2:=hu fY aJ;have cj:fY=b:=by rw[e1,e2]
  subst cj;rw[aA]at h1;simp only[ptrTo,Value.pointer.injEq,aX,Addr.mk.injEq]at h1;grind
 have zr:∀id b,tR dn id=true->ω b=.box id->bf b=.box id:=by
  intro id b hp dk;have bS:=a6.owned.lt (b:=b) (by simp[dk]);cases e:look id (lF refs) with
  | none=>
   simp_all[hI,lF,qn,gj]
  | some i=>
   obtain⟨r,aD,rfl,rfl⟩:=F8 e;grind[nW,MH,ub]
 have bq:mI w ω τ aP bf c0 (Cl ts t0) (tR dn):=by
  refine⟨?_,?_,fun id b hp h=>zr id b hp h,?_,fun s ao=>by simp only[c0];rw[bw (by omega)]⟩
  ·intro g eI b q ax bS aH;unfold Cl at ax;split at ax
   ·cases ax
   rename_i hm;simp only[wu]at hm;have hi:hI (lF refs) ts (ω b)=.bM:=by
    cases g with
    | free=>simp only[Tag.R]at aH;rw[aH];rfl
    | own s=>
     grind[Tag.R,Tag.qm,IN,IP,hI]
    | ro s=>
     simp only[Tag.qm,IN,IP]at hm;rcases aH with h | ⟨ec,h⟩
     ·rw[h];rfl
     grind[hI]
   refine⟨?_,hblk b bS hi⟩;rw[hold b bS hi];cases g with
   | free=>simp only[gX,aX]at ax;subst ax;simp only[Tag.R]at aH ⊢;rw[aH];rfl
   | own s=>
    simp only[Tag.R]at aH;simp only[gX]at ax;rw[aH];simp only[qn];split at ax
    ·simp only[aX]at ax;subst ax;rw[bn ‹_›];rfl
    simp only[aX]at ax;subst ax;rw[bw ‹_›];rfl
   | ro s=>
    simp only[Tag.R]at aH;simp only[gX]at ax;split at ax
    ·simp only[aX]at ax;subst ax;rcases aH with h | ⟨ec,h⟩
     ·rw[h];rfl
     rw[h];simp only[qn];rw[bn ‹_›];rfl
    simp only[aX]at ax;subst ax;rcases aH with h | ⟨ec,h⟩
    ·rw[h];exact .inl rfl
    rw[h];simp only[qn];rw[bw ‹_›];exact .inr ⟨ec,rfl⟩
  ·intro g eI y ax bD;unfold Cl at ax;split at ax
   ·cases ax
   cases g with
   | free=>simp only[gX,aX]at ax;subst ax;exact trivial
   | own s=>
    simp only[gX]at ax;split at ax
    ·simp only[aX]at ax;subst ax;exact trivial
    simp only[aX]at ax;subst ax;simp only[Tag.ei,c0]at bD ⊢;simp_all[bw]
   | ro s=>
    simp only[gX]at ax;split at ax
    ·simp only[aX]at ax;subst ax;exact trivial
    simp only[aX]at ax;subst ax;exact trivial
  rfl
 have cell:∀(n:Nat) (d:D) (u:Value),n<10000->aE n=(d.uA,u)->b4 aP fA (Tag.own n).R d u->Sat aP bf c0 (d.qz (t0+n)) u:=by
  intro n d u aZ bI aD;cases d with
  | v x=>
   have e:u=x:=by cases aD;rfl
   subst e;unfold D.qz;split
   ·rename_i h;cases h;exact rfl
   ·rename_i h;cases h;exact rfl
   ·grind
   ·exact trivial
   grind
  | ptr ds=>exact trivial
  | cl g bj=>exact trivial
  | J k es=>
   refine⟨aD.frame fun b q bS aH=>⟨?_,rfl⟩,?_⟩
   ·simp_all[Tag.R,nW,bn]
   simp only[Tag.ei,c0];rw[bn (by omega),show t0+n-t0=n by omega,bI];rfl
 have var:∀(i:Nat) (post:List D) (y:Value) (id:Nat) (cT:List (Option aF)),i<50->post.length<100->xv i pg refs=post->(if i=49 then v else ys i)=y->wH aP fA i (l1 cT) (hW i) post y->qi i dn refs=some id->(∀(j:Nat) (l:aF),cT[j]?=some (some l)->yn ts t0 dn l=l/\Sat w ω τ l (jc aP y j))->
   (∀dD f',qi f' dn refs=some id->fA dD=.box f'->f'=i)->(∀dD,ω dD=.box id->tR dn id=true->¬hI (lF refs) ts (ω dD)=.bM)->uJ aP bf c0 id (lZ cT (ow (t0+hW i 0) 0 post))/\∃b,y=ptrTo b/\bf b=.box id:=by
  rintro i post y id cT hi RD adk bD ⟨b,arr,ty,rfl,U,aA,aJ,a',bu⟩ hx acT aDd iJ;have ey:bf b=.box id:=by
   grind[nW]
  refine⟨⟨b,arr,ty,ey,fun dD dk=>?_,aJ,by grind[F7,zA],fun j l al=>?_⟩,b,rfl,ey⟩
  ·by_cases ak:dD<w.heap.size/\hI (lF refs) ts (ω dD)=.bM
   ·rw[hold dD ak.1 ak.2]at dk;cases e:ω dD with
    | bM=>rw[e]at dk;cases dk
    | tok s q=>grind[qn]
    | box iK=>
     grind[qn,dr.box.injEq,absurd]
   have oa:nW t0 refs dn (fA dD)=.box id:=by
    grind
   cases e:fA dD with
   | bM=>rw[e]at oa;cases oa
   | tok s q=>grind[nW]
   | box f'=>
    grind[nW,dr.box.injEq]
  have kD:j<(lZ cT (ow (t0+hW i 0) 0 post)).length:=(gk.1 al).1;rw[F7,zA]at kD;rcases MF cT _ j l al with⟨al,_⟩ | ⟨al,J2⟩
  ·obtain⟨u,hu,_⟩:=bu j _ (iD kD);obtain⟨g1,g2⟩:=acT j l al;refine⟨u,hu,?_⟩;have e:jc aP (ptrTo b) j=u:=by simp[jc,ptrTo,aJ,e7,hu]
   rw[e]at g2;have:=bq.sat l u g2;grind
  rw[Ce,b9]at al;obtain⟨d,eN,rfl⟩:=al;obtain⟨u,hu,aD⟩:=bu j d eN;replace aD:=aD J2;have bk:j<100:=by
   grind
  refine⟨u,hu,?_⟩;have:=cell (hW i j) d u (by grind[hW]) (by
   have e1:(hW i j-5000) / 100=i:=by grind[hW]
   have e2:(hW i j-5000) % 100=j:=by grind[hW]
   simp only[aE];rw[bw (by grind[hW]),e1,e2,adk,eN,bD];simp[jc,ptrTo,aJ,e7,hu]) aD
  rw[show t0+hW i 0+(0+j)=t0+hW i j by grind[hW]];exact this
 have aDw:∀r∈refs,uJ aP bf c0 r.id (lZ r.e3 (ow (t0+hW r.i 0) 0 r.post)):=by
  intro r aD;obtain⟨h1,U,aA,aJ⟩:=ub bW aD;refine (var r.i r.post (ys r.i) r.id r.e3 (by omega) U (TR aD fun y bD e=>(aJ y bD).1 e) (by grind) (hrefs r aD).1 (MH aD fun y bD e=>by grind) (JY r aD) (fun dD f' e _=>?_) (fun dD e _=>?_)).1
  ·grind[zD,absurd]
  grind[hI,TS]
 have tB:∀id ls,dI id (st.yo ts t0 refs dn nk pg).boxes=some ls->uJ aP bf c0 id ls:=by
  intro id ls al;have rest:∀id ls,dn≠some id->dI id (xu t0 refs (st.boxes.map fun x=>(x.1,x.2.map (yn ts t0 dn))))=some ls->uJ aP bf c0 id ls:=by
   intro id ls o1 al;by_cases aD:∃r∈refs,r.id=id
   ·obtain⟨r,aD,rfl⟩:=aD;rw[TQ aD (fun y bD e=>((ub bW aD).2.2.2 y bD).2 e) (by
     rw[tZ];grind)]at al
    grind
   have e8:∀r∈refs,r.id≠id:=fun r h1 U=>aD ⟨r,h1,U⟩
   rw[MG e8,tZ,b9]at al;obtain⟨jY,bO,rfl⟩:=al;obtain⟨b,arr,ty,h1,U,aA,aJ⟩:=a6.boxes id jY bO;have hp:tR dn id=true:=by
    unfold tR;split
    ·rfl
    simp only[ko,ck];grind
   have bS:=a6.owned.lt (b:=b) (by simp[h1]);have lp:look id (lF refs)=none:=by
    cases e:look id (lF refs) with
    | none=>rfl
    | some i=>
     grind[F8,absurd]
   have hi:hI (lF refs) ts (ω b)=.bM:=by grind[hI]
   refine⟨b,arr,ty,zr id b hp h1,fun dD dk=>?_,(hblk b bS hi).trans aA,aJ.map bq.sat⟩;by_cases ak:dD<w.heap.size/\hI (lF refs) ts (ω dD)=.bM
   ·rw[hold dD ak.1 ak.2]at dk;cases e:ω dD with
    | bM=>rw[e]at dk;cases dk
    | tok s q=>grind[qn]
    | box iK=>
     grind[qn,dr.box.injEq]
   have oa:nW t0 refs dn (fA dD)=.box id:=by
    grind
   cases e:fA dD with
   | bM=>rw[e]at oa;cases oa
   | tok s q=>grind[nW]
   | box f'=>
    grind[nW,dr.box.injEq,zD,absurd]
  simp only[aC.yo,Sy]at al;cases dn with
  | none=>grind
  | some d=>
   simp only[dI]at al;by_cases aE:d=id
   ·subst aE;rw[bn rfl]at al;rw[<-gJ al];cases h9 with
    | vals rs=>exact absurd Fi.1 (by simp)
    | iM src ds=>
     obtain⟨_,rfl,hlen⟩:=Fi;obtain⟨fl,_⟩:=fl;rw[Rw _ _ rfl]at fl;refine (var 49 pg v d nk (by omega) hlen (MJ BA) (bn rfl) fl (MI BA) BG (fun dD f' e _=>?_) (fun dD _ e=>?_)).1
     ·grind[zD,absurd,ub]
     simp[tR,ko]at e
   rw[bw aE,zI (fun e=>aE e.symm)]at al;grind
 refine⟨bf,c0,⟨a6.defers,by simp[aC.yo,a6.size],?_,?_,fun s ao=>?_,fun id b hi dk=>?_,?_,tB⟩,?_⟩
 ·refine⟨aw.os.trans a6.below.os,aw.tape.trans a6.below.tape,aw.output.trans a6.below.output,mF a6.below.size aw.size,fun b bS ax=>?_,fun ao=>mF (a6.below.drawn ao) (aw.drawn ao),aw.laid,a6.below.free⟩;have kj:b<w.heap.size:=AT bS a6.below.size;have q':ω b=.bM:=by
   cases e:ω b with
   | bM=>rfl
   | box id=>exact absurd (a6.owned b (by simp[e])).1 (fun h=>h.elim (fun h=>by omega) ax)
   | tok s q=>exact absurd (a6.owned b (by simp[e])).1 (fun h=>h.elim (fun h=>by omega) ax)
  exact (hblk b kj (by rw[q'];rfl)).trans (a6.below.block b bS ax)
 ·intro b gu;by_cases ak:b<w.heap.size/\hI (lF refs) ts (ω b)=.bM
  ·rw[hold b ak.1 ak.2]at gu;have U:ω b≠.bM:=fun e=>by rw[e]at gu;exact gu rfl
   obtain⟨aA,arr,ty,aJ⟩:=a6.owned b U;grind
  have U:fA b≠.bM:=fun e=>by
   simp only[bf]at gu;rw[bw ak,e]at gu;exact gu rfl
  obtain⟨arr,ty,aJ⟩:=me b U;refine⟨?_,arr,ty,aJ⟩;by_cases bS:b<w.heap.size
  ·have a':ω b≠.bM:=fun e=>ak ⟨bS,by rw[e];rfl⟩
   exact (a6.owned b a').1
  exact .inl (by have:=a6.below.size;omega)
 ·have:c0 s=τ s:=by simp only[c0];rw[bw (by omega)]
  rw[this];exact a6.fixed s ao
 ·by_cases ak:b<w.heap.size/\hI (lF refs) ts (ω b)=.bM
  ·rw[hold b ak.1 ak.2]at dk;cases e:ω b with
   | bM=>rw[e]at dk;cases dk
   | tok s q=>grind[qn]
   | box iK=>
    rw[e]at dk;simp only[qn]at dk;split at dk
    ·simp only[dr.box.injEq]at dk;subst dk;exact a6.pinned iK b hi e
    cases dk
  have oa:nW t0 refs dn (fA b)=.box id:=by
   grind
  cases e:fA b with
  | bM=>rw[e]at oa;cases oa
  | tok s q=>grind[nW]
  | box f'=>
   rw[e]at oa;simp only[nW]at oa;split at oa
   ·rename_i iK e2;simp only[dr.box.injEq]at oa;subst oa;rcases zD e2 with⟨r,a',rfl,rfl⟩ | ⟨_,bu⟩
    ·obtain⟨⟨fb,arr,ty,g1,g2,g3,_⟩,⟨fY,g4,g5⟩,_⟩:=hrefs r a';have cj:=g3 b e;rw[g4]at g1;simp only[ptrTo,Value.pointer.injEq,aX,Addr.mk.injEq]at g1;rw[cj,<-g1.1];exact a6.pinned r.id fY hi g5
    grind
   cases oa
 ·intro i q aH;simp only[aC.yo]at aH;rw[dK,b9]at aH;obtain⟨gE,bO,rfl⟩:=aH;obtain⟨u,h1,U⟩:=a6.env i gE bO;exact⟨u,h1,cV.map bq.sat U⟩
 cases h9 with
 | iM src ds=>
  obtain⟨o1,rfl,hlen⟩:=Fi;obtain⟨d,rfl⟩:=r2.1 o1;obtain⟨fl,_⟩:=fl;rw[Rw _ _ rfl]at fl;obtain⟨b,h1,U⟩:=(var 49 pg v d nk (by omega) hlen (MJ BA) (bn rfl) fl (MI BA) BG (fun dD f' e _=>by
   grind[zD,absurd,ub]) (fun dD _ e=>by simp[tR,ko]at e)).2
  exact⟨b,U,h1⟩
 | vals rs=>
  obtain⟨rfl,er⟩:=Fi;simp only[MK,cw,ck]at er;have fc:∀(r:Nat) (cy:cP),rs[r]?=some cy->∀ds,cy=.agg ds->ds.length<100:=by
   intro r cy aD ds e;have:=gA.1 er.2 cy (gb aD);grind
  have uP:∀(r:Nat) (cy:cP) (y:Value),r<50->(∀ds,cy=.agg ds->ds.length<100)->rs[r]?=some cy->(∀j,j<100->oc rs v (100*r+j)=y.cells.getD j undef)->mW aP fA r cy y->kZ (Sat aP bf c0) (cy.res (t0+100*r)) y:=by
   intro r cy y aD fc BN bI o0;have hn:∀j,j<100->q8 rs (100*r+j)=(match cP.cell j cy with | some (.J k _)=>k | _=>0):=by
    intro j bk;unfold q8;rw[show (100*r+j) / 100=r by omega,show (100*r+j) % 100=j by omega,BN];rfl
   have RK:∀d:D,(match some d with | some (.J k _)=>k | _=>0)=d.uA:=fun d=>by cases d<;>rfl
   cases cy with
   | one d=>
    have h1:=o0.qo;have U:=bI 0 (by omega);rw[Cq h1]at U;have:=cell (100*r) d y (by omega) (by
     simp only[aE,aY.ei];rw[bn (by omega)];have aA:=hn 0 (by omega);rw[oI]at U aA;rw[aA,U];simp only[cP.cell,gj];rw[RK];rfl) o0
    exact this
   | agg ds=>
    obtain⟨vs,rfl,aZ,bk⟩:=o0;refine⟨vs,rfl,by grind[zA],fun j l al=>?_⟩;rw[Ce,b9]at al;obtain⟨d,eN,rfl⟩:=al;obtain⟨u,hu,BO⟩:=bk j d eN;have kD:j<100:=by
     grind
    refine⟨u,hu,?_⟩;have:=cell (100*r+j) d u (by omega) (by
     simp only[aE,aY.ei];rw[bn (by omega),hn j kD,bI j kD];simp only[cP.cell,eN];rw[RK];simp[Value.cells,e7,hu]) BO
    grind
  show cV (Sat aP bf c0) (ux t0 rs) v;cases rs with
  | nil=>
   obtain⟨vs,rfl,aZ,_⟩:=fl;exact⟨vs,rfl,aZ,fun i a ai=>by grind[rD]⟩
  | cons cy rest=>
   cases rest with
   | nil=>
    have:=uP 0 cy v (by omega) (fc 0 cy rfl) rfl (fun j bk=>by
     unfold oc;grind) fl
    exact this
   | cons QH rest=>
    obtain⟨vs,rfl,aZ,bI⟩:=fl;refine⟨vs,rfl,by grind[FW],fun i a ai=>?_⟩;rw[FV,b9]at ai;obtain⟨oQ,h1,rfl⟩:=ai;obtain⟨y,bD,Bx⟩:=bI i oQ h1;have ki:i<50:=by
     grind
    refine⟨y,bD,?_⟩;have:=uP i oQ y ki (fc i oQ h1) h1 (fun j bk=>by
     unfold oc;simp only;rw[show (100*i+j) / 100=i by omega,show (100*i+j) % 100=j by omega];simp[e7,bD]) Bx
    grind
end Go.Sx
namespace Go.Sx
open Go.RowKit
def aF.qm(ts:List (Nat×Nat)):aF->Bool
 | .J g _ _=>g.qm ts
 | .aN t _ _ _ _ _=>(look t ts).isSome
 | _=>false
variable{w:World}{ω:Own}{τ:Nat->Nat×Value}{l:aF}
theorem TT{bs ts:List (Nat×Nat)}{d:D}{y:Value}(h:l.gS=some d)(hm:l.qm ts=false)(ao:Sat w ω τ l y):
  b4 w (fun b=>hI bs ts (ω b)) Tag.free.R d y:=by
 have tag:∀(g:Tag) (b:Nat) (q:List (Nat×Nat)),g.qm ts=false->g.R q (ω b)->hI bs ts (ω b)=.bM:=by
  intro g b q ax aH;cases g with
  | free=>simp only[Tag.R]at aH;rw[aH];rfl
  | own s=>
   grind[Tag.R,Tag.qm,IN,IP,hI]
  | ro s=>
   simp only[Tag.qm,IN,IP]at ax;rcases aH with h | ⟨ec,h⟩
   ·rw[h];rfl
   grind[hI]
 cases l with
 | cp=>cases h
 | v x=>
  simp only[aF.gS]at h;split at h
  ·simp only[aX]at h;subst h;have:y=x:=ao;subst this;exact .v _ _ ‹_›
  cases h
 | bg c=>
  simp only[aF.gS,aX]at h;subst h;have:y=.bool c:=ao;subst this;exact .v _ _ rfl
 | J t k es=>simp only[aF.gS,aX]at h;subst h;exact ao.1.frame fun b q _ aH=>⟨tag t b q hm aH,rfl⟩
 | ptr=>cases h
 | ep=>cases h
 | hg=>cases h
 | fD=>cases h
 | hQ ds off=>
  simp only[aF.gS]at h;split at h
  ·rename_i a7;subst a7;simp only[aX]at h;subst h;obtain⟨b,rfl,aD⟩:=ao;exact aD.frame fun b q _ aH=>⟨tag .free b q rfl aH,rfl⟩
  cases h
 | fd dP=>simp only[aF.gS,aX]at h;subst h;exact b4.frame ao fun b q _ aH=>⟨tag .free b q rfl aH,rfl⟩
 | dA t k es=>simp only[aF.gS,aX]at h;subst h;exact b4.frame ao.1 fun b q _ aH=>⟨tag .free b q rfl aH,rfl⟩
 | aN t i j k es m=>
  obtain⟨u,hu,aD,_⟩:=ao;have fin:y=u->b4 w (fun b=>hI bs ts (ω b)) Tag.free.R (.J k es) y:=by
   intro e;rw[e];exact aD.frame fun b q _ aH=>⟨tag (.own t) b _ hm aH,rfl⟩
  cases m with
  | at_ x z=>cases h
  | here=>simp only[aF.gS,aX]at h;subst h;exact fin hu
  | mJ=>simp only[aF.gS,aX]at h;subst h;exact fin hu
def aI.EE:aI->Option (cP×List aF)
 | .aG (.one l)=>l.gS.map fun d=>(.one d,[l])
 | .aG (.agg ls)=>(ls.mapM aF.gS).map fun ds=>(.agg ds,ls)
 | _=>none
def xw(i:Nat):Nat->List aF->List (Nat×Nat)
 | _,[]=>[]
 | j,l::ls=>match l.tok with | some t=>(t,rU i j)::xw i (j+1) ls | none=>xw i (j+1) ls
theorem TU{i:Nat}:∀{ls:List aF} {j0 j:Nat} {l:aF} {t:Nat},ls[j]?=some l->l.tok=some t->(t,rU i (j0+j))∈xw i j0 ls
 | [],_,_,_,_,h,_=>by simp at h
 | eF::ls,j0,0,l,t,h,bG=>by
  grind[xw,hU]
 | eF::ls,j0,j+1,l,t,h,bG=>by
  have:=TU (i:=i) (ls:=ls) (j0:=j0+1) (j:=j) (by simpa using h) bG;grind[xw,gI]
def rz:aF->Option aF
 | .dA t k es=>some (.dA t k es)
 | .J .free k es=>some (.J .free k es)
 | _=>none
def uc(ls:List aF):List (Option aF):=if (ls.map rz).all Option.isNone then [] else ls.map rz
def aF.HY(l:aF):Option D:=match rz l with | some l=>l.gS | none=>l.jn
theorem Cm{gV:aF}(h:rz l=some gV):gV=l/\(∀ts t0 dn,yn ts t0 dn l=l)/\∃k es,l.gS=some (.J k es)/\∀{w ω τ y},Sat w ω τ l y->b4 w ω Tag.free.R (.J k es) y:=by
 unfold rz at h;split at h
 ·rename_i t k es;cases h;exact⟨rfl,fun _ _ _=>rfl,k,es,rfl,fun ao=>ao.1⟩
 ·rename_i k es;cases h;exact⟨rfl,fun _ _ _=>by simp[aF.cM,Cl,Tag.qm,gX],k,es,rfl,fun ao=>ao.1⟩
 cases h
theorem awZ{ls:List aF}{j:Nat}(h:(uc ls)[j]?=some (some l)):ls[j]?=some l/\rz l=some l:=by
 grind[uc,b9,Cm]
theorem ML{ls:List aF}{j:Nat}(al:ls[j]?=some l):stays (l1 (uc ls)) j=(rz l).isSome:=by
 unfold uc;split
 ·rename_i h;have:=gA.1 h (rz l) (lh.2 ⟨l,gb al,rfl⟩);simp only[stays,l1,List.map_nil,List.getD_nil];simp_all
 simp_all[stays,l1,List.map_map]
def w9(cz:List aI):List (Option Nat)->Option (List (Option aF))
 | []=>some []
 | none::r=>(w9 cz r).map fun x=>none::x
 | some a::r=>
  match cz[a]? with
  | some (.aG (.one l))=>
   match rz l,w9 cz r with
   | some gV,some nN=>some (some gV::nN)
   | _,_=>none
  | _=>none
theorem F9{cz:List aI}:∀{src:List (Option Nat)} {nk:List (Option aF)},w9 cz src=some nk->yq src=l1 nk/\∀(j:Nat) (l:aF),nk[j]?=some (some l)->∃a,src[j]?=some (some a)/\cz[a]?=some (.aG (.one l))/\rz l=some l
 | [],nk,h=>by
  simp only[w9,aX]at h;subst h;exact⟨rfl,fun j l h=>by simp at h⟩
 | none::r,nk,h=>by
  simp only[w9,b9]at h;obtain⟨x,h1,rfl⟩:=h;obtain⟨g1,g2⟩:=F9 h1;grind[yq,l1]
 | some a::r,nk,h=>by
  simp only[w9]at h;split at h
  ·rename_i l e;split at h
   ·rename_i gV nN e1 e2;simp only[aX]at h;subst h;obtain⟨g1,g2⟩:=F9 e2;have:=(Cm e1).1;subst this;refine⟨by grind[yq,l1],fun j l bk=>?_⟩;grind
   cases h
  cases h
def Zo:aI->Option Nat
 | .aG (.one (.ptr id 0))=>some id
 | _=>none
structure Et where
 pK:List aM
 refs:List jL
 ts:List (Nat×Nat)
 qA:List aF
def tq:aI->Option (FuncId×List Nat)
 | .aG (.one (.hg g ids))=>some (g,ids)
 | _=>none
def Sl(id:Nat):aI:=.aG (.one (.ptr id 0))
def qO(bs:mH):Nat->List (Option (List D))->List aI->Option Et
 | _,[],[]=>some ⟨[],[],[],[]⟩
 | i,none::ms,p::cz=>
  match tq p with
  | some (g,ids)=>(qO bs (i+1) ms cz).map fun r=>⟨.fn g (List.range' (i+1) ids.length)::r.pK,r.refs,r.ts,r.qA⟩
  | none=>
   match p.EE,qO bs (i+1) ms cz with
   | some (cy,ls),some r=>some ⟨.ro cy::r.pK,r.refs,r.ts,ls++r.qA⟩
   | _,_=>none
 | i,some post::ms,p::cz=>
  match Zo p,qO bs (i+1) ms cz with
  | some id,some r=>
   match dI id bs with
   | some ls=>
    match ls.mapM aF.HY with
    | some pre=>some ⟨.jk (l1 (uc ls)) pre post::r.pK,⟨i,id,post,uc ls⟩::r.refs,xw i 0 ls++r.ts,r.qA⟩
    | none=>none
   | none=>none
  | _,_=>none
 | _,_,_=>none
def Eu(bs:mH)(a:Et)(i:Nat)(j8:aM)(p:aI):Prop:=
 (∃g ids,j8=.fn g (List.range' (i+1) ids.length)/\p=.aG (.one (.hg g ids)))\/
 (∃cy ls,j8=.ro cy/\p.EE=some (cy,ls)/\∀l∈ls,l∈a.qA)\/
 (∃id ls pre post,j8=.jk (l1 (uc ls)) pre post/\p=.aG (.one (.ptr id 0))/\dI id bs=some ls/\ls.mapM aF.HY=some pre/\(⟨i,id,post,uc ls⟩:jL)∈a.refs/\∀x∈xw i 0 ls,x∈a.ts)
theorem Eu.mono{bs:mH}{a b:Et}{i:Nat}{j8:aM}{p:aI}(h:Eu bs a i j8 p)(h1:∀l∈a.qA,l∈b.qA)(U:∀x∈a.refs,x∈b.refs)(aA:∀x∈a.ts,x∈b.ts):Eu bs b i j8 p:=by
 rcases h with h | ⟨cy,ls,e1,e2,cj⟩ | ⟨id,ls,pre,post,e1,e2,cj,d',hj,k2⟩
 ·exact .inl h
 ·exact .inr (.inl ⟨cy,ls,e1,e2,fun l al=>h1 l (cj l al)⟩)
 exact .inr (.inr ⟨id,ls,pre,post,e1,e2,cj,d',U _ hj,fun x af=>aA x (k2 x af)⟩)
theorem F'{bs:mH}:∀{ms:List (Option (List D))} {cz:List aI} {i:Nat} {a:Et},qO bs i ms cz=some a->a.pK.length=cz.length/\
  (∀(x:Nat) (j8:aM),a.pK[x]?=some j8->∃p,cz[x]?=some p/\Eu bs a (i+x) j8 p)/\
  (∀r∈a.refs,∃(x:Nat) (pre:List D),r.i=i+x/\a.pK[x]?=some (.jk (l1 r.e3) pre r.post)/\cz[x]?=some (.aG (.one (.ptr r.id 0)))/\∃ls,dI r.id bs=some ls/\r.e3=uc ls)
 | [],[],i,a,h=>by
  simp only[qO,aX]at h;grind
 | none::ms,p::cz,i,a,h=>by
  simp only[qO]at h;split at h
  ·rename_i g ids bE;rw[b9]at h;obtain⟨r,e2,rfl⟩:=h;obtain⟨dm,cS,bt⟩:=F' e2;have hp:p=.aG (.one (.hg g ids)):=by
    unfold tq at bE;grind
   refine⟨by simp[dm],fun x j8 af=>?_,fun y bD=>?_⟩
   ·cases x with
    | zero=>
     simp only[mE,aX]at af;subst af;exact⟨p,rfl,.inl ⟨g,ids,rfl,hp⟩⟩
    | succ x=>
     obtain⟨ry,h1,U⟩:=cS x j8 (by grind);refine⟨ry,by grind,?_⟩;rw[show i+1+x=i+(x+1) by omega]at U;exact U.mono (fun _ h=>h) (fun _ h=>h) (fun _ h=>h)
   obtain⟨x,pre,h1,U,aA,aJ⟩:=bt y bD;exact⟨x+1,pre,by omega,by grind,by grind,aJ⟩
  split at h
  ·rename_i cy ls r e1 e2;simp only[aX]at h;subst h;obtain⟨dm,cS,bt⟩:=F' e2;refine⟨by simp[dm],fun x j8 af=>?_,fun y bD=>?_⟩
   ·cases x with
    | zero=>
     simp only[mE,aX]at af;subst af;exact⟨p,rfl,.inr (.inl ⟨cy,ls,rfl,e1,fun l al=>hD _ al⟩)⟩
    | succ x=>
     obtain⟨ry,h1,U⟩:=cS x j8 (by grind);refine⟨ry,by grind,?_⟩;rw[show i+1+x=i+(x+1) by omega]at U;exact U.mono (fun l al=>iC _ al) (fun _ h=>h) (fun _ h=>h)
   obtain⟨x,pre,h1,U,aA,aJ⟩:=bt y bD;exact⟨x+1,pre,by omega,by grind,by grind,aJ⟩
  cases h
 | some post::ms,p::cz,i,a,h=>by
  simp only[qO]at h;split at h
  ·rename_i id r e1 e2;split at h
   ·rename_i ls cj;split at h
    ·rename_i pre d';simp only[aX]at h;subst h;obtain⟨dm,cS,bt⟩:=F' e2;have hp:p=.aG (.one (.ptr id 0)):=by
      unfold Zo at e1;grind
     refine⟨by simp[dm],fun x j8 af=>?_,fun y bD=>?_⟩
     ·cases x with
      | zero=>
       simp only[mE,aX]at af;subst af;exact⟨p,rfl,.inr (.inr ⟨id,ls,pre,post,rfl,hp,cj,d',hU,fun x af=>hD _ af⟩)⟩
      | succ x=>
       obtain⟨ry,h1,U⟩:=cS x j8 (by grind);refine⟨ry,by grind,?_⟩;rw[show i+1+x=i+(x+1) by omega]at U;exact U.mono (fun _ h=>h) (fun x h=>gI _ h) (fun x h=>iC _ h)
     rcases eH.1 bD with rfl | bD
     ·grind
     obtain⟨x,FC,h1,U,aA,aJ⟩:=bt y bD;exact⟨x+1,FC,by omega,by grind,by grind,aJ⟩
    cases h
   cases h
  cases h
 | [],_::_,i,a,h=>by grind[qO]
 | none::_,[],i,a,h=>by grind[qO]
 | some _::_,[],i,a,h=>by grind[qO]
def aY.Jg(d:Option Nat):aY->Bool
 | .vals rs=>MK rs
 | .iM _ ds=>d.isSome&&decide (ds.length<100)
def aY.dn(d:Option Nat):aY->Option Nat
 | .vals _=>none
 | .iM _ _=>d
def aY.pg:aY->List D
 | .vals _=>[]
 | .iM _ ds=>ds
def aY.nk(cz:List aI):aY->Option (List (Option aF))
 | .vals _=>some []
 | .iM src _=>w9 cz src
theorem aY.abL{d:Option Nat}{r:aY}(h:r.Jg d=true):r.fits (r.dn d) r.pg:=by
 cases r with
 | vals rs=>exact⟨rfl,h⟩
 | iM src ds=>
  simp only[aY.Jg,cw,ck]at h;exact⟨h.1,rfl,h.2⟩
def vt(n:Nat):Nat->List aM->Bool
 | _,[]=>true
 | i,.fn _ _::r=>i+1==n&&vt n (i+1) r
 | i,_::r=>vt n (i+1) r
theorem Ga{n:Nat}:∀{as:List aM} {i x:Nat} {g:FuncId} {cT:List Nat},vt n i as=true->as[x]?=some (.fn g cT)->i+x+1=n
 | [],_,_,_,_,_,h=>by simp at h
 | .fn _ _::r,i,0,g,cT,h,af=>by
  simp_all[vt,cw,ka]
 | .fn _ _::r,i,x+1,g,cT,h,af=>by
  simp only[vt,cw,ka]at h;have:=Ga h.2 (x:=x) (by simpa using af);omega
 | .ro _::r,i,0,g,cT,h,af=>by simp at af
 | .jk _ _ _::r,i,0,g,cT,h,af=>by simp at af
 | .ro _::r,i,x+1,g,cT,h,af=>by
  have:=Ga (i:=i+1) (by simpa[vt]using h) (x:=x) (by simpa using af);omega
 | .jk _ _ _::r,i,x+1,g,cT,h,af=>by
  have:=Ga (i:=i+1) (by simpa[vt]using h) (x:=x) (by simpa using af);omega
def Cn(P:Program)(st:aC)(d:Option Nat)(f:FuncId)(n:Nat)(cz:List aI)(ans:List cd):Option (aC×List cd×List Prop):=
 match ans with
 | .dN w' h9::r=>
  match qO st.boxes 0 w' cz,h9.nk cz with
  | some a,some nk=>
   let t0:=10000*(d.getD 0+1)
   if gM P f=true/\t0+10000<=dj/\zC a.refs (h9.dn d)=true/\ME a.ts=true/\h9.Jg d=true/\a.qA.all (fun l=>!(l.qm a.ts))=true/\uw a.pK=n/\vt n 0 a.pK=true then
    let bz:=st.yo a.ts t0 a.refs (h9.dn d) nk h9.pg
    match d with
    | some d=>some (⟨bz.env.set d (h9.pq t0 (h9.dn (some d))),bz.boxes⟩,r,[b2 P f a.pK h9])
    | none=>some (bz,r,[b2 P f a.pK h9])
   else none
  | _,_=>none
 | _=>none
def MN(P:Program)(st:aC)(d:Option Nat)(f:FuncId)(args:List Operand)(ans:List cd):Option (aC×List cd×List Prop):=
 match (args.map st.bq).getLast?.bind tq with
 | some (_,ids)=>Cn P st d f args.length (args.map st.bq++ids.map Sl) ans
 | none=>Cn P st d f args.length (args.map st.bq) ans
def MO(P:Program)(st:aC)(d:Option Nat)(f:Operand)(args:List Operand)(ans:List cd):Option (aC×List cd×List Prop):=
 match tq (st.bq f) with
 | some (g,ids)=>if (args.map st.bq).all (fun p=>(tq p).isNone) then Cn P st d g (args.length+ids.length) (args.map st.bq++ids.map Sl) ans else none
 | none=>none
variable{a:Act}{P:Program}{w0:eR}{st bz:aC}{dst:Option Nat}{ans cu:List cd}{obs:List Prop}
theorem MP{f:FuncId}{n:Nat}{cz:List aI}{vs:Array Value}{o:Oper}
  (JM:o.dst=dst) (a6:cK w0 st a w ω τ) (h:Cn P st dst f n cz ans=some (bz,cu,obs)) (a7:cQ obs) (dM:vs.size=cz.length) (hy:∀(x:Nat) (p:aI),cz[x]?=some p->∃v,vs[x]?=some v/\cV (Sat w ω τ) p v)
  (mg:∀(x:Nat) (g:FuncId) (ids:List Nat),x+1=n->cz[x]?=some (.aG (.one (.hg g ids)))->vs[x]?=some (.func (.func g) #[] ((List.range' n ids.length).map fun k=>vs.getD k undef).toArray))
  (fN:gM P f=true->(execOp a.eval o).run P w=.ok (.enter f (vs.extract 0 n)) w) {K:Act->World->Prop} {Q:Exit->Act->World->Prop} (ig:∀cO aP,Rel w0 bz cO aP->K cO aP):
  Oper.wp P o a w K Q:=by
 unfold Cn at h;split at h
 ·rename_i w' h9 r;split at h
  ·rename_i tj nk ny BG;simp only at h;split at h
   ·rename_i ak;obtain⟨jR,jw,bW,lp,er,Fh,Kb,u7⟩:=ak;rw[gA]at Fh;have BM:∀l∈tj.qA,l.qm tj.ts=false:=fun l al=>by grind
    obtain⟨hlen,cS,bt⟩:=F' ny
    let AV:Own:=fun b=>hI (lF tj.refs) tj.ts (ω b)
    have cX:∀b,AV b≠.bM->ω b≠.bM:=fun b h e=>h (by simp only[AV,e];rfl)
    have adm:IZ w AV tj.pK vs:=by
     refine⟨fun b aw=>(a6.owned b (cX b aw)).2,fun b i aw=>?_,by grind,fun x j8 af=>?_⟩
     ·simp only[AV]at aw;cases e:ω b with
      | bM=>grind
      | tok s q=>grind[hI]
      | box iK=>
       rw[e]at aw;simp only[hI]at aw;split at aw
       ·rename_i f' p1;simp only[dr.box.injEq]at aw;subst aw;obtain⟨nN,e8,_,A5⟩:=F8 p1;grind
       cases aw
     obtain⟨p,hp,sd⟩:=cS x j8 af;obtain⟨v,bI,ao⟩:=hy x p hp;refine⟨v,bI,?_⟩;rw[dV]at sd;rcases sd with⟨g,ids,rfl,_⟩ | ⟨cy,ls,rfl,e2,cj⟩ | ⟨id,ls,pre,post,rfl,rfl,cj,d',hj,k2⟩
     ·exact trivial
     ·cases p with
      | gx as=>cases e2
      | aG aG=>
       cases aG with
       | one l=>
        simp only[aI.EE,b9]at e2;obtain⟨d,h1,U⟩:=e2;simp only[bK]at U;obtain⟨rfl,rfl⟩:=U;exact TT h1 (BM l (cj l (by simp))) ao
       | agg fQ=>
        simp only[aI.EE,b9]at e2;obtain⟨ds,h1,U⟩:=e2;simp only[bK]at U;obtain⟨rfl,rfl⟩:=U;obtain⟨aA,aJ⟩:=ov h1;obtain⟨vs,rfl,aZ,adK⟩:=ao;refine⟨vs,rfl,by omega,fun j d aE=>?_⟩;obtain⟨l,al,c3⟩:=aJ j d aE;obtain⟨u,hu,fO⟩:=adK j l al;exact⟨u,hu,TT c3 (BM l (cj l (gb al))) fO⟩
     obtain⟨b,aw,rfl⟩:=ao;obtain⟨dD,arr,ty,ey,hu,bN,e0⟩:=a6.boxes id ls cj;have:=hu b aw;subst this;have acX:=TS bW hj;simp only at acX;obtain⟨aA,aJ⟩:=ov d';refine⟨⟨b,arr,ty,rfl,by grind[hI],fun c ak=>?_,bN,by have:=e0.1;omega,fun j d aE=>?_⟩,fun j d aE fm=>?_⟩
     ·simp only[AV]at ak;cases e:ω c with
      | bM=>grind
      | tok s q=>grind[hI]
      | box iK=>
       grind[hI,dr.box.injEq,F8,ub]
     rotate_left
     ·obtain⟨l,al,c3⟩:=aJ j d aE;obtain⟨u,gU,fO⟩:=e0.2 j l al;rw[ML al]at fm;obtain⟨gV,mQ⟩:=r2.1 fm;obtain⟨rfl,_,k,es,dF,tH⟩:=Cm mQ;simp only[aF.HY,mQ]at c3;rw[dF]at c3;cases c3;have e:jc w (.pointer (some ⟨b,0,none⟩)) j=u:=by simp[jc,bN,e7,gU]
      rw[e];refine (tH fO).frame fun c q _ aH=>⟨?_,rfl⟩
      grind[Tag.R,hI]
     obtain⟨l,al,c3⟩:=aJ j d aE;obtain⟨u,gU,fO⟩:=e0.2 j l al;refine⟨u,gU,fun fm=>?_⟩;rw[ML al]at fm;have RE:rz l=none:=by simpa using fm
     simp only[aF.HY,RE]at c3;clear fm RE;cases l with
     | v z=>
      simp only[aF.jn]at c3;split at c3
      ·simp only[aX]at c3;subst c3;have:u=z:=fO;subst this;exact .v _ _ ‹_›
      cases c3
     | bg c=>
      simp only[aF.jn,aX]at c3;subst c3;have:u=.bool c:=fO;subst this;exact .v _ _ rfl
     | J g k es=>
      cases g with
      | free=>cases c3
      | ro s=>cases c3
      | own s=>
       simp only[aF.jn,aX]at c3;subst c3;have hm:=k2 _ (TU (i:=x) (j0:=0) al rfl);rw[dV]at hm;have aDj:=Sw lp hm;refine fO.1.frame fun c q _ aH=>⟨?_,rfl⟩
       grind[Tag.R,hI]
     | cp=>cases c3
     | ptr=>cases c3
     | ep=>cases c3
     | hQ=>cases c3
     | fd=>cases c3
     | dA=>cases c3
     | hg=>cases c3
     | aN=>cases c3
     | fD=>cases c3
    have JR:IW tj.pK vs:=by
     intro x g cT af;have BV:=Ga u7 af;rw[dV]at BV;obtain⟨p,hp,sd⟩:=cS x _ af;rw[dV]at sd;rcases sd with⟨eI,ids,e1,rfl⟩ | ⟨cy,ls,e1,_⟩ | ⟨id,ls,pre,post,e1,_⟩
     ·grind
     ·cases e1
     cases e1
    have key:b2 P f tj.pK h9->(∀v aP bf c0,cK w0 (st.yo tj.ts (10000*(dst.getD 0+1)) tj.refs (h9.dn dst) nk h9.pg) a aP bf c0->cV (Sat aP bf c0) (h9.pq (10000*(dst.getD 0+1)) (h9.dn dst)) v->K (a.put dst v) aP)->
      Oper.wp P o a w K Q:=by
     intro Ka Q4;unfold Oper.wp;rw[fN jR,<-Kb];simp only[Oper.upon];rw[JM];refine (Ka w _ AV adm JR (a6.tidy fun b aw=>by grind)).mono ?_;rintro e aP ⟨v,rfl,lU,fA,c1,c2,cN,eD⟩;obtain⟨bf,c0,h1,U⟩:=a6.abB (10000*(dst.getD 0+1)) (nk:=nk) (ys:=fun i=>vs.getD i undef) bW jw lU fA c1 c2 (fun r aD=>by
      obtain⟨x,pre,g1,g2,g3,g4⟩:=bt r aD;rw[dV]at g1;obtain⟨y,bD,ao⟩:=hy x _ g3;obtain⟨b,aw,rfl⟩:=ao;have e:vs.getD r.i undef=ptrTo b:=by rw[g1,e7,bD];rfl
      rw[e];obtain⟨ls,g5,g6⟩:=g4;simp_all[ptrTo]) eD (aY.abL er) (fun d aE=>by
      cases h9 with
      | vals rs=>cases aE
      | iM src ds=>
       have aE:dst=some d:=aE;grind) (fun r aD j l bk=>by
      obtain⟨x,pre,g1,g2,g3,ls,g5,g6⟩:=bt r aD;rw[dV]at g1;obtain⟨y,bD,ao⟩:=hy x _ g3;obtain⟨b,aw,rfl⟩:=ao;have e:vs.getD r.i undef=ptrTo b:=by rw[g1,e7,bD];rfl
      rw[e];rw[g6]at bk;obtain⟨i1,i2⟩:=awZ bk;refine⟨(Cm i2).2.1 _ _ _,?_⟩;have fm:stays (l1 r.e3) j=true:=by simp_all[ML]
      rw[(cN r.i _ pre r.post (ptrTo b) (by grind) (by simp_all)).2 j fm];obtain⟨dD,arr,ty,ey,hu,bN,e0⟩:=a6.boxes _ ls g5;have:=hu b aw;subst this;obtain⟨u,gU,fO⟩:=e0.2 j l i1;have e:jc w (ptrTo b) j=u:=by simp[jc,ptrTo,bN,e7,gU]
      grind) (fun j l bk=>by
      cases h9 with
      | vals rs=>
       grind[aY.nk,aX]
      | iM src ds=>
       obtain⟨_,i2⟩:=F9 BG;obtain⟨x,qj,o',adY⟩:=i2 j l bk;refine⟨(Cm adY).2.1 _ _ _,?_⟩;obtain⟨y,bD,ao⟩:=hy x _ o';have:=eD.2 j x qj;rw[bD]at this;rw[<-gJ this];exact ao) (fun src ds e=>by
      subst e;exact (F9 BG).1)
     grind
    cases dst with
    | none=>
     simp only[aX,bK]at h;obtain⟨rfl,_,rfl⟩:=h;exact key a7.1 fun v aP bf c0 h1 _=>ig _ _ ⟨bf,c0,h1⟩
    | some d=>
     simp only[aX,bK]at h;obtain⟨rfl,_,rfl⟩:=h;exact key a7.1 fun v aP bf c0 h1 U=>ig _ _ ⟨bf,c0,h1.put U⟩
   cases h
  cases h
 cases h
theorem aw0{f:FuncId}{args:Array Operand}{ts:Array TypeId}{type:TypeId}{pos:String}{after:Array Edge}{guard:Option (Nat×Bool)}
  (a6:cK w0 st a w ω τ) (h:MN P st dst f args.toList ans=some (bz,cu,obs)) (a7:cQ obs) {K:Act->World->Prop} {Q:Exit->Act->World->Prop} (ig:∀cO aP,Rel w0 bz cO aP->K cO aP):
  Oper.wp P ⟨dst,.call ⟨.value (.func f),args,ts⟩,type,pos,after,guard⟩ a w K Q:=by
 have hy:∀(x:Nat) (p:aI),(args.toList.map st.bq)[x]?=some p->∃v,(args.map a.eval)[x]?=some v/\cV (Sat w ω τ) p v:=by
  intro x p hp;rw[dK,b9]at hp;obtain⟨o,h1,rfl⟩:=hp;refine⟨a.eval o,?_,a6.bq o⟩;grind
 have fN:gM P f=true->(execOp a.eval ⟨dst,.call ⟨.value (.func f),args,ts⟩,type,pos,after,guard⟩).run P w=.ok (.enter f (args.map a.eval)) w:=by
  intro jR;unfold gM at jR;split at jR
  ·rename_i fn mg;simp only[cw,hb,AS,l6]at jR;have tC:fn.body≠none:=by grind
   simp[execOp,resolve,Act.eval,Deferred.ofValue,invoke,callFunc,mg,jR.1,tC]
  cases jR
 unfold MN at h;split at h
 ·rename_i g ids vd;rw[nn]at vd;obtain⟨p,hp,JG⟩:=vd;have k4:p=.aG (.one (.hg g ids)):=by
   unfold tq at JG;grind
  subst k4;have zc:0<(args.toList.map st.bq).length:=by
   grind
  have J8:(args.toList.map st.bq)[args.toList.length-1]?=some (.aG (.one (.hg g ids))):=by
   grind
  obtain⟨v,bI,bs,JE,wS,gu⟩:=hy _ _ J8;have aZ:0<args.size:=by grind
  refine MP (n:=args.toList.length) (vs:=args.map a.eval++(bs.map ptrTo).toArray) rfl a6 h a7 (by simp[wS]) (fun x p af=>?_) (fun x eI adU BV af=>?_) (fun jR=>?_) ig
  ·rw[qE]at af;rw[kc];split at af
   ·grind
   rename_i qa;rw[bw (by grind)];rw[dK,b9]at af;obtain⟨id,hx,rfl⟩:=af;obtain⟨b,hl,h2⟩:=gu _ id hx;refine⟨ptrTo b,?_,b,h2,rfl⟩;grind
  ·have bS:x<args.size:=by grind
   have zl:x=args.toList.length-1:=by omega
   rw[qE,bn (by grind),zl,J8]at af;simp only[aX,aI.aG.injEq,bl.one.injEq,aF.hg.injEq]at af;obtain⟨rfl,rfl⟩:=af;rw[kc,bn (by grind),zl,bI,JE]
   congr 2
   apply Array.ext
   ·simp[wS]
   simp_all
  have e:(args.map a.eval++(bs.map ptrTo).toArray).extract 0 args.toList.length=args.map a.eval:=by
   simp_all
  grind
 refine MP (n:=args.toList.length) (vs:=args.map a.eval) rfl a6 h a7 (by simp) hy (fun x g ids BV af=>?_) (fun jR=>?_) ig
 ·rename_i iJ;exfalso;have:(args.toList.map st.bq).getLast?=some (.aG (.one (.hg g ids))):=by
   grind
  grind[tq]
 have e:(args.map a.eval).extract 0 args.toList.length=args.map a.eval:=by simp
 grind
theorem aw1{y:Nat}{args:Array Operand}{ts:Array TypeId}{type:TypeId}{pos:String}{after:Array Edge}{guard:Option (Nat×Bool)}
  (a6:cK w0 st a w ω τ) (h:MO P st dst (.tmp y) args.toList ans=some (bz,cu,obs)) (a7:cQ obs) {K:Act->World->Prop} {Q:Exit->Act->World->Prop} (ig:∀cO aP,Rel w0 bz cO aP->K cO aP):
  Oper.wp P ⟨dst,.call ⟨.value (.tmp y),args,ts⟩,type,pos,after,guard⟩ a w K Q:=by
 have hy:∀(x:Nat) (p:aI),(args.toList.map st.bq)[x]?=some p->∃v,(args.map a.eval)[x]?=some v/\cV (Sat w ω τ) p v:=by
  intro x p hp;rw[dK,b9]at hp;obtain⟨o,h1,rfl⟩:=hp;refine⟨a.eval o,?_,a6.bq o⟩;grind
 unfold MO at h;split at h
 ·rename_i g ids JG;have k4:st.bq (.tmp y)=.aG (.one (.hg g ids)):=by
   unfold tq at JG;grind
  have ao:=a6.bq (.tmp y);rw[k4]at ao;obtain⟨bs,JE,wS,gu⟩:=ao;split at h
  case isFalse=>cases h
  rename_i iJ;refine MP (n:=args.toList.length+ids.length) (vs:=args.map a.eval++(bs.map ptrTo).toArray) rfl a6 h a7 (by simp[wS]) (fun x p af=>?_) (fun x eI adU BV af=>?_) (fun jR=>?_) ig
  ·rw[qE]at af;rw[kc];split at af
   ·grind
   rename_i qa;rw[bw (by grind)];rw[dK,b9]at af;obtain⟨id,hx,rfl⟩:=af;obtain⟨b,hl,h2⟩:=gu _ id hx;refine⟨ptrTo b,?_,b,h2,rfl⟩;grind
  ·exfalso;rw[qE]at af;split at af
   ·rename_i bS;have:=gA.1 iJ _ (gb af);grind[tq]
   rw[dK,b9]at af;obtain⟨id,_,e⟩:=af;cases e
  have e:(args.map a.eval++(bs.map ptrTo).toArray).extract 0 (args.toList.length+ids.length)=args.map a.eval++(bs.map ptrTo).toArray:=by
   have e2:args.toList.length+ids.length=(args.map a.eval++(bs.map ptrTo).toArray).size:=by simp[wS]
   grind
  rw[e];unfold gM at jR;split at jR
  ·rename_i fn mg;simp only[cw,hb,AS,l6]at jR;have tC:fn.body≠none:=by grind
   simp[execOp,resolve,JE,Deferred.ofValue,invoke,callFunc,mg,jR.1,tC]
  cases jR
 cases h
