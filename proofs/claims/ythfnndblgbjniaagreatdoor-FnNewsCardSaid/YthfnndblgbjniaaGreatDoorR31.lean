import Derived.Test.YthfnndblgbjniaaGreatDoorR11
set_option linter.unusedVariables false
set_option linter.unusedSimpArgs false
namespace Go.Sx
open Go.RowKit
inductive aJ where
 | ro (a:cE)
 | hD (pn:List Bool) (pre post:List D)
 | fn (g:FuncId) (cK:List Nat)
abbrev aJ.ref (pre post : List D) : aJ := .hD [] pre post
abbrev aJ.cur(pre post:List D):aJ:=.hD [true,false,false] pre post
def stays(pn:List Bool)(j:Nat):Bool:=pn.getD j false
def hy(w:World)(y:Value)(j:Nat):Value:=
 match y with
 | .pointer (some p)=>match w.heap[p.block]? with | some (.cells arr _ _)=>arr.getD j undef | _=>undef
 | _=>undef
def pd(i j:Nat):Nat:=900000000+(100*i+j)
def gA(i j:Nat):Nat:=5000+(100*i+j)
def tu(w:World)(ω:Own)(i:Nat)(pn:List Bool)(f:Nat->Nat)(ds:List D)(y:Value):Prop:=
 ∃b arr ty,y=ptrTo b/\ω b=.box i/\(∀de,ω de=.box i->de=b)/\w.heap[b]?=some (.cells arr ty (0,0))/\arr.size=ds.length/\∀(j:Nat) (d:D),ds[j]?=some d->∃u,arr[j]?=some u/\(stays pn j=false->bS w ω (Tag.own (f j)).R d u)
def UW(w:World)(ω:Own)(i:Nat):aJ->Value->Prop
 | .ro (.one d),y=>bS w ω Tag.free.R d y
 | .ro (.agg ds),y=>∃vs:Array Value,y=.agg vs/\vs.size=ds.length/\∀(j:Nat) (d:D),ds[j]?=some d->∃u,vs[j]?=some u/\bS w ω Tag.free.R d u
 | .hD pn pre _,y=>tu w ω i pn (pd i) pre y/\∀(j:Nat) (d:D),pre[j]?=some d->stays pn j=true->bS w ω Tag.free.R d (hy w y j)
 | .fn _ _,_=>True
def aJ.bB:aJ->Nat
 | .fn _ cK=>cK.length
 | _=>0
def rE(args:List aJ):Nat:=args.length-(args.map aJ.bB).sum
def Ec(args:List aJ)(vs:Array Value):Prop:=∀(i:Nat) (g:FuncId) (cK:List Nat),args[i]?=some (.fn g cK)->vs[i]?=some (.func (.func g) #[] (cK.map fun k=>vs.getD k undef).toArray)
def CA(w:World)(ω:Own):Prop:=∀b,ω b≠.bz->∃arr ty,w.heap[b]?=some (.cells arr ty (0,0))
def Em(w:World)(ω:Own)(args:List aJ)(vs:Array Value):Prop:=CA w ω/\(∀b i,ω b=.box i->∃pn pre post,args[i]?=some (.hD pn pre post))/\vs.size=args.length/\∀(i:Nat) (ie:aJ),args[i]?=some ie->∃v,vs[i]?=some v/\UW w ω i ie v
def vb(src:List (Option Nat)):List Bool:=src.map Option.isSome
def Ax(w:World)(ω:Own)(vs:Array Value):aS->Value->Prop
 | .vals rs,v=>lV w ω rs v
 | .gW src ds,v=>tu w ω 49 (vb src) (gA 49) ds v/\∀(j i:Nat),src[j]?=some (some i)->vs[i]?=some (hy w v j)
def bP(P:Program)(f:FuncId)(args:List aJ)(r:aS):Prop:=
 ∀(w:World) (vs:Array Value) (ω:Own),Em w ω args vs->Ec args vs->Tidy w ω->Calls P f (vs.extract 0 (rE args)) w fun e aP=>∃v,e=.returned v/\fX ⟨w,fun b=>ω b≠.bz,fun _=>(0,undef)⟩ aP/\
  ∃a':Own,(∀b,b<w.heap.size->ω b=.bz->a' b=.bz)/\CA aP a'/\(∀(i:Nat) (pn:List Bool) (pre post:List D) (y:Value),args[i]?=some (.hD pn pre post)->vs[i]?=some y->tu aP a' i pn (gA i) post y/\∀j,stays pn j=true->hy aP y j=hy w y j)/\Ax aP a' vs r v
abbrev asd:=List (Nat×Nat)
def look(t:Nat):List (Nat×Nat)->Option Nat
 | []=>none
 | (s,n)::r=>if s=t then some n else look t r
def Io(ts:List (Nat×Nat)):Bool:=ts.all fun x=>ts.all fun y=>(x.1==y.1)==(x.2==y.2)
variable{ts:List (Nat×Nat)}
theorem N2{t n:Nat}(h:Io ts=true)(hm:(t,n)∈ts):look t ts=some n:=by
 have key:∀l:List (Nat×Nat),(∀x∈l,x∈ts)->(t,n)∈l->look t l=some n:=by
  intro l;induction l with
  | nil=>grind
  | cons x l d'=>
   intro aj hm;obtain⟨s,m⟩:=x;simp only[look];split
   ·rename_i e;subst e;have U:=fp.1 (fp.1 h _ (aj _ jn)) _ (by exact ‹(s,n)∈ts›);grind
   grind
 grind
theorem aiD{t n:Nat}(h:look t ts=some n):(t,n)∈ts:=by
 induction ts with
 | nil=>cases h
 | cons x l d'=>
  grind[look,fB,jn,hb]
def gn(bs ts:List (Nat×Nat)):c4->c4
 | .bz=>.bz
 | .box id=>match look id bs with | some i=>.box i | none=>.bz
 | .tok t q=>match look t ts with | some n=>.tok n q | none=>.bz
def Tag.nL(ts:List (Nat×Nat)):Tag->Bool
 | .free=>false
 | .own t=>(look t ts).isSome
 | .ro t=>(look t ts).isSome
def q7:Option Nat->Nat->Bool
 | none=>fun _=>true
 | some d=>iq d
def yK(ts:List (Nat×Nat))(t0:Nat)(g:Tag):Option Tag:=if g.nL ts then none else fF t0 g
abbrev u5(ts:List (Nat×Nat))(t0:Nat)(dr:Option Nat)(l:aC):aC:=l.cB (yK ts t0) (q7 dr)
structure hU where
 i:Nat
 id:Nat
 post:List D
 fa:List (Option aC)
def jY(cK:List (Option aC)):List Bool:=cK.map Option.isSome
def jV:List (Option aC)->List aC->List aC
 | [],ls=>ls
 | _,[]=>[]
 | some l::cK,_::ls=>l::jV cK ls
 | none::cK,l::ls=>l::jV cK ls
theorem CB:∀(cK:List (Option aC)) (ls:List aC),(jV cK ls).length=ls.length
 | [],ls=>rfl
 | _::_,[]=>by simp[jV]
 | some l::cK,_::ls=>by simp[jV,CB cK ls]
 | none::cK,_::ls=>by simp[jV,CB cK ls]
theorem Ip:∀(cK:List (Option aC)) (ls:List aC) (j:Nat) (l:aC),(jV cK ls)[j]?=some l->(cK[j]?=some (some l)/\stays (jY cK) j=true)\/(ls[j]?=some l/\stays (jY cK) j=false)
 | [],ls,j,l,h=>.inr ⟨h,by simp[stays,jY]⟩
 | _::_,[],j,l,h=>by grind[jV]
 | some k::cK,x::ls,0,l,h=>by simp only[jV,kV,aT]at h;subst h;exact .inl ⟨rfl,rfl⟩
 | none::cK,x::ls,0,l,h=>by simp only[jV,kV]at h;exact .inr ⟨h,rfl⟩
 | some k::cK,x::ls,j+1,l,h=>by
  have:=Ip cK ls j l (by simpa[jV]using h);simpa[stays,jY]using this
 | none::cK,x::ls,j+1,l,h=>by
  have:=Ip cK ls j l (by simpa[jV]using h);simpa[stays,jY]using this
def uL(t0:Nat):List hU->List (Nat×List aC)->List (Nat×List aC)
 | [],bs=>bs
 | r::rs,bs=>uL t0 rs (oV r.id (jV r.fa (lW (t0+gA r.i 0) 0 r.post)) bs)
def N3(t0:Nat)(dr:Option Nat)(nk:List (Option aC))(ds:List D)(bs:List (Nat×List aC)):List (Nat×List aC):=
 match dr with
 | some d=>(d,jV nk (lW (t0+gA 49 0) 0 ds))::nQ d bs
 | none=>bs
def aD.u6(st:aD)(ts:List (Nat×Nat))(t0:Nat)(refs:List hU)(dr:Option Nat)(nk:List (Option aC))(ds:List D):aD:=
 ⟨st.env.map (aE.map (u5 ts t0 dr)),N3 t0 dr nk ds (uL t0 refs (st.boxes.map fun x=>(x.1,x.2.map (u5 ts t0 dr))))⟩
def nO(t0:Nat)(dr:Option Nat):c4->c4
 | .tok s q=>if t0<=s/\s<t0+10000 then .bz else .tok s q
 | .box id=>if q7 dr id then .box id else .bz
 | .bz=>.bz
def nG(i:Nat)(dr:Option Nat):List hU->Option Nat
 | []=>if i=49 then dr else none
 | r::rs=>if r.i=i then some r.id else nG i dr rs
def lz(t0:Nat)(refs:List hU)(dr:Option Nat):c4->c4
 | .tok s q=>if s<10000 then .tok (t0+s) q else .bz
 | .box i=>match nG i dr refs with | some id=>.box id | none=>.bz
 | .bz=>.bz
def D.rI:D->Nat
 | .J k _=>k
 | _=>0
def uM(i:Nat)(ds:List D):List hU->List D
 | []=>ds
 | r::rs=>if r.i=i then r.post else uM i ds rs
def jB(refs:List hU):List (Nat×Nat):=refs.map fun r=>(r.id,r.i)
def we:List hU->Option Nat->Bool
 | [],_=>true
 | x::r,dr=>decide (x.i<49)&&decide (x.post.length<100)&&decide (dr≠some x.id)&&r.all (fun y=>x.i != y.i&&x.id != y.id)&&we r dr
variable{id:Nat}
theorem Iq{t0:Nat}:∀{refs:List hU} {bs:List (Nat×List aC)},(∀r∈refs,r.id≠id)->dh id (uL t0 refs bs)=dh id bs
 | [],bs,_=>rfl
 | r::rs,bs,h=>by
  simp_all[uL,Iq,hb,v',Ne.symm,jn]
theorem aiE{hj:Nat}{ls:List aC}:∀{bs:List (Nat×List aC)},(dh id bs).isSome=true->(dh id (oV hj ls bs)).isSome=true:=by
 intro bs h;by_cases e:id=hj
 ·subst e;obtain⟨x,ao⟩:=pq.1 h;rw[v8 ao];rfl
 grind[v']
theorem N4{t0:Nat}:∀{refs:List hU} {bs:List (Nat×List aC)} {r:hU},r∈refs->(∀x∈refs,x.id=r.id->x=r)->(dh r.id bs).isSome=true->dh r.id (uL t0 refs bs)=some (jV r.fa (lW (t0+gA r.i 0) 0 r.post))
 | [],_,_,h,_,_=>by cases h
 | x::rs,bs,r,h,hu,aj=>by
  simp only[uL];by_cases hm:r∈rs
  ·exact N4 hm (fun y bO=>hu y (hb _ bO)) (aiE aj)
  rcases ep.1 h with e | h
  ·subst e;obtain⟨l,au⟩:=pq.1 aj;grind[Iq,v8,hb]
  grind
variable{dr:Option Nat}
theorem rj:∀{refs:List hU},we refs dr=true->∀{x:hU},x∈refs->x.i<49/\x.post.length<100/\dr≠some x.id/\∀y∈refs,(y.i=x.i->y=x)/\(y.id=x.id->y=x)
 | [],_,x,ao=>by cases ao
 | z::r,h,x,ao=>by
  simp only[we,cJ,cW,fp,bne_iff_ne,l']at h;obtain⟨⟨⟨⟨U,aa⟩,aA⟩,aO⟩,a8⟩:=h;rcases ep.1 ao with e | x6
  ·subst e;refine⟨U,aa,aA,fun y bO=>?_⟩;rcases ep.1 bO with e | bO
   ·exact⟨fun _=>e,fun _=>e⟩
   exact⟨fun e=>absurd e.symm (aO y bO).1,fun e=>absurd e.symm (aO y bO).2⟩
  obtain⟨c6,b8,e9,lQ⟩:=rj a8 x6;refine⟨c6,b8,e9,fun y bO=>?_⟩;rcases ep.1 bO with e | bO
  ·subst e;exact⟨fun e=>absurd e (aO x x6).1,fun e=>absurd e (aO x x6).2⟩
  exact lQ y bO
theorem Ir:∀{refs:List hU} {r:hU},r∈refs->(∀y∈refs,y.i=r.i->y.id=r.id)->nG r.i dr refs=some r.id
 | [],_,h,_=>by cases h
 | x::rs,r,h,hu=>by
  simp only[nG];split
  ·grind
  rename_i e;rcases ep.1 h with e1 | h
  ·grind
  exact Ir h fun y bO=>hu y (hb _ bO)
theorem wg{i:Nat}:∀{refs:List hU},nG i dr refs=some id->(∃r∈refs,r.i=i/\r.id=id)\/(i=49/\dr=some id)
 | [],h=>by
  grind[nG]
 | x::rs,h=>by
  simp only[nG]at h;split at h
  ·rename_i e;exact .inl ⟨x,jn,e,fB h⟩
  rcases wg h with⟨r,aI,U⟩ | U
  ·exact .inl ⟨r,hb _ aI,U⟩
  exact .inr U
theorem Is:∀{refs:List hU},(∀r∈refs,r.i<49)->nG 49 dr refs=dr
 | [],_=>by simp[nG]
 | x::rs,h=>by
  simp only[nG];rw[bE (by grind)];exact Is fun r aI=>h r (hb _ aI)
theorem N5{ds:List D}:∀{refs:List hU} {r:hU},r∈refs->(∀y∈refs,y.i=r.i->y=r)->uM r.i ds refs=r.post
 | [],_,h,_=>by cases h
 | x::rs,r,h,hu=>by
  simp only[uM];split
  ·grind
  rename_i e;rcases ep.1 h with e1 | h
  ·grind
  exact N5 h fun y bO=>hu y (hb _ bO)
theorem It{ds:List D}:∀{refs:List hU},(∀r∈refs,r.i<49)->uM 49 ds refs=ds
 | [],_=>rfl
 | x::rs,h=>by
  simp only[uM];rw[bE (by grind)];exact It fun r aI=>h r (hb _ aI)
variable{refs:List hU}
theorem N6(h:we refs dr=true){r:hU}(aI:r∈refs):look r.id (jB refs)=some r.i:=by
 refine N2 ?_ (kX.2 ⟨r,aI,rfl⟩);unfold Io;rw[fp];intro x ao;rw[fp];intro y bO;obtain⟨rx,WA,rfl⟩:=kX.1 ao;obtain⟨arn,WB,rfl⟩:=kX.1 bO;have:=(rj h WA).2.2.2 arn WB;grind
theorem CC{i:Nat}(h:look id (jB refs)=some i):∃r∈refs,r.id=id/\r.i=i:=by
 obtain⟨r,aI,e⟩:=kX.1 (aiD h);grind
def Iu(rs:List cE):Bool:=decide (rs.length<50)&&rs.all fun | .one _=>true | .agg ds=>ds.length<100
def aS.fits(dr:Option Nat)(mD:List D):aS->Prop
 | .vals rs=>dr=none/\Iu rs=true
 | .gW _ ds=>dr.isSome=true/\mD=ds/\ds.length<100
def aS.dG(v:Value)(n:Nat):aS->Nat×Value
 | .vals rs=>(ow rs n,lL rs v n)
 | .gW _ _=>(0,undef)
def aS.gX(t0:Nat)(dr:Option Nat):aS->aE
 | .vals rs=>rF t0 rs
 | .gW _ _=>.one (.ptr (dr.getD 0) 0)
theorem cy.Va{w0:dY}{st:aD}{a:Act}{w aP:World}{ω:Own}{τ:Nat->Nat×Value}(aW:cy w0 st a w ω τ)(t0:Nat){nk:List (Option aC)}{mD:List D}{gG:aS}{v:Value}{vs:Array Value}{ys:Nat->Value}{H:Nat->Nat×Value}
  (cG:we refs dr=true) (hO:t0+10000<=cX) (aw:fX ⟨w,fun b=>gn (jB refs) ts (ω b)≠.bz,H⟩ aP) (eP:Own)
  (kB:∀b,b<w.heap.size->gn (jB refs) ts (ω b)=.bz->eP b=.bz) (kf:CA aP eP)
  (hrefs:∀r∈refs,tu aP eP r.i (jY r.fa) (gA r.i) r.post (ys r.i)/\(∃b,ys r.i=ptrTo b/\ω b=.box r.id)/\(dh r.id st.boxes).isSome=true) (eF:Ax aP eP vs gG v) (Bg:gG.fits dr mD) (sb:∀d,dr=some d->d<cX)
  (Fs:∀r∈refs,∀(j:Nat) (l:aC),r.fa[j]?=some (some l)->u5 ts t0 dr l=l/\Sat w ω τ l (hy aP (ys r.i) j)) (xU:∀(j:Nat) (l:aC),nk[j]?=some (some l)->u5 ts t0 dr l=l/\Sat w ω τ l (hy aP v j))
  (MD:∀src ds,gG=.gW src ds->vb src=jY nk):
  ∃a' cL,cy w0 (st.u6 ts t0 refs dr nk mD) a aP a' cL/\cH (Sat aP a' cL) (gG.gX t0 dr) v:=by
 classical
 let a':Own:=fun b=>if b<w.heap.size/\gn (jB refs) ts (ω b)=.bz then nO t0 dr (ω b) else lz t0 refs dr (eP b)
 let aF:Nat->Nat×Value:=fun n=>if n<5000 then gG.dG v n else
  ((((uM ((n-5000) / 100) mD refs)[(n-5000) % 100]?).map D.rI).getD 0,hy aP (if (n-5000) / 100=49 then v else ys ((n-5000) / 100)) ((n-5000) % 100))
 let cL:Nat->Nat×Value:=fun s=>if t0<=s/\s<t0+10000 then aF (s-t0) else τ s
 have xO:∀r∈refs,r.i<49:=fun r aI=>(rj cG aI).1
 have hold:∀b,b<w.heap.size->gn (jB refs) ts (ω b)=.bz->a' b=nO t0 dr (ω b):=fun b U aa=>by grind
 have fN:∀b,eP b≠.bz->a' b=lz t0 refs dr (eP b):=fun b h=>by
  grind
 have lJ:∀b,b<w.heap.size->gn (jB refs) ts (ω b)=.bz->aP.heap[b]?=w.heap[b]?:=fun b U aa=>aw.block b U (fun a7=>a7 aa)
 have Bj:∀r∈refs,∀b,ω b=.box r.id->eP b=.box r.i/\ys r.i=ptrTo b:=by
  intro r aI b cZ;obtain⟨⟨hK,arr,ty,U,aa,_⟩,⟨gj,aA,aO⟩,a8⟩:=hrefs r aI;obtain⟨ls,tM⟩:=pq.1 a8;obtain⟨xj,_,_,_,hu,_⟩:=aW.boxes r.id ls tM;have e1:=hu b cZ;have e2:=hu gj aO;have ch:gj=b:=by rw[e1,e2]
  subst ch;rw[aA]at U;simp only[ptrTo,Value.pointer.injEq,aT,Addr.mk.injEq]at U;grind
 have vW:∀id b,q7 dr id=true->ω b=.box id->a' b=.box id:=by
  intro id b hp cZ;have bM:=aW.owned.lt (b:=b) (by simp[cZ]);cases e:look id (jB refs) with
  | none=>
   simp_all[gn,jB,nO,gO]
  | some i=>
   obtain⟨r,aI,rfl,rfl⟩:=CC e;grind[lz,Ir,rj]
 have bj:kx w ω τ aP a' cL (yK ts t0) (q7 dr):=by
  refine⟨?_,?_,fun id b hp h=>vW id b hp h,?_,fun s aj=>by simp only[cL];rw[bE (by omega)]⟩
  ·intro g dS b q ay bM aM;unfold yK at ay;split at ay
   ·cases ay
   rename_i hm;simp only[tj]at hm;have hi:gn (jB refs) ts (ω b)=.bz:=by
    cases g with
    | free=>simp only[Tag.R]at aM;rw[aM];rfl
    | own s=>
     grind[Tag.R,Tag.nL,D7,D8,gn]
    | ro s=>
     simp only[Tag.nL,D7,D8]at hm;rcases aM with h | ⟨dB,h⟩
     ·rw[h];rfl
     grind[gn]
   refine⟨?_,lJ b bM hi⟩;rw[hold b bM hi];cases g with
   | free=>simp only[fF,aT]at ay;subst ay;simp only[Tag.R]at aM ⊢;rw[aM];rfl
   | own s=>
    simp only[Tag.R]at aM;simp only[fF]at ay;rw[aM];simp only[nO];split at ay
    ·simp only[aT]at ay;subst ay;rw[bU ‹_›];rfl
    simp only[aT]at ay;subst ay;rw[bE ‹_›];rfl
   | ro s=>
    simp only[Tag.R]at aM;simp only[fF]at ay;split at ay
    ·simp only[aT]at ay;subst ay;rcases aM with h | ⟨dB,h⟩
     ·rw[h];rfl
     rw[h];simp only[nO];rw[bU ‹_›];rfl
    simp only[aT]at ay;subst ay;rcases aM with h | ⟨dB,h⟩
    ·rw[h];exact .inl rfl
    rw[h];simp only[nO];rw[bE ‹_›];exact .inr ⟨dB,rfl⟩
  ·intro g dS y ay bO;unfold yK at ay;split at ay
   ·cases ay
   cases g with
   | free=>simp only[fF,aT]at ay;subst ay;exact trivial
   | own s=>
    simp only[fF]at ay;split at ay
    ·simp only[aT]at ay;subst ay;exact trivial
    simp only[aT]at ay;subst ay;simp only[Tag.dG,cL]at bO ⊢;simp_all[bE]
   | ro s=>
    simp only[fF]at ay;split at ay
    ·simp only[aT]at ay;subst ay;exact trivial
    simp only[aT]at ay;subst ay;exact trivial
  rfl
 have cell:∀(n:Nat) (d:D) (u:Value),n<10000->aF n=(d.rI,u)->bS aP eP (Tag.own n).R d u->Sat aP a' cL (d.n0 (t0+n)) u:=by
  intro n d u a7 br aI;cases d with
  | v x=>
   have e:u=x:=by cases aI;rfl
   subst e;unfold D.n0;split
   ·rename_i h;cases h;exact rfl
   ·rename_i h;cases h;exact rfl
   ·grind
   ·exact trivial
   grind
  | ptr ds=>exact trivial
  | bI g bB=>exact trivial
  | J k es=>
   refine⟨aI.frame fun b q bM aM=>⟨?_,rfl⟩,?_⟩
   ·simp_all[Tag.R,lz,bU]
   simp only[Tag.dG,cL];rw[bU (by omega),show t0+n-t0=n by omega,br];rfl
 have var:∀(i:Nat) (post:List D) (y:Value) (id:Nat) (cK:List (Option aC)),i<50->post.length<100->uM i mD refs=post->(if i=49 then v else ys i)=y->tu aP eP i (jY cK) (gA i) post y->nG i dr refs=some id->(∀(j:Nat) (l:aC),cK[j]?=some (some l)->u5 ts t0 dr l=l/\Sat w ω τ l (hy aP y j))->
   (∀de fj,nG fj dr refs=some id->eP de=.box fj->fj=i)->(∀de,ω de=.box id->q7 dr id=true->¬gn (jB refs) ts (ω de)=.bz)->rW aP a' cL id (jV cK (lW (t0+gA i 0) 0 post))/\∃b,y=ptrTo b/\a' b=.box id:=by
  rintro i post y id cK hi Wu Wv bO ⟨b,arr,ty,rfl,aa,aA,aO,a8,bG⟩ hid Wd as2 kh;have eE:a' b=.box id:=by
   grind[lz]
  refine⟨⟨b,arr,ty,eE,fun de cZ=>?_,aO,by grind[CB,wb],fun j l au=>?_⟩,b,rfl,eE⟩
  ·by_cases ap:de<w.heap.size/\gn (jB refs) ts (ω de)=.bz
   ·rw[hold de ap.1 ap.2]at cZ;cases e:ω de with
    | bz=>rw[e]at cZ;cases cZ
    | tok s q=>grind[nO]
    | box hj=>
     grind[nO,c4.box.injEq,absurd]
   have lK:lz t0 refs dr (eP de)=.box id:=by
    grind
   cases e:eP de with
   | bz=>rw[e]at lK;cases lK
   | tok s q=>grind[lz]
   | box fj=>
    grind[lz,c4.box.injEq]
  have k5:j<(jV cK (lW (t0+gA i 0) 0 post)).length:=(fA.1 au).1;rw[CB,wb]at k5;rcases Ip cK _ j l au with⟨au,_⟩ | ⟨au,FA⟩
  ·obtain⟨u,hu,_⟩:=bG j _ (ih k5);obtain⟨g1,g2⟩:=Wd j l au;refine⟨u,hu,?_⟩;have e:hy aP (ptrTo b) j=u:=by simp[hy,ptrTo,aO,eg,hu]
   rw[e]at g2;have:=bj.sat l u g2;grind
  rw[yD,b0]at au;obtain⟨d,dX,rfl⟩:=au;obtain⟨u,hu,aI⟩:=bG j d dX;replace aI:=aI FA;have bm:j<100:=by
   grind
  refine⟨u,hu,?_⟩;have:=cell (gA i j) d u (by grind[gA]) (by
   have e1:(gA i j-5000) / 100=i:=by grind[gA]
   have e2:(gA i j-5000) % 100=j:=by grind[gA]
   simp only[aF];rw[bE (by grind[gA]),e1,e2,Wv,dX,bO];simp[hy,ptrTo,aO,eg,hu]) aI
  rw[show t0+gA i 0+(0+j)=t0+gA i j by grind[gA]];exact this
 have atg:∀r∈refs,rW aP a' cL r.id (jV r.fa (lW (t0+gA r.i 0) 0 r.post)):=by
  intro r aI;obtain⟨U,aa,aA,aO⟩:=rj cG aI;refine (var r.i r.post (ys r.i) r.id r.fa (by omega) aa (N5 aI fun y bO e=>(aO y bO).1 e) (by grind) (hrefs r aI).1 (Ir aI fun y bO e=>by grind) (Fs r aI) (fun de fj e _=>?_) (fun de e _=>?_)).1
  ·grind[wg,absurd]
  grind[gn,N6]
 have qK:∀id ls,dh id (st.u6 ts t0 refs dr nk mD).boxes=some ls->rW aP a' cL id ls:=by
  intro id ls au;have rest:∀id ls,dr≠some id->dh id (uL t0 refs (st.boxes.map fun x=>(x.1,x.2.map (u5 ts t0 dr))))=some ls->rW aP a' cL id ls:=by
   intro id ls Mn au;by_cases aI:∃r∈refs,r.id=id
   ·obtain⟨r,aI,rfl⟩:=aI;rw[N4 aI (fun y bO e=>((rj cG aI).2.2.2 y bO).2 e) (by
     rw[re];grind)]at au
    grind
   have eh:∀r∈refs,r.id≠id:=fun r U aa=>aI ⟨r,U,aa⟩
   rw[Iq eh,re,b0]at au;obtain⟨h3,bV,rfl⟩:=au;obtain⟨b,arr,ty,U,aa,aA,aO⟩:=aW.boxes id h3 bV;have hp:q7 dr id=true:=by
    unfold q7;split
    ·rfl
    simp only[iq,cW];grind
   have bM:=aW.owned.lt (b:=b) (by simp[U]);have A7:look id (jB refs)=none:=by
    cases e:look id (jB refs) with
    | none=>rfl
    | some i=>
     grind[CC,absurd]
   have hi:gn (jB refs) ts (ω b)=.bz:=by grind[gn]
   refine⟨b,arr,ty,vW id b hp U,fun de cZ=>?_,(lJ b bM hi).trans aA,aO.map bj.sat⟩;by_cases ap:de<w.heap.size/\gn (jB refs) ts (ω de)=.bz
   ·rw[hold de ap.1 ap.2]at cZ;cases e:ω de with
    | bz=>rw[e]at cZ;cases cZ
    | tok s q=>grind[nO]
    | box hj=>
     grind[nO,c4.box.injEq]
   have lK:lz t0 refs dr (eP de)=.box id:=by
    grind
   cases e:eP de with
   | bz=>rw[e]at lK;cases lK
   | tok s q=>grind[lz]
   | box fj=>
    grind[lz,c4.box.injEq,wg,absurd]
  simp only[aD.u6,N3]at au;cases dr with
  | none=>grind
  | some d=>
   simp only[dh]at au;by_cases aF:d=id
   ·subst aF;rw[bU rfl]at au;rw[<-fB au];cases gG with
    | vals rs=>exact absurd Bg.1 (by simp)
    | gW src ds=>
     obtain⟨_,rfl,hlen⟩:=Bg;obtain⟨eF,_⟩:=eF;rw[MD _ _ rfl]at eF;refine (var 49 mD v d nk (by omega) hlen (It xO) (bU rfl) eF (Is xO) xU (fun de fj e _=>?_) (fun de _ e=>?_)).1
     ·grind[wg,absurd,rj]
     simp[q7,iq]at e
   rw[bE aF,wj (fun e=>aF e.symm)]at au;grind
 refine⟨a',cL,⟨aW.defers,by simp[aD.u6,aW.size],?_,?_,fun s aj=>?_,fun id b hi cZ=>?_,?_,qK⟩,?_⟩
 ·refine⟨aw.os.trans aW.below.os,aw.tape.trans aW.below.tape,aw.output.trans aW.below.output,rU aW.below.size aw.size,fun b bM ay=>?_,fun aj=>rU (aW.below.drawn aj) (aw.drawn aj),aw.laid,aW.below.free⟩;have ju:b<w.heap.size:=w' bM aW.below.size;have oy:ω b=.bz:=by
   cases e:ω b with
   | bz=>rfl
   | box id=>exact absurd (aW.owned b (by simp[e])).1 (fun h=>h.elim (fun h=>by omega) ay)
   | tok s q=>exact absurd (aW.owned b (by simp[e])).1 (fun h=>h.elim (fun h=>by omega) ay)
  exact (lJ b ju (by rw[oy];rfl)).trans (aW.below.block b bM ay)
 ·intro b fq;by_cases ap:b<w.heap.size/\gn (jB refs) ts (ω b)=.bz
  ·rw[hold b ap.1 ap.2]at fq;have aa:ω b≠.bz:=fun e=>by rw[e]at fq;exact fq rfl
   obtain⟨aA,arr,ty,aO⟩:=aW.owned b aa;grind
  have aa:eP b≠.bz:=fun e=>by
   simp only[a']at fq;rw[bE ap,e]at fq;exact fq rfl
  obtain⟨arr,ty,aO⟩:=kf b aa;refine⟨?_,arr,ty,aO⟩;by_cases bM:b<w.heap.size
  ·have a8:ω b≠.bz:=fun e=>ap ⟨bM,by rw[e];rfl⟩
   exact (aW.owned b a8).1
  exact .inl (by have:=aW.below.size;omega)
 ·have:cL s=τ s:=by simp only[cL];rw[bE (by omega)]
  rw[this];exact aW.fixed s aj
 ·by_cases ap:b<w.heap.size/\gn (jB refs) ts (ω b)=.bz
  ·rw[hold b ap.1 ap.2]at cZ;cases e:ω b with
   | bz=>rw[e]at cZ;cases cZ
   | tok s q=>grind[nO]
   | box hj=>
    rw[e]at cZ;simp only[nO]at cZ;split at cZ
    ·simp only[c4.box.injEq]at cZ;subst cZ;exact aW.pinned hj b hi e
    cases cZ
  have lK:lz t0 refs dr (eP b)=.box id:=by
   grind
  cases e:eP b with
  | bz=>rw[e]at lK;cases lK
  | tok s q=>grind[lz]
  | box fj=>
   rw[e]at lK;simp only[lz]at lK;split at lK
   ·rename_i hj e2;simp only[c4.box.injEq]at lK;subst lK;rcases wg e2 with⟨r,a8,rfl,rfl⟩ | ⟨_,bG⟩
    ·obtain⟨⟨hK,arr,ty,g1,g2,g3,_⟩,⟨gj,g4,g5⟩,_⟩:=hrefs r a8;have ch:=g3 b e;rw[g4]at g1;simp only[ptrTo,Value.pointer.injEq,aT,Addr.mk.injEq]at g1;rw[ch,<-g1.1];exact aW.pinned r.id gj hi g5
    grind
   cases lK
 ·intro i q aM;simp only[aD.u6]at aM;rw[dk,b0]at aM;obtain⟨gJ,bV,rfl⟩:=aM;obtain⟨u,U,aa⟩:=aW.env i gJ bV;exact⟨u,U,cH.map bj.sat aa⟩
 cases gG with
 | gW src ds=>
  obtain⟨Mn,rfl,hlen⟩:=Bg;obtain⟨d,rfl⟩:=pq.1 Mn;obtain⟨eF,_⟩:=eF;rw[MD _ _ rfl]at eF;obtain⟨b,U,aa⟩:=(var 49 mD v d nk (by omega) hlen (It xO) (bU rfl) eF (Is xO) xU (fun de fj e _=>by
   grind[wg,absurd,rj]) (fun de _ e=>by simp[q7,iq]at e)).2
  exact⟨b,aa,U⟩
 | vals rs=>
  obtain⟨rfl,ez⟩:=Bg;simp only[Iu,cJ,cW]at ez;have er:∀(r:Nat) (cl:cE),rs[r]?=some cl->∀ds,cl=.agg ds->ds.length<100:=by
   intro r cl aI ds e;have:=fp.1 ez.2 cl (fe aI);grind
  have r3:∀(r:Nat) (cl:cE) (y:Value),r<50->(∀ds,cl=.agg ds->ds.length<100)->rs[r]?=some cl->(∀j,j<100->lL rs v (100*r+j)=y.cells.getD j undef)->kM aP eP r cl y->iZ (Sat aP a' cL) (cl.res (t0+100*r)) y:=by
   intro r cl y aI er xZ br nu;have gp:∀j,j<100->ow rs (100*r+j)=(match cE.cell j cl with | some (.J k _)=>k | _=>0):=by
    intro j bm;unfold ow;rw[show (100*r+j) / 100=r by omega,show (100*r+j) % 100=j by omega,xZ];rfl
   have MS:∀d:D,(match some d with | some (.J k _)=>k | _=>0)=d.rI:=fun d=>by cases d<;>rfl
   cases cl with
   | one d=>
    have U:=nu.nP;have aa:=br 0 (by omega);rw[yz U]at aa;have:=cell (100*r) d y (by omega) (by
     simp only[aF,aS.dG];rw[bU (by omega)];have aA:=gp 0 (by omega);rw[mX]at aa aA;rw[aA,aa];simp only[cE.cell,gO];rw[MS];rfl) nu
    exact this
   | agg ds=>
    obtain⟨vs,rfl,a7,bm⟩:=nu;refine⟨vs,rfl,by grind[wb],fun j l au=>?_⟩;rw[yD,b0]at au;obtain⟨d,dX,rfl⟩:=au;obtain⟨u,hu,x0⟩:=bm j d dX;have k5:j<100:=by
     grind
    refine⟨u,hu,?_⟩;have:=cell (100*r+j) d u (by omega) (by
     simp only[aF,aS.dG];rw[bU (by omega),gp j k5,br j k5];simp only[cE.cell,dX];rw[MS];simp[Value.cells,eg,hu]) x0
    grind
  show cH (Sat aP a' cL) (rF t0 rs) v;cases rs with
  | nil=>
   obtain⟨vs,rfl,a7,_⟩:=eF;exact⟨vs,rfl,a7,fun i a ai=>by grind[oW]⟩
  | cons cl rest=>
   cases rest with
   | nil=>
    have:=r3 0 cl v (by omega) (er 0 cl rfl) rfl (fun j bm=>by
     unfold lL;grind) eF
    exact this
   | cons LQ rest=>
    obtain⟨vs,rfl,a7,br⟩:=eF;refine⟨vs,rfl,by grind[BE],fun i a ai=>?_⟩;rw[BD,b0]at ai;obtain⟨mf,U,rfl⟩:=ai;obtain⟨y,bO,xL⟩:=br i mf U;have ij:i<50:=by
     grind
    refine⟨y,bO,?_⟩;have:=r3 i mf y ij (er i mf U) U (fun j bm=>by
     unfold lL;simp only;rw[show (100*i+j) / 100=i by omega,show (100*i+j) % 100=j by omega];simp[eg,bO]) xL
    grind
end Go.Sx
namespace Go.Sx
open Go.RowKit
def aC.nL(ts:List (Nat×Nat)):aC->Bool
 | .J g _ _=>g.nL ts
 | .aL t _ _ _ _ _=>(look t ts).isSome
 | _=>false
variable{w:World}{ω:Own}{τ:Nat->Nat×Value}{l:aC}
theorem N7{bs ts:List (Nat×Nat)}{d:D}{y:Value}(h:l.fE=some d)(hm:l.nL ts=false)(aj:Sat w ω τ l y):
  bS w (fun b=>gn bs ts (ω b)) Tag.free.R d y:=by
 have tag:∀(g:Tag) (b:Nat) (q:List (Nat×Nat)),g.nL ts=false->g.R q (ω b)->gn bs ts (ω b)=.bz:=by
  intro g b q ay aM;cases g with
  | free=>simp only[Tag.R]at aM;rw[aM];rfl
  | own s=>
   grind[Tag.R,Tag.nL,D7,D8,gn]
  | ro s=>
   simp only[Tag.nL,D7,D8]at ay;rcases aM with h | ⟨dB,h⟩
   ·rw[h];rfl
   grind[gn]
 cases l with
 | cp=>cases h
 | v x=>
  simp only[aC.fE]at h;split at h
  ·simp only[aT]at h;subst h;have:y=x:=aj;subst this;exact .v _ _ ‹_›
  cases h
 | a1 c=>
  simp only[aC.fE,aT]at h;subst h;have:y=.bool c:=aj;subst this;exact .v _ _ rfl
 | J t k es=>simp only[aC.fE,aT]at h;subst h;exact aj.1.frame fun b q _ aM=>⟨tag t b q hm aM,rfl⟩
 | ptr=>cases h
 | cU=>cases h
 | fK=>cases h
 | eS=>cases h
 | gZ ds off=>
  simp only[aC.fE]at h;split at h
  ·rename_i a6;subst a6;simp only[aT]at h;subst h;obtain⟨b,rfl,aI⟩:=aj;exact aI.frame fun b q _ aM=>⟨tag .free b q rfl aM,rfl⟩
  cases h
 | fd dn=>simp only[aC.fE,aT]at h;subst h;exact bS.frame aj fun b q _ aM=>⟨tag .free b q rfl aM,rfl⟩
 | c9 t k es=>simp only[aC.fE,aT]at h;subst h;exact bS.frame aj.1 fun b q _ aM=>⟨tag .free b q rfl aM,rfl⟩
 | aL t i j k es m=>
  obtain⟨u,hu,aI,_⟩:=aj;have fin:y=u->bS w (fun b=>gn bs ts (ω b)) Tag.free.R (.J k es) y:=by
   intro e;rw[e];exact aI.frame fun b q _ aM=>⟨tag (.own t) b _ hm aM,rfl⟩
  cases m with
  | at_ x z=>cases h
  | here=>simp only[aC.fE,aT]at h;subst h;exact fin hu
  | ky=>simp only[aC.fE,aT]at h;subst h;exact fin hu
def aE.AB:aE->Option (cE×List aC)
 | .az (.one l)=>l.fE.map fun d=>(.one d,[l])
 | .az (.agg ls)=>(ls.mapM aC.fE).map fun ds=>(.agg ds,ls)
 | _=>none
def uN(i:Nat):Nat->List aC->List (Nat×Nat)
 | _,[]=>[]
 | j,l::ls=>match l.tok with | some t=>(t,pd i j)::uN i (j+1) ls | none=>uN i (j+1) ls
theorem N8{i:Nat}:∀{ls:List aC} {j0 j:Nat} {l:aC} {t:Nat},ls[j]?=some l->l.tok=some t->(t,pd i (j0+j))∈uN i j0 ls
 | [],_,_,_,_,h,_=>by simp at h
 | fk::ls,j0,0,l,t,h,bZ=>by
  grind[uN,jn]
 | fk::ls,j0,j+1,l,t,h,bZ=>by
  have:=N8 (i:=i) (ls:=ls) (j0:=j0+1) (j:=j) (by simpa using h) bZ;grind[uN,hb]
def oT:aC->Option aC
 | .c9 t k es=>some (.c9 t k es)
 | .J .free k es=>some (.J .free k es)
 | _=>none
def rk(ls:List aC):List (Option aC):=if (ls.map oT).all Option.isNone then [] else ls.map oT
def aC.Dn(l:aC):Option D:=match oT l with | some l=>l.fE | none=>l.hE
theorem yL{gD:aC}(h:oT l=some gD):gD=l/\(∀ts t0 dr,u5 ts t0 dr l=l)/\∃k es,l.fE=some (.J k es)/\∀{w ω τ y},Sat w ω τ l y->bS w ω Tag.free.R (.J k es) y:=by
 unfold oT at h;split at h
 ·rename_i t k es;cases h;exact⟨rfl,fun _ _ _=>rfl,k,es,rfl,fun aj=>aj.1⟩
 ·rename_i k es;cases h;exact⟨rfl,fun _ _ _=>by simp[aC.cB,yK,Tag.nL,fF],k,es,rfl,fun aj=>aj.1⟩
 cases h
theorem aiF{ls:List aC}{j:Nat}(h:(rk ls)[j]?=some (some l)):ls[j]?=some l/\oT l=some l:=by
 grind[rk,b0,yL]
theorem Iv{ls:List aC}{j:Nat}(au:ls[j]?=some l):stays (jY (rk ls)) j=(oT l).isSome:=by
 unfold rk;split
 ·rename_i h;have:=fp.1 h (oT l) (kX.2 ⟨l,fe au,rfl⟩);simp only[stays,jY,List.map_nil,List.getD_nil];simp_all
 simp_all[stays,jY,List.map_map]
def tZ(ct:List aE):List (Option Nat)->Option (List (Option aC))
 | []=>some []
 | none::r=>(tZ ct r).map fun x=>none::x
 | some a::r=>
  match ct[a]? with
  | some (.az (.one l))=>
   match oT l,tZ ct r with
   | some gD,some lr=>some (some gD::lr)
   | _,_=>none
  | _=>none
theorem CD{ct:List aE}:∀{src:List (Option Nat)} {nk:List (Option aC)},tZ ct src=some nk->vb src=jY nk/\∀(j:Nat) (l:aC),nk[j]?=some (some l)->∃a,src[j]?=some (some a)/\ct[a]?=some (.az (.one l))/\oT l=some l
 | [],nk,h=>by
  simp only[tZ,aT]at h;subst h;exact⟨rfl,fun j l h=>by simp at h⟩
 | none::r,nk,h=>by
  simp only[tZ,b0]at h;obtain⟨x,U,rfl⟩:=h;obtain⟨g1,g2⟩:=CD U;grind[vb,jY]
 | some a::r,nk,h=>by
  simp only[tZ]at h;split at h
  ·rename_i l e;split at h
   ·rename_i gD lr e1 e2;simp only[aT]at h;subst h;obtain⟨g1,g2⟩:=CD e2;have:=(yL e1).1;subst this;refine⟨by grind[vb,jY],fun j l bm=>?_⟩;grind
   cases h
  cases h
def S0:aE->Option Nat
 | .az (.one (.ptr id 0))=>some id
 | _=>none
structure As where
 mS:List aJ
 refs:List hU
 ts:List (Nat×Nat)
 n1:List aC
def qz:aE->Option (FuncId×List Nat)
 | .az (.one (.fK g ids))=>some (g,ids)
 | _=>none
def Nr(id:Nat):aE:=.az (.one (.ptr id 0))
def oc(bs:kv):Nat->List (Option (List D))->List aE->Option As
 | _,[],[]=>some ⟨[],[],[],[]⟩
 | i,none::ms,p::ct=>
  match qz p with
  | some (g,ids)=>(oc bs (i+1) ms ct).map fun r=>⟨.fn g (List.range' (i+1) ids.length)::r.mS,r.refs,r.ts,r.n1⟩
  | none=>
   match p.AB,oc bs (i+1) ms ct with
   | some (cl,ls),some r=>some ⟨.ro cl::r.mS,r.refs,r.ts,ls++r.n1⟩
   | _,_=>none
 | i,some post::ms,p::ct=>
  match S0 p,oc bs (i+1) ms ct with
  | some id,some r=>
   match dh id bs with
   | some ls=>
    match ls.mapM aC.Dn with
    | some pre=>some ⟨.hD (jY (rk ls)) pre post::r.mS,⟨i,id,post,rk ls⟩::r.refs,uN i 0 ls++r.ts,r.n1⟩
    | none=>none
   | none=>none
  | _,_=>none
 | _,_,_=>none
def At(bs:kv)(a:As)(i:Nat)(ie:aJ)(p:aE):Prop:=
 (∃g ids,ie=.fn g (List.range' (i+1) ids.length)/\p=.az (.one (.fK g ids)))\/
 (∃cl ls,ie=.ro cl/\p.AB=some (cl,ls)/\∀l∈ls,l∈a.n1)\/
 (∃id ls pre post,ie=.hD (jY (rk ls)) pre post/\p=.az (.one (.ptr id 0))/\dh id bs=some ls/\ls.mapM aC.Dn=some pre/\(⟨i,id,post,rk ls⟩:hU)∈a.refs/\∀x∈uN i 0 ls,x∈a.ts)
theorem At.mono{bs:kv}{a b:As}{i:Nat}{ie:aJ}{p:aE}(h:At bs a i ie p)(U:∀l∈a.n1,l∈b.n1)(aa:∀x∈a.refs,x∈b.refs)(aA:∀x∈a.ts,x∈b.ts):At bs b i ie p:=by
 rcases h with h | ⟨cl,ls,e1,e2,ch⟩ | ⟨id,ls,pre,post,e1,e2,ch,dP,gT,k2⟩
 ·exact .inl h
 ·exact .inr (.inl ⟨cl,ls,e1,e2,fun l au=>U l (ch l au)⟩)
 exact .inr (.inr ⟨id,ls,pre,post,e1,e2,ch,dP,aa _ gT,fun x ao=>aA x (k2 x ao)⟩)
theorem CE{bs:kv}:∀{ms:List (Option (List D))} {ct:List aE} {i:Nat} {a:As},oc bs i ms ct=some a->a.mS.length=ct.length/\
  (∀(x:Nat) (ie:aJ),a.mS[x]?=some ie->∃p,ct[x]?=some p/\At bs a (i+x) ie p)/\
  (∀r∈a.refs,∃(x:Nat) (pre:List D),r.i=i+x/\a.mS[x]?=some (.hD (jY r.fa) pre r.post)/\ct[x]?=some (.az (.one (.ptr r.id 0)))/\∃ls,dh r.id bs=some ls/\r.fa=rk ls)
 | [],[],i,a,h=>by
  simp only[oc,aT]at h;grind
 | none::ms,p::ct,i,a,h=>by
  simp only[oc]at h;split at h
  ·rename_i g ids bD;rw[b0]at h;obtain⟨r,e2,rfl⟩:=h;obtain⟨dE,c6,b8⟩:=CE e2;have hp:p=.az (.one (.fK g ids)):=by
    unfold qz at bD;grind
   refine⟨by simp[dE],fun x ie ao=>?_,fun y bO=>?_⟩
   ·cases x with
    | zero=>
     simp only[kV,aT]at ao;subst ao;exact⟨p,rfl,.inl ⟨g,ids,rfl,hp⟩⟩
    | succ x=>
     obtain⟨oR,U,aa⟩:=c6 x ie (by grind);refine⟨oR,by grind,?_⟩;rw[show i+1+x=i+(x+1) by omega]at aa;exact aa.mono (fun _ h=>h) (fun _ h=>h) (fun _ h=>h)
   obtain⟨x,pre,U,aa,aA,aO⟩:=b8 y bO;exact⟨x+1,pre,by omega,by grind,by grind,aO⟩
  split at h
  ·rename_i cl ls r e1 e2;simp only[aT]at h;subst h;obtain⟨dE,c6,b8⟩:=CE e2;refine⟨by simp[dE],fun x ie ao=>?_,fun y bO=>?_⟩
   ·cases x with
    | zero=>
     simp only[kV,aT]at ao;subst ao;exact⟨p,rfl,.inr (.inl ⟨cl,ls,rfl,e1,fun l au=>hG _ au⟩)⟩
    | succ x=>
     obtain⟨oR,U,aa⟩:=c6 x ie (by grind);refine⟨oR,by grind,?_⟩;rw[show i+1+x=i+(x+1) by omega]at aa;exact aa.mono (fun l au=>ig _ au) (fun _ h=>h) (fun _ h=>h)
   obtain⟨x,pre,U,aa,aA,aO⟩:=b8 y bO;exact⟨x+1,pre,by omega,by grind,by grind,aO⟩
  cases h
 | some post::ms,p::ct,i,a,h=>by
  simp only[oc]at h;split at h
  ·rename_i id r e1 e2;split at h
   ·rename_i ls ch;split at h
    ·rename_i pre dP;simp only[aT]at h;subst h;obtain⟨dE,c6,b8⟩:=CE e2;have hp:p=.az (.one (.ptr id 0)):=by
      unfold S0 at e1;grind
     refine⟨by simp[dE],fun x ie ao=>?_,fun y bO=>?_⟩
     ·cases x with
      | zero=>
       simp only[kV,aT]at ao;subst ao;exact⟨p,rfl,.inr (.inr ⟨id,ls,pre,post,rfl,hp,ch,dP,jn,fun x ao=>hG _ ao⟩)⟩
      | succ x=>
       obtain⟨oR,U,aa⟩:=c6 x ie (by grind);refine⟨oR,by grind,?_⟩;rw[show i+1+x=i+(x+1) by omega]at aa;exact aa.mono (fun _ h=>h) (fun x h=>hb _ h) (fun x h=>ig _ h)
     rcases ep.1 bO with rfl | bO
     ·grind
     obtain⟨x,By,U,aa,aA,aO⟩:=b8 y bO;exact⟨x+1,By,by omega,by grind,by grind,aO⟩
    cases h
   cases h
  cases h
 | [],_::_,i,a,h=>by grind[oc]
 | none::_,[],i,a,h=>by grind[oc]
 | some _::_,[],i,a,h=>by grind[oc]
def aS.EI(d:Option Nat):aS->Bool
 | .vals rs=>Iu rs
 | .gW _ ds=>d.isSome&&decide (ds.length<100)
def aS.dr(d:Option Nat):aS->Option Nat
 | .vals _=>none
 | .gW _ _=>d
def aS.mD:aS->List D
 | .vals _=>[]
 | .gW _ ds=>ds
def aS.nk(ct:List aE):aS->Option (List (Option aC))
 | .vals _=>some []
 | .gW src _=>tZ ct src
theorem aS.Vh{d:Option Nat}{r:aS}(h:r.EI d=true):r.fits (r.dr d) r.mD:=by
 cases r with
 | vals rs=>exact⟨rfl,h⟩
 | gW src ds=>
  simp only[aS.EI,cJ,cW]at h;exact⟨h.1,rfl,h.2⟩
def sE(n:Nat):Nat->List aJ->Bool
 | _,[]=>true
 | i,.fn _ _::r=>i+1==n&&sE n (i+1) r
 | i,_::r=>sE n (i+1) r
theorem CF{n:Nat}:∀{as:List aJ} {i x:Nat} {g:FuncId} {cK:List Nat},sE n i as=true->as[x]?=some (.fn g cK)->i+x+1=n
 | [],_,_,_,_,_,h=>by simp at h
 | .fn _ _::r,i,0,g,cK,h,ao=>by
  simp_all[sE,cJ,jl]
 | .fn _ _::r,i,x+1,g,cK,h,ao=>by
  simp only[sE,cJ,jl]at h;have:=CF h.2 (x:=x) (by simpa using ao);omega
 | .ro _::r,i,0,g,cK,h,ao=>by simp at ao
 | .hD _ _ _::r,i,0,g,cK,h,ao=>by simp at ao
 | .ro _::r,i,x+1,g,cK,h,ao=>by
  have:=CF (i:=i+1) (by simpa[sE]using h) (x:=x) (by simpa using ao);omega
 | .hD _ _ _::r,i,x+1,g,cK,h,ao=>by
  have:=CF (i:=i+1) (by simpa[sE]using h) (x:=x) (by simpa using ao);omega
def yM(P:Program)(st:aD)(d:Option Nat)(f:FuncId)(n:Nat)(ct:List aE)(ans:List b'):Option (aD×List b'×List Prop):=
 match ans with
 | .cY ua gG::r=>
  match oc st.boxes 0 ua ct,gG.nk ct with
  | some a,some nk=>
   let t0:=10000*(d.getD 0+1)
   if h9 P f=true/\t0+10000<=cX/\we a.refs (gG.dr d)=true/\Io a.ts=true/\gG.EI d=true/\a.n1.all (fun l=>!(l.nL a.ts))=true/\rE a.mS=n/\sE n 0 a.mS=true then
    let bl:=st.u6 a.ts t0 a.refs (gG.dr d) nk gG.mD
    match d with
    | some d=>some (⟨bl.env.set d (gG.gX t0 (gG.dr (some d))),bl.boxes⟩,r,[bP P f a.mS gG])
    | none=>some (bl,r,[bP P f a.mS gG])
   else none
  | _,_=>none
 | _=>none
def Iw(P:Program)(st:aD)(d:Option Nat)(f:FuncId)(args:List Operand)(ans:List b'):Option (aD×List b'×List Prop):=
 match (args.map st.bj).getLast?.bind qz with
 | some (_,ids)=>yM P st d f args.length (args.map st.bj++ids.map Nr) ans
 | none=>yM P st d f args.length (args.map st.bj) ans
def Ix(P:Program)(st:aD)(d:Option Nat)(f:Operand)(args:List Operand)(ans:List b'):Option (aD×List b'×List Prop):=
 match qz (st.bj f) with
 | some (g,ids)=>if (args.map st.bj).all (fun p=>(qz p).isNone) then yM P st d g (args.length+ids.length) (args.map st.bj++ids.map Nr) ans else none
 | none=>none
variable{a:Act}{P:Program}{w0:dY}{st bl:aD}{dst:Option Nat}{ans cf:List b'}{obs:List Prop}
theorem Iy{f:FuncId}{n:Nat}{ct:List aE}{vs:Array Value}{o:Oper}
  (Fe:o.dst=dst) (aW:cy w0 st a w ω τ) (h:yM P st dst f n ct ans=some (bl,cf,obs)) (a6:cv obs) (eL:vs.size=ct.length) (fY:∀(x:Nat) (p:aE),ct[x]?=some p->∃v,vs[x]?=some v/\cH (Sat w ω τ) p v)
  (jt:∀(x:Nat) (g:FuncId) (ids:List Nat),x+1=n->ct[x]?=some (.az (.one (.fK g ids)))->vs[x]?=some (.func (.func g) #[] ((List.range' n ids.length).map fun k=>vs.getD k undef).toArray))
  (fO:h9 P f=true->(execOp a.eval o).run P w=.ok (.enter f (vs.extract 0 n)) w) {K:Act->World->Prop} {Q:Exit->Act->World->Prop} (ii:∀cC aP,Rel w0 bl cC aP->K cC aP):
  Oper.wp P o a w K Q:=by
 unfold yM at h;split at h
 ·rename_i ua gG r;split at h
  ·rename_i qt nk k4 xU;simp only at h;split at h
   ·rename_i ap;obtain⟨hY,hO,cG,A7,ez,Bf,FJ,sf⟩:=ap;rw[fp]at Bf;have xY:∀l∈qt.n1,l.nL qt.ts=false:=fun l au=>by grind
    obtain⟨hlen,c6,b8⟩:=CE k4
    let xd:Own:=fun b=>gn (jB qt.refs) qt.ts (ω b)
    have c1:∀b,xd b≠.bz->ω b≠.bz:=fun b h e=>h (by simp only[xd,e];rfl)
    have Wx:Em w xd qt.mS vs:=by
     refine⟨fun b aw=>(aW.owned b (c1 b aw)).2,fun b i aw=>?_,by grind,fun x ie ao=>?_⟩
     ·simp only[xd]at aw;cases e:ω b with
      | bz=>grind
      | tok s q=>grind[gn]
      | box hj=>
       rw[e]at aw;simp only[gn]at aw;split at aw
       ·rename_i fj ng;simp only[c4.box.injEq]at aw;subst aw;obtain⟨lr,eh,_,xk⟩:=CC ng;grind
       cases aw
     obtain⟨p,hp,pF⟩:=c6 x ie ao;obtain⟨v,br,aj⟩:=fY x p hp;refine⟨v,br,?_⟩;rw[dL]at pF;rcases pF with⟨g,ids,rfl,_⟩ | ⟨cl,ls,rfl,e2,ch⟩ | ⟨id,ls,pre,post,rfl,rfl,ch,dP,gT,k2⟩
     ·exact trivial
     ·cases p with
      | ek as=>cases e2
      | az az=>
       cases az with
       | one l=>
        simp only[aE.AB,b0]at e2;obtain⟨d,U,aa⟩:=e2;simp only[bq]at aa;obtain⟨rfl,rfl⟩:=aa;exact N7 U (xY l (ch l (by simp))) aj
       | agg eW=>
        simp only[aE.AB,b0]at e2;obtain⟨ds,U,aa⟩:=e2;simp only[bq]at aa;obtain⟨rfl,rfl⟩:=aa;obtain⟨aA,aO⟩:=lU U;obtain⟨vs,rfl,a7,WV⟩:=aj;refine⟨vs,rfl,by omega,fun j d aF=>?_⟩;obtain⟨l,au,c2⟩:=aO j d aF;obtain⟨u,hu,eV⟩:=WV j l au;exact⟨u,hu,N7 c2 (xY l (ch l (fe au))) eV⟩
     obtain⟨b,aw,rfl⟩:=aj;obtain⟨de,arr,ty,eE,hu,bH,ec⟩:=aW.boxes id ls ch;have:=hu b aw;subst this;have Wh:=N6 cG gT;simp only at Wh;obtain⟨aA,aO⟩:=lU dP;refine⟨⟨b,arr,ty,rfl,by grind[gn],fun c ap=>?_,bH,by have:=ec.1;omega,fun j d aF=>?_⟩,fun j d aF e5=>?_⟩
     ·simp only[xd]at ap;cases e:ω c with
      | bz=>grind
      | tok s q=>grind[gn]
      | box hj=>
       grind[gn,c4.box.injEq,CC,rj]
     rotate_left
     ·obtain⟨l,au,c2⟩:=aO j d aF;obtain⟨u,gq,eV⟩:=ec.2 j l au;rw[Iv au]at e5;obtain⟨gD,oA⟩:=pq.1 e5;obtain⟨rfl,_,k,es,dI,sh⟩:=yL oA;simp only[aC.Dn,oA]at c2;rw[dI]at c2;cases c2;have e:hy w (.pointer (some ⟨b,0,none⟩)) j=u:=by simp[hy,bH,eg,gq]
      rw[e];refine (sh eV).frame fun c q _ aM=>⟨?_,rfl⟩
      grind[Tag.R,gn]
     obtain⟨l,au,c2⟩:=aO j d aF;obtain⟨u,gq,eV⟩:=ec.2 j l au;refine⟨u,gq,fun e5=>?_⟩;rw[Iv au]at e5;have MJ:oT l=none:=by simpa using e5
     simp only[aC.Dn,MJ]at c2;clear e5 MJ;cases l with
     | v z=>
      simp only[aC.hE]at c2;split at c2
      ·simp only[aT]at c2;subst c2;have:u=z:=eV;subst this;exact .v _ _ ‹_›
      cases c2
     | a1 c=>
      simp only[aC.hE,aT]at c2;subst c2;have:u=.bool c:=eV;subst this;exact .v _ _ rfl
     | J g k es=>
      cases g with
      | free=>cases c2
      | ro s=>cases c2
      | own s=>
       simp only[aC.hE,aT]at c2;subst c2;have hm:=k2 _ (N8 (i:=x) (j0:=0) au rfl);rw[dL]at hm;have as8:=N2 A7 hm;refine eV.1.frame fun c q _ aM=>⟨?_,rfl⟩
       grind[Tag.R,gn]
     | cp=>cases c2
     | ptr=>cases c2
     | cU=>cases c2
     | gZ=>cases c2
     | fd=>cases c2
     | c9=>cases c2
     | fK=>cases c2
     | aL=>cases c2
     | eS=>cases c2
    have Fk:Ec qt.mS vs:=by
     intro x g cK ao;have x7:=CF sf ao;rw[dL]at x7;obtain⟨p,hp,pF⟩:=c6 x _ ao;rw[dL]at pF;rcases pF with⟨dS,ids,e1,rfl⟩ | ⟨cl,ls,e1,_⟩ | ⟨id,ls,pre,post,e1,_⟩
     ·grind
     ·cases e1
     cases e1
    have key:bP P f qt.mS gG->(∀v aP a' cL,cy w0 (st.u6 qt.ts (10000*(dst.getD 0+1)) qt.refs (gG.dr dst) nk gG.mD) a aP a' cL->cH (Sat aP a' cL) (gG.gX (10000*(dst.getD 0+1)) (gG.dr dst)) v->K (a.put dst v) aP)->
      Oper.wp P o a w K Q:=by
     intro FI Mb;unfold Oper.wp;rw[fO hY,<-FJ];simp only[Oper.upon];rw[Fe];refine (FI w _ xd Wx Fk (aW.tidy fun b aw=>by grind)).mono ?_;rintro e aP ⟨v,rfl,iK,eP,bX,cw,cR,dU⟩;obtain⟨a',cL,U,aa⟩:=aW.Va (10000*(dst.getD 0+1)) (nk:=nk) (ys:=fun i=>vs.getD i undef) cG hO iK eP bX cw (fun r aI=>by
      obtain⟨x,pre,g1,g2,g3,g4⟩:=b8 r aI;rw[dL]at g1;obtain⟨y,bO,aj⟩:=fY x _ g3;obtain⟨b,aw,rfl⟩:=aj;have e:vs.getD r.i undef=ptrTo b:=by rw[g1,eg,bO];rfl
      rw[e];obtain⟨ls,g5,g6⟩:=g4;simp_all[ptrTo]) dU (aS.Vh ez) (fun d aF=>by
      cases gG with
      | vals rs=>cases aF
      | gW src ds=>
       have aF:dst=some d:=aF;grind) (fun r aI j l bm=>by
      obtain⟨x,pre,g1,g2,g3,ls,g5,g6⟩:=b8 r aI;rw[dL]at g1;obtain⟨y,bO,aj⟩:=fY x _ g3;obtain⟨b,aw,rfl⟩:=aj;have e:vs.getD r.i undef=ptrTo b:=by rw[g1,eg,bO];rfl
      rw[e];rw[g6]at bm;obtain⟨i1,i2⟩:=aiF bm;refine⟨(yL i2).2.1 _ _ _,?_⟩;have e5:stays (jY r.fa) j=true:=by simp_all[Iv]
      rw[(cR r.i _ pre r.post (ptrTo b) (by grind) (by simp_all)).2 j e5];obtain⟨de,arr,ty,eE,hu,bH,ec⟩:=aW.boxes _ ls g5;have:=hu b aw;subst this;obtain⟨u,gq,eV⟩:=ec.2 j l i1;have e:hy w (ptrTo b) j=u:=by simp[hy,ptrTo,bH,eg,gq]
      grind) (fun j l bm=>by
      cases gG with
      | vals rs=>
       grind[aS.nk,aT]
      | gW src ds=>
       obtain⟨_,i2⟩:=CD xU;obtain⟨x,vV,tU,W'⟩:=i2 j l bm;refine⟨(yL W').2.1 _ _ _,?_⟩;obtain⟨y,bO,aj⟩:=fY x _ tU;have:=dU.2 j x vV;rw[bO]at this;rw[<-fB this];exact aj) (fun src ds e=>by
      subst e;exact (CD xU).1)
     grind
    cases dst with
    | none=>
     simp only[aT,bq]at h;obtain⟨rfl,_,rfl⟩:=h;exact key a6.1 fun v aP a' cL U _=>ii _ _ ⟨a',cL,U⟩
    | some d=>
     simp only[aT,bq]at h;obtain⟨rfl,_,rfl⟩:=h;exact key a6.1 fun v aP a' cL U aa=>ii _ _ ⟨a',cL,U.put aa⟩
   cases h
  cases h
 cases h
theorem aiG{f:FuncId}{args:Array Operand}{ts:Array TypeId}{type:TypeId}{pos:String}{after:Array Edge}{guard:Option (Nat×Bool)}
  (aW:cy w0 st a w ω τ) (h:Iw P st dst f args.toList ans=some (bl,cf,obs)) (a6:cv obs) {K:Act->World->Prop} {Q:Exit->Act->World->Prop} (ii:∀cC aP,Rel w0 bl cC aP->K cC aP):
  Oper.wp P ⟨dst,.call ⟨.value (.func f),args,ts⟩,type,pos,after,guard⟩ a w K Q:=by
 have fY:∀(x:Nat) (p:aE),(args.toList.map st.bj)[x]?=some p->∃v,(args.map a.eval)[x]?=some v/\cH (Sat w ω τ) p v:=by
  intro x p hp;rw[dk,b0]at hp;obtain⟨o,U,rfl⟩:=hp;refine⟨a.eval o,?_,aW.bj o⟩;grind
 have fO:h9 P f=true->(execOp a.eval ⟨dst,.call ⟨.value (.func f),args,ts⟩,type,pos,after,guard⟩).run P w=.ok (.enter f (args.map a.eval)) w:=by
  intro hY;unfold h9 at hY;split at hY
  ·rename_i fn jt;simp only[cJ,hT,Al,l']at hY;have qL:fn.body≠none:=by grind
   simp[execOp,resolve,Act.eval,Deferred.ofValue,invoke,callFunc,jt,hY.1,qL]
  cases hY
 unfold Iw at h;split at h
 ·rename_i g ids si;rw[kW]at si;obtain⟨p,hp,E9⟩:=si;have nB:p=.az (.one (.fK g ids)):=by
   unfold qz at E9;grind
  subst nB;have Fv:0<(args.toList.map st.bj).length:=by
   grind
  have ML:(args.toList.map st.bj)[args.toList.length-1]?=some (.az (.one (.fK g ids))):=by
   grind
  obtain⟨v,br,bs,E8,xF,fq⟩:=fY _ _ ML;have a7:0<args.size:=by grind
  refine Iy (n:=args.toList.length) (vs:=args.map a.eval++(bs.map ptrTo).toArray) rfl aW h a6 (by simp[xF]) (fun x p ao=>?_) (fun x dS W5 x7 ao=>?_) (fun hY=>?_) ii
  ·rw[n5]at ao;rw[kU];split at ao
   ·grind
   rename_i ox;rw[bE (by grind)];rw[dk,b0]at ao;obtain⟨id,hid,rfl⟩:=ao;obtain⟨b,hh,gI⟩:=fq _ id hid;refine⟨ptrTo b,?_,b,gI,rfl⟩;grind
  ·have bM:x<args.size:=by grind
   have vS:x=args.toList.length-1:=by omega
   rw[n5,bU (by grind),vS,ML]at ao;simp only[aT,aE.az.injEq,bg.one.injEq,aC.fK.injEq]at ao;obtain⟨rfl,rfl⟩:=ao;rw[kU,bU (by grind),vS,br,E8]
   congr 2
   apply Array.ext
   ·simp[xF]
   simp_all
  have e:(args.map a.eval++(bs.map ptrTo).toArray).extract 0 args.toList.length=args.map a.eval:=by
   simp_all
  grind
 refine Iy (n:=args.toList.length) (vs:=args.map a.eval) rfl aW h a6 (by simp) fY (fun x g ids x7 ao=>?_) (fun hY=>?_) ii
 ·rename_i kh;exfalso;have:(args.toList.map st.bj).getLast?=some (.az (.one (.fK g ids))):=by
   grind
  grind[qz]
 have e:(args.map a.eval).extract 0 args.toList.length=args.map a.eval:=by simp
 grind
theorem ajM{y:Nat}{args:Array Operand}{ts:Array TypeId}{type:TypeId}{pos:String}{after:Array Edge}{guard:Option (Nat×Bool)}
  (aW:cy w0 st a w ω τ) (h:Ix P st dst (.tmp y) args.toList ans=some (bl,cf,obs)) (a6:cv obs) {K:Act->World->Prop} {Q:Exit->Act->World->Prop} (ii:∀cC aP,Rel w0 bl cC aP->K cC aP):
  Oper.wp P ⟨dst,.call ⟨.value (.tmp y),args,ts⟩,type,pos,after,guard⟩ a w K Q:=by
 have fY:∀(x:Nat) (p:aE),(args.toList.map st.bj)[x]?=some p->∃v,(args.map a.eval)[x]?=some v/\cH (Sat w ω τ) p v:=by
  intro x p hp;rw[dk,b0]at hp;obtain⟨o,U,rfl⟩:=hp;refine⟨a.eval o,?_,aW.bj o⟩;grind
 unfold Ix at h;split at h
 ·rename_i g ids E9;have nB:st.bj (.tmp y)=.az (.one (.fK g ids)):=by
   unfold qz at E9;grind
  have aj:=aW.bj (.tmp y);rw[nB]at aj;obtain⟨bs,E8,xF,fq⟩:=aj;split at h
  case isFalse=>cases h
  rename_i kh;refine Iy (n:=args.toList.length+ids.length) (vs:=args.map a.eval++(bs.map ptrTo).toArray) rfl aW h a6 (by simp[xF]) (fun x p ao=>?_) (fun x dS W5 x7 ao=>?_) (fun hY=>?_) ii
  ·rw[n5]at ao;rw[kU];split at ao
   ·grind
   rename_i ox;rw[bE (by grind)];rw[dk,b0]at ao;obtain⟨id,hid,rfl⟩:=ao;obtain⟨b,hh,gI⟩:=fq _ id hid;refine⟨ptrTo b,?_,b,gI,rfl⟩;grind
  ·exfalso;rw[n5]at ao;split at ao
   ·rename_i bM;have:=fp.1 kh _ (fe ao);grind[qz]
   rw[dk,b0]at ao;obtain⟨id,_,e⟩:=ao;cases e
  have e:(args.map a.eval++(bs.map ptrTo).toArray).extract 0 (args.toList.length+ids.length)=args.map a.eval++(bs.map ptrTo).toArray:=by
   have e2:args.toList.length+ids.length=(args.map a.eval++(bs.map ptrTo).toArray).size:=by simp[xF]
   grind
  rw[e];unfold h9 at hY;split at hY
  ·rename_i fn jt;simp only[cJ,hT,Al,l']at hY;have qL:fn.body≠none:=by grind
   simp[execOp,resolve,E8,Deferred.ofValue,invoke,callFunc,jt,hY.1,qL]
  cases hY
 cases h
