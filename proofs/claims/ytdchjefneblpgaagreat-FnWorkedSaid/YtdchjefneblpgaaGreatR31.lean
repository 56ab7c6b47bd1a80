import Derived.Test.YtdchjefneblpgaaGreatR11
set_option linter.unusedVariables false
set_option linter.unusedSimpArgs false
namespace Go.Sx
open Go.RowKit
inductive aM where
 | ro (a:cF)
 | hV (pn:List Bool) (pre post:List D)
 | fn (g:FuncId) (cK:List Nat)
@[match_pattern] abbrev aM.ref (pre post : List D) : aM := .hV [] pre post
abbrev aM.cur(pre post:List D):aM:=.hV [true,false,false] pre post
def stays(pn:List Bool)(j:Nat):Bool:=pn.getD j false
def ia(w:World)(y:Value)(j:Nat):Value:=
 match y with
 | .pointer (some p)=>match w.heap[p.block]? with | some (.cells arr _ _)=>arr.getD j undef | _=>undef
 | _=>undef
def p2(i j:Nat):Nat:=900000000+(100*i+j)
def gW(i j:Nat):Nat:=5000+(100*i+j)
def uo(w:World)(ω:Own)(i:Nat)(pn:List Bool)(f:Nat->Nat)(ds:List D)(y:Value):Prop:=
 ∃b arr ty,y=ptrTo b/\ω b=.box i/\(∀cW,ω cW=.box i->cW=b)/\w.heap[b]?=some (.cells arr ty (0,0))/\arr.size=ds.length/\∀(j:Nat) (d:D),ds[j]?=some d->∃u,arr[j]?=some u/\(stays pn j=false->bV w ω (Tag.own (f j)).R d u)
def VT(w:World)(ω:Own)(i:Nat):aM->Value->Prop
 | .ro (.one d),y=>bV w ω Tag.free.R d y
 | .ro (.agg ds),y=>∃vs:Array Value,y=.agg vs/\vs.size=ds.length/\∀(j:Nat) (d:D),ds[j]?=some d->∃u,vs[j]?=some u/\bV w ω Tag.free.R d u
 | .hV pn pre _,y=>uo w ω i pn (p2 i) pre y/\∀(j:Nat) (d:D),pre[j]?=some d->stays pn j=true->bV w ω Tag.free.R d (ia w y j)
 | .fn _ _,_=>True
def aM.bC:aM->Nat
 | .fn _ cK=>cK.length
 | _=>0
def si(args:List aM):Nat:=args.length-(args.map aM.bC).sum
def Fe(args:List aM)(vs:Array Value):Prop:=∀(i:Nat) (g:FuncId) (cK:List Nat),args[i]?=some (.fn g cK)->vs[i]?=some (.func (.func g) #[] (cK.map fun k=>vs.getD k undef).toArray)
def DE(w:World)(ω:Own):Prop:=∀b,ω b≠.bB->∃arr ty,w.heap[b]?=some (.cells arr ty (0,0))
def Fi(w:World)(ω:Own)(args:List aM)(vs:Array Value):Prop:=DE w ω/\(∀b i,ω b=.box i->∃pn pre post,args[i]?=some (.hV pn pre post))/\vs.size=args.length/\∀(i:Nat) (iy:aM),args[i]?=some iy->∃v,vs[i]?=some v/\VT w ω i iy v
def vQ(src:List (Option Nat)):List Bool:=src.map Option.isSome
def BF(w:World)(ω:Own)(vs:Array Value):aT->Value->Prop
 | .vals rs,v=>l3 w ω rs v
 | .iN src ds,v=>uo w ω 49 (vQ src) (gW 49) ds v/\∀(j i:Nat),src[j]?=some (some i)->vs[i]?=some (ia w v j)
def bY(P:Program)(f:FuncId)(args:List aM)(r:aT):Prop:=
 ∀(w:World) (vs:Array Value) (ω:Own),Fi w ω args vs->Fe args vs->Tidy w ω->Calls P f (vs.extract 0 (si args)) w fun e aN=>∃v,e=.returned v/\gj ⟨w,fun b=>ω b≠.bB,fun _=>(0,undef)⟩ aN/\
  ∃a1:Own,(∀b,b<w.heap.size->ω b=.bB->a1 b=.bB)/\DE aN a1/\(∀(i:Nat) (pn:List Bool) (pre post:List D) (y:Value),args[i]?=some (.hV pn pre post)->vs[i]?=some y->uo aN a1 i pn (gW i) post y/\∀j,stays pn j=true->ia aN y j=ia w y j)/\BF aN a1 vs r v
abbrev atz:=List (Nat×Nat)
def look(t:Nat):List (Nat×Nat)->Option Nat
 | []=>none
 | (s,n)::r=>if s=t then some n else look t r
def Jh(ts:List (Nat×Nat)):Bool:=ts.all fun x=>ts.all fun y=>(x.1==y.1)==(x.2==y.2)
variable{ts:List (Nat×Nat)}
theorem O8{t n:Nat}(h:Jh ts=true)(hm:(t,n)∈ts):look t ts=some n:=by
 have key:∀l:List (Nat×Nat),(∀x∈l,x∈ts)->(t,n)∈l->look t l=some n:=by
  intro l;induction l with
  | nil=>intro _ h;cases h
  | cons x l dP=>
   intro aj hm;obtain⟨s,m⟩:=x;simp only[look];split
   ·rename_i e;subst e;have h1:=fA.1 (fA.1 h _ (aj _ gT)) _ (by exact ‹(s,n)∈ts›);simp only[su,eD]at h1;have:(m==n)=true:=by rw[<-h1]
    simp only[eD]at this;rw[this]
   rename_i cB;rcases eu.1 hm with e | hm
   ·simp only[bx]at e;exact absurd e.1.symm cB
   exact dP (fun x ag=>aj x (hy _ ag)) hm
 exact key ts (fun _ h=>h) hm
theorem ajZ{t n:Nat}(h:look t ts=some n):(t,n)∈ts:=by
 induction ts with
 | nil=>cases h
 | cons x l dP=>
  obtain⟨s,m⟩:=x;simp only[look]at h;split at h
  ·rename_i e;subst e;rw[eN h];exact gT
  exact hy _ (dP h)
def gq(bs ts:List (Nat×Nat)):cV->cV
 | .bB=>.bB
 | .box id=>match look id bs with | some i=>.box i | none=>.bB
 | .tok t q=>match look t ts with | some n=>.tok n q | none=>.bB
def Tag.ox(ts:List (Nat×Nat)):Tag->Bool
 | .free=>false
 | .own t=>(look t ts).isSome
 | .ro t=>(look t ts).isSome
def qq:Option Nat->Nat->Bool
 | none=>fun _=>true
 | some d=>jj d
def w8(ts:List (Nat×Nat))(t0:Nat)(g:Tag):Option Tag:=if g.ox ts then none else gf t0 g
abbrev vO(ts:List (Nat×Nat))(t0:Nat)(dy:Option Nat)(l:aB):aB:=l.ci (w8 ts t0) (qq dy)
structure iE where
 i:Nat
 id:Nat
 post:List D
 fo:List (Option aB)
def kj(cK:List (Option aB)):List Bool:=cK.map Option.isSome
def ky:List (Option aB)->List aB->List aB
 | [],ls=>ls
 | _,[]=>[]
 | some l::cK,_::ls=>l::ky cK ls
 | none::cK,l::ls=>l::ky cK ls
theorem DF:∀(cK:List (Option aB)) (ls:List aB),(ky cK ls).length=ls.length
 | [],ls=>rfl
 | _::_,[]=>by simp[ky]
 | some l::cK,_::ls=>by simp[ky,DF cK ls]
 | none::cK,_::ls=>by simp[ky,DF cK ls]
theorem Ji:∀(cK:List (Option aB)) (ls:List aB) (j:Nat) (l:aB),(ky cK ls)[j]?=some l->(cK[j]?=some (some l)/\stays (kj cK) j=true)\/(ls[j]?=some l/\stays (kj cK) j=false)
 | [],ls,j,l,h=>.inr ⟨h,by simp[stays,kj]⟩
 | _::_,[],j,l,h=>by simp[ky]at h
 | some k::cK,x::ls,0,l,h=>by simp only[ky,jS,aR]at h;subst h;exact .inl ⟨rfl,rfl⟩
 | none::cK,x::ls,0,l,h=>by simp only[ky,jS]at h;exact .inr ⟨h,rfl⟩
 | some k::cK,x::ls,j+1,l,h=>by
  have:=Ji cK ls j l (by simpa[ky]using h);simpa[stays,kj]using this
 | none::cK,x::ls,j+1,l,h=>by
  have:=Ji cK ls j l (by simpa[ky]using h);simpa[stays,kj]using this
def vB(t0:Nat):List iE->List (Nat×List aB)->List (Nat×List aB)
 | [],bs=>bs
 | r::rs,bs=>vB t0 rs (pN r.id (ky r.fo (mF (t0+gW r.i 0) 0 r.post)) bs)
def O9(t0:Nat)(dy:Option Nat)(nk:List (Option aB))(ds:List D)(bs:List (Nat×List aB)):List (Nat×List aB):=
 match dy with
 | some d=>(d,ky nk (mF (t0+gW 49 0) 0 ds))::oD d bs
 | none=>bs
def aI.vP(st:aI)(ts:List (Nat×Nat))(t0:Nat)(refs:List iE)(dy:Option Nat)(nk:List (Option aB))(ds:List D):aI:=
 ⟨st.env.map (aJ.map (vO ts t0 dy)),O9 t0 dy nk ds (vB t0 refs (st.boxes.map fun x=>(x.1,x.2.map (vO ts t0 dy))))⟩
def oA(t0:Nat)(dy:Option Nat):cV->cV
 | .tok s q=>if t0<=s/\s<t0+10000 then .bB else .tok s q
 | .box id=>if qq dy id then .box id else .bB
 | .bB=>.bB
def ov(i:Nat)(dy:Option Nat):List iE->Option Nat
 | []=>if i=49 then dy else none
 | r::rs=>if r.i=i then some r.id else ov i dy rs
def mb(t0:Nat)(refs:List iE)(dy:Option Nat):cV->cV
 | .tok s q=>if s<10000 then .tok (t0+s) q else .bB
 | .box i=>match ov i dy refs with | some id=>.box id | none=>.bB
 | .bB=>.bB
def D.sm:D->Nat
 | .J k _=>k
 | _=>0
def vC(i:Nat)(ds:List D):List iE->List D
 | []=>ds
 | r::rs=>if r.i=i then r.post else vC i ds rs
def kl(refs:List iE):List (Nat×Nat):=refs.map fun r=>(r.id,r.i)
def w9:List iE->Option Nat->Bool
 | [],_=>true
 | x::r,dy=>decide (x.i<49)&&decide (x.post.length<100)&&decide (dy≠some x.id)&&r.all (fun y=>x.i != y.i&&x.id != y.id)&&w9 r dy
variable{id:Nat}
theorem Jj{t0:Nat}:∀{refs:List iE} {bs:List (Nat×List aB)},(∀r∈refs,r.id≠id)->dp id (vB t0 refs bs)=dp id bs
 | [],bs,_=>rfl
 | r::rs,bs,h=>by
  simp only[vB];rw[Jj fun x ag=>h x (hy _ ag),w4 (Ne.symm (h r gT))]
theorem aj0{gE:Nat}{ls:List aB}:∀{bs:List (Nat×List aB)},(dp id bs).isSome=true->(dp id (pN gE ls bs)).isSome=true:=by
 intro bs h;by_cases e:id=gE
 ·subst e;obtain⟨x,ag⟩:=oS.1 h;rw[w3 ag];rfl
 rw[w4 e];exact h
theorem O'{t0:Nat}:∀{refs:List iE} {bs:List (Nat×List aB)} {r:iE},r∈refs->(∀x∈refs,x.id=r.id->x=r)->(dp r.id bs).isSome=true->dp r.id (vB t0 refs bs)=some (ky r.fo (mF (t0+gW r.i 0) 0 r.post))
 | [],_,_,h,_,_=>by cases h
 | x::rs,bs,r,h,hu,aj=>by
  simp only[vB];by_cases hm:r∈rs
  ·exact O' hm (fun y bl=>hu y (hy _ bl)) (aj0 aj)
  rcases eu.1 h with e | h
  ·subst e;obtain⟨l,al⟩:=oS.1 aj;rw[Jj,w3 al];intro y bl e;have:=hu y (hy _ bl) e;subst this;exact hm bl
  exact absurd h hm
variable{dy:Option Nat}
theorem r2:∀{refs:List iE},w9 refs dy=true->∀{x:iE},x∈refs->x.i<49/\x.post.length<100/\dy≠some x.id/\∀y∈refs,(y.i=x.i->y=x)/\(y.id=x.id->y=x)
 | [],_,x,ag=>by cases ag
 | z::r,h,x,ag=>by
  simp only[w9,cx,cU,fA,bne_iff_ne,hZ]at h;obtain⟨⟨⟨⟨h1,U⟩,aw⟩,aH⟩,aU⟩:=h;rcases eu.1 ag with e | y6
  ·subst e;refine⟨h1,U,aw,fun y bl=>?_⟩;rcases eu.1 bl with e | bl
   ·exact⟨fun _=>e,fun _=>e⟩
   exact⟨fun e=>absurd e.symm (aH y bl).1,fun e=>absurd e.symm (aH y bl).2⟩
  obtain⟨cT,b5,fq,pC⟩:=r2 aU y6;refine⟨cT,b5,fq,fun y bl=>?_⟩;rcases eu.1 bl with e | bl
  ·subst e;exact⟨fun e=>absurd e (aH x y6).1,fun e=>absurd e (aH x y6).2⟩
  exact pC y bl
theorem Jk:∀{refs:List iE} {r:iE},r∈refs->(∀y∈refs,y.i=r.i->y.id=r.id)->ov r.i dy refs=some r.id
 | [],_,h,_=>by cases h
 | x::rs,r,h,hu=>by
  simp only[ov];split
  ·rename_i e;rw[hu x gT e]
  rename_i e;rcases eu.1 h with e1 | h
  ·subst e1;exact absurd rfl e
  exact Jk h fun y bl=>hu y (hy _ bl)
theorem xj{i:Nat}:∀{refs:List iE},ov i dy refs=some id->(∃r∈refs,r.i=i/\r.id=id)\/(i=49/\dy=some id)
 | [],h=>by
  simp only[ov]at h;split at h
  ·exact .inr ⟨‹_›,h⟩
  cases h
 | x::rs,h=>by
  simp only[ov]at h;split at h
  ·rename_i e;exact .inl ⟨x,gT,e,eN h⟩
  rcases xj h with⟨r,aA,h1⟩ | h1
  ·exact .inl ⟨r,hy _ aA,h1⟩
  exact .inr h1
theorem Jl:∀{refs:List iE},(∀r∈refs,r.i<49)->ov 49 dy refs=dy
 | [],_=>by simp[ov]
 | x::rs,h=>by
  simp only[ov];rw[bh (by have:=h x gT;omega)];exact Jl fun r aA=>h r (hy _ aA)
theorem Pb{ds:List D}:∀{refs:List iE} {r:iE},r∈refs->(∀y∈refs,y.i=r.i->y=r)->vC r.i ds refs=r.post
 | [],_,h,_=>by cases h
 | x::rs,r,h,hu=>by
  simp only[vC];split
  ·rename_i e;rw[hu x gT e]
  rename_i e;rcases eu.1 h with e1 | h
  ·subst e1;exact absurd rfl e
  exact Pb h fun y bl=>hu y (hy _ bl)
theorem Jm{ds:List D}:∀{refs:List iE},(∀r∈refs,r.i<49)->vC 49 ds refs=ds
 | [],_=>rfl
 | x::rs,h=>by
  simp only[vC];rw[bh (by have:=h x gT;omega)];exact Jm fun r aA=>h r (hy _ aA)
variable{refs:List iE}
theorem Pc(h:w9 refs dy=true){r:iE}(aA:r∈refs):look r.id (kl refs)=some r.i:=by
 refine O8 ?_ (k5.2 ⟨r,aA,rfl⟩);unfold Jh;rw[fA];intro x ag;rw[fA];intro y bl;obtain⟨rx,X3,rfl⟩:=k5.1 ag;obtain⟨Ej,X4,rfl⟩:=k5.1 bl;have:=(r2 h X3).2.2.2 Ej X4;simp only[eD];by_cases e:Ej=rx
 ·subst e;simp
 have e1:¬rx.id=Ej.id:=fun e1=>e (this.2 e1.symm)
 have e2:¬rx.i=Ej.i:=fun e2=>e (this.1 e2.symm)
 rw[ua.2 e1,ua.2 e2]
theorem DG{i:Nat}(h:look id (kl refs)=some i):∃r∈refs,r.id=id/\r.i=i:=by
 obtain⟨r,aA,e⟩:=k5.1 (ajZ h);simp only[bx]at e;exact⟨r,aA,e.1,e.2⟩
def Jn(rs:List cF):Bool:=decide (rs.length<50)&&rs.all fun | .one _=>true | .agg ds=>ds.length<100
def aT.fits(dy:Option Nat)(nF:List D):aT->Prop
 | .vals rs=>dy=none/\Jn rs=true
 | .iN _ ds=>dy.isSome=true/\nF=ds/\ds.length<100
def aT.dT(v:Value)(n:Nat):aT->Nat×Value
 | .vals rs=>(ph rs n,mu rs v n)
 | .iN _ _=>(0,undef)
def aT.nJ(t0:Nat)(dy:Option Nat):aT->aJ
 | .vals rs=>sj t0 rs
 | .iN _ _=>.one (.ptr (dy.getD 0) 0)
theorem cy.Wa{w0:er}{st:aI}{a:Act}{w aN:World}{ω:Own}{τ:Nat->Nat×Value}(aV:cy w0 st a w ω τ)(t0:Nat){nk:List (Option aB)}{nF:List D}{hd:aT}{v:Value}{vs:Array Value}{ys:Nat->Value}{H:Nat->Nat×Value}
  (cJ:w9 refs dy=true) (hN:t0+10000<=c7) (ar:gj ⟨w,fun b=>gq (kl refs) ts (ω b)≠.bB,H⟩ aN) (e6:Own)
  (kp:∀b,b<w.heap.size->gq (kl refs) ts (ω b)=.bB->e6 b=.bB) (kf:DE aN e6)
  (hrefs:∀r∈refs,uo aN e6 r.i (kj r.fo) (gW r.i) r.post (ys r.i)/\(∃b,ys r.i=ptrTo b/\ω b=.box r.id)/\(dp r.id st.boxes).isSome=true) (eP:BF aN e6 vs hd v) (Cm:hd.fits dy nF) (ru:∀d,dy=some d->d<c7)
  (Gm:∀r∈refs,∀(j:Nat) (l:aB),r.fo[j]?=some (some l)->vO ts t0 dy l=l/\Sat w ω τ l (ia aN (ys r.i) j)) (uQ:∀(j:Nat) (l:aB),nk[j]?=some (some l)->vO ts t0 dy l=l/\Sat w ω τ l (ia aN v j))
  (NG:∀src ds,hd=.iN src ds->vQ src=kj nk):
  ∃a1 cN,cy w0 (st.vP ts t0 refs dy nk nF) a aN a1 cN/\cL (Sat aN a1 cN) (hd.nJ t0 dy) v:=by
 classical
 let a1:Own:=fun b=>if b<w.heap.size/\gq (kl refs) ts (ω b)=.bB then oA t0 dy (ω b) else mb t0 refs dy (e6 b)
 let aD:Nat->Nat×Value:=fun n=>if n<5000 then hd.dT v n else
  ((((vC ((n-5000) / 100) nF refs)[(n-5000) % 100]?).map D.sm).getD 0,ia aN (if (n-5000) / 100=49 then v else ys ((n-5000) / 100)) ((n-5000) % 100))
 let cN:Nat->Nat×Value:=fun s=>if t0<=s/\s<t0+10000 then aD (s-t0) else τ s
 have yF:∀r∈refs,r.i<49:=fun r aA=>(r2 cJ aA).1
 have hold:∀b,b<w.heap.size->gq (kl refs) ts (ω b)=.bB->a1 b=oA t0 dy (ω b):=fun b h1 U=>by simp only[a1];rw[br ⟨h1,U⟩]
 have fN:∀b,e6 b≠.bB->a1 b=mb t0 refs dy (e6 b):=fun b h=>by
  simp only[a1];rw[bh];rintro⟨h1,U⟩;exact h (kp b h1 U)
 have hblk:∀b,b<w.heap.size->gq (kl refs) ts (ω b)=.bB->aN.heap[b]?=w.heap[b]?:=fun b h1 U=>ar.block b h1 (fun aW=>aW U)
 have y1:∀r∈refs,∀b,ω b=.box r.id->e6 b=.box r.i/\ys r.i=ptrTo b:=by
  intro r aA b cn;obtain⟨⟨gV,arr,ty,h1,U,_⟩,⟨gm,aw,aH⟩,aU⟩:=hrefs r aA;obtain⟨ls,uM⟩:=oS.1 aU;obtain⟨yc,_,_,_,hu,_⟩:=aV.boxes r.id ls uM;have e1:=hu b cn;have e2:=hu gm aH;have cb:gm=b:=by rw[e1,e2]
  subst cb;rw[aw]at h1;simp only[ptrTo,Value.pointer.injEq,aR,Addr.mk.injEq]at h1;obtain⟨rfl,_⟩:=h1;exact⟨U,aw⟩
 have wR:∀id b,qq dy id=true->ω b=.box id->a1 b=.box id:=by
  intro id b hp cn;have bz:=aV.owned.lt (b:=b) (by simp[cn]);cases e:look id (kl refs) with
  | none=>
   have hi:gq (kl refs) ts (ω b)=.bB:=by rw[cn];simp only[gq,e]
   rw[hold b bz hi,cn];simp only[oA,hp,gy]
  | some i=>
   obtain⟨r,aA,rfl,rfl⟩:=DG e;obtain⟨h1,_⟩:=y1 r aA b cn;rw[fN b (by rw[h1];simp),h1];simp only[mb];rw[Jk aA fun y bl e=>by rw[((r2 cJ aA).2.2.2 y bl).1 e]]
 have bi:k7 w ω τ aN a1 cN (w8 ts t0) (qq dy):=by
  refine⟨?_,?_,fun id b hp h=>wR id b hp h,?_,fun s aj=>by simp only[cN];rw[bh (by omega)]⟩
  ·intro g ea b q au bz aE;unfold w8 at au;split at au
   ·cases au
   rename_i hm;simp only[ub]at hm;have hi:gq (kl refs) ts (ω b)=.bB:=by
    cases g with
    | free=>simp only[Tag.R]at aE;rw[aE];rfl
    | own s=>
     simp only[Tag.R]at aE;simp only[Tag.ox,E',Fa]at hm;rw[aE];simp only[gq,hm]
    | ro s=>
     simp only[Tag.ox,E',Fa]at hm;rcases aE with h | ⟨dm,h⟩
     ·rw[h];rfl
     rw[h];simp only[gq,hm]
   refine⟨?_,hblk b bz hi⟩;rw[hold b bz hi];cases g with
   | free=>simp only[gf,aR]at au;subst au;simp only[Tag.R]at aE ⊢;rw[aE];rfl
   | own s=>
    simp only[Tag.R]at aE;simp only[gf]at au;rw[aE];simp only[oA];split at au
    ·simp only[aR]at au;subst au;rw[br ‹_›];rfl
    simp only[aR]at au;subst au;rw[bh ‹_›];rfl
   | ro s=>
    simp only[Tag.R]at aE;simp only[gf]at au;split at au
    ·simp only[aR]at au;subst au;rcases aE with h | ⟨dm,h⟩
     ·rw[h];rfl
     rw[h];simp only[oA];rw[br ‹_›];rfl
    simp only[aR]at au;subst au;rcases aE with h | ⟨dm,h⟩
    ·rw[h];exact .inl rfl
    rw[h];simp only[oA];rw[bh ‹_›];exact .inr ⟨dm,rfl⟩
  ·intro g ea y au bl;unfold w8 at au;split at au
   ·cases au
   cases g with
   | free=>simp only[gf,aR]at au;subst au;exact trivial
   | own s=>
    simp only[gf]at au;split at au
    ·simp only[aR]at au;subst au;exact trivial
    simp only[aR]at au;subst au;simp only[Tag.dT,cN]at bl ⊢;rw[bh ‹_›];exact bl
   | ro s=>
    simp only[gf]at au;split at au
    ·simp only[aR]at au;subst au;exact trivial
    simp only[aR]at au;subst au;exact trivial
  rfl
 have cell:∀(n:Nat) (d:D) (u:Value),n<10000->aD n=(d.sm,u)->bV aN e6 (Tag.own n).R d u->Sat aN a1 cN (d.oK (t0+n)) u:=by
  intro n d u aW bt aA;cases d with
  | v x=>
   have e:u=x:=by cases aA;rfl
   subst e;unfold D.oK;split
   ·rename_i h;cases h;exact rfl
   ·rename_i h;cases h;exact rfl
   ·rename_i h;cases h
   ·exact trivial
   exact trivial
  | ptr ds=>exact trivial
  | cl g bC=>exact trivial
  | J k es=>
   refine⟨aA.frame fun b q bz aE=>⟨?_,rfl⟩,?_⟩
   ·simp only[Tag.R]at aE ⊢;rw[fN b (by rw[aE];simp),aE];simp only[mb];rw[br aW]
   simp only[Tag.dT,cN];rw[br (by omega),show t0+n-t0=n by omega,bt];rfl
 have var:∀(i:Nat) (post:List D) (y:Value) (id:Nat) (cK:List (Option aB)),i<50->post.length<100->vC i nF refs=post->(if i=49 then v else ys i)=y->uo aN e6 i (kj cK) (gW i) post y->ov i dy refs=some id->(∀(j:Nat) (l:aB),cK[j]?=some (some l)->vO ts t0 dy l=l/\Sat w ω τ l (ia aN y j))->
   (∀cW fm,ov fm dy refs=some id->e6 cW=.box fm->fm=i)->(∀cW,ω cW=.box id->qq dy id=true->¬gq (kl refs) ts (ω cW)=.bB)->sw aN a1 cN id (ky cK (mF (t0+gW i 0) 0 post))/\∃b,y=ptrTo b/\a1 b=.box id:=by
  rintro i post y id cK hi XW XX bl ⟨b,arr,ty,rfl,U,aw,aH,aU,bA⟩ fF Xy Xq h8;have dn:a1 b=.box id:=by
   rw[fN b (by rw[U];simp),U];simp only[mb,fF]
  refine⟨⟨b,arr,ty,dn,fun cW cn=>?_,aH,by rw[DF,w6];exact aU,fun j l al=>?_⟩,b,rfl,dn⟩
  ·by_cases ai:cW<w.heap.size/\gq (kl refs) ts (ω cW)=.bB
   ·rw[hold cW ai.1 ai.2]at cn;cases e:ω cW with
    | bB=>rw[e]at cn;cases cn
    | tok s q=>rw[e]at cn;simp only[oA]at cn;split at cn<;>cases cn
    | box gE=>
     rw[e]at cn;simp only[oA]at cn;split at cn
     ·simp only[cV.box.injEq]at cn;subst cn;exact absurd ai.2 (h8 cW e ‹_›)
     cases cn
   have fw:mb t0 refs dy (e6 cW)=.box id:=by
    simp only[a1]at cn;rwa[bh ai]at cn
   cases e:e6 cW with
   | bB=>rw[e]at fw;cases fw
   | tok s q=>rw[e]at fw;simp only[mb]at fw;split at fw<;>cases fw
   | box fm=>
    rw[e]at fw;simp only[mb]at fw;split at fw
    ·rename_i gE e2;simp only[cV.box.injEq]at fw;subst fw;have:=Xq cW fm e2 e;subst this;exact aw cW e
    cases fw
  have jD:j<(ky cK (mF (t0+gW i 0) 0 post)).length:=(eh.1 al).1;rw[DF,w6]at jD;rcases Ji cK _ j l al with⟨al,_⟩ | ⟨al,Gp⟩
  ·obtain⟨u,hu,_⟩:=bA j _ (gU jD);obtain⟨g1,g2⟩:=Xy j l al;refine⟨u,hu,?_⟩;have e:ia aN (ptrTo b) j=u:=by simp[ia,ptrTo,aH,d',hu]
   rw[e]at g2;have:=bi.sat l u g2;rwa[show l.ci (w8 ts t0) (qq dy)=l from g1]at this
  rw[zC,b1]at al;obtain⟨d,dJ,rfl⟩:=al;obtain⟨u,hu,aA⟩:=bA j d dJ;replace aA:=aA Gp;have a6:j<100:=by
   have:=(eh.1 dJ).1;omega
  refine⟨u,hu,?_⟩;have:=cell (gW i j) d u (by simp only[gW];omega) (by
   have e1:(gW i j-5000) / 100=i:=by simp only[gW];omega
   have e2:(gW i j-5000) % 100=j:=by simp only[gW];omega
   simp only[aD];rw[bh (by simp only[gW];omega),e1,e2,XX,dJ,bl];simp[ia,ptrTo,aH,d',hu]) aA
  rw[show t0+gW i 0+(0+j)=t0+gW i j by simp only[gW];omega];exact this
 have X0:∀r∈refs,sw aN a1 cN r.id (ky r.fo (mF (t0+gW r.i 0) 0 r.post)):=by
  intro r aA;obtain⟨h1,U,aw,aH⟩:=r2 cJ aA;refine (var r.i r.post (ys r.i) r.id r.fo (by omega) U (Pb aA fun y bl e=>(aH y bl).1 e) (by rw[bh (by omega)]) (hrefs r aA).1 (Jk aA fun y bl e=>by rw[(aH y bl).1 e]) (Gm r aA) (fun cW fm e _=>?_) (fun cW e _=>?_)).1
  ·rcases xj e with⟨y,bl,e1,e2⟩ | ⟨_,e2⟩
   ·rw[<-e1,(aH y bl).2 e2]
   exact absurd e2 aw
  rw[e];simp only[gq,Pc cJ aA];simp
 have qg:∀id ls,dp id (st.vP ts t0 refs dy nk nF).boxes=some ls->sw aN a1 cN id ls:=by
  intro id ls al;have rest:∀id ls,dy≠some id->dp id (vB t0 refs (st.boxes.map fun x=>(x.1,x.2.map (vO ts t0 dy))))=some ls->sw aN a1 cN id ls:=by
   intro id ls uJ al;by_cases aA:∃r∈refs,r.id=id
   ·obtain⟨r,aA,rfl⟩:=aA;rw[O' aA (fun y bl e=>((r2 cJ aA).2.2.2 y bl).2 e) (by
     rw[rZ];obtain⟨l,al⟩:=oS.1 (hrefs r aA).2.2;rw[al];rfl)]at al
    rw[<-eN al];exact X0 r aA
   have dX:∀r∈refs,r.id≠id:=fun r h1 U=>aA ⟨r,h1,U⟩
   rw[Jj dX,rZ,b1]at al;obtain⟨iK,bN,rfl⟩:=al;obtain⟨b,arr,ty,h1,U,aw,aH⟩:=aV.boxes id iK bN;have hp:qq dy id=true:=by
    unfold qq;split
    ·rfl
    simp only[jj,cU];intro e;subst e;exact uJ rfl
   have bz:=aV.owned.lt (b:=b) (by simp[h1]);have yL:look id (kl refs)=none:=by
    cases e:look id (kl refs) with
    | none=>rfl
    | some i=>
     obtain⟨r,kN,e1,_⟩:=DG e;exact absurd e1 (dX r kN)
   have hi:gq (kl refs) ts (ω b)=.bB:=by rw[h1];simp only[gq,yL]
   refine⟨b,arr,ty,wR id b hp h1,fun cW cn=>?_,(hblk b bz hi).trans aw,aH.map bi.sat⟩;by_cases ai:cW<w.heap.size/\gq (kl refs) ts (ω cW)=.bB
   ·rw[hold cW ai.1 ai.2]at cn;cases e:ω cW with
    | bB=>rw[e]at cn;cases cn
    | tok s q=>rw[e]at cn;simp only[oA]at cn;split at cn<;>cases cn
    | box gE=>
     rw[e]at cn;simp only[oA]at cn;split at cn
     ·simp only[cV.box.injEq]at cn;subst cn;exact U cW e
     cases cn
   have fw:mb t0 refs dy (e6 cW)=.box id:=by
    simp only[a1]at cn;rwa[bh ai]at cn
   cases e:e6 cW with
   | bB=>rw[e]at fw;cases fw
   | tok s q=>rw[e]at fw;simp only[mb]at fw;split at fw<;>cases fw
   | box fm=>
    rw[e]at fw;simp only[mb]at fw;split at fw
    ·rename_i gE e2;simp only[cV.box.injEq]at fw;subst fw;rcases xj e2 with⟨r,aU,_,bA⟩ | ⟨_,bA⟩
     ·exact absurd bA (dX r aU)
     exact absurd bA uJ
    cases fw
  simp only[aI.vP,O9]at al;cases dy with
  | none=>exact rest id ls (by simp) al
  | some d=>
   simp only[dp]at al;by_cases aD:d=id
   ·subst aD;rw[br rfl]at al;rw[<-eN al];cases hd with
    | vals rs=>exact absurd Cm.1 (by simp)
    | iN src ds=>
     obtain⟨_,rfl,hlen⟩:=Cm;obtain⟨eP,_⟩:=eP;rw[NG _ _ rfl]at eP;refine (var 49 nF v d nk (by omega) hlen (Jm yF) (br rfl) eP (Jl yF) uQ (fun cW fm e _=>?_) (fun cW _ e=>?_)).1
     ·rcases xj e with⟨y,bl,_,e2⟩ | ⟨e2,_⟩
      ·exact absurd (by rw[e2]) (r2 cJ bl).2.2.1
      exact e2
     simp[qq,jj]at e
   rw[bh aD,w' (fun e=>aD e.symm)]at al;exact rest id ls (by simpa using aD) al
 refine⟨a1,cN,⟨aV.defers,by simp[aI.vP,aV.size],?_,?_,fun s aj=>?_,fun id b hi cn=>?_,?_,qg⟩,?_⟩
 ·refine⟨ar.os.trans aV.below.os,ar.tape.trans aV.below.tape,ar.output.trans aV.below.output,sv aV.below.size ar.size,fun b bz au=>?_,fun aj=>sv (aV.below.drawn aj) (ar.drawn aj),ar.laid,aV.below.free⟩;have h6:b<w.heap.size:=xW bz aV.below.size;have pj:ω b=.bB:=by
   cases e:ω b with
   | bB=>rfl
   | box id=>exact absurd (aV.owned b (by simp[e])).1 (fun h=>h.elim (fun h=>by omega) au)
   | tok s q=>exact absurd (aV.owned b (by simp[e])).1 (fun h=>h.elim (fun h=>by omega) au)
  exact (hblk b h6 (by rw[pj];rfl)).trans (aV.below.block b bz au)
 ·intro b fD;by_cases ai:b<w.heap.size/\gq (kl refs) ts (ω b)=.bB
  ·rw[hold b ai.1 ai.2]at fD;have U:ω b≠.bB:=fun e=>by rw[e]at fD;exact fD rfl
   obtain⟨aw,arr,ty,aH⟩:=aV.owned b U;exact⟨aw,arr,ty,(hblk b ai.1 ai.2).trans aH⟩
  have U:e6 b≠.bB:=fun e=>by
   simp only[a1]at fD;rw[bh ai,e]at fD;exact fD rfl
  obtain⟨arr,ty,aH⟩:=kf b U;refine⟨?_,arr,ty,aH⟩;by_cases bz:b<w.heap.size
  ·have aU:ω b≠.bB:=fun e=>ai ⟨bz,by rw[e];rfl⟩
   exact (aV.owned b aU).1
  exact .inl (by have:=aV.below.size;omega)
 ·have:cN s=τ s:=by simp only[cN];rw[bh (by omega)]
  rw[this];exact aV.fixed s aj
 ·by_cases ai:b<w.heap.size/\gq (kl refs) ts (ω b)=.bB
  ·rw[hold b ai.1 ai.2]at cn;cases e:ω b with
   | bB=>rw[e]at cn;cases cn
   | tok s q=>rw[e]at cn;simp only[oA]at cn;split at cn<;>cases cn
   | box gE=>
    rw[e]at cn;simp only[oA]at cn;split at cn
    ·simp only[cV.box.injEq]at cn;subst cn;exact aV.pinned gE b hi e
    cases cn
  have fw:mb t0 refs dy (e6 b)=.box id:=by
   simp only[a1]at cn;rwa[bh ai]at cn
  cases e:e6 b with
  | bB=>rw[e]at fw;cases fw
  | tok s q=>rw[e]at fw;simp only[mb]at fw;split at fw<;>cases fw
  | box fm=>
   rw[e]at fw;simp only[mb]at fw;split at fw
   ·rename_i gE e2;simp only[cV.box.injEq]at fw;subst fw;rcases xj e2 with⟨r,aU,rfl,rfl⟩ | ⟨_,bA⟩
    ·obtain⟨⟨gV,arr,ty,g1,g2,g3,_⟩,⟨gm,g4,g5⟩,_⟩:=hrefs r aU;have cb:=g3 b e;rw[g4]at g1;simp only[ptrTo,Value.pointer.injEq,aR,Addr.mk.injEq]at g1;rw[cb,<-g1.1];exact aV.pinned r.id gm hi g5
    have:=ru _ bA;omega
   cases fw
 ·intro i q aE;simp only[aI.vP]at aE;rw[dj,b1]at aE;obtain⟨h',bN,rfl⟩:=aE;obtain⟨u,h1,U⟩:=aV.env i h' bN;exact⟨u,h1,cL.map bi.sat U⟩
 cases hd with
 | iN src ds=>
  obtain⟨uJ,rfl,hlen⟩:=Cm;obtain⟨d,rfl⟩:=oS.1 uJ;obtain⟨eP,_⟩:=eP;rw[NG _ _ rfl]at eP;obtain⟨b,h1,U⟩:=(var 49 nF v d nk (by omega) hlen (Jm yF) (br rfl) eP (Jl yF) uQ (fun cW fm e _=>by
   rcases xj e with⟨y,bl,_,e2⟩ | ⟨e2,_⟩
   ·exact absurd (by rw[e2]) (r2 cJ bl).2.2.1
   exact e2) (fun cW _ e=>by simp[qq,jj]at e)).2
  exact⟨b,U,h1⟩
 | vals rs=>
  obtain⟨rfl,dO⟩:=Cm;simp only[Jn,cx,cU]at dO;have ek:∀(r:Nat) (ck:cF),rs[r]?=some ck->∀ds,ck=.agg ds->ds.length<100:=by
   intro r ck aA ds e;have:=fA.1 dO.2 ck (fl aA);subst e;simpa using this
  have sF:∀(r:Nat) (ck:cF) (y:Value),r<50->(∀ds,ck=.agg ds->ds.length<100)->rs[r]?=some ck->(∀j,j<100->mu rs v (100*r+j)=y.cells.getD j undef)->lo aN e6 r ck y->jV (Sat aN a1 cN) (ck.res (t0+100*r)) y:=by
   intro r ck y aA ek yU bt oh;have gr:∀j,j<100->ph rs (100*r+j)=(match cF.cell j ck with | some (.J k _)=>k | _=>0):=by
    intro j a6;unfold ph;rw[show (100*r+j) / 100=r by omega,show (100*r+j) % 100=j by omega,yU];rfl
   have NT:∀d:D,(match some d with | some (.J k _)=>k | _=>0)=d.sm:=fun d=>by cases d<;>rfl
   cases ck with
   | one d=>
    have h1:=oh.oB;have U:=bt 0 (by omega);rw[zy h1]at U;have:=cell (100*r) d y (by omega) (by
     simp only[aD,aT.dT];rw[br (by omega)];have aw:=gr 0 (by omega);rw[lC]at U aw;rw[aw,U];simp only[cF.cell,gy];rw[NT];rfl) oh
    exact this
   | agg ds=>
    obtain⟨vs,rfl,aW,a6⟩:=oh;refine⟨vs,rfl,by rw[w6];exact aW,fun j l al=>?_⟩;rw[zC,b1]at al;obtain⟨d,dJ,rfl⟩:=al;obtain⟨u,hu,yV⟩:=a6 j d dJ;have jD:j<100:=by
     have:=(eh.1 dJ).1;have:=ek ds rfl;omega
    refine⟨u,hu,?_⟩;have:=cell (100*r+j) d u (by omega) (by
     simp only[aD,aT.dT];rw[br (by omega),gr j jD,bt j jD];simp only[cF.cell,dJ];rw[NT];simp[Value.cells,d',hu]) yV
    rw[show t0+100*r+(0+j)=t0+(100*r+j) by omega];exact this
  show cL (Sat aN a1 cN) (sj t0 rs) v;cases rs with
  | nil=>
   obtain⟨vs,rfl,aW,_⟩:=eP;exact⟨vs,rfl,aW,fun i a ah=>by simp[pO]at ah⟩
  | cons ck rest=>
   cases rest with
   | nil=>
    have:=sF 0 ck v (by omega) (ek 0 ck rfl) rfl (fun j a6=>by
     unfold mu;simp only[Nat.mul_zero,dg];rw[Bu a6]) eP
    exact this
   | cons MQ rest=>
    obtain⟨vs,rfl,aW,bt⟩:=eP;refine⟨vs,rfl,by rw[Dt];exact aW,fun i a ah=>?_⟩;rw[Ds,b1]at ah;obtain⟨mZ,h1,rfl⟩:=ah;obtain⟨y,bl,yC⟩:=bt i mZ h1;have jd:i<50:=by
     have:=(eh.1 h1).1;omega
    refine⟨y,bl,?_⟩;have:=sF i mZ y jd (ek i mZ h1) h1 (fun j a6=>by
     unfold mu;simp only;rw[show (100*i+j) / 100=i by omega,show (100*i+j) % 100=j by omega];simp[d',bl]) yC
    rw[dg];exact this
end Go.Sx
namespace Go.Sx
open Go.RowKit
def aB.ox(ts:List (Nat×Nat)):aB->Bool
 | .J g _ _=>g.ox ts
 | .aO t _ _ _ _ _=>(look t ts).isSome
 | _=>false
variable{w:World}{ω:Own}{τ:Nat->Nat×Value}{l:aB}
theorem Pd{bs ts:List (Nat×Nat)}{d:D}{y:Value}(h:l.f'=some d)(hm:l.ox ts=false)(aj:Sat w ω τ l y):
  bV w (fun b=>gq bs ts (ω b)) Tag.free.R d y:=by
 have tag:∀(g:Tag) (b:Nat) (q:List (Nat×Nat)),g.ox ts=false->g.R q (ω b)->gq bs ts (ω b)=.bB:=by
  intro g b q au aE;cases g with
  | free=>simp only[Tag.R]at aE;rw[aE];rfl
  | own s=>
   simp only[Tag.R]at aE;simp only[Tag.ox,E',Fa]at au;rw[aE];simp only[gq,au]
  | ro s=>
   simp only[Tag.ox,E',Fa]at au;rcases aE with h | ⟨dm,h⟩
   ·rw[h];rfl
   rw[h];simp only[gq,au]
 cases l with
 | cq=>cases h
 | v x=>
  simp only[aB.f']at h;split at h
  ·simp only[aR]at h;subst h;have:y=x:=aj;subst this;exact .v _ _ ‹_›
  cases h
 | ba c=>
  simp only[aB.f',aR]at h;subst h;have:y=.bool c:=aj;subst this;exact .v _ _ rfl
 | J t k es=>simp only[aB.f',aR]at h;subst h;exact aj.1.frame fun b q _ aE=>⟨tag t b q hm aE,rfl⟩
 | ptr=>cases h
 | cE=>cases h
 | gn=>cases h
 | fa=>cases h
 | hF ds off=>
  simp only[aB.f']at h;split at h
  ·rename_i aZ;subst aZ;simp only[aR]at h;subst h;obtain⟨b,rfl,aA⟩:=aj;exact aA.frame fun b q _ aE=>⟨tag .free b q rfl aE,rfl⟩
  cases h
 | fd dt=>simp only[aB.f',aR]at h;subst h;exact bV.frame aj fun b q _ aE=>⟨tag .free b q rfl aE,rfl⟩
 | de t k es=>simp only[aB.f',aR]at h;subst h;exact bV.frame aj.1 fun b q _ aE=>⟨tag .free b q rfl aE,rfl⟩
 | aO t i j k es m=>
  obtain⟨u,hu,aA,_⟩:=aj;have fin:y=u->bV w (fun b=>gq bs ts (ω b)) Tag.free.R (.J k es) y:=by
   intro e;rw[e];exact aA.frame fun b q _ aE=>⟨tag (.own t) b _ hm aE,rfl⟩
  cases m with
  | at_ x z=>cases h
  | here=>simp only[aB.f',aR]at h;subst h;exact fin hu
  | k8=>simp only[aB.f',aR]at h;subst h;exact fin hu
def aJ.BK:aJ->Option (cF×List aB)
 | .aK (.one l)=>l.f'.map fun d=>(.one d,[l])
 | .aK (.agg ls)=>(ls.mapM aB.f').map fun ds=>(.agg ds,ls)
 | _=>none
def vD(i:Nat):Nat->List aB->List (Nat×Nat)
 | _,[]=>[]
 | j,l::ls=>match l.tok with | some t=>(t,p2 i j)::vD i (j+1) ls | none=>vD i (j+1) ls
theorem Pe{i:Nat}:∀{ls:List aB} {j0 j:Nat} {l:aB} {t:Nat},ls[j]?=some l->l.tok=some t->(t,p2 i (j0+j))∈vD i j0 ls
 | [],_,_,_,_,h,_=>by simp at h
 | fx::ls,j0,0,l,t,h,bQ=>by
  simp at h;subst h;simp only[vD,bQ];exact gT
 | fx::ls,j0,j+1,l,t,h,bQ=>by
  have:=Pe (i:=i) (ls:=ls) (j0:=j0+1) (j:=j) (by simpa using h) bQ;rw[show j0+1+j=j0+(j+1) by omega]at this;simp only[vD];split
  ·exact hy _ this
  exact this
def oC:aB->Option aB
 | .de t k es=>some (.de t k es)
 | .J .free k es=>some (.J .free k es)
 | _=>none
def r3(ls:List aB):List (Option aB):=if (ls.map oC).all Option.isNone then [] else ls.map oC
def aB.En(l:aB):Option D:=match oC l with | some l=>l.f' | none=>l.ig
theorem zJ{gu:aB}(h:oC l=some gu):gu=l/\(∀ts t0 dy,vO ts t0 dy l=l)/\∃k es,l.f'=some (.J k es)/\∀{w ω τ y},Sat w ω τ l y->bV w ω Tag.free.R (.J k es) y:=by
 unfold oC at h;split at h
 ·rename_i t k es;cases h;exact⟨rfl,fun _ _ _=>rfl,k,es,rfl,fun aj=>aj.1⟩
 ·rename_i k es;cases h;exact⟨rfl,fun _ _ _=>by simp[aB.ci,w8,Tag.ox,gf],k,es,rfl,fun aj=>aj.1⟩
 cases h
theorem aj1{ls:List aB}{j:Nat}(h:(r3 ls)[j]?=some (some l)):ls[j]?=some l/\oC l=some l:=by
 unfold r3 at h;split at h
 ·simp at h
 rw[dj,b1]at h;obtain⟨fx,h1,U⟩:=h;have:=(zJ U).1;subst this;exact⟨h1,U⟩
theorem Jo{ls:List aB}{j:Nat}(al:ls[j]?=some l):stays (kj (r3 ls)) j=(oC l).isSome:=by
 unfold r3;split
 ·rename_i h;have:=fA.1 h (oC l) (k5.2 ⟨l,fl al,rfl⟩);simp only[stays,kj,List.map_nil,List.getD_nil];cases e:oC l with
  | none=>rfl
  | some x=>rw[e]at this;cases this
 simp only[stays,kj,List.map_map,ii,dj,al];rfl
def uZ(ct:List aJ):List (Option Nat)->Option (List (Option aB))
 | []=>some []
 | none::r=>(uZ ct r).map fun x=>none::x
 | some a::r=>
  match ct[a]? with
  | some (.aK (.one l))=>
   match oC l,uZ ct r with
   | some gu,some j8=>some (some gu::j8)
   | _,_=>none
  | _=>none
theorem DH{ct:List aJ}:∀{src:List (Option Nat)} {nk:List (Option aB)},uZ ct src=some nk->vQ src=kj nk/\∀(j:Nat) (l:aB),nk[j]?=some (some l)->∃a,src[j]?=some (some a)/\ct[a]?=some (.aK (.one l))/\oC l=some l
 | [],nk,h=>by
  simp only[uZ,aR]at h;subst h;exact⟨rfl,fun j l h=>by simp at h⟩
 | none::r,nk,h=>by
  simp only[uZ,b1]at h;obtain⟨x,h1,rfl⟩:=h;obtain⟨g1,g2⟩:=DH h1;refine⟨by simpa[vQ,kj]using g1,fun j l a6=>?_⟩;cases j with
  | zero=>simp at a6
  | succ j=>exact g2 j l (by simpa using a6)
 | some a::r,nk,h=>by
  simp only[uZ]at h;split at h
  ·rename_i l e;split at h
   ·rename_i gu j8 e1 e2;simp only[aR]at h;subst h;obtain⟨g1,g2⟩:=DH e2;have:=(zJ e1).1;subst this;refine⟨by simpa[vQ,kj]using g1,fun j l a6=>?_⟩;cases j with
    | zero=>
     simp only[jS,aR]at a6;subst a6;exact⟨a,rfl,e,e1⟩
    | succ j=>exact g2 j l (by simpa using a6)
   cases h
  cases h
def T5:aJ->Option Nat
 | .aK (.one (.ptr id 0))=>some id
 | _=>none
structure Bx where
 nZ:List aM
 refs:List iE
 ts:List (Nat×Nat)
 oL:List aB
def re:aJ->Option (FuncId×List Nat)
 | .aK (.one (.gn g ids))=>some (g,ids)
 | _=>none
def Oz(id:Nat):aJ:=.aK (.one (.ptr id 0))
def o1(bs:k6):Nat->List (Option (List D))->List aJ->Option Bx
 | _,[],[]=>some ⟨[],[],[],[]⟩
 | i,none::ms,p::ct=>
  match re p with
  | some (g,ids)=>(o1 bs (i+1) ms ct).map fun r=>⟨.fn g (List.range' (i+1) ids.length)::r.nZ,r.refs,r.ts,r.oL⟩
  | none=>
   match p.BK,o1 bs (i+1) ms ct with
   | some (ck,ls),some r=>some ⟨.ro ck::r.nZ,r.refs,r.ts,ls++r.oL⟩
   | _,_=>none
 | i,some post::ms,p::ct=>
  match T5 p,o1 bs (i+1) ms ct with
  | some id,some r=>
   match dp id bs with
   | some ls=>
    match ls.mapM aB.En with
    | some pre=>some ⟨.hV (kj (r3 ls)) pre post::r.nZ,⟨i,id,post,r3 ls⟩::r.refs,vD i 0 ls++r.ts,r.oL⟩
    | none=>none
   | none=>none
  | _,_=>none
 | _,_,_=>none
def By(bs:k6)(a:Bx)(i:Nat)(iy:aM)(p:aJ):Prop:=
 (∃g ids,iy=.fn g (List.range' (i+1) ids.length)/\p=.aK (.one (.gn g ids)))\/
 (∃ck ls,iy=.ro ck/\p.BK=some (ck,ls)/\∀l∈ls,l∈a.oL)\/
 (∃id ls pre post,iy=.hV (kj (r3 ls)) pre post/\p=.aK (.one (.ptr id 0))/\dp id bs=some ls/\ls.mapM aB.En=some pre/\(⟨i,id,post,r3 ls⟩:iE)∈a.refs/\∀x∈vD i 0 ls,x∈a.ts)
theorem By.mono{bs:k6}{a b:Bx}{i:Nat}{iy:aM}{p:aJ}(h:By bs a i iy p)(h1:∀l∈a.oL,l∈b.oL)(U:∀x∈a.refs,x∈b.refs)(aw:∀x∈a.ts,x∈b.ts):By bs b i iy p:=by
 rcases h with h | ⟨ck,ls,e1,e2,cb⟩ | ⟨id,ls,pre,post,e1,e2,cb,ef,gY,lJ⟩
 ·exact .inl h
 ·exact .inr (.inl ⟨ck,ls,e1,e2,fun l al=>h1 l (cb l al)⟩)
 exact .inr (.inr ⟨id,ls,pre,post,e1,e2,cb,ef,U _ gY,fun x ag=>aw x (lJ x ag)⟩)
theorem DI{bs:k6}:∀{ms:List (Option (List D))} {ct:List aJ} {i:Nat} {a:Bx},o1 bs i ms ct=some a->a.nZ.length=ct.length/\
  (∀(x:Nat) (iy:aM),a.nZ[x]?=some iy->∃p,ct[x]?=some p/\By bs a (i+x) iy p)/\
  (∀r∈a.refs,∃(x:Nat) (pre:List D),r.i=i+x/\a.nZ[x]?=some (.hV (kj r.fo) pre r.post)/\ct[x]?=some (.aK (.one (.ptr r.id 0)))/\∃ls,dp r.id bs=some ls/\r.fo=r3 ls)
 | [],[],i,a,h=>by
  simp only[o1,aR]at h;subst h;exact⟨rfl,fun x iy h=>by simp at h,fun r h=>by cases h⟩
 | none::ms,p::ct,i,a,h=>by
  simp only[o1]at h;split at h
  ·rename_i g ids bE;rw[b1]at h;obtain⟨r,e2,rfl⟩:=h;obtain⟨da,cT,b5⟩:=DI e2;have hp:p=.aK (.one (.gn g ids)):=by
    unfold re at bE;split at bE
    ·cases bE;rfl
    cases bE
   refine⟨by simp[da],fun x iy ag=>?_,fun y bl=>?_⟩
   ·cases x with
    | zero=>
     simp only[jS,aR]at ag;subst ag;exact⟨p,rfl,.inl ⟨g,ids,rfl,hp⟩⟩
    | succ x=>
     obtain⟨pJ,h1,U⟩:=cT x iy (by simpa using ag);refine⟨pJ,by simpa using h1,?_⟩;rw[show i+1+x=i+(x+1) by omega]at U;exact U.mono (fun _ h=>h) (fun _ h=>h) (fun _ h=>h)
   obtain⟨x,pre,h1,U,aw,aH⟩:=b5 y bl;exact⟨x+1,pre,by omega,by simpa using U,by simpa using aw,aH⟩
  split at h
  ·rename_i ck ls r e1 e2;simp only[aR]at h;subst h;obtain⟨da,cT,b5⟩:=DI e2;refine⟨by simp[da],fun x iy ag=>?_,fun y bl=>?_⟩
   ·cases x with
    | zero=>
     simp only[jS,aR]at ag;subst ag;exact⟨p,rfl,.inr (.inl ⟨ck,ls,rfl,e1,fun l al=>hY _ al⟩)⟩
    | succ x=>
     obtain⟨pJ,h1,U⟩:=cT x iy (by simpa using ag);refine⟨pJ,by simpa using h1,?_⟩;rw[show i+1+x=i+(x+1) by omega]at U;exact U.mono (fun l al=>iD _ al) (fun _ h=>h) (fun _ h=>h)
   obtain⟨x,pre,h1,U,aw,aH⟩:=b5 y bl;exact⟨x+1,pre,by omega,by simpa using U,by simpa using aw,aH⟩
  cases h
 | some post::ms,p::ct,i,a,h=>by
  simp only[o1]at h;split at h
  ·rename_i id r e1 e2;split at h
   ·rename_i ls cb;split at h
    ·rename_i pre ef;simp only[aR]at h;subst h;obtain⟨da,cT,b5⟩:=DI e2;have hp:p=.aK (.one (.ptr id 0)):=by
      unfold T5 at e1;split at e1
      ·rw[eN e1]
      cases e1
     refine⟨by simp[da],fun x iy ag=>?_,fun y bl=>?_⟩
     ·cases x with
      | zero=>
       simp only[jS,aR]at ag;subst ag;exact⟨p,rfl,.inr (.inr ⟨id,ls,pre,post,rfl,hp,cb,ef,gT,fun x ag=>hY _ ag⟩)⟩
      | succ x=>
       obtain⟨pJ,h1,U⟩:=cT x iy (by simpa using ag);refine⟨pJ,by simpa using h1,?_⟩;rw[show i+1+x=i+(x+1) by omega]at U;exact U.mono (fun _ h=>h) (fun x h=>hy _ h) (fun x h=>iD _ h)
     rcases eu.1 bl with rfl | bl
     ·exact⟨0,pre,rfl,rfl,by simp[hp],ls,cb,rfl⟩
     obtain⟨x,wX,h1,U,aw,aH⟩:=b5 y bl;exact⟨x+1,wX,by omega,by simpa using U,by simpa using aw,aH⟩
    cases h
   cases h
  cases h
 | [],_::_,i,a,h=>by simp[o1]at h
 | none::_,[],i,a,h=>by simp[o1]at h
 | some _::_,[],i,a,h=>by simp[o1]at h
def aT.FD(d:Option Nat):aT->Bool
 | .vals rs=>Jn rs
 | .iN _ ds=>d.isSome&&decide (ds.length<100)
def aT.dy(d:Option Nat):aT->Option Nat
 | .vals _=>none
 | .iN _ _=>d
def aT.nF:aT->List D
 | .vals _=>[]
 | .iN _ ds=>ds
def aT.nk(ct:List aJ):aT->Option (List (Option aB))
 | .vals _=>some []
 | .iN src _=>uZ ct src
theorem aT.Wq{d:Option Nat}{r:aT}(h:r.FD d=true):r.fits (r.dy d) r.nF:=by
 cases r with
 | vals rs=>exact⟨rfl,h⟩
 | iN src ds=>
  simp only[aT.FD,cx,cU]at h;exact⟨h.1,rfl,h.2⟩
def tn(n:Nat):Nat->List aM->Bool
 | _,[]=>true
 | i,.fn _ _::r=>i+1==n&&tn n (i+1) r
 | i,_::r=>tn n (i+1) r
theorem DJ{n:Nat}:∀{as:List aM} {i x:Nat} {g:FuncId} {cK:List Nat},tn n i as=true->as[x]?=some (.fn g cK)->i+x+1=n
 | [],_,_,_,_,_,h=>by simp at h
 | .fn _ _::r,i,0,g,cK,h,ag=>by
  simp only[tn,cx,eD]at h;omega
 | .fn _ _::r,i,x+1,g,cK,h,ag=>by
  simp only[tn,cx,eD]at h;have:=DJ h.2 (x:=x) (by simpa using ag);omega
 | .ro _::r,i,0,g,cK,h,ag=>by simp at ag
 | .hV _ _ _::r,i,0,g,cK,h,ag=>by simp at ag
 | .ro _::r,i,x+1,g,cK,h,ag=>by
  have:=DJ (i:=i+1) (by simpa[tn]using h) (x:=x) (by simpa using ag);omega
 | .hV _ _ _::r,i,x+1,g,cK,h,ag=>by
  have:=DJ (i:=i+1) (by simpa[tn]using h) (x:=x) (by simpa using ag);omega
def zK(P:Program)(st:aI)(d:Option Nat)(f:FuncId)(n:Nat)(ct:List aJ)(ans:List b9):Option (aI×List b9×List Prop):=
 match ans with
 | .dr u1 hd::r=>
  match o1 st.boxes 0 u1 ct,hd.nk ct with
  | some a,some nk=>
   let t0:=10000*(d.getD 0+1)
   if iQ P f=true/\t0+10000<=c7/\w9 a.refs (hd.dy d)=true/\Jh a.ts=true/\hd.FD d=true/\a.oL.all (fun l=>!(l.ox a.ts))=true/\si a.nZ=n/\tn n 0 a.nZ=true then
    let bp:=st.vP a.ts t0 a.refs (hd.dy d) nk hd.nF
    match d with
    | some d=>some (⟨bp.env.set d (hd.nJ t0 (hd.dy (some d))),bp.boxes⟩,r,[bY P f a.nZ hd])
    | none=>some (bp,r,[bY P f a.nZ hd])
   else none
  | _,_=>none
 | _=>none
def Jp(P:Program)(st:aI)(d:Option Nat)(f:FuncId)(args:List Operand)(ans:List b9):Option (aI×List b9×List Prop):=
 match (args.map st.bi).getLast?.bind re with
 | some (_,ids)=>zK P st d f args.length (args.map st.bi++ids.map Oz) ans
 | none=>zK P st d f args.length (args.map st.bi) ans
def Jq(P:Program)(st:aI)(d:Option Nat)(f:Operand)(args:List Operand)(ans:List b9):Option (aI×List b9×List Prop):=
 match re (st.bi f) with
 | some (g,ids)=>if (args.map st.bi).all (fun p=>(re p).isNone) then zK P st d g (args.length+ids.length) (args.map st.bi++ids.map Oz) ans else none
 | none=>none
variable{a:Act}{P:Program}{w0:er}{st bp:aI}{dst:Option Nat}{ans cd:List b9}{obs:List Prop}
theorem Jr{f:FuncId}{n:Nat}{ct:List aJ}{vs:Array Value}{o:Oper}
  (Ga:o.dst=dst) (aV:cy w0 st a w ω τ) (h:zK P st dst f n ct ans=some (bp,cd,obs)) (aZ:cG obs) (di:vs.size=ct.length) (gd:∀(x:Nat) (p:aJ),ct[x]?=some p->∃v,vs[x]?=some v/\cL (Sat w ω τ) p v)
  (kr:∀(x:Nat) (g:FuncId) (ids:List Nat),x+1=n->ct[x]?=some (.aK (.one (.gn g ids)))->vs[x]?=some (.func (.func g) #[] ((List.range' n ids.length).map fun k=>vs.getD k undef).toArray))
  (eQ:iQ P f=true->(execOp a.eval o).run P w=.ok (.enter f (vs.extract 0 n)) w) {K:Act->World->Prop} {Q:Exit->Act->World->Prop} (gp:∀cz aN,Rel w0 bp cz aN->K cz aN):
  Oper.wp P o a w K Q:=by
 unfold zK at h;split at h
 ·rename_i u1 hd r;split at h
  ·rename_i ra nk lM uQ;simp only at h;split at h
   ·rename_i ai;obtain⟨g',hN,cJ,yL,dO,yR,Gz,ry⟩:=ai;rw[fA]at yR;have yS:∀l∈ra.oL,l.ox ra.ts=false:=fun l al=>by simpa using yR l al
    obtain⟨hlen,cT,b5⟩:=DI lM
    let q7:Own:=fun b=>gq (kl ra.refs) ra.ts (ω b)
    have cB:∀b,q7 b≠.bB->ω b≠.bB:=fun b h e=>h (by simp only[q7,e];rfl)
    have XZ:Fi w q7 ra.nZ vs:=by
     refine⟨fun b ar=>(aV.owned b (cB b ar)).2,fun b i ar=>?_,by rw[di,hlen],fun x iy ag=>?_⟩
     ·simp only[q7]at ar;cases e:ω b with
      | bB=>rw[e]at ar;cases ar
      | tok s q=>rw[e]at ar;simp only[gq]at ar;split at ar<;>cases ar
      | box gE=>
       rw[e]at ar;simp only[gq]at ar;split at ar
       ·rename_i fm mi;simp only[cV.box.injEq]at ar;subst ar;obtain⟨j8,dX,_,sI⟩:=DG mi;obtain⟨x,pre,g1,g2,_⟩:=b5 j8 dX;exact⟨kj j8.fo,pre,j8.post,by rw[<-sI,g1,dg];exact g2⟩
       cases ar
     obtain⟨p,hp,qe⟩:=cT x iy ag;obtain⟨v,bt,aj⟩:=gd x p hp;refine⟨v,bt,?_⟩;rw[dg]at qe;rcases qe with⟨g,ids,rfl,_⟩ | ⟨ck,ls,rfl,e2,cb⟩ | ⟨id,ls,pre,post,rfl,rfl,cb,ef,gY,lJ⟩
     ·exact trivial
     ·cases p with
      | fJ as=>cases e2
      | aK aK=>
       cases aK with
       | one l=>
        simp only[aJ.BK,b1]at e2;obtain⟨d,h1,U⟩:=e2;simp only[bx]at U;obtain⟨rfl,rfl⟩:=U;exact Pd h1 (yS l (cb l (by simp))) aj
       | agg eW=>
        simp only[aJ.BK,b1]at e2;obtain⟨ds,h1,U⟩:=e2;simp only[bx]at U;obtain⟨rfl,rfl⟩:=U;obtain⟨aw,aH⟩:=mE h1;obtain⟨vs,rfl,aW,Yk⟩:=aj;refine⟨vs,rfl,by omega,fun j d aD=>?_⟩;obtain⟨l,al,cZ⟩:=aH j d aD;obtain⟨u,hu,eV⟩:=Yk j l al;exact⟨u,hu,Pd cZ (yS l (cb l (fl al))) eV⟩
     obtain⟨b,ar,rfl⟩:=aj;obtain⟨cW,arr,ty,dn,hu,bJ,ey⟩:=aV.boxes id ls cb;have:=hu b ar;subst this;have NB:=Pc cJ gY;simp only at NB;obtain⟨aw,aH⟩:=mE ef;refine⟨⟨b,arr,ty,rfl,by simp only[q7,ar,gq,NB],fun c ai=>?_,bJ,by have:=ey.1;omega,fun j d aD=>?_⟩,fun j d aD eE=>?_⟩
     ·simp only[q7]at ai;cases e:ω c with
      | bB=>rw[e]at ai;cases ai
      | tok s q=>rw[e]at ai;simp only[gq]at ai;split at ai<;>cases ai
      | box gE=>
       rw[e]at ai;simp only[gq]at ai;split at ai
       ·rename_i fm mi;simp only[cV.box.injEq]at ai;subst ai;obtain⟨j8,dX,Wh,sI⟩:=DG mi;have:=((r2 cJ gY).2.2.2 j8 dX).1 sI;subst this;exact hu c (by rw[e,<-Wh])
       cases ai
     rotate_left
     ·obtain⟨l,al,cZ⟩:=aH j d aD;obtain⟨u,fG,eV⟩:=ey.2 j l al;rw[Jo al]at eE;obtain⟨gu,po⟩:=oS.1 eE;obtain⟨rfl,_,k,es,dh,pk⟩:=zJ po;simp only[aB.En,po]at cZ;rw[dh]at cZ;cases cZ;have e:ia w (.pointer (some ⟨b,0,none⟩)) j=u:=by simp[ia,bJ,d',fG]
      rw[e];refine (pk eV).frame fun c q _ aE=>⟨?_,rfl⟩
      simp only[Tag.R]at aE ⊢;simp only[q7,aE,gq]
     obtain⟨l,al,cZ⟩:=aH j d aD;obtain⟨u,fG,eV⟩:=ey.2 j l al;refine⟨u,fG,fun eE=>?_⟩;rw[Jo al]at eE;have NN:oC l=none:=by simpa using eE
     simp only[aB.En,NN]at cZ;clear eE NN;cases l with
     | v z=>
      simp only[aB.ig]at cZ;split at cZ
      ·simp only[aR]at cZ;subst cZ;have:u=z:=eV;subst this;exact .v _ _ ‹_›
      cases cZ
     | ba c=>
      simp only[aB.ig,aR]at cZ;subst cZ;have:u=.bool c:=eV;subst this;exact .v _ _ rfl
     | J g k es=>
      cases g with
      | free=>cases cZ
      | ro s=>cases cZ
      | own s=>
       simp only[aB.ig,aR]at cZ;subst cZ;have hm:=lJ _ (Pe (i:=x) (j0:=0) al rfl);rw[dg]at hm;have XE:=O8 yL hm;refine eV.1.frame fun c q _ aE=>⟨?_,rfl⟩
       simp only[Tag.R]at aE ⊢;simp only[q7,aE,gq,XE]
     | cq=>cases cZ
     | ptr=>cases cZ
     | cE=>cases cZ
     | hF=>cases cZ
     | fd=>cases cZ
     | de=>cases cZ
     | gn=>cases cZ
     | aO=>cases cZ
     | fa=>cases cZ
    have Ge:Fe ra.nZ vs:=by
     intro x g cK ag;have rK:=DJ ry ag;rw[dg]at rK;obtain⟨p,hp,qe⟩:=cT x _ ag;rw[dg]at qe;rcases qe with⟨ea,ids,e1,rfl⟩ | ⟨ck,ls,e1,_⟩ | ⟨id,ls,pre,post,e1,_⟩
     ·simp only[aM.fn.injEq]at e1;obtain⟨rfl,rfl⟩:=e1;have:=kr x g ids rK hp;rw[rK];exact this
     ·cases e1
     cases e1
    have key:bY P f ra.nZ hd->(∀v aN a1 cN,cy w0 (st.vP ra.ts (10000*(dst.getD 0+1)) ra.refs (hd.dy dst) nk hd.nF) a aN a1 cN->cL (Sat aN a1 cN) (hd.nJ (10000*(dst.getD 0+1)) (hd.dy dst)) v->K (a.put dst v) aN)->
      Oper.wp P o a w K Q:=by
     intro Gy FX;unfold Oper.wp;rw[eQ g',<-Gz];simp only[Oper.upon];rw[Ga];refine (Gy w _ q7 XZ Ge (aV.tidy fun b ar=>by simp only[q7,ar,gq])).mono ?_;rintro e aN ⟨v,rfl,ke,e6,c1,c2,cA,ed⟩;obtain⟨a1,cN,h1,U⟩:=aV.Wa (10000*(dst.getD 0+1)) (nk:=nk) (ys:=fun i=>vs.getD i undef) cJ hN ke e6 c1 c2 (fun r aA=>by
      obtain⟨x,pre,g1,g2,g3,g4⟩:=b5 r aA;rw[dg]at g1;obtain⟨y,bl,aj⟩:=gd x _ g3;obtain⟨b,ar,rfl⟩:=aj;have e:vs.getD r.i undef=ptrTo b:=by rw[g1,d',bl];rfl
      rw[e];obtain⟨ls,g5,g6⟩:=g4;refine⟨(cA r.i _ pre r.post (ptrTo b) (by rw[g1];exact g2) (by rw[g1];exact bl)).1,⟨b,rfl,ar⟩,by rw[g5];rfl⟩) ed (aT.Wq dO) (fun d aD=>by
      cases hd with
      | vals rs=>cases aD
      | iN src ds=>
       have aD:dst=some d:=aD;rw[aD]at hN;simp only[ij]at hN;omega) (fun r aA j l a6=>by
      obtain⟨x,pre,g1,g2,g3,ls,g5,g6⟩:=b5 r aA;rw[dg]at g1;obtain⟨y,bl,aj⟩:=gd x _ g3;obtain⟨b,ar,rfl⟩:=aj;have e:vs.getD r.i undef=ptrTo b:=by rw[g1,d',bl];rfl
      rw[e];rw[g6]at a6;obtain⟨i1,i2⟩:=aj1 a6;refine⟨(zJ i2).2.1 _ _ _,?_⟩;have eE:stays (kj r.fo) j=true:=by rw[g6,Jo i1,i2];rfl
      rw[(cA r.i _ pre r.post (ptrTo b) (by rw[g1];exact g2) (by rw[g1];exact bl)).2 j eE];obtain⟨cW,arr,ty,dn,hu,bJ,ey⟩:=aV.boxes _ ls g5;have:=hu b ar;subst this;obtain⟨u,fG,eV⟩:=ey.2 j l i1;have e:ia w (ptrTo b) j=u:=by simp[ia,ptrTo,bJ,d',fG]
      rw[e];exact eV) (fun j l a6=>by
      cases hd with
      | vals rs=>
       simp only[aT.nk,aR]at uQ;subst uQ;simp at a6
      | iN src ds=>
       obtain⟨_,i2⟩:=DH uQ;obtain⟨x,uV,sZ,Yz⟩:=i2 j l a6;refine⟨(zJ Yz).2.1 _ _ _,?_⟩;obtain⟨y,bl,aj⟩:=gd x _ sZ;have:=ed.2 j x uV;rw[bl]at this;rw[<-eN this];exact aj) (fun src ds e=>by
      subst e;exact (DH uQ).1)
     exact FX v aN a1 cN h1 U
    cases dst with
    | none=>
     simp only[aR,bx]at h;obtain⟨rfl,_,rfl⟩:=h;exact key aZ.1 fun v aN a1 cN h1 _=>gp _ _ ⟨a1,cN,h1⟩
    | some d=>
     simp only[aR,bx]at h;obtain⟨rfl,_,rfl⟩:=h;exact key aZ.1 fun v aN a1 cN h1 U=>gp _ _ ⟨a1,cN,h1.put U⟩
   cases h
  cases h
 cases h
theorem ak7{f:FuncId}{args:Array Operand}{ts:Array TypeId}{type:TypeId}{pos:String}{after:Array Edge}{guard:Option (Nat×Bool)}
  (aV:cy w0 st a w ω τ) (h:Jp P st dst f args.toList ans=some (bp,cd,obs)) (aZ:cG obs) {K:Act->World->Prop} {Q:Exit->Act->World->Prop} (gp:∀cz aN,Rel w0 bp cz aN->K cz aN):
  Oper.wp P ⟨dst,.call ⟨.value (.func f),args,ts⟩,type,pos,after,guard⟩ a w K Q:=by
 have gd:∀(x:Nat) (p:aJ),(args.toList.map st.bi)[x]?=some p->∃v,(args.map a.eval)[x]?=some v/\cL (Sat w ω τ) p v:=by
  intro x p hp;rw[dj,b1]at hp;obtain⟨o,h1,rfl⟩:=hp;refine⟨a.eval o,?_,aV.bi o⟩;rw[xX];rw[iC]at h1;rw[h1];rfl
 have eQ:iQ P f=true->(execOp a.eval ⟨dst,.call ⟨.value (.func f),args,ts⟩,type,pos,after,guard⟩).run P w=.ok (.enter f (args.map a.eval)) w:=by
  intro g';unfold iQ at g';split at g'
  ·rename_i fn kr;simp only[cx,hv,ua,hZ]at g';have rn:fn.body≠none:=by intro e;rw[e]at g';simp at g'
   simp[execOp,resolve,Act.eval,Deferred.ofValue,invoke,callFunc,kr,g'.1,rn]
  cases g'
 unfold Jp at h;split at h
 ·rename_i g ids sR;rw[lA]at sR;obtain⟨p,hp,rq⟩:=sR;have pw:p=.aK (.one (.gn g ids)):=by
   unfold re at rq;split at rq
   ·cases rq;rfl
   cases rq
  subst pw;have Ce:0<(args.toList.map st.bi).length:=by
   rcases Nat.eq_zero_or_pos (args.toList.map st.bi).length with bN | bN
   ·rw[vY bN]at hp;simp at hp
   exact bN
  have NO:(args.toList.map st.bi)[args.toList.length-1]?=some (.aK (.one (.gn g ids))):=by
   rw[List.getLast?_eq_getElem?]at hp;simpa using hp
  obtain⟨v,bt,bs,F4,uE,fD⟩:=gd _ _ NO;have aW:0<args.size:=by simpa using Ce
  refine Jr (n:=args.toList.length) (vs:=args.map a.eval++(bs.map ptrTo).toArray) rfl aV h aZ (by simp[uE]) (fun x p ag=>?_) (fun x ea Yv rK ag=>?_) (fun g'=>?_) gp
  ·rw[kD]at ag;rw[ht];split at ag
   ·rename_i bz;rw[br (by simpa using bz)];exact gd x p ag
   rename_i lN;rw[bh (by simpa using lN)];rw[dj,b1]at ag;obtain⟨id,fF,rfl⟩:=ag;obtain⟨b,fU,fL⟩:=fD _ id fF;refine⟨ptrTo b,?_,b,fL,rfl⟩;simp only[bk,uc]at fU;simp[fU]
  ·have bz:x<args.size:=by simp at rK;omega
   have wN:x=args.toList.length-1:=by omega
   rw[kD,br (by simpa using bz),wN,NO]at ag;simp only[aR,aJ.aK.injEq,bu.one.injEq,aB.gn.injEq]at ag;obtain⟨rfl,rfl⟩:=ag;rw[ht,br (by simpa using bz),wN,bt,F4]
   congr 2
   apply Array.ext
   ·simp[uE]
   intro j h1 U;have a6:j<bs.length:=by simpa using h1
   simp[d',ht,a6];rw[bh (by omega)];rfl
  have e:(args.map a.eval++(bs.map ptrTo).toArray).extract 0 args.toList.length=args.map a.eval:=by
   apply Array.ext
   ·simp
   intro j h1 U;have a6:j<args.size:=by simpa using U
   simp[Array.getElem_append,a6]
  rw[e];exact eQ g'
 refine Jr (n:=args.toList.length) (vs:=args.map a.eval) rfl aV h aZ (by simp) gd (fun x g ids rK ag=>?_) (fun g'=>?_) gp
 ·rename_i h8;exfalso;have:(args.toList.map st.bi).getLast?=some (.aK (.one (.gn g ids))):=by
   rw[List.getLast?_eq_getElem?];rw[<-ag]
   congr 1
   simp;simp at rK;omega
  rw[this]at h8;simp[re]at h8
 have e:(args.map a.eval).extract 0 args.toList.length=args.map a.eval:=by simp
 rw[e];exact eQ g'
theorem ak8{y:Nat}{args:Array Operand}{ts:Array TypeId}{type:TypeId}{pos:String}{after:Array Edge}{guard:Option (Nat×Bool)}
  (aV:cy w0 st a w ω τ) (h:Jq P st dst (.tmp y) args.toList ans=some (bp,cd,obs)) (aZ:cG obs) {K:Act->World->Prop} {Q:Exit->Act->World->Prop} (gp:∀cz aN,Rel w0 bp cz aN->K cz aN):
  Oper.wp P ⟨dst,.call ⟨.value (.tmp y),args,ts⟩,type,pos,after,guard⟩ a w K Q:=by
 have gd:∀(x:Nat) (p:aJ),(args.toList.map st.bi)[x]?=some p->∃v,(args.map a.eval)[x]?=some v/\cL (Sat w ω τ) p v:=by
  intro x p hp;rw[dj,b1]at hp;obtain⟨o,h1,rfl⟩:=hp;refine⟨a.eval o,?_,aV.bi o⟩;rw[xX];rw[iC]at h1;rw[h1];rfl
 unfold Jq at h;split at h
 ·rename_i g ids rq;have pw:st.bi (.tmp y)=.aK (.one (.gn g ids)):=by
   unfold re at rq;split at rq
   ·rename_i e;cases rq;exact e
   cases rq
  have aj:=aV.bi (.tmp y);rw[pw]at aj;obtain⟨bs,F4,uE,fD⟩:=aj;split at h
  case isFalse=>cases h
  rename_i h8;refine Jr (n:=args.toList.length+ids.length) (vs:=args.map a.eval++(bs.map ptrTo).toArray) rfl aV h aZ (by simp[uE]) (fun x p ag=>?_) (fun x ea Yv rK ag=>?_) (fun g'=>?_) gp
  ·rw[kD]at ag;rw[ht];split at ag
   ·rename_i bz;rw[br (by simpa using bz)];exact gd x p ag
   rename_i lN;rw[bh (by simpa using lN)];rw[dj,b1]at ag;obtain⟨id,fF,rfl⟩:=ag;obtain⟨b,fU,fL⟩:=fD _ id fF;refine⟨ptrTo b,?_,b,fL,rfl⟩;simp only[bk,uc]at fU;simp[fU]
  ·exfalso;rw[kD]at ag;split at ag
   ·rename_i bz;have:=fA.1 h8 _ (fl ag);simp[re]at this
   rw[dj,b1]at ag;obtain⟨id,_,e⟩:=ag;cases e
  have e:(args.map a.eval++(bs.map ptrTo).toArray).extract 0 (args.toList.length+ids.length)=args.map a.eval++(bs.map ptrTo).toArray:=by
   have e2:args.toList.length+ids.length=(args.map a.eval++(bs.map ptrTo).toArray).size:=by simp[uE]
   rw[e2,Array.extract_size]
  rw[e];unfold iQ at g';split at g'
  ·rename_i fn kr;simp only[cx,hv,ua,hZ]at g';have rn:fn.body≠none:=by intro e;rw[e]at g';simp at g'
   simp[execOp,resolve,F4,Deferred.ofValue,invoke,callFunc,kr,g'.1,rn]
  cases g'
 cases h
