import Derived.Test.YthfnndblgbjniaaGreatR11
set_option linter.unusedVariables false
set_option linter.unusedSimpArgs false
namespace Go.Sx
open Go.RowKit
inductive aM where
 | ro (a:cR)
 | jx (pn:List Bool) (pre post:List D)
 | fn (g:FuncId) (cV:List Nat)
abbrev aM.ref (pre post : List D) : aM := .jx [] pre post
abbrev aM.cur(pre post:List D):aM:=.jx [true,false,false] pre post
def stays(pn:List Bool)(j:Nat):Bool:=pn.getD j false
def jq(w:World)(y:Value)(j:Nat):Value:=
 match y with
 | .pointer (some p)=>match w.heap[p.block]? with | some (.cells arr _ _)=>arr.getD j undef | _=>undef
 | _=>undef
def sc(i j:Nat):Nat:=900000000+(100*i+j)
def h4(i j:Nat):Nat:=5000+(100*i+j)
def w9(w:World)(ω:Own)(i:Nat)(pn:List Bool)(f:Nat->Nat)(ds:List D)(y:Value):Prop:=
 ∃b arr ty,y=ptrTo b/\ω b=.box i/\(∀dE,ω dE=.box i->dE=b)/\w.heap[b]?=some (.cells arr ty (0,0))/\arr.size=ds.length/\∀(j:Nat) (d:D),ds[j]?=some d->∃u,arr[j]?=some u/\(stays pn j=false->b3 w ω (Tag.own (f j)).R d u)
def acI(w:World)(ω:Own)(i:Nat):aM->Value->Prop
 | .ro (.one d),y=>b3 w ω Tag.free.R d y
 | .ro (.agg ds),y=>∃vs:Array Value,y=.agg vs/\vs.size=ds.length/\∀(j:Nat) (d:D),ds[j]?=some d->∃u,vs[j]?=some u/\b3 w ω Tag.free.R d u
 | .jx pn pre _,y=>w9 w ω i pn (sc i) pre y/\∀(j:Nat) (d:D),pre[j]?=some d->stays pn j=true->b3 w ω Tag.free.R d (jq w y j)
 | .fn _ _,_=>True
def aM.bk:aM->Nat
 | .fn _ cV=>cV.length
 | _=>0
def uY(args:List aM):Nat:=args.length-(args.map aM.bk).sum
def Js(args:List aM)(vs:Array Value):Prop:=∀(i:Nat) (g:FuncId) (cV:List Nat),args[i]?=some (.fn g cV)->vs[i]?=some (.func (.func g) #[] (cV.map fun k=>vs.getD k undef).toArray)
def Hd(w:World)(ω:Own):Prop:=∀b,ω b≠.bP->∃arr ty,w.heap[b]?=some (.cells arr ty (0,0))
def Jv(w:World)(ω:Own)(args:List aM)(vs:Array Value):Prop:=Hd w ω/\(∀b i,ω b=.box i->∃pn pre post,args[i]?=some (.jx pn pre post))/\vs.size=args.length/\∀(i:Nat) (kn:aM),args[i]?=some kn->∃v,vs[i]?=some v/\acI w ω i kn v
def yM(src:List (Option Nat)):List Bool:=src.map Option.isSome
def E2(w:World)(ω:Own)(vs:Array Value):a1->Value->Prop
 | .vals rs,v=>nX w ω rs v
 | .iY src ds,v=>w9 w ω 49 (yM src) (h4 49) ds v/\∀(j i:Nat),src[j]?=some (some i)->vs[i]?=some (jq w v j)
def b4(P:Program)(f:FuncId)(args:List aM)(r:a1):Prop:=
 ∀(w:World) (vs:Array Value) (ω:Own),Jv w ω args vs->Js args vs->Tidy w ω->Calls P f (vs.extract 0 (uY args)) w fun e aN=>∃v,e=.returned v/\gZ ⟨w,fun b=>ω b≠.bP,fun _=>(0,undef)⟩ aN/\
  ∃bh:Own,(∀b,b<w.heap.size->ω b=.bP->bh b=.bP)/\Hd aN bh/\(∀(i:Nat) (pn:List Bool) (pre post:List D) (y:Value),args[i]?=some (.jx pn pre post)->vs[i]?=some y->w9 aN bh i pn (h4 i) post y/\∀j,stays pn j=true->jq aN y j=jq w y j)/\E2 aN bh vs r v
abbrev aED:=List (Nat×Nat)
def look(t:Nat):List (Nat×Nat)->Option Nat
 | []=>none
 | (s,n)::r=>if s=t then some n else look t r
def Mt(ts:List (Nat×Nat)):Bool:=ts.all fun x=>ts.all fun y=>(x.1==y.1)==(x.2==y.2)
variable{ts:List (Nat×Nat)}
theorem T'{t n:Nat}(h:Mt ts=true)(hm:(t,n)∈ts):look t ts=some n:=by
 have key:∀l:List (Nat×Nat),(∀x∈l,x∈ts)->(t,n)∈l->look t l=some n:=by
  intro l;induction l with
  | nil=>grind
  | cons x l eA=>
   intro ao hm;obtain⟨s,m⟩:=x;simp only[look];split
   ·rename_i e;subst e;have h1:=gn.1 (gn.1 h _ (ao _ h2)) _ (by exact ‹(s,n)∈ts›);grind
   grind
 grind
theorem aAI{t n:Nat}(h:look t ts=some n):(t,n)∈ts:=by
 induction ts with
 | nil=>cases h
 | cons x l eA=>
  grind[look,gO,h2,gE]
def hR(bs ts:List (Nat×Nat)):dv->dv
 | .bP=>.bP
 | .box id=>match look id bs with | some i=>.box i | none=>.bP
 | .tok t q=>match look t ts with | some n=>.tok n q | none=>.bP
def Tag.qF(ts:List (Nat×Nat)):Tag->Bool
 | .free=>false
 | .own t=>(look t ts).isSome
 | .ro t=>(look t ts).isSome
def ur:Option Nat->Nat->Bool
 | none=>fun _=>true
 | some d=>kC d
def Dj(ts:List (Nat×Nat))(t0:Nat)(g:Tag):Option Tag:=if g.qF ts then none else hg t0 g
abbrev yK(ts:List (Nat×Nat))(t0:Nat)(dp:Option Nat)(l:aG):aG:=l.cN (Dj ts t0) (ur dp)
structure j2 where
 i:Nat
 id:Nat
 post:List D
 e9:List (Option aG)
def mb(cV:List (Option aG)):List Bool:=cV.map Option.isSome
def l':List (Option aG)->List aG->List aG
 | [],ls=>ls
 | _,[]=>[]
 | some l::cV,_::ls=>l::l' cV ls
 | none::cV,l::ls=>l::l' cV ls
theorem He:∀(cV:List (Option aG)) (ls:List aG),(l' cV ls).length=ls.length
 | [],ls=>rfl
 | _::_,[]=>by simp[l']
 | some l::cV,_::ls=>by simp[l',He cV ls]
 | none::cV,_::ls=>by simp[l',He cV ls]
theorem Mu:∀(cV:List (Option aG)) (ls:List aG) (j:Nat) (l:aG),(l' cV ls)[j]?=some l->(cV[j]?=some (some l)/\stays (mb cV) j=true)\/(ls[j]?=some l/\stays (mb cV) j=false)
 | [],ls,j,l,h=>.inr ⟨h,by simp[stays,mb]⟩
 | _::_,[],j,l,h=>by grind[l']
 | some k::cV,x::ls,0,l,h=>by simp only[l',lY,aZ]at h;subst h;exact .inl ⟨rfl,rfl⟩
 | none::cV,x::ls,0,l,h=>by simp only[l',lY]at h;exact .inr ⟨h,rfl⟩
 | some k::cV,x::ls,j+1,l,h=>by
  have:=Mu cV ls j l (by simpa[l']using h);simpa[stays,mb]using this
 | none::cV,x::ls,j+1,l,h=>by
  have:=Mu cV ls j l (by simpa[l']using h);simpa[stays,mb]using this
def xG(t0:Nat):List j2->List (Nat×List aG)->List (Nat×List aG)
 | [],bs=>bs
 | r::rs,bs=>xG t0 rs (rX r.id (l' r.e9 (oS (t0+h4 r.i 0) 0 r.post)) bs)
def Ua(t0:Nat)(dp:Option Nat)(nk:List (Option aG))(ds:List D)(bs:List (Nat×List aG)):List (Nat×List aG):=
 match dp with
 | some d=>(d,l' nk (oS (t0+h4 49 0) 0 ds))::qK d bs
 | none=>bs
def aD.yL(st:aD)(ts:List (Nat×Nat))(t0:Nat)(refs:List j2)(dp:Option Nat)(nk:List (Option aG))(ds:List D):aD:=
 ⟨st.env.map (aI.map (yK ts t0 dp)),Ua t0 dp nk ds (xG t0 refs (st.boxes.map fun x=>(x.1,x.2.map (yK ts t0 dp))))⟩
def qG(t0:Nat)(dp:Option Nat):dv->dv
 | .tok s q=>if t0<=s/\s<t0+10000 then .bP else .tok s q
 | .box id=>if ur dp id then .box id else .bP
 | .bP=>.bP
def qz(i:Nat)(dp:Option Nat):List j2->Option Nat
 | []=>if i=49 then dp else none
 | r::rs=>if r.i=i then some r.id else qz i dp rs
def og(t0:Nat)(refs:List j2)(dp:Option Nat):dv->dv
 | .tok s q=>if s<10000 then .tok (t0+s) q else .bP
 | .box i=>match qz i dp refs with | some id=>.box id | none=>.bP
 | .bP=>.bP
def D.u2:D->Nat
 | .J k _=>k
 | _=>0
def xH(i:Nat)(ds:List D):List j2->List D
 | []=>ds
 | r::rs=>if r.i=i then r.post else xH i ds rs
def lR(refs:List j2):List (Nat×Nat):=refs.map fun r=>(r.id,r.i)
def AE:List j2->Option Nat->Bool
 | [],_=>true
 | x::r,dp=>decide (x.i<49)&&decide (x.post.length<100)&&decide (dp≠some x.id)&&r.all (fun y=>x.i != y.i&&x.id != y.id)&&AE r dp
variable{id:Nat}
theorem Mv{t0:Nat}:∀{refs:List j2} {bs:List (Nat×List aG)},(∀r∈refs,r.id≠id)->dK id (xG t0 refs bs)=dK id bs
 | [],bs,_=>rfl
 | r::rs,bs,h=>by
  simp_all[xG,Mv,gE,Az,Ne.symm,h2]
theorem aAJ{iV:Nat}{ls:List aG}:∀{bs:List (Nat×List aG)},(dK id bs).isSome=true->(dK id (rX iV ls bs)).isSome=true:=by
 intro bs h;by_cases e:id=iV
 ·subst e;obtain⟨x,ag⟩:=sj.1 h;rw[Ay ag];rfl
 grind[Az]
theorem Ub{t0:Nat}:∀{refs:List j2} {bs:List (Nat×List aG)} {r:j2},r∈refs->(∀x∈refs,x.id=r.id->x=r)->(dK r.id bs).isSome=true->dK r.id (xG t0 refs bs)=some (l' r.e9 (oS (t0+h4 r.i 0) 0 r.post))
 | [],_,_,h,_,_=>by cases h
 | x::rs,bs,r,h,hu,ao=>by
  simp only[xG];by_cases hm:r∈rs
  ·exact Ub hm (fun y bu=>hu y (gE _ bu)) (aAJ ao)
  rcases ev.1 h with e | h
  ·subst e;obtain⟨l,al⟩:=sj.1 ao;grind[Mv,Ay,gE]
  grind
variable{dp:Option Nat}
theorem uN:∀{refs:List j2},AE refs dp=true->∀{x:j2},x∈refs->x.i<49/\x.post.length<100/\dp≠some x.id/\∀y∈refs,(y.i=x.i->y=x)/\(y.id=x.id->y=x)
 | [],_,x,ag=>by cases ag
 | z::r,h,x,ag=>by
  simp only[AE,cu,cj,gn,bne_iff_ne,lZ]at h;obtain⟨⟨⟨⟨h1,U⟩,aA⟩,aJ⟩,a7⟩:=h;rcases ev.1 ag with e | py
  ·subst e;refine⟨h1,U,aA,fun y bu=>?_⟩;rcases ev.1 bu with e | bu
   ·exact⟨fun _=>e,fun _=>e⟩
   exact⟨fun e=>absurd e.symm (aJ y bu).1,fun e=>absurd e.symm (aJ y bu).2⟩
  obtain⟨cA,bm,eK,pD⟩:=uN a7 py;refine⟨cA,bm,eK,fun y bu=>?_⟩;rcases ev.1 bu with e | bu
  ·subst e;exact⟨fun e=>absurd e (aJ x py).1,fun e=>absurd e (aJ x py).2⟩
  exact pD y bu
theorem Mw:∀{refs:List j2} {r:j2},r∈refs->(∀y∈refs,y.i=r.i->y.id=r.id)->qz r.i dp refs=some r.id
 | [],_,h,_=>by cases h
 | x::rs,r,h,hu=>by
  simp only[qz];split
  ·grind
  rename_i e;rcases ev.1 h with e1 | h
  ·grind
  exact Mw h fun y bu=>hu y (gE _ bu)
theorem AF{i:Nat}:∀{refs:List j2},qz i dp refs=some id->(∃r∈refs,r.i=i/\r.id=id)\/(i=49/\dp=some id)
 | [],h=>by
  grind[qz]
 | x::rs,h=>by
  simp only[qz]at h;split at h
  ·rename_i e;exact .inl ⟨x,h2,e,gO h⟩
  rcases AF h with⟨r,aC,h1⟩ | h1
  ·exact .inl ⟨r,gE _ aC,h1⟩
  exact .inr h1
theorem Mx:∀{refs:List j2},(∀r∈refs,r.i<49)->qz 49 dp refs=dp
 | [],_=>by simp[qz]
 | x::rs,h=>by
  simp only[qz];rw[bD (by grind)];exact Mx fun r aC=>h r (gE _ aC)
theorem Uc{ds:List D}:∀{refs:List j2} {r:j2},r∈refs->(∀y∈refs,y.i=r.i->y=r)->xH r.i ds refs=r.post
 | [],_,h,_=>by cases h
 | x::rs,r,h,hu=>by
  simp only[xH];split
  ·grind
  rename_i e;rcases ev.1 h with e1 | h
  ·grind
  exact Uc h fun y bu=>hu y (gE _ bu)
theorem My{ds:List D}:∀{refs:List j2},(∀r∈refs,r.i<49)->xH 49 ds refs=ds
 | [],_=>rfl
 | x::rs,h=>by
  simp only[xH];rw[bD (by grind)];exact My fun r aC=>h r (gE _ aC)
variable{refs:List j2}
theorem Ud(h:AE refs dp=true){r:j2}(aC:r∈refs):look r.id (lR refs)=some r.i:=by
 refine T' ?_ (kr.2 ⟨r,aC,rfl⟩);unfold Mt;rw[gn];intro x ag;rw[gn];intro y bu;obtain⟨rx,aeL,rfl⟩:=kr.1 ag;obtain⟨aDQ,aeM,rfl⟩:=kr.1 bu;have:=(uN h aeL).2.2.2 aDQ aeM;grind
theorem Hf{i:Nat}(h:look id (lR refs)=some i):∃r∈refs,r.id=id/\r.i=i:=by
 obtain⟨r,aC,e⟩:=kr.1 (aAI h);grind
def Mz(rs:List cR):Bool:=decide (rs.length<50)&&rs.all fun | .one _=>true | .agg ds=>ds.length<100
def a1.fits(dp:Option Nat)(pJ:List D):a1->Prop
 | .vals rs=>dp=none/\Mz rs=true
 | .iY _ ds=>dp.isSome=true/\pJ=ds/\ds.length<100
def a1.et(v:Value)(n:Nat):a1->Nat×Value
 | .vals rs=>(ru rs n,oA rs v n)
 | .iY _ _=>(0,undef)
def a1.pM(t0:Nat)(dp:Option Nat):a1->aI
 | .vals rs=>uZ t0 rs
 | .iY _ _=>.one (.ptr (dp.getD 0) 0)
theorem cM.acV{w0:eT}{st:aD}{a:Act}{w aN:World}{ω:Own}{τ:Nat->Nat×Value}(a6:cM w0 st a w ω τ)(t0:Nat){nk:List (Option aG)}{pJ:List D}{ij:a1}{v:Value}{vs:Array Value}{ys:Nat->Value}{H:Nat->Nat×Value}
  (bY:AE refs dp=true) (jK:t0+10000<=dk) (aw:gZ ⟨w,fun b=>hR (lR refs) ts (ω b)≠.bP,H⟩ aN) (fJ:Own)
  (mY:∀b,b<w.heap.size->hR (lR refs) ts (ω b)=.bP->fJ b=.bP) (mr:Hd aN fJ)
  (hrefs:∀r∈refs,w9 aN fJ r.i (mb r.e9) (h4 r.i) r.post (ys r.i)/\(∃b,ys r.i=ptrTo b/\ω b=.box r.id)/\(dK r.id st.boxes).isSome=true) (fl:E2 aN fJ vs ij v) (FN:ij.fits dp pJ) (vw:∀d,dp=some d->d<dk)
  (Kx:∀r∈refs,∀(j:Nat) (l:aG),r.e9[j]?=some (some l)->yK ts t0 dp l=l/\Sat w ω τ l (jq aN (ys r.i) j)) (B6:∀(j:Nat) (l:aG),nk[j]?=some (some l)->yK ts t0 dp l=l/\Sat w ω τ l (jq aN v j))
  (SD:∀src ds,ij=.iY src ds->yM src=mb nk):
  ∃bh c3,cM w0 (st.yL ts t0 refs dp nk pJ) a aN bh c3/\cW (Sat aN bh c3) (ij.pM t0 dp) v:=by
 classical
 let bh:Own:=fun b=>if b<w.heap.size/\hR (lR refs) ts (ω b)=.bP then qG t0 dp (ω b) else og t0 refs dp (fJ b)
 let aE:Nat->Nat×Value:=fun n=>if n<5000 then ij.et v n else
  ((((xH ((n-5000) / 100) pJ refs)[(n-5000) % 100]?).map D.u2).getD 0,jq aN (if (n-5000) / 100=49 then v else ys ((n-5000) / 100)) ((n-5000) % 100))
 let c3:Nat->Nat×Value:=fun s=>if t0<=s/\s<t0+10000 then aE (s-t0) else τ s
 have B0:∀r∈refs,r.i<49:=fun r aC=>(uN bY aC).1
 have hold:∀b,b<w.heap.size->hR (lR refs) ts (ω b)=.bP->bh b=qG t0 dp (ω b):=fun b h1 U=>by grind
 have hv:∀b,fJ b≠.bP->bh b=og t0 refs dp (fJ b):=fun b h=>by
  grind
 have hblk:∀b,b<w.heap.size->hR (lR refs) ts (ω b)=.bP->aN.heap[b]?=w.heap[b]?:=fun b h1 U=>aw.block b h1 (fun aW=>aW U)
 have FQ:∀r∈refs,∀b,ω b=.box r.id->fJ b=.box r.i/\ys r.i=ptrTo b:=by
  intro r aC b dm;obtain⟨⟨e7,arr,ty,h1,U,_⟩,⟨fT,aA,aJ⟩,a7⟩:=hrefs r aC;obtain⟨ls,xl⟩:=sj.1 a7;obtain⟨sv,_,_,_,hu,_⟩:=a6.boxes r.id ls xl;have e1:=hu b dm;have e2:=hu fT aJ;have ch:fT=b:=by rw[e1,e2]
  subst ch;rw[aA]at h1;simp only[ptrTo,Value.pointer.injEq,aZ,Addr.mk.injEq]at h1;grind
 have zF:∀id b,ur dp id=true->ω b=.box id->bh b=.box id:=by
  intro id b hp dm;have bR:=a6.owned.lt (b:=b) (by simp[dm]);cases e:look id (lR refs) with
  | none=>
   simp_all[hR,lR,qG,gy]
  | some i=>
   obtain⟨r,aC,rfl,rfl⟩:=Hf e;grind[og,Mw,uN]
 have bt:mQ w ω τ aN bh c3 (Dj ts t0) (ur dp):=by
  refine⟨?_,?_,fun id b hp h=>zF id b hp h,?_,fun s ao=>by simp only[c3];rw[bD (by omega)]⟩
  ·intro g eN b q ay bR aH;unfold Dj at ay;split at ay
   ·cases ay
   rename_i hm;simp only[wZ]at hm;have hi:hR (lR refs) ts (ω b)=.bP:=by
    cases g with
    | free=>simp only[Tag.R]at aH;rw[aH];rfl
    | own s=>
     grind[Tag.R,Tag.qF,Jn,Jo,hR]
    | ro s=>
     simp only[Tag.qF,Jn,Jo]at hm;rcases aH with h | ⟨ee,h⟩
     ·rw[h];rfl
     grind[hR]
   refine⟨?_,hblk b bR hi⟩;rw[hold b bR hi];cases g with
   | free=>simp only[hg,aZ]at ay;subst ay;simp only[Tag.R]at aH ⊢;rw[aH];rfl
   | own s=>
    simp only[Tag.R]at aH;simp only[hg]at ay;rw[aH];simp only[qG];split at ay
    ·simp only[aZ]at ay;subst ay;rw[bq ‹_›];rfl
    simp only[aZ]at ay;subst ay;rw[bD ‹_›];rfl
   | ro s=>
    simp only[Tag.R]at aH;simp only[hg]at ay;split at ay
    ·simp only[aZ]at ay;subst ay;rcases aH with h | ⟨ee,h⟩
     ·rw[h];rfl
     rw[h];simp only[qG];rw[bq ‹_›];rfl
    simp only[aZ]at ay;subst ay;rcases aH with h | ⟨ee,h⟩
    ·rw[h];exact .inl rfl
    rw[h];simp only[qG];rw[bD ‹_›];exact .inr ⟨ee,rfl⟩
  ·intro g eN y ay bu;unfold Dj at ay;split at ay
   ·cases ay
   cases g with
   | free=>simp only[hg,aZ]at ay;subst ay;exact trivial
   | own s=>
    simp only[hg]at ay;split at ay
    ·simp only[aZ]at ay;subst ay;exact trivial
    simp only[aZ]at ay;subst ay;simp only[Tag.et,c3]at bu ⊢;simp_all[bD]
   | ro s=>
    simp only[hg]at ay;split at ay
    ·simp only[aZ]at ay;subst ay;exact trivial
    simp only[aZ]at ay;subst ay;exact trivial
  rfl
 have cell:∀(n:Nat) (d:D) (u:Value),n<10000->aE n=(d.u2,u)->b3 aN fJ (Tag.own n).R d u->Sat aN bh c3 (d.qT (t0+n)) u:=by
  intro n d u aW bF aC;cases d with
  | v x=>
   have e:u=x:=by cases aC;rfl
   subst e;unfold D.qT;split
   ·rename_i h;cases h;exact rfl
   ·rename_i h;cases h;exact rfl
   ·grind
   ·exact trivial
   grind
  | ptr ds=>exact trivial
  | cl g bk=>exact trivial
  | J k es=>
   refine⟨aC.frame fun b q bR aH=>⟨?_,rfl⟩,?_⟩
   ·simp_all[Tag.R,og,bq]
   simp only[Tag.et,c3];rw[bq (by omega),show t0+n-t0=n by omega,bF];rfl
 have var:∀(i:Nat) (post:List D) (y:Value) (id:Nat) (cV:List (Option aG)),i<50->post.length<100->xH i pJ refs=post->(if i=49 then v else ys i)=y->w9 aN fJ i (mb cV) (h4 i) post y->qz i dp refs=some id->(∀(j:Nat) (l:aG),cV[j]?=some (some l)->yK ts t0 dp l=l/\Sat w ω τ l (jq aN y j))->
   (∀dE gk,qz gk dp refs=some id->fJ dE=.box gk->gk=i)->(∀dE,ω dE=.box id->ur dp id=true->¬hR (lR refs) ts (ω dE)=.bP)->vd aN bh c3 id (l' cV (oS (t0+h4 i 0) 0 post))/\∃b,y=ptrTo b/\bh b=.box id:=by
  rintro i post y id cV hi vE aeE bu ⟨b,arr,ty,rfl,U,aA,aJ,a7,bw⟩ hB aee aFL jH;have eE:bh b=.box id:=by
   grind[og]
  refine⟨⟨b,arr,ty,eE,fun dE dm=>?_,aJ,by grind[He,AB],fun j l al=>?_⟩,b,rfl,eE⟩
  ·by_cases ai:dE<w.heap.size/\hR (lR refs) ts (ω dE)=.bP
   ·rw[hold dE ai.1 ai.2]at dm;cases e:ω dE with
    | bP=>rw[e]at dm;cases dm
    | tok s q=>grind[qG]
    | box iV=>
     grind[qG,dv.box.injEq,absurd]
   have oy:og t0 refs dp (fJ dE)=.box id:=by
    grind
   cases e:fJ dE with
   | bP=>rw[e]at oy;cases oy
   | tok s q=>grind[og]
   | box gk=>
    grind[og,dv.box.injEq]
  have jG:j<(l' cV (oS (t0+h4 i 0) 0 post)).length:=(ga.1 al).1;rw[He,AB]at jG;rcases Mu cV _ j l al with⟨al,_⟩ | ⟨al,KB⟩
  ·obtain⟨u,hu,_⟩:=bw j _ (gU jG);obtain⟨g1,g2⟩:=aee j l al;refine⟨u,hu,?_⟩;have e:jq aN (ptrTo b) j=u:=by simp[jq,ptrTo,aJ,fc,hu]
   rw[e]at g2;have:=bt.sat l u g2;grind
  rw[Dc,ca]at al;obtain⟨d,eQ,rfl⟩:=al;obtain⟨u,hu,aC⟩:=bw j d eQ;replace aC:=aC KB;have bf:j<100:=by
   grind
  refine⟨u,hu,?_⟩;have:=cell (h4 i j) d u (by grind[h4]) (by
   have e1:(h4 i j-5000) / 100=i:=by grind[h4]
   have e2:(h4 i j-5000) % 100=j:=by grind[h4]
   simp only[aE];rw[bD (by grind[h4]),e1,e2,aeE,eQ,bu];simp[jq,ptrTo,aJ,fc,hu]) aC
  rw[show t0+h4 i 0+(0+j)=t0+h4 i j by grind[h4]];exact this
 have aF4:∀r∈refs,vd aN bh c3 r.id (l' r.e9 (oS (t0+h4 r.i 0) 0 r.post)):=by
  intro r aC;obtain⟨h1,U,aA,aJ⟩:=uN bY aC;refine (var r.i r.post (ys r.i) r.id r.e9 (by omega) U (Uc aC fun y bu e=>(aJ y bu).1 e) (by grind) (hrefs r aC).1 (Mw aC fun y bu e=>by grind) (Kx r aC) (fun dE gk e _=>?_) (fun dE e _=>?_)).1
  ·grind[AF,absurd]
  grind[hR,Ud]
 have tX:∀id ls,dK id (st.yL ts t0 refs dp nk pJ).boxes=some ls->vd aN bh c3 id ls:=by
  intro id ls al;have rest:∀id ls,dp≠some id->dK id (xG t0 refs (st.boxes.map fun x=>(x.1,x.2.map (yK ts t0 dp))))=some ls->vd aN bh c3 id ls:=by
   intro id ls pu al;by_cases aC:∃r∈refs,r.id=id
   ·obtain⟨r,aC,rfl⟩:=aC;rw[Ub aC (fun y bu e=>((uN bY aC).2.2.2 y bu).2 e) (by
     rw[uK];grind)]at al
    grind
   have eW:∀r∈refs,r.id≠id:=fun r h1 U=>aC ⟨r,h1,U⟩
   rw[Mv eW,uK,ca]at al;obtain⟨kg,bJ,rfl⟩:=al;obtain⟨b,arr,ty,h1,U,aA,aJ⟩:=a6.boxes id kg bJ;have hp:ur dp id=true:=by
    unfold ur;split
    ·rfl
    simp only[kC,cj];grind
   have bR:=a6.owned.lt (b:=b) (by simp[h1]);have jn:look id (lR refs)=none:=by
    cases e:look id (lR refs) with
    | none=>rfl
    | some i=>
     grind[Hf,absurd]
   have hi:hR (lR refs) ts (ω b)=.bP:=by grind[hR]
   refine⟨b,arr,ty,zF id b hp h1,fun dE dm=>?_,(hblk b bR hi).trans aA,aJ.map bt.sat⟩;by_cases ai:dE<w.heap.size/\hR (lR refs) ts (ω dE)=.bP
   ·rw[hold dE ai.1 ai.2]at dm;cases e:ω dE with
    | bP=>rw[e]at dm;cases dm
    | tok s q=>grind[qG]
    | box iV=>
     grind[qG,dv.box.injEq]
   have oy:og t0 refs dp (fJ dE)=.box id:=by
    grind
   cases e:fJ dE with
   | bP=>rw[e]at oy;cases oy
   | tok s q=>grind[og]
   | box gk=>
    grind[og,dv.box.injEq,AF,absurd]
  simp only[aD.yL,Ua]at al;cases dp with
  | none=>grind
  | some d=>
   simp only[dK]at al;by_cases aE:d=id
   ·subst aE;rw[bq rfl]at al;rw[<-gO al];cases ij with
    | vals rs=>exact absurd FN.1 (by simp)
    | iY src ds=>
     obtain⟨_,rfl,hlen⟩:=FN;obtain⟨fl,_⟩:=fl;rw[SD _ _ rfl]at fl;refine (var 49 pJ v d nk (by omega) hlen (My B0) (bq rfl) fl (Mx B0) B6 (fun dE gk e _=>?_) (fun dE _ e=>?_)).1
     ·grind[AF,absurd,uN]
     simp[ur,kC]at e
   rw[bD aE,zP (fun e=>aE e.symm)]at al;grind
 refine⟨bh,c3,⟨a6.defers,by simp[aD.yL,a6.size],?_,?_,fun s ao=>?_,fun id b hi dm=>?_,?_,tX⟩,?_⟩
 ·refine⟨aw.os.trans a6.below.os,aw.tape.trans a6.below.tape,aw.output.trans a6.below.output,nD a6.below.size aw.size,fun b bR ay=>?_,fun ao=>nD (a6.below.drawn ao) (aw.drawn ao),aw.laid,a6.below.free⟩;have kx:b<w.heap.size:=Bb bR a6.below.size;have ry:ω b=.bP:=by
   cases e:ω b with
   | bP=>rfl
   | box id=>exact absurd (a6.owned b (by simp[e])).1 (fun h=>h.elim (fun h=>by omega) ay)
   | tok s q=>exact absurd (a6.owned b (by simp[e])).1 (fun h=>h.elim (fun h=>by omega) ay)
  exact (hblk b kx (by rw[ry];rfl)).trans (a6.below.block b bR ay)
 ·intro b gH;by_cases ai:b<w.heap.size/\hR (lR refs) ts (ω b)=.bP
  ·rw[hold b ai.1 ai.2]at gH;have U:ω b≠.bP:=fun e=>by rw[e]at gH;exact gH rfl
   obtain⟨aA,arr,ty,aJ⟩:=a6.owned b U;grind
  have U:fJ b≠.bP:=fun e=>by
   simp only[bh]at gH;rw[bD ai,e]at gH;exact gH rfl
  obtain⟨arr,ty,aJ⟩:=mr b U;refine⟨?_,arr,ty,aJ⟩;by_cases bR:b<w.heap.size
  ·have a7:ω b≠.bP:=fun e=>ai ⟨bR,by rw[e];rfl⟩
   exact (a6.owned b a7).1
  exact .inl (by have:=a6.below.size;omega)
 ·have:c3 s=τ s:=by simp only[c3];rw[bD (by omega)]
  rw[this];exact a6.fixed s ao
 ·by_cases ai:b<w.heap.size/\hR (lR refs) ts (ω b)=.bP
  ·rw[hold b ai.1 ai.2]at dm;cases e:ω b with
   | bP=>rw[e]at dm;cases dm
   | tok s q=>grind[qG]
   | box iV=>
    rw[e]at dm;simp only[qG]at dm;split at dm
    ·simp only[dv.box.injEq]at dm;subst dm;exact a6.pinned iV b hi e
    cases dm
  have oy:og t0 refs dp (fJ b)=.box id:=by
   grind
  cases e:fJ b with
  | bP=>rw[e]at oy;cases oy
  | tok s q=>grind[og]
  | box gk=>
   rw[e]at oy;simp only[og]at oy;split at oy
   ·rename_i iV e2;simp only[dv.box.injEq]at oy;subst oy;rcases AF e2 with⟨r,a7,rfl,rfl⟩ | ⟨_,bw⟩
    ·obtain⟨⟨e7,arr,ty,g1,g2,g3,_⟩,⟨fT,g4,g5⟩,_⟩:=hrefs r a7;have ch:=g3 b e;rw[g4]at g1;simp only[ptrTo,Value.pointer.injEq,aZ,Addr.mk.injEq]at g1;rw[ch,<-g1.1];exact a6.pinned r.id fT hi g5
    grind
   cases oy
 ·intro i q aH;simp only[aD.yL]at aH;rw[dI,ca]at aH;obtain⟨gr,bJ,rfl⟩:=aH;obtain⟨u,h1,U⟩:=a6.env i gr bJ;exact⟨u,h1,cW.map bt.sat U⟩
 cases ij with
 | iY src ds=>
  obtain⟨pu,rfl,hlen⟩:=FN;obtain⟨d,rfl⟩:=sj.1 pu;obtain⟨fl,_⟩:=fl;rw[SD _ _ rfl]at fl;obtain⟨b,h1,U⟩:=(var 49 pJ v d nk (by omega) hlen (My B0) (bq rfl) fl (Mx B0) B6 (fun dE gk e _=>by
   grind[AF,absurd,uN]) (fun dE _ e=>by simp[ur,kC]at e)).2
  exact⟨b,U,h1⟩
 | vals rs=>
  obtain⟨rfl,eo⟩:=FN;simp only[Mz,cu,cj]at eo;have fj:∀(r:Nat) (cw:cR),rs[r]?=some cw->∀ds,cw=.agg ds->ds.length<100:=by
   intro r cw aC ds e;have:=gn.1 eo.2 cw (gj aC);grind
  have vi:∀(r:Nat) (cw:cR) (y:Value),r<50->(∀ds,cw=.agg ds->ds.length<100)->rs[r]?=some cw->(∀j,j<100->oA rs v (100*r+j)=y.cells.getD j undef)->ng aN fJ r cw y->lc (Sat aN bh c3) (cw.res (t0+100*r)) y:=by
   intro r cw y aC fj Cc bF pt;have ht:∀j,j<100->ru rs (100*r+j)=(match cR.cell j cw with | some (.J k _)=>k | _=>0):=by
    intro j bf;unfold ru;rw[show (100*r+j) / 100=r by omega,show (100*r+j) % 100=j by omega,Cc];rfl
   have SR:∀d:D,(match some d with | some (.J k _)=>k | _=>0)=d.u2:=fun d=>by cases d<;>rfl
   cases cw with
   | one d=>
    have h1:=pt.qH;have U:=bF 0 (by omega);rw[C9 h1]at U;have:=cell (100*r) d y (by omega) (by
     simp only[aE,a1.et];rw[bq (by omega)];have aA:=ht 0 (by omega);rw[o6]at U aA;rw[aA,U];simp only[cR.cell,gy];rw[SR];rfl) pt
    exact this
   | agg ds=>
    obtain⟨vs,rfl,aW,bf⟩:=pt;refine⟨vs,rfl,by grind[AB],fun j l al=>?_⟩;rw[Dc,ca]at al;obtain⟨d,eQ,rfl⟩:=al;obtain⟨u,hu,Cd⟩:=bf j d eQ;have jG:j<100:=by
     grind
    refine⟨u,hu,?_⟩;have:=cell (100*r+j) d u (by omega) (by
     simp only[aE,a1.et];rw[bq (by omega),ht j jG,bF j jG];simp only[cR.cell,eQ];rw[SR];simp[Value.cells,fc,hu]) Cd
    grind
  show cW (Sat aN bh c3) (uZ t0 rs) v;cases rs with
  | nil=>
   obtain⟨vs,rfl,aW,_⟩:=fl;exact⟨vs,rfl,aW,fun i a ah=>by grind[rY]⟩
  | cons cw rest=>
   cases rest with
   | nil=>
    have:=vi 0 cw v (by omega) (fj 0 cw rfl) rfl (fun j bf=>by
     unfold oA;grind) fl
    exact this
   | cons RE rest=>
    obtain⟨vs,rfl,aW,bF⟩:=fl;refine⟨vs,rfl,by grind[F6],fun i a ah=>?_⟩;rw[Gw,ca]at ah;obtain⟨pc,h1,rfl⟩:=ah;obtain⟨y,bu,BW⟩:=bF i pc h1;have kv:i<50:=by
     grind
    refine⟨y,bu,?_⟩;have:=vi i pc y kv (fj i pc h1) h1 (fun j bf=>by
     unfold oA;simp only;rw[show (100*i+j) / 100=i by omega,show (100*i+j) % 100=j by omega];simp[fc,bu]) BW
    grind
end Go.Sx
namespace Go.Sx
open Go.RowKit
def aG.qF(ts:List (Nat×Nat)):aG->Bool
 | .J g _ _=>g.qF ts
 | .aR t _ _ _ _ _=>(look t ts).isSome
 | _=>false
variable{w:World}{ω:Own}{τ:Nat->Nat×Value}{l:aG}
theorem Ue{bs ts:List (Nat×Nat)}{d:D}{y:Value}(h:l.hb=some d)(hm:l.qF ts=false)(ao:Sat w ω τ l y):
  b3 w (fun b=>hR bs ts (ω b)) Tag.free.R d y:=by
 have tag:∀(g:Tag) (b:Nat) (q:List (Nat×Nat)),g.qF ts=false->g.R q (ω b)->hR bs ts (ω b)=.bP:=by
  intro g b q ay aH;cases g with
  | free=>simp only[Tag.R]at aH;rw[aH];rfl
  | own s=>
   grind[Tag.R,Tag.qF,Jn,Jo,hR]
  | ro s=>
   simp only[Tag.qF,Jn,Jo]at ay;rcases aH with h | ⟨ee,h⟩
   ·rw[h];rfl
   grind[hR]
 cases l with
 | cp=>cases h
 | v x=>
  simp only[aG.hb]at h;split at h
  ·simp only[aZ]at h;subst h;have:y=x:=ao;subst this;exact .v _ _ ‹_›
  cases h
 | bg c=>
  simp only[aG.hb,aZ]at h;subst h;have:y=.bool c:=ao;subst this;exact .v _ _ rfl
 | J t k es=>simp only[aG.hb,aZ]at h;subst h;exact ao.1.frame fun b q _ aH=>⟨tag t b q hm aH,rfl⟩
 | ptr=>cases h
 | ep=>cases h
 | hq=>cases h
 | fP=>cases h
 | hY ds off=>
  simp only[aG.hb]at h;split at h
  ·rename_i a8;subst a8;simp only[aZ]at h;subst h;obtain⟨b,rfl,aC⟩:=ao;exact aC.frame fun b q _ aH=>⟨tag .free b q rfl aH,rfl⟩
  cases h
 | fd dQ=>simp only[aG.hb,aZ]at h;subst h;exact b3.frame ao fun b q _ aH=>⟨tag .free b q rfl aH,rfl⟩
 | dC t k es=>simp only[aG.hb,aZ]at h;subst h;exact b3.frame ao.1 fun b q _ aH=>⟨tag .free b q rfl aH,rfl⟩
 | aR t i j k es m=>
  obtain⟨u,hu,aC,_⟩:=ao;have fin:y=u->b3 w (fun b=>hR bs ts (ω b)) Tag.free.R (.J k es) y:=by
   intro e;rw[e];exact aC.frame fun b q _ aH=>⟨tag (.own t) b _ hm aH,rfl⟩
  cases m with
  | at_ x z=>cases h
  | here=>simp only[aG.hb,aZ]at h;subst h;exact fin hu
  | mS=>simp only[aG.hb,aZ]at h;subst h;exact fin hu
def aI.E7:aI->Option (cR×List aG)
 | .aF (.one l)=>l.hb.map fun d=>(.one d,[l])
 | .aF (.agg ls)=>(ls.mapM aG.hb).map fun ds=>(.agg ds,ls)
 | _=>none
def xI(i:Nat):Nat->List aG->List (Nat×Nat)
 | _,[]=>[]
 | j,l::ls=>match l.tok with | some t=>(t,sc i j)::xI i (j+1) ls | none=>xI i (j+1) ls
theorem Uf{i:Nat}:∀{ls:List aG} {j0 j:Nat} {l:aG} {t:Nat},ls[j]?=some l->l.tok=some t->(t,sc i (j0+j))∈xI i j0 ls
 | [],_,_,_,_,h,_=>by simp at h
 | dn::ls,j0,0,l,t,h,bK=>by
  grind[xI,h2]
 | dn::ls,j0,j+1,l,t,h,bK=>by
  have:=Uf (i:=i) (ls:=ls) (j0:=j0+1) (j:=j) (by simpa using h) bK;grind[xI,gE]
def rS:aG->Option aG
 | .dC t k es=>some (.dC t k es)
 | .J .free k es=>some (.J .free k es)
 | _=>none
def uO(ls:List aG):List (Option aG):=if (ls.map rS).all Option.isNone then [] else ls.map rS
def aG.Iw(l:aG):Option D:=match rS l with | some l=>l.hb | none=>l.jz
theorem Dk{hf:aG}(h:rS l=some hf):hf=l/\(∀ts t0 dp,yK ts t0 dp l=l)/\∃k es,l.hb=some (.J k es)/\∀{w ω τ y},Sat w ω τ l y->b3 w ω Tag.free.R (.J k es) y:=by
 unfold rS at h;split at h
 ·rename_i t k es;cases h;exact⟨rfl,fun _ _ _=>rfl,k,es,rfl,fun ao=>ao.1⟩
 ·rename_i k es;cases h;exact⟨rfl,fun _ _ _=>by simp[aG.cN,Dj,Tag.qF,hg],k,es,rfl,fun ao=>ao.1⟩
 cases h
theorem aAK{ls:List aG}{j:Nat}(h:(uO ls)[j]?=some (some l)):ls[j]?=some l/\rS l=some l:=by
 grind[uO,ca,Dk]
theorem MA{ls:List aG}{j:Nat}(al:ls[j]?=some l):stays (mb (uO ls)) j=(rS l).isSome:=by
 unfold uO;split
 ·rename_i h;have:=gn.1 h (rS l) (kr.2 ⟨l,gj al,rfl⟩);simp only[stays,mb,List.map_nil,List.getD_nil];simp_all
 simp_all[stays,mb,List.map_map]
def xx(cz:List aI):List (Option Nat)->Option (List (Option aG))
 | []=>some []
 | none::r=>(xx cz r).map fun x=>none::x
 | some a::r=>
  match cz[a]? with
  | some (.aF (.one l))=>
   match rS l,xx cz r with
   | some hf,some n9=>some (some hf::n9)
   | _,_=>none
  | _=>none
theorem Hg{cz:List aI}:∀{src:List (Option Nat)} {nk:List (Option aG)},xx cz src=some nk->yM src=mb nk/\∀(j:Nat) (l:aG),nk[j]?=some (some l)->∃a,src[j]?=some (some a)/\cz[a]?=some (.aF (.one l))/\rS l=some l
 | [],nk,h=>by
  simp only[xx,aZ]at h;subst h;exact⟨rfl,fun j l h=>by simp at h⟩
 | none::r,nk,h=>by
  simp only[xx,ca]at h;obtain⟨x,h1,rfl⟩:=h;obtain⟨g1,g2⟩:=Hg h1;grind[yM,mb]
 | some a::r,nk,h=>by
  simp only[xx]at h;split at h
  ·rename_i l e;split at h
   ·rename_i hf n9 e1 e2;simp only[aZ]at h;subst h;obtain⟨g1,g2⟩:=Hg e2;have:=(Dk e1).1;subst this;refine⟨by grind[yM,mb],fun j l bf=>?_⟩;grind
   cases h
  cases h
def aay:aI->Option Nat
 | .aF (.one (.ptr id 0))=>some id
 | _=>none
structure EU where
 p3:List aM
 refs:List j2
 ts:List (Nat×Nat)
 qU:List aG
def tN:aI->Option (FuncId×List Nat)
 | .aF (.one (.hq g ids))=>some (g,ids)
 | _=>none
def Tr(id:Nat):aI:=.aF (.one (.ptr id 0))
def q7(bs:mP):Nat->List (Option (List D))->List aI->Option EU
 | _,[],[]=>some ⟨[],[],[],[]⟩
 | i,none::ms,p::cz=>
  match tN p with
  | some (g,ids)=>(q7 bs (i+1) ms cz).map fun r=>⟨.fn g (List.range' (i+1) ids.length)::r.p3,r.refs,r.ts,r.qU⟩
  | none=>
   match p.E7,q7 bs (i+1) ms cz with
   | some (cw,ls),some r=>some ⟨.ro cw::r.p3,r.refs,r.ts,ls++r.qU⟩
   | _,_=>none
 | i,some post::ms,p::cz=>
  match aay p,q7 bs (i+1) ms cz with
  | some id,some r=>
   match dK id bs with
   | some ls=>
    match ls.mapM aG.Iw with
    | some pre=>some ⟨.jx (mb (uO ls)) pre post::r.p3,⟨i,id,post,uO ls⟩::r.refs,xI i 0 ls++r.ts,r.qU⟩
    | none=>none
   | none=>none
  | _,_=>none
 | _,_,_=>none
def EV(bs:mP)(a:EU)(i:Nat)(kn:aM)(p:aI):Prop:=
 (∃g ids,kn=.fn g (List.range' (i+1) ids.length)/\p=.aF (.one (.hq g ids)))\/
 (∃cw ls,kn=.ro cw/\p.E7=some (cw,ls)/\∀l∈ls,l∈a.qU)\/
 (∃id ls pre post,kn=.jx (mb (uO ls)) pre post/\p=.aF (.one (.ptr id 0))/\dK id bs=some ls/\ls.mapM aG.Iw=some pre/\(⟨i,id,post,uO ls⟩:j2)∈a.refs/\∀x∈xI i 0 ls,x∈a.ts)
theorem EV.mono{bs:mP}{a b:EU}{i:Nat}{kn:aM}{p:aI}(h:EV bs a i kn p)(h1:∀l∈a.qU,l∈b.qU)(U:∀x∈a.refs,x∈b.refs)(aA:∀x∈a.ts,x∈b.ts):EV bs b i kn p:=by
 rcases h with h | ⟨cw,ls,e1,e2,ch⟩ | ⟨id,ls,pre,post,e1,e2,ch,dS,hz,lg⟩
 ·exact .inl h
 ·exact .inr (.inl ⟨cw,ls,e1,e2,fun l al=>h1 l (ch l al)⟩)
 exact .inr (.inr ⟨id,ls,pre,post,e1,e2,ch,dS,U _ hz,fun x ag=>aA x (lg x ag)⟩)
theorem Hh{bs:mP}:∀{ms:List (Option (List D))} {cz:List aI} {i:Nat} {a:EU},q7 bs i ms cz=some a->a.p3.length=cz.length/\
  (∀(x:Nat) (kn:aM),a.p3[x]?=some kn->∃p,cz[x]?=some p/\EV bs a (i+x) kn p)/\
  (∀r∈a.refs,∃(x:Nat) (pre:List D),r.i=i+x/\a.p3[x]?=some (.jx (mb r.e9) pre r.post)/\cz[x]?=some (.aF (.one (.ptr r.id 0)))/\∃ls,dK r.id bs=some ls/\r.e9=uO ls)
 | [],[],i,a,h=>by
  simp only[q7,aZ]at h;grind
 | none::ms,p::cz,i,a,h=>by
  simp only[q7]at h;split at h
  ·rename_i g ids bE;rw[ca]at h;obtain⟨r,e2,rfl⟩:=h;obtain⟨dw,cA,bm⟩:=Hh e2;have hp:p=.aF (.one (.hq g ids)):=by
    unfold tN at bE;grind
   refine⟨by simp[dw],fun x kn ag=>?_,fun y bu=>?_⟩
   ·cases x with
    | zero=>
     simp only[lY,aZ]at ag;subst ag;exact⟨p,rfl,.inl ⟨g,ids,rfl,hp⟩⟩
    | succ x=>
     obtain⟨rR,h1,U⟩:=cA x kn (by grind);refine⟨rR,by grind,?_⟩;rw[show i+1+x=i+(x+1) by omega]at U;exact U.mono (fun _ h=>h) (fun _ h=>h) (fun _ h=>h)
   obtain⟨x,pre,h1,U,aA,aJ⟩:=bm y bu;exact⟨x+1,pre,by omega,by grind,by grind,aJ⟩
  split at h
  ·rename_i cw ls r e1 e2;simp only[aZ]at h;subst h;obtain⟨dw,cA,bm⟩:=Hh e2;refine⟨by simp[dw],fun x kn ag=>?_,fun y bu=>?_⟩
   ·cases x with
    | zero=>
     simp only[lY,aZ]at ag;subst ag;exact⟨p,rfl,.inr (.inl ⟨cw,ls,rfl,e1,fun l al=>hJ _ al⟩)⟩
    | succ x=>
     obtain⟨rR,h1,U⟩:=cA x kn (by grind);refine⟨rR,by grind,?_⟩;rw[show i+1+x=i+(x+1) by omega]at U;exact U.mono (fun l al=>iN _ al) (fun _ h=>h) (fun _ h=>h)
   obtain⟨x,pre,h1,U,aA,aJ⟩:=bm y bu;exact⟨x+1,pre,by omega,by grind,by grind,aJ⟩
  cases h
 | some post::ms,p::cz,i,a,h=>by
  simp only[q7]at h;split at h
  ·rename_i id r e1 e2;split at h
   ·rename_i ls ch;split at h
    ·rename_i pre dS;simp only[aZ]at h;subst h;obtain⟨dw,cA,bm⟩:=Hh e2;have hp:p=.aF (.one (.ptr id 0)):=by
      unfold aay at e1;grind
     refine⟨by simp[dw],fun x kn ag=>?_,fun y bu=>?_⟩
     ·cases x with
      | zero=>
       simp only[lY,aZ]at ag;subst ag;exact⟨p,rfl,.inr (.inr ⟨id,ls,pre,post,rfl,hp,ch,dS,h2,fun x ag=>hJ _ ag⟩)⟩
      | succ x=>
       obtain⟨rR,h1,U⟩:=cA x kn (by grind);refine⟨rR,by grind,?_⟩;rw[show i+1+x=i+(x+1) by omega]at U;exact U.mono (fun _ h=>h) (fun x h=>gE _ h) (fun x h=>iN _ h)
     rcases ev.1 bu with rfl | bu
     ·grind
     obtain⟨x,F5,h1,U,aA,aJ⟩:=bm y bu;exact⟨x+1,F5,by omega,by grind,by grind,aJ⟩
    cases h
   cases h
  cases h
 | [],_::_,i,a,h=>by grind[q7]
 | none::_,[],i,a,h=>by grind[q7]
 | some _::_,[],i,a,h=>by grind[q7]
def a1.JO(d:Option Nat):a1->Bool
 | .vals rs=>Mz rs
 | .iY _ ds=>d.isSome&&decide (ds.length<100)
def a1.dp(d:Option Nat):a1->Option Nat
 | .vals _=>none
 | .iY _ _=>d
def a1.pJ:a1->List D
 | .vals _=>[]
 | .iY _ ds=>ds
def a1.nk(cz:List aI):a1->Option (List (Option aG))
 | .vals _=>some []
 | .iY src _=>xx cz src
theorem a1.ac6{d:Option Nat}{r:a1}(h:r.JO d=true):r.fits (r.dp d) r.pJ:=by
 cases r with
 | vals rs=>exact⟨rfl,h⟩
 | iY src ds=>
  simp only[a1.JO,cu,cj]at h;exact⟨h.1,rfl,h.2⟩
def wu(n:Nat):Nat->List aM->Bool
 | _,[]=>true
 | i,.fn _ _::r=>i+1==n&&wu n (i+1) r
 | i,_::r=>wu n (i+1) r
theorem Hi{n:Nat}:∀{as:List aM} {i x:Nat} {g:FuncId} {cV:List Nat},wu n i as=true->as[x]?=some (.fn g cV)->i+x+1=n
 | [],_,_,_,_,_,h=>by simp at h
 | .fn _ _::r,i,0,g,cV,h,ag=>by
  simp_all[wu,cu,kq]
 | .fn _ _::r,i,x+1,g,cV,h,ag=>by
  simp only[wu,cu,kq]at h;have:=Hi h.2 (x:=x) (by simpa using ag);omega
 | .ro _::r,i,0,g,cV,h,ag=>by simp at ag
 | .jx _ _ _::r,i,0,g,cV,h,ag=>by simp at ag
 | .ro _::r,i,x+1,g,cV,h,ag=>by
  have:=Hi (i:=i+1) (by simpa[wu]using h) (x:=x) (by simpa using ag);omega
 | .jx _ _ _::r,i,x+1,g,cV,h,ag=>by
  have:=Hi (i:=i+1) (by simpa[wu]using h) (x:=x) (by simpa using ag);omega
def Dl(P:Program)(st:aD)(d:Option Nat)(f:FuncId)(n:Nat)(cz:List aI)(ans:List cf):Option (aD×List cf×List Prop):=
 match ans with
 | .dL xy ij::r=>
  match q7 st.boxes 0 xy cz,ij.nk cz with
  | some a,some nk=>
   let t0:=10000*(d.getD 0+1)
   if fX P f=true/\t0+10000<=dk/\AE a.refs (ij.dp d)=true/\Mt a.ts=true/\ij.JO d=true/\a.qU.all (fun l=>!(l.qF a.ts))=true/\uY a.p3=n/\wu n 0 a.p3=true then
    let bG:=st.yL a.ts t0 a.refs (ij.dp d) nk ij.pJ
    match d with
    | some d=>some (⟨bG.env.set d (ij.pM t0 (ij.dp (some d))),bG.boxes⟩,r,[b4 P f a.p3 ij])
    | none=>some (bG,r,[b4 P f a.p3 ij])
   else none
  | _,_=>none
 | _=>none
def MB(P:Program)(st:aD)(d:Option Nat)(f:FuncId)(args:List Operand)(ans:List cf):Option (aD×List cf×List Prop):=
 match (args.map st.bt).getLast?.bind tN with
 | some (_,ids)=>Dl P st d f args.length (args.map st.bt++ids.map Tr) ans
 | none=>Dl P st d f args.length (args.map st.bt) ans
def MC(P:Program)(st:aD)(d:Option Nat)(f:Operand)(args:List Operand)(ans:List cf):Option (aD×List cf×List Prop):=
 match tN (st.bt f) with
 | some (g,ids)=>if (args.map st.bt).all (fun p=>(tN p).isNone) then Dl P st d g (args.length+ids.length) (args.map st.bt++ids.map Tr) ans else none
 | none=>none
variable{a:Act}{P:Program}{w0:eT}{st bG:aD}{dst:Option Nat}{ans cv:List cf}{obs:List Prop}
theorem MD{f:FuncId}{n:Nat}{cz:List aI}{vs:Array Value}{o:Oper}
  (Kk:o.dst=dst) (a6:cM w0 st a w ω τ) (h:Dl P st dst f n cz ans=some (bG,cv,obs)) (a8:cO obs) (dO:vs.size=cz.length) (hD:∀(x:Nat) (p:aI),cz[x]?=some p->∃v,vs[x]?=some v/\cW (Sat w ω τ) p v)
  (lG:∀(x:Nat) (g:FuncId) (ids:List Nat),x+1=n->cz[x]?=some (.aF (.one (.hq g ids)))->vs[x]?=some (.func (.func g) #[] ((List.range' n ids.length).map fun k=>vs.getD k undef).toArray))
  (fU:fX P f=true->(execOp a.eval o).run P w=.ok (.enter f (vs.extract 0 n)) w) {K:Act->World->Prop} {Q:Exit->Act->World->Prop} (iv:∀cQ aN,Rel w0 bG cQ aN->K cQ aN):
  Oper.wp P o a w K Q:=by
 unfold Dl at h;split at h
 ·rename_i xy ij r;split at h
  ·rename_i tH nk nP B6;simp only at h;split at h
   ·rename_i ai;obtain⟨j8,jK,bY,jn,eo,FM,KL,vz⟩:=ai;rw[gn]at FM;have Cb:∀l∈tH.qU,l.qF tH.ts=false:=fun l al=>by grind
    obtain⟨hlen,cA,bm⟩:=Hh nP
    let Be:Own:=fun b=>hR (lR tH.refs) tH.ts (ω b)
    have cZ:∀b,Be b≠.bP->ω b≠.bP:=fun b h e=>h (by simp only[Be,e];rfl)
    have aeG:Jv w Be tH.p3 vs:=by
     refine⟨fun b aw=>(a6.owned b (cZ b aw)).2,fun b i aw=>?_,by grind,fun x kn ag=>?_⟩
     ·simp only[Be]at aw;cases e:ω b with
      | bP=>grind
      | tok s q=>grind[hR]
      | box iV=>
       rw[e]at aw;simp only[hR]at aw;split at aw
       ·rename_i gk qe;simp only[dv.box.injEq]at aw;subst aw;obtain⟨n9,eW,_,Bo⟩:=Hf qe;grind
       cases aw
     obtain⟨p,hp,sD⟩:=cA x kn ag;obtain⟨v,bF,ao⟩:=hD x p hp;refine⟨v,bF,?_⟩;rw[dX]at sD;rcases sD with⟨g,ids,rfl,_⟩ | ⟨cw,ls,rfl,e2,ch⟩ | ⟨id,ls,pre,post,rfl,rfl,ch,dS,hz,lg⟩
     ·exact trivial
     ·cases p with
      | gx as=>cases e2
      | aF aF=>
       cases aF with
       | one l=>
        simp only[aI.E7,ca]at e2;obtain⟨d,h1,U⟩:=e2;simp only[bL]at U;obtain⟨rfl,rfl⟩:=U;exact Ue h1 (Cb l (ch l (by simp))) ao
       | agg fV=>
        simp only[aI.E7,ca]at e2;obtain⟨ds,h1,U⟩:=e2;simp only[bL]at U;obtain⟨rfl,rfl⟩:=U;obtain⟨aA,aJ⟩:=oR h1;obtain⟨vs,rfl,aW,ae7⟩:=ao;refine⟨vs,rfl,by omega,fun j d aE=>?_⟩;obtain⟨l,al,c4⟩:=aJ j d aE;obtain⟨u,hu,fG⟩:=ae7 j l al;exact⟨u,hu,Ue c4 (Cb l (ch l (gj al))) fG⟩
     obtain⟨b,aw,rfl⟩:=ao;obtain⟨dE,arr,ty,eE,hu,bO,e8⟩:=a6.boxes id ls ch;have:=hu b aw;subst this;have aei:=Ud bY hz;simp only at aei;obtain⟨aA,aJ⟩:=oR dS;refine⟨⟨b,arr,ty,rfl,by grind[hR],fun c ai=>?_,bO,by have:=e8.1;omega,fun j d aE=>?_⟩,fun j d aE fr=>?_⟩
     ·simp only[Be]at ai;cases e:ω c with
      | bP=>grind
      | tok s q=>grind[hR]
      | box iV=>
       grind[hR,dv.box.injEq,Hf,uN]
     rotate_left
     ·obtain⟨l,al,c4⟩:=aJ j d aE;obtain⟨u,hd,fG⟩:=e8.2 j l al;rw[MA al]at fr;obtain⟨hf,mZ⟩:=sj.1 fr;obtain⟨rfl,_,k,es,dG,ub⟩:=Dk mZ;simp only[aG.Iw,mZ]at c4;rw[dG]at c4;cases c4;have e:jq w (.pointer (some ⟨b,0,none⟩)) j=u:=by simp[jq,bO,fc,hd]
      rw[e];refine (ub fG).frame fun c q _ aH=>⟨?_,rfl⟩
      grind[Tag.R,hR]
     obtain⟨l,al,c4⟩:=aJ j d aE;obtain⟨u,hd,fG⟩:=e8.2 j l al;refine⟨u,hd,fun fr=>?_⟩;rw[MA al]at fr;have SL:rS l=none:=by simpa using fr
     simp only[aG.Iw,SL]at c4;clear fr SL;cases l with
     | v z=>
      simp only[aG.jz]at c4;split at c4
      ·simp only[aZ]at c4;subst c4;have:u=z:=fG;subst this;exact .v _ _ ‹_›
      cases c4
     | bg c=>
      simp only[aG.jz,aZ]at c4;subst c4;have:u=.bool c:=fG;subst this;exact .v _ _ rfl
     | J g k es=>
      cases g with
      | free=>cases c4
      | ro s=>cases c4
      | own s=>
       simp only[aG.jz,aZ]at c4;subst c4;have hm:=lg _ (Uf (i:=x) (j0:=0) al rfl);rw[dX]at hm;have aFS:=T' jn hm;refine fG.1.frame fun c q _ aH=>⟨?_,rfl⟩
       grind[Tag.R,hR]
     | cp=>cases c4
     | ptr=>cases c4
     | ep=>cases c4
     | hY=>cases c4
     | fd=>cases c4
     | dC=>cases c4
     | hq=>cases c4
     | aR=>cases c4
     | fP=>cases c4
    have Kp:Js tH.p3 vs:=by
     intro x g cV ag;have Cj:=Hi vz ag;rw[dX]at Cj;obtain⟨p,hp,sD⟩:=cA x _ ag;rw[dX]at sD;rcases sD with⟨eN,ids,e1,rfl⟩ | ⟨cw,ls,e1,_⟩ | ⟨id,ls,pre,post,e1,_⟩
     ·grind
     ·cases e1
     cases e1
    have key:b4 P f tH.p3 ij->(∀v aN bh c3,cM w0 (st.yL tH.ts (10000*(dst.getD 0+1)) tH.refs (ij.dp dst) nk ij.pJ) a aN bh c3->cW (Sat aN bh c3) (ij.pM (10000*(dst.getD 0+1)) (ij.dp dst)) v->K (a.put dst v) aN)->
      Oper.wp P o a w K Q:=by
     intro KK R5;unfold Oper.wp;rw[fU j8,<-KL];simp only[Oper.upon];rw[Kk];refine (KK w _ Be aeG Kp (a6.tidy fun b aw=>by grind)).mono ?_;rintro e aN ⟨v,rfl,l3,fJ,c1,c2,cP,eI⟩;obtain⟨bh,c3,h1,U⟩:=a6.acV (10000*(dst.getD 0+1)) (nk:=nk) (ys:=fun i=>vs.getD i undef) bY jK l3 fJ c1 c2 (fun r aC=>by
      obtain⟨x,pre,g1,g2,g3,g4⟩:=bm r aC;rw[dX]at g1;obtain⟨y,bu,ao⟩:=hD x _ g3;obtain⟨b,aw,rfl⟩:=ao;have e:vs.getD r.i undef=ptrTo b:=by rw[g1,fc,bu];rfl
      rw[e];obtain⟨ls,g5,g6⟩:=g4;simp_all[ptrTo]) eI (a1.ac6 eo) (fun d aE=>by
      cases ij with
      | vals rs=>cases aE
      | iY src ds=>
       have aE:dst=some d:=aE;grind) (fun r aC j l bf=>by
      obtain⟨x,pre,g1,g2,g3,ls,g5,g6⟩:=bm r aC;rw[dX]at g1;obtain⟨y,bu,ao⟩:=hD x _ g3;obtain⟨b,aw,rfl⟩:=ao;have e:vs.getD r.i undef=ptrTo b:=by rw[g1,fc,bu];rfl
      rw[e];rw[g6]at bf;obtain⟨i1,i2⟩:=aAK bf;refine⟨(Dk i2).2.1 _ _ _,?_⟩;have fr:stays (mb r.e9) j=true:=by simp_all[MA]
      rw[(cP r.i _ pre r.post (ptrTo b) (by grind) (by simp_all)).2 j fr];obtain⟨dE,arr,ty,eE,hu,bO,e8⟩:=a6.boxes _ ls g5;have:=hu b aw;subst this;obtain⟨u,hd,fG⟩:=e8.2 j l i1;have e:jq w (ptrTo b) j=u:=by simp[jq,ptrTo,bO,fc,hd]
      grind) (fun j l bf=>by
      cases ij with
      | vals rs=>
       grind[a1.nk,aZ]
      | iY src ds=>
       obtain⟨_,i2⟩:=Hg B6;obtain⟨x,qB,pC,afo⟩:=i2 j l bf;refine⟨(Dk afo).2.1 _ _ _,?_⟩;obtain⟨y,bu,ao⟩:=hD x _ pC;have:=eI.2 j x qB;rw[bu]at this;rw[<-gO this];exact ao) (fun src ds e=>by
      subst e;exact (Hg B6).1)
     grind
    cases dst with
    | none=>
     simp only[aZ,bL]at h;obtain⟨rfl,_,rfl⟩:=h;exact key a8.1 fun v aN bh c3 h1 _=>iv _ _ ⟨bh,c3,h1⟩
    | some d=>
     simp only[aZ,bL]at h;obtain⟨rfl,_,rfl⟩:=h;exact key a8.1 fun v aN bh c3 h1 U=>iv _ _ ⟨bh,c3,h1.put U⟩
   cases h
  cases h
 cases h
theorem aAL{f:FuncId}{args:Array Operand}{ts:Array TypeId}{type:TypeId}{pos:String}{after:Array Edge}{guard:Option (Nat×Bool)}
  (a6:cM w0 st a w ω τ) (h:MB P st dst f args.toList ans=some (bG,cv,obs)) (a8:cO obs) {K:Act->World->Prop} {Q:Exit->Act->World->Prop} (iv:∀cQ aN,Rel w0 bG cQ aN->K cQ aN):
  Oper.wp P ⟨dst,.call ⟨.value (.func f),args,ts⟩,type,pos,after,guard⟩ a w K Q:=by
 have hD:∀(x:Nat) (p:aI),(args.toList.map st.bt)[x]?=some p->∃v,(args.map a.eval)[x]?=some v/\cW (Sat w ω τ) p v:=by
  intro x p hp;rw[dI,ca]at hp;obtain⟨o,h1,rfl⟩:=hp;refine⟨a.eval o,?_,a6.bt o⟩;grind
 have fU:fX P f=true->(execOp a.eval ⟨dst,.call ⟨.value (.func f),args,ts⟩,type,pos,after,guard⟩).run P w=.ok (.enter f (args.map a.eval)) w:=by
  intro j8;unfold fX at j8;split at j8
  ·rename_i fn lG;simp only[cu,gp,yU,lZ]at j8;have rn:fn.body≠none:=by grind
   simp[execOp,resolve,Act.eval,Deferred.ofValue,invoke,callFunc,lG,j8.1,rn]
  cases j8
 unfold MB at h;split at h
 ·rename_i g ids vC;rw[nB]at vC;obtain⟨p,hp,Ke⟩:=vC;have kb:p=.aF (.one (.hq g ids)):=by
   unfold tN at Ke;grind
  subst kb;have zt:0<(args.toList.map st.bt).length:=by
   grind
  have KH:(args.toList.map st.bt)[args.toList.length-1]?=some (.aF (.one (.hq g ids))):=by
   grind
  obtain⟨v,bF,bs,Kc,xi,gH⟩:=hD _ _ KH;have aW:0<args.size:=by grind
  refine MD (n:=args.toList.length) (vs:=args.map a.eval++(bs.map ptrTo).toArray) rfl a6 h a8 (by simp[xi]) (fun x p ag=>?_) (fun x eN afj Cj ag=>?_) (fun j8=>?_) iv
  ·rw[qY]at ag;rw[ji];split at ag
   ·grind
   rename_i qp;rw[bD (by grind)];rw[dI,ca]at ag;obtain⟨id,hB,rfl⟩:=ag;obtain⟨b,hs,hS⟩:=gH _ id hB;refine⟨ptrTo b,?_,b,hS,rfl⟩;grind
  ·have bR:x<args.size:=by grind
   have zB:x=args.toList.length-1:=by omega
   rw[qY,bq (by grind),zB,KH]at ag;simp only[aZ,aI.aF.injEq,bp.one.injEq,aG.hq.injEq]at ag;obtain⟨rfl,rfl⟩:=ag;rw[ji,bq (by grind),zB,bF,Kc]
   congr 2
   apply Array.ext
   ·simp[xi]
   simp_all
  have e:(args.map a.eval++(bs.map ptrTo).toArray).extract 0 args.toList.length=args.map a.eval:=by
   simp_all
  grind
 refine MD (n:=args.toList.length) (vs:=args.map a.eval) rfl a6 h a8 (by simp) hD (fun x g ids Cj ag=>?_) (fun j8=>?_) iv
 ·rename_i jH;exfalso;have:(args.toList.map st.bt).getLast?=some (.aF (.one (.hq g ids))):=by
   grind
  grind[tN]
 have e:(args.map a.eval).extract 0 args.toList.length=args.map a.eval:=by simp
 grind
theorem azW{y:Nat}{args:Array Operand}{ts:Array TypeId}{type:TypeId}{pos:String}{after:Array Edge}{guard:Option (Nat×Bool)}
  (a6:cM w0 st a w ω τ) (h:MC P st dst (.tmp y) args.toList ans=some (bG,cv,obs)) (a8:cO obs) {K:Act->World->Prop} {Q:Exit->Act->World->Prop} (iv:∀cQ aN,Rel w0 bG cQ aN->K cQ aN):
  Oper.wp P ⟨dst,.call ⟨.value (.tmp y),args,ts⟩,type,pos,after,guard⟩ a w K Q:=by
 have hD:∀(x:Nat) (p:aI),(args.toList.map st.bt)[x]?=some p->∃v,(args.map a.eval)[x]?=some v/\cW (Sat w ω τ) p v:=by
  intro x p hp;rw[dI,ca]at hp;obtain⟨o,h1,rfl⟩:=hp;refine⟨a.eval o,?_,a6.bt o⟩;grind
 unfold MC at h;split at h
 ·rename_i g ids Ke;have kb:st.bt (.tmp y)=.aF (.one (.hq g ids)):=by
   unfold tN at Ke;grind
  have ao:=a6.bt (.tmp y);rw[kb]at ao;obtain⟨bs,Kc,xi,gH⟩:=ao;split at h
  case isFalse=>cases h
  rename_i jH;refine MD (n:=args.toList.length+ids.length) (vs:=args.map a.eval++(bs.map ptrTo).toArray) rfl a6 h a8 (by simp[xi]) (fun x p ag=>?_) (fun x eN afj Cj ag=>?_) (fun j8=>?_) iv
  ·rw[qY]at ag;rw[ji];split at ag
   ·grind
   rename_i qp;rw[bD (by grind)];rw[dI,ca]at ag;obtain⟨id,hB,rfl⟩:=ag;obtain⟨b,hs,hS⟩:=gH _ id hB;refine⟨ptrTo b,?_,b,hS,rfl⟩;grind
  ·exfalso;rw[qY]at ag;split at ag
   ·rename_i bR;have:=gn.1 jH _ (gj ag);grind[tN]
   rw[dI,ca]at ag;obtain⟨id,_,e⟩:=ag;cases e
  have e:(args.map a.eval++(bs.map ptrTo).toArray).extract 0 (args.toList.length+ids.length)=args.map a.eval++(bs.map ptrTo).toArray:=by
   have e2:args.toList.length+ids.length=(args.map a.eval++(bs.map ptrTo).toArray).size:=by simp[xi]
   grind
  rw[e];unfold fX at j8;split at j8
  ·rename_i fn lG;simp only[cu,gp,yU,lZ]at j8;have rn:fn.body≠none:=by grind
   simp[execOp,resolve,Kc,Deferred.ofValue,invoke,callFunc,lG,j8.1,rn]
  cases j8
 cases h
