import Derived.Test.YtdchjefneblpgaaR11
set_option linter.unusedVariables false
set_option linter.unusedSimpArgs false
namespace Go.Sx
open Go.RowKit
inductive ba where
 | ro (a:b7)
 | gN (pn:List Bool) (pre post:List D)
 | fn (g:FuncId) (cg:List Nat)
abbrev ba.ref (pre post : List D) : ba := .gN [] pre post
abbrev ba.cur(pre post:List D):ba:=.gN [true,false,false] pre post
def stays(pn:List Bool)(j:Nat):Bool:=pn.getD j false
def gK(w:World)(y:Value)(j:Nat):Value:=
 match y with
 | .pointer (some p)=>match w.heap[p.block]? with | some (.cells arr _ _)=>arr.getD j undef | _=>undef
 | _=>undef
def nT(i j:Nat):Nat:=900000000+(100*i+j)
def fI(i j:Nat):Nat:=5000+(100*i+j)
def rz(w:World)(ω:Own)(i:Nat)(pn:List Bool)(f:Nat->Nat)(ds:List D)(y:Value):Prop:=
 ∃b arr ty,y=ptrTo b/\ω b=.box i/\(∀cH,ω cH=.box i->cH=b)/\w.heap[b]?=some (.cells arr ty (0,0))/\arr.size=ds.length/\∀(j:Nat) (d:D),ds[j]?=some d->∃u,arr[j]?=some u/\(stays pn j=false->bA w ω (Tag.own (f j)).R d u)
def OE(w:World)(ω:Own)(i:Nat):ba->Value->Prop
 | .ro (.one d),y=>bA w ω Tag.free.R d y
 | .ro (.agg ds),y=>∃vs:Array Value,y=.agg vs/\vs.size=ds.length/\∀(j:Nat) (d:D),ds[j]?=some d->∃u,vs[j]?=some u/\bA w ω Tag.free.R d u
 | .gN pn pre _,y=>rz w ω i pn (nT i) pre y/\∀(j:Nat) (d:D),pre[j]?=some d->stays pn j=true->bA w ω Tag.free.R d (gK w y j)
 | .fn _ _,_=>True
def ba.cD:ba->Nat
 | .fn _ cg=>cg.length
 | _=>0
def pX(args:List ba):Nat:=args.length-(args.map ba.cD).sum
def AK(args:List ba)(vs:Array Value):Prop:=∀(i:Nat) (g:FuncId) (cg:List Nat),args[i]?=some (.fn g cg)->vs[i]?=some (.func (.func g) #[] (cg.map fun k=>vs.getD k undef).toArray)
def zB(w:World)(ω:Own):Prop:=∀b,ω b≠.bc->∃arr ty,w.heap[b]?=some (.cells arr ty (0,0))
def AO(w:World)(ω:Own)(args:List ba)(vs:Array Value):Prop:=zB w ω/\(∀b i,ω b=.box i->∃pn pre post,args[i]?=some (.gN pn pre post))/\vs.size=args.length/\∀(i:Nat) (hv:ba),args[i]?=some hv->∃v,vs[i]?=some v/\OE w ω i hv v
def sT(src:List (Option Nat)):List Bool:=src.map Option.isSome
def xy(w:World)(ω:Own)(vs:Array Value):bd->Value->Prop
 | .vals rs,v=>j7 w ω rs v
 | .gW src ds,v=>rz w ω 49 (sT src) (fI 49) ds v/\∀(j i:Nat),src[j]?=some (some i)->vs[i]?=some (gK w v j)
def cv(P:Program)(f:FuncId)(args:List ba)(r:bd):Prop:=
 ∀(w:World) (vs:Array Value) (ω:Own),AO w ω args vs->AK args vs->Tidy w ω->Calls P f (vs.extract 0 (pX args)) w fun e aD=>∃v,e=.returned v/\e8 ⟨w,fun b=>ω b≠.bc,fun _=>(0,undef)⟩ aD/\
  ∃aP:Own,(∀b,b<w.heap.size->ω b=.bc->aP b=.bc)/\zB aD aP/\(∀(i:Nat) (pn:List Bool) (pre post:List D) (y:Value),args[i]?=some (.gN pn pre post)->vs[i]?=some y->rz aD aP i pn (fI i) post y/\∀j,stays pn j=true->gK aD y j=gK w y j)/\xy aD aP vs r v
abbrev aeE:=List (Nat×Nat)
def look(t:Nat):List (Nat×Nat)->Option Nat
 | []=>none
 | (s,n)::r=>if s=t then some n else look t r
def De(ts:List (Nat×Nat)):Bool:=ts.all fun x=>ts.all fun y=>(x.1==y.1)==(x.2==y.2)
variable{ts:List (Nat×Nat)}
theorem Jf{t n:Nat}(h:De ts=true)(hm:(t,n)∈ts):look t ts=some n:=by
 have key:∀l:List (Nat×Nat),(∀x∈l,x∈ts)->(t,n)∈l->look t l=some n:=by
  intro l;induction l with
  | nil=>grind
  | cons x l dw=>
   intro ad hm;obtain⟨s,m⟩:=x;simp only[look];split
   ·rename_i e;subst e;have J:=eP.1 (eP.1 h _ (ad _ fk)) _ (by exact ‹(s,n)∈ts›);grind
   grind
 grind
theorem RD{t n:Nat}(h:look t ts=some n):(t,n)∈ts:=by
 induction ts with
 | nil=>cases h
 | cons x l dw=>
  grind[look,e0,fk,eQ]
def fx(bs ts:List (Nat×Nat)):cx->cx
 | .bc=>.bc
 | .box id=>match look id bs with | some i=>.box i | none=>.bc
 | .tok t q=>match look t ts with | some n=>.tok n q | none=>.bc
def Tag.mb(ts:List (Nat×Nat)):Tag->Bool
 | .free=>false
 | .own t=>(look t ts).isSome
 | .ro t=>(look t ts).isSome
def pG:Option Nat->Nat->Bool
 | none=>fun _=>true
 | some d=>hL d
def wv(ts:List (Nat×Nat))(t0:Nat)(g:Tag):Option Tag:=if g.mb ts then none else e5 t0 g
abbrev sQ(ts:List (Nat×Nat))(t0:Nat)(cV:Option Nat)(l:aq):aq:=l.b3 (wv ts t0) (pG cV)
structure ha where
 i:Nat
 id:Nat
 post:List D
 eF:List (Option aq)
def iV(cg:List (Option aq)):List Bool:=cg.map Option.isSome
def iT:List (Option aq)->List aq->List aq
 | [],ls=>ls
 | _,[]=>[]
 | some l::cg,_::ls=>l::iT cg ls
 | none::cg,l::ls=>l::iT cg ls
theorem zC:∀(cg:List (Option aq)) (ls:List aq),(iT cg ls).length=ls.length
 | [],ls=>rfl
 | _::_,[]=>by simp[iT]
 | some l::cg,_::ls=>by simp[iT,zC cg ls]
 | none::cg,_::ls=>by simp[iT,zC cg ls]
theorem Df:∀(cg:List (Option aq)) (ls:List aq) (j:Nat) (l:aq),(iT cg ls)[j]?=some l->(cg[j]?=some (some l)/\stays (iV cg) j=true)\/(ls[j]?=some l/\stays (iV cg) j=false)
 | [],ls,j,l,h=>.inr ⟨h,by simp[stays,iV]⟩
 | _::_,[],j,l,h=>by grind[iT]
 | some k::cg,x::ls,0,l,h=>by simp only[iT,jB,aH]at h;subst h;exact .inl ⟨rfl,rfl⟩
 | none::cg,x::ls,0,l,h=>by simp only[iT,jB]at h;exact .inr ⟨h,rfl⟩
 | some k::cg,x::ls,j+1,l,h=>by
  have:=Df cg ls j l (by simpa[iT]using h);simpa[stays,iV]using this
 | none::cg,x::ls,j+1,l,h=>by
  have:=Df cg ls j l (by simpa[iT]using h);simpa[stays,iV]using this
def sA(t0:Nat):List ha->List (Nat×List aq)->List (Nat×List aq)
 | [],bs=>bs
 | r::rs,bs=>sA t0 rs (nF r.id (iT r.eF (kU (t0+fI r.i 0) 0 r.post)) bs)
def Jg(t0:Nat)(cV:Option Nat)(nk:List (Option aq))(ds:List D)(bs:List (Nat×List aq)):List (Nat×List aq):=
 match cV with
 | some d=>(d,iT nk (kU (t0+fI 49 0) 0 ds))::mg d bs
 | none=>bs
def aG.sR(st:aG)(ts:List (Nat×Nat))(t0:Nat)(refs:List ha)(cV:Option Nat)(nk:List (Option aq))(ds:List D):aG:=
 ⟨st.env.map (az.map (sQ ts t0 cV)),Jg t0 cV nk ds (sA t0 refs (st.boxes.map fun x=>(x.1,x.2.map (sQ ts t0 cV))))⟩
def mc(t0:Nat)(cV:Option Nat):cx->cx
 | .tok s q=>if t0<=s/\s<t0+10000 then .bc else .tok s q
 | .box id=>if pG cV id then .box id else .bc
 | .bc=>.bc
def l'(i:Nat)(cV:Option Nat):List ha->Option Nat
 | []=>if i=49 then cV else none
 | r::rs=>if r.i=i then some r.id else l' i cV rs
def kn(t0:Nat)(refs:List ha)(cV:Option Nat):cx->cx
 | .tok s q=>if s<10000 then .tok (t0+s) q else .bc
 | .box i=>match l' i cV refs with | some id=>.box id | none=>.bc
 | .bc=>.bc
def D.p2:D->Nat
 | .aa k _=>k
 | _=>0
def sB(i:Nat)(ds:List D):List ha->List D
 | []=>ds
 | r::rs=>if r.i=i then r.post else sB i ds rs
def iI(refs:List ha):List (Nat×Nat):=refs.map fun r=>(r.id,r.i)
def tP:List ha->Option Nat->Bool
 | [],_=>true
 | x::r,cV=>decide (x.i<49)&&decide (x.post.length<100)&&decide (cV≠some x.id)&&r.all (fun y=>x.i != y.i&&x.id != y.id)&&tP r cV
variable{id:Nat}
theorem Et{t0:Nat}:∀{refs:List ha} {bs:List (Nat×List aq)},(∀r∈refs,r.id≠id)->cM id (sA t0 refs bs)=cM id bs
 | [],bs,_=>rfl
 | r::rs,bs,h=>by
  simp_all[sA,Et,eQ,ub,Ne.symm,fk]
theorem SI{gu:Nat}{ls:List aq}:∀{bs:List (Nat×List aq)},(cM id bs).isSome=true->(cM id (nF gu ls bs)).isSome=true:=by
 intro bs h;by_cases e:id=gu
 ·subst e;obtain⟨x,ae⟩:=nY.1 h;rw[ua ae];rfl
 grind[ub]
theorem Jh{t0:Nat}:∀{refs:List ha} {bs:List (Nat×List aq)} {r:ha},r∈refs->(∀x∈refs,x.id=r.id->x=r)->(cM r.id bs).isSome=true->cM r.id (sA t0 refs bs)=some (iT r.eF (kU (t0+fI r.i 0) 0 r.post))
 | [],_,_,h,_,_=>by cases h
 | x::rs,bs,r,h,hu,ad=>by
  simp only[sA];by_cases hm:r∈rs
  ·exact Jh hm (fun y a7=>hu y (eQ _ a7)) (SI ad)
  rcases dj.1 h with e | h
  ·subst e;obtain⟨l,ak⟩:=nY.1 ad;grind[Et,ua,eQ]
  grind
variable{cV:Option Nat}
theorem pU:∀{refs:List ha},tP refs cV=true->∀{x:ha},x∈refs->x.i<49/\x.post.length<100/\cV≠some x.id/\∀y∈refs,(y.i=x.i->y=x)/\(y.id=x.id->y=x)
 | [],_,x,ae=>by cases ae
 | z::r,h,x,ae=>by
  simp only[tP,b0,cF,eP,bne_iff_ne,ki]at h;obtain⟨⟨⟨⟨J,U⟩,ax⟩,aJ⟩,a1⟩:=h;rcases dj.1 ae with e | vP
  ·subst e;refine⟨J,U,ax,fun y a7=>?_⟩;rcases dj.1 a7 with e | a7
   ·exact⟨fun _=>e,fun _=>e⟩
   exact⟨fun e=>absurd e.symm (aJ y a7).1,fun e=>absurd e.symm (aJ y a7).2⟩
  obtain⟨cf,bM,fy,oj⟩:=pU a1 vP;refine⟨cf,bM,fy,fun y a7=>?_⟩;rcases dj.1 a7 with e | a7
  ·subst e;exact⟨fun e=>absurd e (aJ x vP).1,fun e=>absurd e (aJ x vP).2⟩
  exact oj y a7
theorem Eu:∀{refs:List ha} {r:ha},r∈refs->(∀y∈refs,y.i=r.i->y.id=r.id)->l' r.i cV refs=some r.id
 | [],_,h,_=>by cases h
 | x::rs,r,h,hu=>by
  simp only[l'];split
  ·grind
  rename_i e;rcases dj.1 h with aK | h
  ·grind
  exact Eu h fun y a7=>hu y (eQ _ a7)
theorem tQ{i:Nat}:∀{refs:List ha},l' i cV refs=some id->(∃r∈refs,r.i=i/\r.id=id)\/(i=49/\cV=some id)
 | [],h=>by
  grind[l']
 | x::rs,h=>by
  simp only[l']at h;split at h
  ·rename_i e;exact .inl ⟨x,fk,e,e0 h⟩
  rcases tQ h with⟨r,ar,J⟩ | J
  ·exact .inl ⟨r,eQ _ ar,J⟩
  exact .inr J
theorem Ev:∀{refs:List ha},(∀r∈refs,r.i<49)->l' 49 cV refs=cV
 | [],_=>by simp[l']
 | x::rs,h=>by
  simp only[l'];rw[aZ (by grind)];exact Ev fun r ar=>h r (eQ _ ar)
theorem Ji{ds:List D}:∀{refs:List ha} {r:ha},r∈refs->(∀y∈refs,y.i=r.i->y=r)->sB r.i ds refs=r.post
 | [],_,h,_=>by cases h
 | x::rs,r,h,hu=>by
  simp only[sB];split
  ·grind
  rename_i e;rcases dj.1 h with aK | h
  ·grind
  exact Ji h fun y a7=>hu y (eQ _ a7)
theorem Ew{ds:List D}:∀{refs:List ha},(∀r∈refs,r.i<49)->sB 49 ds refs=ds
 | [],_=>rfl
 | x::rs,h=>by
  simp only[sB];rw[aZ (by grind)];exact Ew fun r ar=>h r (eQ _ ar)
variable{refs:List ha}
theorem Jj(h:tP refs cV=true){r:ha}(ar:r∈refs):look r.id (iI refs)=some r.i:=by
 refine Jf ?_ (eC.2 ⟨r,ar,rfl⟩);unfold De;rw[eP];intro x ae;rw[eP];intro y a7;obtain⟨rx,QD,rfl⟩:=eC.1 ae;obtain⟨adP,QE,rfl⟩:=eC.1 a7;have:=(pU h QD).2.2.2 adP QE;grind
theorem zD{i:Nat}(h:look id (iI refs)=some i):∃r∈refs,r.id=id/\r.i=i:=by
 obtain⟨r,ar,e⟩:=eC.1 (RD h);grind
def Ex(rs:List b7):Bool:=decide (rs.length<50)&&rs.all fun | .one _=>true | .agg ds=>ds.length<100
def bd.fits(cV:Option Nat)(lo:List D):bd->Prop
 | .vals rs=>cV=none/\Ex rs=true
 | .gW _ ds=>cV.isSome=true/\lo=ds/\ds.length<100
def bd.de(v:Value)(n:Nat):bd->Nat×Value
 | .vals rs=>(mY rs n,kC rs v n)
 | .gW _ _=>(0,undef)
def bd.lr(t0:Nat)(cV:Option Nat):bd->az
 | .vals rs=>pY t0 rs
 | .gW _ _=>.one (.ptr (cV.getD 0) 0)
theorem b1.OT{w0:dC}{st:aG}{a:Act}{w aD:World}{ω:Own}{τ:Nat->Nat×Value}(aI:b1 w0 st a w ω τ)(t0:Nat){nk:List (Option aq)}{lo:List D}{fP:bd}{v:Value}{vs:Array Value}{ys:Nat->Value}{H:Nat->Nat×Value}
  (cb:tP refs cV=true) (gU:t0+10000<=cy) (ah:e8 ⟨w,fun b=>fx (iI refs) ts (ω b)≠.bc,H⟩ aD) (dZ:Own)
  (iA:∀b,b<w.heap.size->fx (iI refs) ts (ω b)=.bc->dZ b=.bc) (hZ:zB aD dZ)
  (hrefs:∀r∈refs,rz aD dZ r.i (iV r.eF) (fI r.i) r.post (ys r.i)/\(∃b,ys r.i=ptrTo b/\ω b=.box r.id)/\(cM r.id st.boxes).isSome=true) (dS:xy aD dZ vs fP v) (yd:fP.fits cV lo) (qs:∀d,cV=some d->d<cy)
  (BO:∀r∈refs,∀(j:Nat) (l:aq),r.eF[j]?=some (some l)->sQ ts t0 cV l=l/\Sat w ω τ l (gK aD (ys r.i) j)) (vC:∀(j:Nat) (l:aq),nk[j]?=some (some l)->sQ ts t0 cV l=l/\Sat w ω τ l (gK aD v j))
  (HO:∀src ds,fP=.gW src ds->sT src=iV nk):
  ∃aP ch,b1 w0 (st.sR ts t0 refs cV nk lo) a aD aP ch/\cd (Sat aD aP ch) (fP.lr t0 cV) v:=by
 classical
 let aP:Own:=fun b=>if b<w.heap.size/\fx (iI refs) ts (ω b)=.bc then mc t0 cV (ω b) else kn t0 refs cV (dZ b)
 let ay:Nat->Nat×Value:=fun n=>if n<5000 then fP.de v n else
  ((((sB ((n-5000) / 100) lo refs)[(n-5000) % 100]?).map D.p2).getD 0,gK aD (if (n-5000) / 100=49 then v else ys ((n-5000) / 100)) ((n-5000) % 100))
 let ch:Nat->Nat×Value:=fun s=>if t0<=s/\s<t0+10000 then ay (s-t0) else τ s
 have vv:∀r∈refs,r.i<49:=fun r ar=>(pU cb ar).1
 have hold:∀b,b<w.heap.size->fx (iI refs) ts (ω b)=.bc->aP b=mc t0 cV (ω b):=fun b J U=>by grind
 have fc:∀b,dZ b≠.bc->aP b=kn t0 refs cV (dZ b):=fun b h=>by
  grind
 have kA:∀b,b<w.heap.size->fx (iI refs) ts (ω b)=.bc->aD.heap[b]?=w.heap[b]?:=fun b J U=>ah.block b J (fun aR=>aR U)
 have yg:∀r∈refs,∀b,ω b=.box r.id->dZ b=.box r.i/\ys r.i=ptrTo b:=by
  intro r ar b cA;obtain⟨⟨fU,arr,ty,J,U,_⟩,⟨fa,ax,aJ⟩,a1⟩:=hrefs r ar;obtain⟨ls,rT⟩:=nY.1 a1;obtain⟨o5,_,_,_,hu,_⟩:=aI.boxes r.id ls rT;have aK:=hu b cA;have aO:=hu fa aJ;have b2:fa=b:=by rw[aK,aO]
  subst b2;rw[ax]at J;simp only[ptrTo,Value.pointer.injEq,aH,Addr.mk.injEq]at J;grind
 have tG:∀id b,pG cV id=true->ω b=.box id->aP b=.box id:=by
  intro id b hp cA;have bk:=aI.owned.lt (b:=b) (by simp[cA]);cases e:look id (iI refs) with
  | none=>
   simp_all[fx,iI,mc,fZ]
  | some i=>
   obtain⟨r,ar,rfl,rfl⟩:=zD e;grind[kn,Eu,pU]
 have aW:jD w ω τ aD aP ch (wv ts t0) (pG cV):=by
  refine⟨?_,?_,fun id b hp h=>tG id b hp h,?_,fun s ad=>by simp only[ch];rw[aZ (by omega)]⟩
  ·intro g dg b q ag bk aw;unfold wv at ag;split at ag
   ·cases ag
   rename_i hm;simp only[uQ]at hm;have hi:fx (iI refs) ts (ω b)=.bc:=by
    cases g with
    | free=>simp only[Tag.R]at aw;rw[aw];rfl
    | own s=>
     grind[Tag.R,Tag.mb,AB,AE,fx]
    | ro s=>
     simp only[Tag.mb,AB,AE]at hm;rcases aw with h | ⟨c5,h⟩
     ·rw[h];rfl
     grind[fx]
   refine⟨?_,kA b bk hi⟩;rw[hold b bk hi];cases g with
   | free=>simp only[e5,aH]at ag;subst ag;simp only[Tag.R]at aw ⊢;rw[aw];rfl
   | own s=>
    simp only[Tag.R]at aw;simp only[e5]at ag;rw[aw];simp only[mc];split at ag
    ·simp only[aH]at ag;subst ag;rw[bb ‹_›];rfl
    simp only[aH]at ag;subst ag;rw[aZ ‹_›];rfl
   | ro s=>
    simp only[Tag.R]at aw;simp only[e5]at ag;split at ag
    ·simp only[aH]at ag;subst ag;rcases aw with h | ⟨c5,h⟩
     ·rw[h];rfl
     rw[h];simp only[mc];rw[bb ‹_›];rfl
    simp only[aH]at ag;subst ag;rcases aw with h | ⟨c5,h⟩
    ·rw[h];exact .inl rfl
    rw[h];simp only[mc];rw[aZ ‹_›];exact .inr ⟨c5,rfl⟩
  ·intro g dg y ag a7;unfold wv at ag;split at ag
   ·cases ag
   cases g with
   | free=>simp only[e5,aH]at ag;subst ag;exact trivial
   | own s=>
    simp only[e5]at ag;split at ag
    ·simp only[aH]at ag;subst ag;exact trivial
    simp only[aH]at ag;subst ag;simp only[Tag.de,ch]at a7 ⊢;simp_all[aZ]
   | ro s=>
    simp only[e5]at ag;split at ag
    ·simp only[aH]at ag;subst ag;exact trivial
    simp only[aH]at ag;subst ag;exact trivial
  rfl
 have cell:∀(n:Nat) (d:D) (u:Value),n<10000->ay n=(d.p2,u)->bA aD dZ (Tag.own n).R d u->Sat aD aP ch (d.mu (t0+n)) u:=by
  intro n d u aR a8 ar;cases d with
  | v x=>
   have e:u=x:=by cases ar;rfl
   subst e;unfold D.mu;split
   ·rename_i h;cases h;exact rfl
   ·rename_i h;cases h;exact rfl
   ·grind
   ·exact trivial
   grind
  | ptr ds=>exact trivial
  | da g cD=>exact trivial
  | aa k es=>
   refine⟨ar.frame fun b q bk aw=>⟨?_,rfl⟩,?_⟩
   ·simp_all[Tag.R,kn,bb]
   simp only[Tag.de,ch];rw[bb (by omega),show t0+n-t0=n by omega,a8];rfl
 have var:∀(i:Nat) (post:List D) (y:Value) (id:Nat) (cg:List (Option aq)),i<50->post.length<100->sB i lo refs=post->(if i=49 then v else ys i)=y->rz aD dZ i (iV cg) (fI i) post y->l' i cV refs=some id->(∀(j:Nat) (l:aq),cg[j]?=some (some l)->sQ ts t0 cV l=l/\Sat w ω τ l (gK aD y j))->
   (∀cH eE,l' eE cV refs=some id->dZ cH=.box eE->eE=i)->(∀cH,ω cH=.box id->pG cV id=true->¬fx (iI refs) ts (ω cH)=.bc)->qb aD aP ch id (iT cg (kU (t0+fI i 0) 0 post))/\∃b,y=ptrTo b/\aP b=.box id:=by
  rintro i post y id cg hi afA Qx a7 ⟨b,arr,ty,rfl,U,ax,aJ,a1,bt⟩ fp Qd afq ih;have dv:aP b=.box id:=by
   grind[kn]
  refine⟨⟨b,arr,ty,dv,fun cH cA=>?_,aJ,by grind[zC,tN],fun j l ak=>?_⟩,b,rfl,dv⟩
  ·by_cases ai:cH<w.heap.size/\fx (iI refs) ts (ω cH)=.bc
   ·rw[hold cH ai.1 ai.2]at cA;cases e:ω cH with
    | bc=>rw[e]at cA;cases cA
    | tok s q=>grind[mc]
    | box gu=>
     grind[mc,cx.box.injEq,absurd]
   have kB:kn t0 refs cV (dZ cH)=.box id:=by
    grind
   cases e:dZ cH with
   | bc=>rw[e]at kB;cases kB
   | tok s q=>grind[kn]
   | box eE=>
    grind[kn,cx.box.injEq]
  have h0:j<(iT cg (kU (t0+fI i 0) 0 post)).length:=(eJ.1 ak).1;rw[zC,tN]at h0;rcases Df cg _ j l ak with⟨ak,_⟩ | ⟨ak,BW⟩
  ·obtain⟨u,hu,_⟩:=bt j _ (iM h0);obtain⟨g1,g2⟩:=Qd j l ak;refine⟨u,hu,?_⟩;have e:gK aD (ptrTo b) j=u:=by simp[gK,ptrTo,aJ,dF,hu]
   rw[e]at g2;have:=aW.sat l u g2;grind
  rw[wV,bF]at ak;obtain⟨d,dp,rfl⟩:=ak;obtain⟨u,hu,ar⟩:=bt j d dp;replace ar:=ar BW;have aU:j<100:=by
   grind
  refine⟨u,hu,?_⟩;have:=cell (fI i j) d u (by grind[fI]) (by
   have aK:(fI i j-5000) / 100=i:=by grind[fI]
   have aO:(fI i j-5000) % 100=j:=by grind[fI]
   simp only[ay];rw[aZ (by grind[fI]),aK,aO,Qx,dp,a7];simp[gK,ptrTo,aJ,dF,hu]) ar
  rw[show t0+fI i 0+(0+j)=t0+fI i j by grind[fI]];exact this
 have afB:∀r∈refs,qb aD aP ch r.id (iT r.eF (kU (t0+fI r.i 0) 0 r.post)):=by
  intro r ar;obtain⟨J,U,ax,aJ⟩:=pU cb ar;refine (var r.i r.post (ys r.i) r.id r.eF (by omega) U (Ji ar fun y a7 e=>(aJ y a7).1 e) (by grind) (hrefs r ar).1 (Eu ar fun y a7 e=>by grind) (BO r ar) (fun cH eE e _=>?_) (fun cH e _=>?_)).1
  ·grind[tQ,absurd]
  grind[fx,Jj]
 have pi:∀id ls,cM id (st.sR ts t0 refs cV nk lo).boxes=some ls->qb aD aP ch id ls:=by
  intro id ls ak;have rest:∀id ls,cV≠some id->cM id (sA t0 refs (st.boxes.map fun x=>(x.1,x.2.map (sQ ts t0 cV))))=some ls->qb aD aP ch id ls:=by
   intro id ls vt ak;by_cases ar:∃r∈refs,r.id=id
   ·obtain⟨r,ar,rfl⟩:=ar;rw[Jh ar (fun y a7 e=>((pU cb ar).2.2.2 y a7).2 e) (by
     rw[pR];grind)]at ak
    grind
   have dA:∀r∈refs,r.id≠id:=fun r J U=>ar ⟨r,J,U⟩
   rw[Et dA,pR,bF]at ak;obtain⟨hn,bX,rfl⟩:=ak;obtain⟨b,arr,ty,J,U,ax,aJ⟩:=aI.boxes id hn bX;have hp:pG cV id=true:=by
    unfold pG;split
    ·rfl
    simp only[hL,cF];grind
   have bk:=aI.owned.lt (b:=b) (by simp[J]);have HI:look id (iI refs)=none:=by
    cases e:look id (iI refs) with
    | none=>rfl
    | some i=>
     grind[zD,absurd]
   have hi:fx (iI refs) ts (ω b)=.bc:=by grind[fx]
   refine⟨b,arr,ty,tG id b hp J,fun cH cA=>?_,(kA b bk hi).trans ax,aJ.map aW.sat⟩;by_cases ai:cH<w.heap.size/\fx (iI refs) ts (ω cH)=.bc
   ·rw[hold cH ai.1 ai.2]at cA;cases e:ω cH with
    | bc=>rw[e]at cA;cases cA
    | tok s q=>grind[mc]
    | box gu=>
     grind[mc,cx.box.injEq]
   have kB:kn t0 refs cV (dZ cH)=.box id:=by
    grind
   cases e:dZ cH with
   | bc=>rw[e]at kB;cases kB
   | tok s q=>grind[kn]
   | box eE=>
    grind[kn,cx.box.injEq,tQ,absurd]
  simp only[aG.sR,Jg]at ak;cases cV with
  | none=>grind
  | some d=>
   simp only[cM]at ak;by_cases ay:d=id
   ·subst ay;rw[bb rfl]at ak;rw[<-e0 ak];cases fP with
    | vals rs=>exact absurd yd.1 (by simp)
    | gW src ds=>
     obtain⟨_,rfl,hlen⟩:=yd;obtain⟨dS,_⟩:=dS;rw[HO _ _ rfl]at dS;refine (var 49 lo v d nk (by omega) hlen (Ew vv) (bb rfl) dS (Ev vv) vC (fun cH eE e _=>?_) (fun cH _ e=>?_)).1
     ·grind[tQ,absurd,pU]
     simp[pG,hL]at e
   rw[aZ ay,tW (fun e=>ay e.symm)]at ak;grind
 refine⟨aP,ch,⟨aI.defers,by simp[aG.sR,aI.size],?_,?_,fun s ad=>?_,fun id b hi cA=>?_,?_,pi⟩,?_⟩
 ·refine⟨ah.os.trans aI.below.os,ah.tape.trans aI.below.tape,ah.output.trans aI.below.output,k2 aI.below.size ah.size,fun b bk ag=>?_,fun ad=>k2 (aI.below.drawn ad) (ah.drawn ad),ah.laid,aI.below.free⟩;have iC:b<w.heap.size:=uR bk aI.below.size;have mZ:ω b=.bc:=by
   cases e:ω b with
   | bc=>rfl
   | box id=>exact absurd (aI.owned b (by simp[e])).1 (fun h=>h.elim (fun h=>by omega) ag)
   | tok s q=>exact absurd (aI.owned b (by simp[e])).1 (fun h=>h.elim (fun h=>by omega) ag)
  exact (kA b iC (by rw[mZ];rfl)).trans (aI.below.block b bk ag)
 ·intro b eM;by_cases ai:b<w.heap.size/\fx (iI refs) ts (ω b)=.bc
  ·rw[hold b ai.1 ai.2]at eM;have U:ω b≠.bc:=fun e=>by rw[e]at eM;exact eM rfl
   obtain⟨ax,arr,ty,aJ⟩:=aI.owned b U;grind
  have U:dZ b≠.bc:=fun e=>by
   simp only[aP]at eM;rw[aZ ai,e]at eM;exact eM rfl
  obtain⟨arr,ty,aJ⟩:=hZ b U;refine⟨?_,arr,ty,aJ⟩;by_cases bk:b<w.heap.size
  ·have a1:ω b≠.bc:=fun e=>ai ⟨bk,by rw[e];rfl⟩
   exact (aI.owned b a1).1
  exact .inl (by have:=aI.below.size;omega)
 ·have:ch s=τ s:=by simp only[ch];rw[aZ (by omega)]
  rw[this];exact aI.fixed s ad
 ·by_cases ai:b<w.heap.size/\fx (iI refs) ts (ω b)=.bc
  ·rw[hold b ai.1 ai.2]at cA;cases e:ω b with
   | bc=>rw[e]at cA;cases cA
   | tok s q=>grind[mc]
   | box gu=>
    rw[e]at cA;simp only[mc]at cA;split at cA
    ·simp only[cx.box.injEq]at cA;subst cA;exact aI.pinned gu b hi e
    cases cA
  have kB:kn t0 refs cV (dZ b)=.box id:=by
   grind
  cases e:dZ b with
  | bc=>rw[e]at kB;cases kB
  | tok s q=>grind[kn]
  | box eE=>
   rw[e]at kB;simp only[kn]at kB;split at kB
   ·rename_i gu aO;simp only[cx.box.injEq]at kB;subst kB;rcases tQ aO with⟨r,a1,rfl,rfl⟩ | ⟨_,bt⟩
    ·obtain⟨⟨fU,arr,ty,g1,g2,g3,_⟩,⟨fa,g4,g5⟩,_⟩:=hrefs r a1;have b2:=g3 b e;rw[g4]at g1;simp only[ptrTo,Value.pointer.injEq,aH,Addr.mk.injEq]at g1;rw[b2,<-g1.1];exact aI.pinned r.id fa hi g5
    grind
   cases kB
 ·intro i q aw;simp only[aG.sR]at aw;rw[dG,bF]at aw;obtain⟨mf,bX,rfl⟩:=aw;obtain⟨u,J,U⟩:=aI.env i mf bX;exact⟨u,J,cd.map aW.sat U⟩
 cases fP with
 | gW src ds=>
  obtain⟨vt,rfl,hlen⟩:=yd;obtain⟨d,rfl⟩:=nY.1 vt;obtain⟨dS,_⟩:=dS;rw[HO _ _ rfl]at dS;obtain⟨b,J,U⟩:=(var 49 lo v d nk (by omega) hlen (Ew vv) (bb rfl) dS (Ev vv) vC (fun cH eE e _=>by
   grind[tQ,absurd,pU]) (fun cH _ e=>by simp[pG,hL]at e)).2
  exact⟨b,U,J⟩
 | vals rs=>
  obtain⟨rfl,dc⟩:=yd;simp only[Ex,b0,cF]at dc;have dM:∀(r:Nat) (bT:b7),rs[r]?=some bT->∀ds,bT=.agg ds->ds.length<100:=by
   intro r bT ar ds e;have:=eP.1 dc.2 bT (eD ar);grind
  have qg:∀(r:Nat) (bT:b7) (y:Value),r<50->(∀ds,bT=.agg ds->ds.length<100)->rs[r]?=some bT->(∀j,j<100->kC rs v (100*r+j)=y.cells.getD j undef)->jP aD dZ r bT y->h' (Sat aD aP ch) (bT.res (t0+100*r)) y:=by
   intro r bT y ar dM vG a8 lg;have fq:∀j,j<100->mY rs (100*r+j)=(match b7.cell j bT with | some (.aa k _)=>k | _=>0):=by
    intro j aU;unfold mY;rw[show (100*r+j) / 100=r by omega,show (100*r+j) % 100=j by omega,vG];rfl
   have HZ:∀d:D,(match some d with | some (.aa k _)=>k | _=>0)=d.p2:=fun d=>by cases d<;>rfl
   cases bT with
   | one d=>
    have J:=lg.me;have U:=a8 0 (by omega);rw[wR J]at U;have:=cell (100*r) d y (by omega) (by
     simp only[ay,bd.de];rw[bb (by omega)];have ax:=fq 0 (by omega);rw[lM]at U ax;rw[ax,U];simp only[b7.cell,fZ];rw[HZ];rfl) lg
    exact this
   | agg ds=>
    obtain⟨vs,rfl,aR,aU⟩:=lg;refine⟨vs,rfl,by grind[tN],fun j l ak=>?_⟩;rw[wV,bF]at ak;obtain⟨d,dp,rfl⟩:=ak;obtain⟨u,hu,vH⟩:=aU j d dp;have h0:j<100:=by
     grind
    refine⟨u,hu,?_⟩;have:=cell (100*r+j) d u (by omega) (by
     simp only[ay,bd.de];rw[bb (by omega),fq j h0,a8 j h0];simp only[b7.cell,dp];rw[HZ];simp[Value.cells,dF,hu]) vH
    grind
  show cd (Sat aD aP ch) (pY t0 rs) v;cases rs with
  | nil=>
   obtain⟨vs,rfl,aR,_⟩:=dS;exact⟨vs,rfl,aR,fun i a aC=>by grind[nG]⟩
  | cons bT rest=>
   cases rest with
   | nil=>
    have:=qg 0 bT v (by omega) (dM 0 bT rfl) rfl (fun j aU=>by
     unfold kC;grind) dS
    exact this
   | cons G0 rest=>
    obtain⟨vs,rfl,aR,a8⟩:=dS;refine⟨vs,rfl,by grind[zq],fun i a aC=>?_⟩;rw[zp,bF]at aC;obtain⟨k6,J,rfl⟩:=aC;obtain⟨y,a7,vr⟩:=a8 i k6 J;have jK:i<50:=by
     grind
    refine⟨y,a7,?_⟩;have:=qg i k6 y jK (dM i k6 J) J (fun j aU=>by
     unfold kC;simp only;rw[show (100*i+j) / 100=i by omega,show (100*i+j) % 100=j by omega];simp[dF,a7]) vr
    grind
end Go.Sx
namespace Go.Sx
open Go.RowKit
def aq.mb(ts:List (Nat×Nat)):aq->Bool
 | .aa g _ _=>g.mb ts
 | .bE t _ _ _ _ _=>(look t ts).isSome
 | _=>false
variable{w:World}{ω:Own}{τ:Nat->Nat×Value}{l:aq}
theorem Jk{bs ts:List (Nat×Nat)}{d:D}{y:Value}(h:l.e2=some d)(hm:l.mb ts=false)(ad:Sat w ω τ l y):
  bA w (fun b=>fx bs ts (ω b)) Tag.free.R d y:=by
 have tag:∀(g:Tag) (b:Nat) (q:List (Nat×Nat)),g.mb ts=false->g.R q (ω b)->fx bs ts (ω b)=.bc:=by
  intro g b q ag aw;cases g with
  | free=>simp only[Tag.R]at aw;rw[aw];rfl
  | own s=>
   grind[Tag.R,Tag.mb,AB,AE,fx]
  | ro s=>
   simp only[Tag.mb,AB,AE]at ag;rcases aw with h | ⟨c5,h⟩
   ·rw[h];rfl
   grind[fx]
 cases l with
 | b5=>cases h
 | v x=>
  simp only[aq.e2]at h;split at h
  ·simp only[aH]at h;subst h;have:y=x:=ad;subst this;exact .v _ _ ‹_›
  cases h
 | bP c=>
  simp only[aq.e2,aH]at h;subst h;have:y=.bool c:=ad;subst this;exact .v _ _ rfl
 | aa t k es=>simp only[aq.e2,aH]at h;subst h;exact ad.1.frame fun b q _ aw=>⟨tag t b q hm aw,rfl⟩
 | ptr=>cases h
 | ep=>cases h
 | eL=>cases h
 | ef=>cases h
 | gZ ds off=>
  simp only[aq.e2]at h;split at h
  ·rename_i aM;subst aM;simp only[aH]at h;subst h;obtain⟨b,rfl,ar⟩:=ad;exact ar.frame fun b q _ aw=>⟨tag .free b q rfl aw,rfl⟩
  cases h
 | fd cN=>simp only[aq.e2,aH]at h;subst h;exact bA.frame ad fun b q _ aw=>⟨tag .free b q rfl aw,rfl⟩
 | dL t k es=>simp only[aq.e2,aH]at h;subst h;exact bA.frame ad.1 fun b q _ aw=>⟨tag .free b q rfl aw,rfl⟩
 | bE t i j k es m=>
  obtain⟨u,hu,ar,_⟩:=ad;have fin:y=u->bA w (fun b=>fx bs ts (ω b)) Tag.free.R (.aa k es) y:=by
   intro e;rw[e];exact ar.frame fun b q _ aw=>⟨tag (.own t) b _ hm aw,rfl⟩
  cases m with
  | at_ x z=>cases h
  | here=>simp only[aq.e2,aH]at h;subst h;exact fin hu
  | jF=>simp only[aq.e2,aH]at h;subst h;exact fin hu
def az.xE:az->Option (b7×List aq)
 | .aN (.one l)=>l.e2.map fun d=>(.one d,[l])
 | .aN (.agg ls)=>(ls.mapM aq.e2).map fun ds=>(.agg ds,ls)
 | _=>none
def sC(i:Nat):Nat->List aq->List (Nat×Nat)
 | _,[]=>[]
 | j,l::ls=>match l.tok with | some t=>(t,nT i j)::sC i (j+1) ls | none=>sC i (j+1) ls
theorem Jl{i:Nat}:∀{ls:List aq} {j0 j:Nat} {l:aq} {t:Nat},ls[j]?=some l->l.tok=some t->(t,nT i (j0+j))∈sC i j0 ls
 | [],_,_,_,_,h,_=>by simp at h
 | fO::ls,j0,0,l,t,h,bH=>by
  grind[sC,fk]
 | fO::ls,j0,j+1,l,t,h,bH=>by
  have:=Jl (i:=i) (ls:=ls) (j0:=j0+1) (j:=j) (by simpa using h) bH;grind[sC,eQ]
def nD:aq->Option aq
 | .dL t k es=>some (.dL t k es)
 | .aa .free k es=>some (.aa .free k es)
 | _=>none
def pV(ls:List aq):List (Option aq):=if (ls.map nD).all Option.isNone then [] else ls.map nD
def aq.z6(l:aq):Option D:=match nD l with | some l=>l.e2 | none=>l.gP
theorem ww{ff:aq}(h:nD l=some ff):ff=l/\(∀ts t0 cV,sQ ts t0 cV l=l)/\∃k es,l.e2=some (.aa k es)/\∀{w ω τ y},Sat w ω τ l y->bA w ω Tag.free.R (.aa k es) y:=by
 unfold nD at h;split at h
 ·rename_i t k es;cases h;exact⟨rfl,fun _ _ _=>rfl,k,es,rfl,fun ad=>ad.1⟩
 ·rename_i k es;cases h;exact⟨rfl,fun _ _ _=>by simp[aq.b3,wv,Tag.mb,e5],k,es,rfl,fun ad=>ad.1⟩
 cases h
theorem SJ{ls:List aq}{j:Nat}(h:(pV ls)[j]?=some (some l)):ls[j]?=some l/\nD l=some l:=by
 grind[pV,bF,ww]
theorem Ey{ls:List aq}{j:Nat}(ak:ls[j]?=some l):stays (iV (pV ls)) j=(nD l).isSome:=by
 unfold pV;split
 ·rename_i h;have:=eP.1 h (nD l) (eC.2 ⟨l,eD ak,rfl⟩);simp only[stays,iV,List.map_nil,List.getD_nil];simp_all
 simp_all[stays,iV,List.map_map]
def r4(b':List az):List (Option Nat)->Option (List (Option aq))
 | []=>some []
 | none::r=>(r4 b' r).map fun x=>none::x
 | some a::r=>
  match b'[a]? with
  | some (.aN (.one l))=>
   match nD l,r4 b' r with
   | some ff,some kc=>some (some ff::kc)
   | _,_=>none
  | _=>none
theorem zE{b':List az}:∀{src:List (Option Nat)} {nk:List (Option aq)},r4 b' src=some nk->sT src=iV nk/\∀(j:Nat) (l:aq),nk[j]?=some (some l)->∃a,src[j]?=some (some a)/\b'[a]?=some (.aN (.one l))/\nD l=some l
 | [],nk,h=>by
  simp only[r4,aH]at h;subst h;exact⟨rfl,fun j l h=>by simp at h⟩
 | none::r,nk,h=>by
  simp only[r4,bF]at h;obtain⟨x,J,rfl⟩:=h;obtain⟨g1,g2⟩:=zE J;grind[sT,iV]
 | some a::r,nk,h=>by
  simp only[r4]at h;split at h
  ·rename_i l e;split at h
   ·rename_i ff kc aK aO;simp only[aH]at h;subst h;obtain⟨g1,g2⟩:=zE aO;have:=(ww aK).1;subst this;refine⟨by grind[sT,iV],fun j l aU=>?_⟩;grind
   cases h
  cases h
def Nf:az->Option Nat
 | .aN (.one (.ptr id 0))=>some id
 | _=>none
structure xv where
 lG:List ba
 refs:List ha
 ts:List (Nat×Nat)
 mv:List aq
def o9:az->Option (FuncId×List Nat)
 | .aN (.one (.eL g ids))=>some (g,ids)
 | _=>none
def IG(id:Nat):az:=.aN (.one (.ptr id 0))
def mL(bs:jC):Nat->List (Option (List D))->List az->Option xv
 | _,[],[]=>some ⟨[],[],[],[]⟩
 | i,none::ms,p::b'=>
  match o9 p with
  | some (g,ids)=>(mL bs (i+1) ms b').map fun r=>⟨.fn g (List.range' (i+1) ids.length)::r.lG,r.refs,r.ts,r.mv⟩
  | none=>
   match p.xE,mL bs (i+1) ms b' with
   | some (bT,ls),some r=>some ⟨.ro bT::r.lG,r.refs,r.ts,ls++r.mv⟩
   | _,_=>none
 | i,some post::ms,p::b'=>
  match Nf p,mL bs (i+1) ms b' with
  | some id,some r=>
   match cM id bs with
   | some ls=>
    match ls.mapM aq.z6 with
    | some pre=>some ⟨.gN (iV (pV ls)) pre post::r.lG,⟨i,id,post,pV ls⟩::r.refs,sC i 0 ls++r.ts,r.mv⟩
    | none=>none
   | none=>none
  | _,_=>none
 | _,_,_=>none
def xw(bs:jC)(a:xv)(i:Nat)(hv:ba)(p:az):Prop:=
 (∃g ids,hv=.fn g (List.range' (i+1) ids.length)/\p=.aN (.one (.eL g ids)))\/
 (∃bT ls,hv=.ro bT/\p.xE=some (bT,ls)/\∀l∈ls,l∈a.mv)\/
 (∃id ls pre post,hv=.gN (iV (pV ls)) pre post/\p=.aN (.one (.ptr id 0))/\cM id bs=some ls/\ls.mapM aq.z6=some pre/\(⟨i,id,post,pV ls⟩:ha)∈a.refs/\∀x∈sC i 0 ls,x∈a.ts)
theorem xw.mono{bs:jC}{a b:xv}{i:Nat}{hv:ba}{p:az}(h:xw bs a i hv p)(J:∀l∈a.mv,l∈b.mv)(U:∀x∈a.refs,x∈b.refs)(ax:∀x∈a.ts,x∈b.ts):xw bs b i hv p:=by
 rcases h with h | ⟨bT,ls,aK,aO,b2⟩ | ⟨id,ls,pre,post,aK,aO,b2,eY,ks,qj⟩
 ·exact .inl h
 ·exact .inr (.inl ⟨bT,ls,aK,aO,fun l ak=>J l (b2 l ak)⟩)
 exact .inr (.inr ⟨id,ls,pre,post,aK,aO,b2,eY,U _ ks,fun x ae=>ax x (qj x ae)⟩)
theorem zF{bs:jC}:∀{ms:List (Option (List D))} {b':List az} {i:Nat} {a:xv},mL bs i ms b'=some a->a.lG.length=b'.length/\
  (∀(x:Nat) (hv:ba),a.lG[x]?=some hv->∃p,b'[x]?=some p/\xw bs a (i+x) hv p)/\
  (∀r∈a.refs,∃(x:Nat) (pre:List D),r.i=i+x/\a.lG[x]?=some (.gN (iV r.eF) pre r.post)/\b'[x]?=some (.aN (.one (.ptr r.id 0)))/\∃ls,cM r.id bs=some ls/\r.eF=pV ls)
 | [],[],i,a,h=>by
  simp only[mL,aH]at h;grind
 | none::ms,p::b',i,a,h=>by
  simp only[mL]at h;split at h
  ·rename_i g ids b8;rw[bF]at h;obtain⟨r,aO,rfl⟩:=h;obtain⟨et,cf,bM⟩:=zF aO;have hp:p=.aN (.one (.eL g ids)):=by
    unfold o9 at b8;grind
   refine⟨by simp[et],fun x hv ae=>?_,fun y a7=>?_⟩
   ·cases x with
    | zero=>
     simp only[jB,aH]at ae;subst ae;exact⟨p,rfl,.inl ⟨g,ids,rfl,hp⟩⟩
    | succ x=>
     obtain⟨nC,J,U⟩:=cf x hv (by grind);refine⟨nC,by grind,?_⟩;rw[show i+1+x=i+(x+1) by omega]at U;exact U.mono (fun _ h=>h) (fun _ h=>h) (fun _ h=>h)
   obtain⟨x,pre,J,U,ax,aJ⟩:=bM y a7;exact⟨x+1,pre,by omega,by grind,by grind,aJ⟩
  split at h
  ·rename_i bT ls r aK aO;simp only[aH]at h;subst h;obtain⟨et,cf,bM⟩:=zF aO;refine⟨by simp[et],fun x hv ae=>?_,fun y a7=>?_⟩
   ·cases x with
    | zero=>
     simp only[jB,aH]at ae;subst ae;exact⟨p,rfl,.inr (.inl ⟨bT,ls,rfl,aK,fun l ak=>gl _ ak⟩)⟩
    | succ x=>
     obtain⟨nC,J,U⟩:=cf x hv (by grind);refine⟨nC,by grind,?_⟩;rw[show i+1+x=i+(x+1) by omega]at U;exact U.mono (fun l ak=>gQ _ ak) (fun _ h=>h) (fun _ h=>h)
   obtain⟨x,pre,J,U,ax,aJ⟩:=bM y a7;exact⟨x+1,pre,by omega,by grind,by grind,aJ⟩
  cases h
 | some post::ms,p::b',i,a,h=>by
  simp only[mL]at h;split at h
  ·rename_i id r aK aO;split at h
   ·rename_i ls b2;split at h
    ·rename_i pre eY;simp only[aH]at h;subst h;obtain⟨et,cf,bM⟩:=zF aO;have hp:p=.aN (.one (.ptr id 0)):=by
      unfold Nf at aK;grind
     refine⟨by simp[et],fun x hv ae=>?_,fun y a7=>?_⟩
     ·cases x with
      | zero=>
       simp only[jB,aH]at ae;subst ae;exact⟨p,rfl,.inr (.inr ⟨id,ls,pre,post,rfl,hp,b2,eY,fk,fun x ae=>gl _ ae⟩)⟩
      | succ x=>
       obtain⟨nC,J,U⟩:=cf x hv (by grind);refine⟨nC,by grind,?_⟩;rw[show i+1+x=i+(x+1) by omega]at U;exact U.mono (fun _ h=>h) (fun x h=>eQ _ h) (fun x h=>gQ _ h)
     rcases dj.1 a7 with rfl | a7
     ·grind
     obtain⟨x,yz,J,U,ax,aJ⟩:=bM y a7;exact⟨x+1,yz,by omega,by grind,by grind,aJ⟩
    cases h
   cases h
  cases h
 | [],_::_,i,a,h=>by grind[mL]
 | none::_,[],i,a,h=>by grind[mL]
 | some _::_,[],i,a,h=>by grind[mL]
def bd.A5(d:Option Nat):bd->Bool
 | .vals rs=>Ex rs
 | .gW _ ds=>d.isSome&&decide (ds.length<100)
def bd.cV(d:Option Nat):bd->Option Nat
 | .vals _=>none
 | .gW _ _=>d
def bd.lo:bd->List D
 | .vals _=>[]
 | .gW _ ds=>ds
def bd.nk(b':List az):bd->Option (List (Option aq))
 | .vals _=>some []
 | .gW src _=>r4 b' src
theorem bd.O5{d:Option Nat}{r:bd}(h:r.A5 d=true):r.fits (r.cV d) r.lo:=by
 cases r with
 | vals rs=>exact⟨rfl,h⟩
 | gW src ds=>
  simp only[bd.A5,b0,cF]at h;exact⟨h.1,rfl,h.2⟩
def qV(n:Nat):Nat->List ba->Bool
 | _,[]=>true
 | i,.fn _ _::r=>i+1==n&&qV n (i+1) r
 | i,_::r=>qV n (i+1) r
theorem yP{n:Nat}:∀{as:List ba} {i x:Nat} {g:FuncId} {cg:List Nat},qV n i as=true->as[x]?=some (.fn g cg)->i+x+1=n
 | [],_,_,_,_,_,h=>by simp at h
 | .fn _ _::r,i,0,g,cg,h,ae=>by
  simp_all[qV,b0,fR]
 | .fn _ _::r,i,x+1,g,cg,h,ae=>by
  simp only[qV,b0,fR]at h;have:=yP h.2 (x:=x) (by simpa using ae);omega
 | .ro _::r,i,0,g,cg,h,ae=>by simp at ae
 | .gN _ _ _::r,i,0,g,cg,h,ae=>by simp at ae
 | .ro _::r,i,x+1,g,cg,h,ae=>by
  have:=yP (i:=i+1) (by simpa[qV]using h) (x:=x) (by simpa using ae);omega
 | .gN _ _ _::r,i,x+1,g,cg,h,ae=>by
  have:=yP (i:=i+1) (by simpa[qV]using h) (x:=x) (by simpa using ae);omega
def wx(P:Program)(st:aG)(d:Option Nat)(f:FuncId)(n:Nat)(b':List az)(ans:List bI):Option (aG×List bI×List Prop):=
 match ans with
 | .eI r6 fP::r=>
  match mL st.boxes 0 r6 b',fP.nk b' with
  | some a,some nk=>
   let t0:=10000*(d.getD 0+1)
   if hM P f=true/\t0+10000<=cy/\tP a.refs (fP.cV d)=true/\De a.ts=true/\fP.A5 d=true/\a.mv.all (fun l=>!(l.mb a.ts))=true/\pX a.lG=n/\qV n 0 a.lG=true then
    let a6:=st.sR a.ts t0 a.refs (fP.cV d) nk fP.lo
    match d with
    | some d=>some (⟨a6.env.set d (fP.lr t0 (fP.cV (some d))),a6.boxes⟩,r,[cv P f a.lG fP])
    | none=>some (a6,r,[cv P f a.lG fP])
   else none
  | _,_=>none
 | _=>none
def Ez(P:Program)(st:aG)(d:Option Nat)(f:FuncId)(args:List Operand)(ans:List bI):Option (aG×List bI×List Prop):=
 match (args.map st.aW).getLast?.bind o9 with
 | some (_,ids)=>wx P st d f args.length (args.map st.aW++ids.map IG) ans
 | none=>wx P st d f args.length (args.map st.aW) ans
def EA(P:Program)(st:aG)(d:Option Nat)(f:Operand)(args:List Operand)(ans:List bI):Option (aG×List bI×List Prop):=
 match o9 (st.aW f) with
 | some (g,ids)=>if (args.map st.aW).all (fun p=>(o9 p).isNone) then wx P st d g (args.length+ids.length) (args.map st.aW++ids.map IG) ans else none
 | none=>none
variable{a:Act}{P:Program}{w0:dC}{st a6:aG}{dst:Option Nat}{ans bN:List bI}{obs:List Prop}
theorem EB{f:FuncId}{n:Nat}{b':List az}{vs:Array Value}{o:Oper}
  (BB:o.dst=dst) (aI:b1 w0 st a w ω τ) (h:wx P st dst f n b' ans=some (a6,bN,obs)) (aM:cn obs) (dN:vs.size=b'.length) (fs:∀(x:Nat) (p:az),b'[x]?=some p->∃v,vs[x]?=some v/\cd (Sat w ω τ) p v)
  (jk:∀(x:Nat) (g:FuncId) (ids:List Nat),x+1=n->b'[x]?=some (.aN (.one (.eL g ids)))->vs[x]?=some (.func (.func g) #[] ((List.range' n ids.length).map fun k=>vs.getD k undef).toArray))
  (ei:hM P f=true->(execOp a.eval o).run P w=.ok (.enter f (vs.extract 0 n)) w) {K:Act->World->Prop} {Q:Exit->Act->World->Prop} (fw:∀b4 aD,Rel w0 a6 b4 aD->K b4 aD):
  Oper.wp P o a w K Q:=by
 unfold wx at h;split at h
 ·rename_i r6 fP r;split at h
  ·rename_i o4 nk j1 vC;simp only at h;split at h
   ·rename_i ai;obtain⟨hj,gU,cb,HI,dc,yc,B6,pr⟩:=ai;rw[eP]at yc;have vF:∀l∈o4.mv,l.mb o4.ts=false:=fun l ak=>by grind
    obtain⟨hlen,cf,bM⟩:=zF j1
    let uU:Own:=fun b=>fx (iI o4.refs) o4.ts (ω b)
    have cl:∀b,uU b≠.bc->ω b≠.bc:=fun b h e=>h (by simp only[uU,e];rfl)
    have Qz:AO w uU o4.lG vs:=by
     refine⟨fun b ah=>(aI.owned b (cl b ah)).2,fun b i ah=>?_,by grind,fun x hv ae=>?_⟩
     ·simp only[uU]at ah;cases e:ω b with
      | bc=>grind
      | tok s q=>grind[fx]
      | box gu=>
       rw[e]at ah;simp only[fx]at ah;split at ah
       ·rename_i eE pc;simp only[cx.box.injEq]at ah;subst ah;obtain⟨kc,dA,_,u0⟩:=zD pc;grind
       cases ah
     obtain⟨p,hp,n8⟩:=cf x hv ae;obtain⟨v,a8,ad⟩:=fs x p hp;refine⟨v,a8,?_⟩;rw[cP]at n8;rcases n8 with⟨g,ids,rfl,_⟩ | ⟨bT,ls,rfl,aO,b2⟩ | ⟨id,ls,pre,post,rfl,rfl,b2,eY,ks,qj⟩
     ·exact trivial
     ·cases p with
      | fD as=>cases aO
      | aN aN=>
       cases aN with
       | one l=>
        simp only[az.xE,bF]at aO;obtain⟨d,J,U⟩:=aO;simp only[a']at U;obtain⟨rfl,rfl⟩:=U;exact Jk J (vF l (b2 l (by simp))) ad
       | agg ej=>
        simp only[az.xE,bF]at aO;obtain⟨ds,J,U⟩:=aO;simp only[a']at U;obtain⟨rfl,rfl⟩:=U;obtain⟨ax,aJ⟩:=kS J;obtain⟨vs,rfl,aR,QV⟩:=ad;refine⟨vs,rfl,by omega,fun j d ay=>?_⟩;obtain⟨l,ak,cr⟩:=aJ j d ay;obtain⟨u,hu,er⟩:=QV j l ak;exact⟨u,hu,Jk cr (vF l (b2 l (eD ak))) er⟩
     obtain⟨b,ah,rfl⟩:=ad;obtain⟨cH,arr,ty,dv,hu,bq,dJ⟩:=aI.boxes id ls b2;have:=hu b ah;subst this;have Qj:=Jj cb ks;simp only at Qj;obtain⟨ax,aJ⟩:=kS eY;refine⟨⟨b,arr,ty,rfl,by grind[fx],fun c ai=>?_,bq,by have:=dJ.1;omega,fun j d ay=>?_⟩,fun j d ay ek=>?_⟩
     ·simp only[uU]at ai;cases e:ω c with
      | bc=>grind
      | tok s q=>grind[fx]
      | box gu=>
       grind[fx,cx.box.injEq,zD,pU]
     rotate_left
     ·obtain⟨l,ak,cr⟩:=aJ j d ay;obtain⟨u,fe,er⟩:=dJ.2 j l ak;rw[Ey ak]at ek;obtain⟨ff,na⟩:=nY.1 ek;obtain⟨rfl,_,k,es,cJ,l4⟩:=ww na;simp only[aq.z6,na]at cr;rw[cJ]at cr;cases cr;have e:gK w (.pointer (some ⟨b,0,none⟩)) j=u:=by simp[gK,bq,dF,fe]
      rw[e];refine (l4 er).frame fun c q _ aw=>⟨?_,rfl⟩
      grind[Tag.R,fx]
     obtain⟨l,ak,cr⟩:=aJ j d ay;obtain⟨u,fe,er⟩:=dJ.2 j l ak;refine⟨u,fe,fun ek=>?_⟩;rw[Ey ak]at ek;have HT:nD l=none:=by simpa using ek
     simp only[aq.z6,HT]at cr;clear ek HT;cases l with
     | v z=>
      simp only[aq.gP]at cr;split at cr
      ·simp only[aH]at cr;subst cr;have:u=z:=er;subst this;exact .v _ _ ‹_›
      cases cr
     | bP c=>
      simp only[aq.gP,aH]at cr;subst cr;have:u=.bool c:=er;subst this;exact .v _ _ rfl
     | aa g k es=>
      cases g with
      | free=>cases cr
      | ro s=>cases cr
      | own s=>
       simp only[aq.gP,aH]at cr;subst cr;have hm:=qj _ (Jl (i:=x) (j0:=0) ak rfl);rw[cP]at hm;have afu:=Jf HI hm;refine er.1.frame fun c q _ aw=>⟨?_,rfl⟩
       grind[Tag.R,fx]
     | b5=>cases cr
     | ptr=>cases cr
     | ep=>cases cr
     | gZ=>cases cr
     | fd=>cases cr
     | dL=>cases cr
     | eL=>cases cr
     | bE=>cases cr
     | ef=>cases cr
    have BI:AK o4.lG vs:=by
     intro x g cg ae;have vQ:=yP pr ae;rw[cP]at vQ;obtain⟨p,hp,n8⟩:=cf x _ ae;rw[cP]at n8;rcases n8 with⟨dg,ids,aK,rfl⟩ | ⟨bT,ls,aK,_⟩ | ⟨id,ls,pre,post,aK,_⟩
     ·grind
     ·cases aK
     cases aK
    have key:cv P f o4.lG fP->(∀v aD aP ch,b1 w0 (st.sR o4.ts (10000*(dst.getD 0+1)) o4.refs (fP.cV dst) nk fP.lo) a aD aP ch->cd (Sat aD aP ch) (fP.lr (10000*(dst.getD 0+1)) (fP.cV dst)) v->K (a.put dst v) aD)->
      Oper.wp P o a w K Q:=by
     intro B5 Hk;unfold Oper.wp;rw[ei hj,<-B6];simp only[Oper.upon];rw[BB];refine (B5 w _ uU Qz BI (aI.tidy fun b ah=>by grind)).mono ?_;rintro e aD ⟨v,rfl,iP,dZ,bK,cL,cI,fJ⟩;obtain⟨aP,ch,J,U⟩:=aI.OT (10000*(dst.getD 0+1)) (nk:=nk) (ys:=fun i=>vs.getD i undef) cb gU iP dZ bK cL (fun r ar=>by
      obtain⟨x,pre,g1,g2,g3,g4⟩:=bM r ar;rw[cP]at g1;obtain⟨y,a7,ad⟩:=fs x _ g3;obtain⟨b,ah,rfl⟩:=ad;have e:vs.getD r.i undef=ptrTo b:=by rw[g1,dF,a7];rfl
      rw[e];obtain⟨ls,g5,g6⟩:=g4;simp_all[ptrTo]) fJ (bd.O5 dc) (fun d ay=>by
      cases fP with
      | vals rs=>cases ay
      | gW src ds=>
       have ay:dst=some d:=ay;grind) (fun r ar j l aU=>by
      obtain⟨x,pre,g1,g2,g3,ls,g5,g6⟩:=bM r ar;rw[cP]at g1;obtain⟨y,a7,ad⟩:=fs x _ g3;obtain⟨b,ah,rfl⟩:=ad;have e:vs.getD r.i undef=ptrTo b:=by rw[g1,dF,a7];rfl
      rw[e];rw[g6]at aU;obtain⟨i1,i2⟩:=SJ aU;refine⟨(ww i2).2.1 _ _ _,?_⟩;have ek:stays (iV r.eF) j=true:=by simp_all[Ey]
      rw[(cI r.i _ pre r.post (ptrTo b) (by grind) (by simp_all)).2 j ek];obtain⟨cH,arr,ty,dv,hu,bq,dJ⟩:=aI.boxes _ ls g5;have:=hu b ah;subst this;obtain⟨u,fe,er⟩:=dJ.2 j l i1;have e:gK w (ptrTo b) j=u:=by simp[gK,ptrTo,bq,dF,fe]
      grind) (fun j l aU=>by
      cases fP with
      | vals rs=>
       grind[bd.nk,aH]
      | gW src ds=>
       obtain⟨_,i2⟩:=zE vC;obtain⟨x,Q7,Im,Q8⟩:=i2 j l aU;refine⟨(ww Q8).2.1 _ _ _,?_⟩;obtain⟨y,a7,ad⟩:=fs x _ Im;have:=fJ.2 j x Q7;rw[a7]at this;rw[<-e0 this];exact ad) (fun src ds e=>by
      subst e;exact (zE vC).1)
     grind
    cases dst with
    | none=>
     simp only[aH,a']at h;obtain⟨rfl,_,rfl⟩:=h;exact key aM.1 fun v aD aP ch J _=>fw _ _ ⟨aP,ch,J⟩
    | some d=>
     simp only[aH,a']at h;obtain⟨rfl,_,rfl⟩:=h;exact key aM.1 fun v aD aP ch J U=>fw _ _ ⟨aP,ch,J.put U⟩
   cases h
  cases h
 cases h
theorem SK{f:FuncId}{args:Array Operand}{ts:Array TypeId}{type:TypeId}{pos:String}{after:Array Edge}{guard:Option (Nat×Bool)}
  (aI:b1 w0 st a w ω τ) (h:Ez P st dst f args.toList ans=some (a6,bN,obs)) (aM:cn obs) {K:Act->World->Prop} {Q:Exit->Act->World->Prop} (fw:∀b4 aD,Rel w0 a6 b4 aD->K b4 aD):
  Oper.wp P ⟨dst,.call ⟨.value (.func f),args,ts⟩,type,pos,after,guard⟩ a w K Q:=by
 have fs:∀(x:Nat) (p:az),(args.toList.map st.aW)[x]?=some p->∃v,(args.map a.eval)[x]?=some v/\cd (Sat w ω τ) p v:=by
  intro x p hp;rw[dG,bF]at hp;obtain⟨o,J,rfl⟩:=hp;refine⟨a.eval o,?_,aI.aW o⟩;grind
 have ei:hM P f=true->(execOp a.eval ⟨dst,.call ⟨.value (.func f),args,ts⟩,type,pos,after,guard⟩).run P w=.ok (.enter f (args.map a.eval)) w:=by
  intro hj;unfold hM at hj;split at hj
  ·rename_i fn jk;simp only[b0,gD,sZ,ki]at hj;have pj:fn.body≠none:=by grind
   simp[execOp,resolve,Act.eval,Deferred.ofValue,invoke,callFunc,jk,hj.1,pj]
  cases hj
 unfold Ez at h;split at h
 ·rename_i g ids qv;rw[jT]at qv;obtain⟨p,hp,Bw⟩:=qv;have qw:p=.aN (.one (.eL g ids)):=by
   unfold o9 at Bw;grind
  subst qw;have HH:0<(args.toList.map st.aW).length:=by
   grind
  have HU:(args.toList.map st.aW)[args.toList.length-1]?=some (.aN (.one (.eL g ids))):=by
   grind
  obtain⟨v,a8,bs,vo,qp,eM⟩:=fs _ _ HU;have aR:0<args.size:=by grind
  refine EB (n:=args.toList.length) (vs:=args.map a.eval++(bs.map ptrTo).toArray) rfl aI h aM (by simp[qp]) (fun x p ae=>?_) (fun x dg Q4 vQ ae=>?_) (fun hj=>?_) fw
  ·rw[kf]at ae;rw[hz];split at ae
   ·grind
   rename_i l0;rw[aZ (by grind)];rw[dG,bF]at ae;obtain⟨id,fp,rfl⟩:=ae;obtain⟨b,fM,dX⟩:=eM _ id fp;refine⟨ptrTo b,?_,b,dX,rfl⟩;grind
  ·have bk:x<args.size:=by grind
   have og:x=args.toList.length-1:=by omega
   rw[kf,bb (by grind),og,HU]at ae;simp only[aH,az.aN.injEq,bi.one.injEq,aq.eL.injEq]at ae;obtain⟨rfl,rfl⟩:=ae;rw[hz,bb (by grind),og,a8,vo]
   congr 2
   apply Array.ext
   ·simp[qp]
   simp_all
  have e:(args.map a.eval++(bs.map ptrTo).toArray).extract 0 args.toList.length=args.map a.eval:=by
   simp_all
  grind
 refine EB (n:=args.toList.length) (vs:=args.map a.eval) rfl aI h aM (by simp) fs (fun x g ids vQ ae=>?_) (fun hj=>?_) fw
 ·rename_i ih;exfalso;have:(args.toList.map st.aW).getLast?=some (.aN (.one (.eL g ids))):=by
   grind
  grind[o9]
 have e:(args.map a.eval).extract 0 args.toList.length=args.map a.eval:=by simp
 grind
theorem SL{y:Nat}{args:Array Operand}{ts:Array TypeId}{type:TypeId}{pos:String}{after:Array Edge}{guard:Option (Nat×Bool)}
  (aI:b1 w0 st a w ω τ) (h:EA P st dst (.tmp y) args.toList ans=some (a6,bN,obs)) (aM:cn obs) {K:Act->World->Prop} {Q:Exit->Act->World->Prop} (fw:∀b4 aD,Rel w0 a6 b4 aD->K b4 aD):
  Oper.wp P ⟨dst,.call ⟨.value (.tmp y),args,ts⟩,type,pos,after,guard⟩ a w K Q:=by
 have fs:∀(x:Nat) (p:az),(args.toList.map st.aW)[x]?=some p->∃v,(args.map a.eval)[x]?=some v/\cd (Sat w ω τ) p v:=by
  intro x p hp;rw[dG,bF]at hp;obtain⟨o,J,rfl⟩:=hp;refine⟨a.eval o,?_,aI.aW o⟩;grind
 unfold EA at h;split at h
 ·rename_i g ids Bw;have qw:st.aW (.tmp y)=.aN (.one (.eL g ids)):=by
   unfold o9 at Bw;grind
  have ad:=aI.aW (.tmp y);rw[qw]at ad;obtain⟨bs,vo,qp,eM⟩:=ad;split at h
  case isFalse=>cases h
  rename_i ih;refine EB (n:=args.toList.length+ids.length) (vs:=args.map a.eval++(bs.map ptrTo).toArray) rfl aI h aM (by simp[qp]) (fun x p ae=>?_) (fun x dg Q4 vQ ae=>?_) (fun hj=>?_) fw
  ·rw[kf]at ae;rw[hz];split at ae
   ·grind
   rename_i l0;rw[aZ (by grind)];rw[dG,bF]at ae;obtain⟨id,fp,rfl⟩:=ae;obtain⟨b,fM,dX⟩:=eM _ id fp;refine⟨ptrTo b,?_,b,dX,rfl⟩;grind
  ·exfalso;rw[kf]at ae;split at ae
   ·rename_i bk;have:=eP.1 ih _ (eD ae);grind[o9]
   rw[dG,bF]at ae;obtain⟨id,_,e⟩:=ae;cases e
  have e:(args.map a.eval++(bs.map ptrTo).toArray).extract 0 (args.toList.length+ids.length)=args.map a.eval++(bs.map ptrTo).toArray:=by
   have aO:args.toList.length+ids.length=(args.map a.eval++(bs.map ptrTo).toArray).size:=by simp[qp]
   grind
  rw[e];unfold hM at hj;split at hj
  ·rename_i fn jk;simp only[b0,gD,sZ,ki]at hj;have pj:fn.body≠none:=by grind
   simp[execOp,resolve,vo,Deferred.ofValue,invoke,callFunc,jk,hj.1,pj]
  cases hj
 cases h
