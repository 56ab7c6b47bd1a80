import Derived.Test.YtdchjefneblpgaaGreatR11
set_option linter.unusedVariables false
set_option linter.unusedSimpArgs false
namespace Go.Sx
open Go.RowKit
inductive aL where
 | ro (a:cz)
 | hJ (pn:List Bool) (pre post:List D)
 | fn (g:FuncId) (cG:List Nat)
abbrev aL.ref (pre post : List D) : aL := .hJ [] pre post
abbrev aL.cur(pre post:List D):aL:=.hJ [true,false,false] pre post
def stays(pn:List Bool)(j:Nat):Bool:=pn.getD j false
def hF(w:World)(y:Value)(j:Nat):Value:=
 match y with
 | .pointer (some p)=>match w.heap[p.block]? with | some (.cells arr _ _)=>arr.getD j undef | _=>undef
 | _=>undef
def pJ(i j:Nat):Nat:=900000000+(100*i+j)
def gD(i j:Nat):Nat:=5000+(100*i+j)
def tR(w:World)(ω:Own)(i:Nat)(pn:List Bool)(f:Nat->Nat)(ds:List D)(y:Value):Prop:=
 ∃b arr ty,y=ptrTo b/\ω b=.box i/\(∀da,ω da=.box i->da=b)/\w.heap[b]?=some (.cells arr ty (0,0))/\arr.size=ds.length/\∀(j:Nat) (d:D),ds[j]?=some d->∃u,arr[j]?=some u/\(stays pn j=false->bQ w ω (Tag.own (f j)).R d u)
def Vq(w:World)(ω:Own)(i:Nat):aL->Value->Prop
 | .ro (.one d),y=>bQ w ω Tag.free.R d y
 | .ro (.agg ds),y=>∃vs:Array Value,y=.agg vs/\vs.size=ds.length/\∀(j:Nat) (d:D),ds[j]?=some d->∃u,vs[j]?=some u/\bQ w ω Tag.free.R d u
 | .hJ pn pre _,y=>tR w ω i pn (pJ i) pre y/\∀(j:Nat) (d:D),pre[j]?=some d->stays pn j=true->bQ w ω Tag.free.R d (hF w y j)
 | .fn _ _,_=>True
def aL.br:aL->Nat
 | .fn _ cG=>cG.length
 | _=>0
def r3(args:List aL):Nat:=args.length-(args.map aL.br).sum
def ET(args:List aL)(vs:Array Value):Prop:=∀(i:Nat) (g:FuncId) (cG:List Nat),args[i]?=some (.fn g cG)->vs[i]?=some (.func (.func g) #[] (cG.map fun k=>vs.getD k undef).toArray)
def Dc(w:World)(ω:Own):Prop:=∀b,ω b≠.bt->∃arr ty,w.heap[b]?=some (.cells arr ty (0,0))
def EX(w:World)(ω:Own)(args:List aL)(vs:Array Value):Prop:=Dc w ω/\(∀b i,ω b=.box i->∃pn pre post,args[i]?=some (.hJ pn pre post))/\vs.size=args.length/\∀(i:Nat) (iA:aL),args[i]?=some iA->∃v,vs[i]?=some v/\Vq w ω i iA v
def vr(src:List (Option Nat)):List Bool:=src.map Option.isSome
def A'(w:World)(ω:Own)(vs:Array Value):aT->Value->Prop
 | .vals rs,v=>lB w ω rs v
 | .im src ds,v=>tR w ω 49 (vr src) (gD 49) ds v/\∀(j i:Nat),src[j]?=some (some i)->vs[i]?=some (hF w v j)
def bT(P:Program)(f:FuncId)(args:List aL)(r:aT):Prop:=
 ∀(w:World) (vs:Array Value) (ω:Own),EX w ω args vs->ET args vs->Tidy w ω->Calls P f (vs.extract 0 (r3 args)) w fun e aM=>∃v,e=.returned v/\fO ⟨w,fun b=>ω b≠.bt,fun _=>(0,undef)⟩ aM/\
  ∃a7:Own,(∀b,b<w.heap.size->ω b=.bt->a7 b=.bt)/\Dc aM a7/\(∀(i:Nat) (pn:List Bool) (pre post:List D) (y:Value),args[i]?=some (.hJ pn pre post)->vs[i]?=some y->tR aM a7 i pn (gD i) post y/\∀j,stays pn j=true->hF aM y j=hF w y j)/\A' aM a7 vs r v
abbrev as3:=List (Nat×Nat)
def look(t:Nat):List (Nat×Nat)->Option Nat
 | []=>none
 | (s,n)::r=>if s=t then some n else look t r
def IS(ts:List (Nat×Nat)):Bool:=ts.all fun x=>ts.all fun y=>(x.1==y.1)==(x.2==y.2)
variable{ts:List (Nat×Nat)}
theorem OC{t n:Nat}(h:IS ts=true)(hm:(t,n)∈ts):look t ts=some n:=by
 have key:∀l:List (Nat×Nat),(∀x∈l,x∈ts)->(t,n)∈l->look t l=some n:=by
  intro l;induction l with
  | nil=>grind
  | cons x l eH=>
   intro ai hm;obtain⟨s,m⟩:=x;simp only[look];split
   ·rename_i e;subst e;have h1:=fx.1 (fx.1 h _ (ai _ j1)) _ (by exact ‹(s,n)∈ts›);grind
   grind
 grind
theorem ajf{t n:Nat}(h:look t ts=some n):(t,n)∈ts:=by
 induction ts with
 | nil=>cases h
 | cons x l eH=>
  grind[look,gP,j1,hQ]
def gr(bs ts:List (Nat×Nat)):c0->c0
 | .bt=>.bt
 | .box id=>match look id bs with | some i=>.box i | none=>.bt
 | .tok t q=>match look t ts with | some n=>.tok n q | none=>.bt
def Tag.n5(ts:List (Nat×Nat)):Tag->Bool
 | .free=>false
 | .own t=>(look t ts).isSome
 | .ro t=>(look t ts).isSome
def rz:Option Nat->Nat->Bool
 | none=>fun _=>true
 | some d=>iO d
def zf(ts:List (Nat×Nat))(t0:Nat)(g:Tag):Option Tag:=if g.n5 ts then none else fL t0 g
abbrev vp(ts:List (Nat×Nat))(t0:Nat)(dt:Option Nat)(l:az):az:=l.ct (zf ts t0) (rz dt)
structure h9 where
 i:Nat
 id:Nat
 post:List D
 fe:List (Option az)
def kd(cG:List (Option az)):List Bool:=cG.map Option.isSome
def j':List (Option az)->List az->List az
 | [],ls=>ls
 | _,[]=>[]
 | some l::cG,_::ls=>l::j' cG ls
 | none::cG,l::ls=>l::j' cG ls
theorem Dd:∀(cG:List (Option az)) (ls:List az),(j' cG ls).length=ls.length
 | [],ls=>rfl
 | _::_,[]=>by simp[j']
 | some l::cG,_::ls=>by simp[j',Dd cG ls]
 | none::cG,_::ls=>by simp[j',Dd cG ls]
theorem IT:∀(cG:List (Option az)) (ls:List az) (j:Nat) (l:az),(j' cG ls)[j]?=some l->(cG[j]?=some (some l)/\stays (kd cG) j=true)\/(ls[j]?=some l/\stays (kd cG) j=false)
 | [],ls,j,l,h=>.inr ⟨h,by simp[stays,kd]⟩
 | _::_,[],j,l,h=>by grind[j']
 | some k::cG,x::ls,0,l,h=>by simp only[j',kI,aS]at h;subst h;exact .inl ⟨rfl,rfl⟩
 | none::cG,x::ls,0,l,h=>by simp only[j',kI]at h;exact .inr ⟨h,rfl⟩
 | some k::cG,x::ls,j+1,l,h=>by
  have:=IT cG ls j l (by simpa[j']using h);simpa[stays,kd]using this
 | none::cG,x::ls,j+1,l,h=>by
  have:=IT cG ls j l (by simpa[j']using h);simpa[stays,kd]using this
def u'(t0:Nat):List h9->List (Nat×List az)->List (Nat×List az)
 | [],bs=>bs
 | r::rs,bs=>u' t0 rs (pu r.id (j' r.fe (ma (t0+gD r.i 0) 0 r.post)) bs)
def OD(t0:Nat)(dt:Option Nat)(nk:List (Option az))(ds:List D)(bs:List (Nat×List az)):List (Nat×List az):=
 match dt with
 | some d=>(d,j' nk (ma (t0+gD 49 0) 0 ds))::ob d bs
 | none=>bs
def aD.vq(st:aD)(ts:List (Nat×Nat))(t0:Nat)(refs:List h9)(dt:Option Nat)(nk:List (Option az))(ds:List D):aD:=
 ⟨st.env.map (aE.map (vp ts t0 dt)),OD t0 dt nk ds (u' t0 refs (st.boxes.map fun x=>(x.1,x.2.map (vp ts t0 dt))))⟩
def n'(t0:Nat)(dt:Option Nat):c0->c0
 | .tok s q=>if t0<=s/\s<t0+10000 then .bt else .tok s q
 | .box id=>if rz dt id then .box id else .bt
 | .bt=>.bt
def n2(i:Nat)(dt:Option Nat):List h9->Option Nat
 | []=>if i=49 then dt else none
 | r::rs=>if r.i=i then some r.id else n2 i dt rs
def lM(t0:Nat)(refs:List h9)(dt:Option Nat):c0->c0
 | .tok s q=>if s<10000 then .tok (t0+s) q else .bt
 | .box i=>match n2 i dt refs with | some id=>.box id | none=>.bt
 | .bt=>.bt
def D.r7:D->Nat
 | .J k _=>k
 | _=>0
def va(i:Nat)(ds:List D):List h9->List D
 | []=>ds
 | r::rs=>if r.i=i then r.post else va i ds rs
def jV(refs:List h9):List (Nat×Nat):=refs.map fun r=>(r.id,r.i)
def wB:List h9->Option Nat->Bool
 | [],_=>true
 | x::r,dt=>decide (x.i<49)&&decide (x.post.length<100)&&decide (dt≠some x.id)&&r.all (fun y=>x.i != y.i&&x.id != y.id)&&wB r dt
variable{id:Nat}
theorem IU{t0:Nat}:∀{refs:List h9} {bs:List (Nat×List az)},(∀r∈refs,r.id≠id)->df id (u' t0 refs bs)=df id bs
 | [],bs,_=>rfl
 | r::rs,bs,h=>by
  simp_all[u',IU,hQ,wx,Ne.symm,j1]
theorem ajg{hn:Nat}{ls:List az}:∀{bs:List (Nat×List az)},(df id bs).isSome=true->(df id (pu hn ls bs)).isSome=true:=by
 intro bs h;by_cases e:id=hn
 ·subst e;obtain⟨x,ak⟩:=pQ.1 h;rw[ww ak];rfl
 grind[wx]
theorem OE{t0:Nat}:∀{refs:List h9} {bs:List (Nat×List az)} {r:h9},r∈refs->(∀x∈refs,x.id=r.id->x=r)->(df r.id bs).isSome=true->df r.id (u' t0 refs bs)=some (j' r.fe (ma (t0+gD r.i 0) 0 r.post))
 | [],_,_,h,_,_=>by cases h
 | x::rs,bs,r,h,hu,ai=>by
  simp only[u'];by_cases hm:r∈rs
  ·exact OE hm (fun y bD=>hu y (hQ _ bD)) (ajg ai)
  rcases ep.1 h with e | h
  ·subst e;obtain⟨l,ap⟩:=pQ.1 ai;grind[IU,ww,hQ]
  grind
variable{dt:Option Nat}
theorem rM:∀{refs:List h9},wB refs dt=true->∀{x:h9},x∈refs->x.i<49/\x.post.length<100/\dt≠some x.id/\∀y∈refs,(y.i=x.i->y=x)/\(y.id=x.id->y=x)
 | [],_,x,ak=>by cases ak
 | z::r,h,x,ak=>by
  simp only[wB,cF,cW,fx,bne_iff_ne,mr]at h;obtain⟨⟨⟨⟨h1,U⟩,ax⟩,aJ⟩,aY⟩:=h;rcases ep.1 ak with e | yB
  ·subst e;refine⟨h1,U,ax,fun y bD=>?_⟩;rcases ep.1 bD with e | bD
   ·exact⟨fun _=>e,fun _=>e⟩
   exact⟨fun e=>absurd e.symm (aJ y bD).1,fun e=>absurd e.symm (aJ y bD).2⟩
  obtain⟨c4,b8,fs,pa⟩:=rM aY yB;refine⟨c4,b8,fs,fun y bD=>?_⟩;rcases ep.1 bD with e | bD
  ·subst e;exact⟨fun e=>absurd e (aJ x yB).1,fun e=>absurd e (aJ x yB).2⟩
  exact pa y bD
theorem IV:∀{refs:List h9} {r:h9},r∈refs->(∀y∈refs,y.i=r.i->y.id=r.id)->n2 r.i dt refs=some r.id
 | [],_,h,_=>by cases h
 | x::rs,r,h,hu=>by
  simp only[n2];split
  ·grind
  rename_i e;rcases ep.1 h with e1 | h
  ·grind
  exact IV h fun y bD=>hu y (hQ _ bD)
theorem wC{i:Nat}:∀{refs:List h9},n2 i dt refs=some id->(∃r∈refs,r.i=i/\r.id=id)\/(i=49/\dt=some id)
 | [],h=>by
  grind[n2]
 | x::rs,h=>by
  simp only[n2]at h;split at h
  ·rename_i e;exact .inl ⟨x,j1,e,gP h⟩
  rcases wC h with⟨r,aH,h1⟩ | h1
  ·exact .inl ⟨r,hQ _ aH,h1⟩
  exact .inr h1
theorem IW:∀{refs:List h9},(∀r∈refs,r.i<49)->n2 49 dt refs=dt
 | [],_=>by simp[n2]
 | x::rs,h=>by
  simp only[n2];rw[bG (by grind)];exact IW fun r aH=>h r (hQ _ aH)
theorem OF{ds:List D}:∀{refs:List h9} {r:h9},r∈refs->(∀y∈refs,y.i=r.i->y=r)->va r.i ds refs=r.post
 | [],_,h,_=>by cases h
 | x::rs,r,h,hu=>by
  simp only[va];split
  ·grind
  rename_i e;rcases ep.1 h with e1 | h
  ·grind
  exact OF h fun y bD=>hu y (hQ _ bD)
theorem IX{ds:List D}:∀{refs:List h9},(∀r∈refs,r.i<49)->va 49 ds refs=ds
 | [],_=>rfl
 | x::rs,h=>by
  simp only[va];rw[bG (by grind)];exact IX fun r aH=>h r (hQ _ aH)
variable{refs:List h9}
theorem OG(h:wB refs dt=true){r:h9}(aH:r∈refs):look r.id (jV refs)=some r.i:=by
 refine OC ?_ (lJ.2 ⟨r,aH,rfl⟩);unfold IS;rw[fx];intro x ak;rw[fx];intro y bD;obtain⟨rx,Xq,rfl⟩:=lJ.1 ak;obtain⟨asa,Xr,rfl⟩:=lJ.1 bD;have:=(rM h Xq).2.2.2 asa Xr;grind
theorem De{i:Nat}(h:look id (jV refs)=some i):∃r∈refs,r.id=id/\r.i=i:=by
 obtain⟨r,aH,e⟩:=lJ.1 (ajf h);grind
def IY(rs:List cz):Bool:=decide (rs.length<50)&&rs.all fun | .one _=>true | .agg ds=>ds.length<100
def aT.fits(dt:Option Nat)(mY:List D):aT->Prop
 | .vals rs=>dt=none/\IY rs=true
 | .im _ ds=>dt.isSome=true/\mY=ds/\ds.length<100
def aT.dJ(v:Value)(n:Nat):aT->Nat×Value
 | .vals rs=>(oV rs n,lY rs v n)
 | .im _ _=>(0,undef)
def aT.nc(t0:Nat)(dt:Option Nat):aT->aE
 | .vals rs=>r4 t0 rs
 | .im _ _=>.one (.ptr (dt.getD 0) 0)
theorem cr.VI{w0:ee}{st:aD}{a:Act}{w aM:World}{ω:Own}{τ:Nat->Nat×Value}(aU:cr w0 st a w ω τ)(t0:Nat){nk:List (Option az)}{mY:List D}{gN:aT}{v:Value}{vs:Array Value}{ys:Nat->Value}{H:Nat->Nat×Value}
  (cJ:wB refs dt=true) (hZ:t0+10000<=cX) (aw:fO ⟨w,fun b=>gr (jV refs) ts (ω b)≠.bt,H⟩ aM) (eS:Own)
  (kQ:∀b,b<w.heap.size->gr (jV refs) ts (ω b)=.bt->eS b=.bt) (ko:Dc aM eS)
  (hrefs:∀r∈refs,tR aM eS r.i (kd r.fe) (gD r.i) r.post (ys r.i)/\(∃b,ys r.i=ptrTo b/\ω b=.box r.id)/\(df r.id st.boxes).isSome=true) (eG:A' aM eS vs gN v) (BV:gN.fits dt mY) (sv:∀d,dt=some d->d<cX)
  (FX:∀r∈refs,∀(j:Nat) (l:az),r.fe[j]?=some (some l)->vp ts t0 dt l=l/\Sat w ω τ l (hF aM (ys r.i) j)) (yo:∀(j:Nat) (l:az),nk[j]?=some (some l)->vp ts t0 dt l=l/\Sat w ω τ l (hF aM v j))
  (M9:∀src ds,gN=.im src ds->vr src=kd nk):
  ∃a7 cI,cr w0 (st.vq ts t0 refs dt nk mY) a aM a7 cI/\cE (Sat aM a7 cI) (gN.nc t0 dt) v:=by
 classical
 let a7:Own:=fun b=>if b<w.heap.size/\gr (jV refs) ts (ω b)=.bt then n' t0 dt (ω b) else lM t0 refs dt (eS b)
 let aG:Nat->Nat×Value:=fun n=>if n<5000 then gN.dJ v n else
  ((((va ((n-5000) / 100) mY refs)[(n-5000) % 100]?).map D.r7).getD 0,hF aM (if (n-5000) / 100=49 then v else ys ((n-5000) / 100)) ((n-5000) % 100))
 let cI:Nat->Nat×Value:=fun s=>if t0<=s/\s<t0+10000 then aG (s-t0) else τ s
 have yh:∀r∈refs,r.i<49:=fun r aH=>(rM cJ aH).1
 have hold:∀b,b<w.heap.size->gr (jV refs) ts (ω b)=.bt->a7 b=n' t0 dt (ω b):=fun b h1 U=>by grind
 have fT:∀b,eS b≠.bt->a7 b=lM t0 refs dt (eS b):=fun b h=>by
  grind
 have hblk:∀b,b<w.heap.size->gr (jV refs) ts (ω b)=.bt->aM.heap[b]?=w.heap[b]?:=fun b h1 U=>aw.block b h1 (fun a8=>a8 U)
 have BY:∀r∈refs,∀b,ω b=.box r.id->eS b=.box r.i/\ys r.i=ptrTo b:=by
  intro r aH b cY;obtain⟨⟨gC,arr,ty,h1,U,_⟩,⟨fQ,ax,aJ⟩,aY⟩:=hrefs r aH;obtain⟨ls,uj⟩:=pQ.1 aY;obtain⟨xM,_,_,_,hu,_⟩:=aU.boxes r.id ls uj;have e1:=hu b cY;have e2:=hu fQ aJ;have cb:fQ=b:=by rw[e1,e2]
  subst cb;rw[ax]at h1;simp only[ptrTo,Value.pointer.injEq,aS,Addr.mk.injEq]at h1;grind
 have wk:∀id b,rz dt id=true->ω b=.box id->a7 b=.box id:=by
  intro id b hp cY;have bJ:=aU.owned.lt (b:=b) (by simp[cY]);cases e:look id (jV refs) with
  | none=>
   simp_all[gr,jV,n',gO]
  | some i=>
   obtain⟨r,aH,rfl,rfl⟩:=De e;grind[lM,IV,rM]
 have bh:kK w ω τ aM a7 cI (zf ts t0) (rz dt):=by
  refine⟨?_,?_,fun id b hp h=>wk id b hp h,?_,fun s ai=>by simp only[cI];rw[bG (by omega)]⟩
  ·intro g dW b q av bJ aK;unfold zf at av;split at av
   ·cases av
   rename_i hm;simp only[tH]at hm;have hi:gr (jV refs) ts (ω b)=.bt:=by
    cases g with
    | free=>simp only[Tag.R]at aK;rw[aK];rfl
    | own s=>
     grind[Tag.R,Tag.n5,EK,EL,gr]
    | ro s=>
     simp only[Tag.n5,EK,EL]at hm;rcases aK with h | ⟨dE,h⟩
     ·rw[h];rfl
     grind[gr]
   refine⟨?_,hblk b bJ hi⟩;rw[hold b bJ hi];cases g with
   | free=>simp only[fL,aS]at av;subst av;simp only[Tag.R]at aK ⊢;rw[aK];rfl
   | own s=>
    simp only[Tag.R]at aK;simp only[fL]at av;rw[aK];simp only[n'];split at av
    ·simp only[aS]at av;subst av;rw[bM ‹_›];rfl
    simp only[aS]at av;subst av;rw[bG ‹_›];rfl
   | ro s=>
    simp only[Tag.R]at aK;simp only[fL]at av;split at av
    ·simp only[aS]at av;subst av;rcases aK with h | ⟨dE,h⟩
     ·rw[h];rfl
     rw[h];simp only[n'];rw[bM ‹_›];rfl
    simp only[aS]at av;subst av;rcases aK with h | ⟨dE,h⟩
    ·rw[h];exact .inl rfl
    rw[h];simp only[n'];rw[bG ‹_›];exact .inr ⟨dE,rfl⟩
  ·intro g dW y av bD;unfold zf at av;split at av
   ·cases av
   cases g with
   | free=>simp only[fL,aS]at av;subst av;exact trivial
   | own s=>
    simp only[fL]at av;split at av
    ·simp only[aS]at av;subst av;exact trivial
    simp only[aS]at av;subst av;simp only[Tag.dJ,cI]at bD ⊢;simp_all[bG]
   | ro s=>
    simp only[fL]at av;split at av
    ·simp only[aS]at av;subst av;exact trivial
    simp only[aS]at av;subst av;exact trivial
  rfl
 have cell:∀(n:Nat) (d:D) (u:Value),n<10000->aG n=(d.r7,u)->bQ aM eS (Tag.own n).R d u->Sat aM a7 cI (d.oi (t0+n)) u:=by
  intro n d u a8 bz aH;cases d with
  | v x=>
   have e:u=x:=by cases aH;rfl
   subst e;unfold D.oi;split
   ·rename_i h;cases h;exact rfl
   ·rename_i h;cases h;exact rfl
   ·grind
   ·exact trivial
   grind
  | ptr ds=>exact trivial
  | cl g br=>exact trivial
  | J k es=>
   refine⟨aH.frame fun b q bJ aK=>⟨?_,rfl⟩,?_⟩
   ·simp_all[Tag.R,lM,bM]
   simp only[Tag.dJ,cI];rw[bM (by omega),show t0+n-t0=n by omega,bz];rfl
 have var:∀(i:Nat) (post:List D) (y:Value) (id:Nat) (cG:List (Option az)),i<50->post.length<100->va i mY refs=post->(if i=49 then v else ys i)=y->tR aM eS i (kd cG) (gD i) post y->n2 i dt refs=some id->(∀(j:Nat) (l:az),cG[j]?=some (some l)->vp ts t0 dt l=l/\Sat w ω τ l (hF aM y j))->
   (∀da fm,n2 fm dt refs=some id->eS da=.box fm->fm=i)->(∀da,ω da=.box id->rz dt id=true->¬gr (jV refs) ts (ω da)=.bt)->sd aM a7 cI id (j' cG (ma (t0+gD i 0) 0 post))/\∃b,y=ptrTo b/\a7 b=.box id:=by
  rintro i post y id cG hi Xk Xl bD ⟨b,arr,ty,rfl,U,ax,aJ,aY,bx⟩ gh W0 at0 kr;have eh:a7 b=.box id:=by
   grind[lM]
  refine⟨⟨b,arr,ty,eh,fun da cY=>?_,aJ,by grind[Dd,wz],fun j l ap=>?_⟩,b,rfl,eh⟩
  ·by_cases al:da<w.heap.size/\gr (jV refs) ts (ω da)=.bt
   ·rw[hold da al.1 al.2]at cY;cases e:ω da with
    | bt=>rw[e]at cY;cases cY
    | tok s q=>grind[n']
    | box hn=>
     grind[n',c0.box.injEq,absurd]
   have lX:lM t0 refs dt (eS da)=.box id:=by
    grind
   cases e:eS da with
   | bt=>rw[e]at lX;cases lX
   | tok s q=>grind[lM]
   | box fm=>
    grind[lM,c0.box.injEq]
  have jQ:j<(j' cG (ma (t0+gD i 0) 0 post)).length:=(fy.1 ap).1;rw[Dd,wz]at jQ;rcases IT cG _ j l ap with⟨ap,_⟩ | ⟨ap,F2⟩
  ·obtain⟨u,hu,_⟩:=bx j _ (iZ jQ);obtain⟨g1,g2⟩:=W0 j l ap;refine⟨u,hu,?_⟩;have e:hF aM (ptrTo b) j=u:=by simp[hF,ptrTo,aJ,er,hu]
   rw[e]at g2;have:=bh.sat l u g2;grind
  rw[y9,bX]at ap;obtain⟨d,eb,rfl⟩:=ap;obtain⟨u,hu,aH⟩:=bx j d eb;replace aH:=aH F2;have bg:j<100:=by
   grind
  refine⟨u,hu,?_⟩;have:=cell (gD i j) d u (by grind[gD]) (by
   have e1:(gD i j-5000) / 100=i:=by grind[gD]
   have e2:(gD i j-5000) % 100=j:=by grind[gD]
   simp only[aG];rw[bG (by grind[gD]),e1,e2,Xl,eb,bD];simp[hF,ptrTo,aJ,er,hu]) aH
  rw[show t0+gD i 0+(0+j)=t0+gD i j by grind[gD]];exact this
 have aud:∀r∈refs,sd aM a7 cI r.id (j' r.fe (ma (t0+gD r.i 0) 0 r.post)):=by
  intro r aH;obtain⟨h1,U,ax,aJ⟩:=rM cJ aH;refine (var r.i r.post (ys r.i) r.id r.fe (by omega) U (OF aH fun y bD e=>(aJ y bD).1 e) (by grind) (hrefs r aH).1 (IV aH fun y bD e=>by grind) (FX r aH) (fun da fm e _=>?_) (fun da e _=>?_)).1
  ·grind[wC,absurd]
  grind[gr,OG]
 have q8:∀id ls,df id (st.vq ts t0 refs dt nk mY).boxes=some ls->sd aM a7 cI id ls:=by
  intro id ls ap;have rest:∀id ls,dt≠some id->df id (u' t0 refs (st.boxes.map fun x=>(x.1,x.2.map (vp ts t0 dt))))=some ls->sd aM a7 cI id ls:=by
   intro id ls BG ap;by_cases aH:∃r∈refs,r.id=id
   ·obtain⟨r,aH,rfl⟩:=aH;rw[OE aH (fun y bD e=>((rM cJ aH).2.2.2 y bD).2 e) (by
     rw[rJ];grind)]at ap
    grind
   have et:∀r∈refs,r.id≠id:=fun r h1 U=>aH ⟨r,h1,U⟩
   rw[IU et,rJ,bX]at ap;obtain⟨ij,b5,rfl⟩:=ap;obtain⟨b,arr,ty,h1,U,ax,aJ⟩:=aU.boxes id ij b5;have hp:rz dt id=true:=by
    unfold rz;split
    ·rfl
    simp only[iO,cW];grind
   have bJ:=aU.owned.lt (b:=b) (by simp[h1]);have BL:look id (jV refs)=none:=by
    cases e:look id (jV refs) with
    | none=>rfl
    | some i=>
     grind[De,absurd]
   have hi:gr (jV refs) ts (ω b)=.bt:=by grind[gr]
   refine⟨b,arr,ty,wk id b hp h1,fun da cY=>?_,(hblk b bJ hi).trans ax,aJ.map bh.sat⟩;by_cases al:da<w.heap.size/\gr (jV refs) ts (ω da)=.bt
   ·rw[hold da al.1 al.2]at cY;cases e:ω da with
    | bt=>rw[e]at cY;cases cY
    | tok s q=>grind[n']
    | box hn=>
     grind[n',c0.box.injEq]
   have lX:lM t0 refs dt (eS da)=.box id:=by
    grind
   cases e:eS da with
   | bt=>rw[e]at lX;cases lX
   | tok s q=>grind[lM]
   | box fm=>
    grind[lM,c0.box.injEq,wC,absurd]
  simp only[aD.vq,OD]at ap;cases dt with
  | none=>grind
  | some d=>
   simp only[df]at ap;by_cases aG:d=id
   ·subst aG;rw[bM rfl]at ap;rw[<-gP ap];cases gN with
    | vals rs=>exact absurd BV.1 (by simp)
    | im src ds=>
     obtain⟨_,rfl,hlen⟩:=BV;obtain⟨eG,_⟩:=eG;rw[M9 _ _ rfl]at eG;refine (var 49 mY v d nk (by omega) hlen (IX yh) (bM rfl) eG (IW yh) yo (fun da fm e _=>?_) (fun da _ e=>?_)).1
     ·grind[wC,absurd,rM]
     simp[rz,iO]at e
   rw[bG aG,wF (fun e=>aG e.symm)]at ap;grind
 refine⟨a7,cI,⟨aU.defers,by simp[aD.vq,aU.size],?_,?_,fun s ai=>?_,fun id b hi cY=>?_,?_,q8⟩,?_⟩
 ·refine⟨aw.os.trans aU.below.os,aw.tape.trans aU.below.tape,aw.output.trans aU.below.output,sc aU.below.size aw.size,fun b bJ av=>?_,fun ai=>sc (aU.below.drawn ai) (aw.drawn ai),aw.laid,aU.below.free⟩;have jR:b<w.heap.size:=xu bJ aU.below.size;have oW:ω b=.bt:=by
   cases e:ω b with
   | bt=>rfl
   | box id=>exact absurd (aU.owned b (by simp[e])).1 (fun h=>h.elim (fun h=>by omega) av)
   | tok s q=>exact absurd (aU.owned b (by simp[e])).1 (fun h=>h.elim (fun h=>by omega) av)
  exact (hblk b jR (by rw[oW];rfl)).trans (aU.below.block b bJ av)
 ·intro b fr;by_cases al:b<w.heap.size/\gr (jV refs) ts (ω b)=.bt
  ·rw[hold b al.1 al.2]at fr;have U:ω b≠.bt:=fun e=>by rw[e]at fr;exact fr rfl
   obtain⟨ax,arr,ty,aJ⟩:=aU.owned b U;grind
  have U:eS b≠.bt:=fun e=>by
   simp only[a7]at fr;rw[bG al,e]at fr;exact fr rfl
  obtain⟨arr,ty,aJ⟩:=ko b U;refine⟨?_,arr,ty,aJ⟩;by_cases bJ:b<w.heap.size
  ·have aY:ω b≠.bt:=fun e=>al ⟨bJ,by rw[e];rfl⟩
   exact (aU.owned b aY).1
  exact .inl (by have:=aU.below.size;omega)
 ·have:cI s=τ s:=by simp only[cI];rw[bG (by omega)]
  rw[this];exact aU.fixed s ai
 ·by_cases al:b<w.heap.size/\gr (jV refs) ts (ω b)=.bt
  ·rw[hold b al.1 al.2]at cY;cases e:ω b with
   | bt=>rw[e]at cY;cases cY
   | tok s q=>grind[n']
   | box hn=>
    rw[e]at cY;simp only[n']at cY;split at cY
    ·simp only[c0.box.injEq]at cY;subst cY;exact aU.pinned hn b hi e
    cases cY
  have lX:lM t0 refs dt (eS b)=.box id:=by
   grind
  cases e:eS b with
  | bt=>rw[e]at lX;cases lX
  | tok s q=>grind[lM]
  | box fm=>
   rw[e]at lX;simp only[lM]at lX;split at lX
   ·rename_i hn e2;simp only[c0.box.injEq]at lX;subst lX;rcases wC e2 with⟨r,aY,rfl,rfl⟩ | ⟨_,bx⟩
    ·obtain⟨⟨gC,arr,ty,g1,g2,g3,_⟩,⟨fQ,g4,g5⟩,_⟩:=hrefs r aY;have cb:=g3 b e;rw[g4]at g1;simp only[ptrTo,Value.pointer.injEq,aS,Addr.mk.injEq]at g1;rw[cb,<-g1.1];exact aU.pinned r.id fQ hi g5
    grind
   cases lX
 ·intro i q aK;simp only[aD.vq]at aK;rw[dr,bX]at aK;obtain⟨hE,b5,rfl⟩:=aK;obtain⟨u,h1,U⟩:=aU.env i hE b5;exact⟨u,h1,cE.map bh.sat U⟩
 cases gN with
 | im src ds=>
  obtain⟨BG,rfl,hlen⟩:=BV;obtain⟨d,rfl⟩:=pQ.1 BG;obtain⟨eG,_⟩:=eG;rw[M9 _ _ rfl]at eG;obtain⟨b,h1,U⟩:=(var 49 mY v d nk (by omega) hlen (IX yh) (bM rfl) eG (IW yh) yo (fun da fm e _=>by
   grind[wC,absurd,rM]) (fun da _ e=>by simp[rz,iO]at e)).2
  exact⟨b,U,h1⟩
 | vals rs=>
  obtain⟨rfl,dX⟩:=BV;simp only[IY,cF,cW]at dX;have ey:∀(r:Nat) (ci:cz),rs[r]?=some ci->∀ds,ci=.agg ds->ds.length<100:=by
   intro r ci aH ds e;have:=fx.1 dX.2 ci (fl aH);grind
  have sl:∀(r:Nat) (ci:cz) (y:Value),r<50->(∀ds,ci=.agg ds->ds.length<100)->rs[r]?=some ci->(∀j,j<100->lY rs v (100*r+j)=y.cells.getD j undef)->kZ aM eS r ci y->ju (Sat aM a7 cI) (ci.res (t0+100*r)) y:=by
   intro r ci y aH ey yu bz nT;have gu:∀j,j<100->oV rs (100*r+j)=(match cz.cell j ci with | some (.J k _)=>k | _=>0):=by
    intro j bg;unfold oV;rw[show (100*r+j) / 100=r by omega,show (100*r+j) % 100=j by omega,yu];rfl
   have Np:∀d:D,(match some d with | some (.J k _)=>k | _=>0)=d.r7:=fun d=>by cases d<;>rfl
   cases ci with
   | one d=>
    have h1:=nT.oa;have U:=bz 0 (by omega);rw[y5 h1]at U;have:=cell (100*r) d y (by omega) (by
     simp only[aG,aT.dJ];rw[bM (by omega)];have ax:=gu 0 (by omega);rw[mq]at U ax;rw[ax,U];simp only[cz.cell,gO];rw[Np];rfl) nT
    exact this
   | agg ds=>
    obtain⟨vs,rfl,a8,bg⟩:=nT;refine⟨vs,rfl,by grind[wz],fun j l ap=>?_⟩;rw[y9,bX]at ap;obtain⟨d,eb,rfl⟩:=ap;obtain⟨u,hu,yv⟩:=bg j d eb;have jQ:j<100:=by
     grind
    refine⟨u,hu,?_⟩;have:=cell (100*r+j) d u (by omega) (by
     simp only[aG,aT.dJ];rw[bM (by omega),gu j jQ,bz j jQ];simp only[cz.cell,eb];rw[Np];simp[Value.cells,er,hu]) yv
    grind
  show cE (Sat aM a7 cI) (r4 t0 rs) v;cases rs with
  | nil=>
   obtain⟨vs,rfl,a8,_⟩:=eG;exact⟨vs,rfl,a8,fun i a ah=>by grind[pv]⟩
  | cons ci rest=>
   cases rest with
   | nil=>
    have:=sl 0 ci v (by omega) (ey 0 ci rfl) rfl (fun j bg=>by
     unfold lY;grind) eG
    exact this
   | cons Mn rest=>
    obtain⟨vs,rfl,a8,bz⟩:=eG;refine⟨vs,rfl,by grind[C3],fun i a ah=>?_⟩;rw[Cm,bX]at ah;obtain⟨mz,h1,rfl⟩:=ah;obtain⟨y,bD,ye⟩:=bz i mz h1;have iK:i<50:=by
     grind
    refine⟨y,bD,?_⟩;have:=sl i mz y iK (ey i mz h1) h1 (fun j bg=>by
     unfold lY;simp only;rw[show (100*i+j) / 100=i by omega,show (100*i+j) % 100=j by omega];simp[er,bD]) ye
    grind
end Go.Sx
namespace Go.Sx
open Go.RowKit
def az.n5(ts:List (Nat×Nat)):az->Bool
 | .J g _ _=>g.n5 ts
 | .aO t _ _ _ _ _=>(look t ts).isSome
 | _=>false
variable{w:World}{ω:Own}{τ:Nat->Nat×Value}{l:az}
theorem OH{bs ts:List (Nat×Nat)}{d:D}{y:Value}(h:l.fI=some d)(hm:l.n5 ts=false)(ai:Sat w ω τ l y):
  bQ w (fun b=>gr bs ts (ω b)) Tag.free.R d y:=by
 have tag:∀(g:Tag) (b:Nat) (q:List (Nat×Nat)),g.n5 ts=false->g.R q (ω b)->gr bs ts (ω b)=.bt:=by
  intro g b q av aK;cases g with
  | free=>simp only[Tag.R]at aK;rw[aK];rfl
  | own s=>
   grind[Tag.R,Tag.n5,EK,EL,gr]
  | ro s=>
   simp only[Tag.n5,EK,EL]at av;rcases aK with h | ⟨dE,h⟩
   ·rw[h];rfl
   grind[gr]
 cases l with
 | cj=>cases h
 | v x=>
  simp only[az.fI]at h;split at h
  ·simp only[aS]at h;subst h;have:y=x:=ai;subst this;exact .v _ _ ‹_›
  cases h
 | a' c=>
  simp only[az.fI,aS]at h;subst h;have:y=.bool c:=ai;subst this;exact .v _ _ rfl
 | J t k es=>simp only[az.fI,aS]at h;subst h;exact ai.1.frame fun b q _ aK=>⟨tag t b q hm aK,rfl⟩
 | ptr=>cases h
 | cB=>cases h
 | fR=>cases h
 | eX=>cases h
 | ha ds off=>
  simp only[az.fI]at h;split at h
  ·rename_i aZ;subst aZ;simp only[aS]at h;subst h;obtain⟨b,rfl,aH⟩:=ai;exact aH.frame fun b q _ aK=>⟨tag .free b q rfl aK,rfl⟩
  cases h
 | fd dn=>simp only[az.fI,aS]at h;subst h;exact bQ.frame ai fun b q _ aK=>⟨tag .free b q rfl aK,rfl⟩
 | c' t k es=>simp only[az.fI,aS]at h;subst h;exact bQ.frame ai.1 fun b q _ aK=>⟨tag .free b q rfl aK,rfl⟩
 | aO t i j k es m=>
  obtain⟨u,hu,aH,_⟩:=ai;have fin:y=u->bQ w (fun b=>gr bs ts (ω b)) Tag.free.R (.J k es) y:=by
   intro e;rw[e];exact aH.frame fun b q _ aK=>⟨tag (.own t) b _ hm aK,rfl⟩
  cases m with
  | at_ x z=>cases h
  | here=>simp only[az.fI,aS]at h;subst h;exact fin hu
  | kL=>simp only[az.fI,aS]at h;subst h;exact fin hu
def aE.Be:aE->Option (cz×List az)
 | .aF (.one l)=>l.fI.map fun d=>(.one d,[l])
 | .aF (.agg ls)=>(ls.mapM az.fI).map fun ds=>(.agg ds,ls)
 | _=>none
def vb(i:Nat):Nat->List az->List (Nat×Nat)
 | _,[]=>[]
 | j,l::ls=>match l.tok with | some t=>(t,pJ i j)::vb i (j+1) ls | none=>vb i (j+1) ls
theorem OI{i:Nat}:∀{ls:List az} {j0 j:Nat} {l:az} {t:Nat},ls[j]?=some l->l.tok=some t->(t,pJ i (j0+j))∈vb i j0 ls
 | [],_,_,_,_,h,_=>by simp at h
 | fo::ls,j0,0,l,t,h,bU=>by
  grind[vb,j1]
 | fo::ls,j0,j+1,l,t,h,bU=>by
  have:=OI (i:=i) (ls:=ls) (j0:=j0+1) (j:=j) (by simpa using h) bU;grind[vb,hQ]
def pq:az->Option az
 | .c' t k es=>some (.c' t k es)
 | .J .free k es=>some (.J .free k es)
 | _=>none
def rN(ls:List az):List (Option az):=if (ls.map pq).all Option.isNone then [] else ls.map pq
def az.DX(l:az):Option D:=match pq l with | some l=>l.fI | none=>l.hM
theorem zg{fU:az}(h:pq l=some fU):fU=l/\(∀ts t0 dt,vp ts t0 dt l=l)/\∃k es,l.fI=some (.J k es)/\∀{w ω τ y},Sat w ω τ l y->bQ w ω Tag.free.R (.J k es) y:=by
 unfold pq at h;split at h
 ·rename_i t k es;cases h;exact⟨rfl,fun _ _ _=>rfl,k,es,rfl,fun ai=>ai.1⟩
 ·rename_i k es;cases h;exact⟨rfl,fun _ _ _=>by simp[az.ct,zf,Tag.n5,fL],k,es,rfl,fun ai=>ai.1⟩
 cases h
theorem ajh{ls:List az}{j:Nat}(h:(rN ls)[j]?=some (some l)):ls[j]?=some l/\pq l=some l:=by
 grind[rN,bX,zg]
theorem IZ{ls:List az}{j:Nat}(ap:ls[j]?=some l):stays (kd (rN ls)) j=(pq l).isSome:=by
 unfold rN;split
 ·rename_i h;have:=fx.1 h (pq l) (lJ.2 ⟨l,fl ap,rfl⟩);simp only[stays,kd,List.map_nil,List.getD_nil];simp_all
 simp_all[stays,kd,List.map_map]
def uB(cn:List aE):List (Option Nat)->Option (List (Option az))
 | []=>some []
 | none::r=>(uB cn r).map fun x=>none::x
 | some a::r=>
  match cn[a]? with
  | some (.aF (.one l))=>
   match pq l,uB cn r with
   | some fU,some lH=>some (some fU::lH)
   | _,_=>none
  | _=>none
theorem Df{cn:List aE}:∀{src:List (Option Nat)} {nk:List (Option az)},uB cn src=some nk->vr src=kd nk/\∀(j:Nat) (l:az),nk[j]?=some (some l)->∃a,src[j]?=some (some a)/\cn[a]?=some (.aF (.one l))/\pq l=some l
 | [],nk,h=>by
  simp only[uB,aS]at h;subst h;exact⟨rfl,fun j l h=>by simp at h⟩
 | none::r,nk,h=>by
  simp only[uB,bX]at h;obtain⟨x,h1,rfl⟩:=h;obtain⟨g1,g2⟩:=Df h1;grind[vr,kd]
 | some a::r,nk,h=>by
  simp only[uB]at h;split at h
  ·rename_i l e;split at h
   ·rename_i fU lH e1 e2;simp only[aS]at h;subst h;obtain⟨g1,g2⟩:=Df e2;have:=(zg e1).1;subst this;refine⟨by grind[vr,kd],fun j l bg=>?_⟩;grind
   cases h
  cases h
def TA:aE->Option Nat
 | .aF (.one (.ptr id 0))=>some id
 | _=>none
structure A2 where
 ny:List aL
 refs:List h9
 ts:List (Nat×Nat)
 oj:List az
def qX:aE->Option (FuncId×List Nat)
 | .aF (.one (.fR g ids))=>some (g,ids)
 | _=>none
def N0(id:Nat):aE:=.aF (.one (.ptr id 0))
def oF(bs:kJ):Nat->List (Option (List D))->List aE->Option A2
 | _,[],[]=>some ⟨[],[],[],[]⟩
 | i,none::ms,p::cn=>
  match qX p with
  | some (g,ids)=>(oF bs (i+1) ms cn).map fun r=>⟨.fn g (List.range' (i+1) ids.length)::r.ny,r.refs,r.ts,r.oj⟩
  | none=>
   match p.Be,oF bs (i+1) ms cn with
   | some (ci,ls),some r=>some ⟨.ro ci::r.ny,r.refs,r.ts,ls++r.oj⟩
   | _,_=>none
 | i,some post::ms,p::cn=>
  match TA p,oF bs (i+1) ms cn with
  | some id,some r=>
   match df id bs with
   | some ls=>
    match ls.mapM az.DX with
    | some pre=>some ⟨.hJ (kd (rN ls)) pre post::r.ny,⟨i,id,post,rN ls⟩::r.refs,vb i 0 ls++r.ts,r.oj⟩
    | none=>none
   | none=>none
  | _,_=>none
 | _,_,_=>none
def A3(bs:kJ)(a:A2)(i:Nat)(iA:aL)(p:aE):Prop:=
 (∃g ids,iA=.fn g (List.range' (i+1) ids.length)/\p=.aF (.one (.fR g ids)))\/
 (∃ci ls,iA=.ro ci/\p.Be=some (ci,ls)/\∀l∈ls,l∈a.oj)\/
 (∃id ls pre post,iA=.hJ (kd (rN ls)) pre post/\p=.aF (.one (.ptr id 0))/\df id bs=some ls/\ls.mapM az.DX=some pre/\(⟨i,id,post,rN ls⟩:h9)∈a.refs/\∀x∈vb i 0 ls,x∈a.ts)
theorem A3.mono{bs:kJ}{a b:A2}{i:Nat}{iA:aL}{p:aE}(h:A3 bs a i iA p)(h1:∀l∈a.oj,l∈b.oj)(U:∀x∈a.refs,x∈b.refs)(ax:∀x∈a.ts,x∈b.ts):A3 bs b i iA p:=by
 rcases h with h | ⟨ci,ls,e1,e2,cb⟩ | ⟨id,ls,pre,post,e1,e2,cb,d',gY,lh⟩
 ·exact .inl h
 ·exact .inr (.inl ⟨ci,ls,e1,e2,fun l ap=>h1 l (cb l ap)⟩)
 exact .inr (.inr ⟨id,ls,pre,post,e1,e2,cb,d',U _ gY,fun x ak=>ax x (lh x ak)⟩)
theorem Dg{bs:kJ}:∀{ms:List (Option (List D))} {cn:List aE} {i:Nat} {a:A2},oF bs i ms cn=some a->a.ny.length=cn.length/\
  (∀(x:Nat) (iA:aL),a.ny[x]?=some iA->∃p,cn[x]?=some p/\A3 bs a (i+x) iA p)/\
  (∀r∈a.refs,∃(x:Nat) (pre:List D),r.i=i+x/\a.ny[x]?=some (.hJ (kd r.fe) pre r.post)/\cn[x]?=some (.aF (.one (.ptr r.id 0)))/\∃ls,df r.id bs=some ls/\r.fe=rN ls)
 | [],[],i,a,h=>by
  simp only[oF,aS]at h;grind
 | none::ms,p::cn,i,a,h=>by
  simp only[oF]at h;split at h
  ·rename_i g ids bB;rw[bX]at h;obtain⟨r,e2,rfl⟩:=h;obtain⟨dq,c4,b8⟩:=Dg e2;have hp:p=.aF (.one (.fR g ids)):=by
    unfold qX at bB;grind
   refine⟨by simp[dq],fun x iA ak=>?_,fun y bD=>?_⟩
   ·cases x with
    | zero=>
     simp only[kI,aS]at ak;subst ak;exact⟨p,rfl,.inl ⟨g,ids,rfl,hp⟩⟩
    | succ x=>
     obtain⟨pk,h1,U⟩:=c4 x iA (by grind);refine⟨pk,by grind,?_⟩;rw[show i+1+x=i+(x+1) by omega]at U;exact U.mono (fun _ h=>h) (fun _ h=>h) (fun _ h=>h)
   obtain⟨x,pre,h1,U,ax,aJ⟩:=b8 y bD;exact⟨x+1,pre,by omega,by grind,by grind,aJ⟩
  split at h
  ·rename_i ci ls r e1 e2;simp only[aS]at h;subst h;obtain⟨dq,c4,b8⟩:=Dg e2;refine⟨by simp[dq],fun x iA ak=>?_,fun y bD=>?_⟩
   ·cases x with
    | zero=>
     simp only[kI,aS]at ak;subst ak;exact⟨p,rfl,.inr (.inl ⟨ci,ls,rfl,e1,fun l ap=>hP _ ap⟩)⟩
    | succ x=>
     obtain⟨pk,h1,U⟩:=c4 x iA (by grind);refine⟨pk,by grind,?_⟩;rw[show i+1+x=i+(x+1) by omega]at U;exact U.mono (fun l ap=>iC _ ap) (fun _ h=>h) (fun _ h=>h)
   obtain⟨x,pre,h1,U,ax,aJ⟩:=b8 y bD;exact⟨x+1,pre,by omega,by grind,by grind,aJ⟩
  cases h
 | some post::ms,p::cn,i,a,h=>by
  simp only[oF]at h;split at h
  ·rename_i id r e1 e2;split at h
   ·rename_i ls cb;split at h
    ·rename_i pre d';simp only[aS]at h;subst h;obtain⟨dq,c4,b8⟩:=Dg e2;have hp:p=.aF (.one (.ptr id 0)):=by
      unfold TA at e1;grind
     refine⟨by simp[dq],fun x iA ak=>?_,fun y bD=>?_⟩
     ·cases x with
      | zero=>
       simp only[kI,aS]at ak;subst ak;exact⟨p,rfl,.inr (.inr ⟨id,ls,pre,post,rfl,hp,cb,d',j1,fun x ak=>hP _ ak⟩)⟩
      | succ x=>
       obtain⟨pk,h1,U⟩:=c4 x iA (by grind);refine⟨pk,by grind,?_⟩;rw[show i+1+x=i+(x+1) by omega]at U;exact U.mono (fun _ h=>h) (fun x h=>hQ _ h) (fun x h=>iC _ h)
     rcases ep.1 bD with rfl | bD
     ·grind
     obtain⟨x,Cc,h1,U,ax,aJ⟩:=b8 y bD;exact⟨x+1,Cc,by omega,by grind,by grind,aJ⟩
    cases h
   cases h
  cases h
 | [],_::_,i,a,h=>by grind[oF]
 | none::_,[],i,a,h=>by grind[oF]
 | some _::_,[],i,a,h=>by grind[oF]
def aT.Fe(d:Option Nat):aT->Bool
 | .vals rs=>IY rs
 | .im _ ds=>d.isSome&&decide (ds.length<100)
def aT.dt(d:Option Nat):aT->Option Nat
 | .vals _=>none
 | .im _ _=>d
def aT.mY:aT->List D
 | .vals _=>[]
 | .im _ ds=>ds
def aT.nk(cn:List aE):aT->Option (List (Option az))
 | .vals _=>some []
 | .im src _=>uB cn src
theorem aT.VT{d:Option Nat}{r:aT}(h:r.Fe d=true):r.fits (r.dt d) r.mY:=by
 cases r with
 | vals rs=>exact⟨rfl,h⟩
 | im src ds=>
  simp only[aT.Fe,cF,cW]at h;exact⟨h.1,rfl,h.2⟩
def s0(n:Nat):Nat->List aL->Bool
 | _,[]=>true
 | i,.fn _ _::r=>i+1==n&&s0 n (i+1) r
 | i,_::r=>s0 n (i+1) r
theorem Dh{n:Nat}:∀{as:List aL} {i x:Nat} {g:FuncId} {cG:List Nat},s0 n i as=true->as[x]?=some (.fn g cG)->i+x+1=n
 | [],_,_,_,_,_,h=>by simp at h
 | .fn _ _::r,i,0,g,cG,h,ak=>by
  simp_all[s0,cF,jL]
 | .fn _ _::r,i,x+1,g,cG,h,ak=>by
  simp only[s0,cF,jL]at h;have:=Dh h.2 (x:=x) (by simpa using ak);omega
 | .ro _::r,i,0,g,cG,h,ak=>by simp at ak
 | .hJ _ _ _::r,i,0,g,cG,h,ak=>by simp at ak
 | .ro _::r,i,x+1,g,cG,h,ak=>by
  have:=Dh (i:=i+1) (by simpa[s0]using h) (x:=x) (by simpa using ak);omega
 | .hJ _ _ _::r,i,x+1,g,cG,h,ak=>by
  have:=Dh (i:=i+1) (by simpa[s0]using h) (x:=x) (by simpa using ak);omega
def zh(P:Program)(st:aD)(d:Option Nat)(f:FuncId)(n:Nat)(cn:List aE)(ans:List b4):Option (aD×List b4×List Prop):=
 match ans with
 | .dg uD gN::r=>
  match oF st.boxes 0 uD cn,gN.nk cn with
  | some a,some nk=>
   let t0:=10000*(d.getD 0+1)
   if iv P f=true/\t0+10000<=cX/\wB a.refs (gN.dt d)=true/\IS a.ts=true/\gN.Fe d=true/\a.oj.all (fun l=>!(l.n5 a.ts))=true/\r3 a.ny=n/\s0 n 0 a.ny=true then
    let bn:=st.vq a.ts t0 a.refs (gN.dt d) nk gN.mY
    match d with
    | some d=>some (⟨bn.env.set d (gN.nc t0 (gN.dt (some d))),bn.boxes⟩,r,[bT P f a.ny gN])
    | none=>some (bn,r,[bT P f a.ny gN])
   else none
  | _,_=>none
 | _=>none
def I0(P:Program)(st:aD)(d:Option Nat)(f:FuncId)(args:List Operand)(ans:List b4):Option (aD×List b4×List Prop):=
 match (args.map st.bh).getLast?.bind qX with
 | some (_,ids)=>zh P st d f args.length (args.map st.bh++ids.map N0) ans
 | none=>zh P st d f args.length (args.map st.bh) ans
def I1(P:Program)(st:aD)(d:Option Nat)(f:Operand)(args:List Operand)(ans:List b4):Option (aD×List b4×List Prop):=
 match qX (st.bh f) with
 | some (g,ids)=>if (args.map st.bh).all (fun p=>(qX p).isNone) then zh P st d g (args.length+ids.length) (args.map st.bh++ids.map N0) ans else none
 | none=>none
variable{a:Act}{P:Program}{w0:ee}{st bn:aD}{dst:Option Nat}{ans b':List b4}{obs:List Prop}
theorem I2{f:FuncId}{n:Nat}{cn:List aE}{vs:Array Value}{o:Oper}
  (FJ:o.dst=dst) (aU:cr w0 st a w ω τ) (h:zh P st dst f n cn ans=some (bn,b',obs)) (aZ:cA obs) (dN:vs.size=cn.length) (gi:∀(x:Nat) (p:aE),cn[x]?=some p->∃v,vs[x]?=some v/\cE (Sat w ω τ) p v)
  (kp:∀(x:Nat) (g:FuncId) (ids:List Nat),x+1=n->cn[x]?=some (.aF (.one (.fR g ids)))->vs[x]?=some (.func (.func g) #[] ((List.range' n ids.length).map fun k=>vs.getD k undef).toArray))
  (e5:iv P f=true->(execOp a.eval o).run P w=.ok (.enter f (vs.extract 0 n)) w) {K:Act->World->Prop} {Q:Exit->Act->World->Prop} (hl:∀cx aM,Rel w0 bn cx aM->K cx aM):
  Oper.wp P o a w K Q:=by
 unfold zh at h;split at h
 ·rename_i uD gN r;split at h
  ·rename_i qU nk ll yo;simp only at h;split at h
   ·rename_i al;obtain⟨ie,hZ,cJ,BL,dX,BU,Ga,sy⟩:=al;rw[fx]at BU;have yt:∀l∈qU.oj,l.n5 qU.ts=false:=fun l ap=>by grind
    obtain⟨hlen,c4,b8⟩:=Dg ll
    let xx:Own:=fun b=>gr (jV qU.refs) qU.ts (ω b)
    have c3:∀b,xx b≠.bt->ω b≠.bt:=fun b h e=>h (by simp only[xx,e];rfl)
    have Xn:EX w xx qU.ny vs:=by
     refine⟨fun b aw=>(aU.owned b (c3 b aw)).2,fun b i aw=>?_,by grind,fun x iA ak=>?_⟩
     ·simp only[xx]at aw;cases e:ω b with
      | bt=>grind
      | tok s q=>grind[gr]
      | box hn=>
       rw[e]at aw;simp only[gr]at aw;split at aw
       ·rename_i fm nK;simp only[c0.box.injEq]at aw;subst aw;obtain⟨lH,et,_,xN⟩:=De nK;grind
       cases aw
     obtain⟨p,hp,pZ⟩:=c4 x iA ak;obtain⟨v,bz,ai⟩:=gi x p hp;refine⟨v,bz,?_⟩;rw[dF]at pZ;rcases pZ with⟨g,ids,rfl,_⟩ | ⟨ci,ls,rfl,e2,cb⟩ | ⟨id,ls,pre,post,rfl,rfl,cb,d',gY,lh⟩
     ·exact trivial
     ·cases p with
      | fv as=>cases e2
      | aF aF=>
       cases aF with
       | one l=>
        simp only[aE.Be,bX]at e2;obtain⟨d,h1,U⟩:=e2;simp only[bq]at U;obtain⟨rfl,rfl⟩:=U;exact OH h1 (yt l (cb l (by simp))) ai
       | agg e6=>
        simp only[aE.Be,bX]at e2;obtain⟨ds,h1,U⟩:=e2;simp only[bq]at U;obtain⟨rfl,rfl⟩:=U;obtain⟨ax,aJ⟩:=l' h1;obtain⟨vs,rfl,a8,XI⟩:=ai;refine⟨vs,rfl,by omega,fun j d aG=>?_⟩;obtain⟨l,ap,cR⟩:=aJ j d aG;obtain⟨u,hu,fc⟩:=XI j l ap;exact⟨u,hu,OH cR (yt l (cb l (fl ap))) fc⟩
     obtain⟨b,aw,rfl⟩:=ai;obtain⟨da,arr,ty,eh,hu,bH,ei⟩:=aU.boxes id ls cb;have:=hu b aw;subst this;have W5:=OG cJ gY;simp only at W5;obtain⟨ax,aJ⟩:=l' d';refine⟨⟨b,arr,ty,rfl,by grind[gr],fun c al=>?_,bH,by have:=ei.1;omega,fun j d aG=>?_⟩,fun j d aG eP=>?_⟩
     ·simp only[xx]at al;cases e:ω c with
      | bt=>grind
      | tok s q=>grind[gr]
      | box hn=>
       grind[gr,c0.box.injEq,De,rM]
     rotate_left
     ·obtain⟨l,ap,cR⟩:=aJ j d aG;obtain⟨u,gv,fc⟩:=ei.2 j l ap;rw[IZ ap]at eP;obtain⟨fU,oX⟩:=pQ.1 eP;obtain⟨rfl,_,k,es,dd,rf⟩:=zg oX;simp only[az.DX,oX]at cR;rw[dd]at cR;cases cR;have e:hF w (.pointer (some ⟨b,0,none⟩)) j=u:=by simp[hF,bH,er,gv]
      rw[e];refine (rf fc).frame fun c q _ aK=>⟨?_,rfl⟩
      grind[Tag.R,gr]
     obtain⟨l,ap,cR⟩:=aJ j d aG;obtain⟨u,gv,fc⟩:=ei.2 j l ap;refine⟨u,gv,fun eP=>?_⟩;rw[IZ ap]at eP;have Ng:pq l=none:=by simpa using eP
     simp only[az.DX,Ng]at cR;clear eP Ng;cases l with
     | v z=>
      simp only[az.hM]at cR;split at cR
      ·simp only[aS]at cR;subst cR;have:u=z:=fc;subst this;exact .v _ _ ‹_›
      cases cR
     | a' c=>
      simp only[az.hM,aS]at cR;subst cR;have:u=.bool c:=fc;subst this;exact .v _ _ rfl
     | J g k es=>
      cases g with
      | free=>cases cR
      | ro s=>cases cR
      | own s=>
       simp only[az.hM,aS]at cR;subst cR;have hm:=lh _ (OI (i:=x) (j0:=0) ap rfl);rw[dF]at hm;have at5:=OC BL hm;refine fc.1.frame fun c q _ aK=>⟨?_,rfl⟩
       grind[Tag.R,gr]
     | cj=>cases cR
     | ptr=>cases cR
     | cB=>cases cR
     | ha=>cases cR
     | fd=>cases cR
     | c'=>cases cR
     | fR=>cases cR
     | aO=>cases cR
     | eX=>cases cR
    have FP:ET qU.ny vs:=by
     intro x g cG ak;have yC:=Dh sy ak;rw[dF]at yC;obtain⟨p,hp,pZ⟩:=c4 x _ ak;rw[dF]at pZ;rcases pZ with⟨dW,ids,e1,rfl⟩ | ⟨ci,ls,e1,_⟩ | ⟨id,ls,pre,post,e1,_⟩
     ·grind
     ·cases e1
     cases e1
    have key:bT P f qU.ny gN->(∀v aM a7 cI,cr w0 (st.vq qU.ts (10000*(dst.getD 0+1)) qU.refs (gN.dt dst) nk gN.mY) a aM a7 cI->cE (Sat aM a7 cI) (gN.nc (10000*(dst.getD 0+1)) (gN.dt dst)) v->K (a.put dst v) aM)->
      Oper.wp P o a w K Q:=by
     intro F' MG;unfold Oper.wp;rw[e5 ie,<-Ga];simp only[Oper.upon];rw[FJ];refine (F' w _ xx Xn FP (aU.tidy fun b aw=>by grind)).mono ?_;rintro e aM ⟨v,rfl,j5,eS,c1,c2,cu,dU⟩;obtain⟨a7,cI,h1,U⟩:=aU.VI (10000*(dst.getD 0+1)) (nk:=nk) (ys:=fun i=>vs.getD i undef) cJ hZ j5 eS c1 c2 (fun r aH=>by
      obtain⟨x,pre,g1,g2,g3,g4⟩:=b8 r aH;rw[dF]at g1;obtain⟨y,bD,ai⟩:=gi x _ g3;obtain⟨b,aw,rfl⟩:=ai;have e:vs.getD r.i undef=ptrTo b:=by rw[g1,er,bD];rfl
      rw[e];obtain⟨ls,g5,g6⟩:=g4;simp_all[ptrTo]) dU (aT.VT dX) (fun d aG=>by
      cases gN with
      | vals rs=>cases aG
      | im src ds=>
       have aG:dst=some d:=aG;grind) (fun r aH j l bg=>by
      obtain⟨x,pre,g1,g2,g3,ls,g5,g6⟩:=b8 r aH;rw[dF]at g1;obtain⟨y,bD,ai⟩:=gi x _ g3;obtain⟨b,aw,rfl⟩:=ai;have e:vs.getD r.i undef=ptrTo b:=by rw[g1,er,bD];rfl
      rw[e];rw[g6]at bg;obtain⟨i1,i2⟩:=ajh bg;refine⟨(zg i2).2.1 _ _ _,?_⟩;have eP:stays (kd r.fe) j=true:=by simp_all[IZ]
      rw[(cu r.i _ pre r.post (ptrTo b) (by grind) (by simp_all)).2 j eP];obtain⟨da,arr,ty,eh,hu,bH,ei⟩:=aU.boxes _ ls g5;have:=hu b aw;subst this;obtain⟨u,gv,fc⟩:=ei.2 j l i1;have e:hF w (ptrTo b) j=u:=by simp[hF,ptrTo,bH,er,gv]
      grind) (fun j l bg=>by
      cases gN with
      | vals rs=>
       grind[aT.nk,aS]
      | im src ds=>
       obtain⟨_,i2⟩:=Df yo;obtain⟨x,wj,ux,XW⟩:=i2 j l bg;refine⟨(zg XW).2.1 _ _ _,?_⟩;obtain⟨y,bD,ai⟩:=gi x _ ux;have:=dU.2 j x wj;rw[bD]at this;rw[<-gP this];exact ai) (fun src ds e=>by
      subst e;exact (Df yo).1)
     grind
    cases dst with
    | none=>
     simp only[aS,bq]at h;obtain⟨rfl,_,rfl⟩:=h;exact key aZ.1 fun v aM a7 cI h1 _=>hl _ _ ⟨a7,cI,h1⟩
    | some d=>
     simp only[aS,bq]at h;obtain⟨rfl,_,rfl⟩:=h;exact key aZ.1 fun v aM a7 cI h1 U=>hl _ _ ⟨a7,cI,h1.put U⟩
   cases h
  cases h
 cases h
theorem aji{f:FuncId}{args:Array Operand}{ts:Array TypeId}{type:TypeId}{pos:String}{after:Array Edge}{guard:Option (Nat×Bool)}
  (aU:cr w0 st a w ω τ) (h:I0 P st dst f args.toList ans=some (bn,b',obs)) (aZ:cA obs) {K:Act->World->Prop} {Q:Exit->Act->World->Prop} (hl:∀cx aM,Rel w0 bn cx aM->K cx aM):
  Oper.wp P ⟨dst,.call ⟨.value (.func f),args,ts⟩,type,pos,after,guard⟩ a w K Q:=by
 have gi:∀(x:Nat) (p:aE),(args.toList.map st.bh)[x]?=some p->∃v,(args.map a.eval)[x]?=some v/\cE (Sat w ω τ) p v:=by
  intro x p hp;rw[dr,bX]at hp;obtain⟨o,h1,rfl⟩:=hp;refine⟨a.eval o,?_,aU.bh o⟩;grind
 have e5:iv P f=true->(execOp a.eval ⟨dst,.call ⟨.value (.func f),args,ts⟩,type,pos,after,guard⟩).run P w=.ok (.enter f (args.map a.eval)) w:=by
  intro ie;unfold iv at ie;split at ie
  ·rename_i fn kp;simp only[cF,h8,xr,mr]at ie;have q9:fn.body≠none:=by grind
   simp[execOp,resolve,Act.eval,Deferred.ofValue,invoke,callFunc,kp,ie.1,q9]
  cases ie
 unfold I0 at h;split at h
 ·rename_i g ids sB;rw[la]at sB;obtain⟨p,hp,FE⟩:=sB;have o4:p=.aF (.one (.fR g ids)):=by
   unfold qX at FE;grind
  subst o4;have FZ:0<(args.toList.map st.bh).length:=by
   grind
  have Ni:(args.toList.map st.bh)[args.toList.length-1]?=some (.aF (.one (.fR g ids))):=by
   grind
  obtain⟨v,bz,bs,FC,uc,fr⟩:=gi _ _ Ni;have a8:0<args.size:=by grind
  refine I2 (n:=args.toList.length) (vs:=args.map a.eval++(bs.map ptrTo).toArray) rfl aU h aZ (by simp[uc]) (fun x p ak=>?_) (fun x dW XS yC ak=>?_) (fun ie=>?_) hl
  ·rw[ov]at ak;rw[iD];split at ak
   ·grind
   rename_i nV;rw[bG (by grind)];rw[dr,bX]at ak;obtain⟨id,gh,rfl⟩:=ak;obtain⟨b,gG,gH⟩:=fr _ id gh;refine⟨ptrTo b,?_,b,gH,rfl⟩;grind
  ·have bJ:x<args.size:=by grind
   have wg:x=args.toList.length-1:=by omega
   rw[ov,bM (by grind),wg,Ni]at ak;simp only[aS,aE.aF.injEq,bm.one.injEq,az.fR.injEq]at ak;obtain⟨rfl,rfl⟩:=ak;rw[iD,bM (by grind),wg,bz,FC]
   congr 2
   apply Array.ext
   ·simp[uc]
   simp_all
  have e:(args.map a.eval++(bs.map ptrTo).toArray).extract 0 args.toList.length=args.map a.eval:=by
   simp_all
  grind
 refine I2 (n:=args.toList.length) (vs:=args.map a.eval) rfl aU h aZ (by simp) gi (fun x g ids yC ak=>?_) (fun ie=>?_) hl
 ·rename_i kr;exfalso;have:(args.toList.map st.bh).getLast?=some (.aF (.one (.fR g ids))):=by
   grind
  grind[qX]
 have e:(args.map a.eval).extract 0 args.toList.length=args.map a.eval:=by simp
 grind
theorem ajj{y:Nat}{args:Array Operand}{ts:Array TypeId}{type:TypeId}{pos:String}{after:Array Edge}{guard:Option (Nat×Bool)}
  (aU:cr w0 st a w ω τ) (h:I1 P st dst (.tmp y) args.toList ans=some (bn,b',obs)) (aZ:cA obs) {K:Act->World->Prop} {Q:Exit->Act->World->Prop} (hl:∀cx aM,Rel w0 bn cx aM->K cx aM):
  Oper.wp P ⟨dst,.call ⟨.value (.tmp y),args,ts⟩,type,pos,after,guard⟩ a w K Q:=by
 have gi:∀(x:Nat) (p:aE),(args.toList.map st.bh)[x]?=some p->∃v,(args.map a.eval)[x]?=some v/\cE (Sat w ω τ) p v:=by
  intro x p hp;rw[dr,bX]at hp;obtain⟨o,h1,rfl⟩:=hp;refine⟨a.eval o,?_,aU.bh o⟩;grind
 unfold I1 at h;split at h
 ·rename_i g ids FE;have o4:st.bh (.tmp y)=.aF (.one (.fR g ids)):=by
   unfold qX at FE;grind
  have ai:=aU.bh (.tmp y);rw[o4]at ai;obtain⟨bs,FC,uc,fr⟩:=ai;split at h
  case isFalse=>cases h
  rename_i kr;refine I2 (n:=args.toList.length+ids.length) (vs:=args.map a.eval++(bs.map ptrTo).toArray) rfl aU h aZ (by simp[uc]) (fun x p ak=>?_) (fun x dW XS yC ak=>?_) (fun ie=>?_) hl
  ·rw[ov]at ak;rw[iD];split at ak
   ·grind
   rename_i nV;rw[bG (by grind)];rw[dr,bX]at ak;obtain⟨id,gh,rfl⟩:=ak;obtain⟨b,gG,gH⟩:=fr _ id gh;refine⟨ptrTo b,?_,b,gH,rfl⟩;grind
  ·exfalso;rw[ov]at ak;split at ak
   ·rename_i bJ;have:=fx.1 kr _ (fl ak);grind[qX]
   rw[dr,bX]at ak;obtain⟨id,_,e⟩:=ak;cases e
  have e:(args.map a.eval++(bs.map ptrTo).toArray).extract 0 (args.toList.length+ids.length)=args.map a.eval++(bs.map ptrTo).toArray:=by
   have e2:args.toList.length+ids.length=(args.map a.eval++(bs.map ptrTo).toArray).size:=by simp[uc]
   grind
  rw[e];unfold iv at ie;split at ie
  ·rename_i fn kp;simp only[cF,h8,xr,mr]at ie;have q9:fn.body≠none:=by grind
   simp[execOp,resolve,FC,Deferred.ofValue,invoke,callFunc,kp,ie.1,q9]
  cases ie
 cases h
