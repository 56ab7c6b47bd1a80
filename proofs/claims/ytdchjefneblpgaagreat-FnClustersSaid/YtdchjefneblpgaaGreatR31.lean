import Derived.Test.YtdchjefneblpgaaGreatR11
set_option linter.unusedVariables false
set_option linter.unusedSimpArgs false
namespace Go.Sx
open Go.RowKit
inductive aN where
 | ro (a:cQ)
 | iq (pn:List Bool) (pre post:List D)
 | fn (g:FuncId) (cT:List Nat)
abbrev aN.ref (pre post : List D) : aN := .iq [] pre post
abbrev aN.cur(pre post:List D):aN:=.iq [true,false,false] pre post
def stays(pn:List Bool)(j:Nat):Bool:=pn.getD j false
def iH(w:World)(y:Value)(j:Nat):Value:=
 match y with
 | .pointer (some p)=>match w.heap[p.block]? with | some (.cells arr _ _)=>arr.getD j undef | _=>undef
 | _=>undef
def qP(i j:Nat):Nat:=900000000+(100*i+j)
def hs(i j:Nat):Nat:=5000+(100*i+j)
def vI(w:World)(ω:Own)(i:Nat)(pn:List Bool)(f:Nat->Nat)(ds:List D)(y:Value):Prop:=
 ∃b arr ty,y=ptrTo b/\ω b=.box i/\(∀da,ω da=.box i->da=b)/\w.heap[b]?=some (.cells arr ty (0,0))/\arr.size=ds.length/\∀(j:Nat) (d:D),ds[j]?=some d->∃u,arr[j]?=some u/\(stays pn j=false->b7 w ω (Tag.own (f j)).R d u)
def ZF(w:World)(ω:Own)(i:Nat):aN->Value->Prop
 | .ro (.one d),y=>b7 w ω Tag.free.R d y
 | .ro (.agg ds),y=>∃vs:Array Value,y=.agg vs/\vs.size=ds.length/\∀(j:Nat) (d:D),ds[j]?=some d->∃u,vs[j]?=some u/\b7 w ω Tag.free.R d u
 | .iq pn pre _,y=>vI w ω i pn (qP i) pre y/\∀(j:Nat) (d:D),pre[j]?=some d->stays pn j=true->b7 w ω Tag.free.R d (iH w y j)
 | .fn _ _,_=>True
def aN.bB:aN->Nat
 | .fn _ cT=>cT.length
 | _=>0
def tk(args:List aN):Nat:=args.length-(args.map aN.bB).sum
def Hc(args:List aN)(vs:Array Value):Prop:=∀(i:Nat) (g:FuncId) (cT:List Nat),args[i]?=some (.fn g cT)->vs[i]?=some (.func (.func g) #[] (cT.map fun k=>vs.getD k undef).toArray)
def E'(w:World)(ω:Own):Prop:=∀b,ω b≠.bO->∃arr ty,w.heap[b]?=some (.cells arr ty (0,0))
def Hk(w:World)(ω:Own)(args:List aN)(vs:Array Value):Prop:=E' w ω/\(∀b i,ω b=.box i->∃pn pre post,args[i]?=some (.iq pn pre post))/\vs.size=args.length/\∀(i:Nat) (jf:aN),args[i]?=some jf->∃v,vs[i]?=some v/\ZF w ω i jf v
def xI(src:List (Option Nat)):List Bool:=src.map Option.isSome
def Da(w:World)(ω:Own)(vs:Array Value):aV->Value->Prop
 | .vals rs,v=>nO w ω rs v
 | .hX src ds,v=>vI w ω 49 (xI src) (hs 49) ds v/\∀(j i:Nat),src[j]?=some (some i)->vs[i]?=some (iH w v j)
def bZ(P:Program)(f:FuncId)(args:List aN)(r:aV):Prop:=
 ∀(w:World) (vs:Array Value) (ω:Own),Hk w ω args vs->Hc args vs->Tidy w ω->Calls P f (vs.extract 0 (tk args)) w fun e aS=>∃v,e=.returned v/\hr ⟨w,fun b=>ω b≠.bO,fun _=>(0,undef)⟩ aS/\
  ∃a':Own,(∀b,b<w.heap.size->ω b=.bO->a' b=.bO)/\E' aS a'/\(∀(i:Nat) (pn:List Bool) (pre post:List D) (y:Value),args[i]?=some (.iq pn pre post)->vs[i]?=some y->vI aS a' i pn (hs i) post y/\∀j,stays pn j=true->iH aS y j=iH w y j)/\Da aS a' vs r v
abbrev ayI:=List (Nat×Nat)
def look(t:Nat):List (Nat×Nat)->Option Nat
 | []=>none
 | (s,n)::r=>if s=t then some n else look t r
def Kc(ts:List (Nat×Nat)):Bool:=ts.all fun x=>ts.all fun y=>(x.1==y.1)==(x.2==y.2)
variable{ts:List (Nat×Nat)}
theorem RC{t n:Nat}(h:Kc ts=true)(hm:(t,n)∈ts):look t ts=some n:=by
 have key:∀l:List (Nat×Nat),(∀x∈l,x∈ts)->(t,n)∈l->look t l=some n:=by
  intro l;induction l with
  | nil=>intro _ h;cases h
  | cons x l dI=>
   intro ai hm;obtain⟨s,m⟩:=x;simp only[look];split
   ·rename_i e;subst e;have h1:=fK.1 (fK.1 h _ (ai _ eO)) _ (by exact ‹(s,n)∈ts›);simp only[tx,ed]at h1;have:(m==n)=true:=by rw[<-h1]
    simp only[ed]at this;rw[this]
   rename_i ct;rcases ez.1 hm with e | hm
   ·simp only[bJ]at e;exact absurd e.1.symm ct
   exact dI (fun x aa=>ai x (fi _ aa)) hm
 exact key ts (fun _ h=>h) hm
theorem ar8{t n:Nat}(h:look t ts=some n):(t,n)∈ts:=by
 induction ts with
 | nil=>cases h
 | cons x l dI=>
  obtain⟨s,m⟩:=x;simp only[look]at h;split at h
  ·rename_i e;subst e;rw[eE h];exact eO
  exact fi _ (dI h)
def gR(bs ts:List (Nat×Nat)):c8->c8
 | .bO=>.bO
 | .box id=>match look id bs with | some i=>.box i | none=>.bO
 | .tok t q=>match look t ts with | some n=>.tok n q | none=>.bO
def Tag.pq(ts:List (Nat×Nat)):Tag->Bool
 | .free=>false
 | .own t=>(look t ts).isSome
 | .ro t=>(look t ts).isSome
def rq:Option Nat->Nat->Bool
 | none=>fun _=>true
 | some d=>jI d
def y5(ts:List (Nat×Nat))(t0:Nat)(g:Tag):Option Tag:=if g.pq ts then none else gF t0 g
abbrev xF(ts:List (Nat×Nat))(t0:Nat)(dL:Option Nat)(l:aH):aH:=l.cz (y5 ts t0) (rq dL)
structure jl where
 i:Nat
 id:Nat
 post:List D
 eN:List (Option aH)
def kP(cT:List (Option aH)):List Bool:=cT.map Option.isSome
def k8:List (Option aH)->List aH->List aH
 | [],ls=>ls
 | _,[]=>[]
 | some l::cT,_::ls=>l::k8 cT ls
 | none::cT,l::ls=>l::k8 cT ls
theorem Fa:∀(cT:List (Option aH)) (ls:List aH),(k8 cT ls).length=ls.length
 | [],ls=>rfl
 | _::_,[]=>by simp[k8]
 | some l::cT,_::ls=>by simp[k8,Fa cT ls]
 | none::cT,_::ls=>by simp[k8,Fa cT ls]
theorem Kd:∀(cT:List (Option aH)) (ls:List aH) (j:Nat) (l:aH),(k8 cT ls)[j]?=some l->(cT[j]?=some (some l)/\stays (kP cT) j=true)\/(ls[j]?=some l/\stays (kP cT) j=false)
 | [],ls,j,l,h=>.inr ⟨h,by simp[stays,kP]⟩
 | _::_,[],j,l,h=>by simp[k8]at h
 | some k::cT,x::ls,0,l,h=>by simp only[k8,kg,aX]at h;subst h;exact .inl ⟨rfl,rfl⟩
 | none::cT,x::ls,0,l,h=>by simp only[k8,kg]at h;exact .inr ⟨h,rfl⟩
 | some k::cT,x::ls,j+1,l,h=>by
  have:=Kd cT ls j l (by simpa[k8]using h);simpa[stays,kP]using this
 | none::cT,x::ls,j+1,l,h=>by
  have:=Kd cT ls j l (by simpa[k8]using h);simpa[stays,kP]using this
def wP(t0:Nat):List jl->List (Nat×List aH)->List (Nat×List aH)
 | [],bs=>bs
 | r::rs,bs=>wP t0 rs (qI r.id (k8 r.eN (nP (t0+hs r.i 0) 0 r.post)) bs)
def RD(t0:Nat)(dL:Option Nat)(nk:List (Option aH))(ds:List D)(bs:List (Nat×List aH)):List (Nat×List aH):=
 match dL with
 | some d=>(d,k8 nk (nP (t0+hs 49 0) 0 ds))::px d bs
 | none=>bs
def aF.xG(st:aF)(ts:List (Nat×Nat))(t0:Nat)(refs:List jl)(dL:Option Nat)(nk:List (Option aH))(ds:List D):aF:=
 ⟨st.env.map (aJ.map (xF ts t0 dL)),RD t0 dL nk ds (wP t0 refs (st.boxes.map fun x=>(x.1,x.2.map (xF ts t0 dL))))⟩
def ps(t0:Nat)(dL:Option Nat):c8->c8
 | .tok s q=>if t0<=s/\s<t0+10000 then .bO else .tok s q
 | .box id=>if rq dL id then .box id else .bO
 | .bO=>.bO
def pk(i:Nat)(dL:Option Nat):List jl->Option Nat
 | []=>if i=49 then dL else none
 | r::rs=>if r.i=i then some r.id else pk i dL rs
def nh(t0:Nat)(refs:List jl)(dL:Option Nat):c8->c8
 | .tok s q=>if s<10000 then .tok (t0+s) q else .bO
 | .box i=>match pk i dL refs with | some id=>.box id | none=>.bO
 | .bO=>.bO
def D.tq:D->Nat
 | .J k _=>k
 | _=>0
def wQ(i:Nat)(ds:List D):List jl->List D
 | []=>ds
 | r::rs=>if r.i=i then r.post else wQ i ds rs
def kW(refs:List jl):List (Nat×Nat):=refs.map fun r=>(r.id,r.i)
def y6:List jl->Option Nat->Bool
 | [],_=>true
 | x::r,dL=>decide (x.i<49)&&decide (x.post.length<100)&&decide (dL≠some x.id)&&r.all (fun y=>x.i != y.i&&x.id != y.id)&&y6 r dL
variable{id:Nat}
theorem Ke{t0:Nat}:∀{refs:List jl} {bs:List (Nat×List aH)},(∀r∈refs,r.id≠id)->dF id (wP t0 refs bs)=dF id bs
 | [],bs,_=>rfl
 | r::rs,bs,h=>by
  simp only[wP];rw[Ke fun x aa=>h x (fi _ aa),y1 (Ne.symm (h r eO))]
theorem ar9{gZ:Nat}{ls:List aH}:∀{bs:List (Nat×List aH)},(dF id bs).isSome=true->(dF id (qI gZ ls bs)).isSome=true:=by
 intro bs h;by_cases e:id=gZ
 ·subst e;obtain⟨x,aa⟩:=pQ.1 h;rw[y0 aa];rfl
 rw[y1 e];exact h
theorem RE{t0:Nat}:∀{refs:List jl} {bs:List (Nat×List aH)} {r:jl},r∈refs->(∀x∈refs,x.id=r.id->x=r)->(dF r.id bs).isSome=true->dF r.id (wP t0 refs bs)=some (k8 r.eN (nP (t0+hs r.i 0) 0 r.post))
 | [],_,_,h,_,_=>by cases h
 | x::rs,bs,r,h,hu,ai=>by
  simp only[wP];by_cases hm:r∈rs
  ·exact RE hm (fun y bu=>hu y (fi _ bu)) (ar9 ai)
  rcases ez.1 h with e | h
  ·subst e;obtain⟨l,ag⟩:=pQ.1 ai;rw[Ke,y0 ag];intro y bu e;have:=hu y (fi _ bu) e;subst this;exact hm bu
  exact absurd h hm
variable{dL:Option Nat}
theorem s9:∀{refs:List jl},y6 refs dL=true->∀{x:jl},x∈refs->x.i<49/\x.post.length<100/\dL≠some x.id/\∀y∈refs,(y.i=x.i->y=x)/\(y.id=x.id->y=x)
 | [],_,x,aa=>by cases aa
 | z::r,h,x,aa=>by
  simp only[y6,cm,cr,fK,bne_iff_ne,hc]at h;obtain⟨⟨⟨⟨h1,U⟩,ax⟩,aK⟩,a7⟩:=h;rcases ez.1 aa with e | ly
  ·subst e;refine⟨h1,U,ax,fun y bu=>?_⟩;rcases ez.1 bu with e | bu
   ·exact⟨fun _=>e,fun _=>e⟩
   exact⟨fun e=>absurd e.symm (aK y bu).1,fun e=>absurd e.symm (aK y bu).2⟩
  obtain⟨cG,cg,cE,l2⟩:=s9 a7 ly;refine⟨cG,cg,cE,fun y bu=>?_⟩;rcases ez.1 bu with e | bu
  ·subst e;exact⟨fun e=>absurd e (aK x ly).1,fun e=>absurd e (aK x ly).2⟩
  exact l2 y bu
theorem Kf:∀{refs:List jl} {r:jl},r∈refs->(∀y∈refs,y.i=r.i->y.id=r.id)->pk r.i dL refs=some r.id
 | [],_,h,_=>by cases h
 | x::rs,r,h,hu=>by
  simp only[pk];split
  ·rename_i e;rw[hu x eO e]
  rename_i e;rcases ez.1 h with e1 | h
  ·subst e1;exact absurd rfl e
  exact Kf h fun y bu=>hu y (fi _ bu)
theorem yK{i:Nat}:∀{refs:List jl},pk i dL refs=some id->(∃r∈refs,r.i=i/\r.id=id)\/(i=49/\dL=some id)
 | [],h=>by
  simp only[pk]at h;split at h
  ·exact .inr ⟨‹_›,h⟩
  cases h
 | x::rs,h=>by
  simp only[pk]at h;split at h
  ·rename_i e;exact .inl ⟨x,eO,e,eE h⟩
  rcases yK h with⟨r,aA,h1⟩ | h1
  ·exact .inl ⟨r,fi _ aA,h1⟩
  exact .inr h1
theorem Kg:∀{refs:List jl},(∀r∈refs,r.i<49)->pk 49 dL refs=dL
 | [],_=>by simp[pk]
 | x::rs,h=>by
  simp only[pk];rw[ba (by have:=h x eO;omega)];exact Kg fun r aA=>h r (fi _ aA)
theorem RF{ds:List D}:∀{refs:List jl} {r:jl},r∈refs->(∀y∈refs,y.i=r.i->y=r)->wQ r.i ds refs=r.post
 | [],_,h,_=>by cases h
 | x::rs,r,h,hu=>by
  simp only[wQ];split
  ·rename_i e;rw[hu x eO e]
  rename_i e;rcases ez.1 h with e1 | h
  ·subst e1;exact absurd rfl e
  exact RF h fun y bu=>hu y (fi _ bu)
theorem Kh{ds:List D}:∀{refs:List jl},(∀r∈refs,r.i<49)->wQ 49 ds refs=ds
 | [],_=>rfl
 | x::rs,h=>by
  simp only[wQ];rw[ba (by have:=h x eO;omega)];exact Kh fun r aA=>h r (fi _ aA)
variable{refs:List jl}
theorem RG(h:y6 refs dL=true){r:jl}(aA:r∈refs):look r.id (kW refs)=some r.i:=by
 refine RC ?_ (jX.2 ⟨r,aA,rfl⟩);unfold Kc;rw[fK];intro x aa;rw[fK];intro y bu;obtain⟨rx,abW,rfl⟩:=jX.1 aa;obtain⟨Gd,abX,rfl⟩:=jX.1 bu;have:=(s9 h abW).2.2.2 Gd abX;simp only[ed];by_cases e:Gd=rx
 ·subst e;simp
 have e1:¬rx.id=Gd.id:=fun e1=>e (this.2 e1.symm)
 have e2:¬rx.i=Gd.i:=fun e2=>e (this.1 e2.symm)
 rw[xM.2 e1,xM.2 e2]
theorem Fb{i:Nat}(h:look id (kW refs)=some i):∃r∈refs,r.id=id/\r.i=i:=by
 obtain⟨r,aA,e⟩:=jX.1 (ar8 h);simp only[bJ]at e;exact⟨r,aA,e.1,e.2⟩
def Ki(rs:List cQ):Bool:=decide (rs.length<50)&&rs.all fun | .one _=>true | .agg ds=>ds.length<100
def aV.fits(dL:Option Nat)(oA:List D):aV->Prop
 | .vals rs=>dL=none/\Ki rs=true
 | .hX _ ds=>dL.isSome=true/\oA=ds/\ds.length<100
def aV.ee(v:Value)(n:Nat):aV->Nat×Value
 | .vals rs=>(qa rs n,nA rs v n)
 | .hX _ _=>(0,undef)
def aV.oF(t0:Nat)(dL:Option Nat):aV->aJ
 | .vals rs=>tm t0 rs
 | .hX _ _=>.one (.ptr (dL.getD 0) 0)
theorem cI.ZZ{w0:eK}{st:aF}{a:Act}{w aS:World}{ω:Own}{τ:Nat->Nat×Value}(aZ:cI w0 st a w ω τ)(t0:Nat){nk:List (Option aH)}{oA:List D}{hA:aV}{v:Value}{vs:Array Value}{ys:Nat->Value}{H:Nat->Nat×Value}
  (bP:y6 refs dL=true) (ia:t0+10000<=dj) (aj:hr ⟨w,fun b=>gR (kW refs) ts (ω b)≠.bO,H⟩ aS) (fq:Own)
  (k1:∀b,b<w.heap.size->gR (kW refs) ts (ω b)=.bO->fq b=.bO) (kI:E' aS fq)
  (hrefs:∀r∈refs,vI aS fq r.i (kP r.eN) (hs r.i) r.post (ys r.i)/\(∃b,ys r.i=ptrTo b/\ω b=.box r.id)/\(dF r.id st.boxes).isSome=true) (fe:Da aS fq vs hA v) (DT:hA.fits dL oA) (sH:∀d,dL=some d->d<dj)
  (Ih:∀r∈refs,∀(j:Nat) (l:aH),r.eN[j]?=some (some l)->xF ts t0 dL l=l/\Sat w ω τ l (iH aS (ys r.i) j)) (we:∀(j:Nat) (l:aH),nk[j]?=some (some l)->xF ts t0 dL l=l/\Sat w ω τ l (iH aS v j))
  (Qh:∀src ds,hA=.hX src ds->xI src=kP nk):
  ∃a' cW,cI w0 (st.xG ts t0 refs dL nk oA) a aS a' cW/\cU (Sat aS a' cW) (hA.oF t0 dL) v:=by
 classical
 let a':Own:=fun b=>if b<w.heap.size/\gR (kW refs) ts (ω b)=.bO then ps t0 dL (ω b) else nh t0 refs dL (fq b)
 let aE:Nat->Nat×Value:=fun n=>if n<5000 then hA.ee v n else
  ((((wQ ((n-5000) / 100) oA refs)[(n-5000) % 100]?).map D.tq).getD 0,iH aS (if (n-5000) / 100=49 then v else ys ((n-5000) / 100)) ((n-5000) % 100))
 let cW:Nat->Nat×Value:=fun s=>if t0<=s/\s<t0+10000 then aE (s-t0) else τ s
 have Au:∀r∈refs,r.i<49:=fun r aA=>(s9 bP aA).1
 have hold:∀b,b<w.heap.size->gR (kW refs) ts (ω b)=.bO->a' b=ps t0 dL (ω b):=fun b h1 U=>by simp only[a'];rw[bi ⟨h1,U⟩]
 have gg:∀b,fq b≠.bO->a' b=nh t0 refs dL (fq b):=fun b h=>by
  simp only[a'];rw[ba];rintro⟨h1,U⟩;exact h (k1 b h1 U)
 have hblk:∀b,b<w.heap.size->gR (kW refs) ts (ω b)=.bO->aS.heap[b]?=w.heap[b]?:=fun b h1 U=>aj.block b h1 (fun aR=>aR U)
 have AK:∀r∈refs,∀b,ω b=.box r.id->fq b=.box r.i/\ys r.i=ptrTo b:=by
  intro r aA b cA;obtain⟨⟨eP,arr,ty,h1,U,_⟩,⟨eX,ax,aK⟩,a7⟩:=hrefs r aA;obtain⟨ls,vZ⟩:=pQ.1 a7;obtain⟨jA,_,_,_,hu,_⟩:=aZ.boxes r.id ls vZ;have e1:=hu b cA;have e2:=hu eX aK;have ck:eX=b:=by rw[e1,e2]
  subst ck;rw[ax]at h1;simp only[ptrTo,Value.pointer.injEq,aX,Addr.mk.injEq]at h1;obtain⟨rfl,_⟩:=h1;exact⟨U,ax⟩
 have yD:∀id b,rq dL id=true->ω b=.box id->a' b=.box id:=by
  intro id b hp cA;have bL:=aZ.owned.lt (b:=b) (by simp[cA]);cases e:look id (kW refs) with
  | none=>
   have hi:gR (kW refs) ts (ω b)=.bO:=by rw[cA];simp only[gR,e]
   rw[hold b bL hi,cA];simp only[ps,hp,fQ]
  | some i=>
   obtain⟨r,aA,rfl,rfl⟩:=Fb e;obtain⟨h1,_⟩:=AK r aA b cA;rw[gg b (by rw[h1];simp),h1];simp only[nh];rw[Kf aA fun y bu e=>by rw[((s9 bP aA).2.2.2 y bu).1 e]]
 have br:lQ w ω τ aS a' cW (y5 ts t0) (rq dL):=by
  refine⟨?_,?_,fun id b hp h=>yD id b hp h,?_,fun s ai=>by simp only[cW];rw[ba (by omega)]⟩
  ·intro g ey b q av bL az;unfold y5 at av;split at av
   ·cases av
   rename_i hm;simp only[vx]at hm;have hi:gR (kW refs) ts (ω b)=.bO:=by
    cases g with
    | free=>simp only[Tag.R]at az;rw[az];rfl
    | own s=>
     simp only[Tag.R]at az;simp only[Tag.pq,G8,G9]at hm;rw[az];simp only[gR,hm]
    | ro s=>
     simp only[Tag.pq,G8,G9]at hm;rcases az with h | ⟨dD,h⟩
     ·rw[h];rfl
     rw[h];simp only[gR,hm]
   refine⟨?_,hblk b bL hi⟩;rw[hold b bL hi];cases g with
   | free=>simp only[gF,aX]at av;subst av;simp only[Tag.R]at az ⊢;rw[az];rfl
   | own s=>
    simp only[Tag.R]at az;simp only[gF]at av;rw[az];simp only[ps];split at av
    ·simp only[aX]at av;subst av;rw[bi ‹_›];rfl
    simp only[aX]at av;subst av;rw[ba ‹_›];rfl
   | ro s=>
    simp only[Tag.R]at az;simp only[gF]at av;split at av
    ·simp only[aX]at av;subst av;rcases az with h | ⟨dD,h⟩
     ·rw[h];rfl
     rw[h];simp only[ps];rw[bi ‹_›];rfl
    simp only[aX]at av;subst av;rcases az with h | ⟨dD,h⟩
    ·rw[h];exact .inl rfl
    rw[h];simp only[ps];rw[ba ‹_›];exact .inr ⟨dD,rfl⟩
  ·intro g ey y av bu;unfold y5 at av;split at av
   ·cases av
   cases g with
   | free=>simp only[gF,aX]at av;subst av;exact trivial
   | own s=>
    simp only[gF]at av;split at av
    ·simp only[aX]at av;subst av;exact trivial
    simp only[aX]at av;subst av;simp only[Tag.ee,cW]at bu ⊢;rw[ba ‹_›];exact bu
   | ro s=>
    simp only[gF]at av;split at av
    ·simp only[aX]at av;subst av;exact trivial
    simp only[aX]at av;subst av;exact trivial
  rfl
 have cell:∀(n:Nat) (d:D) (u:Value),n<10000->aE n=(d.tq,u)->b7 aS fq (Tag.own n).R d u->Sat aS a' cW (d.pK (t0+n)) u:=by
  intro n d u aR bF aA;cases d with
  | v x=>
   have e:u=x:=by cases aA;rfl
   subst e;unfold D.pK;split
   ·rename_i h;cases h;exact rfl
   ·rename_i h;cases h;exact rfl
   ·rename_i h;cases h
   ·exact trivial
   exact trivial
  | ptr ds=>exact trivial
  | cl g bB=>exact trivial
  | J k es=>
   refine⟨aA.frame fun b q bL az=>⟨?_,rfl⟩,?_⟩
   ·simp only[Tag.R]at az ⊢;rw[gg b (by rw[az];simp),az];simp only[nh];rw[bi aR]
   simp only[Tag.ee,cW];rw[bi (by omega),show t0+n-t0=n by omega,bF];rfl
 have var:∀(i:Nat) (post:List D) (y:Value) (id:Nat) (cT:List (Option aH)),i<50->post.length<100->wQ i oA refs=post->(if i=49 then v else ys i)=y->vI aS fq i (kP cT) (hs i) post y->pk i dL refs=some id->(∀(j:Nat) (l:aH),cT[j]?=some (some l)->xF ts t0 dL l=l/\Sat w ω τ l (iH aS y j))->
   (∀da fI,pk fI dL refs=some id->fq da=.box fI->fI=i)->(∀da,ω da=.box id->rq dL id=true->¬gR (kW refs) ts (ω da)=.bO)->tC aS a' cW id (k8 cT (nP (t0+hs i 0) 0 post))/\∃b,y=ptrTo b/\a' b=.box id:=by
  rintro i post y id cT hi abP abQ bu ⟨b,arr,ty,rfl,U,ax,aK,a7,bp⟩ fT abn abb gS;have dz:a' b=.box id:=by
   rw[gg b (by rw[U];simp),U];simp only[nh,fT]
  refine⟨⟨b,arr,ty,dz,fun da cA=>?_,aK,by rw[Fa,y3];exact a7,fun j l ag=>?_⟩,b,rfl,dz⟩
  ·by_cases ak:da<w.heap.size/\gR (kW refs) ts (ω da)=.bO
   ·rw[hold da ak.1 ak.2]at cA;cases e:ω da with
    | bO=>rw[e]at cA;cases cA
    | tok s q=>rw[e]at cA;simp only[ps]at cA;split at cA<;>cases cA
    | box gZ=>
     rw[e]at cA;simp only[ps]at cA;split at cA
     ·simp only[c8.box.injEq]at cA;subst cA;exact absurd ak.2 (gS da e ‹_›)
     cases cA
   have fH:nh t0 refs dL (fq da)=.box id:=by
    simp only[a']at cA;rwa[ba ak]at cA
   cases e:fq da with
   | bO=>rw[e]at fH;cases fH
   | tok s q=>rw[e]at fH;simp only[nh]at fH;split at fH<;>cases fH
   | box fI=>
    rw[e]at fH;simp only[nh]at fH;split at fH
    ·rename_i gZ e2;simp only[c8.box.injEq]at fH;subst fH;have:=abb da fI e2 e;subst this;exact ax da e
    cases fH
  have lv:j<(k8 cT (nP (t0+hs i 0) 0 post)).length:=(eW.1 ag).1;rw[Fa,y3]at lv;rcases Kd cT _ j l ag with⟨ag,_⟩ | ⟨ag,Im⟩
  ·obtain⟨u,hu,_⟩:=bp j _ (h4 lv);obtain⟨g1,g2⟩:=abn j l ag;refine⟨u,hu,?_⟩;have e:iH aS (ptrTo b) j=u:=by simp[iH,ptrTo,aK,ew,hu]
   rw[e]at g2;have:=br.sat l u g2;rwa[show l.cz (y5 ts t0) (rq dL)=l from g1]at this
  rw[Bj,b8]at ag;obtain⟨d,dP,rfl⟩:=ag;obtain⟨u,hu,aA⟩:=bp j d dP;replace aA:=aA Im;have bd:j<100:=by
   have:=(eW.1 dP).1;omega
  refine⟨u,hu,?_⟩;have:=cell (hs i j) d u (by simp only[hs];omega) (by
   have e1:(hs i j-5000) / 100=i:=by simp only[hs];omega
   have e2:(hs i j-5000) % 100=j:=by simp only[hs];omega
   simp only[aE];rw[ba (by simp only[hs];omega),e1,e2,abQ,dP,bu];simp[iH,ptrTo,aK,ew,hu]) aA
  rw[show t0+hs i 0+(0+j)=t0+hs i j by simp only[hs];omega];exact this
 have abT:∀r∈refs,tC aS a' cW r.id (k8 r.eN (nP (t0+hs r.i 0) 0 r.post)):=by
  intro r aA;obtain⟨h1,U,ax,aK⟩:=s9 bP aA;refine (var r.i r.post (ys r.i) r.id r.eN (by omega) U (RF aA fun y bu e=>(aK y bu).1 e) (by rw[ba (by omega)]) (hrefs r aA).1 (Kf aA fun y bu e=>by rw[(aK y bu).1 e]) (Ih r aA) (fun da fI e _=>?_) (fun da e _=>?_)).1
  ·rcases yK e with⟨y,bu,e1,e2⟩ | ⟨_,e2⟩
   ·rw[<-e1,(aK y bu).2 e2]
   exact absurd e2 ax
  rw[e];simp only[gR,RG bP aA];simp
 have rc:∀id ls,dF id (st.xG ts t0 refs dL nk oA).boxes=some ls->tC aS a' cW id ls:=by
  intro id ls ag;have rest:∀id ls,dL≠some id->dF id (wP t0 refs (st.boxes.map fun x=>(x.1,x.2.map (xF ts t0 dL))))=some ls->tC aS a' cW id ls:=by
   intro id ls k3 ag;by_cases aA:∃r∈refs,r.id=id
   ·obtain⟨r,aA,rfl⟩:=aA;rw[RE aA (fun y bu e=>((s9 bP aA).2.2.2 y bu).2 e) (by
     rw[s6];obtain⟨l,ag⟩:=pQ.1 (hrefs r aA).2.2;rw[ag];rfl)]at ag
    rw[<-eE ag];exact abT r aA
   have eo:∀r∈refs,r.id≠id:=fun r h1 U=>aA ⟨r,h1,U⟩
   rw[Ke eo,s6,b8]at ag;obtain⟨jq,bg,rfl⟩:=ag;obtain⟨b,arr,ty,h1,U,ax,aK⟩:=aZ.boxes id jq bg;have hp:rq dL id=true:=by
    unfold rq;split
    ·rfl
    simp only[jI,cr];intro e;subst e;exact k3 rfl
   have bL:=aZ.owned.lt (b:=b) (by simp[h1]);have kK:look id (kW refs)=none:=by
    cases e:look id (kW refs) with
    | none=>rfl
    | some i=>
     obtain⟨r,lx,e1,_⟩:=Fb e;exact absurd e1 (eo r lx)
   have hi:gR (kW refs) ts (ω b)=.bO:=by rw[h1];simp only[gR,kK]
   refine⟨b,arr,ty,yD id b hp h1,fun da cA=>?_,(hblk b bL hi).trans ax,aK.map br.sat⟩;by_cases ak:da<w.heap.size/\gR (kW refs) ts (ω da)=.bO
   ·rw[hold da ak.1 ak.2]at cA;cases e:ω da with
    | bO=>rw[e]at cA;cases cA
    | tok s q=>rw[e]at cA;simp only[ps]at cA;split at cA<;>cases cA
    | box gZ=>
     rw[e]at cA;simp only[ps]at cA;split at cA
     ·simp only[c8.box.injEq]at cA;subst cA;exact U da e
     cases cA
   have fH:nh t0 refs dL (fq da)=.box id:=by
    simp only[a']at cA;rwa[ba ak]at cA
   cases e:fq da with
   | bO=>rw[e]at fH;cases fH
   | tok s q=>rw[e]at fH;simp only[nh]at fH;split at fH<;>cases fH
   | box fI=>
    rw[e]at fH;simp only[nh]at fH;split at fH
    ·rename_i gZ e2;simp only[c8.box.injEq]at fH;subst fH;rcases yK e2 with⟨r,a7,_,bp⟩ | ⟨_,bp⟩
     ·exact absurd bp (eo r a7)
     exact absurd bp k3
    cases fH
  simp only[aF.xG,RD]at ag;cases dL with
  | none=>exact rest id ls (by simp) ag
  | some d=>
   simp only[dF]at ag;by_cases aE:d=id
   ·subst aE;rw[bi rfl]at ag;rw[<-eE ag];cases hA with
    | vals rs=>exact absurd DT.1 (by simp)
    | hX src ds=>
     obtain⟨_,rfl,hlen⟩:=DT;obtain⟨fe,_⟩:=fe;rw[Qh _ _ rfl]at fe;refine (var 49 oA v d nk (by omega) hlen (Kh Au) (bi rfl) fe (Kg Au) we (fun da fI e _=>?_) (fun da _ e=>?_)).1
     ·rcases yK e with⟨y,bu,_,e2⟩ | ⟨e2,_⟩
      ·exact absurd (by rw[e2]) (s9 bP bu).2.2.1
      exact e2
     simp[rq,jI]at e
   rw[ba aE,yV (fun e=>aE e.symm)]at ag;exact rest id ls (by simpa using aE) ag
 refine⟨a',cW,⟨aZ.defers,by simp[aF.xG,aZ.size],?_,?_,fun s ai=>?_,fun id b hi cA=>?_,?_,rc⟩,?_⟩
 ·refine⟨aj.os.trans aZ.below.os,aj.tape.trans aZ.below.tape,aj.output.trans aZ.below.output,nc aZ.below.size aj.size,fun b bL av=>?_,fun ai=>nc (aZ.below.drawn ai) (aj.drawn ai),aj.laid,aZ.below.free⟩;have jE:b<w.heap.size:=zT bL aZ.below.size;have qc:ω b=.bO:=by
   cases e:ω b with
   | bO=>rfl
   | box id=>exact absurd (aZ.owned b (by simp[e])).1 (fun h=>h.elim (fun h=>by omega) av)
   | tok s q=>exact absurd (aZ.owned b (by simp[e])).1 (fun h=>h.elim (fun h=>by omega) av)
  exact (hblk b jE (by rw[qc];rfl)).trans (aZ.below.block b bL av)
 ·intro b fS;by_cases ak:b<w.heap.size/\gR (kW refs) ts (ω b)=.bO
  ·rw[hold b ak.1 ak.2]at fS;have U:ω b≠.bO:=fun e=>by rw[e]at fS;exact fS rfl
   obtain⟨ax,arr,ty,aK⟩:=aZ.owned b U;exact⟨ax,arr,ty,(hblk b ak.1 ak.2).trans aK⟩
  have U:fq b≠.bO:=fun e=>by
   simp only[a']at fS;rw[ba ak,e]at fS;exact fS rfl
  obtain⟨arr,ty,aK⟩:=kI b U;refine⟨?_,arr,ty,aK⟩;by_cases bL:b<w.heap.size
  ·have a7:ω b≠.bO:=fun e=>ak ⟨bL,by rw[e];rfl⟩
   exact (aZ.owned b a7).1
  exact .inl (by have:=aZ.below.size;omega)
 ·have:cW s=τ s:=by simp only[cW];rw[ba (by omega)]
  rw[this];exact aZ.fixed s ai
 ·by_cases ak:b<w.heap.size/\gR (kW refs) ts (ω b)=.bO
  ·rw[hold b ak.1 ak.2]at cA;cases e:ω b with
   | bO=>rw[e]at cA;cases cA
   | tok s q=>rw[e]at cA;simp only[ps]at cA;split at cA<;>cases cA
   | box gZ=>
    rw[e]at cA;simp only[ps]at cA;split at cA
    ·simp only[c8.box.injEq]at cA;subst cA;exact aZ.pinned gZ b hi e
    cases cA
  have fH:nh t0 refs dL (fq b)=.box id:=by
   simp only[a']at cA;rwa[ba ak]at cA
  cases e:fq b with
  | bO=>rw[e]at fH;cases fH
  | tok s q=>rw[e]at fH;simp only[nh]at fH;split at fH<;>cases fH
  | box fI=>
   rw[e]at fH;simp only[nh]at fH;split at fH
   ·rename_i gZ e2;simp only[c8.box.injEq]at fH;subst fH;rcases yK e2 with⟨r,a7,rfl,rfl⟩ | ⟨_,bp⟩
    ·obtain⟨⟨eP,arr,ty,g1,g2,g3,_⟩,⟨eX,g4,g5⟩,_⟩:=hrefs r a7;have ck:=g3 b e;rw[g4]at g1;simp only[ptrTo,Value.pointer.injEq,aX,Addr.mk.injEq]at g1;rw[ck,<-g1.1];exact aZ.pinned r.id eX hi g5
    have:=sH _ bp;omega
   cases fH
 ·intro i q az;simp only[aF.xG]at az;rw[du,b8]at az;obtain⟨ic,bg,rfl⟩:=az;obtain⟨u,h1,U⟩:=aZ.env i ic bg;exact⟨u,h1,cU.map br.sat U⟩
 cases hA with
 | hX src ds=>
  obtain⟨k3,rfl,hlen⟩:=DT;obtain⟨d,rfl⟩:=pQ.1 k3;obtain⟨fe,_⟩:=fe;rw[Qh _ _ rfl]at fe;obtain⟨b,h1,U⟩:=(var 49 oA v d nk (by omega) hlen (Kh Au) (bi rfl) fe (Kg Au) we (fun da fI e _=>by
   rcases yK e with⟨y,bu,_,e2⟩ | ⟨e2,_⟩
   ·exact absurd (by rw[e2]) (s9 bP bu).2.2.1
   exact e2) (fun da _ e=>by simp[rq,jI]at e)).2
  exact⟨b,U,h1⟩
 | vals rs=>
  obtain⟨rfl,eQ⟩:=DT;simp only[Ki,cm,cr]at eQ;have eI:∀(r:Nat) (cB:cQ),rs[r]?=some cB->∀ds,cB=.agg ds->ds.length<100:=by
   intro r cB aA ds e;have:=fK.1 eQ.2 cB (fF aA);subst e;simpa using this
  have tK:∀(r:Nat) (cB:cQ) (y:Value),r<50->(∀ds,cB=.agg ds->ds.length<100)->rs[r]?=some cB->(∀j,j<100->nA rs v (100*r+j)=y.cells.getD j undef)->mi aS fq r cB y->kj (Sat aS a' cW) (cB.res (t0+100*r)) y:=by
   intro r cB y aA eI AE bF nz;have gq:∀j,j<100->qa rs (100*r+j)=(match cQ.cell j cB with | some (.J k _)=>k | _=>0):=by
    intro j bd;unfold qa;rw[show (100*r+j) / 100=r by omega,show (100*r+j) % 100=j by omega,AE];rfl
   have Qr:∀d:D,(match some d with | some (.J k _)=>k | _=>0)=d.tq:=fun d=>by cases d<;>rfl
   cases cB with
   | one d=>
    have h1:=nz.pt;have U:=bF 0 (by omega);rw[Bf h1]at U;have:=cell (100*r) d y (by omega) (by
     simp only[aE,aV.ee];rw[bi (by omega)];have ax:=gq 0 (by omega);rw[m']at U ax;rw[ax,U];simp only[cQ.cell,fQ];rw[Qr];rfl) nz
    exact this
   | agg ds=>
    obtain⟨vs,rfl,aR,bd⟩:=nz;refine⟨vs,rfl,by rw[y3];exact aR,fun j l ag=>?_⟩;rw[Bj,b8]at ag;obtain⟨d,dP,rfl⟩:=ag;obtain⟨u,hu,AF⟩:=bd j d dP;have lv:j<100:=by
     have:=(eW.1 dP).1;have:=eI ds rfl;omega
    refine⟨u,hu,?_⟩;have:=cell (100*r+j) d u (by omega) (by
     simp only[aE,aV.ee];rw[bi (by omega),gq j lv,bF j lv];simp only[cQ.cell,dP];rw[Qr];simp[Value.cells,ew,hu]) AF
    rw[show t0+100*r+(0+j)=t0+(100*r+j) by omega];exact this
  show cU (Sat aS a' cW) (tm t0 rs) v;cases rs with
  | nil=>
   obtain⟨vs,rfl,aR,_⟩:=fe;exact⟨vs,rfl,aR,fun i a ae=>by simp[qJ]at ae⟩
  | cons cB rest=>
   cases rest with
   | nil=>
    have:=tK 0 cB v (by omega) (eI 0 cB rfl) rfl (fun j bd=>by
     unfold nA;simp only[Nat.mul_zero,dG];rw[C4 bd]) fe
    exact this
   | cons Pk rest=>
    obtain⟨vs,rfl,aR,bF⟩:=fe;refine⟨vs,rfl,by rw[E1];exact aR,fun i a ae=>?_⟩;rw[E0,b8]at ae;obtain⟨n5,h1,rfl⟩:=ae;obtain⟨y,bu,Ar⟩:=bF i n5 h1;have jC:i<50:=by
     have:=(eW.1 h1).1;omega
    refine⟨y,bu,?_⟩;have:=tK i n5 y jC (eI i n5 h1) h1 (fun j bd=>by
     unfold nA;simp only;rw[show (100*i+j) / 100=i by omega,show (100*i+j) % 100=j by omega];simp[ew,bu]) Ar
    rw[dG];exact this
end Go.Sx
namespace Go.Sx
open Go.RowKit
def aH.pq(ts:List (Nat×Nat)):aH->Bool
 | .J g _ _=>g.pq ts
 | .aO t _ _ _ _ _=>(look t ts).isSome
 | _=>false
variable{w:World}{ω:Own}{τ:Nat->Nat×Value}{l:aH}
theorem RH{bs ts:List (Nat×Nat)}{d:D}{y:Value}(h:l.gA=some d)(hm:l.pq ts=false)(ai:Sat w ω τ l y):
  b7 w (fun b=>gR bs ts (ω b)) Tag.free.R d y:=by
 have tag:∀(g:Tag) (b:Nat) (q:List (Nat×Nat)),g.pq ts=false->g.R q (ω b)->gR bs ts (ω b)=.bO:=by
  intro g b q av az;cases g with
  | free=>simp only[Tag.R]at az;rw[az];rfl
  | own s=>
   simp only[Tag.R]at az;simp only[Tag.pq,G8,G9]at av;rw[az];simp only[gR,av]
  | ro s=>
   simp only[Tag.pq,G8,G9]at av;rcases az with h | ⟨dD,h⟩
   ·rw[h];rfl
   rw[h];simp only[gR,av]
 cases l with
 | cq=>cases h
 | v x=>
  simp only[aH.gA]at h;split at h
  ·simp only[aX]at h;subst h;have:y=x:=ai;subst this;exact .v _ _ ‹_›
  cases h
 | bc c=>
  simp only[aH.gA,aX]at h;subst h;have:y=.bool c:=ai;subst this;exact .v _ _ rfl
 | J t k es=>simp only[aH.gA,aX]at h;subst h;exact ai.1.frame fun b q _ az=>⟨tag t b q hm az,rfl⟩
 | ptr=>cases h
 | ep=>cases h
 | gP=>cases h
 | ft=>cases h
 | h0 ds off=>
  simp only[aH.gA]at h;split at h
  ·rename_i aU;subst aU;simp only[aX]at h;subst h;obtain⟨b,rfl,aA⟩:=ai;exact aA.frame fun b q _ az=>⟨tag .free b q rfl az,rfl⟩
  cases h
 | fd dE=>simp only[aH.gA,aX]at h;subst h;exact b7.frame ai fun b q _ az=>⟨tag .free b q rfl az,rfl⟩
 | dx t k es=>simp only[aH.gA,aX]at h;subst h;exact b7.frame ai.1 fun b q _ az=>⟨tag .free b q rfl az,rfl⟩
 | aO t i j k es m=>
  obtain⟨u,hu,aA,_⟩:=ai;have fin:y=u->b7 w (fun b=>gR bs ts (ω b)) Tag.free.R (.J k es) y:=by
   intro e;rw[e];exact aA.frame fun b q _ az=>⟨tag (.own t) b _ hm az,rfl⟩
  cases m with
  | at_ x z=>cases h
  | here=>simp only[aH.gA,aX]at h;subst h;exact fin hu
  | lU=>simp only[aH.gA,aX]at h;subst h;exact fin hu
def aJ.Dg:aJ->Option (cQ×List aH)
 | .aI (.one l)=>l.gA.map fun d=>(.one d,[l])
 | .aI (.agg ls)=>(ls.mapM aH.gA).map fun ds=>(.agg ds,ls)
 | _=>none
def wR(i:Nat):Nat->List aH->List (Nat×Nat)
 | _,[]=>[]
 | j,l::ls=>match l.tok with | some t=>(t,qP i j)::wR i (j+1) ls | none=>wR i (j+1) ls
theorem RI{i:Nat}:∀{ls:List aH} {j0 j:Nat} {l:aH} {t:Nat},ls[j]?=some l->l.tok=some t->(t,qP i (j0+j))∈wR i j0 ls
 | [],_,_,_,_,h,_=>by simp at h
 | gh::ls,j0,0,l,t,h,bH=>by
  simp at h;subst h;simp only[wR,bH];exact eO
 | gh::ls,j0,j+1,l,t,h,bH=>by
  have:=RI (i:=i) (ls:=ls) (j0:=j0+1) (j:=j) (by simpa using h) bH;rw[show j0+1+j=j0+(j+1) by omega]at this;simp only[wR];split
  ·exact fi _ this
  exact this
def pw:aH->Option aH
 | .dx t k es=>some (.dx t k es)
 | .J .free k es=>some (.J .free k es)
 | _=>none
def s'(ls:List aH):List (Option aH):=if (ls.map pw).all Option.isNone then [] else ls.map pw
def aH.Gh(l:aH):Option D:=match pw l with | some l=>l.gA | none=>l.iQ
theorem Bq{hg:aH}(h:pw l=some hg):hg=l/\(∀ts t0 dL,xF ts t0 dL l=l)/\∃k es,l.gA=some (.J k es)/\∀{w ω τ y},Sat w ω τ l y->b7 w ω Tag.free.R (.J k es) y:=by
 unfold pw at h;split at h
 ·rename_i t k es;cases h;exact⟨rfl,fun _ _ _=>rfl,k,es,rfl,fun ai=>ai.1⟩
 ·rename_i k es;cases h;exact⟨rfl,fun _ _ _=>by simp[aH.cz,y5,Tag.pq,gF],k,es,rfl,fun ai=>ai.1⟩
 cases h
theorem asa{ls:List aH}{j:Nat}(h:(s' ls)[j]?=some (some l)):ls[j]?=some l/\pw l=some l:=by
 unfold s' at h;split at h
 ·simp at h
 rw[du,b8]at h;obtain⟨gh,h1,U⟩:=h;have:=(Bq U).1;subst this;exact⟨h1,U⟩
theorem Kj{ls:List aH}{j:Nat}(ag:ls[j]?=some l):stays (kP (s' ls)) j=(pw l).isSome:=by
 unfold s';split
 ·rename_i h;have:=fK.1 h (pw l) (jX.2 ⟨l,fF ag,rfl⟩);simp only[stays,kP,List.map_nil,List.getD_nil];cases e:pw l with
  | none=>rfl
  | some x=>rw[e]at this;cases this
 simp only[stays,kP,List.map_map,iv,du,ag];rfl
def wv(cF:List aJ):List (Option Nat)->Option (List (Option aH))
 | []=>some []
 | none::r=>(wv cF r).map fun x=>none::x
 | some a::r=>
  match cF[a]? with
  | some (.aI (.one l))=>
   match pw l,wv cF r with
   | some hg,some kx=>some (some hg::kx)
   | _,_=>none
  | _=>none
theorem Fc{cF:List aJ}:∀{src:List (Option Nat)} {nk:List (Option aH)},wv cF src=some nk->xI src=kP nk/\∀(j:Nat) (l:aH),nk[j]?=some (some l)->∃a,src[j]?=some (some a)/\cF[a]?=some (.aI (.one l))/\pw l=some l
 | [],nk,h=>by
  simp only[wv,aX]at h;subst h;exact⟨rfl,fun j l h=>by simp at h⟩
 | none::r,nk,h=>by
  simp only[wv,b8]at h;obtain⟨x,h1,rfl⟩:=h;obtain⟨g1,g2⟩:=Fc h1;refine⟨by simpa[xI,kP]using g1,fun j l bd=>?_⟩;cases j with
  | zero=>simp at bd
  | succ j=>exact g2 j l (by simpa using bd)
 | some a::r,nk,h=>by
  simp only[wv]at h;split at h
  ·rename_i l e;split at h
   ·rename_i hg kx e1 e2;simp only[aX]at h;subst h;obtain⟨g1,g2⟩:=Fc e2;have:=(Bq e1).1;subst this;refine⟨by simpa[xI,kP]using g1,fun j l bd=>?_⟩;cases j with
    | zero=>
     simp only[kg,aX]at bd;subst bd;exact⟨a,rfl,e,e1⟩
    | succ j=>exact g2 j l (by simpa using bd)
   cases h
  cases h
def XJ:aJ->Option Nat
 | .aI (.one (.ptr id 0))=>some id
 | _=>none
structure C7 where
 oV:List aN
 refs:List jl
 ts:List (Nat×Nat)
 pL:List aH
def so:aJ->Option (FuncId×List Nat)
 | .aI (.one (.gP g ids))=>some (g,ids)
 | _=>none
def Q1(id:Nat):aJ:=.aI (.one (.ptr id 0))
def pV(bs:lO):Nat->List (Option (List D))->List aJ->Option C7
 | _,[],[]=>some ⟨[],[],[],[]⟩
 | i,none::ms,p::cF=>
  match so p with
  | some (g,ids)=>(pV bs (i+1) ms cF).map fun r=>⟨.fn g (List.range' (i+1) ids.length)::r.oV,r.refs,r.ts,r.pL⟩
  | none=>
   match p.Dg,pV bs (i+1) ms cF with
   | some (cB,ls),some r=>some ⟨.ro cB::r.oV,r.refs,r.ts,ls++r.pL⟩
   | _,_=>none
 | i,some post::ms,p::cF=>
  match XJ p,pV bs (i+1) ms cF with
  | some id,some r=>
   match dF id bs with
   | some ls=>
    match ls.mapM aH.Gh with
    | some pre=>some ⟨.iq (kP (s' ls)) pre post::r.oV,⟨i,id,post,s' ls⟩::r.refs,wR i 0 ls++r.ts,r.pL⟩
    | none=>none
   | none=>none
  | _,_=>none
 | _,_,_=>none
def C8(bs:lO)(a:C7)(i:Nat)(jf:aN)(p:aJ):Prop:=
 (∃g ids,jf=.fn g (List.range' (i+1) ids.length)/\p=.aI (.one (.gP g ids)))\/
 (∃cB ls,jf=.ro cB/\p.Dg=some (cB,ls)/\∀l∈ls,l∈a.pL)\/
 (∃id ls pre post,jf=.iq (kP (s' ls)) pre post/\p=.aI (.one (.ptr id 0))/\dF id bs=some ls/\ls.mapM aH.Gh=some pre/\(⟨i,id,post,s' ls⟩:jl)∈a.refs/\∀x∈wR i 0 ls,x∈a.ts)
theorem C8.mono{bs:lO}{a b:C7}{i:Nat}{jf:aN}{p:aJ}(h:C8 bs a i jf p)(h1:∀l∈a.pL,l∈b.pL)(U:∀x∈a.refs,x∈b.refs)(ax:∀x∈a.ts,x∈b.ts):C8 bs b i jf p:=by
 rcases h with h | ⟨cB,ls,e1,e2,ck⟩ | ⟨id,ls,pre,post,e1,e2,ck,dX,gB,kl⟩
 ·exact .inl h
 ·exact .inr (.inl ⟨cB,ls,e1,e2,fun l ag=>h1 l (ck l ag)⟩)
 exact .inr (.inr ⟨id,ls,pre,post,e1,e2,ck,dX,U _ gB,fun x aa=>ax x (kl x aa)⟩)
theorem Fe{bs:lO}:∀{ms:List (Option (List D))} {cF:List aJ} {i:Nat} {a:C7},pV bs i ms cF=some a->a.oV.length=cF.length/\
  (∀(x:Nat) (jf:aN),a.oV[x]?=some jf->∃p,cF[x]?=some p/\C8 bs a (i+x) jf p)/\
  (∀r∈a.refs,∃(x:Nat) (pre:List D),r.i=i+x/\a.oV[x]?=some (.iq (kP r.eN) pre r.post)/\cF[x]?=some (.aI (.one (.ptr r.id 0)))/\∃ls,dF r.id bs=some ls/\r.eN=s' ls)
 | [],[],i,a,h=>by
  simp only[pV,aX]at h;subst h;exact⟨rfl,fun x jf h=>by simp at h,fun r h=>by cases h⟩
 | none::ms,p::cF,i,a,h=>by
  simp only[pV]at h;split at h
  ·rename_i g ids bM;rw[b8]at h;obtain⟨r,e2,rfl⟩:=h;obtain⟨dC,cG,cg⟩:=Fe e2;have hp:p=.aI (.one (.gP g ids)):=by
    unfold so at bM;split at bM
    ·cases bM;rfl
    cases bM
   refine⟨by simp[dC],fun x jf aa=>?_,fun y bu=>?_⟩
   ·cases x with
    | zero=>
     simp only[kg,aX]at aa;subst aa;exact⟨p,rfl,.inl ⟨g,ids,rfl,hp⟩⟩
    | succ x=>
     obtain⟨qu,h1,U⟩:=cG x jf (by simpa using aa);refine⟨qu,by simpa using h1,?_⟩;rw[show i+1+x=i+(x+1) by omega]at U;exact U.mono (fun _ h=>h) (fun _ h=>h) (fun _ h=>h)
   obtain⟨x,pre,h1,U,ax,aK⟩:=cg y bu;exact⟨x+1,pre,by omega,by simpa using U,by simpa using ax,aK⟩
  split at h
  ·rename_i cB ls r e1 e2;simp only[aX]at h;subst h;obtain⟨dC,cG,cg⟩:=Fe e2;refine⟨by simp[dC],fun x jf aa=>?_,fun y bu=>?_⟩
   ·cases x with
    | zero=>
     simp only[kg,aX]at aa;subst aa;exact⟨p,rfl,.inr (.inl ⟨cB,ls,rfl,e1,fun l ag=>gN _ ag⟩)⟩
    | succ x=>
     obtain⟨qu,h1,U⟩:=cG x jf (by simpa using aa);refine⟨qu,by simpa using h1,?_⟩;rw[show i+1+x=i+(x+1) by omega]at U;exact U.mono (fun l ag=>hR _ ag) (fun _ h=>h) (fun _ h=>h)
   obtain⟨x,pre,h1,U,ax,aK⟩:=cg y bu;exact⟨x+1,pre,by omega,by simpa using U,by simpa using ax,aK⟩
  cases h
 | some post::ms,p::cF,i,a,h=>by
  simp only[pV]at h;split at h
  ·rename_i id r e1 e2;split at h
   ·rename_i ls ck;split at h
    ·rename_i pre dX;simp only[aX]at h;subst h;obtain⟨dC,cG,cg⟩:=Fe e2;have hp:p=.aI (.one (.ptr id 0)):=by
      unfold XJ at e1;split at e1
      ·rw[eE e1]
      cases e1
     refine⟨by simp[dC],fun x jf aa=>?_,fun y bu=>?_⟩
     ·cases x with
      | zero=>
       simp only[kg,aX]at aa;subst aa;exact⟨p,rfl,.inr (.inr ⟨id,ls,pre,post,rfl,hp,ck,dX,eO,fun x aa=>gN _ aa⟩)⟩
      | succ x=>
       obtain⟨qu,h1,U⟩:=cG x jf (by simpa using aa);refine⟨qu,by simpa using h1,?_⟩;rw[show i+1+x=i+(x+1) by omega]at U;exact U.mono (fun _ h=>h) (fun x h=>fi _ h) (fun x h=>hR _ h)
     rcases ez.1 bu with rfl | bu
     ·exact⟨0,pre,rfl,rfl,by simp[hp],ls,ck,rfl⟩
     obtain⟨x,yJ,h1,U,ax,aK⟩:=cg y bu;exact⟨x+1,yJ,by omega,by simpa using U,by simpa using ax,aK⟩
    cases h
   cases h
  cases h
 | [],_::_,i,a,h=>by simp[pV]at h
 | none::_,[],i,a,h=>by simp[pV]at h
 | some _::_,[],i,a,h=>by simp[pV]at h
def aV.HB(d:Option Nat):aV->Bool
 | .vals rs=>Ki rs
 | .hX _ ds=>d.isSome&&decide (ds.length<100)
def aV.dL(d:Option Nat):aV->Option Nat
 | .vals _=>none
 | .hX _ _=>d
def aV.oA:aV->List D
 | .vals _=>[]
 | .hX _ ds=>ds
def aV.nk(cF:List aJ):aV->Option (List (Option aH))
 | .vals _=>some []
 | .hX src _=>wv cF src
theorem aV.aac{d:Option Nat}{r:aV}(h:r.HB d=true):r.fits (r.dL d) r.oA:=by
 cases r with
 | vals rs=>exact⟨rfl,h⟩
 | hX src ds=>
  simp only[aV.HB,cm,cr]at h;exact⟨h.1,rfl,h.2⟩
def uI(n:Nat):Nat->List aN->Bool
 | _,[]=>true
 | i,.fn _ _::r=>i+1==n&&uI n (i+1) r
 | i,_::r=>uI n (i+1) r
theorem Ff{n:Nat}:∀{as:List aN} {i x:Nat} {g:FuncId} {cT:List Nat},uI n i as=true->as[x]?=some (.fn g cT)->i+x+1=n
 | [],_,_,_,_,_,h=>by simp at h
 | .fn _ _::r,i,0,g,cT,h,aa=>by
  simp only[uI,cm,ed]at h;omega
 | .fn _ _::r,i,x+1,g,cT,h,aa=>by
  simp only[uI,cm,ed]at h;have:=Ff h.2 (x:=x) (by simpa using aa);omega
 | .ro _::r,i,0,g,cT,h,aa=>by simp at aa
 | .iq _ _ _::r,i,0,g,cT,h,aa=>by simp at aa
 | .ro _::r,i,x+1,g,cT,h,aa=>by
  have:=Ff (i:=i+1) (by simpa[uI]using h) (x:=x) (by simpa using aa);omega
 | .iq _ _ _::r,i,x+1,g,cT,h,aa=>by
  have:=Ff (i:=i+1) (by simpa[uI]using h) (x:=x) (by simpa using aa);omega
def Br(P:Program)(st:aF)(d:Option Nat)(f:FuncId)(n:Nat)(cF:List aJ)(ans:List ci):Option (aF×List ci×List Prop):=
 match ans with
 | .dm ww hA::r=>
  match pV st.boxes 0 ww cF,hA.nk cF with
  | some a,some nk=>
   let t0:=10000*(d.getD 0+1)
   if jJ P f=true/\t0+10000<=dj/\y6 a.refs (hA.dL d)=true/\Kc a.ts=true/\hA.HB d=true/\a.pL.all (fun l=>!(l.pq a.ts))=true/\tk a.oV=n/\uI n 0 a.oV=true then
    let bE:=st.xG a.ts t0 a.refs (hA.dL d) nk hA.oA
    match d with
    | some d=>some (⟨bE.env.set d (hA.oF t0 (hA.dL (some d))),bE.boxes⟩,r,[bZ P f a.oV hA])
    | none=>some (bE,r,[bZ P f a.oV hA])
   else none
  | _,_=>none
 | _=>none
def Kk(P:Program)(st:aF)(d:Option Nat)(f:FuncId)(args:List Operand)(ans:List ci):Option (aF×List ci×List Prop):=
 match (args.map st.br).getLast?.bind so with
 | some (_,ids)=>Br P st d f args.length (args.map st.br++ids.map Q1) ans
 | none=>Br P st d f args.length (args.map st.br) ans
def Kl(P:Program)(st:aF)(d:Option Nat)(f:Operand)(args:List Operand)(ans:List ci):Option (aF×List ci×List Prop):=
 match so (st.br f) with
 | some (g,ids)=>if (args.map st.br).all (fun p=>(so p).isNone) then Br P st d g (args.length+ids.length) (args.map st.br++ids.map Q1) ans else none
 | none=>none
variable{a:Act}{P:Program}{w0:eK}{st bE:aF}{dst:Option Nat}{ans cu:List ci}{obs:List Prop}
theorem Km{f:FuncId}{n:Nat}{cF:List aJ}{vs:Array Value}{o:Oper}
  (H7:o.dst=dst) (aZ:cI w0 st a w ω τ) (h:Br P st dst f n cF ans=some (bE,cu,obs)) (aU:cO obs) (eT:vs.size=cF.length) (gC:∀(x:Nat) (p:aJ),cF[x]?=some p->∃v,vs[x]?=some v/\cU (Sat w ω τ) p v)
  (k4:∀(x:Nat) (g:FuncId) (ids:List Nat),x+1=n->cF[x]?=some (.aI (.one (.gP g ids)))->vs[x]?=some (.func (.func g) #[] ((List.range' n ids.length).map fun k=>vs.getD k undef).toArray))
  (fU:jJ P f=true->(execOp a.eval o).run P w=.ok (.enter f (vs.extract 0 n)) w) {K:Act->World->Prop} {Q:Exit->Act->World->Prop} (h8:∀cJ aS,Rel w0 bE cJ aS->K cJ aS):
  Oper.wp P o a w K Q:=by
 unfold Br at h;split at h
 ·rename_i ww hA r;split at h
  ·rename_i sh nk mw we;simp only at h;split at h
   ·rename_i ak;obtain⟨hv,ia,bP,kK,eQ,AB,Iy,sJ⟩:=ak;rw[fK]at AB;have AD:∀l∈sh.pL,l.pq sh.ts=false:=fun l ag=>by simpa using AB l ag
    obtain⟨hlen,cG,cg⟩:=Fe mw
    let sd:Own:=fun b=>gR (kW sh.refs) sh.ts (ω b)
    have ct:∀b,sd b≠.bO->ω b≠.bO:=fun b h e=>h (by simp only[sd,e];rfl)
    have abS:Hk w sd sh.oV vs:=by
     refine⟨fun b aj=>(aZ.owned b (ct b aj)).2,fun b i aj=>?_,by rw[eT,hlen],fun x jf aa=>?_⟩
     ·simp only[sd]at aj;cases e:ω b with
      | bO=>rw[e]at aj;cases aj
      | tok s q=>rw[e]at aj;simp only[gR]at aj;split at aj<;>cases aj
      | box gZ=>
       rw[e]at aj;simp only[gR]at aj;split at aj
       ·rename_i fI np;simp only[c8.box.injEq]at aj;subst aj;obtain⟨kx,eo,_,tM⟩:=Fb np;obtain⟨x,pre,g1,g2,_⟩:=cg kx eo;exact⟨kP kx.eN,pre,kx.post,by rw[<-tM,g1,dG];exact g2⟩
       cases aj
     obtain⟨p,hp,ra⟩:=cG x jf aa;obtain⟨v,bF,ai⟩:=gC x p hp;refine⟨v,bF,?_⟩;rw[dG]at ra;rcases ra with⟨g,ids,rfl,_⟩ | ⟨cB,ls,rfl,e2,ck⟩ | ⟨id,ls,pre,post,rfl,rfl,ck,dX,gB,kl⟩
     ·exact trivial
     ·cases p with
      | ga as=>cases e2
      | aI aI=>
       cases aI with
       | one l=>
        simp only[aJ.Dg,b8]at e2;obtain⟨d,h1,U⟩:=e2;simp only[bJ]at U;obtain⟨rfl,rfl⟩:=U;exact RH h1 (AD l (ck l (by simp))) ai
       | agg fl=>
        simp only[aJ.Dg,b8]at e2;obtain⟨ds,h1,U⟩:=e2;simp only[bJ]at U;obtain⟨rfl,rfl⟩:=U;obtain⟨ax,aK⟩:=nN h1;obtain⟨vs,rfl,aR,ach⟩:=ai;refine⟨vs,rfl,by omega,fun j d aE=>?_⟩;obtain⟨l,ag,dq⟩:=aK j d aE;obtain⟨u,hu,fk⟩:=ach j l ag;exact⟨u,hu,RH dq (AD l (ck l (fF ag))) fk⟩
     obtain⟨b,aj,rfl⟩:=ai;obtain⟨da,arr,ty,dz,hu,bQ,eS⟩:=aZ.boxes id ls ck;have:=hu b aj;subst this;have P':=RG bP gB;simp only at P';obtain⟨ax,aK⟩:=nN dX;refine⟨⟨b,arr,ty,rfl,by simp only[sd,aj,gR,P'],fun c ak=>?_,bQ,by have:=eS.1;omega,fun j d aE=>?_⟩,fun j d aE e5=>?_⟩
     ·simp only[sd]at ak;cases e:ω c with
      | bO=>rw[e]at ak;cases ak
      | tok s q=>rw[e]at ak;simp only[gR]at ak;split at ak<;>cases ak
      | box gZ=>
       rw[e]at ak;simp only[gR]at ak;split at ak
       ·rename_i fI np;simp only[c8.box.injEq]at ak;subst ak;obtain⟨kx,eo,Z5,tM⟩:=Fb np;have:=((s9 bP gB).2.2.2 kx eo).1 tM;subst this;exact hu c (by rw[e,<-Z5])
       cases ak
     rotate_left
     ·obtain⟨l,ag,dq⟩:=aK j d aE;obtain⟨u,fV,fk⟩:=eS.2 j l ag;rw[Kj ag]at e5;obtain⟨hg,kJ⟩:=pQ.1 e5;obtain⟨rfl,_,k,es,ef,rk⟩:=Bq kJ;simp only[aH.Gh,kJ]at dq;rw[ef]at dq;cases dq;have e:iH w (.pointer (some ⟨b,0,none⟩)) j=u:=by simp[iH,bQ,ew,fV]
      rw[e];refine (rk fk).frame fun c q _ az=>⟨?_,rfl⟩
      simp only[Tag.R]at az ⊢;simp only[sd,az,gR]
     obtain⟨l,ag,dq⟩:=aK j d aE;obtain⟨u,fV,fk⟩:=eS.2 j l ag;refine⟨u,fV,fun e5=>?_⟩;rw[Kj ag]at e5;have Qn:pw l=none:=by simpa using e5
     simp only[aH.Gh,Qn]at dq;clear e5 Qn;cases l with
     | v z=>
      simp only[aH.iQ]at dq;split at dq
      ·simp only[aX]at dq;subst dq;have:u=z:=fk;subst this;exact .v _ _ ‹_›
      cases dq
     | bc c=>
      simp only[aH.iQ,aX]at dq;subst dq;have:u=.bool c:=fk;subst this;exact .v _ _ rfl
     | J g k es=>
      cases g with
      | free=>cases dq
      | ro s=>cases dq
      | own s=>
       simp only[aH.iQ,aX]at dq;subst dq;have hm:=kl _ (RI (i:=x) (j0:=0) ag rfl);rw[dG]at hm;have abu:=RC kK hm;refine fk.1.frame fun c q _ az=>⟨?_,rfl⟩
       simp only[Tag.R]at az ⊢;simp only[sd,az,gR,abu]
     | cq=>cases dq
     | ptr=>cases dq
     | ep=>cases dq
     | h0=>cases dq
     | fd=>cases dq
     | dx=>cases dq
     | gP=>cases dq
     | aO=>cases dq
     | ft=>cases dq
    have H':Hc sh.oV vs:=by
     intro x g cT aa;have sT:=Ff sJ aa;rw[dG]at sT;obtain⟨p,hp,ra⟩:=cG x _ aa;rw[dG]at ra;rcases ra with⟨ey,ids,e1,rfl⟩ | ⟨cB,ls,e1,_⟩ | ⟨id,ls,pre,post,e1,_⟩
     ·simp only[aN.fn.injEq]at e1;obtain⟨rfl,rfl⟩:=e1;have:=k4 x g ids sT hp;rw[sT];exact this
     ·cases e1
     cases e1
    have key:bZ P f sh.oV hA->(∀v aS a' cW,cI w0 (st.xG sh.ts (10000*(dst.getD 0+1)) sh.refs (hA.dL dst) nk hA.oA) a aS a' cW->cU (Sat aS a' cW) (hA.oF (10000*(dst.getD 0+1)) (hA.dL dst)) v->K (a.put dst v) aS)->
      Oper.wp P o a w K Q:=by
     intro Ix HU;unfold Oper.wp;rw[fU hv,<-Iy];simp only[Oper.upon];rw[H7];refine (Ix w _ sd abS H' (aZ.tidy fun b aj=>by simp only[sd,aj,gR])).mono ?_;rintro e aS ⟨v,rfl,kH,fq,c1,c2,c6,eG⟩;obtain⟨a',cW,h1,U⟩:=aZ.ZZ (10000*(dst.getD 0+1)) (nk:=nk) (ys:=fun i=>vs.getD i undef) bP ia kH fq c1 c2 (fun r aA=>by
      obtain⟨x,pre,g1,g2,g3,g4⟩:=cg r aA;rw[dG]at g1;obtain⟨y,bu,ai⟩:=gC x _ g3;obtain⟨b,aj,rfl⟩:=ai;have e:vs.getD r.i undef=ptrTo b:=by rw[g1,ew,bu];rfl
      rw[e];obtain⟨ls,g5,g6⟩:=g4;refine⟨(c6 r.i _ pre r.post (ptrTo b) (by rw[g1];exact g2) (by rw[g1];exact bu)).1,⟨b,rfl,aj⟩,by rw[g5];rfl⟩) eG (aV.aac eQ) (fun d aE=>by
      cases hA with
      | vals rs=>cases aE
      | hX src ds=>
       have aE:dst=some d:=aE;rw[aE]at ia;simp only[ji]at ia;omega) (fun r aA j l bd=>by
      obtain⟨x,pre,g1,g2,g3,ls,g5,g6⟩:=cg r aA;rw[dG]at g1;obtain⟨y,bu,ai⟩:=gC x _ g3;obtain⟨b,aj,rfl⟩:=ai;have e:vs.getD r.i undef=ptrTo b:=by rw[g1,ew,bu];rfl
      rw[e];rw[g6]at bd;obtain⟨i1,i2⟩:=asa bd;refine⟨(Bq i2).2.1 _ _ _,?_⟩;have e5:stays (kP r.eN) j=true:=by rw[g6,Kj i1,i2];rfl
      rw[(c6 r.i _ pre r.post (ptrTo b) (by rw[g1];exact g2) (by rw[g1];exact bu)).2 j e5];obtain⟨da,arr,ty,dz,hu,bQ,eS⟩:=aZ.boxes _ ls g5;have:=hu b aj;subst this;obtain⟨u,fV,fk⟩:=eS.2 j l i1;have e:iH w (ptrTo b) j=u:=by simp[iH,ptrTo,bQ,ew,fV]
      rw[e];exact fk) (fun j l bd=>by
      cases hA with
      | vals rs=>
       simp only[aV.nk,aX]at we;subst we;simp at bd
      | hX src ds=>
       obtain⟨_,i2⟩:=Fc we;obtain⟨x,lA,lB,acw⟩:=i2 j l bd;refine⟨(Bq acw).2.1 _ _ _,?_⟩;obtain⟨y,bu,ai⟩:=gC x _ lB;have:=eG.2 j x lA;rw[bu]at this;rw[<-eE this];exact ai) (fun src ds e=>by
      subst e;exact (Fc we).1)
     exact HU v aS a' cW h1 U
    cases dst with
    | none=>
     simp only[aX,bJ]at h;obtain⟨rfl,_,rfl⟩:=h;exact key aU.1 fun v aS a' cW h1 _=>h8 _ _ ⟨a',cW,h1⟩
    | some d=>
     simp only[aX,bJ]at h;obtain⟨rfl,_,rfl⟩:=h;exact key aU.1 fun v aS a' cW h1 U=>h8 _ _ ⟨a',cW,h1.put U⟩
   cases h
  cases h
 cases h
theorem asb{f:FuncId}{args:Array Operand}{ts:Array TypeId}{type:TypeId}{pos:String}{after:Array Edge}{guard:Option (Nat×Bool)}
  (aZ:cI w0 st a w ω τ) (h:Kk P st dst f args.toList ans=some (bE,cu,obs)) (aU:cO obs) {K:Act->World->Prop} {Q:Exit->Act->World->Prop} (h8:∀cJ aS,Rel w0 bE cJ aS->K cJ aS):
  Oper.wp P ⟨dst,.call ⟨.value (.func f),args,ts⟩,type,pos,after,guard⟩ a w K Q:=by
 have gC:∀(x:Nat) (p:aJ),(args.toList.map st.br)[x]?=some p->∃v,(args.map a.eval)[x]?=some v/\cU (Sat w ω τ) p v:=by
  intro x p hp;rw[du,b8]at hp;obtain⟨o,h1,rfl⟩:=hp;refine⟨a.eval o,?_,aZ.br o⟩;rw[zU];rw[nY]at h1;rw[h1];rfl
 have fU:jJ P f=true->(execOp a.eval ⟨dst,.call ⟨.value (.func f),args,ts⟩,type,pos,after,guard⟩).run P w=.ok (.enter f (args.map a.eval)) w:=by
  intro hv;unfold jJ at hv;split at hv
  ·rename_i fn k4;simp only[cm,fP,xM,hc]at hv;have sC:fn.body≠none:=by intro e;rw[e]at hv;simp at hv
   simp[execOp,resolve,Act.eval,Deferred.ofValue,invoke,callFunc,k4,hv.1,sC]
  cases hv
 unfold Kk at h;split at h
 ·rename_i g ids ua;rw[mo]at ua;obtain⟨p,hp,sF⟩:=ua;have yp:p=.aI (.one (.gP g ids)):=by
   unfold so at sF;split at sF
   ·cases sF;rfl
   cases sF
  subst yp;have DI:0<(args.toList.map st.br).length:=by
   rcases Nat.eq_zero_or_pos (args.toList.map st.br).length with bg | bg
   ·rw[xN bg]at hp;simp at hp
   exact bg
  have Iu:(args.toList.map st.br)[args.toList.length-1]?=some (.aI (.one (.gP g ids))):=by
   rw[List.getLast?_eq_getElem?]at hp;simpa using hp
  obtain⟨v,bF,bs,HZ,Ao,fS⟩:=gC _ _ Iu;have aR:0<args.size:=by simpa using DI
  refine Km (n:=args.toList.length) (vs:=args.map a.eval++(bs.map ptrTo).toArray) rfl aZ h aU (by simp[Ao]) (fun x p aa=>?_) (fun x ey acq sT aa=>?_) (fun hv=>?_) h8
  ·rw[lk]at aa;rw[kf];split at aa
   ·rename_i bL;rw[bi (by simpa using bL)];exact gC x p aa
   rename_i nC;rw[ba (by simpa using nC)];rw[du,b8]at aa;obtain⟨id,fT,rfl⟩:=aa;obtain⟨b,hJ,gp⟩:=fS _ id fT;refine⟨ptrTo b,?_,b,gp,rfl⟩;simp only[bA,vy]at hJ;simp[hJ]
  ·have bL:x<args.size:=by simp at sT;omega
   have yx:x=args.toList.length-1:=by omega
   rw[lk,bi (by simpa using bL),yx,Iu]at aa;simp only[aX,aJ.aI.injEq,bC.one.injEq,aH.gP.injEq]at aa;obtain⟨rfl,rfl⟩:=aa;rw[kf,bi (by simpa using bL),yx,bF,HZ]
   congr 2
   apply Array.ext
   ·simp[Ao]
   intro j h1 U;have bd:j<bs.length:=by simpa using h1
   simp[ew,kf,bd];rw[ba (by omega)];rfl
  have e:(args.map a.eval++(bs.map ptrTo).toArray).extract 0 args.toList.length=args.map a.eval:=by
   apply Array.ext
   ·simp
   intro j h1 U;have bd:j<args.size:=by simpa using U
   simp[Array.getElem_append,bd]
  rw[e];exact fU hv
 refine Km (n:=args.toList.length) (vs:=args.map a.eval) rfl aZ h aU (by simp) gC (fun x g ids sT aa=>?_) (fun hv=>?_) h8
 ·rename_i gS;exfalso;have:(args.toList.map st.br).getLast?=some (.aI (.one (.gP g ids))):=by
   rw[List.getLast?_eq_getElem?];rw[<-aa]
   congr 1
   simp;simp at sT;omega
  rw[this]at gS;simp[so]at gS
 have e:(args.map a.eval).extract 0 args.toList.length=args.map a.eval:=by simp
 rw[e];exact fU hv
theorem asc{y:Nat}{args:Array Operand}{ts:Array TypeId}{type:TypeId}{pos:String}{after:Array Edge}{guard:Option (Nat×Bool)}
  (aZ:cI w0 st a w ω τ) (h:Kl P st dst (.tmp y) args.toList ans=some (bE,cu,obs)) (aU:cO obs) {K:Act->World->Prop} {Q:Exit->Act->World->Prop} (h8:∀cJ aS,Rel w0 bE cJ aS->K cJ aS):
  Oper.wp P ⟨dst,.call ⟨.value (.tmp y),args,ts⟩,type,pos,after,guard⟩ a w K Q:=by
 have gC:∀(x:Nat) (p:aJ),(args.toList.map st.br)[x]?=some p->∃v,(args.map a.eval)[x]?=some v/\cU (Sat w ω τ) p v:=by
  intro x p hp;rw[du,b8]at hp;obtain⟨o,h1,rfl⟩:=hp;refine⟨a.eval o,?_,aZ.br o⟩;rw[zU];rw[nY]at h1;rw[h1];rfl
 unfold Kl at h;split at h
 ·rename_i g ids sF;have yp:st.br (.tmp y)=.aI (.one (.gP g ids)):=by
   unfold so at sF;split at sF
   ·rename_i e;cases sF;exact e
   cases sF
  have ai:=aZ.br (.tmp y);rw[yp]at ai;obtain⟨bs,HZ,Ao,fS⟩:=ai;split at h
  case isFalse=>cases h
  rename_i gS;refine Km (n:=args.toList.length+ids.length) (vs:=args.map a.eval++(bs.map ptrTo).toArray) rfl aZ h aU (by simp[Ao]) (fun x p aa=>?_) (fun x ey acq sT aa=>?_) (fun hv=>?_) h8
  ·rw[lk]at aa;rw[kf];split at aa
   ·rename_i bL;rw[bi (by simpa using bL)];exact gC x p aa
   rename_i nC;rw[ba (by simpa using nC)];rw[du,b8]at aa;obtain⟨id,fT,rfl⟩:=aa;obtain⟨b,hJ,gp⟩:=fS _ id fT;refine⟨ptrTo b,?_,b,gp,rfl⟩;simp only[bA,vy]at hJ;simp[hJ]
  ·exfalso;rw[lk]at aa;split at aa
   ·rename_i bL;have:=fK.1 gS _ (fF aa);simp[so]at this
   rw[du,b8]at aa;obtain⟨id,_,e⟩:=aa;cases e
  have e:(args.map a.eval++(bs.map ptrTo).toArray).extract 0 (args.toList.length+ids.length)=args.map a.eval++(bs.map ptrTo).toArray:=by
   have e2:args.toList.length+ids.length=(args.map a.eval++(bs.map ptrTo).toArray).size:=by simp[Ao]
   rw[e2,Array.extract_size]
  rw[e];unfold jJ at hv;split at hv
  ·rename_i fn k4;simp only[cm,fP,xM,hc]at hv;have sC:fn.body≠none:=by intro e;rw[e]at hv;simp at hv
   simp[execOp,resolve,HZ,Deferred.ofValue,invoke,callFunc,k4,hv.1,sC]
  cases hv
 cases h
