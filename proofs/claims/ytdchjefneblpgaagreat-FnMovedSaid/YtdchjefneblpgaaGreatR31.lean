import Derived.Test.YtdchjefneblpgaaGreatR11
set_option linter.unusedVariables false
set_option linter.unusedSimpArgs false
namespace Go.Sx
open Go.RowKit
inductive aM where
 | ro (a:cF)
 | hY (pn:List Bool) (pre post:List D)
 | fn (g:FuncId) (cH:List Nat)
abbrev aM.ref (pre post : List D) : aM := .hY [] pre post
abbrev aM.cur(pre post:List D):aM:=.hY [true,false,false] pre post
def stays(pn:List Bool)(j:Nat):Bool:=pn.getD j false
def h9(w:World)(y:Value)(j:Nat):Value:=
 match y with
 | .pointer (some p)=>match w.heap[p.block]? with | some (.cells arr _ _)=>arr.getD j undef | _=>undef
 | _=>undef
def qb(i j:Nat):Nat:=900000000+(100*i+j)
def gP(i j:Nat):Nat:=5000+(100*i+j)
def uA(w:World)(ω:Own)(i:Nat)(pn:List Bool)(f:Nat->Nat)(ds:List D)(y:Value):Prop:=
 ∃b arr ty,y=ptrTo b/\ω b=.box i/\(∀cU,ω cU=.box i->cU=b)/\w.heap[b]?=some (.cells arr ty (0,0))/\arr.size=ds.length/\∀(j:Nat) (d:D),ds[j]?=some d->∃u,arr[j]?=some u/\(stays pn j=false->bW w ω (Tag.own (f j)).R d u)
def V4(w:World)(ω:Own)(i:Nat):aM->Value->Prop
 | .ro (.one d),y=>bW w ω Tag.free.R d y
 | .ro (.agg ds),y=>∃vs:Array Value,y=.agg vs/\vs.size=ds.length/\∀(j:Nat) (d:D),ds[j]?=some d->∃u,vs[j]?=some u/\bW w ω Tag.free.R d u
 | .hY pn pre _,y=>uA w ω i pn (qb i) pre y/\∀(j:Nat) (d:D),pre[j]?=some d->stays pn j=true->bW w ω Tag.free.R d (h9 w y j)
 | .fn _ _,_=>True
def aM.bK:aM->Nat
 | .fn _ cH=>cH.length
 | _=>0
def ss(args:List aM):Nat:=args.length-(args.map aM.bK).sum
def Fm(args:List aM)(vs:Array Value):Prop:=∀(i:Nat) (g:FuncId) (cH:List Nat),args[i]?=some (.fn g cH)->vs[i]?=some (.func (.func g) #[] (cH.map fun k=>vs.getD k undef).toArray)
def Dy(w:World)(ω:Own):Prop:=∀b,ω b≠.bE->∃arr ty,w.heap[b]?=some (.cells arr ty (0,0))
def Fq(w:World)(ω:Own)(args:List aM)(vs:Array Value):Prop:=Dy w ω/\(∀b i,ω b=.box i->∃pn pre post,args[i]?=some (.hY pn pre post))/\vs.size=args.length/\∀(i:Nat) (iw:aM),args[i]?=some iw->∃v,vs[i]?=some v/\V4 w ω i iw v
def v8(src:List (Option Nat)):List Bool:=src.map Option.isSome
def BE(w:World)(ω:Own)(vs:Array Value):aS->Value->Prop
 | .vals rs,v=>mI w ω rs v
 | .h7 src ds,v=>uA w ω 49 (v8 src) (gP 49) ds v/\∀(j i:Nat),src[j]?=some (some i)->vs[i]?=some (h9 w v j)
def bT(P:Program)(f:FuncId)(args:List aM)(r:aS):Prop:=
 ∀(w:World) (vs:Array Value) (ω:Own),Fq w ω args vs->Fm args vs->Tidy w ω->Calls P f (vs.extract 0 (ss args)) w fun e aN=>∃v,e=.returned v/\gO ⟨w,fun b=>ω b≠.bE,fun _=>(0,undef)⟩ aN/\
  ∃aY:Own,(∀b,b<w.heap.size->ω b=.bE->aY b=.bE)/\Dy aN aY/\(∀(i:Nat) (pn:List Bool) (pre post:List D) (y:Value),args[i]?=some (.hY pn pre post)->vs[i]?=some y->uA aN aY i pn (gP i) post y/\∀j,stays pn j=true->h9 aN y j=h9 w y j)/\BE aN aY vs r v
abbrev asY:=List (Nat×Nat)
def look(t:Nat):List (Nat×Nat)->Option Nat
 | []=>none
 | (s,n)::r=>if s=t then some n else look t r
def Jf(ts:List (Nat×Nat)):Bool:=ts.all fun x=>ts.all fun y=>(x.1==y.1)==(x.2==y.2)
variable{ts:List (Nat×Nat)}
theorem O2{t n:Nat}(h:Jf ts=true)(hm:(t,n)∈ts):look t ts=some n:=by
 have key:∀l:List (Nat×Nat),(∀x∈l,x∈ts)->(t,n)∈l->look t l=some n:=by
  intro l;induction l with
  | nil=>intro _ h;cases h
  | cons x l dE=>
   intro ai hm;obtain⟨s,m⟩:=x;simp only[look];split
   ·rename_i e;subst e;have h1:=fv.1 (fv.1 h _ (ai _ gN)) _ (by exact ‹(s,n)∈ts›);simp only[sF,dY]at h1;have:(m==n)=true:=by rw[<-h1]
    simp only[dY]at this;rw[this]
   rename_i cC;rcases et.1 hm with e | hm
   ·simp only[bu]at e;exact absurd e.1.symm cC
   exact dE (fun x ag=>ai x (ht _ ag)) hm
 exact key ts (fun _ h=>h) hm
theorem akM{t n:Nat}(h:look t ts=some n):(t,n)∈ts:=by
 induction ts with
 | nil=>cases h
 | cons x l dE=>
  obtain⟨s,m⟩:=x;simp only[look]at h;split at h
  ·rename_i e;subst e;rw[eL h];exact gN
  exact ht _ (dE h)
def gh(bs ts:List (Nat×Nat)):cS->cS
 | .bE=>.bE
 | .box id=>match look id bs with | some i=>.box i | none=>.bE
 | .tok t q=>match look t ts with | some n=>.tok n q | none=>.bE
def Tag.oH(ts:List (Nat×Nat)):Tag->Bool
 | .free=>false
 | .own t=>(look t ts).isSome
 | .ro t=>(look t ts).isSome
def qG:Option Nat->Nat->Bool
 | none=>fun _=>true
 | some d=>iX d
def xa(ts:List (Nat×Nat))(t0:Nat)(g:Tag):Option Tag:=if g.oH ts then none else fY t0 g
abbrev vY(ts:List (Nat×Nat))(t0:Nat)(du:Option Nat)(l:aB):aB:=l.ci (xa ts t0) (qG du)
structure iC where
 i:Nat
 id:Nat
 post:List D
 fh:List (Option aB)
def kd(cH:List (Option aB)):List Bool:=cH.map Option.isSome
def kt:List (Option aB)->List aB->List aB
 | [],ls=>ls
 | _,[]=>[]
 | some l::cH,_::ls=>l::kt cH ls
 | none::cH,l::ls=>l::kt cH ls
theorem Dz:∀(cH:List (Option aB)) (ls:List aB),(kt cH ls).length=ls.length
 | [],ls=>rfl
 | _::_,[]=>by simp[kt]
 | some l::cH,_::ls=>by simp[kt,Dz cH ls]
 | none::cH,_::ls=>by simp[kt,Dz cH ls]
theorem Jg:∀(cH:List (Option aB)) (ls:List aB) (j:Nat) (l:aB),(kt cH ls)[j]?=some l->(cH[j]?=some (some l)/\stays (kd cH) j=true)\/(ls[j]?=some l/\stays (kd cH) j=false)
 | [],ls,j,l,h=>.inr ⟨h,by simp[stays,kd]⟩
 | _::_,[],j,l,h=>by simp[kt]at h
 | some k::cH,x::ls,0,l,h=>by simp only[kt,j2,aQ]at h;subst h;exact .inl ⟨rfl,rfl⟩
 | none::cH,x::ls,0,l,h=>by simp only[kt,j2]at h;exact .inr ⟨h,rfl⟩
 | some k::cH,x::ls,j+1,l,h=>by
  have:=Jg cH ls j l (by simpa[kt]using h);simpa[stays,kd]using this
 | none::cH,x::ls,j+1,l,h=>by
  have:=Jg cH ls j l (by simpa[kt]using h);simpa[stays,kd]using this
def vG(t0:Nat):List iC->List (Nat×List aB)->List (Nat×List aB)
 | [],bs=>bs
 | r::rs,bs=>vG t0 rs (pX r.id (kt r.fh (mJ (t0+gP r.i 0) 0 r.post)) bs)
def O3(t0:Nat)(du:Option Nat)(nk:List (Option aB))(ds:List D)(bs:List (Nat×List aB)):List (Nat×List aB):=
 match du with
 | some d=>(d,kt nk (mJ (t0+gP 49 0) 0 ds))::oR d bs
 | none=>bs
def aH.vZ(st:aH)(ts:List (Nat×Nat))(t0:Nat)(refs:List iC)(du:Option Nat)(nk:List (Option aB))(ds:List D):aH:=
 ⟨st.env.map (aI.map (vY ts t0 du)),O3 t0 du nk ds (vG t0 refs (st.boxes.map fun x=>(x.1,x.2.map (vY ts t0 du))))⟩
def oK(t0:Nat)(du:Option Nat):cS->cS
 | .tok s q=>if t0<=s/\s<t0+10000 then .bE else .tok s q
 | .box id=>if qG du id then .box id else .bE
 | .bE=>.bE
def oD(i:Nat)(du:Option Nat):List iC->Option Nat
 | []=>if i=49 then du else none
 | r::rs=>if r.i=i then some r.id else oD i du rs
def mg(t0:Nat)(refs:List iC)(du:Option Nat):cS->cS
 | .tok s q=>if s<10000 then .tok (t0+s) q else .bE
 | .box i=>match oD i du refs with | some id=>.box id | none=>.bE
 | .bE=>.bE
def D.sx:D->Nat
 | .J k _=>k
 | _=>0
def vH(i:Nat)(ds:List D):List iC->List D
 | []=>ds
 | r::rs=>if r.i=i then r.post else vH i ds rs
def kg(refs:List iC):List (Nat×Nat):=refs.map fun r=>(r.id,r.i)
def xb:List iC->Option Nat->Bool
 | [],_=>true
 | x::r,du=>decide (x.i<49)&&decide (x.post.length<100)&&decide (du≠some x.id)&&r.all (fun y=>x.i != y.i&&x.id != y.id)&&xb r du
variable{id:Nat}
theorem Jh{t0:Nat}:∀{refs:List iC} {bs:List (Nat×List aB)},(∀r∈refs,r.id≠id)->dn id (vG t0 refs bs)=dn id bs
 | [],bs,_=>rfl
 | r::rs,bs,h=>by
  simp only[vG];rw[Jh fun x ag=>h x (ht _ ag),w7 (Ne.symm (h r gN))]
theorem akN{gv:Nat}{ls:List aB}:∀{bs:List (Nat×List aB)},(dn id bs).isSome=true->(dn id (pX gv ls bs)).isSome=true:=by
 intro bs h;by_cases e:id=gv
 ·subst e;obtain⟨x,ag⟩:=o6.1 h;rw[xl ag];rfl
 rw[w7 e];exact h
theorem O4{t0:Nat}:∀{refs:List iC} {bs:List (Nat×List aB)} {r:iC},r∈refs->(∀x∈refs,x.id=r.id->x=r)->(dn r.id bs).isSome=true->dn r.id (vG t0 refs bs)=some (kt r.fh (mJ (t0+gP r.i 0) 0 r.post))
 | [],_,_,h,_,_=>by cases h
 | x::rs,bs,r,h,hu,ai=>by
  simp only[vG];by_cases hm:r∈rs
  ·exact O4 hm (fun y bn=>hu y (ht _ bn)) (akN ai)
  rcases et.1 h with e | h
  ·subst e;obtain⟨l,ak⟩:=o6.1 ai;rw[Jh,xl ak];intro y bn e;have:=hu y (ht _ bn) e;subst this;exact hm bn
  exact absurd h hm
variable{du:Option Nat}
theorem sb:∀{refs:List iC},xb refs du=true->∀{x:iC},x∈refs->x.i<49/\x.post.length<100/\du≠some x.id/\∀y∈refs,(y.i=x.i->y=x)/\(y.id=x.id->y=x)
 | [],_,x,ag=>by cases ag
 | z::r,h,x,ag=>by
  simp only[xb,cq,cK,fv,bne_iff_ne,gM]at h;obtain⟨⟨⟨⟨h1,U⟩,ax⟩,aK⟩,aV⟩:=h;rcases et.1 ag with e | zd
  ·subst e;refine⟨h1,U,ax,fun y bn=>?_⟩;rcases et.1 bn with e | bn
   ·exact⟨fun _=>e,fun _=>e⟩
   exact⟨fun e=>absurd e.symm (aK y bn).1,fun e=>absurd e.symm (aK y bn).2⟩
  obtain⟨cV,cA,fl,pL⟩:=sb aV zd;refine⟨cV,cA,fl,fun y bn=>?_⟩;rcases et.1 bn with e | bn
  ·subst e;exact⟨fun e=>absurd e (aK x zd).1,fun e=>absurd e (aK x zd).2⟩
  exact pL y bn
theorem Ji:∀{refs:List iC} {r:iC},r∈refs->(∀y∈refs,y.i=r.i->y.id=r.id)->oD r.i du refs=some r.id
 | [],_,h,_=>by cases h
 | x::rs,r,h,hu=>by
  simp only[oD];split
  ·rename_i e;rw[hu x gN e]
  rename_i e;rcases et.1 h with e1 | h
  ·subst e1;exact absurd rfl e
  exact Ji h fun y bn=>hu y (ht _ bn)
theorem xc{i:Nat}:∀{refs:List iC},oD i du refs=some id->(∃r∈refs,r.i=i/\r.id=id)\/(i=49/\du=some id)
 | [],h=>by
  simp only[oD]at h;split at h
  ·exact .inr ⟨‹_›,h⟩
  cases h
 | x::rs,h=>by
  simp only[oD]at h;split at h
  ·rename_i e;exact .inl ⟨x,gN,e,eL h⟩
  rcases xc h with⟨r,aD,h1⟩ | h1
  ·exact .inl ⟨r,ht _ aD,h1⟩
  exact .inr h1
theorem Jj:∀{refs:List iC},(∀r∈refs,r.i<49)->oD 49 du refs=du
 | [],_=>by simp[oD]
 | x::rs,h=>by
  simp only[oD];rw[bg (by have:=h x gN;omega)];exact Jj fun r aD=>h r (ht _ aD)
theorem O5{ds:List D}:∀{refs:List iC} {r:iC},r∈refs->(∀y∈refs,y.i=r.i->y=r)->vH r.i ds refs=r.post
 | [],_,h,_=>by cases h
 | x::rs,r,h,hu=>by
  simp only[vH];split
  ·rename_i e;rw[hu x gN e]
  rename_i e;rcases et.1 h with e1 | h
  ·subst e1;exact absurd rfl e
  exact O5 h fun y bn=>hu y (ht _ bn)
theorem Jk{ds:List D}:∀{refs:List iC},(∀r∈refs,r.i<49)->vH 49 ds refs=ds
 | [],_=>rfl
 | x::rs,h=>by
  simp only[vH];rw[bg (by have:=h x gN;omega)];exact Jk fun r aD=>h r (ht _ aD)
variable{refs:List iC}
theorem O6(h:xb refs du=true){r:iC}(aD:r∈refs):look r.id (kg refs)=some r.i:=by
 refine O2 ?_ (k2.2 ⟨r,aD,rfl⟩);unfold Jf;rw[fv];intro x ag;rw[fv];intro y bn;obtain⟨rx,XX,rfl⟩:=k2.1 ag;obtain⟨En,XY,rfl⟩:=k2.1 bn;have:=(sb h XX).2.2.2 En XY;simp only[dY];by_cases e:En=rx
 ·subst e;simp
 have e1:¬rx.id=En.id:=fun e1=>e (this.2 e1.symm)
 have e2:¬rx.i=En.i:=fun e2=>e (this.1 e2.symm)
 rw[wh.2 e1,wh.2 e2]
theorem DA{i:Nat}(h:look id (kg refs)=some i):∃r∈refs,r.id=id/\r.i=i:=by
 obtain⟨r,aD,e⟩:=k2.1 (akM h);simp only[bu]at e;exact⟨r,aD,e.1,e.2⟩
def Jl(rs:List cF):Bool:=decide (rs.length<50)&&rs.all fun | .one _=>true | .agg ds=>ds.length<100
def aS.fits(du:Option Nat)(nF:List D):aS->Prop
 | .vals rs=>du=none/\Jl rs=true
 | .h7 _ ds=>du.isSome=true/\nF=ds/\ds.length<100
def aS.dN(v:Value)(n:Nat):aS->Nat×Value
 | .vals rs=>(pz rs n,my rs v n)
 | .h7 _ _=>(0,undef)
def aS.nI(t0:Nat)(du:Option Nat):aS->aI
 | .vals rs=>su t0 rs
 | .h7 _ _=>.one (.ptr (du.getD 0) 0)
theorem cw.Wf{w0:ej}{st:aH}{a:Act}{w aN:World}{ω:Own}{τ:Nat->Nat×Value}(aU:cw w0 st a w ω τ)(t0:Nat){nk:List (Option aB)}{nF:List D}{gX:aS}{v:Value}{vs:Array Value}{ys:Nat->Value}{H:Nat->Nat×Value}
  (cG:xb refs du=true) (hQ:t0+10000<=c3) (aq:gO ⟨w,fun b=>gh (kg refs) ts (ω b)≠.bE,H⟩ aN) (e0:Own)
  (kl:∀b,b<w.heap.size->gh (kg refs) ts (ω b)=.bE->e0 b=.bE) (j9:Dy aN e0)
  (hrefs:∀r∈refs,uA aN e0 r.i (kd r.fh) (gP r.i) r.post (ys r.i)/\(∃b,ys r.i=ptrTo b/\ω b=.box r.id)/\(dn r.id st.boxes).isSome=true) (eN:BE aN e0 vs gX v) (Cj:gX.fits du nF) (rL:∀d,du=some d->d<c3)
  (Gp:∀r∈refs,∀(j:Nat) (l:aB),r.fh[j]?=some (some l)->vY ts t0 du l=l/\Sat w ω τ l (h9 aN (ys r.i) j)) (uY:∀(j:Nat) (l:aB),nk[j]?=some (some l)->vY ts t0 du l=l/\Sat w ω τ l (h9 aN v j))
  (NE:∀src ds,gX=.h7 src ds->v8 src=kd nk):
  ∃aY cJ,cw w0 (st.vZ ts t0 refs du nk nF) a aN aY cJ/\cI (Sat aN aY cJ) (gX.nI t0 du) v:=by
 classical
 let aY:Own:=fun b=>if b<w.heap.size/\gh (kg refs) ts (ω b)=.bE then oK t0 du (ω b) else mg t0 refs du (e0 b)
 let aE:Nat->Nat×Value:=fun n=>if n<5000 then gX.dN v n else
  ((((vH ((n-5000) / 100) nF refs)[(n-5000) % 100]?).map D.sx).getD 0,h9 aN (if (n-5000) / 100=49 then v else ys ((n-5000) / 100)) ((n-5000) % 100))
 let cJ:Nat->Nat×Value:=fun s=>if t0<=s/\s<t0+10000 then aE (s-t0) else τ s
 have yN:∀r∈refs,r.i<49:=fun r aD=>(sb cG aD).1
 have hold:∀b,b<w.heap.size->gh (kg refs) ts (ω b)=.bE->aY b=oK t0 du (ω b):=fun b h1 U=>by simp only[aY];rw[br ⟨h1,U⟩]
 have fH:∀b,e0 b≠.bE->aY b=mg t0 refs du (e0 b):=fun b h=>by
  simp only[aY];rw[bg];rintro⟨h1,U⟩;exact h (kl b h1 U)
 have hblk:∀b,b<w.heap.size->gh (kg refs) ts (ω b)=.bE->aN.heap[b]?=w.heap[b]?:=fun b h1 U=>aq.block b h1 (fun aT=>aT U)
 have y7:∀r∈refs,∀b,ω b=.box r.id->e0 b=.box r.i/\ys r.i=ptrTo b:=by
  intro r aD b ck;obtain⟨⟨gD,arr,ty,h1,U,_⟩,⟨gf,ax,aK⟩,aV⟩:=hrefs r aD;obtain⟨ls,uV⟩:=o6.1 aV;obtain⟨yk,_,_,_,hu,_⟩:=aU.boxes r.id ls uV;have e1:=hu b ck;have e2:=hu gf aK;have cc:gf=b:=by rw[e1,e2]
  subst cc;rw[ax]at h1;simp only[ptrTo,Value.pointer.injEq,aQ,Addr.mk.injEq]at h1;obtain⟨rfl,_⟩:=h1;exact⟨U,ax⟩
 have w2:∀id b,qG du id=true->ω b=.box id->aY b=.box id:=by
  intro id b hp ck;have bC:=aU.owned.lt (b:=b) (by simp[ck]);cases e:look id (kg refs) with
  | none=>
   have hi:gh (kg refs) ts (ω b)=.bE:=by rw[ck];simp only[gh,e]
   rw[hold b bC hi,ck];simp only[oK,hp,gL]
  | some i=>
   obtain⟨r,aD,rfl,rfl⟩:=DA e;obtain⟨h1,_⟩:=y7 r aD b ck;rw[fH b (by rw[h1];simp),h1];simp only[mg];rw[Ji aD fun y bn e=>by rw[((sb cG aD).2.2.2 y bn).1 e]]
 have bh:k4 w ω τ aN aY cJ (xa ts t0) (qG du):=by
  refine⟨?_,?_,fun id b hp h=>w2 id b hp h,?_,fun s ai=>by simp only[cJ];rw[bg (by omega)]⟩
  ·intro g ea b q au bC aC;unfold xa at au;split at au
   ·cases au
   rename_i hm;simp only[uf]at hm;have hi:gh (kg refs) ts (ω b)=.bE:=by
    cases g with
    | free=>simp only[Tag.R]at aC;rw[aC];rfl
    | own s=>
     simp only[Tag.R]at aC;simp only[Tag.oH,Fh,Fj]at hm;rw[aC];simp only[gh,hm]
    | ro s=>
     simp only[Tag.oH,Fh,Fj]at hm;rcases aC with h | ⟨di,h⟩
     ·rw[h];rfl
     rw[h];simp only[gh,hm]
   refine⟨?_,hblk b bC hi⟩;rw[hold b bC hi];cases g with
   | free=>simp only[fY,aQ]at au;subst au;simp only[Tag.R]at aC ⊢;rw[aC];rfl
   | own s=>
    simp only[Tag.R]at aC;simp only[fY]at au;rw[aC];simp only[oK];split at au
    ·simp only[aQ]at au;subst au;rw[br ‹_›];rfl
    simp only[aQ]at au;subst au;rw[bg ‹_›];rfl
   | ro s=>
    simp only[Tag.R]at aC;simp only[fY]at au;split at au
    ·simp only[aQ]at au;subst au;rcases aC with h | ⟨di,h⟩
     ·rw[h];rfl
     rw[h];simp only[oK];rw[br ‹_›];rfl
    simp only[aQ]at au;subst au;rcases aC with h | ⟨di,h⟩
    ·rw[h];exact .inl rfl
    rw[h];simp only[oK];rw[bg ‹_›];exact .inr ⟨di,rfl⟩
  ·intro g ea y au bn;unfold xa at au;split at au
   ·cases au
   cases g with
   | free=>simp only[fY,aQ]at au;subst au;exact trivial
   | own s=>
    simp only[fY]at au;split at au
    ·simp only[aQ]at au;subst au;exact trivial
    simp only[aQ]at au;subst au;simp only[Tag.dN,cJ]at bn ⊢;rw[bg ‹_›];exact bn
   | ro s=>
    simp only[fY]at au;split at au
    ·simp only[aQ]at au;subst au;exact trivial
    simp only[aQ]at au;subst au;exact trivial
  rfl
 have cell:∀(n:Nat) (d:D) (u:Value),n<10000->aE n=(d.sx,u)->bW aN e0 (Tag.own n).R d u->Sat aN aY cJ (d.oZ (t0+n)) u:=by
  intro n d u aT bA aD;cases d with
  | v x=>
   have e:u=x:=by cases aD;rfl
   subst e;unfold D.oZ;split
   ·rename_i h;cases h;exact rfl
   ·rename_i h;cases h;exact rfl
   ·rename_i h;cases h
   ·exact trivial
   exact trivial
  | ptr ds=>exact trivial
  | cl g bK=>exact trivial
  | J k es=>
   refine⟨aD.frame fun b q bC aC=>⟨?_,rfl⟩,?_⟩
   ·simp only[Tag.R]at aC ⊢;rw[fH b (by rw[aC];simp),aC];simp only[mg];rw[br aT]
   simp only[Tag.dN,cJ];rw[br (by omega),show t0+n-t0=n by omega,bA];rfl
 have var:∀(i:Nat) (post:List D) (y:Value) (id:Nat) (cH:List (Option aB)),i<50->post.length<100->vH i nF refs=post->(if i=49 then v else ys i)=y->uA aN e0 i (kd cH) (gP i) post y->oD i du refs=some id->(∀(j:Nat) (l:aB),cH[j]?=some (some l)->vY ts t0 du l=l/\Sat w ω τ l (h9 aN y j))->
   (∀cU fs,oD fs du refs=some id->e0 cU=.box fs->fs=i)->(∀cU,ω cU=.box id->qG du id=true->¬gh (kg refs) ts (ω cU)=.bE)->sG aN aY cJ id (kt cH (mJ (t0+gP i 0) 0 post))/\∃b,y=ptrTo b/\aY b=.box id:=by
  rintro i post y id cH hi yX XR bn ⟨b,arr,ty,rfl,U,ax,aK,aV,bw⟩ fB Xt Xm h6;have dA:aY b=.box id:=by
   rw[fH b (by rw[U];simp),U];simp only[mg,fB]
  refine⟨⟨b,arr,ty,dA,fun cU ck=>?_,aK,by rw[Dz,w9];exact aV,fun j l ak=>?_⟩,b,rfl,dA⟩
  ·by_cases ah:cU<w.heap.size/\gh (kg refs) ts (ω cU)=.bE
   ·rw[hold cU ah.1 ah.2]at ck;cases e:ω cU with
    | bE=>rw[e]at ck;cases ck
    | tok s q=>rw[e]at ck;simp only[oK]at ck;split at ck<;>cases ck
    | box gv=>
     rw[e]at ck;simp only[oK]at ck;split at ck
     ·simp only[cS.box.injEq]at ck;subst ck;exact absurd ah.2 (h6 cU e ‹_›)
     cases ck
   have fr:mg t0 refs du (e0 cU)=.box id:=by
    simp only[aY]at ck;rwa[bg ah]at ck
   cases e:e0 cU with
   | bE=>rw[e]at fr;cases fr
   | tok s q=>rw[e]at fr;simp only[mg]at fr;split at fr<;>cases fr
   | box fs=>
    rw[e]at fr;simp only[mg]at fr;split at fr
    ·rename_i gv e2;simp only[cS.box.injEq]at fr;subst fr;have:=Xm cU fs e2 e;subst this;exact ax cU e
    cases fr
  have ko:j<(kt cH (mJ (t0+gP i 0) 0 post)).length:=(eu.1 ak).1;rw[Dz,w9]at ko;rcases Jg cH _ j l ak with⟨ak,_⟩ | ⟨ak,Gt⟩
  ·obtain⟨u,hu,_⟩:=bw j _ (gp ko);obtain⟨g1,g2⟩:=Xt j l ak;refine⟨u,hu,?_⟩;have e:h9 aN (ptrTo b) j=u:=by simp[h9,ptrTo,aK,d',hu]
   rw[e]at g2;have:=bh.sat l u g2;rwa[show l.ci (xa ts t0) (qG du)=l from g1]at this
  rw[zL,b0]at ak;obtain⟨d,dD,rfl⟩:=ak;obtain⟨u,hu,aD⟩:=bw j d dD;replace aD:=aD Gt;have a':j<100:=by
   have:=(eu.1 dD).1;omega
  refine⟨u,hu,?_⟩;have:=cell (gP i j) d u (by simp only[gP];omega) (by
   have e1:(gP i j-5000) / 100=i:=by simp only[gP];omega
   have e2:(gP i j-5000) % 100=j:=by simp only[gP];omega
   simp only[aE];rw[bg (by simp only[gP];omega),e1,e2,XR,dD,bn];simp[h9,ptrTo,aK,d',hu]) aD
  rw[show t0+gP i 0+(0+j)=t0+gP i j by simp only[gP];omega];exact this
 have XU:∀r∈refs,sG aN aY cJ r.id (kt r.fh (mJ (t0+gP r.i 0) 0 r.post)):=by
  intro r aD;obtain⟨h1,U,ax,aK⟩:=sb cG aD;refine (var r.i r.post (ys r.i) r.id r.fh (by omega) U (O5 aD fun y bn e=>(aK y bn).1 e) (by rw[bg (by omega)]) (hrefs r aD).1 (Ji aD fun y bn e=>by rw[(aK y bn).1 e]) (Gp r aD) (fun cU fs e _=>?_) (fun cU e _=>?_)).1
  ·rcases xc e with⟨y,bn,e1,e2⟩ | ⟨_,e2⟩
   ·rw[<-e1,(aK y bn).2 e2]
   exact absurd e2 ax
  rw[e];simp only[gh,O6 cG aD];simp
 have qu:∀id ls,dn id (st.vZ ts t0 refs du nk nF).boxes=some ls->sG aN aY cJ id ls:=by
  intro id ls ak;have rest:∀id ls,du≠some id->dn id (vG t0 refs (st.boxes.map fun x=>(x.1,x.2.map (vY ts t0 du))))=some ls->sG aN aY cJ id ls:=by
   intro id ls B8 ak;by_cases aD:∃r∈refs,r.id=id
   ·obtain⟨r,aD,rfl⟩:=aD;rw[O4 aD (fun y bn e=>((sb cG aD).2.2.2 y bn).2 e) (by
     rw[r9];obtain⟨l,ak⟩:=o6.1 (hrefs r aD).2.2;rw[ak];rfl)]at ak
    rw[<-eL ak];exact XU r aD
   have dV:∀r∈refs,r.id≠id:=fun r h1 U=>aD ⟨r,h1,U⟩
   rw[Jh dV,r9,b0]at ak;obtain⟨iI,bJ,rfl⟩:=ak;obtain⟨b,arr,ty,h1,U,ax,aK⟩:=aU.boxes id iI bJ;have hp:qG du id=true:=by
    unfold qG;split
    ·rfl
    simp only[iX,cK];intro e;subst e;exact B8 rfl
   have bC:=aU.owned.lt (b:=b) (by simp[h1]);have s0:look id (kg refs)=none:=by
    cases e:look id (kg refs) with
    | none=>rfl
    | some i=>
     obtain⟨r,kM,e1,_⟩:=DA e;exact absurd e1 (dV r kM)
   have hi:gh (kg refs) ts (ω b)=.bE:=by rw[h1];simp only[gh,s0]
   refine⟨b,arr,ty,w2 id b hp h1,fun cU ck=>?_,(hblk b bC hi).trans ax,aK.map bh.sat⟩;by_cases ah:cU<w.heap.size/\gh (kg refs) ts (ω cU)=.bE
   ·rw[hold cU ah.1 ah.2]at ck;cases e:ω cU with
    | bE=>rw[e]at ck;cases ck
    | tok s q=>rw[e]at ck;simp only[oK]at ck;split at ck<;>cases ck
    | box gv=>
     rw[e]at ck;simp only[oK]at ck;split at ck
     ·simp only[cS.box.injEq]at ck;subst ck;exact U cU e
     cases ck
   have fr:mg t0 refs du (e0 cU)=.box id:=by
    simp only[aY]at ck;rwa[bg ah]at ck
   cases e:e0 cU with
   | bE=>rw[e]at fr;cases fr
   | tok s q=>rw[e]at fr;simp only[mg]at fr;split at fr<;>cases fr
   | box fs=>
    rw[e]at fr;simp only[mg]at fr;split at fr
    ·rename_i gv e2;simp only[cS.box.injEq]at fr;subst fr;rcases xc e2 with⟨r,aV,_,bw⟩ | ⟨_,bw⟩
     ·exact absurd bw (dV r aV)
     exact absurd bw B8
    cases fr
  simp only[aH.vZ,O3]at ak;cases du with
  | none=>exact rest id ls (by simp) ak
  | some d=>
   simp only[dn]at ak;by_cases aE:d=id
   ·subst aE;rw[br rfl]at ak;rw[<-eL ak];cases gX with
    | vals rs=>exact absurd Cj.1 (by simp)
    | h7 src ds=>
     obtain⟨_,rfl,hlen⟩:=Cj;obtain⟨eN,_⟩:=eN;rw[NE _ _ rfl]at eN;refine (var 49 nF v d nk (by omega) hlen (Jk yN) (br rfl) eN (Jj yN) uY (fun cU fs e _=>?_) (fun cU _ e=>?_)).1
     ·rcases xc e with⟨y,bn,_,e2⟩ | ⟨e2,_⟩
      ·exact absurd (by rw[e2]) (sb cG bn).2.2.1
      exact e2
     simp[qG,iX]at e
   rw[bg aE,xg (fun e=>aE e.symm)]at ak;exact rest id ls (by simpa using aE) ak
 refine⟨aY,cJ,⟨aU.defers,by simp[aH.vZ,aU.size],?_,?_,fun s ai=>?_,fun id b hi ck=>?_,?_,qu⟩,?_⟩
 ·refine⟨aq.os.trans aU.below.os,aq.tape.trans aU.below.tape,aq.output.trans aU.below.output,ui aU.below.size aq.size,fun b bC au=>?_,fun ai=>ui (aU.below.drawn ai) (aq.drawn ai),aq.laid,aU.below.free⟩;have iS:b<w.heap.size:=yb bC aU.below.size;have pB:ω b=.bE:=by
   cases e:ω b with
   | bE=>rfl
   | box id=>exact absurd (aU.owned b (by simp[e])).1 (fun h=>h.elim (fun h=>by omega) au)
   | tok s q=>exact absurd (aU.owned b (by simp[e])).1 (fun h=>h.elim (fun h=>by omega) au)
  exact (hblk b iS (by rw[pB];rfl)).trans (aU.below.block b bC au)
 ·intro b fA;by_cases ah:b<w.heap.size/\gh (kg refs) ts (ω b)=.bE
  ·rw[hold b ah.1 ah.2]at fA;have U:ω b≠.bE:=fun e=>by rw[e]at fA;exact fA rfl
   obtain⟨ax,arr,ty,aK⟩:=aU.owned b U;exact⟨ax,arr,ty,(hblk b ah.1 ah.2).trans aK⟩
  have U:e0 b≠.bE:=fun e=>by
   simp only[aY]at fA;rw[bg ah,e]at fA;exact fA rfl
  obtain⟨arr,ty,aK⟩:=j9 b U;refine⟨?_,arr,ty,aK⟩;by_cases bC:b<w.heap.size
  ·have aV:ω b≠.bE:=fun e=>ah ⟨bC,by rw[e];rfl⟩
   exact (aU.owned b aV).1
  exact .inl (by have:=aU.below.size;omega)
 ·have:cJ s=τ s:=by simp only[cJ];rw[bg (by omega)]
  rw[this];exact aU.fixed s ai
 ·by_cases ah:b<w.heap.size/\gh (kg refs) ts (ω b)=.bE
  ·rw[hold b ah.1 ah.2]at ck;cases e:ω b with
   | bE=>rw[e]at ck;cases ck
   | tok s q=>rw[e]at ck;simp only[oK]at ck;split at ck<;>cases ck
   | box gv=>
    rw[e]at ck;simp only[oK]at ck;split at ck
    ·simp only[cS.box.injEq]at ck;subst ck;exact aU.pinned gv b hi e
    cases ck
  have fr:mg t0 refs du (e0 b)=.box id:=by
   simp only[aY]at ck;rwa[bg ah]at ck
  cases e:e0 b with
  | bE=>rw[e]at fr;cases fr
  | tok s q=>rw[e]at fr;simp only[mg]at fr;split at fr<;>cases fr
  | box fs=>
   rw[e]at fr;simp only[mg]at fr;split at fr
   ·rename_i gv e2;simp only[cS.box.injEq]at fr;subst fr;rcases xc e2 with⟨r,aV,rfl,rfl⟩ | ⟨_,bw⟩
    ·obtain⟨⟨gD,arr,ty,g1,g2,g3,_⟩,⟨gf,g4,g5⟩,_⟩:=hrefs r aV;have cc:=g3 b e;rw[g4]at g1;simp only[ptrTo,Value.pointer.injEq,aQ,Addr.mk.injEq]at g1;rw[cc,<-g1.1];exact aU.pinned r.id gf hi g5
    have:=rL _ bw;omega
   cases fr
 ·intro i q aC;simp only[aH.vZ]at aC;rw[dd,b0]at aC;obtain⟨gj,bJ,rfl⟩:=aC;obtain⟨u,h1,U⟩:=aU.env i gj bJ;exact⟨u,h1,cI.map bh.sat U⟩
 cases gX with
 | h7 src ds=>
  obtain⟨B8,rfl,hlen⟩:=Cj;obtain⟨d,rfl⟩:=o6.1 B8;obtain⟨eN,_⟩:=eN;rw[NE _ _ rfl]at eN;obtain⟨b,h1,U⟩:=(var 49 nF v d nk (by omega) hlen (Jk yN) (br rfl) eN (Jj yN) uY (fun cU fs e _=>by
   rcases xc e with⟨y,bn,_,e2⟩ | ⟨e2,_⟩
   ·exact absurd (by rw[e2]) (sb cG bn).2.2.1
   exact e2) (fun cU _ e=>by simp[qG,iX]at e)).2
  exact⟨b,U,h1⟩
 | vals rs=>
  obtain⟨rfl,ev⟩:=Cj;simp only[Jl,cq,cK]at ev;have eh:∀(r:Nat) (cj:cF),rs[r]?=some cj->∀ds,cj=.agg ds->ds.length<100:=by
   intro r cj aD ds e;have:=fv.1 ev.2 cj (fp aD);subst e;simpa using this
  have sM:∀(r:Nat) (cj:cF) (y:Value),r<50->(∀ds,cj=.agg ds->ds.length<100)->rs[r]?=some cj->(∀j,j<100->my rs v (100*r+j)=y.cells.getD j undef)->lh aN e0 r cj y->jO (Sat aN aY cJ) (cj.res (t0+100*r)) y:=by
   intro r cj y aD eh y1 bA ov;have gi:∀j,j<100->pz rs (100*r+j)=(match cF.cell j cj with | some (.J k _)=>k | _=>0):=by
    intro j a';unfold pz;rw[show (100*r+j) / 100=r by omega,show (100*r+j) % 100=j by omega,y1];rfl
   have NR:∀d:D,(match some d with | some (.J k _)=>k | _=>0)=d.sx:=fun d=>by cases d<;>rfl
   cases cj with
   | one d=>
    have h1:=ov.oL;have U:=bA 0 (by omega);rw[zH h1]at U;have:=cell (100*r) d y (by omega) (by
     simp only[aE,aS.dN];rw[br (by omega)];have ax:=gi 0 (by omega);rw[l4]at U ax;rw[ax,U];simp only[cF.cell,gL];rw[NR];rfl) ov
    exact this
   | agg ds=>
    obtain⟨vs,rfl,aT,a'⟩:=ov;refine⟨vs,rfl,by rw[w9];exact aT,fun j l ak=>?_⟩;rw[zL,b0]at ak;obtain⟨d,dD,rfl⟩:=ak;obtain⟨u,hu,y2⟩:=a' j d dD;have ko:j<100:=by
     have:=(eu.1 dD).1;have:=eh ds rfl;omega
    refine⟨u,hu,?_⟩;have:=cell (100*r+j) d u (by omega) (by
     simp only[aE,aS.dN];rw[br (by omega),gi j ko,bA j ko];simp only[cF.cell,dD];rw[NR];simp[Value.cells,d',hu]) y2
    rw[show t0+100*r+(0+j)=t0+(100*r+j) by omega];exact this
  show cI (Sat aN aY cJ) (su t0 rs) v;cases rs with
  | nil=>
   obtain⟨vs,rfl,aT,_⟩:=eN;exact⟨vs,rfl,aT,fun i a aj=>by simp[pY]at aj⟩
  | cons cj rest=>
   cases rest with
   | nil=>
    have:=sM 0 cj v (by omega) (eh 0 cj rfl) rfl (fun j a'=>by
     unfold my;simp only[Nat.mul_zero,dx];rw[Bw a']) eN
    exact this
   | cons ML rest=>
    obtain⟨vs,rfl,aT,bA⟩:=eN;refine⟨vs,rfl,by rw[Dp];exact aT,fun i a aj=>?_⟩;rw[Dn,b0]at aj;obtain⟨nc,h1,rfl⟩:=aj;obtain⟨y,bn,yK⟩:=bA i nc h1;have iR:i<50:=by
     have:=(eu.1 h1).1;omega
    refine⟨y,bn,?_⟩;have:=sM i nc y iR (eh i nc h1) h1 (fun j a'=>by
     unfold my;simp only;rw[show (100*i+j) / 100=i by omega,show (100*i+j) % 100=j by omega];simp[d',bn]) yK
    rw[dx];exact this
end Go.Sx
namespace Go.Sx
open Go.RowKit
def aB.oH(ts:List (Nat×Nat)):aB->Bool
 | .J g _ _=>g.oH ts
 | .aO t _ _ _ _ _=>(look t ts).isSome
 | _=>false
variable{w:World}{ω:Own}{τ:Nat->Nat×Value}{l:aB}
theorem Ox{bs ts:List (Nat×Nat)}{d:D}{y:Value}(h:l.fV=some d)(hm:l.oH ts=false)(ai:Sat w ω τ l y):
  bW w (fun b=>gh bs ts (ω b)) Tag.free.R d y:=by
 have tag:∀(g:Tag) (b:Nat) (q:List (Nat×Nat)),g.oH ts=false->g.R q (ω b)->gh bs ts (ω b)=.bE:=by
  intro g b q au aC;cases g with
  | free=>simp only[Tag.R]at aC;rw[aC];rfl
  | own s=>
   simp only[Tag.R]at aC;simp only[Tag.oH,Fh,Fj]at au;rw[aC];simp only[gh,au]
  | ro s=>
   simp only[Tag.oH,Fh,Fj]at au;rcases aC with h | ⟨di,h⟩
   ·rw[h];rfl
   rw[h];simp only[gh,au]
 cases l with
 | cp=>cases h
 | v x=>
  simp only[aB.fV]at h;split at h
  ·simp only[aQ]at h;subst h;have:y=x:=ai;subst this;exact .v _ _ ‹_›
  cases h
 | bc c=>
  simp only[aB.fV,aQ]at h;subst h;have:y=.bool c:=ai;subst this;exact .v _ _ rfl
 | J t k es=>simp only[aB.fV,aQ]at h;subst h;exact ai.1.frame fun b q _ aC=>⟨tag t b q hm aC,rfl⟩
 | ptr=>cases h
 | cX=>cases h
 | gg=>cases h
 | e5=>cases h
 | hF ds off=>
  simp only[aB.fV]at h;split at h
  ·rename_i aX;subst aX;simp only[aQ]at h;subst h;obtain⟨b,rfl,aD⟩:=ai;exact aD.frame fun b q _ aC=>⟨tag .free b q rfl aC,rfl⟩
  cases h
 | fd dq=>simp only[aB.fV,aQ]at h;subst h;exact bW.frame ai fun b q _ aC=>⟨tag .free b q rfl aC,rfl⟩
 | dg t k es=>simp only[aB.fV,aQ]at h;subst h;exact bW.frame ai.1 fun b q _ aC=>⟨tag .free b q rfl aC,rfl⟩
 | aO t i j k es m=>
  obtain⟨u,hu,aD,_⟩:=ai;have fin:y=u->bW w (fun b=>gh bs ts (ω b)) Tag.free.R (.J k es) y:=by
   intro e;rw[e];exact aD.frame fun b q _ aC=>⟨tag (.own t) b _ hm aC,rfl⟩
  cases m with
  | at_ x z=>cases h
  | here=>simp only[aB.fV,aQ]at h;subst h;exact fin hu
  | k7=>simp only[aB.fV,aQ]at h;subst h;exact fin hu
def aI.BK:aI->Option (cF×List aB)
 | .aJ (.one l)=>l.fV.map fun d=>(.one d,[l])
 | .aJ (.agg ls)=>(ls.mapM aB.fV).map fun ds=>(.agg ds,ls)
 | _=>none
def vI(i:Nat):Nat->List aB->List (Nat×Nat)
 | _,[]=>[]
 | j,l::ls=>match l.tok with | some t=>(t,qb i j)::vI i (j+1) ls | none=>vI i (j+1) ls
theorem Oy{i:Nat}:∀{ls:List aB} {j0 j:Nat} {l:aB} {t:Nat},ls[j]?=some l->l.tok=some t->(t,qb i (j0+j))∈vI i j0 ls
 | [],_,_,_,_,h,_=>by simp at h
 | eP::ls,j0,0,l,t,h,bR=>by
  simp at h;subst h;simp only[vI,bR];exact gN
 | eP::ls,j0,j+1,l,t,h,bR=>by
  have:=Oy (i:=i) (ls:=ls) (j0:=j0+1) (j:=j) (by simpa using h) bR;rw[show j0+1+j=j0+(j+1) by omega]at this;simp only[vI];split
  ·exact ht _ this
  exact this
def oN:aB->Option aB
 | .dg t k es=>some (.dg t k es)
 | .J .free k es=>some (.J .free k es)
 | _=>none
def sc(ls:List aB):List (Option aB):=if (ls.map oN).all Option.isNone then [] else ls.map oN
def aB.Es(l:aB):Option D:=match oN l with | some l=>l.fV | none=>l.ih
theorem zS{gU:aB}(h:oN l=some gU):gU=l/\(∀ts t0 du,vY ts t0 du l=l)/\∃k es,l.fV=some (.J k es)/\∀{w ω τ y},Sat w ω τ l y->bW w ω Tag.free.R (.J k es) y:=by
 unfold oN at h;split at h
 ·rename_i t k es;cases h;exact⟨rfl,fun _ _ _=>rfl,k,es,rfl,fun ai=>ai.1⟩
 ·rename_i k es;cases h;exact⟨rfl,fun _ _ _=>by simp[aB.ci,xa,Tag.oH,fY],k,es,rfl,fun ai=>ai.1⟩
 cases h
theorem akO{ls:List aB}{j:Nat}(h:(sc ls)[j]?=some (some l)):ls[j]?=some l/\oN l=some l:=by
 unfold sc at h;split at h
 ·simp at h
 rw[dd,b0]at h;obtain⟨eP,h1,U⟩:=h;have:=(zS U).1;subst this;exact⟨h1,U⟩
theorem Jm{ls:List aB}{j:Nat}(ak:ls[j]?=some l):stays (kd (sc ls)) j=(oN l).isSome:=by
 unfold sc;split
 ·rename_i h;have:=fv.1 h (oN l) (k2.2 ⟨l,fp ak,rfl⟩);simp only[stays,kd,List.map_nil,List.getD_nil];cases e:oN l with
  | none=>rfl
  | some x=>rw[e]at this;cases this
 simp only[stays,kd,List.map_map,ik,dd,ak];rfl
def u9(ct:List aI):List (Option Nat)->Option (List (Option aB))
 | []=>some []
 | none::r=>(u9 ct r).map fun x=>none::x
 | some a::r=>
  match ct[a]? with
  | some (.aJ (.one l))=>
   match oN l,u9 ct r with
   | some gU,some jX=>some (some gU::jX)
   | _,_=>none
  | _=>none
theorem DB{ct:List aI}:∀{src:List (Option Nat)} {nk:List (Option aB)},u9 ct src=some nk->v8 src=kd nk/\∀(j:Nat) (l:aB),nk[j]?=some (some l)->∃a,src[j]?=some (some a)/\ct[a]?=some (.aJ (.one l))/\oN l=some l
 | [],nk,h=>by
  simp only[u9,aQ]at h;subst h;exact⟨rfl,fun j l h=>by simp at h⟩
 | none::r,nk,h=>by
  simp only[u9,b0]at h;obtain⟨x,h1,rfl⟩:=h;obtain⟨g1,g2⟩:=DB h1;refine⟨by simpa[v8,kd]using g1,fun j l a'=>?_⟩;cases j with
  | zero=>simp at a'
  | succ j=>exact g2 j l (by simpa using a')
 | some a::r,nk,h=>by
  simp only[u9]at h;split at h
  ·rename_i l e;split at h
   ·rename_i gU jX e1 e2;simp only[aQ]at h;subst h;obtain⟨g1,g2⟩:=DB e2;have:=(zS e1).1;subst this;refine⟨by simpa[v8,kd]using g1,fun j l a'=>?_⟩;cases j with
    | zero=>
     simp only[j2,aQ]at a';subst a';exact⟨a,rfl,e,e1⟩
    | succ j=>exact g2 j l (by simpa using a')
   cases h
  cases h
def Uf:aI->Option Nat
 | .aJ (.one (.ptr id 0))=>some id
 | _=>none
structure BA where
 n0:List aM
 refs:List iC
 ts:List (Nat×Nat)
 o0:List aB
def rz:aI->Option (FuncId×List Nat)
 | .aJ (.one (.gg g ids))=>some (g,ids)
 | _=>none
def Oo(id:Nat):aI:=.aJ (.one (.ptr id 0))
def pf(bs:k3):Nat->List (Option (List D))->List aI->Option BA
 | _,[],[]=>some ⟨[],[],[],[]⟩
 | i,none::ms,p::ct=>
  match rz p with
  | some (g,ids)=>(pf bs (i+1) ms ct).map fun r=>⟨.fn g (List.range' (i+1) ids.length)::r.n0,r.refs,r.ts,r.o0⟩
  | none=>
   match p.BK,pf bs (i+1) ms ct with
   | some (cj,ls),some r=>some ⟨.ro cj::r.n0,r.refs,r.ts,ls++r.o0⟩
   | _,_=>none
 | i,some post::ms,p::ct=>
  match Uf p,pf bs (i+1) ms ct with
  | some id,some r=>
   match dn id bs with
   | some ls=>
    match ls.mapM aB.Es with
    | some pre=>some ⟨.hY (kd (sc ls)) pre post::r.n0,⟨i,id,post,sc ls⟩::r.refs,vI i 0 ls++r.ts,r.o0⟩
    | none=>none
   | none=>none
  | _,_=>none
 | _,_,_=>none
def BB(bs:k3)(a:BA)(i:Nat)(iw:aM)(p:aI):Prop:=
 (∃g ids,iw=.fn g (List.range' (i+1) ids.length)/\p=.aJ (.one (.gg g ids)))\/
 (∃cj ls,iw=.ro cj/\p.BK=some (cj,ls)/\∀l∈ls,l∈a.o0)\/
 (∃id ls pre post,iw=.hY (kd (sc ls)) pre post/\p=.aJ (.one (.ptr id 0))/\dn id bs=some ls/\ls.mapM aB.Es=some pre/\(⟨i,id,post,sc ls⟩:iC)∈a.refs/\∀x∈vI i 0 ls,x∈a.ts)
theorem BB.mono{bs:k3}{a b:BA}{i:Nat}{iw:aM}{p:aI}(h:BB bs a i iw p)(h1:∀l∈a.o0,l∈b.o0)(U:∀x∈a.refs,x∈b.refs)(ax:∀x∈a.ts,x∈b.ts):BB bs b i iw p:=by
 rcases h with h | ⟨cj,ls,e1,e2,cc⟩ | ⟨id,ls,pre,post,e1,e2,cc,ec,gQ,lD⟩
 ·exact .inl h
 ·exact .inr (.inl ⟨cj,ls,e1,e2,fun l ak=>h1 l (cc l ak)⟩)
 exact .inr (.inr ⟨id,ls,pre,post,e1,e2,cc,ec,U _ gQ,fun x ag=>ax x (lD x ag)⟩)
theorem DC{bs:k3}:∀{ms:List (Option (List D))} {ct:List aI} {i:Nat} {a:BA},pf bs i ms ct=some a->a.n0.length=ct.length/\
  (∀(x:Nat) (iw:aM),a.n0[x]?=some iw->∃p,ct[x]?=some p/\BB bs a (i+x) iw p)/\
  (∀r∈a.refs,∃(x:Nat) (pre:List D),r.i=i+x/\a.n0[x]?=some (.hY (kd r.fh) pre r.post)/\ct[x]?=some (.aJ (.one (.ptr r.id 0)))/\∃ls,dn r.id bs=some ls/\r.fh=sc ls)
 | [],[],i,a,h=>by
  simp only[pf,aQ]at h;subst h;exact⟨rfl,fun x iw h=>by simp at h,fun r h=>by cases h⟩
 | none::ms,p::ct,i,a,h=>by
  simp only[pf]at h;split at h
  ·rename_i g ids bz;rw[b0]at h;obtain⟨r,e2,rfl⟩:=h;obtain⟨dh,cV,cA⟩:=DC e2;have hp:p=.aJ (.one (.gg g ids)):=by
    unfold rz at bz;split at bz
    ·cases bz;rfl
    cases bz
   refine⟨by simp[dh],fun x iw ag=>?_,fun y bn=>?_⟩
   ·cases x with
    | zero=>
     simp only[j2,aQ]at ag;subst ag;exact⟨p,rfl,.inl ⟨g,ids,rfl,hp⟩⟩
    | succ x=>
     obtain⟨pT,h1,U⟩:=cV x iw (by simpa using ag);refine⟨pT,by simpa using h1,?_⟩;rw[show i+1+x=i+(x+1) by omega]at U;exact U.mono (fun _ h=>h) (fun _ h=>h) (fun _ h=>h)
   obtain⟨x,pre,h1,U,ax,aK⟩:=cA y bn;exact⟨x+1,pre,by omega,by simpa using U,by simpa using ax,aK⟩
  split at h
  ·rename_i cj ls r e1 e2;simp only[aQ]at h;subst h;obtain⟨dh,cV,cA⟩:=DC e2;refine⟨by simp[dh],fun x iw ag=>?_,fun y bn=>?_⟩
   ·cases x with
    | zero=>
     simp only[j2,aQ]at ag;subst ag;exact⟨p,rfl,.inr (.inl ⟨cj,ls,rfl,e1,fun l ak=>hZ _ ak⟩)⟩
    | succ x=>
     obtain⟨pT,h1,U⟩:=cV x iw (by simpa using ag);refine⟨pT,by simpa using h1,?_⟩;rw[show i+1+x=i+(x+1) by omega]at U;exact U.mono (fun l ak=>iz _ ak) (fun _ h=>h) (fun _ h=>h)
   obtain⟨x,pre,h1,U,ax,aK⟩:=cA y bn;exact⟨x+1,pre,by omega,by simpa using U,by simpa using ax,aK⟩
  cases h
 | some post::ms,p::ct,i,a,h=>by
  simp only[pf]at h;split at h
  ·rename_i id r e1 e2;split at h
   ·rename_i ls cc;split at h
    ·rename_i pre ec;simp only[aQ]at h;subst h;obtain⟨dh,cV,cA⟩:=DC e2;have hp:p=.aJ (.one (.ptr id 0)):=by
      unfold Uf at e1;split at e1
      ·rw[eL e1]
      cases e1
     refine⟨by simp[dh],fun x iw ag=>?_,fun y bn=>?_⟩
     ·cases x with
      | zero=>
       simp only[j2,aQ]at ag;subst ag;exact⟨p,rfl,.inr (.inr ⟨id,ls,pre,post,rfl,hp,cc,ec,gN,fun x ag=>hZ _ ag⟩)⟩
      | succ x=>
       obtain⟨pT,h1,U⟩:=cV x iw (by simpa using ag);refine⟨pT,by simpa using h1,?_⟩;rw[show i+1+x=i+(x+1) by omega]at U;exact U.mono (fun _ h=>h) (fun x h=>ht _ h) (fun x h=>iz _ h)
     rcases et.1 bn with rfl | bn
     ·exact⟨0,pre,rfl,rfl,by simp[hp],ls,cc,rfl⟩
     obtain⟨x,w6,h1,U,ax,aK⟩:=cA y bn;exact⟨x+1,w6,by omega,by simpa using U,by simpa using ax,aK⟩
    cases h
   cases h
  cases h
 | [],_::_,i,a,h=>by simp[pf]at h
 | none::_,[],i,a,h=>by simp[pf]at h
 | some _::_,[],i,a,h=>by simp[pf]at h
def aS.FF(d:Option Nat):aS->Bool
 | .vals rs=>Jl rs
 | .h7 _ ds=>d.isSome&&decide (ds.length<100)
def aS.du(d:Option Nat):aS->Option Nat
 | .vals _=>none
 | .h7 _ _=>d
def aS.nF:aS->List D
 | .vals _=>[]
 | .h7 _ ds=>ds
def aS.nk(ct:List aI):aS->Option (List (Option aB))
 | .vals _=>some []
 | .h7 src _=>u9 ct src
theorem aS.Wt{d:Option Nat}{r:aS}(h:r.FF d=true):r.fits (r.du d) r.nF:=by
 cases r with
 | vals rs=>exact⟨rfl,h⟩
 | h7 src ds=>
  simp only[aS.FF,cq,cK]at h;exact⟨h.1,rfl,h.2⟩
def tz(n:Nat):Nat->List aM->Bool
 | _,[]=>true
 | i,.fn _ _::r=>i+1==n&&tz n (i+1) r
 | i,_::r=>tz n (i+1) r
theorem DE{n:Nat}:∀{as:List aM} {i x:Nat} {g:FuncId} {cH:List Nat},tz n i as=true->as[x]?=some (.fn g cH)->i+x+1=n
 | [],_,_,_,_,_,h=>by simp at h
 | .fn _ _::r,i,0,g,cH,h,ag=>by
  simp only[tz,cq,dY]at h;omega
 | .fn _ _::r,i,x+1,g,cH,h,ag=>by
  simp only[tz,cq,dY]at h;have:=DE h.2 (x:=x) (by simpa using ag);omega
 | .ro _::r,i,0,g,cH,h,ag=>by simp at ag
 | .hY _ _ _::r,i,0,g,cH,h,ag=>by simp at ag
 | .ro _::r,i,x+1,g,cH,h,ag=>by
  have:=DE (i:=i+1) (by simpa[tz]using h) (x:=x) (by simpa using ag);omega
 | .hY _ _ _::r,i,x+1,g,cH,h,ag=>by
  have:=DE (i:=i+1) (by simpa[tz]using h) (x:=x) (by simpa using ag);omega
def zT(P:Program)(st:aH)(d:Option Nat)(f:FuncId)(n:Nat)(ct:List aI)(ans:List b7):Option (aH×List b7×List Prop):=
 match ans with
 | .dj vb gX::r=>
  match pf st.boxes 0 vb ct,gX.nk ct with
  | some a,some nk=>
   let t0:=10000*(d.getD 0+1)
   if lj P f=true/\t0+10000<=c3/\xb a.refs (gX.du d)=true/\Jf a.ts=true/\gX.FF d=true/\a.o0.all (fun l=>!(l.oH a.ts))=true/\ss a.n0=n/\tz n 0 a.n0=true then
    let bp:=st.vZ a.ts t0 a.refs (gX.du d) nk gX.nF
    match d with
    | some d=>some (⟨bp.env.set d (gX.nI t0 (gX.du (some d))),bp.boxes⟩,r,[bT P f a.n0 gX])
    | none=>some (bp,r,[bT P f a.n0 gX])
   else none
  | _,_=>none
 | _=>none
def Jn(P:Program)(st:aH)(d:Option Nat)(f:FuncId)(args:List Operand)(ans:List b7):Option (aH×List b7×List Prop):=
 match (args.map st.bh).getLast?.bind rz with
 | some (_,ids)=>zT P st d f args.length (args.map st.bh++ids.map Oo) ans
 | none=>zT P st d f args.length (args.map st.bh) ans
def Jo(P:Program)(st:aH)(d:Option Nat)(f:Operand)(args:List Operand)(ans:List b7):Option (aH×List b7×List Prop):=
 match rz (st.bh f) with
 | some (g,ids)=>if (args.map st.bh).all (fun p=>(rz p).isNone) then zT P st d g (args.length+ids.length) (args.map st.bh++ids.map Oo) ans else none
 | none=>none
variable{a:Act}{P:Program}{w0:ej}{st bp:aH}{dst:Option Nat}{ans cd:List b7}{obs:List Prop}
theorem Iy{f:FuncId}{n:Nat}{ct:List aI}{vs:Array Value}{o:Oper}
  (Gd:o.dst=dst) (aU:cw w0 st a w ω τ) (h:zT P st dst f n ct ans=some (bp,cd,obs)) (aX:cE obs) (ek:vs.size=ct.length) (fX:∀(x:Nat) (p:aI),ct[x]?=some p->∃v,vs[x]?=some v/\cI (Sat w ω τ) p v)
  (kn:∀(x:Nat) (g:FuncId) (ids:List Nat),x+1=n->ct[x]?=some (.aJ (.one (.gg g ids)))->vs[x]?=some (.func (.func g) #[] ((List.range' n ids.length).map fun k=>vs.getD k undef).toArray))
  (fC:lj P f=true->(execOp a.eval o).run P w=.ok (.enter f (vs.extract 0 n)) w) {K:Act->World->Prop} {Q:Exit->Act->World->Prop} (hN:∀cx aN,Rel w0 bp cx aN->K cx aN):
  Oper.wp P o a w K Q:=by
 unfold zT at h;split at h
 ·rename_i vb gX r;split at h
  ·rename_i rp nk lF uY;simp only at h;split at h
   ·rename_i ah;obtain⟨gS,hQ,cG,s0,ev,yZ,GG,rN⟩:=ah;rw[fv]at yZ;have y0:∀l∈rp.o0,l.oH rp.ts=false:=fun l ak=>by simpa using yZ l ak
    obtain⟨hlen,cV,cA⟩:=DC lF
    let rj:Own:=fun b=>gh (kg rp.refs) rp.ts (ω b)
    have cC:∀b,rj b≠.bE->ω b≠.bE:=fun b h e=>h (by simp only[rj,e];rfl)
    have XT:Fq w rj rp.n0 vs:=by
     refine⟨fun b aq=>(aU.owned b (cC b aq)).2,fun b i aq=>?_,by rw[ek,hlen],fun x iw ag=>?_⟩
     ·simp only[rj]at aq;cases e:ω b with
      | bE=>rw[e]at aq;cases aq
      | tok s q=>rw[e]at aq;simp only[gh]at aq;split at aq<;>cases aq
      | box gv=>
       rw[e]at aq;simp only[gh]at aq;split at aq
       ·rename_i fs mn;simp only[cS.box.injEq]at aq;subst aq;obtain⟨jX,dV,_,sP⟩:=DA mn;obtain⟨x,pre,g1,g2,_⟩:=cA jX dV;exact⟨kd jX.fh,pre,jX.post,by rw[<-sP,g1,dx];exact g2⟩
       cases aq
     obtain⟨p,hp,qs⟩:=cV x iw ag;obtain⟨v,bA,ai⟩:=fX x p hp;refine⟨v,bA,?_⟩;rw[dx]at qs;rcases qs with⟨g,ids,rfl,_⟩ | ⟨cj,ls,rfl,e2,cc⟩ | ⟨id,ls,pre,post,rfl,rfl,cc,ec,gQ,lD⟩
     ·exact trivial
     ·cases p with
      | fE as=>cases e2
      | aJ aJ=>
       cases aJ with
       | one l=>
        simp only[aI.BK,b0]at e2;obtain⟨d,h1,U⟩:=e2;simp only[bu]at U;obtain⟨rfl,rfl⟩:=U;exact Ox h1 (y0 l (cc l (by simp))) ai
       | agg eU=>
        simp only[aI.BK,b0]at e2;obtain⟨ds,h1,U⟩:=e2;simp only[bu]at U;obtain⟨rfl,rfl⟩:=U;obtain⟨ax,aK⟩:=mH h1;obtain⟨vs,rfl,aT,Yd⟩:=ai;refine⟨vs,rfl,by omega,fun j d aE=>?_⟩;obtain⟨l,ak,da⟩:=aK j d aE;obtain⟨u,hu,eT⟩:=Yd j l ak;exact⟨u,hu,Ox da (y0 l (cc l (fp ak))) eT⟩
     obtain⟨b,aq,rfl⟩:=ai;obtain⟨cU,arr,ty,dA,hu,bB,ey⟩:=aU.boxes id ls cc;have:=hu b aq;subst this;have Ny:=O6 cG gQ;simp only at Ny;obtain⟨ax,aK⟩:=mH ec;refine⟨⟨b,arr,ty,rfl,by simp only[rj,aq,gh,Ny],fun c ah=>?_,bB,by have:=ey.1;omega,fun j d aE=>?_⟩,fun j d aE eO=>?_⟩
     ·simp only[rj]at ah;cases e:ω c with
      | bE=>rw[e]at ah;cases ah
      | tok s q=>rw[e]at ah;simp only[gh]at ah;split at ah<;>cases ah
      | box gv=>
       rw[e]at ah;simp only[gh]at ah;split at ah
       ·rename_i fs mn;simp only[cS.box.injEq]at ah;subst ah;obtain⟨jX,dV,Wm,sP⟩:=DA mn;have:=((sb cG gQ).2.2.2 jX dV).1 sP;subst this;exact hu c (by rw[e,<-Wm])
       cases ah
     rotate_left
     ·obtain⟨l,ak,da⟩:=aK j d aE;obtain⟨u,fN,eT⟩:=ey.2 j l ak;rw[Jm ak]at eO;obtain⟨gU,pE⟩:=o6.1 eO;obtain⟨rfl,_,k,es,dO,qB⟩:=zS pE;simp only[aB.Es,pE]at da;rw[dO]at da;cases da;have e:h9 w (.pointer (some ⟨b,0,none⟩)) j=u:=by simp[h9,bB,d',fN]
      rw[e];refine (qB eT).frame fun c q _ aC=>⟨?_,rfl⟩
      simp only[Tag.R]at aC ⊢;simp only[rj,aC,gh]
     obtain⟨l,ak,da⟩:=aK j d aE;obtain⟨u,fN,eT⟩:=ey.2 j l ak;refine⟨u,fN,fun eO=>?_⟩;rw[Jm ak]at eO;have NL:oN l=none:=by simpa using eO
     simp only[aB.Es,NL]at da;clear eO NL;cases l with
     | v z=>
      simp only[aB.ih]at da;split at da
      ·simp only[aQ]at da;subst da;have:u=z:=eT;subst this;exact .v _ _ ‹_›
      cases da
     | bc c=>
      simp only[aB.ih,aQ]at da;subst da;have:u=.bool c:=eT;subst this;exact .v _ _ rfl
     | J g k es=>
      cases g with
      | free=>cases da
      | ro s=>cases da
      | own s=>
       simp only[aB.ih,aQ]at da;subst da;have hm:=lD _ (Oy (i:=x) (j0:=0) ak rfl);rw[dx]at hm;have Xz:=O2 s0 hm;refine eT.1.frame fun c q _ aC=>⟨?_,rfl⟩
       simp only[Tag.R]at aC ⊢;simp only[rj,aC,gh,Xz]
     | cp=>cases da
     | ptr=>cases da
     | cX=>cases da
     | hF=>cases da
     | fd=>cases da
     | dg=>cases da
     | gg=>cases da
     | aO=>cases da
     | e5=>cases da
    have Gh:Fm rp.n0 vs:=by
     intro x g cH ag;have rY:=DE rN ag;rw[dx]at rY;obtain⟨p,hp,qs⟩:=cV x _ ag;rw[dx]at qs;rcases qs with⟨ea,ids,e1,rfl⟩ | ⟨cj,ls,e1,_⟩ | ⟨id,ls,pre,post,e1,_⟩
     ·simp only[aM.fn.injEq]at e1;obtain⟨rfl,rfl⟩:=e1;have:=kn x g ids rY hp;rw[rY];exact this
     ·cases e1
     cases e1
    have key:bT P f rp.n0 gX->(∀v aN aY cJ,cw w0 (st.vZ rp.ts (10000*(dst.getD 0+1)) rp.refs (gX.du dst) nk gX.nF) a aN aY cJ->cI (Sat aN aY cJ) (gX.nI (10000*(dst.getD 0+1)) (gX.du dst)) v->K (a.put dst v) aN)->
      Oper.wp P o a w K Q:=by
     intro GF F0;unfold Oper.wp;rw[fC gS,<-GG];simp only[Oper.upon];rw[Gd];refine (GF w _ rj XT Gh (aU.tidy fun b aq=>by simp only[rj,aq,gh])).mono ?_;rintro e aN ⟨v,rfl,j8,e0,c1,c2,cR,ef⟩;obtain⟨aY,cJ,h1,U⟩:=aU.Wf (10000*(dst.getD 0+1)) (nk:=nk) (ys:=fun i=>vs.getD i undef) cG hQ j8 e0 c1 c2 (fun r aD=>by
      obtain⟨x,pre,g1,g2,g3,g4⟩:=cA r aD;rw[dx]at g1;obtain⟨y,bn,ai⟩:=fX x _ g3;obtain⟨b,aq,rfl⟩:=ai;have e:vs.getD r.i undef=ptrTo b:=by rw[g1,d',bn];rfl
      rw[e];obtain⟨ls,g5,g6⟩:=g4;refine⟨(cR r.i _ pre r.post (ptrTo b) (by rw[g1];exact g2) (by rw[g1];exact bn)).1,⟨b,rfl,aq⟩,by rw[g5];rfl⟩) ef (aS.Wt ev) (fun d aE=>by
      cases gX with
      | vals rs=>cases aE
      | h7 src ds=>
       have aE:dst=some d:=aE;rw[aE]at hQ;simp only[iA]at hQ;omega) (fun r aD j l a'=>by
      obtain⟨x,pre,g1,g2,g3,ls,g5,g6⟩:=cA r aD;rw[dx]at g1;obtain⟨y,bn,ai⟩:=fX x _ g3;obtain⟨b,aq,rfl⟩:=ai;have e:vs.getD r.i undef=ptrTo b:=by rw[g1,d',bn];rfl
      rw[e];rw[g6]at a';obtain⟨i1,i2⟩:=akO a';refine⟨(zS i2).2.1 _ _ _,?_⟩;have eO:stays (kd r.fh) j=true:=by rw[g6,Jm i1,i2];rfl
      rw[(cR r.i _ pre r.post (ptrTo b) (by rw[g1];exact g2) (by rw[g1];exact bn)).2 j eO];obtain⟨cU,arr,ty,dA,hu,bB,ey⟩:=aU.boxes _ ls g5;have:=hu b aq;subst this;obtain⟨u,fN,eT⟩:=ey.2 j l i1;have e:h9 w (ptrTo b) j=u:=by simp[h9,ptrTo,bB,d',fN]
      rw[e];exact eT) (fun j l a'=>by
      cases gX with
      | vals rs=>
       simp only[aS.nk,aQ]at uY;subst uY;simp at a'
      | h7 src ds=>
       obtain⟨_,i2⟩:=DB uY;obtain⟨x,pK,qF,Yr⟩:=i2 j l a';refine⟨(zS Yr).2.1 _ _ _,?_⟩;obtain⟨y,bn,ai⟩:=fX x _ qF;have:=ef.2 j x pK;rw[bn]at this;rw[<-eL this];exact ai) (fun src ds e=>by
      subst e;exact (DB uY).1)
     exact F0 v aN aY cJ h1 U
    cases dst with
    | none=>
     simp only[aQ,bu]at h;obtain⟨rfl,_,rfl⟩:=h;exact key aX.1 fun v aN aY cJ h1 _=>hN _ _ ⟨aY,cJ,h1⟩
    | some d=>
     simp only[aQ,bu]at h;obtain⟨rfl,_,rfl⟩:=h;exact key aX.1 fun v aN aY cJ h1 U=>hN _ _ ⟨aY,cJ,h1.put U⟩
   cases h
  cases h
 cases h
theorem akP{f:FuncId}{args:Array Operand}{ts:Array TypeId}{type:TypeId}{pos:String}{after:Array Edge}{guard:Option (Nat×Bool)}
  (aU:cw w0 st a w ω τ) (h:Jn P st dst f args.toList ans=some (bp,cd,obs)) (aX:cE obs) {K:Act->World->Prop} {Q:Exit->Act->World->Prop} (hN:∀cx aN,Rel w0 bp cx aN->K cx aN):
  Oper.wp P ⟨dst,.call ⟨.value (.func f),args,ts⟩,type,pos,after,guard⟩ a w K Q:=by
 have fX:∀(x:Nat) (p:aI),(args.toList.map st.bh)[x]?=some p->∃v,(args.map a.eval)[x]?=some v/\cI (Sat w ω τ) p v:=by
  intro x p hp;rw[dd,b0]at hp;obtain⟨o,h1,rfl⟩:=hp;refine⟨a.eval o,?_,aU.bh o⟩;rw[yd];rw[mT]at h1;rw[h1];rfl
 have fC:lj P f=true->(execOp a.eval ⟨dst,.call ⟨.value (.func f),args,ts⟩,type,pos,after,guard⟩).run P w=.ok (.enter f (args.map a.eval)) w:=by
  intro gS;unfold lj at gS;split at gS
  ·rename_i fn kn;simp only[cq,g',wh,gM]at gS;have rH:fn.body≠none:=by intro e;rw[e]at gS;simp at gS
   simp[execOp,resolve,Act.eval,Deferred.ofValue,invoke,callFunc,kn,gS.1,rH]
  cases gS
 unfold Jn at h;split at h
 ·rename_i g ids sZ;rw[lv]at sZ;obtain⟨p,hp,rJ⟩:=sZ;have wO:p=.aJ (.one (.gg g ids)):=by
   unfold rz at rJ;split at rJ
   ·cases rJ;rfl
   cases rJ
  subst wO;have Cb:0<(args.toList.map st.bh).length:=by
   rcases Nat.eq_zero_or_pos (args.toList.map st.bh).length with bJ | bJ
   ·rw[ug bJ]at hp;simp at hp
   exact bJ
  have NM:(args.toList.map st.bh)[args.toList.length-1]?=some (.aJ (.one (.gg g ids))):=by
   rw[List.getLast?_eq_getElem?]at hp;simpa using hp
  obtain⟨v,bA,bs,F8,yH,fA⟩:=fX _ _ NM;have aT:0<args.size:=by simpa using Cb
  refine Iy (n:=args.toList.length) (vs:=args.map a.eval++(bs.map ptrTo).toArray) rfl aU h aX (by simp[yH]) (fun x p ag=>?_) (fun x ea Yn rY ag=>?_) (fun gS=>?_) hN
  ·rw[kB]at ag;rw[jI];split at ag
   ·rename_i bC;rw[br (by simpa using bC)];exact fX x p ag
   rename_i mB;rw[bg (by simpa using mB)];rw[dd,b0]at ag;obtain⟨id,fB,rfl⟩:=ag;obtain⟨b,hg,fM⟩:=fA _ id fB;refine⟨ptrTo b,?_,b,fM,rfl⟩;simp only[bm,uh]at hg;simp[hg]
  ·have bC:x<args.size:=by simp at rY;omega
   have wV:x=args.toList.length-1:=by omega
   rw[kB,br (by simpa using bC),wV,NM]at ag;simp only[aQ,aI.aJ.injEq,bq.one.injEq,aB.gg.injEq]at ag;obtain⟨rfl,rfl⟩:=ag;rw[jI,br (by simpa using bC),wV,bA,F8]
   congr 2
   apply Array.ext
   ·simp[yH]
   intro j h1 U;have a':j<bs.length:=by simpa using h1
   simp[d',jI,a'];rw[bg (by omega)];rfl
  have e:(args.map a.eval++(bs.map ptrTo).toArray).extract 0 args.toList.length=args.map a.eval:=by
   apply Array.ext
   ·simp
   intro j h1 U;have a':j<args.size:=by simpa using U
   simp[Array.getElem_append,a']
  rw[e];exact fC gS
 refine Iy (n:=args.toList.length) (vs:=args.map a.eval) rfl aU h aX (by simp) fX (fun x g ids rY ag=>?_) (fun gS=>?_) hN
 ·rename_i h6;exfalso;have:(args.toList.map st.bh).getLast?=some (.aJ (.one (.gg g ids))):=by
   rw[List.getLast?_eq_getElem?];rw[<-ag]
   congr 1
   simp;simp at rY;omega
  rw[this]at h6;simp[rz]at h6
 have e:(args.map a.eval).extract 0 args.toList.length=args.map a.eval:=by simp
 rw[e];exact fC gS
theorem akQ{y:Nat}{args:Array Operand}{ts:Array TypeId}{type:TypeId}{pos:String}{after:Array Edge}{guard:Option (Nat×Bool)}
  (aU:cw w0 st a w ω τ) (h:Jo P st dst (.tmp y) args.toList ans=some (bp,cd,obs)) (aX:cE obs) {K:Act->World->Prop} {Q:Exit->Act->World->Prop} (hN:∀cx aN,Rel w0 bp cx aN->K cx aN):
  Oper.wp P ⟨dst,.call ⟨.value (.tmp y),args,ts⟩,type,pos,after,guard⟩ a w K Q:=by
 have fX:∀(x:Nat) (p:aI),(args.toList.map st.bh)[x]?=some p->∃v,(args.map a.eval)[x]?=some v/\cI (Sat w ω τ) p v:=by
  intro x p hp;rw[dd,b0]at hp;obtain⟨o,h1,rfl⟩:=hp;refine⟨a.eval o,?_,aU.bh o⟩;rw[yd];rw[mT]at h1;rw[h1];rfl
 unfold Jo at h;split at h
 ·rename_i g ids rJ;have wO:st.bh (.tmp y)=.aJ (.one (.gg g ids)):=by
   unfold rz at rJ;split at rJ
   ·rename_i e;cases rJ;exact e
   cases rJ
  have ai:=aU.bh (.tmp y);rw[wO]at ai;obtain⟨bs,F8,yH,fA⟩:=ai;split at h
  case isFalse=>cases h
  rename_i h6;refine Iy (n:=args.toList.length+ids.length) (vs:=args.map a.eval++(bs.map ptrTo).toArray) rfl aU h aX (by simp[yH]) (fun x p ag=>?_) (fun x ea Yn rY ag=>?_) (fun gS=>?_) hN
  ·rw[kB]at ag;rw[jI];split at ag
   ·rename_i bC;rw[br (by simpa using bC)];exact fX x p ag
   rename_i mB;rw[bg (by simpa using mB)];rw[dd,b0]at ag;obtain⟨id,fB,rfl⟩:=ag;obtain⟨b,hg,fM⟩:=fA _ id fB;refine⟨ptrTo b,?_,b,fM,rfl⟩;simp only[bm,uh]at hg;simp[hg]
  ·exfalso;rw[kB]at ag;split at ag
   ·rename_i bC;have:=fv.1 h6 _ (fp ag);simp[rz]at this
   rw[dd,b0]at ag;obtain⟨id,_,e⟩:=ag;cases e
  have e:(args.map a.eval++(bs.map ptrTo).toArray).extract 0 (args.toList.length+ids.length)=args.map a.eval++(bs.map ptrTo).toArray:=by
   have e2:args.toList.length+ids.length=(args.map a.eval++(bs.map ptrTo).toArray).size:=by simp[yH]
   rw[e2,Array.extract_size]
  rw[e];unfold lj at gS;split at gS
  ·rename_i fn kn;simp only[cq,g',wh,gM]at gS;have rH:fn.body≠none:=by intro e;rw[e]at gS;simp at gS
   simp[execOp,resolve,F8,Deferred.ofValue,invoke,callFunc,kn,gS.1,rH]
  cases gS
 cases h
