import Derived.Test.YtdchjefneblpgaaGreatR11
set_option linter.unusedVariables false
set_option linter.unusedSimpArgs false
namespace Go.Sx
open Go.RowKit
inductive bc where
 | ro (a:cK)
 | iU (pn:List Bool) (pre post:List D)
 | fn (g:FuncId) (cO:List Nat)
abbrev bc.ref (pre post : List D) : bc := .iU [] pre post
abbrev bc.cur(pre post:List D):bc:=.iU [true,false,false] pre post
def stays(pn:List Bool)(j:Nat):Bool:=pn.getD j false
def jj(w:World)(y:Value)(j:Nat):Value:=
 match y with
 | .pointer (some p)=>match w.heap[p.block]? with | some (.cells arr _ _)=>arr.getD j undef | _=>undef
 | _=>undef
def rF(i j:Nat):Nat:=900000000+(100*i+j)
def hU(i j:Nat):Nat:=5000+(100*i+j)
def wc(w:World)(ω:Own)(i:Nat)(pn:List Bool)(f:Nat->Nat)(ds:List D)(y:Value):Prop:=
 ∃b arr ty,y=ptrTo b/\ω b=.box i/\(∀c3,ω c3=.box i->c3=b)/\w.heap[b]?=some (.cells arr ty (0,0))/\arr.size=ds.length/\∀(j:Nat) (d:D),ds[j]?=some d->∃u,arr[j]?=some u/\(stays pn j=false->bX w ω (Tag.own (f j)).R d u)
def X5(w:World)(ω:Own)(i:Nat):bc->Value->Prop
 | .ro (.one d),y=>bX w ω Tag.free.R d y
 | .ro (.agg ds),y=>∃vs:Array Value,y=.agg vs/\vs.size=ds.length/\∀(j:Nat) (d:D),ds[j]?=some d->∃u,vs[j]?=some u/\bX w ω Tag.free.R d u
 | .iU pn pre _,y=>wc w ω i pn (rF i) pre y/\∀(j:Nat) (d:D),pre[j]?=some d->stays pn j=true->bX w ω Tag.free.R d (jj w y j)
 | .fn _ _,_=>True
def bc.bm:bc->Nat
 | .fn _ cO=>cO.length
 | _=>0
def ue(args:List bc):Nat:=args.length-(args.map bc.bm).sum
def HA(args:List bc)(vs:Array Value):Prop:=∀(i:Nat) (g:FuncId) (cO:List Nat),args[i]?=some (.fn g cO)->vs[i]?=some (.func (.func g) #[] (cO.map fun k=>vs.getD k undef).toArray)
def FK(w:World)(ω:Own):Prop:=∀b,ω b≠.bB->∃arr ty,w.heap[b]?=some (.cells arr ty (0,0))
def HG(w:World)(ω:Own)(args:List bc)(vs:Array Value):Prop:=FK w ω/\(∀b i,ω b=.box i->∃pn pre post,args[i]?=some (.iU pn pre post))/\vs.size=args.length/\∀(i:Nat) (jP:bc),args[i]?=some jP->∃v,vs[i]?=some v/\X5 w ω i jP v
def x0(src:List (Option Nat)):List Bool:=src.map Option.isSome
def DF(w:World)(ω:Own)(vs:Array Value):bG->Value->Prop
 | .vals rs,v=>nL w ω rs v
 | .kf src ds,v=>wc w ω 49 (x0 src) (hU 49) ds v/\∀(j i:Nat),src[j]?=some (some i)->vs[i]?=some (jj w v j)
def dC(P:Program)(f:FuncId)(args:List bc)(r:bG):Prop:=
 ∀(w:World) (vs:Array Value) (ω:Own),HG w ω args vs->HA args vs->Tidy w ω->Calls P f (vs.extract 0 (ue args)) w fun e aJ=>∃v,e=.returned v/\hn ⟨w,fun b=>ω b≠.bB,fun _=>(0,undef)⟩ aJ/\
  ∃a1:Own,(∀b,b<w.heap.size->ω b=.bB->a1 b=.bB)/\FK aJ a1/\(∀(i:Nat) (pn:List Bool) (pre post:List D) (y:Value),args[i]?=some (.iU pn pre post)->vs[i]?=some y->wc aJ a1 i pn (hU i) post y/\∀j,stays pn j=true->jj aJ y j=jj w y j)/\DF aJ a1 vs r v
abbrev av2:=List (Nat×Nat)
def look(t:Nat):List (Nat×Nat)->Option Nat
 | []=>none
 | (s,n)::r=>if s=t then some n else look t r
def Lo(ts:List (Nat×Nat)):Bool:=ts.all fun x=>ts.all fun y=>(x.1==y.1)==(x.2==y.2)
variable{ts:List (Nat×Nat)}
theorem Q0{t n:Nat}(h:Lo ts=true)(hm:(t,n)∈ts):look t ts=some n:=by
 have key:∀l:List (Nat×Nat),(∀x∈l,x∈ts)->(t,n)∈l->look t l=some n:=by
  intro l;induction l with
  | nil=>intro _ h;cases h
  | cons x l dk=>
   intro ai hm;obtain⟨s,m⟩:=x;simp only[look];split
   ·rename_i e;subst e;have h1:=fW.1 (fW.1 h _ (ai _ eY)) _ (by exact ‹(s,n)∈ts›);simp only[ya,dp]at h1;have:(m==n)=true:=by rw[<-h1]
    simp only[dp]at this;rw[this]
   rename_i cf;rcases et.1 hm with e | hm
   ·simp only[bx]at e;exact absurd e.1.symm cf
   exact dk (fun x aa=>ai x (fw _ aa)) hm
 exact key ts (fun _ h=>h) hm
theorem anm{t n:Nat}(h:look t ts=some n):(t,n)∈ts:=by
 induction ts with
 | nil=>cases h
 | cons x l dk=>
  obtain⟨s,m⟩:=x;simp only[look]at h;split at h
  ·rename_i e;subst e;rw[eQ h];exact eY
  exact fw _ (dk h)
def hs(bs ts:List (Nat×Nat)):c0->c0
 | .bB=>.bB
 | .box id=>match look id bs with | some i=>.box i | none=>.bB
 | .tok t q=>match look t ts with | some n=>.tok n q | none=>.bB
def Tag.p5(ts:List (Nat×Nat)):Tag->Bool
 | .free=>false
 | .own t=>(look t ts).isSome
 | .ro t=>(look t ts).isSome
def sh:Option Nat->Nat->Bool
 | none=>fun _=>true
 | some d=>kB d
def zu(ts:List (Nat×Nat))(t0:Nat)(g:Tag):Option Tag:=if g.p5 ts then none else hc t0 g
abbrev xY(ts:List (Nat×Nat))(t0:Nat)(de:Option Nat)(l:aD):aD:=l.cr (zu ts t0) (sh de)
structure j2 where
 i:Nat
 id:Nat
 post:List D
 eW:List (Option aD)
def lK(cO:List (Option aD)):List Bool:=cO.map Option.isSome
def l0:List (Option aD)->List aD->List aD
 | [],ls=>ls
 | _,[]=>[]
 | some l::cO,_::ls=>l::l0 cO ls
 | none::cO,l::ls=>l::l0 cO ls
theorem FL:∀(cO:List (Option aD)) (ls:List aD),(l0 cO ls).length=ls.length
 | [],ls=>rfl
 | _::_,[]=>by simp[l0]
 | some l::cO,_::ls=>by simp[l0,FL cO ls]
 | none::cO,_::ls=>by simp[l0,FL cO ls]
theorem Lp:∀(cO:List (Option aD)) (ls:List aD) (j:Nat) (l:aD),(l0 cO ls)[j]?=some l->(cO[j]?=some (some l)/\stays (lK cO) j=true)\/(ls[j]?=some l/\stays (lK cO) j=false)
 | [],ls,j,l,h=>.inr ⟨h,by simp[stays,lK]⟩
 | _::_,[],j,l,h=>by simp[l0]at h
 | some k::cO,x::ls,0,l,h=>by simp only[l0,kE,aO]at h;subst h;exact .inl ⟨rfl,rfl⟩
 | none::cO,x::ls,0,l,h=>by simp only[l0,kE]at h;exact .inr ⟨h,rfl⟩
 | some k::cO,x::ls,j+1,l,h=>by
  have:=Lp cO ls j l (by simpa[l0]using h);simpa[stays,lK]using this
 | none::cO,x::ls,j+1,l,h=>by
  have:=Lp cO ls j l (by simpa[l0]using h);simpa[stays,lK]using this
def xa(t0:Nat):List j2->List (Nat×List aD)->List (Nat×List aD)
 | [],bs=>bs
 | r::rs,bs=>xa t0 rs (rA r.id (l0 r.eW (oy (t0+hU r.i 0) 0 r.post)) bs)
def Q1(t0:Nat)(de:Option Nat)(nk:List (Option aD))(ds:List D)(bs:List (Nat×List aD)):List (Nat×List aD):=
 match de with
 | some d=>(d,l0 nk (oy (t0+hU 49 0) 0 ds))::qb d bs
 | none=>bs
def aG.xZ(st:aG)(ts:List (Nat×Nat))(t0:Nat)(refs:List j2)(de:Option Nat)(nk:List (Option aD))(ds:List D):aG:=
 ⟨st.env.map (aI.map (xY ts t0 de)),Q1 t0 de nk ds (xa t0 refs (st.boxes.map fun x=>(x.1,x.2.map (xY ts t0 de))))⟩
def p8(t0:Nat)(de:Option Nat):c0->c0
 | .tok s q=>if t0<=s/\s<t0+10000 then .bB else .tok s q
 | .box id=>if sh de id then .box id else .bB
 | .bB=>.bB
def p3(i:Nat)(de:Option Nat):List j2->Option Nat
 | []=>if i=49 then de else none
 | r::rs=>if r.i=i then some r.id else p3 i de rs
def n3(t0:Nat)(refs:List j2)(de:Option Nat):c0->c0
 | .tok s q=>if s<10000 then .tok (t0+s) q else .bB
 | .box i=>match p3 i de refs with | some id=>.box id | none=>.bB
 | .bB=>.bB
def D.ui:D->Nat
 | .J k _=>k
 | _=>0
def xb(i:Nat)(ds:List D):List j2->List D
 | []=>ds
 | r::rs=>if r.i=i then r.post else xb i ds rs
def lO(refs:List j2):List (Nat×Nat):=refs.map fun r=>(r.id,r.i)
def zv:List j2->Option Nat->Bool
 | [],_=>true
 | x::r,de=>decide (x.i<49)&&decide (x.post.length<100)&&decide (de≠some x.id)&&r.all (fun y=>x.i != y.i&&x.id != y.id)&&zv r de
variable{id:Nat}
theorem Lq{t0:Nat}:∀{refs:List j2} {bs:List (Nat×List aD)},(∀r∈refs,r.id≠id)->dE id (xa t0 refs bs)=dE id bs
 | [],bs,_=>rfl
 | r::rs,bs,h=>by
  simp only[xa];rw[Lq fun x aa=>h x (fw _ aa),zp (Ne.symm (h r eY))]
theorem ann{hB:Nat}{ls:List aD}:∀{bs:List (Nat×List aD)},(dE id bs).isSome=true->(dE id (rA hB ls bs)).isSome=true:=by
 intro bs h;by_cases e:id=hB
 ·subst e;obtain⟨x,aa⟩:=qo.1 h;rw[zo aa];rfl
 rw[zp e];exact h
theorem Q2{t0:Nat}:∀{refs:List j2} {bs:List (Nat×List aD)} {r:j2},r∈refs->(∀x∈refs,x.id=r.id->x=r)->(dE r.id bs).isSome=true->dE r.id (xa t0 refs bs)=some (l0 r.eW (oy (t0+hU r.i 0) 0 r.post))
 | [],_,_,h,_,_=>by cases h
 | x::rs,bs,r,h,hu,ai=>by
  simp only[xa];by_cases hm:r∈rs
  ·exact Q2 hm (fun y bn=>hu y (fw _ bn)) (ann ai)
  rcases et.1 h with e | h
  ·subst e;obtain⟨l,aj⟩:=qo.1 ai;rw[Lq,zo aj];intro y bn e;have:=hu y (fw _ bn) e;subst this;exact hm bn
  exact absurd h hm
variable{de:Option Nat}
theorem tR:∀{refs:List j2},zv refs de=true->∀{x:j2},x∈refs->x.i<49/\x.post.length<100/\de≠some x.id/\∀y∈refs,(y.i=x.i->y=x)/\(y.id=x.id->y=x)
 | [],_,x,aa=>by cases aa
 | z::r,h,x,aa=>by
  simp only[zv,b8,b',fW,bne_iff_ne,fM]at h;obtain⟨⟨⟨⟨h1,U⟩,ax⟩,aF⟩,aQ⟩:=h;rcases et.1 aa with e | ml
  ·subst e;refine⟨h1,U,ax,fun y bn=>?_⟩;rcases et.1 bn with e | bn
   ·exact⟨fun _=>e,fun _=>e⟩
   exact⟨fun e=>absurd e.symm (aF y bn).1,fun e=>absurd e.symm (aF y bn).2⟩
  obtain⟨cy,bw,fc,mP⟩:=tR aQ ml;refine⟨cy,bw,fc,fun y bn=>?_⟩;rcases et.1 bn with e | bn
  ·subst e;exact⟨fun e=>absurd e (aF x ml).1,fun e=>absurd e (aF x ml).2⟩
  exact mP y bn
theorem Lr:∀{refs:List j2} {r:j2},r∈refs->(∀y∈refs,y.i=r.i->y.id=r.id)->p3 r.i de refs=some r.id
 | [],_,h,_=>by cases h
 | x::rs,r,h,hu=>by
  simp only[p3];split
  ·rename_i e;rw[hu x eY e]
  rename_i e;rcases et.1 h with e1 | h
  ·subst e1;exact absurd rfl e
  exact Lr h fun y bn=>hu y (fw _ bn)
theorem zw{i:Nat}:∀{refs:List j2},p3 i de refs=some id->(∃r∈refs,r.i=i/\r.id=id)\/(i=49/\de=some id)
 | [],h=>by
  simp only[p3]at h;split at h
  ·exact .inr ⟨‹_›,h⟩
  cases h
 | x::rs,h=>by
  simp only[p3]at h;split at h
  ·rename_i e;exact .inl ⟨x,eY,e,eQ h⟩
  rcases zw h with⟨r,az,h1⟩ | h1
  ·exact .inl ⟨r,fw _ az,h1⟩
  exact .inr h1
theorem Ls:∀{refs:List j2},(∀r∈refs,r.i<49)->p3 49 de refs=de
 | [],_=>by simp[p3]
 | x::rs,h=>by
  simp only[p3];rw[a6 (by have:=h x eY;omega)];exact Ls fun r az=>h r (fw _ az)
theorem Q3{ds:List D}:∀{refs:List j2} {r:j2},r∈refs->(∀y∈refs,y.i=r.i->y=r)->xb r.i ds refs=r.post
 | [],_,h,_=>by cases h
 | x::rs,r,h,hu=>by
  simp only[xb];split
  ·rename_i e;rw[hu x eY e]
  rename_i e;rcases et.1 h with e1 | h
  ·subst e1;exact absurd rfl e
  exact Q3 h fun y bn=>hu y (fw _ bn)
theorem Lt{ds:List D}:∀{refs:List j2},(∀r∈refs,r.i<49)->xb 49 ds refs=ds
 | [],_=>rfl
 | x::rs,h=>by
  simp only[xb];rw[a6 (by have:=h x eY;omega)];exact Lt fun r az=>h r (fw _ az)
variable{refs:List j2}
theorem Q4(h:zv refs de=true){r:j2}(az:r∈refs):look r.id (lO refs)=some r.i:=by
 refine Q0 ?_ (jZ.2 ⟨r,az,rfl⟩);unfold Lo;rw[fW];intro x aa;rw[fW];intro y bn;obtain⟨rx,Z',rfl⟩:=jZ.1 aa;obtain⟨GM,aab,rfl⟩:=jZ.1 bn;have:=(tR h Z').2.2.2 GM aab;simp only[dp];by_cases e:GM=rx
 ·subst e;simp
 have e1:¬rx.id=GM.id:=fun e1=>e (this.2 e1.symm)
 have e2:¬rx.i=GM.i:=fun e2=>e (this.1 e2.symm)
 rw[vV.2 e1,vV.2 e2]
theorem FM{i:Nat}(h:look id (lO refs)=some i):∃r∈refs,r.id=id/\r.i=i:=by
 obtain⟨r,az,e⟩:=jZ.1 (anm h);simp only[bx]at e;exact⟨r,az,e.1,e.2⟩
def Lu(rs:List cK):Bool:=decide (rs.length<50)&&rs.all fun | .one _=>true | .agg ds=>ds.length<100
def bG.fits(de:Option Nat)(pg:List D):bG->Prop
 | .vals rs=>de=none/\Lu rs=true
 | .kf _ ds=>de.isSome=true/\pg=ds/\ds.length<100
def bG.eg(v:Value)(n:Nat):bG->Nat×Value
 | .vals rs=>(qX rs n,oj rs v n)
 | .kf _ _=>(0,undef)
def bG.pq(t0:Nat)(de:Option Nat):bG->aI
 | .vals rs=>uf t0 rs
 | .kf _ _=>.one (.ptr (de.getD 0) 0)
theorem cE.Yf{w0:eN}{st:aG}{a:Act}{w aJ:World}{ω:Own}{τ:Nat->Nat×Value}(aT:cE w0 st a w ω τ)(t0:Nat){nk:List (Option aD)}{pg:List D}{h5:bG}{v:Value}{vs:Array Value}{ys:Nat->Value}{H:Nat->Nat×Value}
  (bD:zv refs de=true) (iM:t0+10000<=df) (ao:hn ⟨w,fun b=>hs (lO refs) ts (ω b)≠.bB,H⟩ aJ) (fx:Own)
  (lS:∀b,b<w.heap.size->hs (lO refs) ts (ω b)=.bB->fx b=.bB) (lA:FK aJ fx)
  (hrefs:∀r∈refs,wc aJ fx r.i (lK r.eW) (hU r.i) r.post (ys r.i)/\(∃b,ys r.i=ptrTo b/\ω b=.box r.id)/\(dE r.id st.boxes).isSome=true) (fi:DF aJ fx vs h5 v) (El:h5.fits de pg) (tr:∀d,de=some d->d<df)
  (IK:∀r∈refs,∀(j:Nat) (l:aD),r.eW[j]?=some (some l)->xY ts t0 de l=l/\Sat w ω τ l (jj aJ (ys r.i) j)) (wG:∀(j:Nat) (l:aD),nk[j]?=some (some l)->xY ts t0 de l=l/\Sat w ω τ l (jj aJ v j))
  (PF:∀src ds,h5=.kf src ds->x0 src=lK nk):
  ∃a1 cT,cE w0 (st.xZ ts t0 refs de nk pg) a aJ a1 cT/\cP (Sat aJ a1 cT) (h5.pq t0 de) v:=by
 classical
 let a1:Own:=fun b=>if b<w.heap.size/\hs (lO refs) ts (ω b)=.bB then p8 t0 de (ω b) else n3 t0 refs de (fx b)
 let aB:Nat->Nat×Value:=fun n=>if n<5000 then h5.eg v n else
  ((((xb ((n-5000) / 100) pg refs)[(n-5000) % 100]?).map D.ui).getD 0,jj aJ (if (n-5000) / 100=49 then v else ys ((n-5000) / 100)) ((n-5000) % 100))
 let cT:Nat->Nat×Value:=fun s=>if t0<=s/\s<t0+10000 then aB (s-t0) else τ s
 have AY:∀r∈refs,r.i<49:=fun r az=>(tR bD az).1
 have hold:∀b,b<w.heap.size->hs (lO refs) ts (ω b)=.bB->a1 b=p8 t0 de (ω b):=fun b h1 U=>by simp only[a1];rw[aZ ⟨h1,U⟩]
 have gE:∀b,fx b≠.bB->a1 b=n3 t0 refs de (fx b):=fun b h=>by
  simp only[a1];rw[a6];rintro⟨h1,U⟩;exact h (lS b h1 U)
 have hblk:∀b,b<w.heap.size->hs (lO refs) ts (ω b)=.bB->aJ.heap[b]?=w.heap[b]?:=fun b h1 U=>ao.block b h1 (fun aK=>aK U)
 have Bc:∀r∈refs,∀b,ω b=.box r.id->fx b=.box r.i/\ys r.i=ptrTo b:=by
  intro r az b cv;obtain⟨⟨eU,arr,ty,h1,U,_⟩,⟨fH,ax,aF⟩,aQ⟩:=hrefs r az;obtain⟨ls,wA⟩:=qo.1 aQ;obtain⟨mE,_,_,_,hu,_⟩:=aT.boxes r.id ls wA;have e1:=hu b cv;have e2:=hu fH aF;have cJ:fH=b:=by rw[e1,e2]
  subst cJ;rw[ax]at h1;simp only[ptrTo,Value.pointer.injEq,aO,Addr.mk.injEq]at h1;obtain⟨rfl,_⟩:=h1;exact⟨U,ax⟩
 have yY:∀id b,sh de id=true->ω b=.box id->a1 b=.box id:=by
  intro id b hp cv;have bu:=aT.owned.lt (b:=b) (by simp[cv]);cases e:look id (lO refs) with
  | none=>
   have hi:hs (lO refs) ts (ω b)=.bB:=by rw[cv];simp only[hs,e]
   rw[hold b bu hi,cv];simp only[p8,hp,fL]
  | some i=>
   obtain⟨r,az,rfl,rfl⟩:=FM e;obtain⟨h1,_⟩:=Bc r az b cv;rw[gE b (by rw[h1];simp),h1];simp only[n3];rw[Lr az fun y bn e=>by rw[((tR bD az).2.2.2 y bn).1 e]]
 have bj:mC w ω τ aJ a1 cT (zu ts t0) (sh de):=by
  refine⟨?_,?_,fun id b hp h=>yY id b hp h,?_,fun s ai=>by simp only[cT];rw[a6 (by omega)]⟩
  ·intro g ev b q ar bu aA;unfold zu at ar;split at ar
   ·cases ar
   rename_i hm;simp only[vW]at hm;have hi:hs (lO refs) ts (ω b)=.bB:=by
    cases g with
    | free=>simp only[Tag.R]at aA;rw[aA];rfl
    | own s=>
     simp only[Tag.R]at aA;simp only[Tag.p5,Hw,Hy]at hm;rw[aA];simp only[hs,hm]
    | ro s=>
     simp only[Tag.p5,Hw,Hy]at hm;rcases aA with h | ⟨dB,h⟩
     ·rw[h];rfl
     rw[h];simp only[hs,hm]
   refine⟨?_,hblk b bu hi⟩;rw[hold b bu hi];cases g with
   | free=>simp only[hc,aO]at ar;subst ar;simp only[Tag.R]at aA ⊢;rw[aA];rfl
   | own s=>
    simp only[Tag.R]at aA;simp only[hc]at ar;rw[aA];simp only[p8];split at ar
    ·simp only[aO]at ar;subst ar;rw[aZ ‹_›];rfl
    simp only[aO]at ar;subst ar;rw[a6 ‹_›];rfl
   | ro s=>
    simp only[Tag.R]at aA;simp only[hc]at ar;split at ar
    ·simp only[aO]at ar;subst ar;rcases aA with h | ⟨dB,h⟩
     ·rw[h];rfl
     rw[h];simp only[p8];rw[aZ ‹_›];rfl
    simp only[aO]at ar;subst ar;rcases aA with h | ⟨dB,h⟩
    ·rw[h];exact .inl rfl
    rw[h];simp only[p8];rw[a6 ‹_›];exact .inr ⟨dB,rfl⟩
  ·intro g ev y ar bn;unfold zu at ar;split at ar
   ·cases ar
   cases g with
   | free=>simp only[hc,aO]at ar;subst ar;exact trivial
   | own s=>
    simp only[hc]at ar;split at ar
    ·simp only[aO]at ar;subst ar;exact trivial
    simp only[aO]at ar;subst ar;simp only[Tag.eg,cT]at bn ⊢;rw[a6 ‹_›];exact bn
   | ro s=>
    simp only[hc]at ar;split at ar
    ·simp only[aO]at ar;subst ar;exact trivial
    simp only[aO]at ar;subst ar;exact trivial
  rfl
 have cell:∀(n:Nat) (d:D) (u:Value),n<10000->aB n=(d.ui,u)->bX aJ fx (Tag.own n).R d u->Sat aJ a1 cT (d.qk (t0+n)) u:=by
  intro n d u aK bz az;cases d with
  | v x=>
   have e:u=x:=by cases az;rfl
   subst e;unfold D.qk;split
   ·rename_i h;cases h;exact rfl
   ·rename_i h;cases h;exact rfl
   ·rename_i h;cases h
   ·exact trivial
   exact trivial
  | ptr ds=>exact trivial
  | cl g bm=>exact trivial
  | J k es=>
   refine⟨az.frame fun b q bu aA=>⟨?_,rfl⟩,?_⟩
   ·simp only[Tag.R]at aA ⊢;rw[gE b (by rw[aA];simp),aA];simp only[n3];rw[aZ aK]
   simp only[Tag.eg,cT];rw[aZ (by omega),show t0+n-t0=n by omega,bz];rfl
 have var:∀(i:Nat) (post:List D) (y:Value) (id:Nat) (cO:List (Option aD)),i<50->post.length<100->xb i pg refs=post->(if i=49 then v else ys i)=y->wc aJ fx i (lK cO) (hU i) post y->p3 i de refs=some id->(∀(j:Nat) (l:aD),cO[j]?=some (some l)->xY ts t0 de l=l/\Sat w ω τ l (jj aJ y j))->
   (∀c3 fA,p3 fA de refs=some id->fx c3=.box fA->fA=i)->(∀c3,ω c3=.box id->sh de id=true->¬hs (lO refs) ts (ω c3)=.bB)->uv aJ a1 cT id (l0 cO (oy (t0+hU i 0) 0 post))/\∃b,y=ptrTo b/\a1 b=.box id:=by
  rintro i post y id cO hi PM Z4 bn ⟨b,arr,ty,rfl,U,ax,aF,aQ,bb⟩ gq ZE Zt ht;have di:a1 b=.box id:=by
   rw[gE b (by rw[U];simp),U];simp only[n3,gq]
  refine⟨⟨b,arr,ty,di,fun c3 cv=>?_,aF,by rw[FL,zr];exact aQ,fun j l aj=>?_⟩,b,rfl,di⟩
  ·by_cases af:c3<w.heap.size/\hs (lO refs) ts (ω c3)=.bB
   ·rw[hold c3 af.1 af.2]at cv;cases e:ω c3 with
    | bB=>rw[e]at cv;cases cv
    | tok s q=>rw[e]at cv;simp only[p8]at cv;split at cv<;>cases cv
    | box hB=>
     rw[e]at cv;simp only[p8]at cv;split at cv
     ·simp only[c0.box.injEq]at cv;subst cv;exact absurd af.2 (ht c3 e ‹_›)
     cases cv
   have fZ:n3 t0 refs de (fx c3)=.box id:=by
    simp only[a1]at cv;rwa[a6 af]at cv
   cases e:fx c3 with
   | bB=>rw[e]at fZ;cases fZ
   | tok s q=>rw[e]at fZ;simp only[n3]at fZ;split at fZ<;>cases fZ
   | box fA=>
    rw[e]at fZ;simp only[n3]at fZ;split at fZ
    ·rename_i hB e2;simp only[c0.box.injEq]at fZ;subst fZ;have:=Zt c3 fA e2 e;subst this;exact ax c3 e
    cases fZ
  have j9:j<(l0 cO (oy (t0+hU i 0) 0 post)).length:=(ey.1 aj).1;rw[FL,zr]at j9;rcases Lp cO _ j l aj with⟨aj,_⟩ | ⟨aj,IN⟩
  ·obtain⟨u,hu,_⟩:=bb j _ (gz j9);obtain⟨g1,g2⟩:=ZE j l aj;refine⟨u,hu,?_⟩;have e:jj aJ (ptrTo b) j=u:=by simp[jj,ptrTo,aF,eu,hu]
   rw[e]at g2;have:=bj.sat l u g2;rwa[show l.cr (zu ts t0) (sh de)=l from g1]at this
  rw[Cc,b2]at aj;obtain⟨d,d',rfl⟩:=aj;obtain⟨u,hu,az⟩:=bb j d d';replace az:=az IN;have aP:j<100:=by
   have:=(ey.1 d').1;omega
  refine⟨u,hu,?_⟩;have:=cell (hU i j) d u (by simp only[hU];omega) (by
   have e1:(hU i j-5000) / 100=i:=by simp only[hU];omega
   have e2:(hU i j-5000) % 100=j:=by simp only[hU];omega
   simp only[aB];rw[a6 (by simp only[hU];omega),e1,e2,Z4,d',bn];simp[jj,ptrTo,aF,eu,hu]) az
  rw[show t0+hU i 0+(0+j)=t0+hU i j by simp only[hU];omega];exact this
 have Z7:∀r∈refs,uv aJ a1 cT r.id (l0 r.eW (oy (t0+hU r.i 0) 0 r.post)):=by
  intro r az;obtain⟨h1,U,ax,aF⟩:=tR bD az;refine (var r.i r.post (ys r.i) r.id r.eW (by omega) U (Q3 az fun y bn e=>(aF y bn).1 e) (by rw[a6 (by omega)]) (hrefs r az).1 (Lr az fun y bn e=>by rw[(aF y bn).1 e]) (IK r az) (fun c3 fA e _=>?_) (fun c3 e _=>?_)).1
  ·rcases zw e with⟨y,bn,e1,e2⟩ | ⟨_,e2⟩
   ·rw[<-e1,(aF y bn).2 e2]
   exact absurd e2 ax
  rw[e];simp only[hs,Q4 bD az];simp
 have r2:∀id ls,dE id (st.xZ ts t0 refs de nk pg).boxes=some ls->uv aJ a1 cT id ls:=by
  intro id ls aj;have rest:∀id ls,de≠some id->dE id (xa t0 refs (st.boxes.map fun x=>(x.1,x.2.map (xY ts t0 de))))=some ls->uv aJ a1 cT id ls:=by
   intro id ls kO aj;by_cases az:∃r∈refs,r.id=id
   ·obtain⟨r,az,rfl⟩:=az;rw[Q2 az (fun y bn e=>((tR bD az).2.2.2 y bn).2 e) (by
     rw[tO];obtain⟨l,aj⟩:=qo.1 (hrefs r az).2.2;rw[aj];rfl)]at aj
    rw[<-eQ aj];exact Z7 r az
   have ek:∀r∈refs,r.id≠id:=fun r h1 U=>az ⟨r,h1,U⟩
   rw[Lq ek,tO,b2]at aj;obtain⟨kd,bl,rfl⟩:=aj;obtain⟨b,arr,ty,h1,U,ax,aF⟩:=aT.boxes id kd bl;have hp:sh de id=true:=by
    unfold sh;split
    ·rfl
    simp only[kB,b'];intro e;subst e;exact kO rfl
   have bu:=aT.owned.lt (b:=b) (by simp[h1]);have mh:look id (lO refs)=none:=by
    cases e:look id (lO refs) with
    | none=>rfl
    | some i=>
     obtain⟨r,mj,e1,_⟩:=FM e;exact absurd e1 (ek r mj)
   have hi:hs (lO refs) ts (ω b)=.bB:=by rw[h1];simp only[hs,mh]
   refine⟨b,arr,ty,yY id b hp h1,fun c3 cv=>?_,(hblk b bu hi).trans ax,aF.map bj.sat⟩;by_cases af:c3<w.heap.size/\hs (lO refs) ts (ω c3)=.bB
   ·rw[hold c3 af.1 af.2]at cv;cases e:ω c3 with
    | bB=>rw[e]at cv;cases cv
    | tok s q=>rw[e]at cv;simp only[p8]at cv;split at cv<;>cases cv
    | box hB=>
     rw[e]at cv;simp only[p8]at cv;split at cv
     ·simp only[c0.box.injEq]at cv;subst cv;exact U c3 e
     cases cv
   have fZ:n3 t0 refs de (fx c3)=.box id:=by
    simp only[a1]at cv;rwa[a6 af]at cv
   cases e:fx c3 with
   | bB=>rw[e]at fZ;cases fZ
   | tok s q=>rw[e]at fZ;simp only[n3]at fZ;split at fZ<;>cases fZ
   | box fA=>
    rw[e]at fZ;simp only[n3]at fZ;split at fZ
    ·rename_i hB e2;simp only[c0.box.injEq]at fZ;subst fZ;rcases zw e2 with⟨r,aQ,_,bb⟩ | ⟨_,bb⟩
     ·exact absurd bb (ek r aQ)
     exact absurd bb kO
    cases fZ
  simp only[aG.xZ,Q1]at aj;cases de with
  | none=>exact rest id ls (by simp) aj
  | some d=>
   simp only[dE]at aj;by_cases aB:d=id
   ·subst aB;rw[aZ rfl]at aj;rw[<-eQ aj];cases h5 with
    | vals rs=>exact absurd El.1 (by simp)
    | kf src ds=>
     obtain⟨_,rfl,hlen⟩:=El;obtain⟨fi,_⟩:=fi;rw[PF _ _ rfl]at fi;refine (var 49 pg v d nk (by omega) hlen (Lt AY) (aZ rfl) fi (Ls AY) wG (fun c3 fA e _=>?_) (fun c3 _ e=>?_)).1
     ·rcases zw e with⟨y,bn,_,e2⟩ | ⟨e2,_⟩
      ·exact absurd (by rw[e2]) (tR bD bn).2.2.1
      exact e2
     simp[sh,kB]at e
   rw[a6 aB,zj (fun e=>aB e.symm)]at aj;exact rest id ls (by simpa using aB) aj
 refine⟨a1,cT,⟨aT.defers,by simp[aG.xZ,aT.size],?_,?_,fun s ai=>?_,fun id b hi cv=>?_,?_,r2⟩,?_⟩
 ·refine⟨ao.os.trans aT.below.os,ao.tape.trans aT.below.tape,ao.output.trans aT.below.output,n1 aT.below.size ao.size,fun b bu ar=>?_,fun ai=>n1 (aT.below.drawn ai) (ao.drawn ai),ao.laid,aT.below.free⟩;have ig:b<w.heap.size:=An bu aT.below.size;have q0:ω b=.bB:=by
   cases e:ω b with
   | bB=>rfl
   | box id=>exact absurd (aT.owned b (by simp[e])).1 (fun h=>h.elim (fun h=>by omega) ar)
   | tok s q=>exact absurd (aT.owned b (by simp[e])).1 (fun h=>h.elim (fun h=>by omega) ar)
  exact (hblk b ig (by rw[q0];rfl)).trans (aT.below.block b bu ar)
 ·intro b gp;by_cases af:b<w.heap.size/\hs (lO refs) ts (ω b)=.bB
  ·rw[hold b af.1 af.2]at gp;have U:ω b≠.bB:=fun e=>by rw[e]at gp;exact gp rfl
   obtain⟨ax,arr,ty,aF⟩:=aT.owned b U;exact⟨ax,arr,ty,(hblk b af.1 af.2).trans aF⟩
  have U:fx b≠.bB:=fun e=>by
   simp only[a1]at gp;rw[a6 af,e]at gp;exact gp rfl
  obtain⟨arr,ty,aF⟩:=lA b U;refine⟨?_,arr,ty,aF⟩;by_cases bu:b<w.heap.size
  ·have aQ:ω b≠.bB:=fun e=>af ⟨bu,by rw[e];rfl⟩
   exact (aT.owned b aQ).1
  exact .inl (by have:=aT.below.size;omega)
 ·have:cT s=τ s:=by simp only[cT];rw[a6 (by omega)]
  rw[this];exact aT.fixed s ai
 ·by_cases af:b<w.heap.size/\hs (lO refs) ts (ω b)=.bB
  ·rw[hold b af.1 af.2]at cv;cases e:ω b with
   | bB=>rw[e]at cv;cases cv
   | tok s q=>rw[e]at cv;simp only[p8]at cv;split at cv<;>cases cv
   | box hB=>
    rw[e]at cv;simp only[p8]at cv;split at cv
    ·simp only[c0.box.injEq]at cv;subst cv;exact aT.pinned hB b hi e
    cases cv
  have fZ:n3 t0 refs de (fx b)=.box id:=by
   simp only[a1]at cv;rwa[a6 af]at cv
  cases e:fx b with
  | bB=>rw[e]at fZ;cases fZ
  | tok s q=>rw[e]at fZ;simp only[n3]at fZ;split at fZ<;>cases fZ
  | box fA=>
   rw[e]at fZ;simp only[n3]at fZ;split at fZ
   ·rename_i hB e2;simp only[c0.box.injEq]at fZ;subst fZ;rcases zw e2 with⟨r,aQ,rfl,rfl⟩ | ⟨_,bb⟩
    ·obtain⟨⟨eU,arr,ty,g1,g2,g3,_⟩,⟨fH,g4,g5⟩,_⟩:=hrefs r aQ;have cJ:=g3 b e;rw[g4]at g1;simp only[ptrTo,Value.pointer.injEq,aO,Addr.mk.injEq]at g1;rw[cJ,<-g1.1];exact aT.pinned r.id fH hi g5
    have:=tr _ bb;omega
   cases fZ
 ·intro i q aA;simp only[aG.xZ]at aA;rw[dG,b2]at aA;obtain⟨gH,bl,rfl⟩:=aA;obtain⟨u,h1,U⟩:=aT.env i gH bl;exact⟨u,h1,cP.map bj.sat U⟩
 cases h5 with
 | kf src ds=>
  obtain⟨kO,rfl,hlen⟩:=El;obtain⟨d,rfl⟩:=qo.1 kO;obtain⟨fi,_⟩:=fi;rw[PF _ _ rfl]at fi;obtain⟨b,h1,U⟩:=(var 49 pg v d nk (by omega) hlen (Lt AY) (aZ rfl) fi (Ls AY) wG (fun c3 fA e _=>by
   rcases zw e with⟨y,bn,_,e2⟩ | ⟨e2,_⟩
   ·exact absurd (by rw[e2]) (tR bD bn).2.2.1
   exact e2) (fun c3 _ e=>by simp[sh,kB]at e)).2
  exact⟨b,U,h1⟩
 | vals rs=>
  obtain⟨rfl,dV⟩:=El;simp only[Lu,b8,b']at dV;have eI:∀(r:Nat) (cn:cK),rs[r]?=some cn->∀ds,cn=.agg ds->ds.length<100:=by
   intro r cn az ds e;have:=fW.1 dV.2 cn (fE az);subst e;simpa using this
  have uA:∀(r:Nat) (cn:cK) (y:Value),r<50->(∀ds,cn=.agg ds->ds.length<100)->rs[r]?=some cn->(∀j,j<100->oj rs v (100*r+j)=y.cells.getD j undef)->mT aJ fx r cn y->la (Sat aJ a1 cT) (cn.res (t0+100*r)) y:=by
   intro r cn y az eI A7 bz oi;have gP:∀j,j<100->qX rs (100*r+j)=(match cK.cell j cn with | some (.J k _)=>k | _=>0):=by
    intro j aP;unfold qX;rw[show (100*r+j) / 100=r by omega,show (100*r+j) % 100=j by omega,A7];rfl
   have PS:∀d:D,(match some d with | some (.J k _)=>k | _=>0)=d.ui:=fun d=>by cases d<;>rfl
   cases cn with
   | one d=>
    have h1:=oi.p9;have U:=bz 0 (by omega);rw[B9 h1]at U;have:=cell (100*r) d y (by omega) (by
     simp only[aB,bG.eg];rw[aZ (by omega)];have ax:=gP 0 (by omega);rw[nj]at U ax;rw[ax,U];simp only[cK.cell,fL];rw[PS];rfl) oi
    exact this
   | agg ds=>
    obtain⟨vs,rfl,aK,aP⟩:=oi;refine⟨vs,rfl,by rw[zr];exact aK,fun j l aj=>?_⟩;rw[Cc,b2]at aj;obtain⟨d,d',rfl⟩:=aj;obtain⟨u,hu,A8⟩:=aP j d d';have j9:j<100:=by
     have:=(ey.1 d').1;have:=eI ds rfl;omega
    refine⟨u,hu,?_⟩;have:=cell (100*r+j) d u (by omega) (by
     simp only[aB,bG.eg];rw[aZ (by omega),gP j j9,bz j j9];simp only[cK.cell,d'];rw[PS];simp[Value.cells,eu,hu]) A8
    rw[show t0+100*r+(0+j)=t0+(100*r+j) by omega];exact this
  show cP (Sat aJ a1 cT) (uf t0 rs) v;cases rs with
  | nil=>
   obtain⟨vs,rfl,aK,_⟩:=fi;exact⟨vs,rfl,aK,fun i a ad=>by simp[rB]at ad⟩
  | cons cn rest=>
   cases rest with
   | nil=>
    have:=uA 0 cn v (by omega) (eI 0 cn rfl) rfl (fun j aP=>by
     unfold oj;simp only[Nat.mul_zero,dq];rw[Ds aP]) fi
    exact this
   | cons OJ rest=>
    obtain⟨vs,rfl,aK,bz⟩:=fi;refine⟨vs,rfl,by rw[EI];exact aK,fun i a ad=>?_⟩;rw[EH,b2]at ad;obtain⟨oR,h1,rfl⟩:=ad;obtain⟨y,bn,AW⟩:=bz i oR h1;have lB:i<50:=by
     have:=(ey.1 h1).1;omega
    refine⟨y,bn,?_⟩;have:=uA i oR y lB (eI i oR h1) h1 (fun j aP=>by
     unfold oj;simp only;rw[show (100*i+j) / 100=i by omega,show (100*i+j) % 100=j by omega];simp[eu,bn]) AW
    rw[dq];exact this
end Go.Sx
namespace Go.Sx
open Go.RowKit
def aD.p5(ts:List (Nat×Nat)):aD->Bool
 | .J g _ _=>g.p5 ts
 | .a8 t _ _ _ _ _=>(look t ts).isSome
 | _=>false
variable{w:World}{ω:Own}{τ:Nat->Nat×Value}{l:aD}
theorem Q5{bs ts:List (Nat×Nat)}{d:D}{y:Value}(h:l.gX=some d)(hm:l.p5 ts=false)(ai:Sat w ω τ l y):
  bX w (fun b=>hs bs ts (ω b)) Tag.free.R d y:=by
 have tag:∀(g:Tag) (b:Nat) (q:List (Nat×Nat)),g.p5 ts=false->g.R q (ω b)->hs bs ts (ω b)=.bB:=by
  intro g b q ar aA;cases g with
  | free=>simp only[Tag.R]at aA;rw[aA];rfl
  | own s=>
   simp only[Tag.R]at aA;simp only[Tag.p5,Hw,Hy]at ar;rw[aA];simp only[hs,ar]
  | ro s=>
   simp only[Tag.p5,Hw,Hy]at ar;rcases aA with h | ⟨dB,h⟩
   ·rw[h];rfl
   rw[h];simp only[hs,ar]
 cases l with
 | cu=>cases h
 | v x=>
  simp only[aD.gX]at h;split at h
  ·simp only[aO]at h;subst h;have:y=x:=ai;subst this;exact .v _ _ ‹_›
  cases h
 | cg c=>
  simp only[aD.gX,aO]at h;subst h;have:y=.bool c:=ai;subst this;exact .v _ _ rfl
 | J t k es=>simp only[aD.gX,aO]at h;subst h;exact ai.1.frame fun b q _ aA=>⟨tag t b q hm aA,rfl⟩
 | ptr=>cases h
 | ep=>cases h
 | hq=>cases h
 | fB=>cases h
 | iC ds off=>
  simp only[aD.gX]at h;split at h
  ·rename_i aN;subst aN;simp only[aO]at h;subst h;obtain⟨b,rfl,az⟩:=ai;exact az.frame fun b q _ aA=>⟨tag .free b q rfl aA,rfl⟩
  cases h
 | fd dK=>simp only[aD.gX,aO]at h;subst h;exact bX.frame ai fun b q _ aA=>⟨tag .free b q rfl aA,rfl⟩
 | gb t k es=>simp only[aD.gX,aO]at h;subst h;exact bX.frame ai.1 fun b q _ aA=>⟨tag .free b q rfl aA,rfl⟩
 | a8 t i j k es m=>
  obtain⟨u,hu,az,_⟩:=ai;have fin:y=u->bX w (fun b=>hs bs ts (ω b)) Tag.free.R (.J k es) y:=by
   intro e;rw[e];exact az.frame fun b q _ aA=>⟨tag (.own t) b _ hm aA,rfl⟩
  cases m with
  | at_ x z=>cases h
  | here=>simp only[aD.gX,aO]at h;subst h;exact fin hu
  | mD=>simp only[aD.gX,aO]at h;subst h;exact fin hu
def aI.DK:aI->Option (cK×List aD)
 | .bd (.one l)=>l.gX.map fun d=>(.one d,[l])
 | .bd (.agg ls)=>(ls.mapM aD.gX).map fun ds=>(.agg ds,ls)
 | _=>none
def xc(i:Nat):Nat->List aD->List (Nat×Nat)
 | _,[]=>[]
 | j,l::ls=>match l.tok with | some t=>(t,rF i j)::xc i (j+1) ls | none=>xc i (j+1) ls
theorem Q6{i:Nat}:∀{ls:List aD} {j0 j:Nat} {l:aD} {t:Nat},ls[j]?=some l->l.tok=some t->(t,rF i (j0+j))∈xc i j0 ls
 | [],_,_,_,_,h,_=>by simp at h
 | fS::ls,j0,0,l,t,h,bq=>by
  simp at h;subst h;simp only[xc,bq];exact eY
 | fS::ls,j0,j+1,l,t,h,bq=>by
  have:=Q6 (i:=i) (ls:=ls) (j0:=j0+1) (j:=j) (by simpa using h) bq;rw[show j0+1+j=j0+(j+1) by omega]at this;simp only[xc];split
  ·exact fw _ this
  exact this
def qa:aD->Option aD
 | .gb t k es=>some (.gb t k es)
 | .J .free k es=>some (.J .free k es)
 | _=>none
def tS(ls:List aD):List (Option aD):=if (ls.map qa).all Option.isNone then [] else ls.map qa
def aD.GV(l:aD):Option D:=match qa l with | some l=>l.gX | none=>l.ju
theorem BM{g':aD}(h:qa l=some g'):g'=l/\(∀ts t0 de,xY ts t0 de l=l)/\∃k es,l.gX=some (.J k es)/\∀{w ω τ y},Sat w ω τ l y->bX w ω Tag.free.R (.J k es) y:=by
 unfold qa at h;split at h
 ·rename_i t k es;cases h;exact⟨rfl,fun _ _ _=>rfl,k,es,rfl,fun ai=>ai.1⟩
 ·rename_i k es;cases h;exact⟨rfl,fun _ _ _=>by simp[aD.cr,zu,Tag.p5,hc],k,es,rfl,fun ai=>ai.1⟩
 cases h
theorem ano{ls:List aD}{j:Nat}(h:(tS ls)[j]?=some (some l)):ls[j]?=some l/\qa l=some l:=by
 unfold tS at h;split at h
 ·simp at h
 rw[dG,b2]at h;obtain⟨fS,h1,U⟩:=h;have:=(BM U).1;subst this;exact⟨h1,U⟩
theorem Lv{ls:List aD}{j:Nat}(aj:ls[j]?=some l):stays (lK (tS ls)) j=(qa l).isSome:=by
 unfold tS;split
 ·rename_i h;have:=fW.1 h (qa l) (jZ.2 ⟨l,fE aj,rfl⟩);simp only[stays,lK,List.map_nil,List.getD_nil];cases e:qa l with
  | none=>rfl
  | some x=>rw[e]at this;cases this
 simp only[stays,lK,List.map_map,iF,dG,aj];rfl
def wQ(cx:List aI):List (Option Nat)->Option (List (Option aD))
 | []=>some []
 | none::r=>(wQ cx r).map fun x=>none::x
 | some a::r=>
  match cx[a]? with
  | some (.bd (.one l))=>
   match qa l,wQ cx r with
   | some g',some lo=>some (some g'::lo)
   | _,_=>none
  | _=>none
theorem FN{cx:List aI}:∀{src:List (Option Nat)} {nk:List (Option aD)},wQ cx src=some nk->x0 src=lK nk/\∀(j:Nat) (l:aD),nk[j]?=some (some l)->∃a,src[j]?=some (some a)/\cx[a]?=some (.bd (.one l))/\qa l=some l
 | [],nk,h=>by
  simp only[wQ,aO]at h;subst h;exact⟨rfl,fun j l h=>by simp at h⟩
 | none::r,nk,h=>by
  simp only[wQ,b2]at h;obtain⟨x,h1,rfl⟩:=h;obtain⟨g1,g2⟩:=FN h1;refine⟨by simpa[x0,lK]using g1,fun j l aP=>?_⟩;cases j with
  | zero=>simp at aP
  | succ j=>exact g2 j l (by simpa using aP)
 | some a::r,nk,h=>by
  simp only[wQ]at h;split at h
  ·rename_i l e;split at h
   ·rename_i g' lo e1 e2;simp only[aO]at h;subst h;obtain⟨g1,g2⟩:=FN e2;have:=(BM e1).1;subst this;refine⟨by simpa[x0,lK]using g1,fun j l aP=>?_⟩;cases j with
    | zero=>
     simp only[kE,aO]at aP;subst aP;exact⟨a,rfl,e,e1⟩
    | succ j=>exact g2 j l (by simpa using aP)
   cases h
  cases h
def V6:aI->Option Nat
 | .bd (.one (.ptr id 0))=>some id
 | _=>none
structure Dv where
 pH:List bc
 refs:List j2
 ts:List (Nat×Nat)
 ql:List aD
def s9:aI->Option (FuncId×List Nat)
 | .bd (.one (.hq g ids))=>some (g,ids)
 | _=>none
def Qq(id:Nat):aI:=.bd (.one (.ptr id 0))
def qy(bs:mB):Nat->List (Option (List D))->List aI->Option Dv
 | _,[],[]=>some ⟨[],[],[],[]⟩
 | i,none::ms,p::cx=>
  match s9 p with
  | some (g,ids)=>(qy bs (i+1) ms cx).map fun r=>⟨.fn g (List.range' (i+1) ids.length)::r.pH,r.refs,r.ts,r.ql⟩
  | none=>
   match p.DK,qy bs (i+1) ms cx with
   | some (cn,ls),some r=>some ⟨.ro cn::r.pH,r.refs,r.ts,ls++r.ql⟩
   | _,_=>none
 | i,some post::ms,p::cx=>
  match V6 p,qy bs (i+1) ms cx with
  | some id,some r=>
   match dE id bs with
   | some ls=>
    match ls.mapM aD.GV with
    | some pre=>some ⟨.iU (lK (tS ls)) pre post::r.pH,⟨i,id,post,tS ls⟩::r.refs,xc i 0 ls++r.ts,r.ql⟩
    | none=>none
   | none=>none
  | _,_=>none
 | _,_,_=>none
def Dw(bs:mB)(a:Dv)(i:Nat)(jP:bc)(p:aI):Prop:=
 (∃g ids,jP=.fn g (List.range' (i+1) ids.length)/\p=.bd (.one (.hq g ids)))\/
 (∃cn ls,jP=.ro cn/\p.DK=some (cn,ls)/\∀l∈ls,l∈a.ql)\/
 (∃id ls pre post,jP=.iU (lK (tS ls)) pre post/\p=.bd (.one (.ptr id 0))/\dE id bs=some ls/\ls.mapM aD.GV=some pre/\(⟨i,id,post,tS ls⟩:j2)∈a.refs/\∀x∈xc i 0 ls,x∈a.ts)
theorem Dw.mono{bs:mB}{a b:Dv}{i:Nat}{jP:bc}{p:aI}(h:Dw bs a i jP p)(h1:∀l∈a.ql,l∈b.ql)(U:∀x∈a.refs,x∈b.refs)(ax:∀x∈a.ts,x∈b.ts):Dw bs b i jP p:=by
 rcases h with h | ⟨cn,ls,e1,e2,cJ⟩ | ⟨id,ls,pre,post,e1,e2,cJ,e4,ko,oV⟩
 ·exact .inl h
 ·exact .inr (.inl ⟨cn,ls,e1,e2,fun l aj=>h1 l (cJ l aj)⟩)
 exact .inr (.inr ⟨id,ls,pre,post,e1,e2,cJ,e4,U _ ko,fun x aa=>ax x (oV x aa)⟩)
theorem FO{bs:mB}:∀{ms:List (Option (List D))} {cx:List aI} {i:Nat} {a:Dv},qy bs i ms cx=some a->a.pH.length=cx.length/\
  (∀(x:Nat) (jP:bc),a.pH[x]?=some jP->∃p,cx[x]?=some p/\Dw bs a (i+x) jP p)/\
  (∀r∈a.refs,∃(x:Nat) (pre:List D),r.i=i+x/\a.pH[x]?=some (.iU (lK r.eW) pre r.post)/\cx[x]?=some (.bd (.one (.ptr r.id 0)))/\∃ls,dE r.id bs=some ls/\r.eW=tS ls)
 | [],[],i,a,h=>by
  simp only[qy,aO]at h;subst h;exact⟨rfl,fun x jP h=>by simp at h,fun r h=>by cases h⟩
 | none::ms,p::cx,i,a,h=>by
  simp only[qy]at h;split at h
  ·rename_i g ids cc;rw[b2]at h;obtain⟨r,e2,rfl⟩:=h;obtain⟨dw,cy,bw⟩:=FO e2;have hp:p=.bd (.one (.hq g ids)):=by
    unfold s9 at cc;split at cc
    ·cases cc;rfl
    cases cc
   refine⟨by simp[dw],fun x jP aa=>?_,fun y bn=>?_⟩
   ·cases x with
    | zero=>
     simp only[kE,aO]at aa;subst aa;exact⟨p,rfl,.inl ⟨g,ids,rfl,hp⟩⟩
    | succ x=>
     obtain⟨ri,h1,U⟩:=cy x jP (by simpa using aa);refine⟨ri,by simpa using h1,?_⟩;rw[show i+1+x=i+(x+1) by omega]at U;exact U.mono (fun _ h=>h) (fun _ h=>h) (fun _ h=>h)
   obtain⟨x,pre,h1,U,ax,aF⟩:=bw y bn;exact⟨x+1,pre,by omega,by simpa using U,by simpa using ax,aF⟩
  split at h
  ·rename_i cn ls r e1 e2;simp only[aO]at h;subst h;obtain⟨dw,cy,bw⟩:=FO e2;refine⟨by simp[dw],fun x jP aa=>?_,fun y bn=>?_⟩
   ·cases x with
    | zero=>
     simp only[kE,aO]at aa;subst aa;exact⟨p,rfl,.inr (.inl ⟨cn,ls,rfl,e1,fun l aj=>hl _ aj⟩)⟩
    | succ x=>
     obtain⟨ri,h1,U⟩:=cy x jP (by simpa using aa);refine⟨ri,by simpa using h1,?_⟩;rw[show i+1+x=i+(x+1) by omega]at U;exact U.mono (fun l aj=>io _ aj) (fun _ h=>h) (fun _ h=>h)
   obtain⟨x,pre,h1,U,ax,aF⟩:=bw y bn;exact⟨x+1,pre,by omega,by simpa using U,by simpa using ax,aF⟩
  cases h
 | some post::ms,p::cx,i,a,h=>by
  simp only[qy]at h;split at h
  ·rename_i id r e1 e2;split at h
   ·rename_i ls cJ;split at h
    ·rename_i pre e4;simp only[aO]at h;subst h;obtain⟨dw,cy,bw⟩:=FO e2;have hp:p=.bd (.one (.ptr id 0)):=by
      unfold V6 at e1;split at e1
      ·rw[eQ e1]
      cases e1
     refine⟨by simp[dw],fun x jP aa=>?_,fun y bn=>?_⟩
     ·cases x with
      | zero=>
       simp only[kE,aO]at aa;subst aa;exact⟨p,rfl,.inr (.inr ⟨id,ls,pre,post,rfl,hp,cJ,e4,eY,fun x aa=>hl _ aa⟩)⟩
      | succ x=>
       obtain⟨ri,h1,U⟩:=cy x jP (by simpa using aa);refine⟨ri,by simpa using h1,?_⟩;rw[show i+1+x=i+(x+1) by omega]at U;exact U.mono (fun _ h=>h) (fun x h=>fw _ h) (fun x h=>io _ h)
     rcases et.1 bn with rfl | bn
     ·exact⟨0,pre,rfl,rfl,by simp[hp],ls,cJ,rfl⟩
     obtain⟨x,za,h1,U,ax,aF⟩:=bw y bn;exact⟨x+1,za,by omega,by simpa using U,by simpa using ax,aF⟩
    cases h
   cases h
  cases h
 | [],_::_,i,a,h=>by simp[qy]at h
 | none::_,[],i,a,h=>by simp[qy]at h
 | some _::_,[],i,a,h=>by simp[qy]at h
def bG.H0(d:Option Nat):bG->Bool
 | .vals rs=>Lu rs
 | .kf _ ds=>d.isSome&&decide (ds.length<100)
def bG.de(d:Option Nat):bG->Option Nat
 | .vals _=>none
 | .kf _ _=>d
def bG.pg:bG->List D
 | .vals _=>[]
 | .kf _ ds=>ds
def bG.nk(cx:List aI):bG->Option (List (Option aD))
 | .vals _=>some []
 | .kf src _=>wQ cx src
theorem bG.Ys{d:Option Nat}{r:bG}(h:r.H0 d=true):r.fits (r.de d) r.pg:=by
 cases r with
 | vals rs=>exact⟨rfl,h⟩
 | kf src ds=>
  simp only[bG.H0,b8,b']at h;exact⟨h.1,rfl,h.2⟩
def vm(n:Nat):Nat->List bc->Bool
 | _,[]=>true
 | i,.fn _ _::r=>i+1==n&&vm n (i+1) r
 | i,_::r=>vm n (i+1) r
theorem FP{n:Nat}:∀{as:List bc} {i x:Nat} {g:FuncId} {cO:List Nat},vm n i as=true->as[x]?=some (.fn g cO)->i+x+1=n
 | [],_,_,_,_,_,h=>by simp at h
 | .fn _ _::r,i,0,g,cO,h,aa=>by
  simp only[vm,b8,dp]at h;omega
 | .fn _ _::r,i,x+1,g,cO,h,aa=>by
  simp only[vm,b8,dp]at h;have:=FP h.2 (x:=x) (by simpa using aa);omega
 | .ro _::r,i,0,g,cO,h,aa=>by simp at aa
 | .iU _ _ _::r,i,0,g,cO,h,aa=>by simp at aa
 | .ro _::r,i,x+1,g,cO,h,aa=>by
  have:=FP (i:=i+1) (by simpa[vm]using h) (x:=x) (by simpa using aa);omega
 | .iU _ _ _::r,i,x+1,g,cO,h,aa=>by
  have:=FP (i:=i+1) (by simpa[vm]using h) (x:=x) (by simpa using aa);omega
def BN(P:Program)(st:aG)(d:Option Nat)(f:FuncId)(n:Nat)(cx:List aI)(ans:List b6):Option (aG×List b6×List Prop):=
 match ans with
 | .hd wR h5::r=>
  match qy st.boxes 0 wR cx,h5.nk cx with
  | some a,some nk=>
   let t0:=10000*(d.getD 0+1)
   if hL P f=true/\t0+10000<=df/\zv a.refs (h5.de d)=true/\Lo a.ts=true/\h5.H0 d=true/\a.ql.all (fun l=>!(l.p5 a.ts))=true/\ue a.pH=n/\vm n 0 a.pH=true then
    let br:=st.xZ a.ts t0 a.refs (h5.de d) nk h5.pg
    match d with
    | some d=>some (⟨br.env.set d (h5.pq t0 (h5.de (some d))),br.boxes⟩,r,[dC P f a.pH h5])
    | none=>some (br,r,[dC P f a.pH h5])
   else none
  | _,_=>none
 | _=>none
def Lw(P:Program)(st:aG)(d:Option Nat)(f:FuncId)(args:List Operand)(ans:List b6):Option (aG×List b6×List Prop):=
 match (args.map st.bj).getLast?.bind s9 with
 | some (_,ids)=>BN P st d f args.length (args.map st.bj++ids.map Qq) ans
 | none=>BN P st d f args.length (args.map st.bj) ans
def Lx(P:Program)(st:aG)(d:Option Nat)(f:Operand)(args:List Operand)(ans:List b6):Option (aG×List b6×List Prop):=
 match s9 (st.bj f) with
 | some (g,ids)=>if (args.map st.bj).all (fun p=>(s9 p).isNone) then BN P st d g (args.length+ids.length) (args.map st.bj++ids.map Qq) ans else none
 | none=>none
variable{a:Act}{P:Program}{w0:eN}{st br:aG}{dst:Option Nat}{ans cj:List b6}{obs:List Prop}
theorem Ly{f:FuncId}{n:Nat}{cx:List aI}{vs:Array Value}{o:Oper}
  (Iz:o.dst=dst) (aT:cE w0 st a w ω τ) (h:BN P st dst f n cx ans=some (br,cj,obs)) (aN:c8 obs) (c7:vs.size=cx.length) (gZ:∀(x:Nat) (p:aI),cx[x]?=some p->∃v,vs[x]?=some v/\cP (Sat w ω τ) p v)
  (lU:∀(x:Nat) (g:FuncId) (ids:List Nat),x+1=n->cx[x]?=some (.bd (.one (.hq g ids)))->vs[x]?=some (.func (.func g) #[] ((List.range' n ids.length).map fun k=>vs.getD k undef).toArray))
  (fj:hL P f=true->(execOp a.eval o).run P w=.ok (.enter f (vs.extract 0 n)) w) {K:Act->World->Prop} {Q:Exit->Act->World->Prop} (gN:∀cF aJ,Rel w0 br cF aJ->K cF aJ):
  Oper.wp P o a w K Q:=by
 unfold BN at h;split at h
 ·rename_i wR h5 r;split at h
  ·rename_i s0 nk nx wG;simp only at h;split at h
   ·rename_i af;obtain⟨hZ,iM,bD,mh,dV,A5,I0,tu⟩:=af;rw[fW]at A5;have A6:∀l∈s0.ql,l.p5 s0.ts=false:=fun l aj=>by simpa using A5 l aj
    obtain⟨hlen,cy,bw⟩:=FO nx
    let sX:Own:=fun b=>hs (lO s0.refs) s0.ts (ω b)
    have cf:∀b,sX b≠.bB->ω b≠.bB:=fun b h e=>h (by simp only[sX,e];rfl)
    have Z6:HG w sX s0.pH vs:=by
     refine⟨fun b ao=>(aT.owned b (cf b ao)).2,fun b i ao=>?_,by rw[c7,hlen],fun x jP aa=>?_⟩
     ·simp only[sX]at ao;cases e:ω b with
      | bB=>rw[e]at ao;cases ao
      | tok s q=>rw[e]at ao;simp only[hs]at ao;split at ao<;>cases ao
      | box hB=>
       rw[e]at ao;simp only[hs]at ao;split at ao
       ·rename_i fA tc;simp only[c0.box.injEq]at ao;subst ao;obtain⟨lo,ek,_,uC⟩:=FM tc;obtain⟨x,pre,g1,g2,_⟩:=bw lo ek;exact⟨lK lo.eW,pre,lo.post,by rw[<-uC,g1,dq];exact g2⟩
       cases ao
     obtain⟨p,hp,rZ⟩:=cy x jP aa;obtain⟨v,bz,ai⟩:=gZ x p hp;refine⟨v,bz,?_⟩;rw[dq]at rZ;rcases rZ with⟨g,ids,rfl,_⟩ | ⟨cn,ls,rfl,e2,cJ⟩ | ⟨id,ls,pre,post,rfl,rfl,cJ,e4,ko,oV⟩
     ·exact trivial
     ·cases p with
      | gv as=>cases e2
      | bd bd=>
       cases bd with
       | one l=>
        simp only[aI.DK,b2]at e2;obtain⟨d,h1,U⟩:=e2;simp only[bx]at U;obtain⟨rfl,rfl⟩:=U;exact Q5 h1 (A6 l (cJ l (by simp))) ai
       | agg fr=>
        simp only[aI.DK,b2]at e2;obtain⟨ds,h1,U⟩:=e2;simp only[bx]at U;obtain⟨rfl,rfl⟩:=U;obtain⟨ax,aF⟩:=ox h1;obtain⟨vs,rfl,aK,aaw⟩:=ai;refine⟨vs,rfl,by omega,fun j d aB=>?_⟩;obtain⟨l,aj,cV⟩:=aF j d aB;obtain⟨u,hu,fb⟩:=aaw j l aj;exact⟨u,hu,Q5 cV (A6 l (cJ l (fE aj))) fb⟩
     obtain⟨b,ao,rfl⟩:=ai;obtain⟨c3,arr,ty,di,hu,bC,eV⟩:=aT.boxes id ls cJ;have:=hu b ao;subst this;have Pz:=Q4 bD ko;simp only at Pz;obtain⟨ax,aF⟩:=ox e4;refine⟨⟨b,arr,ty,rfl,by simp only[sX,ao,hs,Pz],fun c af=>?_,bC,by have:=eV.1;omega,fun j d aB=>?_⟩,fun j d aB fk=>?_⟩
     ·simp only[sX]at af;cases e:ω c with
      | bB=>rw[e]at af;cases af
      | tok s q=>rw[e]at af;simp only[hs]at af;split at af<;>cases af
      | box hB=>
       rw[e]at af;simp only[hs]at af;split at af
       ·rename_i fA tc;simp only[c0.box.injEq]at af;subst af;obtain⟨lo,ek,Ym,uC⟩:=FM tc;have:=((tR bD ko).2.2.2 lo ek).1 uC;subst this;exact hu c (by rw[e,<-Ym])
       cases af
     rotate_left
     ·obtain⟨l,aj,cV⟩:=aF j d aB;obtain⟨u,fO,fb⟩:=eV.2 j l aj;rw[Lv aj]at fk;obtain⟨g',lW⟩:=qo.1 fk;obtain⟨rfl,_,k,es,dy,q2⟩:=BM lW;simp only[aD.GV,lW]at cV;rw[dy]at cV;cases cV;have e:jj w (.pointer (some ⟨b,0,none⟩)) j=u:=by simp[jj,bC,eu,fO]
      rw[e];refine (q2 fb).frame fun c q _ aA=>⟨?_,rfl⟩
      simp only[Tag.R]at aA ⊢;simp only[sX,aA,hs]
     obtain⟨l,aj,cV⟩:=aF j d aB;obtain⟨u,fO,fb⟩:=eV.2 j l aj;refine⟨u,fO,fun fk=>?_⟩;rw[Lv aj]at fk;have PN:qa l=none:=by simpa using fk
     simp only[aD.GV,PN]at cV;clear fk PN;cases l with
     | v z=>
      simp only[aD.ju]at cV;split at cV
      ·simp only[aO]at cV;subst cV;have:u=z:=fb;subst this;exact .v _ _ ‹_›
      cases cV
     | cg c=>
      simp only[aD.ju,aO]at cV;subst cV;have:u=.bool c:=fb;subst this;exact .v _ _ rfl
     | J g k es=>
      cases g with
      | free=>cases cV
      | ro s=>cases cV
      | own s=>
       simp only[aD.ju,aO]at cV;subst cV;have hm:=oV _ (Q6 (i:=x) (j0:=0) aj rfl);rw[dq]at hm;have ZJ:=Q0 mh hm;refine fb.1.frame fun c q _ aA=>⟨?_,rfl⟩
       simp only[Tag.R]at aA ⊢;simp only[sX,aA,hs,ZJ]
     | cu=>cases cV
     | ptr=>cases cV
     | ep=>cases cV
     | iC=>cases cV
     | fd=>cases cV
     | gb=>cases cV
     | hq=>cases cV
     | a8=>cases cV
     | fB=>cases cV
    have IC:HA s0.pH vs:=by
     intro x g cO aa;have tC:=FP tu aa;rw[dq]at tC;obtain⟨p,hp,rZ⟩:=cy x _ aa;rw[dq]at rZ;rcases rZ with⟨ev,ids,e1,rfl⟩ | ⟨cn,ls,e1,_⟩ | ⟨id,ls,pre,post,e1,_⟩
     ·simp only[bc.fn.injEq]at e1;obtain⟨rfl,rfl⟩:=e1;have:=lU x g ids tC hp;rw[tC];exact this
     ·cases e1
     cases e1
    have key:dC P f s0.pH h5->(∀v aJ a1 cT,cE w0 (st.xZ s0.ts (10000*(dst.getD 0+1)) s0.refs (h5.de dst) nk h5.pg) a aJ a1 cT->cP (Sat aJ a1 cT) (h5.pq (10000*(dst.getD 0+1)) (h5.de dst)) v->K (a.put dst v) aJ)->
      Oper.wp P o a w K Q:=by
     intro IZ Ik;unfold Oper.wp;rw[fj hZ,<-I0];simp only[Oper.upon];rw[Iz];refine (IZ w _ sX Z6 IC (aT.tidy fun b ao=>by simp only[sX,ao,hs])).mono ?_;rintro e aJ ⟨v,rfl,lz,fx,c1,c2,cH,ez⟩;obtain⟨a1,cT,h1,U⟩:=aT.Yf (10000*(dst.getD 0+1)) (nk:=nk) (ys:=fun i=>vs.getD i undef) bD iM lz fx c1 c2 (fun r az=>by
      obtain⟨x,pre,g1,g2,g3,g4⟩:=bw r az;rw[dq]at g1;obtain⟨y,bn,ai⟩:=gZ x _ g3;obtain⟨b,ao,rfl⟩:=ai;have e:vs.getD r.i undef=ptrTo b:=by rw[g1,eu,bn];rfl
      rw[e];obtain⟨ls,g5,g6⟩:=g4;refine⟨(cH r.i _ pre r.post (ptrTo b) (by rw[g1];exact g2) (by rw[g1];exact bn)).1,⟨b,rfl,ao⟩,by rw[g5];rfl⟩) ez (bG.Ys dV) (fun d aB=>by
      cases h5 with
      | vals rs=>cases aB
      | kf src ds=>
       have aB:dst=some d:=aB;rw[aB]at iM;simp only[jx]at iM;omega) (fun r az j l aP=>by
      obtain⟨x,pre,g1,g2,g3,ls,g5,g6⟩:=bw r az;rw[dq]at g1;obtain⟨y,bn,ai⟩:=gZ x _ g3;obtain⟨b,ao,rfl⟩:=ai;have e:vs.getD r.i undef=ptrTo b:=by rw[g1,eu,bn];rfl
      rw[e];rw[g6]at aP;obtain⟨i1,i2⟩:=ano aP;refine⟨(BM i2).2.1 _ _ _,?_⟩;have fk:stays (lK r.eW) j=true:=by rw[g6,Lv i1,i2];rfl
      rw[(cH r.i _ pre r.post (ptrTo b) (by rw[g1];exact g2) (by rw[g1];exact bn)).2 j fk];obtain⟨c3,arr,ty,di,hu,bC,eV⟩:=aT.boxes _ ls g5;have:=hu b ao;subst this;obtain⟨u,fO,fb⟩:=eV.2 j l i1;have e:jj w (ptrTo b) j=u:=by simp[jj,ptrTo,bC,eu,fO]
      rw[e];exact fb) (fun j l aP=>by
      cases h5 with
      | vals rs=>
       simp only[bG.nk,aO]at wG;subst wG;simp at aP
      | kf src ds=>
       obtain⟨_,i2⟩:=FN wG;obtain⟨x,o',nG,aaN⟩:=i2 j l aP;refine⟨(BM aaN).2.1 _ _ _,?_⟩;obtain⟨y,bn,ai⟩:=gZ x _ nG;have:=ez.2 j x o';rw[bn]at this;rw[<-eQ this];exact ai) (fun src ds e=>by
      subst e;exact (FN wG).1)
     exact Ik v aJ a1 cT h1 U
    cases dst with
    | none=>
     simp only[aO,bx]at h;obtain⟨rfl,_,rfl⟩:=h;exact key aN.1 fun v aJ a1 cT h1 _=>gN _ _ ⟨a1,cT,h1⟩
    | some d=>
     simp only[aO,bx]at h;obtain⟨rfl,_,rfl⟩:=h;exact key aN.1 fun v aJ a1 cT h1 U=>gN _ _ ⟨a1,cT,h1.put U⟩
   cases h
  cases h
 cases h
theorem anp{f:FuncId}{args:Array Operand}{ts:Array TypeId}{type:TypeId}{pos:String}{after:Array Edge}{guard:Option (Nat×Bool)}
  (aT:cE w0 st a w ω τ) (h:Lw P st dst f args.toList ans=some (br,cj,obs)) (aN:c8 obs) {K:Act->World->Prop} {Q:Exit->Act->World->Prop} (gN:∀cF aJ,Rel w0 br cF aJ->K cF aJ):
  Oper.wp P ⟨dst,.call ⟨.value (.func f),args,ts⟩,type,pos,after,guard⟩ a w K Q:=by
 have gZ:∀(x:Nat) (p:aI),(args.toList.map st.bj)[x]?=some p->∃v,(args.map a.eval)[x]?=some v/\cP (Sat w ω τ) p v:=by
  intro x p hp;rw[dG,b2]at hp;obtain⟨o,h1,rfl⟩:=hp;refine⟨a.eval o,?_,aT.bj o⟩;rw[Ap];rw[iX]at h1;rw[h1];rfl
 have fj:hL P f=true->(execOp a.eval ⟨dst,.call ⟨.value (.func f),args,ts⟩,type,pos,after,guard⟩).run P w=.ok (.enter f (args.map a.eval)) w:=by
  intro hZ;unfold hL at hZ;split at hZ
  ·rename_i fn lU;simp only[b8,gy,vV,fM]at hZ;have tk:fn.body≠none:=by intro e;rw[e]at hZ;simp at hZ
   simp[execOp,resolve,Act.eval,Deferred.ofValue,invoke,callFunc,lU,hZ.1,tk]
  cases hZ
 unfold Lw at h;split at h
 ·rename_i g ids uS;rw[nf]at uS;obtain⟨p,hp,tp⟩:=uS;have mi:p=.bd (.one (.hq g ids)):=by
   unfold s9 at tp;split at tp
   ·cases tp;rfl
   cases tp
  subst mi;have wz:0<(args.toList.map st.bj).length:=by
   rcases Nat.eq_zero_or_pos (args.toList.map st.bj).length with bl | bl
   ·rw[x' bl]at hp;simp at hp
   exact bl
  have IW:(args.toList.map st.bj)[args.toList.length-1]?=some (.bd (.one (.hq g ids))):=by
   rw[List.getLast?_eq_getElem?]at hp;simpa using hp
  obtain⟨v,bz,bs,Ir,wq,gp⟩:=gZ _ _ IW;have aK:0<args.size:=by simpa using wz
  refine Ly (n:=args.toList.length) (vs:=args.map a.eval++(bs.map ptrTo).toArray) rfl aT h aN (by simp[wq]) (fun x p aa=>?_) (fun x ev aaI tC aa=>?_) (fun hZ=>?_) gN
  ·rw[l7]at aa;rw[iq];split at aa
   ·rename_i bu;rw[aZ (by simpa using bu)];exact gZ x p aa
   rename_i nz;rw[a6 (by simpa using nz)];rw[dG,b2]at aa;obtain⟨id,gq,rfl⟩:=aa;obtain⟨b,gj,gC⟩:=gp _ id gq;refine⟨ptrTo b,?_,b,gC,rfl⟩;simp only[bk,vX]at gj;simp[gj]
  ·have bu:x<args.size:=by simp at tC;omega
   have yS:x=args.toList.length-1:=by omega
   rw[l7,aZ (by simpa using bu),yS,IW]at aa;simp only[aO,aI.bd.injEq,bS.one.injEq,aD.hq.injEq]at aa;obtain⟨rfl,rfl⟩:=aa;rw[iq,aZ (by simpa using bu),yS,bz,Ir]
   congr 2
   apply Array.ext
   ·simp[wq]
   intro j h1 U;have aP:j<bs.length:=by simpa using h1
   simp[eu,iq,aP];rw[a6 (by omega)];rfl
  have e:(args.map a.eval++(bs.map ptrTo).toArray).extract 0 args.toList.length=args.map a.eval:=by
   apply Array.ext
   ·simp
   intro j h1 U;have aP:j<args.size:=by simpa using U
   simp[Array.getElem_append,aP]
  rw[e];exact fj hZ
 refine Ly (n:=args.toList.length) (vs:=args.map a.eval) rfl aT h aN (by simp) gZ (fun x g ids tC aa=>?_) (fun hZ=>?_) gN
 ·rename_i ht;exfalso;have:(args.toList.map st.bj).getLast?=some (.bd (.one (.hq g ids))):=by
   rw[List.getLast?_eq_getElem?];rw[<-aa]
   congr 1
   simp;simp at tC;omega
  rw[this]at ht;simp[s9]at ht
 have e:(args.map a.eval).extract 0 args.toList.length=args.map a.eval:=by simp
 rw[e];exact fj hZ
theorem anq{y:Nat}{args:Array Operand}{ts:Array TypeId}{type:TypeId}{pos:String}{after:Array Edge}{guard:Option (Nat×Bool)}
  (aT:cE w0 st a w ω τ) (h:Lx P st dst (.tmp y) args.toList ans=some (br,cj,obs)) (aN:c8 obs) {K:Act->World->Prop} {Q:Exit->Act->World->Prop} (gN:∀cF aJ,Rel w0 br cF aJ->K cF aJ):
  Oper.wp P ⟨dst,.call ⟨.value (.tmp y),args,ts⟩,type,pos,after,guard⟩ a w K Q:=by
 have gZ:∀(x:Nat) (p:aI),(args.toList.map st.bj)[x]?=some p->∃v,(args.map a.eval)[x]?=some v/\cP (Sat w ω τ) p v:=by
  intro x p hp;rw[dG,b2]at hp;obtain⟨o,h1,rfl⟩:=hp;refine⟨a.eval o,?_,aT.bj o⟩;rw[Ap];rw[iX]at h1;rw[h1];rfl
 unfold Lx at h;split at h
 ·rename_i g ids tp;have mi:st.bj (.tmp y)=.bd (.one (.hq g ids)):=by
   unfold s9 at tp;split at tp
   ·rename_i e;cases tp;exact e
   cases tp
  have ai:=aT.bj (.tmp y);rw[mi]at ai;obtain⟨bs,Ir,wq,gp⟩:=ai;split at h
  case isFalse=>cases h
  rename_i ht;refine Ly (n:=args.toList.length+ids.length) (vs:=args.map a.eval++(bs.map ptrTo).toArray) rfl aT h aN (by simp[wq]) (fun x p aa=>?_) (fun x ev aaI tC aa=>?_) (fun hZ=>?_) gN
  ·rw[l7]at aa;rw[iq];split at aa
   ·rename_i bu;rw[aZ (by simpa using bu)];exact gZ x p aa
   rename_i nz;rw[a6 (by simpa using nz)];rw[dG,b2]at aa;obtain⟨id,gq,rfl⟩:=aa;obtain⟨b,gj,gC⟩:=gp _ id gq;refine⟨ptrTo b,?_,b,gC,rfl⟩;simp only[bk,vX]at gj;simp[gj]
  ·exfalso;rw[l7]at aa;split at aa
   ·rename_i bu;have:=fW.1 ht _ (fE aa);simp[s9]at this
   rw[dG,b2]at aa;obtain⟨id,_,e⟩:=aa;cases e
  have e:(args.map a.eval++(bs.map ptrTo).toArray).extract 0 (args.toList.length+ids.length)=args.map a.eval++(bs.map ptrTo).toArray:=by
   have e2:args.toList.length+ids.length=(args.map a.eval++(bs.map ptrTo).toArray).size:=by simp[wq]
   rw[e2,Array.extract_size]
  rw[e];unfold hL at hZ;split at hZ
  ·rename_i fn lU;simp only[b8,gy,vV,fM]at hZ;have tk:fn.body≠none:=by intro e;rw[e]at hZ;simp at hZ
   simp[execOp,resolve,Ir,Deferred.ofValue,invoke,callFunc,lU,hZ.1,tk]
  cases hZ
 cases h
