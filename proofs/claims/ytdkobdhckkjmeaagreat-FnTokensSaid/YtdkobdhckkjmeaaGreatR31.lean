import Derived.Test.YtdkobdhckkjmeaaGreatR11
set_option linter.unusedVariables false
set_option linter.unusedSimpArgs false
namespace Go.Sx
open Go.RowKit
inductive RA where
 | ro (a:AD)
 | refp (pn:List Bool) (pre post:List D)
 | fn (g:FuncId) (ks:List Nat)
abbrev RA.ref (pre post : List D) : RA := .refp [] pre post
abbrev RA.cur(pre post:List D):RA:=.refp [true,false,false] pre post
def stays(pn:List Bool)(j:Nat):Bool:=pn.getD j false
def qbm(w:World)(y:Value)(j:Nat):Value:=
 match y with
 | .pointer (some p)=>match w.heap[p.block]? with | some (.cells arr _ _)=>arr.getD j undef | _=>undef
 | _=>undef
def rTok(i j:Nat):Nat:=900000000+(100*i+j)
def bTok(i j:Nat):Nat:=5000+(100*i+j)
def VarAt(w:World)(ω:Own)(i:Nat)(pn:List Bool)(f:Nat→Nat)(ds:List D)(y:Value):Prop:=
 ∃b arr ty,y=ptrTo b∧ω b=.box i∧(∀b',ω b'=.box i→b'=b)∧w.heap[b]?=some (.cells arr ty (0,0))∧arr.size=ds.length∧∀(j:Nat) (d:D),ds[j]?=some d→∃u,arr[j]?=some u∧(stays pn j=false→Rep w ω (Tag.own (f j)).R d u)
def RaOk(w:World)(ω:Own)(i:Nat):RA→Value→Prop
 | .ro (.one d),y=>Rep w ω Tag.free.R d y
 | .ro (.agg ds),y=>∃vs:Array Value,y=.agg vs∧vs.size=ds.length∧∀(j:Nat) (d:D),ds[j]?=some d→∃u,vs[j]?=some u∧Rep w ω Tag.free.R d u
 | .refp pn pre _,y=>VarAt w ω i pn (rTok i) pre y∧∀(j:Nat) (d:D),pre[j]?=some d→stays pn j=true→Rep w ω Tag.free.R d (qbm w y j)
 | .fn _ _,_=>True
def RA.caps:RA→Nat
 | .fn _ ks=>ks.length
 | _=>0
def realN(args:List RA):Nat:=args.length-(args.map RA.caps).sum
def FnsOk(args:List RA)(vs:Array Value):Prop:=∀(i:Nat) (g:FuncId) (ks:List Nat),args[i]?=some (.fn g ks)→vs[i]?=some (.func (.func g) #[] (ks.map fun k=>vs.getD k undef).toArray)
def qiZ(w:World)(ω:Own):Prop:=∀b,ω b≠.imm→∃arr ty,w.heap[b]?=some (.cells arr ty (0,0))
def RasOk(w:World)(ω:Own)(args:List RA)(vs:Array Value):Prop:=qiZ w ω∧(∀b i,ω b=.box i→∃pn pre post,args[i]?=some (.refp pn pre post))∧vs.size=args.length∧∀(i:Nat) (ra:RA),args[i]?=some ra→∃v,vs[i]?=some v∧RaOk w ω i ra v
def srcPn(src:List (Option Nat)):List Bool:=src.map Option.isSome
def RROk(w:World)(ω:Own)(vs:Array Value):RR→Value→Prop
 | .vals rs,v=>qcf w ω rs v
 | .newp src ds,v=>VarAt w ω 49 (srcPn src) (bTok 49) ds v∧∀(j i:Nat),src[j]?=some (some i)→vs[i]?=some (qbm w v j)
def RetR(P:Program)(f:FuncId)(args:List RA)(r:RR):Prop:=
 ∀(w:World) (vs:Array Value) (ω:Own),RasOk w ω args vs→FnsOk args vs→Tidy w ω→Calls P f (vs.extract 0 (realN args)) w fun e w'=>∃v,e=.returned v∧Bel ⟨w,fun b=>ω b≠.imm,fun _=>(0,undef)⟩ w'∧
  ∃ω':Own,(∀b,b<w.heap.size→ω b=.imm→ω' b=.imm)∧qiZ w' ω'∧(∀(i:Nat) (pn:List Bool) (pre post:List D) (y:Value),args[i]?=some (.refp pn pre post)→vs[i]?=some y→VarAt w' ω' i pn (bTok i) post y∧∀j,stays pn j=true→qbm w' y j=qbm w y j)∧RROk w' ω' vs r v
abbrev Toks':=List (Nat×Nat)
def look(t:Nat):List (Nat×Nat)→Option Nat
 | []=>none
 | (s,n)::r=>if s=t then some n else look t r
def qlk(ts:List (Nat×Nat)):Bool:=ts.all fun x=>ts.all fun y=>(x.1==y.1)==(x.2==y.2)
theorem qoO{ts:List (Nat×Nat)}{t n:Nat}(h:qlk ts=true)(hm:(t,n)∈ts):look t ts=some n:=by
 have key:∀l:List (Nat×Nat),(∀x∈l,x∈ts)→(t,n)∈l→look t l=some n:=by
  intro l;induction l with
  | nil=>intro _ h;cases h
  | cons x l ih=>
   intro hs hm;obtain⟨s,m⟩:=x;simp only[look];split
   ·rename_i e;subst e;have h1:=zM.1 (zM.1 h _ (hs _ zm)) _ (by exact ‹(s,n)∈ts›);simp only[zby,zE]at h1;have:(m==n)=true:=by rw[←h1]
    simp only[zE]at this;rw[this]
   ·rename_i hne;rcases zL.1 hm with e | hm
    ·simp only[zd]at e;exact absurd e.1.symm hne
    ·exact ih (fun x hx=>hs x (zg _ hx)) hm
 exact key ts (fun _ h=>h) hm
theorem qvd{ts:List (Nat×Nat)}{t n:Nat}(h:look t ts=some n):(t,n)∈ts:=by
 induction ts with
 | nil=>cases h
 | cons x l ih=>
  obtain⟨s,m⟩:=x;simp only[look]at h;split at h
  ·rename_i e;subst e;rw[zx h];exact zm
  ·exact zg _ (ih h)
def handR(bs ts:List (Nat×Nat)):Owner→Owner
 | .imm=>.imm
 | .box id=>match look id bs with | some i=>.box i | none=>.imm
 | .tok t q=>match look t ts with | some n=>.tok n q | none=>.imm
def Tag.mentT(ts:List (Nat×Nat)):Tag→Bool
 | .free=>false
 | .own t=>(look t ts).isSome
 | .ro t=>(look t ts).isSome
def keepP:Option Nat→Nat→Bool
 | none=>fun _=>true
 | some d=>qbB d
def qf3(ts:List (Nat×Nat))(t0:Nat)(g:Tag):Option Tag:=if g.mentT ts then none else qa2 t0 g
abbrev refLeaf(ts:List (Nat×Nat))(t0:Nat)(dn:Option Nat)(l:Leaf):Leaf:=l.re (qf3 ts t0) (keepP dn)
structure RF where
 i:Nat
 id:Nat
 post:List D
 keep:List (Option Leaf)
def qbM(ks:List (Option Leaf)):List Bool:=ks.map Option.isSome
def pinL:List (Option Leaf)→List Leaf→List Leaf
 | [],ls=>ls
 | _,[]=>[]
 | some l::ks,_::ls=>l::pinL ks ls
 | none::ks,l::ls=>l::pinL ks ls
theorem qi0:∀(ks:List (Option Leaf)) (ls:List Leaf),(pinL ks ls).length=ls.length
 | [],ls=>rfl
 | _::_,[]=>by simp[pinL]
 | some l::ks,_::ls=>by simp[pinL,qi0 ks ls]
 | none::ks,_::ls=>by simp[pinL,qi0 ks ls]
theorem qll:∀(ks:List (Option Leaf)) (ls:List Leaf) (j:Nat) (l:Leaf),(pinL ks ls)[j]?=some l→(ks[j]?=some (some l)∧stays (qbM ks) j=true)∨(ls[j]?=some l∧stays (qbM ks) j=false)
 | [],ls,j,l,h=>.inr ⟨h,by simp[stays,qbM]⟩
 | _::_,[],j,l,h=>by simp[pinL]at h
 | some k::ks,x::ls,0,l,h=>by simp only[pinL,zag,za]at h;subst h;exact .inl ⟨rfl,rfl⟩
 | none::ks,x::ls,0,l,h=>by simp only[pinL,zag]at h;exact .inr ⟨h,rfl⟩
 | some k::ks,x::ls,j+1,l,h=>by
  have:=qll ks ls j l (by simpa[pinL]using h);simpa[stays,qbM]using this
 | none::ks,x::ls,j+1,l,h=>by
  have:=qll ks ls j l (by simpa[pinL]using h);simpa[stays,qbM]using this
def qeQ(t0:Nat):List RF→List (Nat×List Leaf)→List (Nat×List Leaf)
 | [],bs=>bs
 | r::rs,bs=>qeQ t0 rs (qc1 r.id (pinL r.keep (qcu (t0+bTok r.i 0) 0 r.post)) bs)
def qoP(t0:Nat)(dn:Option Nat)(nk:List (Option Leaf))(ds:List D)(bs:List (Nat×List Leaf)):List (Nat×List Leaf):=
 match dn with
 | some d=>(d,pinL nk (qcu (t0+bTok 49 0) 0 ds))::qcN d bs
 | none=>bs
def St.refd(st:St)(ts:List (Nat×Nat))(t0:Nat)(refs:List RF)(dn:Option Nat)(nk:List (Option Leaf))(ds:List D):St:=
 ⟨st.env.map (PV.map (refLeaf ts t0 dn)),qoP t0 dn nk ds (qeQ t0 refs (st.boxes.map fun x=>(x.1,x.2.map (refLeaf ts t0 dn))))⟩
def oldR(t0:Nat)(dn:Option Nat):Owner→Owner
 | .tok s q=>if t0≤s∧s<t0+10000 then .imm else .tok s q
 | .box id=>if keepP dn id then .box id else .imm
 | .imm=>.imm
def idOf(i:Nat)(dn:Option Nat):List RF→Option Nat
 | []=>if i=49 then dn else none
 | r::rs=>if r.i=i then some r.id else idOf i dn rs
def backR(t0:Nat)(refs:List RF)(dn:Option Nat):Owner→Owner
 | .tok s q=>if s<10000 then .tok (t0+s) q else .imm
 | .box i=>match idOf i dn refs with | some id=>.box id | none=>.imm
 | .imm=>.imm
def D.slK:D→Nat
 | .sl k _=>k
 | _=>0
def qeR(i:Nat)(ds:List D):List RF→List D
 | []=>ds
 | r::rs=>if r.i=i then r.post else qeR i ds rs
def refBs(refs:List RF):List (Nat×Nat):=refs.map fun r=>(r.id,r.i)
def qf4:List RF→Option Nat→Bool
 | [],_=>true
 | x::r,dn=>decide (x.i<49)&&decide (x.post.length<100)&&decide (dn≠some x.id)&&r.all (fun y=>x.i != y.i&&x.id != y.id)&&qf4 r dn
theorem qlm{t0 id:Nat}:∀{refs:List RF} {bs:List (Nat×List Leaf)},(∀r∈refs,r.id≠id)→qap id (qeQ t0 refs bs)=qap id bs
 | [],bs,_=>rfl
 | r::rs,bs,h=>by
  simp only[qeQ];rw[qlm fun x hx=>h x (zg _ hx),qfZ (Ne.symm (h r zm))]
theorem qve{id id':Nat}{ls:List Leaf}:∀{bs:List (Nat×List Leaf)},(qap id bs).isSome=true→(qap id (qc1 id' ls bs)).isSome=true:=by
 intro bs h;by_cases e:id=id'
 ·subst e;obtain⟨x,hx⟩:=zaj.1 h;rw[qfY hx];rfl
 ·rw[qfZ e];exact h
theorem qoQ{t0:Nat}:∀{refs:List RF} {bs:List (Nat×List Leaf)} {r:RF},r∈refs→(∀x∈refs,x.id=r.id→x=r)→(qap r.id bs).isSome=true→qap r.id (qeQ t0 refs bs)=some (pinL r.keep (qcu (t0+bTok r.i 0) 0 r.post))
 | [],_,_,h,_,_=>by cases h
 | x::rs,bs,r,h,hu,hs=>by
  simp only[qeQ];by_cases hm:r∈rs
  ·exact qoQ hm (fun y hy=>hu y (zg _ hy)) (qve hs)
  ·rcases zL.1 h with e | h
   ·subst e;obtain⟨l,hl⟩:=zaj.1 hs;rw[qlm,qfY hl];intro y hy e;have:=hu y (zg _ hy) e;subst this;exact hm hy
   ·exact absurd h hm
theorem qdK{dn:Option Nat}:∀{refs:List RF},qf4 refs dn=true→∀{x:RF},x∈refs→x.i<49∧x.post.length<100∧dn≠some x.id∧∀y∈refs,(y.i=x.i→y=x)∧(y.id=x.id→y=x)
 | [],_,x,hx=>by cases hx
 | z::r,h,x,hx=>by
  simp only[qf4,zj,zi,zM,bne_iff_ne,zcc]at h;obtain⟨⟨⟨⟨h1,h2⟩,h3⟩,h4⟩,h5⟩:=h;rcases zL.1 hx with e | hx'
  ·subst e;refine⟨h1,h2,h3,fun y hy=>?_⟩;rcases zL.1 hy with e | hy
   ·exact⟨fun _=>e,fun _=>e⟩
   ·exact⟨fun e=>absurd e.symm (h4 y hy).1,fun e=>absurd e.symm (h4 y hy).2⟩
  ·obtain⟨k1,k2,k3,k4⟩:=qdK h5 hx';refine⟨k1,k2,k3,fun y hy=>?_⟩;rcases zL.1 hy with e | hy
   ·subst e;exact⟨fun e=>absurd e (h4 x hx').1,fun e=>absurd e (h4 x hx').2⟩
   ·exact k4 y hy
theorem qln{dn:Option Nat}:∀{refs:List RF} {r:RF},r∈refs→(∀y∈refs,y.i=r.i→y.id=r.id)→idOf r.i dn refs=some r.id
 | [],_,h,_=>by cases h
 | x::rs,r,h,hu=>by
  simp only[idOf];split
  ·rename_i e;rw[hu x zm e]
  ·rename_i e;rcases zL.1 h with e1 | h
   ·subst e1;exact absurd rfl e
   ·exact qln h fun y hy=>hu y (zg _ hy)
theorem qf5{dn:Option Nat}{i id:Nat}:∀{refs:List RF},idOf i dn refs=some id→(∃r∈refs,r.i=i∧r.id=id)∨(i=49∧dn=some id)
 | [],h=>by
  simp only[idOf]at h;split at h
  ·exact .inr ⟨‹_›,h⟩
  ·cases h
 | x::rs,h=>by
  simp only[idOf]at h;split at h
  ·rename_i e;exact .inl ⟨x,zm,e,zx h⟩
  ·rcases qf5 h with⟨r,hr,h1⟩ | h1
   ·exact .inl ⟨r,zg _ hr,h1⟩
   ·exact .inr h1
theorem qlo{dn:Option Nat}:∀{refs:List RF},(∀r∈refs,r.i<49)→idOf 49 dn refs=dn
 | [],_=>by simp[idOf]
 | x::rs,h=>by
  simp only[idOf];rw[zo (by have:=h x zm;omega)];exact qlo fun r hr=>h r (zg _ hr)
theorem qoR{ds:List D}:∀{refs:List RF} {r:RF},r∈refs→(∀y∈refs,y.i=r.i→y=r)→qeR r.i ds refs=r.post
 | [],_,h,_=>by cases h
 | x::rs,r,h,hu=>by
  simp only[qeR];split
  ·rename_i e;rw[hu x zm e]
  ·rename_i e;rcases zL.1 h with e1 | h
   ·subst e1;exact absurd rfl e
   ·exact qoR h fun y hy=>hu y (zg _ hy)
theorem qlp{ds:List D}:∀{refs:List RF},(∀r∈refs,r.i<49)→qeR 49 ds refs=ds
 | [],_=>rfl
 | x::rs,h=>by
  simp only[qeR];rw[zo (by have:=h x zm;omega)];exact qlp fun r hr=>h r (zg _ hr)
theorem qoS{refs:List RF}{dn:Option Nat}(h:qf4 refs dn=true){r:RF}(hr:r∈refs):look r.id (refBs refs)=some r.i:=by
 refine qoO ?_ (zbm.2 ⟨r,hr,rfl⟩);unfold qlk;rw[zM];intro x hx;rw[zM];intro y hy;obtain⟨rx,hrx,rfl⟩:=zbm.1 hx;obtain⟨ry,hry,rfl⟩:=zbm.1 hy;have:=(qdK h hrx).2.2.2 ry hry;simp only[zE];by_cases e:ry=rx
 ·subst e;simp
 ·have e1:¬rx.id=ry.id:=fun e1=>e (this.2 e1.symm)
  have e2:¬rx.i=ry.i:=fun e2=>e (this.1 e2.symm)
  rw[zbq.2 e1,zbq.2 e2]
theorem qi1{refs:List RF}{id i:Nat}(h:look id (refBs refs)=some i):∃r∈refs,r.id=id∧r.i=i:=by
 obtain⟨r,hr,e⟩:=zbm.1 (qvd h);simp only[zd]at e;exact⟨r,hr,e.1,e.2⟩
def qlq(rs:List AD):Bool:=decide (rs.length<50)&&rs.all fun | .one _=>true | .agg ds=>ds.length<100
def RR.fits(dn:Option Nat)(nds:List D):RR→Prop
 | .vals rs=>dn=none∧qlq rs=true
 | .newp _ ds=>dn.isSome=true∧nds=ds∧ds.length<100
def RR.hdr(v:Value)(n:Nat):RR→Nat×Value
 | .vals rs=>(hdrK rs n,hdrV rs v n)
 | .newp _ _=>(0,undef)
def RR.pv(t0:Nat)(dn:Option Nat):RR→PV
 | .vals rs=>resPV t0 rs
 | .newp _ _=>.one (.ptr (dn.getD 0) 0)
theorem RelAt.calledR{w0:Base}{st:St}{a:Act}{w w':World}{ω:Own}{τ:Nat→Nat×Value}(hrel:RelAt w0 st a w ω τ)(t0:Nat){refs:List RF}{ts:List (Nat×Nat)}{dn:Option Nat}{nk:List (Option Leaf)}{nds:List D}{rr:RR}{v:Value}{vs:Array Value}{ys:Nat→Value}{H:Nat→Nat×Value}
  (hok:qf4 refs dn=true) (htg:t0+10000≤giv) (hb:Bel ⟨w,fun b=>handR (refBs refs) ts (ω b)≠.imm,H⟩ w') (ωc:Own)
  (hc1:∀b,b<w.heap.size→handR (refBs refs) ts (ω b)=.imm→ωc b=.imm) (hc2:qiZ w' ωc)
  (hrefs:∀r∈refs,VarAt w' ωc r.i (qbM r.keep) (bTok r.i) r.post (ys r.i)∧(∃b,ys r.i=ptrTo b∧ω b=.box r.id)∧(qap r.id st.boxes).isSome=true) (hres:RROk w' ωc vs rr v) (hrr:rr.fits dn nds) (hdg:∀d,dn=some d→d<giv)
  (hkeep:∀r∈refs,∀(j:Nat) (l:Leaf),r.keep[j]?=some (some l)→refLeaf ts t0 dn l=l∧Sat w ω τ l (qbm w' (ys r.i) j)) (hnk:∀(j:Nat) (l:Leaf),nk[j]?=some (some l)→refLeaf ts t0 dn l=l∧Sat w ω τ l (qbm w' v j))
  (hnkp:∀src ds,rr=.newp src ds→srcPn src=qbM nk):
  ∃ω' τ',RelAt w0 (st.refd ts t0 refs dn nk nds) a w' ω' τ'∧SatP (Sat w' ω' τ') (rr.pv t0 dn) v:=by
 classical
 let ω':Own:=fun b=>if b<w.heap.size∧handR (refBs refs) ts (ω b)=.imm then oldR t0 dn (ω b) else backR t0 refs dn (ωc b)
 let hd:Nat→Nat×Value:=fun n=>if n<5000 then rr.hdr v n else
  ((((qeR ((n-5000) / 100) nds refs)[(n-5000) % 100]?).map D.slK).getD 0,qbm w' (if (n-5000) / 100=49 then v else ys ((n-5000) / 100)) ((n-5000) % 100))
 let τ':Nat→Nat×Value:=fun s=>if t0≤s∧s<t0+10000 then hd (s-t0) else τ s
 have hi49:∀r∈refs,r.i<49:=fun r hr=>(qdK hok hr).1
 have hold:∀b,b<w.heap.size→handR (refBs refs) ts (ω b)=.imm→ω' b=oldR t0 dn (ω b):=fun b h1 h2=>by simp only[ω'];rw[zp ⟨h1,h2⟩]
 have hnew:∀b,ωc b≠.imm→ω' b=backR t0 refs dn (ωc b):=fun b h=>by
  simp only[ω'];rw[zo];rintro⟨h1,h2⟩;exact h (hc1 b h1 h2)
 have hblk:∀b,b<w.heap.size→handR (refBs refs) ts (ω b)=.imm→w'.heap[b]?=w.heap[b]?:=fun b h1 h2=>hb.block b h1 (fun hn=>hn h2)
 have huniq:∀r∈refs,∀b,ω b=.box r.id→ωc b=.box r.i∧ys r.i=ptrTo b:=by
  intro r hr b hbx;obtain⟨⟨b1,arr,ty,h1,h2,_⟩,⟨b2,h3,h4⟩,h5⟩:=hrefs r hr;obtain⟨ls,hls⟩:=zaj.1 h5;obtain⟨b3,_,_,_,hu,_⟩:=hrel.boxes r.id ls hls;have e1:=hu b hbx;have e2:=hu b2 h4;have e3:b2=b:=by rw[e1,e2]
  subst e3;rw[h3]at h1;simp only[ptrTo,Value.pointer.injEq,za,Addr.mk.injEq]at h1;obtain⟨rfl,_⟩:=h1;exact⟨h2,h3⟩
 have kbox:∀id b,keepP dn id=true→ω b=.box id→ω' b=.box id:=by
  intro id b hp hbx;have hlt:=hrel.owned.lt (b:=b) (by simp[hbx]);cases e:look id (refBs refs) with
  | none=>
   have hi:handR (refBs refs) ts (ω b)=.imm:=by rw[hbx];simp only[handR,e]
   rw[hold b hlt hi,hbx];simp only[oldR,hp,zbb]
  | some i=>
   obtain⟨r,hr,rfl,rfl⟩:=qi1 e;obtain⟨h1,_⟩:=huniq r hr b hbx;rw[hnew b (by rw[h1];simp),h1];simp only[backR];rw[qln hr fun y hy e=>by rw[((qdK hok hr).2.2.2 y hy).1 e]]
 have ev:Evolve w ω τ w' ω' τ' (qf3 ts t0) (keepP dn):=by
  refine⟨?_,?_,fun id b hp h=>kbox id b hp h,?_,fun s hs=>by simp only[τ'];rw[zo (by omega)]⟩
  ·intro g g' b q hg hlt hq;unfold qf3 at hg;split at hg
   ·cases hg
   ·rename_i hm;simp only[zbt]at hm;have hi:handR (refBs refs) ts (ω b)=.imm:=by
     cases g with
     | free=>simp only[Tag.R]at hq;rw[hq];rfl
     | own s=>
      simp only[Tag.R]at hq;simp only[Tag.mentT,zca,zcd]at hm;rw[hq];simp only[handR,hm]
     | ro s=>
      simp only[Tag.mentT,zca,zcd]at hm;rcases hq with h | ⟨q',h⟩
      ·rw[h];rfl
      ·rw[h];simp only[handR,hm]
    refine⟨?_,hblk b hlt hi⟩;rw[hold b hlt hi];cases g with
    | free=>simp only[qa2,za]at hg;subst hg;simp only[Tag.R]at hq ⊢;rw[hq];rfl
    | own s=>
     simp only[Tag.R]at hq;simp only[qa2]at hg;rw[hq];simp only[oldR];split at hg
     ·simp only[za]at hg;subst hg;rw[zp ‹_›];rfl
     ·simp only[za]at hg;subst hg;rw[zo ‹_›];rfl
    | ro s=>
     simp only[Tag.R]at hq;simp only[qa2]at hg;split at hg
     ·simp only[za]at hg;subst hg;rcases hq with h | ⟨q',h⟩
      ·rw[h];rfl
      ·rw[h];simp only[oldR];rw[zp ‹_›];rfl
     ·simp only[za]at hg;subst hg;rcases hq with h | ⟨q',h⟩
      ·rw[h];exact .inl rfl
      ·rw[h];simp only[oldR];rw[zo ‹_›];exact .inr ⟨q',rfl⟩
  ·intro g g' y hg hy;unfold qf3 at hg;split at hg
   ·cases hg
   ·cases g with
    | free=>simp only[qa2,za]at hg;subst hg;exact trivial
    | own s=>
     simp only[qa2]at hg;split at hg
     ·simp only[za]at hg;subst hg;exact trivial
     ·simp only[za]at hg;subst hg;simp only[Tag.hdr,τ']at hy ⊢;rw[zo ‹_›];exact hy
    | ro s=>
     simp only[qa2]at hg;split at hg
     ·simp only[za]at hg;subst hg;exact trivial
     ·simp only[za]at hg;subst hg;exact trivial
  ·rfl
 have cell:∀(n:Nat) (d:D) (u:Value),n<10000→hd n=(d.slK,u)→Rep w' ωc (Tag.own n).R d u→Sat w' ω' τ' (d.resLeaf (t0+n)) u:=by
  intro n d u hn hv hr;cases d with
  | v x=>
   have e:u=x:=by cases hr;rfl
   subst e;unfold D.resLeaf;split
   ·rename_i h;cases h;exact rfl
   ·rename_i h;cases h;exact rfl
   ·rename_i h;cases h
   ·exact trivial
   ·exact trivial
  | ptr ds=>exact trivial
  | cl g caps=>exact trivial
  | sl k es=>
   refine⟨hr.frame fun b q hlt hq=>⟨?_,rfl⟩,?_⟩
   ·simp only[Tag.R]at hq ⊢;rw[hnew b (by rw[hq];simp),hq];simp only[backR];rw[zp hn]
   ·simp only[Tag.hdr,τ'];rw[zp (by omega),show t0+n-t0=n by omega,hv];rfl
 have var:∀(i:Nat) (post:List D) (y:Value) (id:Nat) (ks:List (Option Leaf)),i<50→post.length<100→qeR i nds refs=post→(if i=49 then v else ys i)=y→VarAt w' ωc i (qbM ks) (bTok i) post y→idOf i dn refs=some id→(∀(j:Nat) (l:Leaf),ks[j]?=some (some l)→refLeaf ts t0 dn l=l∧Sat w ω τ l (qbm w' y j))→
   (∀b' i',idOf i' dn refs=some id→ωc b'=.box i'→i'=i)→(∀b',ω b'=.box id→keepP dn id=true→¬handR (refBs refs) ts (ω b')=.imm)→BoxOk w' ω' τ' id (pinL ks (qcu (t0+bTok i 0) 0 post))∧∃b,y=ptrTo b∧ω' b=.box id:=by
  rintro i post y id ks hi hpl hpo hy ⟨b,arr,ty,rfl,h2,h3,h4,h5,h6⟩ hid hks hinj hno;have hb':ω' b=.box id:=by
   rw[hnew b (by rw[h2];simp),h2];simp only[backR,hid]
  refine⟨⟨b,arr,ty,hb',fun b' hbx=>?_,h4,by rw[qi0,qf1];exact h5,fun j l hl=>?_⟩,b,rfl,hb'⟩
  ·by_cases hc:b'<w.heap.size∧handR (refBs refs) ts (ω b')=.imm
   ·rw[hold b' hc.1 hc.2]at hbx;cases e:ω b' with
    | imm=>rw[e]at hbx;cases hbx
    | tok s q=>rw[e]at hbx;simp only[oldR]at hbx;split at hbx<;>cases hbx
    | box id'=>
     rw[e]at hbx;simp only[oldR]at hbx;split at hbx
     ·simp only[Owner.box.injEq]at hbx;subst hbx;exact absurd hc.2 (hno b' e ‹_›)
     ·cases hbx
   ·have hbx2:backR t0 refs dn (ωc b')=.box id:=by
     simp only[ω']at hbx;rwa[zo hc]at hbx
    cases e:ωc b' with
    | imm=>rw[e]at hbx2;cases hbx2
    | tok s q=>rw[e]at hbx2;simp only[backR]at hbx2;split at hbx2<;>cases hbx2
    | box i'=>
     rw[e]at hbx2;simp only[backR]at hbx2;split at hbx2
     ·rename_i id' e2;simp only[Owner.box.injEq]at hbx2;subst hbx2;have:=hinj b' i' e2 e;subst this;exact h3 b' e
     ·cases hbx2
  ·have hjl:j<(pinL ks (qcu (t0+bTok i 0) 0 post)).length:=(zk.1 hl).1;rw[qi0,qf1]at hjl;rcases qll ks _ j l hl with⟨hl,_⟩ | ⟨hl,hnp⟩
   ·obtain⟨u,hu,_⟩:=h6 j _ (zu hjl);obtain⟨g1,g2⟩:=hks j l hl;refine⟨u,hu,?_⟩;have e:qbm w' (ptrTo b) j=u:=by simp[qbm,ptrTo,h4,zl,hu]
    rw[e]at g2;have:=ev.sat l u g2;rwa[show l.re (qf3 ts t0) (keepP dn)=l from g1]at this
   rw[qg8,zc]at hl;obtain⟨d,hd',rfl⟩:=hl;obtain⟨u,hu,hr⟩:=h6 j d hd';replace hr:=hr hnp;have hj:j<100:=by
    have:=(zk.1 hd').1;omega
   refine⟨u,hu,?_⟩;have:=cell (bTok i j) d u (by simp only[bTok];omega) (by
    have e1:(bTok i j-5000) / 100=i:=by simp only[bTok];omega
    have e2:(bTok i j-5000) % 100=j:=by simp only[bTok];omega
    simp only[hd];rw[zo (by simp only[bTok];omega),e1,e2,hpo,hd',hy];simp[qbm,ptrTo,h4,zl,hu]) hr
   rw[show t0+bTok i 0+(0+j)=t0+bTok i j by simp only[bTok];omega];exact this
 have hrefbox:∀r∈refs,BoxOk w' ω' τ' r.id (pinL r.keep (qcu (t0+bTok r.i 0) 0 r.post)):=by
  intro r hr;obtain⟨h1,h2,h3,h4⟩:=qdK hok hr;refine (var r.i r.post (ys r.i) r.id r.keep (by omega) h2 (qoR hr fun y hy e=>(h4 y hy).1 e) (by rw[zo (by omega)]) (hrefs r hr).1 (qln hr fun y hy e=>by rw[(h4 y hy).1 e]) (hkeep r hr) (fun b' i' e _=>?_) (fun b' e _=>?_)).1
  ·rcases qf5 e with⟨y,hy,e1,e2⟩ | ⟨_,e2⟩
   ·rw[←e1,(h4 y hy).2 e2]
   ·exact absurd e2 h3
  ·rw[e];simp only[handR,qoS hok hr];simp
 have hbox:∀id ls,qap id (st.refd ts t0 refs dn nk nds).boxes=some ls→BoxOk w' ω' τ' id ls:=by
  intro id ls hl;have rest:∀id ls,dn≠some id→qap id (qeQ t0 refs (st.boxes.map fun x=>(x.1,x.2.map (refLeaf ts t0 dn))))=some ls→BoxOk w' ω' τ' id ls:=by
   intro id ls hdn hl;by_cases hr:∃r∈refs,r.id=id
   ·obtain⟨r,hr,rfl⟩:=hr;rw[qoQ hr (fun y hy e=>((qdK hok hr).2.2.2 y hy).2 e) (by
     rw[qdH];obtain⟨l,hl⟩:=zaj.1 (hrefs r hr).2.2;rw[hl];rfl)]at hl
    rw[←zx hl];exact hrefbox r hr
   ·have hr':∀r∈refs,r.id≠id:=fun r h1 h2=>hr ⟨r,h1,h2⟩
    rw[qlm hr',qdH,zc]at hl;obtain⟨ls0,h0,rfl⟩:=hl;obtain⟨b,arr,ty,h1,h2,h3,h4⟩:=hrel.boxes id ls0 h0;have hp:keepP dn id=true:=by
     unfold keepP;split
     ·rfl
     ·simp only[qbB,zi];intro e;subst e;exact hdn rfl
    have hlt:=hrel.owned.lt (b:=b) (by simp[h1]);have hlk:look id (refBs refs)=none:=by
     cases e:look id (refBs refs) with
     | none=>rfl
     | some i=>
      obtain⟨r,hr2,e1,_⟩:=qi1 e;exact absurd e1 (hr' r hr2)
    have hi:handR (refBs refs) ts (ω b)=.imm:=by rw[h1];simp only[handR,hlk]
    refine⟨b,arr,ty,kbox id b hp h1,fun b' hbx=>?_,(hblk b hlt hi).trans h3,h4.map ev.sat⟩;by_cases hc:b'<w.heap.size∧handR (refBs refs) ts (ω b')=.imm
    ·rw[hold b' hc.1 hc.2]at hbx;cases e:ω b' with
     | imm=>rw[e]at hbx;cases hbx
     | tok s q=>rw[e]at hbx;simp only[oldR]at hbx;split at hbx<;>cases hbx
     | box id'=>
      rw[e]at hbx;simp only[oldR]at hbx;split at hbx
      ·simp only[Owner.box.injEq]at hbx;subst hbx;exact h2 b' e
      ·cases hbx
    ·have hbx2:backR t0 refs dn (ωc b')=.box id:=by
      simp only[ω']at hbx;rwa[zo hc]at hbx
     cases e:ωc b' with
     | imm=>rw[e]at hbx2;cases hbx2
     | tok s q=>rw[e]at hbx2;simp only[backR]at hbx2;split at hbx2<;>cases hbx2
     | box i'=>
      rw[e]at hbx2;simp only[backR]at hbx2;split at hbx2
      ·rename_i id' e2;simp only[Owner.box.injEq]at hbx2;subst hbx2;rcases qf5 e2 with⟨r,h5,_,h6⟩ | ⟨_,h6⟩
       ·exact absurd h6 (hr' r h5)
       ·exact absurd h6 hdn
      ·cases hbx2
  simp only[St.refd,qoP]at hl;cases dn with
  | none=>exact rest id ls (by simp) hl
  | some d=>
   simp only[qap]at hl;by_cases hd:d=id
   ·subst hd;rw[zp rfl]at hl;rw[←zx hl];cases rr with
    | vals rs=>exact absurd hrr.1 (by simp)
    | newp src ds=>
     obtain⟨_,rfl,hlen⟩:=hrr;obtain⟨hres,_⟩:=hres;rw[hnkp _ _ rfl]at hres;refine (var 49 nds v d nk (by omega) hlen (qlp hi49) (zp rfl) hres (qlo hi49) hnk (fun b' i' e _=>?_) (fun b' _ e=>?_)).1
     ·rcases qf5 e with⟨y,hy,_,e2⟩ | ⟨e2,_⟩
      ·exact absurd (by rw[e2]) (qdK hok hy).2.2.1
      ·exact e2
     ·simp[keepP,qbB]at e
   ·rw[zo hd,qfT (fun e=>hd e.symm)]at hl;exact rest id ls (by simpa using hd) hl
 refine⟨ω',τ',⟨hrel.defers,by simp[St.refd,hrel.size],?_,?_,fun s hs=>?_,fun id b hi hbx=>?_,?_,hbox⟩,?_⟩
 ·refine⟨hb.os.trans hrel.below.os,hb.tape.trans hrel.below.tape,hb.output.trans hrel.below.output,zce hrel.below.size hb.size,fun b hlt hg=>?_,fun hs=>zce (hrel.below.drawn hs) (hb.drawn hs),hb.laid,hrel.below.free⟩;have hlt2:b<w.heap.size:=zbz hlt hrel.below.size;have himm:ω b=.imm:=by
   cases e:ω b with
   | imm=>rfl
   | box id=>exact absurd (hrel.owned b (by simp[e])).1 (fun h=>h.elim (fun h=>by omega) hg)
   | tok s q=>exact absurd (hrel.owned b (by simp[e])).1 (fun h=>h.elim (fun h=>by omega) hg)
  exact (hblk b hlt2 (by rw[himm];rfl)).trans (hrel.below.block b hlt hg)
 ·intro b hbi;by_cases hc:b<w.heap.size∧handR (refBs refs) ts (ω b)=.imm
  ·rw[hold b hc.1 hc.2]at hbi;have h2:ω b≠.imm:=fun e=>by rw[e]at hbi;exact hbi rfl
   obtain⟨h3,arr,ty,h4⟩:=hrel.owned b h2;exact⟨h3,arr,ty,(hblk b hc.1 hc.2).trans h4⟩
  ·have h2:ωc b≠.imm:=fun e=>by
    simp only[ω']at hbi;rw[zo hc,e]at hbi;exact hbi rfl
   obtain⟨arr,ty,h4⟩:=hc2 b h2;refine⟨?_,arr,ty,h4⟩;by_cases hlt:b<w.heap.size
   ·have h5:ω b≠.imm:=fun e=>hc ⟨hlt,by rw[e];rfl⟩
    exact (hrel.owned b h5).1
   ·exact .inl (by have:=hrel.below.size;omega)
 ·have:τ' s=τ s:=by simp only[τ'];rw[zo (by omega)]
  rw[this];exact hrel.fixed s hs
 ·by_cases hc:b<w.heap.size∧handR (refBs refs) ts (ω b)=.imm
  ·rw[hold b hc.1 hc.2]at hbx;cases e:ω b with
   | imm=>rw[e]at hbx;cases hbx
   | tok s q=>rw[e]at hbx;simp only[oldR]at hbx;split at hbx<;>cases hbx
   | box id'=>
    rw[e]at hbx;simp only[oldR]at hbx;split at hbx
    ·simp only[Owner.box.injEq]at hbx;subst hbx;exact hrel.pinned id' b hi e
    ·cases hbx
  ·have hbx2:backR t0 refs dn (ωc b)=.box id:=by
    simp only[ω']at hbx;rwa[zo hc]at hbx
   cases e:ωc b with
   | imm=>rw[e]at hbx2;cases hbx2
   | tok s q=>rw[e]at hbx2;simp only[backR]at hbx2;split at hbx2<;>cases hbx2
   | box i'=>
    rw[e]at hbx2;simp only[backR]at hbx2;split at hbx2
    ·rename_i id' e2;simp only[Owner.box.injEq]at hbx2;subst hbx2;rcases qf5 e2 with⟨r,h5,rfl,rfl⟩ | ⟨_,h6⟩
     ·obtain⟨⟨b1,arr,ty,g1,g2,g3,_⟩,⟨b2,g4,g5⟩,_⟩:=hrefs r h5;have e3:=g3 b e;rw[g4]at g1;simp only[ptrTo,Value.pointer.injEq,za,Addr.mk.injEq]at g1;rw[e3,←g1.1];exact hrel.pinned r.id b2 hi g5
     ·have:=hdg _ h6;omega
    ·cases hbx2
 ·intro i q hq;simp only[St.refd]at hq;rw[zr,zc]at hq;obtain⟨q0,h0,rfl⟩:=hq;obtain⟨u,h1,h2⟩:=hrel.env i q0 h0;exact⟨u,h1,SatP.map ev.sat h2⟩
 ·cases rr with
  | newp src ds=>
   obtain⟨hdn,rfl,hlen⟩:=hrr;obtain⟨d,rfl⟩:=zaj.1 hdn;obtain⟨hres,_⟩:=hres;rw[hnkp _ _ rfl]at hres;obtain⟨b,h1,h2⟩:=(var 49 nds v d nk (by omega) hlen (qlp hi49) (zp rfl) hres (qlo hi49) hnk (fun b' i' e _=>by
    rcases qf5 e with⟨y,hy,_,e2⟩ | ⟨e2,_⟩
    ·exact absurd (by rw[e2]) (qdK hok hy).2.2.1
    ·exact e2) (fun b' _ e=>by simp[keepP,qbB]at e)).2
   exact⟨b,h2,h1⟩
  | vals rs=>
   obtain⟨rfl,hfit⟩:=hrr;simp only[qlq,zj,zi]at hfit;have hds:∀(r:Nat) (ad:AD),rs[r]?=some ad→∀ds,ad=.agg ds→ds.length<100:=by
    intro r ad hr ds e;have:=zM.1 hfit.2 ad (zw hr);subst e;simpa using this
   have cellA:∀(r:Nat) (ad:AD) (y:Value),r<50→(∀ds,ad=.agg ds→ds.length<100)→rs[r]?=some ad→(∀j,j<100→hdrV rs v (100*r+j)=y.cells.getD j undef)→qb4 w' ωc r ad y→SatA (Sat w' ω' τ') (ad.res (t0+100*r)) y:=by
    intro r ad y hr hds hrs hv hcr;have hkk:∀j,j<100→hdrK rs (100*r+j)=(match AD.cell j ad with | some (.sl k _)=>k | _=>0):=by
     intro j hj;unfold hdrK;rw[show (100*r+j) / 100=r by omega,show (100*r+j) % 100=j by omega,hrs];rfl
    have hslk:∀d:D,(match some d with | some (.sl k _)=>k | _=>0)=d.slK:=fun d=>by cases d<;>rfl
    cases ad with
    | one d=>
     have h1:=hcr.oneCell;have h2:=hv 0 (by omega);rw[qg4 h1]at h2;have:=cell (100*r) d y (by omega) (by
      simp only[hd,RR.hdr];rw[zp (by omega)];have h3:=hkk 0 (by omega);rw[zbj]at h2 h3;rw[h3,h2];simp only[AD.cell,zbb];rw[hslk];rfl) hcr
     exact this
    | agg ds=>
     obtain⟨vs,rfl,hn,hj⟩:=hcr;refine⟨vs,rfl,by rw[qf1];exact hn,fun j l hl=>?_⟩;rw[qg8,zc]at hl;obtain⟨d,hd',rfl⟩:=hl;obtain⟨u,hu,hru⟩:=hj j d hd';have hjl:j<100:=by
      have:=(zk.1 hd').1;have:=hds ds rfl;omega
     refine⟨u,hu,?_⟩;have:=cell (100*r+j) d u (by omega) (by
      simp only[hd,RR.hdr];rw[zp (by omega),hkk j hjl,hv j hjl];simp only[AD.cell,hd'];rw[hslk];simp[Value.cells,zl,hu]) hru
     rw[show t0+100*r+(0+j)=t0+(100*r+j) by omega];exact this
   show SatP (Sat w' ω' τ') (resPV t0 rs) v;cases rs with
   | nil=>
    obtain⟨vs,rfl,hn,_⟩:=hres;exact⟨vs,rfl,hn,fun i a ha=>by simp[qc2]at ha⟩
   | cons ad rest=>
    cases rest with
    | nil=>
     have:=cellA 0 ad v (by omega) (hds 0 ad rfl) rfl (fun j hj=>by
      unfold hdrV;simp only[Nat.mul_zero,zv];rw[zcu hj]) hres
     exact this
    | cons ad2 rest=>
     obtain⟨vs,rfl,hn,hv⟩:=hres;refine⟨vs,rfl,by rw[qiP];exact hn,fun i a ha=>?_⟩;rw[qiO,zc]at ha;obtain⟨ad',h1,rfl⟩:=ha;obtain⟨y,hy,hcy⟩:=hv i ad' h1;have hil:i<50:=by
      have:=(zk.1 h1).1;omega
     refine⟨y,hy,?_⟩;have:=cellA i ad' y hil (hds i ad' h1) h1 (fun j hj=>by
      unfold hdrV;simp only;rw[show (100*i+j) / 100=i by omega,show (100*i+j) % 100=j by omega];simp[zl,hy]) hcy
     rw[zv];exact this
end Go.Sx
namespace Go.Sx
open Go.RowKit
def Leaf.mentT(ts:List (Nat×Nat)):Leaf→Bool
 | .sl g _ _=>g.mentT ts
 | .sn t _ _ _ _ _=>(look t ts).isSome
 | _=>false
theorem qoT{w:World}{ω:Own}{τ:Nat→Nat×Value}{bs ts:List (Nat×Nat)}{l:Leaf}{d:D}{y:Value}(h:l.argD0=some d)(hm:l.mentT ts=false)(hs:Sat w ω τ l y):
  Rep w (fun b=>handR bs ts (ω b)) Tag.free.R d y:=by
 have tag:∀(g:Tag) (b:Nat) (q:List (Nat×Nat)),g.mentT ts=false→g.R q (ω b)→handR bs ts (ω b)=.imm:=by
  intro g b q hg hq;cases g with
  | free=>simp only[Tag.R]at hq;rw[hq];rfl
  | own s=>
   simp only[Tag.R]at hq;simp only[Tag.mentT,zca,zcd]at hg;rw[hq];simp only[handR,hg]
  | ro s=>
   simp only[Tag.mentT,zca,zcd]at hg;rcases hq with h | ⟨q',h⟩
   ·rw[h];rfl
   ·rw[h];simp only[handR,hg]
 cases l with
 | und=>cases h
 | v x=>
  simp only[Leaf.argD0]at h;split at h
  ·simp only[za]at h;subst h;have:y=x:=hs;subst this;exact .v _ _ ‹_›
  ·cases h
 | sb c=>
  simp only[Leaf.argD0,za]at h;subst h;have:y=.bool c:=hs;subst this;exact .v _ _ rfl
 | sl t k es=>simp only[Leaf.argD0,za]at h;subst h;exact hs.1.frame fun b q _ hq=>⟨tag t b q hm hq,rfl⟩
 | ptr=>cases h
 | ep=>cases h
 | clo=>cases h
 | np=>cases h
 | rp ds off=>
  simp only[Leaf.argD0]at h;split at h
  ·rename_i ho;subst ho;simp only[za]at h;subst h;obtain⟨b,rfl,hr⟩:=hs;exact hr.frame fun b q _ hq=>⟨tag .free b q rfl hq,rfl⟩
  ·cases h
 | fd d'=>simp only[Leaf.argD0,za]at h;subst h;exact Rep.frame hs fun b q _ hq=>⟨tag .free b q rfl hq,rfl⟩
 | sv t k es=>simp only[Leaf.argD0,za]at h;subst h;exact Rep.frame hs.1 fun b q _ hq=>⟨tag .free b q rfl hq,rfl⟩
 | sn t i j k es m=>
  obtain⟨u,hu,hr,_⟩:=hs;have fin:y=u→Rep w (fun b=>handR bs ts (ω b)) Tag.free.R (.sl k es) y:=by
   intro e;rw[e];exact hr.frame fun b q _ hq=>⟨tag (.own t) b _ hm hq,rfl⟩
  cases m with
  | at_ x z=>cases h
  | here=>simp only[Leaf.argD0,za]at h;subst h;exact fin hu
  | away=>simp only[Leaf.argD0,za]at h;subst h;exact fin hu
def PV.argR:PV→Option (AD×List Leaf)
 | .al (.one l)=>l.argD0.map fun d=>(.one d,[l])
 | .al (.agg ls)=>(ls.mapM Leaf.argD0).map fun ds=>(.agg ds,ls)
 | _=>none
def qeS(i:Nat):Nat→List Leaf→List (Nat×Nat)
 | _,[]=>[]
 | j,l::ls=>match l.tok with | some t=>(t,rTok i j)::qeS i (j+1) ls | none=>qeS i (j+1) ls
theorem qoU{i:Nat}:∀{ls:List Leaf} {j0 j:Nat} {l:Leaf} {t:Nat},ls[j]?=some l→l.tok=some t→(t,rTok i (j0+j))∈qeS i j0 ls
 | [],_,_,_,_,h,_=>by simp at h
 | l0::ls,j0,0,l,t,h,ht=>by
  simp at h;subst h;simp only[qeS,ht];exact zm
 | l0::ls,j0,j+1,l,t,h,ht=>by
  have:=qoU (i:=i) (ls:=ls) (j0:=j0+1) (j:=j) (by simpa using h) ht;rw[show j0+1+j=j0+(j+1) by omega]at this;simp only[qeS];split
  ·exact zg _ this
  ·exact this
def pinOf:Leaf→Option Leaf
 | .sv t k es=>some (.sv t k es)
 | .sl .free k es=>some (.sl .free k es)
 | _=>none
def qdL(ls:List Leaf):List (Option Leaf):=if (ls.map pinOf).all Option.isNone then [] else ls.map pinOf
def Leaf.toD'(l:Leaf):Option D:=match pinOf l with | some l=>l.argD0 | none=>l.toD
theorem qhf{l l':Leaf}(h:pinOf l=some l'):l'=l∧(∀ts t0 dn,refLeaf ts t0 dn l=l)∧∃k es,l.argD0=some (.sl k es)∧∀{w ω τ y},Sat w ω τ l y→Rep w ω Tag.free.R (.sl k es) y:=by
 unfold pinOf at h;split at h
 ·rename_i t k es;cases h;exact⟨rfl,fun _ _ _=>rfl,k,es,rfl,fun hs=>hs.1⟩
 ·rename_i k es;cases h;exact⟨rfl,fun _ _ _=>by simp[Leaf.re,qf3,Tag.mentT,qa2],k,es,rfl,fun hs=>hs.1⟩
 ·cases h
theorem qvf{ls:List Leaf}{j:Nat}{l:Leaf}(h:(qdL ls)[j]?=some (some l)):ls[j]?=some l∧pinOf l=some l:=by
 unfold qdL at h;split at h
 ·simp at h
 ·rw[zr,zc]at h;obtain⟨l0,h1,h2⟩:=h;have:=(qhf h2).1;subst this;exact⟨h1,h2⟩
theorem qlr{ls:List Leaf}{j:Nat}{l:Leaf}(hl:ls[j]?=some l):stays (qbM (qdL ls)) j=(pinOf l).isSome:=by
 unfold qdL;split
 ·rename_i h;have:=zM.1 h (pinOf l) (zbm.2 ⟨l,zw hl,rfl⟩);simp only[stays,qbM,List.map_nil,List.getD_nil];cases e:pinOf l with
  | none=>rfl
  | some x=>rw[e]at this;cases this
 ·simp only[stays,qbM,List.map_map,zN,zr,hl];rfl
def nkOf(ps:List PV):List (Option Nat)→Option (List (Option Leaf))
 | []=>some []
 | none::r=>(nkOf ps r).map fun x=>none::x
 | some a::r=>
  match ps[a]? with
  | some (.al (.one l))=>
   match pinOf l,nkOf ps r with
   | some l',some r'=>some (some l'::r')
   | _,_=>none
  | _=>none
theorem qi2{ps:List PV}:∀{src:List (Option Nat)} {nk:List (Option Leaf)},nkOf ps src=some nk→srcPn src=qbM nk∧∀(j:Nat) (l:Leaf),nk[j]?=some (some l)→∃a,src[j]?=some (some a)∧ps[a]?=some (.al (.one l))∧pinOf l=some l
 | [],nk,h=>by
  simp only[nkOf,za]at h;subst h;exact⟨rfl,fun j l h=>by simp at h⟩
 | none::r,nk,h=>by
  simp only[nkOf,zc]at h;obtain⟨x,h1,rfl⟩:=h;obtain⟨g1,g2⟩:=qi2 h1;refine⟨by simpa[srcPn,qbM]using g1,fun j l hj=>?_⟩;cases j with
  | zero=>simp at hj
  | succ j=>exact g2 j l (by simpa using hj)
 | some a::r,nk,h=>by
  simp only[nkOf]at h;split at h
  ·rename_i l e;split at h
   ·rename_i l' r' e1 e2;simp only[za]at h;subst h;obtain⟨g1,g2⟩:=qi2 e2;have:=(qhf e1).1;subst this;refine⟨by simpa[srcPn,qbM]using g1,fun j l hj=>?_⟩;cases j with
    | zero=>
     simp only[zag,za]at hj;subst hj;exact⟨a,rfl,e,e1⟩
    | succ j=>exact g2 j l (by simpa using hj)
   ·cases h
  ·cases h
def refId:PV→Option Nat
 | .al (.one (.ptr id 0))=>some id
 | _=>none
structure AR where
 ras:List RA
 refs:List RF
 ts:List (Nat×Nat)
 ros:List Leaf
def cloOf:PV→Option (FuncId×List Nat)
 | .al (.one (.clo g ids))=>some (g,ids)
 | _=>none
def ptrPV(id:Nat):PV:=.al (.one (.ptr id 0))
def argsR(bs:Boxes):Nat→List (Option (List D))→List PV→Option AR
 | _,[],[]=>some ⟨[],[],[],[]⟩
 | i,none::ms,p::ps=>
  match cloOf p with
  | some (g,ids)=>(argsR bs (i+1) ms ps).map fun r=>⟨.fn g (List.range' (i+1) ids.length)::r.ras,r.refs,r.ts,r.ros⟩
  | none=>
   match p.argR,argsR bs (i+1) ms ps with
   | some (ad,ls),some r=>some ⟨.ro ad::r.ras,r.refs,r.ts,ls++r.ros⟩
   | _,_=>none
 | i,some post::ms,p::ps=>
  match refId p,argsR bs (i+1) ms ps with
  | some id,some r=>
   match qap id bs with
   | some ls=>
    match ls.mapM Leaf.toD' with
    | some pre=>some ⟨.refp (qbM (qdL ls)) pre post::r.ras,⟨i,id,post,qdL ls⟩::r.refs,qeS i 0 ls++r.ts,r.ros⟩
    | none=>none
   | none=>none
  | _,_=>none
 | _,_,_=>none
def ArgAt(bs:Boxes)(a:AR)(i:Nat)(ra:RA)(p:PV):Prop:=
 (∃g ids,ra=.fn g (List.range' (i+1) ids.length)∧p=.al (.one (.clo g ids)))∨
 (∃ad ls,ra=.ro ad∧p.argR=some (ad,ls)∧∀l∈ls,l∈a.ros)∨
 (∃id ls pre post,ra=.refp (qbM (qdL ls)) pre post∧p=.al (.one (.ptr id 0))∧qap id bs=some ls∧ls.mapM Leaf.toD'=some pre∧(⟨i,id,post,qdL ls⟩:RF)∈a.refs∧∀x∈qeS i 0 ls,x∈a.ts)
theorem ArgAt.mono{bs:Boxes}{a b:AR}{i:Nat}{ra:RA}{p:PV}(h:ArgAt bs a i ra p)(h1:∀l∈a.ros,l∈b.ros)(h2:∀x∈a.refs,x∈b.refs)(h3:∀x∈a.ts,x∈b.ts):ArgAt bs b i ra p:=by
 rcases h with h | ⟨ad,ls,e1,e2,e3⟩ | ⟨id,ls,pre,post,e1,e2,e3,e4,e5,e6⟩
 ·exact .inl h
 ·exact .inr (.inl ⟨ad,ls,e1,e2,fun l hl=>h1 l (e3 l hl)⟩)
 ·exact .inr (.inr ⟨id,ls,pre,post,e1,e2,e3,e4,h2 _ e5,fun x hx=>h3 x (e6 x hx)⟩)
theorem qi3{bs:Boxes}:∀{ms:List (Option (List D))} {ps:List PV} {i:Nat} {a:AR},argsR bs i ms ps=some a→a.ras.length=ps.length∧
  (∀(x:Nat) (ra:RA),a.ras[x]?=some ra→∃p,ps[x]?=some p∧ArgAt bs a (i+x) ra p)∧
  (∀r∈a.refs,∃(x:Nat) (pre:List D),r.i=i+x∧a.ras[x]?=some (.refp (qbM r.keep) pre r.post)∧ps[x]?=some (.al (.one (.ptr r.id 0)))∧∃ls,qap r.id bs=some ls∧r.keep=qdL ls)
 | [],[],i,a,h=>by
  simp only[argsR,za]at h;subst h;exact⟨rfl,fun x ra h=>by simp at h,fun r h=>by cases h⟩
 | none::ms,p::ps,i,a,h=>by
  simp only[argsR]at h;split at h
  ·rename_i g ids e0;rw[zc]at h;obtain⟨r,e2,rfl⟩:=h;obtain⟨k0,k1,k2⟩:=qi3 e2;have hp:p=.al (.one (.clo g ids)):=by
    unfold cloOf at e0;split at e0
    ·cases e0;rfl
    ·cases e0
   refine⟨by simp[k0],fun x ra hx=>?_,fun y hy=>?_⟩
   ·cases x with
    | zero=>
     simp only[zag,za]at hx;subst hx;exact⟨p,rfl,.inl ⟨g,ids,rfl,hp⟩⟩
    | succ x=>
     obtain⟨p',h1,h2⟩:=k1 x ra (by simpa using hx);refine⟨p',by simpa using h1,?_⟩;rw[show i+1+x=i+(x+1) by omega]at h2;exact h2.mono (fun _ h=>h) (fun _ h=>h) (fun _ h=>h)
   ·obtain⟨x,pre,h1,h2,h3,h4⟩:=k2 y hy;exact⟨x+1,pre,by omega,by simpa using h2,by simpa using h3,h4⟩
  split at h
  ·rename_i ad ls r e1 e2;simp only[za]at h;subst h;obtain⟨k0,k1,k2⟩:=qi3 e2;refine⟨by simp[k0],fun x ra hx=>?_,fun y hy=>?_⟩
   ·cases x with
    | zero=>
     simp only[zag,za]at hx;subst hx;exact⟨p,rfl,.inr (.inl ⟨ad,ls,rfl,e1,fun l hl=>zI _ hl⟩)⟩
    | succ x=>
     obtain⟨p',h1,h2⟩:=k1 x ra (by simpa using hx);refine⟨p',by simpa using h1,?_⟩;rw[show i+1+x=i+(x+1) by omega]at h2;exact h2.mono (fun l hl=>zJ _ hl) (fun _ h=>h) (fun _ h=>h)
   ·obtain⟨x,pre,h1,h2,h3,h4⟩:=k2 y hy;exact⟨x+1,pre,by omega,by simpa using h2,by simpa using h3,h4⟩
  ·cases h
 | some post::ms,p::ps,i,a,h=>by
  simp only[argsR]at h;split at h
  ·rename_i id r e1 e2;split at h
   ·rename_i ls e3;split at h
    ·rename_i pre e4;simp only[za]at h;subst h;obtain⟨k0,k1,k2⟩:=qi3 e2;have hp:p=.al (.one (.ptr id 0)):=by
      unfold refId at e1;split at e1
      ·rw[zx e1]
      ·cases e1
     refine⟨by simp[k0],fun x ra hx=>?_,fun y hy=>?_⟩
     ·cases x with
      | zero=>
       simp only[zag,za]at hx;subst hx;exact⟨p,rfl,.inr (.inr ⟨id,ls,pre,post,rfl,hp,e3,e4,zm,fun x hx=>zI _ hx⟩)⟩
      | succ x=>
       obtain⟨p',h1,h2⟩:=k1 x ra (by simpa using hx);refine⟨p',by simpa using h1,?_⟩;rw[show i+1+x=i+(x+1) by omega]at h2;exact h2.mono (fun _ h=>h) (fun x h=>zg _ h) (fun x h=>zJ _ h)
     ·rcases zL.1 hy with rfl | hy
      ·exact⟨0,pre,rfl,rfl,by simp[hp],ls,e3,rfl⟩
      ·obtain⟨x,pre',h1,h2,h3,h4⟩:=k2 y hy;exact⟨x+1,pre',by omega,by simpa using h2,by simpa using h3,h4⟩
    ·cases h
   ·cases h
  ·cases h
 | [],_::_,i,a,h=>by simp[argsR]at h
 | none::_,[],i,a,h=>by simp[argsR]at h
 | some _::_,[],i,a,h=>by simp[argsR]at h
def RR.fitsB(d:Option Nat):RR→Bool
 | .vals rs=>qlq rs
 | .newp _ ds=>d.isSome&&decide (ds.length<100)
def RR.dn(d:Option Nat):RR→Option Nat
 | .vals _=>none
 | .newp _ _=>d
def RR.nds:RR→List D
 | .vals _=>[]
 | .newp _ ds=>ds
def RR.nk(ps:List PV):RR→Option (List (Option Leaf))
 | .vals _=>some []
 | .newp src _=>nkOf ps src
theorem RR.fits_of{d:Option Nat}{r:RR}(h:r.fitsB d=true):r.fits (r.dn d) r.nds:=by
 cases r with
 | vals rs=>exact⟨rfl,h⟩
 | newp src ds=>
  simp only[RR.fitsB,zj,zi]at h;exact⟨h.1,rfl,h.2⟩
def qd7(n:Nat):Nat→List RA→Bool
 | _,[]=>true
 | i,.fn _ _::r=>i+1==n&&qd7 n (i+1) r
 | i,_::r=>qd7 n (i+1) r
theorem qi4{n:Nat}:∀{as:List RA} {i x:Nat} {g:FuncId} {ks:List Nat},qd7 n i as=true→as[x]?=some (.fn g ks)→i+x+1=n
 | [],_,_,_,_,_,h=>by simp at h
 | .fn _ _::r,i,0,g,ks,h,hx=>by
  simp only[qd7,zj,zE]at h;omega
 | .fn _ _::r,i,x+1,g,ks,h,hx=>by
  simp only[qd7,zj,zE]at h;have:=qi4 h.2 (x:=x) (by simpa using hx);omega
 | .ro _::r,i,0,g,ks,h,hx=>by simp at hx
 | .refp _ _ _::r,i,0,g,ks,h,hx=>by simp at hx
 | .ro _::r,i,x+1,g,ks,h,hx=>by
  have:=qi4 (i:=i+1) (by simpa[qd7]using h) (x:=x) (by simpa using hx);omega
 | .refp _ _ _::r,i,x+1,g,ks,h,hx=>by
  have:=qi4 (i:=i+1) (by simpa[qd7]using h) (x:=x) (by simpa using hx);omega
def qhg(P:Program)(st:St)(d:Option Nat)(f:FuncId)(n:Nat)(ps:List PV)(ans:List Ans):Option (St×List Ans×List Prop):=
 match ans with
 | .resR pat rr::r=>
  match argsR st.boxes 0 pat ps,rr.nk ps with
  | some a,some nk=>
   let t0:=10000*(d.getD 0+1)
   if qaT P f=true∧t0+10000≤giv∧qf4 a.refs (rr.dn d)=true∧qlk a.ts=true∧rr.fitsB d=true∧a.ros.all (fun l=>!(l.mentT a.ts))=true∧realN a.ras=n∧qd7 n 0 a.ras=true then
    let st':=st.refd a.ts t0 a.refs (rr.dn d) nk rr.nds
    match d with
    | some d=>some (⟨st'.env.set d (rr.pv t0 (rr.dn (some d))),st'.boxes⟩,r,[RetR P f a.ras rr])
    | none=>some (st',r,[RetR P f a.ras rr])
   else none
  | _,_=>none
 | _=>none
def qls(P:Program)(st:St)(d:Option Nat)(f:FuncId)(args:List Operand)(ans:List Ans):Option (St×List Ans×List Prop):=
 match (args.map st.ev).getLast?.bind cloOf with
 | some (_,ids)=>qhg P st d f args.length (args.map st.ev++ids.map ptrPV) ans
 | none=>qhg P st d f args.length (args.map st.ev) ans
def qlt(P:Program)(st:St)(d:Option Nat)(f:Operand)(args:List Operand)(ans:List Ans):Option (St×List Ans×List Prop):=
 match cloOf (st.ev f) with
 | some (g,ids)=>if (args.map st.ev).all (fun p=>(cloOf p).isNone) then qhg P st d g (args.length+ids.length) (args.map st.ev++ids.map ptrPV) ans else none
 | none=>none
theorem qlu{P:Program}{w0:Base}{st st':St}{a:Act}{w:World}{ω:Own}{τ:Nat→Nat×Value}{dst:Option Nat}{f:FuncId}{n:Nat}{ps:List PV}{vs:Array Value}{o:Oper}{ans ans':List Ans}{obs:List Prop}
  (hdst:o.dst=dst) (hrel:RelAt w0 st a w ω τ) (h:qhg P st dst f n ps ans=some (st',ans',obs)) (ho:Obs obs) (hsz:vs.size=ps.length) (hval:∀(x:Nat) (p:PV),ps[x]?=some p→∃v,vs[x]?=some v∧SatP (Sat w ω τ) p v)
  (hfn:∀(x:Nat) (g:FuncId) (ids:List Nat),x+1=n→ps[x]?=some (.al (.one (.clo g ids)))→vs[x]?=some (.func (.func g) #[] ((List.range' n ids.length).map fun k=>vs.getD k undef).toArray))
  (hrun:qaT P f=true→(execOp a.eval o).run P w=.ok (.enter f (vs.extract 0 n)) w) {K:Act→World→Prop} {Q:Exit→Act→World→Prop} (hK:∀a' w',Rel w0 st' a' w'→K a' w'):
  Oper.wp P o a w K Q:=by
 unfold qhg at h;split at h
 ·rename_i pat rr r;split at h
  ·rename_i ar nk hargs hnk;simp only at h;split at h
   ·rename_i hc;obtain⟨hcan,htg,hok,hlk,hfit,hros,hrn,hfl⟩:=hc;rw[zM]at hros;have hros':∀l∈ar.ros,l.mentT ar.ts=false:=fun l hl=>by simpa using hros l hl
    obtain⟨hlen,k1,k2⟩:=qi3 hargs
    let ωh:Own:=fun b=>handR (refBs ar.refs) ar.ts (ω b)
    have hne:∀b,ωh b≠.imm→ω b≠.imm:=fun b h e=>h (by simp only[ωh,e];rfl)
    have hras:RasOk w ωh ar.ras vs:=by
     refine⟨fun b hb=>(hrel.owned b (hne b hb)).2,fun b i hb=>?_,by rw[hsz,hlen],fun x ra hx=>?_⟩
     ·simp only[ωh]at hb;cases e:ω b with
      | imm=>rw[e]at hb;cases hb
      | tok s q=>rw[e]at hb;simp only[handR]at hb;split at hb<;>cases hb
      | box id'=>
       rw[e]at hb;simp only[handR]at hb;split at hb
       ·rename_i i' e7;simp only[Owner.box.injEq]at hb;subst hb;obtain⟨r',hr',_,e9⟩:=qi1 e7;obtain⟨x,pre,g1,g2,_⟩:=k2 r' hr';exact⟨qbM r'.keep,pre,r'.post,by rw[←e9,g1,zv];exact g2⟩
       ·cases hb
     obtain⟨p,hp,hat⟩:=k1 x ra hx;obtain⟨v,hv,hs⟩:=hval x p hp;refine⟨v,hv,?_⟩;rw[zv]at hat;rcases hat with⟨g,ids,rfl,_⟩ | ⟨ad,ls,rfl,e2,e3⟩ | ⟨id,ls,pre,post,rfl,rfl,e3,e4,e5,e6⟩
     ·exact trivial
     ·cases p with
      | tup as=>cases e2
      | al al=>
       cases al with
       | one l=>
        simp only[PV.argR,zc]at e2;obtain⟨d,h1,h2⟩:=e2;simp only[zd]at h2;obtain⟨rfl,rfl⟩:=h2;exact qoT h1 (hros' l (e3 l (by simp))) hs
       | agg ls'=>
        simp only[PV.argR,zc]at e2;obtain⟨ds,h1,h2⟩:=e2;simp only[zd]at h2;obtain⟨rfl,rfl⟩:=h2;obtain⟨h3,h4⟩:=qct h1;obtain⟨vs,rfl,hn,hvv⟩:=hs;refine⟨vs,rfl,by omega,fun j d hd=>?_⟩;obtain⟨l,hl,hl2⟩:=h4 j d hd;obtain⟨u,hu,hu2⟩:=hvv j l hl;exact⟨u,hu,qoT hl2 (hros' l (e3 l (zw hl))) hu2⟩
     ·obtain⟨b,hb,rfl⟩:=hs;obtain⟨b',arr,ty,hb',hu,hh,hsat⟩:=hrel.boxes id ls e3;have:=hu b hb;subst this;have hlook:=qoS hok e5;simp only at hlook;obtain⟨h3,h4⟩:=qct e4;refine⟨⟨b,arr,ty,rfl,by simp only[ωh,hb,handR,hlook],fun c hc=>?_,hh,by have:=hsat.1;omega,fun j d hd=>?_⟩,fun j d hd hst=>?_⟩
      ·simp only[ωh]at hc;cases e:ω c with
       | imm=>rw[e]at hc;cases hc
       | tok s q=>rw[e]at hc;simp only[handR]at hc;split at hc<;>cases hc
       | box id'=>
        rw[e]at hc;simp only[handR]at hc;split at hc
        ·rename_i i' e7;simp only[Owner.box.injEq]at hc;subst hc;obtain⟨r',hr',e8,e9⟩:=qi1 e7;have:=((qdK hok e5).2.2.2 r' hr').1 e9;subst this;exact hu c (by rw[e,←e8])
        ·cases hc
      rotate_left
      ·obtain⟨l,hl,hl2⟩:=h4 j d hd;obtain⟨u,hu1,hu2⟩:=hsat.2 j l hl;rw[qlr hl]at hst;obtain⟨l',hl'⟩:=zaj.1 hst;obtain⟨rfl,_,k,es,hk1,hk2⟩:=qhf hl';simp only[Leaf.toD',hl']at hl2;rw[hk1]at hl2;cases hl2;have e:qbm w (.pointer (some ⟨b,0,none⟩)) j=u:=by simp[qbm,hh,zl,hu1]
       rw[e];refine (hk2 hu2).frame fun c q _ hq=>⟨?_,rfl⟩
       simp only[Tag.R]at hq ⊢;simp only[ωh,hq,handR]
      ·obtain⟨l,hl,hl2⟩:=h4 j d hd;obtain⟨u,hu1,hu2⟩:=hsat.2 j l hl;refine⟨u,hu1,fun hst=>?_⟩;rw[qlr hl]at hst;have hpn:pinOf l=none:=by simpa using hst
       simp only[Leaf.toD',hpn]at hl2;clear hst hpn;cases l with
       | v z=>
        simp only[Leaf.toD]at hl2;split at hl2
        ·simp only[za]at hl2;subst hl2;have:u=z:=hu2;subst this;exact .v _ _ ‹_›
        ·cases hl2
       | sb c=>
        simp only[Leaf.toD,za]at hl2;subst hl2;have:u=.bool c:=hu2;subst this;exact .v _ _ rfl
       | sl g k es=>
        cases g with
        | free=>cases hl2
        | ro s=>cases hl2
        | own s=>
         simp only[Leaf.toD,za]at hl2;subst hl2;have hm:=e6 _ (qoU (i:=x) (j0:=0) hl rfl);rw[zv]at hm;have hlk2:=qoO hlk hm;refine hu2.1.frame fun c q _ hq=>⟨?_,rfl⟩
         simp only[Tag.R]at hq ⊢;simp only[ωh,hq,handR,hlk2]
       | und=>cases hl2
       | ptr=>cases hl2
       | ep=>cases hl2
       | rp=>cases hl2
       | fd=>cases hl2
       | sv=>cases hl2
       | clo=>cases hl2
       | sn=>cases hl2
       | np=>cases hl2
    have hfns:FnsOk ar.ras vs:=by
     intro x g ks hx;have hxn:=qi4 hfl hx;rw[zv]at hxn;obtain⟨p,hp,hat⟩:=k1 x _ hx;rw[zv]at hat;rcases hat with⟨g',ids,e1,rfl⟩ | ⟨ad,ls,e1,_⟩ | ⟨id,ls,pre,post,e1,_⟩
     ·simp only[RA.fn.injEq]at e1;obtain⟨rfl,rfl⟩:=e1;have:=hfn x g ids hxn hp;rw[hxn];exact this
     ·cases e1
     ·cases e1
    have key:RetR P f ar.ras rr→(∀v w' ω' τ',RelAt w0 (st.refd ar.ts (10000*(dst.getD 0+1)) ar.refs (rr.dn dst) nk rr.nds) a w' ω' τ'→SatP (Sat w' ω' τ') (rr.pv (10000*(dst.getD 0+1)) (rr.dn dst)) v→K (a.put dst v) w')→
      Oper.wp P o a w K Q:=by
     intro hret hK';unfold Oper.wp;rw[hrun hcan,←hrn];simp only[Oper.upon];rw[hdst];refine (hret w _ ωh hras hfns (hrel.tidy fun b hb=>by simp only[ωh,hb,handR])).mono ?_;rintro e w' ⟨v,rfl,hbel,ωc,c1,c2,c3,c4⟩;obtain⟨ω',τ',h1,h2⟩:=hrel.calledR (10000*(dst.getD 0+1)) (nk:=nk) (ys:=fun i=>vs.getD i undef) hok htg hbel ωc c1 c2 (fun r hr=>by
      obtain⟨x,pre,g1,g2,g3,g4⟩:=k2 r hr;rw[zv]at g1;obtain⟨y,hy,hs⟩:=hval x _ g3;obtain⟨b,hb,rfl⟩:=hs;have e:vs.getD r.i undef=ptrTo b:=by rw[g1,zl,hy];rfl
      rw[e];obtain⟨ls,g5,g6⟩:=g4;refine⟨(c3 r.i _ pre r.post (ptrTo b) (by rw[g1];exact g2) (by rw[g1];exact hy)).1,⟨b,rfl,hb⟩,by rw[g5];rfl⟩) c4 (RR.fits_of hfit) (fun d hd=>by
      cases rr with
      | vals rs=>cases hd
      | newp src ds=>
       have hd:dst=some d:=hd;rw[hd]at htg;simp only[zV]at htg;omega) (fun r hr j l hj=>by
      obtain⟨x,pre,g1,g2,g3,ls,g5,g6⟩:=k2 r hr;rw[zv]at g1;obtain⟨y,hy,hs⟩:=hval x _ g3;obtain⟨b,hb,rfl⟩:=hs;have e:vs.getD r.i undef=ptrTo b:=by rw[g1,zl,hy];rfl
      rw[e];rw[g6]at hj;obtain⟨i1,i2⟩:=qvf hj;refine⟨(qhf i2).2.1 _ _ _,?_⟩;have hst:stays (qbM r.keep) j=true:=by rw[g6,qlr i1,i2];rfl
      rw[(c3 r.i _ pre r.post (ptrTo b) (by rw[g1];exact g2) (by rw[g1];exact hy)).2 j hst];obtain⟨b',arr,ty,hb',hu,hh,hsat⟩:=hrel.boxes _ ls g5;have:=hu b hb;subst this;obtain⟨u,hu1,hu2⟩:=hsat.2 j l i1;have e:qbm w (ptrTo b) j=u:=by simp[qbm,ptrTo,hh,zl,hu1]
      rw[e];exact hu2) (fun j l hj=>by
      cases rr with
      | vals rs=>
       simp only[RR.nk,za]at hnk;subst hnk;simp at hj
      | newp src ds=>
       obtain⟨_,i2⟩:=qi2 hnk;obtain⟨x,j1,j2,j3⟩:=i2 j l hj;refine⟨(qhf j3).2.1 _ _ _,?_⟩;obtain⟨y,hy,hs⟩:=hval x _ j2;have:=c4.2 j x j1;rw[hy]at this;rw[←zx this];exact hs) (fun src ds e=>by
      subst e;exact (qi2 hnk).1)
     exact hK' v w' ω' τ' h1 h2
    cases dst with
    | none=>
     simp only[za,zd]at h;obtain⟨rfl,_,rfl⟩:=h;exact key ho.1 fun v w' ω' τ' h1 _=>hK _ _ ⟨ω',τ',h1⟩
    | some d=>
     simp only[za,zd]at h;obtain⟨rfl,_,rfl⟩:=h;exact key ho.1 fun v w' ω' τ' h1 h2=>hK _ _ ⟨ω',τ',h1.put h2⟩
   ·cases h
  ·cases h
 ·cases h
theorem qvg{P:Program}{w0:Base}{st st':St}{a:Act}{w:World}{ω:Own}{τ:Nat→Nat×Value}{dst:Option Nat}{f:FuncId}{args:Array Operand}{ts:Array TypeId}{type:TypeId}{pos:String}{after:Array Edge}{guard:Option (Nat×Bool)}{ans ans':List Ans}{obs:List Prop}
  (hrel:RelAt w0 st a w ω τ) (h:qls P st dst f args.toList ans=some (st',ans',obs)) (ho:Obs obs) {K:Act→World→Prop} {Q:Exit→Act→World→Prop} (hK:∀a' w',Rel w0 st' a' w'→K a' w'):
  Oper.wp P ⟨dst,.call ⟨.value (.func f),args,ts⟩,type,pos,after,guard⟩ a w K Q:=by
 have hval:∀(x:Nat) (p:PV),(args.toList.map st.ev)[x]?=some p→∃v,(args.map a.eval)[x]?=some v∧SatP (Sat w ω τ) p v:=by
  intro x p hp;rw[zr,zc]at hp;obtain⟨o,h1,rfl⟩:=hp;refine⟨a.eval o,?_,hrel.ev o⟩;rw[zco];rw[zH]at h1;rw[h1];rfl
 have hrun:qaT P f=true→(execOp a.eval ⟨dst,.call ⟨.value (.func f),args,ts⟩,type,pos,after,guard⟩).run P w=.ok (.enter f (args.map a.eval)) w:=by
  intro hcan;unfold qaT at hcan;split at hcan
  ·rename_i fn hfn;simp only[zj,zS,zbq,zcc]at hcan;have hc2':fn.body≠none:=by intro e;rw[e]at hcan;simp at hcan
   simp[execOp,resolve,Act.eval,Deferred.ofValue,invoke,callFunc,hfn,hcan.1,hc2']
  ·cases hcan
 unfold qls at h;split at h
 ·rename_i g ids hlast;rw[zah]at hlast;obtain⟨p,hp,hclo⟩:=hlast;have hp':p=.al (.one (.clo g ids)):=by
   unfold cloOf at hclo;split at hclo
   ·cases hclo;rfl
   ·cases hclo
  subst hp';have hl0:0<(args.toList.map st.ev).length:=by
   rcases Nat.eq_zero_or_pos (args.toList.map st.ev).length with h0 | h0
   ·rw[zbv h0]at hp;simp at hp
   ·exact h0
  have hpx:(args.toList.map st.ev)[args.toList.length-1]?=some (.al (.one (.clo g ids))):=by
   rw[List.getLast?_eq_getElem?]at hp;simpa using hp
  obtain⟨v,hv,bs,hbs,hbl,hbi⟩:=hval _ _ hpx;have hn:0<args.size:=by simpa using hl0
  refine qlu (n:=args.toList.length) (vs:=args.map a.eval++(bs.map ptrTo).toArray) rfl hrel h ho (by simp[hbl]) (fun x p hx=>?_) (fun x g' ids' hxn hx=>?_) (fun hcan=>?_) hK
  ·rw[zT]at hx;rw[zK];split at hx
   ·rename_i hlt;rw[zp (by simpa using hlt)];exact hval x p hx
   ·rename_i hge;rw[zo (by simpa using hge)];rw[zr,zc]at hx;obtain⟨id,hid,rfl⟩:=hx;obtain⟨b,hb1,hb2⟩:=hbi _ id hid;refine⟨ptrTo b,?_,b,hb2,rfl⟩;simp only[zb,zbx]at hb1;simp[hb1]
  ·have hlt:x<args.size:=by simp at hxn;omega
   have hxe:x=args.toList.length-1:=by omega
   rw[zT,zp (by simpa using hlt),hxe,hpx]at hx;simp only[za,PV.al.injEq,AL.one.injEq,Leaf.clo.injEq]at hx;obtain⟨rfl,rfl⟩:=hx;rw[zK,zp (by simpa using hlt),hxe,hv,hbs]
   congr 2
   apply Array.ext
   ·simp[hbl]
   ·intro j h1 h2;have hj:j<bs.length:=by simpa using h1
    simp[zl,zK,hj];rw[zo (by omega)];rfl
  ·have e:(args.map a.eval++(bs.map ptrTo).toArray).extract 0 args.toList.length=args.map a.eval:=by
    apply Array.ext
    ·simp
    ·intro j h1 h2;have hj:j<args.size:=by simpa using h2
     simp[Array.getElem_append,hj]
   rw[e];exact hrun hcan
 ·refine qlu (n:=args.toList.length) (vs:=args.map a.eval) rfl hrel h ho (by simp) hval (fun x g ids hxn hx=>?_) (fun hcan=>?_) hK
  ·rename_i hno;exfalso;have:(args.toList.map st.ev).getLast?=some (.al (.one (.clo g ids))):=by
    rw[List.getLast?_eq_getElem?];rw[←hx]
    congr 1
    simp;simp at hxn;omega
   rw[this]at hno;simp[cloOf]at hno
  ·have e:(args.map a.eval).extract 0 args.toList.length=args.map a.eval:=by simp
   rw[e];exact hrun hcan
theorem qvh{P:Program}{w0:Base}{st st':St}{a:Act}{w:World}{ω:Own}{τ:Nat→Nat×Value}{dst:Option Nat}{y:Nat}{args:Array Operand}{ts:Array TypeId}{type:TypeId}{pos:String}{after:Array Edge}{guard:Option (Nat×Bool)}{ans ans':List Ans}{obs:List Prop}
  (hrel:RelAt w0 st a w ω τ) (h:qlt P st dst (.tmp y) args.toList ans=some (st',ans',obs)) (ho:Obs obs) {K:Act→World→Prop} {Q:Exit→Act→World→Prop} (hK:∀a' w',Rel w0 st' a' w'→K a' w'):
  Oper.wp P ⟨dst,.call ⟨.value (.tmp y),args,ts⟩,type,pos,after,guard⟩ a w K Q:=by
 have hval:∀(x:Nat) (p:PV),(args.toList.map st.ev)[x]?=some p→∃v,(args.map a.eval)[x]?=some v∧SatP (Sat w ω τ) p v:=by
  intro x p hp;rw[zr,zc]at hp;obtain⟨o,h1,rfl⟩:=hp;refine⟨a.eval o,?_,hrel.ev o⟩;rw[zco];rw[zH]at h1;rw[h1];rfl
 unfold qlt at h;split at h
 ·rename_i g ids hclo;have hp':st.ev (.tmp y)=.al (.one (.clo g ids)):=by
   unfold cloOf at hclo;split at hclo
   ·rename_i e;cases hclo;exact e
   ·cases hclo
  have hs:=hrel.ev (.tmp y);rw[hp']at hs;obtain⟨bs,hbs,hbl,hbi⟩:=hs;split at h
  case isFalse=>cases h
  rename_i hno;refine qlu (n:=args.toList.length+ids.length) (vs:=args.map a.eval++(bs.map ptrTo).toArray) rfl hrel h ho (by simp[hbl]) (fun x p hx=>?_) (fun x g' ids' hxn hx=>?_) (fun hcan=>?_) hK
  ·rw[zT]at hx;rw[zK];split at hx
   ·rename_i hlt;rw[zp (by simpa using hlt)];exact hval x p hx
   ·rename_i hge;rw[zo (by simpa using hge)];rw[zr,zc]at hx;obtain⟨id,hid,rfl⟩:=hx;obtain⟨b,hb1,hb2⟩:=hbi _ id hid;refine⟨ptrTo b,?_,b,hb2,rfl⟩;simp only[zb,zbx]at hb1;simp[hb1]
  ·exfalso;rw[zT]at hx;split at hx
   ·rename_i hlt;have:=zM.1 hno _ (zw hx);simp[cloOf]at this
   ·rw[zr,zc]at hx;obtain⟨id,_,e⟩:=hx;cases e
  ·have e:(args.map a.eval++(bs.map ptrTo).toArray).extract 0 (args.toList.length+ids.length)=args.map a.eval++(bs.map ptrTo).toArray:=by
    have e2:args.toList.length+ids.length=(args.map a.eval++(bs.map ptrTo).toArray).size:=by simp[hbl]
    rw[e2,Array.extract_size]
   rw[e];unfold qaT at hcan;split at hcan
   ·rename_i fn hfn;simp only[zj,zS,zbq,zcc]at hcan;have hc2':fn.body≠none:=by intro e;rw[e]at hcan;simp at hcan
    simp[execOp,resolve,hbs,Deferred.ofValue,invoke,callFunc,hfn,hcan.1,hc2']
   ·cases hcan
 ·cases h
