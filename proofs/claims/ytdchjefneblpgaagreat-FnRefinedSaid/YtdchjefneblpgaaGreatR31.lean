import Derived.Test.YtdchjefneblpgaaGreatR11
set_option linter.unusedVariables false
set_option linter.unusedSimpArgs false
namespace Go.Sx
open Go.RowKit
inductive aN where
 | ro (a:cQ)
 | jf (pn:List Bool) (pre post:List D)
 | fn (g:FuncId) (cT:List Nat)
abbrev aN.ref (pre post : List D) : aN := .jf [] pre post
abbrev aN.cur(pre post:List D):aN:=.jf [true,false,false] pre post
def stays(pn:List Bool)(j:Nat):Bool:=pn.getD j false
def jw(w:World)(y:Value)(j:Nat):Value:=
 match y with
 | .pointer (some p)=>match w.heap[p.block]? with | some (.cells arr _ _)=>arr.getD j undef | _=>undef
 | _=>undef
def rF(i j:Nat):Nat:=900000000+(100*i+j)
def h7(i j:Nat):Nat:=5000+(100*i+j)
def wj(w:World)(ω:Own)(i:Nat)(pn:List Bool)(f:Nat->Nat)(ds:List D)(y:Value):Prop:=
 ∃b arr ty,y=ptrTo b/\ω b=.box i/\(∀dc,ω dc=.box i->dc=b)/\w.heap[b]?=some (.cells arr ty (0,0))/\arr.size=ds.length/\∀(j:Nat) (d:D),ds[j]?=some d->∃u,arr[j]?=some u/\(stays pn j=false->b0 w ω (Tag.own (f j)).R d u)
def aaS(w:World)(ω:Own)(i:Nat):aN->Value->Prop
 | .ro (.one d),y=>b0 w ω Tag.free.R d y
 | .ro (.agg ds),y=>∃vs:Array Value,y=.agg vs/\vs.size=ds.length/\∀(j:Nat) (d:D),ds[j]?=some d->∃u,vs[j]?=some u/\b0 w ω Tag.free.R d u
 | .jf pn pre _,y=>wj w ω i pn (rF i) pre y/\∀(j:Nat) (d:D),pre[j]?=some d->stays pn j=true->b0 w ω Tag.free.R d (jw w y j)
 | .fn _ _,_=>True
def aN.bx:aN->Nat
 | .fn _ cT=>cT.length
 | _=>0
def uc(args:List aN):Nat:=args.length-(args.map aN.bx).sum
def HY(args:List aN)(vs:Array Value):Prop:=∀(i:Nat) (g:FuncId) (cT:List Nat),args[i]?=some (.fn g cT)->vs[i]?=some (.func (.func g) #[] (cT.map fun k=>vs.getD k undef).toArray)
def FN(w:World)(ω:Own):Prop:=∀b,ω b≠.bI->∃arr ty,w.heap[b]?=some (.cells arr ty (0,0))
def H2(w:World)(ω:Own)(args:List aN)(vs:Array Value):Prop:=FN w ω/\(∀b i,ω b=.box i->∃pn pre post,args[i]?=some (.jf pn pre post))/\vs.size=args.length/\∀(i:Nat) (jP:aN),args[i]?=some jP->∃v,vs[i]?=some v/\aaS w ω i jP v
def x0(src:List (Option Nat)):List Bool:=src.map Option.isSome
def DO(w:World)(ω:Own)(vs:Array Value):aU->Value->Prop
 | .vals rs,v=>nQ w ω rs v
 | .iX src ds,v=>wj w ω 49 (x0 src) (h7 49) ds v/\∀(j i:Nat),src[j]?=some (some i)->vs[i]?=some (jw w v j)
def bW(P:Program)(f:FuncId)(args:List aN)(r:aU):Prop:=
 ∀(w:World) (vs:Array Value) (ω:Own),H2 w ω args vs->HY args vs->Tidy w ω->Calls P f (vs.extract 0 (uc args)) w fun e aO=>∃v,e=.returned v/\ha ⟨w,fun b=>ω b≠.bI,fun _=>(0,undef)⟩ aO/\
  ∃bc:Own,(∀b,b<w.heap.size->ω b=.bI->bc b=.bI)/\FN aO bc/\(∀(i:Nat) (pn:List Bool) (pre post:List D) (y:Value),args[i]?=some (.jf pn pre post)->vs[i]?=some y->wj aO bc i pn (h7 i) post y/\∀j,stays pn j=true->jw aO y j=jw w y j)/\DO aO bc vs r v
abbrev aCa:=List (Nat×Nat)
def look(t:Nat):List (Nat×Nat)->Option Nat
 | []=>none
 | (s,n)::r=>if s=t then some n else look t r
def L2(ts:List (Nat×Nat)):Bool:=ts.all fun x=>ts.all fun y=>(x.1==y.1)==(x.2==y.2)
variable{ts:List (Nat×Nat)}
theorem SZ{t n:Nat}(h:L2 ts=true)(hm:(t,n)∈ts):look t ts=some n:=by
 have key:∀l:List (Nat×Nat),(∀x∈l,x∈ts)->(t,n)∈l->look t l=some n:=by
  intro l;induction l with
  | nil=>intro _ h;cases h
  | cons x l ee=>
   intro ao hm;obtain⟨s,m⟩:=x;simp only[look];split
   ·rename_i e;subst e;have h1:=gx.1 (gx.1 h _ (ao _ hX)) _ (by exact ‹(s,n)∈ts›);simp only[v',dE]at h1;have:(m==n)=true:=by rw[<-h1]
    simp only[dE]at this;rw[this]
   rename_i cC;rcases eP.1 hm with e | hm
   ·simp only[bH]at e;exact absurd e.1.symm cC
   exact ee (fun x ah=>ao x (iA _ ah)) hm
 exact key ts (fun _ h=>h) hm
theorem avM{t n:Nat}(h:look t ts=some n):(t,n)∈ts:=by
 induction ts with
 | nil=>cases h
 | cons x l ee=>
  obtain⟨s,m⟩:=x;simp only[look]at h;split at h
  ·rename_i e;subst e;rw[eW h];exact hX
  exact iA _ (ee h)
def hx(bs ts:List (Nat×Nat)):db->db
 | .bI=>.bI
 | .box id=>match look id bs with | some i=>.box i | none=>.bI
 | .tok t q=>match look t ts with | some n=>.tok n q | none=>.bI
def Tag.p7(ts:List (Nat×Nat)):Tag->Bool
 | .free=>false
 | .own t=>(look t ts).isSome
 | .ro t=>(look t ts).isSome
def sf:Option Nat->Nat->Bool
 | none=>fun _=>true
 | some d=>ky d
def za(ts:List (Nat×Nat))(t0:Nat)(g:Tag):Option Tag:=if g.p7 ts then none else hj t0 g
abbrev xY(ts:List (Nat×Nat))(t0:Nat)(dm:Option Nat)(l:aH):aH:=l.cu (za ts t0) (sf dm)
structure jX where
 i:Nat
 id:Nat
 post:List D
 fU:List (Option aH)
def lG(cT:List (Option aH)):List Bool:=cT.map Option.isSome
def lY:List (Option aH)->List aH->List aH
 | [],ls=>ls
 | _,[]=>[]
 | some l::cT,_::ls=>l::lY cT ls
 | none::cT,l::ls=>l::lY cT ls
theorem FO:∀(cT:List (Option aH)) (ls:List aH),(lY cT ls).length=ls.length
 | [],ls=>rfl
 | _::_,[]=>by simp[lY]
 | some l::cT,_::ls=>by simp[lY,FO cT ls]
 | none::cT,_::ls=>by simp[lY,FO cT ls]
theorem L3:∀(cT:List (Option aH)) (ls:List aH) (j:Nat) (l:aH),(lY cT ls)[j]?=some l->(cT[j]?=some (some l)/\stays (lG cT) j=true)\/(ls[j]?=some l/\stays (lG cT) j=false)
 | [],ls,j,l,h=>.inr ⟨h,by simp[stays,lG]⟩
 | _::_,[],j,l,h=>by simp[lY]at h
 | some k::cT,x::ls,0,l,h=>by simp only[lY,kh,aV]at h;subst h;exact .inl ⟨rfl,rfl⟩
 | none::cT,x::ls,0,l,h=>by simp only[lY,kh]at h;exact .inr ⟨h,rfl⟩
 | some k::cT,x::ls,j+1,l,h=>by
  have:=L3 cT ls j l (by simpa[lY]using h);simpa[stays,lG]using this
 | none::cT,x::ls,j+1,l,h=>by
  have:=L3 cT ls j l (by simpa[lY]using h);simpa[stays,lG]using this
def xj(t0:Nat):List jX->List (Nat×List aH)->List (Nat×List aH)
 | [],bs=>bs
 | r::rs,bs=>xj t0 rs (rv r.id (lY r.fU (oz (t0+h7 r.i 0) 0 r.post)) bs)
def S0(t0:Nat)(dm:Option Nat)(nk:List (Option aH))(ds:List D)(bs:List (Nat×List aH)):List (Nat×List aH):=
 match dm with
 | some d=>(d,lY nk (oz (t0+h7 49 0) 0 ds))::qd d bs
 | none=>bs
def aJ.xZ(st:aJ)(ts:List (Nat×Nat))(t0:Nat)(refs:List jX)(dm:Option Nat)(nk:List (Option aH))(ds:List D):aJ:=
 ⟨st.env.map (aL.map (xY ts t0 dm)),S0 t0 dm nk ds (xj t0 refs (st.boxes.map fun x=>(x.1,x.2.map (xY ts t0 dm))))⟩
def p'(t0:Nat)(dm:Option Nat):db->db
 | .tok s q=>if t0<=s/\s<t0+10000 then .bI else .tok s q
 | .box id=>if sf dm id then .box id else .bI
 | .bI=>.bI
def p4(i:Nat)(dm:Option Nat):List jX->Option Nat
 | []=>if i=49 then dm else none
 | r::rs=>if r.i=i then some r.id else p4 i dm rs
def n1(t0:Nat)(refs:List jX)(dm:Option Nat):db->db
 | .tok s q=>if s<10000 then .tok (t0+s) q else .bI
 | .box i=>match p4 i dm refs with | some id=>.box id | none=>.bI
 | .bI=>.bI
def D.ug:D->Nat
 | .J k _=>k
 | _=>0
def xk(i:Nat)(ds:List D):List jX->List D
 | []=>ds
 | r::rs=>if r.i=i then r.post else xk i ds rs
def lL(refs:List jX):List (Nat×Nat):=refs.map fun r=>(r.id,r.i)
def zb:List jX->Option Nat->Bool
 | [],_=>true
 | x::r,dm=>decide (x.i<49)&&decide (x.post.length<100)&&decide (dm≠some x.id)&&r.all (fun y=>x.i != y.i&&x.id != y.id)&&zb r dm
variable{id:Nat}
theorem L4{t0:Nat}:∀{refs:List jX} {bs:List (Nat×List aH)},(∀r∈refs,r.id≠id)->dM id (xj t0 refs bs)=dM id bs
 | [],bs,_=>rfl
 | r::rs,bs,h=>by
  simp only[xj];rw[L4 fun x ah=>h x (iA _ ah),y7 (Ne.symm (h r hX))]
theorem avN{hM:Nat}{ls:List aH}:∀{bs:List (Nat×List aH)},(dM id bs).isSome=true->(dM id (rv hM ls bs)).isSome=true:=by
 intro bs h;by_cases e:id=hM
 ·subst e;obtain⟨x,ah⟩:=qt.1 h;rw[y6 ah];rfl
 rw[y7 e];exact h
theorem S1{t0:Nat}:∀{refs:List jX} {bs:List (Nat×List aH)} {r:jX},r∈refs->(∀x∈refs,x.id=r.id->x=r)->(dM r.id bs).isSome=true->dM r.id (xj t0 refs bs)=some (lY r.fU (oz (t0+h7 r.i 0) 0 r.post))
 | [],_,_,h,_,_=>by cases h
 | x::rs,bs,r,h,hu,ao=>by
  simp only[xj];by_cases hm:r∈rs
  ·exact S1 hm (fun y bf=>hu y (iA _ bf)) (avN ao)
  rcases eP.1 h with e | h
  ·subst e;obtain⟨l,ap⟩:=qt.1 ao;rw[L4,y6 ap];intro y bf e;have:=hu y (iA _ bf) e;subst this;exact hm bf
  exact absurd h hm
variable{dm:Option Nat}
theorem tL:∀{refs:List jX},zb refs dm=true->∀{x:jX},x∈refs->x.i<49/\x.post.length<100/\dm≠some x.id/\∀y∈refs,(y.i=x.i->y=x)/\(y.id=x.id->y=x)
 | [],_,x,ah=>by cases ah
 | z::r,h,x,ah=>by
  simp only[zb,cx,cV,gx,bne_iff_ne,gy]at h;obtain⟨⟨⟨⟨h1,U⟩,ax⟩,aF⟩,aZ⟩:=h;rcases eP.1 ah with e | q6
  ·subst e;refine⟨h1,U,ax,fun y bf=>?_⟩;rcases eP.1 bf with e | bf
   ·exact⟨fun _=>e,fun _=>e⟩
   exact⟨fun e=>absurd e.symm (aF y bf).1,fun e=>absurd e.symm (aF y bf).2⟩
  obtain⟨cG,bM,gj,q7⟩:=tL aZ q6;refine⟨cG,bM,gj,fun y bf=>?_⟩;rcases eP.1 bf with e | bf
  ·subst e;exact⟨fun e=>absurd e (aF x q6).1,fun e=>absurd e (aF x q6).2⟩
  exact q7 y bf
theorem L5:∀{refs:List jX} {r:jX},r∈refs->(∀y∈refs,y.i=r.i->y.id=r.id)->p4 r.i dm refs=some r.id
 | [],_,h,_=>by cases h
 | x::rs,r,h,hu=>by
  simp only[p4];split
  ·rename_i e;rw[hu x hX e]
  rename_i e;rcases eP.1 h with e1 | h
  ·subst e1;exact absurd rfl e
  exact L5 h fun y bf=>hu y (iA _ bf)
theorem zc{i:Nat}:∀{refs:List jX},p4 i dm refs=some id->(∃r∈refs,r.i=i/\r.id=id)\/(i=49/\dm=some id)
 | [],h=>by
  simp only[p4]at h;split at h
  ·exact .inr ⟨‹_›,h⟩
  cases h
 | x::rs,h=>by
  simp only[p4]at h;split at h
  ·rename_i e;exact .inl ⟨x,hX,e,eW h⟩
  rcases zc h with⟨r,aA,h1⟩ | h1
  ·exact .inl ⟨r,iA _ aA,h1⟩
  exact .inr h1
theorem L6:∀{refs:List jX},(∀r∈refs,r.i<49)->p4 49 dm refs=dm
 | [],_=>by simp[p4]
 | x::rs,h=>by
  simp only[p4];rw[bk (by have:=h x hX;omega)];exact L6 fun r aA=>h r (iA _ aA)
theorem S2{ds:List D}:∀{refs:List jX} {r:jX},r∈refs->(∀y∈refs,y.i=r.i->y=r)->xk r.i ds refs=r.post
 | [],_,h,_=>by cases h
 | x::rs,r,h,hu=>by
  simp only[xk];split
  ·rename_i e;rw[hu x hX e]
  rename_i e;rcases eP.1 h with e1 | h
  ·subst e1;exact absurd rfl e
  exact S2 h fun y bf=>hu y (iA _ bf)
theorem L7{ds:List D}:∀{refs:List jX},(∀r∈refs,r.i<49)->xk 49 ds refs=ds
 | [],_=>rfl
 | x::rs,h=>by
  simp only[xk];rw[bk (by have:=h x hX;omega)];exact L7 fun r aA=>h r (iA _ aA)
variable{refs:List jX}
theorem S3(h:zb refs dm=true){r:jX}(aA:r∈refs):look r.id (lL refs)=some r.i:=by
 refine SZ ?_ (lo.2 ⟨r,aA,rfl⟩);unfold L2;rw[gx];intro x ah;rw[gx];intro y bf;obtain⟨rx,acZ,rfl⟩:=lo.1 ah;obtain⟨GX,ac0,rfl⟩:=lo.1 bf;have:=(tL h acZ).2.2.2 GX ac0;simp only[dE];by_cases e:GX=rx
 ·subst e;simp
 have e1:¬rx.id=GX.id:=fun e1=>e (this.2 e1.symm)
 have e2:¬rx.i=GX.i:=fun e2=>e (this.1 e2.symm)
 rw[sT.2 e1,sT.2 e2]
theorem FP{i:Nat}(h:look id (lL refs)=some i):∃r∈refs,r.id=id/\r.i=i:=by
 obtain⟨r,aA,e⟩:=lo.1 (avM h);simp only[bH]at e;exact⟨r,aA,e.1,e.2⟩
def L8(rs:List cQ):Bool:=decide (rs.length<50)&&rs.all fun | .one _=>true | .agg ds=>ds.length<100
def aU.fits(dm:Option Nat)(ph:List D):aU->Prop
 | .vals rs=>dm=none/\L8 rs=true
 | .iX _ ds=>dm.isSome=true/\ph=ds/\ds.length<100
def aU.ev(v:Value)(n:Nat):aU->Nat×Value
 | .vals rs=>(qS rs n,om rs v n)
 | .iX _ _=>(0,undef)
def aU.po(t0:Nat)(dm:Option Nat):aU->aL
 | .vals rs=>ud t0 rs
 | .iX _ _=>.one (.ptr (dm.getD 0) 0)
theorem cJ.aa5{w0:eT}{st:aJ}{a:Act}{w aO:World}{ω:Own}{τ:Nat->Nat×Value}(a8:cJ w0 st a w ω τ)(t0:Nat){nk:List (Option aH)}{ph:List D}{ih:aU}{v:Value}{vs:Array Value}{ys:Nat->Value}{H:Nat->Nat×Value}
  (cF:zb refs dm=true) (iU:t0+10000<=dn) (av:ha ⟨w,fun b=>hx (lL refs) ts (ω b)≠.bI,H⟩ aO) (fK:Own)
  (lS:∀b,b<w.heap.size->hx (lL refs) ts (ω b)=.bI->fK b=.bI) (ly:FN aO fK)
  (hrefs:∀r∈refs,wj aO fK r.i (lG r.fU) (h7 r.i) r.post (ys r.i)/\(∃b,ys r.i=ptrTo b/\ω b=.box r.id)/\(dM r.id st.boxes).isSome=true) (fi:DO aO fK vs ih v) (Eu:ih.fits dm ph) (tk:∀d,dm=some d->d<dn)
  (Jj:∀r∈refs,∀(j:Nat) (l:aH),r.fU[j]?=some (some l)->xY ts t0 dm l=l/\Sat w ω τ l (jw aO (ys r.i) j)) (wP:∀(j:Nat) (l:aH),nk[j]?=some (some l)->xY ts t0 dm l=l/\Sat w ω τ l (jw aO v j))
  (Ry:∀src ds,ih=.iX src ds->x0 src=lG nk):
  ∃bc cY,cJ w0 (st.xZ ts t0 refs dm nk ph) a aO bc cY/\cW (Sat aO bc cY) (ih.po t0 dm) v:=by
 classical
 let bc:Own:=fun b=>if b<w.heap.size/\hx (lL refs) ts (ω b)=.bI then p' t0 dm (ω b) else n1 t0 refs dm (fK b)
 let aG:Nat->Nat×Value:=fun n=>if n<5000 then ih.ev v n else
  ((((xk ((n-5000) / 100) ph refs)[(n-5000) % 100]?).map D.ug).getD 0,jw aO (if (n-5000) / 100=49 then v else ys ((n-5000) / 100)) ((n-5000) % 100))
 let cY:Nat->Nat×Value:=fun s=>if t0<=s/\s<t0+10000 then aG (s-t0) else τ s
 have A3:∀r∈refs,r.i<49:=fun r aA=>(tL cF aA).1
 have hold:∀b,b<w.heap.size->hx (lL refs) ts (ω b)=.bI->bc b=p' t0 dm (ω b):=fun b h1 U=>by simp only[bc];rw[bm ⟨h1,U⟩]
 have gL:∀b,fK b≠.bI->bc b=n1 t0 refs dm (fK b):=fun b h=>by
  simp only[bc];rw[bk];rintro⟨h1,U⟩;exact h (lS b h1 U)
 have hblk:∀b,b<w.heap.size->hx (lL refs) ts (ω b)=.bI->aO.heap[b]?=w.heap[b]?:=fun b h1 U=>av.block b h1 (fun aX=>aX U)
 have Bm:∀r∈refs,∀b,ω b=.box r.id->fK b=.box r.i/\ys r.i=ptrTo b:=by
  intro r aA b cy;obtain⟨⟨eC,arr,ty,h1,U,_⟩,⟨fG,ax,aF⟩,aZ⟩:=hrefs r aA;obtain⟨ls,wK⟩:=qt.1 aZ;obtain⟨s4,_,_,_,hu,_⟩:=a8.boxes r.id ls wK;have e1:=hu b cy;have e2:=hu fG aF;have cg:fG=b:=by rw[e1,e2]
  subst cg;rw[ax]at h1;simp only[ptrTo,Value.pointer.injEq,aV,Addr.mk.injEq]at h1;obtain⟨rfl,_⟩:=h1;exact⟨U,ax⟩
 have yP:∀id b,sf dm id=true->ω b=.box id->bc b=.box id:=by
  intro id b hp cy;have bz:=a8.owned.lt (b:=b) (by simp[cy]);cases e:look id (lL refs) with
  | none=>
   have hi:hx (lL refs) ts (ω b)=.bI:=by rw[cy];simp only[hx,e]
   rw[hold b bz hi,cy];simp only[p',hp,fX]
  | some i=>
   obtain⟨r,aA,rfl,rfl⟩:=FP e;obtain⟨h1,_⟩:=Bm r aA b cy;rw[gL b (by rw[h1];simp),h1];simp only[n1];rw[L5 aA fun y bf e=>by rw[((tL cF aA).2.2.2 y bf).1 e]]
 have br:mB w ω τ aO bc cY (za ts t0) (sf dm):=by
  refine⟨?_,?_,fun id b hp h=>yP id b hp h,?_,fun s ao=>by simp only[cY];rw[bk (by omega)]⟩
  ·intro g eI b q ay bz aK;unfold za at ay;split at ay
   ·cases ay
   rename_i hm;simp only[v7]at hm;have hi:hx (lL refs) ts (ω b)=.bI:=by
    cases g with
    | free=>simp only[Tag.R]at aK;rw[aK];rfl
    | own s=>
     simp only[Tag.R]at aK;simp only[Tag.p7,HU,HV]at hm;rw[aK];simp only[hx,hm]
    | ro s=>
     simp only[Tag.p7,HU,HV]at hm;rcases aK with h | ⟨dJ,h⟩
     ·rw[h];rfl
     rw[h];simp only[hx,hm]
   refine⟨?_,hblk b bz hi⟩;rw[hold b bz hi];cases g with
   | free=>simp only[hj,aV]at ay;subst ay;simp only[Tag.R]at aK ⊢;rw[aK];rfl
   | own s=>
    simp only[Tag.R]at aK;simp only[hj]at ay;rw[aK];simp only[p'];split at ay
    ·simp only[aV]at ay;subst ay;rw[bm ‹_›];rfl
    simp only[aV]at ay;subst ay;rw[bk ‹_›];rfl
   | ro s=>
    simp only[Tag.R]at aK;simp only[hj]at ay;split at ay
    ·simp only[aV]at ay;subst ay;rcases aK with h | ⟨dJ,h⟩
     ·rw[h];rfl
     rw[h];simp only[p'];rw[bm ‹_›];rfl
    simp only[aV]at ay;subst ay;rcases aK with h | ⟨dJ,h⟩
    ·rw[h];exact .inl rfl
    rw[h];simp only[p'];rw[bk ‹_›];exact .inr ⟨dJ,rfl⟩
  ·intro g eI y ay bf;unfold za at ay;split at ay
   ·cases ay
   cases g with
   | free=>simp only[hj,aV]at ay;subst ay;exact trivial
   | own s=>
    simp only[hj]at ay;split at ay
    ·simp only[aV]at ay;subst ay;exact trivial
    simp only[aV]at ay;subst ay;simp only[Tag.ev,cY]at bf ⊢;rw[bk ‹_›];exact bf
   | ro s=>
    simp only[hj]at ay;split at ay
    ·simp only[aV]at ay;subst ay;exact trivial
    simp only[aV]at ay;subst ay;exact trivial
  rfl
 have cell:∀(n:Nat) (d:D) (u:Value),n<10000->aG n=(d.ug,u)->b0 aO fK (Tag.own n).R d u->Sat aO bc cY (d.qn (t0+n)) u:=by
  intro n d u aX bp aA;cases d with
  | v x=>
   have e:u=x:=by cases aA;rfl
   subst e;unfold D.qn;split
   ·rename_i h;cases h;exact rfl
   ·rename_i h;cases h;exact rfl
   ·rename_i h;cases h
   ·exact trivial
   exact trivial
  | ptr ds=>exact trivial
  | cl g bx=>exact trivial
  | J k es=>
   refine⟨aA.frame fun b q bz aK=>⟨?_,rfl⟩,?_⟩
   ·simp only[Tag.R]at aK ⊢;rw[gL b (by rw[aK];simp),aK];simp only[n1];rw[bm aX]
   simp only[Tag.ev,cY];rw[bm (by omega),show t0+n-t0=n by omega,bp];rfl
 have var:∀(i:Nat) (post:List D) (y:Value) (id:Nat) (cT:List (Option aH)),i<50->post.length<100->xk i ph refs=post->(if i=49 then v else ys i)=y->wj aO fK i (lG cT) (h7 i) post y->p4 i dm refs=some id->(∀(j:Nat) (l:aH),cT[j]?=some (some l)->xY ts t0 dm l=l/\Sat w ω τ l (jw aO y j))->
   (∀dc fy,p4 fy dm refs=some id->fK dc=.box fy->fy=i)->(∀dc,ω dc=.box id->sf dm id=true->¬hx (lL refs) ts (ω dc)=.bI)->uw aO bc cY id (lY cT (oz (t0+h7 i 0) 0 post))/\∃b,y=ptrTo b/\bc b=.box id:=by
  rintro i post y id cT hi yE acR bf ⟨b,arr,ty,rfl,U,ax,aF,aZ,bB⟩ gE acu acj jt;have dL:bc b=.box id:=by
   rw[gL b (by rw[U];simp),U];simp only[n1,gE]
  refine⟨⟨b,arr,ty,dL,fun dc cy=>?_,aF,by rw[FO,y9];exact aZ,fun j l ap=>?_⟩,b,rfl,dL⟩
  ·by_cases aj:dc<w.heap.size/\hx (lL refs) ts (ω dc)=.bI
   ·rw[hold dc aj.1 aj.2]at cy;cases e:ω dc with
    | bI=>rw[e]at cy;cases cy
    | tok s q=>rw[e]at cy;simp only[p']at cy;split at cy<;>cases cy
    | box hM=>
     rw[e]at cy;simp only[p']at cy;split at cy
     ·simp only[db.box.injEq]at cy;subst cy;exact absurd aj.2 (jt dc e ‹_›)
     cases cy
   have gn:n1 t0 refs dm (fK dc)=.box id:=by
    simp only[bc]at cy;rwa[bk aj]at cy
   cases e:fK dc with
   | bI=>rw[e]at gn;cases gn
   | tok s q=>rw[e]at gn;simp only[n1]at gn;split at gn<;>cases gn
   | box fy=>
    rw[e]at gn;simp only[n1]at gn;split at gn
    ·rename_i hM e2;simp only[db.box.injEq]at gn;subst gn;have:=acj dc fy e2 e;subst this;exact ax dc e
    cases gn
  have jF:j<(lY cT (oz (t0+h7 i 0) 0 post)).length:=(ek.1 ap).1;rw[FO,y9]at jF;rcases L3 cT _ j l ap with⟨ap,_⟩ | ⟨ap,Jl⟩
  ·obtain⟨u,hu,_⟩:=bB j _ (fJ jF);obtain⟨g1,g2⟩:=acu j l ap;refine⟨u,hu,?_⟩;have e:jw aO (ptrTo b) j=u:=by simp[jw,ptrTo,aF,eG,hu]
   rw[e]at g2;have:=br.sat l u g2;rwa[show l.cu (za ts t0) (sf dm)=l from g1]at this
  rw[B1,cc]at ap;obtain⟨d,ed,rfl⟩:=ap;obtain⟨u,hu,aA⟩:=bB j d ed;replace aA:=aA Jl;have a1:j<100:=by
   have:=(ek.1 ed).1;omega
  refine⟨u,hu,?_⟩;have:=cell (h7 i j) d u (by simp only[h7];omega) (by
   have e1:(h7 i j-5000) / 100=i:=by simp only[h7];omega
   have e2:(h7 i j-5000) % 100=j:=by simp only[h7];omega
   simp only[aG];rw[bk (by simp only[h7];omega),e1,e2,acR,ed,bf];simp[jw,ptrTo,aF,eG,hu]) aA
  rw[show t0+h7 i 0+(0+j)=t0+h7 i j by simp only[h7];omega];exact this
 have acW:∀r∈refs,uw aO bc cY r.id (lY r.fU (oz (t0+h7 r.i 0) 0 r.post)):=by
  intro r aA;obtain⟨h1,U,ax,aF⟩:=tL cF aA;refine (var r.i r.post (ys r.i) r.id r.fU (by omega) U (S2 aA fun y bf e=>(aF y bf).1 e) (by rw[bk (by omega)]) (hrefs r aA).1 (L5 aA fun y bf e=>by rw[(aF y bf).1 e]) (Jj r aA) (fun dc fy e _=>?_) (fun dc e _=>?_)).1
  ·rcases zc e with⟨y,bf,e1,e2⟩ | ⟨_,e2⟩
   ·rw[<-e1,(aF y bf).2 e2]
   exact absurd e2 ax
  rw[e];simp only[hx,S3 cF aA];simp
 have r3:∀id ls,dM id (st.xZ ts t0 refs dm nk ph).boxes=some ls->uw aO bc cY id ls:=by
  intro id ls ap;have rest:∀id ls,dm≠some id->dM id (xj t0 refs (st.boxes.map fun x=>(x.1,x.2.map (xY ts t0 dm))))=some ls->uw aO bc cY id ls:=by
   intro id ls wF ap;by_cases aA:∃r∈refs,r.id=id
   ·obtain⟨r,aA,rfl⟩:=aA;rw[S1 aA (fun y bf e=>((tL cF aA).2.2.2 y bf).2 e) (by
     rw[tI];obtain⟨l,ap⟩:=qt.1 (hrefs r aA).2.2;rw[ap];rfl)]at ap
    rw[<-eW ap];exact acW r aA
   have ep:∀r∈refs,r.id≠id:=fun r h1 U=>aA ⟨r,h1,U⟩
   rw[L4 ep,tI,cc]at ap;obtain⟨j8,bG,rfl⟩:=ap;obtain⟨b,arr,ty,h1,U,ax,aF⟩:=a8.boxes id j8 bG;have hp:sf dm id=true:=by
    unfold sf;split
    ·rfl
    simp only[ky,cV];intro e;subst e;exact wF rfl
   have bz:=a8.owned.lt (b:=b) (by simp[h1]);have qX:look id (lL refs)=none:=by
    cases e:look id (lL refs) with
    | none=>rfl
    | some i=>
     obtain⟨r,ml,e1,_⟩:=FP e;exact absurd e1 (ep r ml)
   have hi:hx (lL refs) ts (ω b)=.bI:=by rw[h1];simp only[hx,qX]
   refine⟨b,arr,ty,yP id b hp h1,fun dc cy=>?_,(hblk b bz hi).trans ax,aF.map br.sat⟩;by_cases aj:dc<w.heap.size/\hx (lL refs) ts (ω dc)=.bI
   ·rw[hold dc aj.1 aj.2]at cy;cases e:ω dc with
    | bI=>rw[e]at cy;cases cy
    | tok s q=>rw[e]at cy;simp only[p']at cy;split at cy<;>cases cy
    | box hM=>
     rw[e]at cy;simp only[p']at cy;split at cy
     ·simp only[db.box.injEq]at cy;subst cy;exact U dc e
     cases cy
   have gn:n1 t0 refs dm (fK dc)=.box id:=by
    simp only[bc]at cy;rwa[bk aj]at cy
   cases e:fK dc with
   | bI=>rw[e]at gn;cases gn
   | tok s q=>rw[e]at gn;simp only[n1]at gn;split at gn<;>cases gn
   | box fy=>
    rw[e]at gn;simp only[n1]at gn;split at gn
    ·rename_i hM e2;simp only[db.box.injEq]at gn;subst gn;rcases zc e2 with⟨r,aZ,_,bB⟩ | ⟨_,bB⟩
     ·exact absurd bB (ep r aZ)
     exact absurd bB wF
    cases gn
  simp only[aJ.xZ,S0]at ap;cases dm with
  | none=>exact rest id ls (by simp) ap
  | some d=>
   simp only[dM]at ap;by_cases aG:d=id
   ·subst aG;rw[bm rfl]at ap;rw[<-eW ap];cases ih with
    | vals rs=>exact absurd Eu.1 (by simp)
    | iX src ds=>
     obtain⟨_,rfl,hlen⟩:=Eu;obtain⟨fi,_⟩:=fi;rw[Ry _ _ rfl]at fi;refine (var 49 ph v d nk (by omega) hlen (L7 A3) (bm rfl) fi (L6 A3) wP (fun dc fy e _=>?_) (fun dc _ e=>?_)).1
     ·rcases zc e with⟨y,bf,_,e2⟩ | ⟨e2,_⟩
      ·exact absurd (by rw[e2]) (tL cF bf).2.2.1
      exact e2
     simp[sf,ky]at e
   rw[bk aG,zu (fun e=>aG e.symm)]at ap;exact rest id ls (by simpa using aG) ap
 refine⟨bc,cY,⟨a8.defers,by simp[aJ.xZ,a8.size],?_,?_,fun s ao=>?_,fun id b hi cy=>?_,?_,r3⟩,?_⟩
 ·refine⟨av.os.trans a8.below.os,av.tape.trans a8.below.tape,av.output.trans a8.below.output,sW a8.below.size av.size,fun b bz ay=>?_,fun ao=>sW (a8.below.drawn ao) (av.drawn ao),av.laid,a8.below.free⟩;have hJ:b<w.heap.size:=Aj bz a8.below.size;have qV:ω b=.bI:=by
   cases e:ω b with
   | bI=>rfl
   | box id=>exact absurd (a8.owned b (by simp[e])).1 (fun h=>h.elim (fun h=>by omega) ay)
   | tok s q=>exact absurd (a8.owned b (by simp[e])).1 (fun h=>h.elim (fun h=>by omega) ay)
  exact (hblk b hJ (by rw[qV];rfl)).trans (a8.below.block b bz ay)
 ·intro b gD;by_cases aj:b<w.heap.size/\hx (lL refs) ts (ω b)=.bI
  ·rw[hold b aj.1 aj.2]at gD;have U:ω b≠.bI:=fun e=>by rw[e]at gD;exact gD rfl
   obtain⟨ax,arr,ty,aF⟩:=a8.owned b U;exact⟨ax,arr,ty,(hblk b aj.1 aj.2).trans aF⟩
  have U:fK b≠.bI:=fun e=>by
   simp only[bc]at gD;rw[bk aj,e]at gD;exact gD rfl
  obtain⟨arr,ty,aF⟩:=ly b U;refine⟨?_,arr,ty,aF⟩;by_cases bz:b<w.heap.size
  ·have aZ:ω b≠.bI:=fun e=>aj ⟨bz,by rw[e];rfl⟩
   exact (a8.owned b aZ).1
  exact .inl (by have:=a8.below.size;omega)
 ·have:cY s=τ s:=by simp only[cY];rw[bk (by omega)]
  rw[this];exact a8.fixed s ao
 ·by_cases aj:b<w.heap.size/\hx (lL refs) ts (ω b)=.bI
  ·rw[hold b aj.1 aj.2]at cy;cases e:ω b with
   | bI=>rw[e]at cy;cases cy
   | tok s q=>rw[e]at cy;simp only[p']at cy;split at cy<;>cases cy
   | box hM=>
    rw[e]at cy;simp only[p']at cy;split at cy
    ·simp only[db.box.injEq]at cy;subst cy;exact a8.pinned hM b hi e
    cases cy
  have gn:n1 t0 refs dm (fK b)=.box id:=by
   simp only[bc]at cy;rwa[bk aj]at cy
  cases e:fK b with
  | bI=>rw[e]at gn;cases gn
  | tok s q=>rw[e]at gn;simp only[n1]at gn;split at gn<;>cases gn
  | box fy=>
   rw[e]at gn;simp only[n1]at gn;split at gn
   ·rename_i hM e2;simp only[db.box.injEq]at gn;subst gn;rcases zc e2 with⟨r,aZ,rfl,rfl⟩ | ⟨_,bB⟩
    ·obtain⟨⟨eC,arr,ty,g1,g2,g3,_⟩,⟨fG,g4,g5⟩,_⟩:=hrefs r aZ;have cg:=g3 b e;rw[g4]at g1;simp only[ptrTo,Value.pointer.injEq,aV,Addr.mk.injEq]at g1;rw[cg,<-g1.1];exact a8.pinned r.id fG hi g5
    have:=tk _ bB;omega
   cases gn
 ·intro i q aK;simp only[aJ.xZ]at aK;rw[dq,cc]at aK;obtain⟨gM,bG,rfl⟩:=aK;obtain⟨u,h1,U⟩:=a8.env i gM bG;exact⟨u,h1,cW.map br.sat U⟩
 cases ih with
 | iX src ds=>
  obtain⟨wF,rfl,hlen⟩:=Eu;obtain⟨d,rfl⟩:=qt.1 wF;obtain⟨fi,_⟩:=fi;rw[Ry _ _ rfl]at fi;obtain⟨b,h1,U⟩:=(var 49 ph v d nk (by omega) hlen (L7 A3) (bm rfl) fi (L6 A3) wP (fun dc fy e _=>by
   rcases zc e with⟨y,bf,_,e2⟩ | ⟨e2,_⟩
   ·exact absurd (by rw[e2]) (tL cF bf).2.2.1
   exact e2) (fun dc _ e=>by simp[sf,ky]at e)).2
  exact⟨b,U,h1⟩
 | vals rs=>
  obtain⟨rfl,dI⟩:=Eu;simp only[L8,cx,cV]at dI;have eR:∀(r:Nat) (cm:cQ),rs[r]?=some cm->∀ds,cm=.agg ds->ds.length<100:=by
   intro r cm aA ds e;have:=gx.1 dI.2 cm (ft aA);subst e;simpa using this
  have uB:∀(r:Nat) (cm:cQ) (y:Value),r<50->(∀ds,cm=.agg ds->ds.length<100)->rs[r]?=some cm->(∀j,j<100->om rs v (100*r+j)=y.cells.getD j undef)->mR aO fK r cm y->k8 (Sat aO bc cY) (cm.res (t0+100*r)) y:=by
   intro r cm y aA eR Be bp pW;have hy:∀j,j<100->qS rs (100*r+j)=(match cQ.cell j cm with | some (.J k _)=>k | _=>0):=by
    intro j a1;unfold qS;rw[show (100*r+j) / 100=r by omega,show (100*r+j) % 100=j by omega,Be];rfl
   have RL:∀d:D,(match some d with | some (.J k _)=>k | _=>0)=d.ug:=fun d=>by cases d<;>rfl
   cases cm with
   | one d=>
    have h1:=pW.qa;have U:=bp 0 (by omega);rw[BW h1]at U;have:=cell (100*r) d y (by omega) (by
     simp only[aG,aU.ev];rw[bm (by omega)];have ax:=hy 0 (by omega);rw[np]at U ax;rw[ax,U];simp only[cQ.cell,fX];rw[RL];rfl) pW
    exact this
   | agg ds=>
    obtain⟨vs,rfl,aX,a1⟩:=pW;refine⟨vs,rfl,by rw[y9];exact aX,fun j l ap=>?_⟩;rw[B1,cc]at ap;obtain⟨d,ed,rfl⟩:=ap;obtain⟨u,hu,Bf⟩:=a1 j d ed;have jF:j<100:=by
     have:=(ek.1 ed).1;have:=eR ds rfl;omega
    refine⟨u,hu,?_⟩;have:=cell (100*r+j) d u (by omega) (by
     simp only[aG,aU.ev];rw[bm (by omega),hy j jF,bp j jF];simp only[cQ.cell,ed];rw[RL];simp[Value.cells,eG,hu]) Bf
    rw[show t0+100*r+(0+j)=t0+(100*r+j) by omega];exact this
  show cW (Sat aO bc cY) (ud t0 rs) v;cases rs with
  | nil=>
   obtain⟨vs,rfl,aX,_⟩:=fi;exact⟨vs,rfl,aX,fun i a ak=>by simp[ry]at ak⟩
  | cons cm rest=>
   cases rest with
   | nil=>
    have:=uB 0 cm v (by omega) (eR 0 cm rfl) rfl (fun j a1=>by
     unfold om;simp only[Nat.mul_zero,dF];rw[Ao a1]) fi
    exact this
   | cons QA rest=>
    obtain⟨vs,rfl,aX,bp⟩:=fi;refine⟨vs,rfl,by rw[EO];exact aX,fun i a ak=>?_⟩;rw[EN,cc]at ak;obtain⟨oS,h1,rfl⟩:=ak;obtain⟨y,bf,A1⟩:=bp i oS h1;have kp:i<50:=by
     have:=(ek.1 h1).1;omega
    refine⟨y,bf,?_⟩;have:=uB i oS y kp (eR i oS h1) h1 (fun j a1=>by
     unfold om;simp only;rw[show (100*i+j) / 100=i by omega,show (100*i+j) % 100=j by omega];simp[eG,bf]) A1
    rw[dF];exact this
end Go.Sx
namespace Go.Sx
open Go.RowKit
def aH.p7(ts:List (Nat×Nat)):aH->Bool
 | .J g _ _=>g.p7 ts
 | .aQ t _ _ _ _ _=>(look t ts).isSome
 | _=>false
variable{w:World}{ω:Own}{τ:Nat->Nat×Value}{l:aH}
theorem S4{bs ts:List (Nat×Nat)}{d:D}{y:Value}(h:l.hd=some d)(hm:l.p7 ts=false)(ao:Sat w ω τ l y):
  b0 w (fun b=>hx bs ts (ω b)) Tag.free.R d y:=by
 have tag:∀(g:Tag) (b:Nat) (q:List (Nat×Nat)),g.p7 ts=false->g.R q (ω b)->hx bs ts (ω b)=.bI:=by
  intro g b q ay aK;cases g with
  | free=>simp only[Tag.R]at aK;rw[aK];rfl
  | own s=>
   simp only[Tag.R]at aK;simp only[Tag.p7,HU,HV]at ay;rw[aK];simp only[hx,ay]
  | ro s=>
   simp only[Tag.p7,HU,HV]at ay;rcases aK with h | ⟨dJ,h⟩
   ·rw[h];rfl
   rw[h];simp only[hx,ay]
 cases l with
 | cA=>cases h
 | v x=>
  simp only[aH.hd]at h;split at h
  ·simp only[aV]at h;subst h;have:y=x:=ao;subst this;exact .v _ _ ‹_›
  cases h
 | bg c=>
  simp only[aH.hd,aV]at h;subst h;have:y=.bool c:=ao;subst this;exact .v _ _ rfl
 | J t k es=>simp only[aH.hd,aV]at h;subst h;exact ao.1.frame fun b q _ aK=>⟨tag t b q hm aK,rfl⟩
 | ptr=>cases h
 | cP=>cases h
 | hv=>cases h
 | fN=>cases h
 | iK ds off=>
  simp only[aH.hd]at h;split at h
  ·rename_i ba;subst ba;simp only[aV]at h;subst h;obtain⟨b,rfl,aA⟩:=ao;exact aA.frame fun b q _ aK=>⟨tag .free b q rfl aK,rfl⟩
  cases h
 | fd dP=>simp only[aH.hd,aV]at h;subst h;exact b0.frame ao fun b q _ aK=>⟨tag .free b q rfl aK,rfl⟩
 | dw t k es=>simp only[aH.hd,aV]at h;subst h;exact b0.frame ao.1 fun b q _ aK=>⟨tag .free b q rfl aK,rfl⟩
 | aQ t i j k es m=>
  obtain⟨u,hu,aA,_⟩:=ao;have fin:y=u->b0 w (fun b=>hx bs ts (ω b)) Tag.free.R (.J k es) y:=by
   intro e;rw[e];exact aA.frame fun b q _ aK=>⟨tag (.own t) b _ hm aK,rfl⟩
  cases m with
  | at_ x z=>cases h
  | here=>simp only[aH.hd,aV]at h;subst h;exact fin hu
  | mD=>simp only[aH.hd,aV]at h;subst h;exact fin hu
def aL.DS:aL->Option (cQ×List aH)
 | .aI (.one l)=>l.hd.map fun d=>(.one d,[l])
 | .aI (.agg ls)=>(ls.mapM aH.hd).map fun ds=>(.agg ds,ls)
 | _=>none
def xl(i:Nat):Nat->List aH->List (Nat×Nat)
 | _,[]=>[]
 | j,l::ls=>match l.tok with | some t=>(t,rF i j)::xl i (j+1) ls | none=>xl i (j+1) ls
theorem S5{i:Nat}:∀{ls:List aH} {j0 j:Nat} {l:aH} {t:Nat},ls[j]?=some l->l.tok=some t->(t,rF i (j0+j))∈xl i j0 ls
 | [],_,_,_,_,h,_=>by simp at h
 | ea::ls,j0,0,l,t,h,bT=>by
  simp at h;subst h;simp only[xl,bT];exact hX
 | ea::ls,j0,j+1,l,t,h,bT=>by
  have:=S5 (i:=i) (ls:=ls) (j0:=j0+1) (j:=j) (by simpa using h) bT;rw[show j0+1+j=j0+(j+1) by omega]at this;simp only[xl];split
  ·exact iA _ this
  exact this
def qc:aH->Option aH
 | .dw t k es=>some (.dw t k es)
 | .J .free k es=>some (.J .free k es)
 | _=>none
def tM(ls:List aH):List (Option aH):=if (ls.map qc).all Option.isNone then [] else ls.map qc
def aH.G1(l:aH):Option D:=match qc l with | some l=>l.hd | none=>l.jA
theorem B8{hz:aH}(h:qc l=some hz):hz=l/\(∀ts t0 dm,xY ts t0 dm l=l)/\∃k es,l.hd=some (.J k es)/\∀{w ω τ y},Sat w ω τ l y->b0 w ω Tag.free.R (.J k es) y:=by
 unfold qc at h;split at h
 ·rename_i t k es;cases h;exact⟨rfl,fun _ _ _=>rfl,k,es,rfl,fun ao=>ao.1⟩
 ·rename_i k es;cases h;exact⟨rfl,fun _ _ _=>by simp[aH.cu,za,Tag.p7,hj],k,es,rfl,fun ao=>ao.1⟩
 cases h
theorem avO{ls:List aH}{j:Nat}(h:(tM ls)[j]?=some (some l)):ls[j]?=some l/\qc l=some l:=by
 unfold tM at h;split at h
 ·simp at h
 rw[dq,cc]at h;obtain⟨ea,h1,U⟩:=h;have:=(B8 U).1;subst this;exact⟨h1,U⟩
theorem Lg{ls:List aH}{j:Nat}(ap:ls[j]?=some l):stays (lG (tM ls)) j=(qc l).isSome:=by
 unfold tM;split
 ·rename_i h;have:=gx.1 h (qc l) (lo.2 ⟨l,ft ap,rfl⟩);simp only[stays,lG,List.map_nil,List.getD_nil];cases e:qc l with
  | none=>rfl
  | some x=>rw[e]at this;cases this
 simp only[stays,lG,List.map_map,jB,dq,ap];rfl
def wX(cr:List aL):List (Option Nat)->Option (List (Option aH))
 | []=>some []
 | none::r=>(wX cr r).map fun x=>none::x
 | some a::r=>
  match cr[a]? with
  | some (.aI (.one l))=>
   match qc l,wX cr r with
   | some hz,some lm=>some (some hz::lm)
   | _,_=>none
  | _=>none
theorem FQ{cr:List aL}:∀{src:List (Option Nat)} {nk:List (Option aH)},wX cr src=some nk->x0 src=lG nk/\∀(j:Nat) (l:aH),nk[j]?=some (some l)->∃a,src[j]?=some (some a)/\cr[a]?=some (.aI (.one l))/\qc l=some l
 | [],nk,h=>by
  simp only[wX,aV]at h;subst h;exact⟨rfl,fun j l h=>by simp at h⟩
 | none::r,nk,h=>by
  simp only[wX,cc]at h;obtain⟨x,h1,rfl⟩:=h;obtain⟨g1,g2⟩:=FQ h1;refine⟨by simpa[x0,lG]using g1,fun j l a1=>?_⟩;cases j with
  | zero=>simp at a1
  | succ j=>exact g2 j l (by simpa using a1)
 | some a::r,nk,h=>by
  simp only[wX]at h;split at h
  ·rename_i l e;split at h
   ·rename_i hz lm e1 e2;simp only[aV]at h;subst h;obtain⟨g1,g2⟩:=FQ e2;have:=(B8 e1).1;subst this;refine⟨by simpa[x0,lG]using g1,fun j l a1=>?_⟩;cases j with
    | zero=>
     simp only[kh,aV]at a1;subst a1;exact⟨a,rfl,e,e1⟩
    | succ j=>exact g2 j l (by simpa using a1)
   cases h
  cases h
def YM:aL->Option Nat
 | .aI (.one (.ptr id 0))=>some id
 | _=>none
structure DG where
 pE:List aN
 refs:List jX
 ts:List (Nat×Nat)
 qo:List aH
def s9:aL->Option (FuncId×List Nat)
 | .aI (.one (.hv g ids))=>some (g,ids)
 | _=>none
def Sm(id:Nat):aL:=.aI (.one (.ptr id 0))
def qB(bs:mA):Nat->List (Option (List D))->List aL->Option DG
 | _,[],[]=>some ⟨[],[],[],[]⟩
 | i,none::ms,p::cr=>
  match s9 p with
  | some (g,ids)=>(qB bs (i+1) ms cr).map fun r=>⟨.fn g (List.range' (i+1) ids.length)::r.pE,r.refs,r.ts,r.qo⟩
  | none=>
   match p.DS,qB bs (i+1) ms cr with
   | some (cm,ls),some r=>some ⟨.ro cm::r.pE,r.refs,r.ts,ls++r.qo⟩
   | _,_=>none
 | i,some post::ms,p::cr=>
  match YM p,qB bs (i+1) ms cr with
  | some id,some r=>
   match dM id bs with
   | some ls=>
    match ls.mapM aH.G1 with
    | some pre=>some ⟨.jf (lG (tM ls)) pre post::r.pE,⟨i,id,post,tM ls⟩::r.refs,xl i 0 ls++r.ts,r.qo⟩
    | none=>none
   | none=>none
  | _,_=>none
 | _,_,_=>none
def DH(bs:mA)(a:DG)(i:Nat)(jP:aN)(p:aL):Prop:=
 (∃g ids,jP=.fn g (List.range' (i+1) ids.length)/\p=.aI (.one (.hv g ids)))\/
 (∃cm ls,jP=.ro cm/\p.DS=some (cm,ls)/\∀l∈ls,l∈a.qo)\/
 (∃id ls pre post,jP=.jf (lG (tM ls)) pre post/\p=.aI (.one (.ptr id 0))/\dM id bs=some ls/\ls.mapM aH.G1=some pre/\(⟨i,id,post,tM ls⟩:jX)∈a.refs/\∀x∈xl i 0 ls,x∈a.ts)
theorem DH.mono{bs:mA}{a b:DG}{i:Nat}{jP:aN}{p:aL}(h:DH bs a i jP p)(h1:∀l∈a.qo,l∈b.qo)(U:∀x∈a.refs,x∈b.refs)(ax:∀x∈a.ts,x∈b.ts):DH bs b i jP p:=by
 rcases h with h | ⟨cm,ls,e1,e2,cg⟩ | ⟨id,ls,pre,post,e1,e2,cg,eo,h9,nA⟩
 ·exact .inl h
 ·exact .inr (.inl ⟨cm,ls,e1,e2,fun l ap=>h1 l (cg l ap)⟩)
 exact .inr (.inr ⟨id,ls,pre,post,e1,e2,cg,eo,U _ h9,fun x ah=>ax x (nA x ah)⟩)
theorem FR{bs:mA}:∀{ms:List (Option (List D))} {cr:List aL} {i:Nat} {a:DG},qB bs i ms cr=some a->a.pE.length=cr.length/\
  (∀(x:Nat) (jP:aN),a.pE[x]?=some jP->∃p,cr[x]?=some p/\DH bs a (i+x) jP p)/\
  (∀r∈a.refs,∃(x:Nat) (pre:List D),r.i=i+x/\a.pE[x]?=some (.jf (lG r.fU) pre r.post)/\cr[x]?=some (.aI (.one (.ptr r.id 0)))/\∃ls,dM r.id bs=some ls/\r.fU=tM ls)
 | [],[],i,a,h=>by
  simp only[qB,aV]at h;subst h;exact⟨rfl,fun x jP h=>by simp at h,fun r h=>by cases h⟩
 | none::ms,p::cr,i,a,h=>by
  simp only[qB]at h;split at h
  ·rename_i g ids bu;rw[cc]at h;obtain⟨r,e2,rfl⟩:=h;obtain⟨cX,cG,bM⟩:=FR e2;have hp:p=.aI (.one (.hv g ids)):=by
    unfold s9 at bu;split at bu
    ·cases bu;rfl
    cases bu
   refine⟨by simp[cX],fun x jP ah=>?_,fun y bf=>?_⟩
   ·cases x with
    | zero=>
     simp only[kh,aV]at ah;subst ah;exact⟨p,rfl,.inl ⟨g,ids,rfl,hp⟩⟩
    | succ x=>
     obtain⟨re,h1,U⟩:=cG x jP (by simpa using ah);refine⟨re,by simpa using h1,?_⟩;rw[show i+1+x=i+(x+1) by omega]at U;exact U.mono (fun _ h=>h) (fun _ h=>h) (fun _ h=>h)
   obtain⟨x,pre,h1,U,ax,aF⟩:=bM y bf;exact⟨x+1,pre,by omega,by simpa using U,by simpa using ax,aF⟩
  split at h
  ·rename_i cm ls r e1 e2;simp only[aV]at h;subst h;obtain⟨cX,cG,bM⟩:=FR e2;refine⟨by simp[cX],fun x jP ah=>?_,fun y bf=>?_⟩
   ·cases x with
    | zero=>
     simp only[kh,aV]at ah;subst ah;exact⟨p,rfl,.inr (.inl ⟨cm,ls,rfl,e1,fun l ap=>ij _ ap⟩)⟩
    | succ x=>
     obtain⟨re,h1,U⟩:=cG x jP (by simpa using ah);refine⟨re,by simpa using h1,?_⟩;rw[show i+1+x=i+(x+1) by omega]at U;exact U.mono (fun l ap=>jU _ ap) (fun _ h=>h) (fun _ h=>h)
   obtain⟨x,pre,h1,U,ax,aF⟩:=bM y bf;exact⟨x+1,pre,by omega,by simpa using U,by simpa using ax,aF⟩
  cases h
 | some post::ms,p::cr,i,a,h=>by
  simp only[qB]at h;split at h
  ·rename_i id r e1 e2;split at h
   ·rename_i ls cg;split at h
    ·rename_i pre eo;simp only[aV]at h;subst h;obtain⟨cX,cG,bM⟩:=FR e2;have hp:p=.aI (.one (.ptr id 0)):=by
      unfold YM at e1;split at e1
      ·rw[eW e1]
      cases e1
     refine⟨by simp[cX],fun x jP ah=>?_,fun y bf=>?_⟩
     ·cases x with
      | zero=>
       simp only[kh,aV]at ah;subst ah;exact⟨p,rfl,.inr (.inr ⟨id,ls,pre,post,rfl,hp,cg,eo,hX,fun x ah=>ij _ ah⟩)⟩
      | succ x=>
       obtain⟨re,h1,U⟩:=cG x jP (by simpa using ah);refine⟨re,by simpa using h1,?_⟩;rw[show i+1+x=i+(x+1) by omega]at U;exact U.mono (fun _ h=>h) (fun x h=>iA _ h) (fun x h=>jU _ h)
     rcases eP.1 bf with rfl | bf
     ·exact⟨0,pre,rfl,rfl,by simp[hp],ls,cg,rfl⟩
     obtain⟨x,yV,h1,U,ax,aF⟩:=bM y bf;exact⟨x+1,yV,by omega,by simpa using U,by simpa using ax,aF⟩
    cases h
   cases h
  cases h
 | [],_::_,i,a,h=>by simp[qB]at h
 | none::_,[],i,a,h=>by simp[qB]at h
 | some _::_,[],i,a,h=>by simp[qB]at h
def aU.Iy(d:Option Nat):aU->Bool
 | .vals rs=>L8 rs
 | .iX _ ds=>d.isSome&&decide (ds.length<100)
def aU.dm(d:Option Nat):aU->Option Nat
 | .vals _=>none
 | .iX _ _=>d
def aU.ph:aU->List D
 | .vals _=>[]
 | .iX _ ds=>ds
def aU.nk(cr:List aL):aU->Option (List (Option aH))
 | .vals _=>some []
 | .iX src _=>wX cr src
theorem aU.abj{d:Option Nat}{r:aU}(h:r.Iy d=true):r.fits (r.dm d) r.ph:=by
 cases r with
 | vals rs=>exact⟨rfl,h⟩
 | iX src ds=>
  simp only[aU.Iy,cx,cV]at h;exact⟨h.1,rfl,h.2⟩
def ve(n:Nat):Nat->List aN->Bool
 | _,[]=>true
 | i,.fn _ _::r=>i+1==n&&ve n (i+1) r
 | i,_::r=>ve n (i+1) r
theorem FT{n:Nat}:∀{as:List aN} {i x:Nat} {g:FuncId} {cT:List Nat},ve n i as=true->as[x]?=some (.fn g cT)->i+x+1=n
 | [],_,_,_,_,_,h=>by simp at h
 | .fn _ _::r,i,0,g,cT,h,ah=>by
  simp only[ve,cx,dE]at h;omega
 | .fn _ _::r,i,x+1,g,cT,h,ah=>by
  simp only[ve,cx,dE]at h;have:=FT h.2 (x:=x) (by simpa using ah);omega
 | .ro _::r,i,0,g,cT,h,ah=>by simp at ah
 | .jf _ _ _::r,i,0,g,cT,h,ah=>by simp at ah
 | .ro _::r,i,x+1,g,cT,h,ah=>by
  have:=FT (i:=i+1) (by simpa[ve]using h) (x:=x) (by simpa using ah);omega
 | .jf _ _ _::r,i,x+1,g,cT,h,ah=>by
  have:=FT (i:=i+1) (by simpa[ve]using h) (x:=x) (by simpa using ah);omega
def B9(P:Program)(st:aJ)(d:Option Nat)(f:FuncId)(n:Nat)(cr:List aL)(ans:List cf):Option (aJ×List cf×List Prop):=
 match ans with
 | .dp wY ih::r=>
  match qB st.boxes 0 wY cr,ih.nk cr with
  | some a,some nk=>
   let t0:=10000*(d.getD 0+1)
   if hD P f=true/\t0+10000<=dn/\zb a.refs (ih.dm d)=true/\L2 a.ts=true/\ih.Iy d=true/\a.qo.all (fun l=>!(l.p7 a.ts))=true/\uc a.pE=n/\ve n 0 a.pE=true then
    let bC:=st.xZ a.ts t0 a.refs (ih.dm d) nk ih.ph
    match d with
    | some d=>some (⟨bC.env.set d (ih.po t0 (ih.dm (some d))),bC.boxes⟩,r,[bW P f a.pE ih])
    | none=>some (bC,r,[bW P f a.pE ih])
   else none
  | _,_=>none
 | _=>none
def Lh(P:Program)(st:aJ)(d:Option Nat)(f:FuncId)(args:List Operand)(ans:List cf):Option (aJ×List cf×List Prop):=
 match (args.map st.br).getLast?.bind s9 with
 | some (_,ids)=>B9 P st d f args.length (args.map st.br++ids.map Sm) ans
 | none=>B9 P st d f args.length (args.map st.br) ans
def Li(P:Program)(st:aJ)(d:Option Nat)(f:Operand)(args:List Operand)(ans:List cf):Option (aJ×List cf×List Prop):=
 match s9 (st.br f) with
 | some (g,ids)=>if (args.map st.br).all (fun p=>(s9 p).isNone) then B9 P st d g (args.length+ids.length) (args.map st.br++ids.map Sm) ans else none
 | none=>none
variable{a:Act}{P:Program}{w0:eT}{st bC:aJ}{dst:Option Nat}{ans cq:List cf}{obs:List Prop}
theorem Lj{f:FuncId}{n:Nat}{cr:List aL}{vs:Array Value}{o:Oper}
  (I8:o.dst=dst) (a8:cJ w0 st a w ω τ) (h:B9 P st dst f n cr ans=some (bC,cq,obs)) (ba:cL obs) (c':vs.size=cr.length) (hh:∀(x:Nat) (p:aL),cr[x]?=some p->∃v,vs[x]?=some v/\cW (Sat w ω τ) p v)
  (la:∀(x:Nat) (g:FuncId) (ids:List Nat),x+1=n->cr[x]?=some (.aI (.one (.hv g ids)))->vs[x]?=some (.func (.func g) #[] ((List.range' n ids.length).map fun k=>vs.getD k undef).toArray))
  (fm:hD P f=true->(execOp a.eval o).run P w=.ok (.enter f (vs.extract 0 n)) w) {K:Act->World->Prop} {Q:Exit->Act->World->Prop} (gW:∀cK aO,Rel w0 bC cK aO->K cK aO):
  Oper.wp P o a w K Q:=by
 unfold B9 at h;split at h
 ·rename_i wY ih r;split at h
  ·rename_i s3 nk nD wP;simp only at h;split at h
   ·rename_i aj;obtain⟨ib,iU,cF,qX,dI,Bc,Jv,tm⟩:=aj;rw[gx]at Bc;have Bd:∀l∈s3.qo,l.p7 s3.ts=false:=fun l ap=>by simpa using Bc l ap
    obtain⟨hlen,cG,bM⟩:=FR nD
    let sY:Own:=fun b=>hx (lL s3.refs) s3.ts (ω b)
    have cC:∀b,sY b≠.bI->ω b≠.bI:=fun b h e=>h (by simp only[sY,e];rfl)
    have acU:H2 w sY s3.pE vs:=by
     refine⟨fun b av=>(a8.owned b (cC b av)).2,fun b i av=>?_,by rw[c',hlen],fun x jP ah=>?_⟩
     ·simp only[sY]at av;cases e:ω b with
      | bI=>rw[e]at av;cases av
      | tok s q=>rw[e]at av;simp only[hx]at av;split at av<;>cases av
      | box hM=>
       rw[e]at av;simp only[hx]at av;split at av
       ·rename_i fy n';simp only[db.box.injEq]at av;subst av;obtain⟨lm,ep,_,uE⟩:=FP n';obtain⟨x,pre,g1,g2,_⟩:=bM lm ep;exact⟨lG lm.fU,pre,lm.post,by rw[<-uE,g1,dF];exact g2⟩
       cases av
     obtain⟨p,hp,r1⟩:=cG x jP ah;obtain⟨v,bp,ao⟩:=hh x p hp;refine⟨v,bp,?_⟩;rw[dF]at r1;rcases r1 with⟨g,ids,rfl,_⟩ | ⟨cm,ls,rfl,e2,cg⟩ | ⟨id,ls,pre,post,rfl,rfl,cg,eo,h9,nA⟩
     ·exact trivial
     ·cases p with
      | gf as=>cases e2
      | aI aI=>
       cases aI with
       | one l=>
        simp only[aL.DS,cc]at e2;obtain⟨d,h1,U⟩:=e2;simp only[bH]at U;obtain⟨rfl,rfl⟩:=U;exact S4 h1 (Bd l (cg l (by simp))) ao
       | agg fz=>
        simp only[aL.DS,cc]at e2;obtain⟨ds,h1,U⟩:=e2;simp only[bH]at U;obtain⟨rfl,rfl⟩:=U;obtain⟨ax,aF⟩:=oy h1;obtain⟨vs,rfl,aX,adj⟩:=ao;refine⟨vs,rfl,by omega,fun j d aG=>?_⟩;obtain⟨l,ap,c4⟩:=aF j d aG;obtain⟨u,hu,eY⟩:=adj j l ap;exact⟨u,hu,S4 c4 (Bd l (cg l (ft ap))) eY⟩
     obtain⟨b,av,rfl⟩:=ao;obtain⟨dc,arr,ty,dL,hu,bJ,e3⟩:=a8.boxes id ls cg;have:=hu b av;subst this;have Rt:=S3 cF h9;simp only at Rt;obtain⟨ax,aF⟩:=oy eo;refine⟨⟨b,arr,ty,rfl,by simp only[sY,av,hx,Rt],fun c aj=>?_,bJ,by have:=e3.1;omega,fun j d aG=>?_⟩,fun j d aG fb=>?_⟩
     ·simp only[sY]at aj;cases e:ω c with
      | bI=>rw[e]at aj;cases aj
      | tok s q=>rw[e]at aj;simp only[hx]at aj;split at aj<;>cases aj
      | box hM=>
       rw[e]at aj;simp only[hx]at aj;split at aj
       ·rename_i fy n';simp only[db.box.injEq]at aj;subst aj;obtain⟨lm,ep,aba,uE⟩:=FP n';have:=((tL cF h9).2.2.2 lm ep).1 uE;subst this;exact hu c (by rw[e,<-aba])
       cases aj
     rotate_left
     ·obtain⟨l,ap,c4⟩:=aF j d aG;obtain⟨u,f',eY⟩:=e3.2 j l ap;rw[Lg ap]at fb;obtain⟨hz,qW⟩:=qt.1 fb;obtain⟨rfl,_,k,es,ck,dd⟩:=B8 qW;simp only[aH.G1,qW]at c4;rw[ck]at c4;cases c4;have e:jw w (.pointer (some ⟨b,0,none⟩)) j=u:=by simp[jw,bJ,eG,f']
      rw[e];refine (dd eY).frame fun c q _ aK=>⟨?_,rfl⟩
      simp only[Tag.R]at aK ⊢;simp only[sY,aK,hx]
     obtain⟨l,ap,c4⟩:=aF j d aG;obtain⟨u,f',eY⟩:=e3.2 j l ap;refine⟨u,f',fun fb=>?_⟩;rw[Lg ap]at fb;have RF:qc l=none:=by simpa using fb
     simp only[aH.G1,RF]at c4;clear fb RF;cases l with
     | v z=>
      simp only[aH.jA]at c4;split at c4
      ·simp only[aV]at c4;subst c4;have:u=z:=eY;subst this;exact .v _ _ ‹_›
      cases c4
     | bg c=>
      simp only[aH.jA,aV]at c4;subst c4;have:u=.bool c:=eY;subst this;exact .v _ _ rfl
     | J g k es=>
      cases g with
      | free=>cases c4
      | ro s=>cases c4
      | own s=>
       simp only[aH.jA,aV]at c4;subst c4;have hm:=nA _ (S5 (i:=x) (j0:=0) ap rfl);rw[dF]at hm;have acz:=SZ qX hm;refine eY.1.frame fun c q _ aK=>⟨?_,rfl⟩
       simp only[Tag.R]at aK ⊢;simp only[sY,aK,hx,acz]
     | cA=>cases c4
     | ptr=>cases c4
     | cP=>cases c4
     | iK=>cases c4
     | fd=>cases c4
     | dw=>cases c4
     | hv=>cases c4
     | aQ=>cases c4
     | fN=>cases c4
    have Ja:HY s3.pE vs:=by
     intro x g cT ah;have tv:=FT tm ah;rw[dF]at tv;obtain⟨p,hp,r1⟩:=cG x _ ah;rw[dF]at r1;rcases r1 with⟨eI,ids,e1,rfl⟩ | ⟨cm,ls,e1,_⟩ | ⟨id,ls,pre,post,e1,_⟩
     ·simp only[aN.fn.injEq]at e1;obtain⟨rfl,rfl⟩:=e1;have:=la x g ids tv hp;rw[tv];exact this
     ·cases e1
     cases e1
    have key:bW P f s3.pE ih->(∀v aO bc cY,cJ w0 (st.xZ s3.ts (10000*(dst.getD 0+1)) s3.refs (ih.dm dst) nk ih.ph) a aO bc cY->cW (Sat aO bc cY) (ih.po (10000*(dst.getD 0+1)) (ih.dm dst)) v->K (a.put dst v) aO)->
      Oper.wp P o a w K Q:=by
     intro Ju IS;unfold Oper.wp;rw[fm ib,<-Jv];simp only[Oper.upon];rw[I8];refine (Ju w _ sY acU Ja (a8.tidy fun b av=>by simp only[sY,av,hx])).mono ?_;rintro e aO ⟨v,rfl,lx,fK,c1,c2,cM,eK⟩;obtain⟨bc,cY,h1,U⟩:=a8.aa5 (10000*(dst.getD 0+1)) (nk:=nk) (ys:=fun i=>vs.getD i undef) cF iU lx fK c1 c2 (fun r aA=>by
      obtain⟨x,pre,g1,g2,g3,g4⟩:=bM r aA;rw[dF]at g1;obtain⟨y,bf,ao⟩:=hh x _ g3;obtain⟨b,av,rfl⟩:=ao;have e:vs.getD r.i undef=ptrTo b:=by rw[g1,eG,bf];rfl
      rw[e];obtain⟨ls,g5,g6⟩:=g4;refine⟨(cM r.i _ pre r.post (ptrTo b) (by rw[g1];exact g2) (by rw[g1];exact bf)).1,⟨b,rfl,av⟩,by rw[g5];rfl⟩) eK (aU.abj dI) (fun d aG=>by
      cases ih with
      | vals rs=>cases aG
      | iX src ds=>
       have aG:dst=some d:=aG;rw[aG]at iU;simp only[il]at iU;omega) (fun r aA j l a1=>by
      obtain⟨x,pre,g1,g2,g3,ls,g5,g6⟩:=bM r aA;rw[dF]at g1;obtain⟨y,bf,ao⟩:=hh x _ g3;obtain⟨b,av,rfl⟩:=ao;have e:vs.getD r.i undef=ptrTo b:=by rw[g1,eG,bf];rfl
      rw[e];rw[g6]at a1;obtain⟨i1,i2⟩:=avO a1;refine⟨(B8 i2).2.1 _ _ _,?_⟩;have fb:stays (lG r.fU) j=true:=by rw[g6,Lg i1,i2];rfl
      rw[(cM r.i _ pre r.post (ptrTo b) (by rw[g1];exact g2) (by rw[g1];exact bf)).2 j fb];obtain⟨dc,arr,ty,dL,hu,bJ,e3⟩:=a8.boxes _ ls g5;have:=hu b av;subst this;obtain⟨u,f',eY⟩:=e3.2 j l i1;have e:jw w (ptrTo b) j=u:=by simp[jw,ptrTo,bJ,eG,f']
      rw[e];exact eY) (fun j l a1=>by
      cases ih with
      | vals rs=>
       simp only[aU.nk,aV]at wP;subst wP;simp at a1
      | iX src ds=>
       obtain⟨_,i2⟩:=FQ wP;obtain⟨x,mO,se,adA⟩:=i2 j l a1;refine⟨(B8 adA).2.1 _ _ _,?_⟩;obtain⟨y,bf,ao⟩:=hh x _ se;have:=eK.2 j x mO;rw[bf]at this;rw[<-eW this];exact ao) (fun src ds e=>by
      subst e;exact (FQ wP).1)
     exact IS v aO bc cY h1 U
    cases dst with
    | none=>
     simp only[aV,bH]at h;obtain⟨rfl,_,rfl⟩:=h;exact key ba.1 fun v aO bc cY h1 _=>gW _ _ ⟨bc,cY,h1⟩
    | some d=>
     simp only[aV,bH]at h;obtain⟨rfl,_,rfl⟩:=h;exact key ba.1 fun v aO bc cY h1 U=>gW _ _ ⟨bc,cY,h1.put U⟩
   cases h
  cases h
 cases h
theorem avP{f:FuncId}{args:Array Operand}{ts:Array TypeId}{type:TypeId}{pos:String}{after:Array Edge}{guard:Option (Nat×Bool)}
  (a8:cJ w0 st a w ω τ) (h:Lh P st dst f args.toList ans=some (bC,cq,obs)) (ba:cL obs) {K:Act->World->Prop} {Q:Exit->Act->World->Prop} (gW:∀cK aO,Rel w0 bC cK aO->K cK aO):
  Oper.wp P ⟨dst,.call ⟨.value (.func f),args,ts⟩,type,pos,after,guard⟩ a w K Q:=by
 have hh:∀(x:Nat) (p:aL),(args.toList.map st.br)[x]?=some p->∃v,(args.map a.eval)[x]?=some v/\cW (Sat w ω τ) p v:=by
  intro x p hp;rw[dq,cc]at hp;obtain⟨o,h1,rfl⟩:=hp;refine⟨a.eval o,?_,a8.br o⟩;rw[Am];rw[iO]at h1;rw[h1];rfl
 have fm:hD P f=true->(execOp a.eval ⟨dst,.call ⟨.value (.func f),args,ts⟩,type,pos,after,guard⟩).run P w=.ok (.enter f (args.map a.eval)) w:=by
  intro ib;unfold hD at ib;split at ib
  ·rename_i fn la;simp only[cx,gT,sT,gy]at ib;have qO:fn.body≠none:=by intro e;rw[e]at ib;simp at ib
   simp[execOp,resolve,Act.eval,Deferred.ofValue,invoke,callFunc,la,ib.1,qO]
  cases ib
 unfold Lh at h;split at h
 ·rename_i g ids uW;rw[ni]at uW;obtain⟨p,hp,ti⟩:=uW;have mj:p=.aI (.one (.hv g ids)):=by
   unfold s9 at ti;split at ti
   ·cases ti;rfl
   cases ti
  subst mj;have wI:0<(args.toList.map st.br).length:=by
   rcases Nat.eq_zero_or_pos (args.toList.map st.br).length with bG | bG
   ·rw[sV bG]at hp;simp at hp
   exact bG
  have RG:(args.toList.map st.br)[args.toList.length-1]?=some (.aI (.one (.hv g ids))):=by
   rw[List.getLast?_eq_getElem?]at hp;simpa using hp
  obtain⟨v,bp,bs,I1,wC,gD⟩:=hh _ _ RG;have aX:0<args.size:=by simpa using wI
  refine Lj (n:=args.toList.length) (vs:=args.map a.eval++(bs.map ptrTo).toArray) rfl a8 h ba (by simp[wC]) (fun x p ah=>?_) (fun x eI adw tv ah=>?_) (fun ib=>?_) gW
  ·rw[l8]at ah;rw[hW];split at ah
   ·rename_i bz;rw[bm (by simpa using bz)];exact hh x p ah
   rename_i nF;rw[bk (by simpa using nF)];rw[dq,cc]at ah;obtain⟨id,gE,rfl⟩:=ah;obtain⟨b,fZ,gK⟩:=gD _ id gE;refine⟨ptrTo b,?_,b,gK,rfl⟩;simp only[bl,v8]at fZ;simp[fZ]
  ·have bz:x<args.size:=by simp at tv;omega
   have yL:x=args.toList.length-1:=by omega
   rw[l8,bm (by simpa using bz),yL,RG]at ah;simp only[aV,aL.aI.injEq,bn.one.injEq,aH.hv.injEq]at ah;obtain⟨rfl,rfl⟩:=ah;rw[hW,bm (by simpa using bz),yL,bp,I1]
   congr 2
   apply Array.ext
   ·simp[wC]
   intro j h1 U;have a1:j<bs.length:=by simpa using h1
   simp[eG,hW,a1];rw[bk (by omega)];rfl
  have e:(args.map a.eval++(bs.map ptrTo).toArray).extract 0 args.toList.length=args.map a.eval:=by
   apply Array.ext
   ·simp
   intro j h1 U;have a1:j<args.size:=by simpa using U
   simp[Array.getElem_append,a1]
  rw[e];exact fm ib
 refine Lj (n:=args.toList.length) (vs:=args.map a.eval) rfl a8 h ba (by simp) hh (fun x g ids tv ah=>?_) (fun ib=>?_) gW
 ·rename_i jt;exfalso;have:(args.toList.map st.br).getLast?=some (.aI (.one (.hv g ids))):=by
   rw[List.getLast?_eq_getElem?];rw[<-ah]
   congr 1
   simp;simp at tv;omega
  rw[this]at jt;simp[s9]at jt
 have e:(args.map a.eval).extract 0 args.toList.length=args.map a.eval:=by simp
 rw[e];exact fm ib
theorem avQ{y:Nat}{args:Array Operand}{ts:Array TypeId}{type:TypeId}{pos:String}{after:Array Edge}{guard:Option (Nat×Bool)}
  (a8:cJ w0 st a w ω τ) (h:Li P st dst (.tmp y) args.toList ans=some (bC,cq,obs)) (ba:cL obs) {K:Act->World->Prop} {Q:Exit->Act->World->Prop} (gW:∀cK aO,Rel w0 bC cK aO->K cK aO):
  Oper.wp P ⟨dst,.call ⟨.value (.tmp y),args,ts⟩,type,pos,after,guard⟩ a w K Q:=by
 have hh:∀(x:Nat) (p:aL),(args.toList.map st.br)[x]?=some p->∃v,(args.map a.eval)[x]?=some v/\cW (Sat w ω τ) p v:=by
  intro x p hp;rw[dq,cc]at hp;obtain⟨o,h1,rfl⟩:=hp;refine⟨a.eval o,?_,a8.br o⟩;rw[Am];rw[iO]at h1;rw[h1];rfl
 unfold Li at h;split at h
 ·rename_i g ids ti;have mj:st.br (.tmp y)=.aI (.one (.hv g ids)):=by
   unfold s9 at ti;split at ti
   ·rename_i e;cases ti;exact e
   cases ti
  have ao:=a8.br (.tmp y);rw[mj]at ao;obtain⟨bs,I1,wC,gD⟩:=ao;split at h
  case isFalse=>cases h
  rename_i jt;refine Lj (n:=args.toList.length+ids.length) (vs:=args.map a.eval++(bs.map ptrTo).toArray) rfl a8 h ba (by simp[wC]) (fun x p ah=>?_) (fun x eI adw tv ah=>?_) (fun ib=>?_) gW
  ·rw[l8]at ah;rw[hW];split at ah
   ·rename_i bz;rw[bm (by simpa using bz)];exact hh x p ah
   rename_i nF;rw[bk (by simpa using nF)];rw[dq,cc]at ah;obtain⟨id,gE,rfl⟩:=ah;obtain⟨b,fZ,gK⟩:=gD _ id gE;refine⟨ptrTo b,?_,b,gK,rfl⟩;simp only[bl,v8]at fZ;simp[fZ]
  ·exfalso;rw[l8]at ah;split at ah
   ·rename_i bz;have:=gx.1 jt _ (ft ah);simp[s9]at this
   rw[dq,cc]at ah;obtain⟨id,_,e⟩:=ah;cases e
  have e:(args.map a.eval++(bs.map ptrTo).toArray).extract 0 (args.toList.length+ids.length)=args.map a.eval++(bs.map ptrTo).toArray:=by
   have e2:args.toList.length+ids.length=(args.map a.eval++(bs.map ptrTo).toArray).size:=by simp[wC]
   rw[e2,Array.extract_size]
  rw[e];unfold hD at ib;split at ib
  ·rename_i fn la;simp only[cx,gT,sT,gy]at ib;have qO:fn.body≠none:=by intro e;rw[e]at ib;simp at ib
   simp[execOp,resolve,I1,Deferred.ofValue,invoke,callFunc,la,ib.1,qO]
  cases ib
 cases h
