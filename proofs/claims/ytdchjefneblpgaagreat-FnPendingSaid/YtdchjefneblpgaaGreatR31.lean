import Derived.Test.YtdchjefneblpgaaGreatR11
set_option linter.unusedVariables false
set_option linter.unusedSimpArgs false
namespace Go.Sx
open Go.RowKit
inductive aJ where
 | ro (a:cH)
 | iv (pn:List Bool) (pre post:List D)
 | fn (g:FuncId) (cK:List Nat)
abbrev aJ.ref (pre post : List D) : aJ := .iv [] pre post
abbrev aJ.cur(pre post:List D):aJ:=.iv [true,false,false] pre post
def stays(pn:List Bool)(j:Nat):Bool:=pn.getD j false
def iL(w:World)(y:Value)(j:Nat):Value:=
 match y with
 | .pointer (some p)=>match w.heap[p.block]? with | some (.cells arr _ _)=>arr.getD j undef | _=>undef
 | _=>undef
def qD(i j:Nat):Nat:=900000000+(100*i+j)
def hD(i j:Nat):Nat:=5000+(100*i+j)
def u'(w:World)(ω:Own)(i:Nat)(pn:List Bool)(f:Nat->Nat)(ds:List D)(y:Value):Prop:=
 ∃b arr ty,y=ptrTo b/\ω b=.box i/\(∀cT,ω cT=.box i->cT=b)/\w.heap[b]?=some (.cells arr ty (0,0))/\arr.size=ds.length/\∀(j:Nat) (d:D),ds[j]?=some d->∃u,arr[j]?=some u/\(stays pn j=false->bR w ω (Tag.own (f j)).R d u)
def Wb(w:World)(ω:Own)(i:Nat):aJ->Value->Prop
 | .ro (.one d),y=>bR w ω Tag.free.R d y
 | .ro (.agg ds),y=>∃vs:Array Value,y=.agg vs/\vs.size=ds.length/\∀(j:Nat) (d:D),ds[j]?=some d->∃u,vs[j]?=some u/\bR w ω Tag.free.R d u
 | .iv pn pre _,y=>u' w ω i pn (qD i) pre y/\∀(j:Nat) (d:D),pre[j]?=some d->stays pn j=true->bR w ω Tag.free.R d (iL w y j)
 | .fn _ _,_=>True
def aJ.bA:aJ->Nat
 | .fn _ cK=>cK.length
 | _=>0
def td(args:List aJ):Nat:=args.length-(args.map aJ.bA).sum
def FU(args:List aJ)(vs:Array Value):Prop:=∀(i:Nat) (g:FuncId) (cK:List Nat),args[i]?=some (.fn g cK)->vs[i]?=some (.func (.func g) #[] (cK.map fun k=>vs.getD k undef).toArray)
def Dy(w:World)(ω:Own):Prop:=∀b,ω b≠.bx->∃arr ty,w.heap[b]?=some (.cells arr ty (0,0))
def F3(w:World)(ω:Own)(args:List aJ)(vs:Array Value):Prop:=Dy w ω/\(∀b i,ω b=.box i->∃pn pre post,args[i]?=some (.iv pn pre post))/\vs.size=args.length/\∀(i:Nat) (jd:aJ),args[i]?=some jd->∃v,vs[i]?=some v/\Wb w ω i jd v
def xa(src:List (Option Nat)):List Bool:=src.map Option.isSome
def Cq(w:World)(ω:Own)(vs:Array Value):aT->Value->Prop
 | .vals rs,v=>mY w ω rs v
 | .iH src ds,v=>u' w ω 49 (xa src) (hD 49) ds v/\∀(j i:Nat),src[j]?=some (some i)->vs[i]?=some (iL w v j)
def bU(P:Program)(f:FuncId)(args:List aJ)(r:aT):Prop:=
 ∀(w:World) (vs:Array Value) (ω:Own),F3 w ω args vs->FU args vs->Tidy w ω->Calls P f (vs.extract 0 (td args)) w fun e aG=>∃v,e=.returned v/\gn ⟨w,fun b=>ω b≠.bx,fun _=>(0,undef)⟩ aG/\
  ∃aY:Own,(∀b,b<w.heap.size->ω b=.bx->aY b=.bx)/\Dy aG aY/\(∀(i:Nat) (pn:List Bool) (pre post:List D) (y:Value),args[i]?=some (.iv pn pre post)->vs[i]?=some y->u' aG aY i pn (hD i) post y/\∀j,stays pn j=true->iL aG y j=iL w y j)/\Cq aG aY vs r v
abbrev aqU:=List (Nat×Nat)
def look(t:Nat):List (Nat×Nat)->Option Nat
 | []=>none
 | (s,n)::r=>if s=t then some n else look t r
def Ig(ts:List (Nat×Nat)):Bool:=ts.all fun x=>ts.all fun y=>(x.1==y.1)==(x.2==y.2)
variable{ts:List (Nat×Nat)}
theorem O9{t n:Nat}(h:Ig ts=true)(hm:(t,n)∈ts):look t ts=some n:=by
 have key:∀l:List (Nat×Nat),(∀x∈l,x∈ts)->(t,n)∈l->look t l=some n:=by
  intro l;induction l with
  | nil=>intro _ h;cases h
  | cons x l dt=>
   intro ae hm;obtain⟨s,m⟩:=x;simp only[look];split
   ·rename_i e;subst e;have h1:=fN.1 (fN.1 h _ (ae _ eF)) _ (by exact ‹(s,n)∈ts›);simp only[xg,eu]at h1;have:(m==n)=true:=by rw[<-h1]
    simp only[eu]at this;rw[this]
   rename_i b5;rcases dG.1 hm with e | hm
   ·simp only[bw]at e;exact absurd e.1.symm b5
   exact dt (fun x aa=>ae x (fc _ aa)) hm
 exact key ts (fun _ h=>h) hm
theorem ajz{t n:Nat}(h:look t ts=some n):(t,n)∈ts:=by
 induction ts with
 | nil=>cases h
 | cons x l dt=>
  obtain⟨s,m⟩:=x;simp only[look]at h;split at h
  ·rename_i e;subst e;rw[ei h];exact eF
  exact fc _ (dt h)
def gS(bs ts:List (Nat×Nat)):cS->cS
 | .bx=>.bx
 | .box id=>match look id bs with | some i=>.box i | none=>.bx
 | .tok t q=>match look t ts with | some n=>.tok n q | none=>.bx
def Tag.pe(ts:List (Nat×Nat)):Tag->Bool
 | .free=>false
 | .own t=>(look t ts).isSome
 | .ro t=>(look t ts).isSome
def re:Option Nat->Nat->Bool
 | none=>fun _=>true
 | some d=>jF d
def ye(ts:List (Nat×Nat))(t0:Nat)(g:Tag):Option Tag:=if g.pe ts then none else gH t0 g
abbrev w9(ts:List (Nat×Nat))(t0:Nat)(du:Option Nat)(l:aC):aC:=l.cm (ye ts t0) (re du)
structure jl where
 i:Nat
 id:Nat
 post:List D
 ey:List (Option aC)
def kJ(cK:List (Option aC)):List Bool:=cK.map Option.isSome
def k0:List (Option aC)->List aC->List aC
 | [],ls=>ls
 | _,[]=>[]
 | some l::cK,_::ls=>l::k0 cK ls
 | none::cK,l::ls=>l::k0 cK ls
theorem Dz:∀(cK:List (Option aC)) (ls:List aC),(k0 cK ls).length=ls.length
 | [],ls=>rfl
 | _::_,[]=>by simp[k0]
 | some l::cK,_::ls=>by simp[k0,Dz cK ls]
 | none::cK,_::ls=>by simp[k0,Dz cK ls]
theorem Ih:∀(cK:List (Option aC)) (ls:List aC) (j:Nat) (l:aC),(k0 cK ls)[j]?=some l->(cK[j]?=some (some l)/\stays (kJ cK) j=true)\/(ls[j]?=some l/\stays (kJ cK) j=false)
 | [],ls,j,l,h=>.inr ⟨h,by simp[stays,kJ]⟩
 | _::_,[],j,l,h=>by simp[k0]at h
 | some k::cK,x::ls,0,l,h=>by simp only[k0,iy,aQ]at h;subst h;exact .inl ⟨rfl,rfl⟩
 | none::cK,x::ls,0,l,h=>by simp only[k0,iy]at h;exact .inr ⟨h,rfl⟩
 | some k::cK,x::ls,j+1,l,h=>by
  have:=Ih cK ls j l (by simpa[k0]using h);simpa[stays,kJ]using this
 | none::cK,x::ls,j+1,l,h=>by
  have:=Ih cK ls j l (by simpa[k0]using h);simpa[stays,kJ]using this
def we(t0:Nat):List jl->List (Nat×List aC)->List (Nat×List aC)
 | [],bs=>bs
 | r::rs,bs=>we t0 rs (qs r.id (k0 r.ey (nM (t0+hD r.i 0) 0 r.post)) bs)
def O'(t0:Nat)(du:Option Nat)(nk:List (Option aC))(ds:List D)(bs:List (Nat×List aC)):List (Nat×List aC):=
 match du with
 | some d=>(d,k0 nk (nM (t0+hD 49 0) 0 ds))::pC d bs
 | none=>bs
def aE.w'(st:aE)(ts:List (Nat×Nat))(t0:Nat)(refs:List jl)(du:Option Nat)(nk:List (Option aC))(ds:List D):aE:=
 ⟨st.env.map (aB.map (w9 ts t0 du)),O' t0 du nk ds (we t0 refs (st.boxes.map fun x=>(x.1,x.2.map (w9 ts t0 du))))⟩
def ph(t0:Nat)(du:Option Nat):cS->cS
 | .tok s q=>if t0<=s/\s<t0+10000 then .bx else .tok s q
 | .box id=>if re du id then .box id else .bx
 | .bx=>.bx
def pc(i:Nat)(du:Option Nat):List jl->Option Nat
 | []=>if i=49 then du else none
 | r::rs=>if r.i=i then some r.id else pc i du rs
def np(t0:Nat)(refs:List jl)(du:Option Nat):cS->cS
 | .tok s q=>if s<10000 then .tok (t0+s) q else .bx
 | .box i=>match pc i du refs with | some id=>.box id | none=>.bx
 | .bx=>.bx
def D.th:D->Nat
 | .J k _=>k
 | _=>0
def wg(i:Nat)(ds:List D):List jl->List D
 | []=>ds
 | r::rs=>if r.i=i then r.post else wg i ds rs
def kL(refs:List jl):List (Nat×Nat):=refs.map fun r=>(r.id,r.i)
def yf:List jl->Option Nat->Bool
 | [],_=>true
 | x::r,du=>decide (x.i<49)&&decide (x.post.length<100)&&decide (du≠some x.id)&&r.all (fun y=>x.i != y.i&&x.id != y.id)&&yf r du
variable{id:Nat}
theorem Jv{t0:Nat}:∀{refs:List jl} {bs:List (Nat×List aC)},(∀r∈refs,r.id≠id)->dj id (we t0 refs bs)=dj id bs
 | [],bs,_=>rfl
 | r::rs,bs,h=>by
  simp only[we];rw[Jv fun x aa=>h x (fc _ aa),yJ (Ne.symm (h r eF))]
theorem ajA{hb:Nat}{ls:List aC}:∀{bs:List (Nat×List aC)},(dj id bs).isSome=true->(dj id (qs hb ls bs)).isSome=true:=by
 intro bs h;by_cases e:id=hb
 ·subst e;obtain⟨x,aa⟩:=pL.1 h;rw[yI aa];rfl
 rw[yJ e];exact h
theorem Pb{t0:Nat}:∀{refs:List jl} {bs:List (Nat×List aC)} {r:jl},r∈refs->(∀x∈refs,x.id=r.id->x=r)->(dj r.id bs).isSome=true->dj r.id (we t0 refs bs)=some (k0 r.ey (nM (t0+hD r.i 0) 0 r.post))
 | [],_,_,h,_,_=>by cases h
 | x::rs,bs,r,h,hu,ae=>by
  simp only[we];by_cases hm:r∈rs
  ·exact Pb hm (fun y a1=>hu y (fc _ a1)) (ajA ae)
  rcases dG.1 h with e | h
  ·subst e;obtain⟨l,af⟩:=pL.1 ae;rw[Jv,yI af];intro y a1 e;have:=hu y (fc _ a1) e;subst this;exact hm a1
  exact absurd h hm
variable{du:Option Nat}
theorem ta:∀{refs:List jl},yf refs du=true->∀{x:jl},x∈refs->x.i<49/\x.post.length<100/\du≠some x.id/\∀y∈refs,(y.i=x.i->y=x)/\(y.id=x.id->y=x)
 | [],_,x,aa=>by cases aa
 | z::r,h,x,aa=>by
  simp only[yf,ca,ci,fN,bne_iff_ne,ho]at h;obtain⟨⟨⟨⟨h1,U⟩,au⟩,aH⟩,ba⟩:=h;rcases dG.1 aa with e | lr
  ·subst e;refine⟨h1,U,au,fun y a1=>?_⟩;rcases dG.1 a1 with e | a1
   ·exact⟨fun _=>e,fun _=>e⟩
   exact⟨fun e=>absurd e.symm (aH y a1).1,fun e=>absurd e.symm (aH y a1).2⟩
  obtain⟨cC,b6,eH,l1⟩:=ta ba lr;refine⟨cC,b6,eH,fun y a1=>?_⟩;rcases dG.1 a1 with e | a1
  ·subst e;exact⟨fun e=>absurd e (aH x lr).1,fun e=>absurd e (aH x lr).2⟩
  exact l1 y a1
theorem Jw:∀{refs:List jl} {r:jl},r∈refs->(∀y∈refs,y.i=r.i->y.id=r.id)->pc r.i du refs=some r.id
 | [],_,h,_=>by cases h
 | x::rs,r,h,hu=>by
  simp only[pc];split
  ·rename_i e;rw[hu x eF e]
  rename_i e;rcases dG.1 h with e1 | h
  ·subst e1;exact absurd rfl e
  exact Jw h fun y a1=>hu y (fc _ a1)
theorem yg{i:Nat}:∀{refs:List jl},pc i du refs=some id->(∃r∈refs,r.i=i/\r.id=id)\/(i=49/\du=some id)
 | [],h=>by
  simp only[pc]at h;split at h
  ·exact .inr ⟨‹_›,h⟩
  cases h
 | x::rs,h=>by
  simp only[pc]at h;split at h
  ·rename_i e;exact .inl ⟨x,eF,e,ei h⟩
  rcases yg h with⟨r,ar,h1⟩ | h1
  ·exact .inl ⟨r,fc _ ar,h1⟩
  exact .inr h1
theorem Jx:∀{refs:List jl},(∀r∈refs,r.i<49)->pc 49 du refs=du
 | [],_=>by simp[pc]
 | x::rs,h=>by
  simp only[pc];rw[aX (by have:=h x eF;omega)];exact Jx fun r ar=>h r (fc _ ar)
theorem OC{ds:List D}:∀{refs:List jl} {r:jl},r∈refs->(∀y∈refs,y.i=r.i->y=r)->wg r.i ds refs=r.post
 | [],_,h,_=>by cases h
 | x::rs,r,h,hu=>by
  simp only[wg];split
  ·rename_i e;rw[hu x eF e]
  rename_i e;rcases dG.1 h with e1 | h
  ·subst e1;exact absurd rfl e
  exact OC h fun y a1=>hu y (fc _ a1)
theorem Jy{ds:List D}:∀{refs:List jl},(∀r∈refs,r.i<49)->wg 49 ds refs=ds
 | [],_=>rfl
 | x::rs,h=>by
  simp only[wg];rw[aX (by have:=h x eF;omega)];exact Jy fun r ar=>h r (fc _ ar)
variable{refs:List jl}
theorem OD(h:yf refs du=true){r:jl}(ar:r∈refs):look r.id (kL refs)=some r.i:=by
 refine O9 ?_ (h'.2 ⟨r,ar,rfl⟩);unfold Ig;rw[fN];intro x aa;rw[fN];intro y a1;obtain⟨rx,Yy,rfl⟩:=h'.1 aa;obtain⟨Fj,Yz,rfl⟩:=h'.1 a1;have:=(ta h Yy).2.2.2 Fj Yz;simp only[eu];by_cases e:Fj=rx
 ·subst e;simp
 have e1:¬rx.id=Fj.id:=fun e1=>e (this.2 e1.symm)
 have e2:¬rx.i=Fj.i:=fun e2=>e (this.1 e2.symm)
 rw[uZ.2 e1,uZ.2 e2]
theorem DA{i:Nat}(h:look id (kL refs)=some i):∃r∈refs,r.id=id/\r.i=i:=by
 obtain⟨r,ar,e⟩:=h'.1 (ajz h);simp only[bw]at e;exact⟨r,ar,e.1,e.2⟩
def Jz(rs:List cH):Bool:=decide (rs.length<50)&&rs.all fun | .one _=>true | .agg ds=>ds.length<100
def aT.fits(du:Option Nat)(oA:List D):aT->Prop
 | .vals rs=>du=none/\Jz rs=true
 | .iH _ ds=>du.isSome=true/\oA=ds/\ds.length<100
def aT.dS(v:Value)(n:Nat):aT->Nat×Value
 | .vals rs=>(p1 rs n,nA rs v n)
 | .iH _ _=>(0,undef)
def aT.oE(t0:Nat)(du:Option Nat):aT->aB
 | .vals rs=>te t0 rs
 | .iH _ _=>.one (.ptr (du.getD 0) 0)
theorem cx.Wr{w0:ev}{st:aE}{a:Act}{w aG:World}{ω:Own}{τ:Nat->Nat×Value}(aV:cx w0 st a w ω τ)(t0:Nat){nk:List (Option aC)}{oA:List D}{hK:aT}{v:Value}{vs:Array Value}{ys:Nat->Value}{H:Nat->Nat×Value}
  (bH:yf refs du=true) (ih:t0+10000<=c5) (ah:gn ⟨w,fun b=>gS (kL refs) ts (ω b)≠.bx,H⟩ aG) (fe:Own)
  (kQ:∀b,b<w.heap.size->gS (kL refs) ts (ω b)=.bx->fe b=.bx) (kC:Dy aG fe)
  (hrefs:∀r∈refs,u' aG fe r.i (kJ r.ey) (hD r.i) r.post (ys r.i)/\(∃b,ys r.i=ptrTo b/\ω b=.box r.id)/\(dj r.id st.boxes).isSome=true) (eA:Cq aG fe vs hK v) (C':hK.fits du oA) (ss:∀d,du=some d->d<c5)
  (G4:∀r∈refs,∀(j:Nat) (l:aC),r.ey[j]?=some (some l)->w9 ts t0 du l=l/\Sat w ω τ l (iL aG (ys r.i) j)) (vJ:∀(j:Nat) (l:aC),nk[j]?=some (some l)->w9 ts t0 du l=l/\Sat w ω τ l (iL aG v j))
  (NK:∀src ds,hK=.iH src ds->xa src=kJ nk):
  ∃aY cN,cx w0 (st.w' ts t0 refs du nk oA) a aG aY cN/\cM (Sat aG aY cN) (hK.oE t0 du) v:=by
 classical
 let aY:Own:=fun b=>if b<w.heap.size/\gS (kL refs) ts (ω b)=.bx then ph t0 du (ω b) else np t0 refs du (fe b)
 let ax:Nat->Nat×Value:=fun n=>if n<5000 then hK.dS v n else
  ((((wg ((n-5000) / 100) oA refs)[(n-5000) % 100]?).map D.th).getD 0,iL aG (if (n-5000) / 100=49 then v else ys ((n-5000) / 100)) ((n-5000) % 100))
 let cN:Nat->Nat×Value:=fun s=>if t0<=s/\s<t0+10000 then ax (s-t0) else τ s
 have zI:∀r∈refs,r.i<49:=fun r ar=>(ta bH ar).1
 have hold:∀b,b<w.heap.size->gS (kL refs) ts (ω b)=.bx->aY b=ph t0 du (ω b):=fun b h1 U=>by simp only[aY];rw[a6 ⟨h1,U⟩]
 have gh:∀b,fe b≠.bx->aY b=np t0 refs du (fe b):=fun b h=>by
  simp only[aY];rw[aX];rintro⟨h1,U⟩;exact h (kQ b h1 U)
 have hblk:∀b,b<w.heap.size->gS (kL refs) ts (ω b)=.bx->aG.heap[b]?=w.heap[b]?:=fun b h1 U=>ah.block b h1 (fun aL=>aL U)
 have z7:∀r∈refs,∀b,ω b=.box r.id->fe b=.box r.i/\ys r.i=ptrTo b:=by
  intro r ar b cq;obtain⟨⟨fQ,arr,ty,h1,U,_⟩,⟨fH,au,aH⟩,ba⟩:=hrefs r ar;obtain⟨ls,vC⟩:=pL.1 ba;obtain⟨nn,_,_,_,hu,_⟩:=aV.boxes r.id ls vC;have e1:=hu b cq;have e2:=hu fH aH;have b2:fH=b:=by rw[e1,e2]
  subst b2;rw[au]at h1;simp only[ptrTo,Value.pointer.injEq,aQ,Addr.mk.injEq]at h1;obtain⟨rfl,_⟩:=h1;exact⟨U,au⟩
 have xS:∀id b,re du id=true->ω b=.box id->aY b=.box id:=by
  intro id b hp cq;have bq:=aV.owned.lt (b:=b) (by simp[cq]);cases e:look id (kL refs) with
  | none=>
   have hi:gS (kL refs) ts (ω b)=.bx:=by rw[cq];simp only[gS,e]
   rw[hold b bq hi,cq];simp only[ph,hp,fO]
  | some i=>
   obtain⟨r,ar,rfl,rfl⟩:=DA e;obtain⟨h1,_⟩:=z7 r ar b cq;rw[gh b (by rw[h1];simp),h1];simp only[np];rw[Jw ar fun y a1 e=>by rw[((ta bH ar).2.2.2 y a1).1 e]]
 have bk:lQ w ω τ aG aY cN (ye ts t0) (re du):=by
  refine⟨?_,?_,fun id b hp h=>xS id b hp h,?_,fun s ae=>by simp only[cN];rw[aX (by omega)]⟩
  ·intro g ec b q ao bq av;unfold ye at ao;split at ao
   ·cases ao
   rename_i hm;simp only[tq]at hm;have hi:gS (kL refs) ts (ω b)=.bx:=by
    cases g with
    | free=>simp only[Tag.R]at av;rw[av];rfl
    | own s=>
     simp only[Tag.R]at av;simp only[Tag.pe,FO,FP]at hm;rw[av];simp only[gS,hm]
    | ro s=>
     simp only[Tag.pe,FO,FP]at hm;rcases av with h | ⟨dh,h⟩
     ·rw[h];rfl
     rw[h];simp only[gS,hm]
   refine⟨?_,hblk b bq hi⟩;rw[hold b bq hi];cases g with
   | free=>simp only[gH,aQ]at ao;subst ao;simp only[Tag.R]at av ⊢;rw[av];rfl
   | own s=>
    simp only[Tag.R]at av;simp only[gH]at ao;rw[av];simp only[ph];split at ao
    ·simp only[aQ]at ao;subst ao;rw[a6 ‹_›];rfl
    simp only[aQ]at ao;subst ao;rw[aX ‹_›];rfl
   | ro s=>
    simp only[Tag.R]at av;simp only[gH]at ao;split at ao
    ·simp only[aQ]at ao;subst ao;rcases av with h | ⟨dh,h⟩
     ·rw[h];rfl
     rw[h];simp only[ph];rw[a6 ‹_›];rfl
    simp only[aQ]at ao;subst ao;rcases av with h | ⟨dh,h⟩
    ·rw[h];exact .inl rfl
    rw[h];simp only[ph];rw[aX ‹_›];exact .inr ⟨dh,rfl⟩
  ·intro g ec y ao a1;unfold ye at ao;split at ao
   ·cases ao
   cases g with
   | free=>simp only[gH,aQ]at ao;subst ao;exact trivial
   | own s=>
    simp only[gH]at ao;split at ao
    ·simp only[aQ]at ao;subst ao;exact trivial
    simp only[aQ]at ao;subst ao;simp only[Tag.dS,cN]at a1 ⊢;rw[aX ‹_›];exact a1
   | ro s=>
    simp only[gH]at ao;split at ao
    ·simp only[aQ]at ao;subst ao;exact trivial
    simp only[aQ]at ao;subst ao;exact trivial
  rfl
 have cell:∀(n:Nat) (d:D) (u:Value),n<10000->ax n=(d.th,u)->bR aG fe (Tag.own n).R d u->Sat aG aY cN (d.pE (t0+n)) u:=by
  intro n d u aL bj ar;cases d with
  | v x=>
   have e:u=x:=by cases ar;rfl
   subst e;unfold D.pE;split
   ·rename_i h;cases h;exact rfl
   ·rename_i h;cases h;exact rfl
   ·rename_i h;cases h
   ·exact trivial
   exact trivial
  | ptr ds=>exact trivial
  | cl g bA=>exact trivial
  | J k es=>
   refine⟨ar.frame fun b q bq av=>⟨?_,rfl⟩,?_⟩
   ·simp only[Tag.R]at av ⊢;rw[gh b (by rw[av];simp),av];simp only[np];rw[a6 aL]
   simp only[Tag.dS,cN];rw[a6 (by omega),show t0+n-t0=n by omega,bj];rfl
 have var:∀(i:Nat) (post:List D) (y:Value) (id:Nat) (cK:List (Option aC)),i<50->post.length<100->wg i oA refs=post->(if i=49 then v else ys i)=y->u' aG fe i (kJ cK) (hD i) post y->pc i du refs=some id->(∀(j:Nat) (l:aC),cK[j]?=some (some l)->w9 ts t0 du l=l/\Sat w ω τ l (iL aG y j))->
   (∀cT fy,pc fy du refs=some id->fe cT=.box fy->fy=i)->(∀cT,ω cT=.box id->re du id=true->¬gS (kL refs) ts (ω cT)=.bx)->tt aG aY cN id (k0 cK (nM (t0+hD i 0) 0 post))/\∃b,y=ptrTo b/\aY b=.box id:=by
  rintro i post y id cK hi sA Yr a1 ⟨b,arr,ty,rfl,U,au,aH,ba,br⟩ fX XZ XO gi;have c7:aY b=.box id:=by
   rw[gh b (by rw[U];simp),U];simp only[np,fX]
  refine⟨⟨b,arr,ty,c7,fun cT cq=>?_,aH,by rw[Dz,yL];exact ba,fun j l af=>?_⟩,b,rfl,c7⟩
  ·by_cases ad:cT<w.heap.size/\gS (kL refs) ts (ω cT)=.bx
   ·rw[hold cT ad.1 ad.2]at cq;cases e:ω cT with
    | bx=>rw[e]at cq;cases cq
    | tok s q=>rw[e]at cq;simp only[ph]at cq;split at cq<;>cases cq
    | box hb=>
     rw[e]at cq;simp only[ph]at cq;split at cq
     ·simp only[cS.box.injEq]at cq;subst cq;exact absurd ad.2 (gi cT e ‹_›)
     cases cq
   have fI:np t0 refs du (fe cT)=.box id:=by
    simp only[aY]at cq;rwa[aX ad]at cq
   cases e:fe cT with
   | bx=>rw[e]at fI;cases fI
   | tok s q=>rw[e]at fI;simp only[np]at fI;split at fI<;>cases fI
   | box fy=>
    rw[e]at fI;simp only[np]at fI;split at fI
    ·rename_i hb e2;simp only[cS.box.injEq]at fI;subst fI;have:=XO cT fy e2 e;subst this;exact au cT e
    cases fI
  have h4:j<(k0 cK (nM (t0+hD i 0) 0 post)).length:=(dK.1 af).1;rw[Dz,yL]at h4;rcases Ih cK _ j l af with⟨af,_⟩ | ⟨af,G9⟩
  ·obtain⟨u,hu,_⟩:=br j _ (fC h4);obtain⟨g1,g2⟩:=XZ j l af;refine⟨u,hu,?_⟩;have e:iL aG (ptrTo b) j=u:=by simp[iL,ptrTo,aH,ea,hu]
   rw[e]at g2;have:=bk.sat l u g2;rwa[show l.cm (ye ts t0) (re du)=l from g1]at this
  rw[Bc,bX]at af;obtain⟨d,dC,rfl⟩:=af;obtain⟨u,hu,ar⟩:=br j d dC;replace ar:=ar G9;have aM:j<100:=by
   have:=(dK.1 dC).1;omega
  refine⟨u,hu,?_⟩;have:=cell (hD i j) d u (by simp only[hD];omega) (by
   have e1:(hD i j-5000) / 100=i:=by simp only[hD];omega
   have e2:(hD i j-5000) % 100=j:=by simp only[hD];omega
   simp only[ax];rw[aX (by simp only[hD];omega),e1,e2,Yr,dC,a1];simp[iL,ptrTo,aH,ea,hu]) ar
  rw[show t0+hD i 0+(0+j)=t0+hD i j by simp only[hD];omega];exact this
 have Yv:∀r∈refs,tt aG aY cN r.id (k0 r.ey (nM (t0+hD r.i 0) 0 r.post)):=by
  intro r ar;obtain⟨h1,U,au,aH⟩:=ta bH ar;refine (var r.i r.post (ys r.i) r.id r.ey (by omega) U (OC ar fun y a1 e=>(aH y a1).1 e) (by rw[aX (by omega)]) (hrefs r ar).1 (Jw ar fun y a1 e=>by rw[(aH y a1).1 e]) (G4 r ar) (fun cT fy e _=>?_) (fun cT e _=>?_)).1
  ·rcases yg e with⟨y,a1,e1,e2⟩ | ⟨_,e2⟩
   ·rw[<-e1,(aH y a1).2 e2]
   exact absurd e2 au
  rw[e];simp only[gS,OD bH ar];simp
 have q0:∀id ls,dj id (st.w' ts t0 refs du nk oA).boxes=some ls->tt aG aY cN id ls:=by
  intro id ls af;have rest:∀id ls,du≠some id->dj id (we t0 refs (st.boxes.map fun x=>(x.1,x.2.map (w9 ts t0 du))))=some ls->tt aG aY cN id ls:=by
   intro id ls kS af;by_cases ar:∃r∈refs,r.id=id
   ·obtain⟨r,ar,rfl⟩:=ar;rw[Pb ar (fun y a1 e=>((ta bH ar).2.2.2 y a1).2 e) (by
     rw[s8];obtain⟨l,af⟩:=pL.1 (hrefs r ar).2.2;rw[af];rfl)]at af
    rw[<-ei af];exact Yv r ar
   have dy:∀r∈refs,r.id≠id:=fun r h1 U=>ar ⟨r,h1,U⟩
   rw[Jv dy,s8,bX]at af;obtain⟨jr,bm,rfl⟩:=af;obtain⟨b,arr,ty,h1,U,au,aH⟩:=aV.boxes id jr bm;have hp:re du id=true:=by
    unfold re;split
    ·rfl
    simp only[jF,ci];intro e;subst e;exact kS rfl
   have bq:=aV.owned.lt (b:=b) (by simp[h1]);have iB:look id (kL refs)=none:=by
    cases e:look id (kL refs) with
    | none=>rfl
    | some i=>
     obtain⟨r,lq,e1,_⟩:=DA e;exact absurd e1 (dy r lq)
   have hi:gS (kL refs) ts (ω b)=.bx:=by rw[h1];simp only[gS,iB]
   refine⟨b,arr,ty,xS id b hp h1,fun cT cq=>?_,(hblk b bq hi).trans au,aH.map bk.sat⟩;by_cases ad:cT<w.heap.size/\gS (kL refs) ts (ω cT)=.bx
   ·rw[hold cT ad.1 ad.2]at cq;cases e:ω cT with
    | bx=>rw[e]at cq;cases cq
    | tok s q=>rw[e]at cq;simp only[ph]at cq;split at cq<;>cases cq
    | box hb=>
     rw[e]at cq;simp only[ph]at cq;split at cq
     ·simp only[cS.box.injEq]at cq;subst cq;exact U cT e
     cases cq
   have fI:np t0 refs du (fe cT)=.box id:=by
    simp only[aY]at cq;rwa[aX ad]at cq
   cases e:fe cT with
   | bx=>rw[e]at fI;cases fI
   | tok s q=>rw[e]at fI;simp only[np]at fI;split at fI<;>cases fI
   | box fy=>
    rw[e]at fI;simp only[np]at fI;split at fI
    ·rename_i hb e2;simp only[cS.box.injEq]at fI;subst fI;rcases yg e2 with⟨r,ba,_,br⟩ | ⟨_,br⟩
     ·exact absurd br (dy r ba)
     exact absurd br kS
    cases fI
  simp only[aE.w',O']at af;cases du with
  | none=>exact rest id ls (by simp) af
  | some d=>
   simp only[dj]at af;by_cases ax:d=id
   ·subst ax;rw[a6 rfl]at af;rw[<-ei af];cases hK with
    | vals rs=>exact absurd C'.1 (by simp)
    | iH src ds=>
     obtain⟨_,rfl,hlen⟩:=C';obtain⟨eA,_⟩:=eA;rw[NK _ _ rfl]at eA;refine (var 49 oA v d nk (by omega) hlen (Jy zI) (a6 rfl) eA (Jx zI) vJ (fun cT fy e _=>?_) (fun cT _ e=>?_)).1
     ·rcases yg e with⟨y,a1,_,e2⟩ | ⟨e2,_⟩
      ·exact absurd (by rw[e2]) (ta bH a1).2.2.1
      exact e2
     simp[re,jF]at e
   rw[aX ax,yD (fun e=>ax e.symm)]at af;exact rest id ls (by simpa using ax) af
 refine⟨aY,cN,⟨aV.defers,by simp[aE.w',aV.size],?_,?_,fun s ae=>?_,fun id b hi cq=>?_,?_,q0⟩,?_⟩
 ·refine⟨ah.os.trans aV.below.os,ah.tape.trans aV.below.tape,ah.output.trans aV.below.output,ni aV.below.size ah.size,fun b bq ao=>?_,fun ae=>ni (aV.below.drawn ae) (ah.drawn ae),ah.laid,aV.below.free⟩;have iC:b<w.heap.size:=ze bq aV.below.size;have p2:ω b=.bx:=by
   cases e:ω b with
   | bx=>rfl
   | box id=>exact absurd (aV.owned b (by simp[e])).1 (fun h=>h.elim (fun h=>by omega) ao)
   | tok s q=>exact absurd (aV.owned b (by simp[e])).1 (fun h=>h.elim (fun h=>by omega) ao)
  exact (hblk b iC (by rw[p2];rfl)).trans (aV.below.block b bq ao)
 ·intro b fW;by_cases ad:b<w.heap.size/\gS (kL refs) ts (ω b)=.bx
  ·rw[hold b ad.1 ad.2]at fW;have U:ω b≠.bx:=fun e=>by rw[e]at fW;exact fW rfl
   obtain⟨au,arr,ty,aH⟩:=aV.owned b U;exact⟨au,arr,ty,(hblk b ad.1 ad.2).trans aH⟩
  have U:fe b≠.bx:=fun e=>by
   simp only[aY]at fW;rw[aX ad,e]at fW;exact fW rfl
  obtain⟨arr,ty,aH⟩:=kC b U;refine⟨?_,arr,ty,aH⟩;by_cases bq:b<w.heap.size
  ·have ba:ω b≠.bx:=fun e=>ad ⟨bq,by rw[e];rfl⟩
   exact (aV.owned b ba).1
  exact .inl (by have:=aV.below.size;omega)
 ·have:cN s=τ s:=by simp only[cN];rw[aX (by omega)]
  rw[this];exact aV.fixed s ae
 ·by_cases ad:b<w.heap.size/\gS (kL refs) ts (ω b)=.bx
  ·rw[hold b ad.1 ad.2]at cq;cases e:ω b with
   | bx=>rw[e]at cq;cases cq
   | tok s q=>rw[e]at cq;simp only[ph]at cq;split at cq<;>cases cq
   | box hb=>
    rw[e]at cq;simp only[ph]at cq;split at cq
    ·simp only[cS.box.injEq]at cq;subst cq;exact aV.pinned hb b hi e
    cases cq
  have fI:np t0 refs du (fe b)=.box id:=by
   simp only[aY]at cq;rwa[aX ad]at cq
  cases e:fe b with
  | bx=>rw[e]at fI;cases fI
  | tok s q=>rw[e]at fI;simp only[np]at fI;split at fI<;>cases fI
  | box fy=>
   rw[e]at fI;simp only[np]at fI;split at fI
   ·rename_i hb e2;simp only[cS.box.injEq]at fI;subst fI;rcases yg e2 with⟨r,ba,rfl,rfl⟩ | ⟨_,br⟩
    ·obtain⟨⟨fQ,arr,ty,g1,g2,g3,_⟩,⟨fH,g4,g5⟩,_⟩:=hrefs r ba;have b2:=g3 b e;rw[g4]at g1;simp only[ptrTo,Value.pointer.injEq,aQ,Addr.mk.injEq]at g1;rw[b2,<-g1.1];exact aV.pinned r.id fH hi g5
    have:=ss _ br;omega
   cases fI
 ·intro i q av;simp only[aE.w']at av;rw[c9,bX]at av;obtain⟨ju,bm,rfl⟩:=av;obtain⟨u,h1,U⟩:=aV.env i ju bm;exact⟨u,h1,cM.map bk.sat U⟩
 cases hK with
 | iH src ds=>
  obtain⟨kS,rfl,hlen⟩:=C';obtain⟨d,rfl⟩:=pL.1 kS;obtain⟨eA,_⟩:=eA;rw[NK _ _ rfl]at eA;obtain⟨b,h1,U⟩:=(var 49 oA v d nk (by omega) hlen (Jy zI) (a6 rfl) eA (Jx zI) vJ (fun cT fy e _=>by
   rcases yg e with⟨y,a1,_,e2⟩ | ⟨e2,_⟩
   ·exact absurd (by rw[e2]) (ta bH a1).2.2.1
   exact e2) (fun cT _ e=>by simp[re,jF]at e)).2
  exact⟨b,U,h1⟩
 | vals rs=>
  obtain⟨rfl,dD⟩:=C';simp only[Jz,ca,ci]at dD;have eo:∀(r:Nat) (cj:cH),rs[r]?=some cj->∀ds,cj=.agg ds->ds.length<100:=by
   intro r cj ar ds e;have:=fN.1 dD.2 cj (e4 ar);subst e;simpa using this
  have tz:∀(r:Nat) (cj:cH) (y:Value),r<50->(∀ds,cj=.agg ds->ds.length<100)->rs[r]?=some cj->(∀j,j<100->nA rs v (100*r+j)=y.cells.getD j undef)->l4 aG fe r cj y->j6 (Sat aG aY cN) (cj.res (t0+100*r)) y:=by
   intro r cj y ar eo zT bj nz;have gu:∀j,j<100->p1 rs (100*r+j)=(match cH.cell j cj with | some (.J k _)=>k | _=>0):=by
    intro j aM;unfold p1;rw[show (100*r+j) / 100=r by omega,show (100*r+j) % 100=j by omega,zT];rfl
   have NV:∀d:D,(match some d with | some (.J k _)=>k | _=>0)=d.th:=fun d=>by cases d<;>rfl
   cases cj with
   | one d=>
    have h1:=nz.pj;have U:=bj 0 (by omega);rw[A9 h1]at U;have:=cell (100*r) d y (by omega) (by
     simp only[ax,aT.dS];rw[a6 (by omega)];have au:=gu 0 (by omega);rw[mq]at U au;rw[au,U];simp only[cH.cell,fO];rw[NV];rfl) nz
    exact this
   | agg ds=>
    obtain⟨vs,rfl,aL,aM⟩:=nz;refine⟨vs,rfl,by rw[yL];exact aL,fun j l af=>?_⟩;rw[Bc,bX]at af;obtain⟨d,dC,rfl⟩:=af;obtain⟨u,hu,zU⟩:=aM j d dC;have h4:j<100:=by
     have:=(dK.1 dC).1;have:=eo ds rfl;omega
    refine⟨u,hu,?_⟩;have:=cell (100*r+j) d u (by omega) (by
     simp only[ax,aT.dS];rw[a6 (by omega),gu j h4,bj j h4];simp only[cH.cell,dC];rw[NV];simp[Value.cells,ea,hu]) zU
    rw[show t0+100*r+(0+j)=t0+(100*r+j) by omega];exact this
  show cM (Sat aG aY cN) (te t0 rs) v;cases rs with
  | nil=>
   obtain⟨vs,rfl,aL,_⟩:=eA;exact⟨vs,rfl,aL,fun i a ag=>by simp[qt]at ag⟩
  | cons cj rest=>
   cases rest with
   | nil=>
    have:=tz 0 cj v (by omega) (eo 0 cj rfl) rfl (fun j aM=>by
     unfold nA;simp only[Nat.mul_zero,c'];rw[zi aM]) eA
    exact this
   | cons MJ rest=>
    obtain⟨vs,rfl,aL,bj⟩:=eA;refine⟨vs,rfl,by rw[DU];exact aL,fun i a ag=>?_⟩;rw[DT,bX]at ag;obtain⟨n9,h1,rfl⟩:=ag;obtain⟨y,a1,zG⟩:=bj i n9 h1;have jz:i<50:=by
     have:=(dK.1 h1).1;omega
    refine⟨y,a1,?_⟩;have:=tz i n9 y jz (eo i n9 h1) h1 (fun j aM=>by
     unfold nA;simp only;rw[show (100*i+j) / 100=i by omega,show (100*i+j) % 100=j by omega];simp[ea,a1]) zG
    rw[c'];exact this
end Go.Sx
namespace Go.Sx
open Go.RowKit
def aC.pe(ts:List (Nat×Nat)):aC->Bool
 | .J g _ _=>g.pe ts
 | .aO t _ _ _ _ _=>(look t ts).isSome
 | _=>false
variable{w:World}{ω:Own}{τ:Nat->Nat×Value}{l:aC}
theorem OE{bs ts:List (Nat×Nat)}{d:D}{y:Value}(h:l.gC=some d)(hm:l.pe ts=false)(ae:Sat w ω τ l y):
  bR w (fun b=>gS bs ts (ω b)) Tag.free.R d y:=by
 have tag:∀(g:Tag) (b:Nat) (q:List (Nat×Nat)),g.pe ts=false->g.R q (ω b)->gS bs ts (ω b)=.bx:=by
  intro g b q ao av;cases g with
  | free=>simp only[Tag.R]at av;rw[av];rfl
  | own s=>
   simp only[Tag.R]at av;simp only[Tag.pe,FO,FP]at ao;rw[av];simp only[gS,ao]
  | ro s=>
   simp only[Tag.pe,FO,FP]at ao;rcases av with h | ⟨dh,h⟩
   ·rw[h];rfl
   rw[h];simp only[gS,ao]
 cases l with
 | cc=>cases h
 | v x=>
  simp only[aC.gC]at h;split at h
  ·simp only[aQ]at h;subst h;have:y=x:=ae;subst this;exact .v _ _ ‹_›
  cases h
 | bg c=>
  simp only[aC.gC,aQ]at h;subst h;have:y=.bool c:=ae;subst this;exact .v _ _ rfl
 | J t k es=>simp only[aC.gC,aQ]at h;subst h;exact ae.1.frame fun b q _ av=>⟨tag t b q hm av,rfl⟩
 | ptr=>cases h
 | ep=>cases h
 | gP=>cases h
 | fk=>cases h
 | h8 ds off=>
  simp only[aC.gC]at h;split at h
  ·rename_i aN;subst aN;simp only[aQ]at h;subst h;obtain⟨b,rfl,ar⟩:=ae;exact ar.frame fun b q _ av=>⟨tag .free b q rfl av,rfl⟩
  cases h
 | fd dr=>simp only[aC.gC,aQ]at h;subst h;exact bR.frame ae fun b q _ av=>⟨tag .free b q rfl av,rfl⟩
 | db t k es=>simp only[aC.gC,aQ]at h;subst h;exact bR.frame ae.1 fun b q _ av=>⟨tag .free b q rfl av,rfl⟩
 | aO t i j k es m=>
  obtain⟨u,hu,ar,_⟩:=ae;have fin:y=u->bR w (fun b=>gS bs ts (ω b)) Tag.free.R (.J k es) y:=by
   intro e;rw[e];exact ar.frame fun b q _ av=>⟨tag (.own t) b _ hm av,rfl⟩
  cases m with
  | at_ x z=>cases h
  | here=>simp only[aC.gC,aQ]at h;subst h;exact fin hu
  | lS=>simp only[aC.gC,aQ]at h;subst h;exact fin hu
def aB.Cv:aB->Option (cH×List aC)
 | .aD (.one l)=>l.gC.map fun d=>(.one d,[l])
 | .aD (.agg ls)=>(ls.mapM aC.gC).map fun ds=>(.agg ds,ls)
 | _=>none
def wh(i:Nat):Nat->List aC->List (Nat×Nat)
 | _,[]=>[]
 | j,l::ls=>match l.tok with | some t=>(t,qD i j)::wh i (j+1) ls | none=>wh i (j+1) ls
theorem OF{i:Nat}:∀{ls:List aC} {j0 j:Nat} {l:aC} {t:Nat},ls[j]?=some l->l.tok=some t->(t,qD i (j0+j))∈wh i j0 ls
 | [],_,_,_,_,h,_=>by simp at h
 | ej::ls,j0,0,l,t,h,bt=>by
  simp at h;subst h;simp only[wh,bt];exact eF
 | ej::ls,j0,j+1,l,t,h,bt=>by
  have:=OF (i:=i) (ls:=ls) (j0:=j0+1) (j:=j) (by simpa using h) bt;rw[show j0+1+j=j0+(j+1) by omega]at this;simp only[wh];split
  ·exact fc _ this
  exact this
def po:aC->Option aC
 | .db t k es=>some (.db t k es)
 | .J .free k es=>some (.J .free k es)
 | _=>none
def tc(ls:List aC):List (Option aC):=if (ls.map po).all Option.isNone then [] else ls.map po
def aC.Fm(l:aC):Option D:=match po l with | some l=>l.gC | none=>l.iR
theorem AJ{ht:aC}(h:po l=some ht):ht=l/\(∀ts t0 du,w9 ts t0 du l=l)/\∃k es,l.gC=some (.J k es)/\∀{w ω τ y},Sat w ω τ l y->bR w ω Tag.free.R (.J k es) y:=by
 unfold po at h;split at h
 ·rename_i t k es;cases h;exact⟨rfl,fun _ _ _=>rfl,k,es,rfl,fun ae=>ae.1⟩
 ·rename_i k es;cases h;exact⟨rfl,fun _ _ _=>by simp[aC.cm,ye,Tag.pe,gH],k,es,rfl,fun ae=>ae.1⟩
 cases h
theorem ajB{ls:List aC}{j:Nat}(h:(tc ls)[j]?=some (some l)):ls[j]?=some l/\po l=some l:=by
 unfold tc at h;split at h
 ·simp at h
 rw[c9,bX]at h;obtain⟨ej,h1,U⟩:=h;have:=(AJ U).1;subst this;exact⟨h1,U⟩
theorem JA{ls:List aC}{j:Nat}(af:ls[j]?=some l):stays (kJ (tc ls)) j=(po l).isSome:=by
 unfold tc;split
 ·rename_i h;have:=fN.1 h (po l) (h'.2 ⟨l,e4 af,rfl⟩);simp only[stays,kJ,List.map_nil,List.getD_nil];cases e:po l with
  | none=>rfl
  | some x=>rw[e]at this;cases this
 simp only[stays,kJ,List.map_map,iw,c9,af];rfl
def vR(cw:List aB):List (Option Nat)->Option (List (Option aC))
 | []=>some []
 | none::r=>(vR cw r).map fun x=>none::x
 | some a::r=>
  match cw[a]? with
  | some (.aD (.one l))=>
   match po l,vR cw r with
   | some ht,some ko=>some (some ht::ko)
   | _,_=>none
  | _=>none
theorem DB{cw:List aB}:∀{src:List (Option Nat)} {nk:List (Option aC)},vR cw src=some nk->xa src=kJ nk/\∀(j:Nat) (l:aC),nk[j]?=some (some l)->∃a,src[j]?=some (some a)/\cw[a]?=some (.aD (.one l))/\po l=some l
 | [],nk,h=>by
  simp only[vR,aQ]at h;subst h;exact⟨rfl,fun j l h=>by simp at h⟩
 | none::r,nk,h=>by
  simp only[vR,bX]at h;obtain⟨x,h1,rfl⟩:=h;obtain⟨g1,g2⟩:=DB h1;refine⟨by simpa[xa,kJ]using g1,fun j l aM=>?_⟩;cases j with
  | zero=>simp at aM
  | succ j=>exact g2 j l (by simpa using aM)
 | some a::r,nk,h=>by
  simp only[vR]at h;split at h
  ·rename_i l e;split at h
   ·rename_i ht ko e1 e2;simp only[aQ]at h;subst h;obtain⟨g1,g2⟩:=DB e2;have:=(AJ e1).1;subst this;refine⟨by simpa[xa,kJ]using g1,fun j l aM=>?_⟩;cases j with
    | zero=>
     simp only[iy,aQ]at aM;subst aM;exact⟨a,rfl,e,e1⟩
    | succ j=>exact g2 j l (by simpa using aM)
   cases h
  cases h
def U1:aB->Option Nat
 | .aD (.one (.ptr id 0))=>some id
 | _=>none
structure Cm where
 oV:List aJ
 refs:List jl
 ts:List (Nat×Nat)
 pF:List aC
def sd:aB->Option (FuncId×List Nat)
 | .aD (.one (.gP g ids))=>some (g,ids)
 | _=>none
def OA(id:Nat):aB:=.aD (.one (.ptr id 0))
def pO(bs:lP):Nat->List (Option (List D))->List aB->Option Cm
 | _,[],[]=>some ⟨[],[],[],[]⟩
 | i,none::ms,p::cw=>
  match sd p with
  | some (g,ids)=>(pO bs (i+1) ms cw).map fun r=>⟨.fn g (List.range' (i+1) ids.length)::r.oV,r.refs,r.ts,r.pF⟩
  | none=>
   match p.Cv,pO bs (i+1) ms cw with
   | some (cj,ls),some r=>some ⟨.ro cj::r.oV,r.refs,r.ts,ls++r.pF⟩
   | _,_=>none
 | i,some post::ms,p::cw=>
  match U1 p,pO bs (i+1) ms cw with
  | some id,some r=>
   match dj id bs with
   | some ls=>
    match ls.mapM aC.Fm with
    | some pre=>some ⟨.iv (kJ (tc ls)) pre post::r.oV,⟨i,id,post,tc ls⟩::r.refs,wh i 0 ls++r.ts,r.pF⟩
    | none=>none
   | none=>none
  | _,_=>none
 | _,_,_=>none
def Cn(bs:lP)(a:Cm)(i:Nat)(jd:aJ)(p:aB):Prop:=
 (∃g ids,jd=.fn g (List.range' (i+1) ids.length)/\p=.aD (.one (.gP g ids)))\/
 (∃cj ls,jd=.ro cj/\p.Cv=some (cj,ls)/\∀l∈ls,l∈a.pF)\/
 (∃id ls pre post,jd=.iv (kJ (tc ls)) pre post/\p=.aD (.one (.ptr id 0))/\dj id bs=some ls/\ls.mapM aC.Fm=some pre/\(⟨i,id,post,tc ls⟩:jl)∈a.refs/\∀x∈wh i 0 ls,x∈a.ts)
theorem Cn.mono{bs:lP}{a b:Cm}{i:Nat}{jd:aJ}{p:aB}(h:Cn bs a i jd p)(h1:∀l∈a.pF,l∈b.pF)(U:∀x∈a.refs,x∈b.refs)(au:∀x∈a.ts,x∈b.ts):Cn bs b i jd p:=by
 rcases h with h | ⟨cj,ls,e1,e2,b2⟩ | ⟨id,ls,pre,post,e1,e2,b2,dB,gD,j9⟩
 ·exact .inl h
 ·exact .inr (.inl ⟨cj,ls,e1,e2,fun l af=>h1 l (b2 l af)⟩)
 exact .inr (.inr ⟨id,ls,pre,post,e1,e2,b2,dB,U _ gD,fun x aa=>au x (j9 x aa)⟩)
theorem DC{bs:lP}:∀{ms:List (Option (List D))} {cw:List aB} {i:Nat} {a:Cm},pO bs i ms cw=some a->a.oV.length=cw.length/\
  (∀(x:Nat) (jd:aJ),a.oV[x]?=some jd->∃p,cw[x]?=some p/\Cn bs a (i+x) jd p)/\
  (∀r∈a.refs,∃(x:Nat) (pre:List D),r.i=i+x/\a.oV[x]?=some (.iv (kJ r.ey) pre r.post)/\cw[x]?=some (.aD (.one (.ptr r.id 0)))/\∃ls,dj r.id bs=some ls/\r.ey=tc ls)
 | [],[],i,a,h=>by
  simp only[pO,aQ]at h;subst h;exact⟨rfl,fun x jd h=>by simp at h,fun r h=>by cases h⟩
 | none::ms,p::cw,i,a,h=>by
  simp only[pO]at h;split at h
  ·rename_i g ids bE;rw[bX]at h;obtain⟨r,e2,rfl⟩:=h;obtain⟨dp,cC,b6⟩:=DC e2;have hp:p=.aD (.one (.gP g ids)):=by
    unfold sd at bE;split at bE
    ·cases bE;rfl
    cases bE
   refine⟨by simp[dp],fun x jd aa=>?_,fun y a1=>?_⟩
   ·cases x with
    | zero=>
     simp only[iy,aQ]at aa;subst aa;exact⟨p,rfl,.inl ⟨g,ids,rfl,hp⟩⟩
    | succ x=>
     obtain⟨qh,h1,U⟩:=cC x jd (by simpa using aa);refine⟨qh,by simpa using h1,?_⟩;rw[show i+1+x=i+(x+1) by omega]at U;exact U.mono (fun _ h=>h) (fun _ h=>h) (fun _ h=>h)
   obtain⟨x,pre,h1,U,au,aH⟩:=b6 y a1;exact⟨x+1,pre,by omega,by simpa using U,by simpa using au,aH⟩
  split at h
  ·rename_i cj ls r e1 e2;simp only[aQ]at h;subst h;obtain⟨dp,cC,b6⟩:=DC e2;refine⟨by simp[dp],fun x jd aa=>?_,fun y a1=>?_⟩
   ·cases x with
    | zero=>
     simp only[iy,aQ]at aa;subst aa;exact⟨p,rfl,.inr (.inl ⟨cj,ls,rfl,e1,fun l af=>gm _ af⟩)⟩
    | succ x=>
     obtain⟨qh,h1,U⟩:=cC x jd (by simpa using aa);refine⟨qh,by simpa using h1,?_⟩;rw[show i+1+x=i+(x+1) by omega]at U;exact U.mono (fun l af=>hZ _ af) (fun _ h=>h) (fun _ h=>h)
   obtain⟨x,pre,h1,U,au,aH⟩:=b6 y a1;exact⟨x+1,pre,by omega,by simpa using U,by simpa using au,aH⟩
  cases h
 | some post::ms,p::cw,i,a,h=>by
  simp only[pO]at h;split at h
  ·rename_i id r e1 e2;split at h
   ·rename_i ls b2;split at h
    ·rename_i pre dB;simp only[aQ]at h;subst h;obtain⟨dp,cC,b6⟩:=DC e2;have hp:p=.aD (.one (.ptr id 0)):=by
      unfold U1 at e1;split at e1
      ·rw[ei e1]
      cases e1
     refine⟨by simp[dp],fun x jd aa=>?_,fun y a1=>?_⟩
     ·cases x with
      | zero=>
       simp only[iy,aQ]at aa;subst aa;exact⟨p,rfl,.inr (.inr ⟨id,ls,pre,post,rfl,hp,b2,dB,eF,fun x aa=>gm _ aa⟩)⟩
      | succ x=>
       obtain⟨qh,h1,U⟩:=cC x jd (by simpa using aa);refine⟨qh,by simpa using h1,?_⟩;rw[show i+1+x=i+(x+1) by omega]at U;exact U.mono (fun _ h=>h) (fun x h=>fc _ h) (fun x h=>hZ _ h)
     rcases dG.1 a1 with rfl | a1
     ·exact⟨0,pre,rfl,rfl,by simp[hp],ls,b2,rfl⟩
     obtain⟨x,x3,h1,U,au,aH⟩:=b6 y a1;exact⟨x+1,x3,by omega,by simpa using U,by simpa using au,aH⟩
    cases h
   cases h
  cases h
 | [],_::_,i,a,h=>by simp[pO]at h
 | none::_,[],i,a,h=>by simp[pO]at h
 | some _::_,[],i,a,h=>by simp[pO]at h
def aT.Gk(d:Option Nat):aT->Bool
 | .vals rs=>Jz rs
 | .iH _ ds=>d.isSome&&decide (ds.length<100)
def aT.du(d:Option Nat):aT->Option Nat
 | .vals _=>none
 | .iH _ _=>d
def aT.oA:aT->List D
 | .vals _=>[]
 | .iH _ ds=>ds
def aT.nk(cw:List aB):aT->Option (List (Option aC))
 | .vals _=>some []
 | .iH src _=>vR cw src
theorem aT.WJ{d:Option Nat}{r:aT}(h:r.Gk d=true):r.fits (r.du d) r.oA:=by
 cases r with
 | vals rs=>exact⟨rfl,h⟩
 | iH src ds=>
  simp only[aT.Gk,ca,ci]at h;exact⟨h.1,rfl,h.2⟩
def ur(n:Nat):Nat->List aJ->Bool
 | _,[]=>true
 | i,.fn _ _::r=>i+1==n&&ur n (i+1) r
 | i,_::r=>ur n (i+1) r
theorem Ez{n:Nat}:∀{as:List aJ} {i x:Nat} {g:FuncId} {cK:List Nat},ur n i as=true->as[x]?=some (.fn g cK)->i+x+1=n
 | [],_,_,_,_,_,h=>by simp at h
 | .fn _ _::r,i,0,g,cK,h,aa=>by
  simp only[ur,ca,eu]at h;omega
 | .fn _ _::r,i,x+1,g,cK,h,aa=>by
  simp only[ur,ca,eu]at h;have:=Ez h.2 (x:=x) (by simpa using aa);omega
 | .ro _::r,i,0,g,cK,h,aa=>by simp at aa
 | .iv _ _ _::r,i,0,g,cK,h,aa=>by simp at aa
 | .ro _::r,i,x+1,g,cK,h,aa=>by
  have:=Ez (i:=i+1) (by simpa[ur]using h) (x:=x) (by simpa using aa);omega
 | .iv _ _ _::r,i,x+1,g,cK,h,aa=>by
  have:=Ez (i:=i+1) (by simpa[ur]using h) (x:=x) (by simpa using aa);omega
def AK(P:Program)(st:aE)(d:Option Nat)(f:FuncId)(n:Nat)(cw:List aB)(ans:List b4):Option (aE×List b4×List Prop):=
 match ans with
 | .dq vS hK::r=>
  match pO st.boxes 0 vS cw,hK.nk cw with
  | some a,some nk=>
   let t0:=10000*(d.getD 0+1)
   if k4 P f=true/\t0+10000<=c5/\yf a.refs (hK.du d)=true/\Ig a.ts=true/\hK.Gk d=true/\a.pF.all (fun l=>!(l.pe a.ts))=true/\td a.oV=n/\ur n 0 a.oV=true then
    let bn:=st.w' a.ts t0 a.refs (hK.du d) nk hK.oA
    match d with
    | some d=>some (⟨bn.env.set d (hK.oE t0 (hK.du (some d))),bn.boxes⟩,r,[bU P f a.oV hK])
    | none=>some (bn,r,[bU P f a.oV hK])
   else none
  | _,_=>none
 | _=>none
def JB(P:Program)(st:aE)(d:Option Nat)(f:FuncId)(args:List Operand)(ans:List b4):Option (aE×List b4×List Prop):=
 match (args.map st.bk).getLast?.bind sd with
 | some (_,ids)=>AK P st d f args.length (args.map st.bk++ids.map OA) ans
 | none=>AK P st d f args.length (args.map st.bk) ans
def JC(P:Program)(st:aE)(d:Option Nat)(f:Operand)(args:List Operand)(ans:List b4):Option (aE×List b4×List Prop):=
 match sd (st.bk f) with
 | some (g,ids)=>if (args.map st.bk).all (fun p=>(sd p).isNone) then AK P st d g (args.length+ids.length) (args.map st.bk++ids.map OA) ans else none
 | none=>none
variable{a:Act}{P:Program}{w0:ev}{st bn:aE}{dst:Option Nat}{ans ch:List b4}{obs:List Prop}
theorem JD{f:FuncId}{n:Nat}{cw:List aB}{vs:Array Value}{o:Oper}
  (GQ:o.dst=dst) (aV:cx w0 st a w ω τ) (h:AK P st dst f n cw ans=some (bn,ch,obs)) (aN:cB obs) (di:vs.size=cw.length) (gF:∀(x:Nat) (p:aB),cw[x]?=some p->∃v,vs[x]?=some v/\cM (Sat w ω τ) p v)
  (j':∀(x:Nat) (g:FuncId) (ids:List Nat),x+1=n->cw[x]?=some (.aD (.one (.gP g ids)))->vs[x]?=some (.func (.func g) #[] ((List.range' n ids.length).map fun k=>vs.getD k undef).toArray))
  (eZ:k4 P f=true->(execOp a.eval o).run P w=.ok (.enter f (vs.extract 0 n)) w) {K:Act->World->Prop} {Q:Exit->Act->World->Prop} (gR:∀cy aG,Rel w0 bn cy aG->K cy aG):
  Oper.wp P o a w K Q:=by
 unfold AK at h;split at h
 ·rename_i vS hK r;split at h
  ·rename_i r8 nk mA vJ;simp only at h;split at h
   ·rename_i ad;obtain⟨hF,ih,bH,iB,dD,zR,Hj,sv⟩:=ad;rw[fN]at zR;have zS:∀l∈r8.pF,l.pe r8.ts=false:=fun l af=>by simpa using zR l af
    obtain⟨hlen,cC,b6⟩:=DC mA
    let r2:Own:=fun b=>gS (kL r8.refs) r8.ts (ω b)
    have b5:∀b,r2 b≠.bx->ω b≠.bx:=fun b h e=>h (by simp only[r2,e];rfl)
    have Yt:F3 w r2 r8.oV vs:=by
     refine⟨fun b ah=>(aV.owned b (b5 b ah)).2,fun b i ah=>?_,by rw[di,hlen],fun x jd aa=>?_⟩
     ·simp only[r2]at ah;cases e:ω b with
      | bx=>rw[e]at ah;cases ah
      | tok s q=>rw[e]at ah;simp only[gS]at ah;split at ah<;>cases ah
      | box hb=>
       rw[e]at ah;simp only[gS]at ah;split at ah
       ·rename_i fy nr;simp only[cS.box.injEq]at ah;subst ah;obtain⟨ko,dy,_,tB⟩:=DA nr;obtain⟨x,pre,g1,g2,_⟩:=b6 ko dy;exact⟨kJ ko.ey,pre,ko.post,by rw[<-tB,g1,c'];exact g2⟩
       cases ah
     obtain⟨p,hp,ny⟩:=cC x jd aa;obtain⟨v,bj,ae⟩:=gF x p hp;refine⟨v,bj,?_⟩;rw[c']at ny;rcases ny with⟨g,ids,rfl,_⟩ | ⟨cj,ls,rfl,e2,b2⟩ | ⟨id,ls,pre,post,rfl,rfl,b2,dB,gD,j9⟩
     ·exact trivial
     ·cases p with
      | fM as=>cases e2
      | aD aD=>
       cases aD with
       | one l=>
        simp only[aB.Cv,bX]at e2;obtain⟨d,h1,U⟩:=e2;simp only[bw]at U;obtain⟨rfl,rfl⟩:=U;exact OE h1 (zS l (b2 l (by simp))) ae
       | agg e6=>
        simp only[aB.Cv,bX]at e2;obtain⟨ds,h1,U⟩:=e2;simp only[bw]at U;obtain⟨rfl,rfl⟩:=U;obtain⟨au,aH⟩:=nL h1;obtain⟨vs,rfl,aL,YS⟩:=ae;refine⟨vs,rfl,by omega,fun j d ax=>?_⟩;obtain⟨l,af,cU⟩:=aH j d ax;obtain⟨u,hu,eG⟩:=YS j l af;exact⟨u,hu,OE cU (zS l (b2 l (e4 af))) eG⟩
     obtain⟨b,ah,rfl⟩:=ae;obtain⟨cT,arr,ty,c7,hu,bI,eB⟩:=aV.boxes id ls b2;have:=hu b ah;subst this;have ND:=OD bH gD;simp only at ND;obtain⟨au,aH⟩:=nL dB;refine⟨⟨b,arr,ty,rfl,by simp only[r2,ah,gS,ND],fun c ad=>?_,bI,by have:=eB.1;omega,fun j d ax=>?_⟩,fun j d ax ew=>?_⟩
     ·simp only[r2]at ad;cases e:ω c with
      | bx=>rw[e]at ad;cases ad
      | tok s q=>rw[e]at ad;simp only[gS]at ad;split at ad<;>cases ad
      | box hb=>
       rw[e]at ad;simp only[gS]at ad;split at ad
       ·rename_i fy nr;simp only[cS.box.injEq]at ad;subst ad;obtain⟨ko,dy,WB,tB⟩:=DA nr;have:=((ta bH gD).2.2.2 ko dy).1 tB;subst this;exact hu c (by rw[e,<-WB])
       cases ad
     rotate_left
     ·obtain⟨l,af,cU⟩:=aH j d ax;obtain⟨u,fJ,eG⟩:=eB.2 j l af;rw[JA af]at ew;obtain⟨ht,kU⟩:=pL.1 ew;obtain⟨rfl,_,k,es,fx,q7⟩:=AJ kU;simp only[aC.Fm,kU]at cU;rw[fx]at cU;cases cU;have e:iL w (.pointer (some ⟨b,0,none⟩)) j=u:=by simp[iL,bI,ea,fJ]
      rw[e];refine (q7 eG).frame fun c q _ av=>⟨?_,rfl⟩
      simp only[Tag.R]at av ⊢;simp only[r2,av,gS]
     obtain⟨l,af,cU⟩:=aH j d ax;obtain⟨u,fJ,eG⟩:=eB.2 j l af;refine⟨u,fJ,fun ew=>?_⟩;rw[JA af]at ew;have NR:po l=none:=by simpa using ew
     simp only[aC.Fm,NR]at cU;clear ew NR;cases l with
     | v z=>
      simp only[aC.iR]at cU;split at cU
      ·simp only[aQ]at cU;subst cU;have:u=z:=eG;subst this;exact .v _ _ ‹_›
      cases cU
     | bg c=>
      simp only[aC.iR,aQ]at cU;subst cU;have:u=.bool c:=eG;subst this;exact .v _ _ rfl
     | J g k es=>
      cases g with
      | free=>cases cU
      | ro s=>cases cU
      | own s=>
       simp only[aC.iR,aQ]at cU;subst cU;have hm:=j9 _ (OF (i:=x) (j0:=0) af rfl);rw[c']at hm;have X5:=O9 iB hm;refine eG.1.frame fun c q _ av=>⟨?_,rfl⟩
       simp only[Tag.R]at av ⊢;simp only[r2,av,gS,X5]
     | cc=>cases cU
     | ptr=>cases cU
     | ep=>cases cU
     | h8=>cases cU
     | fd=>cases cU
     | db=>cases cU
     | gP=>cases cU
     | aO=>cases cU
     | fk=>cases cU
    have GV:FU r8.oV vs:=by
     intro x g cK aa;have sH:=Ez sv aa;rw[c']at sH;obtain⟨p,hp,ny⟩:=cC x _ aa;rw[c']at ny;rcases ny with⟨ec,ids,e1,rfl⟩ | ⟨cj,ls,e1,_⟩ | ⟨id,ls,pre,post,e1,_⟩
     ·simp only[aJ.fn.injEq]at e1;obtain⟨rfl,rfl⟩:=e1;have:=j' x g ids sH hp;rw[sH];exact this
     ·cases e1
     cases e1
    have key:bU P f r8.oV hK->(∀v aG aY cN,cx w0 (st.w' r8.ts (10000*(dst.getD 0+1)) r8.refs (hK.du dst) nk hK.oA) a aG aY cN->cM (Sat aG aY cN) (hK.oE (10000*(dst.getD 0+1)) (hK.du dst)) v->K (a.put dst v) aG)->
      Oper.wp P o a w K Q:=by
     intro Hi Gv;unfold Oper.wp;rw[eZ hF,<-Hj];simp only[Oper.upon];rw[GQ];refine (Hi w _ r2 Yt GV (aV.tidy fun b ah=>by simp only[r2,ah,gS])).mono ?_;rintro e aG ⟨v,rfl,kB,fe,c1,c2,eb,fR⟩;obtain⟨aY,cN,h1,U⟩:=aV.Wr (10000*(dst.getD 0+1)) (nk:=nk) (ys:=fun i=>vs.getD i undef) bH ih kB fe c1 c2 (fun r ar=>by
      obtain⟨x,pre,g1,g2,g3,g4⟩:=b6 r ar;rw[c']at g1;obtain⟨y,a1,ae⟩:=gF x _ g3;obtain⟨b,ah,rfl⟩:=ae;have e:vs.getD r.i undef=ptrTo b:=by rw[g1,ea,a1];rfl
      rw[e];obtain⟨ls,g5,g6⟩:=g4;refine⟨(eb r.i _ pre r.post (ptrTo b) (by rw[g1];exact g2) (by rw[g1];exact a1)).1,⟨b,rfl,ah⟩,by rw[g5];rfl⟩) fR (aT.WJ dD) (fun d ax=>by
      cases hK with
      | vals rs=>cases ax
      | iH src ds=>
       have ax:dst=some d:=ax;rw[ax]at ih;simp only[hl]at ih;omega) (fun r ar j l aM=>by
      obtain⟨x,pre,g1,g2,g3,ls,g5,g6⟩:=b6 r ar;rw[c']at g1;obtain⟨y,a1,ae⟩:=gF x _ g3;obtain⟨b,ah,rfl⟩:=ae;have e:vs.getD r.i undef=ptrTo b:=by rw[g1,ea,a1];rfl
      rw[e];rw[g6]at aM;obtain⟨i1,i2⟩:=ajB aM;refine⟨(AJ i2).2.1 _ _ _,?_⟩;have ew:stays (kJ r.ey) j=true:=by rw[g6,JA i1,i2];rfl
      rw[(eb r.i _ pre r.post (ptrTo b) (by rw[g1];exact g2) (by rw[g1];exact a1)).2 j ew];obtain⟨cT,arr,ty,c7,hu,bI,eB⟩:=aV.boxes _ ls g5;have:=hu b ah;subst this;obtain⟨u,fJ,eG⟩:=eB.2 j l i1;have e:iL w (ptrTo b) j=u:=by simp[iL,ptrTo,bI,ea,fJ]
      rw[e];exact eG) (fun j l aM=>by
      cases hK with
      | vals rs=>
       simp only[aT.nk,aQ]at vJ;subst vJ;simp at aM
      | iH src ds=>
       obtain⟨_,i2⟩:=DB vJ;obtain⟨x,qa,ou,Y8⟩:=i2 j l aM;refine⟨(AJ Y8).2.1 _ _ _,?_⟩;obtain⟨y,a1,ae⟩:=gF x _ ou;have:=fR.2 j x qa;rw[a1]at this;rw[<-ei this];exact ae) (fun src ds e=>by
      subst e;exact (DB vJ).1)
     exact Gv v aG aY cN h1 U
    cases dst with
    | none=>
     simp only[aQ,bw]at h;obtain⟨rfl,_,rfl⟩:=h;exact key aN.1 fun v aG aY cN h1 _=>gR _ _ ⟨aY,cN,h1⟩
    | some d=>
     simp only[aQ,bw]at h;obtain⟨rfl,_,rfl⟩:=h;exact key aN.1 fun v aG aY cN h1 U=>gR _ _ ⟨aY,cN,h1.put U⟩
   cases h
  cases h
 cases h
theorem ajC{f:FuncId}{args:Array Operand}{ts:Array TypeId}{type:TypeId}{pos:String}{after:Array Edge}{guard:Option (Nat×Bool)}
  (aV:cx w0 st a w ω τ) (h:JB P st dst f args.toList ans=some (bn,ch,obs)) (aN:cB obs) {K:Act->World->Prop} {Q:Exit->Act->World->Prop} (gR:∀cy aG,Rel w0 bn cy aG->K cy aG):
  Oper.wp P ⟨dst,.call ⟨.value (.func f),args,ts⟩,type,pos,after,guard⟩ a w K Q:=by
 have gF:∀(x:Nat) (p:aB),(args.toList.map st.bk)[x]?=some p->∃v,(args.map a.eval)[x]?=some v/\cM (Sat w ω τ) p v:=by
  intro x p hp;rw[c9,bX]at hp;obtain⟨o,h1,rfl⟩:=hp;refine⟨a.eval o,?_,aV.bk o⟩;rw[zh];rw[jg]at h1;rw[h1];rfl
 have eZ:k4 P f=true->(execOp a.eval ⟨dst,.call ⟨.value (.func f),args,ts⟩,type,pos,after,guard⟩).run P w=.ok (.enter f (args.map a.eval)) w:=by
  intro hF;unfold k4 at hF;split at hF
  ·rename_i fn j';simp only[ca,fr,uZ,ho]at hF;have pX:fn.body≠none:=by intro e;rw[e]at hF;simp at hF
   simp[execOp,resolve,Act.eval,Deferred.ofValue,invoke,callFunc,j',hF.1,pX]
  cases hF
 unfold JB at h;split at h
 ·rename_i g ids tO;rw[mj]at tO;obtain⟨p,hp,sq⟩:=tO;have xJ:p=.aD (.one (.gP g ids)):=by
   unfold sd at sq;split at sq
   ·cases sq;rfl
   cases sq
  subst xJ;have C0:0<(args.toList.map st.bk).length:=by
   rcases Nat.eq_zero_or_pos (args.toList.map st.bk).length with bm | bm
   ·rw[u0 bm]at hp;simp at hp
   exact bm
  have Hf:(args.toList.map st.bk)[args.toList.length-1]?=some (.aD (.one (.gP g ids))):=by
   rw[List.getLast?_eq_getElem?]at hp;simpa using hp
  obtain⟨v,bj,bs,GG,vt,fW⟩:=gF _ _ Hf;have aL:0<args.size:=by simpa using C0
  refine JD (n:=args.toList.length) (vs:=args.map a.eval++(bs.map ptrTo).toArray) rfl aV h aN (by simp[vt]) (fun x p aa=>?_) (fun x ec Y4 sH aa=>?_) (fun hF=>?_) gR
  ·rw[lc]at aa;rw[hj];split at aa
   ·rename_i bq;rw[a6 (by simpa using bq)];exact gF x p aa
   rename_i mD;rw[aX (by simpa using mD)];rw[c9,bX]at aa;obtain⟨id,fX,rfl⟩:=aa;obtain⟨b,gr,gg⟩:=fW _ id fX;refine⟨ptrTo b,?_,b,gg,rfl⟩;simp only[bp,u1]at gr;simp[gr]
  ·have bq:x<args.size:=by simp at sH;omega
   have xP:x=args.toList.length-1:=by omega
   rw[lc,a6 (by simpa using bq),xP,Hf]at aa;simp only[aQ,aB.aD.injEq,bd.one.injEq,aC.gP.injEq]at aa;obtain⟨rfl,rfl⟩:=aa;rw[hj,a6 (by simpa using bq),xP,bj,GG]
   congr 2
   apply Array.ext
   ·simp[vt]
   intro j h1 U;have aM:j<bs.length:=by simpa using h1
   simp[ea,hj,aM];rw[aX (by omega)];rfl
  have e:(args.map a.eval++(bs.map ptrTo).toArray).extract 0 args.toList.length=args.map a.eval:=by
   apply Array.ext
   ·simp
   intro j h1 U;have aM:j<args.size:=by simpa using U
   simp[Array.getElem_append,aM]
  rw[e];exact eZ hF
 refine JD (n:=args.toList.length) (vs:=args.map a.eval) rfl aV h aN (by simp) gF (fun x g ids sH aa=>?_) (fun hF=>?_) gR
 ·rename_i gi;exfalso;have:(args.toList.map st.bk).getLast?=some (.aD (.one (.gP g ids))):=by
   rw[List.getLast?_eq_getElem?];rw[<-aa]
   congr 1
   simp;simp at sH;omega
  rw[this]at gi;simp[sd]at gi
 have e:(args.map a.eval).extract 0 args.toList.length=args.map a.eval:=by simp
 rw[e];exact eZ hF
theorem ajD{y:Nat}{args:Array Operand}{ts:Array TypeId}{type:TypeId}{pos:String}{after:Array Edge}{guard:Option (Nat×Bool)}
  (aV:cx w0 st a w ω τ) (h:JC P st dst (.tmp y) args.toList ans=some (bn,ch,obs)) (aN:cB obs) {K:Act->World->Prop} {Q:Exit->Act->World->Prop} (gR:∀cy aG,Rel w0 bn cy aG->K cy aG):
  Oper.wp P ⟨dst,.call ⟨.value (.tmp y),args,ts⟩,type,pos,after,guard⟩ a w K Q:=by
 have gF:∀(x:Nat) (p:aB),(args.toList.map st.bk)[x]?=some p->∃v,(args.map a.eval)[x]?=some v/\cM (Sat w ω τ) p v:=by
  intro x p hp;rw[c9,bX]at hp;obtain⟨o,h1,rfl⟩:=hp;refine⟨a.eval o,?_,aV.bk o⟩;rw[zh];rw[jg]at h1;rw[h1];rfl
 unfold JC at h;split at h
 ·rename_i g ids sq;have xJ:st.bk (.tmp y)=.aD (.one (.gP g ids)):=by
   unfold sd at sq;split at sq
   ·rename_i e;cases sq;exact e
   cases sq
  have ae:=aV.bk (.tmp y);rw[xJ]at ae;obtain⟨bs,GG,vt,fW⟩:=ae;split at h
  case isFalse=>cases h
  rename_i gi;refine JD (n:=args.toList.length+ids.length) (vs:=args.map a.eval++(bs.map ptrTo).toArray) rfl aV h aN (by simp[vt]) (fun x p aa=>?_) (fun x ec Y4 sH aa=>?_) (fun hF=>?_) gR
  ·rw[lc]at aa;rw[hj];split at aa
   ·rename_i bq;rw[a6 (by simpa using bq)];exact gF x p aa
   rename_i mD;rw[aX (by simpa using mD)];rw[c9,bX]at aa;obtain⟨id,fX,rfl⟩:=aa;obtain⟨b,gr,gg⟩:=fW _ id fX;refine⟨ptrTo b,?_,b,gg,rfl⟩;simp only[bp,u1]at gr;simp[gr]
  ·exfalso;rw[lc]at aa;split at aa
   ·rename_i bq;have:=fN.1 gi _ (e4 aa);simp[sd]at this
   rw[c9,bX]at aa;obtain⟨id,_,e⟩:=aa;cases e
  have e:(args.map a.eval++(bs.map ptrTo).toArray).extract 0 (args.toList.length+ids.length)=args.map a.eval++(bs.map ptrTo).toArray:=by
   have e2:args.toList.length+ids.length=(args.map a.eval++(bs.map ptrTo).toArray).size:=by simp[vt]
   rw[e2,Array.extract_size]
  rw[e];unfold k4 at hF;split at hF
  ·rename_i fn j';simp only[ca,fr,uZ,ho]at hF;have pX:fn.body≠none:=by intro e;rw[e]at hF;simp at hF
   simp[execOp,resolve,GG,Deferred.ofValue,invoke,callFunc,j',hF.1,pX]
  cases hF
 cases h
