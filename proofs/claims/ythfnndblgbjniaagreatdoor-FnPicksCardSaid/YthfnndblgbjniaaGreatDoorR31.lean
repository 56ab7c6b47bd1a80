import Derived.Test.YthfnndblgbjniaaGreatDoorR11
set_option linter.unusedVariables false
set_option linter.unusedSimpArgs false
namespace Go.Sx
open Go.RowKit
inductive aM where
 | ro (a:cJ)
 | io (pn:List Bool) (pre post:List D)
 | fn (g:FuncId) (cQ:List Nat)
abbrev aM.ref (pre post : List D) : aM := .io [] pre post
abbrev aM.cur(pre post:List D):aM:=.io [true,false,false] pre post
def stays(pn:List Bool)(j:Nat):Bool:=pn.getD j false
def ii(w:World)(y:Value)(j:Nat):Value:=
 match y with
 | .pointer (some p)=>match w.heap[p.block]? with | some (.cells arr _ _)=>arr.getD j undef | _=>undef
 | _=>undef
def qG(i j:Nat):Nat:=900000000+(100*i+j)
def hs(i j:Nat):Nat:=5000+(100*i+j)
def u1(w:World)(ω:Own)(i:Nat)(pn:List Bool)(f:Nat->Nat)(ds:List D)(y:Value):Prop:=
 ∃b arr ty,y=ptrTo b/\ω b=.box i/\(∀dw,ω dw=.box i->dw=b)/\w.heap[b]?=some (.cells arr ty (0,0))/\arr.size=ds.length/\∀(j:Nat) (d:D),ds[j]?=some d->∃u,arr[j]?=some u/\(stays pn j=false->b1 w ω (Tag.own (f j)).R d u)
def XG(w:World)(ω:Own)(i:Nat):aM->Value->Prop
 | .ro (.one d),y=>b1 w ω Tag.free.R d y
 | .ro (.agg ds),y=>∃vs:Array Value,y=.agg vs/\vs.size=ds.length/\∀(j:Nat) (d:D),ds[j]?=some d->∃u,vs[j]?=some u/\b1 w ω Tag.free.R d u
 | .io pn pre _,y=>u1 w ω i pn (qG i) pre y/\∀(j:Nat) (d:D),pre[j]?=some d->stays pn j=true->b1 w ω Tag.free.R d (ii w y j)
 | .fn _ _,_=>True
def aM.bt:aM->Nat
 | .fn _ cQ=>cQ.length
 | _=>0
def s6(args:List aM):Nat:=args.length-(args.map aM.bt).sum
def Gp(args:List aM)(vs:Array Value):Prop:=∀(i:Nat) (g:FuncId) (cQ:List Nat),args[i]?=some (.fn g cQ)->vs[i]?=some (.func (.func g) #[] (cQ.map fun k=>vs.getD k undef).toArray)
def DU(w:World)(ω:Own):Prop:=∀b,ω b≠.bG->∃arr ty,w.heap[b]?=some (.cells arr ty (0,0))
def Gv(w:World)(ω:Own)(args:List aM)(vs:Array Value):Prop:=DU w ω/\(∀b i,ω b=.box i->∃pn pre post,args[i]?=some (.io pn pre post))/\vs.size=args.length/\∀(i:Nat) (jz:aM),args[i]?=some jz->∃v,vs[i]?=some v/\XG w ω i jz v
def wD(src:List (Option Nat)):List Bool:=src.map Option.isSome
def Cl(w:World)(ω:Own)(vs:Array Value):aV->Value->Prop
 | .vals rs,v=>mB w ω rs v
 | .iO src ds,v=>u1 w ω 49 (wD src) (hs 49) ds v/\∀(j i:Nat),src[j]?=some (some i)->vs[i]?=some (ii w v j)
def b3(P:Program)(f:FuncId)(args:List aM)(r:aV):Prop:=
 ∀(w:World) (vs:Array Value) (ω:Own),Gv w ω args vs->Gp args vs->Tidy w ω->Calls P f (vs.extract 0 (s6 args)) w fun e aN=>∃v,e=.returned v/\gz ⟨w,fun b=>ω b≠.bG,fun _=>(0,undef)⟩ aN/\
  ∃bd:Own,(∀b,b<w.heap.size->ω b=.bG->bd b=.bG)/\DU aN bd/\(∀(i:Nat) (pn:List Bool) (pre post:List D) (y:Value),args[i]?=some (.io pn pre post)->vs[i]?=some y->u1 aN bd i pn (hs i) post y/\∀j,stays pn j=true->ii aN y j=ii w y j)/\Cl aN bd vs r v
abbrev axc:=List (Nat×Nat)
def look(t:Nat):List (Nat×Nat)->Option Nat
 | []=>none
 | (s,n)::r=>if s=t then some n else look t r
def Jw(ts:List (Nat×Nat)):Bool:=ts.all fun x=>ts.all fun y=>(x.1==y.1)==(x.2==y.2)
variable{ts:List (Nat×Nat)}
theorem QT{t n:Nat}(h:Jw ts=true)(hm:(t,n)∈ts):look t ts=some n:=by
 have key:∀l:List (Nat×Nat),(∀x∈l,x∈ts)->(t,n)∈l->look t l=some n:=by
  intro l;induction l with
  | nil=>grind
  | cons x l eO=>
   intro ak hm;obtain⟨s,m⟩:=x;simp only[look];split
   ·rename_i e;subst e;have U:=fU.1 (fU.1 h _ (ak _ kG)) _ (by exact ‹(s,n)∈ts›);grind
   grind
 grind
theorem ap5{t n:Nat}(h:look t ts=some n):(t,n)∈ts:=by
 induction ts with
 | nil=>cases h
 | cons x l eO=>
  grind[look,gd,kG,iA]
def ha(bs ts:List (Nat×Nat)):di->di
 | .bG=>.bG
 | .box id=>match look id bs with | some i=>.box i | none=>.bG
 | .tok t q=>match look t ts with | some n=>.tok n q | none=>.bG
def Tag.ph(ts:List (Nat×Nat)):Tag->Bool
 | .free=>false
 | .own t=>(look t ts).isSome
 | .ro t=>(look t ts).isSome
def sx:Option Nat->Nat->Bool
 | none=>fun _=>true
 | some d=>jR d
def AO(ts:List (Nat×Nat))(t0:Nat)(g:Tag):Option Tag:=if g.ph ts then none else gp t0 g
abbrev wB(ts:List (Nat×Nat))(t0:Nat)(dd:Option Nat)(l:aE):aE:=l.cF (AO ts t0) (sx dd)
structure jb where
 i:Nat
 id:Nat
 post:List D
 fF:List (Option aE)
def k8(cQ:List (Option aE)):List Bool:=cQ.map Option.isSome
def k6:List (Option aE)->List aE->List aE
 | [],ls=>ls
 | _,[]=>[]
 | some l::cQ,_::ls=>l::k6 cQ ls
 | none::cQ,l::ls=>l::k6 cQ ls
theorem DV:∀(cQ:List (Option aE)) (ls:List aE),(k6 cQ ls).length=ls.length
 | [],ls=>rfl
 | _::_,[]=>by simp[k6]
 | some l::cQ,_::ls=>by simp[k6,DV cQ ls]
 | none::cQ,_::ls=>by simp[k6,DV cQ ls]
theorem Jx:∀(cQ:List (Option aE)) (ls:List aE) (j:Nat) (l:aE),(k6 cQ ls)[j]?=some l->(cQ[j]?=some (some l)/\stays (k8 cQ) j=true)\/(ls[j]?=some l/\stays (k8 cQ) j=false)
 | [],ls,j,l,h=>.inr ⟨h,by simp[stays,k8]⟩
 | _::_,[],j,l,h=>by grind[k6]
 | some k::cQ,x::ls,0,l,h=>by simp only[k6,lg,aW]at h;subst h;exact .inl ⟨rfl,rfl⟩
 | none::cQ,x::ls,0,l,h=>by simp only[k6,lg]at h;exact .inr ⟨h,rfl⟩
 | some k::cQ,x::ls,j+1,l,h=>by
  have:=Jx cQ ls j l (by simpa[k6]using h);simpa[stays,k8]using this
 | none::cQ,x::ls,j+1,l,h=>by
  have:=Jx cQ ls j l (by simpa[k6]using h);simpa[stays,k8]using this
def wq(t0:Nat):List jb->List (Nat×List aE)->List (Nat×List aE)
 | [],bs=>bs
 | r::rs,bs=>wq t0 rs (qo r.id (k6 r.fF (ny (t0+hs r.i 0) 0 r.post)) bs)
def QU(t0:Nat)(dd:Option Nat)(nk:List (Option aE))(ds:List D)(bs:List (Nat×List aE)):List (Nat×List aE):=
 match dd with
 | some d=>(d,k6 nk (ny (t0+hs 49 0) 0 ds))::pu d bs
 | none=>bs
def aF.wC(st:aF)(ts:List (Nat×Nat))(t0:Nat)(refs:List jb)(dd:Option Nat)(nk:List (Option aE))(ds:List D):aF:=
 ⟨st.env.map (aG.map (wB ts t0 dd)),QU t0 dd nk ds (wq t0 refs (st.boxes.map fun x=>(x.1,x.2.map (wB ts t0 dd))))⟩
def pj(t0:Nat)(dd:Option Nat):di->di
 | .tok s q=>if t0<=s/\s<t0+10000 then .bG else .tok s q
 | .box id=>if sx dd id then .box id else .bG
 | .bG=>.bG
def pe(i:Nat)(dd:Option Nat):List jb->Option Nat
 | []=>if i=49 then dd else none
 | r::rs=>if r.i=i then some r.id else pe i dd rs
def mR(t0:Nat)(refs:List jb)(dd:Option Nat):di->di
 | .tok s q=>if s<10000 then .tok (t0+s) q else .bG
 | .box i=>match pe i dd refs with | some id=>.box id | none=>.bG
 | .bG=>.bG
def D.s':D->Nat
 | .J k _=>k
 | _=>0
def wu(i:Nat)(ds:List D):List jb->List D
 | []=>ds
 | r::rs=>if r.i=i then r.post else wu i ds rs
def kS(refs:List jb):List (Nat×Nat):=refs.map fun r=>(r.id,r.i)
def x':List jb->Option Nat->Bool
 | [],_=>true
 | x::r,dd=>decide (x.i<49)&&decide (x.post.length<100)&&decide (dd≠some x.id)&&r.all (fun y=>x.i != y.i&&x.id != y.id)&&x' r dd
variable{id:Nat}
theorem IZ{t0:Nat}:∀{refs:List jb} {bs:List (Nat×List aE)},(∀r∈refs,r.id≠id)->dD id (wq t0 refs bs)=dD id bs
 | [],bs,_=>rfl
 | r::rs,bs,h=>by
  simp_all[wq,IZ,iA,x6,Ne.symm,kG]
theorem ap6{h1:Nat}{ls:List aE}:∀{bs:List (Nat×List aE)},(dD id bs).isSome=true->(dD id (qo h1 ls bs)).isSome=true:=by
 intro bs h;by_cases e:id=h1
 ·subst e;obtain⟨x,aq⟩:=qO.1 h;rw[x5 aq];rfl
 grind[x6]
theorem QV{t0:Nat}:∀{refs:List jb} {bs:List (Nat×List aE)} {r:jb},r∈refs->(∀x∈refs,x.id=r.id->x=r)->(dD r.id bs).isSome=true->dD r.id (wq t0 refs bs)=some (k6 r.fF (ny (t0+hs r.i 0) 0 r.post))
 | [],_,_,h,_,_=>by cases h
 | x::rs,bs,r,h,hu,ak=>by
  simp only[wq];by_cases hm:r∈rs
  ·exact QV hm (fun y bM=>hu y (iA _ bM)) (ap6 ak)
  rcases eK.1 h with e | h
  ·subst e;obtain⟨l,ar⟩:=qO.1 ak;grind[IZ,x5,iA]
  grind
variable{dd:Option Nat}
theorem sU:∀{refs:List jb},x' refs dd=true->∀{x:jb},x∈refs->x.i<49/\x.post.length<100/\dd≠some x.id/\∀y∈refs,(y.i=x.i->y=x)/\(y.id=x.id->y=x)
 | [],_,x,aq=>by cases aq
 | z::r,h,x,aq=>by
  simp only[x',cH,c3,fU,bne_iff_ne,nQ]at h;obtain⟨⟨⟨⟨U,aa⟩,aB⟩,aJ⟩,a6⟩:=h;rcases eK.1 aq with e | zG
  ·subst e;refine⟨U,aa,aB,fun y bM=>?_⟩;rcases eK.1 bM with e | bM
   ·exact⟨fun _=>e,fun _=>e⟩
   exact⟨fun e=>absurd e.symm (aJ y bM).1,fun e=>absurd e.symm (aJ y bM).2⟩
  obtain⟨c7,bQ,fW,qa⟩:=sU a6 zG;refine⟨c7,bQ,fW,fun y bM=>?_⟩;rcases eK.1 bM with e | bM
  ·subst e;exact⟨fun e=>absurd e (aJ x zG).1,fun e=>absurd e (aJ x zG).2⟩
  exact qa y bM
theorem I0:∀{refs:List jb} {r:jb},r∈refs->(∀y∈refs,y.i=r.i->y.id=r.id)->pe r.i dd refs=some r.id
 | [],_,h,_=>by cases h
 | x::rs,r,h,hu=>by
  simp only[pe];split
  ·grind
  rename_i e;rcases eK.1 h with e1 | h
  ·grind
  exact I0 h fun y bM=>hu y (iA _ bM)
theorem ya{i:Nat}:∀{refs:List jb},pe i dd refs=some id->(∃r∈refs,r.i=i/\r.id=id)\/(i=49/\dd=some id)
 | [],h=>by
  grind[pe]
 | x::rs,h=>by
  simp only[pe]at h;split at h
  ·rename_i e;exact .inl ⟨x,kG,e,gd h⟩
  rcases ya h with⟨r,aH,U⟩ | U
  ·exact .inl ⟨r,iA _ aH,U⟩
  exact .inr U
theorem I1:∀{refs:List jb},(∀r∈refs,r.i<49)->pe 49 dd refs=dd
 | [],_=>by simp[pe]
 | x::rs,h=>by
  simp only[pe];rw[bH (by grind)];exact I1 fun r aH=>h r (iA _ aH)
theorem QW{ds:List D}:∀{refs:List jb} {r:jb},r∈refs->(∀y∈refs,y.i=r.i->y=r)->wu r.i ds refs=r.post
 | [],_,h,_=>by cases h
 | x::rs,r,h,hu=>by
  simp only[wu];split
  ·grind
  rename_i e;rcases eK.1 h with e1 | h
  ·grind
  exact QW h fun y bM=>hu y (iA _ bM)
theorem I2{ds:List D}:∀{refs:List jb},(∀r∈refs,r.i<49)->wu 49 ds refs=ds
 | [],_=>rfl
 | x::rs,h=>by
  simp only[wu];rw[bH (by grind)];exact I2 fun r aH=>h r (iA _ aH)
variable{refs:List jb}
theorem QX(h:x' refs dd=true){r:jb}(aH:r∈refs):look r.id (kS refs)=some r.i:=by
 refine QT ?_ (mO.2 ⟨r,aH,rfl⟩);unfold Jw;rw[fU];intro x aq;rw[fU];intro y bM;obtain⟨rx,Zp,rfl⟩:=mO.1 aq;obtain⟨awv,Zq,rfl⟩:=mO.1 bM;have:=(sU h Zp).2.2.2 awv Zq;grind
theorem DW{i:Nat}(h:look id (kS refs)=some i):∃r∈refs,r.id=id/\r.i=i:=by
 obtain⟨r,aH,e⟩:=mO.1 (ap5 h);grind
def I3(rs:List cJ):Bool:=decide (rs.length<50)&&rs.all fun | .one _=>true | .agg ds=>ds.length<100
def aV.fits(dd:Option Nat)(oj:List D):aV->Prop
 | .vals rs=>dd=none/\I3 rs=true
 | .iO _ ds=>dd.isSome=true/\oj=ds/\ds.length<100
def aV.eb(v:Value)(n:Nat):aV->Nat×Value
 | .vals rs=>(pY rs n,ng rs v n)
 | .iO _ _=>(0,undef)
def aV.fK(t0:Nat)(dd:Option Nat):aV->aG
 | .vals rs=>s7 t0 rs
 | .iO _ _=>.one (.ptr (dd.getD 0) 0)
theorem cD.XS{w0:eE}{st:aF}{a:Act}{w aN:World}{ω:Own}{τ:Nat->Nat×Value}(aZ:cD w0 st a w ω τ)(t0:Nat){nk:List (Option aE)}{oj:List D}{hB:aV}{v:Value}{vs:Array Value}{ys:Nat->Value}{H:Nat->Nat×Value}
  (cN:x' refs dd=true) (iL:t0+10000<=da) (ay:gz ⟨w,fun b=>ha (kS refs) ts (ω b)≠.bG,H⟩ aN) (fh:Own)
  (lW:∀b,b<w.heap.size->ha (kS refs) ts (ω b)=.bG->fh b=.bG) (lp:DU aN fh)
  (hrefs:∀r∈refs,u1 aN fh r.i (k8 r.fF) (hs r.i) r.post (ys r.i)/\(∃b,ys r.i=ptrTo b/\ω b=.box r.id)/\(dD r.id st.boxes).isSome=true) (e4:Cl aN fh vs hB v) (C8:hB.fits dd oj) (tE:∀d,dd=some d->d<da)
  (Hy:∀r∈refs,∀(j:Nat) (l:aE),r.fF[j]?=some (some l)->wB ts t0 dd l=l/\Sat w ω τ l (ii aN (ys r.i) j)) (zt:∀(j:Nat) (l:aE),nk[j]?=some (some l)->wB ts t0 dd l=l/\Sat w ω τ l (ii aN v j))
  (OD:∀src ds,hB=.iO src ds->wD src=k8 nk):
  ∃bd cR,cD w0 (st.wC ts t0 refs dd nk oj) a aN bd cR/\cO (Sat aN bd cR) (hB.fK t0 dd) v:=by
 classical
 let bd:Own:=fun b=>if b<w.heap.size/\ha (kS refs) ts (ω b)=.bG then pj t0 dd (ω b) else mR t0 refs dd (fh b)
 let aI:Nat->Nat×Value:=fun n=>if n<5000 then hB.eb v n else
  ((((wu ((n-5000) / 100) oj refs)[(n-5000) % 100]?).map D.s').getD 0,ii aN (if (n-5000) / 100=49 then v else ys ((n-5000) / 100)) ((n-5000) % 100))
 let cR:Nat->Nat×Value:=fun s=>if t0<=s/\s<t0+10000 then aI (s-t0) else τ s
 have zl:∀r∈refs,r.i<49:=fun r aH=>(sU cN aH).1
 have hold:∀b,b<w.heap.size->ha (kS refs) ts (ω b)=.bG->bd b=pj t0 dd (ω b):=fun b U aa=>by grind
 have gF:∀b,fh b≠.bG->bd b=mR t0 refs dd (fh b):=fun b h=>by
  grind
 have nd:∀b,b<w.heap.size->ha (kS refs) ts (ω b)=.bG->aN.heap[b]?=w.heap[b]?:=fun b U aa=>ay.block b U (fun a'=>a' aa)
 have Da:∀r∈refs,∀b,ω b=.box r.id->fh b=.box r.i/\ys r.i=ptrTo b:=by
  intro r aH b df;obtain⟨⟨e0,arr,ty,U,aa,_⟩,⟨fQ,aB,aJ⟩,a6⟩:=hrefs r aH;obtain⟨ls,vi⟩:=qO.1 a6;obtain⟨tp,_,_,_,hu,_⟩:=aZ.boxes r.id ls vi;have e1:=hu b df;have e2:=hu fQ aJ;have cn:fQ=b:=by rw[e1,e2]
  subst cn;rw[aB]at U;simp only[ptrTo,Value.pointer.injEq,aW,Addr.mk.injEq]at U;grind
 have xu:∀id b,sx dd id=true->ω b=.box id->bd b=.box id:=by
  intro id b hp df;have bO:=aZ.owned.lt (b:=b) (by simp[df]);cases e:look id (kS refs) with
  | none=>
   simp_all[ha,kS,pj,gy]
  | some i=>
   obtain⟨r,aH,rfl,rfl⟩:=DW e;grind[mR,I0,sU]
 have bn:lP w ω τ aN bd cR (AO ts t0) (sx dd):=by
  refine⟨?_,?_,fun id b hp h=>xu id b hp h,?_,fun s ak=>by simp only[cR];rw[bH (by omega)]⟩
  ·intro g eu b q ax bO aL;unfold AO at ax;split at ax
   ·cases ax
   rename_i hm;simp only[uV]at hm;have hi:ha (kS refs) ts (ω b)=.bG:=by
    cases g with
    | free=>simp only[Tag.R]at aL;rw[aL];rfl
    | own s=>
     grind[Tag.R,Tag.ph,Gg,Gh,ha]
    | ro s=>
     simp only[Tag.ph,Gg,Gh]at hm;rcases aL with h | ⟨dU,h⟩
     ·rw[h];rfl
     grind[ha]
   refine⟨?_,nd b bO hi⟩;rw[hold b bO hi];cases g with
   | free=>simp only[gp,aW]at ax;subst ax;simp only[Tag.R]at aL ⊢;rw[aL];rfl
   | own s=>
    simp only[Tag.R]at aL;simp only[gp]at ax;rw[aL];simp only[pj];split at ax
    ·simp only[aW]at ax;subst ax;rw[bL ‹_›];rfl
    simp only[aW]at ax;subst ax;rw[bH ‹_›];rfl
   | ro s=>
    simp only[Tag.R]at aL;simp only[gp]at ax;split at ax
    ·simp only[aW]at ax;subst ax;rcases aL with h | ⟨dU,h⟩
     ·rw[h];rfl
     rw[h];simp only[pj];rw[bL ‹_›];rfl
    simp only[aW]at ax;subst ax;rcases aL with h | ⟨dU,h⟩
    ·rw[h];exact .inl rfl
    rw[h];simp only[pj];rw[bH ‹_›];exact .inr ⟨dU,rfl⟩
  ·intro g eu y ax bM;unfold AO at ax;split at ax
   ·cases ax
   cases g with
   | free=>simp only[gp,aW]at ax;subst ax;exact trivial
   | own s=>
    simp only[gp]at ax;split at ax
    ·simp only[aW]at ax;subst ax;exact trivial
    simp only[aW]at ax;subst ax;simp only[Tag.eb,cR]at bM ⊢;simp_all[bH]
   | ro s=>
    simp only[gp]at ax;split at ax
    ·simp only[aW]at ax;subst ax;exact trivial
    simp only[aW]at ax;subst ax;exact trivial
  rfl
 have cell:∀(n:Nat) (d:D) (u:Value),n<10000->aI n=(d.s',u)->b1 aN fh (Tag.own n).R d u->Sat aN bd cR (d.pw (t0+n)) u:=by
  intro n d u a' bx aH;cases d with
  | v x=>
   have e:u=x:=by cases aH;rfl
   subst e;unfold D.pw;split
   ·rename_i h;cases h;exact rfl
   ·rename_i h;cases h;exact rfl
   ·grind
   ·exact trivial
   grind
  | ptr ds=>exact trivial
  | a8 g bt=>exact trivial
  | J k es=>
   refine⟨aH.frame fun b q bO aL=>⟨?_,rfl⟩,?_⟩
   ·simp_all[Tag.R,mR,bL]
   simp only[Tag.eb,cR];rw[bL (by omega),show t0+n-t0=n by omega,bx];rfl
 have var:∀(i:Nat) (post:List D) (y:Value) (id:Nat) (cQ:List (Option aE)),i<50->post.length<100->wu i oj refs=post->(if i=49 then v else ys i)=y->u1 aN fh i (k8 cQ) (hs i) post y->pe i dd refs=some id->(∀(j:Nat) (l:aE),cQ[j]?=some (some l)->wB ts t0 dd l=l/\Sat w ω τ l (ii aN y j))->
   (∀dw fE,pe fE dd refs=some id->fh dw=.box fE->fE=i)->(∀dw,ω dw=.box id->sx dd id=true->¬ha (kS refs) ts (ω dw)=.bG)->tk aN bd cR id (k6 cQ (ny (t0+hs i 0) 0 post))/\∃b,y=ptrTo b/\bd b=.box id:=by
  rintro i post y id cQ hi OJ Zk bM ⟨b,arr,ty,rfl,aa,aB,aJ,a6,bF⟩ hid Y2 ax8 lr;have eM:bd b=.box id:=by
   grind[mR]
  refine⟨⟨b,arr,ty,eM,fun dw df=>?_,aJ,by grind[DV,x8],fun j l ar=>?_⟩,b,rfl,eM⟩
  ·by_cases ao:dw<w.heap.size/\ha (kS refs) ts (ω dw)=.bG
   ·rw[hold dw ao.1 ao.2]at df;cases e:ω dw with
    | bG=>rw[e]at df;cases df
    | tok s q=>grind[pj]
    | box h1=>
     grind[pj,di.box.injEq,absurd]
   have nf:mR t0 refs dd (fh dw)=.box id:=by
    grind
   cases e:fh dw with
   | bG=>rw[e]at nf;cases nf
   | tok s q=>grind[mR]
   | box fE=>
    grind[mR,di.box.injEq]
  have kM:j<(k6 cQ (ny (t0+hs i 0) 0 post)).length:=(fP.1 ar).1;rw[DV,x8]at kM;rcases Jx cQ _ j l ar with⟨ar,_⟩ | ⟨ar,HC⟩
  ·obtain⟨u,hu,_⟩:=bF j _ (iB kM);obtain⟨g1,g2⟩:=Y2 j l ar;refine⟨u,hu,?_⟩;have e:ii aN (ptrTo b) j=u:=by simp[ii,ptrTo,aJ,eR,hu]
   rw[e]at g2;have:=bn.sat l u g2;grind
  rw[AH,ca]at ar;obtain⟨d,ez,rfl⟩:=ar;obtain⟨u,hu,aH⟩:=bF j d ez;replace aH:=aH HC;have bm:j<100:=by
   grind
  refine⟨u,hu,?_⟩;have:=cell (hs i j) d u (by grind[hs]) (by
   have e1:(hs i j-5000) / 100=i:=by grind[hs]
   have e2:(hs i j-5000) % 100=j:=by grind[hs]
   simp only[aI];rw[bH (by grind[hs]),e1,e2,Zk,ez,bM];simp[ii,ptrTo,aJ,eR,hu]) aH
  rw[show t0+hs i 0+(0+j)=t0+hs i j by grind[hs]];exact this
 have aym:∀r∈refs,tk aN bd cR r.id (k6 r.fF (ny (t0+hs r.i 0) 0 r.post)):=by
  intro r aH;obtain⟨U,aa,aB,aJ⟩:=sU cN aH;refine (var r.i r.post (ys r.i) r.id r.fF (by omega) aa (QW aH fun y bM e=>(aJ y bM).1 e) (by grind) (hrefs r aH).1 (I0 aH fun y bM e=>by grind) (Hy r aH) (fun dw fE e _=>?_) (fun dw e _=>?_)).1
  ·grind[ya,absurd]
  grind[ha,QX]
 have se:∀id ls,dD id (st.wC ts t0 refs dd nk oj).boxes=some ls->tk aN bd cR id ls:=by
  intro id ls ar;have rest:∀id ls,dd≠some id->dD id (wq t0 refs (st.boxes.map fun x=>(x.1,x.2.map (wB ts t0 dd))))=some ls->tk aN bd cR id ls:=by
   intro id ls CR ar;by_cases aH:∃r∈refs,r.id=id
   ·obtain⟨r,aH,rfl⟩:=aH;rw[QV aH (fun y bM e=>((sU cN aH).2.2.2 y bM).2 e) (by
     rw[sQ];grind)]at ar
    grind
   have eS:∀r∈refs,r.id≠id:=fun r U aa=>aH ⟨r,U,aa⟩
   rw[IZ eS,sQ,ca]at ar;obtain⟨jm,b4,rfl⟩:=ar;obtain⟨b,arr,ty,U,aa,aB,aJ⟩:=aZ.boxes id jm b4;have hp:sx dd id=true:=by
    unfold sx;split
    ·rfl
    simp only[jR,c3];grind
   have bO:=aZ.owned.lt (b:=b) (by simp[U]);have CX:look id (kS refs)=none:=by
    cases e:look id (kS refs) with
    | none=>rfl
    | some i=>
     grind[DW,absurd]
   have hi:ha (kS refs) ts (ω b)=.bG:=by grind[ha]
   refine⟨b,arr,ty,xu id b hp U,fun dw df=>?_,(nd b bO hi).trans aB,aJ.map bn.sat⟩;by_cases ao:dw<w.heap.size/\ha (kS refs) ts (ω dw)=.bG
   ·rw[hold dw ao.1 ao.2]at df;cases e:ω dw with
    | bG=>rw[e]at df;cases df
    | tok s q=>grind[pj]
    | box h1=>
     grind[pj,di.box.injEq]
   have nf:mR t0 refs dd (fh dw)=.box id:=by
    grind
   cases e:fh dw with
   | bG=>rw[e]at nf;cases nf
   | tok s q=>grind[mR]
   | box fE=>
    grind[mR,di.box.injEq,ya,absurd]
  simp only[aF.wC,QU]at ar;cases dd with
  | none=>grind
  | some d=>
   simp only[dD]at ar;by_cases aI:d=id
   ·subst aI;rw[bL rfl]at ar;rw[<-gd ar];cases hB with
    | vals rs=>exact absurd C8.1 (by simp)
    | iO src ds=>
     obtain⟨_,rfl,hlen⟩:=C8;obtain⟨e4,_⟩:=e4;rw[OD _ _ rfl]at e4;refine (var 49 oj v d nk (by omega) hlen (I2 zl) (bL rfl) e4 (I1 zl) zt (fun dw fE e _=>?_) (fun dw _ e=>?_)).1
     ·grind[ya,absurd,sU]
     simp[sx,jR]at e
   rw[bH aI,x1 (fun e=>aI e.symm)]at ar;grind
 refine⟨bd,cR,⟨aZ.defers,by simp[aF.wC,aZ.size],?_,?_,fun s ak=>?_,fun id b hi df=>?_,?_,se⟩,?_⟩
 ·refine⟨ay.os.trans aZ.below.os,ay.tape.trans aZ.below.tape,ay.output.trans aZ.below.output,tj aZ.below.size ay.size,fun b bO ax=>?_,fun ak=>tj (aZ.below.drawn ak) (ay.drawn ak),ay.laid,aZ.below.free⟩;have jM:b<w.heap.size:=yE bO aZ.below.size;have p0:ω b=.bG:=by
   cases e:ω b with
   | bG=>rfl
   | box id=>exact absurd (aZ.owned b (by simp[e])).1 (fun h=>h.elim (fun h=>by omega) ax)
   | tok s q=>exact absurd (aZ.owned b (by simp[e])).1 (fun h=>h.elim (fun h=>by omega) ax)
  exact (nd b jM (by rw[p0];rfl)).trans (aZ.below.block b bO ax)
 ·intro b fV;by_cases ao:b<w.heap.size/\ha (kS refs) ts (ω b)=.bG
  ·rw[hold b ao.1 ao.2]at fV;have aa:ω b≠.bG:=fun e=>by rw[e]at fV;exact fV rfl
   obtain⟨aB,arr,ty,aJ⟩:=aZ.owned b aa;grind
  have aa:fh b≠.bG:=fun e=>by
   simp only[bd]at fV;rw[bH ao,e]at fV;exact fV rfl
  obtain⟨arr,ty,aJ⟩:=lp b aa;refine⟨?_,arr,ty,aJ⟩;by_cases bO:b<w.heap.size
  ·have a6:ω b≠.bG:=fun e=>ao ⟨bO,by rw[e];rfl⟩
   exact (aZ.owned b a6).1
  exact .inl (by have:=aZ.below.size;omega)
 ·have:cR s=τ s:=by simp only[cR];rw[bH (by omega)]
  rw[this];exact aZ.fixed s ak
 ·by_cases ao:b<w.heap.size/\ha (kS refs) ts (ω b)=.bG
  ·rw[hold b ao.1 ao.2]at df;cases e:ω b with
   | bG=>rw[e]at df;cases df
   | tok s q=>grind[pj]
   | box h1=>
    rw[e]at df;simp only[pj]at df;split at df
    ·simp only[di.box.injEq]at df;subst df;exact aZ.pinned h1 b hi e
    cases df
  have nf:mR t0 refs dd (fh b)=.box id:=by
   grind
  cases e:fh b with
  | bG=>rw[e]at nf;cases nf
  | tok s q=>grind[mR]
  | box fE=>
   rw[e]at nf;simp only[mR]at nf;split at nf
   ·rename_i h1 e2;simp only[di.box.injEq]at nf;subst nf;rcases ya e2 with⟨r,a6,rfl,rfl⟩ | ⟨_,bF⟩
    ·obtain⟨⟨e0,arr,ty,g1,g2,g3,_⟩,⟨fQ,g4,g5⟩,_⟩:=hrefs r a6;have cn:=g3 b e;rw[g4]at g1;simp only[ptrTo,Value.pointer.injEq,aW,Addr.mk.injEq]at g1;rw[cn,<-g1.1];exact aZ.pinned r.id fQ hi g5
    grind
   cases nf
 ·intro i q aL;simp only[aF.wC]at aL;rw[dP,ca]at aL;obtain⟨f',b4,rfl⟩:=aL;obtain⟨u,U,aa⟩:=aZ.env i f' b4;exact⟨u,U,cO.map bn.sat aa⟩
 cases hB with
 | iO src ds=>
  obtain⟨CR,rfl,hlen⟩:=C8;obtain⟨d,rfl⟩:=qO.1 CR;obtain⟨e4,_⟩:=e4;rw[OD _ _ rfl]at e4;obtain⟨b,U,aa⟩:=(var 49 oj v d nk (by omega) hlen (I2 zl) (bL rfl) e4 (I1 zl) zt (fun dw fE e _=>by
   grind[ya,absurd,sU]) (fun dw _ e=>by simp[sx,jR]at e)).2
  exact⟨b,aa,U⟩
 | vals rs=>
  obtain⟨rfl,ee⟩:=C8;simp only[I3,cH,c3]at ee;have eU:∀(r:Nat) (cq:cJ),rs[r]?=some cq->∀ds,cq=.agg ds->ds.length<100:=by
   intro r cq aH ds e;have:=fU.1 ee.2 cq (fI aH);grind
  have tr:∀(r:Nat) (cq:cJ) (y:Value),r<50->(∀ds,cq=.agg ds->ds.length<100)->rs[r]?=some cq->(∀j,j<100->ng rs v (100*r+j)=y.cells.getD j undef)->l6 aN fh r cq y->km (Sat aN bd cR) (cq.res (t0+100*r)) y:=by
   intro r cq y aH eU zy bx o4;have hc:∀j,j<100->pY rs (100*r+j)=(match cJ.cell j cq with | some (.J k _)=>k | _=>0):=by
    intro j bm;unfold pY;rw[show (100*r+j) / 100=r by omega,show (100*r+j) % 100=j by omega,zy];rfl
   have OS:∀d:D,(match some d with | some (.J k _)=>k | _=>0)=d.s':=fun d=>by cases d<;>rfl
   cases cq with
   | one d=>
    have U:=o4.pk;have aa:=bx 0 (by omega);rw[zY U]at aa;have:=cell (100*r) d y (by omega) (by
     simp only[aI,aV.eb];rw[bL (by omega)];have aB:=hc 0 (by omega);rw[nO]at aa aB;rw[aB,aa];simp only[cJ.cell,gy];rw[OS];rfl) o4
    exact this
   | agg ds=>
    obtain⟨vs,rfl,a',bm⟩:=o4;refine⟨vs,rfl,by grind[x8],fun j l ar=>?_⟩;rw[AH,ca]at ar;obtain⟨d,ez,rfl⟩:=ar;obtain⟨u,hu,zz⟩:=bm j d ez;have kM:j<100:=by
     grind
    refine⟨u,hu,?_⟩;have:=cell (100*r+j) d u (by omega) (by
     simp only[aI,aV.eb];rw[bL (by omega),hc j kM,bx j kM];simp only[cJ.cell,ez];rw[OS];simp[Value.cells,eR,hu]) zz
    grind
  show cO (Sat aN bd cR) (s7 t0 rs) v;cases rs with
  | nil=>
   obtain⟨vs,rfl,a',_⟩:=e4;exact⟨vs,rfl,a',fun i a aj=>by grind[qp]⟩
  | cons cq rest=>
   cases rest with
   | nil=>
    have:=tr 0 cq v (by omega) (eU 0 cq rfl) rfl (fun j bm=>by
     unfold ng;grind) e4
    exact this
   | cons NO rest=>
    obtain⟨vs,rfl,a',bx⟩:=e4;refine⟨vs,rfl,by grind[DK],fun i a aj=>?_⟩;rw[DJ,ca]at aj;obtain⟨nX,U,rfl⟩:=aj;obtain⟨y,bM,zi⟩:=bx i nX U;have jL:i<50:=by
     grind
    refine⟨y,bM,?_⟩;have:=tr i nX y jL (eU i nX U) U (fun j bm=>by
     unfold ng;simp only;rw[show (100*i+j) / 100=i by omega,show (100*i+j) % 100=j by omega];simp[eR,bM]) zi
    grind
end Go.Sx
namespace Go.Sx
open Go.RowKit
def aE.ph(ts:List (Nat×Nat)):aE->Bool
 | .J g _ _=>g.ph ts
 | .aP t _ _ _ _ _=>(look t ts).isSome
 | _=>false
variable{w:World}{ω:Own}{τ:Nat->Nat×Value}{l:aE}
theorem QY{bs ts:List (Nat×Nat)}{d:D}{y:Value}(h:l.gl=some d)(hm:l.ph ts=false)(ak:Sat w ω τ l y):
  b1 w (fun b=>ha bs ts (ω b)) Tag.free.R d y:=by
 have tag:∀(g:Tag) (b:Nat) (q:List (Nat×Nat)),g.ph ts=false->g.R q (ω b)->ha bs ts (ω b)=.bG:=by
  intro g b q ax aL;cases g with
  | free=>simp only[Tag.R]at aL;rw[aL];rfl
  | own s=>
   grind[Tag.R,Tag.ph,Gg,Gh,ha]
  | ro s=>
   simp only[Tag.ph,Gg,Gh]at ax;rcases aL with h | ⟨dU,h⟩
   ·rw[h];rfl
   grind[ha]
 cases l with
 | cw=>cases h
 | v x=>
  simp only[aE.gl]at h;split at h
  ·simp only[aW]at h;subst h;have:y=x:=ak;subst this;exact .v _ _ ‹_›
  cases h
 | bg c=>
  simp only[aE.gl,aW]at h;subst h;have:y=.bool c:=ak;subst this;exact .v _ _ rfl
 | J t k es=>simp only[aE.gl,aW]at h;subst h;exact ak.1.frame fun b q _ aL=>⟨tag t b q hm aL,rfl⟩
 | ptr=>cases h
 | cL=>cases h
 | gC=>cases h
 | fp=>cases h
 | hU ds off=>
  simp only[aE.gl]at h;split at h
  ·rename_i bc;subst bc;simp only[aW]at h;subst h;obtain⟨b,rfl,aH⟩:=ak;exact aH.frame fun b q _ aL=>⟨tag .free b q rfl aL,rfl⟩
  cases h
 | fd dK=>simp only[aE.gl,aW]at h;subst h;exact b1.frame ak fun b q _ aL=>⟨tag .free b q rfl aL,rfl⟩
 | dt t k es=>simp only[aE.gl,aW]at h;subst h;exact b1.frame ak.1 fun b q _ aL=>⟨tag .free b q rfl aL,rfl⟩
 | aP t i j k es m=>
  obtain⟨u,hu,aH,_⟩:=ak;have fin:y=u->b1 w (fun b=>ha bs ts (ω b)) Tag.free.R (.J k es) y:=by
   intro e;rw[e];exact aH.frame fun b q _ aL=>⟨tag (.own t) b _ hm aL,rfl⟩
  cases m with
  | at_ x z=>cases h
  | here=>simp only[aE.gl,aW]at h;subst h;exact fin hu
  | lQ=>simp only[aE.gl,aW]at h;subst h;exact fin hu
def aG.Cp:aG->Option (cJ×List aE)
 | .aC (.one l)=>l.gl.map fun d=>(.one d,[l])
 | .aC (.agg ls)=>(ls.mapM aE.gl).map fun ds=>(.agg ds,ls)
 | _=>none
def wv(i:Nat):Nat->List aE->List (Nat×Nat)
 | _,[]=>[]
 | j,l::ls=>match l.tok with | some t=>(t,qG i j)::wv i (j+1) ls | none=>wv i (j+1) ls
theorem QZ{i:Nat}:∀{ls:List aE} {j0 j:Nat} {l:aE} {t:Nat},ls[j]?=some l->l.tok=some t->(t,qG i (j0+j))∈wv i j0 ls
 | [],_,_,_,_,h,_=>by simp at h
 | eW::ls,j0,0,l,t,h,bZ=>by
  grind[wv,kG]
 | eW::ls,j0,j+1,l,t,h,bZ=>by
  have:=QZ (i:=i) (ls:=ls) (j0:=j0+1) (j:=j) (by simpa using h) bZ;grind[wv,iA]
def qj:aE->Option aE
 | .dt t k es=>some (.dt t k es)
 | .J .free k es=>some (.J .free k es)
 | _=>none
def sV(ls:List aE):List (Option aE):=if (ls.map qj).all Option.isNone then [] else ls.map qj
def aE.Fu(l:aE):Option D:=match qj l with | some l=>l.gl | none=>l.iv
theorem AP{gH:aE}(h:qj l=some gH):gH=l/\(∀ts t0 dd,wB ts t0 dd l=l)/\∃k es,l.gl=some (.J k es)/\∀{w ω τ y},Sat w ω τ l y->b1 w ω Tag.free.R (.J k es) y:=by
 unfold qj at h;split at h
 ·rename_i t k es;cases h;exact⟨rfl,fun _ _ _=>rfl,k,es,rfl,fun ak=>ak.1⟩
 ·rename_i k es;cases h;exact⟨rfl,fun _ _ _=>by simp[aE.cF,AO,Tag.ph,gp],k,es,rfl,fun ak=>ak.1⟩
 cases h
theorem ap7{ls:List aE}{j:Nat}(h:(sV ls)[j]?=some (some l)):ls[j]?=some l/\qj l=some l:=by
 grind[sV,ca,AP]
theorem I4{ls:List aE}{j:Nat}(ar:ls[j]?=some l):stays (k8 (sV ls)) j=(qj l).isSome:=by
 unfold sV;split
 ·rename_i h;have:=fU.1 h (qj l) (mO.2 ⟨l,fI ar,rfl⟩);simp only[stays,k8,List.map_nil,List.getD_nil];simp_all
 simp_all[stays,k8,List.map_map]
def vu(b7:List aG):List (Option Nat)->Option (List (Option aE))
 | []=>some []
 | none::r=>(vu b7 r).map fun x=>none::x
 | some a::r=>
  match b7[a]? with
  | some (.aC (.one l))=>
   match qj l,vu b7 r with
   | some gH,some mI=>some (some gH::mI)
   | _,_=>none
  | _=>none
theorem DX{b7:List aG}:∀{src:List (Option Nat)} {nk:List (Option aE)},vu b7 src=some nk->wD src=k8 nk/\∀(j:Nat) (l:aE),nk[j]?=some (some l)->∃a,src[j]?=some (some a)/\b7[a]?=some (.aC (.one l))/\qj l=some l
 | [],nk,h=>by
  simp only[vu,aW]at h;subst h;exact⟨rfl,fun j l h=>by simp at h⟩
 | none::r,nk,h=>by
  simp only[vu,ca]at h;obtain⟨x,U,rfl⟩:=h;obtain⟨g1,g2⟩:=DX U;grind[wD,k8]
 | some a::r,nk,h=>by
  simp only[vu]at h;split at h
  ·rename_i l e;split at h
   ·rename_i gH mI e1 e2;simp only[aW]at h;subst h;obtain⟨g1,g2⟩:=DX e2;have:=(AP e1).1;subst this;refine⟨by grind[wD,k8],fun j l bm=>?_⟩;grind
   cases h
  cases h
def VA:aG->Option Nat
 | .aC (.one (.ptr id 0))=>some id
 | _=>none
structure Cc where
 oF:List aM
 refs:List jb
 ts:List (Nat×Nat)
 px:List aE
def r6:aG->Option (FuncId×List Nat)
 | .aC (.one (.gC g ids))=>some (g,ids)
 | _=>none
def Pt(id:Nat):aG:=.aC (.one (.ptr id 0))
def pH(bs:lO):Nat->List (Option (List D))->List aG->Option Cc
 | _,[],[]=>some ⟨[],[],[],[]⟩
 | i,none::ms,p::b7=>
  match r6 p with
  | some (g,ids)=>(pH bs (i+1) ms b7).map fun r=>⟨.fn g (List.range' (i+1) ids.length)::r.oF,r.refs,r.ts,r.px⟩
  | none=>
   match p.Cp,pH bs (i+1) ms b7 with
   | some (cq,ls),some r=>some ⟨.ro cq::r.oF,r.refs,r.ts,ls++r.px⟩
   | _,_=>none
 | i,some post::ms,p::b7=>
  match VA p,pH bs (i+1) ms b7 with
  | some id,some r=>
   match dD id bs with
   | some ls=>
    match ls.mapM aE.Fu with
    | some pre=>some ⟨.io (k8 (sV ls)) pre post::r.oF,⟨i,id,post,sV ls⟩::r.refs,wv i 0 ls++r.ts,r.px⟩
    | none=>none
   | none=>none
  | _,_=>none
 | _,_,_=>none
def Cd(bs:lO)(a:Cc)(i:Nat)(jz:aM)(p:aG):Prop:=
 (∃g ids,jz=.fn g (List.range' (i+1) ids.length)/\p=.aC (.one (.gC g ids)))\/
 (∃cq ls,jz=.ro cq/\p.Cp=some (cq,ls)/\∀l∈ls,l∈a.px)\/
 (∃id ls pre post,jz=.io (k8 (sV ls)) pre post/\p=.aC (.one (.ptr id 0))/\dD id bs=some ls/\ls.mapM aE.Fu=some pre/\(⟨i,id,post,sV ls⟩:jb)∈a.refs/\∀x∈wv i 0 ls,x∈a.ts)
theorem Cd.mono{bs:lO}{a b:Cc}{i:Nat}{jz:aM}{p:aG}(h:Cd bs a i jz p)(U:∀l∈a.px,l∈b.px)(aa:∀x∈a.refs,x∈b.refs)(aB:∀x∈a.ts,x∈b.ts):Cd bs b i jz p:=by
 rcases h with h | ⟨cq,ls,e1,e2,cn⟩ | ⟨id,ls,pre,post,e1,e2,cn,ed,hP,mr⟩
 ·exact .inl h
 ·exact .inr (.inl ⟨cq,ls,e1,e2,fun l ar=>U l (cn l ar)⟩)
 exact .inr (.inr ⟨id,ls,pre,post,e1,e2,cn,ed,aa _ hP,fun x aq=>aB x (mr x aq)⟩)
theorem DY{bs:lO}:∀{ms:List (Option (List D))} {b7:List aG} {i:Nat} {a:Cc},pH bs i ms b7=some a->a.oF.length=b7.length/\
  (∀(x:Nat) (jz:aM),a.oF[x]?=some jz->∃p,b7[x]?=some p/\Cd bs a (i+x) jz p)/\
  (∀r∈a.refs,∃(x:Nat) (pre:List D),r.i=i+x/\a.oF[x]?=some (.io (k8 r.fF) pre r.post)/\b7[x]?=some (.aC (.one (.ptr r.id 0)))/\∃ls,dD r.id bs=some ls/\r.fF=sV ls)
 | [],[],i,a,h=>by
  simp only[pH,aW]at h;grind
 | none::ms,p::b7,i,a,h=>by
  simp only[pH]at h;split at h
  ·rename_i g ids bz;rw[ca]at h;obtain⟨r,e2,rfl⟩:=h;obtain⟨dk,c7,bQ⟩:=DY e2;have hp:p=.aC (.one (.gC g ids)):=by
    unfold r6 at bz;grind
   refine⟨by simp[dk],fun x jz aq=>?_,fun y bM=>?_⟩
   ·cases x with
    | zero=>
     simp only[lg,aW]at aq;subst aq;exact⟨p,rfl,.inl ⟨g,ids,rfl,hp⟩⟩
    | succ x=>
     obtain⟨qi,U,aa⟩:=c7 x jz (by grind);refine⟨qi,by grind,?_⟩;rw[show i+1+x=i+(x+1) by omega]at aa;exact aa.mono (fun _ h=>h) (fun _ h=>h) (fun _ h=>h)
   obtain⟨x,pre,U,aa,aB,aJ⟩:=bQ y bM;exact⟨x+1,pre,by omega,by grind,by grind,aJ⟩
  split at h
  ·rename_i cq ls r e1 e2;simp only[aW]at h;subst h;obtain⟨dk,c7,bQ⟩:=DY e2;refine⟨by simp[dk],fun x jz aq=>?_,fun y bM=>?_⟩
   ·cases x with
    | zero=>
     simp only[lg,aW]at aq;subst aq;exact⟨p,rfl,.inr (.inl ⟨cq,ls,rfl,e1,fun l ar=>iy _ ar⟩)⟩
    | succ x=>
     obtain⟨qi,U,aa⟩:=c7 x jz (by grind);refine⟨qi,by grind,?_⟩;rw[show i+1+x=i+(x+1) by omega]at aa;exact aa.mono (fun l ar=>jD _ ar) (fun _ h=>h) (fun _ h=>h)
   obtain⟨x,pre,U,aa,aB,aJ⟩:=bQ y bM;exact⟨x+1,pre,by omega,by grind,by grind,aJ⟩
  cases h
 | some post::ms,p::b7,i,a,h=>by
  simp only[pH]at h;split at h
  ·rename_i id r e1 e2;split at h
   ·rename_i ls cn;split at h
    ·rename_i pre ed;simp only[aW]at h;subst h;obtain⟨dk,c7,bQ⟩:=DY e2;have hp:p=.aC (.one (.ptr id 0)):=by
      unfold VA at e1;grind
     refine⟨by simp[dk],fun x jz aq=>?_,fun y bM=>?_⟩
     ·cases x with
      | zero=>
       simp only[lg,aW]at aq;subst aq;exact⟨p,rfl,.inr (.inr ⟨id,ls,pre,post,rfl,hp,cn,ed,kG,fun x aq=>iy _ aq⟩)⟩
      | succ x=>
       obtain⟨qi,U,aa⟩:=c7 x jz (by grind);refine⟨qi,by grind,?_⟩;rw[show i+1+x=i+(x+1) by omega]at aa;exact aa.mono (fun _ h=>h) (fun x h=>iA _ h) (fun x h=>jD _ h)
     rcases eK.1 bM with rfl | bM
     ·grind
     obtain⟨x,Dr,U,aa,aB,aJ⟩:=bQ y bM;exact⟨x+1,Dr,by omega,by grind,by grind,aJ⟩
    cases h
   cases h
  cases h
 | [],_::_,i,a,h=>by grind[pH]
 | none::_,[],i,a,h=>by grind[pH]
 | some _::_,[],i,a,h=>by grind[pH]
def aV.GN(d:Option Nat):aV->Bool
 | .vals rs=>I3 rs
 | .iO _ ds=>d.isSome&&decide (ds.length<100)
def aV.dd(d:Option Nat):aV->Option Nat
 | .vals _=>none
 | .iO _ _=>d
def aV.oj:aV->List D
 | .vals _=>[]
 | .iO _ ds=>ds
def aV.nk(b7:List aG):aV->Option (List (Option aE))
 | .vals _=>some []
 | .iO src _=>vu b7 src
theorem aV.XZ{d:Option Nat}{r:aV}(h:r.GN d=true):r.fits (r.dd d) r.oj:=by
 cases r with
 | vals rs=>exact⟨rfl,h⟩
 | iO src ds=>
  simp only[aV.GN,cH,c3]at h;exact⟨h.1,rfl,h.2⟩
def ui(n:Nat):Nat->List aM->Bool
 | _,[]=>true
 | i,.fn _ _::r=>i+1==n&&ui n (i+1) r
 | i,_::r=>ui n (i+1) r
theorem DZ{n:Nat}:∀{as:List aM} {i x:Nat} {g:FuncId} {cQ:List Nat},ui n i as=true->as[x]?=some (.fn g cQ)->i+x+1=n
 | [],_,_,_,_,_,h=>by simp at h
 | .fn _ _::r,i,0,g,cQ,h,aq=>by
  simp_all[ui,cH,kE]
 | .fn _ _::r,i,x+1,g,cQ,h,aq=>by
  simp only[ui,cH,kE]at h;have:=DZ h.2 (x:=x) (by simpa using aq);omega
 | .ro _::r,i,0,g,cQ,h,aq=>by simp at aq
 | .io _ _ _::r,i,0,g,cQ,h,aq=>by simp at aq
 | .ro _::r,i,x+1,g,cQ,h,aq=>by
  have:=DZ (i:=i+1) (by simpa[ui]using h) (x:=x) (by simpa using aq);omega
 | .io _ _ _::r,i,x+1,g,cQ,h,aq=>by
  have:=DZ (i:=i+1) (by simpa[ui]using h) (x:=x) (by simpa using aq);omega
def AQ(P:Program)(st:aF)(d:Option Nat)(f:FuncId)(n:Nat)(b7:List aG)(ans:List cd):Option (aF×List cd×List Prop):=
 match ans with
 | .dB vv hB::r=>
  match pH st.boxes 0 vv b7,hB.nk b7 with
  | some a,some nk=>
   let t0:=10000*(d.getD 0+1)
   if hj P f=true/\t0+10000<=da/\x' a.refs (hB.dd d)=true/\Jw a.ts=true/\hB.GN d=true/\a.px.all (fun l=>!(l.ph a.ts))=true/\s6 a.oF=n/\ui n 0 a.oF=true then
    let bu:=st.wC a.ts t0 a.refs (hB.dd d) nk hB.oj
    match d with
    | some d=>some (⟨bu.env.set d (hB.fK t0 (hB.dd (some d))),bu.boxes⟩,r,[b3 P f a.oF hB])
    | none=>some (bu,r,[b3 P f a.oF hB])
   else none
  | _,_=>none
 | _=>none
def I5(P:Program)(st:aF)(d:Option Nat)(f:FuncId)(args:List Operand)(ans:List cd):Option (aF×List cd×List Prop):=
 match (args.map st.bn).getLast?.bind r6 with
 | some (_,ids)=>AQ P st d f args.length (args.map st.bn++ids.map Pt) ans
 | none=>AQ P st d f args.length (args.map st.bn) ans
def I6(P:Program)(st:aF)(d:Option Nat)(f:Operand)(args:List Operand)(ans:List cd):Option (aF×List cd×List Prop):=
 match r6 (st.bn f) with
 | some (g,ids)=>if (args.map st.bn).all (fun p=>(r6 p).isNone) then AQ P st d g (args.length+ids.length) (args.map st.bn++ids.map Pt) ans else none
 | none=>none
variable{a:Act}{P:Program}{w0:eE}{st bu:aF}{dst:Option Nat}{ans cm:List cd}{obs:List Prop}
theorem I7{f:FuncId}{n:Nat}{b7:List aG}{vs:Array Value}{o:Oper}
  (Hk:o.dst=dst) (aZ:cD w0 st a w ω τ) (h:AQ P st dst f n b7 ans=some (bu,cm,obs)) (bc:cK obs) (dI:vs.size=b7.length) (gR:∀(x:Nat) (p:aG),b7[x]?=some p->∃v,vs[x]?=some v/\cO (Sat w ω τ) p v)
  (kL:∀(x:Nat) (g:FuncId) (ids:List Nat),x+1=n->b7[x]?=some (.aC (.one (.gC g ids)))->vs[x]?=some (.func (.func g) #[] ((List.range' n ids.length).map fun k=>vs.getD k undef).toArray))
  (fv:hj P f=true->(execOp a.eval o).run P w=.ok (.enter f (vs.extract 0 n)) w) {K:Act->World->Prop} {Q:Exit->Act->World->Prop} (hH:∀cI aN,Rel w0 bu cI aN->K cI aN):
  Oper.wp P o a w K Q:=by
 unfold AQ at h;split at h
 ·rename_i vv hB r;split at h
  ·rename_i r1 nk mu zt;simp only at h;split at h
   ·rename_i ao;obtain⟨jh,iL,cN,CX,ee,C7,HL,tH⟩:=ao;rw[fU]at C7;have zx:∀l∈r1.px,l.ph r1.ts=false:=fun l ar=>by grind
    obtain⟨hlen,c7,bQ⟩:=DY mu
    let yJ:Own:=fun b=>ha (kS r1.refs) r1.ts (ω b)
    have db:∀b,yJ b≠.bG->ω b≠.bG:=fun b h e=>h (by simp only[yJ,e];rfl)
    have Zm:Gv w yJ r1.oF vs:=by
     refine⟨fun b ay=>(aZ.owned b (db b ay)).2,fun b i ay=>?_,by grind,fun x jz aq=>?_⟩
     ·simp only[yJ]at ay;cases e:ω b with
      | bG=>grind
      | tok s q=>grind[ha]
      | box h1=>
       rw[e]at ay;simp only[ha]at ay;split at ay
       ·rename_i fE oV;simp only[di.box.injEq]at ay;subst ay;obtain⟨mI,eS,_,yP⟩:=DW oV;grind
       cases ay
     obtain⟨p,hp,qY⟩:=c7 x jz aq;obtain⟨v,bx,ak⟩:=gR x p hp;refine⟨v,bx,?_⟩;rw[dW]at qY;rcases qY with⟨g,ids,rfl,_⟩ | ⟨cq,ls,rfl,e2,cn⟩ | ⟨id,ls,pre,post,rfl,rfl,cn,ed,hP,mr⟩
     ·exact trivial
     ·cases p with
      | fN as=>cases e2
      | aC aC=>
       cases aC with
       | one l=>
        simp only[aG.Cp,ca]at e2;obtain⟨d,U,aa⟩:=e2;simp only[bA]at aa;obtain⟨rfl,rfl⟩:=aa;exact QY U (zx l (cn l (by simp))) ak
       | agg fx=>
        simp only[aG.Cp,ca]at e2;obtain⟨ds,U,aa⟩:=e2;simp only[bA]at aa;obtain⟨rfl,rfl⟩:=aa;obtain⟨aB,aJ⟩:=nx U;obtain⟨vs,rfl,a',ZI⟩:=ak;refine⟨vs,rfl,by omega,fun j d aI=>?_⟩;obtain⟨l,ar,c1⟩:=aJ j d aI;obtain⟨u,hu,fw⟩:=ZI j l ar;exact⟨u,hu,QY c1 (zx l (cn l (fI ar))) fw⟩
     obtain⟨b,ay,rfl⟩:=ak;obtain⟨dw,arr,ty,eM,hu,bD,eN⟩:=aZ.boxes id ls cn;have:=hu b ay;subst this;have Y6:=QX cN hP;simp only at Y6;obtain⟨aB,aJ⟩:=nx ed;refine⟨⟨b,arr,ty,rfl,by grind[ha],fun c ao=>?_,bD,by have:=eN.1;omega,fun j d aI=>?_⟩,fun j d aI fc=>?_⟩
     ·simp only[yJ]at ao;cases e:ω c with
      | bG=>grind
      | tok s q=>grind[ha]
      | box h1=>
       grind[ha,di.box.injEq,DW,sU]
     rotate_left
     ·obtain⟨l,ar,c1⟩:=aJ j d aI;obtain⟨u,gG,fw⟩:=eN.2 j l ar;rw[I4 ar]at fc;obtain⟨gH,p1⟩:=qO.1 fc;obtain⟨rfl,_,k,es,dz,sj⟩:=AP p1;simp only[aE.Fu,p1]at c1;rw[dz]at c1;cases c1;have e:ii w (.pointer (some ⟨b,0,none⟩)) j=u:=by simp[ii,bD,eR,gG]
      rw[e];refine (sj fw).frame fun c q _ aL=>⟨?_,rfl⟩
      grind[Tag.R,ha]
     obtain⟨l,ar,c1⟩:=aJ j d aI;obtain⟨u,gG,fw⟩:=eN.2 j l ar;refine⟨u,gG,fun fc=>?_⟩;rw[I4 ar]at fc;have OK:qj l=none:=by simpa using fc
     simp only[aE.Fu,OK]at c1;clear fc OK;cases l with
     | v z=>
      simp only[aE.iv]at c1;split at c1
      ·simp only[aW]at c1;subst c1;have:u=z:=fw;subst this;exact .v _ _ ‹_›
      cases c1
     | bg c=>
      simp only[aE.iv,aW]at c1;subst c1;have:u=.bool c:=fw;subst this;exact .v _ _ rfl
     | J g k es=>
      cases g with
      | free=>cases c1
      | ro s=>cases c1
      | own s=>
       simp only[aE.iv,aW]at c1;subst c1;have hm:=mr _ (QZ (i:=x) (j0:=0) ar rfl);rw[dW]at hm;have aye:=QT CX hm;refine fw.1.frame fun c q _ aL=>⟨?_,rfl⟩
       grind[Tag.R,ha]
     | cw=>cases c1
     | ptr=>cases c1
     | cL=>cases c1
     | hU=>cases c1
     | fd=>cases c1
     | dt=>cases c1
     | gC=>cases c1
     | aP=>cases c1
     | fp=>cases c1
    have Hq:Gp r1.oF vs:=by
     intro x g cQ aq;have zH:=DZ tH aq;rw[dW]at zH;obtain⟨p,hp,qY⟩:=c7 x _ aq;rw[dW]at qY;rcases qY with⟨eu,ids,e1,rfl⟩ | ⟨cq,ls,e1,_⟩ | ⟨id,ls,pre,post,e1,_⟩
     ·grind
     ·cases e1
     cases e1
    have key:b3 P f r1.oF hB->(∀v aN bd cR,cD w0 (st.wC r1.ts (10000*(dst.getD 0+1)) r1.refs (hB.dd dst) nk hB.oj) a aN bd cR->cO (Sat aN bd cR) (hB.fK (10000*(dst.getD 0+1)) (hB.dd dst)) v->K (a.put dst v) aN)->
      Oper.wp P o a w K Q:=by
     intro HK Ob;unfold Oper.wp;rw[fv jh,<-HL];simp only[Oper.upon];rw[Hk];refine (HK w _ yJ Zm Hq (aZ.tidy fun b ay=>by grind)).mono ?_;rintro e aN ⟨v,rfl,k2,fh,bK,ct,cG,eo⟩;obtain⟨bd,cR,U,aa⟩:=aZ.XS (10000*(dst.getD 0+1)) (nk:=nk) (ys:=fun i=>vs.getD i undef) cN iL k2 fh bK ct (fun r aH=>by
      obtain⟨x,pre,g1,g2,g3,g4⟩:=bQ r aH;rw[dW]at g1;obtain⟨y,bM,ak⟩:=gR x _ g3;obtain⟨b,ay,rfl⟩:=ak;have e:vs.getD r.i undef=ptrTo b:=by rw[g1,eR,bM];rfl
      rw[e];obtain⟨ls,g5,g6⟩:=g4;simp_all[ptrTo]) eo (aV.XZ ee) (fun d aI=>by
      cases hB with
      | vals rs=>cases aI
      | iO src ds=>
       have aI:dst=some d:=aI;grind) (fun r aH j l bm=>by
      obtain⟨x,pre,g1,g2,g3,ls,g5,g6⟩:=bQ r aH;rw[dW]at g1;obtain⟨y,bM,ak⟩:=gR x _ g3;obtain⟨b,ay,rfl⟩:=ak;have e:vs.getD r.i undef=ptrTo b:=by rw[g1,eR,bM];rfl
      rw[e];rw[g6]at bm;obtain⟨i1,i2⟩:=ap7 bm;refine⟨(AP i2).2.1 _ _ _,?_⟩;have fc:stays (k8 r.fF) j=true:=by simp_all[I4]
      rw[(cG r.i _ pre r.post (ptrTo b) (by grind) (by simp_all)).2 j fc];obtain⟨dw,arr,ty,eM,hu,bD,eN⟩:=aZ.boxes _ ls g5;have:=hu b ay;subst this;obtain⟨u,gG,fw⟩:=eN.2 j l i1;have e:ii w (ptrTo b) j=u:=by simp[ii,ptrTo,bD,eR,gG]
      grind) (fun j l bm=>by
      cases hB with
      | vals rs=>
       grind[aV.nk,aW]
      | iO src ds=>
       obtain⟨_,i2⟩:=DX zt;obtain⟨x,tN,sv,ZY⟩:=i2 j l bm;refine⟨(AP ZY).2.1 _ _ _,?_⟩;obtain⟨y,bM,ak⟩:=gR x _ sv;have:=eo.2 j x tN;rw[bM]at this;rw[<-gd this];exact ak) (fun src ds e=>by
      subst e;exact (DX zt).1)
     grind
    cases dst with
    | none=>
     simp only[aW,bA]at h;obtain⟨rfl,_,rfl⟩:=h;exact key bc.1 fun v aN bd cR U _=>hH _ _ ⟨bd,cR,U⟩
    | some d=>
     simp only[aW,bA]at h;obtain⟨rfl,_,rfl⟩:=h;exact key bc.1 fun v aN bd cR U aa=>hH _ _ ⟨bd,cR,U.put aa⟩
   cases h
  cases h
 cases h
theorem ap8{f:FuncId}{args:Array Operand}{ts:Array TypeId}{type:TypeId}{pos:String}{after:Array Edge}{guard:Option (Nat×Bool)}
  (aZ:cD w0 st a w ω τ) (h:I5 P st dst f args.toList ans=some (bu,cm,obs)) (bc:cK obs) {K:Act->World->Prop} {Q:Exit->Act->World->Prop} (hH:∀cI aN,Rel w0 bu cI aN->K cI aN):
  Oper.wp P ⟨dst,.call ⟨.value (.func f),args,ts⟩,type,pos,after,guard⟩ a w K Q:=by
 have gR:∀(x:Nat) (p:aG),(args.toList.map st.bn)[x]?=some p->∃v,(args.map a.eval)[x]?=some v/\cO (Sat w ω τ) p v:=by
  intro x p hp;rw[dP,ca]at hp;obtain⟨o,U,rfl⟩:=hp;refine⟨a.eval o,?_,aZ.bn o⟩;grind
 have fv:hj P f=true->(execOp a.eval ⟨dst,.call ⟨.value (.func f),args,ts⟩,type,pos,after,guard⟩).run P w=.ok (.enter f (args.map a.eval)) w:=by
  intro jh;unfold hj at jh;split at jh
  ·rename_i fn kL;simp only[cH,i',yC,nQ]at jh;have sf:fn.body≠none:=by grind
   simp[execOp,resolve,Act.eval,Deferred.ofValue,invoke,callFunc,kL,jh.1,sf]
  cases jh
 unfold I5 at h;split at h
 ·rename_i g ids tK;rw[mf]at tK;obtain⟨p,hp,Hf⟩:=tK;have lu:p=.aC (.one (.gC g ids)):=by
   unfold r6 at Hf;grind
  subst lu;have xg:0<(args.toList.map st.bn).length:=by
   grind
  have OM:(args.toList.map st.bn)[args.toList.length-1]?=some (.aC (.one (.gC g ids))):=by
   grind
  obtain⟨v,bx,bs,Hd,ve,fV⟩:=gR _ _ OM;have a':0<args.size:=by grind
  refine I7 (n:=args.toList.length) (vs:=args.map a.eval++(bs.map ptrTo).toArray) rfl aZ h bc (by simp[ve]) (fun x p aq=>?_) (fun x eu ZT zH aq=>?_) (fun jh=>?_) hH
  ·rw[pz]at aq;rw[jE];split at aq
   ·grind
   rename_i o6;rw[bH (by grind)];rw[dP,ca]at aq;obtain⟨id,hid,rfl⟩:=aq;obtain⟨b,gD,hx⟩:=fV _ id hid;refine⟨ptrTo b,?_,b,hx,rfl⟩;grind
  ·have bO:x<args.size:=by grind
   have xo:x=args.toList.length-1:=by omega
   rw[pz,bL (by grind),xo,OM]at aq;simp only[aW,aG.aC.injEq,bl.one.injEq,aE.gC.injEq]at aq;obtain⟨rfl,rfl⟩:=aq;rw[jE,bL (by grind),xo,bx,Hd]
   congr 2
   apply Array.ext
   ·simp[ve]
   simp_all
  have e:(args.map a.eval++(bs.map ptrTo).toArray).extract 0 args.toList.length=args.map a.eval:=by
   simp_all
  grind
 refine I7 (n:=args.toList.length) (vs:=args.map a.eval) rfl aZ h bc (by simp) gR (fun x g ids zH aq=>?_) (fun jh=>?_) hH
 ·rename_i lr;exfalso;have:(args.toList.map st.bn).getLast?=some (.aC (.one (.gC g ids))):=by
   grind
  grind[r6]
 have e:(args.map a.eval).extract 0 args.toList.length=args.map a.eval:=by simp
 grind
theorem ap9{y:Nat}{args:Array Operand}{ts:Array TypeId}{type:TypeId}{pos:String}{after:Array Edge}{guard:Option (Nat×Bool)}
  (aZ:cD w0 st a w ω τ) (h:I6 P st dst (.tmp y) args.toList ans=some (bu,cm,obs)) (bc:cK obs) {K:Act->World->Prop} {Q:Exit->Act->World->Prop} (hH:∀cI aN,Rel w0 bu cI aN->K cI aN):
  Oper.wp P ⟨dst,.call ⟨.value (.tmp y),args,ts⟩,type,pos,after,guard⟩ a w K Q:=by
 have gR:∀(x:Nat) (p:aG),(args.toList.map st.bn)[x]?=some p->∃v,(args.map a.eval)[x]?=some v/\cO (Sat w ω τ) p v:=by
  intro x p hp;rw[dP,ca]at hp;obtain⟨o,U,rfl⟩:=hp;refine⟨a.eval o,?_,aZ.bn o⟩;grind
 unfold I6 at h;split at h
 ·rename_i g ids Hf;have lu:st.bn (.tmp y)=.aC (.one (.gC g ids)):=by
   unfold r6 at Hf;grind
  have ak:=aZ.bn (.tmp y);rw[lu]at ak;obtain⟨bs,Hd,ve,fV⟩:=ak;split at h
  case isFalse=>cases h
  rename_i lr;refine I7 (n:=args.toList.length+ids.length) (vs:=args.map a.eval++(bs.map ptrTo).toArray) rfl aZ h bc (by simp[ve]) (fun x p aq=>?_) (fun x eu ZT zH aq=>?_) (fun jh=>?_) hH
  ·rw[pz]at aq;rw[jE];split at aq
   ·grind
   rename_i o6;rw[bH (by grind)];rw[dP,ca]at aq;obtain⟨id,hid,rfl⟩:=aq;obtain⟨b,gD,hx⟩:=fV _ id hid;refine⟨ptrTo b,?_,b,hx,rfl⟩;grind
  ·exfalso;rw[pz]at aq;split at aq
   ·rename_i bO;have:=fU.1 lr _ (fI aq);grind[r6]
   rw[dP,ca]at aq;obtain⟨id,_,e⟩:=aq;cases e
  have e:(args.map a.eval++(bs.map ptrTo).toArray).extract 0 (args.toList.length+ids.length)=args.map a.eval++(bs.map ptrTo).toArray:=by
   have e2:args.toList.length+ids.length=(args.map a.eval++(bs.map ptrTo).toArray).size:=by simp[ve]
   grind
  rw[e];unfold hj at jh;split at jh
  ·rename_i fn kL;simp only[cH,i',yC,nQ]at jh;have sf:fn.body≠none:=by grind
   simp[execOp,resolve,Hd,Deferred.ofValue,invoke,callFunc,kL,jh.1,sf]
  cases jh
 cases h
