import Derived.Test.YtdchjefneblpgaaR1
set_option linter.unusedVariables false
set_option linter.unusedSimpArgs false
namespace Go.Sx
open Go.RowKit
def nF(id:Nat)(ej:List aq):List (Nat×List aq)->List (Nat×List aq)
 | []=>[]
 | (i,ls)::r=>if i=id then (i,ej)::r else (i,ls)::nF id ej r
variable{id:Nat}{ej:List aq}
theorem ua:∀{bs:List (Nat×List aq)} {ls:List aq},cM id bs=some ls->cM id (nF id ej bs)=some ej
 | [],_,h=>by cases h
 | (i,l)::r,ls,h=>by
  simp only[nF];by_cases hi:i=id
  ·rw[bb hi];simp[cM,hi]
  rw[aZ hi];simp only[cM,aZ hi]at h ⊢;exact ua h
theorem ub{gu:Nat}(aR:gu≠id):∀{bs:List (Nat×List aq)},cM gu (nF id ej bs)=cM gu bs
 | []=>rfl
 | (i,l)::r=>by
  simp only[nF];by_cases hi:i=id
  ·rw[bb hi];simp only[cM,hi];rw[aZ (Ne.symm aR),aZ (Ne.symm aR)]
  rw[aZ hi];simp only[cM];split
  ·rfl
  exact ub aR
theorem Tag.OD{t:Tag}{q:List (Nat×Nat)}:¬t.R q (.box id):=by
 cases t with
 | free=>exact fun h=>by cases h
 | own s=>exact fun h=>by cases h
 | ro s=>exact fun h=>by rcases h with h | ⟨_,h⟩<;>cases h
theorem Sat.adQ{w:World}{ω:Own}{τ:Nat->Nat×Value}{b:Nat}(ah:ω b=.box id)(cs:Array Value):∀(l:aq) (v:Value),Sat w ω τ l v->Sat (w.setRow b cs) ω τ l v:=by
 have aW:jD w ω τ (w.setRow b cs) ω τ om (fun _=>true):=by
  refine⟨?_,?_,fun _ _ _ h=>h,rfl,fun _ _=>rfl⟩
  ·intro t c3 cH q ag _ aw;simp only[om,aH]at ag;subst ag;refine⟨aw,setRow_other w b cH cs fun e=>?_⟩;subst e;rw[ah]at aw;exact Tag.OD aw
  intro t c3 y ag a7;simp only[om,aH]at ag;subst ag;exact a7
 intro l v ad;have:=aW.sat l v ad;cases l with
 | bE t i j k es m=>
  obtain⟨u,hu,J,hm⟩:=ad;refine⟨u,hu,J.frame fun c q ai aw=>⟨aw,setRow_other w b c cs fun e=>?_⟩,fun bq=>?_⟩
  ·subst e;rw[ah]at aw;cases aw
  obtain⟨kT,fa,off,len,cap,arr,ty,cj,U,a1,ax,aJ⟩:=hm bq;exact⟨kT,fa,off,len,cap,arr,ty,cj,U,a1,(setRow_other w b fa cs fun e=>by subst e;rw[ah]at a1;cases a1).trans ax,aJ⟩
 | ef t vs=>
  obtain⟨fa,ty,arr,e,a1,ax,aR,a8⟩:=ad;refine⟨fa,ty,arr,e,a1,(setRow_other w b fa cs fun e=>by subst e;rw[ah]at a1;cases a1).trans ax,aR,fun j c ai=>?_⟩;obtain⟨u,J,U⟩:=a8 j c ai;refine⟨u,J,?_⟩;have dQ:=aW.j4 c u U;have:dR.b3 om c=c:=by cases c<;>simp[dR.b3,om]
  rwa[this]at dQ
 | _=>simpa[aq.b3,om]using this
variable{w0:dC}{st:aG}{a:Act}{w:World}{ω:Own}{τ:Nat->Nat×Value}
theorem b1.adV(h:b1 w0 st a w ω τ){ls:List aq}(ag:cM id st.boxes=some ls)
  {b:Nat} (ah:ω b=.box id) {bJ:Array Value} (ad:ia (Sat w ω τ) ej bJ):
  b1 w0 ⟨st.env,nF id ej st.boxes⟩ a (w.setRow b bJ) ω τ:=by
 obtain⟨cH,arr,ty,dv,hu,bq,dJ⟩:=h.boxes id ls ag;have:=hu b ah;subst this;have B7:=Sat.adQ (w:=w) (ω:=ω) (τ:=τ) ah bJ;have ie:=setRow_heap w b arr bJ ty (0,0) bq;refine⟨h.defers,h.size,?_,?_,h.fixed,h.pinned,?_,?_⟩
 ·exact h.below.setRow (h.owned b (by simp[ah])).1 bJ
 ·intro c ai;obtain⟨J,hD,hO,U⟩:=h.owned c ai;by_cases e:c=b
  ·subst e;exact⟨J,bJ,ty,ie⟩
  exact⟨J,hD,hO,(setRow_other w b c bJ e).trans U⟩
 ·intro i p hp;obtain⟨v,J,U⟩:=h.env i p hp;refine⟨v,J,?_⟩;have:=cd.map (f:=_root_.id) B7 U;have e:az.map _root_.id p=p:=by
   cases p with
   | aN a=>cases a<;>simp[az.map,bi.map]
   | fD as=>
    simp only[az.map]
    congr 1
    have:bi.map _root_.id=_root_.id:=by funext a;cases a<;>simp[bi.map]
    rw[this];simp
  rwa[e]at this
 intro i l ak;by_cases e:i=id
 ·subst e;rw[ua ag]at ak;have e:=e0 ak;subst e;refine⟨b,bJ,ty,ah,hu,ie,?_⟩;have:=ad.map (f:=_root_.id) B7;simpa using this
 rw[ub e]at ak;obtain⟨c,hD,hO,ai,PJ,PA,iB⟩:=h.boxes i l ak;have cl:c≠b:=fun e'=>by subst e';rw[ah]at ai;simp only[cx.box.injEq]at ai;exact e ai.symm
 refine⟨c,hD,hO,ai,PJ,(setRow_other w b c bJ cl).trans PA,?_⟩;have:=iB.map (f:=_root_.id) B7;simpa using this
abbrev Stepped:=Option (aG×List bI×List Prop)
def Dq(st:aG)(d:Nat)(p:az)(ans:List bI):Stepped:=
 if d<cy then p.leaves.map fun ls=>(⟨(st.qD d ls).env.set d (.one (.ptr d 0)),(st.qD d ls).boxes⟩,ans,[]) else none
variable{a6:aG}{ans bN:List bI}{obs:List Prop}
theorem b1.box{P:Program}{d:Nat}{p:az}{v:Value}(aI:b1 w0 st a w ω τ)
  (hp:cd (Sat w ω τ) p v) (h:Dq st d p ans=some (a6,bN,obs)) (ty:TypeId):
  ∃z aD,(do pure (.pointer (some (<-newVar ty v))):Sem Value).run P w=.ok z aD/\Rel w0 a6 (a.put (some d) z) aD:=by
 unfold Dq at h;split at h
 case isFalse=>cases h
 rename_i qs;rw[bF]at h;obtain⟨ls,J,h⟩:=h;simp only[a']at h;obtain⟨rfl,_,_⟩:=h;obtain⟨ad,_⟩:=az.tH J hp;obtain⟨aP,B3,cE⟩:=aI.qD d qs ty ad;refine⟨.pointer (some ⟨w.heap.size,0,none⟩),w.alloc (.cells v.cells ty),by simp[newVar,newRow],aP,τ,?_⟩;exact B3.put (p:=.one (.ptr d 0)) ⟨w.heap.size,cE,rfl⟩
def Dr(P:Program)(st:aG)(d:Nat)(elem:TypeId)(ans:List bI):Stepped:=
 match P.info? elem with
 | some i=>match i.zero with
  | some z=>if d<cy then let ls:=z.cells.toList.map .v;some (⟨(st.qD d ls).env.set d (.one (.ptr d 0)),(st.qD d ls).boxes⟩,ans,[]) else none
  | none=>none
 | none=>none
theorem b1.alloc{P:Program}{d:Nat}{elem:TypeId}(aI:b1 w0 st a w ω τ)
  (h:Dr P st d elem ans=some (a6,bN,obs)):
  ∃z aD,(Instr.alloc elem true (.tuple #[])).run P w=.ok z aD/\Rel w0 a6 (a.put (some d) z) aD:=by
 unfold Dr at h;split at h
 ·rename_i i hi;split at h
  ·rename_i z aL;split at h
   case isFalse=>cases h
   rename_i qs;simp only[aH,a']at h;obtain⟨rfl,_,_⟩:=h;have ad:ia (Sat w ω τ) (z.cells.toList.map .v) z.cells:=by
    refine⟨by simp,fun j l ak=>?_⟩;rw[dG,bF]at ak;obtain⟨u,hu,rfl⟩:=ak;exact⟨u,by simpa using hu,rfl⟩
   obtain⟨aP,B3,cE⟩:=aI.qD d qs elem ad;refine⟨.pointer (some ⟨w.heap.size,0,none⟩),w.alloc (.cells z.cells elem),by simp[Instr.alloc,zeroValue,typeInfo,hi,aL,newVar,newRow],aP,τ,?_⟩;exact B3.put (p:=.one (.ptr d 0)) ⟨w.heap.size,cE,rfl⟩
  cases h
 cases h
def Ds(P:Program)(st:aG)(t:TypeId)(id off:Nat)(q:az)(ans:List bI):Stepped:=
 match cM id st.boxes,q.leaves,P.info? t with
 | some ls,some xs,some i=>if xs.length=i.size/\off+xs.length<=ls.length then some (⟨st.env,nF id (qf ls off xs) st.boxes⟩,ans,[]) else none
 | _,_,_=>none
theorem wS{α:Type}{xs ys:List α}{off:Nat}(h:off+ys.length<=xs.length)(i:Nat):
  (xs.take off++ys++xs.drop (off+ys.length))[i]?=if off<=i/\i<off+ys.length then ys[i-off]? else xs[i]?:=by
 rw[GM,kf,xp,Nat.min_eq_left (by omega)];by_cases J:i<off
 ·rw[bb J,aZ (by omega),h9,bb J]
 rw[aZ J,kf];by_cases U:i-off<ys.length
 ·rw[bb U,bb (by omega)]
 rw[aZ U,aZ (by omega),iv]
 congr 1
 omega
theorem b1.adU{P:Program}{t:TypeId}{off:Nat}{q:az}{b:Nat}{v:Value}
  (aI:b1 w0 st a w ω τ) (ah:ω b=.box id) (aw:cd (Sat w ω τ) q v) (h:Ds P st t id off q ans=some (a6,bN,obs)):
  ∃aD,(Instr.storeAt t (.pointer (some ⟨b,off,none⟩)) v).run P w=.ok () aD/\Rel w0 a6 a aD:=by
 unfold Ds at h;split at h
 ·rename_i ls xs i aK aO b2;split at h
  ·rename_i ai;simp only[aH,a']at h;obtain⟨rfl,_,_⟩:=h;obtain⟨ad,nh⟩:=az.tH aO aw;obtain⟨cH,arr,ty,dv,hu,bq,dJ⟩:=aI.boxes id ls aK;have:=hu b ah;subst this;have ek:=run_storeCells_at P b off ty v.cells.toList 0 arr w bq (by simp;have:=ad.1;have:=dJ.1;omega) nh;have fc:ia (Sat w ω τ) (qf ls off xs) (arr.toList.take (off+0)++v.cells.toList++arr.toList.drop (off+0+v.cells.toList.length)).toArray:=by
    have J:=ad.1;have U:=dJ.1;refine⟨?_,fun j l ak=>?_⟩
    ·rw[DQ (by omega)];simp;omega
    rw[Jr (by omega)]at ak;rw[lI,lM,wS (by simp;omega)];simp only[AA];by_cases aU:off<=j/\j<off+xs.length
    ·rw[bb aU]at ak;rw[bb (by omega)];obtain⟨u,ax,aJ⟩:=ad.2 _ _ ak;exact⟨u,by simpa using ax,aJ⟩
    rw[aZ aU]at ak;rw[aZ (by omega)];obtain⟨u,ax,aJ⟩:=dJ.2 _ _ ak;exact⟨u,by simpa using ax,aJ⟩
   refine⟨_,?_,ω,τ,aI.adV aK ah fc⟩;simp only[Instr.storeAt,Instr.sureAddr,Sem.run_bind,Sem.run_pure,Result.andThen_ok,storeVar,sizeOf,typeInfo,run_program,b2];have dN:¬(v.cells.size≠i.size):=by simp;have:=ad.1;omega
   rw[aZ dN];exact ek
  cases h
 cases h
end Go.Sx
namespace Go.Sx
open Go.RowKit
variable{w0:dC}{st:aG}{a:Act}{w:World}{ω:Own}{τ:Nat->Nat×Value}
theorem b1.dE{aD:World}{aP:Own}{ch:Nat->Nat×Value}(h:b1 w0 st a w ω τ)(f:aq->aq)
  (dJ:∀l v,Sat w ω τ l v->Sat aD aP ch (f l) v) (n9:e8 w0 aD) (nj:k5 w0 aD aP)
  (pi:∀id b,ω b=.box id->aP b=.box id/\aD.heap[b]?=w.heap[b]?) (vn:∀id b,aP b=.box id->ω b=.box id) (qu:∀t,cy<=t->ch t=τ t:=by intros;rfl):b1 w0 (st.map f) a aD aP ch where
 defers:=h.defers
 size:=by simp[aG.map,h.size]
 below:=n9
 owned:=nj
 fixed:=fun t bH=>(qu t bH).trans (h.fixed t bH)
 pinned:=fun id b hi ah=>h.pinned id b hi (vn id b ah)
 env:=by
  intro i q aw;simp only[aG.map]at aw;rw[dG,bF]at aw;obtain⟨mf,bX,rfl⟩:=aw;obtain⟨v,J,U⟩:=h.env i mf bX;exact⟨v,J,cd.map dJ U⟩
 boxes:=by
  intro id ls ak;simp only[aG.map]at ak;rw[pR,bF]at ak;obtain⟨hn,bX,rfl⟩:=ak;obtain⟨b,arr,ty,ah,hu,bq,ad⟩:=h.boxes id hn bX;obtain⟨J,U⟩:=pi id b ah;exact⟨b,arr,ty,J,fun cH dv=>hu cH (vn id cH dv),U.trans bq,ad.map dJ⟩
abbrev fT:=List (Nat×(Nat×Nat))
def fT.at(s:Nat):fT->Option (Nat×Nat)
 | []=>none
 | (i,p)::r=>if i=s then some p else fT.at s r
def gv(t:Nat)(ms:fT):Tag->Option Tag
 | .free=>some .free
 | .own s=>if s=t then some .free else if (ms.at s).isSome then none else some (.own s)
 | .ro s=>if s=t then some .free else if (ms.at s).isSome then none else some (.ro s)
def mh(t:Nat)(ms:fT):cx->cx
 | .tok s q=>if s=t then .bc else match ms.at s with | some p=>.tok t (p::q) | none=>.tok s q
 | o=>o
variable{t:Nat}{ms:fT}
theorem zi{o:cx}{id:Nat}:mh t ms o=.box id<->o=.box id:=by
 cases o with
 | bc=>simp[mh]
 | box i=>simp[mh]
 | tok s q=>
  simp only[mh];split
  ·simp
  ·split<;>simp
theorem Jv{g dg:Tag}{q:List (Nat×Nat)}{o:cx}(h:gv t ms g=some dg)(ar:g.R q o):dg.R q (mh t ms o):=by
 cases g with
 | free=>simp only[gv,aH]at h;subst h;simp only[Tag.R]at ar ⊢;rw[ar];rfl
 | own s=>
  simp only[Tag.R]at ar;subst ar;simp only[gv]at h;simp only[mh];split at h
  ·simp only[aH]at h;subst h;rw[bb ‹_›];rfl
  split at h
  ·cases h
  rename_i J U;simp only[aH]at h;subst h;rw[aZ J];cases e:ms.at s with
  | none=>rfl
  | some p=>simp[e]at U
 | ro s=>
  simp only[Tag.R]at ar;simp only[gv]at h;split at h
  ·simp only[aH]at h;subst h;rcases ar with rfl | ⟨c5,rfl⟩
   ·rfl
   simp only[mh];rw[bb ‹_›];rfl
  split at h
  ·cases h
  rename_i J U;simp only[aH]at h;subst h;rcases ar with rfl | ⟨c5,rfl⟩
  ·exact .inl rfl
  refine .inr ⟨c5,?_⟩;simp only[mh];rw[aZ J];cases e:ms.at s with
  | none=>rfl
  | some p=>simp[e]at U
def mi(w:World)(ω:Own)(t:Nat)(ms:fT):Own:=fun b=>if b=w.heap.size then .tok t [] else mh t ms (ω b)
def su(w:World)(τ:Nat->Nat×Value)(t k n c:Nat):Nat->Nat×Value:=fun s=>if s=t then (k,.slice (some ⟨w.heap.size,0,none⟩) n c) else τ s
def aG.ho(st:aG)(t:Nat)(ms:fT):aG:=st.map (aq.b3 (gv t ms) fun _=>true)
theorem RW{w1:World}{k n c:Nat}(gU:t<cy)(bn:ω w.heap.size=.bc)(bq:∀b,b<w.heap.size->w1.heap[b]?=w.heap[b]?):
  jD w ω τ w1 (mi w ω t ms) (su w τ t k n c) (gv t ms) (fun _=>true):=by
 refine⟨?_,?_,?_,rfl,fun s ad=>by simp only[su];rw[aZ (by omega)]⟩
 ·intro g dg b q ag ah aw;refine⟨?_,bq b ah⟩;simp only[mi];rw[aZ (by omega)];exact Jv ag aw
 ·intro g dg y ag a7;cases g with
  | free=>simp only[gv,aH]at ag;subst ag;exact trivial
  | own s=>
   simp only[gv]at ag;split at ag
   ·simp only[aH]at ag;subst ag;exact trivial
   split at ag
   ·cases ag
   simp only[aH]at ag;subst ag;simp only[Tag.de,su]at a7 ⊢;rw[aZ ‹_›];exact a7
  | ro s=>
   simp only[gv]at ag;split at ag
   ·simp only[aH]at ag;subst ag;exact trivial
   split at ag
   ·cases ag
   simp only[aH]at ag;subst ag;exact trivial
 intro id b _ ah;simp only[mi];by_cases e:b=w.heap.size
 ·subst e;rw[bn]at ah;cases ah
 rw[aZ e,ah];rfl
def aq.gP:aq->Option D
 | .v x=>if x.oneCell' then some (.v x) else none
 | .bP c=>some (.v (.bool c))
 | .aa (.own _) k es=>some (.aa k es)
 | _=>none
def aq.tok:aq->Option Nat
 | .aa (.own s) _ _=>some s
 | _=>none
def zj(w:World)(ω:Own)(τ:Nat->Nat×Value)(t:Nat)(ms:fT)(i j:Nat)(d:D)(u:Value):Prop:=
 ∃l:aq,l.gP=some d/\Sat w ω τ l u/\∀s,l.tok=some s->s≠t/\ms.at s=some (i,j)
theorem zj.rep{w1:World}{i j:Nat}{d:D}{u:Value}(h:zj w ω τ t ms i j d u)(bq:∀b,b<w.heap.size->w1.heap[b]?=w.heap[b]?):
  bA w1 (mi w ω t ms) (fun q=>(Tag.own t).R ((i,j)::q)) d u:=by
 obtain⟨l,ay,ad,hm⟩:=h;cases l with
 | b5=>cases ay
 | v x=>
  simp only[aq.gP]at ay;split at ay
  ·simp only[aH]at ay;subst ay;have:u=x:=ad;subst this;exact .v _ _ ‹_›
  cases ay
 | bP c=>
  simp only[aq.gP,aH]at ay;subst ay;have:u=.bool c:=ad;subst this;exact .v _ _ rfl
 | aa g k es=>
  cases g with
  | free=>cases ay
  | ro s=>cases ay
  | own s=>
   simp only[aq.gP,aH]at ay;subst ay;obtain⟨cl,n8⟩:=hm s rfl;refine ad.1.frame fun b q ah aw=>⟨?_,bq b ah⟩
   simp only[Tag.R]at aw ⊢;simp only[mi];rw[aZ (by omega),aw];simp only[mh];rw[aZ cl,n8]
 | ptr id off=>cases ay
 | ep g k es i j=>cases ay
 | gZ=>cases ay
 | fd=>cases ay
 | dL=>cases ay
 | eL=>cases ay
 | bE=>cases ay
 | ef=>cases ay
theorem b1.ho{w1:World}(h:b1 w0 st a w ω τ)(t:Nat)(gU:t<cy)(ms:fT){k cap:Nat}{es:List (List D)}{arr:Array Value}{ty:TypeId}
  (ah:e9 w.heap.size w w1) (fc:w1.heap[w.heap.size]?=some (.cells arr ty (0,0))) (ai:es.length<=cap) (dN:cap*k<=arr.size) (aT:∀e∈es,e.length=k)
  (ee:∀i j d,cq es i j=some d->∃u,arr[i*k+j]?=some u/\zj w ω τ t ms i j d u):
  b1 w0 (st.ho t ms) a w1 (mi w ω t ms) (su w τ t k es.length cap)/\
  Sat w1 (mi w ω t ms) (su w τ t k es.length cap) (.aa (.own t) k es) (.slice (some ⟨w.heap.size,0,none⟩) es.length cap):=by
 have bn:ω w.heap.size=.bc:=h.owned.fresh (fF _);have kA:=ah.block;have afv:w.heap.size<w1.heap.size:=(hB.1 fc).1;have ll:mi w ω t ms w.heap.size=.tok t []:=by simp[mi]
 have gS:∀b,b≠w.heap.size->mi w ω t ms b=mh t ms (ω b):=fun b ah=>by simp[mi,ah]
 refine⟨h.dE _ (RW gU bn kA).sat ?_ ?_ ?_ ?_ (fun s ad=>by simp only[su];rw[aZ (by omega)]),?_,?_⟩
 ·exact h.below.next ah
 ·intro b eM;by_cases e:b=w.heap.size
  ·subst e;exact⟨.inl h.below.size,arr,ty,fc⟩
  rw[gS b e]at eM;have U:ω b≠.bc:=fun e'=>by rw[e']at eM;exact eM rfl
  obtain⟨ax,hD,hO,aJ⟩:=h.owned b U;exact⟨ax,hD,hO,(kA b (h.owned.lt U)).trans aJ⟩
 ·intro id b eM;have bk:=h.owned.lt (b:=b) (by simp[eM]);rw[gS b (by omega),eM];exact⟨rfl,kA b bk⟩
 ·intro id b eM;by_cases e:b=w.heap.size
  ·subst e;rw[ll]at eM;cases eM
  rw[gS b e]at eM;exact zi.1 eM
 ·have rZ:∀i j d,cq es i j=some d->arr[0+i*k+j]?=some (arr.getD (i*k+j) undef)/\zj w ω τ t ms i j d (arr.getD (i*k+j) undef):=by
   intro i j d ay;obtain⟨u,J,U⟩:=ee i j d ay;have e:arr.getD (i*k+j) undef=u:=by simp[dF,J]
   rw[e];exact⟨by rw[cP];exact J,U⟩
  exact .row _ k es w.heap.size 0 cap arr ty (0,0) (fun i j=>arr.getD (i*k+j) undef) fc ll ai (by omega) aT (fun i j d ay=>(rZ i j d ay).1) (fun i j d ay=>(rZ i j d ay).2.rep kA)
 simp[Tag.de,su]
def zk(P:Program)(st:aG)(d:Nat)(t:TypeId)(p q:az)(ans:List bI):Stepped:=
 match P.underlying t with
 | some (.slice e)=>
  match P.info? e,p.int,q.int with
  | some i,some (_,l),some (_,c)=>
   match i.zero with
   | some z=>
    if i.size=z.cells.size/\0<i.size/\z.cells.all (·.oneCell')=true/\d<cy then
     some (⟨(st.ho d []).env.set d (.one (.aa (.own d) i.size (List.replicate l.toNat (z.cells.toList.map .v)))),(st.ho d []).boxes⟩,ans,[0<=l,l<=c,(i.bytes:Int)*c<=281474976710656,c<=9223372036854775807])
    else none
   | none=>none
  | _,_,_=>none
 | _=>none
theorem Jw(z:Array Value)(n i j:Nat)(hi:i<n)(aU:j<z.size):(madeCells z (n*z.size))[i*z.size+j]?=z[j]?:=by
 have bk:i*z.size+j<n*z.size:=by
  have:(i+1)*z.size<=n*z.size:=gk _ hi;rw[fG]at this;omega
 have e:(i*z.size+j) % z.size=j:=by rw[Nat.add_comm,Nat.add_mul_mod_self_right];exact AH aU
 simp[madeCells,bk,e,getElem!_pos,aU]
theorem RX{n:Nat}{e:List D}{i j:Nat}{d:D}(h:cq (List.replicate n e) i j=some d):i<n/\e[j]?=some d:=by
 unfold cq at h;rw[xr]at h;split at h
 ·exact⟨‹_›,h⟩
 simp at h
theorem b1.make{P:Program}{a6:aG}{d:Nat}{t:TypeId}{p q:az}{u v:Value}{ans bN:List bI}{obs:List Prop}
  (aI:b1 w0 st a w ω τ) (hp:cd (Sat w ω τ) p u) (aw:cd (Sat w ω τ) q v) (h:zk P st d t p q ans=some (a6,bN,obs)) (aM:cn obs):
  ∃z aD,(Instr.makeSlice t u v).run P w=.ok z aD/\Rel w0 a6 (a.put (some d) z) aD:=by
 unfold zk at h;split at h
 ·rename_i e hu;split at h
  ·rename_i i cf l bM c hi aK aO;split at h
   ·rename_i z aL;split at h
    ·rename_i ai;obtain⟨iA,hZ,iQ,po⟩:=ai;simp only[aH,a']at h;obtain⟨rfl,_,rfl⟩:=h;obtain⟨cu,cc,c7,gw,_⟩:=aM;rw[az.lm aK hp,az.lm aO aw];have ei:=run_make (P:=P) w t e i z hu hi aL cf bM l c cu cc c7 gw;have fc:(w.alloc (.cells (madeCells z.cells (c.toNat*i.size)) e)).heap[w.heap.size]?=some (.cells (madeCells z.cells (c.toNat*i.size)) e (0,0)):=kQ _ _;have dN:(madeCells z.cells (c.toNat*i.size)).size=c.toNat*i.size:=by simp[madeCells]
     have rL:=aI.ho d po [] (k:=i.size) (cap:=c.toNat) (es:=List.replicate l.toNat (z.cells.toList.map .v)) (w1:=w.alloc (.cells (madeCells z.cells (c.toNat*i.size)) e))
      ((e9.refl _ _).alloc (fF _) _) fc (by simp;omega) (by omega) (fun e' he=>by rw[List.eq_of_mem_replicate he];simp[iA]) (fun x j pa ay=>by
       obtain⟨ae,ay⟩:=RX ay;rw[dG,bF]at ay;obtain⟨p6,hG,rfl⟩:=ay;have aU:j<z.cells.size:=by
        have:=(eJ.1 hG).1;simpa using this
       refine⟨p6,?_,.v p6,?_,rfl,fun s ad=>by cases ad⟩
       ·rw[iA,Jw z.cells c.toNat x j (by omega) aU];simpa using hG
       have:p6.oneCell'=true:=by
        have J:=Array.all_eq_true'.1 iQ;exact J p6 (by simpa using eD hG)
       simp[aq.gP,this])
     simp only[List.length_replicate]at rL;exact⟨_,_,ei,_,_,rL.1.put (p:=.one (.aa (.own d) i.size (List.replicate l.toNat (z.cells.toList.map .v)))) rL.2⟩
    cases h
   cases h
  cases h
 cases h
end Go.Sx
namespace Go.Sx
open Go.RowKit
def kR(k:Nat):Nat->List aq->List (List aq)
 | 0,_=>[]
 | n+1,ls=>ls.take k::kR k n (ls.drop k)
theorem Dt(k:Nat):∀(n:Nat) (ls:List aq) (i:Nat),(kR k n ls)[i]?=if i<n then some ((ls.drop (i*k)).take k) else none
 | 0,ls,i=>by simp[kR]
 | n+1,ls,0=>by simp[kR]
 | n+1,ls,i+1=>by
  simp only[kR,lK,Dt k n];by_cases h:i<n
  ·rw[bb h,bb (by omega),List.drop_drop]
   congr 3
   rw[fG];omega
  rw[aZ h,aZ (by omega)]
theorem Jx(k:Nat):∀(n:Nat) (ls:List aq),(kR k n ls).length=n
 | 0,_=>rfl
 | n+1,ls=>by simp[kR,Jx k n]
def iU(i:Nat):Nat->List aq->fT
 | _,[]=>[]
 | j,l::ls=>match l.tok with
  | some s=>(s,(i,j))::iU i (j+1) ls
  | none=>iU i (j+1) ls
def oy:Nat->List (List aq)->fT
 | _,[]=>[]
 | i,e::es=>iU i 0 e++oy (i+1) es
def tM(t:Nat)(ms:fT):Bool:=decide (t<cy)&&ms.all fun x=>x.1≠t&&(match ms.at x.1 with | some p=>p.1==x.2.1&&p.2==x.2.2 | none=>false)
theorem Du(i:Nat):∀(ls:List aq) (j0 j:Nat) (l:aq) (s:Nat),ls[j]?=some l->l.tok=some s->(s,(i,j0+j))∈iU i j0 ls
 | [],_,_,_,_,h,_=>by simp at h
 | fO::ls,j0,0,l,s,h,ad=>by
  simp at h;subst h;simp only[iU,ad];exact fk
 | fO::ls,j0,j+1,l,s,h,ad=>by
  have:=Du i ls (j0+1) j l s (by simpa using h) ad;rw[show j0+1+j=j0+(j+1) by omega]at this;simp only[iU];split
  ·exact eQ _ this
  exact this
theorem Jy:∀(es:List (List aq)) (i0 i j:Nat) (e:List aq) (l:aq) (s:Nat),es[i]?=some e->e[j]?=some l->l.tok=some s->(s,(i0+i,j))∈oy i0 es
 | [],_,_,_,_,_,_,h,_,_=>by simp at h
 | b8::es,i0,0,j,e,l,s,h,ak,ad=>by
  simp at h;subst h;simp only[oy];have:=Du i0 b8 0 j l s ak ad;rw[cP]at this;exact gl _ this
 | b8::es,i0,i+1,j,e,l,s,h,ak,ad=>by
  have:=Jy es (i0+1) i j e l s (by simpa using h) ak ad;rw[show i0+1+i=i0+(i+1) by omega]at this;simp only[oy];exact gQ _ this
variable{ms:fT}
theorem RY{t:Nat}(h:tM t ms=true):t<cy:=by
 unfold tM at h;rw[b0,cF]at h;exact h.1
theorem RZ{t:Nat}(h:tM t ms=true){s:Nat}{p:Nat×Nat}(hm:(s,p)∈ms):s≠t/\ms.at s=some p:=by
 unfold tM at h;rw[b0]at h;have:=eP.1 h.2 _ hm;simp only[b0,cF]at this;refine⟨this.1,?_⟩;have U:=this.2;split at U
 ·rename_i nC e;simp only[b0,fR]at U;rw[e]
  congr 1
  exact Prod.ext U.1 U.2
 cases U
def wT(P:Program)(st:aG)(d:Nat)(t:TypeId)(len:Nat)(parts:List (Nat×Operand))(ans:List bI):Stepped:=
 match P.underlying t with
 | some (.slice e)=>
  match P.info? e with
  | some i=>
   match i.zero with
   | some z=>
    if i.size=z.cells.size/\0<i.size/\len*i.size<=16777216 then
     match n5 (fun x=>some (x*i.size,i.size)) ((List.replicate len (z.cells.toList.map aq.v)).flatten) (parts.map fun x=>(x.1,st.aW x.2)) with
     | some r=>
      let ls:=kR i.size len r
      match ls.mapM (fun x=>x.mapM aq.gP) with
      | some es=>if tM d (oy 0 ls) then
        some (⟨(st.ho d (oy 0 ls)).env.set d (.one (.aa (.own d) i.size es)),(st.ho d (oy 0 ls)).boxes⟩,ans,[]) else none
      | none=>none
     | none=>none
    else none
   | none=>none
  | none=>none
 | _=>none
def xH(P:Program)(st:aG)(d:Nat)(t:TypeId)(len:Nat)(parts:List (Nat×Operand)):Option (Nat×List (List D)×fT):=
 match P.underlying t with
 | some (.slice e)=>
  match P.info? e with
  | some i=>
   match i.zero with
   | some z=>
    if i.size=z.cells.size/\0<i.size/\len*i.size<=16777216 then
     match n5 (fun x=>some (x*i.size,i.size)) ((List.replicate len (z.cells.toList.map aq.v)).flatten) (parts.map fun x=>(x.1,st.aW x.2)) with
     | some r=>
      match (kR i.size len r).mapM (fun x=>x.mapM aq.gP) with
      | some es=>if tM d (oy 0 (kR i.size len r)) then some (i.size,es,oy 0 (kR i.size len r)) else none
      | none=>none
     | none=>none
    else none
   | none=>none
  | none=>none
 | _=>none
theorem R0{P:Program}{st:aG}{d:Nat}{t:TypeId}{len:Nat}{parts:List (Nat×Operand)}{k:Nat}{es:List (List D)}(h:xH P st d t len parts=some (k,es,ms))(ans:List bI):
  wT P st d t len parts ans=some (⟨(st.ho d ms).env.set d (.one (.aa (.own d) k es)),(st.ho d ms).boxes⟩,ans,[]):=by
 unfold xH at h;unfold wT;split at h
 ·rename_i e J
  try rw[J]
  split at h
  ·rename_i i U
   try simp only[U]
   split at h
   ·rename_i z ax
    try simp only[ax]
    split at h
    ·rename_i ai
     try rw[bb ai]
     split at h
     ·rename_i r aJ
      try simp only[aJ]
      split at h
      ·rename_i bV a1
       try simp only[a1]
       split at h
       ·rename_i bt;simp only[aH,a']at h;obtain⟨rfl,rfl,rfl⟩:=h
        try rw[bb bt]
       cases h
      cases h
     cases h
    cases h
   cases h
  cases h
 cases h
theorem kS{α β:Type}{f:α->Option β}:∀{xs:List α} {ys:List β},xs.mapM f=some ys->ys.length=xs.length/\∀(i:Nat) (y:β),ys[i]?=some y->∃x,xs[i]?=some x/\f x=some y
 | [],ys,h=>by simp at h;subst h;exact⟨rfl,fun i y a7=>by simp at a7⟩
 | x::xs,ys,h=>by
  rw[uS]at h;cases e:f x with
  | none=>simp[e]at h
  | some z7=>
   cases aO:xs.mapM f with
   | none=>simp[e,aO]at h
   | some Av=>
    simp[e,aO]at h;subst h;obtain⟨J,U⟩:=kS aO;refine⟨by simp[J],fun i y a7=>?_⟩;cases i with
    | zero=>simp at a7;subst a7;exact⟨x,rfl,e⟩
    | succ i=>exact U i y (by simpa using a7)
theorem Jz{α:Type}(e:List α):∀(n i j:Nat),i<n->j<e.length->((List.replicate n e).flatten)[i*e.length+j]?=e[j]?
 | 0,i,j,hi,_=>by omega
 | n+1,0,j,_,aU=>by
  rw[List.replicate_succ,List.flatten_cons,kf,Nat.zero_mul,cP,bb aU]
 | n+1,i+1,j,hi,aU=>by
  rw[List.replicate_succ,List.flatten_cons,kf,aZ (by rw[fG];omega)];have:=Jz e n i j (by omega) aU;rw[<-this]
  congr 1
  rw[fG];omega
theorem b1.buildSlice{P:Program}{w0:dC}{st a6:aG}{a:Act}{w:World}{ω:Own}{τ:Nat->Nat×Value}{d:Nat}{t:TypeId}{len:Nat}{parts:Array (Nat×Operand)}{ans bN:List bI}{obs:List Prop}
  (aI:b1 w0 st a w ω τ) (h:wT P st d t len parts.toList ans=some (a6,bN,obs)):
  ∃z aD,(Instr.buildSlice t len (parts.map fun (i,x)=>(i,a.eval x))).run P w=.ok z aD/\Rel w0 a6 (a.put (some d) z) aD:=by
 unfold wT at h;split at h
 ·rename_i e hu;split at h
  ·rename_i i hi;split at h
   ·rename_i z aL;split at h
    ·rename_i ai;obtain⟨iA,hZ,iQ⟩:=ai;split at h
     ·rename_i r ar;simp only at h;split at h
      ·rename_i es x3;split at h
       ·rename_i HM;simp only[aH,a']at h;obtain⟨rfl,_,_⟩:=h;have kI:(z.cells.toList.map aq.v).length=i.size:=by simp[iA]
        have afk:((List.replicate len (z.cells.toList.map aq.v)).flatten).length=len*i.size:=by simp[iA]
        have CM:ia (Sat w ω τ) ((List.replicate len (z.cells.toList.map aq.v)).flatten) (madeCells z.cells (len*i.size)):=by
         refine⟨by simp[madeCells,iA],fun x l ak=>?_⟩;have bk:x<len*i.size:=by
          have:=(eJ.1 ak).1;omega
         have ae:x=(x / i.size)*i.size+x % i.size:=by rw[Nat.mul_comm];exact (Nat.div_add_mod x i.size).symm
         have aw:x / i.size<len:=Nat.div_lt_of_lt_mul (by rw[Nat.mul_comm];exact bk);have hm:x % i.size<i.size:=Nat.mod_lt _ hZ;have J:=Jz (z.cells.toList.map aq.v) len (x / i.size) (x % i.size) aw (by omega);rw[kI,<-ae,ak]at J;have U:=J.symm;rw[dG,bF]at U;obtain⟨u,hG,rfl⟩:=U;refine⟨u,?_,rfl⟩;have ax:=Jw z.cells len (x / i.size) (x % i.size) aw (by omega);rw[<-iA,<-ae]at ax;rw[ax];simpa using hG
        obtain⟨out,B1,x8⟩:=DR (vals:=parts.toList.map fun x=>(x.1,a.eval x.2)) (by simp) (fun j eE p aU=>by
         rw[dG,bF]at aU;obtain⟨⟨i2,x⟩,ae,e⟩:=aU;simp only[a']at e;obtain⟨rfl,rfl⟩:=e;exact⟨a.eval x,by simp only[dG,ae,oU],aI.aW x⟩) ar CM
        obtain⟨h1,cr⟩:=kS x3;have hlen:es.length=len:=by rw[h1,Jx]
        have Pz:∀x j pa,cq es x j=some pa->∃l,x<len/\j<i.size/\r[x*i.size+j]?=some l/\l.gP=some pa/\∃rG,(kR i.size len r)[x]?=some rG/\rG[j]?=some l:=by
         intro x j pa ay;unfold cq at ay;cases ae:es[x]? with
         | none=>simp[ae]at ay
         | some e'=>
          rw[ae,mB]at ay;obtain⟨rG,J,U⟩:=cr x e' ae;obtain⟨ax,aJ⟩:=kS U;obtain⟨l,a1,bt⟩:=aJ j pa ay;have Pb:=J;rw[Dt]at J;split at J
          ·simp only[aH]at J;subst J;have Pc:=a1;rw[h9]at a1;split at a1
           ·rw[iv]at a1;exact⟨l,‹_›,‹_›,a1,bt,_,Pb,Pc⟩
           cases a1
          cases J
        have HX:r.length=len*i.size:=by
         have:=x8.1;have U:out.size=(madeCells z.cells (len*i.size)).size:=by
          have:=x8.1;have aJ:∀(fO:List (Nat×az)) (hn mr:List aq),n5 (fun x=>some (x*i.size,i.size)) hn fO=some mr->mr.length=hn.length:=by
           intro fO;induction fO with
           | nil=>intro hn mr h;simp[n5]at h;rw[h]
           | cons x fO dw=>
            intro hn mr h;obtain⟨jR,iu⟩:=x;simp only[n5]at h;split at h
            ·split at h
             ·rename_i bq;rw[dw _ _ h,DQ (by omega)]
             cases h
            cases h
          have:=aJ _ _ _ ar;simp[madeCells];omega
         simp[madeCells]at U;omega
        have fc:(w.alloc (.cells out e)).heap[w.heap.size]?=some (.cells out e (0,0)):=kQ _ _;have rL:=aI.ho d (RY HM) (oy 0 (kR i.size len r)) (k:=i.size) (cap:=len) (es:=es) (w1:=w.alloc (.cells out e))
         ((e9.refl _ _).alloc (fF _) _) fc (by omega) (by rw[x8.1,HX];exact fF _)
         (fun e' he=>by
          obtain⟨x,ae⟩:=mA.1 he;obtain⟨rG,J,U⟩:=cr x e' ae;obtain⟨ax,_⟩:=kS U;rw[ax];rw[Dt]at J;split at J
          ·simp only[aH]at J;subst J;have:(x+1)*i.size<=len*i.size:=gk _ (by omega);rw[fG]at this;simp;omega
          cases J)
         (fun x j pa ay=>by
          obtain⟨l,J,U,ax,aJ,rG,a1,bt⟩:=Pz x j pa ay;obtain⟨u,bQ,cZ⟩:=x8.2 _ _ ax;refine⟨u,bQ,l,aJ,cZ,fun s ad=>?_⟩;have:=Jy (kR i.size len r) 0 x j rG l s a1 bt ad;rw[cP]at this;exact RZ HM this)
        rw[hlen]at rL;refine⟨_,_,?_,_,_,rL.1.put (p:=.one (.aa (.own d) i.size es)) rL.2⟩;have oh:((Array.range (len*i.size)).map (fun x=>(if len*i.size=0 then (#[]:Array Value) else z.cells)[x % (if len*i.size=0 then (#[]:Array Value) else z.cells).size]!))=madeCells z.cells (len*i.size):=by
         unfold madeCells;by_cases bX:len*i.size=0
         ·simp[bX]
         simp[bX]
        have e:(Array.map (fun (x:Nat×Operand)=>(x.1,a.eval x.2)) parts).toList=parts.toList.map fun x=>(x.1,a.eval x.2):=by simp
        have Qh:¬(len*i.size>2 ^ 24):=by have:(2:Nat) ^ 24=16777216:=(by decide);omega
        simp only[Instr.buildSlice,Sem.run_bind,run_underlying hu,Result.andThen_ok,sizeOf,typeInfo,run_program,hi,Sem.run_pure];rw[aZ Qh];by_cases bX:len*i.size=0
        ·simp only[bX,fZ]at oh ⊢;simp only[Sem.run_pure,Sem.run_bind,Result.andThen_ok,e];rw[bX]at B1;rw[oh,B1];simp[newRow]
        simp only[bX,mF]at oh ⊢;simp only[zeroValue,typeInfo,Sem.run_bind,run_program,Result.andThen_ok,hi,aL,Sem.run_pure,e];rw[oh,B1];simp[newRow]
       cases h
      cases h
     cases h
    cases h
   cases h
  cases h
 cases h
end Go.Sx
namespace Go.Sx
open Go.RowKit
variable{w:World}{ω aP:Own}{k n:Nat}{es:List (List D)}
theorem bA.Nh{aD:World}{R gR:List (Nat×Nat)->cx->Prop}{b off cap:Nat}(h:bA w ω R (.aa k es) (.slice (some ⟨b,off,none⟩) n cap))
  {arr bJ:Array Value} {ty:TypeId} {cj:Nat×Nat} (ah:w.heap[b]?=some (.cells arr ty cj)) (dv:aD.heap[b]?=some (.cells bJ ty cj)) (dN:bJ.size=arr.size)
  (Pm:∀x,x<off+n*k->bJ[x]?=arr[x]?) (xV:∀o,o=ω b->R [] o->gR [] (aP b)) (kF:∀c p q,c<w.heap.size->R (p::q) (ω c)->gR (p::q) (aP c)/\aD.heap[c]?=w.heap[c]?):
  bA aD aP gR (.aa k es) (.slice (some ⟨b,off,none⟩) n cap):=by
 generalize a7:Value.slice (some ⟨b,off,none⟩) n cap=y at h;cases h with
 | nil=>cases a7;exact .nil _ _ _
 | row R k es fa nA mN hD hO A7 us dX c6 ai ad aT hu ay=>
  simp only[Value.slice.injEq,aH,Addr.mk.injEq]at a7;obtain⟨⟨rfl,rfl,_⟩,rfl,rfl⟩:=a7;rw[ah]at dX;simp only[aH,Obj.cells.injEq]at dX;obtain⟨rfl,rfl,rfl⟩:=dX;refine .row gR k es b off cap bJ ty cj us dv (xV _ rfl c6) ai (by omega) aT (fun i j d dp=>?_) (fun i j d dp=>(ay i j d dp).frame fun c q vp aw=>kF c _ _ vp aw);rw[Pm,hu i j d dp];have pt:i<es.length/\j<k:=by
   unfold cq at dp;grind
  have:(i+1)*k<=es.length*k:=gk _ pt.1;grind
variable{i j:Nat}
theorem pS{d:D}(aT:∀e∈es,e.length=k)(h:cq es i j=some d):i<es.length/\j<k:=by
 unfold cq at h;grind
variable{bm:List (List D)}
theorem wU:cq (es++bm) i j=if i<es.length then cq es i j else cq bm (i-es.length) j:=by
 unfold cq;grind
theorem JA(aT:∀e∈es,e.length=k)(hi:i<es.length)(aU:j<k):∃d,cq es i j=some d:=by
 simp_all[sX,cq]
def hs(t:Nat)(c4:Option Nat)(n:Nat):cx->cx
 | .tok s q=>if c4=some s then (match q with | []=>.bc | p::c5=>.tok t ((n+p.1,p.2)::c5)) else .tok s q
 | o=>o
def f'(t:Nat)(c4:Option Nat):Tag->Option Tag
 | .free=>some .free
 | .own s=>if s=t then some (.ro t) else if c4=some s then none else some (.own s)
 | .ro s=>if s=t then none else if c4=some s then none else some (.ro s)
structure Src (P:Program) (w:World) (ω:Own) (k:Nat) (bm:List (List D)) (c4:Option Nat) (y:Value) (news:List Value):Prop where
 len:news.length=bm.length*k
 rows:∀e∈bm,e.length=k
 one:∀u∈news,u.oneCell'=true
 cell:∀i j d,cq bm i j=some d->∃u,news[i*k+j]?=some u/\((∃x,d=.v x/\u=x)\/∃s,c4=some s/\bA w ω (fun q=>(Tag.own s).R ((i,j)::q)) d u)
 shape:((∃a,y=.slice a 0 0)/\bm=[])\/∃b o c,y=.slice (some ⟨b,o,none⟩) bm.length c/\∀j v,news[j]?=some v->w.cell? ((⟨b,o,none⟩:Addr).add j)=some v
variable{t:Nat}{c4:Option Nat}
theorem Dv{o:cx}{id:Nat}:hs t c4 n o=.box id<->o=.box id:=by
 cases o with
 | bc=>simp[hs]
 | box i=>simp[hs]
 | tok s q=>
  simp only[hs];grind
theorem sv{s:Nat}{q:List (Nat×Nat)}(h:c4≠some s):hs t c4 n (.tok s q)=.tok s q:=by simp[hs,h]
theorem pT{w aD:World}{g dg:Tag}(ig:c4≠some t)(ag:f' t c4 g=some dg)(cl:g≠.own t)
  (cE:∀c,c<w.heap.size->ω c≠.tok t []->aP c=hs t c4 n (ω c)/\aD.heap[c]?=w.heap[c]?):
  ∀c q,c<w.heap.size->g.R q (ω c)->dg.R q (aP c)/\aD.heap[c]?=w.heap[c]?:=by
 intro c q ai ar;cases g with
 | free=>
  simp only[f',aH]at ag;subst ag;simp only[Tag.R]at ar;obtain⟨J,U⟩:=cE c ai (by rw[ar];simp);rw[J,ar];exact⟨rfl,U⟩
 | own s=>
  simp only[f']at ag;have ad:s≠t:=fun e=>cl (by rw[e])
  rw[aZ ad]at ag;split at ag
  ·cases ag
  rename_i hm;simp only[aH]at ag;subst ag;simp_all[Tag.R,sv]
 | ro s=>
  simp only[f']at ag;split at ag
  ·cases ag
  rename_i ad;split at ag
  ·cases ag
  rename_i hm;simp only[aH]at ag;subst ag;simp only[Tag.R]at ar;rcases ar with ar | ⟨c5,ar⟩
  ·obtain⟨J,U⟩:=cE c ai (by rw[ar];simp);rw[J,ar];exact⟨.inl rfl,U⟩
  obtain⟨J,U⟩:=cE c ai (by grind);rw[J,ar,sv hm];exact⟨.inr ⟨c5,rfl⟩,U⟩
def eZ(τ:Nat->Nat×Value)(t k:Nat)(z:Value):Nat->Nat×Value:=fun s=>if s=t then (k,z) else τ s
variable{τ:Nat->Nat×Value}
theorem zl{k:Nat}{z:Value}{g dg:Tag}{y:Nat×Value}(ag:f' t c4 g=some dg)(a7:g.de τ y):dg.de (eZ τ t k z) y:=by
 cases g with
 | free=>simp only[f',aH]at ag;subst ag;exact trivial
 | own s=>
  simp only[f']at ag;split at ag
  ·simp only[aH]at ag;subst ag;exact trivial
  split at ag
  ·cases ag
  simp only[aH]at ag;subst ag;simp_all[Tag.de,eZ,aZ]
 | ro s=>
  simp only[f']at ag;split at ag
  ·cases ag
  split at ag
  ·cases ag
  simp only[aH]at ag;subst ag;exact trivial
theorem AQ{aD:World}{z:Value}(gU:t<cy)(ig:c4≠some t)
  (cE:∀c,c<w.heap.size->ω c≠.tok t []->aP c=hs t c4 n (ω c)/\aD.heap[c]?=w.heap[c]?)
  (pi:∀id b,ω b=.box id->aP b=.box id)
  (ni:∀es y,bA w ω (Tag.own t).R (.aa (τ t).1 es) y->y=(τ t).2->bA aD aP (Tag.ro t).R (.aa (τ t).1 es) y):
  ∀l v,Sat w ω τ l v->Sat aD aP (eZ τ t k z) (l.b3 (f' t c4) fun _=>true) v:=by
 intro l v ad;cases l with
 | b5=>exact trivial
 | v x=>exact ad
 | bP c=>exact ad
 | ptr id off=>
  simp only[aq.b3,fZ];obtain⟨b,ah,e⟩:=ad;exact⟨b,pi id b ah,e⟩
 | ef s vs=>
  simp only[aq.b3];split
  ·rename_i p0 ag;split
   ·rename_i vJ;subst vJ;have cl:Tag.own p0≠.own t:=by
     grind[Tag.own.injEq,f']
    obtain⟨b,ty,arr,e,a1,ax,aR,a8⟩:=ad;have bk:b<w.heap.size:=(hB.1 ax).1;have aT:=pT (w:=w) (aD:=aD) ig ag cl cE b [] bk a1;refine⟨b,ty,arr,e,aT.1,aT.2.trans ax,yA (fun c u ai=>?_) aR a8⟩;cases c with
    | b5=>exact trivial
    | v x=>exact ai
    | aa g bS es=>
     simp only[dR.b3];cases ag:f' t c4 g with
     | none=>exact trivial
     | some dg=>
      by_cases cl:g=.own t
      ·subst cl;simp only[f',fZ,aH]at ag;subst ag;obtain⟨J,U⟩:=ai;simp only[Tag.de]at U;have aK:(τ t).1=bS:=by rw[U]
       have aO:(τ t).2=u:=by rw[U]
       exact⟨by grind,aj⟩
      exact⟨ai.1.frame fun c q ai aw=>pT ig ag cl cE c q ai aw,zl ag ai.2⟩
   exact trivial
  exact trivial
 | bE s i j bM es m=>
  simp only[aq.b3];split
  ·rename_i p0 ag;split
   ·rename_i vJ;subst vJ;have cl:Tag.own p0≠.own t:=by
     grind[Tag.own.injEq,f']
    obtain⟨u,hu,J,hm⟩:=ad;refine⟨u,hu,J.frame fun c q ai aw=>pT ig ag cl cE c _ ai aw,fun bq=>?_⟩;obtain⟨kT,b,off,len,cap,arr,ty,cj,U,a1,ax,aJ⟩:=hm bq;have bk:b<w.heap.size:=(hB.1 ax).1;have aT:=pT (w:=w) (aD:=aD) ig ag cl cE b [] bk a1;exact⟨kT,b,off,len,cap,arr,ty,cj,zl (k:=k) (z:=z) ag U,aT.1,aT.2.trans ax,aJ⟩
   exact trivial
  exact trivial
 | eL f ids=>
  simp only[aq.b3];split
  ·obtain⟨bs,e,aR,hi⟩:=ad;refine⟨bs,e,aR,fun i id fp=>?_⟩;grind
  grind
 | gZ ds off=>
  obtain⟨b,e,ar⟩:=ad;exact⟨b,e,ar.frame fun c q ai aw=>pT (g:=.free) (dg:=.free) ig rfl (by simp) cE c q ai aw⟩
 | fd d=>exact bA.frame ad fun c q ai aw=>pT (g:=.free) (dg:=.free) ig rfl (by simp) cE c q ai aw
 | dL t0 et cX=>exact⟨bA.frame ad.1 fun c q ai aw=>pT (g:=.free) (dg:=.free) ig rfl (by simp) cE c q ai aw,fun bH=>(show eZ τ t k z t0=τ t0 by simp only[eZ];grind).trans (ad.2 bH)⟩
 | aa g bS es=>
  simp only[aq.b3];cases ag:f' t c4 g with
  | none=>exact trivial
  | some dg=>
   by_cases cl:g=.own t
   ·subst cl;simp only[f',fZ,aH]at ag;subst ag;obtain⟨J,U⟩:=ad;simp only[Tag.de]at U;have aK:(τ t).1=bS:=by rw[U]
    have aO:(τ t).2=v:=by rw[U]
    exact⟨by grind,aj⟩
   exact⟨ad.1.frame fun c q ai aw=>pT ig ag cl cE c q ai aw,zl ag ad.2⟩
 | ep g bS es i j=>
  simp only[aq.b3];cases ag:f' t c4 g with
  | none=>exact trivial
  | some dg=>
   obtain⟨b,off,cap,e,hi,ar,bq⟩:=ad;by_cases cl:g=.own t
   ·subst cl;simp only[f',fZ,aH]at ag;subst ag;simp only[Tag.de]at bq;have aK:(τ t).1=bS:=by rw[bq]
    have aO:(τ t).2=Value.slice (some ⟨b,off,none⟩) es.length cap:=by rw[bq]
    exact⟨b,off,cap,e,hi,by grind,aj⟩
   exact⟨b,off,cap,e,hi,ar.frame fun c q ai aw=>pT ig ag cl cE c q ai aw,zl ag bq⟩
def aG.s5(st:aG)(t:Nat)(c4:Option Nat):aG:=st.map (aq.b3 (f' t c4) fun _=>true)
variable{y:Value}
theorem JB{P:Program}{t ty e:TypeId}{i:TypeInfo}(bH:P.underlying t=some (.slice e))(hi:P.info? e=some i)(w:World){iZ:Value}
  (a7:∃a n c,y=.slice a n c/\n<=c) (jl:∃a c,iZ=.slice a 0 c):
  (Builtin.append_ #[t,t] ty #[y,iZ]).run P w=.ok y w:=by
 obtain⟨a,n,c,rfl,aR⟩:=a7;obtain⟨a2,cL,rfl⟩:=jl;cases a<;>cases a2<;>
  simp[Builtin.append_,run_underlying bH,sizeOf,typeInfo,hi,Builtin.lenOf,Builtin.firstCells,loadCells,loadCellsFrom,storeCells, *]
theorem Dw{P:Program}{t ty e:TypeId}{i:TypeInfo}(bH:P.underlying t=some (.slice e))(hi:P.info? e=some i)(w:World)
  (b off n cap:Nat) (arr:Array Value) (gB:TypeId) (ag:w.heap[b]?=some (.cells arr gB (0,0)))
  (bT:Addr) (m c:Nat) (news:List Value) (ak:news.length=m*i.size) (nf:∀j u,news[j]?=some u->w.cell? (bT.add j)=some u) (J:∀u∈news,u.oneCell'=true)
  (nn:n+m<=cap) (dc:off+n*i.size+news.length<=arr.size):
  (Builtin.append_ #[t,t] ty #[.slice (some ⟨b,off,none⟩) n cap,.slice (some bT) m c]).run P w=
   .ok (.slice (some ⟨b,off,none⟩) (n+m) cap) (w.setRow b (arr.toList.take (off+n*i.size)++news++arr.toList.drop (off+n*i.size+news.length)).toArray):=by
 have bn:=run_firstCells_some (P:=P) w i.size m bT m c news ak nf;have ek:=run_storeCells_at P b (off+n*i.size) gB news 0 arr w ag (by grind) J;simp only[lM]at ek;simp[Builtin.append_,run_underlying bH,sizeOf,typeInfo,hi,Builtin.lenOf,nn,bn,nO,ek]
theorem Src.G8{P:Program}{aD:World}{aP:Own}{n:Nat}{news:List Value}(h:Src P w ω k bm c4 y news)(ig:c4≠some t)
  (cE:∀c,c<w.heap.size->ω c≠.tok t []->aP c=hs t c4 n (ω c)/\aD.heap[c]?=w.heap[c]?) {i j:Nat} {d:D} (ay:cq bm i j=some d):
  ∃u,news[i*k+j]?=some u/\bA aD aP (fun q=>(Tag.own t).R ((n+i,j)::q)) d u:=by
 obtain⟨u,J,U⟩:=h.cell i j d ay;refine⟨u,J,?_⟩;rcases U with⟨x,rfl,rfl⟩ | ⟨s,ad,ar⟩
 ·exact .v _ _ (h.one _ (eD J))
 refine ar.frame fun c q ai aw=>?_
 grind[Tag.R,hs]
theorem b1.append{P:Program}{w0:dC}{st:aG}{a:Act}(aI:b1 w0 st a w ω τ){iZ:Value}{news:List Value}
  (hp:Sat w ω τ (.aa (.own t) k es) y) (gT:Src P w ω k bm c4 iZ news) (ig:c4≠some t) {ty gj e:TypeId} {i:TypeInfo} {z:Value}
  (bH:P.underlying gj=some (.slice e)) (hi:P.info? e=some i) (aL:i.zero=some z) (aT:i.size=k) (l9:z.cells.size=k)
  (fM:(es.length+bm.length)*i.bytes<=140737488355328) (dX:es.length+bm.length<=9223372036854775807) (gU:t<cy):
  ∃r aD aP,(Builtin.append_ #[gj,gj] ty #[y,iZ]).run P w=.ok r aD/\b1 w0 (st.s5 t c4) a aD aP (eZ τ t k r)/\Sat aD aP (eZ τ t k r) (.aa (.own t) k (es++bm)) r:=by
 subst aT;obtain⟨ar,bq⟩:=hp;simp only[Tag.de]at bq;have aK:(τ t).1=i.size:=by rw[bq]
 have aO:(τ t).2=y:=by rw[bq]
 have BH:∀r:Value,∀s,cy<=s->eZ τ t i.size r s=τ s:=fun r s ad=>by simp only[eZ];grind
 have P1:(Tag.own t).de (eZ τ t i.size y) (i.size,y):=by simp[Tag.de,eZ]
 by_cases hm:bm.length=0
 ·
  have BF:bm=[]:=rm hm;subst BF
  let aP:Own:=fun c=>hs t c4 es.length (ω c)
  have cE:∀c,c<w.heap.size->ω c≠.tok t []->aP c=hs t c4 es.length (ω c)/\w.heap[c]?=w.heap[c]?:=fun c _ _=>⟨rfl,rfl⟩
  have ei:(Builtin.append_ #[gj,gj] ty #[y,iZ]).run P w=.ok y w:=by
   refine JB bH hi w ?_ ?_
   ·cases ar with
    | nil _ _ a0=>grind
    | row R k es b off cap arr ty cj us ah c6 ai ad aT hu ay=>grind
   rcases gT.shape with⟨⟨a,h⟩,_⟩ | ⟨b,o,c,h,_⟩
   ·grind
   grind
  refine⟨y,w,aP,ei,aI.dE _ (AQ gU ig cE (fun id b ah=>by grind[hs]) ?_) aI.below ?_ ?_ ?_ (BH _),?_,P1⟩
  ·intro bV fj dA _;refine dA.frame fun c q ai aw=>⟨?_,rfl⟩
   grind[Tag.R,sv]
  ·intro b ah;have:ω b≠.bc:=fun e=>by grind[hs]
   exact aI.owned b this
  ·intro id b ah;exact⟨by grind[hs],rfl⟩
  ·intro id b ah;exact Dv.1 ah
  rw[ja];refine ar.frame fun c q ai aw=>⟨?_,rfl⟩
  grind[Tag.R,sv]
 have vA:0<bm.length:=by omega
 rcases gT.shape with⟨_,h⟩ | ⟨bP,nW,iJ,rfl,nf⟩
 ·grind
 have grown:∀(w1:World) (bJ:Array Value) (r:Value) (jH:Nat),e9 w.heap.size w w1->w1.heap[w.heap.size]?=some (.cells bJ e (0,0))->r=.slice (some ⟨w.heap.size,0,none⟩) (es.length+bm.length) jH->
   es.length+bm.length<=jH->jH*i.size<=bJ.size->(∀eE j d,cq es eE j=some d->∃u,bJ[eE*i.size+j]?=some u/\∃R:List (Nat×Nat)->cx->Prop,(∀q o,R q o->o=.tok t ((eE,j)::q))/\bA w ω R d u)->
   (∀x u,news[x]?=some u->bJ[es.length*i.size+x]?=some u)->(∀e∈es,e.length=i.size)->
   ∃aP,b1 w0 (st.s5 t c4) a w1 aP (eZ τ t i.size r)/\Sat w1 aP (eZ τ t i.size r) (.aa (.own t) i.size (es++bm)) r:=by
  intro w1 bJ r jH iP fc B4 e4 dN hold x6 rX;subst B4
  let aP:Own:=fun c=>if c=w.heap.size then .tok t [] else @ite _ (ω c=.tok t []) (Classical.propDecidable _) .bc (hs t c4 es.length (ω c))
  have afl:ω w.heap.size=.bc:=aI.owned.fresh (fF _);have cE:∀c,c<w.heap.size->ω c≠.tok t []->aP c=hs t c4 es.length (ω c)/\w1.heap[c]?=w.heap[c]?:=by
   intro c ai cl;refine⟨?_,iP.block c ai⟩;grind
  have ll:aP w.heap.size=.tok t []:=by simp[aP]
  have kF:∀c p q,c<w.heap.size->ω c=.tok t (p::q)->aP c=.tok t (p::q):=by
   grind[sv]
  refine⟨aP,aI.dE _ (AQ gU ig cE ?_ ?_) (aI.below.next iP) ?_ ?_ ?_ (BH _),?_,by simp[Tag.de,eZ]⟩
  ·intro id b ah;have bk:=aI.owned.lt (b:=b) (by simp[ah]);rw[(cE b bk (by rw[ah];simp)).1,ah];rfl
  ·intro bV fj dA _;refine dA.frame fun c q ai aw=>⟨?_,iP.block c ai⟩
   simp only[Tag.R]at aw ⊢;cases q with
   | nil=>grind
   | cons p q=>grind
  ·intro b ah;by_cases tm:b=w.heap.size
   ·subst tm;exact⟨.inl aI.below.size,bJ,e,fc⟩
   have:ω b≠.bc:=by
    intro e';simp only[aP]at ah;simp_all[aZ,hs]
   obtain⟨ax,hD,hO,aJ⟩:=aI.owned b this;grind
  ·intro id b ah;have bk:=aI.owned.lt (b:=b) (by simp[ah]);obtain⟨J,U⟩:=cE b bk (by rw[ah];simp);exact⟨by rw[J,ah];rfl,U⟩
  ·intro id b ah;by_cases tm:b=w.heap.size
   ·grind
   simp only[aP]at ah;rw[aZ tm]at ah;split at ah
   ·cases ah
   exact Dv.1 ah
  have ee:∀x j d,cq (es++bm) x j=some d->∃u,bJ[x*i.size+j]?=some u/\bA w1 aP (fun q=>(Tag.own t).R ((x,j)::q)) d u:=by
   intro x j d ay;rw[wU]at ay;split at ay
   ·obtain⟨u,J,R,c6,U⟩:=hold x j d ay;refine⟨u,J,U.frame fun c q ai aw=>⟨?_,iP.block c ai⟩⟩;exact kF c _ _ ai (c6 q _ aw)
   rename_i ae;obtain⟨u,J,U⟩:=gT.G8 (aD:=w1) (aP:=aP) (n:=es.length) ig cE ay;refine⟨u,?_,?_⟩
   ·rw[<-x6 _ u J]
    congr 1
    have:x=es.length+(x-es.length):=by omega
    grind
   simp_all
  have hlen:(es++bm).length=es.length+bm.length:=mz;have np:∀e∈es++bm,e.length=i.size:=by
   intro e' he;rcases hA.1 he with h | h
   ·grind
   exact gT.rows e' h
  have:=bA.row (w:=w1) (ω:=aP) (Tag.own t).R i.size (es++bm) w.heap.size 0 jH bJ e (0,0) (fun x j=>bJ.getD (x*i.size+j) undef) fc ll (by omega) (by omega) np
   (fun x j d ay=>by obtain⟨u,J,_⟩:=ee x j d ay;simp_all)
   (fun x j d ay=>by obtain⟨u,J,U⟩:=ee x j d ay;simp_all)
  grind
 generalize Ic:y=z7 at ar;cases ar with
 | nil _ _ a0=>
  subst Ic;simp only[bG,cP]at fM dX;have ei:(Builtin.append_ #[gj,gj] ty #[.slice a0 0 0,.slice (some ⟨bP,nW,none⟩) bm.length iJ]).run P w=
    .ok (.slice (some ⟨w.heap.size,0,none⟩) bm.length (grownCap w bm.length 0 e)) (w.drew.alloc (.cells (news.toArray++Builtin.zeroCells z.cells (grownCap w bm.length 0 e-bm.length)) e)):=by
   cases a0 with
   | none=>exact run_append_nil (P:=P) w gj ty e i z bH hi aL ⟨bP,nW,none⟩ bm.length iJ news gT.len nf vA (by omega) (by omega)
   | some cm=>
    have:=run_append_grow (P:=P) w gj ty e i z bH hi aL cm 0 0 [] (by simp) (fun j v a8=>by simp at a8) ⟨bP,nW,none⟩ bm.length iJ news gT.len nf (by omega) (by omega) (growslice_fits (by omega) (by grind));grind
  have l0:=grownCap_ge w bm.length 0 e;obtain⟨aP,J,U⟩:=grown _ (news.toArray++Builtin.zeroCells z.cells (grownCap w bm.length 0 e-bm.length)) (.slice (some ⟨w.heap.size,0,none⟩) bm.length (grownCap w bm.length 0 e)) (grownCap w bm.length 0 e)
   (((e9.refl _ _).drew).alloc (fF _) _) (kQ _ _) (by simp) (by grind) (by
    simp only[p',lJ,size_zeroCells,gT.len,l9,<-fG];grind)
   (fun eE j d ay=>by grind[cq]) (fun x u ae=>by
    grind) (fun e he=>by cases he)
  grind
 | row R k es b off cap arr gB cj us ah c6 ai ad fq hu ay=>
  have hF:ω b=.tok t []:=c6;obtain⟨rV,qe,rf,ga⟩:=aI.owned b (by grind);rw[ah]at ga;simp only[aH,Obj.cells.injEq]at ga;obtain⟨rfl,rfl,rfl⟩:=ga;have rP:b<w.heap.size:=(hB.1 ah).1;by_cases nn:es.length+bm.length<=cap
  ·
   have hmul:(es.length+bm.length)*i.size<=cap*i.size:=gk _ nn;rw[fG]at hmul;have Qr:=gT.len;have dc:off+es.length*i.size+news.length<=arr.size:=by omega
   have ei:=Dw (P:=P) (ty:=ty) bH hi w b off es.length cap arr gB ah ⟨bP,nW,none⟩ bm.length iJ news gT.len nf gT.one nn dc;generalize lY:(arr.toList.take (off+es.length*i.size)++news++arr.toList.drop (off+es.length*i.size+news.length)).toArray=bJ at ei;have gr:∀x:Nat,bJ[x]?=if off+es.length*i.size<=x/\x<off+es.length*i.size+news.length then news[x-(off+es.length*i.size)]? else arr[x]?:=by
    intro x;rw[<-lY,lI,wS (by grind)];simp
   have tE:bJ.size=arr.size:=by grind
   have ie:=setRow_heap w b arr bJ gB (0,0) ah
   let aP:Own:=fun c=>hs t c4 es.length (ω c)
   have cE:∀c,c<w.heap.size->ω c≠.tok t []->aP c=hs t c4 es.length (ω c)/\(w.setRow b bJ).heap[c]?=w.heap[c]?:=fun c _ cl=>
    ⟨rfl,setRow_other w b c bJ fun e=>cl (by grind)⟩
   have ll:aP b=.tok t []:=by grind[sv]
   have kF:∀c p q,c<w.heap.size->ω c=.tok t (p::q)->aP c=.tok t (p::q)/\(w.setRow b bJ).heap[c]?=w.heap[c]?:=by
    intro c p q ai aw;obtain⟨J,U⟩:=cE c ai (by rw[aw];simp);rw[J,aw,sv ig];grind
   refine⟨_,_,aP,ei,aI.dE _ (AQ gU ig cE (fun id c gJ=>by grind[hs]) ?_) ?_ ?_ ?_ ?_ (BH _),?_,by simp[Tag.de,eZ]⟩
   ·intro bV fj dA BC;rw[BC,aO,Ic]at dA ⊢;rw[aK]at dA ⊢;have na:es.length=bV.length:=by
     obtain⟨_,_,h⟩:=dA.len;grind
    refine bA.Nh dA ah ie tE (fun x ae=>?_) (fun o aM tB=>?_) (fun c p q ai aw=>?_)
    ·grind
    ·right;grind
    grind[Tag.R]
   ·exact aI.below.setRow rV bJ
   ·intro c gJ;have:ω c≠.bc:=fun e=>by grind[hs]
    obtain⟨ax,hD,hO,aJ⟩:=aI.owned c this;grind[setRow_other]
   ·grind[id,hs,setRow_other]
   ·intro id c gJ;exact Dv.1 gJ
   have ee:∀x j d,cq (es++bm) x j=some d->∃u,bJ[off+x*i.size+j]?=some u/\bA (w.setRow b bJ) aP (fun q=>(Tag.own t).R ((x,j)::q)) d u:=by
    intro x j d db;rw[wU]at db;split at db
    ·rename_i ae;have vx:=(pS fq db).2;refine⟨us x j,?_,(ay x j d db).frame fun c q ai aw=>?_⟩
     ·have:(x+1)*i.size<=es.length*i.size:=gk _ ae;rw[fG]at this;rw[gr,aZ (by omega),hu x j d db]
     exact kF c _ _ ai aw
    rename_i ae;obtain⟨u,J,U⟩:=gT.G8 (aD:=w.setRow b bJ) (aP:=aP) (n:=es.length) ig cE db;have QZ:=(eJ.1 J).1;have og:x*i.size=es.length*i.size+(x-es.length)*i.size:=by rw[<-fG];grind
    refine⟨u,?_,?_⟩
    ·rw[gr,bb (by omega),<-J]
     congr 1
     omega
    rwa[show es.length+(x-es.length)=x by omega]at U
   have hlen:(es++bm).length=es.length+bm.length:=mz;have np:∀e∈es++bm,e.length=i.size:=by
    intro e' he;rcases hA.1 he with h | h
    ·grind
    exact gT.rows e' h
   have:=bA.row (w:=w.setRow b bJ) (ω:=aP) (Tag.own t).R i.size (es++bm) b off cap bJ gB (0,0) (fun x j=>bJ.getD (off+x*i.size+j) undef) ie ll (by omega) (by omega) np
    (fun x j d ay=>by obtain⟨u,J,_⟩:=ee x j d ay;rw[J];simp[dF,J])
    (fun x j d ay=>by obtain⟨u,J,U⟩:=ee x j d ay;have:bJ.getD (off+x*i.size+j) undef=u:=(by simp[dF,J]);grind)
   grind
  -- it ae1
  have hmul:es.length*i.size<=cap*i.size:=gk _ ai;have od:((arr.toList.drop off).take (es.length*i.size)).length=es.length*i.size:=by simp;omega
  have ei:=run_append_grow (P:=P) w gj ty e i z bH hi aL ⟨b,off,none⟩ es.length cap ((arr.toList.drop off).take (es.length*i.size)) od (fun j v a8=>by
   grind[nO,cell_of_row]) ⟨bP,nW,none⟩ bm.length iJ news gT.len nf (by omega) (by omega) (growslice_fits (by omega) fM)
  have l0:=grownCap_ge w (es.length+bm.length) cap e;obtain⟨aP,J,U⟩:=grown _ (((arr.toList.drop off).take (es.length*i.size)).toArray++news.toArray++Builtin.zeroCells z.cells (grownCap w (es.length+bm.length) cap e-(es.length+bm.length))) _ (grownCap w (es.length+bm.length) cap e)
   (((e9.refl _ _).drew).alloc (fF _) _) (kQ _ _) rfl l0 (by
    simp only[p',lJ,size_zeroCells,gT.len,l9,od,<-fG];grind)
   (fun eE j d dp=>by
    obtain⟨tw,dq⟩:=pS fq dp;have:(eE+1)*i.size<=es.length*i.size:=gk _ tw;rw[fG]at this;refine⟨us eE j,?_,fun q=>(Tag.own t).R ((eE,j)::q),fun q o h=>h,ay eE j d dp⟩;grind)
   (fun x u ae=>by
    have eU:=(eJ.1 ae).1;rw[hz,bb (by grind),hz,aZ (by grind)];grind) fq
  grind
end Go.Sx
namespace Go.Sx
open Go.RowKit
def Flat(es:List (List D)):Prop:=∀e∈es,∀d∈e,∃x,d=.v x
theorem R1{es:List (List D)}{i j:Nat}{d:D}(h:cq es i j=some d):∃e∈es,d∈e:=by
 unfold cq at h;cases ae:es[i]? with
 | none=>simp[ae]at h
 | some e=>rw[ae,mB]at h;exact⟨e,eD ae,eD h⟩
variable{P:Program}{w:World}{ω:Own}{k:Nat}{c4:Option Nat}
theorem Src.empty(a:Option Addr):Src P w ω k [] c4 (.slice a 0 0) [] where
 len:=by simp
 rows:=fun _ h=>(by cases h)
 one:=fun _ h=>(by cases h)
 cell:=fun i j d ay=>by simp[cq]at ay
 shape:=.inl ⟨⟨a,rfl⟩,rfl⟩
theorem Src.of{R:List (Nat×Nat)->cx->Prop}{bm:List (List D)}{y:Value}(h:bA w ω R (.aa k bm) y)(jL:0<k)
  (ai:Flat bm\/∃s,c4=some s/\R=(Tag.own s).R):∃news,Src P w ω k bm c4 y news:=by
 cases h with
 | nil=>exact⟨[],Src.empty _⟩
 | row R k es b off cap arr ty cj us ah c6 e4 ad fq hu ay=>
  have hmul:bm.length*k<=cap*k:=gk _ e4;have gr:∀x:Nat,((arr.toList.drop off).take (bm.length*k))[x]?=if x<bm.length*k then arr[off+x]? else none:=by
   intro x;rw[h9];split
   ·rw[iv];simp
   rfl
  have ee:∀i j d,cq bm i j=some d->((arr.toList.drop off).take (bm.length*k))[i*k+j]?=some (us i j):=by
   intro i j d dp;obtain⟨hi,aU⟩:=pS fq dp;have:(i+1)*k<=bm.length*k:=gk _ hi;rw[fG]at this;rw[gr,bb (by omega),<-hu i j d dp,AI]
  refine⟨(arr.toList.drop off).take (bm.length*k),by simp;omega,fq,?_,?_,.inr ⟨b,off,cap,rfl,?_⟩⟩
  ·intro u hG;obtain⟨x,ae⟩:=mA.1 hG;have bk:x<bm.length*k:=by
    have:=(eJ.1 ae).1;simp at this;omega
   have og:x=(x / k)*k+x % k:=by rw[Nat.mul_comm];exact (Nat.div_add_mod x k).symm
   have aw:x / k<bm.length:=Nat.div_lt_of_lt_mul (by rw[Nat.mul_comm];exact bk);obtain⟨d,dp⟩:=JA fq aw (Nat.mod_lt x jL);have J:=ee _ _ _ dp;rw[<-og,ae]at J;rw[e0 J];exact (ay _ _ _ dp).me
  ·intro i j d dp;refine⟨us i j,ee i j d dp,?_⟩;rcases ai with bn | ⟨s,kH,qx⟩
   ·obtain⟨e,he,PN⟩:=R1 dp;obtain⟨x,rfl⟩:=bn e he d PN;have:=ay i j _ dp;cases ax:us i j<;>(rw[ax]at this;cases this;exact .inl ⟨_,rfl,rfl⟩)
   subst qx;exact .inr ⟨s,kH,ay i j d dp⟩
  intro j v a8;rw[nO,cell_of_row w b (off+j) arr ty cj ah];rw[gr]at a8;split at a8
  ·exact a8
  cases a8
variable{τ:Nat->Nat×Value}
theorem b1.CZ{w0:dC}{st:aG}{a:Act}(h:b1 w0 st a w ω τ)(t k:Nat)(gU:t<cy):
  ∃aP,b1 w0 (st.ho t []) a w aP (eZ τ t k (.slice none 0 0))/\Sat w aP (eZ τ t k (.slice none 0 0)) (.aa (.own t) k []) (.slice none 0 0):=by
 refine⟨fun b=>mh t [] (ω b),h.dE _ (jD.sat (g:=gv t []) (p:=fun _=>true) ⟨?_,?_,?_,rfl,fun s ad=>by simp only[eZ];rw[aZ (by omega)]⟩) h.below ?_ ?_ ?_ (fun s ad=>by simp only[eZ];rw[aZ (by omega)]),.nil _ _ _,by simp[Tag.de,eZ]⟩
 ·intro g dg b q ag _ aw;exact⟨Jv ag aw,rfl⟩
 ·intro g dg y ag a7;cases g with
  | free=>simp only[gv,aH]at ag;subst ag;exact trivial
  | own s=>
   simp only[gv]at ag;split at ag
   ·simp only[aH]at ag;subst ag;exact trivial
   split at ag
   ·cases ag
   simp only[aH]at ag;subst ag;simp only[Tag.de,eZ]at a7 ⊢;rw[aZ ‹_›];exact a7
  | ro s=>
   simp only[gv]at ag;split at ag
   ·simp only[aH]at ag;subst ag;exact trivial
   split at ag
   ·cases ag
   simp only[aH]at ag;subst ag;exact trivial
 ·intro id b _ ah;exact zi.2 ah
 ·intro b ah;exact h.owned b fun e=>by simp only[e]at ah;exact ah rfl
 ·intro id b ah;exact⟨zi.2 ah,rfl⟩
 intro id b ah;exact zi.1 ah
def rB(t k:Nat)(q:az)(ans:List bI):Option (List (List D)×Option Nat×List bI×List Prop):=
 match q.leaf,ans with
 | some (.aa (.own s) bS bm),.wr::r=>if bS=k/\s≠t then some (bm,some s,r,[]) else none
 | some (.aa _ bS bm),ans=>if bS=k then some (bm,none,ans,[Flat bm]) else none
 | some (.v (.slice none 0 0)),ans=>some ([],none,ans,[])
 | some (.bE _ _ _ bS bm .here),ans=>if bS=k then some (bm,none,ans,[Flat bm]) else none
 | some (.bE _ _ _ bS bm .jF),ans=>if bS=k then some (bm,none,ans,[Flat bm]) else none
 | _,_=>none
theorem JC{P:Program}{t:Nat}{q:az}{y:Value}{ans bN:List bI}{bm:List (List D)}{obs:List Prop}(jL:0<k)
  (aw:cd (Sat w ω τ) q y) (h:rB t k q ans=some (bm,c4,bN,obs)) (aM:cn obs):c4≠some t/\∃news,Src P w ω k bm c4 y news:=by
 unfold rB at h;split at h
 ·rename_i s bS es r e;split at h
  ·rename_i ai;obtain⟨rfl,cl⟩:=ai;simp only[aH,a']at h;obtain⟨rfl,rfl,_,_⟩:=h;exact⟨by simpa using cl,Src.of (az.cW e aw).1 jL (.inr ⟨s,rfl,rfl⟩)⟩
  cases h
 ·rename_i g bS es e _;split at h
  ·rename_i ai;subst ai;simp only[aH,a']at h;obtain⟨rfl,rfl,_,rfl⟩:=h;exact⟨by simp,Src.of (az.cW e aw).1 jL (.inl aM.1)⟩
  cases h
 ·rename_i e;simp only[aH,a']at h;obtain⟨rfl,rfl,_,_⟩:=h;have:y=.slice none 0 0:=az.cW e aw;subst this;exact⟨by simp,[],Src.empty _⟩
 ·rename_i s wY wZ bS es e;split at h
  ·rename_i ai;subst ai;simp only[aH,a']at h;obtain⟨rfl,rfl,_,rfl⟩:=h;obtain⟨gC,rfl,ar,_⟩:=az.cW e aw;exact⟨by simp,Src.of ar jL (.inl aM.1)⟩
  cases h
 ·rename_i s wY wZ bS es e;split at h
  ·rename_i ai;subst ai;simp only[aH,a']at h;obtain⟨rfl,rfl,_,rfl⟩:=h;obtain⟨gC,rfl,ar,_⟩:=az.cW e aw;exact⟨by simp,Src.of ar jL (.inl aM.1)⟩
  cases h
 cases h
def xD(d:Nat)(st:aG)(k:Nat)(p:az):Option (aG×Nat×List (List D)):=
 match p.leaf with
 | some (.aa (.own t) bS es)=>if bS=k then some (st,t,es) else none
 | some (.v (.slice none 0 0))=>some (st.ho d [],d,[])
 | _=>none
def uF(P:Program)(st:aG)(d:Nat)(t:TypeId)(x y:Operand)(ans:List bI):Stepped:=
 match nP P t with
 | some (e,k)=>
  match P.info? e,xD d st k (st.aW x) with
  | some i,some (c0,fY,es)=>
   match i.zero,rB fY k (c0.aW y) ans with
   | some z,some (bm,c4,bN,obs)=>
    if z.cells.size=k/\0<k/\fY<cy then
     some (⟨(c0.s5 fY c4).env.set d (.one (.aa (.own fY) k (es++bm))),(c0.s5 fY c4).boxes⟩,bN,((es.length+bm.length)*i.bytes<=140737488355328)::(es.length+bm.length<=9223372036854775807)::obs)
    else none
   | _,_=>none
  | _,_=>none
 | none=>none
theorem b1.uF{w0:dC}{st a6:aG}{a:Act}{d:Nat}{t ty:TypeId}{x y:Operand}{ans bN:List bI}{obs:List Prop}
  (aI:b1 w0 st a w ω τ) (h:Sx.uF P st d t x y ans=some (a6,bN,obs)) (aM:cn obs):
  ∃z aD,(Builtin.append_ #[t,t] ty #[a.eval x,a.eval y]).run P w=.ok z aD/\Rel w0 a6 (a.put (some d) z) aD:=by
 unfold Sx.uF at h;split at h
 ·rename_i e k he;obtain⟨hu,i0,iS,tC⟩:=ss he;split at h
  ·rename_i i c0 fY es hi h4;rw[iS]at hi;have l2:=e0 hi;subst l2;split at h
   ·rename_i z bm c4 rA tJ aL gT;split at h
    ·rename_i ai;simp only[aH,a']at h;obtain⟨rfl,rfl,rfl⟩:=h;obtain⟨cu,cc,c7⟩:=aM;have:∃xt GQ,b1 w0 c0 a w xt GQ/\Sat w xt GQ (.aa (.own fY) k es) (a.eval x):=by
      unfold xD at h4;split at h4
      ·rename_i c3 bS bV ak;split at h4
       ·rename_i fq;subst fq;simp only[aH,a']at h4;obtain⟨rfl,rfl,rfl⟩:=h4;exact⟨ω,τ,aI,az.cW ak (aI.aW x)⟩
       cases h4
      ·rename_i ak;simp only[aH,a']at h4;obtain⟨rfl,rfl,rfl⟩:=h4;have:a.eval x=.slice none 0 0:=az.cW ak (aI.aW x);rw[this];obtain⟨xt,J,U⟩:=aI.CZ d k ai.2.2;exact⟨xt,_,J,U⟩
      cases h4
     obtain⟨xt,GQ,fr,ae⟩:=this;obtain⟨ig,news,ad⟩:=JC (P:=P) ai.2.1 (fr.aW y) gT c7;obtain⟨r,aD,aP,J,U,ax⟩:=fr.append (P:=P) (ty:=ty) ae ad ig hu iS aL tC ai.1 cu cc ai.2.2;exact⟨r,aD,J,aP,_,U.put (p:=.one (.aa (.own fY) k (es++bm))) ax⟩
    cases h
   cases h
  cases h
 cases h
