import Derived.Test.YtdchjefneblpgaaGreatR1
set_option linter.unusedVariables false
set_option linter.unusedSimpArgs false
namespace Go.Sx
open Go.RowKit
def pN(id:Nat)(eW:List aB):List (Nat×List aB)->List (Nat×List aB)
 | []=>[]
 | (i,ls)::r=>if i=id then (i,eW)::r else (i,ls)::pN id eW r
variable{id:Nat}{eW:List aB}
theorem w3:∀{bs:List (Nat×List aB)} {ls:List aB},dp id bs=some ls->dp id (pN id eW bs)=some eW
 | [],_,h=>by cases h
 | (i,l)::r,ls,h=>by
  simp only[pN];by_cases hi:i=id
  ·rw[br hi];simp[dp,hi]
  rw[bh hi];simp only[dp,bh hi]at h ⊢;exact w3 h
theorem w4{gE:Nat}(aW:gE≠id):∀{bs:List (Nat×List aB)},dp gE (pN id eW bs)=dp gE bs
 | []=>rfl
 | (i,l)::r=>by
  simp only[pN];by_cases hi:i=id
  ·rw[br hi];simp only[dp,hi];rw[bh (Ne.symm aW),bh (Ne.symm aW)]
  rw[bh hi];simp only[dp];split
  ·rfl
  exact w4 aW
theorem Tag.VS{t:Tag}{q:List (Nat×Nat)}:¬t.R q (.box id):=by
 cases t with
 | free=>exact fun h=>by cases h
 | own s=>exact fun h=>by cases h
 | ro s=>exact fun h=>by rcases h with h | ⟨_,h⟩<;>cases h
theorem Sat.asL{w:World}{ω:Own}{τ:Nat->Nat×Value}{b:Nat}(ar:ω b=.box id)(cs:Array Value):∀(l:aB) (v:Value),Sat w ω τ l v->Sat (w.setRow b cs) ω τ l v:=by
 have bi:k7 w ω τ (w.setRow b cs) ω τ qs (fun _=>true):=by
  refine⟨?_,?_,fun _ _ _ h=>h,rfl,fun _ _=>rfl⟩
  ·intro t c6 cW q au _ aE;simp only[qs,aR]at au;subst au;refine⟨aE,setRow_other w b cW cs fun e=>?_⟩;subst e;rw[ar]at aE;exact Tag.VS aE
  intro t c6 y au bl;simp only[qs,aR]at au;subst au;exact bl
 intro l v aj;have:=bi.sat l v aj;cases l with
 | aO t i j k es m=>
  obtain⟨u,hu,h1,hm⟩:=aj;refine⟨u,hu,h1.frame fun c q ai aE=>⟨aE,setRow_other w b c cs fun e=>?_⟩,fun bJ=>?_⟩
  ·subst e;rw[ar]at aE;cases aE
  obtain⟨kT,gm,off,len,cap,arr,ty,cO,U,aU,aw,aH⟩:=hm bJ;exact⟨kT,gm,off,len,cap,arr,ty,cO,U,aU,(setRow_other w b gm cs fun e=>by subst e;rw[ar]at aU;cases aU).trans aw,aH⟩
 | fa t vs=>
  obtain⟨gm,ty,arr,e,aU,aw,aW,bt⟩:=aj;refine⟨gm,ty,arr,e,aU,(setRow_other w b gm cs fun e=>by subst e;rw[ar]at aU;cases aU).trans aw,aW,fun j c ai=>?_⟩;obtain⟨u,h1,U⟩:=bt j c ai;refine⟨u,h1,?_⟩;have dS:=bi.kQ c u U;have:eL.ci qs c=c:=by cases c<;>simp[eL.ci,qs]
  rwa[this]at dS
 | _=>simpa[aB.ci,qs]using this
variable{w0:er}{st:aI}{a:Act}{w:World}{ω:Own}{τ:Nat->Nat×Value}
theorem cy.asS(h:cy w0 st a w ω τ){ls:List aB}(au:dp id st.boxes=some ls)
  {b:Nat} (ar:ω b=.box id) {b7:Array Value} (aj:jW (Sat w ω τ) eW b7):
  cy w0 ⟨st.env,pN id eW st.boxes⟩ a (w.setRow b b7) ω τ:=by
 obtain⟨cW,arr,ty,dn,hu,bJ,ey⟩:=h.boxes id ls au;have:=hu b ar;subst this;have GC:=Sat.asL (w:=w) (ω:=ω) (τ:=τ) ar b7;have jc:=setRow_heap w b arr b7 ty (0,0) bJ;refine⟨h.defers,h.size,?_,?_,h.fixed,h.pinned,?_,?_⟩
 ·exact h.below.setRow (h.owned b (by simp[ar])).1 b7
 ·intro c ai;obtain⟨h1,h3,ih,U⟩:=h.owned c ai;by_cases e:c=b
  ·subst e;exact⟨h1,b7,ty,jc⟩
  exact⟨h1,h3,ih,(setRow_other w b c b7 e).trans U⟩
 ·intro i p hp;obtain⟨v,h1,U⟩:=h.env i p hp;refine⟨v,h1,?_⟩;have:=cL.map (f:=_root_.id) GC U;have e:aJ.map _root_.id p=p:=by
   cases p with
   | aK a=>cases a<;>simp[aJ.map,bu.map]
   | fJ as=>
    simp only[aJ.map]
    congr 1
    have:bu.map _root_.id=_root_.id:=by funext a;cases a<;>simp[bu.map]
    rw[this];simp
  rwa[e]at this
 intro i l al;by_cases e:i=id
 ·subst e;rw[w3 au]at al;have e:=eN al;subst e;refine⟨b,b7,ty,ar,hu,jc,?_⟩;have:=aj.map (f:=_root_.id) GC;simpa using this
 rw[w4 e]at al;obtain⟨c,h3,ih,ai,WZ,WQ,oi⟩:=h.boxes i l al;have cB:c≠b:=fun e'=>by subst e';rw[ar]at ai;simp only[cV.box.injEq]at ai;exact e ai.symm
 refine⟨c,h3,ih,ai,WZ,(setRow_other w b c b7 cB).trans WQ,?_⟩;have:=oi.map (f:=_root_.id) GC;simpa using this
abbrev Stepped:=Option (aI×List b9×List Prop)
def Im(st:aI)(d:Nat)(p:aJ)(ans:List b9):Stepped:=
 if d<c7 then p.leaves.map fun ls=>(⟨(st.s5 d ls).env.set d (.one (.ptr d 0)),(st.s5 d ls).boxes⟩,ans,[]) else none
variable{bp:aI}{ans cd:List b9}{obs:List Prop}
theorem cy.box{P:Program}{d:Nat}{p:aJ}{v:Value}(aV:cy w0 st a w ω τ)
  (hp:cL (Sat w ω τ) p v) (h:Im st d p ans=some (bp,cd,obs)) (ty:TypeId):
  ∃z aN,(do pure (.pointer (some (<-newVar ty v))):Sem Value).run P w=.ok z aN/\Rel w0 bp (a.put (some d) z) aN:=by
 unfold Im at h;split at h
 case isFalse=>cases h
 rename_i ru;rw[b1]at h;obtain⟨ls,h1,h⟩:=h;simp only[bx]at h;obtain⟨rfl,_,_⟩:=h;obtain⟨aj,_⟩:=aJ.wS h1 hp;obtain⟨a1,Gw,c8⟩:=aV.s5 d ru ty aj;refine⟨.pointer (some ⟨w.heap.size,0,none⟩),w.alloc (.cells v.cells ty),by simp[newVar,newRow],a1,τ,?_⟩;exact Gw.put (p:=.one (.ptr d 0)) ⟨w.heap.size,c8,rfl⟩
def Io(P:Program)(st:aI)(d:Nat)(elem:TypeId)(ans:List b9):Stepped:=
 match P.info? elem with
 | some i=>match i.zero with
  | some z=>if d<c7 then let ls:=z.cells.toList.map .v;some (⟨(st.s5 d ls).env.set d (.one (.ptr d 0)),(st.s5 d ls).boxes⟩,ans,[]) else none
  | none=>none
 | none=>none
theorem cy.alloc{P:Program}{d:Nat}{elem:TypeId}(aV:cy w0 st a w ω τ)
  (h:Io P st d elem ans=some (bp,cd,obs)):
  ∃z aN,(Instr.alloc elem true (.tuple #[])).run P w=.ok z aN/\Rel w0 bp (a.put (some d) z) aN:=by
 unfold Io at h;split at h
 ·rename_i i hi;split at h
  ·rename_i z bf;split at h
   case isFalse=>cases h
   rename_i ru;simp only[aR,bx]at h;obtain⟨rfl,_,_⟩:=h;have aj:jW (Sat w ω τ) (z.cells.toList.map .v) z.cells:=by
    refine⟨by simp,fun j l al=>?_⟩;rw[dj,b1]at al;obtain⟨u,hu,rfl⟩:=al;exact⟨u,by simpa using hu,rfl⟩
   obtain⟨a1,Gw,c8⟩:=aV.s5 d ru elem aj;refine⟨.pointer (some ⟨w.heap.size,0,none⟩),w.alloc (.cells z.cells elem),by simp[Instr.alloc,zeroValue,typeInfo,hi,bf,newVar,newRow],a1,τ,?_⟩;exact Gw.put (p:=.one (.ptr d 0)) ⟨w.heap.size,c8,rfl⟩
  cases h
 cases h
def Ip(P:Program)(st:aI)(t:TypeId)(id off:Nat)(q:aJ)(ans:List b9):Stepped:=
 match dp id st.boxes,q.leaves,P.info? t with
 | some ls,some xs,some i=>if xs.length=i.size/\off+xs.length<=ls.length then some (⟨st.env,pN id (sE ls off xs) st.boxes⟩,ans,[]) else none
 | _,_,_=>none
theorem zz{α:Type}{xs ys:List α}{off:Nat}(h:off+ys.length<=xs.length)(i:Nat):
  (xs.take off++ys++xs.drop (off+ys.length))[i]?=if off<=i/\i<off+ys.length then ys[i-off]? else xs[i]?:=by
 rw[t',kD,oV,Nat.min_eq_left (by omega)];by_cases h1:i<off
 ·rw[br h1,bh (by omega),hh,br h1]
 rw[bh h1,kD];by_cases U:i-off<ys.length
 ·rw[br U,br (by omega)]
 rw[bh U,bh (by omega),gQ]
 congr 1
 omega
theorem cy.asR{P:Program}{t:TypeId}{off:Nat}{q:aJ}{b:Nat}{v:Value}
  (aV:cy w0 st a w ω τ) (ar:ω b=.box id) (aE:cL (Sat w ω τ) q v) (h:Ip P st t id off q ans=some (bp,cd,obs)):
  ∃aN,(Instr.storeAt t (.pointer (some ⟨b,off,none⟩)) v).run P w=.ok () aN/\Rel w0 bp a aN:=by
 unfold Ip at h;split at h
 ·rename_i ls xs i e1 e2 cb;split at h
  ·rename_i ai;simp only[aR,bx]at h;obtain⟨rfl,_,_⟩:=h;obtain⟨aj,pu⟩:=aJ.wS e2 aE;obtain⟨cW,arr,ty,dn,hu,bJ,ey⟩:=aV.boxes id ls e1;have:=hu b ar;subst this;have eE:=run_storeCells_at P b off ty v.cells.toList 0 arr w bJ (by simp;have:=aj.1;have:=ey.1;omega) pu;have fN:jW (Sat w ω τ) (sE ls off xs) (arr.toList.take (off+0)++v.cells.toList++arr.toList.drop (off+0+v.cells.toList.length)).toArray:=by
    have h1:=aj.1;have U:=ey.1;refine⟨?_,fun j l al=>?_⟩
    ·rw[H9 (by omega)];simp;omega
    rw[Pl (by omega)]at al;rw[l8,lC,zz (by simp;omega)];simp only[uc];by_cases a6:off<=j/\j<off+xs.length
    ·rw[br a6]at al;rw[br (by omega)];obtain⟨u,aw,aH⟩:=aj.2 _ _ al;exact⟨u,by simpa using aw,aH⟩
    rw[bh a6]at al;rw[bh (by omega)];obtain⟨u,aw,aH⟩:=ey.2 _ _ al;exact⟨u,by simpa using aw,aH⟩
   refine⟨_,?_,ω,τ,aV.asS e1 ar fN⟩;simp only[Instr.storeAt,Instr.sureAddr,Sem.run_bind,Sem.run_pure,Result.andThen_ok,storeVar,sizeOf,typeInfo,run_program,cb];have di:¬(v.cells.size≠i.size):=by simp;have:=aj.1;omega
   rw[bh di];exact eE
  cases h
 cases h
end Go.Sx
namespace Go.Sx
open Go.RowKit
variable{w0:er}{st:aI}{a:Act}{w:World}{ω:Own}{τ:Nat->Nat×Value}
theorem cy.ec{aN:World}{a1:Own}{cN:Nat->Nat×Value}(h:cy w0 st a w ω τ)(f:aB->aB)
  (ey:∀l v,Sat w ω τ l v->Sat aN a1 cN (f l) v) (qf:gj w0 aN) (pv:mX w0 aN a1)
  (qg:∀id b,ω b=.box id->a1 b=.box id/\aN.heap[b]?=w.heap[b]?) (yA:∀id b,a1 b=.box id->ω b=.box id) (qj:∀t,c7<=t->cN t=τ t:=by intros;rfl):cy w0 (st.map f) a aN a1 cN where
 defers:=h.defers
 size:=by simp[aI.map,h.size]
 below:=qf
 owned:=pv
 fixed:=fun t bQ=>(qj t bQ).trans (h.fixed t bQ)
 pinned:=fun id b hi ar=>h.pinned id b hi (yA id b ar)
 env:=by
  intro i q aE;simp only[aI.map]at aE;rw[dj,b1]at aE;obtain⟨h',bN,rfl⟩:=aE;obtain⟨v,h1,U⟩:=h.env i h' bN;exact⟨v,h1,cL.map ey U⟩
 boxes:=by
  intro id ls al;simp only[aI.map]at al;rw[rZ,b1]at al;obtain⟨iK,bN,rfl⟩:=al;obtain⟨b,arr,ty,ar,hu,bJ,aj⟩:=h.boxes id iK bN;obtain⟨h1,U⟩:=qg id b ar;exact⟨b,arr,ty,h1,fun cW dn=>hu cW (yA id cW dn),U.trans bJ,aj.map ey⟩
abbrev hn:=List (Nat×(Nat×Nat))
def hn.at(s:Nat):hn->Option (Nat×Nat)
 | []=>none
 | (i,p)::r=>if i=s then some p else hn.at s r
def hP(t:Nat)(ms:hn):Tag->Option Tag
 | .free=>some .free
 | .own s=>if s=t then some .free else if (ms.at s).isSome then none else some (.own s)
 | .ro s=>if s=t then some .free else if (ms.at s).isSome then none else some (.ro s)
def oF(t:Nat)(ms:hn):cV->cV
 | .tok s q=>if s=t then .bB else match ms.at s with | some p=>.tok t (p::q) | none=>.tok s q
 | o=>o
variable{t:Nat}{ms:hn}
theorem CH{o:cV}{id:Nat}:oF t ms o=.box id<->o=.box id:=by
 cases o with
 | bB=>simp[oF]
 | box i=>simp[oF]
 | tok s q=>
  simp only[oF];split
  ·simp
  ·split<;>simp
theorem Pp{g ea:Tag}{q:List (Nat×Nat)}{o:cV}(h:hP t ms g=some ea)(aA:g.R q o):ea.R q (oF t ms o):=by
 cases g with
 | free=>simp only[hP,aR]at h;subst h;simp only[Tag.R]at aA ⊢;rw[aA];rfl
 | own s=>
  simp only[Tag.R]at aA;subst aA;simp only[hP]at h;simp only[oF];split at h
  ·simp only[aR]at h;subst h;rw[br ‹_›];rfl
  split at h
  ·cases h
  rename_i h1 U;simp only[aR]at h;subst h;rw[bh h1];cases e:ms.at s with
  | none=>rfl
  | some p=>simp[e]at U
 | ro s=>
  simp only[Tag.R]at aA;simp only[hP]at h;split at h
  ·simp only[aR]at h;subst h;rcases aA with rfl | ⟨dm,rfl⟩
   ·rfl
   simp only[oF];rw[br ‹_›];rfl
  split at h
  ·cases h
  rename_i h1 U;simp only[aR]at h;subst h;rcases aA with rfl | ⟨dm,rfl⟩
  ·exact .inl rfl
  refine .inr ⟨dm,?_⟩;simp only[oF];rw[bh h1];cases e:ms.at s with
  | none=>rfl
  | some p=>simp[e]at U
def oG(w:World)(ω:Own)(t:Nat)(ms:hn):Own:=fun b=>if b=w.heap.size then .tok t [] else oF t ms (ω b)
def vw(w:World)(τ:Nat->Nat×Value)(t k n c:Nat):Nat->Nat×Value:=fun s=>if s=t then (k,.slice (some ⟨w.heap.size,0,none⟩) n c) else τ s
def aI.iM(st:aI)(t:Nat)(ms:hn):aI:=st.map (aB.ci (hP t ms) fun _=>true)
theorem aki{w1:World}{k n c:Nat}(hN:t<c7)(bT:ω w.heap.size=.bB)(bJ:∀b,b<w.heap.size->w1.heap[b]?=w.heap[b]?):
  k7 w ω τ w1 (oG w ω t ms) (vw w τ t k n c) (hP t ms) (fun _=>true):=by
 refine⟨?_,?_,?_,rfl,fun s aj=>by simp only[vw];rw[bh (by omega)]⟩
 ·intro g ea b q au ar aE;refine⟨?_,bJ b ar⟩;simp only[oG];rw[bh (by omega)];exact Pp au aE
 ·intro g ea y au bl;cases g with
  | free=>simp only[hP,aR]at au;subst au;exact trivial
  | own s=>
   simp only[hP]at au;split at au
   ·simp only[aR]at au;subst au;exact trivial
   split at au
   ·cases au
   simp only[aR]at au;subst au;simp only[Tag.dT,vw]at bl ⊢;rw[bh ‹_›];exact bl
  | ro s=>
   simp only[hP]at au;split at au
   ·simp only[aR]at au;subst au;exact trivial
   split at au
   ·cases au
   simp only[aR]at au;subst au;exact trivial
 intro id b _ ar;simp only[oG];by_cases e:b=w.heap.size
 ·subst e;rw[bT]at ar;cases ar
 rw[bh e,ar];rfl
def aB.ig:aB->Option D
 | .v x=>if x.oneCell' then some (.v x) else none
 | .ba c=>some (.v (.bool c))
 | .J (.own _) k es=>some (.J k es)
 | _=>none
def aB.tok:aB->Option Nat
 | .J (.own s) _ _=>some s
 | _=>none
def CI(w:World)(ω:Own)(τ:Nat->Nat×Value)(t:Nat)(ms:hn)(i j:Nat)(d:D)(u:Value):Prop:=
 ∃l:aB,l.ig=some d/\Sat w ω τ l u/\∀s,l.tok=some s->s≠t/\ms.at s=some (i,j)
theorem CI.rep{w1:World}{i j:Nat}{d:D}{u:Value}(h:CI w ω τ t ms i j d u)(bJ:∀b,b<w.heap.size->w1.heap[b]?=w.heap[b]?):
  bV w1 (oG w ω t ms) (fun q=>(Tag.own t).R ((i,j)::q)) d u:=by
 obtain⟨l,aD,aj,hm⟩:=h;cases l with
 | cq=>cases aD
 | v x=>
  simp only[aB.ig]at aD;split at aD
  ·simp only[aR]at aD;subst aD;have:u=x:=aj;subst this;exact .v _ _ ‹_›
  cases aD
 | ba c=>
  simp only[aB.ig,aR]at aD;subst aD;have:u=.bool c:=aj;subst this;exact .v _ _ rfl
 | J g k es=>
  cases g with
  | free=>cases aD
  | ro s=>cases aD
  | own s=>
   simp only[aB.ig,aR]at aD;subst aD;obtain⟨cB,qe⟩:=hm s rfl;refine aj.1.frame fun b q ar aE=>⟨?_,bJ b ar⟩
   simp only[Tag.R]at aE ⊢;simp only[oG];rw[bh (by omega),aE];simp only[oF];rw[bh cB,qe]
 | ptr id off=>cases aD
 | cE g k es i j=>cases aD
 | hF=>cases aD
 | fd=>cases aD
 | de=>cases aD
 | gn=>cases aD
 | aO=>cases aD
 | fa=>cases aD
theorem cy.iM{w1:World}(h:cy w0 st a w ω τ)(t:Nat)(hN:t<c7)(ms:hn){k cap:Nat}{es:List (List D)}{arr:Array Value}{ty:TypeId}
  (ar:gk w.heap.size w w1) (fN:w1.heap[w.heap.size]?=some (.cells arr ty (0,0))) (ai:es.length<=cap) (di:cap*k<=arr.size) (hk:∀e∈es,e.length=k)
  (e3:∀i j d,cY es i j=some d->∃u,arr[i*k+j]?=some u/\CI w ω τ t ms i j d u):
  cy w0 (st.iM t ms) a w1 (oG w ω t ms) (vw w τ t k es.length cap)/\
  Sat w1 (oG w ω t ms) (vw w τ t k es.length cap) (.J (.own t) k es) (.slice (some ⟨w.heap.size,0,none⟩) es.length cap):=by
 have bT:ω w.heap.size=.bB:=h.owned.fresh (fk _);have hblk:=ar.block;have aun:w.heap.size<w1.heap.size:=(ik.1 fN).1;have ku:oG w ω t ms w.heap.size=.tok t []:=by simp[oG]
 have gD:∀b,b≠w.heap.size->oG w ω t ms b=oF t ms (ω b):=fun b ar=>by simp[oG,ar]
 refine⟨h.ec _ (aki hN bT hblk).sat ?_ ?_ ?_ ?_ (fun s aj=>by simp only[vw];rw[bh (by omega)]),?_,?_⟩
 ·exact h.below.next ar
 ·intro b fD;by_cases e:b=w.heap.size
  ·subst e;exact⟨.inl h.below.size,arr,ty,fN⟩
  rw[gD b e]at fD;have U:ω b≠.bB:=fun e'=>by rw[e']at fD;exact fD rfl
  obtain⟨aw,h3,ih,aH⟩:=h.owned b U;exact⟨aw,h3,ih,(hblk b (h.owned.lt U)).trans aH⟩
 ·intro id b fD;have bz:=h.owned.lt (b:=b) (by simp[fD]);rw[gD b (by omega),fD];exact⟨rfl,hblk b bz⟩
 ·intro id b fD;by_cases e:b=w.heap.size
  ·subst e;rw[ku]at fD;cases fD
  rw[gD b e]at fD;exact CH.1 fD
 ·have sW:∀i j d,cY es i j=some d->arr[0+i*k+j]?=some (arr.getD (i*k+j) undef)/\CI w ω τ t ms i j d (arr.getD (i*k+j) undef):=by
   intro i j d aD;obtain⟨u,h1,U⟩:=e3 i j d aD;have e:arr.getD (i*k+j) undef=u:=by simp[d',h1]
   rw[e];exact⟨by rw[dg];exact h1,U⟩
  exact .row _ k es w.heap.size 0 cap arr ty (0,0) (fun i j=>arr.getD (i*k+j) undef) fN ku ai (by omega) hk (fun i j d aD=>(sW i j d aD).1) (fun i j d aD=>(sW i j d aD).2.rep hblk)
 simp[Tag.dT,vw]
def CJ(P:Program)(st:aI)(d:Nat)(t:TypeId)(p q:aJ)(ans:List b9):Stepped:=
 match P.underlying t with
 | some (.slice e)=>
  match P.info? e,p.int,q.int with
  | some i,some (_,l),some (_,c)=>
   match i.zero with
   | some z=>
    if i.size=z.cells.size/\0<i.size/\z.cells.all (·.oneCell')=true/\d<c7 then
     some (⟨(st.iM d []).env.set d (.one (.J (.own d) i.size (List.replicate l.toNat (z.cells.toList.map .v)))),(st.iM d []).boxes⟩,ans,[0<=l,l<=c,(i.bytes:Int)*c<=281474976710656,c<=9223372036854775807])
    else none
   | none=>none
  | _,_,_=>none
 | _=>none
theorem Pq(z:Array Value)(n i j:Nat)(hi:i<n)(a6:j<z.size):(madeCells z (n*z.size))[i*z.size+j]?=z[j]?:=by
 have bz:i*z.size+j<n*z.size:=by
  have:(i+1)*z.size<=n*z.size:=gR _ hi;rw[fu]at this;omega
 have e:(i*z.size+j) % z.size=j:=by rw[Nat.add_comm,Nat.add_mul_mod_self_right];exact Bu a6
 simp[madeCells,bz,e,getElem!_pos,a6]
theorem akj{n:Nat}{e:List D}{i j:Nat}{d:D}(h:cY (List.replicate n e) i j=some d):i<n/\e[j]?=some d:=by
 unfold cY at h;rw[Br]at h;split at h
 ·exact⟨‹_›,h⟩
 simp at h
theorem cy.make{P:Program}{bp:aI}{d:Nat}{t:TypeId}{p q:aJ}{u v:Value}{ans cd:List b9}{obs:List Prop}
  (aV:cy w0 st a w ω τ) (hp:cL (Sat w ω τ) p u) (aE:cL (Sat w ω τ) q v) (h:CJ P st d t p q ans=some (bp,cd,obs)) (aZ:cG obs):
  ∃z aN,(Instr.makeSlice t u v).run P w=.ok z aN/\Rel w0 bp (a.put (some d) z) aN:=by
 unfold CJ at h;split at h
 ·rename_i e hu;split at h
  ·rename_i i cT l b5 c hi e1 e2;split at h
   ·rename_i z bf;split at h
    ·rename_i ai;obtain⟨kp,kf,kq,rp⟩:=ai;simp only[aR,bx]at h;obtain⟨rfl,_,rfl⟩:=h;obtain⟨cC,cc,cH,fr,_⟩:=aZ;rw[aJ.nx e1 hp,aJ.nx e2 aE];have eQ:=run_make (P:=P) w t e i z hu hi bf cT b5 l c cC cc cH fr;have fN:(w.alloc (.cells (madeCells z.cells (c.toNat*i.size)) e)).heap[w.heap.size]?=some (.cells (madeCells z.cells (c.toNat*i.size)) e (0,0)):=mC _ _;have di:(madeCells z.cells (c.toNat*i.size)).size=c.toNat*i.size:=by simp[madeCells]
     have uC:=aV.iM d rp [] (k:=i.size) (cap:=c.toNat) (es:=List.replicate l.toNat (z.cells.toList.map .v)) (w1:=w.alloc (.cells (madeCells z.cells (c.toNat*i.size)) e))
      ((gk.refl _ _).alloc (fk _) _) fN (by simp;omega) (by omega) (fun e' he=>by rw[List.eq_of_mem_replicate he];simp[kp]) (fun x j qb aD=>by
       obtain⟨ag,aD⟩:=akj aD;rw[dj,b1]at aD;obtain⟨sr,je,rfl⟩:=aD;have a6:j<z.cells.size:=by
        have:=(eh.1 je).1;simpa using this
       refine⟨sr,?_,.v sr,?_,rfl,fun s aj=>by cases aj⟩
       ·rw[kp,Pq z.cells c.toNat x j (by omega) a6];simpa using je
       have:sr.oneCell'=true:=by
        have h1:=Array.all_eq_true'.1 kq;exact h1 sr (by simpa using fl je)
       simp[aB.ig,this])
     simp only[List.length_replicate]at uC;exact⟨_,_,eQ,_,_,uC.1.put (p:=.one (.J (.own d) i.size (List.replicate l.toNat (z.cells.toList.map .v)))) uC.2⟩
    cases h
   cases h
  cases h
 cases h
end Go.Sx
namespace Go.Sx
open Go.RowKit
def mD(k:Nat):Nat->List aB->List (List aB)
 | 0,_=>[]
 | n+1,ls=>ls.take k::mD k n (ls.drop k)
theorem Iq(k:Nat):∀(n:Nat) (ls:List aB) (i:Nat),(mD k n ls)[i]?=if i<n then some ((ls.drop (i*k)).take k) else none
 | 0,ls,i=>by simp[mD]
 | n+1,ls,0=>by simp[mD]
 | n+1,ls,i+1=>by
  simp only[mD,mR,Iq k n];by_cases h:i<n
  ·rw[br h,br (by omega),List.drop_drop]
   congr 3
   rw[fu];omega
  rw[bh h,bh (by omega)]
theorem Pr(k:Nat):∀(n:Nat) (ls:List aB),(mD k n ls).length=n
 | 0,_=>rfl
 | n+1,ls=>by simp[mD,Pr k n]
def kB(i:Nat):Nat->List aB->hn
 | _,[]=>[]
 | j,l::ls=>match l.tok with
  | some s=>(s,(i,j))::kB i (j+1) ls
  | none=>kB i (j+1) ls
def qI:Nat->List (List aB)->hn
 | _,[]=>[]
 | i,e::es=>kB i 0 e++qI (i+1) es
def w5(t:Nat)(ms:hn):Bool:=decide (t<c7)&&ms.all fun x=>x.1≠t&&(match ms.at x.1 with | some p=>p.1==x.2.1&&p.2==x.2.2 | none=>false)
theorem Ir(i:Nat):∀(ls:List aB) (j0 j:Nat) (l:aB) (s:Nat),ls[j]?=some l->l.tok=some s->(s,(i,j0+j))∈kB i j0 ls
 | [],_,_,_,_,h,_=>by simp at h
 | fx::ls,j0,0,l,s,h,aj=>by
  simp at h;subst h;simp only[kB,aj];exact gT
 | fx::ls,j0,j+1,l,s,h,aj=>by
  have:=Ir i ls (j0+1) j l s (by simpa using h) aj;rw[show j0+1+j=j0+(j+1) by omega]at this;simp only[kB];split
  ·exact hy _ this
  exact this
theorem Ps:∀(es:List (List aB)) (i0 i j:Nat) (e:List aB) (l:aB) (s:Nat),es[i]?=some e->e[j]?=some l->l.tok=some s->(s,(i0+i,j))∈qI i0 es
 | [],_,_,_,_,_,_,h,_,_=>by simp at h
 | bE::es,i0,0,j,e,l,s,h,al,aj=>by
  simp at h;subst h;simp only[qI];have:=Ir i0 bE 0 j l s al aj;rw[dg]at this;exact hY _ this
 | bE::es,i0,i+1,j,e,l,s,h,al,aj=>by
  have:=Ps es (i0+1) i j e l s (by simpa using h) al aj;rw[show i0+1+i=i0+(i+1) by omega]at this;simp only[qI];exact iD _ this
variable{ms:hn}
theorem akk{t:Nat}(h:w5 t ms=true):t<c7:=by
 unfold w5 at h;rw[cx,cU]at h;exact h.1
theorem akl{t:Nat}(h:w5 t ms=true){s:Nat}{p:Nat×Nat}(hm:(s,p)∈ms):s≠t/\ms.at s=some p:=by
 unfold w5 at h;rw[cx]at h;have:=fA.1 h.2 _ hm;simp only[cx,cU]at this;refine⟨this.1,?_⟩;have U:=this.2;split at U
 ·rename_i pJ e;simp only[cx,eD]at U;rw[e]
  congr 1
  exact Prod.ext U.1 U.2
 cases U
def zA(P:Program)(st:aI)(d:Nat)(t:TypeId)(len:Nat)(parts:List (Nat×Operand))(ans:List b9):Stepped:=
 match P.underlying t with
 | some (.slice e)=>
  match P.info? e with
  | some i=>
   match i.zero with
   | some z=>
    if i.size=z.cells.size/\0<i.size/\len*i.size<=16777216 then
     match qc (fun x=>some (x*i.size,i.size)) ((List.replicate len (z.cells.toList.map aB.v)).flatten) (parts.map fun x=>(x.1,st.bi x.2)) with
     | some r=>
      let ls:=mD i.size len r
      match ls.mapM (fun x=>x.mapM aB.ig) with
      | some es=>if w5 d (qI 0 ls) then
        some (⟨(st.iM d (qI 0 ls)).env.set d (.one (.J (.own d) i.size es)),(st.iM d (qI 0 ls)).boxes⟩,ans,[]) else none
      | none=>none
     | none=>none
    else none
   | none=>none
  | none=>none
 | _=>none
def BN(P:Program)(st:aI)(d:Nat)(t:TypeId)(len:Nat)(parts:List (Nat×Operand)):Option (Nat×List (List D)×hn):=
 match P.underlying t with
 | some (.slice e)=>
  match P.info? e with
  | some i=>
   match i.zero with
   | some z=>
    if i.size=z.cells.size/\0<i.size/\len*i.size<=16777216 then
     match qc (fun x=>some (x*i.size,i.size)) ((List.replicate len (z.cells.toList.map aB.v)).flatten) (parts.map fun x=>(x.1,st.bi x.2)) with
     | some r=>
      match (mD i.size len r).mapM (fun x=>x.mapM aB.ig) with
      | some es=>if w5 d (qI 0 (mD i.size len r)) then some (i.size,es,qI 0 (mD i.size len r)) else none
      | none=>none
     | none=>none
    else none
   | none=>none
  | none=>none
 | _=>none
theorem akm{P:Program}{st:aI}{d:Nat}{t:TypeId}{len:Nat}{parts:List (Nat×Operand)}{k:Nat}{es:List (List D)}(h:BN P st d t len parts=some (k,es,ms))(ans:List b9):
  zA P st d t len parts ans=some (⟨(st.iM d ms).env.set d (.one (.J (.own d) k es)),(st.iM d ms).boxes⟩,ans,[]):=by
 unfold BN at h;unfold zA;split at h
 ·rename_i e h1
  try rw[h1]
  split at h
  ·rename_i i U
   try simp only[U]
   split at h
   ·rename_i z aw
    try simp only[aw]
    split at h
    ·rename_i ai
     try rw[br ai]
     split at h
     ·rename_i r aH
      try simp only[aH]
      split at h
      ·rename_i cr aU
       try simp only[aU]
       split at h
       ·rename_i bA;simp only[aR,bx]at h;obtain⟨rfl,rfl,rfl⟩:=h
        try rw[br bA]
       cases h
      cases h
     cases h
    cases h
   cases h
  cases h
 cases h
theorem mE{α β:Type}{f:α->Option β}:∀{xs:List α} {ys:List β},xs.mapM f=some ys->ys.length=xs.length/\∀(i:Nat) (y:β),ys[i]?=some y->∃x,xs[i]?=some x/\f x=some y
 | [],ys,h=>by simp at h;subst h;exact⟨rfl,fun i y bl=>by simp at bl⟩
 | x::xs,ys,h=>by
  rw[vZ]at h;cases e:f x with
  | none=>simp[e]at h
  | some Eu=>
   cases e2:xs.mapM f with
   | none=>simp[e,e2]at h
   | some E8=>
    simp[e,e2]at h;subst h;obtain⟨h1,U⟩:=mE e2;refine⟨by simp[h1],fun i y bl=>?_⟩;cases i with
    | zero=>simp at bl;subst bl;exact⟨x,rfl,e⟩
    | succ i=>exact U i y (by simpa using bl)
theorem Pt{α:Type}(e:List α):∀(n i j:Nat),i<n->j<e.length->((List.replicate n e).flatten)[i*e.length+j]?=e[j]?
 | 0,i,j,hi,_=>by omega
 | n+1,0,j,_,a6=>by
  rw[List.replicate_succ,List.flatten_cons,kD,Nat.zero_mul,dg,br a6]
 | n+1,i+1,j,hi,a6=>by
  rw[List.replicate_succ,List.flatten_cons,kD,bh (by rw[fu];omega)];have:=Pt e n i j (by omega) a6;rw[<-this]
  congr 1
  rw[fu];omega
theorem cy.buildSlice{P:Program}{w0:er}{st bp:aI}{a:Act}{w:World}{ω:Own}{τ:Nat->Nat×Value}{d:Nat}{t:TypeId}{len:Nat}{parts:Array (Nat×Operand)}{ans cd:List b9}{obs:List Prop}
  (aV:cy w0 st a w ω τ) (h:zA P st d t len parts.toList ans=some (bp,cd,obs)):
  ∃z aN,(Instr.buildSlice t len (parts.map fun (i,x)=>(i,a.eval x))).run P w=.ok z aN/\Rel w0 bp (a.put (some d) z) aN:=by
 unfold zA at h;split at h
 ·rename_i e hu;split at h
  ·rename_i i hi;split at h
   ·rename_i z bf;split at h
    ·rename_i ai;obtain⟨kp,kf,kq⟩:=ai;split at h
     ·rename_i r aA;simp only at h;split at h
      ·rename_i es Cc;split at h
       ·rename_i NE;simp only[aR,bx]at h;obtain⟨rfl,_,_⟩:=h;have lj:(z.cells.toList.map aB.v).length=i.size:=by simp[kp]
        have auc:((List.replicate len (z.cells.toList.map aB.v)).flatten).length=len*i.size:=by simp[kp]
        have Hl:jW (Sat w ω τ) ((List.replicate len (z.cells.toList.map aB.v)).flatten) (madeCells z.cells (len*i.size)):=by
         refine⟨by simp[madeCells,kp],fun x l al=>?_⟩;have bz:x<len*i.size:=by
          have:=(eh.1 al).1;omega
         have ag:x=(x / i.size)*i.size+x % i.size:=by rw[Nat.mul_comm];exact (Nat.div_add_mod x i.size).symm
         have aE:x / i.size<len:=Nat.div_lt_of_lt_mul (by rw[Nat.mul_comm];exact bz);have hm:x % i.size<i.size:=Nat.mod_lt _ kf;have h1:=Pt (z.cells.toList.map aB.v) len (x / i.size) (x % i.size) aE (by omega);rw[lj,<-ag,al]at h1;have U:=h1.symm;rw[dj,b1]at U;obtain⟨u,je,rfl⟩:=U;refine⟨u,?_,rfl⟩;have aw:=Pq z.cells len (x / i.size) (x % i.size) aE (by omega);rw[<-kp,<-ag]at aw;rw[aw];simpa using je
        obtain⟨out,Gu,Cj⟩:=H' (vals:=parts.toList.map fun x=>(x.1,a.eval x.2)) (by simp) (fun j fm p a6=>by
         rw[dj,b1]at a6;obtain⟨⟨i2,x⟩,ag,e⟩:=a6;simp only[bx]at e;obtain⟨rfl,rfl⟩:=e;exact⟨a.eval x,by simp only[dj,ag,l'],aV.bi x⟩) aA Hl
        obtain⟨jE,cZ⟩:=mE Cc;have hlen:es.length=len:=by rw[jE,Pr]
        have WO:∀x j qb,cY es x j=some qb->∃l,x<len/\j<i.size/\r[x*i.size+j]?=some l/\l.ig=some qb/\∃ux,(mD i.size len r)[x]?=some ux/\ux[j]?=some l:=by
         intro x j qb aD;unfold cY at aD;cases ag:es[x]? with
         | none=>simp[ag]at aD
         | some e'=>
          rw[ag,l9]at aD;obtain⟨ux,h1,U⟩:=cZ x e' ag;obtain⟨aw,aH⟩:=mE U;obtain⟨l,aU,bA⟩:=aH j qb aD;have Ww:=h1;rw[Iq]at h1;split at h1
          ·simp only[aR]at h1;subst h1;have Wx:=aU;rw[hh]at aU;split at aU
           ·rw[gQ]at aU;exact⟨l,‹_›,‹_›,aU,bA,_,Ww,Wx⟩
           cases aU
          cases h1
        have NR:r.length=len*i.size:=by
         have:=Cj.1;have U:out.size=(madeCells z.cells (len*i.size)).size:=by
          have:=Cj.1;have aH:∀(fx:List (Nat×aJ)) (iK k2:List aB),qc (fun x=>some (x*i.size,i.size)) iK fx=some k2->k2.length=iK.length:=by
           intro fx;induction fx with
           | nil=>intro iK k2 h;simp[qc]at h;rw[h]
           | cons x fx dP=>
            intro iK k2 h;obtain⟨mQ,jv⟩:=x;simp only[qc]at h;split at h
            ·split at h
             ·rename_i bJ;rw[dP _ _ h,H9 (by omega)]
             cases h
            cases h
          have:=aH _ _ _ aA;simp[madeCells];omega
         simp[madeCells]at U;omega
        have fN:(w.alloc (.cells out e)).heap[w.heap.size]?=some (.cells out e (0,0)):=mC _ _;have uC:=aV.iM d (akk NE) (qI 0 (mD i.size len r)) (k:=i.size) (cap:=len) (es:=es) (w1:=w.alloc (.cells out e))
         ((gk.refl _ _).alloc (fk _) _) fN (by omega) (by rw[Cj.1,NR];exact fk _)
         (fun e' he=>by
          obtain⟨x,ag⟩:=oT.1 he;obtain⟨ux,h1,U⟩:=cZ x e' ag;obtain⟨aw,_⟩:=mE U;rw[aw];rw[Iq]at h1;split at h1
          ·simp only[aR]at h1;subst h1;have:(x+1)*i.size<=len*i.size:=gR _ (by omega);rw[fu]at this;simp;omega
          cases h1)
         (fun x j qb aD=>by
          obtain⟨l,h1,U,aw,aH,ux,aU,bA⟩:=WO x j qb aD;obtain⟨u,bP,c'⟩:=Cj.2 _ _ aw;refine⟨u,bP,l,aH,c',fun s aj=>?_⟩;have:=Ps (mD i.size len r) 0 x j ux l s aU bA aj;rw[dg]at this;exact akl NE this)
        rw[hlen]at uC;refine⟨_,_,?_,_,_,uC.1.put (p:=.one (.J (.own d) i.size es)) uC.2⟩;have ot:((Array.range (len*i.size)).map (fun x=>(if len*i.size=0 then (#[]:Array Value) else z.cells)[x % (if len*i.size=0 then (#[]:Array Value) else z.cells).size]!))=madeCells z.cells (len*i.size):=by
         unfold madeCells;by_cases bN:len*i.size=0
         ·simp[bN]
         simp[bN]
        have e:(Array.map (fun (x:Nat×Operand)=>(x.1,a.eval x.2)) parts).toList=parts.toList.map fun x=>(x.1,a.eval x.2):=by simp
        have XD:¬(len*i.size>2 ^ 24):=by have:(2:Nat) ^ 24=16777216:=(by decide);omega
        simp only[Instr.buildSlice,Sem.run_bind,run_underlying hu,Result.andThen_ok,sizeOf,typeInfo,run_program,hi,Sem.run_pure];rw[bh XD];by_cases bN:len*i.size=0
        ·simp only[bN,gy]at ot ⊢;simp only[Sem.run_pure,Sem.run_bind,Result.andThen_ok,e];rw[bN]at Gu;rw[ot,Gu];simp[newRow]
        simp only[bN,lD]at ot ⊢;simp only[zeroValue,typeInfo,Sem.run_bind,run_program,Result.andThen_ok,hi,bf,Sem.run_pure,e];rw[ot,Gu];simp[newRow]
       cases h
      cases h
     cases h
    cases h
   cases h
  cases h
 cases h
end Go.Sx
namespace Go.Sx
open Go.RowKit
variable{w:World}{ω a1:Own}{k n:Nat}{es:List (List D)}
theorem bV.T7{aN:World}{R h0:List (Nat×Nat)->cV->Prop}{b off cap:Nat}(h:bV w ω R (.J k es) (.slice (some ⟨b,off,none⟩) n cap))
  {arr b7:Array Value} {ty:TypeId} {cO:Nat×Nat} (ar:w.heap[b]?=some (.cells arr ty cO)) (dn:aN.heap[b]?=some (.cells b7 ty cO)) (di:b7.size=arr.size)
  (WC:∀x,x<off+n*k->b7[x]?=arr[x]?) (B4:∀o,o=ω b->R [] o->h0 [] (a1 b)) (lf:∀c p q,c<w.heap.size->R (p::q) (ω c)->h0 (p::q) (a1 c)/\aN.heap[c]?=w.heap[c]?):
  bV aN a1 h0 (.J k es) (.slice (some ⟨b,off,none⟩) n cap):=by
 generalize bl:Value.slice (some ⟨b,off,none⟩) n cap=y at h;cases h with
 | nil=>cases bl;exact .nil _ _ _
 | row R k es gm pH o3 h3 ih FG us fL dM ai aj hk hu aD=>
  simp only[Value.slice.injEq,aR,Addr.mk.injEq]at bl;obtain⟨⟨rfl,rfl,_⟩,rfl,rfl⟩:=bl;rw[ar]at fL;simp only[aR,Obj.cells.injEq]at fL;obtain⟨rfl,rfl,rfl⟩:=fL;refine .row h0 k es b off cap b7 ty cO us dn (B4 _ rfl dM) ai (by omega) hk (fun i j d dJ=>?_) (fun i j d dJ=>(aD i j d dJ).frame fun c q np aE=>lf c _ _ np aE);rw[WC,hu i j d dJ];have ql:i<es.length/\j<k:=by
   unfold cY at dJ;cases ag:es[i]? with
   | none=>simp[ag]at dJ
   | some e=>
    rw[ag,l9]at dJ;have h1:=(eh.1 ag).1;have U:=(eh.1 dJ).1;rw[hk e (fl ag)]at U;exact⟨h1,U⟩
  have:(i+1)*k<=es.length*k:=gR _ ql.1;rw[fu]at this;omega
variable{i j:Nat}
theorem r0{d:D}(hk:∀e∈es,e.length=k)(h:cY es i j=some d):i<es.length/\j<k:=by
 unfold cY at h;cases ag:es[i]? with
 | none=>simp[ag]at h
 | some e=>
  rw[ag,l9]at h;have h1:=(eh.1 ag).1;have U:=(eh.1 h).1;rw[hk e (fl ag)]at U;exact⟨h1,U⟩
variable{bO:List (List D)}
theorem zB:cY (es++bO) i j=if i<es.length then cY es i j else cY bO (i-es.length) j:=by
 unfold cY;rw[kD];split<;>rfl
theorem Pu(hk:∀e∈es,e.length=k)(hi:i<es.length)(a6:j<k):∃d,cY es i j=some d:=by
 have h1:es[i].length=k:=hk _ (q3 hi);exact⟨es[i][j],by simp[cY,hi,h1,a6]⟩
def iP(t:Nat)(dK:Option Nat)(n:Nat):cV->cV
 | .tok s q=>if dK=some s then (match q with | []=>.bB | p::dm=>.tok t ((n+p.1,p.2)::dm)) else .tok s q
 | o=>o
def hz(t:Nat)(dK:Option Nat):Tag->Option Tag
 | .free=>some .free
 | .own s=>if s=t then some (.ro t) else if dK=some s then none else some (.own s)
 | .ro s=>if s=t then none else if dK=some s then none else some (.ro s)
structure Src (P:Program) (w:World) (ω:Own) (k:Nat) (bO:List (List D)) (dK:Option Nat) (y:Value) (news:List Value):Prop where
 len:news.length=bO.length*k
 rows:∀e∈bO,e.length=k
 one:∀u∈news,u.oneCell'=true
 cell:∀i j d,cY bO i j=some d->∃u,news[i*k+j]?=some u/\((∃x,d=.v x/\u=x)\/∃s,dK=some s/\bV w ω (fun q=>(Tag.own s).R ((i,j)::q)) d u)
 shape:((∃a,y=.slice a 0 0)/\bO=[])\/∃b o c,y=.slice (some ⟨b,o,none⟩) bO.length c/\∀j v,news[j]?=some v->w.cell? ((⟨b,o,none⟩:Addr).add j)=some v
variable{t:Nat}{dK:Option Nat}
theorem Is{o:cV}{id:Nat}:iP t dK n o=.box id<->o=.box id:=by
 cases o with
 | bB=>simp[iP]
 | box i=>simp[iP]
 | tok s q=>
  simp only[iP];split
  ·cases q<;>simp
  simp
theorem vx{s:Nat}{q:List (Nat×Nat)}(h:dK≠some s):iP t dK n (.tok s q)=.tok s q:=by simp[iP,h]
theorem r1{w aN:World}{g ea:Tag}(h7:dK≠some t)(au:hz t dK g=some ea)(cB:g≠.own t)
  (c8:∀c,c<w.heap.size->ω c≠.tok t []->a1 c=iP t dK n (ω c)/\aN.heap[c]?=w.heap[c]?):
  ∀c q,c<w.heap.size->g.R q (ω c)->ea.R q (a1 c)/\aN.heap[c]?=w.heap[c]?:=by
 intro c q ai aA;cases g with
 | free=>
  simp only[hz,aR]at au;subst au;simp only[Tag.R]at aA;obtain⟨h1,U⟩:=c8 c ai (by rw[aA];simp);rw[h1,aA];exact⟨rfl,U⟩
 | own s=>
  simp only[hz]at au;have aj:s≠t:=fun e=>cB (by rw[e])
  rw[bh aj]at au;split at au
  ·cases au
  rename_i hm;simp only[aR]at au;subst au;simp only[Tag.R]at aA;obtain⟨h1,U⟩:=c8 c ai (by rw[aA];simp[aj]);rw[h1,aA,vx hm];exact⟨rfl,U⟩
 | ro s=>
  simp only[hz]at au;split at au
  ·cases au
  rename_i aj;split at au
  ·cases au
  rename_i hm;simp only[aR]at au;subst au;simp only[Tag.R]at aA;rcases aA with aA | ⟨dm,aA⟩
  ·obtain⟨h1,U⟩:=c8 c ai (by rw[aA];simp);rw[h1,aA];exact⟨.inl rfl,U⟩
  obtain⟨h1,U⟩:=c8 c ai (by rw[aA];simp[aj]);rw[h1,aA,vx hm];exact⟨.inr ⟨dm,rfl⟩,U⟩
def fV(τ:Nat->Nat×Value)(t k:Nat)(z:Value):Nat->Nat×Value:=fun s=>if s=t then (k,z) else τ s
variable{τ:Nat->Nat×Value}
theorem CK{k:Nat}{z:Value}{g ea:Tag}{y:Nat×Value}(au:hz t dK g=some ea)(bl:g.dT τ y):ea.dT (fV τ t k z) y:=by
 cases g with
 | free=>simp only[hz,aR]at au;subst au;exact trivial
 | own s=>
  simp only[hz]at au;split at au
  ·simp only[aR]at au;subst au;exact trivial
  split at au
  ·cases au
  simp only[aR]at au;subst au;simp only[Tag.dT,fV]at bl ⊢;rw[bh ‹_›];exact bl
 | ro s=>
  simp only[hz]at au;split at au
  ·cases au
  split at au
  ·cases au
  simp only[aR]at au;subst au;exact trivial
theorem Fm{aN:World}{z:Value}(hN:t<c7)(h7:dK≠some t)
  (c8:∀c,c<w.heap.size->ω c≠.tok t []->a1 c=iP t dK n (ω c)/\aN.heap[c]?=w.heap[c]?)
  (qg:∀id b,ω b=.box id->a1 b=.box id)
  (mx:∀es y,bV w ω (Tag.own t).R (.J (τ t).1 es) y->y=(τ t).2->bV aN a1 (Tag.ro t).R (.J (τ t).1 es) y):
  ∀l v,Sat w ω τ l v->Sat aN a1 (fV τ t k z) (l.ci (hz t dK) fun _=>true) v:=by
 intro l v aj;cases l with
 | cq=>exact trivial
 | v x=>exact aj
 | ba c=>exact aj
 | ptr id off=>
  simp only[aB.ci,gy];obtain⟨b,ar,e⟩:=aj;exact⟨b,qg id b ar,e⟩
 | fa s vs=>
  simp only[aB.ci];split
  ·rename_i sl au;split
   ·rename_i GG;subst GG;have cB:Tag.own sl≠.own t:=by
     intro e;simp only[Tag.own.injEq]at e;subst e;simp[hz]at au
    obtain⟨b,ty,arr,e,aU,aw,aW,bt⟩:=aj;have bz:b<w.heap.size:=(ik.1 aw).1;have hk:=r1 (w:=w) (aN:=aN) h7 au cB c8 b [] bz aU;refine⟨b,ty,arr,e,hk.1,hk.2.trans aw,CN (fun c u ai=>?_) aW bt⟩;cases c with
    | cq=>exact trivial
    | v x=>exact ai
    | J g cp es=>
     simp only[eL.ci];cases au:hz t dK g with
     | none=>exact trivial
     | some ea=>
      by_cases cB:g=.own t
      ·subst cB;simp only[hz,gy,aR]at au;subst au;obtain⟨h1,U⟩:=ai;simp only[Tag.dT]at U;have e1:(τ t).1=cp:=by rw[U]
       have e2:(τ t).2=u:=by rw[U]
       exact⟨by rw[<-e1];exact mx es u (by rw[e1];exact h1) e2.symm,aa⟩
      exact⟨ai.1.frame fun c q ai aE=>r1 h7 au cB c8 c q ai aE,CK au ai.2⟩
   exact trivial
  exact trivial
 | aO s i j b5 es m=>
  simp only[aB.ci];split
  ·rename_i sl au;split
   ·rename_i GG;subst GG;have cB:Tag.own sl≠.own t:=by
     intro e;simp only[Tag.own.injEq]at e;subst e;simp[hz]at au
    obtain⟨u,hu,h1,hm⟩:=aj;refine⟨u,hu,h1.frame fun c q ai aE=>r1 h7 au cB c8 c _ ai aE,fun bJ=>?_⟩;obtain⟨kT,b,off,len,cap,arr,ty,cO,U,aU,aw,aH⟩:=hm bJ;have bz:b<w.heap.size:=(ik.1 aw).1;have hk:=r1 (w:=w) (aN:=aN) h7 au cB c8 b [] bz aU;exact⟨kT,b,off,len,cap,arr,ty,cO,CK (k:=k) (z:=z) au U,hk.1,hk.2.trans aw,aH⟩
   exact trivial
  exact trivial
 | gn f ids=>
  simp only[aB.ci];split
  ·obtain⟨bs,e,aW,hi⟩:=aj;refine⟨bs,e,aW,fun i id fF=>?_⟩;obtain⟨b,h1,U⟩:=hi i id fF;exact⟨b,h1,qg id b U⟩
  exact trivial
 | hF ds off=>
  obtain⟨b,e,aA⟩:=aj;exact⟨b,e,aA.frame fun c q ai aE=>r1 (g:=.free) (ea:=.free) h7 rfl (by simp) c8 c q ai aE⟩
 | fd d=>exact bV.frame aj fun c q ai aE=>r1 (g:=.free) (ea:=.free) h7 rfl (by simp) c8 c q ai aE
 | de t0 da dE=>exact⟨bV.frame aj.1 fun c q ai aE=>r1 (g:=.free) (ea:=.free) h7 rfl (by simp) c8 c q ai aE,fun bQ=>(show fV τ t k z t0=τ t0 by simp only[fV];rw[bh (by omega)]).trans (aj.2 bQ)⟩
 | J g cp es=>
  simp only[aB.ci];cases au:hz t dK g with
  | none=>exact trivial
  | some ea=>
   by_cases cB:g=.own t
   ·subst cB;simp only[hz,gy,aR]at au;subst au;obtain⟨h1,U⟩:=aj;simp only[Tag.dT]at U;have e1:(τ t).1=cp:=by rw[U]
    have e2:(τ t).2=v:=by rw[U]
    exact⟨by rw[<-e1];exact mx es v (by rw[e1];exact h1) e2.symm,aa⟩
   exact⟨aj.1.frame fun c q ai aE=>r1 h7 au cB c8 c q ai aE,CK au aj.2⟩
 | cE g cp es i j=>
  simp only[aB.ci];cases au:hz t dK g with
  | none=>exact trivial
  | some ea=>
   obtain⟨b,off,cap,e,hi,aA,bJ⟩:=aj;by_cases cB:g=.own t
   ·subst cB;simp only[hz,gy,aR]at au;subst au;simp only[Tag.dT]at bJ;have e1:(τ t).1=cp:=by rw[bJ]
    have e2:(τ t).2=Value.slice (some ⟨b,off,none⟩) es.length cap:=by rw[bJ]
    exact⟨b,off,cap,e,hi,by rw[<-e1];exact mx es _ (by rw[e1];exact aA) e2.symm,aa⟩
   exact⟨b,off,cap,e,hi,aA.frame fun c q ai aE=>r1 h7 au cB c8 c q ai aE,CK au bJ⟩
def aI.wc(st:aI)(t:Nat)(dK:Option Nat):aI:=st.map (aB.ci (hz t dK) fun _=>true)
variable{y:Value}
theorem Pv{P:Program}{t ty e:TypeId}{i:TypeInfo}(bQ:P.underlying t=some (.slice e))(hi:P.info? e=some i)(w:World){fc:Value}
  (bl:∃a n c,y=.slice a n c/\n<=c) (kO:∃a c,fc=.slice a 0 c):
  (Builtin.append_ #[t,t] ty #[y,fc]).run P w=.ok y w:=by
 obtain⟨a,n,c,rfl,aW⟩:=bl;obtain⟨a2,c2,rfl⟩:=kO;cases a<;>cases a2<;>
  simp[Builtin.append_,run_underlying bQ,sizeOf,typeInfo,hi,Builtin.lenOf,Builtin.firstCells,loadCells,loadCellsFrom,storeCells, *]
theorem It{P:Program}{t ty e:TypeId}{i:TypeInfo}(bQ:P.underlying t=some (.slice e))(hi:P.info? e=some i)(w:World)
  (b off n cap:Nat) (arr:Array Value) (hf:TypeId) (au:w.heap[b]?=some (.cells arr hf (0,0)))
  (ck:Addr) (m c:Nat) (news:List Value) (al:news.length=m*i.size) (ps:∀j u,news[j]?=some u->w.cell? (ck.add j)=some u) (h1:∀u∈news,u.oneCell'=true)
  (px:n+m<=cap) (dO:off+n*i.size+news.length<=arr.size):
  (Builtin.append_ #[t,t] ty #[.slice (some ⟨b,off,none⟩) n cap,.slice (some ck) m c]).run P w=
   .ok (.slice (some ⟨b,off,none⟩) (n+m) cap) (w.setRow b (arr.toList.take (off+n*i.size)++news++arr.toList.drop (off+n*i.size+news.length)).toArray):=by
 have bT:=run_firstCells_some (P:=P) w i.size m ck m c news al ps;have eE:=run_storeCells_at P b (off+n*i.size) hf news 0 arr w au (by simpa using dO) h1;simp only[lC]at eE;simp[Builtin.append_,run_underlying bQ,sizeOf,typeInfo,hi,Builtin.lenOf,px,bT,pL,eE]
theorem Src.MY{P:Program}{aN:World}{a1:Own}{n:Nat}{news:List Value}(h:Src P w ω k bO dK y news)(h7:dK≠some t)
  (c8:∀c,c<w.heap.size->ω c≠.tok t []->a1 c=iP t dK n (ω c)/\aN.heap[c]?=w.heap[c]?) {i j:Nat} {d:D} (aD:cY bO i j=some d):
  ∃u,news[i*k+j]?=some u/\bV aN a1 (fun q=>(Tag.own t).R ((n+i,j)::q)) d u:=by
 obtain⟨u,h1,U⟩:=h.cell i j d aD;refine⟨u,h1,?_⟩;rcases U with⟨x,rfl,rfl⟩ | ⟨s,aj,aA⟩
 ·exact .v _ _ (h.one _ (fl h1))
 refine aA.frame fun c q ai aE=>?_
 simp only[Tag.R]at aE ⊢;have eE:s≠t:=fun e=>h7 (by rw[aj,e])
 obtain⟨aw,aH⟩:=c8 c ai (by rw[aE];simp[eE]);rw[aw,aE];exact⟨by simp[iP,aj],aH⟩
theorem cy.append{P:Program}{w0:er}{st:aI}{a:Act}(aV:cy w0 st a w ω τ){fc:Value}{news:List Value}
  (hp:Sat w ω τ (.J (.own t) k es) y) (io:Src P w ω k bO dK fc news) (h7:dK≠some t) {ty hG e:TypeId} {i:TypeInfo} {z:Value}
  (bQ:P.underlying hG=some (.slice e)) (hi:P.info? e=some i) (bf:i.zero=some z) (hk:i.size=k) (ou:z.cells.size=k)
  (fU:(es.length+bO.length)*i.bytes<=140737488355328) (fL:es.length+bO.length<=9223372036854775807) (hN:t<c7):
  ∃r aN a1,(Builtin.append_ #[hG,hG] ty #[y,fc]).run P w=.ok r aN/\cy w0 (st.wc t dK) a aN a1 (fV τ t k r)/\Sat aN a1 (fV τ t k r) (.J (.own t) k (es++bO)) r:=by
 subst hk;obtain⟨aA,bJ⟩:=hp;simp only[Tag.dT]at bJ;have e1:(τ t).1=i.size:=by rw[bJ]
 have e2:(τ t).2=y:=by rw[bJ]
 have Gd:∀r:Value,∀s,c7<=s->fV τ t i.size r s=τ s:=fun r s aj=>by simp only[fV];rw[bh (by omega)]
 have Xk:(Tag.own t).dT (fV τ t i.size y) (i.size,y):=by simp[Tag.dT,fV]
 by_cases hm:bO.length=0
 ·-- nothing is atC
  have Gc:bO=[]:=vY hm;subst Gc
  let a1:Own:=fun c=>iP t dK es.length (ω c)
  have c8:∀c,c<w.heap.size->ω c≠.tok t []->a1 c=iP t dK es.length (ω c)/\w.heap[c]?=w.heap[c]?:=fun c _ _=>⟨rfl,rfl⟩
  have eQ:(Builtin.append_ #[hG,hG] ty #[y,fc]).run P w=.ok y w:=by
   refine Pv bQ hi w ?_ ?_
   ·cases aA with
    | nil _ _ a0=>exact⟨a0,0,0,rfl,fk _⟩
    | row R k es b off cap arr ty cO us ar dM ai aj hk hu aD=>exact⟨some ⟨b,off,none⟩,_,cap,rfl,ai⟩
   rcases io.shape with⟨⟨a,h⟩,_⟩ | ⟨b,o,c,h,_⟩
   ·exact⟨a,0,h⟩
   exact⟨some ⟨b,o,none⟩,c,h⟩
  refine⟨y,w,a1,eQ,aV.ec _ (Fm hN h7 c8 (fun id b ar=>by simp[a1,ar,iP]) ?_) aV.below ?_ ?_ ?_ (Gd _),?_,Xk⟩
  ·intro cr fY dX _;refine dX.frame fun c q ai aE=>⟨?_,rfl⟩
   simp only[Tag.R]at aE ⊢;simp only[a1,aE];exact .inr ⟨q,vx h7⟩
  ·intro b ar;have:ω b≠.bB:=fun e=>by simp[a1,e,iP]at ar
   exact aV.owned b this
  ·intro id b ar;exact⟨by simp[a1,ar,iP],rfl⟩
  ·intro id b ar;exact Is.1 ar
  rw[lz];refine aA.frame fun c q ai aE=>⟨?_,rfl⟩
  simp only[Tag.R]at aE ⊢;simp only[a1,aE];exact vx h7
 have uN:0<bO.length:=by omega
 rcases io.shape with⟨_,h⟩ | ⟨ba,ly,jO,rfl,ps⟩
 ·rw[h]at uN;simp at uN
 have grown:∀(w1:World) (b7:Array Value) (r:Value) (k':Nat),gk w.heap.size w w1->w1.heap[w.heap.size]?=some (.cells b7 e (0,0))->r=.slice (some ⟨w.heap.size,0,none⟩) (es.length+bO.length) k'->
   es.length+bO.length<=k'->k'*i.size<=b7.size->(∀fm j d,cY es fm j=some d->∃u,b7[fm*i.size+j]?=some u/\∃R:List (Nat×Nat)->cV->Prop,(∀q o,R q o->o=.tok t ((fm,j)::q))/\bV w ω R d u)->
   (∀x u,news[x]?=some u->b7[es.length*i.size+x]?=some u)->(∀e∈es,e.length=i.size)->
   ∃a1,cy w0 (st.wc t dK) a w1 a1 (fV τ t i.size r)/\Sat w1 a1 (fV τ t i.size r) (.J (.own t) i.size (es++bO)) r:=by
  intro w1 b7 r k' ke fN Gx fE di hold yP sT;subst Gx
  let a1:Own:=fun c=>if c=w.heap.size then .tok t [] else @ite _ (ω c=.tok t []) (Classical.propDecidable _) .bB (iP t dK es.length (ω c))
  have aud:ω w.heap.size=.bB:=aV.owned.fresh (fk _);have c8:∀c,c<w.heap.size->ω c≠.tok t []->a1 c=iP t dK es.length (ω c)/\w1.heap[c]?=w.heap[c]?:=by
   intro c ai cB;refine⟨?_,ke.block c ai⟩;simp only[a1];rw[bh (by omega),bh cB]
  have ku:a1 w.heap.size=.tok t []:=by simp[a1]
  have lf:∀c p q,c<w.heap.size->ω c=.tok t (p::q)->a1 c=.tok t (p::q):=by
   intro c p q ai aE;rw[(c8 c ai (by rw[aE];simp)).1,aE,vx h7]
  refine⟨a1,aV.ec _ (Fm hN h7 c8 ?_ ?_) (aV.below.next ke) ?_ ?_ ?_ (Gd _),?_,by simp[Tag.dT,fV]⟩
  ·intro id b ar;have bz:=aV.owned.lt (b:=b) (by simp[ar]);rw[(c8 b bz (by rw[ar];simp)).1,ar];rfl
  ·intro cr fY dX _;refine dX.frame fun c q ai aE=>⟨?_,ke.block c ai⟩
   simp only[Tag.R]at aE ⊢;cases q with
   | nil=>left;simp only[a1];rw[bh (by omega),br aE]
   | cons p q=>right;exact⟨_,lf c p q ai aE⟩
  ·intro b ar;by_cases sO:b=w.heap.size
   ·subst sO;exact⟨.inl aV.below.size,b7,e,fN⟩
   have:ω b≠.bB:=by
    intro e';simp only[a1]at ar;rw[bh sO,e']at ar;simp[iP]at ar
   obtain⟨aw,h3,ih,aH⟩:=aV.owned b this;exact⟨aw,h3,ih,(ke.block b (aV.owned.lt this)).trans aH⟩
  ·intro id b ar;have bz:=aV.owned.lt (b:=b) (by simp[ar]);obtain⟨h1,U⟩:=c8 b bz (by rw[ar];simp);exact⟨by rw[h1,ar];rfl,U⟩
  ·intro id b ar;by_cases sO:b=w.heap.size
   ·subst sO;rw[ku]at ar;cases ar
   simp only[a1]at ar;rw[bh sO]at ar;split at ar
   ·cases ar
   exact Is.1 ar
  have e3:∀x j d,cY (es++bO) x j=some d->∃u,b7[x*i.size+j]?=some u/\bV w1 a1 (fun q=>(Tag.own t).R ((x,j)::q)) d u:=by
   intro x j d aD;rw[zB]at aD;split at aD
   ·obtain⟨u,h1,R,dM,U⟩:=hold x j d aD;refine⟨u,h1,U.frame fun c q ai aE=>⟨?_,ke.block c ai⟩⟩;exact lf c _ _ ai (dM q _ aE)
   rename_i ag;obtain⟨u,h1,U⟩:=io.MY (aN:=w1) (a1:=a1) (n:=es.length) h7 c8 aD;refine⟨u,?_,?_⟩
   ·rw[<-yP _ u h1]
    congr 1
    have:x=es.length+(x-es.length):=by omega
    rw[this,fu];simp only[Nat.add_sub_cancel_left];omega
   rwa[show es.length+(x-es.length)=x by omega]at U
  have hlen:(es++bO).length=es.length+bO.length:=km;have py:∀e∈es++bO,e.length=i.size:=by
   intro e' he;rcases lB.1 he with h | h
   ·exact sT e' h
   exact io.rows e' h
  have:=bV.row (w:=w1) (ω:=a1) (Tag.own t).R i.size (es++bO) w.heap.size 0 k' b7 e (0,0) (fun x j=>b7.getD (x*i.size+j) undef) fN ku (by omega) (by omega) py
   (fun x j d aD=>by obtain⟨u,h1,_⟩:=e3 x j d aD;rw[dg,h1];simp[d',h1])
   (fun x j d aD=>by obtain⟨u,h1,U⟩:=e3 x j d aD;have:b7.getD (x*i.size+j) undef=u:=(by simp[d',h1]);rw[this];exact U)
  rw[hlen]at this;exact this
 generalize N8:y=Eu at aA;cases aA with
 | nil _ _ a0=>
  subst N8;simp only[bW,dg]at fU fL;have eQ:(Builtin.append_ #[hG,hG] ty #[.slice a0 0 0,.slice (some ⟨ba,ly,none⟩) bO.length jO]).run P w=
    .ok (.slice (some ⟨w.heap.size,0,none⟩) bO.length (grownCap w bO.length 0 e)) (w.drew.alloc (.cells (news.toArray++Builtin.zeroCells z.cells (grownCap w bO.length 0 e-bO.length)) e)):=by
   cases a0 with
   | none=>exact run_append_nil (P:=P) w hG ty e i z bQ hi bf ⟨ba,ly,none⟩ bO.length jO news io.len ps uN (by omega) (by omega)
   | some cg=>
    have:=run_append_grow (P:=P) w hG ty e i z bQ hi bf cg 0 0 [] (by simp) (fun j v bt=>by simp at bt) ⟨ba,ly,none⟩ bO.length jO news io.len ps (by omega) (by omega) (growslice_fits (by omega) (by simpa using fU));simpa using this
  have lN:=grownCap_ge w bO.length 0 e;obtain⟨a1,h1,U⟩:=grown _ (news.toArray++Builtin.zeroCells z.cells (grownCap w bO.length 0 e-bO.length)) (.slice (some ⟨w.heap.size,0,none⟩) bO.length (grownCap w bO.length 0 e)) (grownCap w bO.length 0 e)
   (((gk.refl _ _).drew).alloc (fk _) _) (mC _ _) (by simp) (by simpa using lN) (by
    simp only[p8,kG,size_zeroCells,io.len,ou,<-fu];exact gR _ (by omega))
   (fun fm j d aD=>by simp[cY]at aD) (fun x u ag=>by
    simp only[bW,Nat.zero_mul,dg];rw[ht,br (by have:=(eh.1 ag).1;simpa using this)];simpa using ag) (fun e he=>by cases he)
  exact⟨_,_,a1,eQ,h1,U⟩
 | row R k es b off cap arr hf cO us ar dM ai aj gr hu aD=>
  have hM:ω b=.tok t []:=dM;obtain⟨uR,sD,tV,hB⟩:=aV.owned b (by rw[hM];simp);rw[ar]at hB;simp only[aR,Obj.cells.injEq]at hB;obtain⟨rfl,rfl,rfl⟩:=hB;have uF:b<w.heap.size:=(ik.1 ar).1;by_cases px:es.length+bO.length<=cap
  ·-- there is room
   have hmul:(es.length+bO.length)*i.size<=cap*i.size:=gR _ px;rw[fu]at hmul;have NH:=io.len;have dO:off+es.length*i.size+news.length<=arr.size:=by omega
   have eQ:=It (P:=P) (ty:=ty) bQ hi w b off es.length cap arr hf ar ⟨ba,ly,none⟩ bO.length jO news io.len ps io.one px dO;generalize mr:(arr.toList.take (off+es.length*i.size)++news++arr.toList.drop (off+es.length*i.size+news.length)).toArray=b7 at eQ;have hD:∀x:Nat,b7[x]?=if off+es.length*i.size<=x/\x<off+es.length*i.size+news.length then news[x-(off+es.length*i.size)]? else arr[x]?:=by
    intro x;rw[<-mr,l8,zz (by simpa using dO)];simp
   have wM:b7.size=arr.size:=by rw[<-mr];simp;omega
   have jc:=setRow_heap w b arr b7 hf (0,0) ar
   let a1:Own:=fun c=>iP t dK es.length (ω c)
   have c8:∀c,c<w.heap.size->ω c≠.tok t []->a1 c=iP t dK es.length (ω c)/\(w.setRow b b7).heap[c]?=w.heap[c]?:=fun c _ cB=>
    ⟨rfl,setRow_other w b c b7 fun e=>cB (by rw[e];exact hM)⟩
   have ku:a1 b=.tok t []:=by simp only[a1,hM];exact vx h7
   have lf:∀c p q,c<w.heap.size->ω c=.tok t (p::q)->a1 c=.tok t (p::q)/\(w.setRow b b7).heap[c]?=w.heap[c]?:=by
    intro c p q ai aE;obtain⟨h1,U⟩:=c8 c ai (by rw[aE];simp);rw[h1,aE,vx h7];exact⟨rfl,U⟩
   refine⟨_,_,a1,eQ,aV.ec _ (Fm hN h7 c8 (fun id c fM=>by simp[a1,fM,iP]) ?_) ?_ ?_ ?_ ?_ (Gd _),?_,by simp[Tag.dT,fV]⟩
   ·intro cr fY dX uL;rw[uL,e2,N8]at dX ⊢;rw[e1]at dX ⊢;have po:es.length=cr.length:=by
     obtain⟨_,_,h⟩:=dX.len;simp only[Value.slice.injEq]at h;exact h.2.1
    refine bV.T7 dX ar jc wM (fun x ag=>?_) (fun o aZ wK=>?_) (fun c p q ai aE=>?_)
    ·rw[hD,bh (by omega)]
    ·right;exact⟨[],ku⟩
    simp only[Tag.R]at aE ⊢;obtain⟨h1,U⟩:=lf c p q ai aE;exact⟨.inr ⟨_,h1⟩,U⟩
   ·exact aV.below.setRow uR b7
   ·intro c fM;have:ω c≠.bB:=fun e=>by simp[a1,e,iP]at fM
    obtain⟨aw,h3,ih,aH⟩:=aV.owned c this;by_cases pf:c=b
    ·subst pf;exact⟨aw,b7,hf,jc⟩
    exact⟨aw,h3,ih,(setRow_other w b c b7 pf).trans aH⟩
   ·intro id c fM;exact⟨by simp[a1,fM,iP],setRow_other w b c b7 fun e=>by rw[e,hM]at fM;cases fM⟩
   ·intro id c fM;exact Is.1 fM
   have e3:∀x j d,cY (es++bO) x j=some d->∃u,b7[off+x*i.size+j]?=some u/\bV (w.setRow b b7) a1 (fun q=>(Tag.own t).R ((x,j)::q)) d u:=by
    intro x j d dR;rw[zB]at dR;split at dR
    ·rename_i ag;have yH:=(r0 gr dR).2;refine⟨us x j,?_,(aD x j d dR).frame fun c q ai aE=>?_⟩
     ·have:(x+1)*i.size<=es.length*i.size:=gR _ ag;rw[fu]at this;rw[hD,bh (by omega),hu x j d dR]
     exact lf c _ _ ai aE
    rename_i ag;obtain⟨u,h1,U⟩:=io.MY (aN:=w.setRow b b7) (a1:=a1) (n:=es.length) h7 c8 dR;have Yn:=(eh.1 h1).1;have wN:x*i.size=es.length*i.size+(x-es.length)*i.size:=by rw[<-fu];congr 1;omega
    refine⟨u,?_,?_⟩
    ·rw[hD,br (by omega),<-h1]
     congr 1
     omega
    rwa[show es.length+(x-es.length)=x by omega]at U
   have hlen:(es++bO).length=es.length+bO.length:=km;have py:∀e∈es++bO,e.length=i.size:=by
    intro e' he;rcases lB.1 he with h | h
    ·exact gr e' h
    exact io.rows e' h
   have:=bV.row (w:=w.setRow b b7) (ω:=a1) (Tag.own t).R i.size (es++bO) b off cap b7 hf (0,0) (fun x j=>b7.getD (off+x*i.size+j) undef) jc ku (by omega) (by omega) py
    (fun x j d aD=>by obtain⟨u,h1,_⟩:=e3 x j d aD;rw[h1];simp[d',h1])
    (fun x j d aD=>by obtain⟨u,h1,U⟩:=e3 x j d aD;have:b7.getD (off+x*i.size+j) undef=u:=(by simp[d',h1]);rw[this];exact U)
   rw[hlen]at this;exact this
  -- it atX
  have hmul:es.length*i.size<=cap*i.size:=gR _ ai;have lP:((arr.toList.drop off).take (es.length*i.size)).length=es.length*i.size:=by simp;omega
  have eQ:=run_append_grow (P:=P) w hG ty e i z bQ hi bf ⟨b,off,none⟩ es.length cap ((arr.toList.drop off).take (es.length*i.size)) lP (fun j v bt=>by
   rw[pL,cell_of_row w b (off+j) arr hf (0,0) ar];rw[hh]at bt;split at bt
   ·rw[gQ]at bt;simpa using bt
   cases bt) ⟨ba,ly,none⟩ bO.length jO news io.len ps (by omega) (by omega) (growslice_fits (by omega) fU)
  have lN:=grownCap_ge w (es.length+bO.length) cap e;obtain⟨a1,h1,U⟩:=grown _ (((arr.toList.drop off).take (es.length*i.size)).toArray++news.toArray++Builtin.zeroCells z.cells (grownCap w (es.length+bO.length) cap e-(es.length+bO.length))) _ (grownCap w (es.length+bO.length) cap e)
   (((gk.refl _ _).drew).alloc (fk _) _) (mC _ _) rfl lN (by
    simp only[p8,kG,size_zeroCells,io.len,ou,lP,<-fu];exact gR _ (by omega))
   (fun fm j d dJ=>by
    obtain⟨wG,ee⟩:=r0 gr dJ;have:(fm+1)*i.size<=es.length*i.size:=gR _ wG;rw[fu]at this;refine⟨us fm j,?_,fun q=>(Tag.own t).R ((fm,j)::q),fun q o h=>h,aD fm j d dJ⟩;rw[ht,br (by simp only[p8,kG,lP];omega),ht,br (by simp only[kG,lP];omega)];rw[l8,hh,br (by omega),gQ,<-hu fm j d dJ];simp only[iC]
    congr 1
    omega)
   (fun x u ag=>by
    have fP:=(eh.1 ag).1;rw[ht,br (by simp only[p8,kG,lP];omega),ht,bh (by simp only[kG,lP];omega)];simp only[kG,lP,l8];rw[<-ag]
    congr 1
    omega) gr
  exact⟨_,_,a1,eQ,h1,U⟩
end Go.Sx
namespace Go.Sx
open Go.RowKit
def Flat(es:List (List D)):Prop:=∀e∈es,∀d∈e,∃x,d=.v x
theorem akn{es:List (List D)}{i j:Nat}{d:D}(h:cY es i j=some d):∃e∈es,d∈e:=by
 unfold cY at h;cases ag:es[i]? with
 | none=>simp[ag]at h
 | some e=>rw[ag,l9]at h;exact⟨e,fl ag,fl h⟩
variable{P:Program}{w:World}{ω:Own}{k:Nat}{dK:Option Nat}
theorem Src.empty(a:Option Addr):Src P w ω k [] dK (.slice a 0 0) [] where
 len:=by simp
 rows:=fun _ h=>nomatch h
 one:=fun _ h=>nomatch h
 cell:=fun i j d aD=>by simp[cY]at aD
 shape:=.inl ⟨⟨a,rfl⟩,rfl⟩
theorem Src.of{R:List (Nat×Nat)->cV->Prop}{bO:List (List D)}{y:Value}(h:bV w ω R (.J k bO) y)(lc:0<k)
  (ai:Flat bO\/∃s,dK=some s/\R=(Tag.own s).R):∃news,Src P w ω k bO dK y news:=by
 cases h with
 | nil=>exact⟨[],Src.empty _⟩
 | row R k es b off cap arr ty cO us ar dM fE aj gr hu aD=>
  have hmul:bO.length*k<=cap*k:=gR _ fE;have hD:∀x:Nat,((arr.toList.drop off).take (bO.length*k))[x]?=if x<bO.length*k then arr[off+x]? else none:=by
   intro x;rw[hh];split
   ·rw[gQ];simp
   rfl
  have e3:∀i j d,cY bO i j=some d->((arr.toList.drop off).take (bO.length*k))[i*k+j]?=some (us i j):=by
   intro i j d dJ;obtain⟨hi,a6⟩:=r0 gr dJ;have:(i+1)*k<=bO.length*k:=gR _ hi;rw[fu]at this;rw[hD,br (by omega),<-hu i j d dJ,v8]
  refine⟨(arr.toList.drop off).take (bO.length*k),by simp;omega,gr,?_,?_,.inr ⟨b,off,cap,rfl,?_⟩⟩
  ·intro u je;obtain⟨x,ag⟩:=oT.1 je;have bz:x<bO.length*k:=by
    have:=(eh.1 ag).1;simp at this;omega
   have wN:x=(x / k)*k+x % k:=by rw[Nat.mul_comm];exact (Nat.div_add_mod x k).symm
   have aE:x / k<bO.length:=Nat.div_lt_of_lt_mul (by rw[Nat.mul_comm];exact bz);obtain⟨d,dJ⟩:=Pu gr aE (Nat.mod_lt x lc);have h1:=e3 _ _ _ dJ;rw[<-wN,ag]at h1;rw[eN h1];exact (aD _ _ _ dJ).oB
  ·intro i j d dJ;refine⟨us i j,e3 i j d dJ,?_⟩;rcases ai with bT | ⟨s,my,sU⟩
   ·obtain⟨e,he,W2⟩:=akn dJ;obtain⟨x,rfl⟩:=bT e he d W2;have:=aD i j _ dJ;cases aw:us i j<;>(rw[aw]at this;cases this;exact .inl ⟨_,rfl,rfl⟩)
   subst sU;exact .inr ⟨s,my,aD i j d dJ⟩
  intro j v bt;rw[pL,cell_of_row w b (off+j) arr ty cO ar];rw[hD]at bt;split at bt
  ·exact bt
  cases bt
variable{τ:Nat->Nat×Value}
theorem cy.HE{w0:er}{st:aI}{a:Act}(h:cy w0 st a w ω τ)(t k:Nat)(hN:t<c7):
  ∃a1,cy w0 (st.iM t []) a w a1 (fV τ t k (.slice none 0 0))/\Sat w a1 (fV τ t k (.slice none 0 0)) (.J (.own t) k []) (.slice none 0 0):=by
 refine⟨fun b=>oF t [] (ω b),h.ec _ (k7.sat (g:=hP t []) (p:=fun _=>true) ⟨?_,?_,?_,rfl,fun s aj=>by simp only[fV];rw[bh (by omega)]⟩) h.below ?_ ?_ ?_ (fun s aj=>by simp only[fV];rw[bh (by omega)]),.nil _ _ _,by simp[Tag.dT,fV]⟩
 ·intro g ea b q au _ aE;exact⟨Pp au aE,rfl⟩
 ·intro g ea y au bl;cases g with
  | free=>simp only[hP,aR]at au;subst au;exact trivial
  | own s=>
   simp only[hP]at au;split at au
   ·simp only[aR]at au;subst au;exact trivial
   split at au
   ·cases au
   simp only[aR]at au;subst au;simp only[Tag.dT,fV]at bl ⊢;rw[bh ‹_›];exact bl
  | ro s=>
   simp only[hP]at au;split at au
   ·simp only[aR]at au;subst au;exact trivial
   split at au
   ·cases au
   simp only[aR]at au;subst au;exact trivial
 ·intro id b _ ar;exact CH.2 ar
 ·intro b ar;exact h.owned b fun e=>by simp only[e]at ar;exact ar rfl
 ·intro id b ar;exact⟨CH.2 ar,rfl⟩
 intro id b ar;exact CH.1 ar
def ur(t k:Nat)(q:aJ)(ans:List b9):Option (List (List D)×Option Nat×List b9×List Prop):=
 match q.leaf,ans with
 | some (.J (.own s) cp bO),.wr::r=>if cp=k/\s≠t then some (bO,some s,r,[]) else none
 | some (.J _ cp bO),ans=>if cp=k then some (bO,none,ans,[Flat bO]) else none
 | some (.v (.slice none 0 0)),ans=>some ([],none,ans,[])
 | some (.aO _ _ _ cp bO .here),ans=>if cp=k then some (bO,none,ans,[Flat bO]) else none
 | some (.aO _ _ _ cp bO .k8),ans=>if cp=k then some (bO,none,ans,[Flat bO]) else none
 | _,_=>none
theorem Pw{P:Program}{t:Nat}{q:aJ}{y:Value}{ans cd:List b9}{bO:List (List D)}{obs:List Prop}(lc:0<k)
  (aE:cL (Sat w ω τ) q y) (h:ur t k q ans=some (bO,dK,cd,obs)) (aZ:cG obs):dK≠some t/\∃news,Src P w ω k bO dK y news:=by
 unfold ur at h;split at h
 ·rename_i s cp es r e;split at h
  ·rename_i ai;obtain⟨rfl,cB⟩:=ai;simp only[aR,bx]at h;obtain⟨rfl,rfl,_,_⟩:=h;exact⟨by simpa using cB,Src.of (aJ.dB e aE).1 lc (.inr ⟨s,rfl,rfl⟩)⟩
  cases h
 ·rename_i g cp es e _;split at h
  ·rename_i ai;subst ai;simp only[aR,bx]at h;obtain⟨rfl,rfl,_,rfl⟩:=h;exact⟨by simp,Src.of (aJ.dB e aE).1 lc (.inl aZ.1)⟩
  cases h
 ·rename_i e;simp only[aR,bx]at h;obtain⟨rfl,rfl,_,_⟩:=h;have:y=.slice none 0 0:=aJ.dB e aE;subst this;exact⟨by simp,[],Src.empty _⟩
 ·rename_i s AJ AK cp es e;split at h
  ·rename_i ai;subst ai;simp only[aR,bx]at h;obtain⟨rfl,rfl,_,rfl⟩:=h;obtain⟨hX,rfl,aA,_⟩:=aJ.dB e aE;exact⟨by simp,Src.of aA lc (.inl aZ.1)⟩
  cases h
 ·rename_i s AJ AK cp es e;split at h
  ·rename_i ai;subst ai;simp only[aR,bx]at h;obtain⟨rfl,rfl,_,rfl⟩:=h;obtain⟨hX,rfl,aA,_⟩:=aJ.dB e aE;exact⟨by simp,Src.of aA lc (.inl aZ.1)⟩
  cases h
 cases h
def BJ(d:Nat)(st:aI)(k:Nat)(p:aJ):Option (aI×Nat×List (List D)):=
 match p.leaf with
 | some (.J (.own t) cp es)=>if cp=k then some (st,t,es) else none
 | some (.v (.slice none 0 0))=>some (st.iM d [],d,[])
 | _=>none
def xL(P:Program)(st:aI)(d:Nat)(t:TypeId)(x y:Operand)(ans:List b9):Stepped:=
 match pM P t with
 | some (e,k)=>
  match P.info? e,BJ d st k (st.bi x) with
  | some i,some (st1,gJ,es)=>
   match i.zero,ur gJ k (st1.bi y) ans with
   | some z,some (bO,dK,cd,obs)=>
    if z.cells.size=k/\0<k/\gJ<c7 then
     some (⟨(st1.wc gJ dK).env.set d (.one (.J (.own gJ) k (es++bO))),(st1.wc gJ dK).boxes⟩,cd,((es.length+bO.length)*i.bytes<=140737488355328)::(es.length+bO.length<=9223372036854775807)::obs)
    else none
   | _,_=>none
  | _,_=>none
 | none=>none
theorem cy.xL{w0:er}{st bp:aI}{a:Act}{d:Nat}{t ty:TypeId}{x y:Operand}{ans cd:List b9}{obs:List Prop}
  (aV:cy w0 st a w ω τ) (h:Sx.xL P st d t x y ans=some (bp,cd,obs)) (aZ:cG obs):
  ∃z aN,(Builtin.append_ #[t,t] ty #[a.eval x,a.eval y]).run P w=.ok z aN/\Rel w0 bp (a.put (some d) z) aN:=by
 unfold Sx.xL at h;split at h
 ·rename_i e k he;obtain⟨hu,i0,kt,wL⟩:=vv he;split at h
  ·rename_i i st1 gJ es hi jH;rw[kt]at hi;have lO:=eN hi;subst lO;split at h
   ·rename_i z bO dK uq wT bf io;split at h
    ·rename_i ai;simp only[aR,bx]at h;obtain⟨rfl,rfl,rfl⟩:=h;obtain⟨cC,cc,cH⟩:=aZ;have:∃Bv MH,cy w0 st1 a w Bv MH/\Sat w Bv MH (.J (.own gJ) k es) (a.eval x):=by
      unfold BJ at jH;split at jH
      ·rename_i c6 cp cr al;split at jH
       ·rename_i gr;subst gr;simp only[aR,bx]at jH;obtain⟨rfl,rfl,rfl⟩:=jH;exact⟨ω,τ,aV,aJ.dB al (aV.bi x)⟩
       cases jH
      ·rename_i al;simp only[aR,bx]at jH;obtain⟨rfl,rfl,rfl⟩:=jH;have:a.eval x=.slice none 0 0:=aJ.dB al (aV.bi x);rw[this];obtain⟨Bv,h1,U⟩:=aV.HE d k ai.2.2;exact⟨Bv,_,h1,U⟩
      cases jH
     obtain⟨Bv,MH,eI,ag⟩:=this;obtain⟨h7,news,aj⟩:=Pw (P:=P) ai.2.1 (eI.bi y) io cH;obtain⟨r,aN,a1,h1,U,aw⟩:=eI.append (P:=P) (ty:=ty) ag aj h7 hu kt bf wL ai.1 cC cc ai.2.2;exact⟨r,aN,h1,a1,_,U.put (p:=.one (.J (.own gJ) k (es++bO))) aw⟩
    cases h
   cases h
  cases h
 cases h
