import Derived.Test.YtdchjefneblpgaaGreatR1
set_option linter.unusedVariables false
set_option linter.unusedSimpArgs false
namespace Go.Sx
open Go.RowKit
def pX(id:Nat)(eU:List aB):List (Nat×List aB)->List (Nat×List aB)
 | []=>[]
 | (i,ls)::r=>if i=id then (i,eU)::r else (i,ls)::pX id eU r
variable{id:Nat}{eU:List aB}
theorem xl:∀{bs:List (Nat×List aB)} {ls:List aB},dn id bs=some ls->dn id (pX id eU bs)=some eU
 | [],_,h=>by cases h
 | (i,l)::r,ls,h=>by
  simp only[pX];by_cases hi:i=id
  ·rw[br hi];simp[dn,hi]
  rw[bg hi];simp only[dn,bg hi]at h ⊢;exact xl h
theorem w7{gv:Nat}(aT:gv≠id):∀{bs:List (Nat×List aB)},dn gv (pX id eU bs)=dn gv bs
 | []=>rfl
 | (i,l)::r=>by
  simp only[pX];by_cases hi:i=id
  ·rw[br hi];simp only[dn,hi];rw[bg (Ne.symm aT),bg (Ne.symm aT)]
  rw[bg hi];simp only[dn];split
  ·rfl
  exact w7 aT
theorem Tag.V3{t:Tag}{q:List (Nat×Nat)}:¬t.R q (.box id):=by
 cases t with
 | free=>exact fun h=>by cases h
 | own s=>exact fun h=>by cases h
 | ro s=>exact fun h=>by rcases h with h | ⟨_,h⟩<;>cases h
theorem Sat.ar8{w:World}{ω:Own}{τ:Nat->Nat×Value}{b:Nat}(aq:ω b=.box id)(cs:Array Value):∀(l:aB) (v:Value),Sat w ω τ l v->Sat (w.setRow b cs) ω τ l v:=by
 have bh:k4 w ω τ (w.setRow b cs) ω τ qH (fun _=>true):=by
  refine⟨?_,?_,fun _ _ _ h=>h,rfl,fun _ _=>rfl⟩
  ·intro t dc cU q au _ aC;simp only[qH,aQ]at au;subst au;refine⟨aC,setRow_other w b cU cs fun e=>?_⟩;subst e;rw[aq]at aC;exact Tag.V3 aC
  intro t dc y au bn;simp only[qH,aQ]at au;subst au;exact bn
 intro l v ai;have:=bh.sat l v ai;cases l with
 | aO t i j k es m=>
  obtain⟨u,hu,h1,hm⟩:=ai;refine⟨u,hu,h1.frame fun c q ah aC=>⟨aC,setRow_other w b c cs fun e=>?_⟩,fun bB=>?_⟩
  ·subst e;rw[aq]at aC;cases aC
  obtain⟨kT,gf,off,len,cap,arr,ty,cN,U,aV,ax,aK⟩:=hm bB;exact⟨kT,gf,off,len,cap,arr,ty,cN,U,aV,(setRow_other w b gf cs fun e=>by subst e;rw[aq]at aV;cases aV).trans ax,aK⟩
 | e5 t vs=>
  obtain⟨gf,ty,arr,e,aV,ax,aT,bA⟩:=ai;refine⟨gf,ty,arr,e,aV,(setRow_other w b gf cs fun e=>by subst e;rw[aq]at aV;cases aV).trans ax,aT,fun j c ah=>?_⟩;obtain⟨u,h1,U⟩:=bA j c ah;refine⟨u,h1,?_⟩;have ed:=bh.kO c u U;have:eK.ci qH c=c:=by cases c<;>simp[eK.ci,qH]
  rwa[this]at ed
 | _=>simpa[aB.ci,qH]using this
variable{w0:ej}{st:aH}{a:Act}{w:World}{ω:Own}{τ:Nat->Nat×Value}
theorem cw.asg(h:cw w0 st a w ω τ){ls:List aB}(au:dn id st.boxes=some ls)
  {b:Nat} (aq:ω b=.box id) {b6:Array Value} (ai:jP (Sat w ω τ) eU b6):
  cw w0 ⟨st.env,pX id eU st.boxes⟩ a (w.setRow b b6) ω τ:=by
 obtain⟨cU,arr,ty,dA,hu,bB,ey⟩:=h.boxes id ls au;have:=hu b aq;subst this;have GH:=Sat.ar8 (w:=w) (ω:=ω) (τ:=τ) aq b6;have iQ:=setRow_heap w b arr b6 ty (0,0) bB;refine⟨h.defers,h.size,?_,?_,h.fixed,h.pinned,?_,?_⟩
 ·exact h.below.setRow (h.owned b (by simp[aq])).1 b6
 ·intro c ah;obtain⟨h1,h2,ii,U⟩:=h.owned c ah;by_cases e:c=b
  ·subst e;exact⟨h1,b6,ty,iQ⟩
  exact⟨h1,h2,ii,(setRow_other w b c b6 e).trans U⟩
 ·intro i p hp;obtain⟨v,h1,U⟩:=h.env i p hp;refine⟨v,h1,?_⟩;have:=cI.map (f:=_root_.id) GH U;have e:aI.map _root_.id p=p:=by
   cases p with
   | aJ a=>cases a<;>simp[aI.map,bq.map]
   | fE as=>
    simp only[aI.map]
    congr 1
    have:bq.map _root_.id=_root_.id:=by funext a;cases a<;>simp[bq.map]
    rw[this];simp
  rwa[e]at this
 intro i l ak;by_cases e:i=id
 ·subst e;rw[xl au]at ak;have e:=eL ak;subst e;refine⟨b,b6,ty,aq,hu,iQ,?_⟩;have:=ai.map (f:=_root_.id) GH;simpa using this
 rw[w7 e]at ak;obtain⟨c,h2,ii,ah,WW,WR,ow⟩:=h.boxes i l ak;have cC:c≠b:=fun e'=>by subst e';rw[aq]at ah;simp only[cS.box.injEq]at ah;exact e ah.symm
 refine⟨c,h2,ii,ah,WW,(setRow_other w b c b6 cC).trans WR,?_⟩;have:=ow.map (f:=_root_.id) GH;simpa using this
abbrev Stepped:=Option (aH×List b7×List Prop)
def HU(st:aH)(d:Nat)(p:aI)(ans:List b7):Stepped:=
 if d<c3 then p.leaves.map fun ls=>(⟨(st.s' d ls).env.set d (.one (.ptr d 0)),(st.s' d ls).boxes⟩,ans,[]) else none
variable{bp:aH}{ans cd:List b7}{obs:List Prop}
theorem cw.box{P:Program}{d:Nat}{p:aI}{v:Value}(aU:cw w0 st a w ω τ)
  (hp:cI (Sat w ω τ) p v) (h:HU st d p ans=some (bp,cd,obs)) (ty:TypeId):
  ∃z aN,(do pure (.pointer (some (<-newVar ty v))):Sem Value).run P w=.ok z aN/\Rel w0 bp (a.put (some d) z) aN:=by
 unfold HU at h;split at h
 case isFalse=>cases h
 rename_i rL;rw[b0]at h;obtain⟨ls,h1,h⟩:=h;simp only[bu]at h;obtain⟨rfl,_,_⟩:=h;obtain⟨ai,_⟩:=aI.w3 h1 hp;obtain⟨aY,GC,c9⟩:=aU.s' d rL ty ai;refine⟨.pointer (some ⟨w.heap.size,0,none⟩),w.alloc (.cells v.cells ty),by simp[newVar,newRow],aY,τ,?_⟩;exact GC.put (p:=.one (.ptr d 0)) ⟨w.heap.size,c9,rfl⟩
def HV(P:Program)(st:aH)(d:Nat)(elem:TypeId)(ans:List b7):Stepped:=
 match P.info? elem with
 | some i=>match i.zero with
  | some z=>if d<c3 then let ls:=z.cells.toList.map .v;some (⟨(st.s' d ls).env.set d (.one (.ptr d 0)),(st.s' d ls).boxes⟩,ans,[]) else none
  | none=>none
 | none=>none
theorem cw.alloc{P:Program}{d:Nat}{elem:TypeId}(aU:cw w0 st a w ω τ)
  (h:HV P st d elem ans=some (bp,cd,obs)):
  ∃z aN,(Instr.alloc elem true (.tuple #[])).run P w=.ok z aN/\Rel w0 bp (a.put (some d) z) aN:=by
 unfold HV at h;split at h
 ·rename_i i hi;split at h
  ·rename_i z bd;split at h
   case isFalse=>cases h
   rename_i rL;simp only[aQ,bu]at h;obtain⟨rfl,_,_⟩:=h;have ai:jP (Sat w ω τ) (z.cells.toList.map .v) z.cells:=by
    refine⟨by simp,fun j l ak=>?_⟩;rw[dd,b0]at ak;obtain⟨u,hu,rfl⟩:=ak;exact⟨u,by simpa using hu,rfl⟩
   obtain⟨aY,GC,c9⟩:=aU.s' d rL elem ai;refine⟨.pointer (some ⟨w.heap.size,0,none⟩),w.alloc (.cells z.cells elem),by simp[Instr.alloc,zeroValue,typeInfo,hi,bd,newVar,newRow],aY,τ,?_⟩;exact GC.put (p:=.one (.ptr d 0)) ⟨w.heap.size,c9,rfl⟩
  cases h
 cases h
def HW(P:Program)(st:aH)(t:TypeId)(id off:Nat)(q:aI)(ans:List b7):Stepped:=
 match dn id st.boxes,q.leaves,P.info? t with
 | some ls,some xs,some i=>if xs.length=i.size/\off+xs.length<=ls.length then some (⟨st.env,pX id (sL ls off xs) st.boxes⟩,ans,[]) else none
 | _,_,_=>none
theorem zI{α:Type}{xs ys:List α}{off:Nat}(h:off+ys.length<=xs.length)(i:Nat):
  (xs.take off++ys++xs.drop (off+ys.length))[i]?=if off<=i/\i<off+ys.length then ys[i-off]? else xs[i]?:=by
 rw[re,kB,lx,Nat.min_eq_left (by omega)];by_cases h1:i<off
 ·rw[br h1,bg (by omega),j1,br h1]
 rw[bg h1,kB];by_cases U:i-off<ys.length
 ·rw[br U,br (by omega)]
 rw[bg U,bg (by omega),jZ]
 congr 1
 omega
theorem cw.asf{P:Program}{t:TypeId}{off:Nat}{q:aI}{b:Nat}{v:Value}
  (aU:cw w0 st a w ω τ) (aq:ω b=.box id) (aC:cI (Sat w ω τ) q v) (h:HW P st t id off q ans=some (bp,cd,obs)):
  ∃aN,(Instr.storeAt t (.pointer (some ⟨b,off,none⟩)) v).run P w=.ok () aN/\Rel w0 bp a aN:=by
 unfold HW at h;split at h
 ·rename_i ls xs i e1 e2 cc;split at h
  ·rename_i ah;simp only[aQ,bu]at h;obtain⟨rfl,_,_⟩:=h;obtain⟨ai,pH⟩:=aI.w3 e2 aC;obtain⟨cU,arr,ty,dA,hu,bB,ey⟩:=aU.boxes id ls e1;have:=hu b aq;subst this;have eO:=run_storeCells_at P b off ty v.cells.toList 0 arr w bB (by simp;have:=ai.1;have:=ey.1;omega) pH;have fH:jP (Sat w ω τ) (sL ls off xs) (arr.toList.take (off+0)++v.cells.toList++arr.toList.drop (off+0+v.cells.toList.length)).toArray:=by
    have h1:=ai.1;have U:=ey.1;refine⟨?_,fun j l ak=>?_⟩
    ·rw[Ib (by omega)];simp;omega
    rw[Pc (by omega)]at ak;rw[o5,l4,zI (by simp;omega)];simp only[uh];by_cases a':off<=j/\j<off+xs.length
    ·rw[br a']at ak;rw[br (by omega)];obtain⟨u,ax,aK⟩:=ai.2 _ _ ak;exact⟨u,by simpa using ax,aK⟩
    rw[bg a']at ak;rw[bg (by omega)];obtain⟨u,ax,aK⟩:=ey.2 _ _ ak;exact⟨u,by simpa using ax,aK⟩
   refine⟨_,?_,ω,τ,aU.asg e1 aq fH⟩;simp only[Instr.storeAt,Instr.sureAddr,Sem.run_bind,Sem.run_pure,Result.andThen_ok,storeVar,sizeOf,typeInfo,run_program,cc];have ek:¬(v.cells.size≠i.size):=by simp;have:=ai.1;omega
   rw[bg ek];exact eO
  cases h
 cases h
end Go.Sx
namespace Go.Sx
open Go.RowKit
variable{w0:ej}{st:aH}{a:Act}{w:World}{ω:Own}{τ:Nat->Nat×Value}
theorem cw.dS{aN:World}{aY:Own}{cJ:Nat->Nat×Value}(h:cw w0 st a w ω τ)(f:aB->aB)
  (ey:∀l v,Sat w ω τ l v->Sat aN aY cJ (f l) v) (nt:gO w0 aN) (pI:na w0 aN aY)
  (qu:∀id b,ω b=.box id->aY b=.box id/\aN.heap[b]?=w.heap[b]?) (yI:∀id b,aY b=.box id->ω b=.box id) (qx:∀t,c3<=t->cJ t=τ t:=by intros;rfl):cw w0 (st.map f) a aN aY cJ where
 defers:=h.defers
 size:=by simp[aH.map,h.size]
 below:=nt
 owned:=pI
 fixed:=fun t bR=>(qx t bR).trans (h.fixed t bR)
 pinned:=fun id b hi aq=>h.pinned id b hi (yI id b aq)
 env:=by
  intro i q aC;simp only[aH.map]at aC;rw[dd,b0]at aC;obtain⟨gj,bJ,rfl⟩:=aC;obtain⟨v,h1,U⟩:=h.env i gj bJ;exact⟨v,h1,cI.map ey U⟩
 boxes:=by
  intro id ls ak;simp only[aH.map]at ak;rw[r9,b0]at ak;obtain⟨iI,bJ,rfl⟩:=ak;obtain⟨b,arr,ty,aq,hu,bB,ai⟩:=h.boxes id iI bJ;obtain⟨h1,U⟩:=qu id b aq;exact⟨b,arr,ty,h1,fun cU dA=>hu cU (yI id cU dA),U.trans bB,ai.map ey⟩
abbrev hc:=List (Nat×(Nat×Nat))
def hc.at(s:Nat):hc->Option (Nat×Nat)
 | []=>none
 | (i,p)::r=>if i=s then some p else hc.at s r
def hR(t:Nat)(ms:hc):Tag->Option Tag
 | .free=>some .free
 | .own s=>if s=t then some .free else if (ms.at s).isSome then none else some (.own s)
 | .ro s=>if s=t then some .free else if (ms.at s).isSome then none else some (.ro s)
def oT(t:Nat)(ms:hc):cS->cS
 | .tok s q=>if s=t then .bE else match ms.at s with | some p=>.tok t (p::q) | none=>.tok s q
 | o=>o
variable{t:Nat}{ms:hc}
theorem CF{o:cS}{id:Nat}:oT t ms o=.box id<->o=.box id:=by
 cases o with
 | bE=>simp[oT]
 | box i=>simp[oT]
 | tok s q=>
  simp only[oT];split
  ·simp
  ·split<;>simp
theorem Pg{g ea:Tag}{q:List (Nat×Nat)}{o:cS}(h:hR t ms g=some ea)(aD:g.R q o):ea.R q (oT t ms o):=by
 cases g with
 | free=>simp only[hR,aQ]at h;subst h;simp only[Tag.R]at aD ⊢;rw[aD];rfl
 | own s=>
  simp only[Tag.R]at aD;subst aD;simp only[hR]at h;simp only[oT];split at h
  ·simp only[aQ]at h;subst h;rw[br ‹_›];rfl
  split at h
  ·cases h
  rename_i h1 U;simp only[aQ]at h;subst h;rw[bg h1];cases e:ms.at s with
  | none=>rfl
  | some p=>simp[e]at U
 | ro s=>
  simp only[Tag.R]at aD;simp only[hR]at h;split at h
  ·simp only[aQ]at h;subst h;rcases aD with rfl | ⟨di,rfl⟩
   ·rfl
   simp only[oT];rw[br ‹_›];rfl
  split at h
  ·cases h
  rename_i h1 U;simp only[aQ]at h;subst h;rcases aD with rfl | ⟨di,rfl⟩
  ·exact .inl rfl
  refine .inr ⟨di,?_⟩;simp only[oT];rw[bg h1];cases e:ms.at s with
  | none=>rfl
  | some p=>simp[e]at U
def oU(w:World)(ω:Own)(t:Nat)(ms:hc):Own:=fun b=>if b=w.heap.size then .tok t [] else oT t ms (ω b)
def vB(w:World)(τ:Nat->Nat×Value)(t k n c:Nat):Nat->Nat×Value:=fun s=>if s=t then (k,.slice (some ⟨w.heap.size,0,none⟩) n c) else τ s
def aH.iK(st:aH)(t:Nat)(ms:hc):aH:=st.map (aB.ci (hR t ms) fun _=>true)
theorem ajI{w1:World}{k n c:Nat}(hQ:t<c3)(bY:ω w.heap.size=.bE)(bB:∀b,b<w.heap.size->w1.heap[b]?=w.heap[b]?):
  k4 w ω τ w1 (oU w ω t ms) (vB w τ t k n c) (hR t ms) (fun _=>true):=by
 refine⟨?_,?_,?_,rfl,fun s ai=>by simp only[vB];rw[bg (by omega)]⟩
 ·intro g ea b q au aq aC;refine⟨?_,bB b aq⟩;simp only[oU];rw[bg (by omega)];exact Pg au aC
 ·intro g ea y au bn;cases g with
  | free=>simp only[hR,aQ]at au;subst au;exact trivial
  | own s=>
   simp only[hR]at au;split at au
   ·simp only[aQ]at au;subst au;exact trivial
   split at au
   ·cases au
   simp only[aQ]at au;subst au;simp only[Tag.dN,vB]at bn ⊢;rw[bg ‹_›];exact bn
  | ro s=>
   simp only[hR]at au;split at au
   ·simp only[aQ]at au;subst au;exact trivial
   split at au
   ·cases au
   simp only[aQ]at au;subst au;exact trivial
 intro id b _ aq;simp only[oU];by_cases e:b=w.heap.size
 ·subst e;rw[bY]at aq;cases aq
 rw[bg e,aq];rfl
def aB.ih:aB->Option D
 | .v x=>if x.oneCell' then some (.v x) else none
 | .bc c=>some (.v (.bool c))
 | .J (.own _) k es=>some (.J k es)
 | _=>none
def aB.tok:aB->Option Nat
 | .J (.own s) _ _=>some s
 | _=>none
def CG(w:World)(ω:Own)(τ:Nat->Nat×Value)(t:Nat)(ms:hc)(i j:Nat)(d:D)(u:Value):Prop:=
 ∃l:aB,l.ih=some d/\Sat w ω τ l u/\∀s,l.tok=some s->s≠t/\ms.at s=some (i,j)
theorem CG.rep{w1:World}{i j:Nat}{d:D}{u:Value}(h:CG w ω τ t ms i j d u)(bB:∀b,b<w.heap.size->w1.heap[b]?=w.heap[b]?):
  bW w1 (oU w ω t ms) (fun q=>(Tag.own t).R ((i,j)::q)) d u:=by
 obtain⟨l,aE,ai,hm⟩:=h;cases l with
 | cp=>cases aE
 | v x=>
  simp only[aB.ih]at aE;split at aE
  ·simp only[aQ]at aE;subst aE;have:u=x:=ai;subst this;exact .v _ _ ‹_›
  cases aE
 | bc c=>
  simp only[aB.ih,aQ]at aE;subst aE;have:u=.bool c:=ai;subst this;exact .v _ _ rfl
 | J g k es=>
  cases g with
  | free=>cases aE
  | ro s=>cases aE
  | own s=>
   simp only[aB.ih,aQ]at aE;subst aE;obtain⟨cC,qs⟩:=hm s rfl;refine ai.1.frame fun b q aq aC=>⟨?_,bB b aq⟩
   simp only[Tag.R]at aC ⊢;simp only[oU];rw[bg (by omega),aC];simp only[oT];rw[bg cC,qs]
 | ptr id off=>cases aE
 | cX g k es i j=>cases aE
 | hF=>cases aE
 | fd=>cases aE
 | dg=>cases aE
 | gg=>cases aE
 | aO=>cases aE
 | e5=>cases aE
theorem cw.iK{w1:World}(h:cw w0 st a w ω τ)(t:Nat)(hQ:t<c3)(ms:hc){k cap:Nat}{es:List (List D)}{arr:Array Value}{ty:TypeId}
  (aq:gd w.heap.size w w1) (fH:w1.heap[w.heap.size]?=some (.cells arr ty (0,0))) (ah:es.length<=cap) (ek:cap*k<=arr.size) (hk:∀e∈es,e.length=k)
  (eW:∀i j d,cT es i j=some d->∃u,arr[i*k+j]?=some u/\CG w ω τ t ms i j d u):
  cw w0 (st.iK t ms) a w1 (oU w ω t ms) (vB w τ t k es.length cap)/\
  Sat w1 (oU w ω t ms) (vB w τ t k es.length cap) (.J (.own t) k es) (.slice (some ⟨w.heap.size,0,none⟩) es.length cap):=by
 have bY:ω w.heap.size=.bE:=h.owned.fresh (fK _);have hblk:=aq.block;have atD:w.heap.size<w1.heap.size:=(iO.1 fH).1;have kp:oU w ω t ms w.heap.size=.tok t []:=by simp[oU]
 have gu:∀b,b≠w.heap.size->oU w ω t ms b=oT t ms (ω b):=fun b aq=>by simp[oU,aq]
 refine⟨h.dS _ (ajI hQ bY hblk).sat ?_ ?_ ?_ ?_ (fun s ai=>by simp only[vB];rw[bg (by omega)]),?_,?_⟩
 ·exact h.below.next aq
 ·intro b fA;by_cases e:b=w.heap.size
  ·subst e;exact⟨.inl h.below.size,arr,ty,fH⟩
  rw[gu b e]at fA;have U:ω b≠.bE:=fun e'=>by rw[e']at fA;exact fA rfl
  obtain⟨ax,h2,ii,aK⟩:=h.owned b U;exact⟨ax,h2,ii,(hblk b (h.owned.lt U)).trans aK⟩
 ·intro id b fA;have bC:=h.owned.lt (b:=b) (by simp[fA]);rw[gu b (by omega),fA];exact⟨rfl,hblk b bC⟩
 ·intro id b fA;by_cases e:b=w.heap.size
  ·subst e;rw[kp]at fA;cases fA
  rw[gu b e]at fA;exact CF.1 fA
 ·have s7:∀i j d,cT es i j=some d->arr[0+i*k+j]?=some (arr.getD (i*k+j) undef)/\CG w ω τ t ms i j d (arr.getD (i*k+j) undef):=by
   intro i j d aE;obtain⟨u,h1,U⟩:=eW i j d aE;have e:arr.getD (i*k+j) undef=u:=by simp[d',h1]
   rw[e];exact⟨by rw[dx];exact h1,U⟩
  exact .row _ k es w.heap.size 0 cap arr ty (0,0) (fun i j=>arr.getD (i*k+j) undef) fH kp ah (by omega) hk (fun i j d aE=>(s7 i j d aE).1) (fun i j d aE=>(s7 i j d aE).2.rep hblk)
 simp[Tag.dN,vB]
def CH(P:Program)(st:aH)(d:Nat)(t:TypeId)(p q:aI)(ans:List b7):Stepped:=
 match P.underlying t with
 | some (.slice e)=>
  match P.info? e,p.int,q.int with
  | some i,some (_,l),some (_,c)=>
   match i.zero with
   | some z=>
    if i.size=z.cells.size/\0<i.size/\z.cells.all (·.oneCell')=true/\d<c3 then
     some (⟨(st.iK d []).env.set d (.one (.J (.own d) i.size (List.replicate l.toNat (z.cells.toList.map .v)))),(st.iK d []).boxes⟩,ans,[0<=l,l<=c,(i.bytes:Int)*c<=281474976710656,c<=9223372036854775807])
    else none
   | none=>none
  | _,_,_=>none
 | _=>none
theorem Ph(z:Array Value)(n i j:Nat)(hi:i<n)(a':j<z.size):(madeCells z (n*z.size))[i*z.size+j]?=z[j]?:=by
 have bC:i*z.size+j<n*z.size:=by
  have:(i+1)*z.size<=n*z.size:=gK _ hi;rw[fo]at this;omega
 have e:(i*z.size+j) % z.size=j:=by rw[Nat.add_comm,Nat.add_mul_mod_self_right];exact Bw a'
 simp[madeCells,bC,e,getElem!_pos,a']
theorem akv{n:Nat}{e:List D}{i j:Nat}{d:D}(h:cT (List.replicate n e) i j=some d):i<n/\e[j]?=some d:=by
 unfold cT at h;rw[Bu]at h;split at h
 ·exact⟨‹_›,h⟩
 simp at h
theorem cw.make{P:Program}{bp:aH}{d:Nat}{t:TypeId}{p q:aI}{u v:Value}{ans cd:List b7}{obs:List Prop}
  (aU:cw w0 st a w ω τ) (hp:cI (Sat w ω τ) p u) (aC:cI (Sat w ω τ) q v) (h:CH P st d t p q ans=some (bp,cd,obs)) (aX:cE obs):
  ∃z aN,(Instr.makeSlice t u v).run P w=.ok z aN/\Rel w0 bp (a.put (some d) z) aN:=by
 unfold CH at h;split at h
 ·rename_i e hu;split at h
  ·rename_i i cV l cA c hi e1 e2;split at h
   ·rename_i z bd;split at h
    ·rename_i ah;obtain⟨kl,j9,km,rI⟩:=ah;simp only[aQ,bu]at h;obtain⟨rfl,_,rfl⟩:=h;obtain⟨cn,ca,cB,e6,_⟩:=aX;rw[aI.ny e1 hp,aI.ny e2 aC];have fC:=run_make (P:=P) w t e i z hu hi bd cV cA l c cn ca cB e6;have fH:(w.alloc (.cells (madeCells z.cells (c.toNat*i.size)) e)).heap[w.heap.size]?=some (.cells (madeCells z.cells (c.toNat*i.size)) e (0,0)):=qU;have ek:(madeCells z.cells (c.toNat*i.size)).size=c.toNat*i.size:=by simp[madeCells]
     have uQ:=aU.iK d rI [] (k:=i.size) (cap:=c.toNat) (es:=List.replicate l.toNat (z.cells.toList.map .v)) (w1:=w.alloc (.cells (madeCells z.cells (c.toNat*i.size)) e))
      ((gd.refl _ _).alloc (fK _) _) fH (by simp;omega) (by omega) (fun e' he=>by rw[List.eq_of_mem_replicate he];simp[kl]) (fun x j lC aE=>by
       obtain⟨ag,aE⟩:=akv aE;rw[dd,b0]at aE;obtain⟨sC,iU,rfl⟩:=aE;have a':j<z.cells.size:=by
        have:=(eu.1 iU).1;simpa using this
       refine⟨sC,?_,.v sC,?_,rfl,fun s ai=>by cases ai⟩
       ·rw[kl,Ph z.cells c.toNat x j (by omega) a'];simpa using iU
       have:sC.oneCell'=true:=by
        have h1:=Array.all_eq_true'.1 km;exact h1 sC (by simpa using fp iU)
       simp[aB.ih,this])
     simp only[List.length_replicate]at uQ;exact⟨_,_,fC,_,_,uQ.1.put (p:=.one (.J (.own d) i.size (List.replicate l.toNat (z.cells.toList.map .v)))) uQ.2⟩
    cases h
   cases h
  cases h
 cases h
end Go.Sx
namespace Go.Sx
open Go.RowKit
def mG(k:Nat):Nat->List aB->List (List aB)
 | 0,_=>[]
 | n+1,ls=>ls.take k::mG k n (ls.drop k)
theorem HX(k:Nat):∀(n:Nat) (ls:List aB) (i:Nat),(mG k n ls)[i]?=if i<n then some ((ls.drop (i*k)).take k) else none
 | 0,ls,i=>by simp[mG]
 | n+1,ls,0=>by simp[mG]
 | n+1,ls,i+1=>by
  simp only[mG,n1,HX k n];by_cases h:i<n
  ·rw[br h,br (by omega),List.drop_drop]
   congr 3
   rw[fo];omega
  rw[bg h,bg (by omega)]
theorem Pj(k:Nat):∀(n:Nat) (ls:List aB),(mG k n ls).length=n
 | 0,_=>rfl
 | n+1,ls=>by simp[mG,Pj k n]
def ky(i:Nat):Nat->List aB->hc
 | _,[]=>[]
 | j,l::ls=>match l.tok with
  | some s=>(s,(i,j))::ky i (j+1) ls
  | none=>ky i (j+1) ls
def qW:Nat->List (List aB)->hc
 | _,[]=>[]
 | i,e::es=>ky i 0 e++qW (i+1) es
def w8(t:Nat)(ms:hc):Bool:=decide (t<c3)&&ms.all fun x=>x.1≠t&&(match ms.at x.1 with | some p=>p.1==x.2.1&&p.2==x.2.2 | none=>false)
theorem HY(i:Nat):∀(ls:List aB) (j0 j:Nat) (l:aB) (s:Nat),ls[j]?=some l->l.tok=some s->(s,(i,j0+j))∈ky i j0 ls
 | [],_,_,_,_,h,_=>by simp at h
 | eP::ls,j0,0,l,s,h,ai=>by
  simp at h;subst h;simp only[ky,ai];exact gN
 | eP::ls,j0,j+1,l,s,h,ai=>by
  have:=HY i ls (j0+1) j l s (by simpa using h) ai;rw[show j0+1+j=j0+(j+1) by omega]at this;simp only[ky];split
  ·exact ht _ this
  exact this
theorem Pk:∀(es:List (List aB)) (i0 i j:Nat) (e:List aB) (l:aB) (s:Nat),es[i]?=some e->e[j]?=some l->l.tok=some s->(s,(i0+i,j))∈qW i0 es
 | [],_,_,_,_,_,_,h,_,_=>by simp at h
 | bz::es,i0,0,j,e,l,s,h,ak,ai=>by
  simp at h;subst h;simp only[qW];have:=HY i0 bz 0 j l s ak ai;rw[dx]at this;exact hZ _ this
 | bz::es,i0,i+1,j,e,l,s,h,ak,ai=>by
  have:=Pk es (i0+1) i j e l s (by simpa using h) ak ai;rw[show i0+1+i=i0+(i+1) by omega]at this;simp only[qW];exact iz _ this
variable{ms:hc}
theorem akw{t:Nat}(h:w8 t ms=true):t<c3:=by
 unfold w8 at h;rw[cq,cK]at h;exact h.1
theorem akx{t:Nat}(h:w8 t ms=true){s:Nat}{p:Nat×Nat}(hm:(s,p)∈ms):s≠t/\ms.at s=some p:=by
 unfold w8 at h;rw[cq]at h;have:=fv.1 h.2 _ hm;simp only[cq,cK]at this;refine⟨this.1,?_⟩;have U:=this.2;split at U
 ·rename_i pT e;simp only[cq,dY]at U;rw[e]
  congr 1
  exact Prod.ext U.1 U.2
 cases U
def zJ(P:Program)(st:aH)(d:Nat)(t:TypeId)(len:Nat)(parts:List (Nat×Operand))(ans:List b7):Stepped:=
 match P.underlying t with
 | some (.slice e)=>
  match P.info? e with
  | some i=>
   match i.zero with
   | some z=>
    if i.size=z.cells.size/\0<i.size/\len*i.size<=16777216 then
     match qp (fun x=>some (x*i.size,i.size)) ((List.replicate len (z.cells.toList.map aB.v)).flatten) (parts.map fun x=>(x.1,st.bh x.2)) with
     | some r=>
      let ls:=mG i.size len r
      match ls.mapM (fun x=>x.mapM aB.ih) with
      | some es=>if w8 d (qW 0 ls) then
        some (⟨(st.iK d (qW 0 ls)).env.set d (.one (.J (.own d) i.size es)),(st.iK d (qW 0 ls)).boxes⟩,ans,[]) else none
      | none=>none
     | none=>none
    else none
   | none=>none
  | none=>none
 | _=>none
def BN(P:Program)(st:aH)(d:Nat)(t:TypeId)(len:Nat)(parts:List (Nat×Operand)):Option (Nat×List (List D)×hc):=
 match P.underlying t with
 | some (.slice e)=>
  match P.info? e with
  | some i=>
   match i.zero with
   | some z=>
    if i.size=z.cells.size/\0<i.size/\len*i.size<=16777216 then
     match qp (fun x=>some (x*i.size,i.size)) ((List.replicate len (z.cells.toList.map aB.v)).flatten) (parts.map fun x=>(x.1,st.bh x.2)) with
     | some r=>
      match (mG i.size len r).mapM (fun x=>x.mapM aB.ih) with
      | some es=>if w8 d (qW 0 (mG i.size len r)) then some (i.size,es,qW 0 (mG i.size len r)) else none
      | none=>none
     | none=>none
    else none
   | none=>none
  | none=>none
 | _=>none
theorem aky{P:Program}{st:aH}{d:Nat}{t:TypeId}{len:Nat}{parts:List (Nat×Operand)}{k:Nat}{es:List (List D)}(h:BN P st d t len parts=some (k,es,ms))(ans:List b7):
  zJ P st d t len parts ans=some (⟨(st.iK d ms).env.set d (.one (.J (.own d) k es)),(st.iK d ms).boxes⟩,ans,[]):=by
 unfold BN at h;unfold zJ;split at h
 ·rename_i e h1
  try rw[h1]
  split at h
  ·rename_i i U
   try simp only[U]
   split at h
   ·rename_i z ax
    try simp only[ax]
    split at h
    ·rename_i ah
     try rw[br ah]
     split at h
     ·rename_i r aK
      try simp only[aK]
      split at h
      ·rename_i cv aV
       try simp only[aV]
       split at h
       ·rename_i bw;simp only[aQ,bu]at h;obtain⟨rfl,rfl,rfl⟩:=h
        try rw[br bw]
       cases h
      cases h
     cases h
    cases h
   cases h
  cases h
 cases h
theorem mH{α β:Type}{f:α->Option β}:∀{xs:List α} {ys:List β},xs.mapM f=some ys->ys.length=xs.length/\∀(i:Nat) (y:β),ys[i]?=some y->∃x,xs[i]?=some x/\f x=some y
 | [],ys,h=>by simp at h;subst h;exact⟨rfl,fun i y bn=>by simp at bn⟩
 | x::xs,ys,h=>by
  rw[wi]at h;cases e:f x with
  | none=>simp[e]at h
  | some EA=>
   cases e2:xs.mapM f with
   | none=>simp[e,e2]at h
   | some Ff=>
    simp[e,e2]at h;subst h;obtain⟨h1,U⟩:=mH e2;refine⟨by simp[h1],fun i y bn=>?_⟩;cases i with
    | zero=>simp at bn;subst bn;exact⟨x,rfl,e⟩
    | succ i=>exact U i y (by simpa using bn)
theorem Pl{α:Type}(e:List α):∀(n i j:Nat),i<n->j<e.length->((List.replicate n e).flatten)[i*e.length+j]?=e[j]?
 | 0,i,j,hi,_=>by omega
 | n+1,0,j,_,a'=>by
  rw[List.replicate_succ,List.flatten_cons,kB,Nat.zero_mul,dx,br a']
 | n+1,i+1,j,hi,a'=>by
  rw[List.replicate_succ,List.flatten_cons,kB,bg (by rw[fo];omega)];have:=Pl e n i j (by omega) a';rw[<-this]
  congr 1
  rw[fo];omega
theorem cw.buildSlice{P:Program}{w0:ej}{st bp:aH}{a:Act}{w:World}{ω:Own}{τ:Nat->Nat×Value}{d:Nat}{t:TypeId}{len:Nat}{parts:Array (Nat×Operand)}{ans cd:List b7}{obs:List Prop}
  (aU:cw w0 st a w ω τ) (h:zJ P st d t len parts.toList ans=some (bp,cd,obs)):
  ∃z aN,(Instr.buildSlice t len (parts.map fun (i,x)=>(i,a.eval x))).run P w=.ok z aN/\Rel w0 bp (a.put (some d) z) aN:=by
 unfold zJ at h;split at h
 ·rename_i e hu;split at h
  ·rename_i i hi;split at h
   ·rename_i z bd;split at h
    ·rename_i ah;obtain⟨kl,j9,km⟩:=ah;split at h
     ·rename_i r aD;simp only at h;split at h
      ·rename_i es B';split at h
       ·rename_i NC;simp only[aQ,bu]at h;obtain⟨rfl,_,_⟩:=h;have lb:(z.cells.toList.map aB.v).length=i.size:=by simp[kl]
        have att:((List.replicate len (z.cells.toList.map aB.v)).flatten).length=len*i.size:=by simp[kl]
        have Hp:jP (Sat w ω τ) ((List.replicate len (z.cells.toList.map aB.v)).flatten) (madeCells z.cells (len*i.size)):=by
         refine⟨by simp[madeCells,kl],fun x l ak=>?_⟩;have bC:x<len*i.size:=by
          have:=(eu.1 ak).1;omega
         have ag:x=(x / i.size)*i.size+x % i.size:=by rw[Nat.mul_comm];exact (Nat.div_add_mod x i.size).symm
         have aC:x / i.size<len:=Nat.div_lt_of_lt_mul (by rw[Nat.mul_comm];exact bC);have hm:x % i.size<i.size:=Nat.mod_lt _ j9;have h1:=Pl (z.cells.toList.map aB.v) len (x / i.size) (x % i.size) aC (by omega);rw[lb,<-ag,ak]at h1;have U:=h1.symm;rw[dd,b0]at U;obtain⟨u,iU,rfl⟩:=U;refine⟨u,?_,rfl⟩;have ax:=Ph z.cells len (x / i.size) (x % i.size) aC (by omega);rw[<-kl,<-ag]at ax;rw[ax];simpa using iU
        obtain⟨out,Gy,Cg⟩:=Ic (vals:=parts.toList.map fun x=>(x.1,a.eval x.2)) (by simp) (fun j fs p a'=>by
         rw[dd,b0]at a';obtain⟨⟨i2,x⟩,ag,e⟩:=a';simp only[bu]at e;obtain⟨rfl,rfl⟩:=e;exact⟨a.eval x,by simp only[dd,ag,l3],aU.bh x⟩) aD Hp
        obtain⟨qC,da⟩:=mH B';have hlen:es.length=len:=by rw[qC,Pj]
        have WQ:∀x j lC,cT es x j=some lC->∃l,x<len/\j<i.size/\r[x*i.size+j]?=some l/\l.ih=some lC/\∃uM,(mG i.size len r)[x]?=some uM/\uM[j]?=some l:=by
         intro x j lC aE;unfold cT at aE;cases ag:es[x]? with
         | none=>simp[ag]at aE
         | some e'=>
          rw[ag,l1]at aE;obtain⟨uM,h1,U⟩:=da x e' ag;obtain⟨ax,aK⟩:=mH U;obtain⟨l,aV,bw⟩:=aK j lC aE;have Wz:=h1;rw[HX]at h1;split at h1
          ·simp only[aQ]at h1;subst h1;have WA:=aV;rw[j1]at aV;split at aV
           ·rw[jZ]at aV;exact⟨l,‹_›,‹_›,aV,bw,_,Wz,WA⟩
           cases aV
          cases h1
        have NP:r.length=len*i.size:=by
         have:=Cg.1;have U:out.size=(madeCells z.cells (len*i.size)).size:=by
          have:=Cg.1;have aK:∀(eP:List (Nat×aI)) (iI iv:List aB),qp (fun x=>some (x*i.size,i.size)) iI eP=some iv->iv.length=iI.length:=by
           intro eP;induction eP with
           | nil=>intro iI iv h;simp[qp]at h;rw[h]
           | cons x eP dE=>
            intro iI iv h;obtain⟨k0,ij⟩:=x;simp only[qp]at h;split at h
            ·split at h
             ·rename_i bB;rw[dE _ _ h,Ib (by omega)]
             cases h
            cases h
          have:=aK _ _ _ aD;simp[madeCells];omega
         simp[madeCells]at U;omega
        have fH:(w.alloc (.cells out e)).heap[w.heap.size]?=some (.cells out e (0,0)):=qU;have uQ:=aU.iK d (akw NC) (qW 0 (mG i.size len r)) (k:=i.size) (cap:=len) (es:=es) (w1:=w.alloc (.cells out e))
         ((gd.refl _ _).alloc (fK _) _) fH (by omega) (by rw[Cg.1,NP];exact fK _)
         (fun e' he=>by
          obtain⟨x,ag⟩:=o7.1 he;obtain⟨uM,h1,U⟩:=da x e' ag;obtain⟨ax,_⟩:=mH U;rw[ax];rw[HX]at h1;split at h1
          ·simp only[aQ]at h1;subst h1;have:(x+1)*i.size<=len*i.size:=gK _ (by omega);rw[fo]at this;simp;omega
          cases h1)
         (fun x j lC aE=>by
          obtain⟨l,h1,U,ax,aK,uM,aV,bw⟩:=WQ x j lC aE;obtain⟨u,bX,c8⟩:=Cg.2 _ _ ax;refine⟨u,bX,l,aK,c8,fun s ai=>?_⟩;have:=Pk (mG i.size len r) 0 x j uM l s aV bw ai;rw[dx]at this;exact akx NC this)
        rw[hlen]at uQ;refine⟨_,_,?_,_,_,uQ.1.put (p:=.one (.J (.own d) i.size es)) uQ.2⟩;have oC:((Array.range (len*i.size)).map (fun x=>(if len*i.size=0 then (#[]:Array Value) else z.cells)[x % (if len*i.size=0 then (#[]:Array Value) else z.cells).size]!))=madeCells z.cells (len*i.size):=by
         unfold madeCells;by_cases bJ:len*i.size=0
         ·simp[bJ]
         simp[bJ]
        have e:(Array.map (fun (x:Nat×Operand)=>(x.1,a.eval x.2)) parts).toList=parts.toList.map fun x=>(x.1,a.eval x.2):=by simp
        have Xy:¬(len*i.size>2 ^ 24):=by have:(2:Nat) ^ 24=16777216:=(by decide);omega
        simp only[Instr.buildSlice,Sem.run_bind,run_underlying hu,Result.andThen_ok,sizeOf,typeInfo,run_program,hi,Sem.run_pure];rw[bg Xy];by_cases bJ:len*i.size=0
        ·simp only[bJ,gL]at oC ⊢;simp only[Sem.run_pure,Sem.run_bind,Result.andThen_ok,e];rw[bJ]at Gy;rw[oC,Gy];simp[newRow]
        simp only[bJ,mY]at oC ⊢;simp only[zeroValue,typeInfo,Sem.run_bind,run_program,Result.andThen_ok,hi,bd,Sem.run_pure,e];rw[oC,Gy];simp[newRow]
       cases h
      cases h
     cases h
    cases h
   cases h
  cases h
 cases h
end Go.Sx
namespace Go.Sx
open Go.RowKit
variable{w:World}{ω aY:Own}{k n:Nat}{es:List (List D)}
theorem bW.Uh{aN:World}{R h0:List (Nat×Nat)->cS->Prop}{b off cap:Nat}(h:bW w ω R (.J k es) (.slice (some ⟨b,off,none⟩) n cap))
  {arr b6:Array Value} {ty:TypeId} {cN:Nat×Nat} (aq:w.heap[b]?=some (.cells arr ty cN)) (dA:aN.heap[b]?=some (.cells b6 ty cN)) (ek:b6.size=arr.size)
  (WG:∀x,x<off+n*k->b6[x]?=arr[x]?) (B4:∀o,o=ω b->R [] o->h0 [] (aY b)) (k':∀c p q,c<w.heap.size->R (p::q) (ω c)->h0 (p::q) (aY c)/\aN.heap[c]?=w.heap[c]?):
  bW aN aY h0 (.J k es) (.slice (some ⟨b,off,none⟩) n cap):=by
 generalize bn:Value.slice (some ⟨b,off,none⟩) n cap=y at h;cases h with
 | nil=>cases bn;exact .nil _ _ _
 | row R k es gf pQ pg h2 ii FI us fM dI ah ai hk hu aE=>
  simp only[Value.slice.injEq,aQ,Addr.mk.injEq]at bn;obtain⟨⟨rfl,rfl,_⟩,rfl,rfl⟩:=bn;rw[aq]at fM;simp only[aQ,Obj.cells.injEq]at fM;obtain⟨rfl,rfl,rfl⟩:=fM;refine .row h0 k es b off cap b6 ty cN us dA (B4 _ rfl dI) ah (by omega) hk (fun i j d dD=>?_) (fun i j d dD=>(aE i j d dD).frame fun c q py aC=>k' c _ _ py aC);rw[WG,hu i j d dD];have qA:i<es.length/\j<k:=by
   unfold cT at dD;cases ag:es[i]? with
   | none=>simp[ag]at dD
   | some e=>
    rw[ag,l1]at dD;have h1:=(eu.1 ag).1;have U:=(eu.1 dD).1;rw[hk e (fp ag)]at U;exact⟨h1,U⟩
  have:(i+1)*k<=es.length*k:=gK _ qA.1;rw[fo]at this;omega
variable{i j:Nat}
theorem r'{d:D}(hk:∀e∈es,e.length=k)(h:cT es i j=some d):i<es.length/\j<k:=by
 unfold cT at h;cases ag:es[i]? with
 | none=>simp[ag]at h
 | some e=>
  rw[ag,l1]at h;have h1:=(eu.1 ag).1;have U:=(eu.1 h).1;rw[hk e (fp ag)]at U;exact⟨h1,U⟩
variable{bN:List (List D)}
theorem zK:cT (es++bN) i j=if i<es.length then cT es i j else cT bN (i-es.length) j:=by
 unfold cT;rw[kB];split<;>rfl
theorem Pm(hk:∀e∈es,e.length=k)(hi:i<es.length)(a':j<k):∃d,cT es i j=some d:=by
 have h1:es[i].length=k:=hk _ (x9 hi);exact⟨es[i][j],by simp[cT,hi,h1,a']⟩
def iL(t:Nat)(dF:Option Nat)(n:Nat):cS->cS
 | .tok s q=>if dF=some s then (match q with | []=>.bE | p::di=>.tok t ((n+p.1,p.2)::di)) else .tok s q
 | o=>o
def hz(t:Nat)(dF:Option Nat):Tag->Option Tag
 | .free=>some .free
 | .own s=>if s=t then some (.ro t) else if dF=some s then none else some (.own s)
 | .ro s=>if s=t then none else if dF=some s then none else some (.ro s)
structure Src (P:Program) (w:World) (ω:Own) (k:Nat) (bN:List (List D)) (dF:Option Nat) (y:Value) (news:List Value):Prop where
 len:news.length=bN.length*k
 rows:∀e∈bN,e.length=k
 one:∀u∈news,u.oneCell'=true
 cell:∀i j d,cT bN i j=some d->∃u,news[i*k+j]?=some u/\((∃x,d=.v x/\u=x)\/∃s,dF=some s/\bW w ω (fun q=>(Tag.own s).R ((i,j)::q)) d u)
 shape:((∃a,y=.slice a 0 0)/\bN=[])\/∃b o c,y=.slice (some ⟨b,o,none⟩) bN.length c/\∀j v,news[j]?=some v->w.cell? ((⟨b,o,none⟩:Addr).add j)=some v
variable{t:Nat}{dF:Option Nat}
theorem HZ{o:cS}{id:Nat}:iL t dF n o=.box id<->o=.box id:=by
 cases o with
 | bE=>simp[iL]
 | box i=>simp[iL]
 | tok s q=>
  simp only[iL];split
  ·cases q<;>simp
  simp
theorem vC{s:Nat}{q:List (Nat×Nat)}(h:dF≠some s):iL t dF n (.tok s q)=.tok s q:=by simp[iL,h]
theorem sa{w aN:World}{g ea:Tag}(h5:dF≠some t)(au:hz t dF g=some ea)(cC:g≠.own t)
  (c9:∀c,c<w.heap.size->ω c≠.tok t []->aY c=iL t dF n (ω c)/\aN.heap[c]?=w.heap[c]?):
  ∀c q,c<w.heap.size->g.R q (ω c)->ea.R q (aY c)/\aN.heap[c]?=w.heap[c]?:=by
 intro c q ah aD;cases g with
 | free=>
  simp only[hz,aQ]at au;subst au;simp only[Tag.R]at aD;obtain⟨h1,U⟩:=c9 c ah (by rw[aD];simp);rw[h1,aD];exact⟨rfl,U⟩
 | own s=>
  simp only[hz]at au;have ai:s≠t:=fun e=>cC (by rw[e])
  rw[bg ai]at au;split at au
  ·cases au
  rename_i hm;simp only[aQ]at au;subst au;simp only[Tag.R]at aD;obtain⟨h1,U⟩:=c9 c ah (by rw[aD];simp[ai]);rw[h1,aD,vC hm];exact⟨rfl,U⟩
 | ro s=>
  simp only[hz]at au;split at au
  ·cases au
  rename_i ai;split at au
  ·cases au
  rename_i hm;simp only[aQ]at au;subst au;simp only[Tag.R]at aD;rcases aD with aD | ⟨di,aD⟩
  ·obtain⟨h1,U⟩:=c9 c ah (by rw[aD];simp);rw[h1,aD];exact⟨.inl rfl,U⟩
  obtain⟨h1,U⟩:=c9 c ah (by rw[aD];simp[ai]);rw[h1,aD,vC hm];exact⟨.inr ⟨di,rfl⟩,U⟩
def fP(τ:Nat->Nat×Value)(t k:Nat)(z:Value):Nat->Nat×Value:=fun s=>if s=t then (k,z) else τ s
variable{τ:Nat->Nat×Value}
theorem CI{k:Nat}{z:Value}{g ea:Tag}{y:Nat×Value}(au:hz t dF g=some ea)(bn:g.dN τ y):ea.dN (fP τ t k z) y:=by
 cases g with
 | free=>simp only[hz,aQ]at au;subst au;exact trivial
 | own s=>
  simp only[hz]at au;split at au
  ·simp only[aQ]at au;subst au;exact trivial
  split at au
  ·cases au
  simp only[aQ]at au;subst au;simp only[Tag.dN,fP]at bn ⊢;rw[bg ‹_›];exact bn
 | ro s=>
  simp only[hz]at au;split at au
  ·cases au
  split at au
  ·cases au
  simp only[aQ]at au;subst au;exact trivial
theorem Fs{aN:World}{z:Value}(hQ:t<c3)(h5:dF≠some t)
  (c9:∀c,c<w.heap.size->ω c≠.tok t []->aY c=iL t dF n (ω c)/\aN.heap[c]?=w.heap[c]?)
  (qu:∀id b,ω b=.box id->aY b=.box id)
  (rP:∀es y,bW w ω (Tag.own t).R (.J (τ t).1 es) y->y=(τ t).2->bW aN aY (Tag.ro t).R (.J (τ t).1 es) y):
  ∀l v,Sat w ω τ l v->Sat aN aY (fP τ t k z) (l.ci (hz t dF) fun _=>true) v:=by
 intro l v ai;cases l with
 | cp=>exact trivial
 | v x=>exact ai
 | bc c=>exact ai
 | ptr id off=>
  simp only[aB.ci,gL];obtain⟨b,aq,e⟩:=ai;exact⟨b,qu id b aq,e⟩
 | e5 s vs=>
  simp only[aB.ci];split
  ·rename_i sw au;split
   ·rename_i GK;subst GK;have cC:Tag.own sw≠.own t:=by
     intro e;simp only[Tag.own.injEq]at e;subst e;simp[hz]at au
    obtain⟨b,ty,arr,e,aV,ax,aT,bA⟩:=ai;have bC:b<w.heap.size:=(iO.1 ax).1;have hk:=sa (w:=w) (aN:=aN) h5 au cC c9 b [] bC aV;refine⟨b,ty,arr,e,hk.1,hk.2.trans ax,CJ (fun c u ah=>?_) aT bA⟩;cases c with
    | cp=>exact trivial
    | v x=>exact ah
    | J g cm es=>
     simp only[eK.ci];cases au:hz t dF g with
     | none=>exact trivial
     | some ea=>
      by_cases cC:g=.own t
      ·subst cC;simp only[hz,gL,aQ]at au;subst au;obtain⟨h1,U⟩:=ah;simp only[Tag.dN]at U;have e1:(τ t).1=cm:=by rw[U]
       have e2:(τ t).2=u:=by rw[U]
       exact⟨by rw[<-e1];exact rP es u (by rw[e1];exact h1) e2.symm,aa⟩
      exact⟨ah.1.frame fun c q ah aC=>sa h5 au cC c9 c q ah aC,CI au ah.2⟩
   exact trivial
  exact trivial
 | aO s i j cA es m=>
  simp only[aB.ci];split
  ·rename_i sw au;split
   ·rename_i GK;subst GK;have cC:Tag.own sw≠.own t:=by
     intro e;simp only[Tag.own.injEq]at e;subst e;simp[hz]at au
    obtain⟨u,hu,h1,hm⟩:=ai;refine⟨u,hu,h1.frame fun c q ah aC=>sa h5 au cC c9 c _ ah aC,fun bB=>?_⟩;obtain⟨kT,b,off,len,cap,arr,ty,cN,U,aV,ax,aK⟩:=hm bB;have bC:b<w.heap.size:=(iO.1 ax).1;have hk:=sa (w:=w) (aN:=aN) h5 au cC c9 b [] bC aV;exact⟨kT,b,off,len,cap,arr,ty,cN,CI (k:=k) (z:=z) au U,hk.1,hk.2.trans ax,aK⟩
   exact trivial
  exact trivial
 | gg f ids=>
  simp only[aB.ci];split
  ·obtain⟨bs,e,aT,hi⟩:=ai;refine⟨bs,e,aT,fun i id fB=>?_⟩;obtain⟨b,h1,U⟩:=hi i id fB;exact⟨b,h1,qu id b U⟩
  exact trivial
 | hF ds off=>
  obtain⟨b,e,aD⟩:=ai;exact⟨b,e,aD.frame fun c q ah aC=>sa (g:=.free) (ea:=.free) h5 rfl (by simp) c9 c q ah aC⟩
 | fd d=>exact bW.frame ai fun c q ah aC=>sa (g:=.free) (ea:=.free) h5 rfl (by simp) c9 c q ah aC
 | dg t0 dh dz=>exact⟨bW.frame ai.1 fun c q ah aC=>sa (g:=.free) (ea:=.free) h5 rfl (by simp) c9 c q ah aC,fun bR=>(show fP τ t k z t0=τ t0 by simp only[fP];rw[bg (by omega)]).trans (ai.2 bR)⟩
 | J g cm es=>
  simp only[aB.ci];cases au:hz t dF g with
  | none=>exact trivial
  | some ea=>
   by_cases cC:g=.own t
   ·subst cC;simp only[hz,gL,aQ]at au;subst au;obtain⟨h1,U⟩:=ai;simp only[Tag.dN]at U;have e1:(τ t).1=cm:=by rw[U]
    have e2:(τ t).2=v:=by rw[U]
    exact⟨by rw[<-e1];exact rP es v (by rw[e1];exact h1) e2.symm,aa⟩
   exact⟨ai.1.frame fun c q ah aC=>sa h5 au cC c9 c q ah aC,CI au ai.2⟩
 | cX g cm es i j=>
  simp only[aB.ci];cases au:hz t dF g with
  | none=>exact trivial
  | some ea=>
   obtain⟨b,off,cap,e,hi,aD,bB⟩:=ai;by_cases cC:g=.own t
   ·subst cC;simp only[hz,gL,aQ]at au;subst au;simp only[Tag.dN]at bB;have e1:(τ t).1=cm:=by rw[bB]
    have e2:(τ t).2=Value.slice (some ⟨b,off,none⟩) es.length cap:=by rw[bB]
    exact⟨b,off,cap,e,hi,by rw[<-e1];exact rP es _ (by rw[e1];exact aD) e2.symm,aa⟩
   exact⟨b,off,cap,e,hi,aD.frame fun c q ah aC=>sa h5 au cC c9 c q ah aC,CI au bB⟩
def aH.wm(st:aH)(t:Nat)(dF:Option Nat):aH:=st.map (aB.ci (hz t dF) fun _=>true)
variable{y:Value}
theorem Pn{P:Program}{t ty e:TypeId}{i:TypeInfo}(bR:P.underlying t=some (.slice e))(hi:P.info? e=some i)(w:World){fa:Value}
  (bn:∃a n c,y=.slice a n c/\n<=c) (lL:∃a c,fa=.slice a 0 c):
  (Builtin.append_ #[t,t] ty #[y,fa]).run P w=.ok y w:=by
 obtain⟨a,n,c,rfl,aT⟩:=bn;obtain⟨a2,c2,rfl⟩:=lL;cases a<;>cases a2<;>
  simp[Builtin.append_,run_underlying bR,sizeOf,typeInfo,hi,Builtin.lenOf,Builtin.firstCells,loadCells,loadCellsFrom,storeCells, *]
theorem Po{P:Program}{t ty e:TypeId}{i:TypeInfo}(bR:P.underlying t=some (.slice e))(hi:P.info? e=some i)(w:World)
  (b off n cap:Nat) (arr:Array Value) (gY:TypeId) (au:w.heap[b]?=some (.cells arr gY (0,0)))
  (cj:Addr) (m c:Nat) (news:List Value) (ak:news.length=m*i.size) (pG:∀j u,news[j]?=some u->w.cell? (cj.add j)=some u) (h1:∀u∈news,u.oneCell'=true)
  (u2:n+m<=cap) (ev:off+n*i.size+news.length<=arr.size):
  (Builtin.append_ #[t,t] ty #[.slice (some ⟨b,off,none⟩) n cap,.slice (some cj) m c]).run P w=
   .ok (.slice (some ⟨b,off,none⟩) (n+m) cap) (w.setRow b (arr.toList.take (off+n*i.size)++news++arr.toList.drop (off+n*i.size+news.length)).toArray):=by
 have bY:=run_firstCells_some (P:=P) w i.size m cj m c news ak pG;have eO:=run_storeCells_at P b (off+n*i.size) gY news 0 arr w au (by simpa using ev) h1;simp only[l4]at eO;simp[Builtin.append_,run_underlying bR,sizeOf,typeInfo,hi,Builtin.lenOf,u2,bY,pV,eO]
theorem Src.MU{P:Program}{aN:World}{aY:Own}{n:Nat}{news:List Value}(h:Src P w ω k bN dF y news)(h5:dF≠some t)
  (c9:∀c,c<w.heap.size->ω c≠.tok t []->aY c=iL t dF n (ω c)/\aN.heap[c]?=w.heap[c]?) {i j:Nat} {d:D} (aE:cT bN i j=some d):
  ∃u,news[i*k+j]?=some u/\bW aN aY (fun q=>(Tag.own t).R ((n+i,j)::q)) d u:=by
 obtain⟨u,h1,U⟩:=h.cell i j d aE;refine⟨u,h1,?_⟩;rcases U with⟨x,rfl,rfl⟩ | ⟨s,ai,aD⟩
 ·exact .v _ _ (h.one _ (fp h1))
 refine aD.frame fun c q ah aC=>?_
 simp only[Tag.R]at aC ⊢;have eO:s≠t:=fun e=>h5 (by rw[ai,e])
 obtain⟨ax,aK⟩:=c9 c ah (by rw[aC];simp[eO]);rw[ax,aC];exact⟨by simp[iL,ai],aK⟩
theorem cw.append{P:Program}{w0:ej}{st:aH}{a:Act}(aU:cw w0 st a w ω τ){fa:Value}{news:List Value}
  (hp:Sat w ω τ (.J (.own t) k es) y) (iT:Src P w ω k bN dF fa news) (h5:dF≠some t) {ty hI e:TypeId} {i:TypeInfo} {z:Value}
  (bR:P.underlying hI=some (.slice e)) (hi:P.info? e=some i) (bd:i.zero=some z) (hk:i.size=k) (lM:z.cells.size=k)
  (hg:(es.length+bN.length)*i.bytes<=140737488355328) (fM:es.length+bN.length<=9223372036854775807) (hQ:t<c3):
  ∃r aN aY,(Builtin.append_ #[hI,hI] ty #[y,fa]).run P w=.ok r aN/\cw w0 (st.wm t dF) a aN aY (fP τ t k r)/\Sat aN aY (fP τ t k r) (.J (.own t) k (es++bN)) r:=by
 subst hk;obtain⟨aD,bB⟩:=hp;simp only[Tag.dN]at bB;have e1:(τ t).1=i.size:=by rw[bB]
 have e2:(τ t).2=y:=by rw[bB]
 have Gg:∀r:Value,∀s,c3<=s->fP τ t i.size r s=τ s:=fun r s ai=>by simp only[fP];rw[bg (by omega)]
 have Xi:(Tag.own t).dN (fP τ t i.size y) (i.size,y):=by simp[Tag.dN,fP]
 by_cases hm:bN.length=0
 ·
  have Gf:bN=[]:=ug hm;subst Gf
  let aY:Own:=fun c=>iL t dF es.length (ω c)
  have c9:∀c,c<w.heap.size->ω c≠.tok t []->aY c=iL t dF es.length (ω c)/\w.heap[c]?=w.heap[c]?:=fun c _ _=>⟨rfl,rfl⟩
  have fC:(Builtin.append_ #[hI,hI] ty #[y,fa]).run P w=.ok y w:=by
   refine Pn bR hi w ?_ ?_
   ·cases aD with
    | nil _ _ a0=>exact⟨a0,0,0,rfl,fK _⟩
    | row R k es b off cap arr ty cN us aq dI ah ai hk hu aE=>exact⟨some ⟨b,off,none⟩,_,cap,rfl,ah⟩
   rcases iT.shape with⟨⟨a,h⟩,_⟩ | ⟨b,o,c,h,_⟩
   ·exact⟨a,0,h⟩
   exact⟨some ⟨b,o,none⟩,c,h⟩
  refine⟨y,w,aY,fC,aU.dS _ (Fs hQ h5 c9 (fun id b aq=>by simp[aY,aq,iL]) ?_) aU.below ?_ ?_ ?_ (Gg _),?_,Xi⟩
  ·intro cv e9 dV _;refine dV.frame fun c q ah aC=>⟨?_,rfl⟩
   simp only[Tag.R]at aC ⊢;simp only[aY,aC];exact .inr ⟨q,vC h5⟩
  ·intro b aq;have:ω b≠.bE:=fun e=>by simp[aY,e,iL]at aq
   exact aU.owned b this
  ·intro id b aq;exact⟨by simp[aY,aq,iL],rfl⟩
  ·intro id b aq;exact HZ.1 aq
  rw[lu];refine aD.frame fun c q ah aC=>⟨?_,rfl⟩
  simp only[Tag.R]at aC ⊢;simp only[aY,aC];exact vC h5
 have uW:0<bN.length:=by omega
 rcases iT.shape with⟨_,h⟩ | ⟨bc,jG,mQ,rfl,pG⟩
 ·rw[h]at uW;simp at uW
 have grown:∀(w1:World) (b6:Array Value) (r:Value) (og:Nat),gd w.heap.size w w1->w1.heap[w.heap.size]?=some (.cells b6 e (0,0))->r=.slice (some ⟨w.heap.size,0,none⟩) (es.length+bN.length) og->
   es.length+bN.length<=og->og*i.size<=b6.size->(∀fs j d,cT es fs j=some d->∃u,b6[fs*i.size+j]?=some u/\∃R:List (Nat×Nat)->cS->Prop,(∀q o,R q o->o=.tok t ((fs,j)::q))/\bW w ω R d u)->
   (∀x u,news[x]?=some u->b6[es.length*i.size+x]?=some u)->(∀e∈es,e.length=i.size)->
   ∃aY,cw w0 (st.wm t dF) a w1 aY (fP τ t i.size r)/\Sat w1 aY (fP τ t i.size r) (.J (.own t) i.size (es++bN)) r:=by
  intro w1 b6 r og j8 fH GD hB ek hold yW s4;subst GD
  let aY:Own:=fun c=>if c=w.heap.size then .tok t [] else @ite _ (ω c=.tok t []) (Classical.propDecidable _) .bE (iL t dF es.length (ω c))
  have atu:ω w.heap.size=.bE:=aU.owned.fresh (fK _);have c9:∀c,c<w.heap.size->ω c≠.tok t []->aY c=iL t dF es.length (ω c)/\w1.heap[c]?=w.heap[c]?:=by
   intro c ah cC;refine⟨?_,j8.block c ah⟩;simp only[aY];rw[bg (by omega),bg cC]
  have kp:aY w.heap.size=.tok t []:=by simp[aY]
  have k':∀c p q,c<w.heap.size->ω c=.tok t (p::q)->aY c=.tok t (p::q):=by
   intro c p q ah aC;rw[(c9 c ah (by rw[aC];simp)).1,aC,vC h5]
  refine⟨aY,aU.dS _ (Fs hQ h5 c9 ?_ ?_) (aU.below.next j8) ?_ ?_ ?_ (Gg _),?_,by simp[Tag.dN,fP]⟩
  ·intro id b aq;have bC:=aU.owned.lt (b:=b) (by simp[aq]);rw[(c9 b bC (by rw[aq];simp)).1,aq];rfl
  ·intro cv e9 dV _;refine dV.frame fun c q ah aC=>⟨?_,j8.block c ah⟩
   simp only[Tag.R]at aC ⊢;cases q with
   | nil=>left;simp only[aY];rw[bg (by omega),br aC]
   | cons p q=>right;exact⟨_,k' c p q ah aC⟩
  ·intro b aq;by_cases sV:b=w.heap.size
   ·subst sV;exact⟨.inl aU.below.size,b6,e,fH⟩
   have:ω b≠.bE:=by
    intro e';simp only[aY]at aq;rw[bg sV,e']at aq;simp[iL]at aq
   obtain⟨ax,h2,ii,aK⟩:=aU.owned b this;exact⟨ax,h2,ii,(j8.block b (aU.owned.lt this)).trans aK⟩
  ·intro id b aq;have bC:=aU.owned.lt (b:=b) (by simp[aq]);obtain⟨h1,U⟩:=c9 b bC (by rw[aq];simp);exact⟨by rw[h1,aq];rfl,U⟩
  ·intro id b aq;by_cases sV:b=w.heap.size
   ·subst sV;rw[kp]at aq;cases aq
   simp only[aY]at aq;rw[bg sV]at aq;split at aq
   ·cases aq
   exact HZ.1 aq
  have eW:∀x j d,cT (es++bN) x j=some d->∃u,b6[x*i.size+j]?=some u/\bW w1 aY (fun q=>(Tag.own t).R ((x,j)::q)) d u:=by
   intro x j d aE;rw[zK]at aE;split at aE
   ·obtain⟨u,h1,R,dI,U⟩:=hold x j d aE;refine⟨u,h1,U.frame fun c q ah aC=>⟨?_,j8.block c ah⟩⟩;exact k' c _ _ ah (dI q _ aC)
   rename_i ag;obtain⟨u,h1,U⟩:=iT.MU (aN:=w1) (aY:=aY) (n:=es.length) h5 c9 aE;refine⟨u,?_,?_⟩
   ·rw[<-yW _ u h1]
    congr 1
    have:x=es.length+(x-es.length):=by omega
    rw[this,fo];simp only[Nat.add_sub_cancel_left];omega
   rwa[show es.length+(x-es.length)=x by omega]at U
  have hlen:(es++bN).length=es.length+bN.length:=hs;have pJ:∀e∈es++bN,e.length=i.size:=by
   intro e' he;rcases mW.1 he with h | h
   ·exact s4 e' h
   exact iT.rows e' h
  have:=bW.row (w:=w1) (ω:=aY) (Tag.own t).R i.size (es++bN) w.heap.size 0 og b6 e (0,0) (fun x j=>b6.getD (x*i.size+j) undef) fH kp (by omega) (by omega) pJ
   (fun x j d aE=>by obtain⟨u,h1,_⟩:=eW x j d aE;rw[dx,h1];simp[d',h1])
   (fun x j d aE=>by obtain⟨u,h1,U⟩:=eW x j d aE;have:b6.getD (x*i.size+j) undef=u:=(by simp[d',h1]);rw[this];exact U)
  rw[hlen]at this;exact this
 generalize N3:y=EA at aD;cases aD with
 | nil _ _ a0=>
  subst N3;simp only[b9,dx]at hg fM;have fC:(Builtin.append_ #[hI,hI] ty #[.slice a0 0 0,.slice (some ⟨bc,jG,none⟩) bN.length mQ]).run P w=
    .ok (.slice (some ⟨w.heap.size,0,none⟩) bN.length (grownCap w bN.length 0 e)) (w.drew.alloc (.cells (news.toArray++Builtin.zeroCells z.cells (grownCap w bN.length 0 e-bN.length)) e)):=by
   cases a0 with
   | none=>exact run_append_nil (P:=P) w hI ty e i z bR hi bd ⟨bc,jG,none⟩ bN.length mQ news iT.len pG uW (by omega) (by omega)
   | some b4=>
    have:=run_append_grow (P:=P) w hI ty e i z bR hi bd b4 0 0 [] (by simp) (fun j v bA=>by simp at bA) ⟨bc,jG,none⟩ bN.length mQ news iT.len pG (by omega) (by omega) (growslice_fits (by omega) (by simpa using hg));simpa using this
  have mB:=grownCap_ge w bN.length 0 e;obtain⟨aY,h1,U⟩:=grown _ (news.toArray++Builtin.zeroCells z.cells (grownCap w bN.length 0 e-bN.length)) (.slice (some ⟨w.heap.size,0,none⟩) bN.length (grownCap w bN.length 0 e)) (grownCap w bN.length 0 e)
   (((gd.refl _ _).drew).alloc (fK _) _) (qU) (by simp) (by simpa using mB) (by
    simp only[ue,mU,size_zeroCells,iT.len,lM,<-fo];exact gK _ (by omega))
   (fun fs j d aE=>by simp[cT]at aE) (fun x u ag=>by
    simp only[b9,Nat.zero_mul,dx];rw[jI,br (by have:=(eu.1 ag).1;simpa using this)];simpa using ag) (fun e he=>by cases he)
  exact⟨_,_,aY,fC,h1,U⟩
 | row R k es b off cap arr gY cN us aq dI ah ai gi hu aE=>
  have hP:ω b=.tok t []:=dI;obtain⟨u0,sK,ua,iF⟩:=aU.owned b (by rw[hP];simp);rw[aq]at iF;simp only[aQ,Obj.cells.injEq]at iF;obtain⟨rfl,rfl,rfl⟩:=iF;have uR:b<w.heap.size:=(iO.1 aq).1;by_cases u2:es.length+bN.length<=cap
  ·
   have hmul:(es.length+bN.length)*i.size<=cap*i.size:=gK _ u2;rw[fo]at hmul;have NF:=iT.len;have ev:off+es.length*i.size+news.length<=arr.size:=by omega
   have fC:=Po (P:=P) (ty:=ty) bR hi w b off es.length cap arr gY aq ⟨bc,jG,none⟩ bN.length mQ news iT.len pG iT.one u2 ev;generalize mx:(arr.toList.take (off+es.length*i.size)++news++arr.toList.drop (off+es.length*i.size+news.length)).toArray=b6 at fC;have fW:∀x:Nat,b6[x]?=if off+es.length*i.size<=x/\x<off+es.length*i.size+news.length then news[x-(off+es.length*i.size)]? else arr[x]?:=by
    intro x;rw[<-mx,o5,zI (by simpa using ev)];simp
   have wU:b6.size=arr.size:=by rw[<-mx];simp;omega
   have iQ:=setRow_heap w b arr b6 gY (0,0) aq
   let aY:Own:=fun c=>iL t dF es.length (ω c)
   have c9:∀c,c<w.heap.size->ω c≠.tok t []->aY c=iL t dF es.length (ω c)/\(w.setRow b b6).heap[c]?=w.heap[c]?:=fun c _ cC=>
    ⟨rfl,setRow_other w b c b6 fun e=>cC (by rw[e];exact hP)⟩
   have kp:aY b=.tok t []:=by simp only[aY,hP];exact vC h5
   have k':∀c p q,c<w.heap.size->ω c=.tok t (p::q)->aY c=.tok t (p::q)/\(w.setRow b b6).heap[c]?=w.heap[c]?:=by
    intro c p q ah aC;obtain⟨h1,U⟩:=c9 c ah (by rw[aC];simp);rw[h1,aC,vC h5];exact⟨rfl,U⟩
   refine⟨_,_,aY,fC,aU.dS _ (Fs hQ h5 c9 (fun id c fG=>by simp[aY,fG,iL]) ?_) ?_ ?_ ?_ ?_ (Gg _),?_,by simp[Tag.dN,fP]⟩
   ·intro cv e9 dV uU;rw[uU,e2,N3]at dV ⊢;rw[e1]at dV ⊢;have pE:es.length=cv.length:=by
     obtain⟨_,_,h⟩:=dV.len;simp only[Value.slice.injEq]at h;exact h.2.1
    refine bW.Uh dV aq iQ wU (fun x ag=>?_) (fun o aX wR=>?_) (fun c p q ah aC=>?_)
    ·rw[fW,bg (by omega)]
    ·right;exact⟨[],kp⟩
    simp only[Tag.R]at aC ⊢;obtain⟨h1,U⟩:=k' c p q ah aC;exact⟨.inr ⟨_,h1⟩,U⟩
   ·exact aU.below.setRow u0 b6
   ·intro c fG;have:ω c≠.bE:=fun e=>by simp[aY,e,iL]at fG
    obtain⟨ax,h2,ii,aK⟩:=aU.owned c this;by_cases pw:c=b
    ·subst pw;exact⟨ax,b6,gY,iQ⟩
    exact⟨ax,h2,ii,(setRow_other w b c b6 pw).trans aK⟩
   ·intro id c fG;exact⟨by simp[aY,fG,iL],setRow_other w b c b6 fun e=>by rw[e,hP]at fG;cases fG⟩
   ·intro id c fG;exact HZ.1 fG
   have eW:∀x j d,cT (es++bN) x j=some d->∃u,b6[off+x*i.size+j]?=some u/\bW (w.setRow b b6) aY (fun q=>(Tag.own t).R ((x,j)::q)) d u:=by
    intro x j d dM;rw[zK]at dM;split at dM
    ·rename_i ag;have yP:=(r' gi dM).2;refine⟨us x j,?_,(aE x j d dM).frame fun c q ah aC=>?_⟩
     ·have:(x+1)*i.size<=es.length*i.size:=gK _ ag;rw[fo]at this;rw[fW,bg (by omega),hu x j d dM]
     exact k' c _ _ ah aC
    rename_i ag;obtain⟨u,h1,U⟩:=iT.MU (aN:=w.setRow b b6) (aY:=aY) (n:=es.length) h5 c9 dM;have Yg:=(eu.1 h1).1;have wV:x*i.size=es.length*i.size+(x-es.length)*i.size:=by rw[<-fo];congr 1;omega
    refine⟨u,?_,?_⟩
    ·rw[fW,br (by omega),<-h1]
     congr 1
     omega
    rwa[show es.length+(x-es.length)=x by omega]at U
   have hlen:(es++bN).length=es.length+bN.length:=hs;have pJ:∀e∈es++bN,e.length=i.size:=by
    intro e' he;rcases mW.1 he with h | h
    ·exact gi e' h
    exact iT.rows e' h
   have:=bW.row (w:=w.setRow b b6) (ω:=aY) (Tag.own t).R i.size (es++bN) b off cap b6 gY (0,0) (fun x j=>b6.getD (off+x*i.size+j) undef) iQ kp (by omega) (by omega) pJ
    (fun x j d aE=>by obtain⟨u,h1,_⟩:=eW x j d aE;rw[h1];simp[d',h1])
    (fun x j d aE=>by obtain⟨u,h1,U⟩:=eW x j d aE;have:b6.getD (off+x*i.size+j) undef=u:=(by simp[d',h1]);rw[this];exact U)
   rw[hlen]at this;exact this
  -- it atk
  have hmul:es.length*i.size<=cap*i.size:=gK _ ah;have lI:((arr.toList.drop off).take (es.length*i.size)).length=es.length*i.size:=by simp;omega
  have fC:=run_append_grow (P:=P) w hI ty e i z bR hi bd ⟨b,off,none⟩ es.length cap ((arr.toList.drop off).take (es.length*i.size)) lI (fun j v bA=>by
   rw[pV,cell_of_row w b (off+j) arr gY (0,0) aq];rw[j1]at bA;split at bA
   ·rw[jZ]at bA;simpa using bA
   cases bA) ⟨bc,jG,none⟩ bN.length mQ news iT.len pG (by omega) (by omega) (growslice_fits (by omega) hg)
  have mB:=grownCap_ge w (es.length+bN.length) cap e;obtain⟨aY,h1,U⟩:=grown _ (((arr.toList.drop off).take (es.length*i.size)).toArray++news.toArray++Builtin.zeroCells z.cells (grownCap w (es.length+bN.length) cap e-(es.length+bN.length))) _ (grownCap w (es.length+bN.length) cap e)
   (((gd.refl _ _).drew).alloc (fK _) _) (qU) rfl mB (by
    simp only[ue,mU,size_zeroCells,iT.len,lM,lI,<-fo];exact gK _ (by omega))
   (fun fs j d dD=>by
    obtain⟨wM,ew⟩:=r' gi dD;have:(fs+1)*i.size<=es.length*i.size:=gK _ wM;rw[fo]at this;refine⟨us fs j,?_,fun q=>(Tag.own t).R ((fs,j)::q),fun q o h=>h,aE fs j d dD⟩;rw[jI,br (by simp only[ue,mU,lI];omega),jI,br (by simp only[mU,lI];omega)];rw[o5,j1,br (by omega),jZ,<-hu fs j d dD];simp only[mT]
    congr 1
    omega)
   (fun x u ag=>by
    have oB:=(eu.1 ag).1;rw[jI,br (by simp only[ue,mU,lI];omega),jI,bg (by simp only[mU,lI];omega)];simp only[mU,lI,o5];rw[<-ag]
    congr 1
    omega) gi
  exact⟨_,_,aY,fC,h1,U⟩
end Go.Sx
namespace Go.Sx
open Go.RowKit
def Flat(es:List (List D)):Prop:=∀e∈es,∀d∈e,∃x,d=.v x
theorem akz{es:List (List D)}{i j:Nat}{d:D}(h:cT es i j=some d):∃e∈es,d∈e:=by
 unfold cT at h;cases ag:es[i]? with
 | none=>simp[ag]at h
 | some e=>rw[ag,l1]at h;exact⟨e,fp ag,fp h⟩
variable{P:Program}{w:World}{ω:Own}{k:Nat}{dF:Option Nat}
theorem Src.empty(a:Option Addr):Src P w ω k [] dF (.slice a 0 0) [] where
 len:=by simp
 rows:=fun _ h=>(by cases h)
 one:=fun _ h=>(by cases h)
 cell:=fun i j d aE=>by simp[cT]at aE
 shape:=.inl ⟨⟨a,rfl⟩,rfl⟩
theorem Src.of{R:List (Nat×Nat)->cS->Prop}{bN:List (List D)}{y:Value}(h:bW w ω R (.J k bN) y)(mC:0<k)
  (ah:Flat bN\/∃s,dF=some s/\R=(Tag.own s).R):∃news,Src P w ω k bN dF y news:=by
 cases h with
 | nil=>exact⟨[],Src.empty _⟩
 | row R k es b off cap arr ty cN us aq dI hB ai gi hu aE=>
  have hmul:bN.length*k<=cap*k:=gK _ hB;have fW:∀x:Nat,((arr.toList.drop off).take (bN.length*k))[x]?=if x<bN.length*k then arr[off+x]? else none:=by
   intro x;rw[j1];split
   ·rw[jZ];simp
   rfl
  have eW:∀i j d,cT bN i j=some d->((arr.toList.drop off).take (bN.length*k))[i*k+j]?=some (us i j):=by
   intro i j d dD;obtain⟨hi,a'⟩:=r' gi dD;have:(i+1)*k<=bN.length*k:=gK _ hi;rw[fo]at this;rw[fW,br (by omega),<-hu i j d dD,Bx]
  refine⟨(arr.toList.drop off).take (bN.length*k),by simp;omega,gi,?_,?_,.inr ⟨b,off,cap,rfl,?_⟩⟩
  ·intro u iU;obtain⟨x,ag⟩:=o7.1 iU;have bC:x<bN.length*k:=by
    have:=(eu.1 ag).1;simp at this;omega
   have wV:x=(x / k)*k+x % k:=by rw[Nat.mul_comm];exact (Nat.div_add_mod x k).symm
   have aC:x / k<bN.length:=Nat.div_lt_of_lt_mul (by rw[Nat.mul_comm];exact bC);obtain⟨d,dD⟩:=Pm gi aC (Nat.mod_lt x mC);have h1:=eW _ _ _ dD;rw[<-wV,ag]at h1;rw[eL h1];exact (aE _ _ _ dD).oL
  ·intro i j d dD;refine⟨us i j,eW i j d dD,?_⟩;rcases ah with bY | ⟨s,wT,s5⟩
   ·obtain⟨e,he,W0⟩:=akz dD;obtain⟨x,rfl⟩:=bY e he d W0;have:=aE i j _ dD;cases ax:us i j<;>(rw[ax]at this;cases this;exact .inl ⟨_,rfl,rfl⟩)
   subst s5;exact .inr ⟨s,wT,aE i j d dD⟩
  intro j v bA;rw[pV,cell_of_row w b (off+j) arr ty cN aq];rw[fW]at bA;split at bA
  ·exact bA
  cases bA
variable{τ:Nat->Nat×Value}
theorem cw.HG{w0:ej}{st:aH}{a:Act}(h:cw w0 st a w ω τ)(t k:Nat)(hQ:t<c3):
  ∃aY,cw w0 (st.iK t []) a w aY (fP τ t k (.slice none 0 0))/\Sat w aY (fP τ t k (.slice none 0 0)) (.J (.own t) k []) (.slice none 0 0):=by
 refine⟨fun b=>oT t [] (ω b),h.dS _ (k4.sat (g:=hR t []) (p:=fun _=>true) ⟨?_,?_,?_,rfl,fun s ai=>by simp only[fP];rw[bg (by omega)]⟩) h.below ?_ ?_ ?_ (fun s ai=>by simp only[fP];rw[bg (by omega)]),.nil _ _ _,by simp[Tag.dN,fP]⟩
 ·intro g ea b q au _ aC;exact⟨Pg au aC,rfl⟩
 ·intro g ea y au bn;cases g with
  | free=>simp only[hR,aQ]at au;subst au;exact trivial
  | own s=>
   simp only[hR]at au;split at au
   ·simp only[aQ]at au;subst au;exact trivial
   split at au
   ·cases au
   simp only[aQ]at au;subst au;simp only[Tag.dN,fP]at bn ⊢;rw[bg ‹_›];exact bn
  | ro s=>
   simp only[hR]at au;split at au
   ·simp only[aQ]at au;subst au;exact trivial
   split at au
   ·cases au
   simp only[aQ]at au;subst au;exact trivial
 ·intro id b _ aq;exact CF.2 aq
 ·intro b aq;exact h.owned b fun e=>by simp only[e]at aq;exact aq rfl
 ·intro id b aq;exact⟨CF.2 aq,rfl⟩
 intro id b aq;exact CF.1 aq
def uI(t k:Nat)(q:aI)(ans:List b7):Option (List (List D)×Option Nat×List b7×List Prop):=
 match q.leaf,ans with
 | some (.J (.own s) cm bN),.wr::r=>if cm=k/\s≠t then some (bN,some s,r,[]) else none
 | some (.J _ cm bN),ans=>if cm=k then some (bN,none,ans,[Flat bN]) else none
 | some (.v (.slice none 0 0)),ans=>some ([],none,ans,[])
 | some (.aO _ _ _ cm bN .here),ans=>if cm=k then some (bN,none,ans,[Flat bN]) else none
 | some (.aO _ _ _ cm bN .k7),ans=>if cm=k then some (bN,none,ans,[Flat bN]) else none
 | _,_=>none
theorem Pp{P:Program}{t:Nat}{q:aI}{y:Value}{ans cd:List b7}{bN:List (List D)}{obs:List Prop}(mC:0<k)
  (aC:cI (Sat w ω τ) q y) (h:uI t k q ans=some (bN,dF,cd,obs)) (aX:cE obs):dF≠some t/\∃news,Src P w ω k bN dF y news:=by
 unfold uI at h;split at h
 ·rename_i s cm es r e;split at h
  ·rename_i ah;obtain⟨rfl,cC⟩:=ah;simp only[aQ,bu]at h;obtain⟨rfl,rfl,_,_⟩:=h;exact⟨by simpa using cC,Src.of (aI.dy e aC).1 mC (.inr ⟨s,rfl,rfl⟩)⟩
  cases h
 ·rename_i g cm es e _;split at h
  ·rename_i ah;subst ah;simp only[aQ,bu]at h;obtain⟨rfl,rfl,_,rfl⟩:=h;exact⟨by simp,Src.of (aI.dy e aC).1 mC (.inl aX.1)⟩
  cases h
 ·rename_i e;simp only[aQ,bu]at h;obtain⟨rfl,rfl,_,_⟩:=h;have:y=.slice none 0 0:=aI.dy e aC;subst this;exact⟨by simp,[],Src.empty _⟩
 ·rename_i s AR AS cm es e;split at h
  ·rename_i ah;subst ah;simp only[aQ,bu]at h;obtain⟨rfl,rfl,_,rfl⟩:=h;obtain⟨fR,rfl,aD,_⟩:=aI.dy e aC;exact⟨by simp,Src.of aD mC (.inl aX.1)⟩
  cases h
 ·rename_i s AR AS cm es e;split at h
  ·rename_i ah;subst ah;simp only[aQ,bu]at h;obtain⟨rfl,rfl,_,rfl⟩:=h;obtain⟨fR,rfl,aD,_⟩:=aI.dy e aC;exact⟨by simp,Src.of aD mC (.inl aX.1)⟩
  cases h
 cases h
def BJ(d:Nat)(st:aH)(k:Nat)(p:aI):Option (aH×Nat×List (List D)):=
 match p.leaf with
 | some (.J (.own t) cm es)=>if cm=k then some (st,t,es) else none
 | some (.v (.slice none 0 0))=>some (st.iK d [],d,[])
 | _=>none
def xZ(P:Program)(st:aH)(d:Nat)(t:TypeId)(x y:Operand)(ans:List b7):Stepped:=
 match pW P t with
 | some (e,k)=>
  match P.info? e,BJ d st k (st.bh x) with
  | some i,some (st1,gC,es)=>
   match i.zero,uI gC k (st1.bh y) ans with
   | some z,some (bN,dF,cd,obs)=>
    if z.cells.size=k/\0<k/\gC<c3 then
     some (⟨(st1.wm gC dF).env.set d (.one (.J (.own gC) k (es++bN))),(st1.wm gC dF).boxes⟩,cd,((es.length+bN.length)*i.bytes<=140737488355328)::(es.length+bN.length<=9223372036854775807)::obs)
    else none
   | _,_=>none
  | _,_=>none
 | none=>none
theorem cw.xZ{w0:ej}{st bp:aH}{a:Act}{d:Nat}{t ty:TypeId}{x y:Operand}{ans cd:List b7}{obs:List Prop}
  (aU:cw w0 st a w ω τ) (h:Sx.xZ P st d t x y ans=some (bp,cd,obs)) (aX:cE obs):
  ∃z aN,(Builtin.append_ #[t,t] ty #[a.eval x,a.eval y]).run P w=.ok z aN/\Rel w0 bp (a.put (some d) z) aN:=by
 unfold Sx.xZ at h;split at h
 ·rename_i e k he;obtain⟨hu,i0,rO,wS⟩:=vA he;split at h
  ·rename_i i st1 gC es hi jt;rw[rO]at hi;have lH:=eL hi;subst lH;split at h
   ·rename_i z bN dF uH w4 bd iT;split at h
    ·rename_i ah;simp only[aQ,bu]at h;obtain⟨rfl,rfl,rfl⟩:=h;obtain⟨cn,ca,cB⟩:=aX;have:∃By Mx,cw w0 st1 a w By Mx/\Sat w By Mx (.J (.own gC) k es) (a.eval x):=by
      unfold BJ at jt;split at jt
      ·rename_i dc cm cv ak;split at jt
       ·rename_i gi;subst gi;simp only[aQ,bu]at jt;obtain⟨rfl,rfl,rfl⟩:=jt;exact⟨ω,τ,aU,aI.dy ak (aU.bh x)⟩
       cases jt
      ·rename_i ak;simp only[aQ,bu]at jt;obtain⟨rfl,rfl,rfl⟩:=jt;have:a.eval x=.slice none 0 0:=aI.dy ak (aU.bh x);rw[this];obtain⟨By,h1,U⟩:=aU.HG d k ah.2.2;exact⟨By,_,h1,U⟩
      cases jt
     obtain⟨By,Mx,eH,ag⟩:=this;obtain⟨h5,news,ai⟩:=Pp (P:=P) ah.2.1 (eH.bh y) iT cB;obtain⟨r,aN,aY,h1,U,ax⟩:=eH.append (P:=P) (ty:=ty) ag ai h5 hu rO bd wS ah.1 cn ca ah.2.2;exact⟨r,aN,h1,aY,_,U.put (p:=.one (.J (.own gC) k (es++bN))) ax⟩
    cases h
   cases h
  cases h
 cases h
