import Derived.Test.YtdchjefneblpgaaGreatR1
set_option linter.unusedVariables false
set_option linter.unusedSimpArgs false
namespace Go.Sx
open Go.RowKit
def qs(id:Nat)(e6:List aC):List (Nat×List aC)->List (Nat×List aC)
 | []=>[]
 | (i,ls)::r=>if i=id then (i,e6)::r else (i,ls)::qs id e6 r
variable{id:Nat}{e6:List aC}
theorem yI:∀{bs:List (Nat×List aC)} {ls:List aC},dj id bs=some ls->dj id (qs id e6 bs)=some e6
 | [],_,h=>by cases h
 | (i,l)::r,ls,h=>by
  simp only[qs];by_cases hi:i=id
  ·rw[a6 hi];simp[dj,hi]
  rw[aX hi];simp only[dj,aX hi]at h ⊢;exact yI h
theorem yJ{hb:Nat}(aL:hb≠id):∀{bs:List (Nat×List aC)},dj hb (qs id e6 bs)=dj hb bs
 | []=>rfl
 | (i,l)::r=>by
  simp only[qs];by_cases hi:i=id
  ·rw[a6 hi];simp only[dj,hi];rw[aX (Ne.symm aL),aX (Ne.symm aL)]
  rw[aX hi];simp only[dj];split
  ·rfl
  exact yJ aL
theorem Tag.Wa{t:Tag}{q:List (Nat×Nat)}:¬t.R q (.box id):=by
 cases t with
 | free=>exact fun h=>by cases h
 | own s=>exact fun h=>by cases h
 | ro s=>exact fun h=>by rcases h with h | ⟨_,h⟩<;>cases h
theorem Sat.aqn{w:World}{ω:Own}{τ:Nat->Nat×Value}{b:Nat}(ah:ω b=.box id)(cs:Array Value):∀(l:aC) (v:Value),Sat w ω τ l v->Sat (w.setRow b cs) ω τ l v:=by
 have bk:lQ w ω τ (w.setRow b cs) ω τ rf (fun _=>true):=by
  refine⟨?_,?_,fun _ _ _ h=>h,rfl,fun _ _=>rfl⟩
  ·intro t c4 cT q ao _ av;simp only[rf,aQ]at ao;subst ao;refine⟨av,setRow_other w b cT cs fun e=>?_⟩;subst e;rw[ah]at av;exact Tag.Wa av
  intro t c4 y ao a1;simp only[rf,aQ]at ao;subst ao;exact a1
 intro l v ae;have:=bk.sat l v ae;cases l with
 | aO t i j k es m=>
  obtain⟨u,hu,h1,hm⟩:=ae;refine⟨u,hu,h1.frame fun c q ad av=>⟨av,setRow_other w b c cs fun e=>?_⟩,fun bI=>?_⟩
  ·subst e;rw[ah]at av;cases av
  obtain⟨kT,fH,off,len,cap,arr,ty,cO,U,ba,au,aH⟩:=hm bI;exact⟨kT,fH,off,len,cap,arr,ty,cO,U,ba,(setRow_other w b fH cs fun e=>by subst e;rw[ah]at ba;cases ba).trans au,aH⟩
 | fk t vs=>
  obtain⟨fH,ty,arr,e,ba,au,aL,bj⟩:=ae;refine⟨fH,ty,arr,e,ba,(setRow_other w b fH cs fun e=>by subst e;rw[ah]at ba;cases ba).trans au,aL,fun j c ad=>?_⟩;obtain⟨u,h1,U⟩:=bj j c ad;refine⟨u,h1,?_⟩;have e5:=bk.mP c u U;have:eS.cm rf c=c:=by cases c<;>simp[eS.cm,rf]
  rwa[this]at e5
 | _=>simpa[aC.cm,rf]using this
variable{w0:ev}{st:aE}{a:Act}{w:World}{ω:Own}{τ:Nat->Nat×Value}
theorem cx.aqu(h:cx w0 st a w ω τ){ls:List aC}(ao:dj id st.boxes=some ls)
  {b:Nat} (ah:ω b=.box id) {b3:Array Value} (ae:j7 (Sat w ω τ) e6 b3):
  cx w0 ⟨st.env,qs id e6 st.boxes⟩ a (w.setRow b b3) ω τ:=by
 obtain⟨cT,arr,ty,c7,hu,bI,eB⟩:=h.boxes id ls ao;have:=hu b ah;subst this;have Hk:=Sat.aqn (w:=w) (ω:=ω) (τ:=τ) ah b3;have jy:=setRow_heap w b arr b3 ty (0,0) bI;refine⟨h.defers,h.size,?_,?_,h.fixed,h.pinned,?_,?_⟩
 ·exact h.below.setRow (h.owned b (by simp[ah])).1 b3
 ·intro c ad;obtain⟨h1,hB,hL,U⟩:=h.owned c ad;by_cases e:c=b
  ·subst e;exact⟨h1,b3,ty,jy⟩
  exact⟨h1,hB,hL,(setRow_other w b c b3 e).trans U⟩
 ·intro i p hp;obtain⟨v,h1,U⟩:=h.env i p hp;refine⟨v,h1,?_⟩;have:=cM.map (f:=_root_.id) Hk U;have e:aB.map _root_.id p=p:=by
   cases p with
   | aD a=>cases a<;>simp[aB.map,bd.map]
   | fM as=>
    simp only[aB.map]
    congr 1
    have:bd.map _root_.id=_root_.id:=by funext a;cases a<;>simp[bd.map]
    rw[this];simp
  rwa[e]at this
 intro i l af;by_cases e:i=id
 ·subst e;rw[yI ao]at af;have e:=ei af;subst e;refine⟨b,b3,ty,ah,hu,jy,?_⟩;have:=ae.map (f:=_root_.id) Hk;simpa using this
 rw[yJ e]at af;obtain⟨c,hB,hL,ad,Xj,so,mC⟩:=h.boxes i l af;have b5:c≠b:=fun e'=>by subst e';rw[ah]at ad;simp only[cS.box.injEq]at ad;exact e ad.symm
 refine⟨c,hB,hL,ad,Xj,(setRow_other w b c b3 b5).trans so,?_⟩;have:=mC.map (f:=_root_.id) Hk;simpa using this
abbrev Stepped:=Option (aE×List b4×List Prop)
def Is(st:aE)(d:Nat)(p:aB)(ans:List b4):Stepped:=
 if d<c5 then p.leaves.map fun ls=>(⟨(st.tW d ls).env.set d (.one (.ptr d 0)),(st.tW d ls).boxes⟩,ans,[]) else none
variable{bn:aE}{ans ch:List b4}{obs:List Prop}
theorem cx.box{P:Program}{d:Nat}{p:aB}{v:Value}(aV:cx w0 st a w ω τ)
  (hp:cM (Sat w ω τ) p v) (h:Is st d p ans=some (bn,ch,obs)) (ty:TypeId):
  ∃z aG,(do pure (.pointer (some (<-newVar ty v))):Sem Value).run P w=.ok z aG/\Rel w0 bn (a.put (some d) z) aG:=by
 unfold Is at h;split at h
 case isFalse=>cases h
 rename_i ss;rw[bX]at h;obtain⟨ls,h1,h⟩:=h;simp only[bw]at h;obtain⟨rfl,_,_⟩:=h;obtain⟨ae,_⟩:=aB.xW h1 hp;obtain⟨aY,Hg,cQ⟩:=aV.tW d ss ty ae;refine⟨.pointer (some ⟨w.heap.size,0,none⟩),w.alloc (.cells v.cells ty),by simp[newVar,newRow],aY,τ,?_⟩;exact Hg.put (p:=.one (.ptr d 0)) ⟨w.heap.size,cQ,rfl⟩
def It(P:Program)(st:aE)(d:Nat)(elem:TypeId)(ans:List b4):Stepped:=
 match P.info? elem with
 | some i=>match i.zero with
  | some z=>if d<c5 then let ls:=z.cells.toList.map .v;some (⟨(st.tW d ls).env.set d (.one (.ptr d 0)),(st.tW d ls).boxes⟩,ans,[]) else none
  | none=>none
 | none=>none
theorem cx.alloc{P:Program}{d:Nat}{elem:TypeId}(aV:cx w0 st a w ω τ)
  (h:It P st d elem ans=some (bn,ch,obs)):
  ∃z aG,(Instr.alloc elem true (.tuple #[])).run P w=.ok z aG/\Rel w0 bn (a.put (some d) z) aG:=by
 unfold It at h;split at h
 ·rename_i i hi;split at h
  ·rename_i z aR;split at h
   case isFalse=>cases h
   rename_i ss;simp only[aQ,bw]at h;obtain⟨rfl,_,_⟩:=h;have ae:j7 (Sat w ω τ) (z.cells.toList.map .v) z.cells:=by
    refine⟨by simp,fun j l af=>?_⟩;rw[c9,bX]at af;obtain⟨u,hu,rfl⟩:=af;exact⟨u,by simpa using hu,rfl⟩
   obtain⟨aY,Hg,cQ⟩:=aV.tW d ss elem ae;refine⟨.pointer (some ⟨w.heap.size,0,none⟩),w.alloc (.cells z.cells elem),by simp[Instr.alloc,zeroValue,typeInfo,hi,aR,newVar,newRow],aY,τ,?_⟩;exact Hg.put (p:=.one (.ptr d 0)) ⟨w.heap.size,cQ,rfl⟩
  cases h
 cases h
def Iu(P:Program)(st:aE)(t:TypeId)(id off:Nat)(q:aB)(ans:List b4):Stepped:=
 match dj id st.boxes,q.leaves,P.info? t with
 | some ls,some xs,some i=>if xs.length=i.size/\off+xs.length<=ls.length then some (⟨st.env,qs id (tw ls off xs) st.boxes⟩,ans,[]) else none
 | _,_,_=>none
theorem A'{α:Type}{xs ys:List α}{off:Nat}(h:off+ys.length<=xs.length)(i:Nat):
  (xs.take off++ys++xs.drop (off+ys.length))[i]?=if off<=i/\i<off+ys.length then ys[i-off]? else xs[i]?:=by
 rw[mo,lc,lJ,Nat.min_eq_left (by omega)];by_cases h1:i<off
 ·rw[a6 h1,aX (by omega),gX,a6 h1]
 rw[aX h1,lc];by_cases U:i-off<ys.length
 ·rw[a6 U,a6 (by omega)]
 rw[aX U,aX (by omega),gV]
 congr 1
 omega
theorem cx.aqt{P:Program}{t:TypeId}{off:Nat}{q:aB}{b:Nat}{v:Value}
  (aV:cx w0 st a w ω τ) (ah:ω b=.box id) (av:cM (Sat w ω τ) q v) (h:Iu P st t id off q ans=some (bn,ch,obs)):
  ∃aG,(Instr.storeAt t (.pointer (some ⟨b,off,none⟩)) v).run P w=.ok () aG/\Rel w0 bn a aG:=by
 unfold Iu at h;split at h
 ·rename_i ls xs i e1 e2 b2;split at h
  ·rename_i ad;simp only[aQ,bw]at h;obtain⟨rfl,_,_⟩:=h;obtain⟨ae,lp⟩:=aB.xW e2 av;obtain⟨cT,arr,ty,c7,hu,bI,eB⟩:=aV.boxes id ls e1;have:=hu b ah;subst this;have ew:=run_storeCells_at P b off ty v.cells.toList 0 arr w bI (by simp;have:=ae.1;have:=eB.1;omega) lp;have gh:j7 (Sat w ω τ) (tw ls off xs) (arr.toList.take (off+0)++v.cells.toList++arr.toList.drop (off+0+v.cells.toList.length)).toArray:=by
    have h1:=ae.1;have U:=eB.1;refine⟨?_,fun j l af=>?_⟩
    ·rw[IT (by omega)];simp;omega
    rw[Pm (by omega)]at af;rw[nf,mq,A' (by simp;omega)];simp only[u1];by_cases aM:off<=j/\j<off+xs.length
    ·rw[a6 aM]at af;rw[a6 (by omega)];obtain⟨u,au,aH⟩:=ae.2 _ _ af;exact⟨u,by simpa using au,aH⟩
    rw[aX aM]at af;rw[aX (by omega)];obtain⟨u,au,aH⟩:=eB.2 _ _ af;exact⟨u,by simpa using au,aH⟩
   refine⟨_,?_,ω,τ,aV.aqu e1 ah gh⟩;simp only[Instr.storeAt,Instr.sureAddr,Sem.run_bind,Sem.run_pure,Result.andThen_ok,storeVar,sizeOf,typeInfo,run_program,b2];have di:¬(v.cells.size≠i.size):=by simp;have:=ae.1;omega
   rw[aX di];exact ew
  cases h
 cases h
end Go.Sx
namespace Go.Sx
open Go.RowKit
variable{w0:ev}{st:aE}{a:Act}{w:World}{ω:Own}{τ:Nat->Nat×Value}
theorem cx.cD{aG:World}{aY:Own}{cN:Nat->Nat×Value}(h:cx w0 st a w ω τ)(f:aC->aC)
  (eB:∀l v,Sat w ω τ l v->Sat aG aY cN (f l) v) (oe:gn w0 aG) (p6:n4 w0 aG aY)
  (q0:∀id b,ω b=.box id->aY b=.box id/\aG.heap[b]?=w.heap[b]?) (zE:∀id b,aY b=.box id->ω b=.box id) (q5:∀t,c5<=t->cN t=τ t:=by intros;rfl):cx w0 (st.map f) a aG aY cN where
 defers:=h.defers
 size:=by simp[aE.map,h.size]
 below:=oe
 owned:=p6
 fixed:=fun t bt=>(q5 t bt).trans (h.fixed t bt)
 pinned:=fun id b hi ah=>h.pinned id b hi (zE id b ah)
 env:=by
  intro i q av;simp only[aE.map]at av;rw[c9,bX]at av;obtain⟨ju,bm,rfl⟩:=av;obtain⟨v,h1,U⟩:=h.env i ju bm;exact⟨v,h1,cM.map eB U⟩
 boxes:=by
  intro id ls af;simp only[aE.map]at af;rw[s8,bX]at af;obtain⟨jr,bm,rfl⟩:=af;obtain⟨b,arr,ty,ah,hu,bI,ae⟩:=h.boxes id jr bm;obtain⟨h1,U⟩:=q0 id b ah;exact⟨b,arr,ty,h1,fun cT c7=>hu cT (zE id cT c7),U.trans bI,ae.map eB⟩
abbrev hR:=List (Nat×(Nat×Nat))
def hR.at(s:Nat):hR->Option (Nat×Nat)
 | []=>none
 | (i,p)::r=>if i=s then some p else hR.at s r
def ii(t:Nat)(ms:hR):Tag->Option Tag
 | .free=>some .free
 | .own s=>if s=t then some .free else if (ms.at s).isSome then none else some (.own s)
 | .ro s=>if s=t then some .free else if (ms.at s).isSome then none else some (.ro s)
def pq(t:Nat)(ms:hR):cS->cS
 | .tok s q=>if s=t then .bx else match ms.at s with | some p=>.tok t (p::q) | none=>.tok s q
 | o=>o
variable{t:Nat}{ms:hR}
theorem DM{o:cS}{id:Nat}:pq t ms o=.box id<->o=.box id:=by
 cases o with
 | bx=>simp[pq]
 | box i=>simp[pq]
 | tok s q=>
  simp only[pq];split
  ·simp
  ·split<;>simp
theorem Pq{g ec:Tag}{q:List (Nat×Nat)}{o:cS}(h:ii t ms g=some ec)(ar:g.R q o):ec.R q (pq t ms o):=by
 cases g with
 | free=>simp only[ii,aQ]at h;subst h;simp only[Tag.R]at ar ⊢;rw[ar];rfl
 | own s=>
  simp only[Tag.R]at ar;subst ar;simp only[ii]at h;simp only[pq];split at h
  ·simp only[aQ]at h;subst h;rw[a6 ‹_›];rfl
  split at h
  ·cases h
  rename_i h1 U;simp only[aQ]at h;subst h;rw[aX h1];cases e:ms.at s with
  | none=>rfl
  | some p=>simp[e]at U
 | ro s=>
  simp only[Tag.R]at ar;simp only[ii]at h;split at h
  ·simp only[aQ]at h;subst h;rcases ar with rfl | ⟨dh,rfl⟩
   ·rfl
   simp only[pq];rw[a6 ‹_›];rfl
  split at h
  ·cases h
  rename_i h1 U;simp only[aQ]at h;subst h;rcases ar with rfl | ⟨dh,rfl⟩
  ·exact .inl rfl
  refine .inr ⟨dh,?_⟩;simp only[pq];rw[aX h1];cases e:ms.at s with
  | none=>rfl
  | some p=>simp[e]at U
def pr(w:World)(ω:Own)(t:Nat)(ms:hR):Own:=fun b=>if b=w.heap.size then .tok t [] else pq t ms (ω b)
def wL(w:World)(τ:Nat->Nat×Value)(t k n c:Nat):Nat->Nat×Value:=fun s=>if s=t then (k,.slice (some ⟨w.heap.size,0,none⟩) n c) else τ s
def aE.jt(st:aE)(t:Nat)(ms:hR):aE:=st.map (aC.cm (ii t ms) fun _=>true)
theorem ajS{w1:World}{k n c:Nat}(ih:t<c5)(bl:ω w.heap.size=.bx)(bI:∀b,b<w.heap.size->w1.heap[b]?=w.heap[b]?):
  lQ w ω τ w1 (pr w ω t ms) (wL w τ t k n c) (ii t ms) (fun _=>true):=by
 refine⟨?_,?_,?_,rfl,fun s ae=>by simp only[wL];rw[aX (by omega)]⟩
 ·intro g ec b q ao ah av;refine⟨?_,bI b ah⟩;simp only[pr];rw[aX (by omega)];exact Pq ao av
 ·intro g ec y ao a1;cases g with
  | free=>simp only[ii,aQ]at ao;subst ao;exact trivial
  | own s=>
   simp only[ii]at ao;split at ao
   ·simp only[aQ]at ao;subst ao;exact trivial
   split at ao
   ·cases ao
   simp only[aQ]at ao;subst ao;simp only[Tag.dS,wL]at a1 ⊢;rw[aX ‹_›];exact a1
  | ro s=>
   simp only[ii]at ao;split at ao
   ·simp only[aQ]at ao;subst ao;exact trivial
   split at ao
   ·cases ao
   simp only[aQ]at ao;subst ao;exact trivial
 intro id b _ ah;simp only[pr];by_cases e:b=w.heap.size
 ·subst e;rw[bl]at ah;cases ah
 rw[aX e,ah];rfl
def aC.iR:aC->Option D
 | .v x=>if x.oneCell' then some (.v x) else none
 | .bg c=>some (.v (.bool c))
 | .J (.own _) k es=>some (.J k es)
 | _=>none
def aC.tok:aC->Option Nat
 | .J (.own s) _ _=>some s
 | _=>none
def DN(w:World)(ω:Own)(τ:Nat->Nat×Value)(t:Nat)(ms:hR)(i j:Nat)(d:D)(u:Value):Prop:=
 ∃l:aC,l.iR=some d/\Sat w ω τ l u/\∀s,l.tok=some s->s≠t/\ms.at s=some (i,j)
theorem DN.rep{w1:World}{ω:Own}{i j:Nat}{d:D}{u:Value}(h:DN w ω τ t ms i j d u)(bI:∀b,b<w.heap.size->w1.heap[b]?=w.heap[b]?):
  bR w1 (pr w ω t ms) (fun q=>(Tag.own t).R ((i,j)::q)) d u:=by
 obtain⟨l,ax,ae,hm⟩:=h;cases l with
 | cc=>cases ax
 | v x=>
  simp only[aC.iR]at ax;split at ax
  ·simp only[aQ]at ax;subst ax;have:u=x:=ae;subst this;exact .v _ _ ‹_›
  cases ax
 | bg c=>
  simp only[aC.iR,aQ]at ax;subst ax;have:u=.bool c:=ae;subst this;exact .v _ _ rfl
 | J g k es=>
  cases g with
  | free=>cases ax
  | ro s=>cases ax
  | own s=>
   simp only[aC.iR,aQ]at ax;subst ax;obtain⟨b5,ny⟩:=hm s rfl;refine ae.1.frame fun b q ah av=>⟨?_,bI b ah⟩
   simp only[Tag.R]at av ⊢;simp only[pr];rw[aX (by omega),av];simp only[pq];rw[aX b5,ny]
 | ptr id off=>cases ax
 | ep g k es i j=>cases ax
 | h8=>cases ax
 | fd=>cases ax
 | db=>cases ax
 | gP=>cases ax
 | aO=>cases ax
 | fk=>cases ax
theorem cx.jt{w1:World}(h:cx w0 st a w ω τ)(t:Nat)(ih:t<c5)(ms:hR){k cap:Nat}{es:List (List D)}{arr:Array Value}{ty:TypeId}
  (ah:gA w.heap.size w w1) (gh:w1.heap[w.heap.size]?=some (.cells arr ty (0,0))) (ad:es.length<=cap) (di:cap*k<=arr.size) (hk:∀e∈es,e.length=k)
  (eU:∀i j d,cX es i j=some d->∃u,arr[i*k+j]?=some u/\DN w ω τ t ms i j d u):
  cx w0 (st.jt t ms) a w1 (pr w ω t ms) (wL w τ t k es.length cap)/\
  Sat w1 (pr w ω t ms) (wL w τ t k es.length cap) (.J (.own t) k es) (.slice (some ⟨w.heap.size,0,none⟩) es.length cap):=by
 have bl:ω w.heap.size=.bx:=h.owned.fresh (dm _);have hblk:=ah.block;have arR:w.heap.size<w1.heap.size:=(hA.1 gh).1;have kV:pr w ω t ms w.heap.size=.tok t []:=by simp[pr]
 have ha:∀b,b≠w.heap.size->pr w ω t ms b=pq t ms (ω b):=fun b ah=>by simp[pr,ah]
 refine⟨h.cD _ (ajS ih bl hblk).sat ?_ ?_ ?_ ?_ (fun s ae=>by simp only[wL];rw[aX (by omega)]),?_,?_⟩
 ·exact h.below.next ah
 ·intro b fW;by_cases e:b=w.heap.size
  ·subst e;exact⟨.inl h.below.size,arr,ty,gh⟩
  rw[ha b e]at fW;have U:ω b≠.bx:=fun e'=>by rw[e']at fW;exact fW rfl
  obtain⟨au,hB,hL,aH⟩:=h.owned b U;exact⟨au,hB,hL,(hblk b (h.owned.lt U)).trans aH⟩
 ·intro id b fW;have bq:=h.owned.lt (b:=b) (by simp[fW]);rw[ha b (by omega),fW];exact⟨rfl,hblk b bq⟩
 ·intro id b fW;by_cases e:b=w.heap.size
  ·subst e;rw[kV]at fW;cases fW
  rw[ha b e]at fW;exact DM.1 fW
 ·have tU:∀i j d,cX es i j=some d->arr[0+i*k+j]?=some (arr.getD (i*k+j) undef)/\DN w ω τ t ms i j d (arr.getD (i*k+j) undef):=by
   intro i j d ax;obtain⟨u,h1,U⟩:=eU i j d ax;have e:arr.getD (i*k+j) undef=u:=by simp[ea,h1]
   rw[e];exact⟨by rw[c'];exact h1,U⟩
  exact .row _ k es w.heap.size 0 cap arr ty (0,0) (fun i j=>arr.getD (i*k+j) undef) gh kV ad (by omega) hk (fun i j d ax=>(tU i j d ax).1) (fun i j d ax=>(tU i j d ax).2.rep hblk)
 simp[Tag.dS,wL]
def DO(P:Program)(st:aE)(d:Nat)(t:TypeId)(p q:aB)(ans:List b4):Stepped:=
 match P.underlying t with
 | some (.slice e)=>
  match P.info? e,p.int,q.int with
  | some i,some (_,l),some (_,c)=>
   match i.zero with
   | some z=>
    if i.size=z.cells.size/\0<i.size/\z.cells.all (·.oneCell')=true/\d<c5 then
     some (⟨(st.jt d []).env.set d (.one (.J (.own d) i.size (List.replicate l.toNat (z.cells.toList.map .v)))),(st.jt d []).boxes⟩,ans,[0<=l,l<=c,(i.bytes:Int)*c<=281474976710656,c<=9223372036854775807])
    else none
   | none=>none
  | _,_,_=>none
 | _=>none
theorem Pr(z:Array Value)(n i j:Nat)(hi:i<n)(aM:j<z.size):(madeCells z (n*z.size))[i*z.size+j]?=z[j]?:=by
 have bq:i*z.size+j<n*z.size:=by
  have:(i+1)*z.size<=n*z.size:=gW _ hi;rw[fB]at this;omega
 have e:(i*z.size+j) % z.size=j:=by rw[Nat.add_comm,Nat.add_mul_mod_self_right];exact zi aM
 simp[madeCells,bq,e,getElem!_pos,aM]
theorem ajT{n:Nat}{e:List D}{i j:Nat}{d:D}(h:cX (List.replicate n e) i j=some d):i<n/\e[j]?=some d:=by
 unfold cX at h;rw[zd]at h;split at h
 ·exact⟨‹_›,h⟩
 simp at h
theorem cx.make{P:Program}{bn:aE}{d:Nat}{t:TypeId}{p q:aB}{u v:Value}{ans ch:List b4}{obs:List Prop}
  (aV:cx w0 st a w ω τ) (hp:cM (Sat w ω τ) p u) (av:cM (Sat w ω τ) q v) (h:DO P st d t p q ans=some (bn,ch,obs)) (aN:cB obs):
  ∃z aG,(Instr.makeSlice t u v).run P w=.ok z aG/\Rel w0 bn (a.put (some d) z) aG:=by
 unfold DO at h;split at h
 ·rename_i e hu;split at h
  ·rename_i i cC l b6 c hi e1 e2;split at h
   ·rename_i z aR;split at h
    ·rename_i ad;obtain⟨kQ,kC,kR,sn⟩:=ad;simp only[aQ,bw]at h;obtain⟨rfl,_,rfl⟩:=h;obtain⟨cd,bY,cr,fl,_⟩:=aN;rw[aB.ot e1 hp,aB.ot e2 av];have eZ:=run_make (P:=P) w t e i z hu hi aR cC b6 l c cd bY cr fl;have gh:(w.alloc (.cells (madeCells z.cells (c.toNat*i.size)) e)).heap[w.heap.size]?=some (.cells (madeCells z.cells (c.toNat*i.size)) e (0,0)):=nJ _ _;have di:(madeCells z.cells (c.toNat*i.size)).size=c.toNat*i.size:=by simp[madeCells]
     have vp:=aV.jt d sn [] (k:=i.size) (cap:=c.toNat) (es:=List.replicate l.toNat (z.cells.toList.map .v)) (w1:=w.alloc (.cells (madeCells z.cells (c.toNat*i.size)) e))
      ((gA.refl _ _).alloc (dm _) _) gh (by simp;omega) (by omega) (fun e' he=>by rw[List.eq_of_mem_replicate he];simp[kQ]) (fun x j o4 ax=>by
       obtain⟨aa,ax⟩:=ajT ax;rw[c9,bX]at ax;obtain⟨tk,jD,rfl⟩:=ax;have aM:j<z.cells.size:=by
        have:=(dK.1 jD).1;simpa using this
       refine⟨tk,?_,.v tk,?_,rfl,fun s ae=>by cases ae⟩
       ·rw[kQ,Pr z.cells c.toNat x j (by omega) aM];simpa using jD
       have:tk.oneCell'=true:=by
        have h1:=Array.all_eq_true'.1 kR;exact h1 tk (by simpa using e4 jD)
       simp[aC.iR,this])
     simp only[List.length_replicate]at vp;exact⟨_,_,eZ,_,_,vp.1.put (p:=.one (.J (.own d) i.size (List.replicate l.toNat (z.cells.toList.map .v)))) vp.2⟩
    cases h
   cases h
  cases h
 cases h
end Go.Sx
namespace Go.Sx
open Go.RowKit
def nK(k:Nat):Nat->List aC->List (List aC)
 | 0,_=>[]
 | n+1,ls=>ls.take k::nK k n (ls.drop k)
theorem Iv(k:Nat):∀(n:Nat) (ls:List aC) (i:Nat),(nK k n ls)[i]?=if i<n then some ((ls.drop (i*k)).take k) else none
 | 0,ls,i=>by simp[nK]
 | n+1,ls,0=>by simp[nK]
 | n+1,ls,i+1=>by
  simp only[nK,nY,Iv k n];by_cases h:i<n
  ·rw[a6 h,a6 (by omega),List.drop_drop]
   congr 3
   rw[fB];omega
  rw[aX h,aX (by omega)]
theorem Ps(k:Nat):∀(n:Nat) (ls:List aC),(nK k n ls).length=n
 | 0,_=>rfl
 | n+1,ls=>by simp[nK,Ps k n]
def k3(i:Nat):Nat->List aC->hR
 | _,[]=>[]
 | j,l::ls=>match l.tok with
  | some s=>(s,(i,j))::k3 i (j+1) ls
  | none=>k3 i (j+1) ls
def rp:Nat->List (List aC)->hR
 | _,[]=>[]
 | i,e::es=>k3 i 0 e++rp (i+1) es
def yK(t:Nat)(ms:hR):Bool:=decide (t<c5)&&ms.all fun x=>x.1≠t&&(match ms.at x.1 with | some p=>p.1==x.2.1&&p.2==x.2.2 | none=>false)
theorem Iw(i:Nat):∀(ls:List aC) (j0 j:Nat) (l:aC) (s:Nat),ls[j]?=some l->l.tok=some s->(s,(i,j0+j))∈k3 i j0 ls
 | [],_,_,_,_,h,_=>by simp at h
 | ej::ls,j0,0,l,s,h,ae=>by
  simp at h;subst h;simp only[k3,ae];exact eF
 | ej::ls,j0,j+1,l,s,h,ae=>by
  have:=Iw i ls (j0+1) j l s (by simpa using h) ae;rw[show j0+1+j=j0+(j+1) by omega]at this;simp only[k3];split
  ·exact fc _ this
  exact this
theorem Pt:∀(es:List (List aC)) (i0 i j:Nat) (e:List aC) (l:aC) (s:Nat),es[i]?=some e->e[j]?=some l->l.tok=some s->(s,(i0+i,j))∈rp i0 es
 | [],_,_,_,_,_,_,h,_,_=>by simp at h
 | bE::es,i0,0,j,e,l,s,h,af,ae=>by
  simp at h;subst h;simp only[rp];have:=Iw i0 bE 0 j l s af ae;rw[c']at this;exact gm _ this
 | bE::es,i0,i+1,j,e,l,s,h,af,ae=>by
  have:=Pt es (i0+1) i j e l s (by simpa using h) af ae;rw[show i0+1+i=i0+(i+1) by omega]at this;simp only[rp];exact hZ _ this
variable{ms:hR}
theorem ajU{t:Nat}(h:yK t ms=true):t<c5:=by
 unfold yK at h;rw[ca,ci]at h;exact h.1
theorem ajV{t:Nat}(h:yK t ms=true){s:Nat}{p:Nat×Nat}(hm:(s,p)∈ms):s≠t/\ms.at s=some p:=by
 unfold yK at h;rw[ca]at h;have:=fN.1 h.2 _ hm;simp only[ca,ci]at this;refine⟨this.1,?_⟩;have U:=this.2;split at U
 ·rename_i qh e;simp only[ca,eu]at U;rw[e]
  congr 1
  exact Prod.ext U.1 U.2
 cases U
def Ba(P:Program)(st:aE)(d:Nat)(t:TypeId)(len:Nat)(parts:List (Nat×Operand))(ans:List b4):Stepped:=
 match P.underlying t with
 | some (.slice e)=>
  match P.info? e with
  | some i=>
   match i.zero with
   | some z=>
    if i.size=z.cells.size/\0<i.size/\len*i.size<=16777216 then
     match qY (fun x=>some (x*i.size,i.size)) ((List.replicate len (z.cells.toList.map aC.v)).flatten) (parts.map fun x=>(x.1,st.bk x.2)) with
     | some r=>
      let ls:=nK i.size len r
      match ls.mapM (fun x=>x.mapM aC.iR) with
      | some es=>if yK d (rp 0 ls) then
        some (⟨(st.jt d (rp 0 ls)).env.set d (.one (.J (.own d) i.size es)),(st.jt d (rp 0 ls)).boxes⟩,ans,[]) else none
      | none=>none
     | none=>none
    else none
   | none=>none
  | none=>none
 | _=>none
def Cy(P:Program)(st:aE)(d:Nat)(t:TypeId)(len:Nat)(parts:List (Nat×Operand)):Option (Nat×List (List D)×hR):=
 match P.underlying t with
 | some (.slice e)=>
  match P.info? e with
  | some i=>
   match i.zero with
   | some z=>
    if i.size=z.cells.size/\0<i.size/\len*i.size<=16777216 then
     match qY (fun x=>some (x*i.size,i.size)) ((List.replicate len (z.cells.toList.map aC.v)).flatten) (parts.map fun x=>(x.1,st.bk x.2)) with
     | some r=>
      match (nK i.size len r).mapM (fun x=>x.mapM aC.iR) with
      | some es=>if yK d (rp 0 (nK i.size len r)) then some (i.size,es,rp 0 (nK i.size len r)) else none
      | none=>none
     | none=>none
    else none
   | none=>none
  | none=>none
 | _=>none
theorem ajW{P:Program}{st:aE}{d:Nat}{t:TypeId}{len:Nat}{parts:List (Nat×Operand)}{k:Nat}{es:List (List D)}(h:Cy P st d t len parts=some (k,es,ms))(ans:List b4):
  Ba P st d t len parts ans=some (⟨(st.jt d ms).env.set d (.one (.J (.own d) k es)),(st.jt d ms).boxes⟩,ans,[]):=by
 unfold Cy at h;unfold Ba;split at h
 ·rename_i e h1
  try rw[h1]
  split at h
  ·rename_i i U
   try simp only[U]
   split at h
   ·rename_i z au
    try simp only[au]
    split at h
    ·rename_i ad
     try rw[a6 ad]
     split at h
     ·rename_i r aH
      try simp only[aH]
      split at h
      ·rename_i cp ba
       try simp only[ba]
       split at h
       ·rename_i br;simp only[aQ,bw]at h;obtain⟨rfl,rfl,rfl⟩:=h
        try rw[a6 br]
       cases h
      cases h
     cases h
    cases h
   cases h
  cases h
 cases h
theorem nL{α β:Type}{f:α->Option β}:∀{xs:List α} {ys:List β},xs.mapM f=some ys->ys.length=xs.length/\∀(i:Nat) (y:β),ys[i]?=some y->∃x,xs[i]?=some x/\f x=some y
 | [],ys,h=>by simp at h;subst h;exact⟨rfl,fun i y a1=>by simp at a1⟩
 | x::xs,ys,h=>by
  rw[xh]at h;cases e:f x with
  | none=>simp[e]at h
  | some Fs=>
   cases e2:xs.mapM f with
   | none=>simp[e,e2]at h
   | some FN=>
    simp[e,e2]at h;subst h;obtain⟨h1,U⟩:=nL e2;refine⟨by simp[h1],fun i y a1=>?_⟩;cases i with
    | zero=>simp at a1;subst a1;exact⟨x,rfl,e⟩
    | succ i=>exact U i y (by simpa using a1)
theorem Pu{α:Type}(e:List α):∀(n i j:Nat),i<n->j<e.length->((List.replicate n e).flatten)[i*e.length+j]?=e[j]?
 | 0,i,j,hi,_=>by omega
 | n+1,0,j,_,aM=>by
  rw[List.replicate_succ,List.flatten_cons,lc,Nat.zero_mul,c',a6 aM]
 | n+1,i+1,j,hi,aM=>by
  rw[List.replicate_succ,List.flatten_cons,lc,aX (by rw[fB];omega)];have:=Pu e n i j (by omega) aM;rw[<-this]
  congr 1
  rw[fB];omega
theorem cx.buildSlice{P:Program}{w0:ev}{st bn:aE}{a:Act}{w:World}{ω:Own}{τ:Nat->Nat×Value}{d:Nat}{t:TypeId}{len:Nat}{parts:Array (Nat×Operand)}{ans ch:List b4}{obs:List Prop}
  (aV:cx w0 st a w ω τ) (h:Ba P st d t len parts.toList ans=some (bn,ch,obs)):
  ∃z aG,(Instr.buildSlice t len (parts.map fun (i,x)=>(i,a.eval x))).run P w=.ok z aG/\Rel w0 bn (a.put (some d) z) aG:=by
 unfold Ba at h;split at h
 ·rename_i e hu;split at h
  ·rename_i i hi;split at h
   ·rename_i z aR;split at h
    ·rename_i ad;obtain⟨kQ,kC,kR⟩:=ad;split at h
     ·rename_i r ar;simp only at h;split at h
      ·rename_i es CX;split at h
       ·rename_i NI;simp only[aQ,bw]at h;obtain⟨rfl,_,_⟩:=h;have l0:(z.cells.toList.map aC.v).length=i.size:=by simp[kQ]
        have arF:((List.replicate len (z.cells.toList.map aC.v)).flatten).length=len*i.size:=by simp[kQ]
        have HB:j7 (Sat w ω τ) ((List.replicate len (z.cells.toList.map aC.v)).flatten) (madeCells z.cells (len*i.size)):=by
         refine⟨by simp[madeCells,kQ],fun x l af=>?_⟩;have bq:x<len*i.size:=by
          have:=(dK.1 af).1;omega
         have aa:x=(x / i.size)*i.size+x % i.size:=by rw[Nat.mul_comm];exact (Nat.div_add_mod x i.size).symm
         have av:x / i.size<len:=Nat.div_lt_of_lt_mul (by rw[Nat.mul_comm];exact bq);have hm:x % i.size<i.size:=Nat.mod_lt _ kC;have h1:=Pu (z.cells.toList.map aC.v) len (x / i.size) (x % i.size) av (by omega);rw[l0,<-aa,af]at h1;have U:=h1.symm;rw[c9,bX]at U;obtain⟨u,jD,rfl⟩:=U;refine⟨u,?_,rfl⟩;have au:=Pr z.cells len (x / i.size) (x % i.size) av (by omega);rw[<-kQ,<-aa]at au;rw[au];simpa using jD
        obtain⟨out,Hd,C5⟩:=IU (vals:=parts.toList.map fun x=>(x.1,a.eval x.2)) (by simp) (fun j fy p aM=>by
         rw[c9,bX]at aM;obtain⟨⟨i2,x⟩,aa,e⟩:=aM;simp only[bw]at e;obtain⟨rfl,rfl⟩:=e;exact⟨a.eval x,by simp only[c9,aa,mn],aV.bk x⟩) ar HB
        obtain⟨jB,cU⟩:=nL CX;have hlen:es.length=len:=by rw[jB,Ps]
        have Xa:∀x j o4,cX es x j=some o4->∃l,x<len/\j<i.size/\r[x*i.size+j]?=some l/\l.iR=some o4/\∃vh,(nK i.size len r)[x]?=some vh/\vh[j]?=some l:=by
         intro x j o4 ax;unfold cX at ax;cases aa:es[x]? with
         | none=>simp[aa]at ax
         | some e'=>
          rw[aa,nh]at ax;obtain⟨vh,h1,U⟩:=cU x e' aa;obtain⟨au,aH⟩:=nL U;obtain⟨l,ba,br⟩:=aH j o4 ax;have WQ:=h1;rw[Iv]at h1;split at h1
          ·simp only[aQ]at h1;subst h1;have WR:=ba;rw[gX]at ba;split at ba
           ·rw[gV]at ba;exact⟨l,‹_›,‹_›,ba,br,_,WQ,WR⟩
           cases ba
          cases h1
        have NT:r.length=len*i.size:=by
         have:=C5.1;have U:out.size=(madeCells z.cells (len*i.size)).size:=by
          have:=C5.1;have aH:∀(ej:List (Nat×aB)) (jr jI:List aC),qY (fun x=>some (x*i.size,i.size)) jr ej=some jI->jI.length=jr.length:=by
           intro ej;induction ej with
           | nil=>intro jr jI h;simp[qY]at h;rw[h]
           | cons x ej dt=>
            intro jr jI h;obtain⟨kp,gM⟩:=x;simp only[qY]at h;split at h
            ·split at h
             ·rename_i bI;rw[dt _ _ h,IT (by omega)]
             cases h
            cases h
          have:=aH _ _ _ ar;simp[madeCells];omega
         simp[madeCells]at U;omega
        have gh:(w.alloc (.cells out e)).heap[w.heap.size]?=some (.cells out e (0,0)):=nJ _ _;have vp:=aV.jt d (ajU NI) (rp 0 (nK i.size len r)) (k:=i.size) (cap:=len) (es:=es) (w1:=w.alloc (.cells out e))
         ((gA.refl _ _).alloc (dm _) _) gh (by omega) (by rw[C5.1,NT];exact dm _)
         (fun e' he=>by
          obtain⟨x,aa⟩:=ng.1 he;obtain⟨vh,h1,U⟩:=cU x e' aa;obtain⟨au,_⟩:=nL U;rw[au];rw[Iv]at h1;split at h1
          ·simp only[aQ]at h1;subst h1;have:(x+1)*i.size<=len*i.size:=gW _ (by omega);rw[fB]at this;simp;omega
          cases h1)
         (fun x j o4 ax=>by
          obtain⟨l,h1,U,au,aH,vh,ba,br⟩:=Xa x j o4 ax;obtain⟨u,b7,dV⟩:=C5.2 _ _ au;refine⟨u,b7,l,aH,dV,fun s ae=>?_⟩;have:=Pt (nK i.size len r) 0 x j vh l s ba br ae;rw[c']at this;exact ajV NI this)
        rw[hlen]at vp;refine⟨_,_,?_,_,_,vp.1.put (p:=.one (.J (.own d) i.size es)) vp.2⟩;have pb:((Array.range (len*i.size)).map (fun x=>(if len*i.size=0 then (#[]:Array Value) else z.cells)[x % (if len*i.size=0 then (#[]:Array Value) else z.cells).size]!))=madeCells z.cells (len*i.size):=by
         unfold madeCells;by_cases bm:len*i.size=0
         ·simp[bm]
         simp[bm]
        have e:(Array.map (fun (x:Nat×Operand)=>(x.1,a.eval x.2)) parts).toList=parts.toList.map fun x=>(x.1,a.eval x.2):=by simp
        have X4:¬(len*i.size>2 ^ 24):=by have:(2:Nat) ^ 24=16777216:=(by decide);omega
        simp only[Instr.buildSlice,Sem.run_bind,run_underlying hu,Result.andThen_ok,sizeOf,typeInfo,run_program,hi,Sem.run_pure];rw[aX X4];by_cases bm:len*i.size=0
        ·simp only[bm,fO]at pb ⊢;simp only[Sem.run_pure,Sem.run_bind,Result.andThen_ok,e];rw[bm]at Hd;rw[pb,Hd];simp[newRow]
        simp only[bm,j4]at pb ⊢;simp only[zeroValue,typeInfo,Sem.run_bind,run_program,Result.andThen_ok,hi,aR,Sem.run_pure,e];rw[pb,Hd];simp[newRow]
       cases h
      cases h
     cases h
    cases h
   cases h
  cases h
 cases h
end Go.Sx
namespace Go.Sx
open Go.RowKit
variable{w:World}{ω aY:Own}{k n:Nat}{es:List (List D)}
theorem bR.U3{aG:World}{R iz:List (Nat×Nat)->cS->Prop}{b off cap:Nat}(h:bR w ω R (.J k es) (.slice (some ⟨b,off,none⟩) n cap))
  {arr b3:Array Value} {ty:TypeId} {cO:Nat×Nat} (ah:w.heap[b]?=some (.cells arr ty cO)) (c7:aG.heap[b]?=some (.cells b3 ty cO)) (di:b3.size=arr.size)
  (W0:∀x,x<off+n*k->b3[x]?=arr[x]?) (CP:∀o,o=ω b->R [] o->iz [] (aY b)) (lW:∀c p q,c<w.heap.size->R (p::q) (ω c)->iz (p::q) (aY c)/\aG.heap[c]?=w.heap[c]?):
  bR aG aY iz (.J k es) (.slice (some ⟨b,off,none⟩) n cap):=by
 generalize a1:Value.slice (some ⟨b,off,none⟩) n cap=y at h;cases h with
 | nil=>cases a1;exact .nil _ _ _
 | row R k es fH qe pP hB hL Gq us gg dI ad ae hk hu ax=>
  simp only[Value.slice.injEq,aQ,Addr.mk.injEq]at a1;obtain⟨⟨rfl,rfl,_⟩,rfl,rfl⟩:=a1;rw[ah]at gg;simp only[aQ,Obj.cells.injEq]at gg;obtain⟨rfl,rfl,rfl⟩:=gg;refine .row iz k es b off cap b3 ty cO us c7 (CP _ rfl dI) ad (by omega) hk (fun i j d dC=>?_) (fun i j d dC=>(ax i j d dC).frame fun c q mB av=>lW c _ _ mB av);rw[W0,hu i j d dC];have lV:i<es.length/\j<k:=by
   unfold cX at dC;cases aa:es[i]? with
   | none=>simp[aa]at dC
   | some e=>
    rw[aa,nh]at dC;have h1:=(dK.1 aa).1;have U:=(dK.1 dC).1;rw[hk e (e4 aa)]at U;exact⟨h1,U⟩
  have:(i+1)*k<=es.length*k:=gW _ lV.1;rw[fB]at this;omega
variable{i j:Nat}
theorem s9{d:D}(hk:∀e∈es,e.length=k)(h:cX es i j=some d):i<es.length/\j<k:=by
 unfold cX at h;cases aa:es[i]? with
 | none=>simp[aa]at h
 | some e=>
  rw[aa,nh]at h;have h1:=(dK.1 aa).1;have U:=(dK.1 h).1;rw[hk e (e4 aa)]at U;exact⟨h1,U⟩
variable{bN:List (List D)}
theorem Bb:cX (es++bN) i j=if i<es.length then cX es i j else cX bN (i-es.length) j:=by
 unfold cX;rw[lc];split<;>rfl
theorem Pv(hk:∀e∈es,e.length=k)(hi:i<es.length)(aM:j<k):∃d,cX es i j=some d:=by
 have h1:es[i].length=k:=hk _ (rZ hi);exact⟨es[i][j],by simp[cX,hi,h1,aM]⟩
def jv(t:Nat)(dE:Option Nat)(n:Nat):cS->cS
 | .tok s q=>if dE=some s then (match q with | []=>.bx | p::dh=>.tok t ((n+p.1,p.2)::dh)) else .tok s q
 | o=>o
def h0(t:Nat)(dE:Option Nat):Tag->Option Tag
 | .free=>some .free
 | .own s=>if s=t then some (.ro t) else if dE=some s then none else some (.own s)
 | .ro s=>if s=t then none else if dE=some s then none else some (.ro s)
structure Src (P:Program) (w:World) (ω:Own) (k:Nat) (bN:List (List D)) (dE:Option Nat) (y:Value) (news:List Value):Prop where
 len:news.length=bN.length*k
 rows:∀e∈bN,e.length=k
 one:∀u∈news,u.oneCell'=true
 cell:∀i j d,cX bN i j=some d->∃u,news[i*k+j]?=some u/\((∃x,d=.v x/\u=x)\/∃s,dE=some s/\bR w ω (fun q=>(Tag.own s).R ((i,j)::q)) d u)
 shape:((∃a,y=.slice a 0 0)/\bN=[])\/∃b o c,y=.slice (some ⟨b,o,none⟩) bN.length c/\∀j v,news[j]?=some v->w.cell? ((⟨b,o,none⟩:Addr).add j)=some v
variable{t:Nat}{dE:Option Nat}
theorem Ix{o:cS}{id:Nat}:jv t dE n o=.box id<->o=.box id:=by
 cases o with
 | bx=>simp[jv]
 | box i=>simp[jv]
 | tok s q=>
  simp only[jv];split
  ·cases q<;>simp
  simp
theorem wM{s:Nat}{q:List (Nat×Nat)}(h:dE≠some s):jv t dE n (.tok s q)=.tok s q:=by simp[jv,h]
theorem s'{w aG:World}{g ec:Tag}(iD:dE≠some t)(ao:h0 t dE g=some ec)(b5:g≠.own t)
  (cQ:∀c,c<w.heap.size->ω c≠.tok t []->aY c=jv t dE n (ω c)/\aG.heap[c]?=w.heap[c]?):
  ∀c q,c<w.heap.size->g.R q (ω c)->ec.R q (aY c)/\aG.heap[c]?=w.heap[c]?:=by
 intro c q ad ar;cases g with
 | free=>
  simp only[h0,aQ]at ao;subst ao;simp only[Tag.R]at ar;obtain⟨h1,U⟩:=cQ c ad (by rw[ar];simp);rw[h1,ar];exact⟨rfl,U⟩
 | own s=>
  simp only[h0]at ao;have ae:s≠t:=fun e=>b5 (by rw[e])
  rw[aX ae]at ao;split at ao
  ·cases ao
  rename_i hm;simp only[aQ]at ao;subst ao;simp only[Tag.R]at ar;obtain⟨h1,U⟩:=cQ c ad (by rw[ar];simp[ae]);rw[h1,ar,wM hm];exact⟨rfl,U⟩
 | ro s=>
  simp only[h0]at ao;split at ao
  ·cases ao
  rename_i ae;split at ao
  ·cases ao
  rename_i hm;simp only[aQ]at ao;subst ao;simp only[Tag.R]at ar;rcases ar with ar | ⟨dh,ar⟩
  ·obtain⟨h1,U⟩:=cQ c ad (by rw[ar];simp);rw[h1,ar];exact⟨.inl rfl,U⟩
  obtain⟨h1,U⟩:=cQ c ad (by rw[ar];simp[ae]);rw[h1,ar,wM hm];exact⟨.inr ⟨dh,rfl⟩,U⟩
def gv(τ:Nat->Nat×Value)(t k:Nat)(z:Value):Nat->Nat×Value:=fun s=>if s=t then (k,z) else τ s
variable{τ:Nat->Nat×Value}
theorem DP{k:Nat}{z:Value}{g ec:Tag}{y:Nat×Value}(ao:h0 t dE g=some ec)(a1:g.dS τ y):ec.dS (gv τ t k z) y:=by
 cases g with
 | free=>simp only[h0,aQ]at ao;subst ao;exact trivial
 | own s=>
  simp only[h0]at ao;split at ao
  ·simp only[aQ]at ao;subst ao;exact trivial
  split at ao
  ·cases ao
  simp only[aQ]at ao;subst ao;simp only[Tag.dS,gv]at a1 ⊢;rw[aX ‹_›];exact a1
 | ro s=>
  simp only[h0]at ao;split at ao
  ·cases ao
  split at ao
  ·cases ao
  simp only[aQ]at ao;subst ao;exact trivial
theorem F4{aG:World}{z:Value}(ih:t<c5)(iD:dE≠some t)
  (cQ:∀c,c<w.heap.size->ω c≠.tok t []->aY c=jv t dE n (ω c)/\aG.heap[c]?=w.heap[c]?)
  (q0:∀id b,ω b=.box id->aY b=.box id)
  (jC:∀es y,bR w ω (Tag.own t).R (.J (τ t).1 es) y->y=(τ t).2->bR aG aY (Tag.ro t).R (.J (τ t).1 es) y):
  ∀l v,Sat w ω τ l v->Sat aG aY (gv τ t k z) (l.cm (h0 t dE) fun _=>true) v:=by
 intro l v ae;cases l with
 | cc=>exact trivial
 | v x=>exact ae
 | bg c=>exact ae
 | ptr id off=>
  simp only[aC.cm,fO];obtain⟨b,ah,e⟩:=ae;exact⟨b,q0 id b ah,e⟩
 | fk s vs=>
  simp only[aC.cm];split
  ·rename_i tg ao;split
   ·rename_i Hm;subst Hm;have b5:Tag.own tg≠.own t:=by
     intro e;simp only[Tag.own.injEq]at e;subst e;simp[h0]at ao
    obtain⟨b,ty,arr,e,ba,au,aL,bj⟩:=ae;have bq:b<w.heap.size:=(hA.1 au).1;have hk:=s' (w:=w) (aG:=aG) iD ao b5 cQ b [] bq ba;refine⟨b,ty,arr,e,hk.1,hk.2.trans au,DE (fun c u ad=>?_) aL bj⟩;cases c with
    | cc=>exact trivial
    | v x=>exact ad
    | J g b8 es=>
     simp only[eS.cm];cases ao:h0 t dE g with
     | none=>exact trivial
     | some ec=>
      by_cases b5:g=.own t
      ·subst b5;simp only[h0,fO,aQ]at ao;subst ao;obtain⟨h1,U⟩:=ad;simp only[Tag.dS]at U;have e1:(τ t).1=b8:=by rw[U]
       have e2:(τ t).2=u:=by rw[U]
       exact⟨by rw[<-e1];exact jC es u (by rw[e1];exact h1) e2.symm,aj⟩
      exact⟨ad.1.frame fun c q ad av=>s' iD ao b5 cQ c q ad av,DP ao ad.2⟩
   exact trivial
  exact trivial
 | aO s i j b6 es m=>
  simp only[aC.cm];split
  ·rename_i tg ao;split
   ·rename_i Hm;subst Hm;have b5:Tag.own tg≠.own t:=by
     intro e;simp only[Tag.own.injEq]at e;subst e;simp[h0]at ao
    obtain⟨u,hu,h1,hm⟩:=ae;refine⟨u,hu,h1.frame fun c q ad av=>s' iD ao b5 cQ c _ ad av,fun bI=>?_⟩;obtain⟨kT,b,off,len,cap,arr,ty,cO,U,ba,au,aH⟩:=hm bI;have bq:b<w.heap.size:=(hA.1 au).1;have hk:=s' (w:=w) (aG:=aG) iD ao b5 cQ b [] bq ba;exact⟨kT,b,off,len,cap,arr,ty,cO,DP (k:=k) (z:=z) ao U,hk.1,hk.2.trans au,aH⟩
   exact trivial
  exact trivial
 | gP f ids=>
  simp only[aC.cm];split
  ·obtain⟨bs,e,aL,hi⟩:=ae;refine⟨bs,e,aL,fun i id fX=>?_⟩;obtain⟨b,h1,U⟩:=hi i id fX;exact⟨b,h1,q0 id b U⟩
  exact trivial
 | h8 ds off=>
  obtain⟨b,e,ar⟩:=ae;exact⟨b,e,ar.frame fun c q ad av=>s' (g:=.free) (ec:=.free) iD rfl (by simp) cQ c q ad av⟩
 | fd d=>exact bR.frame ae fun c q ad av=>s' (g:=.free) (ec:=.free) iD rfl (by simp) cQ c q ad av
 | db t0 dp dx=>exact⟨bR.frame ae.1 fun c q ad av=>s' (g:=.free) (ec:=.free) iD rfl (by simp) cQ c q ad av,fun bt=>(show gv τ t k z t0=τ t0 by simp only[gv];rw[aX (by omega)]).trans (ae.2 bt)⟩
 | J g b8 es=>
  simp only[aC.cm];cases ao:h0 t dE g with
  | none=>exact trivial
  | some ec=>
   by_cases b5:g=.own t
   ·subst b5;simp only[h0,fO,aQ]at ao;subst ao;obtain⟨h1,U⟩:=ae;simp only[Tag.dS]at U;have e1:(τ t).1=b8:=by rw[U]
    have e2:(τ t).2=v:=by rw[U]
    exact⟨by rw[<-e1];exact jC es v (by rw[e1];exact h1) e2.symm,aj⟩
   exact⟨ae.1.frame fun c q ad av=>s' iD ao b5 cQ c q ad av,DP ao ae.2⟩
 | ep g b8 es i j=>
  simp only[aC.cm];cases ao:h0 t dE g with
  | none=>exact trivial
  | some ec=>
   obtain⟨b,off,cap,e,hi,ar,bI⟩:=ae;by_cases b5:g=.own t
   ·subst b5;simp only[h0,fO,aQ]at ao;subst ao;simp only[Tag.dS]at bI;have e1:(τ t).1=b8:=by rw[bI]
    have e2:(τ t).2=Value.slice (some ⟨b,off,none⟩) es.length cap:=by rw[bI]
    exact⟨b,off,cap,e,hi,by rw[<-e1];exact jC es _ (by rw[e1];exact ar) e2.symm,aj⟩
   exact⟨b,off,cap,e,hi,ar.frame fun c q ad av=>s' iD ao b5 cQ c q ad av,DP ao bI⟩
def aE.xo(st:aE)(t:Nat)(dE:Option Nat):aE:=st.map (aC.cm (h0 t dE) fun _=>true)
variable{y:Value}
theorem Pw{P:Program}{t ty e:TypeId}{i:TypeInfo}(bt:P.underlying t=some (.slice e))(hi:P.info? e=some i)(w:World){fb:Value}
  (a1:∃a n c,y=.slice a n c/\n<=c) (sJ:∃a c,fb=.slice a 0 c):
  (Builtin.append_ #[t,t] ty #[y,fb]).run P w=.ok y w:=by
 obtain⟨a,n,c,rfl,aL⟩:=a1;obtain⟨a2,c2,rfl⟩:=sJ;cases a<;>cases a2<;>
  simp[Builtin.append_,run_underlying bt,sizeOf,typeInfo,hi,Builtin.lenOf,Builtin.firstCells,loadCells,loadCellsFrom,storeCells, *]
theorem Iy{P:Program}{t ty e:TypeId}{i:TypeInfo}(bt:P.underlying t=some (.slice e))(hi:P.info? e=some i)(w:World)
  (b off n cap:Nat) (arr:Array Value) (hM:TypeId) (ao:w.heap[b]?=some (.cells arr hM (0,0)))
  (cj:Addr) (m c:Nat) (news:List Value) (af:news.length=m*i.size) (nC:∀j u,news[j]?=some u->w.cell? (cj.add j)=some u) (h1:∀u∈news,u.oneCell'=true)
  (nD:n+m<=cap) (dD:off+n*i.size+news.length<=arr.size):
  (Builtin.append_ #[t,t] ty #[.slice (some ⟨b,off,none⟩) n cap,.slice (some cj) m c]).run P w=
   .ok (.slice (some ⟨b,off,none⟩) (n+m) cap) (w.setRow b (arr.toList.take (off+n*i.size)++news++arr.toList.drop (off+n*i.size+news.length)).toArray):=by
 have bl:=run_firstCells_some (P:=P) w i.size m cj m c news af nC;have ew:=run_storeCells_at P b (off+n*i.size) hM news 0 arr w ao (by simpa using dD) h1;simp only[mq]at ew;simp[Builtin.append_,run_underlying bt,sizeOf,typeInfo,hi,Builtin.lenOf,nD,bl,qp,ew]
theorem Src.MT{P:Program}{aG:World}{aY:Own}{n:Nat}{news:List Value}(h:Src P w ω k bN dE y news)(iD:dE≠some t)
  (cQ:∀c,c<w.heap.size->ω c≠.tok t []->aY c=jv t dE n (ω c)/\aG.heap[c]?=w.heap[c]?) {i j:Nat} {d:D} (ax:cX bN i j=some d):
  ∃u,news[i*k+j]?=some u/\bR aG aY (fun q=>(Tag.own t).R ((n+i,j)::q)) d u:=by
 obtain⟨u,h1,U⟩:=h.cell i j d ax;refine⟨u,h1,?_⟩;rcases U with⟨x,rfl,rfl⟩ | ⟨s,ae,ar⟩
 ·exact .v _ _ (h.one _ (e4 h1))
 refine ar.frame fun c q ad av=>?_
 simp only[Tag.R]at av ⊢;have ew:s≠t:=fun e=>iD (by rw[ae,e])
 obtain⟨au,aH⟩:=cQ c ad (by rw[av];simp[ew]);rw[au,av];exact⟨by simp[jv,ae],aH⟩
theorem cx.append{P:Program}{w0:ev}{st:aE}{a:Act}(aV:cx w0 st a w ω τ){fb:Value}{news:List Value}
  (hp:Sat w ω τ (.J (.own t) k es) y) (iZ:Src P w ω k bN dE fb news) (iD:dE≠some t) {ty h9 e:TypeId} {i:TypeInfo} {z:Value}
  (bt:P.underlying h9=some (.slice e)) (hi:P.info? e=some i) (aR:i.zero=some z) (hk:i.size=k) (mM:z.cells.size=k)
  (gr:(es.length+bN.length)*i.bytes<=140737488355328) (gg:es.length+bN.length<=9223372036854775807) (ih:t<c5):
  ∃r aG aY,(Builtin.append_ #[h9,h9] ty #[y,fb]).run P w=.ok r aG/\cx w0 (st.xo t dE) a aG aY (gv τ t k r)/\Sat aG aY (gv τ t k r) (.J (.own t) k (es++bN)) r:=by
 subst hk;obtain⟨ar,bI⟩:=hp;simp only[Tag.dS]at bI;have e1:(τ t).1=i.size:=by rw[bI]
 have e2:(τ t).2=y:=by rw[bI]
 have GU:∀r:Value,∀s,c5<=s->gv τ t i.size r s=τ s:=fun r s ae=>by simp only[gv];rw[aX (by omega)]
 have XI:(Tag.own t).dS (gv τ t i.size y) (i.size,y):=by simp[Tag.dS,gv]
 by_cases hm:bN.length=0
 ·
  have GR:bN=[]:=u0 hm;subst GR
  let aY:Own:=fun c=>jv t dE es.length (ω c)
  have cQ:∀c,c<w.heap.size->ω c≠.tok t []->aY c=jv t dE es.length (ω c)/\w.heap[c]?=w.heap[c]?:=fun c _ _=>⟨rfl,rfl⟩
  have eZ:(Builtin.append_ #[h9,h9] ty #[y,fb]).run P w=.ok y w:=by
   refine Pw bt hi w ?_ ?_
   ·cases ar with
    | nil _ _ a0=>exact⟨a0,0,0,rfl,dm _⟩
    | row R k es b off cap arr ty cO us ah dI ad ae hk hu ax=>exact⟨some ⟨b,off,none⟩,_,cap,rfl,ad⟩
   rcases iZ.shape with⟨⟨a,h⟩,_⟩ | ⟨b,o,c,h,_⟩
   ·exact⟨a,0,h⟩
   exact⟨some ⟨b,o,none⟩,c,h⟩
  refine⟨y,w,aY,eZ,aV.cD _ (F4 ih iD cQ (fun id b ah=>by simp[aY,ah,jv]) ?_) aV.below ?_ ?_ ?_ (GU _),?_,XI⟩
  ·intro cp fq dy _;refine dy.frame fun c q ad av=>⟨?_,rfl⟩
   simp only[Tag.R]at av ⊢;simp only[aY,av];exact .inr ⟨q,wM iD⟩
  ·intro b ah;have:ω b≠.bx:=fun e=>by simp[aY,e,jv]at ah
   exact aV.owned b this
  ·intro id b ah;exact⟨by simp[aY,ah,jv],rfl⟩
  ·intro id b ah;exact Ix.1 ah
  rw[ix];refine ar.frame fun c q ad av=>⟨?_,rfl⟩
  simp only[Tag.R]at av ⊢;simp only[aY,av];exact wM iD
 have vD:0<bN.length:=by omega
 rcases iZ.shape with⟨_,h⟩ | ⟨bg,mh,kM,rfl,nC⟩
 ·rw[h]at vD;simp at vD
 have grown:∀(w1:World) (b3:Array Value) (r:Value) (lT:Nat),gA w.heap.size w w1->w1.heap[w.heap.size]?=some (.cells b3 e (0,0))->r=.slice (some ⟨w.heap.size,0,none⟩) (es.length+bN.length) lT->
   es.length+bN.length<=lT->lT*i.size<=b3.size->(∀fy j d,cX es fy j=some d->∃u,b3[fy*i.size+j]?=some u/\∃R:List (Nat×Nat)->cS->Prop,(∀q o,R q o->o=.tok t ((fy,j)::q))/\bR w ω R d u)->
   (∀x u,news[x]?=some u->b3[es.length*i.size+x]?=some u)->(∀e∈es,e.length=i.size)->
   ∃aY,cx w0 (st.xo t dE) a w1 aY (gv τ t i.size r)/\Sat w1 aY (gv τ t i.size r) (.J (.own t) i.size (es++bN)) r:=by
  intro w1 b3 r lT kB gh Hh eY di hold zO tR;subst Hh
  let aY:Own:=fun c=>if c=w.heap.size then .tok t [] else @ite _ (ω c=.tok t []) (Classical.propDecidable _) .bx (jv t dE es.length (ω c))
  have arG:ω w.heap.size=.bx:=aV.owned.fresh (dm _);have cQ:∀c,c<w.heap.size->ω c≠.tok t []->aY c=jv t dE es.length (ω c)/\w1.heap[c]?=w.heap[c]?:=by
   intro c ad b5;refine⟨?_,kB.block c ad⟩;simp only[aY];rw[aX (by omega),aX b5]
  have kV:aY w.heap.size=.tok t []:=by simp[aY]
  have lW:∀c p q,c<w.heap.size->ω c=.tok t (p::q)->aY c=.tok t (p::q):=by
   intro c p q ad av;rw[(cQ c ad (by rw[av];simp)).1,av,wM iD]
  refine⟨aY,aV.cD _ (F4 ih iD cQ ?_ ?_) (aV.below.next kB) ?_ ?_ ?_ (GU _),?_,by simp[Tag.dS,gv]⟩
  ·intro id b ah;have bq:=aV.owned.lt (b:=b) (by simp[ah]);rw[(cQ b bq (by rw[ah];simp)).1,ah];rfl
  ·intro cp fq dy _;refine dy.frame fun c q ad av=>⟨?_,kB.block c ad⟩
   simp only[Tag.R]at av ⊢;cases q with
   | nil=>left;simp only[aY];rw[aX (by omega),a6 av]
   | cons p q=>right;exact⟨_,lW c p q ad av⟩
  ·intro b ah;by_cases tJ:b=w.heap.size
   ·subst tJ;exact⟨.inl aV.below.size,b3,e,gh⟩
   have:ω b≠.bx:=by
    intro e';simp only[aY]at ah;rw[aX tJ,e']at ah;simp[jv]at ah
   obtain⟨au,hB,hL,aH⟩:=aV.owned b this;exact⟨au,hB,hL,(kB.block b (aV.owned.lt this)).trans aH⟩
  ·intro id b ah;have bq:=aV.owned.lt (b:=b) (by simp[ah]);obtain⟨h1,U⟩:=cQ b bq (by rw[ah];simp);exact⟨by rw[h1,ah];rfl,U⟩
  ·intro id b ah;by_cases tJ:b=w.heap.size
   ·subst tJ;rw[kV]at ah;cases ah
   simp only[aY]at ah;rw[aX tJ]at ah;split at ah
   ·cases ah
   exact Ix.1 ah
  have eU:∀x j d,cX (es++bN) x j=some d->∃u,b3[x*i.size+j]?=some u/\bR w1 aY (fun q=>(Tag.own t).R ((x,j)::q)) d u:=by
   intro x j d ax;rw[Bb]at ax;split at ax
   ·obtain⟨u,h1,R,dI,U⟩:=hold x j d ax;refine⟨u,h1,U.frame fun c q ad av=>⟨?_,kB.block c ad⟩⟩;exact lW c _ _ ad (dI q _ av)
   rename_i aa;obtain⟨u,h1,U⟩:=iZ.MT (aG:=w1) (aY:=aY) (n:=es.length) iD cQ ax;refine⟨u,?_,?_⟩
   ·rw[<-zO _ u h1]
    congr 1
    have:x=es.length+(x-es.length):=by omega
    rw[this,fB];simp only[Nat.add_sub_cancel_left];omega
   rwa[show es.length+(x-es.length)=x by omega]at U
  have hlen:(es++bN).length=es.length+bN.length:=eK;have p8:∀e∈es++bN,e.length=i.size:=by
   intro e' he;rcases gY.1 he with h | h
   ·exact tR e' h
   exact iZ.rows e' h
  have:=bR.row (w:=w1) (ω:=aY) (Tag.own t).R i.size (es++bN) w.heap.size 0 lT b3 e (0,0) (fun x j=>b3.getD (x*i.size+j) undef) gh kV (by omega) (by omega) p8
   (fun x j d ax=>by obtain⟨u,h1,_⟩:=eU x j d ax;rw[c',h1];simp[ea,h1])
   (fun x j d ax=>by obtain⟨u,h1,U⟩:=eU x j d ax;have:b3.getD (x*i.size+j) undef=u:=(by simp[ea,h1]);rw[this];exact U)
  rw[hlen]at this;exact this
 generalize kW:y=Fs at ar;cases ar with
 | nil _ _ a0=>
  subst kW;simp only[b1,c']at gr gg;have eZ:(Builtin.append_ #[h9,h9] ty #[.slice a0 0 0,.slice (some ⟨bg,mh,none⟩) bN.length kM]).run P w=
    .ok (.slice (some ⟨w.heap.size,0,none⟩) bN.length (grownCap w bN.length 0 e)) (w.drew.alloc (.cells (news.toArray++Builtin.zeroCells z.cells (grownCap w bN.length 0 e-bN.length)) e)):=by
   cases a0 with
   | none=>exact run_append_nil (P:=P) w h9 ty e i z bt hi aR ⟨bg,mh,none⟩ bN.length kM news iZ.len nC vD (by omega) (by omega)
   | some cf=>
    have:=run_append_grow (P:=P) w h9 ty e i z bt hi aR cf 0 0 [] (by simp) (fun j v bj=>by simp at bj) ⟨bg,mh,none⟩ bN.length kM news iZ.len nC (by omega) (by omega) (growslice_fits (by omega) (by simpa using gr));simpa using this
  have mD:=grownCap_ge w bN.length 0 e;obtain⟨aY,h1,U⟩:=grown _ (news.toArray++Builtin.zeroCells z.cells (grownCap w bN.length 0 e-bN.length)) (.slice (some ⟨w.heap.size,0,none⟩) bN.length (grownCap w bN.length 0 e)) (grownCap w bN.length 0 e)
   (((gA.refl _ _).drew).alloc (dm _) _) (nJ _ _) (by simp) (by simpa using mD) (by
    simp only[qM,kN,size_zeroCells,iZ.len,mM,<-fB];exact gW _ (by omega))
   (fun fy j d ax=>by simp[cX]at ax) (fun x u aa=>by
    simp only[b1,Nat.zero_mul,c'];rw[hj,a6 (by have:=(dK.1 aa).1;simpa using this)];simpa using aa) (fun e he=>by cases he)
  exact⟨_,_,aY,eZ,h1,U⟩
 | row R k es b off cap arr hM cO us ah dI ad ae gu hu ax=>
  have ic:ω b=.tok t []:=dI;obtain⟨vK,tv,uV,hS⟩:=aV.owned b (by rw[ic];simp);rw[ah]at hS;simp only[aQ,Obj.cells.injEq]at hS;obtain⟨rfl,rfl,rfl⟩:=hS;have vu:b<w.heap.size:=(hA.1 ah).1;by_cases nD:es.length+bN.length<=cap
  ·
   have hmul:(es.length+bN.length)*i.size<=cap*i.size:=gW _ nD;rw[fB]at hmul;have G7:=iZ.len;have dD:off+es.length*i.size+news.length<=arr.size:=by omega
   have eZ:=Iy (P:=P) (ty:=ty) bt hi w b off es.length cap arr hM ah ⟨bg,mh,none⟩ bN.length kM news iZ.len nC iZ.one nD dD;generalize nx:(arr.toList.take (off+es.length*i.size)++news++arr.toList.drop (off+es.length*i.size+news.length)).toArray=b3 at eZ;have gE:∀x:Nat,b3[x]?=if off+es.length*i.size<=x/\x<off+es.length*i.size+news.length then news[x-(off+es.length*i.size)]? else arr[x]?:=by
    intro x;rw[<-nx,nf,A' (by simpa using dD)];simp
   have xO:b3.size=arr.size:=by rw[<-nx];simp;omega
   have jy:=setRow_heap w b arr b3 hM (0,0) ah
   let aY:Own:=fun c=>jv t dE es.length (ω c)
   have cQ:∀c,c<w.heap.size->ω c≠.tok t []->aY c=jv t dE es.length (ω c)/\(w.setRow b b3).heap[c]?=w.heap[c]?:=fun c _ b5=>
    ⟨rfl,setRow_other w b c b3 fun e=>b5 (by rw[e];exact ic)⟩
   have kV:aY b=.tok t []:=by simp only[aY,ic];exact wM iD
   have lW:∀c p q,c<w.heap.size->ω c=.tok t (p::q)->aY c=.tok t (p::q)/\(w.setRow b b3).heap[c]?=w.heap[c]?:=by
    intro c p q ad av;obtain⟨h1,U⟩:=cQ c ad (by rw[av];simp);rw[h1,av,wM iD];exact⟨rfl,U⟩
   refine⟨_,_,aY,eZ,aV.cD _ (F4 ih iD cQ (fun id c ft=>by simp[aY,ft,jv]) ?_) ?_ ?_ ?_ ?_ (GU _),?_,by simp[Tag.dS,gv]⟩
   ·intro cp fq dy vy;rw[vy,e2,kW]at dy ⊢;rw[e1]at dy ⊢;have kU:es.length=cp.length:=by
     obtain⟨_,_,h⟩:=dy.len;simp only[Value.slice.injEq]at h;exact h.2.1
    refine bR.U3 dy ah jy xO (fun x aa=>?_) (fun o aN xM=>?_) (fun c p q ad av=>?_)
    ·rw[gE,aX (by omega)]
    ·right;exact⟨[],kV⟩
    simp only[Tag.R]at av ⊢;obtain⟨h1,U⟩:=lW c p q ad av;exact⟨.inr ⟨_,h1⟩,U⟩
   ·exact aV.below.setRow vK b3
   ·intro c ft;have:ω c≠.bx:=fun e=>by simp[aY,e,jv]at ft
    obtain⟨au,hB,hL,aH⟩:=aV.owned c this;by_cases pY:c=b
    ·subst pY;exact⟨au,b3,hM,jy⟩
    exact⟨au,hB,hL,(setRow_other w b c b3 pY).trans aH⟩
   ·intro id c ft;exact⟨by simp[aY,ft,jv],setRow_other w b c b3 fun e=>by rw[e,ic]at ft;cases ft⟩
   ·intro id c ft;exact Ix.1 ft
   have eU:∀x j d,cX (es++bN) x j=some d->∃u,b3[off+x*i.size+j]?=some u/\bR (w.setRow b b3) aY (fun q=>(Tag.own t).R ((x,j)::q)) d u:=by
    intro x j d dP;rw[Bb]at dP;split at dP
    ·rename_i aa;have zK:=(s9 gu dP).2;refine⟨us x j,?_,(ax x j d dP).frame fun c q ad av=>?_⟩
     ·have:(x+1)*i.size<=es.length*i.size:=gW _ aa;rw[fB]at this;rw[gE,aX (by omega),hu x j d dP]
     exact lW c _ _ ad av
    rename_i aa;obtain⟨u,h1,U⟩:=iZ.MT (aG:=w.setRow b b3) (aY:=aY) (n:=es.length) iD cQ dP;have YW:=(dK.1 h1).1;have xP:x*i.size=es.length*i.size+(x-es.length)*i.size:=by rw[<-fB];congr 1;omega
    refine⟨u,?_,?_⟩
    ·rw[gE,a6 (by omega),<-h1]
     congr 1
     omega
    rwa[show es.length+(x-es.length)=x by omega]at U
   have hlen:(es++bN).length=es.length+bN.length:=eK;have p8:∀e∈es++bN,e.length=i.size:=by
    intro e' he;rcases gY.1 he with h | h
    ·exact gu e' h
    exact iZ.rows e' h
   have:=bR.row (w:=w.setRow b b3) (ω:=aY) (Tag.own t).R i.size (es++bN) b off cap b3 hM (0,0) (fun x j=>b3.getD (off+x*i.size+j) undef) jy kV (by omega) (by omega) p8
    (fun x j d ax=>by obtain⟨u,h1,_⟩:=eU x j d ax;rw[h1];simp[ea,h1])
    (fun x j d ax=>by obtain⟨u,h1,U⟩:=eU x j d ax;have:b3.getD (off+x*i.size+j) undef=u:=(by simp[ea,h1]);rw[this];exact U)
   rw[hlen]at this;exact this
  -- it arm
  have hmul:es.length*i.size<=cap*i.size:=gW _ ad;have mG:((arr.toList.drop off).take (es.length*i.size)).length=es.length*i.size:=by simp;omega
  have eZ:=run_append_grow (P:=P) w h9 ty e i z bt hi aR ⟨b,off,none⟩ es.length cap ((arr.toList.drop off).take (es.length*i.size)) mG (fun j v bj=>by
   rw[qp,cell_of_row w b (off+j) arr hM (0,0) ah];rw[gX]at bj;split at bj
   ·rw[gV]at bj;simpa using bj
   cases bj) ⟨bg,mh,none⟩ bN.length kM news iZ.len nC (by omega) (by omega) (growslice_fits (by omega) gr)
  have mD:=grownCap_ge w (es.length+bN.length) cap e;obtain⟨aY,h1,U⟩:=grown _ (((arr.toList.drop off).take (es.length*i.size)).toArray++news.toArray++Builtin.zeroCells z.cells (grownCap w (es.length+bN.length) cap e-(es.length+bN.length))) _ (grownCap w (es.length+bN.length) cap e)
   (((gA.refl _ _).drew).alloc (dm _) _) (nJ _ _) rfl mD (by
    simp only[qM,kN,size_zeroCells,iZ.len,mM,mG,<-fB];exact gW _ (by omega))
   (fun fy j d dC=>by
    obtain⟨oi,g'⟩:=s9 gu dC;have:(fy+1)*i.size<=es.length*i.size:=gW _ oi;rw[fB]at this;refine⟨us fy j,?_,fun q=>(Tag.own t).R ((fy,j)::q),fun q o h=>h,ax fy j d dC⟩;rw[hj,a6 (by simp only[qM,kN,mG];omega),hj,a6 (by simp only[kN,mG];omega)];rw[nf,gX,a6 (by omega),gV,<-hu fy j d dC];simp only[jg]
    congr 1
    omega)
   (fun x u aa=>by
    have gk:=(dK.1 aa).1;rw[hj,a6 (by simp only[qM,kN,mG];omega),hj,aX (by simp only[kN,mG];omega)];simp only[kN,mG,nf];rw[<-aa]
    congr 1
    omega) gu
  exact⟨_,_,aY,eZ,h1,U⟩
end Go.Sx
namespace Go.Sx
open Go.RowKit
def Flat(es:List (List D)):Prop:=∀e∈es,∀d∈e,∃x,d=.v x
theorem ajX{es:List (List D)}{i j:Nat}{d:D}(h:cX es i j=some d):∃e∈es,d∈e:=by
 unfold cX at h;cases aa:es[i]? with
 | none=>simp[aa]at h
 | some e=>rw[aa,nh]at h;exact⟨e,e4 aa,e4 h⟩
variable{P:Program}{w:World}{ω:Own}{k:Nat}{dE:Option Nat}
theorem Src.empty(a:Option Addr):Src P w ω k [] dE (.slice a 0 0) [] where
 len:=by simp
 rows:=fun _ h=>(by cases h)
 one:=fun _ h=>(by cases h)
 cell:=fun i j d ax=>by simp[cX]at ax
 shape:=.inl ⟨⟨a,rfl⟩,rfl⟩
theorem Src.of{R:List (Nat×Nat)->cS->Prop}{bN:List (List D)}{y:Value}(h:bR w ω R (.J k bN) y)(oj:0<k)
  (ad:Flat bN\/∃s,dE=some s/\R=(Tag.own s).R):∃news,Src P w ω k bN dE y news:=by
 cases h with
 | nil=>exact⟨[],Src.empty _⟩
 | row R k es b off cap arr ty cO us ah dI eY ae gu hu ax=>
  have hmul:bN.length*k<=cap*k:=gW _ eY;have gE:∀x:Nat,((arr.toList.drop off).take (bN.length*k))[x]?=if x<bN.length*k then arr[off+x]? else none:=by
   intro x;rw[gX];split
   ·rw[gV];simp
   rfl
  have eU:∀i j d,cX bN i j=some d->((arr.toList.drop off).take (bN.length*k))[i*k+j]?=some (us i j):=by
   intro i j d dC;obtain⟨hi,aM⟩:=s9 gu dC;have:(i+1)*k<=bN.length*k:=gW _ hi;rw[fB]at this;rw[gE,a6 (by omega),<-hu i j d dC,u4]
  refine⟨(arr.toList.drop off).take (bN.length*k),by simp;omega,gu,?_,?_,.inr ⟨b,off,cap,rfl,?_⟩⟩
  ·intro u jD;obtain⟨x,aa⟩:=ng.1 jD;have bq:x<bN.length*k:=by
    have:=(dK.1 aa).1;simp at this;omega
   have xP:x=(x / k)*k+x % k:=by rw[Nat.mul_comm];exact (Nat.div_add_mod x k).symm
   have av:x / k<bN.length:=Nat.div_lt_of_lt_mul (by rw[Nat.mul_comm];exact bq);obtain⟨d,dC⟩:=Pv gu av (Nat.mod_lt x oj);have h1:=eU _ _ _ dC;rw[<-xP,aa]at h1;rw[ei h1];exact (ax _ _ _ dC).pj
  ·intro i j d dC;refine⟨us i j,eU i j d dC,?_⟩;rcases ad with bl | ⟨s,lY,tS⟩
   ·obtain⟨e,he,og⟩:=ajX dC;obtain⟨x,rfl⟩:=bl e he d og;have:=ax i j _ dC;cases au:us i j<;>(rw[au]at this;cases this;exact .inl ⟨_,rfl,rfl⟩)
   subst tS;exact .inr ⟨s,lY,ax i j d dC⟩
  intro j v bj;rw[qp,cell_of_row w b (off+j) arr ty cO ah];rw[gE]at bj;split at bj
  ·exact bj
  cases bj
variable{τ:Nat->Nat×Value}
theorem cx.HU{w0:ev}{st:aE}{a:Act}(h:cx w0 st a w ω τ)(t k:Nat)(ih:t<c5):
  ∃aY,cx w0 (st.jt t []) a w aY (gv τ t k (.slice none 0 0))/\Sat w aY (gv τ t k (.slice none 0 0)) (.J (.own t) k []) (.slice none 0 0):=by
 refine⟨fun b=>pq t [] (ω b),h.cD _ (lQ.sat (g:=ii t []) (p:=fun _=>true) ⟨?_,?_,?_,rfl,fun s ae=>by simp only[gv];rw[aX (by omega)]⟩) h.below ?_ ?_ ?_ (fun s ae=>by simp only[gv];rw[aX (by omega)]),.nil _ _ _,by simp[Tag.dS,gv]⟩
 ·intro g ec b q ao _ av;exact⟨Pq ao av,rfl⟩
 ·intro g ec y ao a1;cases g with
  | free=>simp only[ii,aQ]at ao;subst ao;exact trivial
  | own s=>
   simp only[ii]at ao;split at ao
   ·simp only[aQ]at ao;subst ao;exact trivial
   split at ao
   ·cases ao
   simp only[aQ]at ao;subst ao;simp only[Tag.dS,gv]at a1 ⊢;rw[aX ‹_›];exact a1
  | ro s=>
   simp only[ii]at ao;split at ao
   ·simp only[aQ]at ao;subst ao;exact trivial
   split at ao
   ·cases ao
   simp only[aQ]at ao;subst ao;exact trivial
 ·intro id b _ ah;exact DM.2 ah
 ·intro b ah;exact h.owned b fun e=>by simp only[e]at ah;exact ah rfl
 ·intro id b ah;exact⟨DM.2 ah,rfl⟩
 intro id b ah;exact DM.1 ah
def vb(t k:Nat)(q:aB)(ans:List b4):Option (List (List D)×Option Nat×List b4×List Prop):=
 match q.leaf,ans with
 | some (.J (.own s) b8 bN),.wr::r=>if b8=k/\s≠t then some (bN,some s,r,[]) else none
 | some (.J _ b8 bN),ans=>if b8=k then some (bN,none,ans,[Flat bN]) else none
 | some (.v (.slice none 0 0)),ans=>some ([],none,ans,[])
 | some (.aO _ _ _ b8 bN .here),ans=>if b8=k then some (bN,none,ans,[Flat bN]) else none
 | some (.aO _ _ _ b8 bN .lS),ans=>if b8=k then some (bN,none,ans,[Flat bN]) else none
 | _,_=>none
theorem Px{P:Program}{t:Nat}{q:aB}{y:Value}{ans ch:List b4}{bN:List (List D)}{obs:List Prop}(oj:0<k)
  (av:cM (Sat w ω τ) q y) (h:vb t k q ans=some (bN,dE,ch,obs)) (aN:cB obs):dE≠some t/\∃news,Src P w ω k bN dE y news:=by
 unfold vb at h;split at h
 ·rename_i s b8 es r e;split at h
  ·rename_i ad;obtain⟨rfl,b5⟩:=ad;simp only[aQ,bw]at h;obtain⟨rfl,rfl,_,_⟩:=h;exact⟨by simpa using b5,Src.of (aB.dw e av).1 oj (.inr ⟨s,rfl,rfl⟩)⟩
  cases h
 ·rename_i g b8 es e _;split at h
  ·rename_i ad;subst ad;simp only[aQ,bw]at h;obtain⟨rfl,rfl,_,rfl⟩:=h;exact⟨by simp,Src.of (aB.dw e av).1 oj (.inl aN.1)⟩
  cases h
 ·rename_i e;simp only[aQ,bw]at h;obtain⟨rfl,rfl,_,_⟩:=h;have:y=.slice none 0 0:=aB.dw e av;subst this;exact⟨by simp,[],Src.empty _⟩
 ·rename_i s BO BP b8 es e;split at h
  ·rename_i ad;subst ad;simp only[aQ,bw]at h;obtain⟨rfl,rfl,_,rfl⟩:=h;obtain⟨hX,rfl,ar,_⟩:=aB.dw e av;exact⟨by simp,Src.of ar oj (.inl aN.1)⟩
  cases h
 ·rename_i s BO BP b8 es e;split at h
  ·rename_i ad;subst ad;simp only[aQ,bw]at h;obtain⟨rfl,rfl,_,rfl⟩:=h;obtain⟨hX,rfl,ar,_⟩:=aB.dw e av;exact⟨by simp,Src.of ar oj (.inl aN.1)⟩
  cases h
 cases h
def Cu(d:Nat)(st:aE)(k:Nat)(p:aB):Option (aE×Nat×List (List D)):=
 match p.leaf with
 | some (.J (.own t) b8 es)=>if b8=k then some (st,t,es) else none
 | some (.v (.slice none 0 0))=>some (st.jt d [],d,[])
 | _=>none
def y4(P:Program)(st:aE)(d:Nat)(t:TypeId)(x y:Operand)(ans:List b4):Stepped:=
 match qq P t with
 | some (e,k)=>
  match P.info? e,Cu d st k (st.bk x) with
  | some i,some (st1,hh,es)=>
   match i.zero,vb hh k (st1.bk y) ans with
   | some z,some (bN,dE,ch,obs)=>
    if z.cells.size=k/\0<k/\hh<c5 then
     some (⟨(st1.xo hh dE).env.set d (.one (.J (.own hh) k (es++bN))),(st1.xo hh dE).boxes⟩,ch,((es.length+bN.length)*i.bytes<=140737488355328)::(es.length+bN.length<=9223372036854775807)::obs)
    else none
   | _,_=>none
  | _,_=>none
 | none=>none
theorem cx.y4{w0:ev}{st bn:aE}{a:Act}{d:Nat}{t ty:TypeId}{x y:Operand}{ans ch:List b4}{obs:List Prop}
  (aV:cx w0 st a w ω τ) (h:Sx.y4 P st d t x y ans=some (bn,ch,obs)) (aN:cB obs):
  ∃z aG,(Builtin.append_ #[t,t] ty #[a.eval x,a.eval y]).run P w=.ok z aG/\Rel w0 bn (a.put (some d) z) aG:=by
 unfold Sx.y4 at h;split at h
 ·rename_i e k he;obtain⟨hu,i0,kb,xN⟩:=wK he;split at h
  ·rename_i i st1 hh es hi jY;rw[kb]at hi;have mE:=ei hi;subst mE;split at h
   ·rename_i z bN dE va xZ aR iZ;split at h
    ·rename_i ad;simp only[aQ,bw]at h;obtain⟨rfl,rfl,rfl⟩:=h;obtain⟨cd,bY,cr⟩:=aN;have:∃Ck MF,cx w0 st1 a w Ck MF/\Sat w Ck MF (.J (.own hh) k es) (a.eval x):=by
      unfold Cu at jY;split at jY
      ·rename_i c4 b8 cp af;split at jY
       ·rename_i gu;subst gu;simp only[aQ,bw]at jY;obtain⟨rfl,rfl,rfl⟩:=jY;exact⟨ω,τ,aV,aB.dw af (aV.bk x)⟩
       cases jY
      ·rename_i af;simp only[aQ,bw]at jY;obtain⟨rfl,rfl,rfl⟩:=jY;have:a.eval x=.slice none 0 0:=aB.dw af (aV.bk x);rw[this];obtain⟨Ck,h1,U⟩:=aV.HU d k ad.2.2;exact⟨Ck,_,h1,U⟩
      cases jY
     obtain⟨Ck,MF,eN,aa⟩:=this;obtain⟨iD,news,ae⟩:=Px (P:=P) ad.2.1 (eN.bk y) iZ cr;obtain⟨r,aG,aY,h1,U,au⟩:=eN.append (P:=P) (ty:=ty) aa ae iD hu kb aR xN ad.1 cd bY ad.2.2;exact⟨r,aG,h1,aY,_,U.put (p:=.one (.J (.own hh) k (es++bN))) au⟩
    cases h
   cases h
  cases h
 cases h
