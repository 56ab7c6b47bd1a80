import Derived.Test.YtdchjefneblpgaaGreatR1
set_option linter.unusedVariables false
set_option linter.unusedSimpArgs false
namespace Go.Sx
open Go.RowKit
def qI(id:Nat)(fl:List aH):List (Nat×List aH)->List (Nat×List aH)
 | []=>[]
 | (i,ls)::r=>if i=id then (i,fl)::r else (i,ls)::qI id fl r
variable{id:Nat}{fl:List aH}
theorem y0:∀{bs:List (Nat×List aH)} {ls:List aH},dF id bs=some ls->dF id (qI id fl bs)=some fl
 | [],_,h=>by cases h
 | (i,l)::r,ls,h=>by
  simp only[qI];by_cases hi:i=id
  ·rw[bi hi];simp[dF,hi]
  rw[ba hi];simp only[dF,ba hi]at h ⊢;exact y0 h
theorem y1{gZ:Nat}(aR:gZ≠id):∀{bs:List (Nat×List aH)},dF gZ (qI id fl bs)=dF gZ bs
 | []=>rfl
 | (i,l)::r=>by
  simp only[qI];by_cases hi:i=id
  ·rw[bi hi];simp only[dF,hi];rw[ba (Ne.symm aR),ba (Ne.symm aR)]
  rw[ba hi];simp only[dF];split
  ·rfl
  exact y1 aR
theorem Tag.ZE{t:Tag}{q:List (Nat×Nat)}:¬t.R q (.box id):=by
 cases t with
 | free=>exact fun h=>by cases h
 | own s=>exact fun h=>by cases h
 | ro s=>exact fun h=>by rcases h with h | ⟨_,h⟩<;>cases h
theorem Sat.axS{w:World}{ω:Own}{τ:Nat->Nat×Value}{b:Nat}(aj:ω b=.box id)(cs:Array Value):∀(l:aH) (v:Value),Sat w ω τ l v->Sat (w.setRow b cs) ω τ l v:=by
 have br:lQ w ω τ (w.setRow b cs) ω τ rr (fun _=>true):=by
  refine⟨?_,?_,fun _ _ _ h=>h,rfl,fun _ _=>rfl⟩
  ·intro t dt da q av _ az;simp only[rr,aX]at av;subst av;refine⟨az,setRow_other w b da cs fun e=>?_⟩;subst e;rw[aj]at az;exact Tag.ZE az
  intro t dt y av bu;simp only[rr,aX]at av;subst av;exact bu
 intro l v ai;have:=br.sat l v ai;cases l with
 | aO t i j k es m=>
  obtain⟨u,hu,h1,hm⟩:=ai;refine⟨u,hu,h1.frame fun c q ak az=>⟨az,setRow_other w b c cs fun e=>?_⟩,fun bQ=>?_⟩
  ·subst e;rw[aj]at az;cases az
  obtain⟨kT,eX,off,len,cap,arr,ty,c0,U,a7,ax,aK⟩:=hm bQ;exact⟨kT,eX,off,len,cap,arr,ty,c0,U,a7,(setRow_other w b eX cs fun e=>by subst e;rw[aj]at a7;cases a7).trans ax,aK⟩
 | ft t vs=>
  obtain⟨eX,ty,arr,e,a7,ax,aR,bF⟩:=ai;refine⟨eX,ty,arr,e,a7,(setRow_other w b eX cs fun e=>by subst e;rw[aj]at a7;cases a7).trans ax,aR,fun j c ak=>?_⟩;obtain⟨u,h1,U⟩:=bF j c ak;refine⟨u,h1,?_⟩;have eF:=br.mI c u U;have:e9.cz rr c=c:=by cases c<;>simp[e9.cz,rr]
  rwa[this]at eF
 | _=>simpa[aH.cz,rr]using this
variable{w0:eK}{st:aF}{a:Act}{w:World}{ω:Own}{τ:Nat->Nat×Value}
theorem cI.axX(h:cI w0 st a w ω τ){ls:List aH}(av:dF id st.boxes=some ls)
  {b:Nat} (aj:ω b=.box id) {cf:Array Value} (ai:kk (Sat w ω τ) fl cf):
  cI w0 ⟨st.env,qI id fl st.boxes⟩ a (w.setRow b cf) ω τ:=by
 obtain⟨da,arr,ty,dz,hu,bQ,eS⟩:=h.boxes id ls av;have:=hu b aj;subst this;have Iz:=Sat.axS (w:=w) (ω:=ω) (τ:=τ) aj cf;have jB:=setRow_heap w b arr cf ty (0,0) bQ;refine⟨h.defers,h.size,?_,?_,h.fixed,h.pinned,?_,?_⟩
 ·exact h.below.setRow (h.owned b (by simp[aj])).1 cf
 ·intro c ak;obtain⟨h1,ix,iR,U⟩:=h.owned c ak;by_cases e:c=b
  ·subst e;exact⟨h1,cf,ty,jB⟩
  exact⟨h1,ix,iR,(setRow_other w b c cf e).trans U⟩
 ·intro i p hp;obtain⟨v,h1,U⟩:=h.env i p hp;refine⟨v,h1,?_⟩;have:=cU.map (f:=_root_.id) Iz U;have e:aJ.map _root_.id p=p:=by
   cases p with
   | aI a=>cases a<;>simp[aJ.map,bC.map]
   | ga as=>
    simp only[aJ.map]
    congr 1
    have:bC.map _root_.id=_root_.id:=by funext a;cases a<;>simp[bC.map]
    rw[this];simp
  rwa[e]at this
 intro i l ag;by_cases e:i=id
 ·subst e;rw[y0 av]at ag;have e:=eE ag;subst e;refine⟨b,cf,ty,aj,hu,jB,?_⟩;have:=ai.map (f:=_root_.id) Iz;simpa using this
 rw[y1 e]at ag;obtain⟨c,ix,iR,ak,aaI,sE,mx⟩:=h.boxes i l ag;have ct:c≠b:=fun e'=>by subst e';rw[aj]at ak;simp only[c8.box.injEq]at ak;exact e ak.symm
 refine⟨c,ix,iR,ak,aaI,(setRow_other w b c cf ct).trans sE,?_⟩;have:=mx.map (f:=_root_.id) Iz;simpa using this
abbrev Stepped:=Option (aF×List ci×List Prop)
def KE(st:aF)(d:Nat)(p:aJ)(ans:List ci):Stepped:=
 if d<dj then p.leaves.map fun ls=>(⟨(st.um d ls).env.set d (.one (.ptr d 0)),(st.um d ls).boxes⟩,ans,[]) else none
variable{bE:aF}{ans cu:List ci}{obs:List Prop}
theorem cI.box{P:Program}{d:Nat}{p:aJ}{v:Value}(aZ:cI w0 st a w ω τ)
  (hp:cU (Sat w ω τ) p v) (h:KE st d p ans=some (bE,cu,obs)) (ty:TypeId):
  ∃z aS,(do pure (.pointer (some (<-newVar ty v))):Sem Value).run P w=.ok z aS/\Rel w0 bE (a.put (some d) z) aS:=by
 unfold KE at h;split at h
 case isFalse=>cases h
 rename_i sH;rw[b8]at h;obtain⟨ls,h1,h⟩:=h;simp only[bJ]at h;obtain⟨rfl,_,_⟩:=h;obtain⟨ai,_⟩:=aJ.yE h1 hp;obtain⟨a',Iv,dr⟩:=aZ.um d sH ty ai;refine⟨.pointer (some ⟨w.heap.size,0,none⟩),w.alloc (.cells v.cells ty),by simp[newVar,newRow],a',τ,?_⟩;exact Iv.put (p:=.one (.ptr d 0)) ⟨w.heap.size,dr,rfl⟩
def KF(P:Program)(st:aF)(d:Nat)(elem:TypeId)(ans:List ci):Stepped:=
 match P.info? elem with
 | some i=>match i.zero with
  | some z=>if d<dj then let ls:=z.cells.toList.map .v;some (⟨(st.um d ls).env.set d (.one (.ptr d 0)),(st.um d ls).boxes⟩,ans,[]) else none
  | none=>none
 | none=>none
theorem cI.alloc{P:Program}{d:Nat}{elem:TypeId}(aZ:cI w0 st a w ω τ)
  (h:KF P st d elem ans=some (bE,cu,obs)):
  ∃z aS,(Instr.alloc elem true (.tuple #[])).run P w=.ok z aS/\Rel w0 bE (a.put (some d) z) aS:=by
 unfold KF at h;split at h
 ·rename_i i hi;split at h
  ·rename_i z a6;split at h
   case isFalse=>cases h
   rename_i sH;simp only[aX,bJ]at h;obtain⟨rfl,_,_⟩:=h;have ai:kk (Sat w ω τ) (z.cells.toList.map .v) z.cells:=by
    refine⟨by simp,fun j l ag=>?_⟩;rw[du,b8]at ag;obtain⟨u,hu,rfl⟩:=ag;exact⟨u,by simpa using hu,rfl⟩
   obtain⟨a',Iv,dr⟩:=aZ.um d sH elem ai;refine⟨.pointer (some ⟨w.heap.size,0,none⟩),w.alloc (.cells z.cells elem),by simp[Instr.alloc,zeroValue,typeInfo,hi,a6,newVar,newRow],a',τ,?_⟩;exact Iv.put (p:=.one (.ptr d 0)) ⟨w.heap.size,dr,rfl⟩
  cases h
 cases h
def KG(P:Program)(st:aF)(t:TypeId)(id off:Nat)(q:aJ)(ans:List ci):Stepped:=
 match dF id st.boxes,q.leaves,P.info? t with
 | some ls,some xs,some i=>if xs.length=i.size/\off+xs.length<=ls.length then some (⟨st.env,qI id (tI ls off xs) st.boxes⟩,ans,[]) else none
 | _,_,_=>none
theorem Bg{α:Type}{xs ys:List α}{off:Nat}(h:off+ys.length<=xs.length)(i:Nat):
  (xs.take off++ys++xs.drop (off+ys.length))[i]?=if off<=i/\i<off+ys.length then ys[i-off]? else xs[i]?:=by
 rw[tw,lk,qW,Nat.min_eq_left (by omega)];by_cases h1:i<off
 ·rw[bi h1,ba (by omega),kX,bi h1]
 rw[ba h1,lk];by_cases U:i-off<ys.length
 ·rw[bi U,bi (by omega)]
 rw[ba U,ba (by omega),ky]
 congr 1
 omega
theorem cI.axW{P:Program}{t:TypeId}{off:Nat}{q:aJ}{b:Nat}{v:Value}
  (aZ:cI w0 st a w ω τ) (aj:ω b=.box id) (az:cU (Sat w ω τ) q v) (h:KG P st t id off q ans=some (bE,cu,obs)):
  ∃aS,(Instr.storeAt t (.pointer (some ⟨b,off,none⟩)) v).run P w=.ok () aS/\Rel w0 bE a aS:=by
 unfold KG at h;split at h
 ·rename_i ls xs i e1 e2 ck;split at h
  ·rename_i ak;simp only[aX,bJ]at h;obtain⟨rfl,_,_⟩:=h;obtain⟨ai,qf⟩:=aJ.yE e2 az;obtain⟨da,arr,ty,dz,hu,bQ,eS⟩:=aZ.boxes id ls e1;have:=hu b aj;subst this;have e5:=run_storeCells_at P b off ty v.cells.toList 0 arr w bQ (by simp;have:=ai.1;have:=eS.1;omega) qf;have gg:kk (Sat w ω τ) (tI ls off xs) (arr.toList.take (off+0)++v.cells.toList++arr.toList.drop (off+0+v.cells.toList.length)).toArray:=by
    have h1:=ai.1;have U:=eS.1;refine⟨?_,fun j l ag=>?_⟩
    ·rw[JK (by omega)];simp;omega
    rw[Rm (by omega)]at ag;rw[pP,m',Bg (by simp;omega)];simp only[vy];by_cases bd:off<=j/\j<off+xs.length
    ·rw[bi bd]at ag;rw[bi (by omega)];obtain⟨u,ax,aK⟩:=ai.2 _ _ ag;exact⟨u,by simpa using ax,aK⟩
    rw[ba bd]at ag;rw[ba (by omega)];obtain⟨u,ax,aK⟩:=eS.2 _ _ ag;exact⟨u,by simpa using ax,aK⟩
   refine⟨_,?_,ω,τ,aZ.axX e1 aj gg⟩;simp only[Instr.storeAt,Instr.sureAddr,Sem.run_bind,Sem.run_pure,Result.andThen_ok,storeVar,sizeOf,typeInfo,run_program,ck];have eT:¬(v.cells.size≠i.size):=by simp;have:=ai.1;omega
   rw[ba eT];exact e5
  cases h
 cases h
end Go.Sx
namespace Go.Sx
open Go.RowKit
variable{w0:eK}{st:aF}{a:Act}{w:World}{ω:Own}{τ:Nat->Nat×Value}
theorem cI.di{aS:World}{a':Own}{cW:Nat->Nat×Value}(h:cI w0 st a w ω τ)(f:aH->aH)
  (eS:∀l v,Sat w ω τ l v->Sat aS a' cW (f l) v) (rb:hr w0 aS) (qh:n4 w0 aS a')
  (rc:∀id b,ω b=.box id->a' b=.box id/\aS.heap[b]?=w.heap[b]?) (Ap:∀id b,a' b=.box id->ω b=.box id) (ri:∀t,dj<=t->cW t=τ t:=by intros;rfl):cI w0 (st.map f) a aS a' cW where
 defers:=h.defers
 size:=by simp[aF.map,h.size]
 below:=rb
 owned:=qh
 fixed:=fun t bH=>(ri t bH).trans (h.fixed t bH)
 pinned:=fun id b hi aj=>h.pinned id b hi (Ap id b aj)
 env:=by
  intro i q az;simp only[aF.map]at az;rw[du,b8]at az;obtain⟨ic,bg,rfl⟩:=az;obtain⟨v,h1,U⟩:=h.env i ic bg;exact⟨v,h1,cU.map eS U⟩
 boxes:=by
  intro id ls ag;simp only[aF.map]at ag;rw[s6,b8]at ag;obtain⟨jq,bg,rfl⟩:=ag;obtain⟨b,arr,ty,aj,hu,bQ,ai⟩:=h.boxes id jq bg;obtain⟨h1,U⟩:=rc id b aj;exact⟨b,arr,ty,h1,fun da dz=>hu da (Ap id da dz),U.trans bQ,ai.map eS⟩
abbrev hF:=List (Nat×(Nat×Nat))
def hF.at(s:Nat):hF->Option (Nat×Nat)
 | []=>none
 | (i,p)::r=>if i=s then some p else hF.at s r
def ib(t:Nat)(ms:hF):Tag->Option Tag
 | .free=>some .free
 | .own s=>if s=t then some .free else if (ms.at s).isSome then none else some (.own s)
 | .ro s=>if s=t then some .free else if (ms.at s).isSome then none else some (.ro s)
def pz(t:Nat)(ms:hF):c8->c8
 | .tok s q=>if s=t then .bO else match ms.at s with | some p=>.tok t (p::q) | none=>.tok s q
 | o=>o
variable{t:Nat}{ms:hF}
theorem Eg{o:c8}{id:Nat}:pz t ms o=.box id<->o=.box id:=by
 cases o with
 | bO=>simp[pz]
 | box i=>simp[pz]
 | tok s q=>
  simp only[pz];split
  ·simp
  ·split<;>simp
theorem Q3{g ey:Tag}{q:List (Nat×Nat)}{o:c8}(h:ib t ms g=some ey)(aA:g.R q o):ey.R q (pz t ms o):=by
 cases g with
 | free=>simp only[ib,aX]at h;subst h;simp only[Tag.R]at aA ⊢;rw[aA];rfl
 | own s=>
  simp only[Tag.R]at aA;subst aA;simp only[ib]at h;simp only[pz];split at h
  ·simp only[aX]at h;subst h;rw[bi ‹_›];rfl
  split at h
  ·cases h
  rename_i h1 U;simp only[aX]at h;subst h;rw[ba h1];cases e:ms.at s with
  | none=>rfl
  | some p=>simp[e]at U
 | ro s=>
  simp only[Tag.R]at aA;simp only[ib]at h;split at h
  ·simp only[aX]at h;subst h;rcases aA with rfl | ⟨dD,rfl⟩
   ·rfl
   simp only[pz];rw[bi ‹_›];rfl
  split at h
  ·cases h
  rename_i h1 U;simp only[aX]at h;subst h;rcases aA with rfl | ⟨dD,rfl⟩
  ·exact .inl rfl
  refine .inr ⟨dD,?_⟩;simp only[pz];rw[ba h1];cases e:ms.at s with
  | none=>rfl
  | some p=>simp[e]at U
def pA(w:World)(ω:Own)(t:Nat)(ms:hF):Own:=fun b=>if b=w.heap.size then .tok t [] else pz t ms (ω b)
def wK(w:World)(τ:Nat->Nat×Value)(t k n c:Nat):Nat->Nat×Value:=fun s=>if s=t then (k,.slice (some ⟨w.heap.size,0,none⟩) n c) else τ s
def aF.jt(st:aF)(t:Nat)(ms:hF):aF:=st.map (aH.cz (ib t ms) fun _=>true)
theorem asr{w1:World}{k n c:Nat}(ia:t<dj)(bw:ω w.heap.size=.bO)(bQ:∀b,b<w.heap.size->w1.heap[b]?=w.heap[b]?):
  lQ w ω τ w1 (pA w ω t ms) (wK w τ t k n c) (ib t ms) (fun _=>true):=by
 refine⟨?_,?_,?_,rfl,fun s ai=>by simp only[wK];rw[ba (by omega)]⟩
 ·intro g ey b q av aj az;refine⟨?_,bQ b aj⟩;simp only[pA];rw[ba (by omega)];exact Q3 av az
 ·intro g ey y av bu;cases g with
  | free=>simp only[ib,aX]at av;subst av;exact trivial
  | own s=>
   simp only[ib]at av;split at av
   ·simp only[aX]at av;subst av;exact trivial
   split at av
   ·cases av
   simp only[aX]at av;subst av;simp only[Tag.ee,wK]at bu ⊢;rw[ba ‹_›];exact bu
  | ro s=>
   simp only[ib]at av;split at av
   ·simp only[aX]at av;subst av;exact trivial
   split at av
   ·cases av
   simp only[aX]at av;subst av;exact trivial
 intro id b _ aj;simp only[pA];by_cases e:b=w.heap.size
 ·subst e;rw[bw]at aj;cases aj
 rw[ba e,aj];rfl
def aH.iQ:aH->Option D
 | .v x=>if x.oneCell' then some (.v x) else none
 | .bc c=>some (.v (.bool c))
 | .J (.own _) k es=>some (.J k es)
 | _=>none
def aH.tok:aH->Option Nat
 | .J (.own s) _ _=>some s
 | _=>none
def Eh(w:World)(ω:Own)(τ:Nat->Nat×Value)(t:Nat)(ms:hF)(i j:Nat)(d:D)(u:Value):Prop:=
 ∃l:aH,l.iQ=some d/\Sat w ω τ l u/\∀s,l.tok=some s->s≠t/\ms.at s=some (i,j)
theorem Eh.rep{w1:World}{i j:Nat}{d:D}{u:Value}(h:Eh w ω τ t ms i j d u)(bQ:∀b,b<w.heap.size->w1.heap[b]?=w.heap[b]?):
  b7 w1 (pA w ω t ms) (fun q=>(Tag.own t).R ((i,j)::q)) d u:=by
 obtain⟨l,aE,ai,hm⟩:=h;cases l with
 | cq=>cases aE
 | v x=>
  simp only[aH.iQ]at aE;split at aE
  ·simp only[aX]at aE;subst aE;have:u=x:=ai;subst this;exact .v _ _ ‹_›
  cases aE
 | bc c=>
  simp only[aH.iQ,aX]at aE;subst aE;have:u=.bool c:=ai;subst this;exact .v _ _ rfl
 | J g k es=>
  cases g with
  | free=>cases aE
  | ro s=>cases aE
  | own s=>
   simp only[aH.iQ,aX]at aE;subst aE;obtain⟨ct,ra⟩:=hm s rfl;refine ai.1.frame fun b q aj az=>⟨?_,bQ b aj⟩
   simp only[Tag.R]at az ⊢;simp only[pA];rw[ba (by omega),az];simp only[pz];rw[ba ct,ra]
 | ptr id off=>cases aE
 | ep g k es i j=>cases aE
 | h0=>cases aE
 | fd=>cases aE
 | dx=>cases aE
 | gP=>cases aE
 | aO=>cases aE
 | ft=>cases aE
theorem cI.jt{w1:World}(h:cI w0 st a w ω τ)(t:Nat)(ia:t<dj)(ms:hF){k cap:Nat}{es:List (List D)}{arr:Array Value}{ty:TypeId}
  (aj:gO w.heap.size w w1) (gg:w1.heap[w.heap.size]?=some (.cells arr ty (0,0))) (ak:es.length<=cap) (eT:cap*k<=arr.size) (hk:∀e∈es,e.length=k)
  (fa:∀i j d,c9 es i j=some d->∃u,arr[i*k+j]?=some u/\Eh w ω τ t ms i j d u):
  cI w0 (st.jt t ms) a w1 (pA w ω t ms) (wK w τ t k es.length cap)/\
  Sat w1 (pA w ω t ms) (wK w τ t k es.length cap) (.J (.own t) k es) (.slice (some ⟨w.heap.size,0,none⟩) es.length cap):=by
 have bw:ω w.heap.size=.bO:=h.owned.fresh (ei _);have hblk:=aj.block;have azp:w.heap.size<w1.heap.size:=(jz.1 gg).1;have k5:pA w ω t ms w.heap.size=.tok t []:=by simp[pA]
 have gY:∀b,b≠w.heap.size->pA w ω t ms b=pz t ms (ω b):=fun b aj=>by simp[pA,aj]
 refine⟨h.di _ (asr ia bw hblk).sat ?_ ?_ ?_ ?_ (fun s ai=>by simp only[wK];rw[ba (by omega)]),?_,?_⟩
 ·exact h.below.next aj
 ·intro b fS;by_cases e:b=w.heap.size
  ·subst e;exact⟨.inl h.below.size,arr,ty,gg⟩
  rw[gY b e]at fS;have U:ω b≠.bO:=fun e'=>by rw[e']at fS;exact fS rfl
  obtain⟨ax,ix,iR,aK⟩:=h.owned b U;exact⟨ax,ix,iR,(hblk b (h.owned.lt U)).trans aK⟩
 ·intro id b fS;have bL:=h.owned.lt (b:=b) (by simp[fS]);rw[gY b (by omega),fS];exact⟨rfl,hblk b bL⟩
 ·intro id b fS;by_cases e:b=w.heap.size
  ·subst e;rw[k5]at fS;cases fS
  rw[gY b e]at fS;exact Eg.1 fS
 ·have uh:∀i j d,c9 es i j=some d->arr[0+i*k+j]?=some (arr.getD (i*k+j) undef)/\Eh w ω τ t ms i j d (arr.getD (i*k+j) undef):=by
   intro i j d aE;obtain⟨u,h1,U⟩:=fa i j d aE;have e:arr.getD (i*k+j) undef=u:=by simp[ew,h1]
   rw[e];exact⟨by rw[dG];exact h1,U⟩
  exact .row _ k es w.heap.size 0 cap arr ty (0,0) (fun i j=>arr.getD (i*k+j) undef) gg k5 ak (by omega) hk (fun i j d aE=>(uh i j d aE).1) (fun i j d aE=>(uh i j d aE).2.rep hblk)
 simp[Tag.ee,wK]
def Ei(P:Program)(st:aF)(d:Nat)(t:TypeId)(p q:aJ)(ans:List ci):Stepped:=
 match P.underlying t with
 | some (.slice e)=>
  match P.info? e,p.int,q.int with
  | some i,some (_,l),some (_,c)=>
   match i.zero with
   | some z=>
    if i.size=z.cells.size/\0<i.size/\z.cells.all (·.oneCell')=true/\d<dj then
     some (⟨(st.jt d []).env.set d (.one (.J (.own d) i.size (List.replicate l.toNat (z.cells.toList.map .v)))),(st.jt d []).boxes⟩,ans,[0<=l,l<=c,(i.bytes:Int)*c<=281474976710656,c<=9223372036854775807])
    else none
   | none=>none
  | _,_,_=>none
 | _=>none
theorem Q4(z:Array Value)(n i j:Nat)(hi:i<n)(bd:j<z.size):(madeCells z (n*z.size))[i*z.size+j]?=z[j]?:=by
 have bL:i*z.size+j<n*z.size:=by
  have:(i+1)*z.size<=n*z.size:=hq _ hi;rw[fA]at this;omega
 have e:(i*z.size+j) % z.size=j:=by rw[Nat.add_comm,Nat.add_mul_mod_self_right];exact C4 bd
 simp[madeCells,bL,e,getElem!_pos,bd]
theorem ass{n:Nat}{e:List D}{i j:Nat}{d:D}(h:c9 (List.replicate n e) i j=some d):i<n/\e[j]?=some d:=by
 unfold c9 at h;rw[zS]at h;split at h
 ·exact⟨‹_›,h⟩
 simp at h
theorem cI.make{P:Program}{bE:aF}{d:Nat}{t:TypeId}{p q:aJ}{u v:Value}{ans cu:List ci}{obs:List Prop}
  (aZ:cI w0 st a w ω τ) (hp:cU (Sat w ω τ) p u) (az:cU (Sat w ω τ) q v) (h:Ei P st d t p q ans=some (bE,cu,obs)) (aU:cO obs):
  ∃z aS,(Instr.makeSlice t u v).run P w=.ok z aS/\Rel w0 bE (a.put (some d) z) aS:=by
 unfold Ei at h;split at h
 ·rename_i e hu;split at h
  ·rename_i i cG l cg c hi e1 e2;split at h
   ·rename_i z a6;split at h
    ·rename_i ak;obtain⟨k1,kI,k2,sD⟩:=ak;simp only[aX,bJ]at h;obtain⟨rfl,_,rfl⟩:=h;obtain⟨cv,ca,cD,ff,_⟩:=aU;rw[aJ.oq e1 hp,aJ.oq e2 az];have fU:=run_make (P:=P) w t e i z hu hi a6 cG cg l c cv ca cD ff;have gg:(w.alloc (.cells (madeCells z.cells (c.toNat*i.size)) e)).heap[w.heap.size]?=some (.cells (madeCells z.cells (c.toNat*i.size)) e (0,0)):=rE;have eT:(madeCells z.cells (c.toNat*i.size)).size=c.toNat*i.size:=by simp[madeCells]
     have vR:=aZ.jt d sD [] (k:=i.size) (cap:=c.toNat) (es:=List.replicate l.toNat (z.cells.toList.map .v)) (w1:=w.alloc (.cells (madeCells z.cells (c.toNat*i.size)) e))
      ((gO.refl _ _).alloc (ei _) _) gg (by simp;omega) (by omega) (fun e' he=>by rw[List.eq_of_mem_replicate he];simp[k1]) (fun x j q8 aE=>by
       obtain⟨aa,aE⟩:=ass aE;rw[du,b8]at aE;obtain⟨tu,jG,rfl⟩:=aE;have bd:j<z.cells.size:=by
        have:=(eW.1 jG).1;simpa using this
       refine⟨tu,?_,.v tu,?_,rfl,fun s ai=>by cases ai⟩
       ·rw[k1,Q4 z.cells c.toNat x j (by omega) bd];simpa using jG
       have:tu.oneCell'=true:=by
        have h1:=Array.all_eq_true'.1 k2;exact h1 tu (by simpa using fF jG)
       simp[aH.iQ,this])
     simp only[List.length_replicate]at vR;exact⟨_,_,fU,_,_,vR.1.put (p:=.one (.J (.own d) i.size (List.replicate l.toNat (z.cells.toList.map .v)))) vR.2⟩
    cases h
   cases h
  cases h
 cases h
end Go.Sx
namespace Go.Sx
open Go.RowKit
def nM(k:Nat):Nat->List aH->List (List aH)
 | 0,_=>[]
 | n+1,ls=>ls.take k::nM k n (ls.drop k)
theorem KH(k:Nat):∀(n:Nat) (ls:List aH) (i:Nat),(nM k n ls)[i]?=if i<n then some ((ls.drop (i*k)).take k) else none
 | 0,ls,i=>by simp[nM]
 | n+1,ls,0=>by simp[nM]
 | n+1,ls,i+1=>by
  simp only[nM,oY,KH k n];by_cases h:i<n
  ·rw[bi h,bi (by omega),List.drop_drop]
   congr 3
   rw[fA];omega
  rw[ba h,ba (by omega)]
theorem Q5(k:Nat):∀(n:Nat) (ls:List aH),(nM k n ls).length=n
 | 0,_=>rfl
 | n+1,ls=>by simp[nM,Q5 k n]
def k'(i:Nat):Nat->List aH->hF
 | _,[]=>[]
 | j,l::ls=>match l.tok with
  | some s=>(s,(i,j))::k' i (j+1) ls
  | none=>k' i (j+1) ls
def rG:Nat->List (List aH)->hF
 | _,[]=>[]
 | i,e::es=>k' i 0 e++rG (i+1) es
def y2(t:Nat)(ms:hF):Bool:=decide (t<dj)&&ms.all fun x=>x.1≠t&&(match ms.at x.1 with | some p=>p.1==x.2.1&&p.2==x.2.2 | none=>false)
theorem KI(i:Nat):∀(ls:List aH) (j0 j:Nat) (l:aH) (s:Nat),ls[j]?=some l->l.tok=some s->(s,(i,j0+j))∈k' i j0 ls
 | [],_,_,_,_,h,_=>by simp at h
 | gh::ls,j0,0,l,s,h,ai=>by
  simp at h;subst h;simp only[k',ai];exact eO
 | gh::ls,j0,j+1,l,s,h,ai=>by
  have:=KI i ls (j0+1) j l s (by simpa using h) ai;rw[show j0+1+j=j0+(j+1) by omega]at this;simp only[k'];split
  ·exact fi _ this
  exact this
theorem Q6:∀(es:List (List aH)) (i0 i j:Nat) (e:List aH) (l:aH) (s:Nat),es[i]?=some e->e[j]?=some l->l.tok=some s->(s,(i0+i,j))∈rG i0 es
 | [],_,_,_,_,_,_,h,_,_=>by simp at h
 | bM::es,i0,0,j,e,l,s,h,ag,ai=>by
  simp at h;subst h;simp only[rG];have:=KI i0 bM 0 j l s ag ai;rw[dG]at this;exact gN _ this
 | bM::es,i0,i+1,j,e,l,s,h,ag,ai=>by
  have:=Q6 es (i0+1) i j e l s (by simpa using h) ag ai;rw[show i0+1+i=i0+(i+1) by omega]at this;simp only[rG];exact hR _ this
variable{ms:hF}
theorem ast{t:Nat}(h:y2 t ms=true):t<dj:=by
 unfold y2 at h;rw[cm,cr]at h;exact h.1
theorem asu{t:Nat}(h:y2 t ms=true){s:Nat}{p:Nat×Nat}(hm:(s,p)∈ms):s≠t/\ms.at s=some p:=by
 unfold y2 at h;rw[cm]at h;have:=fK.1 h.2 _ hm;simp only[cm,cr]at this;refine⟨this.1,?_⟩;have U:=this.2;split at U
 ·rename_i qu e;simp only[cm,ed]at U;rw[e]
  congr 1
  exact Prod.ext U.1 U.2
 cases U
def Bh(P:Program)(st:aF)(d:Nat)(t:TypeId)(len:Nat)(parts:List (Nat×Operand))(ans:List ci):Stepped:=
 match P.underlying t with
 | some (.slice e)=>
  match P.info? e with
  | some i=>
   match i.zero with
   | some z=>
    if i.size=z.cells.size/\0<i.size/\len*i.size<=16777216 then
     match q9 (fun x=>some (x*i.size,i.size)) ((List.replicate len (z.cells.toList.map aH.v)).flatten) (parts.map fun x=>(x.1,st.br x.2)) with
     | some r=>
      let ls:=nM i.size len r
      match ls.mapM (fun x=>x.mapM aH.iQ) with
      | some es=>if y2 d (rG 0 ls) then
        some (⟨(st.jt d (rG 0 ls)).env.set d (.one (.J (.own d) i.size es)),(st.jt d (rG 0 ls)).boxes⟩,ans,[]) else none
      | none=>none
     | none=>none
    else none
   | none=>none
  | none=>none
 | _=>none
def Dj(P:Program)(st:aF)(d:Nat)(t:TypeId)(len:Nat)(parts:List (Nat×Operand)):Option (Nat×List (List D)×hF):=
 match P.underlying t with
 | some (.slice e)=>
  match P.info? e with
  | some i=>
   match i.zero with
   | some z=>
    if i.size=z.cells.size/\0<i.size/\len*i.size<=16777216 then
     match q9 (fun x=>some (x*i.size,i.size)) ((List.replicate len (z.cells.toList.map aH.v)).flatten) (parts.map fun x=>(x.1,st.br x.2)) with
     | some r=>
      match (nM i.size len r).mapM (fun x=>x.mapM aH.iQ) with
      | some es=>if y2 d (rG 0 (nM i.size len r)) then some (i.size,es,rG 0 (nM i.size len r)) else none
      | none=>none
     | none=>none
    else none
   | none=>none
  | none=>none
 | _=>none
theorem asv{P:Program}{st:aF}{d:Nat}{t:TypeId}{len:Nat}{parts:List (Nat×Operand)}{k:Nat}{es:List (List D)}(h:Dj P st d t len parts=some (k,es,ms))(ans:List ci):
  Bh P st d t len parts ans=some (⟨(st.jt d ms).env.set d (.one (.J (.own d) k es)),(st.jt d ms).boxes⟩,ans,[]):=by
 unfold Dj at h;unfold Bh;split at h
 ·rename_i e h1
  try rw[h1]
  split at h
  ·rename_i i U
   try simp only[U]
   split at h
   ·rename_i z ax
    try simp only[ax]
    split at h
    ·rename_i ak
     try rw[bi ak]
     split at h
     ·rename_i r aK
      try simp only[aK]
      split at h
      ·rename_i cH a7
       try simp only[a7]
       split at h
       ·rename_i bp;simp only[aX,bJ]at h;obtain⟨rfl,rfl,rfl⟩:=h
        try rw[bi bp]
       cases h
      cases h
     cases h
    cases h
   cases h
  cases h
 cases h
theorem nN{α β:Type}{f:α->Option β}:∀{xs:List α} {ys:List β},xs.mapM f=some ys->ys.length=xs.length/\∀(i:Nat) (y:β),ys[i]?=some y->∃x,xs[i]?=some x/\f x=some y
 | [],ys,h=>by simp at h;subst h;exact⟨rfl,fun i y bu=>by simp at bu⟩
 | x::xs,ys,h=>by
  rw[xO]at h;cases e:f x with
  | none=>simp[e]at h
  | some Gk=>
   cases e2:xs.mapM f with
   | none=>simp[e,e2]at h
   | some G6=>
    simp[e,e2]at h;subst h;obtain⟨h1,U⟩:=nN e2;refine⟨by simp[h1],fun i y bu=>?_⟩;cases i with
    | zero=>simp at bu;subst bu;exact⟨x,rfl,e⟩
    | succ i=>exact U i y (by simpa using bu)
theorem Q7{α:Type}(e:List α):∀(n i j:Nat),i<n->j<e.length->((List.replicate n e).flatten)[i*e.length+j]?=e[j]?
 | 0,i,j,hi,_=>by omega
 | n+1,0,j,_,bd=>by
  rw[List.replicate_succ,List.flatten_cons,lk,Nat.zero_mul,dG,bi bd]
 | n+1,i+1,j,hi,bd=>by
  rw[List.replicate_succ,List.flatten_cons,lk,ba (by rw[fA];omega)];have:=Q7 e n i j (by omega) bd;rw[<-this]
  congr 1
  rw[fA];omega
theorem cI.buildSlice{P:Program}{w0:eK}{st bE:aF}{a:Act}{w:World}{ω:Own}{τ:Nat->Nat×Value}{d:Nat}{t:TypeId}{len:Nat}{parts:Array (Nat×Operand)}{ans cu:List ci}{obs:List Prop}
  (aZ:cI w0 st a w ω τ) (h:Bh P st d t len parts.toList ans=some (bE,cu,obs)):
  ∃z aS,(Instr.buildSlice t len (parts.map fun (i,x)=>(i,a.eval x))).run P w=.ok z aS/\Rel w0 bE (a.put (some d) z) aS:=by
 unfold Bh at h;split at h
 ·rename_i e hu;split at h
  ·rename_i i hi;split at h
   ·rename_i z a6;split at h
    ·rename_i ak;obtain⟨k1,kI,k2⟩:=ak;split at h
     ·rename_i r aA;simp only at h;split at h
      ·rename_i es DE;split at h
       ·rename_i Qe;simp only[aX,bJ]at h;obtain⟨rfl,_,_⟩:=h;have l1:(z.cells.toList.map aH.v).length=i.size:=by simp[k1]
        have azg:((List.replicate len (z.cells.toList.map aH.v)).flatten).length=len*i.size:=by simp[k1]
        have Jh:kk (Sat w ω τ) ((List.replicate len (z.cells.toList.map aH.v)).flatten) (madeCells z.cells (len*i.size)):=by
         refine⟨by simp[madeCells,k1],fun x l ag=>?_⟩;have bL:x<len*i.size:=by
          have:=(eW.1 ag).1;omega
         have aa:x=(x / i.size)*i.size+x % i.size:=by rw[Nat.mul_comm];exact (Nat.div_add_mod x i.size).symm
         have az:x / i.size<len:=Nat.div_lt_of_lt_mul (by rw[Nat.mul_comm];exact bL);have hm:x % i.size<i.size:=Nat.mod_lt _ kI;have h1:=Q7 (z.cells.toList.map aH.v) len (x / i.size) (x % i.size) az (by omega);rw[l1,<-aa,ag]at h1;have U:=h1.symm;rw[du,b8]at U;obtain⟨u,jG,rfl⟩:=U;refine⟨u,?_,rfl⟩;have ax:=Q4 z.cells len (x / i.size) (x % i.size) az (by omega);rw[<-k1,<-aa]at ax;rw[ax];simpa using jG
        obtain⟨out,Is,DO⟩:=JL (vals:=parts.toList.map fun x=>(x.1,a.eval x.2)) (by simp) (fun j fI p bd=>by
         rw[du,b8]at bd;obtain⟨⟨i2,x⟩,aa,e⟩:=bd;simp only[bJ]at e;obtain⟨rfl,rfl⟩:=e;exact⟨a.eval x,by simp only[du,aa,n0],aZ.br x⟩) aA Jh
        obtain⟨sL,dq⟩:=nN DE;have hlen:es.length=len:=by rw[sL,Q5]
        have aaD:∀x j q8,c9 es x j=some q8->∃l,x<len/\j<i.size/\r[x*i.size+j]?=some l/\l.iQ=some q8/\∃vN,(nM i.size len r)[x]?=some vN/\vN[j]?=some l:=by
         intro x j q8 aE;unfold c9 at aE;cases aa:es[x]? with
         | none=>simp[aa]at aE
         | some e'=>
          rw[aa,mZ]at aE;obtain⟨vN,h1,U⟩:=dq x e' aa;obtain⟨ax,aK⟩:=nN U;obtain⟨l,a7,bp⟩:=aK j q8 aE;have aai:=h1;rw[KH]at h1;split at h1
          ·simp only[aX]at h1;subst h1;have aaj:=a7;rw[kX]at a7;split at a7
           ·rw[ky]at a7;exact⟨l,‹_›,‹_›,a7,bp,_,aai,aaj⟩
           cases a7
          cases h1
        have Qp:r.length=len*i.size:=by
         have:=DO.1;have U:out.size=(madeCells z.cells (len*i.size)).size:=by
          have:=DO.1;have aK:∀(gh:List (Nat×aJ)) (jq gL:List aH),q9 (fun x=>some (x*i.size,i.size)) jq gh=some gL->gL.length=jq.length:=by
           intro gh;induction gh with
           | nil=>intro jq gL h;simp[q9]at h;rw[h]
           | cons x gh dI=>
            intro jq gL h;obtain⟨lK,ho⟩:=x;simp only[q9]at h;split at h
            ·split at h
             ·rename_i bQ;rw[dI _ _ h,JK (by omega)]
             cases h
            cases h
          have:=aK _ _ _ aA;simp[madeCells];omega
         simp[madeCells]at U;omega
        have gg:(w.alloc (.cells out e)).heap[w.heap.size]?=some (.cells out e (0,0)):=rE;have vR:=aZ.jt d (ast Qe) (rG 0 (nM i.size len r)) (k:=i.size) (cap:=len) (es:=es) (w1:=w.alloc (.cells out e))
         ((gO.refl _ _).alloc (ei _) _) gg (by omega) (by rw[DO.1,Qp];exact ei _)
         (fun e' he=>by
          obtain⟨x,aa⟩:=r8.1 he;obtain⟨vN,h1,U⟩:=dq x e' aa;obtain⟨ax,_⟩:=nN U;rw[ax];rw[KH]at h1;split at h1
          ·simp only[aX]at h1;subst h1;have:(x+1)*i.size<=len*i.size:=hq _ (by omega);rw[fA]at this;simp;omega
          cases h1)
         (fun x j q8 aE=>by
          obtain⟨l,h1,U,ax,aK,vN,a7,bp⟩:=aaD x j q8 aE;obtain⟨u,b6,dn⟩:=DO.2 _ _ ax;refine⟨u,b6,l,aK,dn,fun s ai=>?_⟩;have:=Q6 (nM i.size len r) 0 x j vN l s a7 bp ai;rw[dG]at this;exact asu Qe this)
        rw[hlen]at vR;refine⟨_,_,?_,_,_,vR.1.put (p:=.one (.J (.own d) i.size es)) vR.2⟩;have ph:((Array.range (len*i.size)).map (fun x=>(if len*i.size=0 then (#[]:Array Value) else z.cells)[x % (if len*i.size=0 then (#[]:Array Value) else z.cells).size]!))=madeCells z.cells (len*i.size):=by
         unfold madeCells;by_cases bg:len*i.size=0
         ·simp[bg]
         simp[bg]
        have e:(Array.map (fun (x:Nat×Operand)=>(x.1,a.eval x.2)) parts).toList=parts.toList.map fun x=>(x.1,a.eval x.2):=by simp
        have abt:¬(len*i.size>2 ^ 24):=by have:(2:Nat) ^ 24=16777216:=(by decide);omega
        simp only[Instr.buildSlice,Sem.run_bind,run_underlying hu,Result.andThen_ok,sizeOf,typeInfo,run_program,hi,Sem.run_pure];rw[ba abt];by_cases bg:len*i.size=0
        ·simp only[bg,fQ]at ph ⊢;simp only[Sem.run_pure,Sem.run_bind,Result.andThen_ok,e];rw[bg]at Is;rw[ph,Is];simp[newRow]
        simp only[bg,ll]at ph ⊢;simp only[zeroValue,typeInfo,Sem.run_bind,run_program,Result.andThen_ok,hi,a6,Sem.run_pure,e];rw[ph,Is];simp[newRow]
       cases h
      cases h
     cases h
    cases h
   cases h
  cases h
 cases h
end Go.Sx
namespace Go.Sx
open Go.RowKit
variable{w:World}{ω a':Own}{k n:Nat}{es:List (List D)}
theorem b7.XL{aS:World}{R iw:List (Nat×Nat)->c8->Prop}{b off cap:Nat}(h:b7 w ω R (.J k es) (.slice (some ⟨b,off,none⟩) n cap))
  {arr cf:Array Value} {ty:TypeId} {c0:Nat×Nat} (aj:w.heap[b]?=some (.cells arr ty c0)) (dz:aS.heap[b]?=some (.cells cf ty c0)) (eT:cf.size=arr.size)
  (aas:∀x,x<off+n*k->cf[x]?=arr[x]?) (DA:∀o,o=ω b->R [] o->iw [] (a' b)) (lY:∀c p q,c<w.heap.size->R (p::q) (ω c)->iw (p::q) (a' c)/\aS.heap[c]?=w.heap[c]?):
  b7 aS a' iw (.J k es) (.slice (some ⟨b,off,none⟩) n cap):=by
 generalize bu:Value.slice (some ⟨b,off,none⟩) n cap=y at h;cases h with
 | nil=>cases bu;exact .nil _ _ _
 | row R k es eX qs pW ix iR HE us gp dT ak ai hk hu aE=>
  simp only[Value.slice.injEq,aX,Addr.mk.injEq]at bu;obtain⟨⟨rfl,rfl,_⟩,rfl,rfl⟩:=bu;rw[aj]at gp;simp only[aX,Obj.cells.injEq]at gp;obtain⟨rfl,rfl,rfl⟩:=gp;refine .row iw k es b off cap cf ty c0 us dz (DA _ rfl dT) ak (by omega) hk (fun i j d dP=>?_) (fun i j d dP=>(aE i j d dP).frame fun c q p' az=>lY c _ _ p' az);rw[aas,hu i j d dP];have nD:i<es.length/\j<k:=by
   unfold c9 at dP;cases aa:es[i]? with
   | none=>simp[aa]at dP
   | some e=>
    rw[aa,mZ]at dP;have h1:=(eW.1 aa).1;have U:=(eW.1 dP).1;rw[hk e (fF aa)]at U;exact⟨h1,U⟩
  have:(i+1)*k<=es.length*k:=hq _ nD.1;rw[fA]at this;omega
variable{i j:Nat}
theorem s7{d:D}(hk:∀e∈es,e.length=k)(h:c9 es i j=some d):i<es.length/\j<k:=by
 unfold c9 at h;cases aa:es[i]? with
 | none=>simp[aa]at h
 | some e=>
  rw[aa,mZ]at h;have h1:=(eW.1 aa).1;have U:=(eW.1 h).1;rw[hk e (fF aa)]at U;exact⟨h1,U⟩
variable{bX:List (List D)}
theorem Bi:c9 (es++bX) i j=if i<es.length then c9 es i j else c9 bX (i-es.length) j:=by
 unfold c9;rw[lk];split<;>rfl
theorem Q8(hk:∀e∈es,e.length=k)(hi:i<es.length)(bd:j<k):∃d,c9 es i j=some d:=by
 have h1:es[i].length=k:=hk _ (zP hi);exact⟨es[i][j],by simp[c9,hi,h1,bd]⟩
def jv(t:Nat)(dQ:Option Nat)(n:Nat):c8->c8
 | .tok s q=>if dQ=some s then (match q with | []=>.bO | p::dD=>.tok t ((n+p.1,p.2)::dD)) else .tok s q
 | o=>o
def hT(t:Nat)(dQ:Option Nat):Tag->Option Tag
 | .free=>some .free
 | .own s=>if s=t then some (.ro t) else if dQ=some s then none else some (.own s)
 | .ro s=>if s=t then none else if dQ=some s then none else some (.ro s)
structure Src (P:Program) (w:World) (ω:Own) (k:Nat) (bX:List (List D)) (dQ:Option Nat) (y:Value) (news:List Value):Prop where
 len:news.length=bX.length*k
 rows:∀e∈bX,e.length=k
 one:∀u∈news,u.oneCell'=true
 cell:∀i j d,c9 bX i j=some d->∃u,news[i*k+j]?=some u/\((∃x,d=.v x/\u=x)\/∃s,dQ=some s/\b7 w ω (fun q=>(Tag.own s).R ((i,j)::q)) d u)
 shape:((∃a,y=.slice a 0 0)/\bX=[])\/∃b o c,y=.slice (some ⟨b,o,none⟩) bX.length c/\∀j v,news[j]?=some v->w.cell? ((⟨b,o,none⟩:Addr).add j)=some v
variable{t:Nat}{dQ:Option Nat}
theorem KJ{o:c8}{id:Nat}:jv t dQ n o=.box id<->o=.box id:=by
 cases o with
 | bO=>simp[jv]
 | box i=>simp[jv]
 | tok s q=>
  simp only[jv];split
  ·cases q<;>simp
  simp
theorem wL{s:Nat}{q:List (Nat×Nat)}(h:dQ≠some s):jv t dQ n (.tok s q)=.tok s q:=by simp[jv,h]
theorem s8{w aS:World}{g ey:Tag}(iA:dQ≠some t)(av:hT t dQ g=some ey)(ct:g≠.own t)
  (dr:∀c,c<w.heap.size->ω c≠.tok t []->a' c=jv t dQ n (ω c)/\aS.heap[c]?=w.heap[c]?):
  ∀c q,c<w.heap.size->g.R q (ω c)->ey.R q (a' c)/\aS.heap[c]?=w.heap[c]?:=by
 intro c q ak aA;cases g with
 | free=>
  simp only[hT,aX]at av;subst av;simp only[Tag.R]at aA;obtain⟨h1,U⟩:=dr c ak (by rw[aA];simp);rw[h1,aA];exact⟨rfl,U⟩
 | own s=>
  simp only[hT]at av;have ai:s≠t:=fun e=>ct (by rw[e])
  rw[ba ai]at av;split at av
  ·cases av
  rename_i hm;simp only[aX]at av;subst av;simp only[Tag.R]at aA;obtain⟨h1,U⟩:=dr c ak (by rw[aA];simp[ai]);rw[h1,aA,wL hm];exact⟨rfl,U⟩
 | ro s=>
  simp only[hT]at av;split at av
  ·cases av
  rename_i ai;split at av
  ·cases av
  rename_i hm;simp only[aX]at av;subst av;simp only[Tag.R]at aA;rcases aA with aA | ⟨dD,aA⟩
  ·obtain⟨h1,U⟩:=dr c ak (by rw[aA];simp);rw[h1,aA];exact⟨.inl rfl,U⟩
  obtain⟨h1,U⟩:=dr c ak (by rw[aA];simp[ai]);rw[h1,aA,wL hm];exact⟨.inr ⟨dD,rfl⟩,U⟩
def gr(τ:Nat->Nat×Value)(t k:Nat)(z:Value):Nat->Nat×Value:=fun s=>if s=t then (k,z) else τ s
variable{τ:Nat->Nat×Value}
theorem Ej{k:Nat}{z:Value}{g ey:Tag}{y:Nat×Value}(av:hT t dQ g=some ey)(bu:g.ee τ y):ey.ee (gr τ t k z) y:=by
 cases g with
 | free=>simp only[hT,aX]at av;subst av;exact trivial
 | own s=>
  simp only[hT]at av;split at av
  ·simp only[aX]at av;subst av;exact trivial
  split at av
  ·cases av
  simp only[aX]at av;subst av;simp only[Tag.ee,gr]at bu ⊢;rw[ba ‹_›];exact bu
 | ro s=>
  simp only[hT]at av;split at av
  ·cases av
  split at av
  ·cases av
  simp only[aX]at av;subst av;exact trivial
theorem Hm{aS:World}{z:Value}(ia:t<dj)(iA:dQ≠some t)
  (dr:∀c,c<w.heap.size->ω c≠.tok t []->a' c=jv t dQ n (ω c)/\aS.heap[c]?=w.heap[c]?)
  (rc:∀id b,ω b=.box id->a' b=.box id)
  (qg:∀es y,b7 w ω (Tag.own t).R (.J (τ t).1 es) y->y=(τ t).2->b7 aS a' (Tag.ro t).R (.J (τ t).1 es) y):
  ∀l v,Sat w ω τ l v->Sat aS a' (gr τ t k z) (l.cz (hT t dQ) fun _=>true) v:=by
 intro l v ai;cases l with
 | cq=>exact trivial
 | v x=>exact ai
 | bc c=>exact ai
 | ptr id off=>
  simp only[aH.cz,fQ];obtain⟨b,aj,e⟩:=ai;exact⟨b,rc id b aj,e⟩
 | ft s vs=>
  simp only[aH.cz];split
  ·rename_i tp av;split
   ·rename_i IC;subst IC;have ct:Tag.own tp≠.own t:=by
     intro e;simp only[Tag.own.injEq]at e;subst e;simp[hT]at av
    obtain⟨b,ty,arr,e,a7,ax,aR,bF⟩:=ai;have bL:b<w.heap.size:=(jz.1 ax).1;have hk:=s8 (w:=w) (aS:=aS) iA av ct dr b [] bL a7;refine⟨b,ty,arr,e,hk.1,hk.2.trans ax,Ek (fun c u ak=>?_) aR bF⟩;cases c with
    | cq=>exact trivial
    | v x=>exact ak
    | J g cn es=>
     simp only[e9.cz];cases av:hT t dQ g with
     | none=>exact trivial
     | some ey=>
      by_cases ct:g=.own t
      ·subst ct;simp only[hT,fQ,aX]at av;subst av;obtain⟨h1,U⟩:=ak;simp only[Tag.ee]at U;have e1:(τ t).1=cn:=by rw[U]
       have e2:(τ t).2=u:=by rw[U]
       exact⟨by rw[<-e1];exact qg es u (by rw[e1];exact h1) e2.symm,ad⟩
      exact⟨ak.1.frame fun c q ak az=>s8 iA av ct dr c q ak az,Ej av ak.2⟩
   exact trivial
  exact trivial
 | aO s i j cg es m=>
  simp only[aH.cz];split
  ·rename_i tp av;split
   ·rename_i IC;subst IC;have ct:Tag.own tp≠.own t:=by
     intro e;simp only[Tag.own.injEq]at e;subst e;simp[hT]at av
    obtain⟨u,hu,h1,hm⟩:=ai;refine⟨u,hu,h1.frame fun c q ak az=>s8 iA av ct dr c _ ak az,fun bQ=>?_⟩;obtain⟨kT,b,off,len,cap,arr,ty,c0,U,a7,ax,aK⟩:=hm bQ;have bL:b<w.heap.size:=(jz.1 ax).1;have hk:=s8 (w:=w) (aS:=aS) iA av ct dr b [] bL a7;exact⟨kT,b,off,len,cap,arr,ty,c0,Ej (k:=k) (z:=z) av U,hk.1,hk.2.trans ax,aK⟩
   exact trivial
  exact trivial
 | gP f ids=>
  simp only[aH.cz];split
  ·obtain⟨bs,e,aR,hi⟩:=ai;refine⟨bs,e,aR,fun i id fT=>?_⟩;obtain⟨b,h1,U⟩:=hi i id fT;exact⟨b,h1,rc id b U⟩
  exact trivial
 | h0 ds off=>
  obtain⟨b,e,aA⟩:=ai;exact⟨b,e,aA.frame fun c q ak az=>s8 (g:=.free) (ey:=.free) iA rfl (by simp) dr c q ak az⟩
 | fd d=>exact b7.frame ai fun c q ak az=>s8 (g:=.free) (ey:=.free) iA rfl (by simp) dr c q ak az
 | dx t0 dC dO=>exact⟨b7.frame ai.1 fun c q ak az=>s8 (g:=.free) (ey:=.free) iA rfl (by simp) dr c q ak az,fun bH=>(show gr τ t k z t0=τ t0 by simp only[gr];rw[ba (by omega)]).trans (ai.2 bH)⟩
 | J g cn es=>
  simp only[aH.cz];cases av:hT t dQ g with
  | none=>exact trivial
  | some ey=>
   by_cases ct:g=.own t
   ·subst ct;simp only[hT,fQ,aX]at av;subst av;obtain⟨h1,U⟩:=ai;simp only[Tag.ee]at U;have e1:(τ t).1=cn:=by rw[U]
    have e2:(τ t).2=v:=by rw[U]
    exact⟨by rw[<-e1];exact qg es v (by rw[e1];exact h1) e2.symm,ad⟩
   exact⟨ai.1.frame fun c q ak az=>s8 iA av ct dr c q ak az,Ej av ai.2⟩
 | ep g cn es i j=>
  simp only[aH.cz];cases av:hT t dQ g with
  | none=>exact trivial
  | some ey=>
   obtain⟨b,off,cap,e,hi,aA,bQ⟩:=ai;by_cases ct:g=.own t
   ·subst ct;simp only[hT,fQ,aX]at av;subst av;simp only[Tag.ee]at bQ;have e1:(τ t).1=cn:=by rw[bQ]
    have e2:(τ t).2=Value.slice (some ⟨b,off,none⟩) es.length cap:=by rw[bQ]
    exact⟨b,off,cap,e,hi,by rw[<-e1];exact qg es _ (by rw[e1];exact aA) e2.symm,ad⟩
   exact⟨b,off,cap,e,hi,aA.frame fun c q ak az=>s8 iA av ct dr c q ak az,Ej av bQ⟩
def aF.x1(st:aF)(t:Nat)(dQ:Option Nat):aF:=st.map (aH.cz (hT t dQ) fun _=>true)
variable{y:Value}
theorem Q9{P:Program}{t ty e:TypeId}{i:TypeInfo}(bH:P.underlying t=some (.slice e))(hi:P.info? e=some i)(w:World){fb:Value}
  (bu:∃a n c,y=.slice a n c/\n<=c) (mF:∃a c,fb=.slice a 0 c):
  (Builtin.append_ #[t,t] ty #[y,fb]).run P w=.ok y w:=by
 obtain⟨a,n,c,rfl,aR⟩:=bu;obtain⟨a2,c2,rfl⟩:=mF;cases a<;>cases a2<;>
  simp[Builtin.append_,run_underlying bH,sizeOf,typeInfo,hi,Builtin.lenOf,Builtin.firstCells,loadCells,loadCellsFrom,storeCells, *]
theorem Q'{P:Program}{t ty e:TypeId}{i:TypeInfo}(bH:P.underlying t=some (.slice e))(hi:P.info? e=some i)(w:World)
  (b off n cap:Nat) (arr:Array Value) (hB:TypeId) (av:w.heap[b]?=some (.cells arr hB (0,0)))
  (cB:Addr) (m c:Nat) (news:List Value) (ag:news.length=m*i.size) (nF:∀j u,news[j]?=some u->w.cell? (cB.add j)=some u) (h1:∀u∈news,u.oneCell'=true)
  (wj:n+m<=cap) (eQ:off+n*i.size+news.length<=arr.size):
  (Builtin.append_ #[t,t] ty #[.slice (some ⟨b,off,none⟩) n cap,.slice (some cB) m c]).run P w=
   .ok (.slice (some ⟨b,off,none⟩) (n+m) cap) (w.setRow b (arr.toList.take (off+n*i.size)++news++arr.toList.drop (off+n*i.size+news.length)).toArray):=by
 have bw:=run_firstCells_some (P:=P) w i.size m cB m c news ag nF;have e5:=run_storeCells_at P b (off+n*i.size) hB news 0 arr w av (by simpa using eQ) h1;simp only[m']at e5;simp[Builtin.append_,run_underlying bH,sizeOf,typeInfo,hi,Builtin.lenOf,wj,bw,qG,e5]
theorem Src.Pt{P:Program}{aS:World}{a':Own}{n:Nat}{news:List Value}(h:Src P w ω k bX dQ y news)(iA:dQ≠some t)
  (dr:∀c,c<w.heap.size->ω c≠.tok t []->a' c=jv t dQ n (ω c)/\aS.heap[c]?=w.heap[c]?) {i j:Nat} {d:D} (aE:c9 bX i j=some d):
  ∃u,news[i*k+j]?=some u/\b7 aS a' (fun q=>(Tag.own t).R ((n+i,j)::q)) d u:=by
 obtain⟨u,h1,U⟩:=h.cell i j d aE;refine⟨u,h1,?_⟩;rcases U with⟨x,rfl,rfl⟩ | ⟨s,ai,aA⟩
 ·exact .v _ _ (h.one _ (fF h1))
 refine aA.frame fun c q ak az=>?_
 simp only[Tag.R]at az ⊢;have e5:s≠t:=fun e=>iA (by rw[ai,e])
 obtain⟨ax,aK⟩:=dr c ak (by rw[az];simp[e5]);rw[ax,az];exact⟨by simp[jv,ai],aK⟩
theorem cI.append{P:Program}{w0:eK}{st:aF}{a:Act}(aZ:cI w0 st a w ω τ){fb:Value}{news:List Value}
  (hp:Sat w ω τ (.J (.own t) k es) y) (jF:Src P w ω k bX dQ fb news) (iA:dQ≠some t) {ty h2 e:TypeId} {i:TypeInfo} {z:Value}
  (bH:P.underlying h2=some (.slice e)) (hi:P.info? e=some i) (a6:i.zero=some z) (hk:i.size=k) (pj:z.cells.size=k)
  (hJ:(es.length+bX.length)*i.bytes<=140737488355328) (gp:es.length+bX.length<=9223372036854775807) (ia:t<dj):
  ∃r aS a',(Builtin.append_ #[h2,h2] ty #[y,fb]).run P w=.ok r aS/\cI w0 (st.x1 t dQ) a aS a' (gr τ t k r)/\Sat aS a' (gr τ t k r) (.J (.own t) k (es++bX)) r:=by
 subst hk;obtain⟨aA,bQ⟩:=hp;simp only[Tag.ee]at bQ;have e1:(τ t).1=i.size:=by rw[bQ]
 have e2:(τ t).2=y:=by rw[bQ]
 have H9:∀r:Value,∀s,dj<=s->gr τ t i.size r s=τ s:=fun r s ai=>by simp only[gr];rw[ba (by omega)]
 have aa7:(Tag.own t).ee (gr τ t i.size y) (i.size,y):=by simp[Tag.ee,gr]
 by_cases hm:bX.length=0
 ·
  have H8:bX=[]:=xN hm;subst H8
  let a':Own:=fun c=>jv t dQ es.length (ω c)
  have dr:∀c,c<w.heap.size->ω c≠.tok t []->a' c=jv t dQ es.length (ω c)/\w.heap[c]?=w.heap[c]?:=fun c _ _=>⟨rfl,rfl⟩
  have fU:(Builtin.append_ #[h2,h2] ty #[y,fb]).run P w=.ok y w:=by
   refine Q9 bH hi w ?_ ?_
   ·cases aA with
    | nil _ _ a0=>exact⟨a0,0,0,rfl,ei _⟩
    | row R k es b off cap arr ty c0 us aj dT ak ai hk hu aE=>exact⟨some ⟨b,off,none⟩,_,cap,rfl,ak⟩
   rcases jF.shape with⟨⟨a,h⟩,_⟩ | ⟨b,o,c,h,_⟩
   ·exact⟨a,0,h⟩
   exact⟨some ⟨b,o,none⟩,c,h⟩
  refine⟨y,w,a',fU,aZ.di _ (Hm ia iA dr (fun id b aj=>by simp[a',aj,jv]) ?_) aZ.below ?_ ?_ ?_ (H9 _),?_,aa7⟩
  ·intro cH gy eo _;refine eo.frame fun c q ak az=>⟨?_,rfl⟩
   simp only[Tag.R]at az ⊢;simp only[a',az];exact .inr ⟨q,wL iA⟩
  ·intro b aj;have:ω b≠.bO:=fun e=>by simp[a',e,jv]at aj
   exact aZ.owned b this
  ·intro id b aj;exact⟨by simp[a',aj,jv],rfl⟩
  ·intro id b aj;exact KJ.1 aj
  rw[lL];refine aA.frame fun c q ak az=>⟨?_,rfl⟩
  simp only[Tag.R]at az ⊢;simp only[a',az];exact wL iA
 have v7:0<bX.length:=by omega
 rcases jF.shape with⟨_,h⟩ | ⟨bc,ml,qT,rfl,nF⟩
 ·rw[h]at v7;simp at v7
 have grown:∀(w1:World) (cf:Array Value) (r:Value) (o3:Nat),gO w.heap.size w w1->w1.heap[w.heap.size]?=some (.cells cf e (0,0))->r=.slice (some ⟨w.heap.size,0,none⟩) (es.length+bX.length) o3->
   es.length+bX.length<=o3->o3*i.size<=cf.size->(∀fI j d,c9 es fI j=some d->∃u,cf[fI*i.size+j]?=some u/\∃R:List (Nat×Nat)->c8->Prop,(∀q o,R q o->o=.tok t ((fI,j)::q))/\b7 w ω R d u)->
   (∀x u,news[x]?=some u->cf[es.length*i.size+x]?=some u)->(∀e∈es,e.length=i.size)->
   ∃a',cI w0 (st.x1 t dQ) a w1 a' (gr τ t i.size r)/\Sat w1 a' (gr τ t i.size r) (.J (.own t) i.size (es++bX)) r:=by
  intro w1 cf r o3 kH gg Iw gd eT hold Az ud;subst Iw
  let a':Own:=fun c=>if c=w.heap.size then .tok t [] else @ite _ (ω c=.tok t []) (Classical.propDecidable _) .bO (jv t dQ es.length (ω c))
  have azh:ω w.heap.size=.bO:=aZ.owned.fresh (ei _);have dr:∀c,c<w.heap.size->ω c≠.tok t []->a' c=jv t dQ es.length (ω c)/\w1.heap[c]?=w.heap[c]?:=by
   intro c ak ct;refine⟨?_,kH.block c ak⟩;simp only[a'];rw[ba (by omega),ba ct]
  have k5:a' w.heap.size=.tok t []:=by simp[a']
  have lY:∀c p q,c<w.heap.size->ω c=.tok t (p::q)->a' c=.tok t (p::q):=by
   intro c p q ak az;rw[(dr c ak (by rw[az];simp)).1,az,wL iA]
  refine⟨a',aZ.di _ (Hm ia iA dr ?_ ?_) (aZ.below.next kH) ?_ ?_ ?_ (H9 _),?_,by simp[Tag.ee,gr]⟩
  ·intro id b aj;have bL:=aZ.owned.lt (b:=b) (by simp[aj]);rw[(dr b bL (by rw[aj];simp)).1,aj];rfl
  ·intro cH gy eo _;refine eo.frame fun c q ak az=>⟨?_,kH.block c ak⟩
   simp only[Tag.R]at az ⊢;cases q with
   | nil=>left;simp only[a'];rw[ba (by omega),bi az]
   | cons p q=>right;exact⟨_,lY c p q ak az⟩
  ·intro b aj;by_cases tT:b=w.heap.size
   ·subst tT;exact⟨.inl aZ.below.size,cf,e,gg⟩
   have:ω b≠.bO:=by
    intro e';simp only[a']at aj;rw[ba tT,e']at aj;simp[jv]at aj
   obtain⟨ax,ix,iR,aK⟩:=aZ.owned b this;exact⟨ax,ix,iR,(kH.block b (aZ.owned.lt this)).trans aK⟩
  ·intro id b aj;have bL:=aZ.owned.lt (b:=b) (by simp[aj]);obtain⟨h1,U⟩:=dr b bL (by rw[aj];simp);exact⟨by rw[h1,aj];rfl,U⟩
  ·intro id b aj;by_cases tT:b=w.heap.size
   ·subst tT;rw[k5]at aj;cases aj
   simp only[a']at aj;rw[ba tT]at aj;split at aj
   ·cases aj
   exact KJ.1 aj
  have fa:∀x j d,c9 (es++bX) x j=some d->∃u,cf[x*i.size+j]?=some u/\b7 w1 a' (fun q=>(Tag.own t).R ((x,j)::q)) d u:=by
   intro x j d aE;rw[Bi]at aE;split at aE
   ·obtain⟨u,h1,R,dT,U⟩:=hold x j d aE;refine⟨u,h1,U.frame fun c q ak az=>⟨?_,kH.block c ak⟩⟩;exact lY c _ _ ak (dT q _ az)
   rename_i aa;obtain⟨u,h1,U⟩:=jF.Pt (aS:=w1) (a':=a') (n:=es.length) iA dr aE;refine⟨u,?_,?_⟩
   ·rw[<-Az _ u h1]
    congr 1
    have:x=es.length+(x-es.length):=by omega
    rw[this,fA];simp only[Nat.add_sub_cancel_left];omega
   rwa[show es.length+(x-es.length)=x by omega]at U
  have hlen:(es++bX).length=es.length+bX.length:=jy;have qj:∀e∈es++bX,e.length=i.size:=by
   intro e' he;rcases hD.1 he with h | h
   ·exact ud e' h
   exact jF.rows e' h
  have:=b7.row (w:=w1) (ω:=a') (Tag.own t).R i.size (es++bX) w.heap.size 0 o3 cf e (0,0) (fun x j=>cf.getD (x*i.size+j) undef) gg k5 (by omega) (by omega) qj
   (fun x j d aE=>by obtain⟨u,h1,_⟩:=fa x j d aE;rw[dG,h1];simp[ew,h1])
   (fun x j d aE=>by obtain⟨u,h1,U⟩:=fa x j d aE;have:cf.getD (x*i.size+j) undef=u:=(by simp[ew,h1]);rw[this];exact U)
  rw[hlen]at this;exact this
 generalize QD:y=Gk at aA;cases aA with
 | nil _ _ a0=>
  subst QD;simp only[ch,dG]at hJ gp;have fU:(Builtin.append_ #[h2,h2] ty #[.slice a0 0 0,.slice (some ⟨bc,ml,none⟩) bX.length qT]).run P w=
    .ok (.slice (some ⟨w.heap.size,0,none⟩) bX.length (grownCap w bX.length 0 e)) (w.drew.alloc (.cells (news.toArray++Builtin.zeroCells z.cells (grownCap w bX.length 0 e-bX.length)) e)):=by
   cases a0 with
   | none=>exact run_append_nil (P:=P) w h2 ty e i z bH hi a6 ⟨bc,ml,none⟩ bX.length qT news jF.len nF v7 (by omega) (by omega)
   | some b9=>
    have:=run_append_grow (P:=P) w h2 ty e i z bH hi a6 b9 0 0 [] (by simp) (fun j v bF=>by simp at bF) ⟨bc,ml,none⟩ bX.length qT news jF.len nF (by omega) (by omega) (growslice_fits (by omega) (by simpa using hJ));simpa using this
  have nC:=grownCap_ge w bX.length 0 e;obtain⟨a',h1,U⟩:=grown _ (news.toArray++Builtin.zeroCells z.cells (grownCap w bX.length 0 e-bX.length)) (.slice (some ⟨w.heap.size,0,none⟩) bX.length (grownCap w bX.length 0 e)) (grownCap w bX.length 0 e)
   (((gO.refl _ _).drew).alloc (ei _) _) (rE) (by simp) (by simpa using nC) (by
    simp only[vw,nZ,size_zeroCells,jF.len,pj,<-fA];exact hq _ (by omega))
   (fun fI j d aE=>by simp[c9]at aE) (fun x u aa=>by
    simp only[ch,Nat.zero_mul,dG];rw[kf,bi (by have:=(eW.1 aa).1;simpa using this)];simpa using aa) (fun e he=>by cases he)
  exact⟨_,_,a',fU,h1,U⟩
 | row R k es b off cap arr hB c0 us aj dT ak ai gq hu aE=>
  have h9:ω b=.tok t []:=dT;obtain⟨wh,tH,vq,iZ⟩:=aZ.owned b (by rw[h9];simp);rw[aj]at iZ;simp only[aX,Obj.cells.injEq]at iZ;obtain⟨rfl,rfl,rfl⟩:=iZ;have vS:b<w.heap.size:=(jz.1 aj).1;by_cases wj:es.length+bX.length<=cap
  ·
   have hmul:(es.length+bX.length)*i.size<=cap*i.size:=hq _ wj;rw[fA]at hmul;have Ik:=jF.len;have eQ:off+es.length*i.size+news.length<=arr.size:=by omega
   have fU:=Q' (P:=P) (ty:=ty) bH hi w b off es.length cap arr hB aj ⟨bc,ml,none⟩ bX.length qT news jF.len nF jF.one wj eQ;generalize ny:(arr.toList.take (off+es.length*i.size)++news++arr.toList.drop (off+es.length*i.size+news.length)).toArray=cf at fU;have hW:∀x:Nat,cf[x]?=if off+es.length*i.size<=x/\x<off+es.length*i.size+news.length then news[x-(off+es.length*i.size)]? else arr[x]?:=by
    intro x;rw[<-ny,pP,Bg (by simpa using eQ)];simp
   have yv:cf.size=arr.size:=by rw[<-ny];simp;omega
   have jB:=setRow_heap w b arr cf hB (0,0) aj
   let a':Own:=fun c=>jv t dQ es.length (ω c)
   have dr:∀c,c<w.heap.size->ω c≠.tok t []->a' c=jv t dQ es.length (ω c)/\(w.setRow b cf).heap[c]?=w.heap[c]?:=fun c _ ct=>
    ⟨rfl,setRow_other w b c cf fun e=>ct (by rw[e];exact h9)⟩
   have k5:a' b=.tok t []:=by simp only[a',h9];exact wL iA
   have lY:∀c p q,c<w.heap.size->ω c=.tok t (p::q)->a' c=.tok t (p::q)/\(w.setRow b cf).heap[c]?=w.heap[c]?:=by
    intro c p q ak az;obtain⟨h1,U⟩:=dr c ak (by rw[az];simp);rw[h1,az,wL iA];exact⟨rfl,U⟩
   refine⟨_,_,a',fU,aZ.di _ (Hm ia iA dr (fun id c gf=>by simp[a',gf,jv]) ?_) ?_ ?_ ?_ ?_ (H9 _),?_,by simp[Tag.ee,gr]⟩
   ·intro cH gy eo vX;rw[vX,e2,QD]at eo ⊢;rw[e1]at eo ⊢;have kJ:es.length=cH.length:=by
     obtain⟨_,_,h⟩:=eo.len;simp only[Value.slice.injEq]at h;exact h.2.1
    refine b7.XL eo aj jB yv (fun x aa=>?_) (fun o aU yt=>?_) (fun c p q ak az=>?_)
    ·rw[hW,ba (by omega)]
    ·right;exact⟨[],k5⟩
    simp only[Tag.R]at az ⊢;obtain⟨h1,U⟩:=lY c p q ak az;exact⟨.inr ⟨_,h1⟩,U⟩
   ·exact aZ.below.setRow wh cf
   ·intro c gf;have:ω c≠.bO:=fun e=>by simp[a',e,jv]at gf
    obtain⟨ax,ix,iR,aK⟩:=aZ.owned c this;by_cases p8:c=b
    ·subst p8;exact⟨ax,cf,hB,jB⟩
    exact⟨ax,ix,iR,(setRow_other w b c cf p8).trans aK⟩
   ·intro id c gf;exact⟨by simp[a',gf,jv],setRow_other w b c cf fun e=>by rw[e,h9]at gf;cases gf⟩
   ·intro id c gf;exact KJ.1 gf
   have fa:∀x j d,c9 (es++bX) x j=some d->∃u,cf[off+x*i.size+j]?=some u/\b7 (w.setRow b cf) a' (fun q=>(Tag.own t).R ((x,j)::q)) d u:=by
    intro x j d eb;rw[Bi]at eb;split at eb
    ·rename_i aa;have Aw:=(s7 gq eb).2;refine⟨us x j,?_,(aE x j d eb).frame fun c q ak az=>?_⟩
     ·have:(x+1)*i.size<=es.length*i.size:=hq _ aa;rw[fA]at this;rw[hW,ba (by omega),hu x j d eb]
     exact lY c _ _ ak az
    rename_i aa;obtain⟨u,h1,U⟩:=jF.Pt (aS:=w.setRow b cf) (a':=a') (n:=es.length) iA dr eb;have acj:=(eW.1 h1).1;have yx:x*i.size=es.length*i.size+(x-es.length)*i.size:=by rw[<-fA];congr 1;omega
    refine⟨u,?_,?_⟩
    ·rw[hW,bi (by omega),<-h1]
     congr 1
     omega
    rwa[show es.length+(x-es.length)=x by omega]at U
   have hlen:(es++bX).length=es.length+bX.length:=jy;have qj:∀e∈es++bX,e.length=i.size:=by
    intro e' he;rcases hD.1 he with h | h
    ·exact gq e' h
    exact jF.rows e' h
   have:=b7.row (w:=w.setRow b cf) (ω:=a') (Tag.own t).R i.size (es++bX) b off cap cf hB (0,0) (fun x j=>cf.getD (off+x*i.size+j) undef) jB k5 (by omega) (by omega) qj
    (fun x j d aE=>by obtain⟨u,h1,_⟩:=fa x j d aE;rw[h1];simp[ew,h1])
    (fun x j d aE=>by obtain⟨u,h1,U⟩:=fa x j d aE;have:cf.getD (off+x*i.size+j) undef=u:=(by simp[ew,h1]);rw[this];exact U)
   rw[hlen]at this;exact this
  -- it ay6
  have hmul:es.length*i.size<=cap*i.size:=hq _ ak;have mz:((arr.toList.drop off).take (es.length*i.size)).length=es.length*i.size:=by simp;omega
  have fU:=run_append_grow (P:=P) w h2 ty e i z bH hi a6 ⟨b,off,none⟩ es.length cap ((arr.toList.drop off).take (es.length*i.size)) mz (fun j v bF=>by
   rw[qG,cell_of_row w b (off+j) arr hB (0,0) aj];rw[kX]at bF;split at bF
   ·rw[ky]at bF;simpa using bF
   cases bF) ⟨bc,ml,none⟩ bX.length qT news jF.len nF (by omega) (by omega) (growslice_fits (by omega) hJ)
  have nC:=grownCap_ge w (es.length+bX.length) cap e;obtain⟨a',h1,U⟩:=grown _ (((arr.toList.drop off).take (es.length*i.size)).toArray++news.toArray++Builtin.zeroCells z.cells (grownCap w (es.length+bX.length) cap e-(es.length+bX.length))) _ (grownCap w (es.length+bX.length) cap e)
   (((gO.refl _ _).drew).alloc (ei _) _) (rE) rfl nC (by
    simp only[vw,nZ,size_zeroCells,jF.len,pj,mz,<-fA];exact hq _ (by omega))
   (fun fI j d dP=>by
    obtain⟨t',eR⟩:=s7 gq dP;have:(fI+1)*i.size<=es.length*i.size:=hq _ t';rw[fA]at this;refine⟨us fI j,?_,fun q=>(Tag.own t).R ((fI,j)::q),fun q o h=>h,aE fI j d dP⟩;rw[kf,bi (by simp only[vw,nZ,mz];omega),kf,bi (by simp only[nZ,mz];omega)];rw[pP,kX,bi (by omega),ky,<-hu fI j d dP];simp only[nY]
    congr 1
    omega)
   (fun x u aa=>by
    have pg:=(eW.1 aa).1;rw[kf,bi (by simp only[vw,nZ,mz];omega),kf,ba (by simp only[nZ,mz];omega)];simp only[nZ,mz,pP];rw[<-aa]
    congr 1
    omega) gq
  exact⟨_,_,a',fU,h1,U⟩
end Go.Sx
namespace Go.Sx
open Go.RowKit
def Flat(es:List (List D)):Prop:=∀e∈es,∀d∈e,∃x,d=.v x
theorem asw{es:List (List D)}{i j:Nat}{d:D}(h:c9 es i j=some d):∃e∈es,d∈e:=by
 unfold c9 at h;cases aa:es[i]? with
 | none=>simp[aa]at h
 | some e=>rw[aa,mZ]at h;exact⟨e,fF aa,fF h⟩
variable{P:Program}{w:World}{ω:Own}{k:Nat}{dQ:Option Nat}
theorem Src.empty(a:Option Addr):Src P w ω k [] dQ (.slice a 0 0) [] where
 len:=by simp
 rows:=fun _ h=>(by cases h)
 one:=fun _ h=>(by cases h)
 cell:=fun i j d aE=>by simp[c9]at aE
 shape:=.inl ⟨⟨a,rfl⟩,rfl⟩
theorem Src.of{R:List (Nat×Nat)->c8->Prop}{bX:List (List D)}{y:Value}(h:b7 w ω R (.J k bX) y)(nE:0<k)
  (ak:Flat bX\/∃s,dQ=some s/\R=(Tag.own s).R):∃news,Src P w ω k bX dQ y news:=by
 cases h with
 | nil=>exact⟨[],Src.empty _⟩
 | row R k es b off cap arr ty c0 us aj dT gd ai gq hu aE=>
  have hmul:bX.length*k<=cap*k:=hq _ gd;have hW:∀x:Nat,((arr.toList.drop off).take (bX.length*k))[x]?=if x<bX.length*k then arr[off+x]? else none:=by
   intro x;rw[kX];split
   ·rw[ky];simp
   rfl
  have fa:∀i j d,c9 bX i j=some d->((arr.toList.drop off).take (bX.length*k))[i*k+j]?=some (us i j):=by
   intro i j d dP;obtain⟨hi,bd⟩:=s7 gq dP;have:(i+1)*k<=bX.length*k:=hq _ hi;rw[fA]at this;rw[hW,bi (by omega),<-hu i j d dP,zW]
  refine⟨(arr.toList.drop off).take (bX.length*k),by simp;omega,gq,?_,?_,.inr ⟨b,off,cap,rfl,?_⟩⟩
  ·intro u jG;obtain⟨x,aa⟩:=r8.1 jG;have bL:x<bX.length*k:=by
    have:=(eW.1 aa).1;simp at this;omega
   have yx:x=(x / k)*k+x % k:=by rw[Nat.mul_comm];exact (Nat.div_add_mod x k).symm
   have az:x / k<bX.length:=Nat.div_lt_of_lt_mul (by rw[Nat.mul_comm];exact bL);obtain⟨d,dP⟩:=Q8 gq az (Nat.mod_lt x nE);have h1:=fa _ _ _ dP;rw[<-yx,aa]at h1;rw[eE h1];exact (aE _ _ _ dP).pt
  ·intro i j d dP;refine⟨us i j,fa i j d dP,?_⟩;rcases ak with bw | ⟨s,ue,uf⟩
   ·obtain⟨e,he,oi⟩:=asw dP;obtain⟨x,rfl⟩:=bw e he d oi;have:=aE i j _ dP;cases ax:us i j<;>(rw[ax]at this;cases this;exact .inl ⟨_,rfl,rfl⟩)
   subst uf;exact .inr ⟨s,ue,aE i j d dP⟩
  intro j v bF;rw[qG,cell_of_row w b (off+j) arr ty c0 aj];rw[hW]at bF;split at bF
  ·exact bF
  cases bF
variable{τ:Nat->Nat×Value}
theorem cI.Jy{w0:eK}{st:aF}{a:Act}(h:cI w0 st a w ω τ)(t k:Nat)(ia:t<dj):
  ∃a',cI w0 (st.jt t []) a w a' (gr τ t k (.slice none 0 0))/\Sat w a' (gr τ t k (.slice none 0 0)) (.J (.own t) k []) (.slice none 0 0):=by
 refine⟨fun b=>pz t [] (ω b),h.di _ (lQ.sat (g:=ib t []) (p:=fun _=>true) ⟨?_,?_,?_,rfl,fun s ai=>by simp only[gr];rw[ba (by omega)]⟩) h.below ?_ ?_ ?_ (fun s ai=>by simp only[gr];rw[ba (by omega)]),.nil _ _ _,by simp[Tag.ee,gr]⟩
 ·intro g ey b q av _ az;exact⟨Q3 av az,rfl⟩
 ·intro g ey y av bu;cases g with
  | free=>simp only[ib,aX]at av;subst av;exact trivial
  | own s=>
   simp only[ib]at av;split at av
   ·simp only[aX]at av;subst av;exact trivial
   split at av
   ·cases av
   simp only[aX]at av;subst av;simp only[Tag.ee,gr]at bu ⊢;rw[ba ‹_›];exact bu
  | ro s=>
   simp only[ib]at av;split at av
   ·simp only[aX]at av;subst av;exact trivial
   split at av
   ·cases av
   simp only[aX]at av;subst av;exact trivial
 ·intro id b _ aj;exact Eg.2 aj
 ·intro b aj;exact h.owned b fun e=>by simp only[e]at aj;exact aj rfl
 ·intro id b aj;exact⟨Eg.2 aj,rfl⟩
 intro id b aj;exact Eg.1 aj
def vK(t k:Nat)(q:aJ)(ans:List ci):Option (List (List D)×Option Nat×List ci×List Prop):=
 match q.leaf,ans with
 | some (.J (.own s) cn bX),.wr::r=>if cn=k/\s≠t then some (bX,some s,r,[]) else none
 | some (.J _ cn bX),ans=>if cn=k then some (bX,none,ans,[Flat bX]) else none
 | some (.v (.slice none 0 0)),ans=>some ([],none,ans,[])
 | some (.aO _ _ _ cn bX .here),ans=>if cn=k then some (bX,none,ans,[Flat bX]) else none
 | some (.aO _ _ _ cn bX .lU),ans=>if cn=k then some (bX,none,ans,[Flat bX]) else none
 | _,_=>none
theorem Ra{P:Program}{t:Nat}{q:aJ}{y:Value}{ans cu:List ci}{bX:List (List D)}{obs:List Prop}(nE:0<k)
  (az:cU (Sat w ω τ) q y) (h:vK t k q ans=some (bX,dQ,cu,obs)) (aU:cO obs):dQ≠some t/\∃news,Src P w ω k bX dQ y news:=by
 unfold vK at h;split at h
 ·rename_i s cn es r e;split at h
  ·rename_i ak;obtain⟨rfl,ct⟩:=ak;simp only[aX,bJ]at h;obtain⟨rfl,rfl,_,_⟩:=h;exact⟨by simpa using ct,Src.of (aJ.dN e az).1 nE (.inr ⟨s,rfl,rfl⟩)⟩
  cases h
 ·rename_i g cn es e _;split at h
  ·rename_i ak;subst ak;simp only[aX,bJ]at h;obtain⟨rfl,rfl,_,rfl⟩:=h;exact⟨by simp,Src.of (aJ.dN e az).1 nE (.inl aU.1)⟩
  cases h
 ·rename_i e;simp only[aX,bJ]at h;obtain⟨rfl,rfl,_,_⟩:=h;have:y=.slice none 0 0:=aJ.dN e az;subst this;exact⟨by simp,[],Src.empty _⟩
 ·rename_i s Cr Cs cn es e;split at h
  ·rename_i ak;subst ak;simp only[aX,bJ]at h;obtain⟨rfl,rfl,_,rfl⟩:=h;obtain⟨hQ,rfl,aA,_⟩:=aJ.dN e az;exact⟨by simp,Src.of aA nE (.inl aU.1)⟩
  cases h
 ·rename_i s Cr Cs cn es e;split at h
  ·rename_i ak;subst ak;simp only[aX,bJ]at h;obtain⟨rfl,rfl,_,rfl⟩:=h;obtain⟨hQ,rfl,aA,_⟩:=aJ.dN e az;exact⟨by simp,Src.of aA nE (.inl aU.1)⟩
  cases h
 cases h
def Df(d:Nat)(st:aF)(k:Nat)(p:aJ):Option (aF×Nat×List (List D)):=
 match p.leaf with
 | some (.J (.own t) cn es)=>if cn=k then some (st,t,es) else none
 | some (.v (.slice none 0 0))=>some (st.jt d [],d,[])
 | _=>none
def zA(P:Program)(st:aF)(d:Nat)(t:TypeId)(x y:Operand)(ans:List ci):Stepped:=
 match qH P t with
 | some (e,k)=>
  match P.info? e,Df d st k (st.br x) with
  | some i,some (st1,ha,es)=>
   match i.zero,vK ha k (st1.br y) ans with
   | some z,some (bX,dQ,cu,obs)=>
    if z.cells.size=k/\0<k/\ha<dj then
     some (⟨(st1.x1 ha dQ).env.set d (.one (.J (.own ha) k (es++bX))),(st1.x1 ha dQ).boxes⟩,cu,((es.length+bX.length)*i.bytes<=140737488355328)::(es.length+bX.length<=9223372036854775807)::obs)
    else none
   | _,_=>none
  | _,_=>none
 | none=>none
theorem cI.zA{w0:eK}{st bE:aF}{a:Act}{d:Nat}{t ty:TypeId}{x y:Operand}{ans cu:List ci}{obs:List Prop}
  (aZ:cI w0 st a w ω τ) (h:Sx.zA P st d t x y ans=some (bE,cu,obs)) (aU:cO obs):
  ∃z aS,(Builtin.append_ #[t,t] ty #[a.eval x,a.eval y]).run P w=.ok z aS/\Rel w0 bE (a.put (some d) z) aS:=by
 unfold Sx.zA at h;split at h
 ·rename_i e k he;obtain⟨hu,i0,qb,yu⟩:=wJ he;split at h
  ·rename_i i st1 ha es hi j';rw[qb]at hi;have my:=eE hi;subst my;split at h
   ·rename_i z bX dQ vJ yG a6 jF;split at h
    ·rename_i ak;simp only[aX,bJ]at h;obtain⟨rfl,rfl,rfl⟩:=h;obtain⟨cv,ca,cD⟩:=aU;have:∃C5 O6,cI w0 st1 a w C5 O6/\Sat w C5 O6 (.J (.own ha) k es) (a.eval x):=by
      unfold Df at j';split at j'
      ·rename_i dt cn cH ag;split at j'
       ·rename_i gq;subst gq;simp only[aX,bJ]at j';obtain⟨rfl,rfl,rfl⟩:=j';exact⟨ω,τ,aZ,aJ.dN ag (aZ.br x)⟩
       cases j'
      ·rename_i ag;simp only[aX,bJ]at j';obtain⟨rfl,rfl,rfl⟩:=j';have:a.eval x=.slice none 0 0:=aJ.dN ag (aZ.br x);rw[this];obtain⟨C5,h1,U⟩:=aZ.Jy d k ak.2.2;exact⟨C5,_,h1,U⟩
      cases j'
     obtain⟨C5,O6,e4,aa⟩:=this;obtain⟨iA,news,ai⟩:=Ra (P:=P) ak.2.1 (e4.br y) jF cD;obtain⟨r,aS,a',h1,U,ax⟩:=e4.append (P:=P) (ty:=ty) aa ai iA hu qb a6 yu ak.1 cv ca ak.2.2;exact⟨r,aS,h1,a',_,U.put (p:=.one (.J (.own ha) k (es++bX))) ax⟩
    cases h
   cases h
  cases h
 cases h
