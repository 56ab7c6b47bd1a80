import Derived.Test.YtdchjefneblpgaaGreatR1
set_option linter.unusedVariables false
set_option linter.unusedSimpArgs false
namespace Go.Sx
open Go.RowKit
def rA(id:Nat)(fr:List aD):List (Nat×List aD)->List (Nat×List aD)
 | []=>[]
 | (i,ls)::r=>if i=id then (i,fr)::r else (i,ls)::rA id fr r
variable{id:Nat}{fr:List aD}
theorem zo:∀{bs:List (Nat×List aD)} {ls:List aD},dE id bs=some ls->dE id (rA id fr bs)=some fr
 | [],_,h=>by cases h
 | (i,l)::r,ls,h=>by
  simp only[rA];by_cases hi:i=id
  ·rw[aZ hi];simp[dE,hi]
  rw[a6 hi];simp only[dE,a6 hi]at h ⊢;exact zo h
theorem zp{hB:Nat}(aK:hB≠id):∀{bs:List (Nat×List aD)},dE hB (rA id fr bs)=dE hB bs
 | []=>rfl
 | (i,l)::r=>by
  simp only[rA];by_cases hi:i=id
  ·rw[aZ hi];simp only[dE,hi];rw[a6 (Ne.symm aK),a6 (Ne.symm aK)]
  rw[a6 hi];simp only[dE];split
  ·rfl
  exact zp aK
theorem Tag.X4{t:Tag}{q:List (Nat×Nat)}:¬t.R q (.box id):=by
 cases t with
 | free=>exact fun h=>by cases h
 | own s=>exact fun h=>by cases h
 | ro s=>exact fun h=>by rcases h with h | ⟨_,h⟩<;>cases h
theorem Sat.avd{w:World}{ω:Own}{τ:Nat->Nat×Value}{b:Nat}(ao:ω b=.box id)(cs:Array Value):∀(l:aD) (v:Value),Sat w ω τ l v->Sat (w.setRow b cs) ω τ l v:=by
 have bj:mC w ω τ (w.setRow b cs) ω τ si (fun _=>true):=by
  refine⟨?_,?_,fun _ _ _ h=>h,rfl,fun _ _=>rfl⟩
  ·intro t dc c3 q ar _ aA;simp only[si,aO]at ar;subst ar;refine⟨aA,setRow_other w b c3 cs fun e=>?_⟩;subst e;rw[ao]at aA;exact Tag.X4 aA
  intro t dc y ar bn;simp only[si,aO]at ar;subst ar;exact bn
 intro l v ai;have:=bj.sat l v ai;cases l with
 | a8 t i j k es m=>
  obtain⟨u,hu,h1,hm⟩:=ai;refine⟨u,hu,h1.frame fun c q af aA=>⟨aA,setRow_other w b c cs fun e=>?_⟩,fun bC=>?_⟩
  ·subst e;rw[ao]at aA;cases aA
  obtain⟨kT,fH,off,len,cap,arr,ty,cR,U,aQ,ax,aF⟩:=hm bC;exact⟨kT,fH,off,len,cap,arr,ty,cR,U,aQ,(setRow_other w b fH cs fun e=>by subst e;rw[ao]at aQ;cases aQ).trans ax,aF⟩
 | fB t vs=>
  obtain⟨fH,ty,arr,e,aQ,ax,aK,bz⟩:=ai;refine⟨fH,ty,arr,e,aQ,(setRow_other w b fH cs fun e=>by subst e;rw[ao]at aQ;cases aQ).trans ax,aK,fun j c af=>?_⟩;obtain⟨u,h1,U⟩:=bz j c af;refine⟨u,h1,?_⟩;have ej:=bj.nI c u U;have:e9.cr si c=c:=by cases c<;>simp[e9.cr,si]
  rwa[this]at ej
 | _=>simpa[aD.cr,si]using this
variable{w0:eN}{st:aG}{a:Act}{w:World}{ω:Own}{τ:Nat->Nat×Value}
theorem cE.avi(h:cE w0 st a w ω τ){ls:List aD}(ar:dE id st.boxes=some ls)
  {b:Nat} (ao:ω b=.box id) {b5:Array Value} (ai:lb (Sat w ω τ) fr b5):
  cE w0 ⟨st.env,rA id fr st.boxes⟩ a (w.setRow b b5) ω τ:=by
 obtain⟨c3,arr,ty,di,hu,bC,eV⟩:=h.boxes id ls ar;have:=hu b ao;subst this;have I1:=Sat.avd (w:=w) (ω:=ω) (τ:=τ) ao b5;have kq:=setRow_heap w b arr b5 ty (0,0) bC;refine⟨h.defers,h.size,?_,?_,h.fixed,h.pinned,?_,?_⟩
 ·exact h.below.setRow (h.owned b (by simp[ao])).1 b5
 ·intro c af;obtain⟨h1,jb,jv,U⟩:=h.owned c af;by_cases e:c=b
  ·subst e;exact⟨h1,b5,ty,kq⟩
  exact⟨h1,jb,jv,(setRow_other w b c b5 e).trans U⟩
 ·intro i p hp;obtain⟨v,h1,U⟩:=h.env i p hp;refine⟨v,h1,?_⟩;have:=cP.map (f:=_root_.id) I1 U;have e:aI.map _root_.id p=p:=by
   cases p with
   | bd a=>cases a<;>simp[aI.map,bS.map]
   | gv as=>
    simp only[aI.map]
    congr 1
    have:bS.map _root_.id=_root_.id:=by funext a;cases a<;>simp[bS.map]
    rw[this];simp
  rwa[e]at this
 intro i l aj;by_cases e:i=id
 ·subst e;rw[zo ar]at aj;have e:=eQ aj;subst e;refine⟨b,b5,ty,ao,hu,kq,?_⟩;have:=ai.map (f:=_root_.id) I1;simpa using this
 rw[zp e]at aj;obtain⟨c,jb,jv,af,Y3,tn,o1⟩:=h.boxes i l aj;have cf:c≠b:=fun e'=>by subst e';rw[ao]at af;simp only[c0.box.injEq]at af;exact e af.symm
 refine⟨c,jb,jv,af,Y3,(setRow_other w b c b5 cf).trans tn,?_⟩;have:=o1.map (f:=_root_.id) I1;simpa using this
abbrev Stepped:=Option (aG×List b6×List Prop)
def KB(st:aG)(d:Nat)(p:aI)(ans:List b6):Stepped:=
 if d<df then p.leaves.map fun ls=>(⟨(st.u3 d ls).env.set d (.one (.ptr d 0)),(st.u3 d ls).boxes⟩,ans,[]) else none
variable{br:aG}{ans cj:List b6}{obs:List Prop}
theorem cE.box{P:Program}{d:Nat}{p:aI}{v:Value}(aT:cE w0 st a w ω τ)
  (hp:cP (Sat w ω τ) p v) (h:KB st d p ans=some (br,cj,obs)) (ty:TypeId):
  ∃z aJ,(do pure (.pointer (some (<-newVar ty v))):Sem Value).run P w=.ok z aJ/\Rel w0 br (a.put (some d) z) aJ:=by
 unfold KB at h;split at h
 case isFalse=>cases h
 rename_i tr;rw[b2]at h;obtain⟨ls,h1,h⟩:=h;simp only[bx]at h;obtain⟨rfl,_,_⟩:=h;obtain⟨ai,_⟩:=aI.yZ h1 hp;obtain⟨a1,IX,da⟩:=aT.u3 d tr ty ai;refine⟨.pointer (some ⟨w.heap.size,0,none⟩),w.alloc (.cells v.cells ty),by simp[newVar,newRow],a1,τ,?_⟩;exact IX.put (p:=.one (.ptr d 0)) ⟨w.heap.size,da,rfl⟩
def KC(P:Program)(st:aG)(d:Nat)(elem:TypeId)(ans:List b6):Stepped:=
 match P.info? elem with
 | some i=>match i.zero with
  | some z=>if d<df then let ls:=z.cells.toList.map .v;some (⟨(st.u3 d ls).env.set d (.one (.ptr d 0)),(st.u3 d ls).boxes⟩,ans,[]) else none
  | none=>none
 | none=>none
theorem cE.alloc{P:Program}{d:Nat}{elem:TypeId}(aT:cE w0 st a w ω τ)
  (h:KC P st d elem ans=some (br,cj,obs)):
  ∃z aJ,(Instr.alloc elem true (.tuple #[])).run P w=.ok z aJ/\Rel w0 br (a.put (some d) z) aJ:=by
 unfold KC at h;split at h
 ·rename_i i hi;split at h
  ·rename_i z aW;split at h
   case isFalse=>cases h
   rename_i tr;simp only[aO,bx]at h;obtain⟨rfl,_,_⟩:=h;have ai:lb (Sat w ω τ) (z.cells.toList.map .v) z.cells:=by
    refine⟨by simp,fun j l aj=>?_⟩;rw[dG,b2]at aj;obtain⟨u,hu,rfl⟩:=aj;exact⟨u,by simpa using hu,rfl⟩
   obtain⟨a1,IX,da⟩:=aT.u3 d tr elem ai;refine⟨.pointer (some ⟨w.heap.size,0,none⟩),w.alloc (.cells z.cells elem),by simp[Instr.alloc,zeroValue,typeInfo,hi,aW,newVar,newRow],a1,τ,?_⟩;exact IX.put (p:=.one (.ptr d 0)) ⟨w.heap.size,da,rfl⟩
  cases h
 cases h
def J8(P:Program)(st:aG)(t:TypeId)(id off:Nat)(q:aI)(ans:List b6):Stepped:=
 match dE id st.boxes,q.leaves,P.info? t with
 | some ls,some xs,some i=>if xs.length=i.size/\off+xs.length<=ls.length then some (⟨st.env,rA id (uy ls off xs) st.boxes⟩,ans,[]) else none
 | _,_,_=>none
theorem B'{α:Type}{xs ys:List α}{off:Nat}(h:off+ys.length<=xs.length)(i:Nat):
  (xs.take off++ys++xs.drop (off+ys.length))[i]?=if off<=i/\i<off+ys.length then ys[i-off]? else xs[i]?:=by
 rw[pL,l7,qs,Nat.min_eq_left (by omega)];by_cases h1:i<off
 ·rw[aZ h1,a6 (by omega),hj,aZ h1]
 rw[a6 h1,l7];by_cases U:i-off<ys.length
 ·rw[aZ U,aZ (by omega)]
 rw[a6 U,a6 (by omega),gU]
 congr 1
 omega
theorem cE.avh{P:Program}{t:TypeId}{off:Nat}{q:aI}{b:Nat}{v:Value}
  (aT:cE w0 st a w ω τ) (ao:ω b=.box id) (aA:cP (Sat w ω τ) q v) (h:J8 P st t id off q ans=some (br,cj,obs)):
  ∃aJ,(Instr.storeAt t (.pointer (some ⟨b,off,none⟩)) v).run P w=.ok () aJ/\Rel w0 br a aJ:=by
 unfold J8 at h;split at h
 ·rename_i ls xs i e1 e2 cJ;split at h
  ·rename_i af;simp only[aO,bx]at h;obtain⟨rfl,_,_⟩:=h;obtain⟨ai,q6⟩:=aI.yZ e2 aA;obtain⟨c3,arr,ty,di,hu,bC,eV⟩:=aT.boxes id ls e1;have:=hu b ao;subst this;have fk:=run_storeCells_at P b off ty v.cells.toList 0 arr w bC (by simp;have:=ai.1;have:=eV.1;omega) q6;have gE:lb (Sat w ω τ) (uy ls off xs) (arr.toList.take (off+0)++v.cells.toList++arr.toList.drop (off+0+v.cells.toList.length)).toArray:=by
    have h1:=ai.1;have U:=eV.1;refine⟨?_,fun j l aj=>?_⟩
    ·rw[Kp (by omega)];simp;omega
    rw[QL (by omega)]at aj;rw[nY,nj,B' (by simp;omega)];simp only[vX];by_cases aP:off<=j/\j<off+xs.length
    ·rw[aZ aP]at aj;rw[aZ (by omega)];obtain⟨u,ax,aF⟩:=ai.2 _ _ aj;exact⟨u,by simpa using ax,aF⟩
    rw[a6 aP]at aj;rw[a6 (by omega)];obtain⟨u,ax,aF⟩:=eV.2 _ _ aj;exact⟨u,by simpa using ax,aF⟩
   refine⟨_,?_,ω,τ,aT.avi e1 ao gE⟩;simp only[Instr.storeAt,Instr.sureAddr,Sem.run_bind,Sem.run_pure,Result.andThen_ok,storeVar,sizeOf,typeInfo,run_program,cJ];have c7:¬(v.cells.size≠i.size):=by simp;have:=ai.1;omega
   rw[a6 c7];exact fk
  cases h
 cases h
end Go.Sx
namespace Go.Sx
open Go.RowKit
variable{w0:eN}{st:aG}{a:Act}{w:World}{ω:Own}{τ:Nat->Nat×Value}
theorem cE.dh{aJ:World}{a1:Own}{cT:Nat->Nat×Value}(h:cE w0 st a w ω τ)(f:aD->aD)
  (eV:∀l v,Sat w ω τ l v->Sat aJ a1 cT (f l) v) (r0:hn w0 aJ) (q8:oP w0 aJ a1)
  (r2:∀id b,ω b=.box id->a1 b=.box id/\aJ.heap[b]?=w.heap[b]?) (AT:∀id b,a1 b=.box id->ω b=.box id) (r6:∀t,df<=t->cT t=τ t:=by intros;rfl):cE w0 (st.map f) a aJ a1 cT where
 defers:=h.defers
 size:=by simp[aG.map,h.size]
 below:=r0
 owned:=q8
 fixed:=fun t bq=>(r6 t bq).trans (h.fixed t bq)
 pinned:=fun id b hi ao=>h.pinned id b hi (AT id b ao)
 env:=by
  intro i q aA;simp only[aG.map]at aA;rw[dG,b2]at aA;obtain⟨gH,bl,rfl⟩:=aA;obtain⟨v,h1,U⟩:=h.env i gH bl;exact⟨v,h1,cP.map eV U⟩
 boxes:=by
  intro id ls aj;simp only[aG.map]at aj;rw[tO,b2]at aj;obtain⟨kd,bl,rfl⟩:=aj;obtain⟨b,arr,ty,ao,hu,bC,ai⟩:=h.boxes id kd bl;obtain⟨h1,U⟩:=r2 id b ao;exact⟨b,arr,ty,h1,fun c3 di=>hu c3 (AT id c3 di),U.trans bC,ai.map eV⟩
abbrev ia:=List (Nat×(Nat×Nat))
def ia.at(s:Nat):ia->Option (Nat×Nat)
 | []=>none
 | (i,p)::r=>if i=s then some p else ia.at s r
def iN(t:Nat)(ms:ia):Tag->Option Tag
 | .free=>some .free
 | .own s=>if s=t then some .free else if (ms.at s).isSome then none else some (.own s)
 | .ro s=>if s=t then some .free else if (ms.at s).isSome then none else some (.ro s)
def qd(t:Nat)(ms:ia):c0->c0
 | .tok s q=>if s=t then .bB else match ms.at s with | some p=>.tok t (p::q) | none=>.tok s q
 | o=>o
variable{t:Nat}{ms:ia}
theorem EZ{o:c0}{id:Nat}:qd t ms o=.box id<->o=.box id:=by
 cases o with
 | bB=>simp[qd]
 | box i=>simp[qd]
 | tok s q=>
  simp only[qd];split
  ·simp
  ·split<;>simp
theorem Qv{g ev:Tag}{q:List (Nat×Nat)}{o:c0}(h:iN t ms g=some ev)(az:g.R q o):ev.R q (qd t ms o):=by
 cases g with
 | free=>simp only[iN,aO]at h;subst h;simp only[Tag.R]at az ⊢;rw[az];rfl
 | own s=>
  simp only[Tag.R]at az;subst az;simp only[iN]at h;simp only[qd];split at h
  ·simp only[aO]at h;subst h;rw[aZ ‹_›];rfl
  split at h
  ·cases h
  rename_i h1 U;simp only[aO]at h;subst h;rw[a6 h1];cases e:ms.at s with
  | none=>rfl
  | some p=>simp[e]at U
 | ro s=>
  simp only[Tag.R]at az;simp only[iN]at h;split at h
  ·simp only[aO]at h;subst h;rcases az with rfl | ⟨dB,rfl⟩
   ·rfl
   simp only[qd];rw[aZ ‹_›];rfl
  split at h
  ·cases h
  rename_i h1 U;simp only[aO]at h;subst h;rcases az with rfl | ⟨dB,rfl⟩
  ·exact .inl rfl
  refine .inr ⟨dB,?_⟩;simp only[qd];rw[a6 h1];cases e:ms.at s with
  | none=>rfl
  | some p=>simp[e]at U
def qe(w:World)(ω:Own)(t:Nat)(ms:ia):Own:=fun b=>if b=w.heap.size then .tok t [] else qd t ms (ω b)
def w6(w:World)(τ:Nat->Nat×Value)(t k n c:Nat):Nat->Nat×Value:=fun s=>if s=t then (k,.slice (some ⟨w.heap.size,0,none⟩) n c) else τ s
def aG.ke(st:aG)(t:Nat)(ms:ia):aG:=st.map (aD.cr (iN t ms) fun _=>true)
theorem anI{w1:World}{k n c:Nat}(iM:t<df)(bg:ω w.heap.size=.bB)(bC:∀b,b<w.heap.size->w1.heap[b]?=w.heap[b]?):
  mC w ω τ w1 (qe w ω t ms) (w6 w τ t k n c) (iN t ms) (fun _=>true):=by
 refine⟨?_,?_,?_,rfl,fun s ai=>by simp only[w6];rw[a6 (by omega)]⟩
 ·intro g ev b q ar ao aA;refine⟨?_,bC b ao⟩;simp only[qe];rw[a6 (by omega)];exact Qv ar aA
 ·intro g ev y ar bn;cases g with
  | free=>simp only[iN,aO]at ar;subst ar;exact trivial
  | own s=>
   simp only[iN]at ar;split at ar
   ·simp only[aO]at ar;subst ar;exact trivial
   split at ar
   ·cases ar
   simp only[aO]at ar;subst ar;simp only[Tag.eg,w6]at bn ⊢;rw[a6 ‹_›];exact bn
  | ro s=>
   simp only[iN]at ar;split at ar
   ·simp only[aO]at ar;subst ar;exact trivial
   split at ar
   ·cases ar
   simp only[aO]at ar;subst ar;exact trivial
 intro id b _ ao;simp only[qe];by_cases e:b=w.heap.size
 ·subst e;rw[bg]at ao;cases ao
 rw[a6 e,ao];rfl
def aD.ju:aD->Option D
 | .v x=>if x.oneCell' then some (.v x) else none
 | .cg c=>some (.v (.bool c))
 | .J (.own _) k es=>some (.J k es)
 | _=>none
def aD.tok:aD->Option Nat
 | .J (.own s) _ _=>some s
 | _=>none
def E0(w:World)(ω:Own)(τ:Nat->Nat×Value)(t:Nat)(ms:ia)(i j:Nat)(d:D)(u:Value):Prop:=
 ∃l:aD,l.ju=some d/\Sat w ω τ l u/\∀s,l.tok=some s->s≠t/\ms.at s=some (i,j)
theorem E0.rep{w1:World}{i j:Nat}{d:D}{u:Value}(h:E0 w ω τ t ms i j d u)(bC:∀b,b<w.heap.size->w1.heap[b]?=w.heap[b]?):
  bX w1 (qe w ω t ms) (fun q=>(Tag.own t).R ((i,j)::q)) d u:=by
 obtain⟨l,aB,ai,hm⟩:=h;cases l with
 | cu=>cases aB
 | v x=>
  simp only[aD.ju]at aB;split at aB
  ·simp only[aO]at aB;subst aB;have:u=x:=ai;subst this;exact .v _ _ ‹_›
  cases aB
 | cg c=>
  simp only[aD.ju,aO]at aB;subst aB;have:u=.bool c:=ai;subst this;exact .v _ _ rfl
 | J g k es=>
  cases g with
  | free=>cases aB
  | ro s=>cases aB
  | own s=>
   simp only[aD.ju,aO]at aB;subst aB;obtain⟨cf,rZ⟩:=hm s rfl;refine ai.1.frame fun b q ao aA=>⟨?_,bC b ao⟩
   simp only[Tag.R]at aA ⊢;simp only[qe];rw[a6 (by omega),aA];simp only[qd];rw[a6 cf,rZ]
 | ptr id off=>cases aB
 | ep g k es i j=>cases aB
 | iC=>cases aB
 | fd=>cases aB
 | gb=>cases aB
 | hq=>cases aB
 | a8=>cases aB
 | fB=>cases aB
theorem cE.ke{w1:World}(h:cE w0 st a w ω τ)(t:Nat)(iM:t<df)(ms:ia){k cap:Nat}{es:List (List D)}{arr:Array Value}{ty:TypeId}
  (ao:ho w.heap.size w w1) (gE:w1.heap[w.heap.size]?=some (.cells arr ty (0,0))) (af:es.length<=cap) (c7:cap*k<=arr.size) (hk:∀e∈es,e.length=k)
  (fa:∀i j d,c5 es i j=some d->∃u,arr[i*k+j]?=some u/\E0 w ω τ t ms i j d u):
  cE w0 (st.ke t ms) a w1 (qe w ω t ms) (w6 w τ t k es.length cap)/\
  Sat w1 (qe w ω t ms) (w6 w τ t k es.length cap) (.J (.own t) k es) (.slice (some ⟨w.heap.size,0,none⟩) es.length cap):=by
 have bg:ω w.heap.size=.bB:=h.owned.fresh (dN _);have hblk:=ao.block;have awR:w.heap.size<w1.heap.size:=(jz.1 gE).1;have lX:qe w ω t ms w.heap.size=.tok t []:=by simp[qe]
 have hA:∀b,b≠w.heap.size->qe w ω t ms b=qd t ms (ω b):=fun b ao=>by simp[qe,ao]
 refine⟨h.dh _ (anI iM bg hblk).sat ?_ ?_ ?_ ?_ (fun s ai=>by simp only[w6];rw[a6 (by omega)]),?_,?_⟩
 ·exact h.below.next ao
 ·intro b gp;by_cases e:b=w.heap.size
  ·subst e;exact⟨.inl h.below.size,arr,ty,gE⟩
  rw[hA b e]at gp;have U:ω b≠.bB:=fun e'=>by rw[e']at gp;exact gp rfl
  obtain⟨ax,jb,jv,aF⟩:=h.owned b U;exact⟨ax,jb,jv,(hblk b (h.owned.lt U)).trans aF⟩
 ·intro id b gp;have bu:=h.owned.lt (b:=b) (by simp[gp]);rw[hA b (by omega),gp];exact⟨rfl,hblk b bu⟩
 ·intro id b gp;by_cases e:b=w.heap.size
  ·subst e;rw[lX]at gp;cases gp
  rw[hA b e]at gp;exact EZ.1 gp
 ·have uY:∀i j d,c5 es i j=some d->arr[0+i*k+j]?=some (arr.getD (i*k+j) undef)/\E0 w ω τ t ms i j d (arr.getD (i*k+j) undef):=by
   intro i j d aB;obtain⟨u,h1,U⟩:=fa i j d aB;have e:arr.getD (i*k+j) undef=u:=by simp[eu,h1]
   rw[e];exact⟨by rw[dq];exact h1,U⟩
  exact .row _ k es w.heap.size 0 cap arr ty (0,0) (fun i j=>arr.getD (i*k+j) undef) gE lX af (by omega) hk (fun i j d aB=>(uY i j d aB).1) (fun i j d aB=>(uY i j d aB).2.rep hblk)
 simp[Tag.eg,w6]
def E1(P:Program)(st:aG)(d:Nat)(t:TypeId)(p q:aI)(ans:List b6):Stepped:=
 match P.underlying t with
 | some (.slice e)=>
  match P.info? e,p.int,q.int with
  | some i,some (_,l),some (_,c)=>
   match i.zero with
   | some z=>
    if i.size=z.cells.size/\0<i.size/\z.cells.all (·.oneCell')=true/\d<df then
     some (⟨(st.ke d []).env.set d (.one (.J (.own d) i.size (List.replicate l.toNat (z.cells.toList.map .v)))),(st.ke d []).boxes⟩,ans,[0<=l,l<=c,(i.bytes:Int)*c<=281474976710656,c<=9223372036854775807])
    else none
   | none=>none
  | _,_,_=>none
 | _=>none
theorem Qw(z:Array Value)(n i j:Nat)(hi:i<n)(aP:j<z.size):(madeCells z (n*z.size))[i*z.size+j]?=z[j]?:=by
 have bu:i*z.size+j<n*z.size:=by
  have:(i+1)*z.size<=n*z.size:=hR _ hi;rw[fX]at this;omega
 have e:(i*z.size+j) % z.size=j:=by rw[Nat.add_comm,Nat.add_mul_mod_self_right];exact Ds aP
 simp[madeCells,bu,e,getElem!_pos,aP]
theorem anJ{n:Nat}{e:List D}{i j:Nat}{d:D}(h:c5 (List.replicate n e) i j=some d):i<n/\e[j]?=some d:=by
 unfold c5 at h;rw[Am]at h;split at h
 ·exact⟨‹_›,h⟩
 simp at h
theorem cE.make{P:Program}{br:aG}{d:Nat}{t:TypeId}{p q:aI}{u v:Value}{ans cj:List b6}{obs:List Prop}
  (aT:cE w0 st a w ω τ) (hp:cP (Sat w ω τ) p u) (aA:cP (Sat w ω τ) q v) (h:E1 P st d t p q ans=some (br,cj,obs)) (aN:c8 obs):
  ∃z aJ,(Instr.makeSlice t u v).run P w=.ok z aJ/\Rel w0 br (a.put (some d) z) aJ:=by
 unfold E1 at h;split at h
 ·rename_i e hu;split at h
  ·rename_i i cy l bw c hi e1 e2;split at h
   ·rename_i z aW;split at h
    ·rename_i af;obtain⟨lS,lA,lT,tm⟩:=af;simp only[aO,bx]at h;obtain⟨rfl,_,rfl⟩:=h;obtain⟨dR,dH,gF,ph,_⟩:=aN;rw[aI.o9 e1 hp,aI.o9 e2 aA];have fj:=run_make (P:=P) w t e i z hu hi aW cy bw l c dR dH gF ph;have gE:(w.alloc (.cells (madeCells z.cells (c.toNat*i.size)) e)).heap[w.heap.size]?=some (.cells (madeCells z.cells (c.toNat*i.size)) e (0,0)):=ov _ _;have c7:(madeCells z.cells (c.toNat*i.size)).size=c.toNat*i.size:=by simp[madeCells]
     have wo:=aT.ke d tm [] (k:=i.size) (cap:=c.toNat) (es:=List.replicate l.toNat (z.cells.toList.map .v)) (w1:=w.alloc (.cells (madeCells z.cells (c.toNat*i.size)) e))
      ((ho.refl _ _).alloc (dN _) _) gE (by simp;omega) (by omega) (fun e' he=>by rw[List.eq_of_mem_replicate he];simp[lS]) (fun x j rW aB=>by
       obtain⟨aa,aB⟩:=anJ aB;rw[dG,b2]at aB;obtain⟨um,ks,rfl⟩:=aB;have aP:j<z.cells.size:=by
        have:=(ey.1 ks).1;simpa using this
       refine⟨um,?_,.v um,?_,rfl,fun s ai=>by cases ai⟩
       ·rw[lS,Qw z.cells c.toNat x j (by omega) aP];simpa using ks
       have:um.oneCell'=true:=by
        have h1:=Array.all_eq_true'.1 lT;exact h1 um (by simpa using fE ks)
       simp[aD.ju,this])
     simp only[List.length_replicate]at wo;exact⟨_,_,fj,_,_,wo.1.put (p:=.one (.J (.own d) i.size (List.replicate l.toNat (z.cells.toList.map .v)))) wo.2⟩
    cases h
   cases h
  cases h
 cases h
end Go.Sx
namespace Go.Sx
open Go.RowKit
def ow(k:Nat):Nat->List aD->List (List aD)
 | 0,_=>[]
 | n+1,ls=>ls.take k::ow k n (ls.drop k)
theorem J9(k:Nat):∀(n:Nat) (ls:List aD) (i:Nat),(ow k n ls)[i]?=if i<n then some ((ls.drop (i*k)).take k) else none
 | 0,ls,i=>by simp[ow]
 | n+1,ls,0=>by simp[ow]
 | n+1,ls,i+1=>by
  simp only[ow,oK,J9 k n];by_cases h:i<n
  ·rw[aZ h,aZ (by omega),List.drop_drop]
   congr 3
   rw[fX];omega
  rw[a6 h,a6 (by omega)]
theorem Qx(k:Nat):∀(n:Nat) (ls:List aD),(ow k n ls).length=n
 | 0,_=>rfl
 | n+1,ls=>by simp[ow,Qx k n]
def l1(i:Nat):Nat->List aD->ia
 | _,[]=>[]
 | j,l::ls=>match l.tok with
  | some s=>(s,(i,j))::l1 i (j+1) ls
  | none=>l1 i (j+1) ls
def sl:Nat->List (List aD)->ia
 | _,[]=>[]
 | i,e::es=>l1 i 0 e++sl (i+1) es
def zq(t:Nat)(ms:ia):Bool:=decide (t<df)&&ms.all fun x=>x.1≠t&&(match ms.at x.1 with | some p=>p.1==x.2.1&&p.2==x.2.2 | none=>false)
theorem J'(i:Nat):∀(ls:List aD) (j0 j:Nat) (l:aD) (s:Nat),ls[j]?=some l->l.tok=some s->(s,(i,j0+j))∈l1 i j0 ls
 | [],_,_,_,_,h,_=>by simp at h
 | fS::ls,j0,0,l,s,h,ai=>by
  simp at h;subst h;simp only[l1,ai];exact eY
 | fS::ls,j0,j+1,l,s,h,ai=>by
  have:=J' i ls (j0+1) j l s (by simpa using h) ai;rw[show j0+1+j=j0+(j+1) by omega]at this;simp only[l1];split
  ·exact fw _ this
  exact this
theorem Qy:∀(es:List (List aD)) (i0 i j:Nat) (e:List aD) (l:aD) (s:Nat),es[i]?=some e->e[j]?=some l->l.tok=some s->(s,(i0+i,j))∈sl i0 es
 | [],_,_,_,_,_,_,h,_,_=>by simp at h
 | cc::es,i0,0,j,e,l,s,h,aj,ai=>by
  simp at h;subst h;simp only[sl];have:=J' i0 cc 0 j l s aj ai;rw[dq]at this;exact hl _ this
 | cc::es,i0,i+1,j,e,l,s,h,aj,ai=>by
  have:=Qy es (i0+1) i j e l s (by simpa using h) aj ai;rw[show i0+1+i=i0+(i+1) by omega]at this;simp only[sl];exact io _ this
variable{ms:ia}
theorem anK{t:Nat}(h:zq t ms=true):t<df:=by
 unfold zq at h;rw[b8,b']at h;exact h.1
theorem anL{t:Nat}(h:zq t ms=true){s:Nat}{p:Nat×Nat}(hm:(s,p)∈ms):s≠t/\ms.at s=some p:=by
 unfold zq at h;rw[b8]at h;have:=fW.1 h.2 _ hm;simp only[b8,b']at this;refine⟨this.1,?_⟩;have U:=this.2;split at U
 ·rename_i ri e;simp only[b8,dp]at U;rw[e]
  congr 1
  exact Prod.ext U.1 U.2
 cases U
def Ca(P:Program)(st:aG)(d:Nat)(t:TypeId)(len:Nat)(parts:List (Nat×Operand))(ans:List b6):Stepped:=
 match P.underlying t with
 | some (.slice e)=>
  match P.info? e with
  | some i=>
   match i.zero with
   | some z=>
    if i.size=z.cells.size/\0<i.size/\len*i.size<=16777216 then
     match rX (fun x=>some (x*i.size,i.size)) ((List.replicate len (z.cells.toList.map aD.v)).flatten) (parts.map fun x=>(x.1,st.bj x.2)) with
     | some r=>
      let ls:=ow i.size len r
      match ls.mapM (fun x=>x.mapM aD.ju) with
      | some es=>if zq d (sl 0 ls) then
        some (⟨(st.ke d (sl 0 ls)).env.set d (.one (.J (.own d) i.size es)),(st.ke d (sl 0 ls)).boxes⟩,ans,[]) else none
      | none=>none
     | none=>none
    else none
   | none=>none
  | none=>none
 | _=>none
def DN(P:Program)(st:aG)(d:Nat)(t:TypeId)(len:Nat)(parts:List (Nat×Operand)):Option (Nat×List (List D)×ia):=
 match P.underlying t with
 | some (.slice e)=>
  match P.info? e with
  | some i=>
   match i.zero with
   | some z=>
    if i.size=z.cells.size/\0<i.size/\len*i.size<=16777216 then
     match rX (fun x=>some (x*i.size,i.size)) ((List.replicate len (z.cells.toList.map aD.v)).flatten) (parts.map fun x=>(x.1,st.bj x.2)) with
     | some r=>
      match (ow i.size len r).mapM (fun x=>x.mapM aD.ju) with
      | some es=>if zq d (sl 0 (ow i.size len r)) then some (i.size,es,sl 0 (ow i.size len r)) else none
      | none=>none
     | none=>none
    else none
   | none=>none
  | none=>none
 | _=>none
theorem anM{P:Program}{st:aG}{d:Nat}{t:TypeId}{len:Nat}{parts:List (Nat×Operand)}{k:Nat}{es:List (List D)}(h:DN P st d t len parts=some (k,es,ms))(ans:List b6):
  Ca P st d t len parts ans=some (⟨(st.ke d ms).env.set d (.one (.J (.own d) k es)),(st.ke d ms).boxes⟩,ans,[]):=by
 unfold DN at h;unfold Ca;split at h
 ·rename_i e h1
  try rw[h1]
  split at h
  ·rename_i i U
   try simp only[U]
   split at h
   ·rename_i z ax
    try simp only[ax]
    split at h
    ·rename_i af
     try rw[aZ af]
     split at h
     ·rename_i r aF
      try simp only[aF]
      split at h
      ·rename_i cB aQ
       try simp only[aQ]
       split at h
       ·rename_i bb;simp only[aO,bx]at h;obtain⟨rfl,rfl,rfl⟩:=h
        try rw[aZ bb]
       cases h
      cases h
     cases h
    cases h
   cases h
  cases h
 cases h
theorem ox{α β:Type}{f:α->Option β}:∀{xs:List α} {ys:List β},xs.mapM f=some ys->ys.length=xs.length/\∀(i:Nat) (y:β),ys[i]?=some y->∃x,xs[i]?=some x/\f x=some y
 | [],ys,h=>by simp at h;subst h;exact⟨rfl,fun i y bn=>by simp at bn⟩
 | x::xs,ys,h=>by
  rw[yb]at h;cases e:f x with
  | none=>simp[e]at h
  | some mA=>
   cases e2:xs.mapM f with
   | none=>simp[e,e2]at h
   | some Hu=>
    simp[e,e2]at h;subst h;obtain⟨h1,U⟩:=ox e2;refine⟨by simp[h1],fun i y bn=>?_⟩;cases i with
    | zero=>simp at bn;subst bn;exact⟨x,rfl,e⟩
    | succ i=>exact U i y (by simpa using bn)
theorem Qz{α:Type}(e:List α):∀(n i j:Nat),i<n->j<e.length->((List.replicate n e).flatten)[i*e.length+j]?=e[j]?
 | 0,i,j,hi,_=>by omega
 | n+1,0,j,_,aP=>by
  rw[List.replicate_succ,List.flatten_cons,l7,Nat.zero_mul,dq,aZ aP]
 | n+1,i+1,j,hi,aP=>by
  rw[List.replicate_succ,List.flatten_cons,l7,a6 (by rw[fX];omega)];have:=Qz e n i j (by omega) aP;rw[<-this]
  congr 1
  rw[fX];omega
theorem cE.buildSlice{P:Program}{w0:eN}{st br:aG}{a:Act}{w:World}{ω:Own}{τ:Nat->Nat×Value}{d:Nat}{t:TypeId}{len:Nat}{parts:Array (Nat×Operand)}{ans cj:List b6}{obs:List Prop}
  (aT:cE w0 st a w ω τ) (h:Ca P st d t len parts.toList ans=some (br,cj,obs)):
  ∃z aJ,(Instr.buildSlice t len (parts.map fun (i,x)=>(i,a.eval x))).run P w=.ok z aJ/\Rel w0 br (a.put (some d) z) aJ:=by
 unfold Ca at h;split at h
 ·rename_i e hu;split at h
  ·rename_i i hi;split at h
   ·rename_i z aW;split at h
    ·rename_i af;obtain⟨lS,lA,lT⟩:=af;split at h
     ·rename_i r az;simp only at h;split at h
      ·rename_i es D9;split at h
       ·rename_i PD;simp only[aO,bx]at h;obtain⟨rfl,_,_⟩:=h;have lY:(z.cells.toList.map aD.v).length=i.size:=by simp[lS]
        have awI:((List.replicate len (z.cells.toList.map aD.v)).flatten).length=len*i.size:=by simp[lS]
        have Eu:lb (Sat w ω τ) ((List.replicate len (z.cells.toList.map aD.v)).flatten) (madeCells z.cells (len*i.size)):=by
         refine⟨by simp[madeCells,lS],fun x l aj=>?_⟩;have bu:x<len*i.size:=by
          have:=(ey.1 aj).1;omega
         have aa:x=(x / i.size)*i.size+x % i.size:=by rw[Nat.mul_comm];exact (Nat.div_add_mod x i.size).symm
         have aA:x / i.size<len:=Nat.div_lt_of_lt_mul (by rw[Nat.mul_comm];exact bu);have hm:x % i.size<i.size:=Nat.mod_lt _ lA;have h1:=Qz (z.cells.toList.map aD.v) len (x / i.size) (x % i.size) aA (by omega);rw[lY,<-aa,aj]at h1;have U:=h1.symm;rw[dG,b2]at U;obtain⟨u,ks,rfl⟩:=U;refine⟨u,?_,rfl⟩;have ax:=Qw z.cells len (x / i.size) (x % i.size) aA (by omega);rw[<-lS,<-aa]at ax;rw[ax];simpa using ks
        obtain⟨out,IU,Eh⟩:=Kq (vals:=parts.toList.map fun x=>(x.1,a.eval x.2)) (by simp) (fun j fA p aP=>by
         rw[dG,b2]at aP;obtain⟨⟨i2,x⟩,aa,e⟩:=aP;simp only[bx]at e;obtain⟨rfl,rfl⟩:=e;exact⟨a.eval x,by simp only[dG,aa,n0],aT.bj x⟩) az Eu
        obtain⟨jE,cV⟩:=ox D9;have hlen:es.length=len:=by rw[jE,Qx]
        have YU:∀x j rW,c5 es x j=some rW->∃l,x<len/\j<i.size/\r[x*i.size+j]?=some l/\l.ju=some rW/\∃wk,(ow i.size len r)[x]?=some wk/\wk[j]?=some l:=by
         intro x j rW aB;unfold c5 at aB;cases aa:es[x]? with
         | none=>simp[aa]at aB
         | some e'=>
          rw[aa,nZ]at aB;obtain⟨wk,h1,U⟩:=cV x e' aa;obtain⟨ax,aF⟩:=ox U;obtain⟨l,aQ,bb⟩:=aF j rW aB;have Yz:=h1;rw[J9]at h1;split at h1
          ·simp only[aO]at h1;subst h1;have YA:=aQ;rw[hj]at aQ;split at aQ
           ·rw[gU]at aQ;exact⟨l,‹_›,‹_›,aQ,bb,_,Yz,YA⟩
           cases aQ
          cases h1
        have PQ:r.length=len*i.size:=by
         have:=Eh.1;have U:out.size=(madeCells z.cells (len*i.size)).size:=by
          have:=Eh.1;have aF:∀(fS:List (Nat×aI)) (kd il:List aD),rX (fun x=>some (x*i.size,i.size)) kd fS=some il->il.length=kd.length:=by
           intro fS;induction fS with
           | nil=>intro kd il h;simp[rX]at h;rw[h]
           | cons x fS dk=>
            intro kd il h;obtain⟨hG,gd⟩:=x;simp only[rX]at h;split at h
            ·split at h
             ·rename_i bC;rw[dk _ _ h,Kp (by omega)]
             cases h
            cases h
          have:=aF _ _ _ az;simp[madeCells];omega
         simp[madeCells]at U;omega
        have gE:(w.alloc (.cells out e)).heap[w.heap.size]?=some (.cells out e (0,0)):=ov _ _;have wo:=aT.ke d (anK PD) (sl 0 (ow i.size len r)) (k:=i.size) (cap:=len) (es:=es) (w1:=w.alloc (.cells out e))
         ((ho.refl _ _).alloc (dN _) _) gE (by omega) (by rw[Eh.1,PQ];exact dN _)
         (fun e' he=>by
          obtain⟨x,aa⟩:=pJ.1 he;obtain⟨wk,h1,U⟩:=cV x e' aa;obtain⟨ax,_⟩:=ox U;rw[ax];rw[J9]at h1;split at h1
          ·simp only[aO]at h1;subst h1;have:(x+1)*i.size<=len*i.size:=hR _ (by omega);rw[fX]at this;simp;omega
          cases h1)
         (fun x j rW aB=>by
          obtain⟨l,h1,U,ax,aF,wk,aQ,bb⟩:=YU x j rW aB;obtain⟨u,bN,dj⟩:=Eh.2 _ _ ax;refine⟨u,bN,l,aF,dj,fun s ai=>?_⟩;have:=Qy (ow i.size len r) 0 x j wk l s aQ bb ai;rw[dq]at this;exact anL PD this)
        rw[hlen]at wo;refine⟨_,_,?_,_,_,wo.1.put (p:=.one (.J (.own d) i.size es)) wo.2⟩;have p1:((Array.range (len*i.size)).map (fun x=>(if len*i.size=0 then (#[]:Array Value) else z.cells)[x % (if len*i.size=0 then (#[]:Array Value) else z.cells).size]!))=madeCells z.cells (len*i.size):=by
         unfold madeCells;by_cases bl:len*i.size=0
         ·simp[bl]
         simp[bl]
        have e:(Array.map (fun (x:Nat×Operand)=>(x.1,a.eval x.2)) parts).toList=parts.toList.map fun x=>(x.1,a.eval x.2):=by simp
        have ZI:¬(len*i.size>2 ^ 24):=by have:(2:Nat) ^ 24=16777216:=(by decide);omega
        simp only[Instr.buildSlice,Sem.run_bind,run_underlying hu,Result.andThen_ok,sizeOf,typeInfo,run_program,hi,Sem.run_pure];rw[a6 ZI];by_cases bl:len*i.size=0
        ·simp only[bl,fL]at p1 ⊢;simp only[Sem.run_pure,Sem.run_bind,Result.andThen_ok,e];rw[bl]at IU;rw[p1,IU];simp[newRow]
        simp only[bl,k9]at p1 ⊢;simp only[zeroValue,typeInfo,Sem.run_bind,run_program,Result.andThen_ok,hi,aW,Sem.run_pure,e];rw[p1,IU];simp[newRow]
       cases h
      cases h
     cases h
    cases h
   cases h
  cases h
 cases h
end Go.Sx
namespace Go.Sx
open Go.RowKit
variable{w:World}{ω a1:Own}{k n:Nat}{es:List (List D)}
theorem bX.V8{aJ:World}{R i':List (Nat×Nat)->c0->Prop}{b off cap:Nat}(h:bX w ω R (.J k es) (.slice (some ⟨b,off,none⟩) n cap))
  {arr b5:Array Value} {ty:TypeId} {cR:Nat×Nat} (ao:w.heap[b]?=some (.cells arr ty cR)) (di:aJ.heap[b]?=some (.cells b5 ty cR)) (c7:b5.size=arr.size)
  (YI:∀x,x<off+n*k->b5[x]?=arr[x]?) (D1:∀o,o=ω b->R [] o->i' [] (a1 b)) (mM:∀c p q,c<w.heap.size->R (p::q) (ω c)->i' (p::q) (a1 c)/\aJ.heap[c]?=w.heap[c]?):
  bX aJ a1 i' (.J k es) (.slice (some ⟨b,off,none⟩) n cap):=by
 generalize bn:Value.slice (some ⟨b,off,none⟩) n cap=y at h;cases h with
 | nil=>cases bn;exact .nil _ _ _
 | row R k es fH rf qA jb jv H3 us gC ed af ai hk hu aB=>
  simp only[Value.slice.injEq,aO,Addr.mk.injEq]at bn;obtain⟨⟨rfl,rfl,_⟩,rfl,rfl⟩:=bn;rw[ao]at gC;simp only[aO,Obj.cells.injEq]at gC;obtain⟨rfl,rfl,rfl⟩:=gC;refine .row i' k es b off cap b5 ty cR us di (D1 _ rfl ed) af (by omega) hk (fun i j d d'=>?_) (fun i j d d'=>(aB i j d d').frame fun c q qU aA=>mM c _ _ qU aA);rw[YI,hu i j d d'];have lh:i<es.length/\j<k:=by
   unfold c5 at d';cases aa:es[i]? with
   | none=>simp[aa]at d'
   | some e=>
    rw[aa,nZ]at d';have h1:=(ey.1 aa).1;have U:=(ey.1 d').1;rw[hk e (fE aa)]at U;exact⟨h1,U⟩
  have:(i+1)*k<=es.length*k:=hR _ lh.1;rw[fX]at this;omega
variable{i j:Nat}
theorem tP{d:D}(hk:∀e∈es,e.length=k)(h:c5 es i j=some d):i<es.length/\j<k:=by
 unfold c5 at h;cases aa:es[i]? with
 | none=>simp[aa]at h
 | some e=>
  rw[aa,nZ]at h;have h1:=(ey.1 aa).1;have U:=(ey.1 h).1;rw[hk e (fE aa)]at U;exact⟨h1,U⟩
variable{bR:List (List D)}
theorem Cb:c5 (es++bR) i j=if i<es.length then c5 es i j else c5 bR (i-es.length) j:=by
 unfold c5;rw[l7];split<;>rfl
theorem QA(hk:∀e∈es,e.length=k)(hi:i<es.length)(aP:j<k):∃d,c5 es i j=some d:=by
 have h1:es[i].length=k:=hk _ (pK hi);exact⟨es[i][j],by simp[c5,hi,h1,aP]⟩
def ki(t:Nat)(eb:Option Nat)(n:Nat):c0->c0
 | .tok s q=>if eb=some s then (match q with | []=>.bB | p::dB=>.tok t ((n+p.1,p.2)::dB)) else .tok s q
 | o=>o
def iw(t:Nat)(eb:Option Nat):Tag->Option Tag
 | .free=>some .free
 | .own s=>if s=t then some (.ro t) else if eb=some s then none else some (.own s)
 | .ro s=>if s=t then none else if eb=some s then none else some (.ro s)
structure Src (P:Program) (w:World) (ω:Own) (k:Nat) (bR:List (List D)) (eb:Option Nat) (y:Value) (news:List Value):Prop where
 len:news.length=bR.length*k
 rows:∀e∈bR,e.length=k
 one:∀u∈news,u.oneCell'=true
 cell:∀i j d,c5 bR i j=some d->∃u,news[i*k+j]?=some u/\((∃x,d=.v x/\u=x)\/∃s,eb=some s/\bX w ω (fun q=>(Tag.own s).R ((i,j)::q)) d u)
 shape:((∃a,y=.slice a 0 0)/\bR=[])\/∃b o c,y=.slice (some ⟨b,o,none⟩) bR.length c/\∀j v,news[j]?=some v->w.cell? ((⟨b,o,none⟩:Addr).add j)=some v
variable{t:Nat}{eb:Option Nat}
theorem Ka{o:c0}{id:Nat}:ki t eb n o=.box id<->o=.box id:=by
 cases o with
 | bB=>simp[ki]
 | box i=>simp[ki]
 | tok s q=>
  simp only[ki];split
  ·cases q<;>simp
  simp
theorem w7{s:Nat}{q:List (Nat×Nat)}(h:eb≠some s):ki t eb n (.tok s q)=.tok s q:=by simp[ki,h]
theorem tQ{w aJ:World}{g ev:Tag}(jd:eb≠some t)(ar:iw t eb g=some ev)(cf:g≠.own t)
  (da:∀c,c<w.heap.size->ω c≠.tok t []->a1 c=ki t eb n (ω c)/\aJ.heap[c]?=w.heap[c]?):
  ∀c q,c<w.heap.size->g.R q (ω c)->ev.R q (a1 c)/\aJ.heap[c]?=w.heap[c]?:=by
 intro c q af az;cases g with
 | free=>
  simp only[iw,aO]at ar;subst ar;simp only[Tag.R]at az;obtain⟨h1,U⟩:=da c af (by rw[az];simp);rw[h1,az];exact⟨rfl,U⟩
 | own s=>
  simp only[iw]at ar;have ai:s≠t:=fun e=>cf (by rw[e])
  rw[a6 ai]at ar;split at ar
  ·cases ar
  rename_i hm;simp only[aO]at ar;subst ar;simp only[Tag.R]at az;obtain⟨h1,U⟩:=da c af (by rw[az];simp[ai]);rw[h1,az,w7 hm];exact⟨rfl,U⟩
 | ro s=>
  simp only[iw]at ar;split at ar
  ·cases ar
  rename_i ai;split at ar
  ·cases ar
  rename_i hm;simp only[aO]at ar;subst ar;simp only[Tag.R]at az;rcases az with az | ⟨dB,az⟩
  ·obtain⟨h1,U⟩:=da c af (by rw[az];simp);rw[h1,az];exact⟨.inl rfl,U⟩
  obtain⟨h1,U⟩:=da c af (by rw[az];simp[ai]);rw[h1,az,w7 hm];exact⟨.inr ⟨dB,rfl⟩,U⟩
def gQ(τ:Nat->Nat×Value)(t k:Nat)(z:Value):Nat->Nat×Value:=fun s=>if s=t then (k,z) else τ s
variable{τ:Nat->Nat×Value}
theorem E2{k:Nat}{z:Value}{g ev:Tag}{y:Nat×Value}(ar:iw t eb g=some ev)(bn:g.eg τ y):ev.eg (gQ τ t k z) y:=by
 cases g with
 | free=>simp only[iw,aO]at ar;subst ar;exact trivial
 | own s=>
  simp only[iw]at ar;split at ar
  ·simp only[aO]at ar;subst ar;exact trivial
  split at ar
  ·cases ar
  simp only[aO]at ar;subst ar;simp only[Tag.eg,gQ]at bn ⊢;rw[a6 ‹_›];exact bn
 | ro s=>
  simp only[iw]at ar;split at ar
  ·cases ar
  split at ar
  ·cases ar
  simp only[aO]at ar;subst ar;exact trivial
theorem HH{aJ:World}{z:Value}(iM:t<df)(jd:eb≠some t)
  (da:∀c,c<w.heap.size->ω c≠.tok t []->a1 c=ki t eb n (ω c)/\aJ.heap[c]?=w.heap[c]?)
  (r2:∀id b,ω b=.box id->a1 b=.box id)
  (lD:∀es y,bX w ω (Tag.own t).R (.J (τ t).1 es) y->y=(τ t).2->bX aJ a1 (Tag.ro t).R (.J (τ t).1 es) y):
  ∀l v,Sat w ω τ l v->Sat aJ a1 (gQ τ t k z) (l.cr (iw t eb) fun _=>true) v:=by
 intro l v ai;cases l with
 | cu=>exact trivial
 | v x=>exact ai
 | cg c=>exact ai
 | ptr id off=>
  simp only[aD.cr,fL];obtain⟨b,ao,e⟩:=ai;exact⟨b,r2 id b ao,e⟩
 | fB s vs=>
  simp only[aD.cr];split
  ·rename_i uh ar;split
   ·rename_i I4;subst I4;have cf:Tag.own uh≠.own t:=by
     intro e;simp only[Tag.own.injEq]at e;subst e;simp[iw]at ar
    obtain⟨b,ty,arr,e,aQ,ax,aK,bz⟩:=ai;have bu:b<w.heap.size:=(jz.1 ax).1;have hk:=tQ (w:=w) (aJ:=aJ) jd ar cf da b [] bu aQ;refine⟨b,ty,arr,e,hk.1,hk.2.trans ax,ER (fun c u af=>?_) aK bz⟩;cases c with
    | cu=>exact trivial
    | v x=>exact af
    | J g cb es=>
     simp only[e9.cr];cases ar:iw t eb g with
     | none=>exact trivial
     | some ev=>
      by_cases cf:g=.own t
      ·subst cf;simp only[iw,fL,aO]at ar;subst ar;obtain⟨h1,U⟩:=af;simp only[Tag.eg]at U;have e1:(τ t).1=cb:=by rw[U]
       have e2:(τ t).2=u:=by rw[U]
       exact⟨by rw[<-e1];exact lD es u (by rw[e1];exact h1) e2.symm,ae⟩
      exact⟨af.1.frame fun c q af aA=>tQ jd ar cf da c q af aA,E2 ar af.2⟩
   exact trivial
  exact trivial
 | a8 s i j bw es m=>
  simp only[aD.cr];split
  ·rename_i uh ar;split
   ·rename_i I4;subst I4;have cf:Tag.own uh≠.own t:=by
     intro e;simp only[Tag.own.injEq]at e;subst e;simp[iw]at ar
    obtain⟨u,hu,h1,hm⟩:=ai;refine⟨u,hu,h1.frame fun c q af aA=>tQ jd ar cf da c _ af aA,fun bC=>?_⟩;obtain⟨kT,b,off,len,cap,arr,ty,cR,U,aQ,ax,aF⟩:=hm bC;have bu:b<w.heap.size:=(jz.1 ax).1;have hk:=tQ (w:=w) (aJ:=aJ) jd ar cf da b [] bu aQ;exact⟨kT,b,off,len,cap,arr,ty,cR,E2 (k:=k) (z:=z) ar U,hk.1,hk.2.trans ax,aF⟩
   exact trivial
  exact trivial
 | hq f ids=>
  simp only[aD.cr];split
  ·obtain⟨bs,e,aK,hi⟩:=ai;refine⟨bs,e,aK,fun i id gq=>?_⟩;obtain⟨b,h1,U⟩:=hi i id gq;exact⟨b,h1,r2 id b U⟩
  exact trivial
 | iC ds off=>
  obtain⟨b,e,az⟩:=ai;exact⟨b,e,az.frame fun c q af aA=>tQ (g:=.free) (ev:=.free) jd rfl (by simp) da c q af aA⟩
 | fd d=>exact bX.frame ai fun c q af aA=>tQ (g:=.free) (ev:=.free) jd rfl (by simp) da c q af aA
 | gb t0 dw dP=>exact⟨bX.frame ai.1 fun c q af aA=>tQ (g:=.free) (ev:=.free) jd rfl (by simp) da c q af aA,fun bq=>(show gQ τ t k z t0=τ t0 by simp only[gQ];rw[a6 (by omega)]).trans (ai.2 bq)⟩
 | J g cb es=>
  simp only[aD.cr];cases ar:iw t eb g with
  | none=>exact trivial
  | some ev=>
   by_cases cf:g=.own t
   ·subst cf;simp only[iw,fL,aO]at ar;subst ar;obtain⟨h1,U⟩:=ai;simp only[Tag.eg]at U;have e1:(τ t).1=cb:=by rw[U]
    have e2:(τ t).2=v:=by rw[U]
    exact⟨by rw[<-e1];exact lD es v (by rw[e1];exact h1) e2.symm,ae⟩
   exact⟨ai.1.frame fun c q af aA=>tQ jd ar cf da c q af aA,E2 ar ai.2⟩
 | ep g cb es i j=>
  simp only[aD.cr];cases ar:iw t eb g with
  | none=>exact trivial
  | some ev=>
   obtain⟨b,off,cap,e,hi,az,bC⟩:=ai;by_cases cf:g=.own t
   ·subst cf;simp only[iw,fL,aO]at ar;subst ar;simp only[Tag.eg]at bC;have e1:(τ t).1=cb:=by rw[bC]
    have e2:(τ t).2=Value.slice (some ⟨b,off,none⟩) es.length cap:=by rw[bC]
    exact⟨b,off,cap,e,hi,by rw[<-e1];exact lD es _ (by rw[e1];exact az) e2.symm,ae⟩
   exact⟨b,off,cap,e,hi,az.frame fun c q af aA=>tQ jd ar cf da c q af aA,E2 ar bC⟩
def aG.yk(st:aG)(t:Nat)(eb:Option Nat):aG:=st.map (aD.cr (iw t eb) fun _=>true)
variable{y:Value}
theorem QB{P:Program}{t ty e:TypeId}{i:TypeInfo}(bq:P.underlying t=some (.slice e))(hi:P.info? e=some i)(w:World){iE:Value}
  (bn:∃a n c,y=.slice a n c/\n<=c) (lG:∃a c,iE=.slice a 0 c):
  (Builtin.append_ #[t,t] ty #[y,iE]).run P w=.ok y w:=by
 obtain⟨a,n,c,rfl,aK⟩:=bn;obtain⟨a2,c2,rfl⟩:=lG;cases a<;>cases a2<;>
  simp[Builtin.append_,run_underlying bq,sizeOf,typeInfo,hi,Builtin.lenOf,Builtin.firstCells,loadCells,loadCellsFrom,storeCells, *]
theorem E3{P:Program}{t ty e:TypeId}{i:TypeInfo}(bq:P.underlying t=some (.slice e))(hi:P.info? e=some i)(w:World)
  (b off n cap:Nat) (arr:Array Value) (h6:TypeId) (ar:w.heap[b]?=some (.cells arr h6 (0,0)))
  (cn:Addr) (m c:Nat) (news:List Value) (aj:news.length=m*i.size) (jF:∀j u,news[j]?=some u->w.cell? (cn.add j)=some u) (h1:∀u∈news,u.oneCell'=true)
  (o4:n+m<=cap) (dV:off+n*i.size+news.length<=arr.size):
  (Builtin.append_ #[t,t] ty #[.slice (some ⟨b,off,none⟩) n cap,.slice (some cn) m c]).run P w=
   .ok (.slice (some ⟨b,off,none⟩) (n+m) cap) (w.setRow b (arr.toList.take (off+n*i.size)++news++arr.toList.drop (off+n*i.size+news.length)).toArray):=by
 have bg:=run_firstCells_some (P:=P) w i.size m cn m c news aj jF;have fk:=run_storeCells_at P b (off+n*i.size) h6 news 0 arr w ar (by simpa using dV) h1;simp only[nj]at fk;simp[Builtin.append_,run_underlying bq,sizeOf,typeInfo,hi,Builtin.lenOf,o4,bg,ry,fk]
theorem Src.OU{P:Program}{aJ:World}{a1:Own}{n:Nat}{news:List Value}(h:Src P w ω k bR eb y news)(jd:eb≠some t)
  (da:∀c,c<w.heap.size->ω c≠.tok t []->a1 c=ki t eb n (ω c)/\aJ.heap[c]?=w.heap[c]?) {i j:Nat} {d:D} (aB:c5 bR i j=some d):
  ∃u,news[i*k+j]?=some u/\bX aJ a1 (fun q=>(Tag.own t).R ((n+i,j)::q)) d u:=by
 obtain⟨u,h1,U⟩:=h.cell i j d aB;refine⟨u,h1,?_⟩;rcases U with⟨x,rfl,rfl⟩ | ⟨s,ai,az⟩
 ·exact .v _ _ (h.one _ (fE h1))
 refine az.frame fun c q af aA=>?_
 simp only[Tag.R]at aA ⊢;have fk:s≠t:=fun e=>jd (by rw[ai,e])
 obtain⟨ax,aF⟩:=da c af (by rw[aA];simp[fk]);rw[ax,aA];exact⟨by simp[ki,ai],aF⟩
theorem cE.append{P:Program}{w0:eN}{st:aG}{a:Act}(aT:cE w0 st a w ω τ){iE:Value}{news:List Value}
  (hp:Sat w ω τ (.J (.own t) k es) y) (jG:Src P w ω k bR eb iE news) (jd:eb≠some t) {ty iD e:TypeId} {i:TypeInfo} {z:Value}
  (bq:P.underlying iD=some (.slice e)) (hi:P.info? e=some i) (aW:i.zero=some z) (hk:i.size=k) (p2:z.cells.size=k)
  (gj:(es.length+bR.length)*i.bytes<=140737488355328) (gC:es.length+bR.length<=9223372036854775807) (iM:t<df):
  ∃r aJ a1,(Builtin.append_ #[iD,iD] ty #[y,iE]).run P w=.ok r aJ/\cE w0 (st.yk t eb) a aJ a1 (gQ τ t k r)/\Sat aJ a1 (gQ τ t k r) (.J (.own t) k (es++bR)) r:=by
 subst hk;obtain⟨az,bC⟩:=hp;simp only[Tag.eg]at bC;have e1:(τ t).1=i.size:=by rw[bC]
 have e2:(τ t).2=y:=by rw[bC]
 have IB:∀r:Value,∀s,df<=s->gQ τ t i.size r s=τ s:=fun r s ai=>by simp only[gQ];rw[a6 (by omega)]
 have Zm:(Tag.own t).eg (gQ τ t i.size y) (i.size,y):=by simp[Tag.eg,gQ]
 by_cases hm:bR.length=0
 ·
  have IA:bR=[]:=x' hm;subst IA
  let a1:Own:=fun c=>ki t eb es.length (ω c)
  have da:∀c,c<w.heap.size->ω c≠.tok t []->a1 c=ki t eb es.length (ω c)/\w.heap[c]?=w.heap[c]?:=fun c _ _=>⟨rfl,rfl⟩
  have fj:(Builtin.append_ #[iD,iD] ty #[y,iE]).run P w=.ok y w:=by
   refine QB bq hi w ?_ ?_
   ·cases az with
    | nil _ _ a0=>exact⟨a0,0,0,rfl,dN _⟩
    | row R k es b off cap arr ty cR us ao ed af ai hk hu aB=>exact⟨some ⟨b,off,none⟩,_,cap,rfl,af⟩
   rcases jG.shape with⟨⟨a,h⟩,_⟩ | ⟨b,o,c,h,_⟩
   ·exact⟨a,0,h⟩
   exact⟨some ⟨b,o,none⟩,c,h⟩
  refine⟨y,w,a1,fj,aT.dh _ (HH iM jd da (fun id b ao=>by simp[a1,ao,ki]) ?_) aT.below ?_ ?_ ?_ (IB _),?_,Zm⟩
  ·intro cB gT ek _;refine ek.frame fun c q af aA=>⟨?_,rfl⟩
   simp only[Tag.R]at aA ⊢;simp only[a1,aA];exact .inr ⟨q,w7 jd⟩
  ·intro b ao;have:ω b≠.bB:=fun e=>by simp[a1,e,ki]at ao
   exact aT.owned b this
  ·intro id b ao;exact⟨by simp[a1,ao,ki],rfl⟩
  ·intro id b ao;exact Ka.1 ao
  rw[jX];refine az.frame fun c q af aA=>⟨?_,rfl⟩
  simp only[Tag.R]at aA ⊢;simp only[a1,aA];exact w7 jd
 have wB:0<bR.length:=by omega
 rcases jG.shape with⟨_,h⟩ | ⟨cg,k2,lP,rfl,jF⟩
 ·rw[h]at wB;simp at wB
 have grown:∀(w1:World) (b5:Array Value) (r:Value) (mG:Nat),ho w.heap.size w w1->w1.heap[w.heap.size]?=some (.cells b5 e (0,0))->r=.slice (some ⟨w.heap.size,0,none⟩) (es.length+bR.length) mG->
   es.length+bR.length<=mG->mG*i.size<=b5.size->(∀fA j d,c5 es fA j=some d->∃u,b5[fA*i.size+j]?=some u/\∃R:List (Nat×Nat)->c0->Prop,(∀q o,R q o->o=.tok t ((fA,j)::q))/\bX w ω R d u)->
   (∀x u,news[x]?=some u->b5[es.length*i.size+x]?=some u)->(∀e∈es,e.length=i.size)->
   ∃a1,cE w0 (st.yk t eb) a w1 a1 (gQ τ t i.size r)/\Sat w1 a1 (gQ τ t i.size r) (.J (.own t) i.size (es++bR)) r:=by
  intro w1 b5 r mG lz gE IY f' c7 hold A3 uV;subst IY
  let a1:Own:=fun c=>if c=w.heap.size then .tok t [] else @ite _ (ω c=.tok t []) (Classical.propDecidable _) .bB (ki t eb es.length (ω c))
  have awJ:ω w.heap.size=.bB:=aT.owned.fresh (dN _);have da:∀c,c<w.heap.size->ω c≠.tok t []->a1 c=ki t eb es.length (ω c)/\w1.heap[c]?=w.heap[c]?:=by
   intro c af cf;refine⟨?_,lz.block c af⟩;simp only[a1];rw[a6 (by omega),a6 cf]
  have lX:a1 w.heap.size=.tok t []:=by simp[a1]
  have mM:∀c p q,c<w.heap.size->ω c=.tok t (p::q)->a1 c=.tok t (p::q):=by
   intro c p q af aA;rw[(da c af (by rw[aA];simp)).1,aA,w7 jd]
  refine⟨a1,aT.dh _ (HH iM jd da ?_ ?_) (aT.below.next lz) ?_ ?_ ?_ (IB _),?_,by simp[Tag.eg,gQ]⟩
  ·intro id b ao;have bu:=aT.owned.lt (b:=b) (by simp[ao]);rw[(da b bu (by rw[ao];simp)).1,ao];rfl
  ·intro cB gT ek _;refine ek.frame fun c q af aA=>⟨?_,lz.block c af⟩
   simp only[Tag.R]at aA ⊢;cases q with
   | nil=>left;simp only[a1];rw[a6 (by omega),aZ aA]
   | cons p q=>right;exact⟨_,mM c p q af aA⟩
  ·intro b ao;by_cases uM:b=w.heap.size
   ·subst uM;exact⟨.inl aT.below.size,b5,e,gE⟩
   have:ω b≠.bB:=by
    intro e';simp only[a1]at ao;rw[a6 uM,e']at ao;simp[ki]at ao
   obtain⟨ax,jb,jv,aF⟩:=aT.owned b this;exact⟨ax,jb,jv,(lz.block b (aT.owned.lt this)).trans aF⟩
  ·intro id b ao;have bu:=aT.owned.lt (b:=b) (by simp[ao]);obtain⟨h1,U⟩:=da b bu (by rw[ao];simp);exact⟨by rw[h1,ao];rfl,U⟩
  ·intro id b ao;by_cases uM:b=w.heap.size
   ·subst uM;rw[lX]at ao;cases ao
   simp only[a1]at ao;rw[a6 uM]at ao;split at ao
   ·cases ao
   exact Ka.1 ao
  have fa:∀x j d,c5 (es++bR) x j=some d->∃u,b5[x*i.size+j]?=some u/\bX w1 a1 (fun q=>(Tag.own t).R ((x,j)::q)) d u:=by
   intro x j d aB;rw[Cb]at aB;split at aB
   ·obtain⟨u,h1,R,ed,U⟩:=hold x j d aB;refine⟨u,h1,U.frame fun c q af aA=>⟨?_,lz.block c af⟩⟩;exact mM c _ _ af (ed q _ aA)
   rename_i aa;obtain⟨u,h1,U⟩:=jG.OU (aJ:=w1) (a1:=a1) (n:=es.length) jd da aB;refine⟨u,?_,?_⟩
   ·rw[<-A3 _ u h1]
    congr 1
    have:x=es.length+(x-es.length):=by omega
    rw[this,fX];simp only[Nat.add_sub_cancel_left];omega
   rwa[show es.length+(x-es.length)=x by omega]at U
  have hlen:(es++bR).length=es.length+bR.length:=k7;have q':∀e∈es++bR,e.length=i.size:=by
   intro e' he;rcases gV.1 he with h | h
   ·exact uV e' h
   exact jG.rows e' h
  have:=bX.row (w:=w1) (ω:=a1) (Tag.own t).R i.size (es++bR) w.heap.size 0 mG b5 e (0,0) (fun x j=>b5.getD (x*i.size+j) undef) gE lX (by omega) (by omega) q'
   (fun x j d aB=>by obtain⟨u,h1,_⟩:=fa x j d aB;rw[dq,h1];simp[eu,h1])
   (fun x j d aB=>by obtain⟨u,h1,U⟩:=fa x j d aB;have:b5.getD (x*i.size+j) undef=u:=(by simp[eu,h1]);rw[this];exact U)
  rw[hlen]at this;exact this
 generalize P4:y=mA at az;cases az with
 | nil _ _ a0=>
  subst P4;simp only[bY,dq]at gj gC;have fj:(Builtin.append_ #[iD,iD] ty #[.slice a0 0 0,.slice (some ⟨cg,k2,none⟩) bR.length lP]).run P w=
    .ok (.slice (some ⟨w.heap.size,0,none⟩) bR.length (grownCap w bR.length 0 e)) (w.drew.alloc (.cells (news.toArray++Builtin.zeroCells z.cells (grownCap w bR.length 0 e-bR.length)) e)):=by
   cases a0 with
   | none=>exact run_append_nil (P:=P) w iD ty e i z bq hi aW ⟨cg,k2,none⟩ bR.length lP news jG.len jF wB (by omega) (by omega)
   | some ck=>
    have:=run_append_grow (P:=P) w iD ty e i z bq hi aW ck 0 0 [] (by simp) (fun j v bz=>by simp at bz) ⟨cg,k2,none⟩ bR.length lP news jG.len jF (by omega) (by omega) (growslice_fits (by omega) (by simpa using gj));simpa using this
  have nz:=grownCap_ge w bR.length 0 e;obtain⟨a1,h1,U⟩:=grown _ (news.toArray++Builtin.zeroCells z.cells (grownCap w bR.length 0 e-bR.length)) (.slice (some ⟨w.heap.size,0,none⟩) bR.length (grownCap w bR.length 0 e)) (grownCap w bR.length 0 e)
   (((ho.refl _ _).drew).alloc (dN _) _) (ov _ _) (by simp) (by simpa using nz) (by
    simp only[rM,l8,size_zeroCells,jG.len,p2,<-fX];exact hR _ (by omega))
   (fun fA j d aB=>by simp[c5]at aB) (fun x u aa=>by
    simp only[bY,Nat.zero_mul,dq];rw[iq,aZ (by have:=(ey.1 aa).1;simpa using this)];simpa using aa) (fun e he=>by cases he)
  exact⟨_,_,a1,fj,h1,U⟩
 | row R k es b off cap arr h6 cR us ao ed af ai gP hu aB=>
  have iK:ω b=.tok t []:=ed;obtain⟨wI,ux,vR,ic⟩:=aT.owned b (by rw[iK];simp);rw[ao]at ic;simp only[aO,Obj.cells.injEq]at ic;obtain⟨rfl,rfl,rfl⟩:=ic;have wu:b<w.heap.size:=(jz.1 ao).1;by_cases o4:es.length+bR.length<=cap
  ·
   have hmul:(es.length+bR.length)*i.size<=cap*i.size:=hR _ o4;rw[fX]at hmul;have wH:=jG.len;have dV:off+es.length*i.size+news.length<=arr.size:=by omega
   have fj:=E3 (P:=P) (ty:=ty) bq hi w b off es.length cap arr h6 ao ⟨cg,k2,none⟩ bR.length lP news jG.len jF jG.one o4 dV;generalize oh:(arr.toList.take (off+es.length*i.size)++news++arr.toList.drop (off+es.length*i.size+news.length)).toArray=b5 at fj;have ix:∀x:Nat,b5[x]?=if off+es.length*i.size<=x/\x<off+es.length*i.size+news.length then news[x-(off+es.length*i.size)]? else arr[x]?:=by
    intro x;rw[<-oh,nY,B' (by simpa using dV)];simp
   have yR:b5.size=arr.size:=by rw[<-oh];simp;omega
   have kq:=setRow_heap w b arr b5 h6 (0,0) ao
   let a1:Own:=fun c=>ki t eb es.length (ω c)
   have da:∀c,c<w.heap.size->ω c≠.tok t []->a1 c=ki t eb es.length (ω c)/\(w.setRow b b5).heap[c]?=w.heap[c]?:=fun c _ cf=>
    ⟨rfl,setRow_other w b c b5 fun e=>cf (by rw[e];exact iK)⟩
   have lX:a1 b=.tok t []:=by simp only[a1,iK];exact w7 jd
   have mM:∀c p q,c<w.heap.size->ω c=.tok t (p::q)->a1 c=.tok t (p::q)/\(w.setRow b b5).heap[c]?=w.heap[c]?:=by
    intro c p q af aA;obtain⟨h1,U⟩:=da c af (by rw[aA];simp);rw[h1,aA,w7 jd];exact⟨rfl,U⟩
   refine⟨_,_,a1,fj,aT.dh _ (HH iM jd da (fun id c gD=>by simp[a1,gD,ki]) ?_) ?_ ?_ ?_ ?_ (IB _),?_,by simp[Tag.eg,gQ]⟩
   ·intro cB gT ek qY;rw[qY,e2,P4]at ek ⊢;rw[e1]at ek ⊢;have lW:es.length=cB.length:=by
     obtain⟨_,_,h⟩:=ek.len;simp only[Value.slice.injEq]at h;exact h.2.1
    refine bX.V8 ek ao kq yR (fun x aa=>?_) (fun o aN yP=>?_) (fun c p q af aA=>?_)
    ·rw[ix,a6 (by omega)]
    ·right;exact⟨[],lX⟩
    simp only[Tag.R]at aA ⊢;obtain⟨h1,U⟩:=mM c p q af aA;exact⟨.inr ⟨_,h1⟩,U⟩
   ·exact aT.below.setRow wI b5
   ·intro c gD;have:ω c≠.bB:=fun e=>by simp[a1,e,ki]at gD
    obtain⟨ax,jb,jv,aF⟩:=aT.owned c this;by_cases qS:c=b
    ·subst qS;exact⟨ax,b5,h6,kq⟩
    exact⟨ax,jb,jv,(setRow_other w b c b5 qS).trans aF⟩
   ·intro id c gD;exact⟨by simp[a1,gD,ki],setRow_other w b c b5 fun e=>by rw[e,iK]at gD;cases gD⟩
   ·intro id c gD;exact Ka.1 gD
   have fa:∀x j d,c5 (es++bR) x j=some d->∃u,b5[off+x*i.size+j]?=some u/\bX (w.setRow b b5) a1 (fun q=>(Tag.own t).R ((x,j)::q)) d u:=by
    intro x j d ef;rw[Cb]at ef;split at ef
    ·rename_i aa;have A0:=(tP gP ef).2;refine⟨us x j,?_,(aB x j d ef).frame fun c q af aA=>?_⟩
     ·have:(x+1)*i.size<=es.length*i.size:=hR _ aa;rw[fX]at this;rw[ix,a6 (by omega),hu x j d ef]
     exact mM c _ _ af aA
    rename_i aa;obtain⟨u,h1,U⟩:=jG.OU (aJ:=w.setRow b b5) (a1:=a1) (n:=es.length) jd da ef;have aaz:=(ey.1 h1).1;have yS:x*i.size=es.length*i.size+(x-es.length)*i.size:=by rw[<-fX];congr 1;omega
    refine⟨u,?_,?_⟩
    ·rw[ix,aZ (by omega),<-h1]
     congr 1
     omega
    rwa[show es.length+(x-es.length)=x by omega]at U
   have hlen:(es++bR).length=es.length+bR.length:=k7;have q':∀e∈es++bR,e.length=i.size:=by
    intro e' he;rcases gV.1 he with h | h
    ·exact gP e' h
    exact jG.rows e' h
   have:=bX.row (w:=w.setRow b b5) (ω:=a1) (Tag.own t).R i.size (es++bR) b off cap b5 h6 (0,0) (fun x j=>b5.getD (off+x*i.size+j) undef) kq lX (by omega) (by omega) q'
    (fun x j d aB=>by obtain⟨u,h1,_⟩:=fa x j d aB;rw[h1];simp[eu,h1])
    (fun x j d aB=>by obtain⟨u,h1,U⟩:=fa x j d aB;have:b5.getD (off+x*i.size+j) undef=u:=(by simp[eu,h1]);rw[this];exact U)
   rw[hlen]at this;exact this
  -- it aws
  have hmul:es.length*i.size<=cap*i.size:=hR _ af;have nB:((arr.toList.drop off).take (es.length*i.size)).length=es.length*i.size:=by simp;omega
  have fj:=run_append_grow (P:=P) w iD ty e i z bq hi aW ⟨b,off,none⟩ es.length cap ((arr.toList.drop off).take (es.length*i.size)) nB (fun j v bz=>by
   rw[ry,cell_of_row w b (off+j) arr h6 (0,0) ao];rw[hj]at bz;split at bz
   ·rw[gU]at bz;simpa using bz
   cases bz) ⟨cg,k2,none⟩ bR.length lP news jG.len jF (by omega) (by omega) (growslice_fits (by omega) gj)
  have nz:=grownCap_ge w (es.length+bR.length) cap e;obtain⟨a1,h1,U⟩:=grown _ (((arr.toList.drop off).take (es.length*i.size)).toArray++news.toArray++Builtin.zeroCells z.cells (grownCap w (es.length+bR.length) cap e-(es.length+bR.length))) _ (grownCap w (es.length+bR.length) cap e)
   (((ho.refl _ _).drew).alloc (dN _) _) (ov _ _) rfl nz (by
    simp only[rM,l8,size_zeroCells,jG.len,p2,nB,<-fX];exact hR _ (by omega))
   (fun fA j d d'=>by
    obtain⟨yK,eA⟩:=tP gP d';have:(fA+1)*i.size<=es.length*i.size:=hR _ yK;rw[fX]at this;refine⟨us fA j,?_,fun q=>(Tag.own t).R ((fA,j)::q),fun q o h=>h,aB fA j d d'⟩;rw[iq,aZ (by simp only[rM,l8,nB];omega),iq,aZ (by simp only[l8,nB];omega)];rw[nY,hj,aZ (by omega),gU,<-hu fA j d d'];simp only[iX]
    congr 1
    omega)
   (fun x u aa=>by
    have gk:=(ey.1 aa).1;rw[iq,aZ (by simp only[rM,l8,nB];omega),iq,a6 (by simp only[l8,nB];omega)];simp only[l8,nB,nY];rw[<-aa]
    congr 1
    omega) gP
  exact⟨_,_,a1,fj,h1,U⟩
end Go.Sx
namespace Go.Sx
open Go.RowKit
def Flat(es:List (List D)):Prop:=∀e∈es,∀d∈e,∃x,d=.v x
theorem anN{es:List (List D)}{i j:Nat}{d:D}(h:c5 es i j=some d):∃e∈es,d∈e:=by
 unfold c5 at h;cases aa:es[i]? with
 | none=>simp[aa]at h
 | some e=>rw[aa,nZ]at h;exact⟨e,fE aa,fE h⟩
variable{P:Program}{w:World}{ω:Own}{k:Nat}{eb:Option Nat}
theorem Src.empty(a:Option Addr):Src P w ω k [] eb (.slice a 0 0) [] where
 len:=by simp
 rows:=fun _ h=>(by cases h)
 one:=fun _ h=>(by cases h)
 cell:=fun i j d aB=>by simp[c5]at aB
 shape:=.inl ⟨⟨a,rfl⟩,rfl⟩
theorem Src.of{R:List (Nat×Nat)->c0->Prop}{bR:List (List D)}{y:Value}(h:bX w ω R (.J k bR) y)(mL:0<k)
  (af:Flat bR\/∃s,eb=some s/\R=(Tag.own s).R):∃news,Src P w ω k bR eb y news:=by
 cases h with
 | nil=>exact⟨[],Src.empty _⟩
 | row R k es b off cap arr ty cR us ao ed f' ai gP hu aB=>
  have hmul:bR.length*k<=cap*k:=hR _ f';have ix:∀x:Nat,((arr.toList.drop off).take (bR.length*k))[x]?=if x<bR.length*k then arr[off+x]? else none:=by
   intro x;rw[hj];split
   ·rw[gU];simp
   rfl
  have fa:∀i j d,c5 bR i j=some d->((arr.toList.drop off).take (bR.length*k))[i*k+j]?=some (us i j):=by
   intro i j d d';obtain⟨hi,aP⟩:=tP gP d';have:(i+1)*k<=bR.length*k:=hR _ hi;rw[fX]at this;rw[ix,aZ (by omega),<-hu i j d d',ye]
  refine⟨(arr.toList.drop off).take (bR.length*k),by simp;omega,gP,?_,?_,.inr ⟨b,off,cap,rfl,?_⟩⟩
  ·intro u ks;obtain⟨x,aa⟩:=pJ.1 ks;have bu:x<bR.length*k:=by
    have:=(ey.1 aa).1;simp at this;omega
   have yS:x=(x / k)*k+x % k:=by rw[Nat.mul_comm];exact (Nat.div_add_mod x k).symm
   have aA:x / k<bR.length:=Nat.div_lt_of_lt_mul (by rw[Nat.mul_comm];exact bu);obtain⟨d,d'⟩:=QA gP aA (Nat.mod_lt x mL);have h1:=fa _ _ _ d';rw[<-yS,aa]at h1;rw[eQ h1];exact (aB _ _ _ d').p9
  ·intro i j d d';refine⟨us i j,fa i j d d',?_⟩;rcases af with bg | ⟨s,lj,uW⟩
   ·obtain⟨e,he,ny⟩:=anN d';obtain⟨x,rfl⟩:=bg e he d ny;have:=aB i j _ d';cases ax:us i j<;>(rw[ax]at this;cases this;exact .inl ⟨_,rfl,rfl⟩)
   subst uW;exact .inr ⟨s,lj,aB i j d d'⟩
  intro j v bz;rw[ry,cell_of_row w b (off+j) arr ty cR ao];rw[ix]at bz;split at bz
  ·exact bz
  cases bz
variable{τ:Nat->Nat×Value}
theorem cE.JU{w0:eN}{st:aG}{a:Act}(h:cE w0 st a w ω τ)(t k:Nat)(iM:t<df):
  ∃a1,cE w0 (st.ke t []) a w a1 (gQ τ t k (.slice none 0 0))/\Sat w a1 (gQ τ t k (.slice none 0 0)) (.J (.own t) k []) (.slice none 0 0):=by
 refine⟨fun b=>qd t [] (ω b),h.dh _ (mC.sat (g:=iN t []) (p:=fun _=>true) ⟨?_,?_,?_,rfl,fun s ai=>by simp only[gQ];rw[a6 (by omega)]⟩) h.below ?_ ?_ ?_ (fun s ai=>by simp only[gQ];rw[a6 (by omega)]),.nil _ _ _,by simp[Tag.eg,gQ]⟩
 ·intro g ev b q ar _ aA;exact⟨Qv ar aA,rfl⟩
 ·intro g ev y ar bn;cases g with
  | free=>simp only[iN,aO]at ar;subst ar;exact trivial
  | own s=>
   simp only[iN]at ar;split at ar
   ·simp only[aO]at ar;subst ar;exact trivial
   split at ar
   ·cases ar
   simp only[aO]at ar;subst ar;simp only[Tag.eg,gQ]at bn ⊢;rw[a6 ‹_›];exact bn
  | ro s=>
   simp only[iN]at ar;split at ar
   ·simp only[aO]at ar;subst ar;exact trivial
   split at ar
   ·cases ar
   simp only[aO]at ar;subst ar;exact trivial
 ·intro id b _ ao;exact EZ.2 ao
 ·intro b ao;exact h.owned b fun e=>by simp only[e]at ao;exact ao rfl
 ·intro id b ao;exact⟨EZ.2 ao,rfl⟩
 intro id b ao;exact EZ.1 ao
def wg(t k:Nat)(q:aI)(ans:List b6):Option (List (List D)×Option Nat×List b6×List Prop):=
 match q.leaf,ans with
 | some (.J (.own s) cb bR),.wr::r=>if cb=k/\s≠t then some (bR,some s,r,[]) else none
 | some (.J _ cb bR),ans=>if cb=k then some (bR,none,ans,[Flat bR]) else none
 | some (.v (.slice none 0 0)),ans=>some ([],none,ans,[])
 | some (.a8 _ _ _ cb bR .here),ans=>if cb=k then some (bR,none,ans,[Flat bR]) else none
 | some (.a8 _ _ _ cb bR .mD),ans=>if cb=k then some (bR,none,ans,[Flat bR]) else none
 | _,_=>none
theorem Rm{P:Program}{t:Nat}{q:aI}{y:Value}{ans cj:List b6}{bR:List (List D)}{obs:List Prop}(mL:0<k)
  (aA:cP (Sat w ω τ) q y) (h:wg t k q ans=some (bR,eb,cj,obs)) (aN:c8 obs):eb≠some t/\∃news,Src P w ω k bR eb y news:=by
 unfold wg at h;split at h
 ·rename_i s cb es r e;split at h
  ·rename_i af;obtain⟨rfl,cf⟩:=af;simp only[aO,bx]at h;obtain⟨rfl,rfl,_,_⟩:=h;exact⟨by simpa using cf,Src.of (aI.dQ e aA).1 mL (.inr ⟨s,rfl,rfl⟩)⟩
  cases h
 ·rename_i g cb es e _;split at h
  ·rename_i af;subst af;simp only[aO,bx]at h;obtain⟨rfl,rfl,_,rfl⟩:=h;exact⟨by simp,Src.of (aI.dQ e aA).1 mL (.inl aN.1)⟩
  cases h
 ·rename_i e;simp only[aO,bx]at h;obtain⟨rfl,rfl,_,_⟩:=h;have:y=.slice none 0 0:=aI.dQ e aA;subst this;exact⟨by simp,[],Src.empty _⟩
 ·rename_i s CQ CR cb es e;split at h
  ·rename_i af;subst af;simp only[aO,bx]at h;obtain⟨rfl,rfl,_,rfl⟩:=h;obtain⟨fv,rfl,az,_⟩:=aI.dQ e aA;exact⟨by simp,Src.of az mL (.inl aN.1)⟩
  cases h
 ·rename_i s CQ CR cb es e;split at h
  ·rename_i af;subst af;simp only[aO,bx]at h;obtain⟨rfl,rfl,_,rfl⟩:=h;obtain⟨fv,rfl,az,_⟩:=aI.dQ e aA;exact⟨by simp,Src.of az mL (.inl aN.1)⟩
  cases h
 cases h
def DJ(d:Nat)(st:aG)(k:Nat)(p:aI):Option (aG×Nat×List (List D)):=
 match p.leaf with
 | some (.J (.own t) cb es)=>if cb=k then some (st,t,es) else none
 | some (.v (.slice none 0 0))=>some (st.ke d [],d,[])
 | _=>none
def Ad(P:Program)(st:aG)(d:Nat)(t:TypeId)(x y:Operand)(ans:List b6):Stepped:=
 match rz P t with
 | some (e,k)=>
  match P.info? e,DJ d st k (st.bj x) with
  | some i,some (st1,hF,es)=>
   match i.zero,wg hF k (st1.bj y) ans with
   | some z,some (bR,eb,cj,obs)=>
    if z.cells.size=k/\0<k/\hF<df then
     some (⟨(st1.yk hF eb).env.set d (.one (.J (.own hF) k (es++bR))),(st1.yk hF eb).boxes⟩,cj,((es.length+bR.length)*i.bytes<=140737488355328)::(es.length+bR.length<=9223372036854775807)::obs)
    else none
   | _,_=>none
  | _,_=>none
 | none=>none
theorem cE.Ad{w0:eN}{st br:aG}{a:Act}{d:Nat}{t ty:TypeId}{x y:Operand}{ans cj:List b6}{obs:List Prop}
  (aT:cE w0 st a w ω τ) (h:Sx.Ad P st d t x y ans=some (br,cj,obs)) (aN:c8 obs):
  ∃z aJ,(Builtin.append_ #[t,t] ty #[a.eval x,a.eval y]).run P w=.ok z aJ/\Rel w0 br (a.put (some d) z) aJ:=by
 unfold Sx.Ad at h;split at h
 ·rename_i e k he;obtain⟨hu,i0,lf,yQ⟩:=w5 he;split at h
  ·rename_i i st1 hF es hi kR;rw[lf]at hi;have nA:=eQ hi;subst nA;split at h
   ·rename_i z bR eb we y5 aW jG;split at h
    ·rename_i af;simp only[aO,bx]at h;obtain⟨rfl,rfl,rfl⟩:=h;obtain⟨dR,dH,gF⟩:=aN;have:∃Dt OB,cE w0 st1 a w Dt OB/\Sat w Dt OB (.J (.own hF) k es) (a.eval x):=by
      unfold DJ at kR;split at kR
      ·rename_i dc cb cB aj;split at kR
       ·rename_i gP;subst gP;simp only[aO,bx]at kR;obtain⟨rfl,rfl,rfl⟩:=kR;exact⟨ω,τ,aT,aI.dQ aj (aT.bj x)⟩
       cases kR
      ·rename_i aj;simp only[aO,bx]at kR;obtain⟨rfl,rfl,rfl⟩:=kR;have:a.eval x=.slice none 0 0:=aI.dQ aj (aT.bj x);rw[this];obtain⟨Dt,h1,U⟩:=aT.JU d k af.2.2;exact⟨Dt,_,h1,U⟩
      cases kR
     obtain⟨Dt,OB,e5,aa⟩:=this;obtain⟨jd,news,ai⟩:=Rm (P:=P) af.2.1 (e5.bj y) jG gF;obtain⟨r,aJ,a1,h1,U,ax⟩:=e5.append (P:=P) (ty:=ty) aa ai jd hu lf aW yQ af.1 dR dH af.2.2;exact⟨r,aJ,h1,a1,_,U.put (p:=.one (.J (.own hF) k (es++bR))) ax⟩
    cases h
   cases h
  cases h
 cases h
