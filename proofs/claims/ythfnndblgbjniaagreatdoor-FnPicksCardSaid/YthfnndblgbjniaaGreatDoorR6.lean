import Derived.Test.YthfnndblgbjniaaGreatDoorR1
set_option linter.unusedVariables false
set_option linter.unusedSimpArgs false
namespace Go.Sx
open Go.RowKit
def qo(id:Nat)(fx:List aE):List (Nat×List aE)->List (Nat×List aE)
 | []=>[]
 | (i,ls)::r=>if i=id then (i,fx)::r else (i,ls)::qo id fx r
variable{id:Nat}{fx:List aE}
theorem x5:∀{bs:List (Nat×List aE)} {ls:List aE},dD id bs=some ls->dD id (qo id fx bs)=some fx
 | [],_,h=>by cases h
 | (i,l)::r,ls,h=>by
  simp only[qo];by_cases hi:i=id
  ·simp_all[bL,dD]
  simp_all[bH,dD,x5]
theorem x6{h1:Nat}(a':h1≠id):∀{bs:List (Nat×List aE)},dD h1 (qo id fx bs)=dD h1 bs
 | []=>rfl
 | (i,l)::r=>by
  simp only[qo];by_cases hi:i=id
  ·simp_all[bL,dD,bH,Ne.symm]
  simp_all[bH,dD,x6]
theorem Tag.XF{t:Tag}{q:List (Nat×Nat)}:¬t.R q (.box id):=by
 cases t with
 | free=>exact fun h=>by cases h
 | own s=>exact fun h=>by cases h
 | ro s=>exact fun h=>by rcases h with h | ⟨_,h⟩<;>cases h
theorem Sat.aww{w:World}{ω:Own}{τ:Nat->Nat×Value}{b:Nat}(ay:ω b=.box id)(cs:Array Value):∀(l:aE) (v:Value),Sat w ω τ l v->Sat (w.setRow b cs) ω τ l v:=by
 have bn:lP w ω τ (w.setRow b cs) ω τ rf (fun _=>true):=by
  refine⟨?_,?_,fun _ _ _ h=>h,rfl,fun _ _=>rfl⟩
  ·intro t dn dw q ax _ aL;simp only[rf,aW]at ax;grind[setRow_other,Tag.XF]
  simp_all[rf,aW]
 intro l v ak;have:=bn.sat l v ak;cases l with
 | aP t i j k es m=>
  obtain⟨u,hu,U,hm⟩:=ak;refine⟨u,hu,U.frame fun c q ao aL=>⟨aL,setRow_other w b c cs fun e=>?_⟩,fun bD=>?_⟩
  ·grind
  obtain⟨kT,fQ,off,len,cap,arr,ty,cT,aa,a6,aB,aJ⟩:=hm bD;exact⟨kT,fQ,off,len,cap,arr,ty,cT,aa,a6,(setRow_other w b fQ cs fun e=>by grind).trans aB,aJ⟩
 | fp t vs=>
  obtain⟨fQ,ty,arr,e,a6,aB,a',bx⟩:=ak;refine⟨fQ,ty,arr,e,a6,(setRow_other w b fQ cs fun e=>by grind).trans aB,a',fun j c ao=>?_⟩;obtain⟨u,U,aa⟩:=bx j c ao;refine⟨u,U,?_⟩;have eg:=bn.ly c u aa;have:eZ.cF rf c=c:=by cases c<;>simp[eZ.cF,rf]
  grind
 | _=>simp_all[aE.cF,rf]
variable{w0:eE}{st:aF}{a:Act}{w:World}{ω:Own}{τ:Nat->Nat×Value}
theorem cD.awB(h:cD w0 st a w ω τ){ls:List aE}(ax:dD id st.boxes=some ls)
  {b:Nat} (ay:ω b=.box id) {ci:Array Value} (ak:kn (Sat w ω τ) fx ci):
  cD w0 ⟨st.env,qo id fx st.boxes⟩ a (w.setRow b ci) ω τ:=by
 obtain⟨dw,arr,ty,eM,hu,bD,eN⟩:=h.boxes id ls ax;have:=hu b ay;subst this;have HM:=Sat.aww (w:=w) (ω:=ω) (τ:=τ) ay ci;have k4:=setRow_heap w b arr ci ty (0,0) bD;refine⟨h.defers,h.size,?_,?_,h.fixed,h.pinned,?_,?_⟩
 ·exact h.below.setRow (h.owned b (by simp[ay])).1 ci
 ·intro c ao;obtain⟨U,ko,kD,aa⟩:=h.owned c ao;grind[setRow_other]
 ·intro i p hp;obtain⟨v,U,aa⟩:=h.env i p hp;refine⟨v,U,?_⟩;have:=cO.map (f:=_root_.id) HM aa;have e:aG.map _root_.id p=p:=by
   cases p with
   | aC a=>cases a<;>simp[aG.map,bl.map]
   | fN as=>
    simp only[aG.map]
    congr 1
    have:bl.map _root_.id=_root_.id:=by funext a;cases a<;>simp[bl.map]
    simp_all
  grind
 intro i l ar;by_cases e:i=id
 ·subst e;rw[x5 ax]at ar;have e:=gd ar;subst e;refine⟨b,ci,ty,ay,hu,k4,?_⟩;have:=ak.map (f:=_root_.id) HM;simp_all
 rw[x6 e]at ar;obtain⟨c,ko,kD,ao,Yu,Ym,o5⟩:=h.boxes i l ar;have db:c≠b:=fun e'=>by grind
 refine⟨c,ko,kD,ao,Yu,(setRow_other w b c ci db).trans Ym,?_⟩;have:=o5.map (f:=_root_.id) HM;simp_all
abbrev Stepped:=Option (aF×List cd×List Prop)
def I9(st:aF)(d:Nat)(p:aG)(ans:List cd):Stepped:=
 if d<da then p.leaves.map fun ls=>(⟨(st.tQ d ls).env.set d (.one (.ptr d 0)),(st.tQ d ls).boxes⟩,ans,[]) else none
variable{bu:aF}{ans cm:List cd}{obs:List Prop}
theorem cD.box{P:Program}{d:Nat}{p:aG}{v:Value}(aZ:cD w0 st a w ω τ)
  (hp:cO (Sat w ω τ) p v) (h:I9 st d p ans=some (bu,cm,obs)) (ty:TypeId):
  ∃z aN,(do pure (.pointer (some (<-newVar ty v))):Sem Value).run P w=.ok z aN/\Rel w0 bu (a.put (some d) z) aN:=by
 unfold I9 at h;split at h
 case isFalse=>cases h
 rename_i tE;rw[ca]at h;obtain⟨ls,U,h⟩:=h;simp only[bA]at h;obtain⟨rfl,_,_⟩:=h;obtain⟨ak,_⟩:=aG.xv U hp;obtain⟨bd,HI,dj⟩:=aZ.tQ d tE ty ak;refine⟨.pointer (some ⟨w.heap.size,0,none⟩),w.alloc (.cells v.cells ty),by simp[newVar,newRow],bd,τ,?_⟩;exact HI.put (p:=.one (.ptr d 0)) ⟨w.heap.size,dj,rfl⟩
def I'(P:Program)(st:aF)(d:Nat)(elem:TypeId)(ans:List cd):Stepped:=
 match P.info? elem with
 | some i=>match i.zero with
  | some z=>if d<da then let ls:=z.cells.toList.map .v;some (⟨(st.tQ d ls).env.set d (.one (.ptr d 0)),(st.tQ d ls).boxes⟩,ans,[]) else none
  | none=>none
 | none=>none
theorem cD.alloc{P:Program}{d:Nat}{elem:TypeId}(aZ:cD w0 st a w ω τ)
  (h:I' P st d elem ans=some (bu,cm,obs)):
  ∃z aN,(Instr.alloc elem true (.tuple #[])).run P w=.ok z aN/\Rel w0 bu (a.put (some d) z) aN:=by
 unfold I' at h;split at h
 ·rename_i i hi;split at h
  ·rename_i z bp;split at h
   case isFalse=>cases h
   rename_i tE;simp only[aW,bA]at h;obtain⟨rfl,_,_⟩:=h;have ak:kn (Sat w ω τ) (z.cells.toList.map .v) z.cells:=by
    refine⟨by simp,fun j l ar=>?_⟩;rw[dP,ca]at ar;obtain⟨u,hu,rfl⟩:=ar;exact⟨u,by grind,rfl⟩
   obtain⟨bd,HI,dj⟩:=aZ.tQ d tE elem ak;refine⟨.pointer (some ⟨w.heap.size,0,none⟩),w.alloc (.cells z.cells elem),by simp_all[Instr.alloc,zeroValue,typeInfo,newVar,newRow],bd,τ,?_⟩;exact HI.put (p:=.one (.ptr d 0)) ⟨w.heap.size,dj,rfl⟩
  cases h
 cases h
def Ja(P:Program)(st:aF)(t:TypeId)(id off:Nat)(q:aG)(ans:List cd):Stepped:=
 match dD id st.boxes,q.leaves,P.info? t with
 | some ls,some xs,some i=>if xs.length=i.size/\off+xs.length<=ls.length then some (⟨st.env,qo id (tq ls off xs) st.boxes⟩,ans,[]) else none
 | _,_,_=>none
theorem zZ{α:Type}{xs ys:List α}{off:Nat}(h:off+ys.length<=xs.length)(i:Nat):
  (xs.take off++ys++xs.drop (off+ys.length))[i]?=if off<=i/\i<off+ys.length then ys[i-off]? else xs[i]?:=by
 rw[mN,pz,uT,Nat.min_eq_left (by omega)];grind
theorem cD.awA{P:Program}{t:TypeId}{off:Nat}{q:aG}{b:Nat}{v:Value}
  (aZ:cD w0 st a w ω τ) (ay:ω b=.box id) (aL:cO (Sat w ω τ) q v) (h:Ja P st t id off q ans=some (bu,cm,obs)):
  ∃aN,(Instr.storeAt t (.pointer (some ⟨b,off,none⟩)) v).run P w=.ok () aN/\Rel w0 bu a aN:=by
 unfold Ja at h;split at h
 ·rename_i ls xs i e1 e2 cn;split at h
  ·rename_i ao;simp only[aW,bA]at h;obtain⟨rfl,_,_⟩:=h;obtain⟨ak,p4⟩:=aG.xv e2 aL;obtain⟨dw,arr,ty,eM,hu,bD,eN⟩:=aZ.boxes id ls e1;have:=hu b ay;subst this;have fc:=run_storeCells_at P b off ty v.cells.toList 0 arr w bD (by simp;have:=ak.1;have:=eN.1;omega) p4;have gF:kn (Sat w ω τ) (tq ls off xs) (arr.toList.take (off+0)++v.cells.toList++arr.toList.drop (off+0+v.cells.toList.length)).toArray:=by
    have U:=ak.1;have aa:=eN.1;refine⟨?_,fun j l ar=>?_⟩
    ·grind[JG]
    rw[PO (by omega)]at ar;rw[oK,nO,zZ (by simp;omega)];simp only[NH];by_cases bm:off<=j/\j<off+xs.length
    ·rw[bL bm]at ar;rw[bL (by omega)];obtain⟨u,aB,aJ⟩:=ak.2 _ _ ar;grind
    rw[bH bm]at ar;rw[bH (by omega)];obtain⟨u,aB,aJ⟩:=eN.2 _ _ ar;grind
   refine⟨_,?_,ω,τ,aZ.awB e1 ay gF⟩;simp only[Instr.storeAt,Instr.sureAddr,Sem.run_bind,Sem.run_pure,Result.andThen_ok,storeVar,sizeOf,typeInfo,run_program,cn];have dI:¬(v.cells.size≠i.size):=by simp;have:=ak.1;omega
   grind
  cases h
 cases h
end Go.Sx
namespace Go.Sx
open Go.RowKit
variable{w0:eE}{st:aF}{a:Act}{w:World}{ω:Own}{τ:Nat->Nat×Value}
theorem cD.ei{aN:World}{bd:Own}{cR:Nat->Nat×Value}(h:cD w0 st a w ω τ)(f:aE->aE)
  (eN:∀l v,Sat w ω τ l v->Sat aN bd cR (f l) v) (qZ:gz w0 aN) (p6:nT w0 aN bd)
  (se:∀id b,ω b=.box id->bd b=.box id/\aN.heap[b]?=w.heap[b]?) (zd:∀id b,bd b=.box id->ω b=.box id) (tG:∀t,da<=t->cR t=τ t:=by intros;rfl):cD w0 (st.map f) a aN bd cR where
 defers:=h.defers
 size:=by simp[aF.map,h.size]
 below:=qZ
 owned:=p6
 fixed:=fun t bZ=>(tG t bZ).trans (h.fixed t bZ)
 pinned:=fun id b hi ay=>h.pinned id b hi (zd id b ay)
 env:=by
  intro i q aL;simp only[aF.map]at aL;rw[dP,ca]at aL;obtain⟨f',b4,rfl⟩:=aL;obtain⟨v,U,aa⟩:=h.env i f' b4;exact⟨v,U,cO.map eN aa⟩
 boxes:=by
  intro id ls ar;simp only[aF.map]at ar;rw[sQ,ca]at ar;obtain⟨jm,b4,rfl⟩:=ar;obtain⟨b,arr,ty,ay,hu,bD,ak⟩:=h.boxes id jm b4;obtain⟨U,aa⟩:=se id b ay;exact⟨b,arr,ty,U,fun dw eM=>hu dw (zd id dw eM),aa.trans bD,ak.map eN⟩
abbrev hE:=List (Nat×(Nat×Nat))
def hE.at(s:Nat):hE->Option (Nat×Nat)
 | []=>none
 | (i,p)::r=>if i=s then some p else hE.at s r
def h2(t:Nat)(ms:hE):Tag->Option Tag
 | .free=>some .free
 | .own s=>if s=t then some .free else if (ms.at s).isSome then none else some (.own s)
 | .ro s=>if s=t then some .free else if (ms.at s).isSome then none else some (.ro s)
def pv(t:Nat)(ms:hE):di->di
 | .tok s q=>if s=t then .bG else match ms.at s with | some p=>.tok t (p::q) | none=>.tok s q
 | o=>o
variable{t:Nat}{ms:hE}
theorem Ea{o:di}{id:Nat}:pv t ms o=.box id<->o=.box id:=by
 cases o with
 | bG=>simp[pv]
 | box i=>simp[pv]
 | tok s q=>
  simp only[pv];split
  ·simp
  ·split<;>simp
theorem PT{g eu:Tag}{q:List (Nat×Nat)}{o:di}(h:h2 t ms g=some eu)(aH:g.R q o):eu.R q (pv t ms o):=by
 cases g with
 | free=>simp only[h2,aW]at h;subst h;simp only[Tag.R]at aH ⊢;rw[aH];rfl
 | own s=>
  simp only[Tag.R]at aH;subst aH;simp only[h2]at h;simp only[pv];split at h
  ·simp only[aW]at h;subst h;rw[bL ‹_›];rfl
  split at h
  ·cases h
  rename_i U aa;simp only[aW]at h;subst h;rw[bH U];cases e:ms.at s with
  | none=>rfl
  | some p=>simp[e]at aa
 | ro s=>
  simp only[Tag.R]at aH;simp only[h2]at h;split at h
  ·simp only[aW]at h;subst h;rcases aH with rfl | ⟨dU,rfl⟩
   ·rfl
   simp only[pv];rw[bL ‹_›];rfl
  split at h
  ·cases h
  rename_i U aa;simp only[aW]at h;subst h;rcases aH with rfl | ⟨dU,rfl⟩
  ·exact .inl rfl
  refine .inr ⟨dU,?_⟩;simp only[pv];rw[bH U];cases e:ms.at s with
  | none=>rfl
  | some p=>simp[e]at aa
def pq(w:World)(ω:Own)(t:Nat)(ms:hE):Own:=fun b=>if b=w.heap.size then .tok t [] else pv t ms (ω b)
def wj(w:World)(τ:Nat->Nat×Value)(t k n c:Nat):Nat->Nat×Value:=fun s=>if s=t then (k,.slice (some ⟨w.heap.size,0,none⟩) n c) else τ s
def aF.jo(st:aF)(t:Nat)(ms:hE):aF:=st.map (aE.cF (h2 t ms) fun _=>true)
theorem aoZ{w1:World}{k n c:Nat}(iL:t<da)(b8:ω w.heap.size=.bG)(bD:∀b,b<w.heap.size->w1.heap[b]?=w.heap[b]?):
  lP w ω τ w1 (pq w ω t ms) (wj w τ t k n c) (h2 t ms) (fun _=>true):=by
 refine⟨?_,?_,?_,rfl,fun s ak=>by simp only[wj];rw[bH (by omega)]⟩
 ·intro g eu b q ax ay aL;refine⟨?_,bD b ay⟩;simp only[pq];rw[bH (by omega)];exact PT ax aL
 ·intro g eu y ax bM;cases g with
  | free=>simp only[h2,aW]at ax;subst ax;exact trivial
  | own s=>
   simp only[h2]at ax;split at ax
   ·simp only[aW]at ax;subst ax;exact trivial
   split at ax
   ·cases ax
   simp only[aW]at ax;subst ax;simp only[Tag.eb,wj]at bM ⊢;rw[bH ‹_›];exact bM
  | ro s=>
   simp only[h2]at ax;split at ax
   ·simp only[aW]at ax;subst ax;exact trivial
   split at ax
   ·cases ax
   simp only[aW]at ax;subst ax;exact trivial
 intro id b _ ay;simp only[pq];by_cases e:b=w.heap.size
 ·subst e;rw[b8]at ay;cases ay
 rw[bH e,ay];rfl
def aE.iv:aE->Option D
 | .v x=>if x.oneCell' then some (.v x) else none
 | .bg c=>some (.v (.bool c))
 | .J (.own _) k es=>some (.J k es)
 | _=>none
def aE.tok:aE->Option Nat
 | .J (.own s) _ _=>some s
 | _=>none
def Eb(w:World)(ω:Own)(τ:Nat->Nat×Value)(t:Nat)(ms:hE)(i j:Nat)(d:D)(u:Value):Prop:=
 ∃l:aE,l.iv=some d/\Sat w ω τ l u/\∀s,l.tok=some s->s≠t/\ms.at s=some (i,j)
theorem Eb.rep{w1:World}{i j:Nat}{d:D}{u:Value}(h:Eb w ω τ t ms i j d u)(bD:∀b,b<w.heap.size->w1.heap[b]?=w.heap[b]?):
  b1 w1 (pq w ω t ms) (fun q=>(Tag.own t).R ((i,j)::q)) d u:=by
 obtain⟨l,aI,ak,hm⟩:=h;cases l with
 | cw=>cases aI
 | v x=>
  simp only[aE.iv]at aI;split at aI
  ·simp only[aW]at aI;subst aI;have:u=x:=ak;subst this;exact .v _ _ ‹_›
  cases aI
 | bg c=>
  simp only[aE.iv,aW]at aI;subst aI;have:u=.bool c:=ak;subst this;exact .v _ _ rfl
 | J g k es=>
  cases g with
  | free=>cases aI
  | ro s=>cases aI
  | own s=>
   simp only[aE.iv,aW]at aI;subst aI;obtain⟨db,qY⟩:=hm s rfl;refine ak.1.frame fun b q ay aL=>⟨?_,bD b ay⟩
   simp only[Tag.R]at aL ⊢;simp only[pq];rw[bH (by omega),aL];simp only[pv];rw[bH db,qY]
 | ptr id off=>cases aI
 | cL g k es i j=>cases aI
 | hU=>cases aI
 | fd=>cases aI
 | dt=>cases aI
 | gC=>cases aI
 | aP=>cases aI
 | fp=>cases aI
theorem cD.jo{w1:World}(h:cD w0 st a w ω τ)(t:Nat)(iL:t<da)(ms:hE){k cap:Nat}{es:List (List D)}{arr:Array Value}{ty:TypeId}
  (ay:gA w.heap.size w w1) (gF:w1.heap[w.heap.size]?=some (.cells arr ty (0,0))) (ao:es.length<=cap) (dI:cap*k<=arr.size) (ba:∀e∈es,e.length=k)
  (fo:∀i j d,c5 es i j=some d->∃u,arr[i*k+j]?=some u/\Eb w ω τ t ms i j d u):
  cD w0 (st.jo t ms) a w1 (pq w ω t ms) (wj w τ t k es.length cap)/\
  Sat w1 (pq w ω t ms) (wj w τ t k es.length cap) (.J (.own t) k es) (.slice (some ⟨w.heap.size,0,none⟩) es.length cap):=by
 have b8:ω w.heap.size=.bG:=h.owned.fresh (gw _);have nd:=ay.block;have ayf:w.heap.size<w1.heap.size:=(jF.1 gF).1;have oa:pq w ω t ms w.heap.size=.tok t []:=by simp[pq]
 have iJ:∀b,b≠w.heap.size->pq w ω t ms b=pv t ms (ω b):=fun b ay=>by simp[pq,ay]
 refine⟨h.ei _ (aoZ iL b8 nd).sat ?_ ?_ ?_ ?_ (fun s ak=>by simp only[wj];rw[bH (by omega)]),?_,?_⟩
 ·exact h.below.next ay
 ·intro b fV;by_cases e:b=w.heap.size
  ·subst e;exact⟨.inl h.below.size,arr,ty,gF⟩
  rw[iJ b e]at fV;have aa:ω b≠.bG:=fun e'=>by rw[e']at fV;exact fV rfl
  obtain⟨aB,ko,kD,aJ⟩:=h.owned b aa;exact⟨aB,ko,kD,(nd b (h.owned.lt aa)).trans aJ⟩
 ·intro id b fV;have bO:=h.owned.lt (b:=b) (by simp[fV]);rw[iJ b (by omega),fV];exact⟨rfl,nd b bO⟩
 ·intro id b fV;by_cases e:b=w.heap.size
  ·subst e;rw[oa]at fV;cases fV
  rw[iJ b e]at fV;exact Ea.1 fV
 ·have vq:∀i j d,c5 es i j=some d->arr[0+i*k+j]?=some (arr.getD (i*k+j) undef)/\Eb w ω τ t ms i j d (arr.getD (i*k+j) undef):=by
   intro i j d aI;obtain⟨u,U,aa⟩:=fo i j d aI;have e:arr.getD (i*k+j) undef=u:=by simp[eR,U]
   rw[e];exact⟨by rw[dW];exact U,aa⟩
  exact .row _ k es w.heap.size 0 cap arr ty (0,0) (fun i j=>arr.getD (i*k+j) undef) gF oa ao (by omega) ba (fun i j d aI=>(vq i j d aI).1) (fun i j d aI=>(vq i j d aI).2.rep nd)
 simp[Tag.eb,wj]
def DC(P:Program)(st:aF)(d:Nat)(t:TypeId)(p q:aG)(ans:List cd):Stepped:=
 match P.underlying t with
 | some (.slice e)=>
  match P.info? e,p.int,q.int with
  | some i,some (_,l),some (_,c)=>
   match i.zero with
   | some z=>
    if i.size=z.cells.size/\0<i.size/\z.cells.all (·.oneCell')=true/\d<da then
     some (⟨(st.jo d []).env.set d (.one (.J (.own d) i.size (List.replicate l.toNat (z.cells.toList.map .v)))),(st.jo d []).boxes⟩,ans,[0<=l,l<=c,(i.bytes:Int)*c<=281474976710656,c<=9223372036854775807])
    else none
   | none=>none
  | _,_,_=>none
 | _=>none
theorem PU(z:Array Value)(n i j:Nat)(hi:i<n)(bm:j<z.size):(madeCells z (n*z.size))[i*z.size+j]?=z[j]?:=by
 have bO:i*z.size+j<n*z.size:=by
  have:(i+1)*z.size<=n*z.size:=hN _ hi;rw[hq]at this;omega
 have e:(i*z.size+j) % z.size=j:=by rw[Nat.add_comm,Nat.add_mul_mod_self_right];exact Ca bm
 simp[madeCells,bO,e,getElem!_pos,bm]
theorem ao0{n:Nat}{e:List D}{i j:Nat}{d:D}(h:c5 (List.replicate n e) i j=some d):i<n/\e[j]?=some d:=by
 unfold c5 at h;rw[B9]at h;split at h
 ·exact⟨‹_›,h⟩
 simp at h
theorem cD.make{P:Program}{bu:aF}{d:Nat}{t:TypeId}{p q:aG}{u v:Value}{ans cm:List cd}{obs:List Prop}
  (aZ:cD w0 st a w ω τ) (hp:cO (Sat w ω τ) p u) (aL:cO (Sat w ω τ) q v) (h:DC P st d t p q ans=some (bu,cm,obs)) (bc:cK obs):
  ∃z aN,(Instr.makeSlice t u v).run P w=.ok z aN/\Rel w0 bu (a.put (some d) z) aN:=by
 unfold DC at h;split at h
 ·rename_i e hu;split at h
  ·rename_i i c7 l bQ c hi e1 e2;split at h
   ·rename_i z bp;split at h
    ·rename_i ao;obtain⟨lW,lp,k3,sg⟩:=ao;simp only[aW,bA]at h;obtain⟨rfl,_,rfl⟩:=h;obtain⟨cC,cg,cE,fG,_⟩:=bc;rw[aG.oc e1 hp,aG.oc e2 aL];have fv:=run_make (P:=P) w t e i z hu hi bp c7 bQ l c cC cg cE fG;have gF:(w.alloc (.cells (madeCells z.cells (c.toNat*i.size)) e)).heap[w.heap.size]?=some (.cells (madeCells z.cells (c.toNat*i.size)) e (0,0)):=nu _ _;have dI:(madeCells z.cells (c.toNat*i.size)).size=c.toNat*i.size:=by simp[madeCells]
     have vb:=aZ.jo d sg [] (k:=i.size) (cap:=c.toNat) (es:=List.replicate l.toNat (z.cells.toList.map .v)) (w1:=w.alloc (.cells (madeCells z.cells (c.toNat*i.size)) e))
      ((gA.refl _ _).alloc (gw _) _) gF (by simp;omega) (by omega) (fun e' he=>by rw[List.eq_of_mem_replicate he];simp[lW]) (fun x j r8 aI=>by
       obtain⟨aq,aI⟩:=ao0 aI;rw[dP,ca]at aI;obtain⟨td,jN,rfl⟩:=aI;have bm:j<z.cells.size:=by
        have:=(fP.1 jN).1;simpa using this
       refine⟨td,?_,.v td,?_,rfl,fun s ak=>by cases ak⟩
       ·rw[lW,PU z.cells c.toNat x j (by omega) bm];simpa using jN
       have:td.oneCell'=true:=by
        have U:=Array.all_eq_true'.1 k3;exact U td (by simpa using fI jN)
       simp[aE.iv,this])
     simp only[List.length_replicate]at vb;exact⟨_,_,fv,_,_,vb.1.put (p:=.one (.J (.own d) i.size (List.replicate l.toNat (z.cells.toList.map .v)))) vb.2⟩
    cases h
   cases h
  cases h
 cases h
end Go.Sx
namespace Go.Sx
open Go.RowKit
def nv(k:Nat):Nat->List aE->List (List aE)
 | 0,_=>[]
 | n+1,ls=>ls.take k::nv k n (ls.drop k)
theorem Jb(k:Nat):∀(n:Nat) (ls:List aE) (i:Nat),(nv k n ls)[i]?=if i<n then some ((ls.drop (i*k)).take k) else none
 | 0,ls,i=>by simp[nv]
 | n+1,ls,0=>by simp[nv]
 | n+1,ls,i+1=>by
  simp only[nv,mL,Jb k n];by_cases h:i<n
  ·rw[bL h,bL (by omega),List.drop_drop]
   congr 3
   rw[hq];omega
  rw[bH h,bH (by omega)]
theorem PV(k:Nat):∀(n:Nat) (ls:List aE),(nv k n ls).length=n
 | 0,_=>rfl
 | n+1,ls=>by simp[nv,PV k n]
def k7(i:Nat):Nat->List aE->hE
 | _,[]=>[]
 | j,l::ls=>match l.tok with
  | some s=>(s,(i,j))::k7 i (j+1) ls
  | none=>k7 i (j+1) ls
def rk:Nat->List (List aE)->hE
 | _,[]=>[]
 | i,e::es=>k7 i 0 e++rk (i+1) es
def x7(t:Nat)(ms:hE):Bool:=decide (t<da)&&ms.all fun x=>x.1≠t&&(match ms.at x.1 with | some p=>p.1==x.2.1&&p.2==x.2.2 | none=>false)
theorem Jc(i:Nat):∀(ls:List aE) (j0 j:Nat) (l:aE) (s:Nat),ls[j]?=some l->l.tok=some s->(s,(i,j0+j))∈k7 i j0 ls
 | [],_,_,_,_,h,_=>by simp at h
 | eW::ls,j0,0,l,s,h,ak=>by
  simp at h;subst h;simp only[k7,ak];exact kG
 | eW::ls,j0,j+1,l,s,h,ak=>by
  have:=Jc i ls (j0+1) j l s (by simpa using h) ak;rw[show j0+1+j=j0+(j+1) by omega]at this;simp only[k7];split
  ·exact iA _ this
  exact this
theorem PW:∀(es:List (List aE)) (i0 i j:Nat) (e:List aE) (l:aE) (s:Nat),es[i]?=some e->e[j]?=some l->l.tok=some s->(s,(i0+i,j))∈rk i0 es
 | [],_,_,_,_,_,_,h,_,_=>by simp at h
 | bz::es,i0,0,j,e,l,s,h,ar,ak=>by
  simp at h;subst h;simp only[rk];have:=Jc i0 bz 0 j l s ar ak;rw[dW]at this;exact iy _ this
 | bz::es,i0,i+1,j,e,l,s,h,ar,ak=>by
  have:=PW es (i0+1) i j e l s (by simpa using h) ar ak;rw[show i0+1+i=i0+(i+1) by omega]at this;simp only[rk];exact jD _ this
variable{ms:hE}
theorem ao1{t:Nat}(h:x7 t ms=true):t<da:=by
 unfold x7 at h;rw[cH,c3]at h;exact h.1
theorem ao2{t:Nat}(h:x7 t ms=true){s:Nat}{p:Nat×Nat}(hm:(s,p)∈ms):s≠t/\ms.at s=some p:=by
 unfold x7 at h;rw[cH]at h;have:=fU.1 h.2 _ hm;simp only[cH,c3]at this;refine⟨this.1,?_⟩;have aa:=this.2;split at aa
 ·rename_i qi e;simp only[cH,kE]at aa;rw[e]
  congr 1
  exact Prod.ext aa.1 aa.2
 cases aa
def z1(P:Program)(st:aF)(d:Nat)(t:TypeId)(len:Nat)(parts:List (Nat×Operand))(ans:List cd):Stepped:=
 match P.underlying t with
 | some (.slice e)=>
  match P.info? e with
  | some i=>
   match i.zero with
   | some z=>
    if i.size=z.cells.size/\0<i.size/\len*i.size<=16777216 then
     match qW (fun x=>some (x*i.size,i.size)) ((List.replicate len (z.cells.toList.map aE.v)).flatten) (parts.map fun x=>(x.1,st.bn x.2)) with
     | some r=>
      let ls:=nv i.size len r
      match ls.mapM (fun x=>x.mapM aE.iv) with
      | some es=>if x7 d (rk 0 ls) then
        some (⟨(st.jo d (rk 0 ls)).env.set d (.one (.J (.own d) i.size es)),(st.jo d (rk 0 ls)).boxes⟩,ans,[]) else none
      | none=>none
     | none=>none
    else none
   | none=>none
  | none=>none
 | _=>none
def Cs(P:Program)(st:aF)(d:Nat)(t:TypeId)(len:Nat)(parts:List (Nat×Operand)):Option (Nat×List (List D)×hE):=
 match P.underlying t with
 | some (.slice e)=>
  match P.info? e with
  | some i=>
   match i.zero with
   | some z=>
    if i.size=z.cells.size/\0<i.size/\len*i.size<=16777216 then
     match qW (fun x=>some (x*i.size,i.size)) ((List.replicate len (z.cells.toList.map aE.v)).flatten) (parts.map fun x=>(x.1,st.bn x.2)) with
     | some r=>
      match (nv i.size len r).mapM (fun x=>x.mapM aE.iv) with
      | some es=>if x7 d (rk 0 (nv i.size len r)) then some (i.size,es,rk 0 (nv i.size len r)) else none
      | none=>none
     | none=>none
    else none
   | none=>none
  | none=>none
 | _=>none
theorem apT{P:Program}{st:aF}{d:Nat}{t:TypeId}{len:Nat}{parts:List (Nat×Operand)}{k:Nat}{es:List (List D)}(h:Cs P st d t len parts=some (k,es,ms))(ans:List cd):
  z1 P st d t len parts ans=some (⟨(st.jo d ms).env.set d (.one (.J (.own d) k es)),(st.jo d ms).boxes⟩,ans,[]):=by
 unfold Cs at h;unfold z1;split at h
 ·rename_i e U
  try rw[U]
  split at h
  ·rename_i i aa
   try simp only[aa]
   split at h
   ·rename_i z aB
    try simp only[aB]
    split at h
    ·rename_i ao
     try rw[bL ao]
     split at h
     ·rename_i r aJ
      try simp only[aJ]
      split at h
      ·rename_i cv a6
       try simp only[a6]
       split at h
       ·rename_i bF;simp only[aW,bA]at h;obtain⟨rfl,rfl,rfl⟩:=h
        try rw[bL bF]
       cases h
      cases h
     cases h
    cases h
   cases h
  cases h
 cases h
theorem nx{α β:Type}{f:α->Option β}:∀{xs:List α} {ys:List β},xs.mapM f=some ys->ys.length=xs.length/\∀(i:Nat) (y:β),ys[i]?=some y->∃x,xs[i]?=some x/\f x=some y
 | [],ys,h=>by simp at h;subst h;exact⟨rfl,fun i y bM=>by simp at bM⟩
 | x::xs,ys,h=>by
  rw[yF]at h;cases e:f x with
  | none=>simp[e]at h
  | some lH=>
   cases e2:xs.mapM f with
   | none=>simp[e,e2]at h
   | some Ge=>
    simp[e,e2]at h;subst h;obtain⟨U,aa⟩:=nx e2;refine⟨by simp[U],fun i y bM=>?_⟩;cases i with
    | zero=>simp at bM;subst bM;exact⟨x,rfl,e⟩
    | succ i=>exact aa i y (by simpa using bM)
theorem PX{α:Type}(e:List α):∀(n i j:Nat),i<n->j<e.length->((List.replicate n e).flatten)[i*e.length+j]?=e[j]?
 | 0,i,j,hi,_=>by omega
 | n+1,0,j,_,bm=>by
  rw[List.replicate_succ,List.flatten_cons,pz,Nat.zero_mul,dW,bL bm]
 | n+1,i+1,j,hi,bm=>by
  rw[List.replicate_succ,List.flatten_cons,pz,bH (by rw[hq];omega)];have:=PX e n i j (by omega) bm;rw[<-this]
  congr 1
  rw[hq];omega
theorem cD.buildSlice{P:Program}{w0:eE}{st bu:aF}{a:Act}{w:World}{ω:Own}{τ:Nat->Nat×Value}{d:Nat}{t:TypeId}{len:Nat}{parts:Array (Nat×Operand)}{ans cm:List cd}{obs:List Prop}
  (aZ:cD w0 st a w ω τ) (h:z1 P st d t len parts.toList ans=some (bu,cm,obs)):
  ∃z aN,(Instr.buildSlice t len (parts.map fun (i,x)=>(i,a.eval x))).run P w=.ok z aN/\Rel w0 bu (a.put (some d) z) aN:=by
 unfold z1 at h;split at h
 ·rename_i e hu;split at h
  ·rename_i i hi;split at h
   ·rename_i z bp;split at h
    ·rename_i ao;obtain⟨lW,lp,k3⟩:=ao;split at h
     ·rename_i r aH;simp only at h;split at h
      ·rename_i es CT;split at h
       ·rename_i OC;simp only[aW,bA]at h;obtain⟨rfl,_,_⟩:=h;have lZ:(z.cells.toList.map aE.v).length=i.size:=by simp[lW]
        have ax1:((List.replicate len (z.cells.toList.map aE.v)).flatten).length=len*i.size:=by simp[lW]
        have De:kn (Sat w ω τ) ((List.replicate len (z.cells.toList.map aE.v)).flatten) (madeCells z.cells (len*i.size)):=by
         refine⟨by simp[madeCells,lW],fun x l ar=>?_⟩;have bO:x<len*i.size:=by
          have:=(fP.1 ar).1;omega
         have aq:x=(x / i.size)*i.size+x % i.size:=by rw[Nat.mul_comm];exact (Nat.div_add_mod x i.size).symm
         have aL:x / i.size<len:=Nat.div_lt_of_lt_mul (by rw[Nat.mul_comm];exact bO);have hm:x % i.size<i.size:=Nat.mod_lt _ lp;have U:=PX (z.cells.toList.map aE.v) len (x / i.size) (x % i.size) aL (by omega);rw[lZ,<-aq,ar]at U;have aa:=U.symm;rw[dP,ca]at aa;obtain⟨u,jN,rfl⟩:=aa;refine⟨u,?_,rfl⟩;have aB:=PU z.cells len (x / i.size) (x % i.size) aL (by omega);rw[<-lW,<-aq]at aB;rw[aB];simpa using jN
        obtain⟨out,HH,C4⟩:=JH (vals:=parts.toList.map fun x=>(x.1,a.eval x.2)) (by simp) (fun j fE p bm=>by
         rw[dP,ca]at bm;obtain⟨⟨i2,x⟩,aq,e⟩:=bm;simp only[bA]at e;obtain⟨rfl,rfl⟩:=e;exact⟨a.eval x,by simp only[dP,aq,rR],aZ.bn x⟩) aH De
        obtain⟨iI,c1⟩:=nx CT;have hlen:es.length=len:=by rw[iI,PV]
        have Yl:∀x j r8,c5 es x j=some r8->∃l,x<len/\j<i.size/\r[x*i.size+j]?=some l/\l.iv=some r8/\∃u6,(nv i.size len r)[x]?=some u6/\u6[j]?=some l:=by
         intro x j r8 aI;unfold c5 at aI;cases aq:es[x]? with
         | none=>simp[aq]at aI
         | some e'=>
          rw[aq,nL]at aI;obtain⟨u6,U,aa⟩:=c1 x e' aq;obtain⟨aB,aJ⟩:=nx aa;obtain⟨l,a6,bF⟩:=aJ j r8 aI;have X6:=U;rw[Jb]at U;split at U
          ·simp only[aW]at U;subst U;have X7:=a6;rw[jZ]at a6;split at a6
           ·rw[kW]at a6;exact⟨l,‹_›,‹_›,a6,bF,_,X6,X7⟩
           cases a6
          cases U
        have OP:r.length=len*i.size:=by
         have:=C4.1;have aa:out.size=(madeCells z.cells (len*i.size)).size:=by
          have:=C4.1;have aJ:∀(eW:List (Nat×aG)) (jm hn:List aE),qW (fun x=>some (x*i.size,i.size)) jm eW=some hn->hn.length=jm.length:=by
           intro eW;induction eW with
           | nil=>intro jm hn h;simp[qW]at h;rw[h]
           | cons x eW eO=>
            intro jm hn h;obtain⟨ix,jB⟩:=x;simp only[qW]at h;split at h
            ·split at h
             ·rename_i bD;rw[eO _ _ h,JG (by omega)]
             cases h
            cases h
          have:=aJ _ _ _ aH;simp[madeCells];omega
         simp[madeCells]at aa;omega
        have gF:(w.alloc (.cells out e)).heap[w.heap.size]?=some (.cells out e (0,0)):=nu _ _;have vb:=aZ.jo d (ao1 OC) (rk 0 (nv i.size len r)) (k:=i.size) (cap:=len) (es:=es) (w1:=w.alloc (.cells out e))
         ((gA.refl _ _).alloc (gw _) _) gF (by omega) (by rw[C4.1,OP];exact gw _)
         (fun e' he=>by
          obtain⟨x,aq⟩:=oN.1 he;obtain⟨u6,U,aa⟩:=c1 x e' aq;obtain⟨aB,_⟩:=nx aa;rw[aB];rw[Jb]at U;split at U
          ·simp only[aW]at U;subst U;have:(x+1)*i.size<=len*i.size:=hN _ (by omega);rw[hq]at this;simp;omega
          cases U)
         (fun x j r8 aI=>by
          obtain⟨l,U,aa,aB,aJ,u6,a6,bF⟩:=Yl x j r8 aI;obtain⟨u,bY,dy⟩:=C4.2 _ _ aB;refine⟨u,bY,l,aJ,dy,fun s ak=>?_⟩;have:=PW (nv i.size len r) 0 x j u6 l s a6 bF ak;rw[dW]at this;exact ao2 OC this)
        rw[hlen]at vb;refine⟨_,_,?_,_,_,vb.1.put (p:=.one (.J (.own d) i.size es)) vb.2⟩;have ra:((Array.range (len*i.size)).map (fun x=>(if len*i.size=0 then (#[]:Array Value) else z.cells)[x % (if len*i.size=0 then (#[]:Array Value) else z.cells).size]!))=madeCells z.cells (len*i.size):=by
         unfold madeCells;by_cases b4:len*i.size=0
         ·simp[b4]
         simp[b4]
        have e:(Array.map (fun (x:Nat×Operand)=>(x.1,a.eval x.2)) parts).toList=parts.toList.map fun x=>(x.1,a.eval x.2):=by simp
        have Y5:¬(len*i.size>2 ^ 24):=by have:(2:Nat) ^ 24=16777216:=(by decide);omega
        simp only[Instr.buildSlice,Sem.run_bind,run_underlying hu,Result.andThen_ok,sizeOf,typeInfo,run_program,hi,Sem.run_pure];rw[bH Y5];by_cases b4:len*i.size=0
        ·simp only[b4,gy]at ra ⊢;simp only[Sem.run_pure,Sem.run_bind,Result.andThen_ok,e];rw[b4]at HH;rw[ra,HH];simp[newRow]
        simp only[b4,lN]at ra ⊢;simp only[zeroValue,typeInfo,Sem.run_bind,run_program,Result.andThen_ok,hi,bp,Sem.run_pure,e];rw[ra,HH];simp[newRow]
       cases h
      cases h
     cases h
    cases h
   cases h
  cases h
 cases h
end Go.Sx
namespace Go.Sx
open Go.RowKit
variable{w:World}{ω bd:Own}{k n:Nat}{es:List (List D)}
theorem b1.VC{aN:World}{R iE:List (Nat×Nat)->di->Prop}{b off cap:Nat}(h:b1 w ω R (.J k es) (.slice (some ⟨b,off,none⟩) n cap))
  {arr ci:Array Value} {ty:TypeId} {cT:Nat×Nat} (ay:w.heap[b]?=some (.cells arr ty cT)) (eM:aN.heap[b]?=some (.cells ci ty cT)) (dI:ci.size=arr.size)
  (X':∀x,x<off+n*k->ci[x]?=arr[x]?) (CI:∀o,o=ω b->R [] o->iE [] (bd b)) (nm:∀c p q,c<w.heap.size->R (p::q) (ω c)->iE (p::q) (bd c)/\aN.heap[c]?=w.heap[c]?):
  b1 aN bd iE (.J k es) (.slice (some ⟨b,off,none⟩) n cap):=by
 generalize bM:Value.slice (some ⟨b,off,none⟩) n cap=y at h;cases h with
 | nil=>cases bM;exact .nil _ _ _
 | row R k es fQ qg pJ ko kD GR us hx dY ao ak ba hu aI=>
  simp only[Value.slice.injEq,aW,Addr.mk.injEq]at bM;obtain⟨⟨rfl,rfl,_⟩,rfl,rfl⟩:=bM;rw[ay]at hx;simp only[aW,Obj.cells.injEq]at hx;obtain⟨rfl,rfl,rfl⟩:=hx;refine .row iE k es b off cap ci ty cT us eM (CI _ rfl dY) ao (by omega) ba (fun i j d ez=>?_) (fun i j d ez=>(aI i j d ez).frame fun c q pW aL=>nm c _ _ pW aL);rw[X',hu i j d ez];have o9:i<es.length/\j<k:=by
   unfold c5 at ez;grind
  have:(i+1)*k<=es.length*k:=hN _ o9.1;grind
variable{i j:Nat}
theorem sS{d:D}(ba:∀e∈es,e.length=k)(h:c5 es i j=some d):i<es.length/\j<k:=by
 unfold c5 at h;grind
variable{bS:List (List D)}
theorem AG:c5 (es++bS) i j=if i<es.length then c5 es i j else c5 bS (i-es.length) j:=by
 unfold c5;grind
theorem PY(ba:∀e∈es,e.length=k)(hi:i<es.length)(bm:j<k):∃d,c5 es i j=some d:=by
 simp_all[oP,c5]
def ju(t:Nat)(dT:Option Nat)(n:Nat):di->di
 | .tok s q=>if dT=some s then (match q with | []=>.bG | p::dU=>.tok t ((n+p.1,p.2)::dU)) else .tok s q
 | o=>o
def hO(t:Nat)(dT:Option Nat):Tag->Option Tag
 | .free=>some .free
 | .own s=>if s=t then some (.ro t) else if dT=some s then none else some (.own s)
 | .ro s=>if s=t then none else if dT=some s then none else some (.ro s)
structure Src (P:Program) (w:World) (ω:Own) (k:Nat) (bS:List (List D)) (dT:Option Nat) (y:Value) (news:List Value):Prop where
 len:news.length=bS.length*k
 rows:∀e∈bS,e.length=k
 one:∀u∈news,u.oneCell'=true
 cell:∀i j d,c5 bS i j=some d->∃u,news[i*k+j]?=some u/\((∃x,d=.v x/\u=x)\/∃s,dT=some s/\b1 w ω (fun q=>(Tag.own s).R ((i,j)::q)) d u)
 shape:((∃a,y=.slice a 0 0)/\bS=[])\/∃b o c,y=.slice (some ⟨b,o,none⟩) bS.length c/\∀j v,news[j]?=some v->w.cell? ((⟨b,o,none⟩:Addr).add j)=some v
variable{t:Nat}{dT:Option Nat}
theorem Jd{o:di}{id:Nat}:ju t dT n o=.box id<->o=.box id:=by
 cases o with
 | bG=>simp[ju]
 | box i=>simp[ju]
 | tok s q=>
  simp only[ju];grind
theorem wk{s:Nat}{q:List (Nat×Nat)}(h:dT≠some s):ju t dT n (.tok s q)=.tok s q:=by simp[ju,h]
theorem sT{w aN:World}{g eu:Tag}(kq:dT≠some t)(ax:hO t dT g=some eu)(db:g≠.own t)
  (dj:∀c,c<w.heap.size->ω c≠.tok t []->bd c=ju t dT n (ω c)/\aN.heap[c]?=w.heap[c]?):
  ∀c q,c<w.heap.size->g.R q (ω c)->eu.R q (bd c)/\aN.heap[c]?=w.heap[c]?:=by
 intro c q ao aH;cases g with
 | free=>
  simp only[hO,aW]at ax;subst ax;simp only[Tag.R]at aH;obtain⟨U,aa⟩:=dj c ao (by rw[aH];simp);rw[U,aH];exact⟨rfl,aa⟩
 | own s=>
  simp only[hO]at ax;have ak:s≠t:=fun e=>db (by rw[e])
  rw[bH ak]at ax;split at ax
  ·cases ax
  rename_i hm;simp only[aW]at ax;subst ax;simp_all[Tag.R,wk]
 | ro s=>
  simp only[hO]at ax;split at ax
  ·cases ax
  rename_i ak;split at ax
  ·cases ax
  rename_i hm;simp only[aW]at ax;subst ax;simp only[Tag.R]at aH;rcases aH with aH | ⟨dU,aH⟩
  ·obtain⟨U,aa⟩:=dj c ao (by rw[aH];simp);rw[U,aH];exact⟨.inl rfl,aa⟩
  obtain⟨U,aa⟩:=dj c ao (by grind);rw[U,aH,wk hm];exact⟨.inr ⟨dU,rfl⟩,aa⟩
def gh(τ:Nat->Nat×Value)(t k:Nat)(z:Value):Nat->Nat×Value:=fun s=>if s=t then (k,z) else τ s
variable{τ:Nat->Nat×Value}
theorem DE{k:Nat}{z:Value}{g eu:Tag}{y:Nat×Value}(ax:hO t dT g=some eu)(bM:g.eb τ y):eu.eb (gh τ t k z) y:=by
 cases g with
 | free=>simp only[hO,aW]at ax;subst ax;exact trivial
 | own s=>
  simp only[hO]at ax;split at ax
  ·simp only[aW]at ax;subst ax;exact trivial
  split at ax
  ·cases ax
  simp only[aW]at ax;subst ax;simp_all[Tag.eb,gh,bH]
 | ro s=>
  simp only[hO]at ax;split at ax
  ·cases ax
  split at ax
  ·cases ax
  simp only[aW]at ax;subst ax;exact trivial
theorem Gw{aN:World}{z:Value}(iL:t<da)(kq:dT≠some t)
  (dj:∀c,c<w.heap.size->ω c≠.tok t []->bd c=ju t dT n (ω c)/\aN.heap[c]?=w.heap[c]?)
  (se:∀id b,ω b=.box id->bd b=.box id)
  (nn:∀es y,b1 w ω (Tag.own t).R (.J (τ t).1 es) y->y=(τ t).2->b1 aN bd (Tag.ro t).R (.J (τ t).1 es) y):
  ∀l v,Sat w ω τ l v->Sat aN bd (gh τ t k z) (l.cF (hO t dT) fun _=>true) v:=by
 intro l v ak;cases l with
 | cw=>exact trivial
 | v x=>exact ak
 | bg c=>exact ak
 | ptr id off=>
  simp only[aE.cF,gy];obtain⟨b,ay,e⟩:=ak;exact⟨b,se id b ay,e⟩
 | fp s vs=>
  simp only[aE.cF];split
  ·rename_i s9 ax;split
   ·rename_i HP;subst HP;have db:Tag.own s9≠.own t:=by
     grind[Tag.own.injEq,hO]
    obtain⟨b,ty,arr,e,a6,aB,a',bx⟩:=ak;have bO:b<w.heap.size:=(jF.1 aB).1;have ba:=sT (w:=w) (aN:=aN) kq ax db dj b [] bO a6;refine⟨b,ty,arr,e,ba.1,ba.2.trans aB,D3 (fun c u ao=>?_) a' bx⟩;cases c with
    | cw=>exact trivial
    | v x=>exact ao
    | J g cu es=>
     simp only[eZ.cF];cases ax:hO t dT g with
     | none=>exact trivial
     | some eu=>
      by_cases db:g=.own t
      ·subst db;simp only[hO,gy,aW]at ax;subst ax;obtain⟨U,aa⟩:=ao;simp only[Tag.eb]at aa;have e1:(τ t).1=cu:=by rw[aa]
       have e2:(τ t).2=u:=by rw[aa]
       exact⟨by grind,ad⟩
      exact⟨ao.1.frame fun c q ao aL=>sT kq ax db dj c q ao aL,DE ax ao.2⟩
   exact trivial
  exact trivial
 | aP s i j bQ es m=>
  simp only[aE.cF];split
  ·rename_i s9 ax;split
   ·rename_i HP;subst HP;have db:Tag.own s9≠.own t:=by
     grind[Tag.own.injEq,hO]
    obtain⟨u,hu,U,hm⟩:=ak;refine⟨u,hu,U.frame fun c q ao aL=>sT kq ax db dj c _ ao aL,fun bD=>?_⟩;obtain⟨kT,b,off,len,cap,arr,ty,cT,aa,a6,aB,aJ⟩:=hm bD;have bO:b<w.heap.size:=(jF.1 aB).1;have ba:=sT (w:=w) (aN:=aN) kq ax db dj b [] bO a6;exact⟨kT,b,off,len,cap,arr,ty,cT,DE (k:=k) (z:=z) ax aa,ba.1,ba.2.trans aB,aJ⟩
   exact trivial
  exact trivial
 | gC f ids=>
  simp only[aE.cF];split
  ·obtain⟨bs,e,a',hi⟩:=ak;refine⟨bs,e,a',fun i id hid=>?_⟩;grind
  grind
 | hU ds off=>
  obtain⟨b,e,aH⟩:=ak;exact⟨b,e,aH.frame fun c q ao aL=>sT (g:=.free) (eu:=.free) kq rfl (by simp) dj c q ao aL⟩
 | fd d=>exact b1.frame ak fun c q ao aL=>sT (g:=.free) (eu:=.free) kq rfl (by simp) dj c q ao aL
 | dt t0 dk dM=>exact⟨b1.frame ak.1 fun c q ao aL=>sT (g:=.free) (eu:=.free) kq rfl (by simp) dj c q ao aL,fun bZ=>(show gh τ t k z t0=τ t0 by simp only[gh];grind).trans (ak.2 bZ)⟩
 | J g cu es=>
  simp only[aE.cF];cases ax:hO t dT g with
  | none=>exact trivial
  | some eu=>
   by_cases db:g=.own t
   ·subst db;simp only[hO,gy,aW]at ax;subst ax;obtain⟨U,aa⟩:=ak;simp only[Tag.eb]at aa;have e1:(τ t).1=cu:=by rw[aa]
    have e2:(τ t).2=v:=by rw[aa]
    exact⟨by grind,ad⟩
   exact⟨ak.1.frame fun c q ao aL=>sT kq ax db dj c q ao aL,DE ax ak.2⟩
 | cL g cu es i j=>
  simp only[aE.cF];cases ax:hO t dT g with
  | none=>exact trivial
  | some eu=>
   obtain⟨b,off,cap,e,hi,aH,bD⟩:=ak;by_cases db:g=.own t
   ·subst db;simp only[hO,gy,aW]at ax;subst ax;simp only[Tag.eb]at bD;have e1:(τ t).1=cu:=by rw[bD]
    have e2:(τ t).2=Value.slice (some ⟨b,off,none⟩) es.length cap:=by rw[bD]
    exact⟨b,off,cap,e,hi,by grind,ad⟩
   exact⟨b,off,cap,e,hi,aH.frame fun c q ao aL=>sT kq ax db dj c q ao aL,DE ax bD⟩
def aF.wQ(st:aF)(t:Nat)(dT:Option Nat):aF:=st.map (aE.cF (hO t dT) fun _=>true)
variable{y:Value}
theorem PZ{P:Program}{t ty e:TypeId}{i:TypeInfo}(bZ:P.underlying t=some (.slice e))(hi:P.info? e=some i)(w:World){eX:Value}
  (bM:∃a n c,y=.slice a n c/\n<=c) (kN:∃a c,eX=.slice a 0 c):
  (Builtin.append_ #[t,t] ty #[y,eX]).run P w=.ok y w:=by
 obtain⟨a,n,c,rfl,a'⟩:=bM;obtain⟨a2,ct,rfl⟩:=kN;cases a<;>cases a2<;>
  simp[Builtin.append_,run_underlying bZ,sizeOf,typeInfo,hi,Builtin.lenOf,Builtin.firstCells,loadCells,loadCellsFrom,storeCells, *]
theorem DF{P:Program}{t ty e:TypeId}{i:TypeInfo}(bZ:P.underlying t=some (.slice e))(hi:P.info? e=some i)(w:World)
  (b off n cap:Nat) (arr:Array Value) (iw:TypeId) (ax:w.heap[b]?=some (.cells arr iw (0,0)))
  (cq:Addr) (m c:Nat) (news:List Value) (ar:news.length=m*i.size) (j7:∀j u,news[j]?=some u->w.cell? (cq.add j)=some u) (U:∀u∈news,u.oneCell'=true)
  (n9:n+m<=cap) (ee:off+n*i.size+news.length<=arr.size):
  (Builtin.append_ #[t,t] ty #[.slice (some ⟨b,off,none⟩) n cap,.slice (some cq) m c]).run P w=
   .ok (.slice (some ⟨b,off,none⟩) (n+m) cap) (w.setRow b (arr.toList.take (off+n*i.size)++news++arr.toList.drop (off+n*i.size+news.length)).toArray):=by
 have b8:=run_firstCells_some (P:=P) w i.size m cq m c news ar j7;have fc:=run_storeCells_at P b (off+n*i.size) iw news 0 arr w ax (by grind) U;simp only[nO]at fc;simp[Builtin.append_,run_underlying bZ,sizeOf,typeInfo,hi,Builtin.lenOf,n9,b8,ql,fc]
theorem Src.N0{P:Program}{aN:World}{bd:Own}{n:Nat}{news:List Value}(h:Src P w ω k bS dT y news)(kq:dT≠some t)
  (dj:∀c,c<w.heap.size->ω c≠.tok t []->bd c=ju t dT n (ω c)/\aN.heap[c]?=w.heap[c]?) {i j:Nat} {d:D} (aI:c5 bS i j=some d):
  ∃u,news[i*k+j]?=some u/\b1 aN bd (fun q=>(Tag.own t).R ((n+i,j)::q)) d u:=by
 obtain⟨u,U,aa⟩:=h.cell i j d aI;refine⟨u,U,?_⟩;rcases aa with⟨x,rfl,rfl⟩ | ⟨s,ak,aH⟩
 ·exact .v _ _ (h.one _ (fI U))
 refine aH.frame fun c q ao aL=>?_
 grind[Tag.R,ju]
theorem cD.append{P:Program}{w0:eE}{st:aF}{a:Act}(aZ:cD w0 st a w ω τ){eX:Value}{news:List Value}
  (hp:Sat w ω τ (.J (.own t) k es) y) (iK:Src P w ω k bS dT eX news) (kq:dT≠some t) {ty hV e:TypeId} {i:TypeInfo} {z:Value}
  (bZ:P.underlying hV=some (.slice e)) (hi:P.info? e=some i) (bp:i.zero=some z) (ba:i.size=k) (pd:z.cells.size=k)
  (gD:(es.length+bS.length)*i.bytes<=140737488355328) (hx:es.length+bS.length<=9223372036854775807) (iL:t<da):
  ∃r aN bd,(Builtin.append_ #[hV,hV] ty #[y,eX]).run P w=.ok r aN/\cD w0 (st.wQ t dT) a aN bd (gh τ t k r)/\Sat aN bd (gh τ t k r) (.J (.own t) k (es++bS)) r:=by
 subst ba;obtain⟨aH,bD⟩:=hp;simp only[Tag.eb]at bD;have e1:(τ t).1=i.size:=by rw[bD]
 have e2:(τ t).2=y:=by rw[bD]
 have Hp:∀r:Value,∀s,da<=s->gh τ t i.size r s=τ s:=fun r s ak=>by simp only[gh];grind
 have YO:(Tag.own t).eb (gh τ t i.size y) (i.size,y):=by simp[Tag.eb,gh]
 by_cases hm:bS.length=0
 ·
  have Ho:bS=[]:=yD hm;subst Ho
  let bd:Own:=fun c=>ju t dT es.length (ω c)
  have dj:∀c,c<w.heap.size->ω c≠.tok t []->bd c=ju t dT es.length (ω c)/\w.heap[c]?=w.heap[c]?:=fun c _ _=>⟨rfl,rfl⟩
  have fv:(Builtin.append_ #[hV,hV] ty #[y,eX]).run P w=.ok y w:=by
   refine PZ bZ hi w ?_ ?_
   ·cases aH with
    | nil _ _ a0=>grind
    | row R k es b off cap arr ty cT us ay dY ao ak ba hu aI=>grind
   rcases iK.shape with⟨⟨a,h⟩,_⟩ | ⟨b,o,c,h,_⟩
   ·grind
   grind
  refine⟨y,w,bd,fv,aZ.ei _ (Gw iL kq dj (fun id b ay=>by grind[ju]) ?_) aZ.below ?_ ?_ ?_ (Hp _),?_,YO⟩
  ·intro cv gM eS _;refine eS.frame fun c q ao aL=>⟨?_,rfl⟩
   grind[Tag.R,wk]
  ·intro b ay;have:ω b≠.bG:=fun e=>by grind[ju]
   exact aZ.owned b this
  ·intro id b ay;exact⟨by grind[ju],rfl⟩
  ·intro id b ay;exact Jd.1 ay
  rw[iz];refine aH.frame fun c q ao aL=>⟨?_,rfl⟩
  grind[Tag.R,wk]
 have zq:0<bS.length:=by omega
 rcases iK.shape with⟨_,h⟩ | ⟨bg,kj,kU,rfl,j7⟩
 ·grind
 have grown:∀(w1:World) (ci:Array Value) (r:Value) (lS:Nat),gA w.heap.size w w1->w1.heap[w.heap.size]?=some (.cells ci e (0,0))->r=.slice (some ⟨w.heap.size,0,none⟩) (es.length+bS.length) lS->
   es.length+bS.length<=lS->lS*i.size<=ci.size->(∀fE j d,c5 es fE j=some d->∃u,ci[fE*i.size+j]?=some u/\∃R:List (Nat×Nat)->di->Prop,(∀q o,R q o->o=.tok t ((fE,j)::q))/\b1 w ω R d u)->
   (∀x u,news[x]?=some u->ci[es.length*i.size+x]?=some u)->(∀e∈es,e.length=i.size)->
   ∃bd,cD w0 (st.wQ t dT) a w1 bd (gh τ t i.size r)/\Sat w1 bd (gh τ t i.size r) (.J (.own t) i.size (es++bS)) r:=by
  intro w1 ci r lS k2 gF HJ gE dI hold C2 vn;subst HJ
  let bd:Own:=fun c=>if c=w.heap.size then .tok t [] else @ite _ (ω c=.tok t []) (Classical.propDecidable _) .bG (ju t dT es.length (ω c))
  have ax2:ω w.heap.size=.bG:=aZ.owned.fresh (gw _);have dj:∀c,c<w.heap.size->ω c≠.tok t []->bd c=ju t dT es.length (ω c)/\w1.heap[c]?=w.heap[c]?:=by
   intro c ao db;refine⟨?_,k2.block c ao⟩;grind
  have oa:bd w.heap.size=.tok t []:=by simp[bd]
  have nm:∀c p q,c<w.heap.size->ω c=.tok t (p::q)->bd c=.tok t (p::q):=by
   grind[wk]
  refine⟨bd,aZ.ei _ (Gw iL kq dj ?_ ?_) (aZ.below.next k2) ?_ ?_ ?_ (Hp _),?_,by simp[Tag.eb,gh]⟩
  ·intro id b ay;have bO:=aZ.owned.lt (b:=b) (by simp[ay]);rw[(dj b bO (by rw[ay];simp)).1,ay];rfl
  ·intro cv gM eS _;refine eS.frame fun c q ao aL=>⟨?_,k2.block c ao⟩
   simp only[Tag.R]at aL ⊢;cases q with
   | nil=>grind
   | cons p q=>grind
  ·intro b ay;by_cases w':b=w.heap.size
   ·subst w';exact⟨.inl aZ.below.size,ci,e,gF⟩
   have:ω b≠.bG:=by
    intro e';simp only[bd]at ay;simp_all[bH,ju]
   obtain⟨aB,ko,kD,aJ⟩:=aZ.owned b this;grind
  ·intro id b ay;have bO:=aZ.owned.lt (b:=b) (by simp[ay]);obtain⟨U,aa⟩:=dj b bO (by rw[ay];simp);exact⟨by rw[U,ay];rfl,aa⟩
  ·intro id b ay;by_cases w':b=w.heap.size
   ·grind
   simp only[bd]at ay;rw[bH w']at ay;split at ay
   ·cases ay
   exact Jd.1 ay
  have fo:∀x j d,c5 (es++bS) x j=some d->∃u,ci[x*i.size+j]?=some u/\b1 w1 bd (fun q=>(Tag.own t).R ((x,j)::q)) d u:=by
   intro x j d aI;rw[AG]at aI;split at aI
   ·obtain⟨u,U,R,dY,aa⟩:=hold x j d aI;refine⟨u,U,aa.frame fun c q ao aL=>⟨?_,k2.block c ao⟩⟩;exact nm c _ _ ao (dY q _ aL)
   rename_i aq;obtain⟨u,U,aa⟩:=iK.N0 (aN:=w1) (bd:=bd) (n:=es.length) kq dj aI;refine⟨u,?_,?_⟩
   ·rw[<-C2 _ u U]
    congr 1
    have:x=es.length+(x-es.length):=by omega
    grind
   simp_all
  have hlen:(es++bS).length=es.length+bS.length:=lL;have p8:∀e∈es++bS,e.length=i.size:=by
   intro e' he;rcases lM.1 he with h | h
   ·grind
   exact iK.rows e' h
  have:=b1.row (w:=w1) (ω:=bd) (Tag.own t).R i.size (es++bS) w.heap.size 0 lS ci e (0,0) (fun x j=>ci.getD (x*i.size+j) undef) gF oa (by omega) (by omega) p8
   (fun x j d aI=>by obtain⟨u,U,_⟩:=fo x j d aI;simp_all)
   (fun x j d aI=>by obtain⟨u,U,aa⟩:=fo x j d aI;simp_all)
  grind
 generalize O4:y=lH at aH;cases aH with
 | nil _ _ a0=>
  subst O4;simp only[eh,dW]at gD hx;have fv:(Builtin.append_ #[hV,hV] ty #[.slice a0 0 0,.slice (some ⟨bg,kj,none⟩) bS.length kU]).run P w=
    .ok (.slice (some ⟨w.heap.size,0,none⟩) bS.length (grownCap w bS.length 0 e)) (w.drew.alloc (.cells (news.toArray++Builtin.zeroCells z.cells (grownCap w bS.length 0 e-bS.length)) e)):=by
   cases a0 with
   | none=>exact run_append_nil (P:=P) w hV ty e i z bZ hi bp ⟨bg,kj,none⟩ bS.length kU news iK.len j7 zq (by omega) (by omega)
   | some b6=>
    have:=run_append_grow (P:=P) w hV ty e i z bZ hi bp b6 0 0 [] (by simp) (fun j v bx=>by simp at bx) ⟨bg,kj,none⟩ bS.length kU news iK.len j7 (by omega) (by omega) (growslice_fits (by omega) (by grind));grind
  have o6:=grownCap_ge w bS.length 0 e;obtain⟨bd,U,aa⟩:=grown _ (news.toArray++Builtin.zeroCells z.cells (grownCap w bS.length 0 e-bS.length)) (.slice (some ⟨w.heap.size,0,none⟩) bS.length (grownCap w bS.length 0 e)) (grownCap w bS.length 0 e)
   (((gA.refl _ _).drew).alloc (gw _) _) (nu _ _) (by simp) (by grind) (by
    simp only[th,oL,size_zeroCells,iK.len,pd,<-hq];grind)
   (fun fE j d aI=>by grind[c5]) (fun x u aq=>by
    grind) (fun e he=>by cases he)
  grind
 | row R k es b off cap arr iw cT us ay dY ao ak hc hu aI=>
  have k1:ω b=.tok t []:=dY;obtain⟨vl,tn,uQ,hR⟩:=aZ.owned b (by grind);rw[ay]at hR;simp only[aW,Obj.cells.injEq]at hR;obtain⟨rfl,rfl,rfl⟩:=hR;have vf:b<w.heap.size:=(jF.1 ay).1;by_cases n9:es.length+bS.length<=cap
  ·
   have hmul:(es.length+bS.length)*i.size<=cap*i.size:=hN _ n9;rw[hq]at hmul;have vk:=iK.len;have ee:off+es.length*i.size+news.length<=arr.size:=by omega
   have fv:=DF (P:=P) (ty:=ty) bZ hi w b off es.length cap arr iw ay ⟨bg,kj,none⟩ bS.length kU news iK.len j7 iK.one n9 ee;generalize o3:(arr.toList.take (off+es.length*i.size)++news++arr.toList.drop (off+es.length*i.size+news.length)).toArray=ci at fv;have iH:∀x:Nat,ci[x]?=if off+es.length*i.size<=x/\x<off+es.length*i.size+news.length then news[x-(off+es.length*i.size)]? else arr[x]?:=by
    intro x;rw[<-o3,oK,zZ (by grind)];simp
   have xn:ci.size=arr.size:=by grind
   have k4:=setRow_heap w b arr ci iw (0,0) ay
   let bd:Own:=fun c=>ju t dT es.length (ω c)
   have dj:∀c,c<w.heap.size->ω c≠.tok t []->bd c=ju t dT es.length (ω c)/\(w.setRow b ci).heap[c]?=w.heap[c]?:=fun c _ db=>
    ⟨rfl,setRow_other w b c ci fun e=>db (by grind)⟩
   have oa:bd b=.tok t []:=by grind[wk]
   have nm:∀c p q,c<w.heap.size->ω c=.tok t (p::q)->bd c=.tok t (p::q)/\(w.setRow b ci).heap[c]?=w.heap[c]?:=by
    intro c p q ao aL;obtain⟨U,aa⟩:=dj c ao (by rw[aL];simp);rw[U,aL,wk kq];grind
   refine⟨_,_,bd,fv,aZ.ei _ (Gw iL kq dj (fun id c ji=>by grind[ju]) ?_) ?_ ?_ ?_ ?_ (Hp _),?_,by simp[Tag.eb,gh]⟩
   ·intro cv gM eS pZ;rw[pZ,e2,O4]at eS ⊢;rw[e1]at eS ⊢;have p1:es.length=cv.length:=by
     obtain⟨_,_,h⟩:=eS.len;grind
    refine b1.VC eS ay k4 xn (fun x aq=>?_) (fun o bc xl=>?_) (fun c p q ao aL=>?_)
    ·grind
    ·right;grind
    grind[Tag.R]
   ·exact aZ.below.setRow vl ci
   ·intro c ji;have:ω c≠.bG:=fun e=>by grind[ju]
    obtain⟨aB,ko,kD,aJ⟩:=aZ.owned c this;grind[setRow_other]
   ·grind[id,ju,setRow_other]
   ·intro id c ji;exact Jd.1 ji
   have fo:∀x j d,c5 (es++bS) x j=some d->∃u,ci[off+x*i.size+j]?=some u/\b1 (w.setRow b ci) bd (fun q=>(Tag.own t).R ((x,j)::q)) d u:=by
    intro x j d ec;rw[AG]at ec;split at ec
    ·rename_i aq;have zo:=(sS hc ec).2;refine⟨us x j,?_,(aI x j d ec).frame fun c q ao aL=>?_⟩
     ·have:(x+1)*i.size<=es.length*i.size:=hN _ aq;rw[hq]at this;rw[iH,bH (by omega),hu x j d ec]
     exact nm c _ _ ao aL
    rename_i aq;obtain⟨u,U,aa⟩:=iK.N0 (aN:=w.setRow b ci) (bd:=bd) (n:=es.length) kq dj ec;have ZM:=(fP.1 U).1;have xo:x*i.size=es.length*i.size+(x-es.length)*i.size:=by rw[<-hq];grind
    refine⟨u,?_,?_⟩
    ·rw[iH,bL (by omega),<-U]
     congr 1
     omega
    rwa[show es.length+(x-es.length)=x by omega]at aa
   have hlen:(es++bS).length=es.length+bS.length:=lL;have p8:∀e∈es++bS,e.length=i.size:=by
    intro e' he;rcases lM.1 he with h | h
    ·grind
    exact iK.rows e' h
   have:=b1.row (w:=w.setRow b ci) (ω:=bd) (Tag.own t).R i.size (es++bS) b off cap ci iw (0,0) (fun x j=>ci.getD (off+x*i.size+j) undef) k4 oa (by omega) (by omega) p8
    (fun x j d aI=>by obtain⟨u,U,_⟩:=fo x j d aI;rw[U];simp[eR,U])
    (fun x j d aI=>by obtain⟨u,U,aa⟩:=fo x j d aI;have:ci.getD (off+x*i.size+j) undef=u:=(by simp[eR,U]);grind)
   grind
  -- it axF
  have hmul:es.length*i.size<=cap*i.size:=hN _ ao;have q8:((arr.toList.drop off).take (es.length*i.size)).length=es.length*i.size:=by simp;omega
  have fv:=run_append_grow (P:=P) w hV ty e i z bZ hi bp ⟨b,off,none⟩ es.length cap ((arr.toList.drop off).take (es.length*i.size)) q8 (fun j v bx=>by
   grind[ql,cell_of_row]) ⟨bg,kj,none⟩ bS.length kU news iK.len j7 (by omega) (by omega) (growslice_fits (by omega) gD)
  have o6:=grownCap_ge w (es.length+bS.length) cap e;obtain⟨bd,U,aa⟩:=grown _ (((arr.toList.drop off).take (es.length*i.size)).toArray++news.toArray++Builtin.zeroCells z.cells (grownCap w (es.length+bS.length) cap e-(es.length+bS.length))) _ (grownCap w (es.length+bS.length) cap e)
   (((gA.refl _ _).drew).alloc (gw _) _) (nu _ _) rfl o6 (by
    simp only[th,oL,size_zeroCells,iK.len,pd,q8,<-hq];grind)
   (fun fE j d ez=>by
    obtain⟨xf,ep⟩:=sS hc ez;have:(fE+1)*i.size<=es.length*i.size:=hN _ xf;rw[hq]at this;refine⟨us fE j,?_,fun q=>(Tag.own t).R ((fE,j)::q),fun q o h=>h,aI fE j d ez⟩;grind)
   (fun x u aq=>by
    have fR:=(fP.1 aq).1;rw[jE,bL (by grind),jE,bH (by grind)];grind) hc
  grind
end Go.Sx
namespace Go.Sx
open Go.RowKit
def Flat(es:List (List D)):Prop:=∀e∈es,∀d∈e,∃x,d=.v x
theorem apU{es:List (List D)}{i j:Nat}{d:D}(h:c5 es i j=some d):∃e∈es,d∈e:=by
 unfold c5 at h;cases aq:es[i]? with
 | none=>grind
 | some e=>rw[aq,nL]at h;exact⟨e,fI aq,fI h⟩
variable{P:Program}{w:World}{ω:Own}{k:Nat}{dT:Option Nat}
theorem Src.empty(a:Option Addr):Src P w ω k [] dT (.slice a 0 0) [] where
 len:=by simp
 rows:=fun _ h=>(by cases h)
 one:=fun _ h=>(by cases h)
 cell:=fun i j d aI=>by grind[c5]
 shape:=.inl ⟨⟨a,rfl⟩,rfl⟩
theorem Src.of{R:List (Nat×Nat)->di->Prop}{bS:List (List D)}{y:Value}(h:b1 w ω R (.J k bS) y)(nj:0<k)
  (ao:Flat bS\/∃s,dT=some s/\R=(Tag.own s).R):∃news,Src P w ω k bS dT y news:=by
 cases h with
 | nil=>exact⟨[],Src.empty _⟩
 | row R k es b off cap arr ty cT us ay dY gE ak hc hu aI=>
  have hmul:bS.length*k<=cap*k:=hN _ gE;have iH:∀x:Nat,((arr.toList.drop off).take (bS.length*k))[x]?=if x<bS.length*k then arr[off+x]? else none:=by
   grind
  have fo:∀i j d,c5 bS i j=some d->((arr.toList.drop off).take (bS.length*k))[i*k+j]?=some (us i j):=by
   intro i j d ez;obtain⟨hi,bm⟩:=sS hc ez;have:(i+1)*k<=bS.length*k:=hN _ hi;grind
  refine⟨(arr.toList.drop off).take (bS.length*k),by simp;omega,hc,?_,?_,.inr ⟨b,off,cap,rfl,?_⟩⟩
  ·intro u jN;obtain⟨x,aq⟩:=oN.1 jN;have bO:x<bS.length*k:=by
    grind
   have xo:x=(x / k)*k+x % k:=by grind[Nat.mul_comm,Nat.div_add_mod]
   have aL:x / k<bS.length:=Nat.div_lt_of_lt_mul (by grind);obtain⟨d,ez⟩:=PY hc aL (Nat.mod_lt x nj);have U:=fo _ _ _ ez;rw[<-xo,aq]at U;rw[gd U];exact (aI _ _ _ ez).pk
  ·intro i j d ez;refine⟨us i j,fo i j d ez,?_⟩;rcases ao with b8 | ⟨s,lx,vp⟩
   ·obtain⟨e,he,Yw⟩:=apU ez;obtain⟨x,rfl⟩:=b8 e he d Yw;have:=aI i j _ ez;cases aB:us i j<;>(rw[aB]at this;cases this;grind)
   simp_all
  grind[ql,cell_of_row]
variable{τ:Nat->Nat×Value}
theorem cD.IK{w0:eE}{st:aF}{a:Act}(h:cD w0 st a w ω τ)(t k:Nat)(iL:t<da):
  ∃bd,cD w0 (st.jo t []) a w bd (gh τ t k (.slice none 0 0))/\Sat w bd (gh τ t k (.slice none 0 0)) (.J (.own t) k []) (.slice none 0 0):=by
 refine⟨fun b=>pv t [] (ω b),h.ei _ (lP.sat (g:=h2 t []) (p:=fun _=>true) ⟨?_,?_,?_,rfl,fun s ak=>by simp only[gh];grind⟩) h.below ?_ ?_ ?_ (fun s ak=>by simp only[gh];grind),.nil _ _ _,by simp[Tag.eb,gh]⟩
 ·grind[PT]
 ·intro g eu y ax bM;cases g with
  | free=>simp only[h2,aW]at ax;subst ax;exact trivial
  | own s=>
   simp only[h2]at ax;split at ax
   ·simp only[aW]at ax;subst ax;exact trivial
   split at ax
   ·cases ax
   simp only[aW]at ax;subst ax;simp_all[Tag.eb,gh,bH]
  | ro s=>
   simp only[h2]at ax;split at ax
   ·simp only[aW]at ax;subst ax;exact trivial
   split at ax
   ·cases ax
   simp only[aW]at ax;subst ax;exact trivial
 ·intro id b _ ay;exact Ea.2 ay
 ·intro b ay;exact h.owned b fun e=>by simp only[e]at ay;exact ay rfl
 ·intro id b ay;exact⟨Ea.2 ay,rfl⟩
 intro id b ay;exact Ea.1 ay
def u3(t k:Nat)(q:aG)(ans:List cd):Option (List (List D)×Option Nat×List cd×List Prop):=
 match q.leaf,ans with
 | some (.J (.own s) cu bS),.wr::r=>if cu=k/\s≠t then some (bS,some s,r,[]) else none
 | some (.J _ cu bS),ans=>if cu=k then some (bS,none,ans,[Flat bS]) else none
 | some (.v (.slice none 0 0)),ans=>some ([],none,ans,[])
 | some (.aP _ _ _ cu bS .here),ans=>if cu=k then some (bS,none,ans,[Flat bS]) else none
 | some (.aP _ _ _ cu bS .lQ),ans=>if cu=k then some (bS,none,ans,[Flat bS]) else none
 | _,_=>none
theorem P0{P:Program}{t:Nat}{q:aG}{y:Value}{ans cm:List cd}{bS:List (List D)}{obs:List Prop}(nj:0<k)
  (aL:cO (Sat w ω τ) q y) (h:u3 t k q ans=some (bS,dT,cm,obs)) (bc:cK obs):dT≠some t/\∃news,Src P w ω k bS dT y news:=by
 unfold u3 at h;split at h
 ·rename_i s cu es r e;split at h
  ·rename_i ao;obtain⟨rfl,db⟩:=ao;simp only[aW,bA]at h;obtain⟨rfl,rfl,_,_⟩:=h;exact⟨by grind,Src.of (aG.dN e aL).1 nj (.inr ⟨s,rfl,rfl⟩)⟩
  cases h
 ·rename_i g cu es e _;split at h
  ·rename_i ao;subst ao;simp only[aW,bA]at h;obtain⟨rfl,rfl,_,rfl⟩:=h;exact⟨by simp,Src.of (aG.dN e aL).1 nj (.inl bc.1)⟩
  cases h
 ·rename_i e;simp only[aW,bA]at h;obtain⟨rfl,rfl,_,_⟩:=h;have:y=.slice none 0 0:=aG.dN e aL;subst this;exact⟨by simp,[],Src.empty _⟩
 ·rename_i s Bp Bq cu es e;split at h
  ·rename_i ao;subst ao;simp only[aW,bA]at h;obtain⟨rfl,rfl,_,rfl⟩:=h;obtain⟨fy,rfl,aH,_⟩:=aG.dN e aL;exact⟨by simp,Src.of aH nj (.inl bc.1)⟩
  cases h
 ·rename_i s Bp Bq cu es e;split at h
  ·rename_i ao;subst ao;simp only[aW,bA]at h;obtain⟨rfl,rfl,_,rfl⟩:=h;obtain⟨fy,rfl,aH,_⟩:=aG.dN e aL;exact⟨by simp,Src.of aH nj (.inl bc.1)⟩
  cases h
 cases h
def Co(d:Nat)(st:aF)(k:Nat)(p:aG):Option (aF×Nat×List (List D)):=
 match p.leaf with
 | some (.J (.own t) cu es)=>if cu=k then some (st,t,es) else none
 | some (.v (.slice none 0 0))=>some (st.jo d [],d,[])
 | _=>none
def yu(P:Program)(st:aF)(d:Nat)(t:TypeId)(x y:Operand)(ans:List cd):Stepped:=
 match qm P t with
 | some (e,k)=>
  match P.info? e,Co d st k (st.bn x) with
  | some i,some (dR,gW,es)=>
   match i.zero,u3 gW k (dR.bn y) ans with
   | some z,some (bS,dT,cm,obs)=>
    if z.cells.size=k/\0<k/\gW<da then
     some (⟨(dR.wQ gW dT).env.set d (.one (.J (.own gW) k (es++bS))),(dR.wQ gW dT).boxes⟩,cm,((es.length+bS.length)*i.bytes<=140737488355328)::(es.length+bS.length<=9223372036854775807)::obs)
    else none
   | _,_=>none
  | _,_=>none
 | none=>none
theorem cD.yu{w0:eE}{st bu:aF}{a:Act}{d:Nat}{t ty:TypeId}{x y:Operand}{ans cm:List cd}{obs:List Prop}
  (aZ:cD w0 st a w ω τ) (h:Sx.yu P st d t x y ans=some (bu,cm,obs)) (bc:cK obs):
  ∃z aN,(Builtin.append_ #[t,t] ty #[a.eval x,a.eval y]).run P w=.ok z aN/\Rel w0 bu (a.put (some d) z) aN:=by
 unfold Sx.yu at h;split at h
 ·rename_i e k he;obtain⟨hu,i0,k5,xm⟩:=wi he;split at h
  ·rename_i i dR gW es hi j9;rw[k5]at hi;have o8:=gd hi;subst o8;split at h
   ·rename_i z bS dT u2 xw bp iK;split at h
    ·rename_i ao;simp only[aW,bA]at h;obtain⟨rfl,rfl,rfl⟩:=h;obtain⟨cC,cg,cE⟩:=bc;have:∃Gm NI,cD w0 dR a w Gm NI/\Sat w Gm NI (.J (.own gW) k es) (a.eval x):=by
      unfold Co at j9;split at j9
      ·rename_i dn cu cv ar;split at j9
       ·rename_i hc;subst hc;simp only[aW,bA]at j9;obtain⟨rfl,rfl,rfl⟩:=j9;exact⟨ω,τ,aZ,aG.dN ar (aZ.bn x)⟩
       cases j9
      ·rename_i ar;simp only[aW,bA]at j9;obtain⟨rfl,rfl,rfl⟩:=j9;have:a.eval x=.slice none 0 0:=aG.dN ar (aZ.bn x);rw[this];obtain⟨Gm,U,aa⟩:=aZ.IK d k ao.2.2;grind
      cases j9
     obtain⟨Gm,NI,hy,aq⟩:=this;obtain⟨kq,news,ak⟩:=P0 (P:=P) ao.2.1 (hy.bn y) iK cE;obtain⟨r,aN,bd,U,aa,aB⟩:=hy.append (P:=P) (ty:=ty) aq ak kq hu k5 bp xm ao.1 cC cg ao.2.2;exact⟨r,aN,U,bd,_,aa.put (p:=.one (.J (.own gW) k (es++bS))) aB⟩
    cases h
   cases h
  cases h
 cases h
