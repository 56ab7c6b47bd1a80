import Derived.Test.YtdchjefneblpgaaGreatR1
set_option linter.unusedVariables false
set_option linter.unusedSimpArgs false
namespace Go.Sx
open Go.RowKit
def rv(id:Nat)(fz:List aH):List (Nat×List aH)->List (Nat×List aH)
 | []=>[]
 | (i,ls)::r=>if i=id then (i,fz)::r else (i,ls)::rv id fz r
variable{id:Nat}{fz:List aH}
theorem y6:∀{bs:List (Nat×List aH)} {ls:List aH},dM id bs=some ls->dM id (rv id fz bs)=some fz
 | [],_,h=>by cases h
 | (i,l)::r,ls,h=>by
  simp only[rv];by_cases hi:i=id
  ·rw[bm hi];simp[dM,hi]
  rw[bk hi];simp only[dM,bk hi]at h ⊢;exact y6 h
theorem y7{hM:Nat}(aX:hM≠id):∀{bs:List (Nat×List aH)},dM hM (rv id fz bs)=dM hM bs
 | []=>rfl
 | (i,l)::r=>by
  simp only[rv];by_cases hi:i=id
  ·rw[bm hi];simp only[dM,hi];rw[bk (Ne.symm aX),bk (Ne.symm aX)]
  rw[bk hi];simp only[dM];split
  ·rfl
  exact y7 aX
theorem Tag.aaR{t:Tag}{q:List (Nat×Nat)}:¬t.R q (.box id):=by
 cases t with
 | free=>exact fun h=>by cases h
 | own s=>exact fun h=>by cases h
 | ro s=>exact fun h=>by rcases h with h | ⟨_,h⟩<;>cases h
theorem Sat.aBs{w:World}{ω:Own}{τ:Nat->Nat×Value}{b:Nat}(av:ω b=.box id)(cs:Array Value):∀(l:aH) (v:Value),Sat w ω τ l v->Sat (w.setRow b cs) ω τ l v:=by
 have br:mB w ω τ (w.setRow b cs) ω τ sg (fun _=>true):=by
  refine⟨?_,?_,fun _ _ _ h=>h,rfl,fun _ _=>rfl⟩
  ·intro t di dc q ay _ aK;simp only[sg,aV]at ay;subst ay;refine⟨aK,setRow_other w b dc cs fun e=>?_⟩;subst e;rw[av]at aK;exact Tag.aaR aK
  intro t di y ay bf;simp only[sg,aV]at ay;subst ay;exact bf
 intro l v ao;have:=br.sat l v ao;cases l with
 | aQ t i j k es m=>
  obtain⟨u,hu,h1,hm⟩:=ao;refine⟨u,hu,h1.frame fun c q aj aK=>⟨aK,setRow_other w b c cs fun e=>?_⟩,fun bJ=>?_⟩
  ·subst e;rw[av]at aK;cases aK
  obtain⟨kT,fG,off,len,cap,arr,ty,c3,U,aZ,ax,aF⟩:=hm bJ;exact⟨kT,fG,off,len,cap,arr,ty,c3,U,aZ,(setRow_other w b fG cs fun e=>by subst e;rw[av]at aZ;cases aZ).trans ax,aF⟩
 | fN t vs=>
  obtain⟨fG,ty,arr,e,aZ,ax,aX,bp⟩:=ao;refine⟨fG,ty,arr,e,aZ,(setRow_other w b fG cs fun e=>by subst e;rw[av]at aZ;cases aZ).trans ax,aX,fun j c aj=>?_⟩;obtain⟨u,h1,U⟩:=bp j c aj;refine⟨u,h1,?_⟩;have eu:=br.mm c u U;have:fj.cu sg c=c:=by cases c<;>simp[fj.cu,sg]
  rwa[this]at eu
 | _=>simpa[aH.cu,sg]using this
variable{w0:eT}{st:aJ}{a:Act}{w:World}{ω:Own}{τ:Nat->Nat×Value}
theorem cJ.aBy(h:cJ w0 st a w ω τ){ls:List aH}(ay:dM id st.boxes=some ls)
  {b:Nat} (av:ω b=.box id) {cd:Array Value} (ao:k9 (Sat w ω τ) fz cd):
  cJ w0 ⟨st.env,rv id fz st.boxes⟩ a (w.setRow b cd) ω τ:=by
 obtain⟨dc,arr,ty,dL,hu,bJ,e3⟩:=h.boxes id ls ay;have:=hu b av;subst this;have Jw:=Sat.aBs (w:=w) (ω:=ω) (τ:=τ) av cd;have ko:=setRow_heap w b arr cd ty (0,0) bJ;refine⟨h.defers,h.size,?_,?_,h.fixed,h.pinned,?_,?_⟩
 ·exact h.below.setRow (h.owned b (by simp[av])).1 cd
 ·intro c aj;obtain⟨h1,iD,iM,U⟩:=h.owned c aj;by_cases e:c=b
  ·subst e;exact⟨h1,cd,ty,ko⟩
  exact⟨h1,iD,iM,(setRow_other w b c cd e).trans U⟩
 ·intro i p hp;obtain⟨v,h1,U⟩:=h.env i p hp;refine⟨v,h1,?_⟩;have:=cW.map (f:=_root_.id) Jw U;have e:aL.map _root_.id p=p:=by
   cases p with
   | aI a=>cases a<;>simp[aL.map,bn.map]
   | gf as=>
    simp only[aL.map]
    congr 1
    have:bn.map _root_.id=_root_.id:=by funext a;cases a<;>simp[bn.map]
    rw[this];simp
  rwa[e]at this
 intro i l ap;by_cases e:i=id
 ·subst e;rw[y6 ay]at ap;have e:=eW ap;subst e;refine⟨b,cd,ty,av,hu,ko,?_⟩;have:=ao.map (f:=_root_.id) Jw;simpa using this
 rw[y7 e]at ap;obtain⟨c,iD,iM,aj,abQ,abH,pX⟩:=h.boxes i l ap;have cC:c≠b:=fun e'=>by subst e';rw[av]at aj;simp only[db.box.injEq]at aj;exact e aj.symm
 refine⟨c,iD,iM,aj,abQ,(setRow_other w b c cd cC).trans abH,?_⟩;have:=pX.map (f:=_root_.id) Jw;simpa using this
abbrev Stepped:=Option (aJ×List cf×List Prop)
def KL(st:aJ)(d:Nat)(p:aL)(ans:List cf):Stepped:=
 if d<dn then p.leaves.map fun ls=>(⟨(st.u6 d ls).env.set d (.one (.ptr d 0)),(st.u6 d ls).boxes⟩,ans,[]) else none
variable{bC:aJ}{ans cq:List cf}{obs:List Prop}
theorem cJ.box{P:Program}{d:Nat}{p:aL}{v:Value}(a8:cJ w0 st a w ω τ)
  (hp:cW (Sat w ω τ) p v) (h:KL st d p ans=some (bC,cq,obs)) (ty:TypeId):
  ∃z aO,(do pure (.pointer (some (<-newVar ty v))):Sem Value).run P w=.ok z aO/\Rel w0 bC (a.put (some d) z) aO:=by
 unfold KL at h;split at h
 case isFalse=>cases h
 rename_i tk;rw[cc]at h;obtain⟨ls,h1,h⟩:=h;simp only[bH]at h;obtain⟨rfl,_,_⟩:=h;obtain⟨ao,_⟩:=aL.yQ h1 hp;obtain⟨bc,Js,da⟩:=a8.u6 d tk ty ao;refine⟨.pointer (some ⟨w.heap.size,0,none⟩),w.alloc (.cells v.cells ty),by simp[newVar,newRow],bc,τ,?_⟩;exact Js.put (p:=.one (.ptr d 0)) ⟨w.heap.size,da,rfl⟩
def KM(P:Program)(st:aJ)(d:Nat)(elem:TypeId)(ans:List cf):Stepped:=
 match P.info? elem with
 | some i=>match i.zero with
  | some z=>if d<dn then let ls:=z.cells.toList.map .v;some (⟨(st.u6 d ls).env.set d (.one (.ptr d 0)),(st.u6 d ls).boxes⟩,ans,[]) else none
  | none=>none
 | none=>none
theorem cJ.alloc{P:Program}{d:Nat}{elem:TypeId}(a8:cJ w0 st a w ω τ)
  (h:KM P st d elem ans=some (bC,cq,obs)):
  ∃z aO,(Instr.alloc elem true (.tuple #[])).run P w=.ok z aO/\Rel w0 bC (a.put (some d) z) aO:=by
 unfold KM at h;split at h
 ·rename_i i hi;split at h
  ·rename_i z bi;split at h
   case isFalse=>cases h
   rename_i tk;simp only[aV,bH]at h;obtain⟨rfl,_,_⟩:=h;have ao:k9 (Sat w ω τ) (z.cells.toList.map .v) z.cells:=by
    refine⟨by simp,fun j l ap=>?_⟩;rw[dq,cc]at ap;obtain⟨u,hu,rfl⟩:=ap;exact⟨u,by simpa using hu,rfl⟩
   obtain⟨bc,Js,da⟩:=a8.u6 d tk elem ao;refine⟨.pointer (some ⟨w.heap.size,0,none⟩),w.alloc (.cells z.cells elem),by simp[Instr.alloc,zeroValue,typeInfo,hi,bi,newVar,newRow],bc,τ,?_⟩;exact Js.put (p:=.one (.ptr d 0)) ⟨w.heap.size,da,rfl⟩
  cases h
 cases h
def KN(P:Program)(st:aJ)(t:TypeId)(id off:Nat)(q:aL)(ans:List cf):Stepped:=
 match dM id st.boxes,q.leaves,P.info? t with
 | some ls,some xs,some i=>if xs.length=i.size/\off+xs.length<=ls.length then some (⟨st.env,rv id (uA ls off xs) st.boxes⟩,ans,[]) else none
 | _,_,_=>none
theorem BX{α:Type}{xs ys:List α}{off:Nat}(h:off+ys.length<=xs.length)(i:Nat):
  (xs.take off++ys++xs.drop (off+ys.length))[i]?=if off<=i/\i<off+ys.length then ys[i-off]? else xs[i]?:=by
 rw[oM,l8,ma,Nat.min_eq_left (by omega)];by_cases h1:i<off
 ·rw[bm h1,bk (by omega),gI,bm h1]
 rw[bk h1,l8];by_cases U:i-off<ys.length
 ·rw[bm U,bm (by omega)]
 rw[bk U,bk (by omega),gH]
 congr 1
 omega
theorem cJ.aBx{P:Program}{t:TypeId}{off:Nat}{q:aL}{b:Nat}{v:Value}
  (a8:cJ w0 st a w ω τ) (av:ω b=.box id) (aK:cW (Sat w ω τ) q v) (h:KN P st t id off q ans=some (bC,cq,obs)):
  ∃aO,(Instr.storeAt t (.pointer (some ⟨b,off,none⟩)) v).run P w=.ok () aO/\Rel w0 bC a aO:=by
 unfold KN at h;split at h
 ·rename_i ls xs i e1 e2 cg;split at h
  ·rename_i aj;simp only[aV,bH]at h;obtain⟨rfl,_,_⟩:=h;obtain⟨ao,oq⟩:=aL.yQ e2 aK;obtain⟨dc,arr,ty,dL,hu,bJ,e3⟩:=a8.boxes id ls e1;have:=hu b av;subst this;have fb:=run_storeCells_at P b off ty v.cells.toList 0 arr w bJ (by simp;have:=ao.1;have:=e3.1;omega) oq;have gL:k9 (Sat w ω τ) (uA ls off xs) (arr.toList.take (off+0)++v.cells.toList++arr.toList.drop (off+0+v.cells.toList.length)).toArray:=by
    have h1:=ao.1;have U:=e3.1;refine⟨?_,fun j l ap=>?_⟩
    ·rw[KZ (by omega)];simp;omega
    rw[SJ (by omega)]at ap;rw[nW,np,BX (by simp;omega)];simp only[v8];by_cases a1:off<=j/\j<off+xs.length
    ·rw[bm a1]at ap;rw[bm (by omega)];obtain⟨u,ax,aF⟩:=ao.2 _ _ ap;exact⟨u,by simpa using ax,aF⟩
    rw[bk a1]at ap;rw[bk (by omega)];obtain⟨u,ax,aF⟩:=e3.2 _ _ ap;exact⟨u,by simpa using ax,aF⟩
   refine⟨_,?_,ω,τ,a8.aBy e1 av gL⟩;simp only[Instr.storeAt,Instr.sureAddr,Sem.run_bind,Sem.run_pure,Result.andThen_ok,storeVar,sizeOf,typeInfo,run_program,cg];have c':¬(v.cells.size≠i.size):=by simp;have:=ao.1;omega
   rw[bk c'];exact fb
  cases h
 cases h
end Go.Sx
namespace Go.Sx
open Go.RowKit
variable{w0:eT}{st:aJ}{a:Act}{w:World}{ω:Own}{τ:Nat->Nat×Value}
theorem cJ.dC{aO:World}{bc:Own}{cY:Nat->Nat×Value}(h:cJ w0 st a w ω τ)(f:aH->aH)
  (e3:∀l v,Sat w ω τ l v->Sat aO bc cY (f l) v) (o4:ha w0 aO) (q2:oR w0 aO bc)
  (r3:∀id b,ω b=.box id->bc b=.box id/\aO.heap[b]?=w.heap[b]?) (AY:∀id b,bc b=.box id->ω b=.box id) (r6:∀t,dn<=t->cY t=τ t:=by intros;rfl):cJ w0 (st.map f) a aO bc cY where
 defers:=h.defers
 size:=by simp[aJ.map,h.size]
 below:=o4
 owned:=q2
 fixed:=fun t bT=>(r6 t bT).trans (h.fixed t bT)
 pinned:=fun id b hi av=>h.pinned id b hi (AY id b av)
 env:=by
  intro i q aK;simp only[aJ.map]at aK;rw[dq,cc]at aK;obtain⟨gM,bG,rfl⟩:=aK;obtain⟨v,h1,U⟩:=h.env i gM bG;exact⟨v,h1,cW.map e3 U⟩
 boxes:=by
  intro id ls ap;simp only[aJ.map]at ap;rw[tI,cc]at ap;obtain⟨j8,bG,rfl⟩:=ap;obtain⟨b,arr,ty,av,hu,bJ,ao⟩:=h.boxes id j8 bG;obtain⟨h1,U⟩:=r3 id b av;exact⟨b,arr,ty,h1,fun dc dL=>hu dc (AY id dc dL),U.trans bJ,ao.map e3⟩
abbrev io:=List (Nat×(Nat×Nat))
def io.at(s:Nat):io->Option (Nat×Nat)
 | []=>none
 | (i,p)::r=>if i=s then some p else io.at s r
def iW(t:Nat)(ms:io):Tag->Option Tag
 | .free=>some .free
 | .own s=>if s=t then some .free else if (ms.at s).isSome then none else some (.own s)
 | .ro s=>if s=t then some .free else if (ms.at s).isSome then none else some (.ro s)
def qf(t:Nat)(ms:io):db->db
 | .tok s q=>if s=t then .bI else match ms.at s with | some p=>.tok t (p::q) | none=>.tok s q
 | o=>o
variable{t:Nat}{ms:io}
theorem E3{o:db}{id:Nat}:qf t ms o=.box id<->o=.box id:=by
 cases o with
 | bI=>simp[qf]
 | box i=>simp[qf]
 | tok s q=>
  simp only[qf];split
  ·simp
  ·split<;>simp
theorem Sq{g eI:Tag}{q:List (Nat×Nat)}{o:db}(h:iW t ms g=some eI)(aA:g.R q o):eI.R q (qf t ms o):=by
 cases g with
 | free=>simp only[iW,aV]at h;subst h;simp only[Tag.R]at aA ⊢;rw[aA];rfl
 | own s=>
  simp only[Tag.R]at aA;subst aA;simp only[iW]at h;simp only[qf];split at h
  ·simp only[aV]at h;subst h;rw[bm ‹_›];rfl
  split at h
  ·cases h
  rename_i h1 U;simp only[aV]at h;subst h;rw[bk h1];cases e:ms.at s with
  | none=>rfl
  | some p=>simp[e]at U
 | ro s=>
  simp only[Tag.R]at aA;simp only[iW]at h;split at h
  ·simp only[aV]at h;subst h;rcases aA with rfl | ⟨dJ,rfl⟩
   ·rfl
   simp only[qf];rw[bm ‹_›];rfl
  split at h
  ·cases h
  rename_i h1 U;simp only[aV]at h;subst h;rcases aA with rfl | ⟨dJ,rfl⟩
  ·exact .inl rfl
  refine .inr ⟨dJ,?_⟩;simp only[qf];rw[bk h1];cases e:ms.at s with
  | none=>rfl
  | some p=>simp[e]at U
def qg(w:World)(ω:Own)(t:Nat)(ms:io):Own:=fun b=>if b=w.heap.size then .tok t [] else qf t ms (ω b)
def xe(w:World)(τ:Nat->Nat×Value)(t k n c:Nat):Nat->Nat×Value:=fun s=>if s=t then (k,.slice (some ⟨w.heap.size,0,none⟩) n c) else τ s
def aJ.j'(st:aJ)(t:Nat)(ms:io):aJ:=st.map (aH.cu (iW t ms) fun _=>true)
theorem awl{w1:World}{k n c:Nat}(iU:t<dn)(b2:ω w.heap.size=.bI)(bJ:∀b,b<w.heap.size->w1.heap[b]?=w.heap[b]?):
  mB w ω τ w1 (qg w ω t ms) (xe w τ t k n c) (iW t ms) (fun _=>true):=by
 refine⟨?_,?_,?_,rfl,fun s ao=>by simp only[xe];rw[bk (by omega)]⟩
 ·intro g eI b q ay av aK;refine⟨?_,bJ b av⟩;simp only[qg];rw[bk (by omega)];exact Sq ay aK
 ·intro g eI y ay bf;cases g with
  | free=>simp only[iW,aV]at ay;subst ay;exact trivial
  | own s=>
   simp only[iW]at ay;split at ay
   ·simp only[aV]at ay;subst ay;exact trivial
   split at ay
   ·cases ay
   simp only[aV]at ay;subst ay;simp only[Tag.ev,xe]at bf ⊢;rw[bk ‹_›];exact bf
  | ro s=>
   simp only[iW]at ay;split at ay
   ·simp only[aV]at ay;subst ay;exact trivial
   split at ay
   ·cases ay
   simp only[aV]at ay;subst ay;exact trivial
 intro id b _ av;simp only[qg];by_cases e:b=w.heap.size
 ·subst e;rw[b2]at av;cases av
 rw[bk e,av];rfl
def aH.jA:aH->Option D
 | .v x=>if x.oneCell' then some (.v x) else none
 | .bg c=>some (.v (.bool c))
 | .J (.own _) k es=>some (.J k es)
 | _=>none
def aH.tok:aH->Option Nat
 | .J (.own s) _ _=>some s
 | _=>none
def E4(w:World)(ω:Own)(τ:Nat->Nat×Value)(t:Nat)(ms:io)(i j:Nat)(d:D)(u:Value):Prop:=
 ∃l:aH,l.jA=some d/\Sat w ω τ l u/\∀s,l.tok=some s->s≠t/\ms.at s=some (i,j)
theorem E4.rep{w1:World}{ω:Own}{i j:Nat}{d:D}{u:Value}(h:E4 w ω τ t ms i j d u)(bJ:∀b,b<w.heap.size->w1.heap[b]?=w.heap[b]?):
  b0 w1 (qg w ω t ms) (fun q=>(Tag.own t).R ((i,j)::q)) d u:=by
 obtain⟨l,aG,ao,hm⟩:=h;cases l with
 | cA=>cases aG
 | v x=>
  simp only[aH.jA]at aG;split at aG
  ·simp only[aV]at aG;subst aG;have:u=x:=ao;subst this;exact .v _ _ ‹_›
  cases aG
 | bg c=>
  simp only[aH.jA,aV]at aG;subst aG;have:u=.bool c:=ao;subst this;exact .v _ _ rfl
 | J g k es=>
  cases g with
  | free=>cases aG
  | ro s=>cases aG
  | own s=>
   simp only[aH.jA,aV]at aG;subst aG;obtain⟨cC,r1⟩:=hm s rfl;refine ao.1.frame fun b q av aK=>⟨?_,bJ b av⟩
   simp only[Tag.R]at aK ⊢;simp only[qg];rw[bk (by omega),aK];simp only[qf];rw[bk cC,r1]
 | ptr id off=>cases aG
 | cP g k es i j=>cases aG
 | iK=>cases aG
 | fd=>cases aG
 | dw=>cases aG
 | hv=>cases aG
 | aQ=>cases aG
 | fN=>cases aG
theorem cJ.j'{w1:World}(h:cJ w0 st a w ω τ)(t:Nat)(iU:t<dn)(ms:io){k cap:Nat}{es:List (List D)}{arr:Array Value}{ty:TypeId}
  (av:hb w.heap.size w w1) (gL:w1.heap[w.heap.size]?=some (.cells arr ty (0,0))) (aj:es.length<=cap) (c':cap*k<=arr.size) (hk:∀e∈es,e.length=k)
  (fH:∀i j d,df es i j=some d->∃u,arr[i*k+j]?=some u/\E4 w ω τ t ms i j d u):
  cJ w0 (st.j' t ms) a w1 (qg w ω t ms) (xe w τ t k es.length cap)/\
  Sat w1 (qg w ω t ms) (xe w τ t k es.length cap) (.J (.own t) k es) (.slice (some ⟨w.heap.size,0,none⟩) es.length cap):=by
 have b2:ω w.heap.size=.bI:=h.owned.fresh (fI _);have hblk:=av.block;have aCZ:w.heap.size<w1.heap.size:=(iB.1 gL).1;have lW:qg w ω t ms w.heap.size=.tok t []:=by simp[qg]
 have hL:∀b,b≠w.heap.size->qg w ω t ms b=qf t ms (ω b):=fun b av=>by simp[qg,av]
 refine⟨h.dC _ (awl iU b2 hblk).sat ?_ ?_ ?_ ?_ (fun s ao=>by simp only[xe];rw[bk (by omega)]),?_,?_⟩
 ·exact h.below.next av
 ·intro b gD;by_cases e:b=w.heap.size
  ·subst e;exact⟨.inl h.below.size,arr,ty,gL⟩
  rw[hL b e]at gD;have U:ω b≠.bI:=fun e'=>by rw[e']at gD;exact gD rfl
  obtain⟨ax,iD,iM,aF⟩:=h.owned b U;exact⟨ax,iD,iM,(hblk b (h.owned.lt U)).trans aF⟩
 ·intro id b gD;have bz:=h.owned.lt (b:=b) (by simp[gD]);rw[hL b (by omega),gD];exact⟨rfl,hblk b bz⟩
 ·intro id b gD;by_cases e:b=w.heap.size
  ·subst e;rw[lW]at gD;cases gD
  rw[hL b e]at gD;exact E3.1 gD
 ·have u1:∀i j d,df es i j=some d->arr[0+i*k+j]?=some (arr.getD (i*k+j) undef)/\E4 w ω τ t ms i j d (arr.getD (i*k+j) undef):=by
   intro i j d aG;obtain⟨u,h1,U⟩:=fH i j d aG;have e:arr.getD (i*k+j) undef=u:=by simp[eG,h1]
   rw[e];exact⟨by rw[dF];exact h1,U⟩
  exact .row _ k es w.heap.size 0 cap arr ty (0,0) (fun i j=>arr.getD (i*k+j) undef) gL lW aj (by omega) hk (fun i j d aG=>(u1 i j d aG).1) (fun i j d aG=>(u1 i j d aG).2.rep hblk)
 simp[Tag.ev,xe]
def E5(P:Program)(st:aJ)(d:Nat)(t:TypeId)(p q:aL)(ans:List cf):Stepped:=
 match P.underlying t with
 | some (.slice e)=>
  match P.info? e,p.int,q.int with
  | some i,some (_,l),some (_,c)=>
   match i.zero with
   | some z=>
    if i.size=z.cells.size/\0<i.size/\z.cells.all (·.oneCell')=true/\d<dn then
     some (⟨(st.j' d []).env.set d (.one (.J (.own d) i.size (List.replicate l.toNat (z.cells.toList.map .v)))),(st.j' d []).boxes⟩,ans,[0<=l,l<=c,(i.bytes:Int)*c<=281474976710656,c<=9223372036854775807])
    else none
   | none=>none
  | _,_,_=>none
 | _=>none
theorem Sr(z:Array Value)(n i j:Nat)(hi:i<n)(a1:j<z.size):(madeCells z (n*z.size))[i*z.size+j]?=z[j]?:=by
 have bz:i*z.size+j<n*z.size:=by
  have:(i+1)*z.size<=n*z.size:=hF _ hi;rw[gg]at this;omega
 have e:(i*z.size+j) % z.size=j:=by rw[Nat.add_comm,Nat.add_mul_mod_self_right];exact Ao a1
 simp[madeCells,bz,e,getElem!_pos,a1]
theorem awm{n:Nat}{e:List D}{i j:Nat}{d:D}(h:df (List.replicate n e) i j=some d):i<n/\e[j]?=some d:=by
 unfold df at h;rw[DB]at h;split at h
 ·exact⟨‹_›,h⟩
 simp at h
theorem cJ.make{P:Program}{bC:aJ}{d:Nat}{t:TypeId}{p q:aL}{u v:Value}{ans cq:List cf}{obs:List Prop}
  (a8:cJ w0 st a w ω τ) (hp:cW (Sat w ω τ) p u) (aK:cW (Sat w ω τ) q v) (h:E5 P st d t p q ans=some (bC,cq,obs)) (ba:cL obs):
  ∃z aO,(Instr.makeSlice t u v).run P w=.ok z aO/\Rel w0 bC (a.put (some d) z) aO:=by
 unfold E5 at h;split at h
 ·rename_i e hu;split at h
  ·rename_i i cG l bM c hi e1 e2;split at h
   ·rename_i z bi;split at h
    ·rename_i aj;obtain⟨lS,ly,lT,th⟩:=aj;simp only[aV,bH]at h;obtain⟨rfl,_,rfl⟩:=h;obtain⟨ci,b6,ct,fB,_⟩:=ba;rw[aL.pa e1 hp,aL.pa e2 aK];have fm:=run_make (P:=P) w t e i z hu hi bi cG bM l c ci b6 ct fB;have gL:(w.alloc (.cells (madeCells z.cells (c.toNat*i.size)) e)).heap[w.heap.size]?=some (.cells (madeCells z.cells (c.toNat*i.size)) e (0,0)):=ow _ _;have c':(madeCells z.cells (c.toNat*i.size)).size=c.toNat*i.size:=by simp[madeCells]
     have wA:=a8.j' d th [] (k:=i.size) (cap:=c.toNat) (es:=List.replicate l.toNat (z.cells.toList.map .v)) (w1:=w.alloc (.cells (madeCells z.cells (c.toNat*i.size)) e))
      ((hb.refl _ _).alloc (fI _) _) gL (by simp;omega) (by omega) (fun e' he=>by rw[List.eq_of_mem_replicate he];simp[lS]) (fun x j rX aG=>by
       obtain⟨ah,aG⟩:=awm aG;rw[dq,cc]at aG;obtain⟨uk,kr,rfl⟩:=aG;have a1:j<z.cells.size:=by
        have:=(ek.1 kr).1;simpa using this
       refine⟨uk,?_,.v uk,?_,rfl,fun s ao=>by cases ao⟩
       ·rw[lS,Sr z.cells c.toNat x j (by omega) a1];simpa using kr
       have:uk.oneCell'=true:=by
        have h1:=Array.all_eq_true'.1 lT;exact h1 uk (by simpa using ft kr)
       simp[aH.jA,this])
     simp only[List.length_replicate]at wA;exact⟨_,_,fm,_,_,wA.1.put (p:=.one (.J (.own d) i.size (List.replicate l.toNat (z.cells.toList.map .v)))) wA.2⟩
    cases h
   cases h
  cases h
 cases h
end Go.Sx
namespace Go.Sx
open Go.RowKit
def ox(k:Nat):Nat->List aH->List (List aH)
 | 0,_=>[]
 | n+1,ls=>ls.take k::ox k n (ls.drop k)
theorem KO(k:Nat):∀(n:Nat) (ls:List aH) (i:Nat),(ox k n ls)[i]?=if i<n then some ((ls.drop (i*k)).take k) else none
 | 0,ls,i=>by simp[ox]
 | n+1,ls,0=>by simp[ox]
 | n+1,ls,i+1=>by
  simp only[ox,oL,KO k n];by_cases h:i<n
  ·rw[bm h,bm (by omega),List.drop_drop]
   congr 3
   rw[gg];omega
  rw[bk h,bk (by omega)]
theorem Ss(k:Nat):∀(n:Nat) (ls:List aH),(ox k n ls).length=n
 | 0,_=>rfl
 | n+1,ls=>by simp[ox,Ss k n]
def lZ(i:Nat):Nat->List aH->io
 | _,[]=>[]
 | j,l::ls=>match l.tok with
  | some s=>(s,(i,j))::lZ i (j+1) ls
  | none=>lZ i (j+1) ls
def sm:Nat->List (List aH)->io
 | _,[]=>[]
 | i,e::es=>lZ i 0 e++sm (i+1) es
def y8(t:Nat)(ms:io):Bool:=decide (t<dn)&&ms.all fun x=>x.1≠t&&(match ms.at x.1 with | some p=>p.1==x.2.1&&p.2==x.2.2 | none=>false)
theorem KP(i:Nat):∀(ls:List aH) (j0 j:Nat) (l:aH) (s:Nat),ls[j]?=some l->l.tok=some s->(s,(i,j0+j))∈lZ i j0 ls
 | [],_,_,_,_,h,_=>by simp at h
 | ea::ls,j0,0,l,s,h,ao=>by
  simp at h;subst h;simp only[lZ,ao];exact hX
 | ea::ls,j0,j+1,l,s,h,ao=>by
  have:=KP i ls (j0+1) j l s (by simpa using h) ao;rw[show j0+1+j=j0+(j+1) by omega]at this;simp only[lZ];split
  ·exact iA _ this
  exact this
theorem St:∀(es:List (List aH)) (i0 i j:Nat) (e:List aH) (l:aH) (s:Nat),es[i]?=some e->e[j]?=some l->l.tok=some s->(s,(i0+i,j))∈sm i0 es
 | [],_,_,_,_,_,_,h,_,_=>by simp at h
 | bu::es,i0,0,j,e,l,s,h,ap,ao=>by
  simp at h;subst h;simp only[sm];have:=KP i0 bu 0 j l s ap ao;rw[dF]at this;exact ij _ this
 | bu::es,i0,i+1,j,e,l,s,h,ap,ao=>by
  have:=St es (i0+1) i j e l s (by simpa using h) ap ao;rw[show i0+1+i=i0+(i+1) by omega]at this;simp only[sm];exact jU _ this
variable{ms:io}
theorem awn{t:Nat}(h:y8 t ms=true):t<dn:=by
 unfold y8 at h;rw[cx,cV]at h;exact h.1
theorem avz{t:Nat}(h:y8 t ms=true){s:Nat}{p:Nat×Nat}(hm:(s,p)∈ms):s≠t/\ms.at s=some p:=by
 unfold y8 at h;rw[cx]at h;have:=gx.1 h.2 _ hm;simp only[cx,cV]at this;refine⟨this.1,?_⟩;have U:=this.2;split at U
 ·rename_i re e;simp only[cx,dE]at U;rw[e]
  congr 1
  exact Prod.ext U.1 U.2
 cases U
def BY(P:Program)(st:aJ)(d:Nat)(t:TypeId)(len:Nat)(parts:List (Nat×Operand))(ans:List cf):Stepped:=
 match P.underlying t with
 | some (.slice e)=>
  match P.info? e with
  | some i=>
   match i.zero with
   | some z=>
    if i.size=z.cells.size/\0<i.size/\len*i.size<=16777216 then
     match rY (fun x=>some (x*i.size,i.size)) ((List.replicate len (z.cells.toList.map aH.v)).flatten) (parts.map fun x=>(x.1,st.br x.2)) with
     | some r=>
      let ls:=ox i.size len r
      match ls.mapM (fun x=>x.mapM aH.jA) with
      | some es=>if y8 d (sm 0 ls) then
        some (⟨(st.j' d (sm 0 ls)).env.set d (.one (.J (.own d) i.size es)),(st.j' d (sm 0 ls)).boxes⟩,ans,[]) else none
      | none=>none
     | none=>none
    else none
   | none=>none
  | none=>none
 | _=>none
def DW(P:Program)(st:aJ)(d:Nat)(t:TypeId)(len:Nat)(parts:List (Nat×Operand)):Option (Nat×List (List D)×io):=
 match P.underlying t with
 | some (.slice e)=>
  match P.info? e with
  | some i=>
   match i.zero with
   | some z=>
    if i.size=z.cells.size/\0<i.size/\len*i.size<=16777216 then
     match rY (fun x=>some (x*i.size,i.size)) ((List.replicate len (z.cells.toList.map aH.v)).flatten) (parts.map fun x=>(x.1,st.br x.2)) with
     | some r=>
      match (ox i.size len r).mapM (fun x=>x.mapM aH.jA) with
      | some es=>if y8 d (sm 0 (ox i.size len r)) then some (i.size,es,sm 0 (ox i.size len r)) else none
      | none=>none
     | none=>none
    else none
   | none=>none
  | none=>none
 | _=>none
theorem avA{P:Program}{st:aJ}{d:Nat}{t:TypeId}{len:Nat}{parts:List (Nat×Operand)}{k:Nat}{es:List (List D)}(h:DW P st d t len parts=some (k,es,ms))(ans:List cf):
  BY P st d t len parts ans=some (⟨(st.j' d ms).env.set d (.one (.J (.own d) k es)),(st.j' d ms).boxes⟩,ans,[]):=by
 unfold DW at h;unfold BY;split at h
 ·rename_i e h1
  try rw[h1]
  split at h
  ·rename_i i U
   try simp only[U]
   split at h
   ·rename_i z ax
    try simp only[ax]
    split at h
    ·rename_i aj
     try rw[bm aj]
     split at h
     ·rename_i r aF
      try simp only[aF]
      split at h
      ·rename_i cv aZ
       try simp only[aZ]
       split at h
       ·rename_i bB;simp only[aV,bH]at h;obtain⟨rfl,rfl,rfl⟩:=h
        try rw[bm bB]
       cases h
      cases h
     cases h
    cases h
   cases h
  cases h
 cases h
theorem oy{α β:Type}{f:α->Option β}:∀{xs:List α} {ys:List β},xs.mapM f=some ys->ys.length=xs.length/\∀(i:Nat) (y:β),ys[i]?=some y->∃x,xs[i]?=some x/\f x=some y
 | [],ys,h=>by simp at h;subst h;exact⟨rfl,fun i y bf=>by simp at bf⟩
 | x::xs,ys,h=>by
  rw[yb]at h;cases e:f x with
  | none=>simp[e]at h
  | some my=>
   cases e2:xs.mapM f with
   | none=>simp[e,e2]at h
   | some HS=>
    simp[e,e2]at h;subst h;obtain⟨h1,U⟩:=oy e2;refine⟨by simp[h1],fun i y bf=>?_⟩;cases i with
    | zero=>simp at bf;subst bf;exact⟨x,rfl,e⟩
    | succ i=>exact U i y (by simpa using bf)
theorem Su{α:Type}(e:List α):∀(n i j:Nat),i<n->j<e.length->((List.replicate n e).flatten)[i*e.length+j]?=e[j]?
 | 0,i,j,hi,_=>by omega
 | n+1,0,j,_,a1=>by
  rw[List.replicate_succ,List.flatten_cons,l8,Nat.zero_mul,dF,bm a1]
 | n+1,i+1,j,hi,a1=>by
  rw[List.replicate_succ,List.flatten_cons,l8,bk (by rw[gg];omega)];have:=Su e n i j (by omega) a1;rw[<-this]
  congr 1
  rw[gg];omega
theorem cJ.buildSlice{P:Program}{w0:eT}{st bC:aJ}{a:Act}{w:World}{ω:Own}{τ:Nat->Nat×Value}{d:Nat}{t:TypeId}{len:Nat}{parts:Array (Nat×Operand)}{ans cq:List cf}{obs:List Prop}
  (a8:cJ w0 st a w ω τ) (h:BY P st d t len parts.toList ans=some (bC,cq,obs)):
  ∃z aO,(Instr.buildSlice t len (parts.map fun (i,x)=>(i,a.eval x))).run P w=.ok z aO/\Rel w0 bC (a.put (some d) z) aO:=by
 unfold BY at h;split at h
 ·rename_i e hu;split at h
  ·rename_i i hi;split at h
   ·rename_i z bi;split at h
    ·rename_i aj;obtain⟨lS,ly,lT⟩:=aj;split at h
     ·rename_i r aA;simp only at h;split at h
      ·rename_i es Ej;split at h
       ·rename_i Rw;simp only[aV,bH]at h;obtain⟨rfl,_,_⟩:=h;have lh:(z.cells.toList.map aH.v).length=i.size:=by simp[lS]
        have aCP:((List.replicate len (z.cells.toList.map aH.v)).flatten).length=len*i.size:=by simp[lS]
        have Bv:k9 (Sat w ω τ) ((List.replicate len (z.cells.toList.map aH.v)).flatten) (madeCells z.cells (len*i.size)):=by
         refine⟨by simp[madeCells,lS],fun x l ap=>?_⟩;have bz:x<len*i.size:=by
          have:=(ek.1 ap).1;omega
         have ah:x=(x / i.size)*i.size+x % i.size:=by rw[Nat.mul_comm];exact (Nat.div_add_mod x i.size).symm
         have aK:x / i.size<len:=Nat.div_lt_of_lt_mul (by rw[Nat.mul_comm];exact bz);have hm:x % i.size<i.size:=Nat.mod_lt _ ly;have h1:=Su (z.cells.toList.map aH.v) len (x / i.size) (x % i.size) aK (by omega);rw[lh,<-ah,ap]at h1;have U:=h1.symm;rw[dq,cc]at U;obtain⟨u,kr,rfl⟩:=U;refine⟨u,?_,rfl⟩;have ax:=Sr z.cells len (x / i.size) (x % i.size) aK (by omega);rw[<-lS,<-ah]at ax;rw[ax];simpa using kr
        obtain⟨out,Jq,Er⟩:=K0 (vals:=parts.toList.map fun x=>(x.1,a.eval x.2)) (by simp) (fun j fy p a1=>by
         rw[dq,cc]at a1;obtain⟨⟨i2,x⟩,ah,e⟩:=a1;simp only[bH]at e;obtain⟨rfl,rfl⟩:=e;exact⟨a.eval x,by simp only[dq,ah,mz],a8.br x⟩) aA Bv
        obtain⟨iu,c4⟩:=oy Ej;have hlen:es.length=len:=by rw[iu,Ss]
        have abG:∀x j rX,df es x j=some rX->∃l,x<len/\j<i.size/\r[x*i.size+j]?=some l/\l.jA=some rX/\∃ww,(ox i.size len r)[x]?=some ww/\ww[j]?=some l:=by
         intro x j rX aG;unfold df at aG;cases ah:es[x]? with
         | none=>simp[ah]at aG
         | some e'=>
          rw[ah,nX]at aG;obtain⟨ww,h1,U⟩:=c4 x e' ah;obtain⟨ax,aF⟩:=oy U;obtain⟨l,aZ,bB⟩:=aF j rX aG;have abp:=h1;rw[KO]at h1;split at h1
          ·simp only[aV]at h1;subst h1;have abq:=aZ;rw[gI]at aZ;split at aZ
           ·rw[gH]at aZ;exact⟨l,‹_›,‹_›,aZ,bB,_,abp,abq⟩
           cases aZ
          cases h1
        have RJ:r.length=len*i.size:=by
         have:=Er.1;have U:out.size=(madeCells z.cells (len*i.size)).size:=by
          have:=Er.1;have aF:∀(ea:List (Nat×aL)) (j8 gw:List aH),rY (fun x=>some (x*i.size,i.size)) j8 ea=some gw->gw.length=j8.length:=by
           intro ea;induction ea with
           | nil=>intro j8 gw h;simp[rY]at h;rw[h]
           | cons x ea ee=>
            intro j8 gw h;obtain⟨hs,gS⟩:=x;simp only[rY]at h;split at h
            ·split at h
             ·rename_i bJ;rw[ee _ _ h,KZ (by omega)]
             cases h
            cases h
          have:=aF _ _ _ aA;simp[madeCells];omega
         simp[madeCells]at U;omega
        have gL:(w.alloc (.cells out e)).heap[w.heap.size]?=some (.cells out e (0,0)):=ow _ _;have wA:=a8.j' d (awn Rw) (sm 0 (ox i.size len r)) (k:=i.size) (cap:=len) (es:=es) (w1:=w.alloc (.cells out e))
         ((hb.refl _ _).alloc (fI _) _) gL (by omega) (by rw[Er.1,RJ];exact fI _)
         (fun e' he=>by
          obtain⟨x,ah⟩:=nj.1 he;obtain⟨ww,h1,U⟩:=c4 x e' ah;obtain⟨ax,_⟩:=oy U;rw[ax];rw[KO]at h1;split at h1
          ·simp only[aV]at h1;subst h1;have:(x+1)*i.size<=len*i.size:=hF _ (by omega);rw[gg]at this;simp;omega
          cases h1)
         (fun x j rX aG=>by
          obtain⟨l,h1,U,ax,aF,ww,aZ,bB⟩:=abG x j rX aG;obtain⟨u,bS,dv⟩:=Er.2 _ _ ax;refine⟨u,bS,l,aF,dv,fun s ao=>?_⟩;have:=St (ox i.size len r) 0 x j ww l s aZ bB ao;rw[dF]at this;exact avz Rw this)
        rw[hlen]at wA;refine⟨_,_,?_,_,_,wA.1.put (p:=.one (.J (.own d) i.size es)) wA.2⟩;have p3:((Array.range (len*i.size)).map (fun x=>(if len*i.size=0 then (#[]:Array Value) else z.cells)[x % (if len*i.size=0 then (#[]:Array Value) else z.cells).size]!))=madeCells z.cells (len*i.size):=by
         unfold madeCells;by_cases bG:len*i.size=0
         ·simp[bG]
         simp[bG]
        have e:(Array.map (fun (x:Nat×Operand)=>(x.1,a.eval x.2)) parts).toList=parts.toList.map fun x=>(x.1,a.eval x.2):=by simp
        have acy:¬(len*i.size>2 ^ 24):=by have:(2:Nat) ^ 24=16777216:=(by decide);omega
        simp only[Instr.buildSlice,Sem.run_bind,run_underlying hu,Result.andThen_ok,sizeOf,typeInfo,run_program,hi,Sem.run_pure];rw[bk acy];by_cases bG:len*i.size=0
        ·simp only[bG,fX]at p3 ⊢;simp only[Sem.run_pure,Sem.run_bind,Result.andThen_ok,e];rw[bG]at Jq;rw[p3,Jq];simp[newRow]
        simp only[bG,lP]at p3 ⊢;simp only[zeroValue,typeInfo,Sem.run_bind,run_program,Result.andThen_ok,hi,bi,Sem.run_pure,e];rw[p3,Jq];simp[newRow]
       cases h
      cases h
     cases h
    cases h
   cases h
  cases h
 cases h
end Go.Sx
namespace Go.Sx
open Go.RowKit
variable{w:World}{ω bc:Own}{k n:Nat}{es:List (List D)}
theorem b0.YO{aO:World}{R jm:List (Nat×Nat)->db->Prop}{b off cap:Nat}(h:b0 w ω R (.J k es) (.slice (some ⟨b,off,none⟩) n cap))
  {arr cd:Array Value} {ty:TypeId} {c3:Nat×Nat} (av:w.heap[b]?=some (.cells arr ty c3)) (dL:aO.heap[b]?=some (.cells cd ty c3)) (c':cd.size=arr.size)
  (abw:∀x,x<off+n*k->cd[x]?=arr[x]?) (D':∀o,o=ω b->R [] o->jm [] (bc b)) (mL:∀c p q,c<w.heap.size->R (p::q) (ω c)->jm (p::q) (bc c)/\aO.heap[c]?=w.heap[c]?):
  b0 aO bc jm (.J k es) (.slice (some ⟨b,off,none⟩) n cap):=by
 generalize bf:Value.slice (some ⟨b,off,none⟩) n cap=y at h;cases h with
 | nil=>cases bf;exact .nil _ _ _
 | row R k es fG rb qD iD iM IA us gK ej aj ao hk hu aG=>
  simp only[Value.slice.injEq,aV,Addr.mk.injEq]at bf;obtain⟨⟨rfl,rfl,_⟩,rfl,rfl⟩:=bf;rw[av]at gK;simp only[aV,Obj.cells.injEq]at gK;obtain⟨rfl,rfl,rfl⟩:=gK;refine .row jm k es b off cap cd ty c3 us dL (D' _ rfl ej) aj (by omega) hk (fun i j d ed=>?_) (fun i j d ed=>(aG i j d ed).frame fun c q nE aK=>mL c _ _ nE aK);rw[abw,hu i j d ed];have lf:i<es.length/\j<k:=by
   unfold df at ed;cases ah:es[i]? with
   | none=>simp[ah]at ed
   | some e=>
    rw[ah,nX]at ed;have h1:=(ek.1 ah).1;have U:=(ek.1 ed).1;rw[hk e (ft ah)]at U;exact⟨h1,U⟩
  have:(i+1)*k<=es.length*k:=hF _ lf.1;rw[gg]at this;omega
variable{i j:Nat}
theorem tJ{d:D}(hk:∀e∈es,e.length=k)(h:df es i j=some d):i<es.length/\j<k:=by
 unfold df at h;cases ah:es[i]? with
 | none=>simp[ah]at h
 | some e=>
  rw[ah,nX]at h;have h1:=(ek.1 ah).1;have U:=(ek.1 h).1;rw[hk e (ft ah)]at U;exact⟨h1,U⟩
variable{bV:List (List D)}
theorem BZ:df (es++bV) i j=if i<es.length then df es i j else df bV (i-es.length) j:=by
 unfold df;rw[l8];split<;>rfl
theorem Sv(hk:∀e∈es,e.length=k)(hi:i<es.length)(a1:j<k):∃d,df es i j=some d:=by
 have h1:es[i].length=k:=hk _ (nn hi);exact⟨es[i][j],by simp[df,hi,h1,a1]⟩
def kb(t:Nat)(ef:Option Nat)(n:Nat):db->db
 | .tok s q=>if ef=some s then (match q with | []=>.bI | p::dJ=>.tok t ((n+p.1,p.2)::dJ)) else .tok s q
 | o=>o
def iC(t:Nat)(ef:Option Nat):Tag->Option Tag
 | .free=>some .free
 | .own s=>if s=t then some (.ro t) else if ef=some s then none else some (.own s)
 | .ro s=>if s=t then none else if ef=some s then none else some (.ro s)
structure Src (P:Program) (w:World) (ω:Own) (k:Nat) (bV:List (List D)) (ef:Option Nat) (y:Value) (news:List Value):Prop where
 len:news.length=bV.length*k
 rows:∀e∈bV,e.length=k
 one:∀u∈news,u.oneCell'=true
 cell:∀i j d,df bV i j=some d->∃u,news[i*k+j]?=some u/\((∃x,d=.v x/\u=x)\/∃s,ef=some s/\b0 w ω (fun q=>(Tag.own s).R ((i,j)::q)) d u)
 shape:((∃a,y=.slice a 0 0)/\bV=[])\/∃b o c,y=.slice (some ⟨b,o,none⟩) bV.length c/\∀j v,news[j]?=some v->w.cell? ((⟨b,o,none⟩:Addr).add j)=some v
variable{t:Nat}{ef:Option Nat}
theorem KQ{o:db}{id:Nat}:kb t ef n o=.box id<->o=.box id:=by
 cases o with
 | bI=>simp[kb]
 | box i=>simp[kb]
 | tok s q=>
  simp only[kb];split
  ·cases q<;>simp
  simp
theorem xf{s:Nat}{q:List (Nat×Nat)}(h:ef≠some s):kb t ef n (.tok s q)=.tok s q:=by simp[kb,h]
theorem tK{w aO:World}{g eI:Tag}(js:ef≠some t)(ay:iC t ef g=some eI)(cC:g≠.own t)
  (da:∀c,c<w.heap.size->ω c≠.tok t []->bc c=kb t ef n (ω c)/\aO.heap[c]?=w.heap[c]?):
  ∀c q,c<w.heap.size->g.R q (ω c)->eI.R q (bc c)/\aO.heap[c]?=w.heap[c]?:=by
 intro c q aj aA;cases g with
 | free=>
  simp only[iC,aV]at ay;subst ay;simp only[Tag.R]at aA;obtain⟨h1,U⟩:=da c aj (by rw[aA];simp);rw[h1,aA];exact⟨rfl,U⟩
 | own s=>
  simp only[iC]at ay;have ao:s≠t:=fun e=>cC (by rw[e])
  rw[bk ao]at ay;split at ay
  ·cases ay
  rename_i hm;simp only[aV]at ay;subst ay;simp only[Tag.R]at aA;obtain⟨h1,U⟩:=da c aj (by rw[aA];simp[ao]);rw[h1,aA,xf hm];exact⟨rfl,U⟩
 | ro s=>
  simp only[iC]at ay;split at ay
  ·cases ay
  rename_i ao;split at ay
  ·cases ay
  rename_i hm;simp only[aV]at ay;subst ay;simp only[Tag.R]at aA;rcases aA with aA | ⟨dJ,aA⟩
  ·obtain⟨h1,U⟩:=da c aj (by rw[aA];simp);rw[h1,aA];exact⟨.inl rfl,U⟩
  obtain⟨h1,U⟩:=da c aj (by rw[aA];simp[ao]);rw[h1,aA,xf hm];exact⟨.inr ⟨dJ,rfl⟩,U⟩
def gX(τ:Nat->Nat×Value)(t k:Nat)(z:Value):Nat->Nat×Value:=fun s=>if s=t then (k,z) else τ s
variable{τ:Nat->Nat×Value}
theorem E6{k:Nat}{z:Value}{g eI:Tag}{y:Nat×Value}(ay:iC t ef g=some eI)(bf:g.ev τ y):eI.ev (gX τ t k z) y:=by
 cases g with
 | free=>simp only[iC,aV]at ay;subst ay;exact trivial
 | own s=>
  simp only[iC]at ay;split at ay
  ·simp only[aV]at ay;subst ay;exact trivial
  split at ay
  ·cases ay
  simp only[aV]at ay;subst ay;simp only[Tag.ev,gX]at bf ⊢;rw[bk ‹_›];exact bf
 | ro s=>
  simp only[iC]at ay;split at ay
  ·cases ay
  split at ay
  ·cases ay
  simp only[aV]at ay;subst ay;exact trivial
theorem H6{aO:World}{z:Value}(iU:t<dn)(js:ef≠some t)
  (da:∀c,c<w.heap.size->ω c≠.tok t []->bc c=kb t ef n (ω c)/\aO.heap[c]?=w.heap[c]?)
  (r3:∀id b,ω b=.box id->bc b=.box id)
  (j4:∀es y,b0 w ω (Tag.own t).R (.J (τ t).1 es) y->y=(τ t).2->b0 aO bc (Tag.ro t).R (.J (τ t).1 es) y):
  ∀l v,Sat w ω τ l v->Sat aO bc (gX τ t k z) (l.cu (iC t ef) fun _=>true) v:=by
 intro l v ao;cases l with
 | cA=>exact trivial
 | v x=>exact ao
 | bg c=>exact ao
 | ptr id off=>
  simp only[aH.cu,fX];obtain⟨b,av,e⟩:=ao;exact⟨b,r3 id b av,e⟩
 | fN s vs=>
  simp only[aH.cu];split
  ·rename_i uf ay;split
   ·rename_i Jz;subst Jz;have cC:Tag.own uf≠.own t:=by
     intro e;simp only[Tag.own.injEq]at e;subst e;simp[iC]at ay
    obtain⟨b,ty,arr,e,aZ,ax,aX,bp⟩:=ao;have bz:b<w.heap.size:=(iB.1 ax).1;have hk:=tK (w:=w) (aO:=aO) js ay cC da b [] bz aZ;refine⟨b,ty,arr,e,hk.1,hk.2.trans ax,EV (fun c u aj=>?_) aX bp⟩;cases c with
    | cA=>exact trivial
    | v x=>exact aj
    | J g cw es=>
     simp only[fj.cu];cases ay:iC t ef g with
     | none=>exact trivial
     | some eI=>
      by_cases cC:g=.own t
      ·subst cC;simp only[iC,fX,aV]at ay;subst ay;obtain⟨h1,U⟩:=aj;simp only[Tag.ev]at U;have e1:(τ t).1=cw:=by rw[U]
       have e2:(τ t).2=u:=by rw[U]
       exact⟨by rw[<-e1];exact j4 es u (by rw[e1];exact h1) e2.symm,aa⟩
      exact⟨aj.1.frame fun c q aj aK=>tK js ay cC da c q aj aK,E6 ay aj.2⟩
   exact trivial
  exact trivial
 | aQ s i j bM es m=>
  simp only[aH.cu];split
  ·rename_i uf ay;split
   ·rename_i Jz;subst Jz;have cC:Tag.own uf≠.own t:=by
     intro e;simp only[Tag.own.injEq]at e;subst e;simp[iC]at ay
    obtain⟨u,hu,h1,hm⟩:=ao;refine⟨u,hu,h1.frame fun c q aj aK=>tK js ay cC da c _ aj aK,fun bJ=>?_⟩;obtain⟨kT,b,off,len,cap,arr,ty,c3,U,aZ,ax,aF⟩:=hm bJ;have bz:b<w.heap.size:=(iB.1 ax).1;have hk:=tK (w:=w) (aO:=aO) js ay cC da b [] bz aZ;exact⟨kT,b,off,len,cap,arr,ty,c3,E6 (k:=k) (z:=z) ay U,hk.1,hk.2.trans ax,aF⟩
   exact trivial
  exact trivial
 | hv f ids=>
  simp only[aH.cu];split
  ·obtain⟨bs,e,aX,hi⟩:=ao;refine⟨bs,e,aX,fun i id gE=>?_⟩;obtain⟨b,h1,U⟩:=hi i id gE;exact⟨b,h1,r3 id b U⟩
  exact trivial
 | iK ds off=>
  obtain⟨b,e,aA⟩:=ao;exact⟨b,e,aA.frame fun c q aj aK=>tK (g:=.free) (eI:=.free) js rfl (by simp) da c q aj aK⟩
 | fd d=>exact b0.frame ao fun c q aj aK=>tK (g:=.free) (eI:=.free) js rfl (by simp) da c q aj aK
 | dw t0 cX dS=>exact⟨b0.frame ao.1 fun c q aj aK=>tK (g:=.free) (eI:=.free) js rfl (by simp) da c q aj aK,fun bT=>(show gX τ t k z t0=τ t0 by simp only[gX];rw[bk (by omega)]).trans (ao.2 bT)⟩
 | J g cw es=>
  simp only[aH.cu];cases ay:iC t ef g with
  | none=>exact trivial
  | some eI=>
   by_cases cC:g=.own t
   ·subst cC;simp only[iC,fX,aV]at ay;subst ay;obtain⟨h1,U⟩:=ao;simp only[Tag.ev]at U;have e1:(τ t).1=cw:=by rw[U]
    have e2:(τ t).2=v:=by rw[U]
    exact⟨by rw[<-e1];exact j4 es v (by rw[e1];exact h1) e2.symm,aa⟩
   exact⟨ao.1.frame fun c q aj aK=>tK js ay cC da c q aj aK,E6 ay ao.2⟩
 | cP g cw es i j=>
  simp only[aH.cu];cases ay:iC t ef g with
  | none=>exact trivial
  | some eI=>
   obtain⟨b,off,cap,e,hi,aA,bJ⟩:=ao;by_cases cC:g=.own t
   ·subst cC;simp only[iC,fX,aV]at ay;subst ay;simp only[Tag.ev]at bJ;have e1:(τ t).1=cw:=by rw[bJ]
    have e2:(τ t).2=Value.slice (some ⟨b,off,none⟩) es.length cap:=by rw[bJ]
    exact⟨b,off,cap,e,hi,by rw[<-e1];exact j4 es _ (by rw[e1];exact aA) e2.symm,aa⟩
   exact⟨b,off,cap,e,hi,aA.frame fun c q aj aK=>tK js ay cC da c q aj aK,E6 ay bJ⟩
def aJ.yg(st:aJ)(t:Nat)(ef:Option Nat):aJ:=st.map (aH.cu (iC t ef) fun _=>true)
variable{y:Value}
theorem Sw{P:Program}{t ty e:TypeId}{i:TypeInfo}(bT:P.underlying t=some (.slice e))(hi:P.info? e=some i)(w:World){eV:Value}
  (bf:∃a n c,y=.slice a n c/\n<=c) (j6:∃a c,eV=.slice a 0 c):
  (Builtin.append_ #[t,t] ty #[y,eV]).run P w=.ok y w:=by
 obtain⟨a,n,c,rfl,aX⟩:=bf;obtain⟨a2,c2,rfl⟩:=j6;cases a<;>cases a2<;>
  simp[Builtin.append_,run_underlying bT,sizeOf,typeInfo,hi,Builtin.lenOf,Builtin.firstCells,loadCells,loadCellsFrom,storeCells, *]
theorem B0{P:Program}{t ty e:TypeId}{i:TypeInfo}(bT:P.underlying t=some (.slice e))(hi:P.info? e=some i)(w:World)
  (b off n cap:Nat) (arr:Array Value) (ii:TypeId) (ay:w.heap[b]?=some (.cells arr ii (0,0)))
  (cm:Addr) (m c:Nat) (news:List Value) (ap:news.length=m*i.size) (hK:∀j u,news[j]?=some u->w.cell? (cm.add j)=some u) (h1:∀u∈news,u.oneCell'=true)
  (lV:n+m<=cap) (dI:off+n*i.size+news.length<=arr.size):
  (Builtin.append_ #[t,t] ty #[.slice (some ⟨b,off,none⟩) n cap,.slice (some cm) m c]).run P w=
   .ok (.slice (some ⟨b,off,none⟩) (n+m) cap) (w.setRow b (arr.toList.take (off+n*i.size)++news++arr.toList.drop (off+n*i.size+news.length)).toArray):=by
 have b2:=run_firstCells_some (P:=P) w i.size m cm m c news ap hK;have fb:=run_storeCells_at P b (off+n*i.size) ii news 0 arr w ay (by simpa using dI) h1;simp only[np]at fb;simp[Builtin.append_,run_underlying bT,sizeOf,typeInfo,hi,Builtin.lenOf,lV,b2,rr,fb]
theorem Src.QJ{P:Program}{aO:World}{bc:Own}{n:Nat}{news:List Value}(h:Src P w ω k bV ef y news)(js:ef≠some t)
  (da:∀c,c<w.heap.size->ω c≠.tok t []->bc c=kb t ef n (ω c)/\aO.heap[c]?=w.heap[c]?) {i j:Nat} {d:D} (aG:df bV i j=some d):
  ∃u,news[i*k+j]?=some u/\b0 aO bc (fun q=>(Tag.own t).R ((n+i,j)::q)) d u:=by
 obtain⟨u,h1,U⟩:=h.cell i j d aG;refine⟨u,h1,?_⟩;rcases U with⟨x,rfl,rfl⟩ | ⟨s,ao,aA⟩
 ·exact .v _ _ (h.one _ (ft h1))
 refine aA.frame fun c q aj aK=>?_
 simp only[Tag.R]at aK ⊢;have fb:s≠t:=fun e=>js (by rw[ao,e])
 obtain⟨ax,aF⟩:=da c aj (by rw[aK];simp[fb]);rw[ax,aK];exact⟨by simp[kb,ao],aF⟩
theorem cJ.append{P:Program}{w0:eT}{st:aJ}{a:Act}(a8:cJ w0 st a w ω τ){eV:Value}{news:List Value}
  (hp:Sat w ω τ (.J (.own t) k es) y) (jG:Src P w ω k bV ef eV news) (js:ef≠some t) {ty iN e:TypeId} {i:TypeInfo} {z:Value}
  (bT:P.underlying iN=some (.slice e)) (hi:P.info? e=some i) (bi:i.zero=some z) (hk:i.size=k) (nK:z.cells.size=k)
  (fZ:(es.length+bV.length)*i.bytes<=140737488355328) (gK:es.length+bV.length<=9223372036854775807) (iU:t<dn):
  ∃r aO bc,(Builtin.append_ #[iN,iN] ty #[y,eV]).run P w=.ok r aO/\cJ w0 (st.yg t ef) a aO bc (gX τ t k r)/\Sat aO bc (gX τ t k r) (.J (.own t) k (es++bV)) r:=by
 subst hk;obtain⟨aA,bJ⟩:=hp;simp only[Tag.ev]at bJ;have e1:(τ t).1=i.size:=by rw[bJ]
 have e2:(τ t).2=y:=by rw[bJ]
 have I':∀r:Value,∀s,dn<=s->gX τ t i.size r s=τ s:=fun r s ao=>by simp only[gX];rw[bk (by omega)]
 have acb:(Tag.own t).ev (gX τ t i.size y) (i.size,y):=by simp[Tag.ev,gX]
 by_cases hm:bV.length=0
 ·
  have I9:bV=[]:=sV hm;subst I9
  let bc:Own:=fun c=>kb t ef es.length (ω c)
  have da:∀c,c<w.heap.size->ω c≠.tok t []->bc c=kb t ef es.length (ω c)/\w.heap[c]?=w.heap[c]?:=fun c _ _=>⟨rfl,rfl⟩
  have fm:(Builtin.append_ #[iN,iN] ty #[y,eV]).run P w=.ok y w:=by
   refine Sw bT hi w ?_ ?_
   ·cases aA with
    | nil _ _ a0=>exact⟨a0,0,0,rfl,fI _⟩
    | row R k es b off cap arr ty c3 us av ej aj ao hk hu aG=>exact⟨some ⟨b,off,none⟩,_,cap,rfl,aj⟩
   rcases jG.shape with⟨⟨a,h⟩,_⟩ | ⟨b,o,c,h,_⟩
   ·exact⟨a,0,h⟩
   exact⟨some ⟨b,o,none⟩,c,h⟩
  refine⟨y,w,bc,fm,a8.dC _ (H6 iU js da (fun id b av=>by simp[bc,av,kb]) ?_) a8.below ?_ ?_ ?_ (I' _),?_,acb⟩
  ·intro cv fP ep _;refine ep.frame fun c q aj aK=>⟨?_,rfl⟩
   simp only[Tag.R]at aK ⊢;simp only[bc,aK];exact .inr ⟨q,xf js⟩
  ·intro b av;have:ω b≠.bI:=fun e=>by simp[bc,e,kb]at av
   exact a8.owned b this
  ·intro id b av;exact⟨by simp[bc,av,kb],rfl⟩
  ·intro id b av;exact KQ.1 av
  rw[kE];refine aA.frame fun c q aj aK=>⟨?_,rfl⟩
  simp only[Tag.R]at aK ⊢;simp only[bc,aK];exact xf js
 have wL:0<bV.length:=by omega
 rcases jG.shape with⟨_,h⟩ | ⟨bg,k3,lN,rfl,hK⟩
 ·rw[h]at wL;simp at wL
 have grown:∀(w1:World) (cd:Array Value) (r:Value) (mG:Nat),hb w.heap.size w w1->w1.heap[w.heap.size]?=some (.cells cd e (0,0))->r=.slice (some ⟨w.heap.size,0,none⟩) (es.length+bV.length) mG->
   es.length+bV.length<=mG->mG*i.size<=cd.size->(∀fy j d,df es fy j=some d->∃u,cd[fy*i.size+j]?=some u/\∃R:List (Nat×Nat)->db->Prop,(∀q o,R q o->o=.tok t ((fy,j)::q))/\b0 w ω R d u)->
   (∀x u,news[x]?=some u->cd[es.length*i.size+x]?=some u)->(∀e∈es,e.length=i.size)->
   ∃bc,cJ w0 (st.yg t ef) a w1 bc (gX τ t i.size r)/\Sat w1 bc (gX τ t i.size r) (.J (.own t) i.size (es++bV)) r:=by
  intro w1 cd r mG lx gL Jt gA c' hold Ba uY;subst Jt
  let bc:Own:=fun c=>if c=w.heap.size then .tok t [] else @ite _ (ω c=.tok t []) (Classical.propDecidable _) .bI (kb t ef es.length (ω c))
  have aCQ:ω w.heap.size=.bI:=a8.owned.fresh (fI _);have da:∀c,c<w.heap.size->ω c≠.tok t []->bc c=kb t ef es.length (ω c)/\w1.heap[c]?=w.heap[c]?:=by
   intro c aj cC;refine⟨?_,lx.block c aj⟩;simp only[bc];rw[bk (by omega),bk cC]
  have lW:bc w.heap.size=.tok t []:=by simp[bc]
  have mL:∀c p q,c<w.heap.size->ω c=.tok t (p::q)->bc c=.tok t (p::q):=by
   intro c p q aj aK;rw[(da c aj (by rw[aK];simp)).1,aK,xf js]
  refine⟨bc,a8.dC _ (H6 iU js da ?_ ?_) (a8.below.next lx) ?_ ?_ ?_ (I' _),?_,by simp[Tag.ev,gX]⟩
  ·intro id b av;have bz:=a8.owned.lt (b:=b) (by simp[av]);rw[(da b bz (by rw[av];simp)).1,av];rfl
  ·intro cv fP ep _;refine ep.frame fun c q aj aK=>⟨?_,lx.block c aj⟩
   simp only[Tag.R]at aK ⊢;cases q with
   | nil=>left;simp only[bc];rw[bk (by omega),bm aK]
   | cons p q=>right;exact⟨_,mL c p q aj aK⟩
  ·intro b av;by_cases uN:b=w.heap.size
   ·subst uN;exact⟨.inl a8.below.size,cd,e,gL⟩
   have:ω b≠.bI:=by
    intro e';simp only[bc]at av;rw[bk uN,e']at av;simp[kb]at av
   obtain⟨ax,iD,iM,aF⟩:=a8.owned b this;exact⟨ax,iD,iM,(lx.block b (a8.owned.lt this)).trans aF⟩
  ·intro id b av;have bz:=a8.owned.lt (b:=b) (by simp[av]);obtain⟨h1,U⟩:=da b bz (by rw[av];simp);exact⟨by rw[h1,av];rfl,U⟩
  ·intro id b av;by_cases uN:b=w.heap.size
   ·subst uN;rw[lW]at av;cases av
   simp only[bc]at av;rw[bk uN]at av;split at av
   ·cases av
   exact KQ.1 av
  have fH:∀x j d,df (es++bV) x j=some d->∃u,cd[x*i.size+j]?=some u/\b0 w1 bc (fun q=>(Tag.own t).R ((x,j)::q)) d u:=by
   intro x j d aG;rw[BZ]at aG;split at aG
   ·obtain⟨u,h1,R,ej,U⟩:=hold x j d aG;refine⟨u,h1,U.frame fun c q aj aK=>⟨?_,lx.block c aj⟩⟩;exact mL c _ _ aj (ej q _ aK)
   rename_i ah;obtain⟨u,h1,U⟩:=jG.QJ (aO:=w1) (bc:=bc) (n:=es.length) js da aG;refine⟨u,?_,?_⟩
   ·rw[<-Ba _ u h1]
    congr 1
    have:x=es.length+(x-es.length):=by omega
    rw[this,gg];simp only[Nat.add_sub_cancel_left];omega
   rwa[show es.length+(x-es.length)=x by omega]at U
  have hlen:(es++bV).length=es.length+bV.length:=fF;have q3:∀e∈es++bV,e.length=i.size:=by
   intro e' he;rcases ki.1 he with h | h
   ·exact uY e' h
   exact jG.rows e' h
  have:=b0.row (w:=w1) (ω:=bc) (Tag.own t).R i.size (es++bV) w.heap.size 0 mG cd e (0,0) (fun x j=>cd.getD (x*i.size+j) undef) gL lW (by omega) (by omega) q3
   (fun x j d aG=>by obtain⟨u,h1,_⟩:=fH x j d aG;rw[dF,h1];simp[eG,h1])
   (fun x j d aG=>by obtain⟨u,h1,U⟩:=fH x j d aG;have:cd.getD (x*i.size+j) undef=u:=(by simp[eG,h1]);rw[this];exact U)
  rw[hlen]at this;exact this
 generalize sb:y=my at aA;cases aA with
 | nil _ _ a0=>
  subst sb;simp only[b7,dF]at fZ gK;have fm:(Builtin.append_ #[iN,iN] ty #[.slice a0 0 0,.slice (some ⟨bg,k3,none⟩) bV.length lN]).run P w=
    .ok (.slice (some ⟨w.heap.size,0,none⟩) bV.length (grownCap w bV.length 0 e)) (w.drew.alloc (.cells (news.toArray++Builtin.zeroCells z.cells (grownCap w bV.length 0 e-bV.length)) e)):=by
   cases a0 with
   | none=>exact run_append_nil (P:=P) w iN ty e i z bT hi bi ⟨bg,k3,none⟩ bV.length lN news jG.len hK wL (by omega) (by omega)
   | some bX=>
    have:=run_append_grow (P:=P) w iN ty e i z bT hi bi bX 0 0 [] (by simp) (fun j v bp=>by simp at bp) ⟨bg,k3,none⟩ bV.length lN news jG.len hK (by omega) (by omega) (growslice_fits (by omega) (by simpa using fZ));simpa using this
  have nF:=grownCap_ge w bV.length 0 e;obtain⟨bc,h1,U⟩:=grown _ (news.toArray++Builtin.zeroCells z.cells (grownCap w bV.length 0 e-bV.length)) (.slice (some ⟨w.heap.size,0,none⟩) bV.length (grownCap w bV.length 0 e)) (grownCap w bV.length 0 e)
   (((hb.refl _ _).drew).alloc (fI _) _) (ow _ _) (by simp) (by simpa using nF) (by
    simp only[rO,lO,size_zeroCells,jG.len,nK,<-gg];exact hF _ (by omega))
   (fun fy j d aG=>by simp[df]at aG) (fun x u ah=>by
    simp only[b7,Nat.zero_mul,dF];rw[hW,bm (by have:=(ek.1 ah).1;simpa using this)];simpa using ah) (fun e he=>by cases he)
  exact⟨_,_,bc,fm,h1,U⟩
 | row R k es b off cap arr ii c3 us av ej aj ao hy hu aG=>
  have iT:ω b=.tok t []:=ej;obtain⟨wQ,uz,vW,iG⟩:=a8.owned b (by rw[iT];simp);rw[av]at iG;simp only[aV,Obj.cells.injEq]at iG;obtain⟨rfl,rfl,rfl⟩:=iG;have wD:b<w.heap.size:=(iB.1 av).1;by_cases lV:es.length+bV.length<=cap
  ·
   have hmul:(es.length+bV.length)*i.size<=cap*i.size:=hF _ lV;rw[gg]at hmul;have pZ:=jG.len;have dI:off+es.length*i.size+news.length<=arr.size:=by omega
   have fm:=B0 (P:=P) (ty:=ty) bT hi w b off es.length cap arr ii av ⟨bg,k3,none⟩ bV.length lN news jG.len hK jG.one lV dI;generalize oj:(arr.toList.take (off+es.length*i.size)++news++arr.toList.drop (off+es.length*i.size+news.length)).toArray=cd at fm;have hg:∀x:Nat,cd[x]?=if off+es.length*i.size<=x/\x<off+es.length*i.size+news.length then news[x-(off+es.length*i.size)]? else arr[x]?:=by
    intro x;rw[<-oj,nW,BX (by simpa using dI)];simp
   have yK:cd.size=arr.size:=by rw[<-oj];simp;omega
   have ko:=setRow_heap w b arr cd ii (0,0) av
   let bc:Own:=fun c=>kb t ef es.length (ω c)
   have da:∀c,c<w.heap.size->ω c≠.tok t []->bc c=kb t ef es.length (ω c)/\(w.setRow b cd).heap[c]?=w.heap[c]?:=fun c _ cC=>
    ⟨rfl,setRow_other w b c cd fun e=>cC (by rw[e];exact iT)⟩
   have lW:bc b=.tok t []:=by simp only[bc,iT];exact xf js
   have mL:∀c p q,c<w.heap.size->ω c=.tok t (p::q)->bc c=.tok t (p::q)/\(w.setRow b cd).heap[c]?=w.heap[c]?:=by
    intro c p q aj aK;obtain⟨h1,U⟩:=da c aj (by rw[aK];simp);rw[h1,aK,xf js];exact⟨rfl,U⟩
   refine⟨_,_,bc,fm,a8.dC _ (H6 iU js da (fun id c gp=>by simp[bc,gp,kb]) ?_) ?_ ?_ ?_ ?_ (I' _),?_,by simp[Tag.ev,gX]⟩
   ·intro cv fP ep qT;rw[qT,e2,sb]at ep ⊢;rw[e1]at ep ⊢;have qW:es.length=cv.length:=by
     obtain⟨_,_,h⟩:=ep.len;simp only[Value.slice.injEq]at h;exact h.2.1
    refine b0.YO ep av ko yK (fun x ah=>?_) (fun o ba yH=>?_) (fun c p q aj aK=>?_)
    ·rw[hg,bk (by omega)]
    ·right;exact⟨[],lW⟩
    simp only[Tag.R]at aK ⊢;obtain⟨h1,U⟩:=mL c p q aj aK;exact⟨.inr ⟨_,h1⟩,U⟩
   ·exact a8.below.setRow wQ cd
   ·intro c gp;have:ω c≠.bI:=fun e=>by simp[bc,e,kb]at gp
    obtain⟨ax,iD,iM,aF⟩:=a8.owned c this;by_cases qP:c=b
    ·subst qP;exact⟨ax,cd,ii,ko⟩
    exact⟨ax,iD,iM,(setRow_other w b c cd qP).trans aF⟩
   ·intro id c gp;exact⟨by simp[bc,gp,kb],setRow_other w b c cd fun e=>by rw[e,iT]at gp;cases gp⟩
   ·intro id c gp;exact KQ.1 gp
   have fH:∀x j d,df (es++bV) x j=some d->∃u,cd[off+x*i.size+j]?=some u/\b0 (w.setRow b cd) bc (fun q=>(Tag.own t).R ((x,j)::q)) d u:=by
    intro x j d er;rw[BZ]at er;split at er
    ·rename_i ah;have A5:=(tJ hy er).2;refine⟨us x j,?_,(aG x j d er).frame fun c q aj aK=>?_⟩
     ·have:(x+1)*i.size<=es.length*i.size:=hF _ ah;rw[gg]at this;rw[hg,bk (by omega),hu x j d er]
     exact mL c _ _ aj aK
    rename_i ah;obtain⟨u,h1,U⟩:=jG.QJ (aO:=w.setRow b cd) (bc:=bc) (n:=es.length) js da er;have adn:=(ek.1 h1).1;have yL:x*i.size=es.length*i.size+(x-es.length)*i.size:=by rw[<-gg];congr 1;omega
    refine⟨u,?_,?_⟩
    ·rw[hg,bm (by omega),<-h1]
     congr 1
     omega
    rwa[show es.length+(x-es.length)=x by omega]at U
   have hlen:(es++bV).length=es.length+bV.length:=fF;have q3:∀e∈es++bV,e.length=i.size:=by
    intro e' he;rcases ki.1 he with h | h
    ·exact hy e' h
    exact jG.rows e' h
   have:=b0.row (w:=w.setRow b cd) (ω:=bc) (Tag.own t).R i.size (es++bV) b off cap cd ii (0,0) (fun x j=>cd.getD (off+x*i.size+j) undef) ko lW (by omega) (by omega) q3
    (fun x j d aG=>by obtain⟨u,h1,_⟩:=fH x j d aG;rw[h1];simp[eG,h1])
    (fun x j d aG=>by obtain⟨u,h1,U⟩:=fH x j d aG;have:cd.getD (off+x*i.size+j) undef=u:=(by simp[eG,h1]);rw[this];exact U)
   rw[hlen]at this;exact this
  -- it aCy
  have hmul:es.length*i.size<=cap*i.size:=hF _ aj;have nH:((arr.toList.drop off).take (es.length*i.size)).length=es.length*i.size:=by simp;omega
  have fm:=run_append_grow (P:=P) w iN ty e i z bT hi bi ⟨b,off,none⟩ es.length cap ((arr.toList.drop off).take (es.length*i.size)) nH (fun j v bp=>by
   rw[rr,cell_of_row w b (off+j) arr ii (0,0) av];rw[gI]at bp;split at bp
   ·rw[gH]at bp;simpa using bp
   cases bp) ⟨bg,k3,none⟩ bV.length lN news jG.len hK (by omega) (by omega) (growslice_fits (by omega) fZ)
  have nF:=grownCap_ge w (es.length+bV.length) cap e;obtain⟨bc,h1,U⟩:=grown _ (((arr.toList.drop off).take (es.length*i.size)).toArray++news.toArray++Builtin.zeroCells z.cells (grownCap w (es.length+bV.length) cap e-(es.length+bV.length))) _ (grownCap w (es.length+bV.length) cap e)
   (((hb.refl _ _).drew).alloc (fI _) _) (ow _ _) rfl nF (by
    simp only[rO,lO,size_zeroCells,jG.len,nK,nH,<-gg];exact hF _ (by omega))
   (fun fy j d ed=>by
    obtain⟨yC,eL⟩:=tJ hy ed;have:(fy+1)*i.size<=es.length*i.size:=hF _ yC;rw[gg]at this;refine⟨us fy j,?_,fun q=>(Tag.own t).R ((fy,j)::q),fun q o h=>h,aG fy j d ed⟩;rw[hW,bm (by simp only[rO,lO,nH];omega),hW,bm (by simp only[lO,nH];omega)];rw[nW,gI,bm (by omega),gH,<-hu fy j d ed];simp only[iO]
    congr 1
    omega)
   (fun x u ah=>by
    have gi:=(ek.1 ah).1;rw[hW,bm (by simp only[rO,lO,nH];omega),hW,bk (by simp only[lO,nH];omega)];simp only[lO,nH,nW];rw[<-ah]
    congr 1
    omega) hy
  exact⟨_,_,bc,fm,h1,U⟩
end Go.Sx
namespace Go.Sx
open Go.RowKit
def Flat(es:List (List D)):Prop:=∀e∈es,∀d∈e,∃x,d=.v x
theorem avB{es:List (List D)}{i j:Nat}{d:D}(h:df es i j=some d):∃e∈es,d∈e:=by
 unfold df at h;cases ah:es[i]? with
 | none=>simp[ah]at h
 | some e=>rw[ah,nX]at h;exact⟨e,ft ah,ft h⟩
variable{P:Program}{w:World}{ω:Own}{k:Nat}{ef:Option Nat}
theorem Src.empty(a:Option Addr):Src P w ω k [] ef (.slice a 0 0) [] where
 len:=by simp
 rows:=fun _ h=>(by cases h)
 one:=fun _ h=>(by cases h)
 cell:=fun i j d aG=>by simp[df]at aG
 shape:=.inl ⟨⟨a,rfl⟩,rfl⟩
theorem Src.of{R:List (Nat×Nat)->db->Prop}{bV:List (List D)}{y:Value}(h:b0 w ω R (.J k bV) y)(mK:0<k)
  (aj:Flat bV\/∃s,ef=some s/\R=(Tag.own s).R):∃news,Src P w ω k bV ef y news:=by
 cases h with
 | nil=>exact⟨[],Src.empty _⟩
 | row R k es b off cap arr ty c3 us av ej gA ao hy hu aG=>
  have hmul:bV.length*k<=cap*k:=hF _ gA;have hg:∀x:Nat,((arr.toList.drop off).take (bV.length*k))[x]?=if x<bV.length*k then arr[off+x]? else none:=by
   intro x;rw[gI];split
   ·rw[gH];simp
   rfl
  have fH:∀i j d,df bV i j=some d->((arr.toList.drop off).take (bV.length*k))[i*k+j]?=some (us i j):=by
   intro i j d ed;obtain⟨hi,a1⟩:=tJ hy ed;have:(i+1)*k<=bV.length*k:=hF _ hi;rw[gg]at this;rw[hg,bm (by omega),<-hu i j d ed,wc]
  refine⟨(arr.toList.drop off).take (bV.length*k),by simp;omega,hy,?_,?_,.inr ⟨b,off,cap,rfl,?_⟩⟩
  ·intro u kr;obtain⟨x,ah⟩:=nj.1 kr;have bz:x<bV.length*k:=by
    have:=(ek.1 ah).1;simp at this;omega
   have yL:x=(x / k)*k+x % k:=by rw[Nat.mul_comm];exact (Nat.div_add_mod x k).symm
   have aK:x / k<bV.length:=Nat.div_lt_of_lt_mul (by rw[Nat.mul_comm];exact bz);obtain⟨d,ed⟩:=Sv hy aK (Nat.mod_lt x mK);have h1:=fH _ _ _ ed;rw[<-yL,ah]at h1;rw[eW h1];exact (aG _ _ _ ed).qa
  ·intro i j d ed;refine⟨us i j,fH i j d ed,?_⟩;rcases aj with b2 | ⟨s,kq,uZ⟩
   ·obtain⟨e,he,abU⟩:=avB ed;obtain⟨x,rfl⟩:=b2 e he d abU;have:=aG i j _ ed;cases ax:us i j<;>(rw[ax]at this;cases this;exact .inl ⟨_,rfl,rfl⟩)
   subst uZ;exact .inr ⟨s,kq,aG i j d ed⟩
  intro j v bp;rw[rr,cell_of_row w b (off+j) arr ty c3 av];rw[hg]at bp;split at bp
  ·exact bp
  cases bp
variable{τ:Nat->Nat×Value}
theorem cJ.Kt{w0:eT}{st:aJ}{a:Act}(h:cJ w0 st a w ω τ)(t k:Nat)(iU:t<dn):
  ∃bc,cJ w0 (st.j' t []) a w bc (gX τ t k (.slice none 0 0))/\Sat w bc (gX τ t k (.slice none 0 0)) (.J (.own t) k []) (.slice none 0 0):=by
 refine⟨fun b=>qf t [] (ω b),h.dC _ (mB.sat (g:=iW t []) (p:=fun _=>true) ⟨?_,?_,?_,rfl,fun s ao=>by simp only[gX];rw[bk (by omega)]⟩) h.below ?_ ?_ ?_ (fun s ao=>by simp only[gX];rw[bk (by omega)]),.nil _ _ _,by simp[Tag.ev,gX]⟩
 ·intro g eI b q ay _ aK;exact⟨Sq ay aK,rfl⟩
 ·intro g eI y ay bf;cases g with
  | free=>simp only[iW,aV]at ay;subst ay;exact trivial
  | own s=>
   simp only[iW]at ay;split at ay
   ·simp only[aV]at ay;subst ay;exact trivial
   split at ay
   ·cases ay
   simp only[aV]at ay;subst ay;simp only[Tag.ev,gX]at bf ⊢;rw[bk ‹_›];exact bf
  | ro s=>
   simp only[iW]at ay;split at ay
   ·simp only[aV]at ay;subst ay;exact trivial
   split at ay
   ·cases ay
   simp only[aV]at ay;subst ay;exact trivial
 ·intro id b _ av;exact E3.2 av
 ·intro b av;exact h.owned b fun e=>by simp only[e]at av;exact av rfl
 ·intro id b av;exact⟨E3.2 av,rfl⟩
 intro id b av;exact E3.1 av
def wl(t k:Nat)(q:aL)(ans:List cf):Option (List (List D)×Option Nat×List cf×List Prop):=
 match q.leaf,ans with
 | some (.J (.own s) cw bV),.wr::r=>if cw=k/\s≠t then some (bV,some s,r,[]) else none
 | some (.J _ cw bV),ans=>if cw=k then some (bV,none,ans,[Flat bV]) else none
 | some (.v (.slice none 0 0)),ans=>some ([],none,ans,[])
 | some (.aQ _ _ _ cw bV .here),ans=>if cw=k then some (bV,none,ans,[Flat bV]) else none
 | some (.aQ _ _ _ cw bV .mD),ans=>if cw=k then some (bV,none,ans,[Flat bV]) else none
 | _,_=>none
theorem Sy{P:Program}{t:Nat}{q:aL}{y:Value}{ans cq:List cf}{bV:List (List D)}{obs:List Prop}(mK:0<k)
  (aK:cW (Sat w ω τ) q y) (h:wl t k q ans=some (bV,ef,cq,obs)) (ba:cL obs):ef≠some t/\∃news,Src P w ω k bV ef y news:=by
 unfold wl at h;split at h
 ·rename_i s cw es r e;split at h
  ·rename_i aj;obtain⟨rfl,cC⟩:=aj;simp only[aV,bH]at h;obtain⟨rfl,rfl,_,_⟩:=h;exact⟨by simpa using cC,Src.of (aL.dV e aK).1 mK (.inr ⟨s,rfl,rfl⟩)⟩
  cases h
 ·rename_i g cw es e _;split at h
  ·rename_i aj;subst aj;simp only[aV,bH]at h;obtain⟨rfl,rfl,_,rfl⟩:=h;exact⟨by simp,Src.of (aL.dV e aK).1 mK (.inl ba.1)⟩
  cases h
 ·rename_i e;simp only[aV,bH]at h;obtain⟨rfl,rfl,_,_⟩:=h;have:y=.slice none 0 0:=aL.dV e aK;subst this;exact⟨by simp,[],Src.empty _⟩
 ·rename_i s CW CX cw es e;split at h
  ·rename_i aj;subst aj;simp only[aV,bH]at h;obtain⟨rfl,rfl,_,rfl⟩:=h;obtain⟨fW,rfl,aA,_⟩:=aL.dV e aK;exact⟨by simp,Src.of aA mK (.inl ba.1)⟩
  cases h
 ·rename_i s CW CX cw es e;split at h
  ·rename_i aj;subst aj;simp only[aV,bH]at h;obtain⟨rfl,rfl,_,rfl⟩:=h;obtain⟨fW,rfl,aA,_⟩:=aL.dV e aK;exact⟨by simp,Src.of aA mK (.inl ba.1)⟩
  cases h
 cases h
def DR(d:Nat)(st:aJ)(k:Nat)(p:aL):Option (aJ×Nat×List (List D)):=
 match p.leaf with
 | some (.J (.own t) cw es)=>if cw=k then some (st,t,es) else none
 | some (.v (.slice none 0 0))=>some (st.j' d [],d,[])
 | _=>none
def z8(P:Program)(st:aJ)(d:Nat)(t:TypeId)(x y:Operand)(ans:List cf):Stepped:=
 match ru P t with
 | some (e,k)=>
  match P.info? e,DR d st k (st.br x) with
  | some i,some (st1,hV,es)=>
   match i.zero,wl hV k (st1.br y) ans with
   | some z,some (bV,ef,cq,obs)=>
    if z.cells.size=k/\0<k/\hV<dn then
     some (⟨(st1.yg hV ef).env.set d (.one (.J (.own hV) k (es++bV))),(st1.yg hV ef).boxes⟩,cq,((es.length+bV.length)*i.bytes<=140737488355328)::(es.length+bV.length<=9223372036854775807)::obs)
    else none
   | _,_=>none
  | _,_=>none
 | none=>none
theorem cJ.z8{w0:eT}{st bC:aJ}{a:Act}{d:Nat}{t ty:TypeId}{x y:Operand}{ans cq:List cf}{obs:List Prop}
  (a8:cJ w0 st a w ω τ) (h:Sx.z8 P st d t x y ans=some (bC,cq,obs)) (ba:cL obs):
  ∃z aO,(Builtin.append_ #[t,t] ty #[a.eval x,a.eval y]).run P w=.ok z aO/\Rel w0 bC (a.put (some d) z) aO:=by
 unfold Sx.z8 at h;split at h
 ·rename_i e k he;obtain⟨hu,i0,lU,yI⟩:=xd he;split at h
  ·rename_i i st1 hV es hi kP;rw[lU]at hi;have nG:=eW hi;subst nG;split at h
   ·rename_i z bV ef wk yS bi jG;split at h
    ·rename_i aj;simp only[aV,bH]at h;obtain⟨rfl,rfl,rfl⟩:=h;obtain⟨ci,b6,ct⟩:=ba;have:∃DE Qv,cJ w0 st1 a w DE Qv/\Sat w DE Qv (.J (.own hV) k es) (a.eval x):=by
      unfold DR at kP;split at kP
      ·rename_i di cw cv ap;split at kP
       ·rename_i hy;subst hy;simp only[aV,bH]at kP;obtain⟨rfl,rfl,rfl⟩:=kP;exact⟨ω,τ,a8,aL.dV ap (a8.br x)⟩
       cases kP
      ·rename_i ap;simp only[aV,bH]at kP;obtain⟨rfl,rfl,rfl⟩:=kP;have:a.eval x=.slice none 0 0:=aL.dV ap (a8.br x);rw[this];obtain⟨DE,h1,U⟩:=a8.Kt d k aj.2.2;exact⟨DE,_,h1,U⟩
      cases kP
     obtain⟨DE,Qv,fh,ah⟩:=this;obtain⟨js,news,ao⟩:=Sy (P:=P) aj.2.1 (fh.br y) jG ct;obtain⟨r,aO,bc,h1,U,ax⟩:=fh.append (P:=P) (ty:=ty) ah ao js hu lU bi yI aj.1 ci b6 aj.2.2;exact⟨r,aO,h1,bc,_,U.put (p:=.one (.J (.own hV) k (es++bV))) ax⟩
    cases h
   cases h
  cases h
 cases h
