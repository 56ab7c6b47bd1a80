import Derived.Test.YtdchjefneblpgaaGreatR1
set_option linter.unusedVariables false
set_option linter.unusedSimpArgs false
namespace Go.Sx
open Go.RowKit
def rR(id:Nat)(fJ:List aG):List (Nat×List aG)->List (Nat×List aG)
 | []=>[]
 | (i,ls)::r=>if i=id then (i,fJ)::r else (i,ls)::rR id fJ r
variable{id:Nat}{fJ:List aG}
theorem AF:∀{bs:List (Nat×List aG)} {ls:List aG},dI id bs=some ls->dI id (rR id fJ bs)=some fJ
 | [],_,h=>by cases h
 | (i,l)::r,ls,h=>by
  simp only[rR];by_cases hi:i=id
  ·simp_all[bh,dI]
  simp_all[bq,dI,AF]
theorem AG{iV:Nat}(aP:iV≠id):∀{bs:List (Nat×List aG)},dI iV (rR id fJ bs)=dI iV bs
 | []=>rfl
 | (i,l)::r=>by
  simp only[rR];by_cases hi:i=id
  ·simp_all[bh,dI,bq,Ne.symm]
  simp_all[bq,dI,AG]
theorem Tag.ab3{t:Tag}{q:List (Nat×Nat)}:¬t.R q (.box id):=by
 cases t with
 | free=>exact fun h=>by cases h
 | own s=>exact fun h=>by cases h
 | ro s=>exact fun h=>by rcases h with h | ⟨_,h⟩<;>cases h
theorem Sat.aBj{w:World}{ω:Own}{τ:Nat->Nat×Value}{b:Nat}(aq:ω b=.box id)(cs:Array Value):∀(l:aG) (v:Value),Sat w ω τ l v->Sat (w.setRow b cs) ω τ l v:=by
 have bp:mY w ω τ (w.setRow b cs) ω τ sQ (fun _=>true):=by
  refine⟨?_,?_,fun _ _ _ h=>h,rfl,fun _ _=>rfl⟩
  ·intro t du dA q ar _ aC;simp only[sQ,aX]at ar;grind[setRow_other,Tag.ab3]
  simp_all[sQ,aX]
 intro l v ai;have:=bp.sat l v ai;cases l with
 | aS t i j k es m=>
  obtain⟨u,hu,h1,hm⟩:=ai;refine⟨u,hu,h1.frame fun c q al aC=>⟨aC,setRow_other w b c cs fun e=>?_⟩,fun bK=>?_⟩
  ·grind
  obtain⟨kT,fo,off,len,cap,arr,ty,cM,U,a',aA,aI⟩:=hm bK;exact⟨kT,fo,off,len,cap,arr,ty,cM,U,a',(setRow_other w b fo cs fun e=>by grind).trans aA,aI⟩
 | fr t vs=>
  obtain⟨fo,ty,arr,e,a',aA,aP,bD⟩:=ai;refine⟨fo,ty,arr,e,a',(setRow_other w b fo cs fun e=>by grind).trans aA,aP,fun j c al=>?_⟩;obtain⟨u,h1,U⟩:=bD j c al;refine⟨u,h1,?_⟩;have eu:=bp.nX c u U;have:fg.cG sQ c=c:=by cases c<;>simp[fg.cG,sQ]
  grind
 | _=>simp_all[aG.cG,sQ]
variable{w0:eN}{st:aD}{a:Act}{w:World}{ω:Own}{τ:Nat->Nat×Value}
theorem cD.aBo(h:cD w0 st a w ω τ){ls:List aG}(ar:dI id st.boxes=some ls)
  {b:Nat} (aq:ω b=.box id) {cg:Array Value} (ai:lm (Sat w ω τ) fJ cg):
  cD w0 ⟨st.env,rR id fJ st.boxes⟩ a (w.setRow b cg) ω τ:=by
 obtain⟨dA,arr,ty,er,hu,bK,eT⟩:=h.boxes id ls ar;have:=hu b aq;subst this;have KZ:=Sat.aBj (w:=w) (ω:=ω) (τ:=τ) aq cg;have me:=setRow_heap w b arr cg ty (0,0) bK;refine⟨h.defers,h.size,?_,?_,h.fixed,h.pinned,?_,?_⟩
 ·exact h.below.setRow (h.owned b (by simp[aq])).1 cg
 ·intro c al;obtain⟨h1,ln,lG,U⟩:=h.owned c al;grind[setRow_other]
 ·intro i p hp;obtain⟨v,h1,U⟩:=h.env i p hp;refine⟨v,h1,?_⟩;have:=cT.map (f:=_root_.id) KZ U;have e:aH.map _root_.id p=p:=by
   cases p with
   | aR a=>cases a<;>simp[aH.map,bm.map]
   | gB as=>
    simp only[aH.map]
    congr 1
    have:bm.map _root_.id=_root_.id:=by funext a;cases a<;>simp[bm.map]
    simp_all
  grind
 intro i l aj;by_cases e:i=id
 ·subst e;rw[AF ar]at aj;have e:=gX aj;subst e;refine⟨b,cg,ty,aq,hu,me,?_⟩;have:=ai.map (f:=_root_.id) KZ;simp_all
 rw[AG e]at aj;obtain⟨c,ln,lG,al,ac8,ub,qk⟩:=h.boxes i l aj;have cU:c≠b:=fun e'=>by grind
 refine⟨c,ln,lG,al,ac8,(setRow_other w b c cg cU).trans ub,?_⟩;have:=qk.map (f:=_root_.id) KZ;simp_all
abbrev Stepped:=Option (aD×List cb×List Prop)
def Me(st:aD)(d:Nat)(p:aH)(ans:List cb):Stepped:=
 if d<dj then p.leaves.map fun ls=>(⟨(st.vJ d ls).env.set d (.one (.ptr d 0)),(st.vJ d ls).boxes⟩,ans,[]) else none
variable{bB:aD}{ans cq:List cb}{obs:List Prop}
theorem cD.box{P:Program}{d:Nat}{p:aH}{v:Value}(aZ:cD w0 st a w ω τ)
  (hp:cT (Sat w ω τ) p v) (h:Me st d p ans=some (bB,cq,obs)) (ty:TypeId):
  ∃z aM,(do pure (.pointer (some (<-newVar ty v))):Sem Value).run P w=.ok z aM/\Rel w0 bB (a.put (some d) z) aM:=by
 unfold Me at h;split at h
 case isFalse=>cases h
 rename_i vy;rw[b5]at h;obtain⟨ls,h1,h⟩:=h;simp only[bH]at h;obtain⟨rfl,_,_⟩:=h;obtain⟨ai,_⟩:=aH.zM h1 hp;obtain⟨bc,KU,dr⟩:=aZ.vJ d vy ty ai;refine⟨.pointer (some ⟨w.heap.size,0,none⟩),w.alloc (.cells v.cells ty),by simp[newVar,newRow],bc,τ,?_⟩;exact KU.put (p:=.one (.ptr d 0)) ⟨w.heap.size,dr,rfl⟩
def Mf(P:Program)(st:aD)(d:Nat)(elem:TypeId)(ans:List cb):Stepped:=
 match P.info? elem with
 | some i=>match i.zero with
  | some z=>if d<dj then let ls:=z.cells.toList.map .v;some (⟨(st.vJ d ls).env.set d (.one (.ptr d 0)),(st.vJ d ls).boxes⟩,ans,[]) else none
  | none=>none
 | none=>none
theorem cD.alloc{P:Program}{d:Nat}{elem:TypeId}(aZ:cD w0 st a w ω τ)
  (h:Mf P st d elem ans=some (bB,cq,obs)):
  ∃z aM,(Instr.alloc elem true (.tuple #[])).run P w=.ok z aM/\Rel w0 bB (a.put (some d) z) aM:=by
 unfold Mf at h;split at h
 ·rename_i i hi;split at h
  ·rename_i z aL;split at h
   case isFalse=>cases h
   rename_i vy;simp only[aX,bH]at h;obtain⟨rfl,_,_⟩:=h;have ai:lm (Sat w ω τ) (z.cells.toList.map .v) z.cells:=by
    refine⟨by simp,fun j l aj=>?_⟩;rw[eg,b5]at aj;obtain⟨u,hu,rfl⟩:=aj;exact⟨u,by grind,rfl⟩
   obtain⟨bc,KU,dr⟩:=aZ.vJ d vy elem ai;refine⟨.pointer (some ⟨w.heap.size,0,none⟩),w.alloc (.cells z.cells elem),by simp_all[Instr.alloc,zeroValue,typeInfo,newVar,newRow],bc,τ,?_⟩;exact KU.put (p:=.one (.ptr d 0)) ⟨w.heap.size,dr,rfl⟩
  cases h
 cases h
def M4(P:Program)(st:aD)(t:TypeId)(id off:Nat)(q:aH)(ans:List cb):Stepped:=
 match dI id st.boxes,q.leaves,P.info? t with
 | some ls,some xs,some i=>if xs.length=i.size/\off+xs.length<=ls.length then some (⟨st.env,rR id (vg ls off xs) st.boxes⟩,ans,[]) else none
 | _,_,_=>none
theorem Dq{α:Type}{xs ys:List α}{off:Nat}(h:off+ys.length<=xs.length)(i:Nat):
  (xs.take off++ys++xs.drop (off+ys.length))[i]?=if off<=i/\i<off+ys.length then ys[i-off]? else xs[i]?:=by
 rw[o5,qS,u7,Nat.min_eq_left (by omega)];grind
theorem cD.aBn{P:Program}{t:TypeId}{off:Nat}{q:aH}{b:Nat}{v:Value}
  (aZ:cD w0 st a w ω τ) (aq:ω b=.box id) (aC:cT (Sat w ω τ) q v) (h:M4 P st t id off q ans=some (bB,cq,obs)):
  ∃aM,(Instr.storeAt t (.pointer (some ⟨b,off,none⟩)) v).run P w=.ok () aM/\Rel w0 bB a aM:=by
 unfold M4 at h;split at h
 ·rename_i ls xs i e1 e2 cx;split at h
  ·rename_i al;simp only[aX,bH]at h;obtain⟨rfl,_,_⟩:=h;obtain⟨ai,rz⟩:=aH.zM e2 aC;obtain⟨dA,arr,ty,er,hu,bK,eT⟩:=aZ.boxes id ls e1;have:=hu b aq;subst this;have fQ:=run_storeCells_at P b off ty v.cells.toList 0 arr w bK (by simp;have:=ai.1;have:=eT.1;omega) rz;have hx:lm (Sat w ω τ) (vg ls off xs) (arr.toList.take (off+0)++v.cells.toList++arr.toList.drop (off+0+v.cells.toList.length)).toArray:=by
    have h1:=ai.1;have U:=eT.1;refine⟨?_,fun j l aj=>?_⟩
    ·grind[Mo]
    rw[TE (by omega)]at aj;rw[p1,o7,Dq (by simp;omega)];simp only[Ro];by_cases a8:off<=j/\j<off+xs.length
    ·rw[bh a8]at aj;rw[bh (by omega)];obtain⟨u,aA,aI⟩:=ai.2 _ _ aj;grind
    rw[bq a8]at aj;rw[bq (by omega)];obtain⟨u,aA,aI⟩:=eT.2 _ _ aj;grind
   refine⟨_,?_,ω,τ,aZ.aBo e1 aq hx⟩;simp only[Instr.storeAt,Instr.sureAddr,Sem.run_bind,Sem.run_pure,Result.andThen_ok,storeVar,sizeOf,typeInfo,run_program,cx];have dN:¬(v.cells.size≠i.size):=by simp;have:=ai.1;omega
   grind
  cases h
 cases h
end Go.Sx
namespace Go.Sx
open Go.RowKit
variable{w0:eN}{st:aD}{a:Act}{w:World}{ω:Own}{τ:Nat->Nat×Value}
theorem cD.dG{aM:World}{bc:Own}{cZ:Nat->Nat×Value}(h:cD w0 st a w ω τ)(f:aG->aG)
  (eT:∀l v,Sat w ω τ l v->Sat aM bc cZ (f l) v) (sw:ho w0 aM) (rA:o8 w0 aM bc)
  (tZ:∀id b,ω b=.box id->bc b=.box id/\aM.heap[b]?=w.heap[b]?) (B5:∀id b,bc b=.box id->ω b=.box id) (vA:∀t,dj<=t->cZ t=τ t:=by intros;rfl):cD w0 (st.map f) a aM bc cZ where
 defers:=h.defers
 size:=by simp[aD.map,h.size]
 below:=sw
 owned:=rA
 fixed:=fun t bG=>(vA t bG).trans (h.fixed t bG)
 pinned:=fun id b hi aq=>h.pinned id b hi (B5 id b aq)
 env:=by
  intro i q aC;simp only[aD.map]at aC;rw[eg,b5]at aC;obtain⟨gJ,bE,rfl⟩:=aC;obtain⟨v,h1,U⟩:=h.env i gJ bE;exact⟨v,h1,cT.map eT U⟩
 boxes:=by
  intro id ls aj;simp only[aD.map]at aj;rw[uM,b5]at aj;obtain⟨kh,bE,rfl⟩:=aj;obtain⟨b,arr,ty,aq,hu,bK,ai⟩:=h.boxes id kh bE;obtain⟨h1,U⟩:=tZ id b aq;exact⟨b,arr,ty,h1,fun dA er=>hu dA (B5 id dA er),U.trans bK,ai.map eT⟩
abbrev ij:=List (Nat×(Nat×Nat))
def ij.at(s:Nat):ij->Option (Nat×Nat)
 | []=>none
 | (i,p)::r=>if i=s then some p else ij.at s r
def iW(t:Nat)(ms:ij):Tag->Option Tag
 | .free=>some .free
 | .own s=>if s=t then some .free else if (ms.at s).isSome then none else some (.own s)
 | .ro s=>if s=t then some .free else if (ms.at s).isSome then none else some (.ro s)
def qE(t:Nat)(ms:ij):dp->dp
 | .tok s q=>if s=t then .bJ else match ms.at s with | some p=>.tok t (p::q) | none=>.tok s q
 | o=>o
variable{t:Nat}{ms:ij}
theorem GV{o:dp}{id:Nat}:qE t ms o=.box id<->o=.box id:=by
 cases o with
 | bJ=>simp[qE]
 | box i=>simp[qE]
 | tok s q=>
  simp only[qE];split
  ·simp
  ·split<;>simp
theorem Tl{g ek:Tag}{q:List (Nat×Nat)}{o:dp}(h:iW t ms g=some ek)(aB:g.R q o):ek.R q (qE t ms o):=by
 cases g with
 | free=>simp only[iW,aX]at h;subst h;simp only[Tag.R]at aB ⊢;rw[aB];rfl
 | own s=>
  simp only[Tag.R]at aB;subst aB;simp only[iW]at h;simp only[qE];split at h
  ·simp only[aX]at h;subst h;rw[bh ‹_›];rfl
  split at h
  ·cases h
  rename_i h1 U;simp only[aX]at h;subst h;rw[bq h1];cases e:ms.at s with
  | none=>rfl
  | some p=>simp[e]at U
 | ro s=>
  simp only[Tag.R]at aB;simp only[iW]at h;split at h
  ·simp only[aX]at h;subst h;rcases aB with rfl | ⟨ee,rfl⟩
   ·rfl
   simp only[qE];rw[bh ‹_›];rfl
  split at h
  ·cases h
  rename_i h1 U;simp only[aX]at h;subst h;rcases aB with rfl | ⟨ee,rfl⟩
  ·exact .inl rfl
  refine .inr ⟨ee,?_⟩;simp only[qE];rw[bq h1];cases e:ms.at s with
  | none=>rfl
  | some p=>simp[e]at U
def qF(w:World)(ω:Own)(t:Nat)(ms:ij):Own:=fun b=>if b=w.heap.size then .tok t [] else qE t ms (ω b)
def xI(w:World)(τ:Nat->Nat×Value)(t k n c:Nat):Nat->Nat×Value:=fun s=>if s=t then (k,.slice (some ⟨w.heap.size,0,none⟩) n c) else τ s
def aD.ki(st:aD)(t:Nat)(ms:ij):aD:=st.map (aG.cG (iW t ms) fun _=>true)
theorem awP{w1:World}{k n c:Nat}(jM:t<dj)(br:ω w.heap.size=.bJ)(bK:∀b,b<w.heap.size->w1.heap[b]?=w.heap[b]?):
  mY w ω τ w1 (qF w ω t ms) (xI w τ t k n c) (iW t ms) (fun _=>true):=by
 refine⟨?_,?_,?_,rfl,fun s ai=>by simp only[xI];rw[bq (by omega)]⟩
 ·intro g ek b q ar aq aC;refine⟨?_,bK b aq⟩;simp only[qF];rw[bq (by omega)];exact Tl ar aC
 ·intro g ek y ar bk;cases g with
  | free=>simp only[iW,aX]at ar;subst ar;exact trivial
  | own s=>
   simp only[iW]at ar;split at ar
   ·simp only[aX]at ar;subst ar;exact trivial
   split at ar
   ·cases ar
   simp only[aX]at ar;subst ar;simp only[Tag.ev,xI]at bk ⊢;rw[bq ‹_›];exact bk
  | ro s=>
   simp only[iW]at ar;split at ar
   ·simp only[aX]at ar;subst ar;exact trivial
   split at ar
   ·cases ar
   simp only[aX]at ar;subst ar;exact trivial
 intro id b _ aq;simp only[qF];by_cases e:b=w.heap.size
 ·subst e;rw[br]at aq;cases aq
 rw[bq e,aq];rfl
def aG.jx:aG->Option D
 | .v x=>if x.oneCell' then some (.v x) else none
 | .bR c=>some (.v (.bool c))
 | .J (.own _) k es=>some (.J k es)
 | _=>none
def aG.tok:aG->Option Nat
 | .J (.own s) _ _=>some s
 | _=>none
def GX(w:World)(ω:Own)(τ:Nat->Nat×Value)(t:Nat)(ms:ij)(i j:Nat)(d:D)(u:Value):Prop:=
 ∃l:aG,l.jx=some d/\Sat w ω τ l u/\∀s,l.tok=some s->s≠t/\ms.at s=some (i,j)
theorem GX.rep{w1:World}{i j:Nat}{d:D}{u:Value}(h:GX w ω τ t ms i j d u)(bK:∀b,b<w.heap.size->w1.heap[b]?=w.heap[b]?):
  bZ w1 (qF w ω t ms) (fun q=>(Tag.own t).R ((i,j)::q)) d u:=by
 obtain⟨l,aF,ai,hm⟩:=h;cases l with
 | cu=>cases aF
 | v x=>
  simp only[aG.jx]at aF;split at aF
  ·simp only[aX]at aF;subst aF;have:u=x:=ai;subst this;exact .v _ _ ‹_›
  cases aF
 | bR c=>
  simp only[aG.jx,aX]at aF;subst aF;have:u=.bool c:=ai;subst this;exact .v _ _ rfl
 | J g k es=>
  cases g with
  | free=>cases aF
  | ro s=>cases aF
  | own s=>
   simp only[aG.jx,aX]at aF;subst aF;obtain⟨cU,sv⟩:=hm s rfl;refine ai.1.frame fun b q aq aC=>⟨?_,bK b aq⟩
   simp only[Tag.R]at aC ⊢;simp only[qF];rw[bq (by omega),aC];simp only[qE];rw[bq cU,sv]
 | ptr id off=>cases aF
 | ep g k es i j=>cases aF
 | jd=>cases aF
 | fd=>cases aF
 | e5=>cases aF
 | hr=>cases aF
 | aS=>cases aF
 | fr=>cases aF
theorem cD.ki{w1:World}(h:cD w0 st a w ω τ)(t:Nat)(jM:t<dj)(ms:ij){k cap:Nat}{es:List (List D)}{arr:Array Value}{ty:TypeId}
  (aq:hq w.heap.size w w1) (hx:w1.heap[w.heap.size]?=some (.cells arr ty (0,0))) (al:es.length<=cap) (dN:cap*k<=arr.size) (hk:∀e∈es,e.length=k)
  (fq:∀i j d,dd es i j=some d->∃u,arr[i*k+j]?=some u/\GX w ω τ t ms i j d u):
  cD w0 (st.ki t ms) a w1 (qF w ω t ms) (xI w τ t k es.length cap)/\
  Sat w1 (qF w ω t ms) (xI w τ t k es.length cap) (.J (.own t) k es) (.slice (some ⟨w.heap.size,0,none⟩) es.length cap):=by
 have br:ω w.heap.size=.bJ:=h.owned.fresh (fl _);have hblk:=aq.block;have aDc:w.heap.size<w1.heap.size:=(kt.1 hx).1;have pv:qF w ω t ms w.heap.size=.tok t []:=by simp[qF]
 have jK:∀b,b≠w.heap.size->qF w ω t ms b=qE t ms (ω b):=fun b aq=>by simp[qF,aq]
 refine⟨h.dG _ (awP jM br hblk).sat ?_ ?_ ?_ ?_ (fun s ai=>by simp only[xI];rw[bq (by omega)]),?_,?_⟩
 ·exact h.below.next aq
 ·intro b gu;by_cases e:b=w.heap.size
  ·subst e;exact⟨.inl h.below.size,arr,ty,hx⟩
  rw[jK b e]at gu;have U:ω b≠.bJ:=fun e'=>by rw[e']at gu;exact gu rfl
  obtain⟨aA,ln,lG,aI⟩:=h.owned b U;exact⟨aA,ln,lG,(hblk b (h.owned.lt U)).trans aI⟩
 ·intro id b gu;have bM:=h.owned.lt (b:=b) (by simp[gu]);rw[jK b (by omega),gu];exact⟨rfl,hblk b bM⟩
 ·intro id b gu;by_cases e:b=w.heap.size
  ·subst e;rw[pv]at gu;cases gu
  rw[jK b e]at gu;exact GV.1 gu
 ·have xw:∀i j d,dd es i j=some d->arr[0+i*k+j]?=some (arr.getD (i*k+j) undef)/\GX w ω τ t ms i j d (arr.getD (i*k+j) undef):=by
   intro i j d aF;obtain⟨u,h1,U⟩:=fq i j d aF;have e:arr.getD (i*k+j) undef=u:=by simp[eW,h1]
   rw[e];exact⟨by rw[dV];exact h1,U⟩
  exact .row _ k es w.heap.size 0 cap arr ty (0,0) (fun i j=>arr.getD (i*k+j) undef) hx pv al (by omega) hk (fun i j d aF=>(xw i j d aF).1) (fun i j d aF=>(xw i j d aF).2.rep hblk)
 simp[Tag.ev,xI]
def Gx(P:Program)(st:aD)(d:Nat)(t:TypeId)(p q:aH)(ans:List cb):Stepped:=
 match P.underlying t with
 | some (.slice e)=>
  match P.info? e,p.int,q.int with
  | some i,some (_,l),some (_,c)=>
   match i.zero with
   | some z=>
    if i.size=z.cells.size/\0<i.size/\z.cells.all (·.oneCell')=true/\d<dj then
     some (⟨(st.ki d []).env.set d (.one (.J (.own d) i.size (List.replicate l.toNat (z.cells.toList.map .v)))),(st.ki d []).boxes⟩,ans,[0<=l,l<=c,(i.bytes:Int)*c<=281474976710656,c<=9223372036854775807])
    else none
   | none=>none
  | _,_,_=>none
 | _=>none
theorem Tm(z:Array Value)(n i j:Nat)(hi:i<n)(a8:j<z.size):(madeCells z (n*z.size))[i*z.size+j]?=z[j]?:=by
 have bM:i*z.size+j<n*z.size:=by
  have:(i+1)*z.size<=n*z.size:=iA _ hi;rw[hQ]at this;omega
 have e:(i*z.size+j) % z.size=j:=by rw[Nat.add_comm,Nat.add_mul_mod_self_right];exact Jy a8
 simp[madeCells,bM,e,getElem!_pos,a8]
theorem awQ{n:Nat}{e:List D}{i j:Nat}{d:D}(h:dd (List.replicate n e) i j=some d):i<n/\e[j]?=some d:=by
 unfold dd at h;rw[E0]at h;split at h
 ·exact⟨‹_›,h⟩
 simp at h
theorem cD.make{P:Program}{bB:aD}{d:Nat}{t:TypeId}{p q:aH}{u v:Value}{ans cq:List cb}{obs:List Prop}
  (aZ:cD w0 st a w ω τ) (hp:cT (Sat w ω τ) p u) (aC:cT (Sat w ω τ) q v) (h:Gx P st d t p q ans=some (bB,cq,obs)) (aW:c8 obs):
  ∃z aM,(Instr.makeSlice t u v).run P w=.ok z aM/\Rel w0 bB (a.put (some d) z) aM:=by
 unfold Gx at h;split at h
 ·rename_i e hu;split at h
  ·rename_i i b8 l bt c hi e1 e2;split at h
   ·rename_i z aL;split at h
    ·rename_i al;obtain⟨lp,lL,ma,ua⟩:=al;simp only[aX,bH]at h;obtain⟨rfl,_,rfl⟩:=h;obtain⟨dt,dm,eY,kj,_⟩:=aW;rw[aH.px e1 hp,aH.px e2 aC];have fG:=run_make (P:=P) w t e i z hu hi aL b8 bt l c dt dm eY kj;have hx:(w.alloc (.cells (madeCells z.cells (c.toNat*i.size)) e)).heap[w.heap.size]?=some (.cells (madeCells z.cells (c.toNat*i.size)) e (0,0)):=oX _ _;have dN:(madeCells z.cells (c.toNat*i.size)).size=c.toNat*i.size:=by simp[madeCells]
     have xe:=aZ.ki d ua [] (k:=i.size) (cap:=c.toNat) (es:=List.replicate l.toNat (z.cells.toList.map .v)) (w1:=w.alloc (.cells (madeCells z.cells (c.toNat*i.size)) e))
      ((hq.refl _ _).alloc (fl _) _) hx (by simp;omega) (by omega) (fun e' he=>by rw[List.eq_of_mem_replicate he];simp[lp]) (fun x j tQ aF=>by
       obtain⟨aa,aF⟩:=awQ aF;rw[eg,b5]at aF;obtain⟨u2,kA,rfl⟩:=aF;have a8:j<z.cells.size:=by
        have:=(gh.1 kA).1;simpa using this
       refine⟨u2,?_,.v u2,?_,rfl,fun s ai=>by cases ai⟩
       ·rw[lp,Tm z.cells c.toNat x j (by omega) a8];simpa using kA
       have:u2.oneCell'=true:=by
        have h1:=Array.all_eq_true'.1 ma;exact h1 u2 (by simpa using f' kA)
       simp[aG.jx,this])
     simp only[List.length_replicate]at xe;exact⟨_,_,fG,_,_,xe.1.put (p:=.one (.J (.own d) i.size (List.replicate l.toNat (z.cells.toList.map .v)))) xe.2⟩
    cases h
   cases h
  cases h
 cases h
end Go.Sx
namespace Go.Sx
open Go.RowKit
def oY(k:Nat):Nat->List aG->List (List aG)
 | 0,_=>[]
 | n+1,ls=>ls.take k::oY k n (ls.drop k)
theorem M5(k:Nat):∀(n:Nat) (ls:List aG) (i:Nat),(oY k n ls)[i]?=if i<n then some ((ls.drop (i*k)).take k) else none
 | 0,ls,i=>by simp[oY]
 | n+1,ls,0=>by simp[oY]
 | n+1,ls,i+1=>by
  simp only[oY,p3,M5 k n];by_cases h:i<n
  ·rw[bh h,bh (by omega),List.drop_drop]
   congr 3
   rw[hQ];omega
  rw[bq h,bq (by omega)]
theorem Tn(k:Nat):∀(n:Nat) (ls:List aG),(oY k n ls).length=n
 | 0,_=>rfl
 | n+1,ls=>by simp[oY,Tn k n]
def mo(i:Nat):Nat->List aG->ij
 | _,[]=>[]
 | j,l::ls=>match l.tok with
  | some s=>(s,(i,j))::mo i (j+1) ls
  | none=>mo i (j+1) ls
def tp:Nat->List (List aG)->ij
 | _,[]=>[]
 | i,e::es=>mo i 0 e++tp (i+1) es
def AH(t:Nat)(ms:ij):Bool:=decide (t<dj)&&ms.all fun x=>x.1≠t&&(match ms.at x.1 with | some p=>p.1==x.2.1&&p.2==x.2.2 | none=>false)
theorem M6(i:Nat):∀(ls:List aG) (j0 j:Nat) (l:aG) (s:Nat),ls[j]?=some l->l.tok=some s->(s,(i,j0+j))∈mo i j0 ls
 | [],_,_,_,_,h,_=>by simp at h
 | fR::ls,j0,0,l,s,h,ai=>by
  simp at h;subst h;simp only[mo,ai];exact fN
 | fR::ls,j0,j+1,l,s,h,ai=>by
  have:=M6 i ls (j0+1) j l s (by simpa using h) ai;rw[show j0+1+j=j0+(j+1) by omega]at this;simp only[mo];split
  ·exact ff _ this
  exact this
theorem To:∀(es:List (List aG)) (i0 i j:Nat) (e:List aG) (l:aG) (s:Nat),es[i]?=some e->e[j]?=some l->l.tok=some s->(s,(i0+i,j))∈tp i0 es
 | [],_,_,_,_,_,_,h,_,_=>by simp at h
 | cd::es,i0,0,j,e,l,s,h,aj,ai=>by
  simp at h;subst h;simp only[tp];have:=M6 i0 cd 0 j l s aj ai;rw[dV]at this;exact gE _ this
 | cd::es,i0,i+1,j,e,l,s,h,aj,ai=>by
  have:=To es (i0+1) i j e l s (by simpa using h) aj ai;rw[show i0+1+i=i0+(i+1) by omega]at this;simp only[tp];exact hP _ this
variable{ms:ij}
theorem awR{t:Nat}(h:AH t ms=true):t<dj:=by
 unfold AH at h;rw[b9,cc]at h;exact h.1
theorem awS{t:Nat}(h:AH t ms=true){s:Nat}{p:Nat×Nat}(hm:(s,p)∈ms):s≠t/\ms.at s=some p:=by
 unfold AH at h;rw[b9]at h;have:=gP.1 h.2 _ hm;simp only[b9,cc]at this;refine⟨this.1,?_⟩;have U:=this.2;split at U
 ·rename_i rM e;simp only[b9,iL]at U;rw[e]
  congr 1
  exact Prod.ext U.1 U.2
 cases U
def Dr(P:Program)(st:aD)(d:Nat)(t:TypeId)(len:Nat)(parts:List (Nat×Operand))(ans:List cb):Stepped:=
 match P.underlying t with
 | some (.slice e)=>
  match P.info? e with
  | some i=>
   match i.zero with
   | some z=>
    if i.size=z.cells.size/\0<i.size/\len*i.size<=16777216 then
     match ss (fun x=>some (x*i.size,i.size)) ((List.replicate len (z.cells.toList.map aG.v)).flatten) (parts.map fun x=>(x.1,st.bp x.2)) with
     | some r=>
      let ls:=oY i.size len r
      match ls.mapM (fun x=>x.mapM aG.jx) with
      | some es=>if AH d (tp 0 ls) then
        some (⟨(st.ki d (tp 0 ls)).env.set d (.one (.J (.own d) i.size es)),(st.ki d (tp 0 ls)).boxes⟩,ans,[]) else none
      | none=>none
     | none=>none
    else none
   | none=>none
  | none=>none
 | _=>none
def Fm(P:Program)(st:aD)(d:Nat)(t:TypeId)(len:Nat)(parts:List (Nat×Operand)):Option (Nat×List (List D)×ij):=
 match P.underlying t with
 | some (.slice e)=>
  match P.info? e with
  | some i=>
   match i.zero with
   | some z=>
    if i.size=z.cells.size/\0<i.size/\len*i.size<=16777216 then
     match ss (fun x=>some (x*i.size,i.size)) ((List.replicate len (z.cells.toList.map aG.v)).flatten) (parts.map fun x=>(x.1,st.bp x.2)) with
     | some r=>
      match (oY i.size len r).mapM (fun x=>x.mapM aG.jx) with
      | some es=>if AH d (tp 0 (oY i.size len r)) then some (i.size,es,tp 0 (oY i.size len r)) else none
      | none=>none
     | none=>none
    else none
   | none=>none
  | none=>none
 | _=>none
theorem awT{P:Program}{st:aD}{d:Nat}{t:TypeId}{len:Nat}{parts:List (Nat×Operand)}{k:Nat}{es:List (List D)}(h:Fm P st d t len parts=some (k,es,ms))(ans:List cb):
  Dr P st d t len parts ans=some (⟨(st.ki d ms).env.set d (.one (.J (.own d) k es)),(st.ki d ms).boxes⟩,ans,[]):=by
 unfold Fm at h;unfold Dr;split at h
 ·rename_i e h1
  try rw[h1]
  split at h
  ·rename_i i U
   try simp only[U]
   split at h
   ·rename_i z aA
    try simp only[aA]
    split at h
    ·rename_i al
     try rw[bh al]
     split at h
     ·rename_i r aI
      try simp only[aI]
      split at h
      ·rename_i cy a'
       try simp only[a']
       split at h
       ·rename_i bu;simp only[aX,bH]at h;obtain⟨rfl,rfl,rfl⟩:=h
        try rw[bh bu]
       cases h
      cases h
     cases h
    cases h
   cases h
  cases h
 cases h
theorem oO{α β:Type}{f:α->Option β}:∀{xs:List α} {ys:List β},xs.mapM f=some ys->ys.length=xs.length/\∀(i:Nat) (y:β),ys[i]?=some y->∃x,xs[i]?=some x/\f x=some y
 | [],ys,h=>by simp at h;subst h;exact⟨rfl,fun i y bk=>by simp at bk⟩
 | x::xs,ys,h=>by
  rw[Bu]at h;cases e:f x with
  | none=>simp[e]at h
  | some mS=>
   cases e2:xs.mapM f with
   | none=>simp[e,e2]at h
   | some Jt=>
    simp[e,e2]at h;subst h;obtain⟨h1,U⟩:=oO e2;refine⟨by simp[h1],fun i y bk=>?_⟩;cases i with
    | zero=>simp at bk;subst bk;exact⟨x,rfl,e⟩
    | succ i=>exact U i y (by simpa using bk)
theorem Tp{α:Type}(e:List α):∀(n i j:Nat),i<n->j<e.length->((List.replicate n e).flatten)[i*e.length+j]?=e[j]?
 | 0,i,j,hi,_=>by omega
 | n+1,0,j,_,a8=>by
  rw[List.replicate_succ,List.flatten_cons,qS,Nat.zero_mul,dV,bh a8]
 | n+1,i+1,j,hi,a8=>by
  rw[List.replicate_succ,List.flatten_cons,qS,bq (by rw[hQ];omega)];have:=Tp e n i j (by omega) a8;rw[<-this]
  congr 1
  rw[hQ];omega
theorem cD.buildSlice{P:Program}{w0:eN}{st bB:aD}{a:Act}{w:World}{ω:Own}{τ:Nat->Nat×Value}{d:Nat}{t:TypeId}{len:Nat}{parts:Array (Nat×Operand)}{ans cq:List cb}{obs:List Prop}
  (aZ:cD w0 st a w ω τ) (h:Dr P st d t len parts.toList ans=some (bB,cq,obs)):
  ∃z aM,(Instr.buildSlice t len (parts.map fun (i,x)=>(i,a.eval x))).run P w=.ok z aM/\Rel w0 bB (a.put (some d) z) aM:=by
 unfold Dr at h;split at h
 ·rename_i e hu;split at h
  ·rename_i i hi;split at h
   ·rename_i z aL;split at h
    ·rename_i al;obtain⟨lp,lL,ma⟩:=al;split at h
     ·rename_i r aB;simp only at h;split at h
      ·rename_i es FO;split at h
       ·rename_i Sp;simp only[aX,bH]at h;obtain⟨rfl,_,_⟩:=h;have np:(z.cells.toList.map aG.v).length=i.size:=by simp[lp]
        have aCZ:((List.replicate len (z.cells.toList.map aG.v)).flatten).length=len*i.size:=by simp[lp]
        have Gf:lm (Sat w ω τ) ((List.replicate len (z.cells.toList.map aG.v)).flatten) (madeCells z.cells (len*i.size)):=by
         refine⟨by simp[madeCells,lp],fun x l aj=>?_⟩;have bM:x<len*i.size:=by
          have:=(gh.1 aj).1;omega
         have aa:x=(x / i.size)*i.size+x % i.size:=by rw[Nat.mul_comm];exact (Nat.div_add_mod x i.size).symm
         have aC:x / i.size<len:=Nat.div_lt_of_lt_mul (by rw[Nat.mul_comm];exact bM);have hm:x % i.size<i.size:=Nat.mod_lt _ lL;have h1:=Tp (z.cells.toList.map aG.v) len (x / i.size) (x % i.size) aC (by omega);rw[np,<-aa,aj]at h1;have U:=h1.symm;rw[eg,b5]at U;obtain⟨u,kA,rfl⟩:=U;refine⟨u,?_,rfl⟩;have aA:=Tm z.cells len (x / i.size) (x % i.size) aC (by omega);rw[<-lp,<-aa]at aA;rw[aA];simpa using kA
        obtain⟨out,KR,F0⟩:=Mp (vals:=parts.toList.map fun x=>(x.1,a.eval x.2)) (by simp) (fun j fW p a8=>by
         rw[eg,b5]at a8;obtain⟨⟨i2,x⟩,aa,e⟩:=a8;simp only[bH]at e;obtain⟨rfl,rfl⟩:=e;exact⟨a.eval x,by simp only[eg,aa,si],aZ.bp x⟩) aB Gf
        obtain⟨jJ,c'⟩:=oO FO;have hlen:es.length=len:=by rw[jJ,Tn]
        have ac1:∀x j tQ,dd es x j=some tQ->∃l,x<len/\j<i.size/\r[x*i.size+j]?=some l/\l.jx=some tQ/\∃xc,(oY i.size len r)[x]?=some xc/\xc[j]?=some l:=by
         intro x j tQ aF;unfold dd at aF;cases aa:es[x]? with
         | none=>simp[aa]at aF
         | some e'=>
          rw[aa,qU]at aF;obtain⟨xc,h1,U⟩:=c' x e' aa;obtain⟨aA,aI⟩:=oO U;obtain⟨l,a',bu⟩:=aI j tQ aF;have acE:=h1;rw[M5]at h1;split at h1
          ·simp only[aX]at h1;subst h1;have acF:=a';rw[kK]at a';split at a'
           ·rw[lY]at a';exact⟨l,‹_›,‹_›,a',bu,_,acE,acF⟩
           cases a'
          cases h1
        have SA:r.length=len*i.size:=by
         have:=F0.1;have U:out.size=(madeCells z.cells (len*i.size)).size:=by
          have:=F0.1;have aI:∀(fR:List (Nat×aH)) (kh hh:List aG),ss (fun x=>some (x*i.size,i.size)) kh fR=some hh->hh.length=kh.length:=by
           intro fR;induction fR with
           | nil=>intro kh hh h;simp[ss]at h;rw[h]
           | cons x fR dL=>
            intro kh hh h;obtain⟨fM,gO⟩:=x;simp only[ss]at h;split at h
            ·split at h
             ·rename_i bK;rw[dL _ _ h,Mo (by omega)]
             cases h
            cases h
          have:=aI _ _ _ aB;simp[madeCells];omega
         simp[madeCells]at U;omega
        have hx:(w.alloc (.cells out e)).heap[w.heap.size]?=some (.cells out e (0,0)):=oX _ _;have xe:=aZ.ki d (awR Sp) (tp 0 (oY i.size len r)) (k:=i.size) (cap:=len) (es:=es) (w1:=w.alloc (.cells out e))
         ((hq.refl _ _).alloc (fl _) _) hx (by omega) (by rw[F0.1,SA];exact fl _)
         (fun e' he=>by
          obtain⟨x,aa⟩:=p4.1 he;obtain⟨xc,h1,U⟩:=c' x e' aa;obtain⟨aA,_⟩:=oO U;rw[aA];rw[M5]at h1;split at h1
          ·simp only[aX]at h1;subst h1;have:(x+1)*i.size<=len*i.size:=iA _ (by omega);rw[hQ]at this;simp;omega
          cases h1)
         (fun x j tQ aF=>by
          obtain⟨l,h1,U,aA,aI,xc,a',bu⟩:=ac1 x j tQ aF;obtain⟨u,bU,cI⟩:=F0.2 _ _ aA;refine⟨u,bU,l,aI,cI,fun s ai=>?_⟩;have:=To (oY i.size len r) 0 x j xc l s a' bu ai;rw[dV]at this;exact awS Sp this)
        rw[hlen]at xe;refine⟨_,_,?_,_,_,xe.1.put (p:=.one (.J (.own d) i.size es)) xe.2⟩;have sN:((Array.range (len*i.size)).map (fun x=>(if len*i.size=0 then (#[]:Array Value) else z.cells)[x % (if len*i.size=0 then (#[]:Array Value) else z.cells).size]!))=madeCells z.cells (len*i.size):=by
         unfold madeCells;by_cases bE:len*i.size=0
         ·simp[bE]
         simp[bE]
        have e:(Array.map (fun (x:Nat×Operand)=>(x.1,a.eval x.2)) parts).toList=parts.toList.map fun x=>(x.1,a.eval x.2):=by simp
        have adK:¬(len*i.size>2 ^ 24):=by have:(2:Nat) ^ 24=16777216:=(by decide);omega
        simp only[Instr.buildSlice,Sem.run_bind,run_underlying hu,Result.andThen_ok,sizeOf,typeInfo,run_program,hi,Sem.run_pure];rw[bq adK];by_cases bE:len*i.size=0
        ·simp only[bE,fU]at sN ⊢;simp only[Sem.run_pure,Sem.run_bind,Result.andThen_ok,e];rw[bE]at KR;rw[sN,KR];simp[newRow]
        simp only[bE,mr]at sN ⊢;simp only[zeroValue,typeInfo,Sem.run_bind,run_program,Result.andThen_ok,hi,aL,Sem.run_pure,e];rw[sN,KR];simp[newRow]
       cases h
      cases h
     cases h
    cases h
   cases h
  cases h
 cases h
end Go.Sx
namespace Go.Sx
open Go.RowKit
variable{w:World}{ω bc:Own}{k n:Nat}{es:List (List D)}
theorem bZ.ZW{aM:World}{R jF:List (Nat×Nat)->dp->Prop}{b off cap:Nat}(h:bZ w ω R (.J k es) (.slice (some ⟨b,off,none⟩) n cap))
  {arr cg:Array Value} {ty:TypeId} {cM:Nat×Nat} (aq:w.heap[b]?=some (.cells arr ty cM)) (er:aM.heap[b]?=some (.cells cg ty cM)) (dN:cg.size=arr.size)
  (acN:∀x,x<off+n*k->cg[x]?=arr[x]?) (FH:∀o,o=ω b->R [] o->jF [] (bc b)) (oJ:∀c p q,c<w.heap.size->R (p::q) (ω c)->jF (p::q) (bc c)/\aM.heap[c]?=w.heap[c]?):
  bZ aM bc jF (.J k es) (.slice (some ⟨b,off,none⟩) n cap):=by
 generalize bk:Value.slice (some ⟨b,off,none⟩) n cap=y at h;cases h with
 | nil=>cases bk;exact .nil _ _ _
 | row R k es fo rK q4 ln lG J2 us gj ef al ai hk hu aF=>
  simp only[Value.slice.injEq,aX,Addr.mk.injEq]at bk;obtain⟨⟨rfl,rfl,_⟩,rfl,rfl⟩:=bk;rw[aq]at gj;simp only[aX,Obj.cells.injEq]at gj;obtain⟨rfl,rfl,rfl⟩:=gj;refine .row jF k es b off cap cg ty cM us er (FH _ rfl ef) al (by omega) hk (fun i j d eK=>?_) (fun i j d eK=>(aF i j d eK).frame fun c q uc aC=>oJ c _ _ uc aC);rw[acN,hu i j d eK];have oG:i<es.length/\j<k:=by
   unfold dd at eK;grind
  have:(i+1)*k<=es.length*k:=iA _ oG.1;grind
variable{i j:Nat}
theorem uN{d:D}(hk:∀e∈es,e.length=k)(h:dd es i j=some d):i<es.length/\j<k:=by
 unfold dd at h;grind
variable{bS:List (List D)}
theorem Ds:dd (es++bS) i j=if i<es.length then dd es i j else dd bS (i-es.length) j:=by
 unfold dd;grind
theorem Tq(hk:∀e∈es,e.length=k)(hi:i<es.length)(a8:j<k):∃d,dd es i j=some d:=by
 simp_all[p5,dd]
def kn(t:Nat)(ed:Option Nat)(n:Nat):dp->dp
 | .tok s q=>if ed=some s then (match q with | []=>.bJ | p::ee=>.tok t ((n+p.1,p.2)::ee)) else .tok s q
 | o=>o
def iD(t:Nat)(ed:Option Nat):Tag->Option Tag
 | .free=>some .free
 | .own s=>if s=t then some (.ro t) else if ed=some s then none else some (.own s)
 | .ro s=>if s=t then none else if ed=some s then none else some (.ro s)
structure Src (P:Program) (w:World) (ω:Own) (k:Nat) (bS:List (List D)) (ed:Option Nat) (y:Value) (news:List Value):Prop where
 len:news.length=bS.length*k
 rows:∀e∈bS,e.length=k
 one:∀u∈news,u.oneCell'=true
 cell:∀i j d,dd bS i j=some d->∃u,news[i*k+j]?=some u/\((∃x,d=.v x/\u=x)\/∃s,ed=some s/\bZ w ω (fun q=>(Tag.own s).R ((i,j)::q)) d u)
 shape:((∃a,y=.slice a 0 0)/\bS=[])\/∃b o c,y=.slice (some ⟨b,o,none⟩) bS.length c/\∀j v,news[j]?=some v->w.cell? ((⟨b,o,none⟩:Addr).add j)=some v
variable{t:Nat}{ed:Option Nat}
theorem M7{o:dp}{id:Nat}:kn t ed n o=.box id<->o=.box id:=by
 cases o with
 | bJ=>simp[kn]
 | box i=>simp[kn]
 | tok s q=>
  simp only[kn];grind
theorem xJ{s:Nat}{q:List (Nat×Nat)}(h:ed≠some s):kn t ed n (.tok s q)=.tok s q:=by simp[kn,h]
theorem uC{w aM:World}{g ek:Tag}(lq:ed≠some t)(ar:iD t ed g=some ek)(cU:g≠.own t)
  (dr:∀c,c<w.heap.size->ω c≠.tok t []->bc c=kn t ed n (ω c)/\aM.heap[c]?=w.heap[c]?):
  ∀c q,c<w.heap.size->g.R q (ω c)->ek.R q (bc c)/\aM.heap[c]?=w.heap[c]?:=by
 intro c q al aB;cases g with
 | free=>
  simp only[iD,aX]at ar;subst ar;simp only[Tag.R]at aB;obtain⟨h1,U⟩:=dr c al (by rw[aB];simp);rw[h1,aB];exact⟨rfl,U⟩
 | own s=>
  simp only[iD]at ar;have ai:s≠t:=fun e=>cU (by rw[e])
  rw[bq ai]at ar;split at ar
  ·cases ar
  rename_i hm;simp only[aX]at ar;subst ar;simp_all[Tag.R,xJ]
 | ro s=>
  simp only[iD]at ar;split at ar
  ·cases ar
  rename_i ai;split at ar
  ·cases ar
  rename_i hm;simp only[aX]at ar;subst ar;simp only[Tag.R]at aB;rcases aB with aB | ⟨ee,aB⟩
  ·obtain⟨h1,U⟩:=dr c al (by rw[aB];simp);rw[h1,aB];exact⟨.inl rfl,U⟩
  obtain⟨h1,U⟩:=dr c al (by grind);rw[h1,aB,xJ hm];exact⟨.inr ⟨ee,rfl⟩,U⟩
def gU(τ:Nat->Nat×Value)(t k:Nat)(z:Value):Nat->Nat×Value:=fun s=>if s=t then (k,z) else τ s
variable{τ:Nat->Nat×Value}
theorem Gy{k:Nat}{z:Value}{g ek:Tag}{y:Nat×Value}(ar:iD t ed g=some ek)(bk:g.ev τ y):ek.ev (gU τ t k z) y:=by
 cases g with
 | free=>simp only[iD,aX]at ar;subst ar;exact trivial
 | own s=>
  simp only[iD]at ar;split at ar
  ·simp only[aX]at ar;subst ar;exact trivial
  split at ar
  ·cases ar
  simp only[aX]at ar;subst ar;simp_all[Tag.ev,gU,bq]
 | ro s=>
  simp only[iD]at ar;split at ar
  ·cases ar
  split at ar
  ·cases ar
  simp only[aX]at ar;subst ar;exact trivial
theorem JI{aM:World}{z:Value}(jM:t<dj)(lq:ed≠some t)
  (dr:∀c,c<w.heap.size->ω c≠.tok t []->bc c=kn t ed n (ω c)/\aM.heap[c]?=w.heap[c]?)
  (tZ:∀id b,ω b=.box id->bc b=.box id)
  (nm:∀es y,bZ w ω (Tag.own t).R (.J (τ t).1 es) y->y=(τ t).2->bZ aM bc (Tag.ro t).R (.J (τ t).1 es) y):
  ∀l v,Sat w ω τ l v->Sat aM bc (gU τ t k z) (l.cG (iD t ed) fun _=>true) v:=by
 intro l v ai;cases l with
 | cu=>exact trivial
 | v x=>exact ai
 | bR c=>exact ai
 | ptr id off=>
  simp only[aG.cG,fU];obtain⟨b,aq,e⟩:=ai;exact⟨b,tZ id b aq,e⟩
 | fr s vs=>
  simp only[aG.cG];split
  ·rename_i uX ar;split
   ·rename_i Cp;subst Cp;have cU:Tag.own uX≠.own t:=by
     grind[Tag.own.injEq,iD]
    obtain⟨b,ty,arr,e,a',aA,aP,bD⟩:=ai;have bM:b<w.heap.size:=(kt.1 aA).1;have hk:=uC (w:=w) (aM:=aM) lq ar cU dr b [] bM a';refine⟨b,ty,arr,e,hk.1,hk.2.trans aA,GK (fun c u al=>?_) aP bD⟩;cases c with
    | cu=>exact trivial
    | v x=>exact al
    | J g cf es=>
     simp only[fg.cG];cases ar:iD t ed g with
     | none=>exact trivial
     | some ek=>
      by_cases cU:g=.own t
      ·subst cU;simp only[iD,fU,aX]at ar;subst ar;obtain⟨h1,U⟩:=al;simp only[Tag.ev]at U;have e1:(τ t).1=cf:=by rw[U]
       have e2:(τ t).2=u:=by rw[U]
       exact⟨by grind,ad⟩
      exact⟨al.1.frame fun c q al aC=>uC lq ar cU dr c q al aC,Gy ar al.2⟩
   exact trivial
  exact trivial
 | aS s i j bt es m=>
  simp only[aG.cG];split
  ·rename_i uX ar;split
   ·rename_i Cp;subst Cp;have cU:Tag.own uX≠.own t:=by
     grind[Tag.own.injEq,iD]
    obtain⟨u,hu,h1,hm⟩:=ai;refine⟨u,hu,h1.frame fun c q al aC=>uC lq ar cU dr c _ al aC,fun bK=>?_⟩;obtain⟨kT,b,off,len,cap,arr,ty,cM,U,a',aA,aI⟩:=hm bK;have bM:b<w.heap.size:=(kt.1 aA).1;have hk:=uC (w:=w) (aM:=aM) lq ar cU dr b [] bM a';exact⟨kT,b,off,len,cap,arr,ty,cM,Gy (k:=k) (z:=z) ar U,hk.1,hk.2.trans aA,aI⟩
   exact trivial
  exact trivial
 | hr f ids=>
  simp only[aG.cG];split
  ·obtain⟨bs,e,aP,hi⟩:=ai;refine⟨bs,e,aP,fun i id hD=>?_⟩;grind
  grind
 | jd ds off=>
  obtain⟨b,e,aB⟩:=ai;exact⟨b,e,aB.frame fun c q al aC=>uC (g:=.free) (ek:=.free) lq rfl (by simp) dr c q al aC⟩
 | fd d=>exact bZ.frame ai fun c q al aC=>uC (g:=.free) (ek:=.free) lq rfl (by simp) dr c q al aC
 | e5 t0 eb dW=>exact⟨bZ.frame ai.1 fun c q al aC=>uC (g:=.free) (ek:=.free) lq rfl (by simp) dr c q al aC,fun bG=>(show gU τ t k z t0=τ t0 by simp only[gU];grind).trans (ai.2 bG)⟩
 | J g cf es=>
  simp only[aG.cG];cases ar:iD t ed g with
  | none=>exact trivial
  | some ek=>
   by_cases cU:g=.own t
   ·subst cU;simp only[iD,fU,aX]at ar;subst ar;obtain⟨h1,U⟩:=ai;simp only[Tag.ev]at U;have e1:(τ t).1=cf:=by rw[U]
    have e2:(τ t).2=v:=by rw[U]
    exact⟨by grind,ad⟩
   exact⟨ai.1.frame fun c q al aC=>uC lq ar cU dr c q al aC,Gy ar ai.2⟩
 | ep g cf es i j=>
  simp only[aG.cG];cases ar:iD t ed g with
  | none=>exact trivial
  | some ek=>
   obtain⟨b,off,cap,e,hi,aB,bK⟩:=ai;by_cases cU:g=.own t
   ·subst cU;simp only[iD,fU,aX]at ar;subst ar;simp only[Tag.ev]at bK;have e1:(τ t).1=cf:=by rw[bK]
    have e2:(τ t).2=Value.slice (some ⟨b,off,none⟩) es.length cap:=by rw[bK]
    exact⟨b,off,cap,e,hi,by grind,ad⟩
   exact⟨b,off,cap,e,hi,aB.frame fun c q al aC=>uC lq ar cU dr c q al aC,Gy ar bK⟩
def aD.y6(st:aD)(t:Nat)(ed:Option Nat):aD:=st.map (aG.cG (iD t ed) fun _=>true)
variable{y:Value}
theorem Tr{P:Program}{t ty e:TypeId}{i:TypeInfo}(bG:P.underlying t=some (.slice e))(hi:P.info? e=some i)(w:World){hN:Value}
  (bk:∃a n c,y=.slice a n c/\n<=c) (lP:∃a c,hN=.slice a 0 c):
  (Builtin.append_ #[t,t] ty #[y,hN]).run P w=.ok y w:=by
 obtain⟨a,n,c,rfl,aP⟩:=bk;obtain⟨a2,c2,rfl⟩:=lP;cases a<;>cases a2<;>
  simp[Builtin.append_,run_underlying bG,sizeOf,typeInfo,hi,Builtin.lenOf,Builtin.firstCells,loadCells,loadCellsFrom,storeCells, *]
theorem Gz{P:Program}{t ty e:TypeId}{i:TypeInfo}(bG:P.underlying t=some (.slice e))(hi:P.info? e=some i)(w:World)
  (b off n cap:Nat) (arr:Array Value) (jy:TypeId) (ar:w.heap[b]?=some (.cells arr jy (0,0)))
  (ct:Addr) (m c:Nat) (news:List Value) (aj:news.length=m*i.size) (ke:∀j u,news[j]?=some u->w.cell? (ct.add j)=some u) (h1:∀u∈news,u.oneCell'=true)
  (pt:n+m<=cap) (eh:off+n*i.size+news.length<=arr.size):
  (Builtin.append_ #[t,t] ty #[.slice (some ⟨b,off,none⟩) n cap,.slice (some ct) m c]).run P w=
   .ok (.slice (some ⟨b,off,none⟩) (n+m) cap) (w.setRow b (arr.toList.take (off+n*i.size)++news++arr.toList.drop (off+n*i.size+news.length)).toArray):=by
 have br:=run_firstCells_some (P:=P) w i.size m ct m c news aj ke;have fQ:=run_storeCells_at P b (off+n*i.size) jy news 0 arr w ar (by grind) h1;simp only[o7]at fQ;simp[Builtin.append_,run_underlying bG,sizeOf,typeInfo,hi,Builtin.lenOf,pt,br,rO,fQ]
theorem Src.RM{P:Program}{aM:World}{bc:Own}{n:Nat}{news:List Value}(h:Src P w ω k bS ed y news)(lq:ed≠some t)
  (dr:∀c,c<w.heap.size->ω c≠.tok t []->bc c=kn t ed n (ω c)/\aM.heap[c]?=w.heap[c]?) {i j:Nat} {d:D} (aF:dd bS i j=some d):
  ∃u,news[i*k+j]?=some u/\bZ aM bc (fun q=>(Tag.own t).R ((n+i,j)::q)) d u:=by
 obtain⟨u,h1,U⟩:=h.cell i j d aF;refine⟨u,h1,?_⟩;rcases U with⟨x,rfl,rfl⟩ | ⟨s,ai,aB⟩
 ·exact .v _ _ (h.one _ (f' h1))
 refine aB.frame fun c q al aC=>?_
 grind[Tag.R,kn]
theorem cD.append{P:Program}{w0:eN}{st:aD}{a:Act}(aZ:cD w0 st a w ω τ){hN:Value}{news:List Value}
  (hp:Sat w ω τ (.J (.own t) k es) y) (jL:Src P w ω k bS ed hN news) (lq:ed≠some t) {ty iK e:TypeId} {i:TypeInfo} {z:Value}
  (bG:P.underlying iK=some (.slice e)) (hi:P.info? e=some i) (aL:i.zero=some z) (hk:i.size=k) (qw:z.cells.size=k)
  (ht:(es.length+bS.length)*i.bytes<=140737488355328) (gj:es.length+bS.length<=9223372036854775807) (jM:t<dj):
  ∃r aM bc,(Builtin.append_ #[iK,iK] ty #[y,hN]).run P w=.ok r aM/\cD w0 (st.y6 t ed) a aM bc (gU τ t k r)/\Sat aM bc (gU τ t k r) (.J (.own t) k (es++bS)) r:=by
 subst hk;obtain⟨aB,bK⟩:=hp;simp only[Tag.ev]at bK;have e1:(τ t).1=i.size:=by rw[bK]
 have e2:(τ t).2=y:=by rw[bK]
 have Kx:∀r:Value,∀s,dj<=s->gU τ t i.size r s=τ s:=fun r s ai=>by simp only[gU];grind
 have adp:(Tag.own t).ev (gU τ t i.size y) (i.size,y):=by simp[Tag.ev,gU]
 by_cases hm:bS.length=0
 ·
  have Kv:bS=[]:=u' hm;subst Kv
  let bc:Own:=fun c=>kn t ed es.length (ω c)
  have dr:∀c,c<w.heap.size->ω c≠.tok t []->bc c=kn t ed es.length (ω c)/\w.heap[c]?=w.heap[c]?:=fun c _ _=>⟨rfl,rfl⟩
  have fG:(Builtin.append_ #[iK,iK] ty #[y,hN]).run P w=.ok y w:=by
   refine Tr bG hi w ?_ ?_
   ·cases aB with
    | nil _ _ a0=>grind
    | row R k es b off cap arr ty cM us aq ef al ai hk hu aF=>grind
   rcases jL.shape with⟨⟨a,h⟩,_⟩ | ⟨b,o,c,h,_⟩
   ·grind
   grind
  refine⟨y,w,bc,fG,aZ.dG _ (JI jM lq dr (fun id b aq=>by grind[kn]) ?_) aZ.below ?_ ?_ ?_ (Kx _),?_,adp⟩
  ·intro cy hz eX _;refine eX.frame fun c q al aC=>⟨?_,rfl⟩
   grind[Tag.R,xJ]
  ·intro b aq;have:ω b≠.bJ:=fun e=>by grind[kn]
   exact aZ.owned b this
  ·intro id b aq;exact⟨by grind[kn],rfl⟩
  ·intro id b aq;exact M7.1 aq
  rw[gR];refine aB.frame fun c q al aC=>⟨?_,rfl⟩
  grind[Tag.R,xJ]
 have Cf:0<bS.length:=by omega
 rcases jL.shape with⟨_,h⟩ | ⟨bR,k',lW,rfl,ke⟩
 ·grind
 have grown:∀(w1:World) (cg:Array Value) (r:Value) (na:Nat),hq w.heap.size w w1->w1.heap[w.heap.size]?=some (.cells cg e (0,0))->r=.slice (some ⟨w.heap.size,0,none⟩) (es.length+bS.length) na->
   es.length+bS.length<=na->na*i.size<=cg.size->(∀fW j d,dd es fW j=some d->∃u,cg[fW*i.size+j]?=some u/\∃R:List (Nat×Nat)->dp->Prop,(∀q o,R q o->o=.tok t ((fW,j)::q))/\bZ w ω R d u)->
   (∀x u,news[x]?=some u->cg[es.length*i.size+x]?=some u)->(∀e∈es,e.length=i.size)->
   ∃bc,cD w0 (st.y6 t ed) a w1 bc (gU τ t i.size r)/\Sat w1 bc (gU τ t i.size r) (.J (.own t) i.size (es++bS)) r:=by
  intro w1 cg r na l' hx KV fP dN hold FX xt;subst KV
  let bc:Own:=fun c=>if c=w.heap.size then .tok t [] else @ite _ (ω c=.tok t []) (Classical.propDecidable _) .bJ (kn t ed es.length (ω c))
  have aC0:ω w.heap.size=.bJ:=aZ.owned.fresh (fl _);have dr:∀c,c<w.heap.size->ω c≠.tok t []->bc c=kn t ed es.length (ω c)/\w1.heap[c]?=w.heap[c]?:=by
   intro c al cU;refine⟨?_,l'.block c al⟩;grind
  have pv:bc w.heap.size=.tok t []:=by simp[bc]
  have oJ:∀c p q,c<w.heap.size->ω c=.tok t (p::q)->bc c=.tok t (p::q):=by
   grind[xJ]
  refine⟨bc,aZ.dG _ (JI jM lq dr ?_ ?_) (aZ.below.next l') ?_ ?_ ?_ (Kx _),?_,by simp[Tag.ev,gU]⟩
  ·intro id b aq;have bM:=aZ.owned.lt (b:=b) (by simp[aq]);rw[(dr b bM (by rw[aq];simp)).1,aq];rfl
  ·intro cy hz eX _;refine eX.frame fun c q al aC=>⟨?_,l'.block c al⟩
   simp only[Tag.R]at aC ⊢;cases q with
   | nil=>grind
   | cons p q=>grind
  ·intro b aq;by_cases zo:b=w.heap.size
   ·subst zo;exact⟨.inl aZ.below.size,cg,e,hx⟩
   have:ω b≠.bJ:=by
    intro e';simp only[bc]at aq;simp_all[bq,kn]
   obtain⟨aA,ln,lG,aI⟩:=aZ.owned b this;grind
  ·intro id b aq;have bM:=aZ.owned.lt (b:=b) (by simp[aq]);obtain⟨h1,U⟩:=dr b bM (by rw[aq];simp);exact⟨by rw[h1,aq];rfl,U⟩
  ·intro id b aq;by_cases zo:b=w.heap.size
   ·grind
   simp only[bc]at aq;rw[bq zo]at aq;split at aq
   ·cases aq
   exact M7.1 aq
  have fq:∀x j d,dd (es++bS) x j=some d->∃u,cg[x*i.size+j]?=some u/\bZ w1 bc (fun q=>(Tag.own t).R ((x,j)::q)) d u:=by
   intro x j d aF;rw[Ds]at aF;split at aF
   ·obtain⟨u,h1,R,ef,U⟩:=hold x j d aF;refine⟨u,h1,U.frame fun c q al aC=>⟨?_,l'.block c al⟩⟩;exact oJ c _ _ al (ef q _ aC)
   rename_i aa;obtain⟨u,h1,U⟩:=jL.RM (aM:=w1) (bc:=bc) (n:=es.length) lq dr aF;refine⟨u,?_,?_⟩
   ·rw[<-FX _ u h1]
    congr 1
    have:x=es.length+(x-es.length):=by omega
    grind
   simp_all
  have hlen:(es++bS).length=es.length+bS.length:=lH;have rE:∀e∈es++bS,e.length=i.size:=by
   intro e' he;rcases gg.1 he with h | h
   ·grind
   exact jL.rows e' h
  have:=bZ.row (w:=w1) (ω:=bc) (Tag.own t).R i.size (es++bS) w.heap.size 0 na cg e (0,0) (fun x j=>cg.getD (x*i.size+j) undef) hx pv (by omega) (by omega) rE
   (fun x j d aF=>by obtain⟨u,h1,_⟩:=fq x j d aF;simp_all)
   (fun x j d aF=>by obtain⟨u,h1,U⟩:=fq x j d aF;simp_all)
  grind
 generalize SP:y=mS at aB;cases aB with
 | nil _ _ a0=>
  subst SP;simp only[ej,dV]at ht gj;have fG:(Builtin.append_ #[iK,iK] ty #[.slice a0 0 0,.slice (some ⟨bR,k',none⟩) bS.length lW]).run P w=
    .ok (.slice (some ⟨w.heap.size,0,none⟩) bS.length (grownCap w bS.length 0 e)) (w.drew.alloc (.cells (news.toArray++Builtin.zeroCells z.cells (grownCap w bS.length 0 e-bS.length)) e)):=by
   cases a0 with
   | none=>exact run_append_nil (P:=P) w iK ty e i z bG hi aL ⟨bR,k',none⟩ bS.length lW news jL.len ke Cf (by omega) (by omega)
   | some ch=>
    have:=run_append_grow (P:=P) w iK ty e i z bG hi aL ch 0 0 [] (by simp) (fun j v bD=>by simp at bD) ⟨bR,k',none⟩ bS.length lW news jL.len ke (by omega) (by omega) (growslice_fits (by omega) (by grind));grind
  have qn:=grownCap_ge w bS.length 0 e;obtain⟨bc,h1,U⟩:=grown _ (news.toArray++Builtin.zeroCells z.cells (grownCap w bS.length 0 e-bS.length)) (.slice (some ⟨w.heap.size,0,none⟩) bS.length (grownCap w bS.length 0 e)) (grownCap w bS.length 0 e)
   (((hq.refl _ _).drew).alloc (fl _) _) (oX _ _) (by simp) (by grind) (by
    simp only[u9,p2,size_zeroCells,jL.len,qw,<-hQ];grind)
   (fun fW j d aF=>by grind[dd]) (fun x u aa=>by
    grind) (fun e he=>by cases he)
  grind
 | row R k es b off cap arr jy cM us aq ef al ai hv hu aF=>
  have l9:ω b=.tok t []:=ef;obtain⟨xq,vf,wQ,iq⟩:=aZ.owned b (by grind);rw[aq]at iq;simp only[aX,Obj.cells.injEq]at iq;obtain⟨rfl,rfl,rfl⟩:=iq;have xi:b<w.heap.size:=(kt.1 aq).1;by_cases pt:es.length+bS.length<=cap
  ·
   have hmul:(es.length+bS.length)*i.size<=cap*i.size:=iA _ pt;rw[hQ]at hmul;have xp:=jL.len;have eh:off+es.length*i.size+news.length<=arr.size:=by omega
   have fG:=Gz (P:=P) (ty:=ty) bG hi w b off es.length cap arr jy aq ⟨bR,k',none⟩ bS.length lW news jL.len ke jL.one pt eh;generalize qj:(arr.toList.take (off+es.length*i.size)++news++arr.toList.drop (off+es.length*i.size+news.length)).toArray=cg at fG;have jI:∀x:Nat,cg[x]?=if off+es.length*i.size<=x/\x<off+es.length*i.size+news.length then news[x-(off+es.length*i.size)]? else arr[x]?:=by
    intro x;rw[<-qj,p1,Dq (by grind)];simp
   have zG:cg.size=arr.size:=by grind
   have me:=setRow_heap w b arr cg jy (0,0) aq
   let bc:Own:=fun c=>kn t ed es.length (ω c)
   have dr:∀c,c<w.heap.size->ω c≠.tok t []->bc c=kn t ed es.length (ω c)/\(w.setRow b cg).heap[c]?=w.heap[c]?:=fun c _ cU=>
    ⟨rfl,setRow_other w b c cg fun e=>cU (by grind)⟩
   have pv:bc b=.tok t []:=by grind[xJ]
   have oJ:∀c p q,c<w.heap.size->ω c=.tok t (p::q)->bc c=.tok t (p::q)/\(w.setRow b cg).heap[c]?=w.heap[c]?:=by
    intro c p q al aC;obtain⟨h1,U⟩:=dr c al (by rw[aC];simp);rw[h1,aC,xJ lq];grind
   refine⟨_,_,bc,fG,aZ.dG _ (JI jM lq dr (fun id c kc=>by grind[kn]) ?_) ?_ ?_ ?_ ?_ (Kx _),?_,by simp[Tag.ev,gU]⟩
   ·intro cy hz eX rq;rw[rq,e2,SP]at eX ⊢;rw[e1]at eX ⊢;have ni:es.length=cy.length:=by
     obtain⟨_,_,h⟩:=eX.len;grind
    refine bZ.ZW eX aq me zG (fun x aa=>?_) (fun o aW zE=>?_) (fun c p q al aC=>?_)
    ·grind
    ·right;grind
    grind[Tag.R]
   ·exact aZ.below.setRow xq cg
   ·intro c kc;have:ω c≠.bJ:=fun e=>by grind[kn]
    obtain⟨aA,ln,lG,aI⟩:=aZ.owned c this;grind[setRow_other]
   ·grind[id,kn,setRow_other]
   ·intro id c kc;exact M7.1 kc
   have fq:∀x j d,dd (es++bS) x j=some d->∃u,cg[off+x*i.size+j]?=some u/\bZ (w.setRow b cg) bc (fun q=>(Tag.own t).R ((x,j)::q)) d u:=by
    intro x j d ew;rw[Ds]at ew;split at ew
    ·rename_i aa;have Ce:=(uN hv ew).2;refine⟨us x j,?_,(aF x j d ew).frame fun c q al aC=>?_⟩
     ·have:(x+1)*i.size<=es.length*i.size:=iA _ aa;rw[hQ]at this;rw[jI,bq (by omega),hu x j d ew]
     exact oJ c _ _ al aC
    rename_i aa;obtain⟨u,h1,U⟩:=jL.RM (aM:=w.setRow b cg) (bc:=bc) (n:=es.length) lq dr ew;have aex:=(gh.1 h1).1;have sM:x*i.size=es.length*i.size+(x-es.length)*i.size:=by rw[<-hQ];grind
    refine⟨u,?_,?_⟩
    ·rw[jI,bh (by omega),<-h1]
     congr 1
     omega
    rwa[show es.length+(x-es.length)=x by omega]at U
   have hlen:(es++bS).length=es.length+bS.length:=lH;have rE:∀e∈es++bS,e.length=i.size:=by
    intro e' he;rcases gg.1 he with h | h
    ·grind
    exact jL.rows e' h
   have:=bZ.row (w:=w.setRow b cg) (ω:=bc) (Tag.own t).R i.size (es++bS) b off cap cg jy (0,0) (fun x j=>cg.getD (off+x*i.size+j) undef) me pv (by omega) (by omega) rE
    (fun x j d aF=>by obtain⟨u,h1,_⟩:=fq x j d aF;rw[h1];simp[eW,h1])
    (fun x j d aF=>by obtain⟨u,h1,U⟩:=fq x j d aF;have:cg.getD (off+x*i.size+j) undef=u:=(by simp[eW,h1]);grind)
   grind
  -- it aCy
  have hmul:es.length*i.size<=cap*i.size:=iA _ al;have sG:((arr.toList.drop off).take (es.length*i.size)).length=es.length*i.size:=by simp;omega
  have fG:=run_append_grow (P:=P) w iK ty e i z bG hi aL ⟨b,off,none⟩ es.length cap ((arr.toList.drop off).take (es.length*i.size)) sG (fun j v bD=>by
   grind[rO,cell_of_row]) ⟨bR,k',none⟩ bS.length lW news jL.len ke (by omega) (by omega) (growslice_fits (by omega) ht)
  have qn:=grownCap_ge w (es.length+bS.length) cap e;obtain⟨bc,h1,U⟩:=grown _ (((arr.toList.drop off).take (es.length*i.size)).toArray++news.toArray++Builtin.zeroCells z.cells (grownCap w (es.length+bS.length) cap e-(es.length+bS.length))) _ (grownCap w (es.length+bS.length) cap e)
   (((hq.refl _ _).drew).alloc (fl _) _) (oX _ _) rfl qn (by
    simp only[u9,p2,size_zeroCells,jL.len,qw,sG,<-hQ];grind)
   (fun fW j d eK=>by
    obtain⟨zw,eE⟩:=uN hv eK;have:(fW+1)*i.size<=es.length*i.size:=iA _ zw;rw[hQ]at this;refine⟨us fW j,?_,fun q=>(Tag.own t).R ((fW,j)::q),fun q o h=>h,aF fW j d eK⟩;grind)
   (fun x u aa=>by
    have gk:=(gh.1 aa).1;rw[kr,bh (by grind),kr,bq (by grind)];grind) hv
  grind
end Go.Sx
namespace Go.Sx
open Go.RowKit
def Flat(es:List (List D)):Prop:=∀e∈es,∀d∈e,∃x,d=.v x
theorem awU{es:List (List D)}{i j:Nat}{d:D}(h:dd es i j=some d):∃e∈es,d∈e:=by
 unfold dd at h;cases aa:es[i]? with
 | none=>grind
 | some e=>rw[aa,qU]at h;exact⟨e,f' aa,f' h⟩
variable{P:Program}{w:World}{ω:Own}{k:Nat}{ed:Option Nat}
theorem Src.empty(a:Option Addr):Src P w ω k [] ed (.slice a 0 0) [] where
 len:=by simp
 rows:=fun _ h=>(by cases h)
 one:=fun _ h=>(by cases h)
 cell:=fun i j d aF=>by grind[dd]
 shape:=.inl ⟨⟨a,rfl⟩,rfl⟩
theorem Src.of{R:List (Nat×Nat)->dp->Prop}{bS:List (List D)}{y:Value}(h:bZ w ω R (.J k bS) y)(oH:0<k)
  (al:Flat bS\/∃s,ed=some s/\R=(Tag.own s).R):∃news,Src P w ω k bS ed y news:=by
 cases h with
 | nil=>exact⟨[],Src.empty _⟩
 | row R k es b off cap arr ty cM us aq ef fP ai hv hu aF=>
  have hmul:bS.length*k<=cap*k:=iA _ fP;have jI:∀x:Nat,((arr.toList.drop off).take (bS.length*k))[x]?=if x<bS.length*k then arr[off+x]? else none:=by
   grind
  have fq:∀i j d,dd bS i j=some d->((arr.toList.drop off).take (bS.length*k))[i*k+j]?=some (us i j):=by
   intro i j d eK;obtain⟨hi,a8⟩:=uN hv eK;have:(i+1)*k<=bS.length*k:=iA _ hi;grind
  refine⟨(arr.toList.drop off).take (bS.length*k),by simp;omega,hv,?_,?_,.inr ⟨b,off,cap,rfl,?_⟩⟩
  ·intro u kA;obtain⟨x,aa⟩:=p4.1 kA;have bM:x<bS.length*k:=by
    grind
   have sM:x=(x / k)*k+x % k:=by grind[Nat.mul_comm,Nat.div_add_mod]
   have aC:x / k<bS.length:=Nat.div_lt_of_lt_mul (by grind);obtain⟨d,eK⟩:=Tq hv aC (Nat.mod_lt x oH);have h1:=fq _ _ _ eK;rw[<-sM,aa]at h1;rw[gX h1];exact (aF _ _ _ eK).qD
  ·intro i j d eK;refine⟨us i j,fq i j d eK,?_⟩;rcases al with br | ⟨s,mG,xv⟩
   ·obtain⟨e,he,Ca⟩:=awU eK;obtain⟨x,rfl⟩:=br e he d Ca;have:=aF i j _ eK;cases aA:us i j<;>(rw[aA]at this;cases this;grind)
   simp_all
  grind[rO,cell_of_row]
variable{τ:Nat->Nat×Value}
theorem cD.LS{w0:eN}{st:aD}{a:Act}(h:cD w0 st a w ω τ)(t k:Nat)(jM:t<dj):
  ∃bc,cD w0 (st.ki t []) a w bc (gU τ t k (.slice none 0 0))/\Sat w bc (gU τ t k (.slice none 0 0)) (.J (.own t) k []) (.slice none 0 0):=by
 refine⟨fun b=>qE t [] (ω b),h.dG _ (mY.sat (g:=iW t []) (p:=fun _=>true) ⟨?_,?_,?_,rfl,fun s ai=>by simp only[gU];grind⟩) h.below ?_ ?_ ?_ (fun s ai=>by simp only[gU];grind),.nil _ _ _,by simp[Tag.ev,gU]⟩
 ·grind[Tl]
 ·intro g ek y ar bk;cases g with
  | free=>simp only[iW,aX]at ar;subst ar;exact trivial
  | own s=>
   simp only[iW]at ar;split at ar
   ·simp only[aX]at ar;subst ar;exact trivial
   split at ar
   ·cases ar
   simp only[aX]at ar;subst ar;simp_all[Tag.ev,gU,bq]
  | ro s=>
   simp only[iW]at ar;split at ar
   ·simp only[aX]at ar;subst ar;exact trivial
   split at ar
   ·cases ar
   simp only[aX]at ar;subst ar;exact trivial
 ·intro id b _ aq;exact GV.2 aq
 ·intro b aq;exact h.owned b fun e=>by simp only[e]at aq;exact aq rfl
 ·intro id b aq;exact⟨GV.2 aq,rfl⟩
 intro id b aq;exact GV.1 aq
def w9(t k:Nat)(q:aH)(ans:List cb):Option (List (List D)×Option Nat×List cb×List Prop):=
 match q.leaf,ans with
 | some (.J (.own s) cf bS),.wr::r=>if cf=k/\s≠t then some (bS,some s,r,[]) else none
 | some (.J _ cf bS),ans=>if cf=k then some (bS,none,ans,[Flat bS]) else none
 | some (.v (.slice none 0 0)),ans=>some ([],none,ans,[])
 | some (.aS _ _ _ cf bS .here),ans=>if cf=k then some (bS,none,ans,[Flat bS]) else none
 | some (.aS _ _ _ cf bS .mZ),ans=>if cf=k then some (bS,none,ans,[Flat bS]) else none
 | _,_=>none
theorem Ts{P:Program}{t:Nat}{q:aH}{y:Value}{ans cq:List cb}{bS:List (List D)}{obs:List Prop}(oH:0<k)
  (aC:cT (Sat w ω τ) q y) (h:w9 t k q ans=some (bS,ed,cq,obs)) (aW:c8 obs):ed≠some t/\∃news,Src P w ω k bS ed y news:=by
 unfold w9 at h;split at h
 ·rename_i s cf es r e;split at h
  ·rename_i al;obtain⟨rfl,cU⟩:=al;simp only[aX,bH]at h;obtain⟨rfl,rfl,_,_⟩:=h;exact⟨by grind,Src.of (aH.dX e aC).1 oH (.inr ⟨s,rfl,rfl⟩)⟩
  cases h
 ·rename_i g cf es e _;split at h
  ·rename_i al;subst al;simp only[aX,bH]at h;obtain⟨rfl,rfl,_,rfl⟩:=h;exact⟨by simp,Src.of (aH.dX e aC).1 oH (.inl aW.1)⟩
  cases h
 ·rename_i e;simp only[aX,bH]at h;obtain⟨rfl,rfl,_,_⟩:=h;have:y=.slice none 0 0:=aH.dX e aC;subst this;exact⟨by simp,[],Src.empty _⟩
 ·rename_i s Ee Ef cf es e;split at h
  ·rename_i al;subst al;simp only[aX,bH]at h;obtain⟨rfl,rfl,_,rfl⟩:=h;obtain⟨fC,rfl,aB,_⟩:=aH.dX e aC;exact⟨by simp,Src.of aB oH (.inl aW.1)⟩
  cases h
 ·rename_i s Ee Ef cf es e;split at h
  ·rename_i al;subst al;simp only[aX,bH]at h;obtain⟨rfl,rfl,_,rfl⟩:=h;obtain⟨fC,rfl,aB,_⟩:=aH.dX e aC;exact⟨by simp,Src.of aB oH (.inl aW.1)⟩
  cases h
 cases h
def Fi(d:Nat)(st:aD)(k:Nat)(p:aH):Option (aD×Nat×List (List D)):=
 match p.leaf with
 | some (.J (.own t) cf es)=>if cf=k then some (st,t,es) else none
 | some (.v (.slice none 0 0))=>some (st.ki d [],d,[])
 | _=>none
def Bj(P:Program)(st:aD)(d:Nat)(t:TypeId)(x y:Operand)(ans:List cb):Stepped:=
 match rP P t with
 | some (e,k)=>
  match P.info? e,Fi d st k (st.bp x) with
  | some i,some (st1,hL,es)=>
   match i.zero,w9 hL k (st1.bp y) ans with
   | some z,some (bS,ed,cq,obs)=>
    if z.cells.size=k/\0<k/\hL<dj then
     some (⟨(st1.y6 hL ed).env.set d (.one (.J (.own hL) k (es++bS))),(st1.y6 hL ed).boxes⟩,cq,((es.length+bS.length)*i.bytes<=140737488355328)::(es.length+bS.length<=9223372036854775807)::obs)
    else none
   | _,_=>none
  | _,_=>none
 | none=>none
theorem cD.Bj{w0:eN}{st bB:aD}{a:Act}{d:Nat}{t ty:TypeId}{x y:Operand}{ans cq:List cb}{obs:List Prop}
  (aZ:cD w0 st a w ω τ) (h:Sx.Bj P st d t x y ans=some (bB,cq,obs)) (aW:c8 obs):
  ∃z aM,(Builtin.append_ #[t,t] ty #[a.eval x,a.eval y]).run P w=.ok z aM/\Rel w0 bB (a.put (some d) z) aM:=by
 unfold Sx.Bj at h;split at h
 ·rename_i e k he;obtain⟨hu,i0,lM,zF⟩:=xH he;split at h
  ·rename_i i st1 hL es hi k1;rw[lM]at hi;have qq:=gX hi;subst qq;split at h
   ·rename_i z bS ed w8 zP aL jL;split at h
    ·rename_i al;simp only[aX,bH]at h;obtain⟨rfl,rfl,rfl⟩:=h;obtain⟨dt,dm,eY⟩:=aW;have:∃Jz Rp,cD w0 st1 a w Jz Rp/\Sat w Jz Rp (.J (.own hL) k es) (a.eval x):=by
      unfold Fi at k1;split at k1
      ·rename_i du cf cy aj;split at k1
       ·rename_i hv;subst hv;simp only[aX,bH]at k1;obtain⟨rfl,rfl,rfl⟩:=k1;exact⟨ω,τ,aZ,aH.dX aj (aZ.bp x)⟩
       cases k1
      ·rename_i aj;simp only[aX,bH]at k1;obtain⟨rfl,rfl,rfl⟩:=k1;have:a.eval x=.slice none 0 0:=aH.dX aj (aZ.bp x);rw[this];obtain⟨Jz,h1,U⟩:=aZ.LS d k al.2.2;grind
      cases k1
     obtain⟨Jz,Rp,ib,aa⟩:=this;obtain⟨lq,news,ai⟩:=Ts (P:=P) al.2.1 (ib.bp y) jL eY;obtain⟨r,aM,bc,h1,U,aA⟩:=ib.append (P:=P) (ty:=ty) aa ai lq hu lM aL zF al.1 dt dm al.2.2;exact⟨r,aM,h1,bc,_,U.put (p:=.one (.J (.own hL) k (es++bS))) aA⟩
    cases h
   cases h
  cases h
 cases h
