import Derived.Test.YtdchjefneblpgaaGreatR1
set_option linter.unusedVariables false
set_option linter.unusedSimpArgs false
namespace Go.Sx
open Go.RowKit
def rC(id:Nat)(fQ:List aF):List (Nat×List aF)->List (Nat×List aF)
 | []=>[]
 | (i,ls)::r=>if i=id then (i,fQ)::r else (i,ls)::rC id fQ r
variable{id:Nat}{fQ:List aF}
theorem zN:∀{bs:List (Nat×List aF)} {ls:List aF},dI id bs=some ls->dI id (rC id fQ bs)=some fQ
 | [],_,h=>by cases h
 | (i,l)::r,ls,h=>by
  simp only[rC];by_cases hi:i=id
  ·simp_all[bn,dI]
  simp_all[bw,dI,zN]
theorem zy{iK:Nat}(aZ:iK≠id):∀{bs:List (Nat×List aF)},dI iK (rC id fQ bs)=dI iK bs
 | []=>rfl
 | (i,l)::r=>by
  simp only[rC];by_cases hi:i=id
  ·simp_all[bn,dI,bw,Ne.symm]
  simp_all[bw,dI,zy]
theorem Tag.abn{t:Tag}{q:List (Nat×Nat)}:¬t.R q (.box id):=by
 cases t with
 | free=>exact fun h=>by cases h
 | own s=>exact fun h=>by cases h
 | ro s=>exact fun h=>by rcases h with h | ⟨_,h⟩<;>cases h
theorem Sat.aBn{w:World}{ω:Own}{τ:Nat->Nat×Value}{b:Nat}(aw:ω b=.box id)(cs:Array Value):∀(l:aF) (v:Value),Sat w ω τ l v->Sat (w.setRow b cs) ω τ l v:=by
 have bq:mI w ω τ (w.setRow b cs) ω τ sA (fun _=>true):=by
  refine⟨?_,?_,fun _ _ _ h=>h,rfl,fun _ _=>rfl⟩
  ·intro t du dD q ax _ aH;simp only[sA,aX]at ax;grind[setRow_other,Tag.abn]
  simp_all[sA,aX]
 intro l v ao;have:=bq.sat l v ao;cases l with
 | aN t i j k es m=>
  obtain⟨u,hu,h1,hm⟩:=ao;refine⟨u,hu,h1.frame fun c q ak aH=>⟨aH,setRow_other w b c cs fun e=>?_⟩,fun bN=>?_⟩
  ·grind
  obtain⟨kT,fY,off,len,cap,arr,ty,cZ,U,a',aA,aJ⟩:=hm bN;exact⟨kT,fY,off,len,cap,arr,ty,cZ,U,a',(setRow_other w b fY cs fun e=>by grind).trans aA,aJ⟩
 | fD t vs=>
  obtain⟨fY,ty,arr,e,a',aA,aZ,bI⟩:=ao;refine⟨fY,ty,arr,e,a',(setRow_other w b fY cs fun e=>by grind).trans aA,aZ,fun j c ak=>?_⟩;obtain⟨u,h1,U⟩:=bI j c ak;refine⟨u,h1,?_⟩;have eu:=bq.nE c u U;have:fj.cM sA c=c:=by cases c<;>simp[fj.cM,sA]
  grind
 | _=>simp_all[aF.cM,sA]
variable{w0:eR}{st:aC}{a:Act}{w:World}{ω:Own}{τ:Nat->Nat×Value}
theorem cK.aBs(h:cK w0 st a w ω τ){ls:List aF}(ax:dI id st.boxes=some ls)
  {b:Nat} (aw:ω b=.box id) {cm:Array Value} (ao:k0 (Sat w ω τ) fQ cm):
  cK w0 ⟨st.env,rC id fQ st.boxes⟩ a (w.setRow b cm) ω τ:=by
 obtain⟨dD,arr,ty,ey,hu,bN,e0⟩:=h.boxes id ls ax;have:=hu b aw;subst this;have Kc:=Sat.aBn (w:=w) (ω:=ω) (τ:=τ) aw cm;have lX:=setRow_heap w b arr cm ty (0,0) bN;refine⟨h.defers,h.size,?_,?_,h.fixed,h.pinned,?_,?_⟩
 ·exact h.below.setRow (h.owned b (by simp[aw])).1 cm
 ·intro c ak;obtain⟨h1,k1,lf,U⟩:=h.owned c ak;grind[setRow_other]
 ·intro i p hp;obtain⟨v,h1,U⟩:=h.env i p hp;refine⟨v,h1,?_⟩;have:=cV.map (f:=_root_.id) Kc U;have e:aI.map _root_.id p=p:=by
   cases p with
   | aG a=>cases a<;>simp[aI.map,bl.map]
   | gx as=>
    simp only[aI.map]
    congr 1
    have:bl.map _root_.id=_root_.id:=by funext a;cases a<;>simp[bl.map]
    simp_all
  grind
 intro i l al;by_cases e:i=id
 ·subst e;rw[zN ax]at al;have e:=gJ al;subst e;refine⟨b,cm,ty,aw,hu,lX,?_⟩;have:=ao.map (f:=_root_.id) Kc;simp_all
 rw[zy e]at al;obtain⟨c,k1,lf,ak,acj,tE,ob⟩:=h.boxes i l al;have cX:c≠b:=fun e'=>by grind
 refine⟨c,k1,lf,ak,acj,(setRow_other w b c cm cX).trans tE,?_⟩;have:=ob.map (f:=_root_.id) Kc;simp_all
abbrev Stepped:=Option (aC×List cd×List Prop)
def LI(st:aC)(d:Nat)(p:aI)(ans:List cd):Stepped:=
 if d<dj then p.leaves.map fun ls=>(⟨(st.vj d ls).env.set d (.one (.ptr d 0)),(st.vj d ls).boxes⟩,ans,[]) else none
variable{bz:aC}{ans cu:List cd}{obs:List Prop}
theorem cK.box{P:Program}{d:Nat}{p:aI}{v:Value}(a6:cK w0 st a w ω τ)
  (hp:cV (Sat w ω τ) p v) (h:LI st d p ans=some (bz,cu,obs)) (ty:TypeId):
  ∃z aP,(do pure (.pointer (some (<-newVar ty v))):Sem Value).run P w=.ok z aP/\Rel w0 bz (a.put (some d) z) aP:=by
 unfold LI at h;split at h
 case isFalse=>cases h
 rename_i u3;rw[b9]at h;obtain⟨ls,h1,h⟩:=h;simp only[bK]at h;obtain⟨rfl,_,_⟩:=h;obtain⟨ao,_⟩:=aI.zt h1 hp;obtain⟨bf,J9,dt⟩:=a6.vj d u3 ty ao;refine⟨.pointer (some ⟨w.heap.size,0,none⟩),w.alloc (.cells v.cells ty),by simp[newVar,newRow],bf,τ,?_⟩;exact J9.put (p:=.one (.ptr d 0)) ⟨w.heap.size,dt,rfl⟩
def LJ(P:Program)(st:aC)(d:Nat)(elem:TypeId)(ans:List cd):Stepped:=
 match P.info? elem with
 | some i=>match i.zero with
  | some z=>if d<dj then let ls:=z.cells.toList.map .v;some (⟨(st.vj d ls).env.set d (.one (.ptr d 0)),(st.vj d ls).boxes⟩,ans,[]) else none
  | none=>none
 | none=>none
theorem cK.alloc{P:Program}{d:Nat}{elem:TypeId}(a6:cK w0 st a w ω τ)
  (h:LJ P st d elem ans=some (bz,cu,obs)):
  ∃z aP,(Instr.alloc elem true (.tuple #[])).run P w=.ok z aP/\Rel w0 bz (a.put (some d) z) aP:=by
 unfold LJ at h;split at h
 ·rename_i i hi;split at h
  ·rename_i z bd;split at h
   case isFalse=>cases h
   rename_i u3;simp only[aX,bK]at h;obtain⟨rfl,_,_⟩:=h;have ao:k0 (Sat w ω τ) (z.cells.toList.map .v) z.cells:=by
    refine⟨by simp,fun j l al=>?_⟩;rw[dK,b9]at al;obtain⟨u,hu,rfl⟩:=al;exact⟨u,by grind,rfl⟩
   obtain⟨bf,J9,dt⟩:=a6.vj d u3 elem ao;refine⟨.pointer (some ⟨w.heap.size,0,none⟩),w.alloc (.cells z.cells elem),by simp_all[Instr.alloc,zeroValue,typeInfo,newVar,newRow],bf,τ,?_⟩;exact J9.put (p:=.one (.ptr d 0)) ⟨w.heap.size,dt,rfl⟩
  cases h
 cases h
def LK(P:Program)(st:aC)(t:TypeId)(id off:Nat)(q:aI)(ans:List cd):Stepped:=
 match dI id st.boxes,q.leaves,P.info? t with
 | some ls,some xs,some i=>if xs.length=i.size/\off+xs.length<=ls.length then some (⟨st.env,rC id (uN ls off xs) st.boxes⟩,ans,[]) else none
 | _,_,_=>none
theorem Cr{α:Type}{xs ys:List α}{off:Nat}(h:off+ys.length<=xs.length)(i:Nat):
  (xs.take off++ys++xs.drop (off+ys.length))[i]?=if off<=i/\i<off+ys.length then ys[i-off]? else xs[i]?:=by
 rw[nT,qE,nS,Nat.min_eq_left (by omega)];grind
theorem cK.aBr{P:Program}{t:TypeId}{off:Nat}{q:aI}{b:Nat}{v:Value}
  (a6:cK w0 st a w ω τ) (aw:ω b=.box id) (aH:cV (Sat w ω τ) q v) (h:LK P st t id off q ans=some (bz,cu,obs)):
  ∃aP,(Instr.storeAt t (.pointer (some ⟨b,off,none⟩)) v).run P w=.ok () aP/\Rel w0 bz a aP:=by
 unfold LK at h;split at h
 ·rename_i ls xs i e1 e2 cj;split at h
  ·rename_i ak;simp only[aX,bK]at h;obtain⟨rfl,_,_⟩:=h;obtain⟨ao,rc⟩:=aI.zt e2 aH;obtain⟨dD,arr,ty,ey,hu,bN,e0⟩:=a6.boxes id ls e1;have:=hu b aw;subst this;have fm:=run_storeCells_at P b off ty v.cells.toList 0 arr w bN (by simp;have:=ao.1;have:=e0.1;omega) rc;have ho:k0 (Sat w ω τ) (uN ls off xs) (arr.toList.take (off+0)++v.cells.toList++arr.toList.drop (off+0+v.cells.toList.length)).toArray:=by
    have h1:=ao.1;have U:=e0.1;refine⟨?_,fun j l al=>?_⟩
    ·grind[Lu]
    rw[S' (by omega)]at al;rw[pO,oI,Cr (by simp;omega)];simp only[QB];by_cases bk:off<=j/\j<off+xs.length
    ·rw[bn bk]at al;rw[bn (by omega)];obtain⟨u,aA,aJ⟩:=ao.2 _ _ al;grind
    rw[bw bk]at al;rw[bw (by omega)];obtain⟨u,aA,aJ⟩:=e0.2 _ _ al;grind
   refine⟨_,?_,ω,τ,a6.aBs e1 aw ho⟩;simp only[Instr.storeAt,Instr.sureAddr,Sem.run_bind,Sem.run_pure,Result.andThen_ok,storeVar,sizeOf,typeInfo,run_program,cj];have dM:¬(v.cells.size≠i.size):=by simp;have:=ao.1;omega
   grind
  cases h
 cases h
end Go.Sx
namespace Go.Sx
open Go.RowKit
variable{w0:eR}{st:aC}{a:Act}{w:World}{ω:Own}{τ:Nat->Nat×Value}
theorem cK.dg{aP:World}{bf:Own}{c0:Nat->Nat×Value}(h:cK w0 st a w ω τ)(f:aF->aF)
  (e0:∀l v,Sat w ω τ l v->Sat aP bf c0 (f l) v) (se:hd w0 aP) (rf:oM w0 aP bf)
  (tB:∀id b,ω b=.box id->bf b=.box id/\aP.heap[b]?=w.heap[b]?) (Bs:∀id b,bf b=.box id->ω b=.box id) (u6:∀t,dj<=t->c0 t=τ t:=by intros;rfl):cK w0 (st.map f) a aP bf c0 where
 defers:=h.defers
 size:=by simp[aC.map,h.size]
 below:=se
 owned:=rf
 fixed:=fun t bG=>(u6 t bG).trans (h.fixed t bG)
 pinned:=fun id b hi aw=>h.pinned id b hi (Bs id b aw)
 env:=by
  intro i q aH;simp only[aC.map]at aH;rw[dK,b9]at aH;obtain⟨gE,bO,rfl⟩:=aH;obtain⟨v,h1,U⟩:=h.env i gE bO;exact⟨v,h1,cV.map e0 U⟩
 boxes:=by
  intro id ls al;simp only[aC.map]at al;rw[tZ,b9]at al;obtain⟨jY,bO,rfl⟩:=al;obtain⟨b,arr,ty,aw,hu,bN,ao⟩:=h.boxes id jY bO;obtain⟨h1,U⟩:=tB id b aw;exact⟨b,arr,ty,h1,fun dD ey=>hu dD (Bs id dD ey),U.trans bN,ao.map e0⟩
abbrev ic:=List (Nat×(Nat×Nat))
def ic.at(s:Nat):ic->Option (Nat×Nat)
 | []=>none
 | (i,p)::r=>if i=s then some p else ic.at s r
def iL(t:Nat)(ms:ic):Tag->Option Tag
 | .free=>some .free
 | .own s=>if s=t then some .free else if (ms.at s).isSome then none else some (.own s)
 | .ro s=>if s=t then some .free else if (ms.at s).isSome then none else some (.ro s)
def qq(t:Nat)(ms:ic):dr->dr
 | .tok s q=>if s=t then .bM else match ms.at s with | some p=>.tok t (p::q) | none=>.tok s q
 | o=>o
variable{t:Nat}{ms:ic}
theorem Gm{o:dr}{id:Nat}:qq t ms o=.box id<->o=.box id:=by
 cases o with
 | bM=>simp[qq]
 | box i=>simp[qq]
 | tok s q=>
  simp only[qq];split
  ·simp
  ·split<;>simp
theorem Td{g eI:Tag}{q:List (Nat×Nat)}{o:dr}(h:iL t ms g=some eI)(aD:g.R q o):eI.R q (qq t ms o):=by
 cases g with
 | free=>simp only[iL,aX]at h;subst h;simp only[Tag.R]at aD ⊢;rw[aD];rfl
 | own s=>
  simp only[Tag.R]at aD;subst aD;simp only[iL]at h;simp only[qq];split at h
  ·simp only[aX]at h;subst h;rw[bn ‹_›];rfl
  split at h
  ·cases h
  rename_i h1 U;simp only[aX]at h;subst h;rw[bw h1];cases e:ms.at s with
  | none=>rfl
  | some p=>simp[e]at U
 | ro s=>
  simp only[Tag.R]at aD;simp only[iL]at h;split at h
  ·simp only[aX]at h;subst h;rcases aD with rfl | ⟨ec,rfl⟩
   ·rfl
   simp only[qq];rw[bn ‹_›];rfl
  split at h
  ·cases h
  rename_i h1 U;simp only[aX]at h;subst h;rcases aD with rfl | ⟨ec,rfl⟩
  ·exact .inl rfl
  refine .inr ⟨ec,?_⟩;simp only[qq];rw[bw h1];cases e:ms.at s with
  | none=>rfl
  | some p=>simp[e]at U
def qs(w:World)(ω:Own)(t:Nat)(ms:ic):Own:=fun b=>if b=w.heap.size then .tok t [] else qq t ms (ω b)
def xo(w:World)(τ:Nat->Nat×Value)(t k n c:Nat):Nat->Nat×Value:=fun s=>if s=t then (k,.slice (some ⟨w.heap.size,0,none⟩) n c) else τ s
def aC.j1(st:aC)(t:Nat)(ms:ic):aC:=st.map (aF.cM (iL t ms) fun _=>true)
theorem awH{w1:World}{k n c:Nat}(jw:t<dj)(bF:ω w.heap.size=.bM)(bN:∀b,b<w.heap.size->w1.heap[b]?=w.heap[b]?):
  mI w ω τ w1 (qs w ω t ms) (xo w τ t k n c) (iL t ms) (fun _=>true):=by
 refine⟨?_,?_,?_,rfl,fun s ao=>by simp only[xo];rw[bw (by omega)]⟩
 ·intro g eI b q ax aw aH;refine⟨?_,bN b aw⟩;simp only[qs];rw[bw (by omega)];exact Td ax aH
 ·intro g eI y ax bD;cases g with
  | free=>simp only[iL,aX]at ax;subst ax;exact trivial
  | own s=>
   simp only[iL]at ax;split at ax
   ·simp only[aX]at ax;subst ax;exact trivial
   split at ax
   ·cases ax
   simp only[aX]at ax;subst ax;simp only[Tag.ei,xo]at bD ⊢;rw[bw ‹_›];exact bD
  | ro s=>
   simp only[iL]at ax;split at ax
   ·simp only[aX]at ax;subst ax;exact trivial
   split at ax
   ·cases ax
   simp only[aX]at ax;subst ax;exact trivial
 intro id b _ aw;simp only[qs];by_cases e:b=w.heap.size
 ·subst e;rw[bF]at aw;cases aw
 rw[bw e,aw];rfl
def aF.jn:aF->Option D
 | .v x=>if x.oneCell' then some (.v x) else none
 | .bg c=>some (.v (.bool c))
 | .J (.own _) k es=>some (.J k es)
 | _=>none
def aF.tok:aF->Option Nat
 | .J (.own s) _ _=>some s
 | _=>none
def Gn(w:World)(ω:Own)(τ:Nat->Nat×Value)(t:Nat)(ms:ic)(i j:Nat)(d:D)(u:Value):Prop:=
 ∃l:aF,l.jn=some d/\Sat w ω τ l u/\∀s,l.tok=some s->s≠t/\ms.at s=some (i,j)
theorem Gn.rep{w1:World}{i j:Nat}{d:D}{u:Value}(h:Gn w ω τ t ms i j d u)(bN:∀b,b<w.heap.size->w1.heap[b]?=w.heap[b]?):
  b4 w1 (qs w ω t ms) (fun q=>(Tag.own t).R ((i,j)::q)) d u:=by
 obtain⟨l,aE,ao,hm⟩:=h;cases l with
 | cp=>cases aE
 | v x=>
  simp only[aF.jn]at aE;split at aE
  ·simp only[aX]at aE;subst aE;have:u=x:=ao;subst this;exact .v _ _ ‹_›
  cases aE
 | bg c=>
  simp only[aF.jn,aX]at aE;subst aE;have:u=.bool c:=ao;subst this;exact .v _ _ rfl
 | J g k es=>
  cases g with
  | free=>cases aE
  | ro s=>cases aE
  | own s=>
   simp only[aF.jn,aX]at aE;subst aE;obtain⟨cX,sd⟩:=hm s rfl;refine ao.1.frame fun b q aw aH=>⟨?_,bN b aw⟩
   simp only[Tag.R]at aH ⊢;simp only[qs];rw[bw (by omega),aH];simp only[qq];rw[bw cX,sd]
 | ptr id off=>cases aE
 | ep g k es i j=>cases aE
 | hQ=>cases aE
 | fd=>cases aE
 | dA=>cases aE
 | hg=>cases aE
 | aN=>cases aE
 | fD=>cases aE
theorem cK.j1{w1:World}(h:cK w0 st a w ω τ)(t:Nat)(jw:t<dj)(ms:ic){k cap:Nat}{es:List (List D)}{arr:Array Value}{ty:TypeId}
  (aw:hf w.heap.size w w1) (ho:w1.heap[w.heap.size]?=some (.cells arr ty (0,0))) (ak:es.length<=cap) (dM:cap*k<=arr.size) (hk:∀e∈es,e.length=k)
  (fw:∀i j d,df es i j=some d->∃u,arr[i*k+j]?=some u/\Gn w ω τ t ms i j d u):
  cK w0 (st.j1 t ms) a w1 (qs w ω t ms) (xo w τ t k es.length cap)/\
  Sat w1 (qs w ω t ms) (xo w τ t k es.length cap) (.J (.own t) k es) (.slice (some ⟨w.heap.size,0,none⟩) es.length cap):=by
 have bF:ω w.heap.size=.bM:=h.owned.fresh (fg _);have hblk:=aw.block;have aDk:w.heap.size<w1.heap.size:=(kf.1 ho).1;have o5:qs w ω t ms w.heap.size=.tok t []:=by simp[qs]
 have ju:∀b,b≠w.heap.size->qs w ω t ms b=qq t ms (ω b):=fun b aw=>by simp[qs,aw]
 refine⟨h.dg _ (awH jw bF hblk).sat ?_ ?_ ?_ ?_ (fun s ao=>by simp only[xo];rw[bw (by omega)]),?_,?_⟩
 ·exact h.below.next aw
 ·intro b gu;by_cases e:b=w.heap.size
  ·subst e;exact⟨.inl h.below.size,arr,ty,ho⟩
  rw[ju b e]at gu;have U:ω b≠.bM:=fun e'=>by rw[e']at gu;exact gu rfl
  obtain⟨aA,k1,lf,aJ⟩:=h.owned b U;exact⟨aA,k1,lf,(hblk b (h.owned.lt U)).trans aJ⟩
 ·intro id b gu;have bS:=h.owned.lt (b:=b) (by simp[gu]);rw[ju b (by omega),gu];exact⟨rfl,hblk b bS⟩
 ·intro id b gu;by_cases e:b=w.heap.size
  ·subst e;rw[o5]at gu;cases gu
  rw[ju b e]at gu;exact Gm.1 gu
 ·have w4:∀i j d,df es i j=some d->arr[0+i*k+j]?=some (arr.getD (i*k+j) undef)/\Gn w ω τ t ms i j d (arr.getD (i*k+j) undef):=by
   intro i j d aE;obtain⟨u,h1,U⟩:=fw i j d aE;have e:arr.getD (i*k+j) undef=u:=by simp[e7,h1]
   rw[e];exact⟨by rw[dV];exact h1,U⟩
  exact .row _ k es w.heap.size 0 cap arr ty (0,0) (fun i j=>arr.getD (i*k+j) undef) ho o5 ak (by omega) hk (fun i j d aE=>(w4 i j d aE).1) (fun i j d aE=>(w4 i j d aE).2.rep hblk)
 simp[Tag.ei,xo]
def FO(P:Program)(st:aC)(d:Nat)(t:TypeId)(p q:aI)(ans:List cd):Stepped:=
 match P.underlying t with
 | some (.slice e)=>
  match P.info? e,p.int,q.int with
  | some i,some (_,l),some (_,c)=>
   match i.zero with
   | some z=>
    if i.size=z.cells.size/\0<i.size/\z.cells.all (·.oneCell')=true/\d<dj then
     some (⟨(st.j1 d []).env.set d (.one (.J (.own d) i.size (List.replicate l.toNat (z.cells.toList.map .v)))),(st.j1 d []).boxes⟩,ans,[0<=l,l<=c,(i.bytes:Int)*c<=281474976710656,c<=9223372036854775807])
    else none
   | none=>none
  | _,_,_=>none
 | _=>none
theorem Te(z:Array Value)(n i j:Nat)(hi:i<n)(bk:j<z.size):(madeCells z (n*z.size))[i*z.size+j]?=z[j]?:=by
 have bS:i*z.size+j<n*z.size:=by
  have:(i+1)*z.size<=n*z.size:=im _ hi;rw[hT]at this;omega
 have e:(i*z.size+j) % z.size=j:=by rw[Nat.add_comm,Nat.add_mul_mod_self_right];exact IS bk
 simp[madeCells,bS,e,getElem!_pos,bk]
theorem awI{n:Nat}{e:List D}{i j:Nat}{d:D}(h:df (List.replicate n e) i j=some d):i<n/\e[j]?=some d:=by
 unfold df at h;rw[Eo]at h;split at h
 ·exact⟨‹_›,h⟩
 simp at h
theorem cK.make{P:Program}{bz:aC}{d:Nat}{t:TypeId}{p q:aI}{u v:Value}{ans cu:List cd}{obs:List Prop}
  (a6:cK w0 st a w ω τ) (hp:cV (Sat w ω τ) p u) (aH:cV (Sat w ω τ) q v) (h:FO P st d t p q ans=some (bz,cu,obs)) (a7:cQ obs):
  ∃z aP,(Instr.makeSlice t u v).run P w=.ok z aP/\Rel w0 bz (a.put (some d) z) aP:=by
 unfold FO at h;split at h
 ·rename_i e hu;split at h
  ·rename_i i cS l bt c hi e1 e2;split at h
   ·rename_i z bd;split at h
    ·rename_i ak;obtain⟨mP,me,lV,tD⟩:=ak;simp only[aX,bK]at h;obtain⟨rfl,_,rfl⟩:=h;obtain⟨cC,cg,cL,fo,_⟩:=a7;rw[aI.o9 e1 hp,aI.o9 e2 aH];have fN:=run_make (P:=P) w t e i z hu hi bd cS bt l c cC cg cL fo;have ho:(w.alloc (.cells (madeCells z.cells (c.toNat*i.size)) e)).heap[w.heap.size]?=some (.cells (madeCells z.cells (c.toNat*i.size)) e (0,0)):=ot _ _;have dM:(madeCells z.cells (c.toNat*i.size)).size=c.toNat*i.size:=by simp[madeCells]
     have wR:=a6.j1 d tD [] (k:=i.size) (cap:=c.toNat) (es:=List.replicate l.toNat (z.cells.toList.map .v)) (w1:=w.alloc (.cells (madeCells z.cells (c.toNat*i.size)) e))
      ((hf.refl _ _).alloc (fg _) _) ho (by simp;omega) (by omega) (fun e' he=>by rw[List.eq_of_mem_replicate he];simp[mP]) (fun x j tt aE=>by
       obtain⟨af,aE⟩:=awI aE;rw[dK,b9]at aE;obtain⟨uD,kl,rfl⟩:=aE;have bk:j<z.cells.size:=by
        have:=(gk.1 kl).1;simpa using this
       refine⟨uD,?_,.v uD,?_,rfl,fun s ao=>by cases ao⟩
       ·rw[mP,Te z.cells c.toNat x j (by omega) bk];simpa using kl
       have:uD.oneCell'=true:=by
        have h1:=Array.all_eq_true'.1 lV;exact h1 uD (by simpa using gb kl)
       simp[aF.jn,this])
     simp only[List.length_replicate]at wR;exact⟨_,_,fN,_,_,wR.1.put (p:=.one (.J (.own d) i.size (List.replicate l.toNat (z.cells.toList.map .v)))) wR.2⟩
    cases h
   cases h
  cases h
 cases h
end Go.Sx
namespace Go.Sx
open Go.RowKit
def ou(k:Nat):Nat->List aF->List (List aF)
 | 0,_=>[]
 | n+1,ls=>ls.take k::ou k n (ls.drop k)
theorem LL(k:Nat):∀(n:Nat) (ls:List aF) (i:Nat),(ou k n ls)[i]?=if i<n then some ((ls.drop (i*k)).take k) else none
 | 0,ls,i=>by simp[ou]
 | n+1,ls,0=>by simp[ou]
 | n+1,ls,i+1=>by
  simp only[ou,pR,LL k n];by_cases h:i<n
  ·rw[bn h,bn (by omega),List.drop_drop]
   congr 3
   rw[hT];omega
  rw[bw h,bw (by omega)]
theorem Tf(k:Nat):∀(n:Nat) (ls:List aF),(ou k n ls).length=n
 | 0,_=>rfl
 | n+1,ls=>by simp[ou,Tf k n]
def l0(i:Nat):Nat->List aF->ic
 | _,[]=>[]
 | j,l::ls=>match l.tok with
  | some s=>(s,(i,j))::l0 i (j+1) ls
  | none=>l0 i (j+1) ls
def sM:Nat->List (List aF)->ic
 | _,[]=>[]
 | i,e::es=>l0 i 0 e++sM (i+1) es
def zz(t:Nat)(ms:ic):Bool:=decide (t<dj)&&ms.all fun x=>x.1≠t&&(match ms.at x.1 with | some p=>p.1==x.2.1&&p.2==x.2.2 | none=>false)
theorem LM(i:Nat):∀(ls:List aF) (j0 j:Nat) (l:aF) (s:Nat),ls[j]?=some l->l.tok=some s->(s,(i,j0+j))∈l0 i j0 ls
 | [],_,_,_,_,h,_=>by simp at h
 | eF::ls,j0,0,l,s,h,ao=>by
  simp at h;subst h;simp only[l0,ao];exact hU
 | eF::ls,j0,j+1,l,s,h,ao=>by
  have:=LM i ls (j0+1) j l s (by simpa using h) ao;rw[show j0+1+j=j0+(j+1) by omega]at this;simp only[l0];split
  ·exact gI _ this
  exact this
theorem Sz:∀(es:List (List aF)) (i0 i j:Nat) (e:List aF) (l:aF) (s:Nat),es[i]?=some e->e[j]?=some l->l.tok=some s->(s,(i0+i,j))∈sM i0 es
 | [],_,_,_,_,_,_,h,_,_=>by simp at h
 | bE::es,i0,0,j,e,l,s,h,al,ao=>by
  simp at h;subst h;simp only[sM];have:=LM i0 bE 0 j l s al ao;rw[dV]at this;exact hD _ this
 | bE::es,i0,i+1,j,e,l,s,h,al,ao=>by
  have:=Sz es (i0+1) i j e l s (by simpa using h) al ao;rw[show i0+1+i=i0+(i+1) by omega]at this;simp only[sM];exact iC _ this
variable{ms:ic}
theorem awJ{t:Nat}(h:zz t ms=true):t<dj:=by
 unfold zz at h;rw[cw,ck]at h;exact h.1
theorem awK{t:Nat}(h:zz t ms=true){s:Nat}{p:Nat×Nat}(hm:(s,p)∈ms):s≠t/\ms.at s=some p:=by
 unfold zz at h;rw[cw]at h;have:=gA.1 h.2 _ hm;simp only[cw,ck]at this;refine⟨this.1,?_⟩;have U:=this.2;split at U
 ·rename_i ry e;simp only[cw,ka]at U;rw[e]
  congr 1
  exact Prod.ext U.1 U.2
 cases U
def Cs(P:Program)(st:aC)(d:Nat)(t:TypeId)(len:Nat)(parts:List (Nat×Operand))(ans:List cd):Stepped:=
 match P.underlying t with
 | some (.slice e)=>
  match P.info? e with
  | some i=>
   match i.zero with
   | some z=>
    if i.size=z.cells.size/\0<i.size/\len*i.size<=16777216 then
     match sa (fun x=>some (x*i.size,i.size)) ((List.replicate len (z.cells.toList.map aF.v)).flatten) (parts.map fun x=>(x.1,st.bq x.2)) with
     | some r=>
      let ls:=ou i.size len r
      match ls.mapM (fun x=>x.mapM aF.jn) with
      | some es=>if zz d (sM 0 ls) then
        some (⟨(st.j1 d (sM 0 ls)).env.set d (.one (.J (.own d) i.size es)),(st.j1 d (sM 0 ls)).boxes⟩,ans,[]) else none
      | none=>none
     | none=>none
    else none
   | none=>none
  | none=>none
 | _=>none
def EH(P:Program)(st:aC)(d:Nat)(t:TypeId)(len:Nat)(parts:List (Nat×Operand)):Option (Nat×List (List D)×ic):=
 match P.underlying t with
 | some (.slice e)=>
  match P.info? e with
  | some i=>
   match i.zero with
   | some z=>
    if i.size=z.cells.size/\0<i.size/\len*i.size<=16777216 then
     match sa (fun x=>some (x*i.size,i.size)) ((List.replicate len (z.cells.toList.map aF.v)).flatten) (parts.map fun x=>(x.1,st.bq x.2)) with
     | some r=>
      match (ou i.size len r).mapM (fun x=>x.mapM aF.jn) with
      | some es=>if zz d (sM 0 (ou i.size len r)) then some (i.size,es,sM 0 (ou i.size len r)) else none
      | none=>none
     | none=>none
    else none
   | none=>none
  | none=>none
 | _=>none
theorem awL{P:Program}{st:aC}{d:Nat}{t:TypeId}{len:Nat}{parts:List (Nat×Operand)}{k:Nat}{es:List (List D)}(h:EH P st d t len parts=some (k,es,ms))(ans:List cd):
  Cs P st d t len parts ans=some (⟨(st.j1 d ms).env.set d (.one (.J (.own d) k es)),(st.j1 d ms).boxes⟩,ans,[]):=by
 unfold EH at h;unfold Cs;split at h
 ·rename_i e h1
  try rw[h1]
  split at h
  ·rename_i i U
   try simp only[U]
   split at h
   ·rename_i z aA
    try simp only[aA]
    split at h
    ·rename_i ak
     try rw[bn ak]
     split at h
     ·rename_i r aJ
      try simp only[aJ]
      split at h
      ·rename_i cD a'
       try simp only[a']
       split at h
       ·rename_i bu;simp only[aX,bK]at h;obtain⟨rfl,rfl,rfl⟩:=h
        try rw[bn bu]
       cases h
      cases h
     cases h
    cases h
   cases h
  cases h
 cases h
theorem ov{α β:Type}{f:α->Option β}:∀{xs:List α} {ys:List β},xs.mapM f=some ys->ys.length=xs.length/\∀(i:Nat) (y:β),ys[i]?=some y->∃x,xs[i]?=some x/\f x=some y
 | [],ys,h=>by simp at h;subst h;exact⟨rfl,fun i y bD=>by simp at bD⟩
 | x::xs,ys,h=>by
  rw[AU]at h;cases e:f x with
  | none=>simp[e]at h
  | some mC=>
   cases e2:xs.mapM f with
   | none=>simp[e,e2]at h
   | some IL=>
    simp[e,e2]at h;subst h;obtain⟨h1,U⟩:=ov e2;refine⟨by simp[h1],fun i y bD=>?_⟩;cases i with
    | zero=>simp at bD;subst bD;exact⟨x,rfl,e⟩
    | succ i=>exact U i y (by simpa using bD)
theorem SA{α:Type}(e:List α):∀(n i j:Nat),i<n->j<e.length->((List.replicate n e).flatten)[i*e.length+j]?=e[j]?
 | 0,i,j,hi,_=>by omega
 | n+1,0,j,_,bk=>by
  rw[List.replicate_succ,List.flatten_cons,qE,Nat.zero_mul,dV,bn bk]
 | n+1,i+1,j,hi,bk=>by
  rw[List.replicate_succ,List.flatten_cons,qE,bw (by rw[hT];omega)];have:=SA e n i j (by omega) bk;rw[<-this]
  congr 1
  rw[hT];omega
theorem cK.buildSlice{P:Program}{w0:eR}{st bz:aC}{a:Act}{w:World}{ω:Own}{τ:Nat->Nat×Value}{d:Nat}{t:TypeId}{len:Nat}{parts:Array (Nat×Operand)}{ans cu:List cd}{obs:List Prop}
  (a6:cK w0 st a w ω τ) (h:Cs P st d t len parts.toList ans=some (bz,cu,obs)):
  ∃z aP,(Instr.buildSlice t len (parts.map fun (i,x)=>(i,a.eval x))).run P w=.ok z aP/\Rel w0 bz (a.put (some d) z) aP:=by
 unfold Cs at h;split at h
 ·rename_i e hu;split at h
  ·rename_i i hi;split at h
   ·rename_i z bd;split at h
    ·rename_i ak;obtain⟨mP,me,lV⟩:=ak;split at h
     ·rename_i r aD;simp only at h;split at h
      ·rename_i es E6;split at h
       ·rename_i Rv;simp only[aX,bK]at h;obtain⟨rfl,_,_⟩:=h;have mU:(z.cells.toList.map aF.v).length=i.size:=by simp[mP]
        have aC6:((List.replicate len (z.cells.toList.map aF.v)).flatten).length=len*i.size:=by simp[mP]
        have Fq:k0 (Sat w ω τ) ((List.replicate len (z.cells.toList.map aF.v)).flatten) (madeCells z.cells (len*i.size)):=by
         refine⟨by simp[madeCells,mP],fun x l al=>?_⟩;have bS:x<len*i.size:=by
          have:=(gk.1 al).1;omega
         have af:x=(x / i.size)*i.size+x % i.size:=by rw[Nat.mul_comm];exact (Nat.div_add_mod x i.size).symm
         have aH:x / i.size<len:=Nat.div_lt_of_lt_mul (by rw[Nat.mul_comm];exact bS);have hm:x % i.size<i.size:=Nat.mod_lt _ me;have h1:=SA (z.cells.toList.map aF.v) len (x / i.size) (x % i.size) aH (by omega);rw[mU,<-af,al]at h1;have U:=h1.symm;rw[dK,b9]at U;obtain⟨u,kl,rfl⟩:=U;refine⟨u,?_,rfl⟩;have aA:=Te z.cells len (x / i.size) (x % i.size) aH (by omega);rw[<-mP,<-af]at aA;rw[aA];simpa using kl
        obtain⟨out,J7,Fe⟩:=Lv (vals:=parts.toList.map fun x=>(x.1,a.eval x.2)) (by simp) (fun j f' p bk=>by
         rw[dK,b9]at bk;obtain⟨⟨i2,x⟩,af,e⟩:=bk;simp only[bK]at e;obtain⟨rfl,rfl⟩:=e;exact⟨a.eval x,by simp only[dK,af,tc],a6.bq x⟩) aD Fq
        obtain⟨iZ,c3⟩:=ov E6;have hlen:es.length=len:=by rw[iZ,Tf]
        have aca:∀x j tt,df es x j=some tt->∃l,x<len/\j<i.size/\r[x*i.size+j]?=some l/\l.jn=some tt/\∃wN,(ou i.size len r)[x]?=some wN/\wN[j]?=some l:=by
         intro x j tt aE;unfold df at aE;cases af:es[x]? with
         | none=>simp[af]at aE
         | some e'=>
          rw[af,qG]at aE;obtain⟨wN,h1,U⟩:=c3 x e' af;obtain⟨aA,aJ⟩:=ov U;obtain⟨l,a',bu⟩:=aJ j tt aE;have abT:=h1;rw[LL]at h1;split at h1
          ·simp only[aX]at h1;subst h1;have abU:=a';rw[kb]at a';split at a'
           ·rw[lJ]at a';exact⟨l,‹_›,‹_›,a',bu,_,abT,abU⟩
           cases a'
          cases h1
        have RH:r.length=len*i.size:=by
         have:=Fe.1;have U:out.size=(madeCells z.cells (len*i.size)).size:=by
          have:=Fe.1;have aJ:∀(eF:List (Nat×aI)) (jY gH:List aF),sa (fun x=>some (x*i.size,i.size)) jY eF=some gH->gH.length=jY.length:=by
           intro eF;induction eF with
           | nil=>intro jY gH h;simp[sa]at h;rw[h]
           | cons x eF eg=>
            intro jY gH h;obtain⟨gP,gz⟩:=x;simp only[sa]at h;split at h
            ·split at h
             ·rename_i bN;rw[eg _ _ h,Lu (by omega)]
             cases h
            cases h
          have:=aJ _ _ _ aD;simp[madeCells];omega
         simp[madeCells]at U;omega
        have ho:(w.alloc (.cells out e)).heap[w.heap.size]?=some (.cells out e (0,0)):=ot _ _;have wR:=a6.j1 d (awJ Rv) (sM 0 (ou i.size len r)) (k:=i.size) (cap:=len) (es:=es) (w1:=w.alloc (.cells out e))
         ((hf.refl _ _).alloc (fg _) _) ho (by omega) (by rw[Fe.1,RH];exact fg _)
         (fun e' he=>by
          obtain⟨x,af⟩:=pS.1 he;obtain⟨wN,h1,U⟩:=c3 x e' af;obtain⟨aA,_⟩:=ov U;rw[aA];rw[LL]at h1;split at h1
          ·simp only[aX]at h1;subst h1;have:(x+1)*i.size<=len*i.size:=im _ (by omega);rw[hT]at this;simp;omega
          cases h1)
         (fun x j tt aE=>by
          obtain⟨l,h1,U,aA,aJ,wN,a',bu⟩:=aca x j tt aE;obtain⟨u,b1,dy⟩:=Fe.2 _ _ aA;refine⟨u,b1,l,aJ,dy,fun s ao=>?_⟩;have:=Sz (ou i.size len r) 0 x j wN l s a' bu ao;rw[dV]at this;exact awK Rv this)
        rw[hlen]at wR;refine⟨_,_,?_,_,_,wR.1.put (p:=.one (.J (.own d) i.size es)) wR.2⟩;have sw:((Array.range (len*i.size)).map (fun x=>(if len*i.size=0 then (#[]:Array Value) else z.cells)[x % (if len*i.size=0 then (#[]:Array Value) else z.cells).size]!))=madeCells z.cells (len*i.size):=by
         unfold madeCells;by_cases bO:len*i.size=0
         ·simp[bO]
         simp[bO]
        have e:(Array.map (fun (x:Nat×Operand)=>(x.1,a.eval x.2)) parts).toList=parts.toList.map fun x=>(x.1,a.eval x.2):=by simp
        have acW:¬(len*i.size>2 ^ 24):=by have:(2:Nat) ^ 24=16777216:=(by decide);omega
        simp only[Instr.buildSlice,Sem.run_bind,run_underlying hu,Result.andThen_ok,sizeOf,typeInfo,run_program,hi,Sem.run_pure];rw[bw acW];by_cases bO:len*i.size=0
        ·simp only[bO,gj]at sw ⊢;simp only[Sem.run_pure,Sem.run_bind,Result.andThen_ok,e];rw[bO]at J7;rw[sw,J7];simp[newRow]
        simp only[bO,l7]at sw ⊢;simp only[zeroValue,typeInfo,Sem.run_bind,run_program,Result.andThen_ok,hi,bd,Sem.run_pure,e];rw[sw,J7];simp[newRow]
       cases h
      cases h
     cases h
    cases h
   cases h
  cases h
 cases h
end Go.Sx
namespace Go.Sx
open Go.RowKit
variable{w:World}{ω bf:Own}{k n:Nat}{es:List (List D)}
theorem b4.Zq{aP:World}{R jr:List (Nat×Nat)->dr->Prop}{b off cap:Nat}(h:b4 w ω R (.J k es) (.slice (some ⟨b,off,none⟩) n cap))
  {arr cm:Array Value} {ty:TypeId} {cZ:Nat×Nat} (aw:w.heap[b]?=some (.cells arr ty cZ)) (ey:aP.heap[b]?=some (.cells cm ty cZ)) (dM:cm.size=arr.size)
  (abY:∀x,x<off+n*k->cm[x]?=arr[x]?) (EW:∀o,o=ω b->R [] o->jr [] (bf b)) (oh:∀c p q,c<w.heap.size->R (p::q) (ω c)->jr (p::q) (bf c)/\aP.heap[c]?=w.heap[c]?):
  b4 aP bf jr (.J k es) (.slice (some ⟨b,off,none⟩) n cap):=by
 generalize bD:Value.slice (some ⟨b,off,none⟩) n cap=y at h;cases h with
 | nil=>cases bD;exact .nil _ _ _
 | row R k es fY ru qQ k1 lf wO us h2 ed ak ao hk hu aE=>
  simp only[Value.slice.injEq,aX,Addr.mk.injEq]at bD;obtain⟨⟨rfl,rfl,_⟩,rfl,rfl⟩:=bD;rw[aw]at h2;simp only[aX,Obj.cells.injEq]at h2;obtain⟨rfl,rfl,rfl⟩:=h2;refine .row jr k es b off cap cm ty cZ us ey (EW _ rfl ed) ak (by omega) hk (fun i j d eN=>?_) (fun i j d eN=>(aE i j d eN).frame fun c q q5 aH=>oh c _ _ q5 aH);rw[abY,hu i j d eN];have oe:i<es.length/\j<k:=by
   unfold df at eN;grind
  have:(i+1)*k<=es.length*k:=im _ oe.1;grind
variable{i j:Nat}
theorem t'{d:D}(hk:∀e∈es,e.length=k)(h:df es i j=some d):i<es.length/\j<k:=by
 unfold df at h;grind
variable{bX:List (List D)}
theorem Ct:df (es++bX) i j=if i<es.length then df es i j else df bX (i-es.length) j:=by
 unfold df;grind
theorem SB(hk:∀e∈es,e.length=k)(hi:i<es.length)(bk:j<k):∃d,df es i j=some d:=by
 simp_all[pU,df]
def j5(t:Nat)(dT:Option Nat)(n:Nat):dr->dr
 | .tok s q=>if dT=some s then (match q with | []=>.bM | p::ec=>.tok t ((n+p.1,p.2)::ec)) else .tok s q
 | o=>o
def iw(t:Nat)(dT:Option Nat):Tag->Option Tag
 | .free=>some .free
 | .own s=>if s=t then some (.ro t) else if dT=some s then none else some (.own s)
 | .ro s=>if s=t then none else if dT=some s then none else some (.ro s)
structure Src (P:Program) (w:World) (ω:Own) (k:Nat) (bX:List (List D)) (dT:Option Nat) (y:Value) (news:List Value):Prop where
 len:news.length=bX.length*k
 rows:∀e∈bX,e.length=k
 one:∀u∈news,u.oneCell'=true
 cell:∀i j d,df bX i j=some d->∃u,news[i*k+j]?=some u/\((∃x,d=.v x/\u=x)\/∃s,dT=some s/\b4 w ω (fun q=>(Tag.own s).R ((i,j)::q)) d u)
 shape:((∃a,y=.slice a 0 0)/\bX=[])\/∃b o c,y=.slice (some ⟨b,o,none⟩) bX.length c/\∀j v,news[j]?=some v->w.cell? ((⟨b,o,none⟩:Addr).add j)=some v
variable{t:Nat}{dT:Option Nat}
theorem LN{o:dr}{id:Nat}:j5 t dT n o=.box id<->o=.box id:=by
 cases o with
 | bM=>simp[j5]
 | box i=>simp[j5]
 | tok s q=>
  simp only[j5];grind
theorem xp{s:Nat}{q:List (Nat×Nat)}(h:dT≠some s):j5 t dT n (.tok s q)=.tok s q:=by simp[j5,h]
theorem ua{w aP:World}{g eI:Tag}(kk:dT≠some t)(ax:iw t dT g=some eI)(cX:g≠.own t)
  (dt:∀c,c<w.heap.size->ω c≠.tok t []->bf c=j5 t dT n (ω c)/\aP.heap[c]?=w.heap[c]?):
  ∀c q,c<w.heap.size->g.R q (ω c)->eI.R q (bf c)/\aP.heap[c]?=w.heap[c]?:=by
 intro c q ak aD;cases g with
 | free=>
  simp only[iw,aX]at ax;subst ax;simp only[Tag.R]at aD;obtain⟨h1,U⟩:=dt c ak (by rw[aD];simp);rw[h1,aD];exact⟨rfl,U⟩
 | own s=>
  simp only[iw]at ax;have ao:s≠t:=fun e=>cX (by rw[e])
  rw[bw ao]at ax;split at ax
  ·cases ax
  rename_i hm;simp only[aX]at ax;subst ax;simp_all[Tag.R,xp]
 | ro s=>
  simp only[iw]at ax;split at ax
  ·cases ax
  rename_i ao;split at ax
  ·cases ax
  rename_i hm;simp only[aX]at ax;subst ax;simp only[Tag.R]at aD;rcases aD with aD | ⟨ec,aD⟩
  ·obtain⟨h1,U⟩:=dt c ak (by rw[aD];simp);rw[h1,aD];exact⟨.inl rfl,U⟩
  obtain⟨h1,U⟩:=dt c ak (by grind);rw[h1,aD,xp hm];exact⟨.inr ⟨ec,rfl⟩,U⟩
def gL(τ:Nat->Nat×Value)(t k:Nat)(z:Value):Nat->Nat×Value:=fun s=>if s=t then (k,z) else τ s
variable{τ:Nat->Nat×Value}
theorem FP{k:Nat}{z:Value}{g eI:Tag}{y:Nat×Value}(ax:iw t dT g=some eI)(bD:g.ei τ y):eI.ei (gL τ t k z) y:=by
 cases g with
 | free=>simp only[iw,aX]at ax;subst ax;exact trivial
 | own s=>
  simp only[iw]at ax;split at ax
  ·simp only[aX]at ax;subst ax;exact trivial
  split at ax
  ·cases ax
  simp only[aX]at ax;subst ax;simp_all[Tag.ei,gL,bw]
 | ro s=>
  simp only[iw]at ax;split at ax
  ·cases ax
  split at ax
  ·cases ax
  simp only[aX]at ax;subst ax;exact trivial
theorem I0{aP:World}{z:Value}(jw:t<dj)(kk:dT≠some t)
  (dt:∀c,c<w.heap.size->ω c≠.tok t []->bf c=j5 t dT n (ω c)/\aP.heap[c]?=w.heap[c]?)
  (tB:∀id b,ω b=.box id->bf b=.box id)
  (mS:∀es y,b4 w ω (Tag.own t).R (.J (τ t).1 es) y->y=(τ t).2->b4 aP bf (Tag.ro t).R (.J (τ t).1 es) y):
  ∀l v,Sat w ω τ l v->Sat aP bf (gL τ t k z) (l.cM (iw t dT) fun _=>true) v:=by
 intro l v ao;cases l with
 | cp=>exact trivial
 | v x=>exact ao
 | bg c=>exact ao
 | ptr id off=>
  simp only[aF.cM,gj];obtain⟨b,aw,e⟩:=ao;exact⟨b,tB id b aw,e⟩
 | fD s vs=>
  simp only[aF.cM];split
  ·rename_i uz ax;split
   ·rename_i Kf;subst Kf;have cX:Tag.own uz≠.own t:=by
     grind[Tag.own.injEq,iw]
    obtain⟨b,ty,arr,e,a',aA,aZ,bI⟩:=ao;have bS:b<w.heap.size:=(kf.1 aA).1;have hk:=ua (w:=w) (aP:=aP) kk ax cX dt b [] bS a';refine⟨b,ty,arr,e,hk.1,hk.2.trans aA,Ge (fun c u ak=>?_) aZ bI⟩;cases c with
    | cp=>exact trivial
    | v x=>exact ak
    | J g ch es=>
     simp only[fj.cM];cases ax:iw t dT g with
     | none=>exact trivial
     | some eI=>
      by_cases cX:g=.own t
      ·subst cX;simp only[iw,gj,aX]at ax;subst ax;obtain⟨h1,U⟩:=ak;simp only[Tag.ei]at U;have e1:(τ t).1=ch:=by rw[U]
       have e2:(τ t).2=u:=by rw[U]
       exact⟨by grind,aa⟩
      exact⟨ak.1.frame fun c q ak aH=>ua kk ax cX dt c q ak aH,FP ax ak.2⟩
   exact trivial
  exact trivial
 | aN s i j bt es m=>
  simp only[aF.cM];split
  ·rename_i uz ax;split
   ·rename_i Kf;subst Kf;have cX:Tag.own uz≠.own t:=by
     grind[Tag.own.injEq,iw]
    obtain⟨u,hu,h1,hm⟩:=ao;refine⟨u,hu,h1.frame fun c q ak aH=>ua kk ax cX dt c _ ak aH,fun bN=>?_⟩;obtain⟨kT,b,off,len,cap,arr,ty,cZ,U,a',aA,aJ⟩:=hm bN;have bS:b<w.heap.size:=(kf.1 aA).1;have hk:=ua (w:=w) (aP:=aP) kk ax cX dt b [] bS a';exact⟨kT,b,off,len,cap,arr,ty,cZ,FP (k:=k) (z:=z) ax U,hk.1,hk.2.trans aA,aJ⟩
   exact trivial
  exact trivial
 | hg f ids=>
  simp only[aF.cM];split
  ·obtain⟨bs,e,aZ,hi⟩:=ao;refine⟨bs,e,aZ,fun i id hx=>?_⟩;grind
  grind
 | hQ ds off=>
  obtain⟨b,e,aD⟩:=ao;exact⟨b,e,aD.frame fun c q ak aH=>ua (g:=.free) (eI:=.free) kk rfl (by simp) dt c q ak aH⟩
 | fd d=>exact b4.frame ao fun c q ak aH=>ua (g:=.free) (eI:=.free) kk rfl (by simp) dt c q ak aH
 | dA t0 dm dR=>exact⟨b4.frame ao.1 fun c q ak aH=>ua (g:=.free) (eI:=.free) kk rfl (by simp) dt c q ak aH,fun bG=>(show gL τ t k z t0=τ t0 by simp only[gL];grind).trans (ao.2 bG)⟩
 | J g ch es=>
  simp only[aF.cM];cases ax:iw t dT g with
  | none=>exact trivial
  | some eI=>
   by_cases cX:g=.own t
   ·subst cX;simp only[iw,gj,aX]at ax;subst ax;obtain⟨h1,U⟩:=ao;simp only[Tag.ei]at U;have e1:(τ t).1=ch:=by rw[U]
    have e2:(τ t).2=v:=by rw[U]
    exact⟨by grind,aa⟩
   exact⟨ao.1.frame fun c q ak aH=>ua kk ax cX dt c q ak aH,FP ax ao.2⟩
 | ep g ch es i j=>
  simp only[aF.cM];cases ax:iw t dT g with
  | none=>exact trivial
  | some eI=>
   obtain⟨b,off,cap,e,hi,aD,bN⟩:=ao;by_cases cX:g=.own t
   ·subst cX;simp only[iw,gj,aX]at ax;subst ax;simp only[Tag.ei]at bN;have e1:(τ t).1=ch:=by rw[bN]
    have e2:(τ t).2=Value.slice (some ⟨b,off,none⟩) es.length cap:=by rw[bN]
    exact⟨b,off,cap,e,hi,by grind,aa⟩
   exact⟨b,off,cap,e,hi,aD.frame fun c q ak aH=>ua kk ax cX dt c q ak aH,FP ax bN⟩
def aC.yL(st:aC)(t:Nat)(dT:Option Nat):aC:=st.map (aF.cM (iw t dT) fun _=>true)
variable{y:Value}
theorem SC{P:Program}{t ty e:TypeId}{i:TypeInfo}(bG:P.underlying t=some (.slice e))(hi:P.info? e=some i)(w:World){eV:Value}
  (bD:∃a n c,y=.slice a n c/\n<=c) (lu:∃a c,eV=.slice a 0 c):
  (Builtin.append_ #[t,t] ty #[y,eV]).run P w=.ok y w:=by
 obtain⟨a,n,c,rfl,aZ⟩:=bD;obtain⟨a2,c2,rfl⟩:=lu;cases a<;>cases a2<;>
  simp[Builtin.append_,run_underlying bG,sizeOf,typeInfo,hi,Builtin.lenOf,Builtin.firstCells,loadCells,loadCellsFrom,storeCells, *]
theorem FQ{P:Program}{t ty e:TypeId}{i:TypeInfo}(bG:P.underlying t=some (.slice e))(hi:P.info? e=some i)(w:World)
  (b off n cap:Nat) (arr:Array Value) (jo:TypeId) (ax:w.heap[b]?=some (.cells arr jo (0,0)))
  (cy:Addr) (m c:Nat) (news:List Value) (al:news.length=m*i.size) (jU:∀j u,news[j]?=some u->w.cell? (cy.add j)=some u) (h1:∀u∈news,u.oneCell'=true)
  (o3:n+m<=cap) (er:off+n*i.size+news.length<=arr.size):
  (Builtin.append_ #[t,t] ty #[.slice (some ⟨b,off,none⟩) n cap,.slice (some cy) m c]).run P w=
   .ok (.slice (some ⟨b,off,none⟩) (n+m) cap) (w.setRow b (arr.toList.take (off+n*i.size)++news++arr.toList.drop (off+n*i.size+news.length)).toArray):=by
 have bF:=run_firstCells_some (P:=P) w i.size m cy m c news al jU;have fm:=run_storeCells_at P b (off+n*i.size) jo news 0 arr w ax (by grind) h1;simp only[oI]at fm;simp[Builtin.append_,run_underlying bG,sizeOf,typeInfo,hi,Builtin.lenOf,o3,bF,rK,fm]
theorem Src.QS{P:Program}{aP:World}{bf:Own}{n:Nat}{news:List Value}(h:Src P w ω k bX dT y news)(kk:dT≠some t)
  (dt:∀c,c<w.heap.size->ω c≠.tok t []->bf c=j5 t dT n (ω c)/\aP.heap[c]?=w.heap[c]?) {i j:Nat} {d:D} (aE:df bX i j=some d):
  ∃u,news[i*k+j]?=some u/\b4 aP bf (fun q=>(Tag.own t).R ((n+i,j)::q)) d u:=by
 obtain⟨u,h1,U⟩:=h.cell i j d aE;refine⟨u,h1,?_⟩;rcases U with⟨x,rfl,rfl⟩ | ⟨s,ao,aD⟩
 ·exact .v _ _ (h.one _ (gb h1))
 refine aD.frame fun c q ak aH=>?_
 grind[Tag.R,j5]
theorem cK.append{P:Program}{w0:eR}{st:aC}{a:Act}(a6:cK w0 st a w ω τ){eV:Value}{news:List Value}
  (hp:Sat w ω τ (.J (.own t) k es) y) (jv:Src P w ω k bX dT eV news) (kk:dT≠some t) {ty iB e:TypeId} {i:TypeInfo} {z:Value}
  (bG:P.underlying iB=some (.slice e)) (hi:P.info? e=some i) (bd:i.zero=some z) (hk:i.size=k) (nC:z.cells.size=k)
  (hl:(es.length+bX.length)*i.bytes<=140737488355328) (h2:es.length+bX.length<=9223372036854775807) (jw:t<dj):
  ∃r aP bf,(Builtin.append_ #[iB,iB] ty #[y,eV]).run P w=.ok r aP/\cK w0 (st.yL t dT) a aP bf (gL τ t k r)/\Sat aP bf (gL τ t k r) (.J (.own t) k (es++bX)) r:=by
 subst hk;obtain⟨aD,bN⟩:=hp;simp only[Tag.ei]at bN;have e1:(τ t).1=i.size:=by rw[bN]
 have e2:(τ t).2=y:=by rw[bN]
 have JQ:∀r:Value,∀s,dj<=s->gL τ t i.size r s=τ s:=fun r s ao=>by simp only[gL];grind
 have acC:(Tag.own t).ei (gL τ t i.size y) (i.size,y):=by simp[Tag.ei,gL]
 by_cases hm:bX.length=0
 ·
  have JP:bX=[]:=yA hm;subst JP
  let bf:Own:=fun c=>j5 t dT es.length (ω c)
  have dt:∀c,c<w.heap.size->ω c≠.tok t []->bf c=j5 t dT es.length (ω c)/\w.heap[c]?=w.heap[c]?:=fun c _ _=>⟨rfl,rfl⟩
  have fN:(Builtin.append_ #[iB,iB] ty #[y,eV]).run P w=.ok y w:=by
   refine SC bG hi w ?_ ?_
   ·cases aD with
    | nil _ _ a0=>grind
    | row R k es b off cap arr ty cZ us aw ed ak ao hk hu aE=>grind
   rcases jv.shape with⟨⟨a,h⟩,_⟩ | ⟨b,o,c,h,_⟩
   ·grind
   grind
  refine⟨y,w,bf,fN,a6.dg _ (I0 jw kk dt (fun id b aw=>by grind[j5]) ?_) a6.below ?_ ?_ ?_ (JQ _),?_,acC⟩
  ·intro cD fW e8 _;refine e8.frame fun c q ak aH=>⟨?_,rfl⟩
   grind[Tag.R,xp]
  ·intro b aw;have:ω b≠.bM:=fun e=>by grind[j5]
   exact a6.owned b this
  ·intro id b aw;exact⟨by grind[j5],rfl⟩
  ·intro id b aw;exact LN.1 aw
  rw[io];refine aD.frame fun c q ak aH=>⟨?_,rfl⟩
  grind[Tag.R,xp]
 have BF:0<bX.length:=by omega
 rcases jv.shape with⟨_,h⟩ | ⟨bg,kQ,lG,rfl,jU⟩
 ·grind
 have grown:∀(w1:World) (cm:Array Value) (r:Value) (mL:Nat),hf w.heap.size w w1->w1.heap[w.heap.size]?=some (.cells cm e (0,0))->r=.slice (some ⟨w.heap.size,0,none⟩) (es.length+bX.length) mL->
   es.length+bX.length<=mL->mL*i.size<=cm.size->(∀f' j d,df es f' j=some d->∃u,cm[f'*i.size+j]?=some u/\∃R:List (Nat×Nat)->dr->Prop,(∀q o,R q o->o=.tok t ((f',j)::q))/\b4 w ω R d u)->
   (∀x u,news[x]?=some u->cm[es.length*i.size+x]?=some u)->(∀e∈es,e.length=i.size)->
   ∃bf,cK w0 (st.yL t dT) a w1 bf (gL τ t i.size r)/\Sat w1 bf (gL τ t i.size r) (.J (.own t) i.size (es++bX)) r:=by
  intro w1 cm r mL lU ho J' fZ dM hold Fb wZ;subst J'
  let bf:Own:=fun c=>if c=w.heap.size then .tok t [] else @ite _ (ω c=.tok t []) (Classical.propDecidable _) .bM (j5 t dT es.length (ω c))
  have aC7:ω w.heap.size=.bM:=a6.owned.fresh (fg _);have dt:∀c,c<w.heap.size->ω c≠.tok t []->bf c=j5 t dT es.length (ω c)/\w1.heap[c]?=w.heap[c]?:=by
   intro c ak cX;refine⟨?_,lU.block c ak⟩;grind
  have o5:bf w.heap.size=.tok t []:=by simp[bf]
  have oh:∀c p q,c<w.heap.size->ω c=.tok t (p::q)->bf c=.tok t (p::q):=by
   grind[xp]
  refine⟨bf,a6.dg _ (I0 jw kk dt ?_ ?_) (a6.below.next lU) ?_ ?_ ?_ (JQ _),?_,by simp[Tag.ei,gL]⟩
  ·intro id b aw;have bS:=a6.owned.lt (b:=b) (by simp[aw]);rw[(dt b bS (by rw[aw];simp)).1,aw];rfl
  ·intro cD fW e8 _;refine e8.frame fun c q ak aH=>⟨?_,lU.block c ak⟩
   simp only[Tag.R]at aH ⊢;cases q with
   | nil=>grind
   | cons p q=>grind
  ·intro b aw;by_cases y4:b=w.heap.size
   ·subst y4;exact⟨.inl a6.below.size,cm,e,ho⟩
   have:ω b≠.bM:=by
    intro e';simp only[bf]at aw;simp_all[bw,j5]
   obtain⟨aA,k1,lf,aJ⟩:=a6.owned b this;grind
  ·intro id b aw;have bS:=a6.owned.lt (b:=b) (by simp[aw]);obtain⟨h1,U⟩:=dt b bS (by rw[aw];simp);exact⟨by rw[h1,aw];rfl,U⟩
  ·intro id b aw;by_cases y4:b=w.heap.size
   ·grind
   simp only[bf]at aw;rw[bw y4]at aw;split at aw
   ·cases aw
   exact LN.1 aw
  have fw:∀x j d,df (es++bX) x j=some d->∃u,cm[x*i.size+j]?=some u/\b4 w1 bf (fun q=>(Tag.own t).R ((x,j)::q)) d u:=by
   intro x j d aE;rw[Ct]at aE;split at aE
   ·obtain⟨u,h1,R,ed,U⟩:=hold x j d aE;refine⟨u,h1,U.frame fun c q ak aH=>⟨?_,lU.block c ak⟩⟩;exact oh c _ _ ak (ed q _ aH)
   rename_i af;obtain⟨u,h1,U⟩:=jv.QS (aP:=w1) (bf:=bf) (n:=es.length) kk dt aE;refine⟨u,?_,?_⟩
   ·rw[<-Fb _ u h1]
    congr 1
    have:x=es.length+(x-es.length):=by omega
    grind
   simp_all
  have hlen:(es++bX).length=es.length+bX.length:=hs;have rj:∀e∈es++bX,e.length=i.size:=by
   intro e' he;rcases ia.1 he with h | h
   ·grind
   exact jv.rows e' h
  have:=b4.row (w:=w1) (ω:=bf) (Tag.own t).R i.size (es++bX) w.heap.size 0 mL cm e (0,0) (fun x j=>cm.getD (x*i.size+j) undef) ho o5 (by omega) (by omega) rj
   (fun x j d aE=>by obtain⟨u,h1,_⟩:=fw x j d aE;simp_all)
   (fun x j d aE=>by obtain⟨u,h1,U⟩:=fw x j d aE;simp_all)
  grind
 generalize RW:y=mC at aD;cases aD with
 | nil _ _ a0=>
  subst RW;simp only[et,dV]at hl h2;have fN:(Builtin.append_ #[iB,iB] ty #[.slice a0 0 0,.slice (some ⟨bg,kQ,none⟩) bX.length lG]).run P w=
    .ok (.slice (some ⟨w.heap.size,0,none⟩) bX.length (grownCap w bX.length 0 e)) (w.drew.alloc (.cells (news.toArray++Builtin.zeroCells z.cells (grownCap w bX.length 0 e-bX.length)) e)):=by
   cases a0 with
   | none=>exact run_append_nil (P:=P) w iB ty e i z bG hi bd ⟨bg,kQ,none⟩ bX.length lG news jv.len jU BF (by omega) (by omega)
   | some b6=>
    have:=run_append_grow (P:=P) w iB ty e i z bG hi bd b6 0 0 [] (by simp) (fun j v bI=>by simp at bI) ⟨bg,kQ,none⟩ bX.length lG news jv.len jU (by omega) (by omega) (growslice_fits (by omega) (by grind));grind
  have qa:=grownCap_ge w bX.length 0 e;obtain⟨bf,h1,U⟩:=grown _ (news.toArray++Builtin.zeroCells z.cells (grownCap w bX.length 0 e-bX.length)) (.slice (some ⟨w.heap.size,0,none⟩) bX.length (grownCap w bX.length 0 e)) (grownCap w bX.length 0 e)
   (((hf.refl _ _).drew).alloc (fg _) _) (ot _ _) (by simp) (by grind) (by
    simp only[uH,pP,size_zeroCells,jv.len,nC,<-hT];grind)
   (fun f' j d aE=>by grind[df]) (fun x u af=>by
    grind) (fun e he=>by cases he)
  grind
 | row R k es b off cap arr jo cZ us aw ed ak ao hn hu aE=>
  have lT:ω b=.tok t []:=ed;obtain⟨wX,uM,wi,ih⟩:=a6.owned b (by grind);rw[aw]at ih;simp only[aX,Obj.cells.injEq]at ih;obtain⟨rfl,rfl,rfl⟩:=ih;have wT:b<w.heap.size:=(kf.1 aw).1;by_cases o3:es.length+bX.length<=cap
  ·
   have hmul:(es.length+bX.length)*i.size<=cap*i.size:=im _ o3;rw[hT]at hmul;have ve:=jv.len;have er:off+es.length*i.size+news.length<=arr.size:=by omega
   have fN:=FQ (P:=P) (ty:=ty) bG hi w b off es.length cap arr jo aw ⟨bg,kQ,none⟩ bX.length lG news jv.len jU jv.one o3 er;generalize p9:(arr.toList.take (off+es.length*i.size)++news++arr.toList.drop (off+es.length*i.size+news.length)).toArray=cm at fN;have hJ:∀x:Nat,cm[x]?=if off+es.length*i.size<=x/\x<off+es.length*i.size+news.length then news[x-(off+es.length*i.size)]? else arr[x]?:=by
    intro x;rw[<-p9,pO,Cr (by grind)];simp
   have zk:cm.size=arr.size:=by grind
   have lX:=setRow_heap w b arr cm jo (0,0) aw
   let bf:Own:=fun c=>j5 t dT es.length (ω c)
   have dt:∀c,c<w.heap.size->ω c≠.tok t []->bf c=j5 t dT es.length (ω c)/\(w.setRow b cm).heap[c]?=w.heap[c]?:=fun c _ cX=>
    ⟨rfl,setRow_other w b c cm fun e=>cX (by grind)⟩
   have o5:bf b=.tok t []:=by grind[xp]
   have oh:∀c p q,c<w.heap.size->ω c=.tok t (p::q)->bf c=.tok t (p::q)/\(w.setRow b cm).heap[c]?=w.heap[c]?:=by
    intro c p q ak aH;obtain⟨h1,U⟩:=dt c ak (by rw[aH];simp);rw[h1,aH,xp kk];grind
   refine⟨_,_,bf,fN,a6.dg _ (I0 jw kk dt (fun id c jS=>by grind[j5]) ?_) ?_ ?_ ?_ ?_ (JQ _),?_,by simp[Tag.ei,gL]⟩
   ·intro cD fW e8 q9;rw[q9,e2,RW]at e8 ⊢;rw[e1]at e8 ⊢;have mQ:es.length=cD.length:=by
     obtain⟨_,_,h⟩:=e8.len;grind
    refine b4.Zq e8 aw lX zk (fun x af=>?_) (fun o a7 zi=>?_) (fun c p q ak aH=>?_)
    ·grind
    ·right;grind
    grind[Tag.R]
   ·exact a6.below.setRow wX cm
   ·intro c jS;have:ω c≠.bM:=fun e=>by grind[j5]
    obtain⟨aA,k1,lf,aJ⟩:=a6.owned c this;grind[setRow_other]
   ·grind[id,j5,setRow_other]
   ·intro id c jS;exact LN.1 jS
   have fw:∀x j d,df (es++bX) x j=some d->∃u,cm[off+x*i.size+j]?=some u/\b4 (w.setRow b cm) bf (fun q=>(Tag.own t).R ((x,j)::q)) d u:=by
    intro x j d ej;rw[Ct]at ej;split at ej
    ·rename_i af;have BD:=(t' hn ej).2;refine⟨us x j,?_,(aE x j d ej).frame fun c q ak aH=>?_⟩
     ·have:(x+1)*i.size<=es.length*i.size:=im _ af;rw[hT]at this;rw[hJ,bw (by omega),hu x j d ej]
     exact oh c _ _ ak aH
    rename_i af;obtain⟨u,h1,U⟩:=jv.QS (aP:=w.setRow b cm) (bf:=bf) (n:=es.length) kk dt ej;have adN:=(gk.1 h1).1;have zl:x*i.size=es.length*i.size+(x-es.length)*i.size:=by rw[<-hT];grind
    refine⟨u,?_,?_⟩
    ·rw[hJ,bn (by omega),<-h1]
     congr 1
     omega
    rwa[show es.length+(x-es.length)=x by omega]at U
   have hlen:(es++bX).length=es.length+bX.length:=hs;have rj:∀e∈es++bX,e.length=i.size:=by
    intro e' he;rcases ia.1 he with h | h
    ·grind
    exact jv.rows e' h
   have:=b4.row (w:=w.setRow b cm) (ω:=bf) (Tag.own t).R i.size (es++bX) b off cap cm jo (0,0) (fun x j=>cm.getD (off+x*i.size+j) undef) lX o5 (by omega) (by omega) rj
    (fun x j d aE=>by obtain⟨u,h1,_⟩:=fw x j d aE;rw[h1];simp[e7,h1])
    (fun x j d aE=>by obtain⟨u,h1,U⟩:=fw x j d aE;have:cm.getD (off+x*i.size+j) undef=u:=(by simp[e7,h1]);grind)
   grind
  -- it aCB
  have hmul:es.length*i.size<=cap*i.size:=im _ ak;have so:((arr.toList.drop off).take (es.length*i.size)).length=es.length*i.size:=by simp;omega
  have fN:=run_append_grow (P:=P) w iB ty e i z bG hi bd ⟨b,off,none⟩ es.length cap ((arr.toList.drop off).take (es.length*i.size)) so (fun j v bI=>by
   grind[rK,cell_of_row]) ⟨bg,kQ,none⟩ bX.length lG news jv.len jU (by omega) (by omega) (growslice_fits (by omega) hl)
  have qa:=grownCap_ge w (es.length+bX.length) cap e;obtain⟨bf,h1,U⟩:=grown _ (((arr.toList.drop off).take (es.length*i.size)).toArray++news.toArray++Builtin.zeroCells z.cells (grownCap w (es.length+bX.length) cap e-(es.length+bX.length))) _ (grownCap w (es.length+bX.length) cap e)
   (((hf.refl _ _).drew).alloc (fg _) _) (ot _ _) rfl qa (by
    simp only[uH,pP,size_zeroCells,jv.len,nC,so,<-hT];grind)
   (fun f' j d eN=>by
    obtain⟨za,eE⟩:=t' hn eN;have:(f'+1)*i.size<=es.length*i.size:=im _ za;rw[hT]at this;refine⟨us f' j,?_,fun q=>(Tag.own t).R ((f',j)::q),fun q o h=>h,aE f' j d eN⟩;grind)
   (fun x u af=>by
    have gm:=(gk.1 af).1;rw[kc,bn (by grind),kc,bw (by grind)];grind) hn
  grind
end Go.Sx
namespace Go.Sx
open Go.RowKit
def Flat(es:List (List D)):Prop:=∀e∈es,∀d∈e,∃x,d=.v x
theorem awM{es:List (List D)}{i j:Nat}{d:D}(h:df es i j=some d):∃e∈es,d∈e:=by
 unfold df at h;cases af:es[i]? with
 | none=>grind
 | some e=>rw[af,qG]at h;exact⟨e,gb af,gb h⟩
variable{P:Program}{w:World}{ω:Own}{k:Nat}{dT:Option Nat}
theorem Src.empty(a:Option Addr):Src P w ω k [] dT (.slice a 0 0) [] where
 len:=by simp
 rows:=fun _ h=>(by cases h)
 one:=fun _ h=>(by cases h)
 cell:=fun i j d aE=>by grind[df]
 shape:=.inl ⟨⟨a,rfl⟩,rfl⟩
theorem Src.of{R:List (Nat×Nat)->dr->Prop}{bX:List (List D)}{y:Value}(h:b4 w ω R (.J k bX) y)(og:0<k)
  (ak:Flat bX\/∃s,dT=some s/\R=(Tag.own s).R):∃news,Src P w ω k bX dT y news:=by
 cases h with
 | nil=>exact⟨[],Src.empty _⟩
 | row R k es b off cap arr ty cZ us aw ed fZ ao hn hu aE=>
  have hmul:bX.length*k<=cap*k:=im _ fZ;have hJ:∀x:Nat,((arr.toList.drop off).take (bX.length*k))[x]?=if x<bX.length*k then arr[off+x]? else none:=by
   grind
  have fw:∀i j d,df bX i j=some d->((arr.toList.drop off).take (bX.length*k))[i*k+j]?=some (us i j):=by
   intro i j d eN;obtain⟨hi,bk⟩:=t' hn eN;have:(i+1)*k<=bX.length*k:=im _ hi;grind
  refine⟨(arr.toList.drop off).take (bX.length*k),by simp;omega,hn,?_,?_,.inr ⟨b,off,cap,rfl,?_⟩⟩
  ·intro u kl;obtain⟨x,af⟩:=pS.1 kl;have bS:x<bX.length*k:=by
    grind
   have zl:x=(x / k)*k+x % k:=by grind[Nat.mul_comm,Nat.div_add_mod]
   have aH:x / k<bX.length:=Nat.div_lt_of_lt_mul (by grind);obtain⟨d,eN⟩:=SB hn aH (Nat.mod_lt x og);have h1:=fw _ _ _ eN;rw[<-zl,af]at h1;rw[gJ h1];exact (aE _ _ _ eN).qo
  ·intro i j d eN;refine⟨us i j,fw i j d eN,?_⟩;rcases ak with bF | ⟨s,mj,w3⟩
   ·obtain⟨e,he,By⟩:=awM eN;obtain⟨x,rfl⟩:=bF e he d By;have:=aE i j _ eN;cases aA:us i j<;>(rw[aA]at this;cases this;grind)
   simp_all
  grind[rK,cell_of_row]
variable{τ:Nat->Nat×Value}
theorem cK.K7{w0:eR}{st:aC}{a:Act}(h:cK w0 st a w ω τ)(t k:Nat)(jw:t<dj):
  ∃bf,cK w0 (st.j1 t []) a w bf (gL τ t k (.slice none 0 0))/\Sat w bf (gL τ t k (.slice none 0 0)) (.J (.own t) k []) (.slice none 0 0):=by
 refine⟨fun b=>qq t [] (ω b),h.dg _ (mI.sat (g:=iL t []) (p:=fun _=>true) ⟨?_,?_,?_,rfl,fun s ao=>by simp only[gL];grind⟩) h.below ?_ ?_ ?_ (fun s ao=>by simp only[gL];grind),.nil _ _ _,by simp[Tag.ei,gL]⟩
 ·grind[Td]
 ·intro g eI y ax bD;cases g with
  | free=>simp only[iL,aX]at ax;subst ax;exact trivial
  | own s=>
   simp only[iL]at ax;split at ax
   ·simp only[aX]at ax;subst ax;exact trivial
   split at ax
   ·cases ax
   simp only[aX]at ax;subst ax;simp_all[Tag.ei,gL,bw]
  | ro s=>
   simp only[iL]at ax;split at ax
   ·simp only[aX]at ax;subst ax;exact trivial
   split at ax
   ·cases ax
   simp only[aX]at ax;subst ax;exact trivial
 ·intro id b _ aw;exact Gm.2 aw
 ·intro b aw;exact h.owned b fun e=>by simp only[e]at aw;exact aw rfl
 ·intro id b aw;exact⟨Gm.2 aw,rfl⟩
 intro id b aw;exact Gm.1 aw
def wJ(t k:Nat)(q:aI)(ans:List cd):Option (List (List D)×Option Nat×List cd×List Prop):=
 match q.leaf,ans with
 | some (.J (.own s) ch bX),.wr::r=>if ch=k/\s≠t then some (bX,some s,r,[]) else none
 | some (.J _ ch bX),ans=>if ch=k then some (bX,none,ans,[Flat bX]) else none
 | some (.v (.slice none 0 0)),ans=>some ([],none,ans,[])
 | some (.aN _ _ _ ch bX .here),ans=>if ch=k then some (bX,none,ans,[Flat bX]) else none
 | some (.aN _ _ _ ch bX .mJ),ans=>if ch=k then some (bX,none,ans,[Flat bX]) else none
 | _,_=>none
theorem SD{P:Program}{t:Nat}{q:aI}{y:Value}{ans cu:List cd}{bX:List (List D)}{obs:List Prop}(og:0<k)
  (aH:cV (Sat w ω τ) q y) (h:wJ t k q ans=some (bX,dT,cu,obs)) (a7:cQ obs):dT≠some t/\∃news,Src P w ω k bX dT y news:=by
 unfold wJ at h;split at h
 ·rename_i s ch es r e;split at h
  ·rename_i ak;obtain⟨rfl,cX⟩:=ak;simp only[aX,bK]at h;obtain⟨rfl,rfl,_,_⟩:=h;exact⟨by grind,Src.of (aI.dS e aH).1 og (.inr ⟨s,rfl,rfl⟩)⟩
  cases h
 ·rename_i g ch es e _;split at h
  ·rename_i ak;subst ak;simp only[aX,bK]at h;obtain⟨rfl,rfl,_,rfl⟩:=h;exact⟨by simp,Src.of (aI.dS e aH).1 og (.inl a7.1)⟩
  cases h
 ·rename_i e;simp only[aX,bK]at h;obtain⟨rfl,rfl,_,_⟩:=h;have:y=.slice none 0 0:=aI.dS e aH;subst this;exact⟨by simp,[],Src.empty _⟩
 ·rename_i s yp DN ch es e;split at h
  ·rename_i ak;subst ak;simp only[aX,bK]at h;obtain⟨rfl,rfl,_,rfl⟩:=h;obtain⟨fH,rfl,aD,_⟩:=aI.dS e aH;exact⟨by simp,Src.of aD og (.inl a7.1)⟩
  cases h
 ·rename_i s yp DN ch es e;split at h
  ·rename_i ak;subst ak;simp only[aX,bK]at h;obtain⟨rfl,rfl,_,rfl⟩:=h;obtain⟨fH,rfl,aD,_⟩:=aI.dS e aH;exact⟨by simp,Src.of aD og (.inl a7.1)⟩
  cases h
 cases h
def ED(d:Nat)(st:aC)(k:Nat)(p:aI):Option (aC×Nat×List (List D)):=
 match p.leaf with
 | some (.J (.own t) ch es)=>if ch=k then some (st,t,es) else none
 | some (.v (.slice none 0 0))=>some (st.j1 d [],d,[])
 | _=>none
def AH(P:Program)(st:aC)(d:Nat)(t:TypeId)(x y:Operand)(ans:List cd):Stepped:=
 match rA P t with
 | some (e,k)=>
  match P.info? e,ED d st k (st.bq x) with
  | some i,some (st1,hB,es)=>
   match i.zero,wJ hB k (st1.bq y) ans with
   | some z,some (bX,dT,cu,obs)=>
    if z.cells.size=k/\0<k/\hB<dj then
     some (⟨(st1.yL hB dT).env.set d (.one (.J (.own hB) k (es++bX))),(st1.yL hB dT).boxes⟩,cu,((es.length+bX.length)*i.bytes<=140737488355328)::(es.length+bX.length<=9223372036854775807)::obs)
    else none
   | _,_=>none
  | _,_=>none
 | none=>none
theorem cK.AH{w0:eR}{st bz:aC}{a:Act}{d:Nat}{t ty:TypeId}{x y:Operand}{ans cu:List cd}{obs:List Prop}
  (a6:cK w0 st a w ω τ) (h:Sx.AH P st d t x y ans=some (bz,cu,obs)) (a7:cQ obs):
  ∃z aP,(Builtin.append_ #[t,t] ty #[a.eval x,a.eval y]).run P w=.ok z aP/\Rel w0 bz (a.put (some d) z) aP:=by
 unfold Sx.AH at h;split at h
 ·rename_i e k he;obtain⟨hu,i0,lo,zj⟩:=xn he;split at h
  ·rename_i i st1 hB es hi kG;rw[lo]at hi;have qd:=gJ hi;subst qd;split at h
   ·rename_i z bX dT wI zv bd jv;split at h
    ·rename_i ak;simp only[aX,bK]at h;obtain⟨rfl,rfl,rfl⟩:=h;obtain⟨cC,cg,cL⟩:=a7;have:∃IU QC,cK w0 st1 a w IU QC/\Sat w IU QC (.J (.own hB) k es) (a.eval x):=by
      unfold ED at kG;split at kG
      ·rename_i du ch cD al;split at kG
       ·rename_i hn;subst hn;simp only[aX,bK]at kG;obtain⟨rfl,rfl,rfl⟩:=kG;exact⟨ω,τ,a6,aI.dS al (a6.bq x)⟩
       cases kG
      ·rename_i al;simp only[aX,bK]at kG;obtain⟨rfl,rfl,rfl⟩:=kG;have:a.eval x=.slice none 0 0:=aI.dS al (a6.bq x);rw[this];obtain⟨IU,h1,U⟩:=a6.K7 d k ak.2.2;grind
      cases kG
     obtain⟨IU,QC,h3,af⟩:=this;obtain⟨kk,news,ao⟩:=SD (P:=P) ak.2.1 (h3.bq y) jv cL;obtain⟨r,aP,bf,h1,U,aA⟩:=h3.append (P:=P) (ty:=ty) af ao kk hu lo bd zj ak.1 cC cg ak.2.2;exact⟨r,aP,h1,bf,_,U.put (p:=.one (.J (.own hB) k (es++bX))) aA⟩
    cases h
   cases h
  cases h
 cases h
