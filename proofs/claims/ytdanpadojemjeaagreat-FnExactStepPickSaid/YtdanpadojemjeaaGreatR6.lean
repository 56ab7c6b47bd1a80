/- Boxes: a local variable in memory is laid, and written. -/
import Derived.Test.YtdanpadojemjeaaGreatR4
set_option linter.unusedVariables false
set_option linter.unusedSimpArgs false
namespace Go.Sx
open Go.RowKit
def qcH(id:Nat)(ls':List Leaf):List (Nat×List Leaf)→List (Nat×List Leaf)
 | []=>[]
 | (i,ls)::r=>if i=id then (i,ls')::r else (i,ls)::qcH id ls' r
theorem qfs{id:Nat}{ls':List Leaf}:∀{bs:List (Nat×List Leaf)} {ls:List Leaf},qao id bs=some ls→qao id (qcH id ls' bs)=some ls'
 | [],_,h=>by cases h
 | (i,l)::r,ls,h=>by
  simp only[qcH]
  by_cases hi:i=id
  ·rw[zq hi];simp[qao,hi]
  ·rw[zo hi]
   simp only[qao,zo hi]at h ⊢
   exact qfs h
theorem qft{id id':Nat}{ls':List Leaf}(hn:id'≠id):∀{bs:List (Nat×List Leaf)},qao id' (qcH id ls' bs)=qao id' bs
 | []=>rfl
 | (i,l)::r=>by
  simp only[qcH]
  by_cases hi:i=id
  ·rw[zq hi];simp only[qao,hi];rw[zo (Ne.symm hn),zo (Ne.symm hn)]
  ·rw[zo hi]
   simp only[qao]
   split
   ·rfl
   ·exact qft hn
theorem Tag.R_box{t:Tag}{q:List (Nat×Nat)}{id:Nat}:¬t.R q (.box id):=by
 cases t with
 | free=>exact fun h=>by cases h
 | own s=>exact fun h=>by cases h
 | ro s=>exact fun h=>by rcases h with h | ⟨_,h⟩<;>cases h
theorem Sat.setRow_box{w:World}{ω:Own}{τ:Nat→Nat×Value}{b id:Nat}(hb:ω b=.box id)(cs:Array Value):∀(l:Leaf) (v:Value),Sat w ω τ l v→Sat (w.setRow b cs) ω τ l v:=by
 have ev:Evolve w ω τ (w.setRow b cs) ω τ keepT (fun _=>true):=by
  refine⟨?_,?_,fun _ _ _ h=>h,rfl⟩
  ·intro t t' b' q hg _ hq
   simp only[keepT,za]at hg
   subst hg
   refine⟨hq,setRow_other w b b' cs fun e=>?_⟩
   subst e
   rw[hb]at hq
   exact Tag.R_box hq
  ·intro t t' y hg hy
   simp only[keepT,za]at hg
   subst hg;exact hy
 intro l v hs
 have:=ev.sat l v hs
 cases l with
 | sn t i j k es m=>
  obtain⟨u,hu,h1,hm⟩:=hs
  refine⟨u,hu,h1.frame fun c q hc hq=>⟨hq,setRow_other w b c cs fun e=>?_⟩,fun hh=>?_⟩
  ·subst e;rw[hb]at hq;cases hq
  ·obtain⟨kT,b2,off,len,cap,arr,ty,fr,h2,h5,h3,h4⟩:=hm hh
   exact⟨kT,b2,off,len,cap,arr,ty,fr,h2,h5,(setRow_other w b b2 cs fun e=>by subst e;rw[hb]at h5;cases h5).trans h3,h4⟩
 | np t vs=>
  obtain⟨b2,ty,arr,e,h5,h3,hn,hv⟩:=hs
  refine⟨b2,ty,arr,e,h5,(setRow_other w b b2 cs fun e=>by subst e;rw[hb]at h5;cases h5).trans h3,hn,fun j c hc=>?_⟩
  obtain⟨u,h1,h2⟩:=hv j c hc
  refine⟨u,h1,?_⟩
  have h9:=ev.nc c u h2
  have:NC.re keepT c=c:=by cases c<;>simp[NC.re,keepT]
  rwa[this]at h9
 | _=>simpa[Leaf.re,keepT]using this
theorem RelAt.storeBox{w0:Base}{st:St}{a:Act}{w:World}{ω:Own}{τ:Nat→Nat×Value}(h:RelAt w0 st a w ω τ){id:Nat}{ls ls':List Leaf}(hg:qao id st.boxes=some ls)
  {b:Nat} (hb:ω b=.box id) {arr':Array Value} (hs:SatL (Sat w ω τ) ls' arr'):
  RelAt w0 ⟨st.env,qcH id ls' st.boxes⟩ a (w.setRow b arr') ω τ:=by
 obtain⟨b',arr,ty,hb',hu,hh,hsat⟩:=h.boxes id ls hg
 have:=hu b hb
 subst this
 have hsat':=Sat.setRow_box (w:=w) (ω:=ω) (τ:=τ) hb arr'
 have hhs:=setRow_heap w b arr arr' ty (0,0) hh
 refine⟨h.defers,h.size,?_,?_,h.fixed,h.pinned,?_,?_⟩
 ·exact h.below.setRow (h.owned b (by simp[hb])).1 arr'
 ·intro c hc
  obtain⟨h1,arr2,ty2,h2⟩:=h.owned c hc
  by_cases e:c=b
  ·subst e;exact⟨h1,arr',ty,hhs⟩
  ·exact⟨h1,arr2,ty2,(setRow_other w b c arr' e).trans h2⟩
 ·intro i p hp
  obtain⟨v,h1,h2⟩:=h.env i p hp
  refine⟨v,h1,?_⟩
  have:=SatP.map (f:=_root_.id) hsat' h2
  have e:PV.map _root_.id p=p:=by
   cases p with
   | al a=>cases a<;>simp[PV.map,AL.map]
   | tup as=>
    simp only[PV.map]
    congr 1
    have:AL.map _root_.id=_root_.id:=by funext a;cases a<;>simp[AL.map]
    rw[this];simp
  rwa[e]at this
 ·intro i l hl
  by_cases e:i=id
  ·subst e
   rw[qfs hg]at hl
   have e:=zx hl
   subst e
   refine⟨b,arr',ty,hb,hu,hhs,?_⟩
   have:=hs.map (f:=_root_.id) hsat'
   simpa using this
  ·rw[qft e]at hl
   obtain⟨c,arr2,ty2,hc,hcu,hch,hcs⟩:=h.boxes i l hl
   have hne:c≠b:=fun e'=>by subst e';rw[hb]at hc;simp only[Owner.box.injEq]at hc;exact e hc.symm
   refine⟨c,arr2,ty2,hc,hcu,(setRow_other w b c arr' hne).trans hch,?_⟩
   have:=hcs.map (f:=_root_.id) hsat'
   simpa using this
abbrev Stepped:=Option (St×List Ans×List Prop)
def qiV(st:St)(d:Nat)(p:PV)(ans:List Ans):Stepped:=
 if d<giv then p.leaves.map fun ls=>(⟨(st.newBox d ls).env.set d (.one (.ptr d 0)),(st.newBox d ls).boxes⟩,ans,[]) else none
theorem RelAt.box{P:Program}{w0:Base}{st st':St}{a:Act}{w:World}{ω:Own}{τ:Nat→Nat×Value}{d:Nat}{p:PV}{v:Value}{ans ans':List Ans}{obs:List Prop}(hrel:RelAt w0 st a w ω τ)
  (hp:SatP (Sat w ω τ) p v) (h:qiV st d p ans=some (st',ans',obs)) (ty:TypeId):
  ∃z w',(do pure (.pointer (some (←newVar ty v))):Sem Value).run P w=.ok z w'∧Rel w0 st' (a.put (some d) z) w':=by
 unfold qiV at h
 split at h
 case isFalse=>cases h
 rename_i hdg
 rw[zc]at h
 obtain⟨ls,h1,h⟩:=h
 simp only[ze]at h
 obtain⟨rfl,_,_⟩:=h
 obtain⟨hs,_⟩:=PV.leaves_sat h1 hp
 obtain⟨ω',hrel',hω⟩:=hrel.newBox d hdg ty hs
 refine⟨.pointer (some ⟨w.heap.size,0,none⟩),w.alloc (.cells v.cells ty),by simp[newVar,newRow],ω',τ,?_⟩
 exact hrel'.put (p:=.one (.ptr d 0)) ⟨w.heap.size,hω,rfl⟩
def qiW(P:Program)(st:St)(d:Nat)(elem:TypeId)(ans:List Ans):Stepped:=
 match P.info? elem with
 | some i=>match i.zero with
  | some z=>if d<giv then let ls:=z.cells.toList.map .v;some (⟨(st.newBox d ls).env.set d (.one (.ptr d 0)),(st.newBox d ls).boxes⟩,ans,[]) else none
  | none=>none
 | none=>none
theorem RelAt.alloc{P:Program}{w0:Base}{st st':St}{a:Act}{w:World}{ω:Own}{τ:Nat→Nat×Value}{d:Nat}{elem:TypeId}{ans ans':List Ans}{obs:List Prop}(hrel:RelAt w0 st a w ω τ)
  (h:qiW P st d elem ans=some (st',ans',obs)):
  ∃z w',(Instr.alloc elem true (.tuple #[])).run P w=.ok z w'∧Rel w0 st' (a.put (some d) z) w':=by
 unfold qiW at h
 split at h
 ·rename_i i hi
  split at h
  ·rename_i z hz
   split at h
   case isFalse=>cases h
   rename_i hdg
   simp only[za,ze]at h
   obtain⟨rfl,_,_⟩:=h
   have hs:SatL (Sat w ω τ) (z.cells.toList.map .v) z.cells:=by
    refine⟨by simp,fun j l hl=>?_⟩
    rw[zp,zc]at hl
    obtain⟨u,hu,rfl⟩:=hl
    exact⟨u,by simpa using hu,rfl⟩
   obtain⟨ω',hrel',hω⟩:=hrel.newBox d hdg elem hs
   refine⟨.pointer (some ⟨w.heap.size,0,none⟩),w.alloc (.cells z.cells elem),by simp[Instr.alloc,zeroValue,typeInfo,hi,hz,newVar,newRow],ω',τ,?_⟩
   exact hrel'.put (p:=.one (.ptr d 0)) ⟨w.heap.size,hω,rfl⟩
  ·cases h
 ·cases h
def qiX(P:Program)(st:St)(t:TypeId)(id off:Nat)(q:PV)(ans:List Ans):Stepped:=
 match qao id st.boxes,q.leaves,P.info? t with
 | some ls,some xs,some i=>if xs.length=i.size∧off+xs.length≤ls.length then some (⟨st.env,qcH id (blit ls off xs) st.boxes⟩,ans,[]) else none
 | _,_,_=>none
theorem qgf{α:Type}{xs ys:List α}{off:Nat}(h:off+ys.length≤xs.length)(i:Nat):
  (xs.take off++ys++xs.drop (off+ys.length))[i]?=if off≤i∧i<off+ys.length then ys[i-off]? else xs[i]?:=by
 rw[zce,zT,zay,Nat.min_eq_left (by omega)]
 by_cases h1:i<off
 ·rw[zq h1,zo (by omega),zE,zq h1]
 ·rw[zo h1,zT]
  by_cases h2:i-off<ys.length
  ·rw[zq h2,zq (by omega)]
  ·rw[zo h2,zo (by omega),zA]
   congr 1
   omega
theorem RelAt.storeAtBox{P:Program}{w0:Base}{st st':St}{a:Act}{w:World}{ω:Own}{τ:Nat→Nat×Value}{t:TypeId}{id off:Nat}{q:PV}{b:Nat}{v:Value}{ans ans':List Ans}{obs:List Prop}
  (hrel:RelAt w0 st a w ω τ) (hb:ω b=.box id) (hq:SatP (Sat w ω τ) q v) (h:qiX P st t id off q ans=some (st',ans',obs)):
  ∃w',(Instr.storeAt t (.pointer (some ⟨b,off,none⟩)) v).run P w=.ok () w'∧Rel w0 st' a w':=by
 unfold qiX at h
 split at h
 ·rename_i ls xs i e1 e2 e3
  split at h
  ·rename_i hc
   simp only[za,ze]at h
   obtain⟨rfl,_,_⟩:=h
   obtain⟨hs,hone⟩:=PV.leaves_sat e2 hq
   obtain⟨b',arr,ty,hb',hu,hh,hsat⟩:=hrel.boxes id ls e1
   have:=hu b hb
   subst this
   have hst:=run_storeCells_at P b off ty v.cells.toList 0 arr w hh (by simp;have:=hs.1;have:=hsat.1;omega) hone
   have hnew:SatL (Sat w ω τ) (blit ls off xs) (arr.toList.take (off+0)++v.cells.toList++arr.toList.drop (off+0+v.cells.toList.length)).toArray:=by
    have h1:=hs.1
    have h2:=hsat.1
    refine⟨?_,fun j l hl=>?_⟩
    ·rw[qiJ (by omega)];simp;omega
    ·rw[qlr (by omega)]at hl
     rw[zX,zbh,qgf (by simp;omega)]
     simp only[zbw]
     by_cases hj:off≤j∧j<off+xs.length
     ·rw[zq hj]at hl
      rw[zq (by omega)]
      obtain⟨u,h3,h4⟩:=hs.2 _ _ hl
      exact⟨u,by simpa using h3,h4⟩
     ·rw[zo hj]at hl
      rw[zo (by omega)]
      obtain⟨u,h3,h4⟩:=hsat.2 _ _ hl
      exact⟨u,by simpa using h3,h4⟩
   refine⟨_,?_,ω,τ,hrel.storeBox e1 hb hnew⟩
   simp only[Instr.storeAt,Instr.sureAddr,Sem.run_bind,Sem.run_pure,Result.andThen_ok,storeVar,sizeOf,typeInfo,run_program,e3]
   have hsz:¬(v.cells.size≠i.size):=by simp;have:=hs.1;omega
   rw[zo hsz]
   exact hst
  ·cases h
 ·cases h
end Go.Sx
namespace Go.Sx
open Go.RowKit
theorem RelAt.turn{w0:Base}{st:St}{a:Act}{w w':World}{ω ω':Own}{τ τ':Nat→Nat×Value}(h:RelAt w0 st a w ω τ)(f:Leaf→Leaf)
  (hsat:∀l v,Sat w ω τ l v→Sat w' ω' τ' (f l) v) (hbelow:Bel w0 w') (howned:Owned w0 w' ω')
  (hbox:∀id b,ω b=.box id→ω' b=.box id∧w'.heap[b]?=w.heap[b]?) (hboxU:∀id b,ω' b=.box id→ω b=.box id) (hfix:∀t,giv≤t→τ' t=τ t:=by intros;rfl):RelAt w0 (st.map f) a w' ω' τ' where
 defers:=h.defers
 size:=by simp[St.map,h.size]
 below:=hbelow
 owned:=howned
 fixed:=fun t ht=>(hfix t ht).trans (h.fixed t ht)
 pinned:=fun id b hi hb=>h.pinned id b hi (hboxU id b hb)
 env:=by
  intro i q hq
  simp only[St.map]at hq
  rw[zp,zc]at hq
  obtain⟨q0,h0,rfl⟩:=hq
  obtain⟨v,h1,h2⟩:=h.env i q0 h0
  exact⟨v,h1,SatP.map hsat h2⟩
 boxes:=by
  intro id ls hl
  simp only[St.map]at hl
  rw[qdn,zc]at hl
  obtain⟨ls0,h0,rfl⟩:=hl
  obtain⟨b,arr,ty,hb,hu,hh,hs⟩:=h.boxes id ls0 h0
  obtain⟨h1,h2⟩:=hbox id b hb
  exact⟨b,arr,ty,h1,fun b' hb'=>hu b' (hboxU id b' hb'),h2.trans hh,hs.map hsat⟩
abbrev Moves:=List (Nat×(Nat×Nat))
def Moves.at(s:Nat):Moves→Option (Nat×Nat)
 | []=>none
 | (i,p)::r=>if i=s then some p else Moves.at s r
def mvTag(t:Nat)(ms:Moves):Tag→Option Tag
 | .free=>some .free
 | .own s=>if s=t then some .free else if (ms.at s).isSome then none else some (.own s)
 | .ro s=>if s=t then some .free else if (ms.at s).isSome then none else some (.ro s)
def qcu(t:Nat)(ms:Moves):Owner→Owner
 | .tok s q=>if s=t then .imm else match ms.at s with | some p=>.tok t (p::q) | none=>.tok s q
 | o=>o
theorem qhf{t:Nat}{ms:Moves}{o:Owner}{id:Nat}:qcu t ms o=.box id↔o=.box id:=by
 cases o with
 | imm=>simp[qcu]
 | box i=>simp[qcu]
 | tok s q=>
  simp only[qcu]
  split
  ·simp
  ·split<;>simp
theorem qlu{t:Nat}{ms:Moves}{g g':Tag}{q:List (Nat×Nat)}{o:Owner}(h:mvTag t ms g=some g')(hr:g.R q o):g'.R q (qcu t ms o):=by
 cases g with
 | free=>simp only[mvTag,za]at h;subst h;simp only[Tag.R]at hr ⊢;rw[hr];rfl
 | own s=>
  simp only[Tag.R]at hr
  subst hr
  simp only[mvTag]at h
  simp only[qcu]
  split at h
  ·simp only[za]at h;subst h;rw[zq ‹_›];rfl
  ·split at h
   ·cases h
   ·rename_i h1 h2
    simp only[za]at h;subst h
    rw[zo h1]
    cases e:ms.at s with
    | none=>rfl
    | some p=>simp[e]at h2
 | ro s=>
  simp only[Tag.R]at hr
  simp only[mvTag]at h
  split at h
  ·simp only[za]at h;subst h
   rcases hr with rfl | ⟨q',rfl⟩
   ·rfl
   ·simp only[qcu];rw[zq ‹_›];rfl
  ·split at h
   ·cases h
   ·rename_i h1 h2
    simp only[za]at h;subst h
    rcases hr with rfl | ⟨q',rfl⟩
    ·exact .inl rfl
    ·refine .inr ⟨q',?_⟩
     simp only[qcu]
     rw[zo h1]
     cases e:ms.at s with
     | none=>rfl
     | some p=>simp[e]at h2
def qcv(w:World)(ω:Own)(t:Nat)(ms:Moves):Own:=fun b=>if b=w.heap.size then .tok t [] else qcu t ms (ω b)
def qfu(w:World)(τ:Nat→Nat×Value)(t k n c:Nat):Nat→Nat×Value:=fun s=>if s=t then (k,.slice (some ⟨w.heap.size,0,none⟩) n c) else τ s
def St.newTok(st:St)(t:Nat)(ms:Moves):St:=st.map (Leaf.re (mvTag t ms) fun _=>true)
theorem qqM{w w1:World}{ω:Own}{τ:Nat→Nat×Value}{t k n c:Nat}{ms:Moves}(hf:ω w.heap.size=.imm)(hh:∀b,b<w.heap.size→w1.heap[b]?=w.heap[b]?):
  Evolve w ω τ w1 (qcv w ω t ms) (qfu w τ t k n c) (mvTag t ms) (fun _=>true):=by
 refine⟨?_,?_,?_,rfl⟩
 ·intro g g' b q hg hb hq
  refine⟨?_,hh b hb⟩
  simp only[qcv]
  rw[zo (by omega)]
  exact qlu hg hq
 ·intro g g' y hg hy
  cases g with
  | free=>simp only[mvTag,za]at hg;subst hg;exact trivial
  | own s=>
   simp only[mvTag]at hg
   split at hg
   ·simp only[za]at hg;subst hg;exact trivial
   ·split at hg
    ·cases hg
    ·simp only[za]at hg;subst hg
     simp only[Tag.hdr,qfu]at hy ⊢
     rw[zo ‹_›];exact hy
  | ro s=>
   simp only[mvTag]at hg
   split at hg
   ·simp only[za]at hg;subst hg;exact trivial
   ·split at hg
    ·cases hg
    ·simp only[za]at hg;subst hg;exact trivial
 ·intro id b _ hb
  simp only[qcv]
  by_cases e:b=w.heap.size
  ·subst e;rw[hf]at hb;cases hb
  ·rw[zo e,hb];rfl
def Leaf.toD:Leaf→Option D
 | .v x=>if x.oneCell' then some (.v x) else none
 | .sb c=>some (.v (.bool c))
 | .sl (.own _) k es=>some (.sl k es)
 | _=>none
def Leaf.tok:Leaf→Option Nat
 | .sl (.own s) _ _=>some s
 | _=>none
def qhg(w:World)(ω:Own)(τ:Nat→Nat×Value)(t:Nat)(ms:Moves)(i j:Nat)(d:D)(u:Value):Prop:=
 ∃l:Leaf,l.toD=some d∧Sat w ω τ l u∧∀s,l.tok=some s→s≠t∧ms.at s=some (i,j)
theorem qhg.rep{w w1:World}{ω:Own}{τ:Nat→Nat×Value}{t:Nat}{ms:Moves}{i j:Nat}{d:D}{u:Value}(h:qhg w ω τ t ms i j d u)(hh:∀b,b<w.heap.size→w1.heap[b]?=w.heap[b]?):
  Rep w1 (qcv w ω t ms) (fun q=>(Tag.own t).R ((i,j)::q)) d u:=by
 obtain⟨l,hd,hs,hm⟩:=h
 cases l with
 | und=>cases hd
 | v x=>
  simp only[Leaf.toD]at hd
  split at hd
  ·simp only[za]at hd;subst hd
   have:u=x:=hs
   subst this
   exact .v _ _ ‹_›
  ·cases hd
 | sb c=>
  simp only[Leaf.toD,za]at hd;subst hd
  have:u=.bool c:=hs
  subst this
  exact .v _ _ rfl
 | sl g k es=>
  cases g with
  | free=>cases hd
  | ro s=>cases hd
  | own s=>
   simp only[Leaf.toD,za]at hd;subst hd
   obtain⟨hne,hat⟩:=hm s rfl
   refine hs.1.frame fun b q hb hq=>⟨?_,hh b hb⟩
   simp only[Tag.R]at hq ⊢
   simp only[qcv]
   rw[zo (by omega),hq]
   simp only[qcu]
   rw[zo hne,hat]
 | ptr id off=>cases hd
 | ep g k es i j=>cases hd
 | rp=>cases hd
 | fd=>cases hd
 | clo=>cases hd
 | sn=>cases hd
 | np=>cases hd
theorem RelAt.newTok{w0:Base}{st:St}{a:Act}{w w1:World}{ω:Own}{τ:Nat→Nat×Value}(h:RelAt w0 st a w ω τ)(t:Nat)(htg:t<giv)(ms:Moves){k cap:Nat}{es:List (List D)}{arr:Array Value}{ty:TypeId}
  (hb:Blw w.heap.size w w1) (hnew:w1.heap[w.heap.size]?=some (.cells arr ty (0,0))) (hc:es.length≤cap) (hsz:cap*k≤arr.size) (hk:∀e∈es,e.length=k)
  (hcell:∀i j d,qal es i j=some d→∃u,arr[i*k+j]?=some u∧qhg w ω τ t ms i j d u):
  RelAt w0 (st.newTok t ms) a w1 (qcv w ω t ms) (qfu w τ t k es.length cap)∧
  Sat w1 (qcv w ω t ms) (qfu w τ t k es.length cap) (.sl (.own t) k es) (.slice (some ⟨w.heap.size,0,none⟩) es.length cap):=by
 have hf:ω w.heap.size=.imm:=h.owned.fresh (zP _)
 have hblk:=hb.block
 have hlt1:w.heap.size<w1.heap.size:=(zz.1 hnew).1
 have hself:qcv w ω t ms w.heap.size=.tok t []:=by simp[qcv]
 have hother:∀b,b≠w.heap.size→qcv w ω t ms b=qcu t ms (ω b):=fun b hb=>by simp[qcv,hb]
 refine⟨h.turn _ (qqM hf hblk).sat ?_ ?_ ?_ ?_ (fun s hs=>by simp only[qfu];rw[zo (by omega)]),?_,?_⟩
 ·exact h.below.next hb
 ·intro b hbi
  by_cases e:b=w.heap.size
  ·subst e;exact⟨.inl h.below.size,arr,ty,hnew⟩
  ·rw[hother b e]at hbi
   have h2:ω b≠.imm:=fun e'=>by rw[e']at hbi;exact hbi rfl
   obtain⟨h3,arr2,ty2,h4⟩:=h.owned b h2
   exact⟨h3,arr2,ty2,(hblk b (h.owned.lt h2)).trans h4⟩
 ·intro id b hbi
  have hlt:=h.owned.lt (b:=b) (by simp[hbi])
  rw[hother b (by omega),hbi]
  exact⟨rfl,hblk b hlt⟩
 ·intro id b hbi
  by_cases e:b=w.heap.size
  ·subst e;rw[hself]at hbi;cases hbi
  ·rw[hother b e]at hbi
   exact qhf.1 hbi
 ·have hus:∀i j d,qal es i j=some d→arr[0+i*k+j]?=some (arr.getD (i*k+j) undef)∧qhg w ω τ t ms i j d (arr.getD (i*k+j) undef):=by
   intro i j d hd
   obtain⟨u,h1,h2⟩:=hcell i j d hd
   have e:arr.getD (i*k+j) undef=u:=by simp[zm,h1]
   rw[e]
   exact⟨by rw[zu];exact h1,h2⟩
  exact .row _ k es w.heap.size 0 cap arr ty (0,0) (fun i j=>arr.getD (i*k+j) undef) hnew hself hc (by omega) hk (fun i j d hd=>(hus i j d hd).1) (fun i j d hd=>(hus i j d hd).2.rep hblk)
 ·simp[Tag.hdr,qfu]
def qiY(P:Program)(st:St)(d:Nat)(t:TypeId)(p q:PV)(ans:List Ans):Stepped:=
 match P.underlying t with
 | some (.slice e)=>
  match P.info? e,p.int,q.int with
  | some i,some (_,l),some (_,c)=>
   match i.zero with
   | some z=>
    if i.size=z.cells.size∧0<i.size∧z.cells.all (·.oneCell')=true∧d<giv then
     some (⟨(st.newTok d []).env.set d (.one (.sl (.own d) i.size (List.replicate l.toNat (z.cells.toList.map .v)))),(st.newTok d []).boxes⟩,ans,[0≤l,l≤c,(i.bytes:Int)*c≤281474976710656,c≤9223372036854775807])
    else none
   | none=>none
  | _,_,_=>none
 | _=>none
theorem qlv(z:Array Value)(n i j:Nat)(hi:i<n)(hj:j<z.size):(madeCells z (n*z.size))[i*z.size+j]?=z[j]?:=by
 have hlt:i*z.size+j<n*z.size:=by
  have:(i+1)*z.size≤n*z.size:=zC _ hi
  rw[zR]at this;omega
 have e:(i*z.size+j) % z.size=j:=by rw[Nat.add_comm,Nat.add_mul_mod_self_right];exact zcq hj
 simp[madeCells,hlt,e,getElem!_pos,hj]
theorem qqN{n:Nat}{e:List D}{i j:Nat}{d:D}(h:qal (List.replicate n e) i j=some d):i<n∧e[j]?=some d:=by
 unfold qal at h
 rw[zbn]at h
 split at h
 ·exact⟨‹_›,h⟩
 ·simp at h
theorem RelAt.make{P:Program}{w0:Base}{st st':St}{a:Act}{w:World}{ω:Own}{τ:Nat→Nat×Value}{d:Nat}{t:TypeId}{p q:PV}{u v:Value}{ans ans':List Ans}{obs:List Prop}
  (hrel:RelAt w0 st a w ω τ) (hp:SatP (Sat w ω τ) p u) (hq:SatP (Sat w ω τ) q v) (h:qiY P st d t p q ans=some (st',ans',obs)) (ho:Obs obs):
  ∃z w',(Instr.makeSlice t u v).run P w=.ok z w'∧Rel w0 st' (a.put (some d) z) w':=by
 unfold qiY at h
 split at h
 ·rename_i e hu
  split at h
  ·rename_i i k1 l k2 c hi e1 e2
   split at h
   ·rename_i z hz
    split at h
    ·rename_i hc
     obtain⟨hc1,hc2,hc3,hcg⟩:=hc
     simp only[za,ze]at h
     obtain⟨rfl,_,rfl⟩:=h
     obtain⟨o1,o2,o3,o4,_⟩:=ho
     rw[PV.int_sat e1 hp,PV.int_sat e2 hq]
     have hrun:=run_make (P:=P) w t e i z hu hi hz k1 k2 l c o1 o2 o3 o4
     have hnew:(w.alloc (.cells (madeCells z.cells (c.toNat*i.size)) e)).heap[w.heap.size]?=some (.cells (madeCells z.cells (c.toNat*i.size)) e (0,0)):=qb7 _ _
     have hsz:(madeCells z.cells (c.toNat*i.size)).size=c.toNat*i.size:=by simp[madeCells]
     have hN:=hrel.newTok d hcg [] (k:=i.size) (cap:=c.toNat) (es:=List.replicate l.toNat (z.cells.toList.map .v)) (w1:=w.alloc (.cells (madeCells z.cells (c.toNat*i.size)) e))
      ((Blw.refl _ _).alloc (zP _) _) hnew (by simp;omega) (by omega) (fun e' he=>by rw[List.eq_of_mem_replicate he];simp[hc1]) (fun x j dd hd=>by
       obtain⟨hx,hd⟩:=qqN hd
       rw[zp,zc]at hd
       obtain⟨u',hu',rfl⟩:=hd
       have hj:j<z.cells.size:=by
        have:=(zk.1 hu').1
        simpa using this
       refine⟨u',?_,.v u',?_,rfl,fun s hs=>by cases hs⟩
       ·rw[hc1,qlv z.cells c.toNat x j (by omega) hj]
        simpa using hu'
       ·have:u'.oneCell'=true:=by
         have h1:=Array.all_eq_true'.1 hc3
         exact h1 u' (by simpa using zw hu')
        simp[Leaf.toD,this])
     simp only[List.length_replicate]at hN
     exact⟨_,_,hrun,_,_,hN.1.put (p:=.one (.sl (.own d) i.size (List.replicate l.toNat (z.cells.toList.map .v)))) hN.2⟩
    ·cases h
   ·cases h
  ·cases h
 ·cases h
end Go.Sx
namespace Go.Sx
open Go.RowKit
def qb8(k:Nat):Nat→List Leaf→List (List Leaf)
 | 0,_=>[]
 | n+1,ls=>ls.take k::qb8 k n (ls.drop k)
theorem qiZ(k:Nat):∀(n:Nat) (ls:List Leaf) (i:Nat),(qb8 k n ls)[i]?=if i<n then some ((ls.drop (i*k)).take k) else none
 | 0,ls,i=>by simp[qb8]
 | n+1,ls,0=>by simp[qb8]
 | n+1,ls,i+1=>by
  simp only[qb8,zab,qiZ k n]
  by_cases h:i<n
  ·rw[zq h,zq (by omega),List.drop_drop]
   congr 3
   rw[zR];omega
  ·rw[zo h,zo (by omega)]
theorem qlw(k:Nat):∀(n:Nat) (ls:List Leaf),(qb8 k n ls).length=n
 | 0,_=>rfl
 | n+1,ls=>by simp[qb8,qlw k n]
def qbD(i:Nat):Nat→List Leaf→Moves
 | _,[]=>[]
 | j,l::ls=>match l.tok with
  | some s=>(s,(i,j))::qbD i (j+1) ls
  | none=>qbD i (j+1) ls
def qcU:Nat→List (List Leaf)→Moves
 | _,[]=>[]
 | i,e::es=>qbD i 0 e++qcU (i+1) es
def qfv(t:Nat)(ms:Moves):Bool:=decide (t<giv)&&ms.all fun x=>x.1≠t&&(match ms.at x.1 with | some p=>p.1==x.2.1&&p.2==x.2.2 | none=>false)
theorem qi0(i:Nat):∀(ls:List Leaf) (j0 j:Nat) (l:Leaf) (s:Nat),ls[j]?=some l→l.tok=some s→(s,(i,j0+j))∈qbD i j0 ls
 | [],_,_,_,_,h,_=>by simp at h
 | l0::ls,j0,0,l,s,h,hs=>by
  simp at h;subst h
  simp only[qbD,hs]
  exact zl
 | l0::ls,j0,j+1,l,s,h,hs=>by
  have:=qi0 i ls (j0+1) j l s (by simpa using h) hs
  rw[show j0+1+j=j0+(j+1) by omega]at this
  simp only[qbD]
  split
  ·exact zg _ this
  ·exact this
theorem qlx:∀(es:List (List Leaf)) (i0 i j:Nat) (e:List Leaf) (l:Leaf) (s:Nat),es[i]?=some e→e[j]?=some l→l.tok=some s→(s,(i0+i,j))∈qcU i0 es
 | [],_,_,_,_,_,_,h,_,_=>by simp at h
 | e0::es,i0,0,j,e,l,s,h,hl,hs=>by
  simp at h;subst h
  simp only[qcU]
  have:=qi0 i0 e0 0 j l s hl hs
  rw[zu]at this
  exact zI _ this
 | e0::es,i0,i+1,j,e,l,s,h,hl,hs=>by
  have:=qlx es (i0+1) i j e l s (by simpa using h) hl hs
  rw[show i0+1+i=i0+(i+1) by omega]at this
  simp only[qcU]
  exact zJ _ this
theorem qqO{t:Nat}{ms:Moves}(h:qfv t ms=true):t<giv:=by
 unfold qfv at h
 rw[zj,zi]at h
 exact h.1
theorem qqP{t:Nat}{ms:Moves}(h:qfv t ms=true){s:Nat}{p:Nat×Nat}(hm:(s,p)∈ms):s≠t∧ms.at s=some p:=by
 unfold qfv at h
 rw[zj]at h
 have:=zM.1 h.2 _ hm
 simp only[zj,zi]at this
 refine⟨this.1,?_⟩
 have h2:=this.2
 split at h2
 ·rename_i p' e
  simp only[zj,zF]at h2
  rw[e]
  congr 1
  exact Prod.ext h2.1 h2.2
 ·cases h2
def qgg(P:Program)(st:St)(d:Nat)(t:TypeId)(len:Nat)(parts:List (Nat×Operand))(ans:List Ans):Stepped:=
 match P.underlying t with
 | some (.slice e)=>
  match P.info? e with
  | some i=>
   match i.zero with
   | some z=>
    if i.size=z.cells.size∧0<i.size∧len*i.size≤16777216 then
     match fillL (fun x=>some (x*i.size,i.size)) ((List.replicate len (z.cells.toList.map Leaf.v)).flatten) (parts.map fun x=>(x.1,st.ev x.2)) with
     | some r=>
      let ls:=qb8 i.size len r
      match ls.mapM (fun x=>x.mapM Leaf.toD) with
      | some es=>if qfv d (qcU 0 ls) then
        some (⟨(st.newTok d (qcU 0 ls)).env.set d (.one (.sl (.own d) i.size es)),(st.newTok d (qcU 0 ls)).boxes⟩,ans,[]) else none
      | none=>none
     | none=>none
    else none
   | none=>none
  | none=>none
 | _=>none
def bsOf(P:Program)(st:St)(d:Nat)(t:TypeId)(len:Nat)(parts:List (Nat×Operand)):Option (Nat×List (List D)×Moves):=
 match P.underlying t with
 | some (.slice e)=>
  match P.info? e with
  | some i=>
   match i.zero with
   | some z=>
    if i.size=z.cells.size∧0<i.size∧len*i.size≤16777216 then
     match fillL (fun x=>some (x*i.size,i.size)) ((List.replicate len (z.cells.toList.map Leaf.v)).flatten) (parts.map fun x=>(x.1,st.ev x.2)) with
     | some r=>
      match (qb8 i.size len r).mapM (fun x=>x.mapM Leaf.toD) with
      | some es=>if qfv d (qcU 0 (qb8 i.size len r)) then some (i.size,es,qcU 0 (qb8 i.size len r)) else none
      | none=>none
     | none=>none
    else none
   | none=>none
  | none=>none
 | _=>none
theorem qqQ{P:Program}{st:St}{d:Nat}{t:TypeId}{len:Nat}{parts:List (Nat×Operand)}{k:Nat}{es:List (List D)}{ms:Moves}(h:bsOf P st d t len parts=some (k,es,ms))(ans:List Ans):
  qgg P st d t len parts ans=some (⟨(st.newTok d ms).env.set d (.one (.sl (.own d) k es)),(st.newTok d ms).boxes⟩,ans,[]):=by
 unfold bsOf at h
 unfold qgg
 split at h
 ·rename_i e h1
  try rw[h1]
  split at h
  ·rename_i i h2
   try simp only[h2]
   split at h
   ·rename_i z h3
    try simp only[h3]
    split at h
    ·rename_i hc
     try rw[zq hc]
     split at h
     ·rename_i r h4
      try simp only[h4]
      split at h
      ·rename_i es' h5
       try simp only[h5]
       split at h
       ·rename_i h6
        simp only[za,ze]at h
        obtain⟨rfl,rfl,rfl⟩:=h
        try rw[zq h6]
       ·cases h
      ·cases h
     ·cases h
    ·cases h
   ·cases h
  ·cases h
 ·cases h
theorem qb9{α β:Type}{f:α→Option β}:∀{xs:List α} {ys:List β},xs.mapM f=some ys→ys.length=xs.length∧∀(i:Nat) (y:β),ys[i]?=some y→∃x,xs[i]?=some x∧f x=some y
 | [],ys,h=>by simp at h;subst h;exact⟨rfl,fun i y hy=>by simp at hy⟩
 | x::xs,ys,h=>by
  rw[zch]at h
  cases e:f x with
  | none=>simp[e]at h
  | some y0=>
   cases e2:xs.mapM f with
   | none=>simp[e,e2]at h
   | some ys0=>
    simp[e,e2]at h
    subst h
    obtain⟨h1,h2⟩:=qb9 e2
    refine⟨by simp[h1],fun i y hy=>?_⟩
    cases i with
    | zero=>simp at hy;subst hy;exact⟨x,rfl,e⟩
    | succ i=>exact h2 i y (by simpa using hy)
theorem qly{α:Type}(e:List α):∀(n i j:Nat),i<n→j<e.length→((List.replicate n e).flatten)[i*e.length+j]?=e[j]?
 | 0,i,j,hi,_=>by omega
 | n+1,0,j,_,hj=>by
  rw[List.replicate_succ,List.flatten_cons,zT,Nat.zero_mul,zu,zq hj]
 | n+1,i+1,j,hi,hj=>by
  rw[List.replicate_succ,List.flatten_cons,zT,zo (by rw[zR];omega)]
  have:=qly e n i j (by omega) hj
  rw[←this]
  congr 1
  rw[zR];omega
theorem RelAt.buildSlice{P:Program}{w0:Base}{st st':St}{a:Act}{w:World}{ω:Own}{τ:Nat→Nat×Value}{d:Nat}{t:TypeId}{len:Nat}{parts:Array (Nat×Operand)}{ans ans':List Ans}{obs:List Prop}
  (hrel:RelAt w0 st a w ω τ) (h:qgg P st d t len parts.toList ans=some (st',ans',obs)):
  ∃z w',(Instr.buildSlice t len (parts.map fun (i,x)=>(i,a.eval x))).run P w=.ok z w'∧Rel w0 st' (a.put (some d) z) w':=by
 unfold qgg at h
 split at h
 ·rename_i e hu
  split at h
  ·rename_i i hi
   split at h
   ·rename_i z hz
    split at h
    ·rename_i hc
     obtain⟨hc1,hc2,hc3⟩:=hc
     split at h
     ·rename_i r hr
      simp only at h
      split at h
      ·rename_i es hes
       split at h
       ·rename_i hmok
        simp only[za,ze]at h
        obtain⟨rfl,_,_⟩:=h
        have hzl:(z.cells.toList.map Leaf.v).length=i.size:=by simp[hc1]
        have hflen:((List.replicate len (z.cells.toList.map Leaf.v)).flatten).length=len*i.size:=by simp[hc1]
        have hzs:SatL (Sat w ω τ) ((List.replicate len (z.cells.toList.map Leaf.v)).flatten) (madeCells z.cells (len*i.size)):=by
         refine⟨by simp[madeCells,hc1],fun x l hl=>?_⟩
         have hlt:x<len*i.size:=by
          have:=(zk.1 hl).1
          omega
         have hx:x=(x / i.size)*i.size+x % i.size:=by rw[Nat.mul_comm];exact (Nat.div_add_mod x i.size).symm
         have hq:x / i.size<len:=Nat.div_lt_of_lt_mul (by rw[Nat.mul_comm];exact hlt)
         have hm:x % i.size<i.size:=Nat.mod_lt _ hc2
         have h1:=qly (z.cells.toList.map Leaf.v) len (x / i.size) (x % i.size) hq (by omega)
         rw[hzl,←hx,hl]at h1
         have h2:=h1.symm
         rw[zp,zc]at h2
         obtain⟨u,hu',rfl⟩:=h2
         refine⟨u,?_,rfl⟩
         have h3:=qlv z.cells len (x / i.size) (x % i.size) hq (by omega)
         rw[←hc1,←hx]at h3
         rw[h3]
         simpa using hu'
        obtain⟨out,hout,hosat⟩:=qiK (vals:=parts.toList.map fun x=>(x.1,a.eval x.2)) (by simp) (fun j i' p hj=>by
         rw[zp,zc]at hj
         obtain⟨⟨i2,x⟩,hx,e⟩:=hj
         simp only[ze]at e
         obtain⟨rfl,rfl⟩:=e
         exact⟨a.eval x,by simp only[zp,hx,zas],hrel.ev x⟩) hr hzs
        obtain⟨hl1,hl2⟩:=qb9 hes
        have hlen:es.length=len:=by rw[hl1,qlw]
        have hcellr:∀x j dd,qal es x j=some dd→∃l,x<len∧j<i.size∧r[x*i.size+j]?=some l∧l.toD=some dd∧∃ee,(qb8 i.size len r)[x]?=some ee∧ee[j]?=some l:=by
         intro x j dd hd
         unfold qal at hd
         cases hx:es[x]? with
         | none=>simp[hx]at hd
         | some e'=>
          rw[hx,zal]at hd
          obtain⟨ee,h1,h2⟩:=hl2 x e' hx
          obtain⟨h3,h4⟩:=qb9 h2
          obtain⟨l,h5,h6⟩:=h4 j dd hd
          have h1':=h1
          rw[qiZ]at h1
          split at h1
          ·simp only[za]at h1
           subst h1
           have h5':=h5
           rw[zE]at h5
           split at h5
           ·rw[zA]at h5
            exact⟨l,‹_›,‹_›,h5,h6,_,h1',h5'⟩
           ·cases h5
          ·cases h1
        have hrl:r.length=len*i.size:=by
         have:=hosat.1
         have h2:out.size=(madeCells z.cells (len*i.size)).size:=by
          have:=hosat.1
          have h4:∀(l0:List (Nat×PV)) (ls0 r0:List Leaf),fillL (fun x=>some (x*i.size,i.size)) ls0 l0=some r0→r0.length=ls0.length:=by
           intro l0
           induction l0 with
           | nil=>intro ls0 r0 h;simp[fillL]at h;rw[h]
           | cons x l0 ih=>
            intro ls0 r0 h
            obtain⟨x1,x2⟩:=x
            simp only[fillL]at h
            split at h
            ·split at h
             ·rename_i hh
              rw[ih _ _ h,qiJ (by omega)]
             ·cases h
            ·cases h
          have:=h4 _ _ _ hr
          simp[madeCells]
          omega
         simp[madeCells]at h2
         omega
        have hnew:(w.alloc (.cells out e)).heap[w.heap.size]?=some (.cells out e (0,0)):=qb7 _ _
        have hN:=hrel.newTok d (qqO hmok) (qcU 0 (qb8 i.size len r)) (k:=i.size) (cap:=len) (es:=es) (w1:=w.alloc (.cells out e))
         ((Blw.refl _ _).alloc (zP _) _) hnew (by omega) (by rw[hosat.1,hrl];exact zP _)
         (fun e' he=>by
          obtain⟨x,hx⟩:=zah.1 he
          obtain⟨ee,h1,h2⟩:=hl2 x e' hx
          obtain⟨h3,_⟩:=qb9 h2
          rw[h3]
          rw[qiZ]at h1
          split at h1
          ·simp only[za]at h1
           subst h1
           have:(x+1)*i.size≤len*i.size:=zC _ (by omega)
           rw[zR]at this
           simp;omega
          ·cases h1)
         (fun x j dd hd=>by
          obtain⟨l,h1,h2,h3,h4,ee,h5,h6⟩:=hcellr x j dd hd
          obtain⟨u,h7,h8⟩:=hosat.2 _ _ h3
          refine⟨u,h7,l,h4,h8,fun s hs=>?_⟩
          have:=qlx (qb8 i.size len r) 0 x j ee l s h5 h6 hs
          rw[zu]at this
          exact qqP hmok this)
        rw[hlen]at hN
        refine⟨_,_,?_,_,_,hN.1.put (p:=.one (.sl (.own d) i.size es)) hN.2⟩
        have hz0:((Array.range (len*i.size)).map (fun x=>(if len*i.size=0 then (#[]:Array Value) else z.cells)[x % (if len*i.size=0 then (#[]:Array Value) else z.cells).size]!))=madeCells z.cells (len*i.size):=by
         unfold madeCells
         by_cases h0:len*i.size=0
         ·simp[h0]
         ·simp[h0]
        have e:(Array.map (fun (x:Nat×Operand)=>(x.1,a.eval x.2)) parts).toList=parts.toList.map fun x=>(x.1,a.eval x.2):=by simp
        have hlim:¬(len*i.size>2 ^ 24):=by have:(2:Nat) ^ 24=16777216:=(by decide);omega
        simp only[Instr.buildSlice,Sem.run_bind,run_underlying hu,Result.andThen_ok,sizeOf,typeInfo,run_program,hi,Sem.run_pure]
        rw[zo hlim]
        by_cases h0:len*i.size=0
        ·simp only[h0,zaw]at hz0 ⊢
         simp only[Sem.run_pure,Sem.run_bind,Result.andThen_ok,e]
         rw[h0]at hout
         rw[hz0,hout]
         simp[newRow]
        ·simp only[h0,zcp]at hz0 ⊢
         simp only[zeroValue,typeInfo,Sem.run_bind,run_program,Result.andThen_ok,hi,hz,Sem.run_pure,e]
         rw[hz0,hout]
         simp[newRow]
       ·cases h
      ·cases h
     ·cases h
    ·cases h
   ·cases h
  ·cases h
 ·cases h
end Go.Sx
