import Derived.Test.YtdkobdhckkjmeaaGreatR1
set_option linter.unusedVariables false
set_option linter.unusedSimpArgs false
namespace Go.Sx
open Go.RowKit
def qc1(id:Nat)(ls':List Leaf):List (Nat×List Leaf)→List (Nat×List Leaf)
 | []=>[]
 | (i,ls)::r=>if i=id then (i,ls')::r else (i,ls)::qc1 id ls' r
theorem qfY{id:Nat}{ls':List Leaf}:∀{bs:List (Nat×List Leaf)} {ls:List Leaf},qap id bs=some ls→qap id (qc1 id ls' bs)=some ls'
 | [],_,h=>by cases h
 | (i,l)::r,ls,h=>by
  simp only[qc1];by_cases hi:i=id
  ·rw[zp hi];simp[qap,hi]
  ·rw[zo hi];simp only[qap,zo hi]at h ⊢;exact qfY h
theorem qfZ{id id':Nat}{ls':List Leaf}(hn:id'≠id):∀{bs:List (Nat×List Leaf)},qap id' (qc1 id ls' bs)=qap id' bs
 | []=>rfl
 | (i,l)::r=>by
  simp only[qc1];by_cases hi:i=id
  ·rw[zp hi];simp only[qap,hi];rw[zo (Ne.symm hn),zo (Ne.symm hn)]
  ·rw[zo hi];simp only[qap];split
   ·rfl
   ·exact qfZ hn
theorem Tag.R_box{t:Tag}{q:List (Nat×Nat)}{id:Nat}:¬t.R q (.box id):=by
 cases t with
 | free=>exact fun h=>by cases h
 | own s=>exact fun h=>by cases h
 | ro s=>exact fun h=>by rcases h with h | ⟨_,h⟩<;>cases h
theorem Sat.setRow_box{w:World}{ω:Own}{τ:Nat→Nat×Value}{b id:Nat}(hb:ω b=.box id)(cs:Array Value):∀(l:Leaf) (v:Value),Sat w ω τ l v→Sat (w.setRow b cs) ω τ l v:=by
 have ev:Evolve w ω τ (w.setRow b cs) ω τ keepT (fun _=>true):=by
  refine⟨?_,?_,fun _ _ _ h=>h,rfl,fun _ _=>rfl⟩
  ·intro t t' b' q hg _ hq;simp only[keepT,za]at hg;subst hg;refine⟨hq,setRow_other w b b' cs fun e=>?_⟩;subst e;rw[hb]at hq;exact Tag.R_box hq
  ·intro t t' y hg hy;simp only[keepT,za]at hg;subst hg;exact hy
 intro l v hs;have:=ev.sat l v hs;cases l with
 | sn t i j k es m=>
  obtain⟨u,hu,h1,hm⟩:=hs;refine⟨u,hu,h1.frame fun c q hc hq=>⟨hq,setRow_other w b c cs fun e=>?_⟩,fun hh=>?_⟩
  ·subst e;rw[hb]at hq;cases hq
  ·obtain⟨kT,b2,off,len,cap,arr,ty,fr,h2,h5,h3,h4⟩:=hm hh;exact⟨kT,b2,off,len,cap,arr,ty,fr,h2,h5,(setRow_other w b b2 cs fun e=>by subst e;rw[hb]at h5;cases h5).trans h3,h4⟩
 | np t vs=>
  obtain⟨b2,ty,arr,e,h5,h3,hn,hv⟩:=hs;refine⟨b2,ty,arr,e,h5,(setRow_other w b b2 cs fun e=>by subst e;rw[hb]at h5;cases h5).trans h3,hn,fun j c hc=>?_⟩;obtain⟨u,h1,h2⟩:=hv j c hc;refine⟨u,h1,?_⟩;have h9:=ev.nc c u h2;have:NC.re keepT c=c:=by cases c<;>simp[NC.re,keepT]
  rwa[this]at h9
 | _=>simpa[Leaf.re,keepT]using this
theorem RelAt.storeBox{w0:Base}{st:St}{a:Act}{w:World}{ω:Own}{τ:Nat→Nat×Value}(h:RelAt w0 st a w ω τ){id:Nat}{ls ls':List Leaf}(hg:qap id st.boxes=some ls)
  {b:Nat} (hb:ω b=.box id) {arr':Array Value} (hs:SatL (Sat w ω τ) ls' arr'):
  RelAt w0 ⟨st.env,qc1 id ls' st.boxes⟩ a (w.setRow b arr') ω τ:=by
 obtain⟨b',arr,ty,hb',hu,hh,hsat⟩:=h.boxes id ls hg;have:=hu b hb;subst this;have hsat':=Sat.setRow_box (w:=w) (ω:=ω) (τ:=τ) hb arr';have hhs:=setRow_heap w b arr arr' ty (0,0) hh;refine⟨h.defers,h.size,?_,?_,h.fixed,h.pinned,?_,?_⟩
 ·exact h.below.setRow (h.owned b (by simp[hb])).1 arr'
 ·intro c hc;obtain⟨h1,arr2,ty2,h2⟩:=h.owned c hc;by_cases e:c=b
  ·subst e;exact⟨h1,arr',ty,hhs⟩
  ·exact⟨h1,arr2,ty2,(setRow_other w b c arr' e).trans h2⟩
 ·intro i p hp;obtain⟨v,h1,h2⟩:=h.env i p hp;refine⟨v,h1,?_⟩;have:=SatP.map (f:=_root_.id) hsat' h2;have e:PV.map _root_.id p=p:=by
   cases p with
   | al a=>cases a<;>simp[PV.map,AL.map]
   | tup as=>
    simp only[PV.map]
    congr 1
    have:AL.map _root_.id=_root_.id:=by funext a;cases a<;>simp[AL.map]
    rw[this];simp
  rwa[e]at this
 ·intro i l hl;by_cases e:i=id
  ·subst e;rw[qfY hg]at hl;have e:=zx hl;subst e;refine⟨b,arr',ty,hb,hu,hhs,?_⟩;have:=hs.map (f:=_root_.id) hsat';simpa using this
  ·rw[qfZ e]at hl;obtain⟨c,arr2,ty2,hc,hcu,hch,hcs⟩:=h.boxes i l hl;have hne:c≠b:=fun e'=>by subst e';rw[hb]at hc;simp only[Owner.box.injEq]at hc;exact e hc.symm
   refine⟨c,arr2,ty2,hc,hcu,(setRow_other w b c arr' hne).trans hch,?_⟩;have:=hcs.map (f:=_root_.id) hsat';simpa using this
abbrev Stepped:=Option (St×List Ans×List Prop)
def qkW(st:St)(d:Nat)(p:PV)(ans:List Ans):Stepped:=
 if d<giv then p.leaves.map fun ls=>(⟨(st.newBox d ls).env.set d (.one (.ptr d 0)),(st.newBox d ls).boxes⟩,ans,[]) else none
theorem RelAt.box{P:Program}{w0:Base}{st st':St}{a:Act}{w:World}{ω:Own}{τ:Nat→Nat×Value}{d:Nat}{p:PV}{v:Value}{ans ans':List Ans}{obs:List Prop}(hrel:RelAt w0 st a w ω τ)
  (hp:SatP (Sat w ω τ) p v) (h:qkW st d p ans=some (st',ans',obs)) (ty:TypeId):
  ∃z w',(do pure (.pointer (some (←newVar ty v))):Sem Value).run P w=.ok z w'∧Rel w0 st' (a.put (some d) z) w':=by
 unfold qkW at h;split at h
 case isFalse=>cases h
 rename_i hdg;rw[zc]at h;obtain⟨ls,h1,h⟩:=h;simp only[zd]at h;obtain⟨rfl,_,_⟩:=h;obtain⟨hs,_⟩:=PV.leaves_sat h1 hp;obtain⟨ω',hrel',hω⟩:=hrel.newBox d hdg ty hs;refine⟨.pointer (some ⟨w.heap.size,0,none⟩),w.alloc (.cells v.cells ty),by simp[newVar,newRow],ω',τ,?_⟩;exact hrel'.put (p:=.one (.ptr d 0)) ⟨w.heap.size,hω,rfl⟩
def qkX(P:Program)(st:St)(d:Nat)(elem:TypeId)(ans:List Ans):Stepped:=
 match P.info? elem with
 | some i=>match i.zero with
  | some z=>if d<giv then let ls:=z.cells.toList.map .v;some (⟨(st.newBox d ls).env.set d (.one (.ptr d 0)),(st.newBox d ls).boxes⟩,ans,[]) else none
  | none=>none
 | none=>none
theorem RelAt.alloc{P:Program}{w0:Base}{st st':St}{a:Act}{w:World}{ω:Own}{τ:Nat→Nat×Value}{d:Nat}{elem:TypeId}{ans ans':List Ans}{obs:List Prop}(hrel:RelAt w0 st a w ω τ)
  (h:qkX P st d elem ans=some (st',ans',obs)):
  ∃z w',(Instr.alloc elem true (.tuple #[])).run P w=.ok z w'∧Rel w0 st' (a.put (some d) z) w':=by
 unfold qkX at h;split at h
 ·rename_i i hi;split at h
  ·rename_i z hz;split at h
   case isFalse=>cases h
   rename_i hdg;simp only[za,zd]at h;obtain⟨rfl,_,_⟩:=h;have hs:SatL (Sat w ω τ) (z.cells.toList.map .v) z.cells:=by
    refine⟨by simp,fun j l hl=>?_⟩;rw[zr,zc]at hl;obtain⟨u,hu,rfl⟩:=hl;exact⟨u,by simpa using hu,rfl⟩
   obtain⟨ω',hrel',hω⟩:=hrel.newBox d hdg elem hs;refine⟨.pointer (some ⟨w.heap.size,0,none⟩),w.alloc (.cells z.cells elem),by simp[Instr.alloc,zeroValue,typeInfo,hi,hz,newVar,newRow],ω',τ,?_⟩;exact hrel'.put (p:=.one (.ptr d 0)) ⟨w.heap.size,hω,rfl⟩
  ·cases h
 ·cases h
def qkY(P:Program)(st:St)(t:TypeId)(id off:Nat)(q:PV)(ans:List Ans):Stepped:=
 match qap id st.boxes,q.leaves,P.info? t with
 | some ls,some xs,some i=>if xs.length=i.size∧off+xs.length≤ls.length then some (⟨st.env,qc1 id (blit ls off xs) st.boxes⟩,ans,[]) else none
 | _,_,_=>none
theorem qg5{α:Type}{xs ys:List α}{off:Nat}(h:off+ys.length≤xs.length)(i:Nat):
  (xs.take off++ys++xs.drop (off+ys.length))[i]?=if off≤i∧i<off+ys.length then ys[i-off]? else xs[i]?:=by
 rw[zba,zT,zay,Nat.min_eq_left (by omega)];by_cases h1:i<off
 ·rw[zp h1,zo (by omega),zF,zp h1]
 ·rw[zo h1,zT];by_cases h2:i-off<ys.length
  ·rw[zp h2,zp (by omega)]
  ·rw[zo h2,zo (by omega),zA]
   congr 1
   omega
theorem RelAt.storeAtBox{P:Program}{w0:Base}{st st':St}{a:Act}{w:World}{ω:Own}{τ:Nat→Nat×Value}{t:TypeId}{id off:Nat}{q:PV}{b:Nat}{v:Value}{ans ans':List Ans}{obs:List Prop}
  (hrel:RelAt w0 st a w ω τ) (hb:ω b=.box id) (hq:SatP (Sat w ω τ) q v) (h:qkY P st t id off q ans=some (st',ans',obs)):
  ∃w',(Instr.storeAt t (.pointer (some ⟨b,off,none⟩)) v).run P w=.ok () w'∧Rel w0 st' a w':=by
 unfold qkY at h;split at h
 ·rename_i ls xs i e1 e2 e3;split at h
  ·rename_i hc;simp only[za,zd]at h;obtain⟨rfl,_,_⟩:=h;obtain⟨hs,hone⟩:=PV.leaves_sat e2 hq;obtain⟨b',arr,ty,hb',hu,hh,hsat⟩:=hrel.boxes id ls e1;have:=hu b hb;subst this;have hst:=run_storeCells_at P b off ty v.cells.toList 0 arr w hh (by simp;have:=hs.1;have:=hsat.1;omega) hone;have hnew:SatL (Sat w ω τ) (blit ls off xs) (arr.toList.take (off+0)++v.cells.toList++arr.toList.drop (off+0+v.cells.toList.length)).toArray:=by
    have h1:=hs.1;have h2:=hsat.1;refine⟨?_,fun j l hl=>?_⟩
    ·rw[qkK (by omega)];simp;omega
    ·rw[qn9 (by omega)]at hl;rw[zY,zbj,qg5 (by simp;omega)];simp only[zbx];by_cases hj:off≤j∧j<off+xs.length
     ·rw[zp hj]at hl;rw[zp (by omega)];obtain⟨u,h3,h4⟩:=hs.2 _ _ hl;exact⟨u,by simpa using h3,h4⟩
     ·rw[zo hj]at hl;rw[zo (by omega)];obtain⟨u,h3,h4⟩:=hsat.2 _ _ hl;exact⟨u,by simpa using h3,h4⟩
   refine⟨_,?_,ω,τ,hrel.storeBox e1 hb hnew⟩;simp only[Instr.storeAt,Instr.sureAddr,Sem.run_bind,Sem.run_pure,Result.andThen_ok,storeVar,sizeOf,typeInfo,run_program,e3];have hsz:¬(v.cells.size≠i.size):=by simp;have:=hs.1;omega
   rw[zo hsz];exact hst
  ·cases h
 ·cases h
end Go.Sx
namespace Go.Sx
open Go.RowKit
theorem RelAt.turn{w0:Base}{st:St}{a:Act}{w w':World}{ω ω':Own}{τ τ':Nat→Nat×Value}(h:RelAt w0 st a w ω τ)(f:Leaf→Leaf)
  (hsat:∀l v,Sat w ω τ l v→Sat w' ω' τ' (f l) v) (hbelow:Bel w0 w') (howned:Owned w0 w' ω')
  (hbox:∀id b,ω b=.box id→ω' b=.box id∧w'.heap[b]?=w.heap[b]?) (hboxU:∀id b,ω' b=.box id→ω b=.box id) (hfix:∀t,giv≤t→τ' t=τ t:=by intros;rfl):RelAt w0 (st.map f) a w' ω' τ' where
 defers:=h.defers
 size:=by simp[St.map,h.size]
 below:=hbelow
 owned:=howned
 fixed:=fun t ht=>(hfix t ht).trans (h.fixed t ht)
 pinned:=fun id b hi hb=>h.pinned id b hi (hboxU id b hb)
 env:=by
  intro i q hq;simp only[St.map]at hq;rw[zr,zc]at hq;obtain⟨q0,h0,rfl⟩:=hq;obtain⟨v,h1,h2⟩:=h.env i q0 h0;exact⟨v,h1,SatP.map hsat h2⟩
 boxes:=by
  intro id ls hl;simp only[St.map]at hl;rw[qdH,zc]at hl;obtain⟨ls0,h0,rfl⟩:=hl;obtain⟨b,arr,ty,hb,hu,hh,hs⟩:=h.boxes id ls0 h0;obtain⟨h1,h2⟩:=hbox id b hb;exact⟨b,arr,ty,h1,fun b' hb'=>hu b' (hboxU id b' hb'),h2.trans hh,hs.map hsat⟩
abbrev Moves:=List (Nat×(Nat×Nat))
def Moves.at(s:Nat):Moves→Option (Nat×Nat)
 | []=>none
 | (i,p)::r=>if i=s then some p else Moves.at s r
def mvTag(t:Nat)(ms:Moves):Tag→Option Tag
 | .free=>some .free
 | .own s=>if s=t then some .free else if (ms.at s).isSome then none else some (.own s)
 | .ro s=>if s=t then some .free else if (ms.at s).isSome then none else some (.ro s)
def qcP(t:Nat)(ms:Moves):Owner→Owner
 | .tok s q=>if s=t then .imm else match ms.at s with | some p=>.tok t (p::q) | none=>.tok s q
 | o=>o
theorem qiG{t:Nat}{ms:Moves}{o:Owner}{id:Nat}:qcP t ms o=.box id↔o=.box id:=by
 cases o with
 | imm=>simp[qcP]
 | box i=>simp[qcP]
 | tok s q=>
  simp only[qcP];split
  ·simp
  ·split<;>simp
theorem qod{t:Nat}{ms:Moves}{g g':Tag}{q:List (Nat×Nat)}{o:Owner}(h:mvTag t ms g=some g')(hr:g.R q o):g'.R q (qcP t ms o):=by
 cases g with
 | free=>simp only[mvTag,za]at h;subst h;simp only[Tag.R]at hr ⊢;rw[hr];rfl
 | own s=>
  simp only[Tag.R]at hr;subst hr;simp only[mvTag]at h;simp only[qcP];split at h
  ·simp only[za]at h;subst h;rw[zp ‹_›];rfl
  ·split at h
   ·cases h
   ·rename_i h1 h2;simp only[za]at h;subst h;rw[zo h1];cases e:ms.at s with
    | none=>rfl
    | some p=>simp[e]at h2
 | ro s=>
  simp only[Tag.R]at hr;simp only[mvTag]at h;split at h
  ·simp only[za]at h;subst h;rcases hr with rfl | ⟨q',rfl⟩
   ·rfl
   ·simp only[qcP];rw[zp ‹_›];rfl
  ·split at h
   ·cases h
   ·rename_i h1 h2;simp only[za]at h;subst h;rcases hr with rfl | ⟨q',rfl⟩
    ·exact .inl rfl
    ·refine .inr ⟨q',?_⟩;simp only[qcP];rw[zo h1];cases e:ms.at s with
     | none=>rfl
     | some p=>simp[e]at h2
def qcQ(w:World)(ω:Own)(t:Nat)(ms:Moves):Own:=fun b=>if b=w.heap.size then .tok t [] else qcP t ms (ω b)
def qeL(w:World)(τ:Nat→Nat×Value)(t k n c:Nat):Nat→Nat×Value:=fun s=>if s=t then (k,.slice (some ⟨w.heap.size,0,none⟩) n c) else τ s
def St.newTok(st:St)(t:Nat)(ms:Moves):St:=st.map (Leaf.re (mvTag t ms) fun _=>true)
theorem quX{w w1:World}{ω:Own}{τ:Nat→Nat×Value}{t k n c:Nat}{ms:Moves}(htg:t<giv)(hf:ω w.heap.size=.imm)(hh:∀b,b<w.heap.size→w1.heap[b]?=w.heap[b]?):
  Evolve w ω τ w1 (qcQ w ω t ms) (qeL w τ t k n c) (mvTag t ms) (fun _=>true):=by
 refine⟨?_,?_,?_,rfl,fun s hs=>by simp only[qeL];rw[zo (by omega)]⟩
 ·intro g g' b q hg hb hq;refine⟨?_,hh b hb⟩;simp only[qcQ];rw[zo (by omega)];exact qod hg hq
 ·intro g g' y hg hy;cases g with
  | free=>simp only[mvTag,za]at hg;subst hg;exact trivial
  | own s=>
   simp only[mvTag]at hg;split at hg
   ·simp only[za]at hg;subst hg;exact trivial
   ·split at hg
    ·cases hg
    ·simp only[za]at hg;subst hg;simp only[Tag.hdr,qeL]at hy ⊢;rw[zo ‹_›];exact hy
  | ro s=>
   simp only[mvTag]at hg;split at hg
   ·simp only[za]at hg;subst hg;exact trivial
   ·split at hg
    ·cases hg
    ·simp only[za]at hg;subst hg;exact trivial
 ·intro id b _ hb;simp only[qcQ];by_cases e:b=w.heap.size
  ·subst e;rw[hf]at hb;cases hb
  ·rw[zo e,hb];rfl
def Leaf.toD:Leaf→Option D
 | .v x=>if x.oneCell' then some (.v x) else none
 | .sb c=>some (.v (.bool c))
 | .sl (.own _) k es=>some (.sl k es)
 | _=>none
def Leaf.tok:Leaf→Option Nat
 | .sl (.own s) _ _=>some s
 | _=>none
def qiH(w:World)(ω:Own)(τ:Nat→Nat×Value)(t:Nat)(ms:Moves)(i j:Nat)(d:D)(u:Value):Prop:=
 ∃l:Leaf,l.toD=some d∧Sat w ω τ l u∧∀s,l.tok=some s→s≠t∧ms.at s=some (i,j)
theorem qiH.rep{w w1:World}{ω:Own}{τ:Nat→Nat×Value}{t:Nat}{ms:Moves}{i j:Nat}{d:D}{u:Value}(h:qiH w ω τ t ms i j d u)(hh:∀b,b<w.heap.size→w1.heap[b]?=w.heap[b]?):
  Rep w1 (qcQ w ω t ms) (fun q=>(Tag.own t).R ((i,j)::q)) d u:=by
 obtain⟨l,hd,hs,hm⟩:=h;cases l with
 | und=>cases hd
 | v x=>
  simp only[Leaf.toD]at hd;split at hd
  ·simp only[za]at hd;subst hd;have:u=x:=hs;subst this;exact .v _ _ ‹_›
  ·cases hd
 | sb c=>
  simp only[Leaf.toD,za]at hd;subst hd;have:u=.bool c:=hs;subst this;exact .v _ _ rfl
 | sl g k es=>
  cases g with
  | free=>cases hd
  | ro s=>cases hd
  | own s=>
   simp only[Leaf.toD,za]at hd;subst hd;obtain⟨hne,hat⟩:=hm s rfl;refine hs.1.frame fun b q hb hq=>⟨?_,hh b hb⟩
   simp only[Tag.R]at hq ⊢;simp only[qcQ];rw[zo (by omega),hq];simp only[qcP];rw[zo hne,hat]
 | ptr id off=>cases hd
 | ep g k es i j=>cases hd
 | rp=>cases hd
 | fd=>cases hd
 | sv=>cases hd
 | clo=>cases hd
 | sn=>cases hd
 | np=>cases hd
theorem RelAt.newTok{w0:Base}{st:St}{a:Act}{w w1:World}{ω:Own}{τ:Nat→Nat×Value}(h:RelAt w0 st a w ω τ)(t:Nat)(htg:t<giv)(ms:Moves){k cap:Nat}{es:List (List D)}{arr:Array Value}{ty:TypeId}
  (hb:Blw w.heap.size w w1) (hnew:w1.heap[w.heap.size]?=some (.cells arr ty (0,0))) (hc:es.length≤cap) (hsz:cap*k≤arr.size) (hk:∀e∈es,e.length=k)
  (hcell:∀i j d,qan es i j=some d→∃u,arr[i*k+j]?=some u∧qiH w ω τ t ms i j d u):
  RelAt w0 (st.newTok t ms) a w1 (qcQ w ω t ms) (qeL w τ t k es.length cap)∧
  Sat w1 (qcQ w ω t ms) (qeL w τ t k es.length cap) (.sl (.own t) k es) (.slice (some ⟨w.heap.size,0,none⟩) es.length cap):=by
 have hf:ω w.heap.size=.imm:=h.owned.fresh (zO _);have hblk:=hb.block;have hlt1:w.heap.size<w1.heap.size:=(zz.1 hnew).1;have hself:qcQ w ω t ms w.heap.size=.tok t []:=by simp[qcQ]
 have hother:∀b,b≠w.heap.size→qcQ w ω t ms b=qcP t ms (ω b):=fun b hb=>by simp[qcQ,hb]
 refine⟨h.turn _ (quX htg hf hblk).sat ?_ ?_ ?_ ?_ (fun s hs=>by simp only[qeL];rw[zo (by omega)]),?_,?_⟩
 ·exact h.below.next hb
 ·intro b hbi;by_cases e:b=w.heap.size
  ·subst e;exact⟨.inl h.below.size,arr,ty,hnew⟩
  ·rw[hother b e]at hbi;have h2:ω b≠.imm:=fun e'=>by rw[e']at hbi;exact hbi rfl
   obtain⟨h3,arr2,ty2,h4⟩:=h.owned b h2;exact⟨h3,arr2,ty2,(hblk b (h.owned.lt h2)).trans h4⟩
 ·intro id b hbi;have hlt:=h.owned.lt (b:=b) (by simp[hbi]);rw[hother b (by omega),hbi];exact⟨rfl,hblk b hlt⟩
 ·intro id b hbi;by_cases e:b=w.heap.size
  ·subst e;rw[hself]at hbi;cases hbi
  ·rw[hother b e]at hbi;exact qiG.1 hbi
 ·have hus:∀i j d,qan es i j=some d→arr[0+i*k+j]?=some (arr.getD (i*k+j) undef)∧qiH w ω τ t ms i j d (arr.getD (i*k+j) undef):=by
   intro i j d hd;obtain⟨u,h1,h2⟩:=hcell i j d hd;have e:arr.getD (i*k+j) undef=u:=by simp[zl,h1]
   rw[e];exact⟨by rw[zv];exact h1,h2⟩
  exact .row _ k es w.heap.size 0 cap arr ty (0,0) (fun i j=>arr.getD (i*k+j) undef) hnew hself hc (by omega) hk (fun i j d hd=>(hus i j d hd).1) (fun i j d hd=>(hus i j d hd).2.rep hblk)
 ·simp[Tag.hdr,qeL]
def qiI(P:Program)(st:St)(d:Nat)(t:TypeId)(p q:PV)(ans:List Ans):Stepped:=
 match P.underlying t with
 | some (.slice e)=>
  match P.info? e,p.int,q.int with
  | some i,some (_,l),some (_,c)=>
   match i.zero with
   | some z=>
    if i.size=z.cells.size∧0<i.size∧z.cells.all (·.oneCell')=true∧d<giv then
     some (⟨(st.newTok d []).env.set d (.one (.sl (.own d) i.size (List.replicate l.toNat (z.cells.toList.map .v)))),(st.newTok d []).boxes⟩,ans,[0≤l,l≤c,(i.bytes:Int)*c≤281474976710656,c≤9223372036854775807])
    else none
   | none=>none
  | _,_,_=>none
 | _=>none
theorem qoe(z:Array Value)(n i j:Nat)(hi:i<n)(hj:j<z.size):(madeCells z (n*z.size))[i*z.size+j]?=z[j]?:=by
 have hlt:i*z.size+j<n*z.size:=by
  have:(i+1)*z.size≤n*z.size:=zB _ hi;rw[zR]at this;omega
 have e:(i*z.size+j) % z.size=j:=by rw[Nat.add_comm,Nat.add_mul_mod_self_right];exact zcu hj
 simp[madeCells,hlt,e,getElem!_pos,hj]
theorem quY{n:Nat}{e:List D}{i j:Nat}{d:D}(h:qan (List.replicate n e) i j=some d):i<n∧e[j]?=some d:=by
 unfold qan at h;rw[zbo]at h;split at h
 ·exact⟨‹_›,h⟩
 ·simp at h
theorem RelAt.make{P:Program}{w0:Base}{st st':St}{a:Act}{w:World}{ω:Own}{τ:Nat→Nat×Value}{d:Nat}{t:TypeId}{p q:PV}{u v:Value}{ans ans':List Ans}{obs:List Prop}
  (hrel:RelAt w0 st a w ω τ) (hp:SatP (Sat w ω τ) p u) (hq:SatP (Sat w ω τ) q v) (h:qiI P st d t p q ans=some (st',ans',obs)) (ho:Obs obs):
  ∃z w',(Instr.makeSlice t u v).run P w=.ok z w'∧Rel w0 st' (a.put (some d) z) w':=by
 unfold qiI at h;split at h
 ·rename_i e hu;split at h
  ·rename_i i k1 l k2 c hi e1 e2;split at h
   ·rename_i z hz;split at h
    ·rename_i hc;obtain⟨hc1,hc2,hc3,hcg⟩:=hc;simp only[za,zd]at h;obtain⟨rfl,_,rfl⟩:=h;obtain⟨o1,o2,o3,o4,_⟩:=ho;rw[PV.int_sat e1 hp,PV.int_sat e2 hq];have hrun:=run_make (P:=P) w t e i z hu hi hz k1 k2 l c o1 o2 o3 o4;have hnew:(w.alloc (.cells (madeCells z.cells (c.toNat*i.size)) e)).heap[w.heap.size]?=some (.cells (madeCells z.cells (c.toNat*i.size)) e (0,0)):=qcr _ _;have hsz:(madeCells z.cells (c.toNat*i.size)).size=c.toNat*i.size:=by simp[madeCells]
     have hN:=hrel.newTok d hcg [] (k:=i.size) (cap:=c.toNat) (es:=List.replicate l.toNat (z.cells.toList.map .v)) (w1:=w.alloc (.cells (madeCells z.cells (c.toNat*i.size)) e))
      ((Blw.refl _ _).alloc (zO _) _) hnew (by simp;omega) (by omega) (fun e' he=>by rw[List.eq_of_mem_replicate he];simp[hc1]) (fun x j dd hd=>by
       obtain⟨hx,hd⟩:=quY hd;rw[zr,zc]at hd;obtain⟨u',hu',rfl⟩:=hd;have hj:j<z.cells.size:=by
        have:=(zk.1 hu').1;simpa using this
       refine⟨u',?_,.v u',?_,rfl,fun s hs=>by cases hs⟩
       ·rw[hc1,qoe z.cells c.toNat x j (by omega) hj];simpa using hu'
       ·have:u'.oneCell'=true:=by
         have h1:=Array.all_eq_true'.1 hc3;exact h1 u' (by simpa using zw hu')
        simp[Leaf.toD,this])
     simp only[List.length_replicate]at hN;exact⟨_,_,hrun,_,_,hN.1.put (p:=.one (.sl (.own d) i.size (List.replicate l.toNat (z.cells.toList.map .v)))) hN.2⟩
    ·cases h
   ·cases h
  ·cases h
 ·cases h
end Go.Sx
namespace Go.Sx
open Go.RowKit
def qcs(k:Nat):Nat→List Leaf→List (List Leaf)
 | 0,_=>[]
 | n+1,ls=>ls.take k::qcs k n (ls.drop k)
theorem qkZ(k:Nat):∀(n:Nat) (ls:List Leaf) (i:Nat),(qcs k n ls)[i]?=if i<n then some ((ls.drop (i*k)).take k) else none
 | 0,ls,i=>by simp[qcs]
 | n+1,ls,0=>by simp[qcs]
 | n+1,ls,i+1=>by
  simp only[qcs,zaf,qkZ k n];by_cases h:i<n
  ·rw[zp h,zp (by omega),List.drop_drop]
   congr 3
   rw[zR];omega
  ·rw[zo h,zo (by omega)]
theorem qof(k:Nat):∀(n:Nat) (ls:List Leaf),(qcs k n ls).length=n
 | 0,_=>rfl
 | n+1,ls=>by simp[qcs,qof k n]
def qbQ(i:Nat):Nat→List Leaf→Moves
 | _,[]=>[]
 | j,l::ls=>match l.tok with
  | some s=>(s,(i,j))::qbQ i (j+1) ls
  | none=>qbQ i (j+1) ls
def qdi:Nat→List (List Leaf)→Moves
 | _,[]=>[]
 | i,e::es=>qbQ i 0 e++qdi (i+1) es
def qf0(t:Nat)(ms:Moves):Bool:=decide (t<giv)&&ms.all fun x=>x.1≠t&&(match ms.at x.1 with | some p=>p.1==x.2.1&&p.2==x.2.2 | none=>false)
theorem qk0(i:Nat):∀(ls:List Leaf) (j0 j:Nat) (l:Leaf) (s:Nat),ls[j]?=some l→l.tok=some s→(s,(i,j0+j))∈qbQ i j0 ls
 | [],_,_,_,_,h,_=>by simp at h
 | l0::ls,j0,0,l,s,h,hs=>by
  simp at h;subst h;simp only[qbQ,hs];exact zm
 | l0::ls,j0,j+1,l,s,h,hs=>by
  have:=qk0 i ls (j0+1) j l s (by simpa using h) hs;rw[show j0+1+j=j0+(j+1) by omega]at this;simp only[qbQ];split
  ·exact zg _ this
  ·exact this
theorem qog:∀(es:List (List Leaf)) (i0 i j:Nat) (e:List Leaf) (l:Leaf) (s:Nat),es[i]?=some e→e[j]?=some l→l.tok=some s→(s,(i0+i,j))∈qdi i0 es
 | [],_,_,_,_,_,_,h,_,_=>by simp at h
 | e0::es,i0,0,j,e,l,s,h,hl,hs=>by
  simp at h;subst h;simp only[qdi];have:=qk0 i0 e0 0 j l s hl hs;rw[zv]at this;exact zI _ this
 | e0::es,i0,i+1,j,e,l,s,h,hl,hs=>by
  have:=qog es (i0+1) i j e l s (by simpa using h) hl hs;rw[show i0+1+i=i0+(i+1) by omega]at this;simp only[qdi];exact zJ _ this
theorem quZ{t:Nat}{ms:Moves}(h:qf0 t ms=true):t<giv:=by
 unfold qf0 at h;rw[zj,zi]at h;exact h.1
theorem qu0{t:Nat}{ms:Moves}(h:qf0 t ms=true){s:Nat}{p:Nat×Nat}(hm:(s,p)∈ms):s≠t∧ms.at s=some p:=by
 unfold qf0 at h;rw[zj]at h;have:=zM.1 h.2 _ hm;simp only[zj,zi]at this;refine⟨this.1,?_⟩;have h2:=this.2;split at h2
 ·rename_i p' e;simp only[zj,zE]at h2;rw[e]
  congr 1
  exact Prod.ext h2.1 h2.2
 ·cases h2
def qg6(P:Program)(st:St)(d:Nat)(t:TypeId)(len:Nat)(parts:List (Nat×Operand))(ans:List Ans):Stepped:=
 match P.underlying t with
 | some (.slice e)=>
  match P.info? e with
  | some i=>
   match i.zero with
   | some z=>
    if i.size=z.cells.size∧0<i.size∧len*i.size≤16777216 then
     match fillL (fun x=>some (x*i.size,i.size)) ((List.replicate len (z.cells.toList.map Leaf.v)).flatten) (parts.map fun x=>(x.1,st.ev x.2)) with
     | some r=>
      let ls:=qcs i.size len r
      match ls.mapM (fun x=>x.mapM Leaf.toD) with
      | some es=>if qf0 d (qdi 0 ls) then
        some (⟨(st.newTok d (qdi 0 ls)).env.set d (.one (.sl (.own d) i.size es)),(st.newTok d (qdi 0 ls)).boxes⟩,ans,[]) else none
      | none=>none
     | none=>none
    else none
   | none=>none
  | none=>none
 | _=>none
def bsOf(P:Program)(st:St)(d:Nat)(t:TypeId)(len:Nat)(parts:List (Nat×Operand)):Option (Nat×List (List D)×Moves):=
 match P.underlying t with
 | some (.slice e)=>
  match P.info? e with
  | some i=>
   match i.zero with
   | some z=>
    if i.size=z.cells.size∧0<i.size∧len*i.size≤16777216 then
     match fillL (fun x=>some (x*i.size,i.size)) ((List.replicate len (z.cells.toList.map Leaf.v)).flatten) (parts.map fun x=>(x.1,st.ev x.2)) with
     | some r=>
      match (qcs i.size len r).mapM (fun x=>x.mapM Leaf.toD) with
      | some es=>if qf0 d (qdi 0 (qcs i.size len r)) then some (i.size,es,qdi 0 (qcs i.size len r)) else none
      | none=>none
     | none=>none
    else none
   | none=>none
  | none=>none
 | _=>none
theorem qu1{P:Program}{st:St}{d:Nat}{t:TypeId}{len:Nat}{parts:List (Nat×Operand)}{k:Nat}{es:List (List D)}{ms:Moves}(h:bsOf P st d t len parts=some (k,es,ms))(ans:List Ans):
  qg6 P st d t len parts ans=some (⟨(st.newTok d ms).env.set d (.one (.sl (.own d) k es)),(st.newTok d ms).boxes⟩,ans,[]):=by
 unfold bsOf at h;unfold qg6;split at h
 ·rename_i e h1
  try rw[h1]
  split at h
  ·rename_i i h2
   try simp only[h2]
   split at h
   ·rename_i z h3
    try simp only[h3]
    split at h
    ·rename_i hc
     try rw[zp hc]
     split at h
     ·rename_i r h4
      try simp only[h4]
      split at h
      ·rename_i es' h5
       try simp only[h5]
       split at h
       ·rename_i h6;simp only[za,zd]at h;obtain⟨rfl,rfl,rfl⟩:=h
        try rw[zp h6]
       ·cases h
      ·cases h
     ·cases h
    ·cases h
   ·cases h
  ·cases h
 ·cases h
theorem qct{α β:Type}{f:α→Option β}:∀{xs:List α} {ys:List β},xs.mapM f=some ys→ys.length=xs.length∧∀(i:Nat) (y:β),ys[i]?=some y→∃x,xs[i]?=some x∧f x=some y
 | [],ys,h=>by simp at h;subst h;exact⟨rfl,fun i y hy=>by simp at hy⟩
 | x::xs,ys,h=>by
  rw[zch]at h;cases e:f x with
  | none=>simp[e]at h
  | some y0=>
   cases e2:xs.mapM f with
   | none=>simp[e,e2]at h
   | some ys0=>
    simp[e,e2]at h;subst h;obtain⟨h1,h2⟩:=qct e2;refine⟨by simp[h1],fun i y hy=>?_⟩;cases i with
    | zero=>simp at hy;subst hy;exact⟨x,rfl,e⟩
    | succ i=>exact h2 i y (by simpa using hy)
theorem qoh{α:Type}(e:List α):∀(n i j:Nat),i<n→j<e.length→((List.replicate n e).flatten)[i*e.length+j]?=e[j]?
 | 0,i,j,hi,_=>by omega
 | n+1,0,j,_,hj=>by
  rw[List.replicate_succ,List.flatten_cons,zT,Nat.zero_mul,zv,zp hj]
 | n+1,i+1,j,hi,hj=>by
  rw[List.replicate_succ,List.flatten_cons,zT,zo (by rw[zR];omega)];have:=qoh e n i j (by omega) hj;rw[←this]
  congr 1
  rw[zR];omega
theorem RelAt.buildSlice{P:Program}{w0:Base}{st st':St}{a:Act}{w:World}{ω:Own}{τ:Nat→Nat×Value}{d:Nat}{t:TypeId}{len:Nat}{parts:Array (Nat×Operand)}{ans ans':List Ans}{obs:List Prop}
  (hrel:RelAt w0 st a w ω τ) (h:qg6 P st d t len parts.toList ans=some (st',ans',obs)):
  ∃z w',(Instr.buildSlice t len (parts.map fun (i,x)=>(i,a.eval x))).run P w=.ok z w'∧Rel w0 st' (a.put (some d) z) w':=by
 unfold qg6 at h;split at h
 ·rename_i e hu;split at h
  ·rename_i i hi;split at h
   ·rename_i z hz;split at h
    ·rename_i hc;obtain⟨hc1,hc2,hc3⟩:=hc;split at h
     ·rename_i r hr;simp only at h;split at h
      ·rename_i es hes;split at h
       ·rename_i hmok;simp only[za,zd]at h;obtain⟨rfl,_,_⟩:=h;have hzl:(z.cells.toList.map Leaf.v).length=i.size:=by simp[hc1]
        have hflen:((List.replicate len (z.cells.toList.map Leaf.v)).flatten).length=len*i.size:=by simp[hc1]
        have hzs:SatL (Sat w ω τ) ((List.replicate len (z.cells.toList.map Leaf.v)).flatten) (madeCells z.cells (len*i.size)):=by
         refine⟨by simp[madeCells,hc1],fun x l hl=>?_⟩;have hlt:x<len*i.size:=by
          have:=(zk.1 hl).1;omega
         have hx:x=(x / i.size)*i.size+x % i.size:=by rw[Nat.mul_comm];exact (Nat.div_add_mod x i.size).symm
         have hq:x / i.size<len:=Nat.div_lt_of_lt_mul (by rw[Nat.mul_comm];exact hlt);have hm:x % i.size<i.size:=Nat.mod_lt _ hc2;have h1:=qoh (z.cells.toList.map Leaf.v) len (x / i.size) (x % i.size) hq (by omega);rw[hzl,←hx,hl]at h1;have h2:=h1.symm;rw[zr,zc]at h2;obtain⟨u,hu',rfl⟩:=h2;refine⟨u,?_,rfl⟩;have h3:=qoe z.cells len (x / i.size) (x % i.size) hq (by omega);rw[←hc1,←hx]at h3;rw[h3];simpa using hu'
        obtain⟨out,hout,hosat⟩:=qkL (vals:=parts.toList.map fun x=>(x.1,a.eval x.2)) (by simp) (fun j i' p hj=>by
         rw[zr,zc]at hj;obtain⟨⟨i2,x⟩,hx,e⟩:=hj;simp only[zd]at e;obtain⟨rfl,rfl⟩:=e;exact⟨a.eval x,by simp only[zr,hx,zaw],hrel.ev x⟩) hr hzs
        obtain⟨hl1,hl2⟩:=qct hes;have hlen:es.length=len:=by rw[hl1,qof]
        have hcellr:∀x j dd,qan es x j=some dd→∃l,x<len∧j<i.size∧r[x*i.size+j]?=some l∧l.toD=some dd∧∃ee,(qcs i.size len r)[x]?=some ee∧ee[j]?=some l:=by
         intro x j dd hd;unfold qan at hd;cases hx:es[x]? with
         | none=>simp[hx]at hd
         | some e'=>
          rw[hx,zan]at hd;obtain⟨ee,h1,h2⟩:=hl2 x e' hx;obtain⟨h3,h4⟩:=qct h2;obtain⟨l,h5,h6⟩:=h4 j dd hd;have h1':=h1;rw[qkZ]at h1;split at h1
          ·simp only[za]at h1;subst h1;have h5':=h5;rw[zF]at h5;split at h5
           ·rw[zA]at h5;exact⟨l,‹_›,‹_›,h5,h6,_,h1',h5'⟩
           ·cases h5
          ·cases h1
        have hrl:r.length=len*i.size:=by
         have:=hosat.1;have h2:out.size=(madeCells z.cells (len*i.size)).size:=by
          have:=hosat.1;have h4:∀(l0:List (Nat×PV)) (ls0 r0:List Leaf),fillL (fun x=>some (x*i.size,i.size)) ls0 l0=some r0→r0.length=ls0.length:=by
           intro l0;induction l0 with
           | nil=>intro ls0 r0 h;simp[fillL]at h;rw[h]
           | cons x l0 ih=>
            intro ls0 r0 h;obtain⟨x1,x2⟩:=x;simp only[fillL]at h;split at h
            ·split at h
             ·rename_i hh;rw[ih _ _ h,qkK (by omega)]
             ·cases h
            ·cases h
          have:=h4 _ _ _ hr;simp[madeCells];omega
         simp[madeCells]at h2;omega
        have hnew:(w.alloc (.cells out e)).heap[w.heap.size]?=some (.cells out e (0,0)):=qcr _ _;have hN:=hrel.newTok d (quZ hmok) (qdi 0 (qcs i.size len r)) (k:=i.size) (cap:=len) (es:=es) (w1:=w.alloc (.cells out e))
         ((Blw.refl _ _).alloc (zO _) _) hnew (by omega) (by rw[hosat.1,hrl];exact zO _)
         (fun e' he=>by
          obtain⟨x,hx⟩:=zak.1 he;obtain⟨ee,h1,h2⟩:=hl2 x e' hx;obtain⟨h3,_⟩:=qct h2;rw[h3];rw[qkZ]at h1;split at h1
          ·simp only[za]at h1;subst h1;have:(x+1)*i.size≤len*i.size:=zB _ (by omega);rw[zR]at this;simp;omega
          ·cases h1)
         (fun x j dd hd=>by
          obtain⟨l,h1,h2,h3,h4,ee,h5,h6⟩:=hcellr x j dd hd;obtain⟨u,h7,h8⟩:=hosat.2 _ _ h3;refine⟨u,h7,l,h4,h8,fun s hs=>?_⟩;have:=qog (qcs i.size len r) 0 x j ee l s h5 h6 hs;rw[zv]at this;exact qu0 hmok this)
        rw[hlen]at hN;refine⟨_,_,?_,_,_,hN.1.put (p:=.one (.sl (.own d) i.size es)) hN.2⟩;have hz0:((Array.range (len*i.size)).map (fun x=>(if len*i.size=0 then (#[]:Array Value) else z.cells)[x % (if len*i.size=0 then (#[]:Array Value) else z.cells).size]!))=madeCells z.cells (len*i.size):=by
         unfold madeCells;by_cases h0:len*i.size=0
         ·simp[h0]
         ·simp[h0]
        have e:(Array.map (fun (x:Nat×Operand)=>(x.1,a.eval x.2)) parts).toList=parts.toList.map fun x=>(x.1,a.eval x.2):=by simp
        have hlim:¬(len*i.size>2 ^ 24):=by have:(2:Nat) ^ 24=16777216:=(by decide);omega
        simp only[Instr.buildSlice,Sem.run_bind,run_underlying hu,Result.andThen_ok,sizeOf,typeInfo,run_program,hi,Sem.run_pure];rw[zo hlim];by_cases h0:len*i.size=0
        ·simp only[h0,zbb]at hz0 ⊢;simp only[Sem.run_pure,Sem.run_bind,Result.andThen_ok,e];rw[h0]at hout;rw[hz0,hout];simp[newRow]
        ·simp only[h0,zci]at hz0 ⊢;simp only[zeroValue,typeInfo,Sem.run_bind,run_program,Result.andThen_ok,hi,hz,Sem.run_pure,e];rw[hz0,hout];simp[newRow]
       ·cases h
      ·cases h
     ·cases h
    ·cases h
   ·cases h
  ·cases h
 ·cases h
end Go.Sx
namespace Go.Sx
open Go.RowKit
theorem Rep.retop{w w':World}{ω ω':Own}{R R':List (Nat×Nat)→Owner→Prop}{k b off n cap:Nat}{es:List (List D)}(h:Rep w ω R (.sl k es) (.slice (some ⟨b,off,none⟩) n cap))
  {arr arr':Array Value} {ty:TypeId} {fr:Nat×Nat} (hb:w.heap[b]?=some (.cells arr ty fr)) (hb':w'.heap[b]?=some (.cells arr' ty fr)) (hsz:arr'.size=arr.size)
  (hag:∀x,x<off+n*k→arr'[x]?=arr[x]?) (hR0:∀o,o=ω b→R [] o→R' [] (ω' b)) (hlow:∀c p q,c<w.heap.size→R (p::q) (ω c)→R' (p::q) (ω' c)∧w'.heap[c]?=w.heap[c]?):
  Rep w' ω' R' (.sl k es) (.slice (some ⟨b,off,none⟩) n cap):=by
 generalize hy:Value.slice (some ⟨b,off,none⟩) n cap=y at h;cases h with
 | nil=>cases hy;exact .nil _ _ _
 | row R k es b2 off2 cap2 arr2 ty2 fr2 us hb2 hR hc hs hk hu hd=>
  simp only[Value.slice.injEq,za,Addr.mk.injEq]at hy;obtain⟨⟨rfl,rfl,_⟩,rfl,rfl⟩:=hy;rw[hb]at hb2;simp only[za,Obj.cells.injEq]at hb2;obtain⟨rfl,rfl,rfl⟩:=hb2;refine .row R' k es b off cap arr' ty fr us hb' (hR0 _ rfl hR) hc (by omega) hk (fun i j d hd'=>?_) (fun i j d hd'=>(hd i j d hd').frame fun c q hcl hq=>hlow c _ _ hcl hq);rw[hag,hu i j d hd'];have hij:i<es.length∧j<k:=by
   unfold qan at hd';cases hx:es[i]? with
   | none=>simp[hx]at hd'
   | some e=>
    rw[hx,zan]at hd';have h1:=(zk.1 hx).1;have h2:=(zk.1 hd').1;rw[hk e (zw hx)]at h2;exact⟨h1,h2⟩
  have:(i+1)*k≤es.length*k:=zB _ hij.1;rw[zR]at this;omega
theorem qdI{es:List (List D)}{k i j:Nat}{d:D}(hk:∀e∈es,e.length=k)(h:qan es i j=some d):i<es.length∧j<k:=by
 unfold qan at h;cases hx:es[i]? with
 | none=>simp[hx]at h
 | some e=>
  rw[hx,zan]at h;have h1:=(zk.1 hx).1;have h2:=(zk.1 h).1;rw[hk e (zw hx)]at h2;exact⟨h1,h2⟩
theorem qg7{es es2:List (List D)}{i j:Nat}:qan (es++es2) i j=if i<es.length then qan es i j else qan es2 (i-es.length) j:=by
 unfold qan;rw[zT];split<;>rfl
theorem qoi{es:List (List D)}{k i j:Nat}(hk:∀e∈es,e.length=k)(hi:i<es.length)(hj:j<k):∃d,qan es i j=some d:=by
 have h1:es[i].length=k:=hk _ (zax hi);exact⟨es[i][j],by simp[qan,hi,h1,hj]⟩
def qbz(t:Nat)(mv:Option Nat)(n:Nat):Owner→Owner
 | .tok s q=>if mv=some s then (match q with | []=>.imm | p::q'=>.tok t ((n+p.1,p.2)::q')) else .tok s q
 | o=>o
def apTag(t:Nat)(mv:Option Nat):Tag→Option Tag
 | .free=>some .free
 | .own s=>if s=t then some (.ro t) else if mv=some s then none else some (.own s)
 | .ro s=>if s=t then none else if mv=some s then none else some (.ro s)
structure Src (P:Program) (w:World) (ω:Own) (k:Nat) (es2:List (List D)) (mv:Option Nat) (y:Value) (news:List Value):Prop where
 len:news.length=es2.length*k
 rows:∀e∈es2,e.length=k
 one:∀u∈news,u.oneCell'=true
 cell:∀i j d,qan es2 i j=some d→∃u,news[i*k+j]?=some u∧((∃x,d=.v x∧u=x)∨∃s,mv=some s∧Rep w ω (fun q=>(Tag.own s).R ((i,j)::q)) d u)
 shape:((∃a,y=.slice a 0 0)∧es2=[])∨∃b o c,y=.slice (some ⟨b,o,none⟩) es2.length c∧∀j v,news[j]?=some v→w.cell? ((⟨b,o,none⟩:Addr).add j)=some v
theorem qk1{t n:Nat}{mv:Option Nat}{o:Owner}{id:Nat}:qbz t mv n o=.box id↔o=.box id:=by
 cases o with
 | imm=>simp[qbz]
 | box i=>simp[qbz]
 | tok s q=>
  simp only[qbz];split
  ·cases q<;>simp
  ·simp
theorem qeM{t n:Nat}{mv:Option Nat}{s:Nat}{q:List (Nat×Nat)}(h:mv≠some s):qbz t mv n (.tok s q)=.tok s q:=by simp[qbz,h]
theorem qdJ{w w':World}{ω ω':Own}{t n:Nat}{mv:Option Nat}{g g':Tag}(hmv:mv≠some t)(hg:apTag t mv g=some g')(hne:g≠.own t)
  (hω:∀c,c<w.heap.size→ω c≠.tok t []→ω' c=qbz t mv n (ω c)∧w'.heap[c]?=w.heap[c]?):
  ∀c q,c<w.heap.size→g.R q (ω c)→g'.R q (ω' c)∧w'.heap[c]?=w.heap[c]?:=by
 intro c q hc hr;cases g with
 | free=>
  simp only[apTag,za]at hg;subst hg;simp only[Tag.R]at hr;obtain⟨h1,h2⟩:=hω c hc (by rw[hr];simp);rw[h1,hr];exact⟨rfl,h2⟩
 | own s=>
  simp only[apTag]at hg;have hs:s≠t:=fun e=>hne (by rw[e])
  rw[zo hs]at hg;split at hg
  ·cases hg
  ·rename_i hm;simp only[za]at hg;subst hg;simp only[Tag.R]at hr;obtain⟨h1,h2⟩:=hω c hc (by rw[hr];simp[hs]);rw[h1,hr,qeM hm];exact⟨rfl,h2⟩
 | ro s=>
  simp only[apTag]at hg;split at hg
  ·cases hg
  ·rename_i hs;split at hg
   ·cases hg
   ·rename_i hm;simp only[za]at hg;subst hg;simp only[Tag.R]at hr;rcases hr with hr | ⟨q',hr⟩
    ·obtain⟨h1,h2⟩:=hω c hc (by rw[hr];simp);rw[h1,hr];exact⟨.inl rfl,h2⟩
    ·obtain⟨h1,h2⟩:=hω c hc (by rw[hr];simp[hs]);rw[h1,hr,qeM hm];exact⟨.inr ⟨q',rfl⟩,h2⟩
def qa0(τ:Nat→Nat×Value)(t k:Nat)(z:Value):Nat→Nat×Value:=fun s=>if s=t then (k,z) else τ s
theorem qiJ{τ:Nat→Nat×Value}{t k:Nat}{z:Value}{mv:Option Nat}{g g':Tag}{y:Nat×Value}(hg:apTag t mv g=some g')(hy:g.hdr τ y):g'.hdr (qa0 τ t k z) y:=by
 cases g with
 | free=>simp only[apTag,za]at hg;subst hg;exact trivial
 | own s=>
  simp only[apTag]at hg;split at hg
  ·simp only[za]at hg;subst hg;exact trivial
  ·split at hg
   ·cases hg
   ·simp only[za]at hg;subst hg;simp only[Tag.hdr,qa0]at hy ⊢;rw[zo ‹_›];exact hy
 | ro s=>
  simp only[apTag]at hg;split at hg
  ·cases hg
  ·split at hg
   ·cases hg
   ·simp only[za]at hg;subst hg;exact trivial
theorem apSat{w w':World}{ω ω':Own}{τ:Nat→Nat×Value}{t k n:Nat}{z:Value}{mv:Option Nat}(htg:t<giv)(hmv:mv≠some t)
  (hω:∀c,c<w.heap.size→ω c≠.tok t []→ω' c=qbz t mv n (ω c)∧w'.heap[c]?=w.heap[c]?)
  (hbox:∀id b,ω b=.box id→ω' b=.box id)
  (hown:∀es y,Rep w ω (Tag.own t).R (.sl (τ t).1 es) y→y=(τ t).2→Rep w' ω' (Tag.ro t).R (.sl (τ t).1 es) y):
  ∀l v,Sat w ω τ l v→Sat w' ω' (qa0 τ t k z) (l.re (apTag t mv) fun _=>true) v:=by
 intro l v hs;cases l with
 | und=>exact trivial
 | v x=>exact hs
 | sb c=>exact hs
 | ptr id off=>
  simp only[Leaf.re,zbb];obtain⟨b,hb,e⟩:=hs;exact⟨b,hbox id b hb,e⟩
 | np s vs=>
  simp only[Leaf.re];split
  ·rename_i s' hg;split
   ·rename_i hss;subst hss;have hne:Tag.own s'≠.own t:=by
     intro e;simp only[Tag.own.injEq]at e;subst e;simp[apTag]at hg
    obtain⟨b,ty,arr,e,h5,h3,hn,hv⟩:=hs;have hlt:b<w.heap.size:=(zz.1 h3).1;have hk:=qdJ (w:=w) (w':=w') hmv hg hne hω b [] hlt h5;refine⟨b,ty,arr,e,hk.1,hk.2.trans h3,qiy (fun c u hc=>?_) hn hv⟩;cases c with
    | und=>exact trivial
    | v x=>exact hc
    | sl g k' es=>
     simp only[NC.re];cases hg:apTag t mv g with
     | none=>exact trivial
     | some g'=>
      by_cases hne:g=.own t
      ·subst hne;simp only[apTag,zbb,za]at hg;subst hg;obtain⟨h1,h2⟩:=hc;simp only[Tag.hdr]at h2;have e1:(τ t).1=k':=by rw[h2]
       have e2:(τ t).2=u:=by rw[h2]
       exact⟨by rw[←e1];exact hown es u (by rw[e1];exact h1) e2.symm,trivial⟩
      ·exact⟨hc.1.frame fun c q hc hq=>qdJ hmv hg hne hω c q hc hq,qiJ hg hc.2⟩
   ·exact trivial
  ·exact trivial
 | sn s i j k2 es m=>
  simp only[Leaf.re];split
  ·rename_i s' hg;split
   ·rename_i hss;subst hss;have hne:Tag.own s'≠.own t:=by
     intro e;simp only[Tag.own.injEq]at e;subst e;simp[apTag]at hg
    obtain⟨u,hu,h1,hm⟩:=hs;refine⟨u,hu,h1.frame fun c q hc hq=>qdJ hmv hg hne hω c _ hc hq,fun hh=>?_⟩;obtain⟨kT,b,off,len,cap,arr,ty,fr,h2,h5,h3,h4⟩:=hm hh;have hlt:b<w.heap.size:=(zz.1 h3).1;have hk:=qdJ (w:=w) (w':=w') hmv hg hne hω b [] hlt h5;exact⟨kT,b,off,len,cap,arr,ty,fr,qiJ (k:=k) (z:=z) hg h2,hk.1,hk.2.trans h3,h4⟩
   ·exact trivial
  ·exact trivial
 | clo f ids=>
  simp only[Leaf.re];split
  ·obtain⟨bs,e,hn,hi⟩:=hs;refine⟨bs,e,hn,fun i id hid=>?_⟩;obtain⟨b,h1,h2⟩:=hi i id hid;exact⟨b,h1,hbox id b h2⟩
  ·exact trivial
 | rp ds off=>
  obtain⟨b,e,hr⟩:=hs;exact⟨b,e,hr.frame fun c q hc hq=>qdJ (g:=.free) (g':=.free) hmv rfl (by simp) hω c q hc hq⟩
 | fd d=>exact Rep.frame hs fun c q hc hq=>qdJ (g:=.free) (g':=.free) hmv rfl (by simp) hω c q hc hq
 | sv t0 k0 es0=>exact⟨Rep.frame hs.1 fun c q hc hq=>qdJ (g:=.free) (g':=.free) hmv rfl (by simp) hω c q hc hq,fun ht=>(show qa0 τ t k z t0=τ t0 by simp only[qa0];rw[zo (by omega)]).trans (hs.2 ht)⟩
 | sl g k' es=>
  simp only[Leaf.re];cases hg:apTag t mv g with
  | none=>exact trivial
  | some g'=>
   by_cases hne:g=.own t
   ·subst hne;simp only[apTag,zbb,za]at hg;subst hg;obtain⟨h1,h2⟩:=hs;simp only[Tag.hdr]at h2;have e1:(τ t).1=k':=by rw[h2]
    have e2:(τ t).2=v:=by rw[h2]
    exact⟨by rw[←e1];exact hown es v (by rw[e1];exact h1) e2.symm,trivial⟩
   ·exact⟨hs.1.frame fun c q hc hq=>qdJ hmv hg hne hω c q hc hq,qiJ hg hs.2⟩
 | ep g k' es i j=>
  simp only[Leaf.re];cases hg:apTag t mv g with
  | none=>exact trivial
  | some g'=>
   obtain⟨b,off,cap,e,hi,hr,hh⟩:=hs;by_cases hne:g=.own t
   ·subst hne;simp only[apTag,zbb,za]at hg;subst hg;simp only[Tag.hdr]at hh;have e1:(τ t).1=k':=by rw[hh]
    have e2:(τ t).2=Value.slice (some ⟨b,off,none⟩) es.length cap:=by rw[hh]
    exact⟨b,off,cap,e,hi,by rw[←e1];exact hown es _ (by rw[e1];exact hr) e2.symm,trivial⟩
   ·exact⟨b,off,cap,e,hi,hr.frame fun c q hc hq=>qdJ hmv hg hne hω c q hc hq,qiJ hg hh⟩
def St.ap(st:St)(t:Nat)(mv:Option Nat):St:=st.map (Leaf.re (apTag t mv) fun _=>true)
theorem qoj{P:Program}{t ty e:TypeId}{i:TypeInfo}(ht:P.underlying t=some (.slice e))(hi:P.info? e=some i)(w:World){y y2:Value}
  (hy:∃a n c,y=.slice a n c∧n≤c) (hy2:∃a c,y2=.slice a 0 c):
  (Builtin.append_ #[t,t] ty #[y,y2]).run P w=.ok y w:=by
 obtain⟨a,n,c,rfl,hn⟩:=hy;obtain⟨a2,c2,rfl⟩:=hy2;cases a<;>cases a2<;>
  simp[Builtin.append_,run_underlying ht,sizeOf,typeInfo,hi,Builtin.lenOf,Builtin.firstCells,loadCells,loadCellsFrom,storeCells, *]
theorem qiK{P:Program}{t ty e:TypeId}{i:TypeInfo}(ht:P.underlying t=some (.slice e))(hi:P.info? e=some i)(w:World)
  (b off n cap:Nat) (arr:Array Value) (tyb:TypeId) (hg:w.heap[b]?=some (.cells arr tyb (0,0)))
  (ad:Addr) (m c:Nat) (news:List Value) (hl:news.length=m*i.size) (hnews:∀j u,news[j]?=some u→w.cell? (ad.add j)=some u) (h1:∀u∈news,u.oneCell'=true)
  (hroom:n+m≤cap) (hfit:off+n*i.size+news.length≤arr.size):
  (Builtin.append_ #[t,t] ty #[.slice (some ⟨b,off,none⟩) n cap,.slice (some ad) m c]).run P w=
   .ok (.slice (some ⟨b,off,none⟩) (n+m) cap) (w.setRow b (arr.toList.take (off+n*i.size)++news++arr.toList.drop (off+n*i.size+news.length)).toArray):=by
 have hf:=run_firstCells_some (P:=P) w i.size m ad m c news hl hnews;have hst:=run_storeCells_at P b (off+n*i.size) tyb news 0 arr w hg (by simpa using hfit) h1;simp only[zbj]at hst;simp[Builtin.append_,run_underlying ht,sizeOf,typeInfo,hi,Builtin.lenOf,hroom,hf,qcZ,hst]
theorem Src.cell_rep{P:Program}{w w':World}{ω ω':Own}{t k n:Nat}{es2:List (List D)}{mv:Option Nat}{y:Value}{news:List Value}(h:Src P w ω k es2 mv y news)(hmv:mv≠some t)
  (hω:∀c,c<w.heap.size→ω c≠.tok t []→ω' c=qbz t mv n (ω c)∧w'.heap[c]?=w.heap[c]?) {i j:Nat} {d:D} (hd:qan es2 i j=some d):
  ∃u,news[i*k+j]?=some u∧Rep w' ω' (fun q=>(Tag.own t).R ((n+i,j)::q)) d u:=by
 obtain⟨u,h1,h2⟩:=h.cell i j d hd;refine⟨u,h1,?_⟩;rcases h2 with⟨x,rfl,rfl⟩ | ⟨s,hs,hr⟩
 ·exact .v _ _ (h.one _ (zw h1))
 ·refine hr.frame fun c q hc hq=>?_
  simp only[Tag.R]at hq ⊢;have hst:s≠t:=fun e=>hmv (by rw[hs,e])
  obtain⟨h3,h4⟩:=hω c hc (by rw[hq];simp[hst]);rw[h3,hq];exact⟨by simp[qbz,hs],h4⟩
theorem RelAt.append{P:Program}{w0:Base}{st:St}{a:Act}{w:World}{ω:Own}{τ:Nat→Nat×Value}(hrel:RelAt w0 st a w ω τ){t k:Nat}{es es2:List (List D)}{mv:Option Nat}{y y2:Value}{news:List Value}
  (hp:Sat w ω τ (.sl (.own t) k es) y) (hsrc:Src P w ω k es2 mv y2 news) (hmv:mv≠some t) {ty tys e:TypeId} {i:TypeInfo} {z:Value}
  (ht:P.underlying tys=some (.slice e)) (hi:P.info? e=some i) (hz:i.zero=some z) (hk:i.size=k) (hzk:z.cells.size=k)
  (hb1:(es.length+es2.length)*i.bytes≤140737488355328) (hb2:es.length+es2.length≤9223372036854775807) (htg:t<giv):
  ∃r w' ω',(Builtin.append_ #[tys,tys] ty #[y,y2]).run P w=.ok r w'∧RelAt w0 (st.ap t mv) a w' ω' (qa0 τ t k r)∧Sat w' ω' (qa0 τ t k r) (.sl (.own t) k (es++es2)) r:=by
 subst hk;obtain⟨hr,hh⟩:=hp;simp only[Tag.hdr]at hh;have e1:(τ t).1=i.size:=by rw[hh]
 have e2:(τ t).2=y:=by rw[hh]
 have hfixr:∀r:Value,∀s,giv≤s→qa0 τ t i.size r s=τ s:=fun r s hs=>by simp only[qa0];rw[zo (by omega)]
 have hhdr:(Tag.own t).hdr (qa0 τ t i.size y) (i.size,y):=by simp[Tag.hdr,qa0]
 by_cases hm:es2.length=0
 ·
  have hes2:es2=[]:=zbv hm;subst hes2
  let ω':Own:=fun c=>qbz t mv es.length (ω c)
  have hω:∀c,c<w.heap.size→ω c≠.tok t []→ω' c=qbz t mv es.length (ω c)∧w.heap[c]?=w.heap[c]?:=fun c _ _=>⟨rfl,rfl⟩
  have hrun:(Builtin.append_ #[tys,tys] ty #[y,y2]).run P w=.ok y w:=by
   refine qoj ht hi w ?_ ?_
   ·cases hr with
    | nil _ _ a0=>exact⟨a0,0,0,rfl,zO _⟩
    | row R k es b off cap arr ty fr us hb hR hc hs hk hu hd=>exact⟨some ⟨b,off,none⟩,_,cap,rfl,hc⟩
   ·rcases hsrc.shape with⟨⟨a,h⟩,_⟩ | ⟨b,o,c,h,_⟩
    ·exact⟨a,0,h⟩
    ·exact⟨some ⟨b,o,none⟩,c,h⟩
  refine⟨y,w,ω',hrun,hrel.turn _ (apSat htg hmv hω (fun id b hb=>by simp[ω',hb,qbz]) ?_) hrel.below ?_ ?_ ?_ (hfixr _),?_,hhdr⟩
  ·intro es' y' hr' _;refine hr'.frame fun c q hc hq=>⟨?_,rfl⟩
   simp only[Tag.R]at hq ⊢;simp only[ω',hq];exact .inr ⟨q,qeM hmv⟩
  ·intro b hb;have:ω b≠.imm:=fun e=>by simp[ω',e,qbz]at hb
   exact hrel.owned b this
  ·intro id b hb;exact⟨by simp[ω',hb,qbz],rfl⟩
  ·intro id b hb;exact qk1.1 hb
  ·rw[zaa];refine hr.frame fun c q hc hq=>⟨?_,rfl⟩
   simp only[Tag.R]at hq ⊢;simp only[ω',hq];exact qeM hmv
 ·have hm0:0<es2.length:=by omega
  rcases hsrc.shape with⟨_,h⟩ | ⟨sb,so,sc,rfl,hnews⟩
  ·rw[h]at hm0;simp at hm0
  have grown:∀(w1:World) (arr':Array Value) (r:Value) (cap':Nat),Blw w.heap.size w w1→w1.heap[w.heap.size]?=some (.cells arr' e (0,0))→r=.slice (some ⟨w.heap.size,0,none⟩) (es.length+es2.length) cap'→
    es.length+es2.length≤cap'→cap'*i.size≤arr'.size→(∀i' j d,qan es i' j=some d→∃u,arr'[i'*i.size+j]?=some u∧∃R:List (Nat×Nat)→Owner→Prop,(∀q o,R q o→o=.tok t ((i',j)::q))∧Rep w ω R d u)→
    (∀x u,news[x]?=some u→arr'[es.length*i.size+x]?=some u)→(∀e∈es,e.length=i.size)→
    ∃ω',RelAt w0 (st.ap t mv) a w1 ω' (qa0 τ t i.size r)∧Sat w1 ω' (qa0 τ t i.size r) (.sl (.own t) i.size (es++es2)) r:=by
   intro w1 arr' r cap' hbel hnew hreq hcap hsz hold hnw hrow;subst hreq
   let ω':Own:=fun c=>if c=w.heap.size then .tok t [] else @ite _ (ω c=.tok t []) (Classical.propDecidable _) .imm (qbz t mv es.length (ω c))
   have hfr:ω w.heap.size=.imm:=hrel.owned.fresh (zO _);have hω:∀c,c<w.heap.size→ω c≠.tok t []→ω' c=qbz t mv es.length (ω c)∧w1.heap[c]?=w.heap[c]?:=by
    intro c hc hne;refine⟨?_,hbel.block c hc⟩;simp only[ω'];rw[zo (by omega),zo hne]
   have hself:ω' w.heap.size=.tok t []:=by simp[ω']
   have hlow:∀c p q,c<w.heap.size→ω c=.tok t (p::q)→ω' c=.tok t (p::q):=by
    intro c p q hc hq;rw[(hω c hc (by rw[hq];simp)).1,hq,qeM hmv]
   refine⟨ω',hrel.turn _ (apSat htg hmv hω ?_ ?_) (hrel.below.next hbel) ?_ ?_ ?_ (hfixr _),?_,by simp[Tag.hdr,qa0]⟩
   ·intro id b hb;have hlt:=hrel.owned.lt (b:=b) (by simp[hb]);rw[(hω b hlt (by rw[hb];simp)).1,hb];rfl
   ·intro es' y' hr' _;refine hr'.frame fun c q hc hq=>⟨?_,hbel.block c hc⟩
    simp only[Tag.R]at hq ⊢;cases q with
    | nil=>left;simp only[ω'];rw[zo (by omega),zp hq]
    | cons p q=>right;exact⟨_,hlow c p q hc hq⟩
   ·intro b hb;by_cases hbn:b=w.heap.size
    ·subst hbn;exact⟨.inl hrel.below.size,arr',e,hnew⟩
    ·have:ω b≠.imm:=by
      intro e';simp only[ω']at hb;rw[zo hbn,e']at hb;simp[qbz]at hb
     obtain⟨h3,arr2,ty2,h4⟩:=hrel.owned b this;exact⟨h3,arr2,ty2,(hbel.block b (hrel.owned.lt this)).trans h4⟩
   ·intro id b hb;have hlt:=hrel.owned.lt (b:=b) (by simp[hb]);obtain⟨h1,h2⟩:=hω b hlt (by rw[hb];simp);exact⟨by rw[h1,hb];rfl,h2⟩
   ·intro id b hb;by_cases hbn:b=w.heap.size
    ·subst hbn;rw[hself]at hb;cases hb
    ·simp only[ω']at hb;rw[zo hbn]at hb;split at hb
     ·cases hb
     ·exact qk1.1 hb
   ·have hcell:∀x j d,qan (es++es2) x j=some d→∃u,arr'[x*i.size+j]?=some u∧Rep w1 ω' (fun q=>(Tag.own t).R ((x,j)::q)) d u:=by
     intro x j d hd;rw[qg7]at hd;split at hd
     ·obtain⟨u,h1,R,hR,h2⟩:=hold x j d hd;refine⟨u,h1,h2.frame fun c q hc hq=>⟨?_,hbel.block c hc⟩⟩;exact hlow c _ _ hc (hR q _ hq)
     ·rename_i hx;obtain⟨u,h1,h2⟩:=hsrc.cell_rep (w':=w1) (ω':=ω') (n:=es.length) hmv hω hd;refine⟨u,?_,?_⟩
      ·rw[←hnw _ u h1]
       congr 1
       have:x=es.length+(x-es.length):=by omega
       rw[this,zR];simp only[Nat.add_sub_cancel_left];omega
      ·rwa[show es.length+(x-es.length)=x by omega]at h2
    have hlen:(es++es2).length=es.length+es2.length:=zab;have hrow2:∀e∈es++es2,e.length=i.size:=by
     intro e' he;rcases zaz.1 he with h | h
     ·exact hrow e' h
     ·exact hsrc.rows e' h
    have:=Rep.row (w:=w1) (ω:=ω') (Tag.own t).R i.size (es++es2) w.heap.size 0 cap' arr' e (0,0) (fun x j=>arr'.getD (x*i.size+j) undef) hnew hself (by omega) (by omega) hrow2
     (fun x j d hd=>by obtain⟨u,h1,_⟩:=hcell x j d hd;rw[zv,h1];simp[zl,h1])
     (fun x j d hd=>by obtain⟨u,h1,h2⟩:=hcell x j d hd;have:arr'.getD (x*i.size+j) undef=u:=(by simp[zl,h1]);rw[this];exact h2)
    rw[hlen]at this;exact this
  generalize hyy:y=y0 at hr;cases hr with
  | nil _ _ a0=>
   subst hyy;simp only[zh,zv]at hb1 hb2;have hrun:(Builtin.append_ #[tys,tys] ty #[.slice a0 0 0,.slice (some ⟨sb,so,none⟩) es2.length sc]).run P w=
     .ok (.slice (some ⟨w.heap.size,0,none⟩) es2.length (grownCap w es2.length 0 e)) (w.drew.alloc (.cells (news.toArray++Builtin.zeroCells z.cells (grownCap w es2.length 0 e-es2.length)) e)):=by
    cases a0 with
    | none=>exact run_append_nil (P:=P) w tys ty e i z ht hi hz ⟨sb,so,none⟩ es2.length sc news hsrc.len hnews hm0 (by omega) (by omega)
    | some b0=>
     have:=run_append_grow (P:=P) w tys ty e i z ht hi hz b0 0 0 [] (by simp) (fun j v hv=>by simp at hv) ⟨sb,so,none⟩ es2.length sc news hsrc.len hnews (by omega) (by omega) (growslice_fits (by omega) (by simpa using hb1));simpa using this
   have hge:=grownCap_ge w es2.length 0 e;obtain⟨ω',h1,h2⟩:=grown _ (news.toArray++Builtin.zeroCells z.cells (grownCap w es2.length 0 e-es2.length)) (.slice (some ⟨w.heap.size,0,none⟩) es2.length (grownCap w es2.length 0 e)) (grownCap w es2.length 0 e)
    (((Blw.refl _ _).drew).alloc (zO _) _) (qcr _ _) (by simp) (by simpa using hge) (by
     simp only[zbd,zac,size_zeroCells,hsrc.len,hzk,←zR];exact zB _ (by omega))
    (fun i' j d hd=>by simp[qan]at hd) (fun x u hx=>by
     simp only[zh,Nat.zero_mul,zv];rw[zK,zp (by have:=(zk.1 hx).1;simpa using this)];simpa using hx) (fun e he=>by cases he)
   exact⟨_,_,ω',hrun,h1,h2⟩
  | row R k es b off cap arr tyb fr us hb hR hc hs hkk hu hd=>
   have hR':ω b=.tok t []:=hR;obtain⟨hown1,arr0,ty0,hb0⟩:=hrel.owned b (by rw[hR'];simp);rw[hb]at hb0;simp only[za,Obj.cells.injEq]at hb0;obtain⟨rfl,rfl,rfl⟩:=hb0;have hblt:b<w.heap.size:=(zz.1 hb).1;by_cases hroom:es.length+es2.length≤cap
   ·
    have hmul:(es.length+es2.length)*i.size≤cap*i.size:=zB _ hroom;rw[zR]at hmul;have hnl:=hsrc.len;have hfit:off+es.length*i.size+news.length≤arr.size:=by omega
    have hrun:=qiK (P:=P) (ty:=ty) ht hi w b off es.length cap arr tyb hb ⟨sb,so,none⟩ es2.length sc news hsrc.len hnews hsrc.one hroom hfit;generalize harr:(arr.toList.take (off+es.length*i.size)++news++arr.toList.drop (off+es.length*i.size+news.length)).toArray=arr' at hrun;have hget:∀x:Nat,arr'[x]?=if off+es.length*i.size≤x∧x<off+es.length*i.size+news.length then news[x-(off+es.length*i.size)]? else arr[x]?:=by
     intro x;rw[←harr,zY,qg5 (by simpa using hfit)];simp
    have hsz':arr'.size=arr.size:=by rw[←harr];simp;omega
    have hhs:=setRow_heap w b arr arr' tyb (0,0) hb
    let ω':Own:=fun c=>qbz t mv es.length (ω c)
    have hω:∀c,c<w.heap.size→ω c≠.tok t []→ω' c=qbz t mv es.length (ω c)∧(w.setRow b arr').heap[c]?=w.heap[c]?:=fun c _ hne=>
     ⟨rfl,setRow_other w b c arr' fun e=>hne (by rw[e];exact hR')⟩
    have hself:ω' b=.tok t []:=by simp only[ω',hR'];exact qeM hmv
    have hlow:∀c p q,c<w.heap.size→ω c=.tok t (p::q)→ω' c=.tok t (p::q)∧(w.setRow b arr').heap[c]?=w.heap[c]?:=by
     intro c p q hc hq;obtain⟨h1,h2⟩:=hω c hc (by rw[hq];simp);rw[h1,hq,qeM hmv];exact⟨rfl,h2⟩
    refine⟨_,_,ω',hrun,hrel.turn _ (apSat htg hmv hω (fun id c hcb=>by simp[ω',hcb,qbz]) ?_) ?_ ?_ ?_ ?_ (hfixr _),?_,by simp[Tag.hdr,qa0]⟩
    ·intro es' y' hr' he';rw[he',e2,hyy]at hr' ⊢;rw[e1]at hr' ⊢;have hl':es.length=es'.length:=by
      obtain⟨_,_,h⟩:=hr'.len;simp only[Value.slice.injEq]at h;exact h.2.1
     refine Rep.retop hr' hb hhs hsz' (fun x hx=>?_) (fun o ho hro=>?_) (fun c p q hc hq=>?_)
     ·rw[hget,zo (by omega)]
     ·right;exact⟨[],hself⟩
     ·simp only[Tag.R]at hq ⊢;obtain⟨h1,h2⟩:=hlow c p q hc hq;exact⟨.inr ⟨_,h1⟩,h2⟩
    ·exact hrel.below.setRow hown1 arr'
    ·intro c hcb;have:ω c≠.imm:=fun e=>by simp[ω',e,qbz]at hcb
     obtain⟨h3,arr2,ty2,h4⟩:=hrel.owned c this;by_cases hcb':c=b
     ·subst hcb';exact⟨h3,arr',tyb,hhs⟩
     ·exact⟨h3,arr2,ty2,(setRow_other w b c arr' hcb').trans h4⟩
    ·intro id c hcb;exact⟨by simp[ω',hcb,qbz],setRow_other w b c arr' fun e=>by rw[e,hR']at hcb;cases hcb⟩
    ·intro id c hcb;exact qk1.1 hcb
    ·have hcell:∀x j d,qan (es++es2) x j=some d→∃u,arr'[off+x*i.size+j]?=some u∧Rep (w.setRow b arr') ω' (fun q=>(Tag.own t).R ((x,j)::q)) d u:=by
      intro x j d hdx;rw[qg7]at hdx;split at hdx
      ·rename_i hx;have hjk:=(qdI hkk hdx).2;refine⟨us x j,?_,(hd x j d hdx).frame fun c q hc hq=>?_⟩
       ·have:(x+1)*i.size≤es.length*i.size:=zB _ hx;rw[zR]at this;rw[hget,zo (by omega),hu x j d hdx]
       ·exact hlow c _ _ hc hq
      ·rename_i hx;obtain⟨u,h1,h2⟩:=hsrc.cell_rep (w':=w.setRow b arr') (ω':=ω') (n:=es.length) hmv hω hdx;have hxlt:=(zk.1 h1).1;have hxe:x*i.size=es.length*i.size+(x-es.length)*i.size:=by rw[←zR];congr 1;omega
       refine⟨u,?_,?_⟩
       ·rw[hget,zp (by omega),←h1]
        congr 1
        omega
       ·rwa[show es.length+(x-es.length)=x by omega]at h2
     have hlen:(es++es2).length=es.length+es2.length:=zab;have hrow2:∀e∈es++es2,e.length=i.size:=by
      intro e' he;rcases zaz.1 he with h | h
      ·exact hkk e' h
      ·exact hsrc.rows e' h
     have:=Rep.row (w:=w.setRow b arr') (ω:=ω') (Tag.own t).R i.size (es++es2) b off cap arr' tyb (0,0) (fun x j=>arr'.getD (off+x*i.size+j) undef) hhs hself (by omega) (by omega) hrow2
      (fun x j d hd=>by obtain⟨u,h1,_⟩:=hcell x j d hd;rw[h1];simp[zl,h1])
      (fun x j d hd=>by obtain⟨u,h1,h2⟩:=hcell x j d hd;have:arr'.getD (off+x*i.size+j) undef=u:=(by simp[zl,h1]);rw[this];exact h2)
     rw[hlen]at this;exact this
   ·
    have hmul:es.length*i.size≤cap*i.size:=zB _ hc;have holdl:((arr.toList.drop off).take (es.length*i.size)).length=es.length*i.size:=by simp;omega
    have hrun:=run_append_grow (P:=P) w tys ty e i z ht hi hz ⟨b,off,none⟩ es.length cap ((arr.toList.drop off).take (es.length*i.size)) holdl (fun j v hv=>by
     rw[qcZ,cell_of_row w b (off+j) arr tyb (0,0) hb];rw[zF]at hv;split at hv
     ·rw[zA]at hv;simpa using hv
     ·cases hv) ⟨sb,so,none⟩ es2.length sc news hsrc.len hnews (by omega) (by omega) (growslice_fits (by omega) hb1)
    have hge:=grownCap_ge w (es.length+es2.length) cap e;obtain⟨ω',h1,h2⟩:=grown _ (((arr.toList.drop off).take (es.length*i.size)).toArray++news.toArray++Builtin.zeroCells z.cells (grownCap w (es.length+es2.length) cap e-(es.length+es2.length))) _ (grownCap w (es.length+es2.length) cap e)
     (((Blw.refl _ _).drew).alloc (zO _) _) (qcr _ _) rfl hge (by
      simp only[zbd,zac,size_zeroCells,hsrc.len,hzk,holdl,←zR];exact zB _ (by omega))
     (fun i' j d hd'=>by
      obtain⟨hi1,hj1⟩:=qdI hkk hd';have:(i'+1)*i.size≤es.length*i.size:=zB _ hi1;rw[zR]at this;refine⟨us i' j,?_,fun q=>(Tag.own t).R ((i',j)::q),fun q o h=>h,hd i' j d hd'⟩;rw[zK,zp (by simp only[zbd,zac,holdl];omega),zK,zp (by simp only[zac,holdl];omega)];rw[zY,zF,zp (by omega),zA,←hu i' j d hd'];simp only[zH]
      congr 1
      omega)
     (fun x u hx=>by
      have hxl:=(zk.1 hx).1;rw[zK,zp (by simp only[zbd,zac,holdl];omega),zK,zo (by simp only[zac,holdl];omega)];simp only[zac,holdl,zY];rw[←hx]
      congr 1
      omega) hkk
    exact⟨_,_,ω',hrun,h1,h2⟩
end Go.Sx
namespace Go.Sx
open Go.RowKit
def Flat(es:List (List D)):Prop:=∀e∈es,∀d∈e,∃x,d=.v x
theorem qu2{es:List (List D)}{i j:Nat}{d:D}(h:qan es i j=some d):∃e∈es,d∈e:=by
 unfold qan at h;cases hx:es[i]? with
 | none=>simp[hx]at h
 | some e=>rw[hx,zan]at h;exact⟨e,zw hx,zw h⟩
theorem Src.empty{P:Program}{w:World}{ω:Own}{k:Nat}{mv:Option Nat}(a:Option Addr):Src P w ω k [] mv (.slice a 0 0) [] where
 len:=by simp
 rows:=fun _ h=>(by cases h)
 one:=fun _ h=>(by cases h)
 cell:=fun i j d hd=>by simp[qan]at hd
 shape:=.inl ⟨⟨a,rfl⟩,rfl⟩
theorem Src.of{P:Program}{w:World}{ω:Own}{R:List (Nat×Nat)→Owner→Prop}{k:Nat}{es2:List (List D)}{mv:Option Nat}{y:Value}(h:Rep w ω R (.sl k es2) y)(hk0:0<k)
  (hc:Flat es2∨∃s,mv=some s∧R=(Tag.own s).R):∃news,Src P w ω k es2 mv y news:=by
 cases h with
 | nil=>exact⟨[],Src.empty _⟩
 | row R k es b off cap arr ty fr us hb hR hcap hs hkk hu hd=>
  have hmul:es2.length*k≤cap*k:=zB _ hcap;have hget:∀x:Nat,((arr.toList.drop off).take (es2.length*k))[x]?=if x<es2.length*k then arr[off+x]? else none:=by
   intro x;rw[zF];split
   ·rw[zA];simp
   ·rfl
  have hcell:∀i j d,qan es2 i j=some d→((arr.toList.drop off).take (es2.length*k))[i*k+j]?=some (us i j):=by
   intro i j d hd';obtain⟨hi,hj⟩:=qdI hkk hd';have:(i+1)*k≤es2.length*k:=zB _ hi;rw[zR]at this;rw[hget,zp (by omega),←hu i j d hd',zcv]
  refine⟨(arr.toList.drop off).take (es2.length*k),by simp;omega,hkk,?_,?_,.inr ⟨b,off,cap,rfl,?_⟩⟩
  ·intro u hu';obtain⟨x,hx⟩:=zak.1 hu';have hlt:x<es2.length*k:=by
    have:=(zk.1 hx).1;simp at this;omega
   have hxe:x=(x / k)*k+x % k:=by rw[Nat.mul_comm];exact (Nat.div_add_mod x k).symm
   have hq:x / k<es2.length:=Nat.div_lt_of_lt_mul (by rw[Nat.mul_comm];exact hlt);obtain⟨d,hd'⟩:=qoi hkk hq (Nat.mod_lt x hk0);have h1:=hcell _ _ _ hd';rw[←hxe,hx]at h1;rw[zx h1];exact (hd _ _ _ hd').oneCell
  ·intro i j d hd';refine⟨us i j,hcell i j d hd',?_⟩;rcases hc with hf | ⟨s,hs1,hs2⟩
   ·obtain⟨e,he,hde⟩:=qu2 hd';obtain⟨x,rfl⟩:=hf e he d hde;have:=hd i j _ hd';cases h3:us i j<;>(rw[h3]at this;cases this;exact .inl ⟨_,rfl,rfl⟩)
   ·subst hs2;exact .inr ⟨s,hs1,hd i j d hd'⟩
  ·intro j v hv;rw[qcZ,cell_of_row w b (off+j) arr ty fr hb];rw[hget]at hv;split at hv
   ·exact hv
   ·cases hv
theorem RelAt.nilTok{w0:Base}{st:St}{a:Act}{w:World}{ω:Own}{τ:Nat→Nat×Value}(h:RelAt w0 st a w ω τ)(t k:Nat)(htg:t<giv):
  ∃ω',RelAt w0 (st.newTok t []) a w ω' (qa0 τ t k (.slice none 0 0))∧Sat w ω' (qa0 τ t k (.slice none 0 0)) (.sl (.own t) k []) (.slice none 0 0):=by
 refine⟨fun b=>qcP t [] (ω b),h.turn _ (Evolve.sat (g:=mvTag t []) (p:=fun _=>true) ⟨?_,?_,?_,rfl,fun s hs=>by simp only[qa0];rw[zo (by omega)]⟩) h.below ?_ ?_ ?_ (fun s hs=>by simp only[qa0];rw[zo (by omega)]),.nil _ _ _,by simp[Tag.hdr,qa0]⟩
 ·intro g g' b q hg _ hq;exact⟨qod hg hq,rfl⟩
 ·intro g g' y hg hy;cases g with
  | free=>simp only[mvTag,za]at hg;subst hg;exact trivial
  | own s=>
   simp only[mvTag]at hg;split at hg
   ·simp only[za]at hg;subst hg;exact trivial
   ·split at hg
    ·cases hg
    ·simp only[za]at hg;subst hg;simp only[Tag.hdr,qa0]at hy ⊢;rw[zo ‹_›];exact hy
  | ro s=>
   simp only[mvTag]at hg;split at hg
   ·simp only[za]at hg;subst hg;exact trivial
   ·split at hg
    ·cases hg
    ·simp only[za]at hg;subst hg;exact trivial
 ·intro id b _ hb;exact qiG.2 hb
 ·intro b hb;exact h.owned b fun e=>by simp only[e]at hb;exact hb rfl
 ·intro id b hb;exact⟨qiG.2 hb,rfl⟩
 ·intro id b hb;exact qiG.1 hb
def apSrc(t k:Nat)(q:PV)(ans:List Ans):Option (List (List D)×Option Nat×List Ans×List Prop):=
 match q.leaf,ans with
 | some (.sl (.own s) k' es2),.wr::r=>if k'=k∧s≠t then some (es2,some s,r,[]) else none
 | some (.sl _ k' es2),ans=>if k'=k then some (es2,none,ans,[Flat es2]) else none
 | some (.v (.slice none 0 0)),ans=>some ([],none,ans,[])
 | some (.sn _ _ _ k' es2 .here),ans=>if k'=k then some (es2,none,ans,[Flat es2]) else none
 | some (.sn _ _ _ k' es2 .away),ans=>if k'=k then some (es2,none,ans,[Flat es2]) else none
 | _,_=>none
theorem qok{P:Program}{w:World}{ω:Own}{τ:Nat→Nat×Value}{t k:Nat}{q:PV}{y:Value}{ans ans':List Ans}{es2:List (List D)}{mv:Option Nat}{obs:List Prop}(hk0:0<k)
  (hq:SatP (Sat w ω τ) q y) (h:apSrc t k q ans=some (es2,mv,ans',obs)) (ho:Obs obs):mv≠some t∧∃news,Src P w ω k es2 mv y news:=by
 unfold apSrc at h;split at h
 ·rename_i s k' es r e;split at h
  ·rename_i hc;obtain⟨rfl,hne⟩:=hc;simp only[za,zd]at h;obtain⟨rfl,rfl,_,_⟩:=h;exact⟨by simpa using hne,Src.of (PV.leaf_sat e hq).1 hk0 (.inr ⟨s,rfl,rfl⟩)⟩
  ·cases h
 ·rename_i g k' es e _;split at h
  ·rename_i hc;subst hc;simp only[za,zd]at h;obtain⟨rfl,rfl,_,rfl⟩:=h;exact⟨by simp,Src.of (PV.leaf_sat e hq).1 hk0 (.inl ho.1)⟩
  ·cases h
 ·rename_i e;simp only[za,zd]at h;obtain⟨rfl,rfl,_,_⟩:=h;have:y=.slice none 0 0:=PV.leaf_sat e hq;subst this;exact⟨by simp,[],Src.empty _⟩
 ·rename_i s si sj k' es e;split at h
  ·rename_i hc;subst hc;simp only[za,zd]at h;obtain⟨rfl,rfl,_,rfl⟩:=h;obtain⟨u0,rfl,hr,_⟩:=PV.leaf_sat e hq;exact⟨by simp,Src.of hr hk0 (.inl ho.1)⟩
  ·cases h
 ·rename_i s si sj k' es e;split at h
  ·rename_i hc;subst hc;simp only[za,zd]at h;obtain⟨rfl,rfl,_,rfl⟩:=h;obtain⟨u0,rfl,hr,_⟩:=PV.leaf_sat e hq;exact⟨by simp,Src.of hr hk0 (.inl ho.1)⟩
  ·cases h
 ·cases h
def apTok(d:Nat)(st:St)(k:Nat)(p:PV):Option (St×Nat×List (List D)):=
 match p.leaf with
 | some (.sl (.own t) k' es)=>if k'=k then some (st,t,es) else none
 | some (.v (.slice none 0 0))=>some (st.newTok d [],d,[])
 | _=>none
def stepAppend(P:Program)(st:St)(d:Nat)(t:TypeId)(x y:Operand)(ans:List Ans):Stepped:=
 match qc0 P t with
 | some (e,k)=>
  match P.info? e,apTok d st k (st.ev x) with
  | some i,some (st1,tk,es)=>
   match i.zero,apSrc tk k (st1.ev y) ans with
   | some z,some (es2,mv,ans',obs)=>
    if z.cells.size=k∧0<k∧tk<giv then
     some (⟨(st1.ap tk mv).env.set d (.one (.sl (.own tk) k (es++es2))),(st1.ap tk mv).boxes⟩,ans',((es.length+es2.length)*i.bytes≤140737488355328)::(es.length+es2.length≤9223372036854775807)::obs)
    else none
   | _,_=>none
  | _,_=>none
 | none=>none
theorem RelAt.stepAppend{P:Program}{w0:Base}{st st':St}{a:Act}{w:World}{ω:Own}{τ:Nat→Nat×Value}{d:Nat}{t ty:TypeId}{x y:Operand}{ans ans':List Ans}{obs:List Prop}
  (hrel:RelAt w0 st a w ω τ) (h:Sx.stepAppend P st d t x y ans=some (st',ans',obs)) (ho:Obs obs):
  ∃z w',(Builtin.append_ #[t,t] ty #[a.eval x,a.eval y]).run P w=.ok z w'∧Rel w0 st' (a.put (some d) z) w':=by
 unfold Sx.stepAppend at h;split at h
 ·rename_i e k he;obtain⟨hu,i0,hi0,hs0⟩:=qeK he;split at h
  ·rename_i i st1 tk es hi htok;rw[hi0]at hi;have hie:=zx hi;subst hie;split at h
   ·rename_i z es2 mv ans2 obs2 hz hsrc;split at h
    ·rename_i hc;simp only[za,zd]at h;obtain⟨rfl,rfl,rfl⟩:=h;obtain⟨o1,o2,o3⟩:=ho;have:∃ω1 τ1,RelAt w0 st1 a w ω1 τ1∧Sat w ω1 τ1 (.sl (.own tk) k es) (a.eval x):=by
      unfold apTok at htok;split at htok
      ·rename_i t' k' es' hl;split at htok
       ·rename_i hkk;subst hkk;simp only[za,zd]at htok;obtain⟨rfl,rfl,rfl⟩:=htok;exact⟨ω,τ,hrel,PV.leaf_sat hl (hrel.ev x)⟩
       ·cases htok
      ·rename_i hl;simp only[za,zd]at htok;obtain⟨rfl,rfl,rfl⟩:=htok;have:a.eval x=.slice none 0 0:=PV.leaf_sat hl (hrel.ev x);rw[this];obtain⟨ω1,h1,h2⟩:=hrel.nilTok d k hc.2.2;exact⟨ω1,_,h1,h2⟩
      ·cases htok
     obtain⟨ω1,τ1,hr1,hx⟩:=this;obtain⟨hmv,news,hs⟩:=qok (P:=P) hc.2.1 (hr1.ev y) hsrc o3;obtain⟨r,w',ω',h1,h2,h3⟩:=hr1.append (P:=P) (ty:=ty) hx hs hmv hu hi0 hz hs0 hc.1 o1 o2 hc.2.2;exact⟨r,w',h1,ω',_,h2.put (p:=.one (.sl (.own tk) k (es++es2))) h3⟩
    ·cases h
   ·cases h
  ·cases h
 ·cases h
