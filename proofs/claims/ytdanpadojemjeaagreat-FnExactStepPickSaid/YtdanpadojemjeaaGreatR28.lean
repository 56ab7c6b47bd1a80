/- Slices that stand in a tree of the call's own: stores into them, and append onto them. -/
import Derived.Test.YtdanpadojemjeaaGreatR26
set_option linter.unusedVariables false
set_option linter.unusedSimpArgs false
namespace Go.Sx
open Go.RowKit
def AL.All(p:Leaf→Prop):AL→Prop
 | .one l=>p l
 | .agg ls=>∀l∈ls,p l
def PV.All(p:Leaf→Prop):PV→Prop
 | .al a=>a.All p
 | .tup as=>∀a∈as,a.All p
theorem SatL.map'{S S':Leaf→Value→Prop}{p:Leaf→Prop}{f:Leaf→Leaf}(h:∀l v,p l→S l v→S' (f l) v){ls:List Leaf}{vs:Array Value}(ha:∀l∈ls,p l)(hs:SatL S ls vs):SatL S' (ls.map f) vs:=by
 refine⟨by simpa using hs.1,fun i l hl=>?_⟩
 rw[zp,zc]at hl
 obtain⟨l0,h0,rfl⟩:=hl
 obtain⟨u,h1,h2⟩:=hs.2 i l0 h0
 exact⟨u,h1,h _ _ (ha l0 (zw h0)) h2⟩
theorem SatA.map'{S S':Leaf→Value→Prop}{p:Leaf→Prop}{f:Leaf→Leaf}(h:∀l v,p l→S l v→S' (f l) v):∀{a:AL} {y:Value},a.All p→SatA S a y→SatA S' (a.map f) y
 | .one l,y,ha,hs=>h _ _ ha hs
 | .agg ls,y,ha,⟨vs,e,hs⟩=>⟨vs,e,hs.map' h ha⟩
theorem SatP.map'{S S':Leaf→Value→Prop}{p:Leaf→Prop}{f:Leaf→Leaf}(h:∀l v,p l→S l v→S' (f l) v):∀{q:PV} {y:Value},q.All p→SatP S q y→SatP S' (q.map f) y
 | .al a,y,ha,hs=>show SatA S' (a.map f) y from SatA.map' h ha (show SatA S a y from hs)
 | .tup as,y,ha,⟨vs,e,hn,hs⟩=>⟨vs,e,by simpa using hn,fun i a hi=>by
   rw[zp,zc]at hi
   obtain⟨a0,h0,rfl⟩:=hi
   obtain⟨u,h1,h2⟩:=hs i a0 h0
   exact⟨u,h1,SatA.map' h (ha a0 (zw h0)) h2⟩⟩
theorem RelAt.turnOn{w0:Base}{st:St}{a:Act}{w w':World}{ω ω':Own}{τ τ':Nat→Nat×Value}{p:Leaf→Prop}(h:RelAt w0 st a w ω τ)(f:Leaf→Leaf)
  (hsat:∀l v,p l→Sat w ω τ l v→Sat w' ω' τ' (f l) v) (he:∀q∈st.env,q.All p) (hb:∀id ls,qao id st.boxes=some ls→∀l∈ls,p l) (hbelow:Bel w0 w') (howned:Owned w0 w' ω')
  (hbox:∀id b,ω b=.box id→ω' b=.box id∧w'.heap[b]?=w.heap[b]?) (hboxU:∀id b,ω' b=.box id→ω b=.box id) (hfix:∀t,giv≤t→τ' t=τ t):RelAt w0 (st.map f) a w' ω' τ' where
 defers:=h.defers
 size:=by simp[St.map,h.size]
 below:=hbelow
 owned:=howned
 fixed:=fun t ht=>(hfix t ht).trans (h.fixed t ht)
 pinned:=fun id b hi hb=>h.pinned id b hi (hboxU id b hb)
 env:=by
  intro i q hq
  simp only[St.map]at hq
  rw[zp,zc]at hq
  obtain⟨q0,h0,rfl⟩:=hq
  obtain⟨v,h1,h2⟩:=h.env i q0 h0
  exact⟨v,h1,SatP.map' hsat (he q0 (zw h0)) h2⟩
 boxes:=by
  intro id ls hl
  simp only[St.map]at hl
  rw[qdn,zc]at hl
  obtain⟨ls0,h0,rfl⟩:=hl
  obtain⟨b,arr,ty,hb1,hu,hh,hs⟩:=h.boxes id ls0 h0
  obtain⟨h1,h2⟩:=hbox id b hb1
  exact⟨b,arr,ty,h1,fun b' hb'=>hu b' (hboxU id b' hb'),h2.trans hh,hs.map' hsat (hb id ls0 h0)⟩
def Leaf.idx(t j:Nat):Leaf→List Nat
 | .sn s a b _ _ _=>if s=t∧b=j then [a] else []
 | _=>[]
def AL.idx(t j:Nat):AL→List Nat
 | .one l=>l.idx t j
 | .agg ls=>ls.flatMap (Leaf.idx t j)
def PV.idx(t j:Nat):PV→List Nat
 | .al a=>a.idx t j
 | .tup as=>as.flatMap (AL.idx t j)
def St.idx(t j:Nat)(st:St):List Nat:=st.env.flatMap (PV.idx t j)++st.boxes.flatMap fun x=>x.2.flatMap (Leaf.idx t j)
def qhu(t i j:Nat)(l:Leaf):Prop:=∀a∈l.idx t j,a=i
theorem ql1{id:Nat}:∀{bs:List (Nat×List Leaf)} {ls:List Leaf},qao id bs=some ls→(id,ls)∈bs
 | [],_,h=>by cases h
 | (i,l)::r,ls,h=>by
  simp only[qao]at h
  split at h
  ·rename_i hi
   subst hi
   rw[zx h]
   exact zl
  ·exact zg _ (ql1 h)
theorem St.idx_env{t i j:Nat}{st:St}(h:∀a∈st.idx t j,a=i):∀q∈st.env,q.All (qhu t i j):=by
 intro q hq
 have h1:∀a∈q.idx t j,a=i:=fun a ha=>h a (zI _ (zao.2 ⟨q,hq,ha⟩))
 have hal:∀x:AL,(∀a∈x.idx t j,a=i)→x.All (qhu t i j):=by
  intro x hx
  cases x with
  | one l=>exact hx
  | agg ls=>exact fun l hl a ha=>hx a (zao.2 ⟨l,hl,ha⟩)
 cases q with
 | al x=>exact hal x h1
 | tup as=>exact fun x hx=>hal x fun a ha=>h1 a (zao.2 ⟨x,hx,ha⟩)
theorem St.idx_box{t i j:Nat}{st:St}(h:∀a∈st.idx t j,a=i){id:Nat}{ls:List Leaf}(hb:qao id st.boxes=some ls):∀l∈ls,qhu t i j l:=by
 intro l hl a ha
 exact h a (zJ _ (zao.2 ⟨(id,ls),ql1 hb,zao.2 ⟨l,hl,ha⟩⟩))
def qaW(t i j k:Nat)(es':List (List D))(kT:Nat)(esT:List (List D)):Leaf→Leaf
 | .sl (.own s) k0 es0=>if s=t then .sl (.own t) kT esT else .sl (.own s) k0 es0
 | .ep (.own s) k0 es0 a b=>if s=t then .ep (.own t) kT esT a b else .ep (.own s) k0 es0 a b
 | .sl (.ro s) k0 es0=>if s=t then .und else .sl (.ro s) k0 es0
 | .ep (.ro s) k0 es0 a b=>if s=t then .und else .ep (.ro s) k0 es0 a b
 | .sn s a b k0 es0 m=>if s=t∧b=j then (if k0=k∧m.home=true then .sn t i j k es' m else .und) else .sn s a b k0 es0 m
 | .np _ _=>.und
 | l=>l
theorem qdt.uniq{w:World}{ω:Own}{τ:Nat→Nat×Value}{t i j:Nat}{u v:Value}(h1:qdt w ω τ t i j u)(h2:qdt w ω τ t i j v):u=v:=by
 obtain⟨kT,b,off,len,cap,arr,ty,fr,a1,a2,a3,a4⟩:=h1
 obtain⟨kT',b',off',len',cap',arr',ty',fr',b1,b2,b3,b4⟩:=h2
 rw[a1]at b1
 simp only[ze,Value.slice.injEq,za,Addr.mk.injEq]at b1
 obtain⟨rfl,⟨rfl,rfl,_⟩,_,_⟩:=b1
 rw[a3]at b3
 simp only[za,Obj.cells.injEq]at b3
 obtain⟨rfl,_,_⟩:=b3
 rw[a4]at b4
 exact zx b4
theorem RelAt.snTurn{w0:Base}{st:St}{a:Act}{w w':World}{ω ω':Own}{τ:Nat→Nat×Value}(h:RelAt w0 st a w ω τ){t i j k kT:Nat}{es' esT:List (List D)}{yT u0:Value}
  (hoth:∀c,c<w.heap.size→ω c≠.tok t [(i,j)]→w'.heap[c]?=w.heap[c]?) (hω:∀c,c<w.heap.size→ω' c=ω c) (hωn:∀c id,¬c<w.heap.size→ω' c≠.box id)
  (hbel:Bel w0 w') (hown:Owned w0 w' ω') (hτ:τ t=(kT,yT)) (hroot:Rep w' ω' (Tag.own t).R (.sl kT esT) yT)
  (hhome:qdt w ω τ t i j u0) (hplace:Rep w' ω' (fun q o=>o=.tok t ((i,j)::q)) (.sl k es') u0) (hidx:∀a∈st.idx t j,a=i):RelAt w0 (st.map (qaW t i j k es' kT esT)) a w' ω' τ:=by
 have fr:∀{R:List (Nat×Nat)→Owner→Prop} {d:D} {v:Value},(∀q,¬R q (.tok t [(i,j)]))→Rep w ω R d v→Rep w' ω' R d v:=by
  intro R d v hn hr
  refine hr.frame fun b q hlt hq=>?_
  rw[hω b hlt]
  exact⟨hq,hoth b hlt fun e=>hn q (by rw[←e];exact hq)⟩
 have home:∀{s a b:Nat} {u:Value},qdt w ω τ s a b u→qdt w' ω' τ s a b u:=by
  rintro s a b u ⟨kT,c,off,len,cap,arr,ty,fr,a1,a2,a3,a4⟩
  have hlt:c<w.heap.size:=(zz.1 a3).1
  exact⟨kT,c,off,len,cap,arr,ty,fr,a1,by rw[hω c hlt];exact a2,(hoth c hlt (by rw[a2];simp)).trans a3,a4⟩
 refine h.turnOn (p:=qhu t i j) _ ?_ (St.idx_env hidx) (fun id ls hb=>St.idx_box hidx hb) hbel hown (fun id b hb=>?_) (fun id b hb=>?_) (fun _ _=>rfl)
 ·intro l v hg hs
  cases l with
  | und=>exact trivial
  | v x=>exact hs
  | sb c=>exact hs
  | ptr id o=>
   obtain⟨c,hc,e⟩:=hs
   exact⟨c,by rw[hω c (h.owned.lt (by simp[hc]))];exact hc,e⟩
  | clo f ids=>
   obtain⟨bs,e,hn,hi⟩:=hs
   refine⟨bs,e,hn,fun x id hid=>?_⟩
   obtain⟨b,h1,h2⟩:=hi x id hid
   exact⟨b,h1,by rw[hω b (h.owned.lt (by simp[h2]))];exact h2⟩
  | rp ds o=>
   obtain⟨c,e,hr⟩:=hs
   exact⟨c,e,fr (fun q hq=>by cases hq) hr⟩
  | fd d=>exact fr (R:=Tag.free.R) (fun q hq=>by cases hq) hs
  | np=>exact trivial
  | sl g k0 es0=>
   cases g with
   | free=>exact⟨fr (R:=Tag.free.R) (fun q hq=>by cases hq) hs.1,trivial⟩
   | own s=>
    simp only[qaW]
    split
    ·rename_i e
     subst e
     have h2:=hs.2
     simp only[Tag.hdr]at h2
     rw[hτ]at h2
     simp only[ze]at h2
     rw[←h2.2]
     exact⟨hroot,hτ⟩
    ·rename_i hne
     exact⟨fr (R:=(Tag.own s).R) (fun q hq=>by simp only[Tag.R,Owner.tok.injEq]at hq;exact hne hq.1.symm) hs.1,hs.2⟩
   | ro s=>
    simp only[qaW]
    split
    ·exact trivial
    ·rename_i hne
     refine⟨fr (R:=(Tag.ro s).R) (fun q hq=>?_) hs.1,trivial⟩
     rcases hq with hq | ⟨q',hq⟩
     ·cases hq
     ·simp only[Owner.tok.injEq]at hq;exact hne hq.1.symm
  | ep g k0 es0 x y=>
   obtain⟨b2,off2,cap2,e,hi2,hr2,hh2⟩:=hs
   cases g with
   | free=>exact⟨b2,off2,cap2,e,hi2,fr (R:=Tag.free.R) (fun q hq=>by cases hq) hr2,trivial⟩
   | own s=>
    simp only[qaW]
    split
    ·rename_i e1
     subst e1
     simp only[Tag.hdr]at hh2
     rw[hτ]at hh2
     simp only[ze]at hh2
     obtain⟨rfl,rfl⟩:=hh2
     have hl:esT.length=es0.length:=by
      obtain⟨_,_,e2⟩:=hroot.len
      simp only[Value.slice.injEq]at e2
      exact e2.2.1.symm
     refine⟨b2,off2,cap2,e,by omega,?_,?_⟩
     ·rw[hl];exact hroot
     ·rw[hl];exact hτ
    ·rename_i hne
     exact⟨b2,off2,cap2,e,hi2,fr (R:=(Tag.own s).R) (fun q hq=>by simp only[Tag.R,Owner.tok.injEq]at hq;exact hne hq.1.symm) hr2,hh2⟩
   | ro s=>
    simp only[qaW]
    split
    ·exact trivial
    ·rename_i hne
     refine⟨b2,off2,cap2,e,hi2,fr (R:=(Tag.ro s).R) (fun q hq=>?_) hr2,trivial⟩
     rcases hq with hq | ⟨q',hq⟩
     ·cases hq
     ·simp only[Owner.tok.injEq]at hq;exact hne hq.1.symm
  | sn s x y k0 es0 m=>
   simp only[qaW]
   obtain⟨u,hu,hr,hm⟩:=hs
   split
   ·rename_i hc
    obtain⟨rfl,rfl⟩:=hc
    have hx:x=i:=hg x (by simp[Leaf.idx])
    subst hx
    split
    ·rename_i hc
     obtain⟨rfl,hmh⟩:=hc
     have e:=(hm hmh).uniq hhome
     subst e
     have hl:es'.length=es0.length:=by
      obtain⟨_,_,e1⟩:=hplace.len
      obtain⟨_,_,e2⟩:=hr.len
      rw[e1]at e2
      simp only[Value.slice.injEq]at e2
      omega
     exact⟨u,by rw[hl];exact hu,hplace,fun _=>home hhome⟩
    ·exact trivial
   ·rename_i hc
    refine⟨u,hu,fr (fun q hq=>?_) hr,fun hh=>home (hm hh)⟩
    simp only[Owner.tok.injEq,zbq,ze]at hq
    exact hc ⟨hq.1.symm,hq.2.1.2.symm⟩
 ·have hlt:=h.owned.lt (b:=b) (by simp[hb])
  exact⟨by rw[hω b hlt];exact hb,hoth b hlt (by rw[hb];simp)⟩
 ·by_cases hlt:b<w.heap.size
  ·rw[hω b hlt]at hb;exact hb
  ·exact absurd hb (hωn b id hlt)
def rootL(t:Nat):Leaf→Option (Nat×List (List D))
 | .sl (.own s) k es=>if s=t then some (k,es) else none
 | _=>none
def qdz(t:Nat):List PV→Option (Nat×List (List D))
 | []=>none
 | .al (.one l)::r=>match rootL t l with | some x=>some x | none=>qdz t r
 | .al (.agg ls)::r=>match ls.findSome? (rootL t) with | some x=>some x | none=>qdz t r
 | _::r=>qdz t r
def qhv(t:Nat)(st:St):Option (Nat×List (List D)):=
 match qdz t st.env with
 | some x=>some x
 | none=>(st.boxes.find? fun x=>(x.2.findSome? (rootL t)).isSome).bind fun x=>(qao x.1 st.boxes).bind fun ls=>ls.findSome? (rootL t)
theorem qjh{w:World}{ω:Own}{τ:Nat→Nat×Value}{t kT:Nat}{esT:List (List D)}{l:Leaf}{v:Value}(h:rootL t l=some (kT,esT))(hs:Sat w ω τ l v):Sat w ω τ (.sl (.own t) kT esT) v:=by
 unfold rootL at h
 split at h
 ·split at h
  ·rename_i e
   subst e
   simp only[za,ze]at h
   obtain⟨rfl,rfl⟩:=h
   exact hs
  ·cases h
 ·cases h
theorem ql2{w:World}{ω:Own}{τ:Nat→Nat×Value}{t kT:Nat}{esT:List (List D)}{ls:List Leaf}{vs:Array Value}(h:ls.findSome? (rootL t)=some (kT,esT))(hs:SatL (Sat w ω τ) ls vs):∃v,Sat w ω τ (.sl (.own t) kT esT) v:=by
 obtain⟨l,hl,h2⟩:=List.exists_of_findSome?_eq_some h
 obtain⟨x,hx⟩:=zah.1 hl
 obtain⟨u,_,hu⟩:=hs.2 x l hx
 exact⟨u,qjh h2 hu⟩
theorem qhw{w:World}{ω:Own}{τ:Nat→Nat×Value}{t kT:Nat}{esT:List (List D)}:∀{ps:List PV},qdz t ps=some (kT,esT)→(∀p∈ps,∃v,SatP (Sat w ω τ) p v)→∃v,Sat w ω τ (.sl (.own t) kT esT) v
 | [],h,_=>by cases h
 | p::r,h,hs=>by
  have hr:∀p∈r,∃v,SatP (Sat w ω τ) p v:=fun p hp=>hs p (zg _ hp)
  obtain⟨v,hv⟩:=hs p zl
  cases p with
  | tup as=>exact qhw (by simpa[qdz]using h) hr
  | al x=>
   cases x with
   | one l=>
    simp only[qdz]at h
    split at h
    ·rename_i y e
     simp only[za]at h
     subst h
     exact⟨v,qjh e hv⟩
    ·exact qhw h hr
   | agg ls=>
    simp only[qdz]at h
    split at h
    ·rename_i y e
     simp only[za]at h
     subst h
     obtain⟨vs,_,hv⟩:=hv
     exact ql2 e hv
    ·exact qhw h hr
theorem RelAt.root{w0:Base}{st:St}{a:Act}{w:World}{ω:Own}{τ:Nat→Nat×Value}(h:RelAt w0 st a w ω τ){t kT:Nat}{esT:List (List D)}(e:qhv t st=some (kT,esT)):∃v,Sat w ω τ (.sl (.own t) kT esT) v:=by
 unfold qhv at e
 split at e
 ·rename_i x e1
  simp only[za]at e
  subst e
  refine qhw e1 fun p hp=>?_
  obtain⟨x,hx⟩:=zah.1 hp
  obtain⟨v,_,hv⟩:=h.env x p hx
  exact⟨v,hv⟩
 ·rw[zag]at e
  obtain⟨x,_,e⟩:=e
  rw[zag]at e
  obtain⟨ls,hb,e⟩:=e
  obtain⟨b,arr,ty,_,_,_,hs⟩:=h.boxes x.1 ls hb
  exact ql2 e hs
theorem ql3{w w':World}{ω ω':Own}{τ:Nat→Nat×Value}{t i j k kT:Nat}{es' esT:List (List D)}{dsT:List D}{yT u0:Value}(hs:Sat w ω τ (.sl (.own t) kT esT) yT)
  (hoth:∀c,c<w.heap.size→ω c≠.tok t [(i,j)]→w'.heap[c]?=w.heap[c]?) (hω:∀c,c<w.heap.size→ω' c=ω c)
  (hhome:qdt w ω τ t i j u0) (hplace:Rep w' ω' (fun q o=>o=.tok t ((i,j)::q)) (.sl k es') u0) (hds:esT[i]?=some dsT):Rep w' ω' (Tag.own t).R (.sl kT (esT.set i (dsT.set j (.sl k es')))) yT:=by
 obtain⟨hr,hh⟩:=hs
 simp only[Tag.hdr]at hh
 obtain⟨kT',b0,off0,len0,cap0,arr0,ty0,fr0,a1,a2,a3,a4⟩:=hhome
 rw[hh]at a1
 simp only[ze]at a1
 obtain⟨rfl,rfl⟩:=a1
 have hil:i<esT.length:=(zk.1 hds).1
 have hlen:(esT.set i (dsT.set j (.sl k es'))).length=esT.length:=zn
 generalize hy:Value.slice (some ⟨b0,off0,none⟩) len0 cap0=yy at hr
 cases hr with
 | nil=>simp at hil
 | row R kT esT b off cap arr ty fr us hb hR hc hsz hk hu hd=>
  simp only[Value.slice.injEq,za,Addr.mk.injEq]at hy
  obtain⟨⟨rfl,rfl,_⟩,rfl,rfl⟩:=hy
  rw[hb]at a3
  simp only[za,Obj.cells.injEq]at a3
  obtain⟨rfl,_,_⟩:=a3
  have hblt:b0<w.heap.size:=(zz.1 hb).1
  have hkd:dsT.length=kT:=hk dsT (zw hds)
  have hrow:∀e∈esT.set i (dsT.set j (.sl k es')),e.length=kT:=by
   intro e he
   rcases zbc he with h | rfl
   ·exact hk e h
   ·rw[zn];exact hkd
  have key:∀x y d,qal (esT.set i (dsT.set j (.sl k es'))) x y=some d→arr[off0+x*kT+y]?=some (us x y)∧Rep w' ω' (fun q=>(Tag.own t).R ((x,y)::q)) d (us x y):=by
   intro x y d hdx
   have hxy:=qdo hrow hdx
   rw[hlen]at hxy
   obtain⟨d0,hd0⟩:=qlz hk hxy.1 hxy.2
   have hus:=hu x y d0 hd0
   refine⟨hus,?_⟩
   rw[qi2 hil]at hdx
   by_cases hx:x=i
   ·subst hx
    rw[zq rfl,zaa]at hdx
    by_cases hyj:j=y
    ·subst hyj
     rw[zq rfl,zq (by omega)]at hdx
     rw[←zx hdx]
     rw[a4]at hus
     rw[←zx hus]
     exact hplace
    ·rw[zo hyj]at hdx
     have hcd:qal esT x y=some d:=by simp[qal,hds,hdx]
     refine (hd x y d hcd).frame fun c q hc hq=>?_
     rw[hω c hc]
     refine⟨hq,hoth c hc fun e=>?_⟩
     simp only[Tag.R,e,Owner.tok.injEq,zbq,ze]at hq
     exact hyj hq.2.1.2
   ·rw[zo hx]at hdx
    refine (hd x y d hdx).frame fun c q hc hq=>?_
    rw[hω c hc]
    refine⟨hq,hoth c hc fun e=>?_⟩
    simp only[Tag.R,e,Owner.tok.injEq,zbq,ze]at hq
    exact hx hq.2.1.1.symm
  have hR':ω b0=.tok t []:=hR
  have:=Rep.row (w:=w') (ω:=ω') (Tag.own t).R kT (esT.set i (dsT.set j (.sl k es'))) b0 off0 cap0 arr ty fr us ((hoth b0 hblt (by rw[hR'];simp)).trans hb) (by rw[hω b0 hblt];exact hR') (by omega) hsz hrow
   (fun x y d hd=>(key x y d hd).1) (fun x y d hd=>(key x y d hd).2)
  rw[hlen]at this
  exact this
def qji(P:Program)(st:St)(ty:TypeId)(t i j k:Nat)(es:List (List D))(x y:Nat)(q:PV)(ans:List Ans):Stepped:=
 match q.leaves,P.info? ty,qhv t st,ans with
 | some xs,some inf,some (kT,esT),.el ds::.el dsT::r=>
  match xs.mapM Leaf.toD with
  | some ys=>
   if xs.length=inf.size∧ds.length=k∧y+ys.length≤k∧xs.all (fun l=>l.tok.isNone)=true then
    some (st.map (qaW t i j k (es.set x (blitD ds y ys)) kT (esT.set i (dsT.set j (.sl k (es.set x (blitD ds y ys)))))),r,(es[x]?=some ds)::(esT[i]?=some dsT)::(st.idx t j).map fun a=>a=i)
   else none
  | none=>none
 | _,_,_,_=>none
theorem qq1{l:Leaf}{d:D}(h:l.toD=some d)(ht:l.tok.isNone=true){w:World}{ω:Own}{τ:Nat→Nat×Value}{u:Value}(hs:Sat w ω τ l u):∃z,d=.v z∧u=z∧z.oneCell'=true:=by
 cases l with
 | v z=>
  simp only[Leaf.toD]at h
  split at h
  ·simp only[za]at h;subst h
   have:u=z:=hs
   exact⟨z,rfl,this,‹_›⟩
  ·cases h
 | sb c=>
  simp only[Leaf.toD,za]at h;subst h
  exact⟨_,rfl,hs,rfl⟩
 | sl g k es=>
  cases g with
  | own s=>simp[Leaf.tok]at ht
  | free=>cases h
  | ro s=>cases h
 | und=>cases h
 | ptr=>cases h
 | ep=>cases h
 | rp=>cases h
 | fd=>cases h
 | clo=>cases h
 | sn=>cases h
 | np=>cases h
theorem RelAt.storeSn{P:Program}{w0:Base}{st st':St}{a:Act}{w:World}{ω:Own}{τ:Nat→Nat×Value}{ty:TypeId}{t i j k x y:Nat}{es:List (List D)}{q:PV}{v p:Value}{ans ans':List Ans}{obs:List Prop}
  (hrel:RelAt w0 st a w ω τ) (hp:Sat w ω τ (.sn t i j k es (.at_ x y)) p) (hq:SatP (Sat w ω τ) q v) (h:qji P st ty t i j k es x y q ans=some (st',ans',obs)) (ho:Obs obs):
  ∃w',(Instr.storeAt ty p v).run P w=.ok () w'∧Rel w0 st' a w':=by
 unfold qji at h
 split at h
 ·rename_i xs inf kT esT ds dsT r e1 e2 e4
  split at h
  ·rename_i ys e3
   split at h
   ·rename_i hc
    obtain⟨hc1,hc2,hc3,hc4⟩:=hc
    simp only[za,ze]at h
    obtain⟨rfl,_,rfl⟩:=h
    obtain⟨hds,hdsT,hidx⟩:=ho
    have hidx:=qhk hidx
    obtain⟨yT,hroot⟩:=hrel.root e4
    obtain⟨hs,hone⟩:=PV.leaves_sat e1 hq
    obtain⟨hyl,hyg⟩:=qb9 e3
    obtain⟨u0,⟨b,off,cap,rfl,rfl,hil⟩,hr,hm⟩:=hp
    have hhome:=hm rfl
    have hr0:=hr
    cases hr with
    | nil=>simp at hil
    | row R k es b off cap arr tyb fr us hb hR hcap hsz hkk hu hd=>
     have hR':ω b=.tok t [(i,j)]:=hR
     obtain⟨hown1,arr0,ty0,hb0⟩:=hrel.owned b (by rw[hR'];simp)
     rw[hb]at hb0
     simp only[za,Obj.cells.injEq]at hb0
     obtain⟨rfl,rfl,rfl⟩:=hb0
     have hblt:b<w.heap.size:=(zz.1 hb).1
     have hmul:(x+1)*k≤cap*k:=zC _ (by omega)
     rw[zR]at hmul
     have hvs:v.cells.size=xs.length:=hs.1
     have hfit:off+x*k+y+v.cells.toList.length≤arr.size:=by simp;omega
     have hst:=run_storeCells_at P b (off+x*k+y) tyb v.cells.toList 0 arr w hb (by simpa using hfit) hone
     simp only[zbh]at hst
     generalize harr:(arr.toList.take (off+x*k+y)++v.cells.toList++arr.toList.drop (off+x*k+y+v.cells.toList.length)).toArray=arr' at hst
     have hget:∀z:Nat,arr'[z]?=if off+x*k+y≤z∧z<off+x*k+y+xs.length then v.cells[z-(off+x*k+y)]? else arr[z]?:=by
      intro z
      rw[←harr,zX,qgf (by simpa using hfit)]
      simp[hvs]
     have hsz':arr'.size=arr.size:=by rw[←harr];simp;simp at hfit;omega
     have hhs:=setRow_heap w b arr arr' tyb (0,0) hb
     have hoth:∀c,c<w.heap.size→ω c≠.tok t [(i,j)]→(w.setRow b arr').heap[c]?=w.heap[c]?:=fun c _ hc=>setRow_other w b c arr' fun e=>hc (by rw[e];exact hR')
     have hplace:Rep (w.setRow b arr') ω (fun q o=>o=.tok t ((i,j)::q)) (.sl k (es.set x (blitD ds y ys))) (.slice (some ⟨b,off,none⟩) es.length cap):=by
      have hlen:(es.set x (blitD ds y ys)).length=es.length:=zn
      have hkd:ds.length=k:=hc2
      have hlow:∀x' y' d,qal es x' y'=some d→Rep (w.setRow b arr') ω (fun q o=>o=.tok t ((i,j)::(x',y')::q)) d (us x' y'):=by
       intro x' y' d hcd
       refine (hd x' y' d hcd).frame fun c q hc hq'=>⟨hq',hoth c hc fun e=>?_⟩
       rw[e]at hq'
       simp at hq'
      have hcell:∀x' y' d,qal (es.set x (blitD ds y ys)) x' y'=some d→∃u,arr'[off+x'*k+y']?=some u∧Rep (w.setRow b arr') ω (fun q o=>o=.tok t ((i,j)::(x',y')::q)) d u:=by
       intro x' y' d hdx
       rw[qi2 hil]at hdx
       by_cases hx:x'=x
       ·subst hx
        rw[zq rfl,qlC (by omega)]at hdx
        split at hdx
        ·rename_i hy
         obtain⟨l,hl1,hl2⟩:=hyg _ _ hdx
         obtain⟨u,hu1,hu2⟩:=hs.2 _ _ hl1
         obtain⟨z,rfl,rfl,hz⟩:=qq1 hl2 (zM.1 hc4 l (zw hl1)) hu2
         refine⟨u,?_,.v _ _ hz⟩
         rw[hget,zq (by omega),←hu1]
         congr 1;omega
        ·rename_i hy
         have hcd:qal es x' y'=some d:=by simp[qal,hds,hdx]
         refine⟨us x' y',?_,hlow x' y' d hcd⟩
         rw[hget,zo (by omega),hu x' y' d hcd]
       ·rw[zo hx]at hdx
        obtain⟨hxl,hyl'⟩:=qdo hkk hdx
        refine⟨us x' y',?_,hlow x' y' d hdx⟩
        rw[hget,zo ?_,hu x' y' d hdx]
        rcases Nat.lt_or_gt_of_ne hx with h | h
        ·have:(x'+1)*k≤x*k:=zC _ h
         rw[zR]at this;omega
        ·have:(x+1)*k≤x'*k:=zC _ h
         rw[zR]at this;omega
      have hrow2:∀e∈es.set x (blitD ds y ys),e.length=k:=by
       intro e he
       rcases zbc he with h | rfl
       ·exact hkk e h
       ·rw[qlD (by omega)];exact hkd
      have:=Rep.row (w:=w.setRow b arr') (ω:=ω) (fun q o=>o=.tok t ((i,j)::q)) k (es.set x (blitD ds y ys)) b off cap arr' tyb (0,0) (fun x' y'=>arr'.getD (off+x'*k+y') undef) hhs hR' (by omega) (by omega) hrow2
       (fun x y d hd'=>by obtain⟨u,h1,_⟩:=hcell x y d hd';rw[h1];simp[zm,h1])
       (fun x y d hd'=>by obtain⟨u,h1,h2⟩:=hcell x y d hd';have:arr'.getD (off+x*k+y) undef=u:=(by simp[zm,h1]);rw[this];exact h2)
      rw[hlen]at this
      exact this
     refine⟨w.setRow b arr',?_,ω,τ,hrel.snTurn (yT:=yT) hoth (fun _ _=>rfl) (fun c id hc e=>?_) (hrel.below.setRow hown1 arr') ?_ hroot.2 (ql3 hroot hoth (fun _ _=>rfl) hhome hplace hdsT) hhome hplace hidx⟩
     ·simp only[Instr.storeAt,Instr.sureAddr,Sem.run_bind,Sem.run_pure,Result.andThen_ok,storeVar,sizeOf,typeInfo,run_program,e2]
      have hsz2:¬(v.cells.size≠inf.size):=by simp;omega
      rw[zo hsz2]
      exact hst
     ·exact hc (hrel.owned.lt (by rw[e];simp))
     ·intro c hcb
      obtain⟨h3,arr2,ty2,h4⟩:=hrel.owned c hcb
      by_cases hcb':c=b
      ·subst hcb';exact⟨h3,arr',tyb,hhs⟩
      ·exact⟨h3,arr2,ty2,(setRow_other w b c arr' hcb').trans h4⟩
   ·cases h
  ·cases h
 ·cases h
end Go.Sx
namespace Go.Sx
open Go.RowKit
theorem ql4{α:Type}{l:List α}{i:Nat}{a:α}(h:l[i]?=some a):l.set i a=l:=by
 apply List.ext_getElem?
 intro x
 rw[zaa]
 by_cases hx:i=x
 ·subst hx
  have:=(zk.1 h).1
  rw[zq rfl,zq this,h]
 ·rw[zo hx]
def qjj(P:Program)(st:St)(d:Nat)(tys:TypeId)(t i j k:Nat)(es:List (List D))(y:Operand)(ans:List Ans):Stepped:=
 match qcG P tys,qhv t st,ans with
 | some (e,k'),some (kT,esT),.el dsT::ans1=>
  match P.info? e,apSrc t k (st.ev y) ans1 with
  | some inf,some (es2,none,ans2,obs)=>
   match inf.zero with
   | some z=>
    if k'=k∧z.cells.size=k∧0<k then
     some (⟨(st.map (qaW t i j k es kT esT)).env.set d (.one (.sn t i j k (es++es2) .away)),(st.map (qaW t i j k es kT esT)).boxes⟩,ans2,
      ((es.length+es2.length)*inf.bytes≤140737488355328)::(es.length+es2.length≤9223372036854775807)::(esT[i]?=some dsT)::(dsT[j]?=some (.sl k es))::(((st.idx t j).map fun a=>a=i)++obs))
    else none
   | none=>none
  | _,_=>none
 | _,_,_=>none
def appendSnR(P:Program)(tys:TypeId)(t i j k:Nat)(es esT:List (List D))(q:PV)(ans:List Ans):Option (PV×List Ans×List Prop):=
 match qcG P tys,ans with
 | some (e,k'),.el dsT::ans1=>
  match P.info? e,apSrc t k q ans1 with
  | some inf,some (es2,none,ans2,obs)=>
   match inf.zero with
   | some z=>
    if k'=k∧z.cells.size=k∧0<k then
     some (.one (.sn t i j k (es++es2) .away),ans2,
      ((es.length+es2.length)*inf.bytes≤140737488355328)::(es.length+es2.length≤9223372036854775807)::(esT[i]?=some dsT)::(dsT[j]?=some (.sl k es))::obs)
    else none
   | none=>none
  | _,_=>none
 | _,_=>none
theorem RelAt.appendSnR{P:Program}{w0:Base}{st:St}{a:Act}{w:World}{ω:Own}{τ:Nat→Nat×Value}{d:Nat}{tys ty:TypeId}{t i j k kT:Nat}{es esT:List (List D)}{x y:Operand}{p:PV}{ans ans':List Ans}{obs:List Prop}
  (hrel:RelAt w0 st a w ω τ) (hp:Sat w ω τ (.sn t i j k es .here) (a.eval x)) (h:Sx.appendSnR P tys t i j k es esT (st.ev y) ans=some (p,ans',obs)) (ho:Obs obs)
  (hroot:∃v,Sat w ω τ (.sl (.own t) kT esT) v) (hidx:∀a∈st.idx t j,a=i):
  ∃z w',(Builtin.append_ #[tys,tys] ty #[a.eval x,a.eval y]).run P w=.ok z w'∧Rel w0 ⟨(st.map (qaW t i j k es kT esT)).env.set d p,(st.map (qaW t i j k es kT esT)).boxes⟩ (a.put (some d) z) w':=by
 unfold Sx.appendSnR at h
 split at h
 ·rename_i e k' dsT ans1 he
  obtain⟨ht,inf0,hi0,hs0⟩:=qd7 he
  split at h
  ·rename_i inf es2 ans2 obs2 hi hsrc
   rw[hi0]at hi
   have hie:=zx hi
   subst hie
   split at h
   ·rename_i z hz
    split at h
    ·rename_i hc
     obtain⟨rfl,hzk,hk0⟩:=hc
     simp only[za,ze]at h
     obtain⟨rfl,_,rfl⟩:=h
     obtain⟨hb1,hb2,hdsT,hdj,ho5⟩:=ho
     obtain⟨_,news,hsr⟩:=qlB (P:=P) hk0 (hrel.ev y) hsrc ho5
     obtain⟨yT,hroot⟩:=hroot
     obtain⟨u0,hu0,hr,hm⟩:=hp
     have hhome:=hm rfl
     have hu0:a.eval x=u0:=hu0
     rw[hu0]
     generalize a.eval y=y2 at hsr
     have hflat:∀x' y' d,qal es2 x' y'=some d→∃u,news[x'*k'+y']?=some u∧d=.v u∧u.oneCell'=true:=by
      intro x' y' d hd
      obtain⟨u,h1,h2⟩:=hsr.cell x' y' d hd
      rcases h2 with⟨v,rfl,rfl⟩ | ⟨s,hs,_⟩
      ·exact⟨u,h1,rfl,hsr.one u (zw h1)⟩
      ·cases hs
     have fin:∀(w1:World) (ω':Own) (r:Value),(∀c,c<w.heap.size→ω c≠.tok t [(i,j)]→w1.heap[c]?=w.heap[c]?)→(∀c,c<w.heap.size→ω' c=ω c)→(∀c id,¬c<w.heap.size→ω' c≠.box id)→Bel w0 w1→Owned w0 w1 ω'→
       Rep w1 ω' (fun q o=>o=.tok t ((i,j)::q)) (.sl k' es) u0→Rep w1 ω' (fun q o=>o=.tok t ((i,j)::q)) (.sl k' (es++es2)) r→
       Rel w0 ⟨(st.map (qaW t i j k' es kT esT)).env.set d (.one (.sn t i j k' (es++es2) .away)),(st.map (qaW t i j k' es kT esT)).boxes⟩ (a.put (some d) r) w1:=by
      intro w1 ω' r hoth hω hωn hbel hown hplace hres
      have hrt2:=ql3 hroot hoth hω hhome hplace hdsT
      rw[ql4 hdj,ql4 hdsT]at hrt2
      exact⟨ω',τ,(hrel.snTurn hoth hω hωn hbel hown hroot.2 hrt2 hhome hplace hidx).put (p:=.one (.sn t i j k' (es++es2) .away)) ⟨r,rfl,hres,fun hh=>by cases hh⟩⟩
     have hboxn:∀c id,¬c<w.heap.size→ω c≠.box id:=fun c id hc e=>hc (hrel.owned.lt (by rw[e];simp))
     by_cases hm0:es2.length=0
     ·have hes2:es2=[]:=zbu hm0
      subst hes2
      refine⟨u0,w,qlA ht hi0 w ?_ ?_,fin w ω u0 (fun _ _ _=>rfl) (fun _ _=>rfl) hboxn hrel.below hrel.owned hr (by rw[zbe];exact hr)⟩
      ·cases hr with
       | nil _ _ a0=>exact⟨a0,0,0,rfl,zP _⟩
       | row R k es b off cap arr ty fr us hb hR hc hs hk hu hd=>exact⟨some ⟨b,off,none⟩,_,cap,rfl,hc⟩
      ·rcases hsr.shape with⟨⟨a,h⟩,_⟩ | ⟨b,o,c,h,_⟩
       ·exact⟨a,0,h⟩
       ·exact⟨some ⟨b,o,none⟩,c,h⟩
     have hm1:0<es2.length:=by omega
     rcases hsr.shape with⟨_,h⟩ | ⟨sb,so,sc,rfl,hnews⟩
     ·rw[h]at hm1;simp at hm1
     have grown:∀(w1:World) (arr':Array Value) (r:Value) (cap':Nat),Blw w.heap.size w w1→w1.heap[w.heap.size]?=some (.cells arr' e (0,0))→r=.slice (some ⟨w.heap.size,0,none⟩) (es.length+es2.length) cap'→
       es.length+es2.length≤cap'→cap'*k'≤arr'.size→(∀i' j' d,qal es i' j'=some d→∃u,arr'[i'*k'+j']?=some u∧Rep w ω (fun q o=>o=.tok t ((i,j)::(i',j')::q)) d u)→
       (∀x u,news[x]?=some u→arr'[es.length*k'+x]?=some u)→(∀e∈es,e.length=k')→
       Rel w0 ⟨(st.map (qaW t i j k' es kT esT)).env.set d (.one (.sn t i j k' (es++es2) .away)),(st.map (qaW t i j k' es kT esT)).boxes⟩ (a.put (some d) r) w1:=by
      intro w1 arr' r cap' hbel hnew hreq hcap hsz hold hnw hrow
      subst hreq
      let ω':Own:=fun c=>if c=w.heap.size then .tok t [(i,j)] else ω c
      have hω:∀c,c<w.heap.size→ω' c=ω c:=fun c hc=>by simp only[ω'];rw[zo (by omega)]
      have hself:ω' w.heap.size=.tok t [(i,j)]:=by simp[ω']
      refine fin w1 ω' _ (fun c hc _=>hbel.block c hc) hω (fun c id hc=>?_) (hrel.below.next hbel) (fun b hb=>?_) (hr.frame fun c q hc hq=>⟨by rw[hω c hc];exact hq,hbel.block c hc⟩) ?_
      ·simp only[ω']
       split
       ·simp
       ·exact hboxn c id hc
      ·by_cases hbn:b=w.heap.size
       ·subst hbn;exact⟨.inl hrel.below.size,arr',e,hnew⟩
       ·simp only[ω']at hb
        rw[zo hbn]at hb
        obtain⟨h3,arr2,ty2,h4⟩:=hrel.owned b hb
        exact⟨h3,arr2,ty2,(hbel.block b (hrel.owned.lt hb)).trans h4⟩
      ·have hcell:∀x j' d,qal (es++es2) x j'=some d→∃u,arr'[x*k'+j']?=some u∧Rep w1 ω' (fun q o=>o=.tok t ((i,j)::(x,j')::q)) d u:=by
        intro x j' d hd
        rw[qgh]at hd
        split at hd
        ·obtain⟨u,h1,h2⟩:=hold x j' d hd
         exact⟨u,h1,h2.frame fun c q hc hq=>⟨by rw[hω c hc];exact hq,hbel.block c hc⟩⟩
        ·rename_i hx
         obtain⟨u,h1,rfl,h2⟩:=hflat _ _ _ hd
         refine⟨u,?_,.v _ _ h2⟩
         rw[←hnw _ u h1]
         congr 1
         have:x=es.length+(x-es.length):=by omega
         rw[this,zR]
         simp only[Nat.add_sub_cancel_left]
         omega
       have hlen:(es++es2).length=es.length+es2.length:=zaf
       have hrow2:∀e∈es++es2,e.length=k':=by
        intro e' he
        rcases zau.1 he with h | h
        ·exact hrow e' h
        ·exact hsr.rows e' h
       have:=Rep.row (w:=w1) (ω:=ω') (fun q o=>o=.tok t ((i,j)::q)) k' (es++es2) w.heap.size 0 cap' arr' e (0,0) (fun x j=>arr'.getD (x*k'+j) undef) hnew hself (by omega) (by omega) hrow2
        (fun x j d hd=>by obtain⟨u,h1,_⟩:=hcell x j d hd;rw[zu,h1];simp[zm,h1])
        (fun x j d hd=>by obtain⟨u,h1,h2⟩:=hcell x j d hd;have:arr'.getD (x*k'+j) undef=u:=(by simp[zm,h1]);rw[this];exact h2)
       rw[hlen]at this
       exact this
     subst hs0
     have hr0:=hr
     cases hr with
     | nil _ _ a0=>
      simp only[zh,zu]at hb1 hb2
      have hrun:(Builtin.append_ #[tys,tys] ty #[.slice a0 0 0,.slice (some ⟨sb,so,none⟩) es2.length sc]).run P w=
        .ok (.slice (some ⟨w.heap.size,0,none⟩) es2.length (grownCap w es2.length 0 e)) (w.drew.alloc (.cells (news.toArray++Builtin.zeroCells z.cells (grownCap w es2.length 0 e-es2.length)) e)):=by
       cases a0 with
       | none=>exact run_append_nil (P:=P) w tys ty e inf0 z ht hi0 hz ⟨sb,so,none⟩ es2.length sc news hsr.len hnews hm1 (by omega) (by omega)
       | some b0=>
        have:=run_append_grow (P:=P) w tys ty e inf0 z ht hi0 hz b0 0 0 [] (by simp) (fun j v hv=>by simp at hv) ⟨sb,so,none⟩ es2.length sc news hsr.len hnews (by omega) (by omega) (growslice_fits (by omega) (by simpa using hb1))
        simpa using this
      have hge:=grownCap_ge w es2.length 0 e
      exact⟨_,_,hrun,grown _ (news.toArray++Builtin.zeroCells z.cells (grownCap w es2.length 0 e-es2.length)) (.slice (some ⟨w.heap.size,0,none⟩) es2.length (grownCap w es2.length 0 e)) (grownCap w es2.length 0 e)
       (((Blw.refl _ _).drew).alloc (zP _) _) (qb7 _ _) (by simp) (by simpa using hge) (by
        simp only[zba,zZ,size_zeroCells,hsr.len,hzk,←zR]
        exact zC _ (by omega))
       (fun i' j d hd=>by simp[qal]at hd) (fun x u hx=>by
        simp only[zh,Nat.zero_mul,zu]
        rw[zK,zq (by have:=(zk.1 hx).1;simpa using this)]
        simpa using hx) (fun e he=>by cases he)⟩
     | row R k es b off cap arr tyb fr us hb hR hc hs hkk hu hd=>
      have hR':ω b=.tok t [(i,j)]:=hR
      obtain⟨hown1,arr0,ty0,hb0⟩:=hrel.owned b (by rw[hR'];simp)
      rw[hb]at hb0
      simp only[za,Obj.cells.injEq]at hb0
      obtain⟨rfl,rfl,rfl⟩:=hb0
      have hblt:b<w.heap.size:=(zz.1 hb).1
      by_cases hroom:es.length+es2.length≤cap
      ·have hmul:(es.length+es2.length)*inf0.size≤cap*inf0.size:=zC _ hroom
       rw[zR]at hmul
       have hnl:=hsr.len
       have hfit:off+es.length*inf0.size+news.length≤arr.size:=by omega
       have hrun:=qhi (P:=P) (ty:=ty) ht hi0 w b off es.length cap arr tyb hb ⟨sb,so,none⟩ es2.length sc news hsr.len hnews hsr.one hroom hfit
       generalize harr:(arr.toList.take (off+es.length*inf0.size)++news++arr.toList.drop (off+es.length*inf0.size+news.length)).toArray=arr' at hrun
       have hget:∀x:Nat,arr'[x]?=if off+es.length*inf0.size≤x∧x<off+es.length*inf0.size+news.length then news[x-(off+es.length*inf0.size)]? else arr[x]?:=by
        intro x
        rw[←harr,zX,qgf (by simpa using hfit)]
        simp
       have hsz':arr'.size=arr.size:=by rw[←harr];simp;omega
       have hhs:=setRow_heap w b arr arr' tyb (0,0) hb
       have hoth:∀c,c<w.heap.size→ω c≠.tok t [(i,j)]→(w.setRow b arr').heap[c]?=w.heap[c]?:=fun c _ hc=>setRow_other w b c arr' fun e=>hc (by rw[e];exact hR')
       have hlow:∀x' y' d u,Rep w ω (fun q o=>o=.tok t ((i,j)::(x',y')::q)) d u→Rep (w.setRow b arr') ω (fun q o=>o=.tok t ((i,j)::(x',y')::q)) d u:=by
        intro x' y' d u hcd
        refine hcd.frame fun c q hc hq'=>⟨hq',hoth c hc fun e=>?_⟩
        rw[e]at hq'
        simp at hq'
       refine⟨_,_,hrun,fin (w.setRow b arr') ω _ hoth (fun _ _=>rfl) hboxn (hrel.below.setRow hown1 arr') (fun c hcb=>?_) (Rep.retop hr0 hb hhs hsz' (fun x hx=>by rw[hget,zo (by omega)]) (fun o e ho=>by rw[←e];exact ho) (fun c p q hc hq=>⟨hq,hoth c hc fun e=>by rw[e]at hq;simp at hq⟩)) ?_⟩
       ·obtain⟨h3,arr2,ty2,h4⟩:=hrel.owned c hcb
        by_cases hcb':c=b
        ·subst hcb';exact⟨h3,arr',tyb,hhs⟩
        ·exact⟨h3,arr2,ty2,(setRow_other w b c arr' hcb').trans h4⟩
       ·have hcell:∀x j' d,qal (es++es2) x j'=some d→∃u,arr'[off+x*inf0.size+j']?=some u∧Rep (w.setRow b arr') ω (fun q o=>o=.tok t ((i,j)::(x,j')::q)) d u:=by
         intro x j' d hdx
         rw[qgh]at hdx
         split at hdx
         ·rename_i hx
          have hjk:=(qdo hkk hdx).2
          refine⟨us x j',?_,hlow x j' d _ (hd x j' d hdx)⟩
          have:(x+1)*inf0.size≤es.length*inf0.size:=zC _ hx
          rw[zR]at this
          rw[hget,zo (by omega),hu x j' d hdx]
         ·rename_i hx
          obtain⟨u,h1,rfl,h2⟩:=hflat _ _ _ hdx
          have hxlt:=(zk.1 h1).1
          have hxe:x*inf0.size=es.length*inf0.size+(x-es.length)*inf0.size:=by rw[←zR];congr 1;omega
          refine⟨u,?_,.v _ _ h2⟩
          rw[hget,zq (by omega),←h1]
          congr 1
          omega
        have hlen:(es++es2).length=es.length+es2.length:=zaf
        have hrow2:∀e∈es++es2,e.length=inf0.size:=by
         intro e' he
         rcases zau.1 he with h | h
         ·exact hkk e' h
         ·exact hsr.rows e' h
        have:=Rep.row (w:=w.setRow b arr') (ω:=ω) (fun q o=>o=.tok t ((i,j)::q)) inf0.size (es++es2) b off cap arr' tyb (0,0) (fun x j=>arr'.getD (off+x*inf0.size+j) undef) hhs hR' (by omega) (by omega) hrow2
         (fun x j d hd=>by obtain⟨u,h1,_⟩:=hcell x j d hd;rw[h1];simp[zm,h1])
         (fun x j d hd=>by obtain⟨u,h1,h2⟩:=hcell x j d hd;have:arr'.getD (off+x*inf0.size+j) undef=u:=(by simp[zm,h1]);rw[this];exact h2)
        rw[hlen]at this
        exact this
      ·have hmul:es.length*inf0.size≤cap*inf0.size:=zC _ hc
       have holdl:((arr.toList.drop off).take (es.length*inf0.size)).length=es.length*inf0.size:=by simp;omega
       have hrun:=run_append_grow (P:=P) w tys ty e inf0 z ht hi0 hz ⟨b,off,none⟩ es.length cap ((arr.toList.drop off).take (es.length*inf0.size)) holdl (fun j v hv=>by
        rw[qcF,cell_of_row w b (off+j) arr tyb (0,0) hb]
        rw[zE]at hv
        split at hv
        ·rw[zA]at hv;simpa using hv
        ·cases hv) ⟨sb,so,none⟩ es2.length sc news hsr.len hnews (by omega) (by omega) (growslice_fits (by omega) hb1)
       have hge:=grownCap_ge w (es.length+es2.length) cap e
       exact⟨_,_,hrun,grown _ (((arr.toList.drop off).take (es.length*inf0.size)).toArray++news.toArray++Builtin.zeroCells z.cells (grownCap w (es.length+es2.length) cap e-(es.length+es2.length))) _ (grownCap w (es.length+es2.length) cap e)
        (((Blw.refl _ _).drew).alloc (zP _) _) (qb7 _ _) rfl hge (by
         simp only[zba,zZ,size_zeroCells,hsr.len,hzk,holdl,←zR]
         exact zC _ (by omega))
        (fun i' j d hd'=>by
         obtain⟨hi1,hj1⟩:=qdo hkk hd'
         have:(i'+1)*inf0.size≤es.length*inf0.size:=zC _ hi1
         rw[zR]at this
         refine⟨us i' j,?_,hd i' j d hd'⟩
         rw[zK,zq (by simp only[zba,zZ,holdl];omega),zK,zq (by simp only[zZ,holdl];omega)]
         rw[zX,zE,zq (by omega),zA,←hu i' j d hd']
         simp only[zH]
         congr 1
         omega)
        (fun x u hx=>by
         have hxl:=(zk.1 hx).1
         rw[zK,zq (by simp only[zba,zZ,holdl];omega),zK,zo (by simp only[zZ,holdl];omega)]
         simp only[zZ,holdl,zX]
         rw[←hx]
         congr 1
         omega) hkk⟩
    ·cases h
   ·cases h
  ·cases h
 ·cases h
theorem RelAt.appendSn{P:Program}{w0:Base}{st st':St}{a:Act}{w:World}{ω:Own}{τ:Nat→Nat×Value}{d:Nat}{tys ty:TypeId}{t i j k:Nat}{es:List (List D)}{x y:Operand}{ans ans':List Ans}{obs:List Prop}
  (hrel:RelAt w0 st a w ω τ) (hp:Sat w ω τ (.sn t i j k es .here) (a.eval x)) (h:qjj P st d tys t i j k es y ans=some (st',ans',obs)) (ho:Obs obs):
  ∃z w',(Builtin.append_ #[tys,tys] ty #[a.eval x,a.eval y]).run P w=.ok z w'∧Rel w0 st' (a.put (some d) z) w':=by
 unfold qjj at h
 split at h
 ·rename_i e k' kT esT dsT ans1 he hrt
  split at h
  ·rename_i inf es2 ans2 obs2 hi hsrc
   split at h
   ·rename_i z hz
    split at h
    ·rename_i hc
     simp only[za,ze]at h
     obtain⟨rfl,rfl,rfl⟩:=h
     obtain⟨hb1,hb2,hdsT,hdj,ho5⟩:=ho
     obtain⟨hidx,ho6⟩:=ho5.append
     refine hrel.appendSnR (p:=.one (.sn t i j k (es++es2) .away)) (ans:=.el dsT::ans1) (ans':=ans2) (esT:=esT) (kT:=kT) hp ?_ (obs:=((es.length+es2.length)*inf.bytes≤140737488355328)::(es.length+es2.length≤9223372036854775807)::(esT[i]?=some dsT)::(dsT[j]?=some (.sl k es))::obs2) ⟨hb1,hb2,hdsT,hdj,ho6⟩ (hrel.root hrt) (qhk hidx)
     unfold Sx.appendSnR
     simp only[he,hi,hsrc,hz]
     rw[zq hc]
    ·cases h
   ·cases h
  ·cases h
 ·cases h
end Go.Sx
