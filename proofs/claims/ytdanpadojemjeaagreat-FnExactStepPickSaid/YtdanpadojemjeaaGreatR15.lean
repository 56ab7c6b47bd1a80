/- Code, loops, and the contract of a function out of a run of its body. -/
import Derived.Test.YtdanpadojemjeaaGreatR14
import Derived.LoopN
set_option linter.unusedVariables false
set_option linter.unusedSimpArgs false
namespace Go.Sx
open Go.RowKit
def Ex.exit':Ex→Exit
 | .normal=>.normal
 | .exit id=>.exit id
 | .ret=>.ret
def Post(w0:Base)(e:Ex)(st:St):Exit→Act→World→Prop:=fun e' a w=>e'=e.exit'∧Rel w0 st a w
def Tr(P:Program)(c:Code)(st:St)(e:Ex)(st':St):Prop:=∀w0 a w,Rel w0 st a w→c.wp P (Post w0 e st') a w
def qam(P:Program)(c:Code)(st:St)(e:Ex)(st':St):Prop:=∃n,∀w0 a w,Rel w0 st a w→Code.rounds P c (Post w0 e st') n a w
theorem qam.last{P:Program}{c:Code}{st st':St}{e:Ex}(he:e.exit'≠.normal)(h:Tr P c st e st'):qam P c st e st':=
 ⟨1,fun w0 a w hr=>Code.wp_mono (fun e' a' w' ⟨h1,h2⟩=>by
  subst h1
  cases e with
  | normal=>exact absurd rfl he
  | exit id=>exact⟨rfl,h2⟩
  | ret=>exact⟨rfl,h2⟩) (h w0 a w hr)⟩
theorem qam.more{P:Program}{c:Code}{st st1 st':St}{e:Ex}(h:Tr P c st .normal st1)(h2:qam P c st1 e st'):qam P c st e st':=by
 obtain⟨n,hn⟩:=h2
 refine⟨n+1,fun w0 a w hr=>Code.wp_mono (fun e' a' w' ⟨h1,h3⟩=>?_) (h w0 a w hr)⟩
 subst h1
 exact hn w0 a' w' h3
def qdB(ks:List Nat):Nat→List PV→List PV
 | _,[]=>[]
 | i,p::r=>(if ks.contains i then p else .und)::qdB ks (i+1) r
theorem qmA(ks:List Nat):∀(l:List PV) (i j:Nat),(qdB ks i l)[j]?=(l[j]?).map fun p=>if ks.contains (i+j) then p else .und
 | [],_,_=>by simp[qdB]
 | p::r,i,0=>by simp[qdB]
 | p::r,i,j+1=>by
  simp only[qdB,zab,qmA ks r (i+1) j]
  rw[show i+1+j=i+(j+1) by omega]
theorem qmB(ks:List Nat):∀(l:List PV) (i:Nat),(qdB ks i l).length=l.length
 | [],_=>rfl
 | p::r,i=>by simp[qdB,qmB ks r]
def qek(bs:List Nat):List (Nat×List Leaf)→List (Nat×List Leaf)
 | []=>[]
 | (i,ls)::r=>if bs.contains i then (i,ls)::qek bs r else qek bs r
theorem qjK(bs:List Nat)(id:Nat):∀(l:List (Nat×List Leaf)) (ls:List Leaf),qao id (qek bs l)=some ls→qao id l=some ls
 | [],_,h=>by cases h
 | (i,l0)::r,ls,h=>by
  simp only[qek]at h
  simp only[qao]
  split at h
  ·simp only[qao]at h
   split at h
   ·rename_i hi;rw[zq hi];exact h
   ·rename_i hi;rw[zo hi];exact qjK bs id r ls h
  ·rename_i hc
   have:=qjK bs id r ls h
   split
   ·rename_i hi
    subst hi
    exfalso
    have hno:∀(r:List (Nat×List Leaf)),qao i (qek bs r)=none:=by
     intro r
     induction r with
     | nil=>rfl
     | cons x r ih=>
      obtain⟨x1,x2⟩:=x
      simp only[qek]
      split
      ·rename_i hx
       simp only[qao]
       rw[zo]
       ·exact ih
       ·intro e;subst e;exact hc hx
      ·exact ih
    rw[hno]at h;cases h
   ·exact this
def openL:Leaf→Leaf
 | .v (.bool b)=>.sb b
 | l=>l
theorem qmC{w:World}{ω:Own}{τ:Nat→Nat×Value}(l:Leaf)(v:Value)(h:Sat w ω τ l v):Sat w ω τ (openL l) v:=by
 unfold openL
 split
 ·exact h
 ·exact h
def St.keep(st:St)(ks bs:List Nat):St:=⟨(qdB ks 0 st.env).map (PV.map openL),(qek bs st.boxes).map fun x=>(x.1,x.2.map openL)⟩
theorem Rel.keep{w0:Base}{st:St}{a:Act}{w:World}(h:Rel w0 st a w)(ks bs:List Nat):Rel w0 (st.keep ks bs) a w:=by
 obtain⟨ω,τ,h⟩:=h
 refine⟨ω,τ,h.defers,by simp[St.keep,qmB,h.size],h.below,h.owned,h.fixed,h.pinned,?_,?_⟩
 ·intro i p hp
  simp only[St.keep]at hp
  rw[zp,zc]at hp
  obtain⟨p0,hp,rfl⟩:=hp
  rw[qmA,zc]at hp
  obtain⟨p1,hp,rfl⟩:=hp
  obtain⟨v,h1,h2⟩:=h.env i p1 hp
  refine⟨v,h1,SatP.map qmC ?_⟩
  split
  ·exact h2
  ·exact trivial
 ·intro id ls hl
  simp only[St.keep]at hl
  rw[qdn,zc]at hl
  obtain⟨ls0,hl,rfl⟩:=hl
  obtain⟨b,arr,ty,h1,h2,h3,h4⟩:=h.boxes id ls0 (qjK bs id _ _ hl)
  exact⟨b,arr,ty,h1,h2,h3,h4.map qmC⟩
def qjL(st:St)(id j t k:Nat):Option St:=
 match qao id (st.newTok t []).boxes with
 | some ls=>
  match ls[j]? with
  | some (.v (.slice none 0 0))=>if t<giv then some ⟨(st.newTok t []).env,qcH id (ls.set j (.sl (.own t) k [])) (st.newTok t []).boxes⟩ else none
  | _=>none
 | none=>none
def qjM(st:St)(id j t:Nat):Option St:=
 match qao id st.boxes with
 | some ls0=>
  match ls0[j]? with
  | some (.sl (.own s0) k' es)=>
   if t<giv then
    let st1:=st.map (Leaf.re (qbu s0 t) fun _=>true)
    match qao id st1.boxes with
    | some ls=>some ⟨st1.env,qcH id (ls.set j (.sl (.own t) k' es)) st1.boxes⟩
    | none=>none
   else none
  | _=>none
 | none=>none
def qel(st:St):List (Nat×Nat×Nat)→Option St
 | []=>some st
 | (s,t,k)::r=>
  if 1000000≤s then
   (match qjM st (s / 1000000-1) (s % 1000000) t with
   | some st1=>some st1
   | none=>qjL st (s / 1000000-1) (s % 1000000) t k).bind fun st1=>qel st1 r else
  match (st.env.getD s .und).leaf with
  | some (.v (.slice none 0 0))=>if t<giv then qel ⟨(st.newTok t []).env.set s (.one (.sl (.own t) k [])),(st.newTok t []).boxes⟩ r else none
  | some (.sl (.own s0) k' es)=>
   if t<giv then qel ⟨(st.map (Leaf.re (qbu s0 t) fun _=>true)).env.set s (.one (.sl (.own t) k' es)),(st.map (Leaf.re (qbu s0 t) fun _=>true)).boxes⟩ r else none
  | _=>none
theorem RelAt.at_slot{w0:Base}{st:St}{a:Act}{w:World}{ω:Own}{τ:Nat→Nat×Value}(h:RelAt w0 st a w ω τ){s:Nat}{l:Leaf}(hl:(st.env.getD s .und).leaf=some l)(hne:l≠.und):∃v,a.tmps[s]?=some v∧Sat w ω τ l v:=by
 rw[zN]at hl
 cases e:st.env[s]? with
 | none=>rw[e]at hl;simp only[Option.getD_none,PV.leaf,za]at hl;exact absurd hl.symm hne
 | some p=>
  rw[e]at hl
  obtain⟨v,h1,h2⟩:=h.env s p e
  exact⟨v,h1,PV.leaf_sat hl h2⟩
theorem qmD{a:Act}{s:Nat}{v:Value}(h:a.tmps[s]?=some v):a.put (some s) v=a:=by
 simp only[Act.put]
 have:a.tmps.setIfInBounds s v=a.tmps:=by
  apply Array.ext
  ·simp
  ·intro i h1 h2
   rw[Array.getElem_setIfInBounds]
   split
   ·rename_i hi
    subst hi
    rw[zB h2]at h
    exact (zx h).symm
   ·rfl
 rw[this]
theorem qrn{w0:Base}{a:Act}{w:World}{st st':St}{id j t k:Nat}(h:qjL st id j t k=some st')(hr:Rel w0 st a w):Rel w0 st' a w:=by
 obtain⟨ω,τ,hr⟩:=hr
 unfold qjL at h
 split at h
 ·rename_i ls hb
  split at h
  ·rename_i hj
   split at h
   ·rename_i htg
    simp only[za]at h
    subst h
    obtain⟨ω',h1,h2⟩:=hr.nilTok t k htg
    refine⟨ω',_,h1.defers,h1.size,h1.below,h1.owned,h1.fixed,h1.pinned,h1.env,fun id' ls' hl=>?_⟩
    by_cases hid:id'=id
    ·subst hid
     rw[qfs hb]at hl
     cases hl
     obtain⟨b,arr,ty,e1,e2,e3,e4⟩:=h1.boxes id' ls hb
     refine⟨b,arr,ty,e1,e2,e3,by rw[e4.1,zn],fun i l hi=>?_⟩
     rw[zaa]at hi
     split at hi
     ·rename_i hij
      subst hij
      split at hi
      ·cases hi
       obtain⟨u,hu1,hu2⟩:=e4.2 j _ hj
       have hu3:u=.slice none 0 0:=hu2
       subst hu3
       exact⟨_,hu1,h2⟩
      ·cases hi
     ·exact e4.2 i l hi
    ·rw[qft hid]at hl
     exact h1.boxes id' ls' hl
   ·cases h
  ·cases h
 ·cases h
theorem qro{w0:Base}{a:Act}{w:World}{st st':St}{id j t:Nat}(h:qjM st id j t=some st')(hr:Rel w0 st a w):Rel w0 st' a w:=by
 obtain⟨ω,τ,hr⟩:=hr
 unfold qjM at h
 split at h
 case h_2=>cases h
 rename_i ls0 hb0
 split at h
 case h_2=>cases h
 rename_i s0 k' es hj
 split at h
 case isFalse=>cases h
 rename_i htg
 simp only at h
 split at h
 case h_2=>cases h
 rename_i ls hb
 simp only[za]at h
 subst h
 obtain⟨b0,arr0,ty0,e01,e02,e03,e04⟩:=hr.boxes id ls0 hb0
 obtain⟨v,hv,hs⟩:=e04.2 j _ hj
 have h1:RelAt w0 (st.map (Leaf.re (qbu s0 t) fun _=>true)) a w (fun b=>qbl s0 t 0 (ω b)) (qaV τ t k' v):=
  hr.turn _ qjg.sat hr.below (fun b hb=>hr.owned b (qjf hb)) (fun id b hb=>⟨qdy.2 hb,rfl⟩) (fun id b hb=>qdy.1 hb)
   (fun t' ht=>by simp only[qaV];rw[zo (by omega)])
 have h2:Sat w (fun b=>qbl s0 t 0 (ω b)) (qaV τ t k' v) (.sl (.own t) k' es) v:=⟨hs.1.frame fun b q _ hq=>⟨by
  simp only[Tag.R]at hq ⊢
  rw[hq]
  cases q with
  | nil=>simp[qbl]
  | cons x q=>obtain⟨i,j⟩:=x;simp[qbl],rfl⟩,by simp[Tag.hdr,qaV]⟩
 refine⟨_,_,h1.defers,h1.size,h1.below,h1.owned,h1.fixed,h1.pinned,h1.env,fun id' ls' hl=>?_⟩
 by_cases hid:id'=id
 ·subst hid
  rw[qfs hb]at hl
  cases hl
  obtain⟨b,arr,ty,e1,e2,e3,e4⟩:=h1.boxes id' ls hb
  refine⟨b,arr,ty,e1,e2,e3,by rw[e4.1,zn],fun i l hi=>?_⟩
  rw[zaa]at hi
  split at hi
  ·rename_i hij
   subst hij
   split at hi
   ·cases hi
    have hbb:b=b0:=by
     have e5:ω b=.box id':=qdy.1 e1
     exact e02 b e5
    subst hbb
    rw[e03]at e3
    cases e3
    exact⟨v,hv,h2⟩
   ·cases hi
  ·exact e4.2 i l hi
 ·rw[qft hid]at hl
  exact h1.boxes id' ls' hl
theorem qhG{w0:Base}{a:Act}{w:World}:∀{ns:List (Nat×Nat×Nat)} {st st':St},qel st ns=some st'→Rel w0 st a w→Rel w0 st' a w
 | [],st,st',h,hr=>by simp only[qel,za]at h;subst h;exact hr
 | (s,t,k)::r,st,st',h,hr=>by
  simp only[qel]at h
  split at h
  ·rw[zag]at h
   obtain⟨st1,h1,h⟩:=h
   refine qhG h ?_
   split at h1
   ·rename_i st2 h2
    cases h1
    exact qro h2 hr
   ·exact qrn h1 hr
  split at h
  ·rename_i hl
   obtain⟨ω,τ,hr⟩:=hr
   obtain⟨v,hv,hs⟩:=hr.at_slot hl (by simp)
   have:v=.slice none 0 0:=hs
   subst this
   split at h
   case isFalse=>cases h
   rename_i htg
   obtain⟨ω',h1,h2⟩:=hr.nilTok t k htg
   have h3:=h1.put (d:=s) (p:=.one (.sl (.own t) k [])) h2
   rw[qmD hv]at h3
   exact qhG h ⟨ω',_,h3⟩
  ·rename_i s0 k' es hl
   obtain⟨ω,τ,hr⟩:=hr
   obtain⟨v,hv,hs⟩:=hr.at_slot hl (by simp)
   split at h
   case isFalse=>cases h
   rename_i htg
   have h1:RelAt w0 (st.map (Leaf.re (qbu s0 t) fun _=>true)) a w (fun b=>qbl s0 t 0 (ω b)) (qaV τ t k' v):=
    hr.turn _ qjg.sat hr.below (fun b hb=>hr.owned b (qjf hb)) (fun id b hb=>⟨qdy.2 hb,rfl⟩) (fun id b hb=>qdy.1 hb)
     (fun t' ht=>by simp only[qaV];rw[zo (by omega)])
   have h3:=h1.put (d:=s) (p:=.one (.sl (.own t) k' es)) (v:=v) ⟨hs.1.frame fun b q _ hq=>⟨by
    simp only[Tag.R]at hq ⊢
    rw[hq]
    cases q with
    | nil=>simp[qbl]
    | cons x q=>obtain⟨i,j⟩:=x;simp[qbl],rfl⟩,by simp[Tag.hdr,qaV]⟩
   rw[qmD hv]at h3
   exact qhG h ⟨_,_,h3⟩
  ·cases h
abbrev Ran:=Option (Ex×St×List Ans×List Prop)
def run(P:Program):Code→St→List Ans→Ran
 | .skip,st,ans=>some (.normal,st,ans,[])
 | .label _,st,ans=>some (.normal,st,ans,[])
 | .region _ ops draw,st,ans=>if draw then (qjJ P ops st ans).map fun r=>(.normal,r.1,r.2.1,r.2.2) else (qeg P ops ops.toList st ans).map fun r=>(.normal,r.1,r.2.1,r.2.2)
 | .seq a b,st,ans=>
  match run P a st ans with
  | some (.normal,st1,ans1,obs1)=>(run P b st1 ans1).map fun r=>(r.1,r.2.1,r.2.2.1,obs1++r.2.2.2)
  | some (e,st1,ans1,obs1)=>some (e,st1,ans1,obs1)
  | none=>none
 | .cond c x y,st,ans=>
  match (st.ev c).leaf,ans with
  | some (.v (.bool true)),ans=>run P x st ans
  | some (.v (.bool false)),ans=>run P y st ans
  | some (.sb c),.br true::r=>(run P x st r).map fun r=>(r.1,r.2.1,r.2.2.1,(c=true)::r.2.2.2)
  | some (.sb c),.br false::r=>(run P y st r).map fun r=>(r.1,r.2.1,r.2.2.1,(c=false)::r.2.2.2)
  | _,_=>none
 | .block id body,st,ans=>
  match run P body st ans with
  | some (.exit i,st1,ans1,obs1)=>some (if i=id then .normal else .exit i,st1,ans1,obs1)
  | r=>r
 | .loop body,st,ans=>
  match ans with
  | .loop nils ks bs e st'::r=>
   match e,qel st nils with
   | .normal,_=>none
   | e,some st1=>some (e,st',r,[qam P body (st1.keep ks bs) e st'])
   | _,none=>none
  | _=>none
 | .exit id,st,ans=>some (.exit id,st,ans,[])
 | .ret,st,ans=>some (.ret,st,ans,[])
 | _,_,_=>none
theorem qci{P:Program}:∀(c:Code) {st st':St} {ans ans':List Ans} {obs:List Prop} {e:Ex},run P c st ans=some (e,st',ans',obs)→Obs obs→Tr P c st e st'
 | .skip,st,st',ans,ans',obs,e,h,ho=>by
  simp only[run,za,ze]at h
  obtain⟨rfl,rfl,_,_⟩:=h
  exact fun w0 a w hr=>wp_skip ⟨rfl,hr⟩
 | .label l,st,st',ans,ans',obs,e,h,ho=>by
  simp only[run,za,ze]at h
  obtain⟨rfl,rfl,_,_⟩:=h
  exact fun w0 a w hr=>wp_label ⟨rfl,hr⟩
 | .region id ops draw,st,st',ans,ans',obs,e,h,ho=>by
  simp only[run]at h
  split at h
  ·rename_i hd
   rw[zc]at h
   obtain⟨⟨r1,r2,r3⟩,h1,h⟩:=h
   simp only[ze]at h
   obtain⟨rfl,rfl,rfl,rfl⟩:=h
   subst hd
   exact fun w0 a w hr=>qrm h1 ho hr fun a' w' h=>⟨rfl,h⟩
  ·rename_i hd
   rw[zc]at h
   obtain⟨⟨r1,r2,r3⟩,h1,h⟩:=h
   simp only[ze]at h
   obtain⟨rfl,rfl,rfl,rfl⟩:=h
   have:draw=false:=by simpa using hd
   subst this
   exact fun w0 a w hr=>wp_region_list (qjw _ h1 ho hr fun a' w' h=>⟨rfl,h⟩)
 | .seq x y,st,st',ans,ans',obs,e,h,ho=>by
  simp only[run]at h
  split at h
  ·rename_i st1 ans1 obs1 h1
   rw[zc]at h
   obtain⟨⟨r1,r2,r3,r4⟩,h2,h⟩:=h
   simp only[ze]at h
   obtain⟨rfl,rfl,rfl,rfl⟩:=h
   obtain⟨o1,o2⟩:=ho.append
   intro w0 a w hr
   refine wp_seq (Code.wp_mono (fun e' a' w' hp=>?_) (qci x h1 o1 w0 a w hr))
   obtain⟨rfl,hr'⟩:=hp
   exact qci y h2 o2 w0 a' w' hr'
  ·rename_i e1 st1 ans1 obs1 hne h1
   simp only[za,ze]at h
   obtain⟨rfl,rfl,rfl,rfl⟩:=h
   intro w0 a w hr
   refine wp_seq (Code.wp_mono (fun e' a' w' hp=>?_) (qci x h1 ho w0 a w hr))
   obtain⟨rfl,hr'⟩:=hp
   cases e1 with
   | normal=>first | exact (hne rfl).elim | exact (hne _ rfl).elim | exact (hne _ _ _ rfl).elim
   | exit i=>exact⟨rfl,hr'⟩
   | ret=>exact⟨rfl,hr'⟩
  ·cases h
 | .cond c x y,st,st',ans,ans',obs,e,h,ho=>by
  intro w0 a w hr
  have hr0:=hr
  obtain⟨ω,τ,hr'⟩:=hr0
  have hsat:=hr'.ev c
  simp only[run]at h
  split at h
  ·rename_i hl
   have:a.eval c=.bool true:=PV.leaf_sat hl hsat
   exact wp_cond_true this (qci x h ho w0 a w hr)
  ·rename_i hl
   have:a.eval c=.bool false:=PV.leaf_sat hl hsat
   exact wp_cond_false this (qci y h ho w0 a w hr)
  ·rename_i c' r hl
   rw[zc]at h
   obtain⟨⟨r1,r2,r3,r4⟩,h2,h⟩:=h
   simp only[ze]at h
   obtain⟨rfl,rfl,rfl,rfl⟩:=h
   have:a.eval c=.bool c':=PV.leaf_sat hl hsat
   have hc:c'=true:=ho.1
   exact wp_cond_true (by rw[this,hc]) (qci x h2 ho.2 w0 a w hr)
  ·rename_i c' r hl
   rw[zc]at h
   obtain⟨⟨r1,r2,r3,r4⟩,h2,h⟩:=h
   simp only[ze]at h
   obtain⟨rfl,rfl,rfl,rfl⟩:=h
   have:a.eval c=.bool c':=PV.leaf_sat hl hsat
   have hc:c'=false:=ho.1
   exact wp_cond_false (by rw[this,hc]) (qci y h2 ho.2 w0 a w hr)
  ·cases h
 | .block id body,st,st',ans,ans',obs,e,h,ho=>by
  intro w0 a w hr
  simp only[run]at h
  split at h
  ·rename_i i st1 ans1 obs1 h1
   simp only[za,ze]at h
   obtain⟨rfl,rfl,rfl,rfl⟩:=h
   refine wp_block (Code.wp_mono (fun e' a' w' hp=>?_) (qci body h1 ho w0 a w hr))
   obtain⟨rfl,hr'⟩:=hp
   simp only[Ex.exit',Exit.inBlock]
   split
   ·exact⟨rfl,hr'⟩
   ·exact⟨rfl,hr'⟩
  ·rename_i hne
   refine wp_block (Code.wp_mono (fun e' a' w' hp=>?_) (qci body h ho w0 a w hr))
   obtain⟨rfl,hr'⟩:=hp
   cases e with
   | normal=>exact⟨rfl,hr'⟩
   | exit i=>exact absurd h (hne _ _ _ _)
   | ret=>exact⟨rfl,hr'⟩
 | .loop body,st,st',ans,ans',obs,e,h,ho=>by
  intro w0 a w hr
  simp only[run]at h
  split at h
  ·rename_i nils ks bs e0 st0 r
   split at h
   ·cases h
   ·rename_i e1 st1 hne hn
    simp only[za,ze]at h
    obtain⟨rfl,rfl,rfl,rfl⟩:=h
    obtain⟨n,hl⟩:=ho.1
    exact wp_loop_rounds n (hl w0 a w ((qhG hn hr).keep ks bs))
   ·cases h
  ·cases h
 | .exit id,st,st',ans,ans',obs,e,h,ho=>by
  simp only[run,za,ze]at h
  obtain⟨rfl,rfl,_,_⟩:=h
  exact fun w0 a w hr=>wp_exit ⟨rfl,hr⟩
 | .ret,st,st',ans,ans',obs,e,h,ho=>by
  simp only[run,za,ze]at h
  obtain⟨rfl,rfl,_,_⟩:=h
  exact fun w0 a w hr=>wp_ret ⟨rfl,hr⟩
 | .rangeFunc ..,_,_,_,_,_,_,h,_=>by simp[run]at h
 | .scope _,_,_,_,_,_,_,h,_=>by simp[run]at h
 | .goto _,_,_,_,_,_,_,h,_=>by simp[run]at h
 | .refuse _,_,_,_,_,_,_,h,_=>by simp[run]at h
end Go.Sx
namespace Go.Sx
open Go.RowKit
def Leaf.resD:Leaf→D→Option (D×Option Nat)
 | .v x,hint=>
  match x,hint with
  | .slice none 0 0,.sl k _=>some (.sl k [],none)
  | x,_=>if x.oneCell' then some (.v x,none) else none
 | .sb c,_=>some (.v (.bool c),none)
 | .sl (.own t) k es,_=>some (.sl k es,some t)
 | _,_=>none
abbrev Toks:=List (Nat×Nat)
def Toks.at(t:Nat):Toks→Option Nat
 | []=>none
 | (s,n)::r=>if s=t then some n else Toks.at t r
def qhH(n:Nat):Option Nat→Toks
 | some t=>[(t,n)]
 | none=>[]
def resLs(n:Nat):List Leaf→List D→Option (List D×Toks)
 | [],[]=>some ([],[])
 | l::ls,d::ds=>
  match l.resD d,resLs (n+1) ls ds with
  | some (d',t),some (ds',ts)=>some (d'::ds',qhH n t++ts)
  | _,_=>none
 | _,_=>none
def resA(n:Nat):AL→AD→Option (AD×Toks)
 | .one l,.one d=>(l.resD d).map fun x=>(.one x.1,qhH n x.2)
 | .agg ls,.agg ds=>(resLs n ls ds).map fun x=>(.agg x.1,x.2)
 | _,_=>none
def resPs(r:Nat):List PV→List AD→Option (List AD×Toks)
 | [],[]=>some ([],[])
 | .al a::ps,d::ds=>
  match resA (100*r) a d,resPs (r+1) ps ds with
  | some (d',t),some (ds',ts)=>some (d'::ds',t++ts)
  | _,_=>none
 | _,_=>none
def qhI(ts:Toks):Bool:=ts.all fun x=>match ts.at x.1 with | some n=>n==x.2 | none=>false
theorem qhJ{ts:Toks}(h:qhI ts=true){t n:Nat}(hm:(t,n)∈ts):ts.at t=some n:=by
 have:=zM.1 h _ hm
 simp only at this
 split at this
 ·rename_i n' e
  rw[e]
  simp only[zF]at this
  rw[this]
 ·cases this
def qbe(ω:Own)(ts:Toks):Own:=fun b=>
 match ω b with
 | .tok t q=>match ts.at t with | some n=>.tok n q | none=>.imm
 | _=>.imm
theorem Leaf.resD_ok{w:World}{ω:Own}{τ:Nat→Nat×Value}{l:Leaf}{h d:D}{t:Option Nat}{ts:Toks}{n:Nat}{u:Value}(hd:l.resD h=some (d,t))(hs:Sat w ω τ l u)
  (hts:∀s,t=some s→ts.at s=some n):Rep w (qbe ω ts) (Tag.own n).R d u:=by
 cases l with
 | und=>cases hd
 | v x=>
  have e:u=x:=hs
  subst e
  simp only[Leaf.resD]at hd
  split at hd
  ·simp only[za,ze]at hd
   obtain⟨rfl,_⟩:=hd
   exact .nil _ _ _
  ·split at hd
   ·simp only[za,ze]at hd
    obtain⟨rfl,_⟩:=hd
    exact .v _ _ ‹_›
   ·cases hd
 | sb c=>
  have e:u=.bool c:=hs
  subst e
  simp only[Leaf.resD,za,ze]at hd
  obtain⟨rfl,_⟩:=hd
  exact .v _ _ rfl
 | sl g k es=>
  cases g with
  | free=>cases hd
  | ro s=>cases hd
  | own s=>
   simp only[Leaf.resD,za,ze]at hd
   obtain⟨rfl,rfl⟩:=hd
   refine hs.1.frame fun b q _ hq=>⟨?_,rfl⟩
   simp only[Tag.R]at hq ⊢
   simp only[qbe,hq,hts s rfl]
 | ptr=>cases hd
 | ep=>cases hd
 | rp=>cases hd
 | fd=>cases hd
 | clo=>cases hd
 | sn=>cases hd
 | np=>cases hd
theorem qmE{n:Nat}{t:Option Nat}{s:Nat}(h:t=some s):(s,n)∈qhH n t:=by subst h;simp[qhH]
theorem qjN{w:World}{ω:Own}{τ:Nat→Nat×Value}{ts:Toks}(hts:∀t n,(t,n)∈ts→ts.at t=some n):∀{ls:List Leaf} {hs ds:List D} {n:Nat} {ts':Toks},resLs n ls hs=some (ds,ts')→(∀x∈ts',x∈ts)→
  ds.length=ls.length∧∀(j:Nat) (d:D),ds[j]?=some d→∃l,ls[j]?=some l∧∀u,Sat w ω τ l u→Rep w (qbe ω ts) (Tag.own (n+j)).R d u
 | [],[],ds,n,ts',h,_=>by
  simp only[resLs,za,ze]at h
  obtain⟨rfl,_⟩:=h
  exact⟨rfl,fun j d hd=>by simp at hd⟩
 | l::ls,h0::hs,ds,n,ts',h,hsub=>by
  simp only[resLs]at h
  split at h
  ·rename_i d' t ds' ts2 e1 e2
   simp only[za,ze]at h
   obtain⟨rfl,rfl⟩:=h
   obtain⟨h1,h2⟩:=qjN (w:=w) (ω:=ω) (τ:=τ) hts e2 (fun x hx=>hsub x (zJ _ hx))
   refine⟨by simp[h1],fun j d hd=>?_⟩
   cases j with
   | zero=>
    simp at hd;subst hd
    exact⟨l,rfl,fun u hu=>Leaf.resD_ok e1 hu fun s hs'=>hts s n (hsub _ (zI _ (qmE hs')))⟩
   | succ j=>
    obtain⟨l',h3,h4⟩:=h2 j d (by simpa using hd)
    refine⟨l',by simpa using h3,fun u hu=>?_⟩
    have:=h4 u hu
    rwa[show n+1+j=n+(j+1) by omega]at this
  ·cases h
 | [],_::_,_,_,_,h,_=>by simp[resLs]at h
 | _::_,[],_,_,_,h,_=>by simp[resLs]at h
theorem qrp{w:World}{ω:Own}{τ:Nat→Nat×Value}{ts:Toks}(hts:∀t n,(t,n)∈ts→ts.at t=some n){a:AL}{h d:AD}{r:Nat}{ts':Toks}(hr:resA (100*r) a h=some (d,ts'))(hsub:∀x∈ts',x∈ts)
  {y:Value} (hs:SatA (Sat w ω τ) a y):qca w (qbe ω ts) r d y:=by
 cases a with
 | one l=>
  cases h with
  | agg hs'=>cases hr
  | one h0=>
   simp only[resA,zc]at hr
   obtain⟨⟨d',t⟩,h1,h2⟩:=hr
   simp only[ze]at h2
   obtain⟨rfl,rfl⟩:=h2
   exact Leaf.resD_ok h1 hs fun s hs'=>hts s _ (hsub _ (qmE hs'))
 | agg ls=>
  cases h with
  | one h0=>cases hr
  | agg hs'=>
   simp only[resA,zc]at hr
   obtain⟨⟨ds,t⟩,h1,h2⟩:=hr
   simp only[ze]at h2
   obtain⟨rfl,rfl⟩:=h2
   obtain⟨h3,h4⟩:=qjN (w:=w) (ω:=ω) (τ:=τ) hts h1 hsub
   obtain⟨vs,rfl,hn,hv⟩:=hs
   refine⟨vs,rfl,by omega,fun j dd hd=>?_⟩
   obtain⟨l,hl,hl2⟩:=h4 j dd hd
   obtain⟨u,hu,hu2⟩:=hv j l hl
   exact⟨u,hu,hl2 u hu2⟩
theorem qhK{w:World}{ω:Own}{τ:Nat→Nat×Value}{ts:Toks}(hts:∀t n,(t,n)∈ts→ts.at t=some n):∀{ps:List PV} {hs ds:List AD} {r:Nat} {ts':Toks},resPs r ps hs=some (ds,ts')→(∀x∈ts',x∈ts)→
  ds.length=ps.length∧∀(j:Nat) (d:AD),ds[j]?=some d→∃p,ps[j]?=some p∧∀u,SatP (Sat w ω τ) p u→qca w (qbe ω ts) (r+j) d u
 | [],[],ds,r,ts',h,_=>by
  simp only[resPs,za,ze]at h
  obtain⟨rfl,_⟩:=h
  exact⟨rfl,fun j d hd=>by simp at hd⟩
 | .al a::ps,h0::hs,ds,r,ts',h,hsub=>by
  simp only[resPs]at h
  split at h
  ·rename_i d' t ds' ts2 e1 e2
   simp only[za,ze]at h
   obtain⟨rfl,rfl⟩:=h
   obtain⟨h1,h2⟩:=qhK (w:=w) (ω:=ω) (τ:=τ) hts e2 (fun x hx=>hsub x (zJ _ hx))
   refine⟨by simp[h1],fun j d hd=>?_⟩
   cases j with
   | zero=>
    simp at hd;subst hd
    exact⟨.al a,rfl,fun u hu=>qrp hts e1 (fun x hx=>hsub x (zI _ hx)) hu⟩
   | succ j=>
    obtain⟨l',h3,h4⟩:=h2 j d (by simpa using hd)
    refine⟨l',by simpa using h3,fun u hu=>?_⟩
    have:=h4 u hu
    rwa[show r+1+j=r+(j+1) by omega]at this
  ·cases h
 | [],_::_,_,_,_,h,_=>by simp[resPs]at h
 | .al _::_,[],_,_,_,h,_=>by simp[resPs]at h
 | .tup _::_,_,_,_,_,h,_=>by simp[resPs]at h
def AD.arg:AD→AL
 | .one d=>.one (d.leaf .free)
 | .agg ds=>.agg (ds.map (D.leaf .free))
def qfG(args:List AD)(ntmps:Nat):St:=⟨args.map (fun a=>.al a.arg)++List.replicate (ntmps-args.length) .und,[]⟩
theorem qbJ.leaf{w:World}{τ:Nat→Nat×Value}{d:D}{u:Value}(h:qbJ w d u):Sat w (fun _=>.imm) τ (d.leaf .free) u:=D.leaf_sat (p:=(0,0)) h
theorem qrq{w:World}{args:List AD}{vs:Array Value}(h:qhl w args vs)(ntmps:Nat):
  Rel (Base.of w) (qfG args ntmps) { tmps:=vs++Array.replicate (ntmps-vs.size) undef,defers:=[] } w:=by
 refine⟨fun _=>.imm,fun _=>(0,undef),rfl,by simp[qfG,h.1],Bel.refl _,fun b hb=>absurd rfl hb,fun _ _=>rfl,(fun _ _ _ h=>by cases h),?_,fun id ls hl=>by simp[qfG,qao]at hl⟩
 intro i p hp
 simp only[qfG]at hp
 rw[zT,zb]at hp
 split at hp
 ·rename_i hi
  rw[zp,zc]at hp
  obtain⟨ad,had,rfl⟩:=hp
  obtain⟨v,hv,hok⟩:=h.2 i ad had
  refine⟨v,?_,?_⟩
  ·rw[zK,zq (by rw[h.1];exact hi)];exact hv
  ·cases ad with
   | one d=>exact qbJ.leaf hok
   | agg ds=>
    obtain⟨us,rfl,hn,hu⟩:=hok
    refine⟨us,rfl,by simpa using hn,fun j l hl=>?_⟩
    rw[zp,zc]at hl
    obtain⟨d,hd,rfl⟩:=hl
    obtain⟨u,h1,h2⟩:=hu j d hd
    exact⟨u,h1,qbJ.leaf h2⟩
 ·rename_i hi
  rw[zbn]at hp
  split at hp
  ·rename_i hlt
   simp only[za]at hp
   subst hp
   refine⟨undef,?_,trivial⟩
   rw[zK,zo (by rw[h.1];exact hi),Array.getElem?_replicate,zq (by rw[h.1];exact hlt)]
  ·cases hp
def qcN(P:Program)(st:St):ResultVar→Option PV
 | .tmp t=>some (st.ev (.tmp t))
 | .cell a t=>
  match qd6 P t,P.info? t,(st.ev (.tmp a)).leaf with
  | some agg,some i,some (.ptr id off)=>
   match qao id st.boxes with
   | some ls=>qcT agg i.size ls off
   | none=>none
  | _,_,_=>none
def qgt(tmps:Array Value):ResultVar→Sem Value
 | .tmp t=>pure (tmps.getD t undef)
 | .cell x t=>do loadVar t (←asAddr (tmps.getD x undef))
theorem qjO(fn:Func)(tmps:Array Value):results fn tmps=(do
  let vs ←fn.results.mapM (qgt tmps)
  pure (if h:vs.size=1 then vs[0] else .tuple vs)):=by
 unfold results
 have:(fun x=>match x with | .tmp t=>pure (tmps.getD t undef) | .cell a t=>do loadVar t (←asAddr (tmps.getD a undef)):ResultVar→Sem Value)=qgt tmps:=by
  funext x;cases x<;>rfl
 rw[←this]
 rfl
theorem qrr{P:Program}{w0:Base}{st:St}{a:Act}{w:World}{ω:Own}{τ:Nat→Nat×Value}(hrel:RelAt w0 st a w ω τ){r:ResultVar}{p:PV}(h:qcN P st r=some p):
  ∃z,(qgt a.tmps r).run P w=.ok z w∧SatP (Sat w ω τ) p z:=by
 cases r with
 | tmp t=>
  simp only[qcN,za]at h
  subst h
  exact⟨_,rfl,hrel.ev (.tmp t)⟩
 | cell x t=>
  simp only[qcN]at h
  split at h
  ·rename_i agg i id off e1 e2 e3
   split at h
   ·rename_i ls hbx
    have hx:=PV.leaf_sat e3 (hrel.ev (.tmp x))
    obtain⟨b,hb,hx⟩:=hx
    simp only[Act.eval]at hx
    obtain⟨b',arr,ty,hb',huniq,hheap,hsz,hsat⟩:=hrel.boxes id ls hbx
    have:=huniq b hb
    subst this
    have:=qfr (P:=P) e1 e2 h hheap (base:=0) (by omega) (fun j l hl=>by simpa using hsat j l hl)
    simpa[qgt,hx,asAddr]using this
   ·cases h
  ·cases h
def resOf(P:Program)(st:St)(rv:List ResultVar)(hint:List AD):Option (List AD):=
 match rv.mapM (qcN P st) with
 | some ps=>
  match resPs 0 ps hint with
  | some (ds,ts)=>if qhI ts then some ds else none
  | none=>none
 | none=>none
theorem qhL{P:Program}{w0:Base}{st:St}{a:Act}{w:World}{ω:Own}{τ:Nat→Nat×Value}(hrel:RelAt w0 st a w ω τ):∀{rv:List ResultVar} {ps:List PV},rv.mapM (qcN P st)=some ps→
  ∃zs:List Value,(rv.mapM (qgt a.tmps)).run P w=.ok zs w∧zs.length=ps.length∧∀(i:Nat) (p:PV),ps[i]?=some p→∃z,zs[i]?=some z∧SatP (Sat w ω τ) p z
 | [],ps,h=>by simp at h;subst h;exact⟨[],rfl,rfl,fun i p hp=>by simp at hp⟩
 | r::rv,ps,h=>by
  rw[zch]at h
  cases e:qcN P st r with
  | none=>simp[e]at h
  | some p0=>
   cases e2:rv.mapM (qcN P st) with
   | none=>simp[e,e2]at h
   | some ps0=>
    simp[e,e2]at h
    subst h
    obtain⟨z,h1,h2⟩:=qrr hrel e
    obtain⟨zs,h3,h4,h5⟩:=qhL hrel e2
    refine⟨z::zs,?_,by simp[h4],fun i p hp=>?_⟩
    ·rw[zch,Sem.run_bind,h1,Result.andThen_ok,Sem.run_bind,h3]
     rfl
    ·cases i with
     | zero=>simp at hp;subst hp;exact⟨z,rfl,h2⟩
     | succ i=>exact h5 i p (by simpa using hp)
theorem qmF{P:Program}{f:FuncId}{fn:Func}{c:Code}{args rs:List AD}{ans ans':List Ans}{obs:List Prop}{e:Ex}{st:St}(hf:P.funcs[f]?=some fn)(hb:fn.body=some c)
  (hrun:run P c (qfG args fn.ntmps) ans=some (e,st,ans',obs)) (ho:Obs obs) (he:e=.ret∨e=.normal) (hres:resOf P st fn.results.toList rs=some rs):Ret P f args rs:=by
 intro w vs hargs
 refine calls_of_wp hf hb (Code.wp_mono (fun e' a' w' hp=>?_) (qci c hrun ho (Base.of w) _ w (qrq hargs fn.ntmps)))
 obtain⟨rfl,ω,τ,hrel⟩:=hp
 unfold resOf at hres
 split at hres
 ·rename_i ps hps
  split at hres
  ·rename_i ds ts hds
   split at hres
   ·rename_i hok
    simp only[za]at hres
    subst hres
    obtain⟨zs,h1,h2,h3⟩:=qhL hrel hps
    obtain⟨h4,h5⟩:=qhK (w:=w') (ω:=ω) (τ:=τ) (fun t n h=>qhJ hok h) hds (fun x hx=>hx)
    have hm:=qhc (P:=P) _ fn.results w' _ h1
    have hcell:∀(j:Nat) (d:AD),ds[j]?=some d→∃z,zs[j]?=some z∧qca w' (qbe ω ts) j d z:=by
     intro j d hd
     obtain⟨p,hp,hp2⟩:=h5 j d hd
     obtain⟨z,hz,hz2⟩:=h3 j p hp
     exact⟨z,hz,by have:=hp2 z hz2;rwa[zu]at this⟩
    have hzl:zs.length=ds.length:=by omega
    have hfin:∀v,(if h:zs.toArray.size=1 then zs.toArray[0] else .tuple zs.toArray)=v→ResOk w w' ds v:=by
     intro v hv
     refine⟨qbe ω ts,fun b hb=>?_,fun b hb=>?_,?_⟩
     ·cases hω:ω b with
      | imm=>simp[qbe,hω]
      | box id=>simp[qbe,hω]
      | tok t q=>
       rcases (hrel.owned b (by simp[hω])).1 with h | h
       ·exact absurd hb (by have h:w.heap.size≤b:=h;omega)
       ·exact absurd h (fun h=>h)
     ·cases hω:ω b with
      | imm=>simp[qbe,hω]at hb
      | box id=>simp[qbe,hω]at hb
      | tok t q=>
       refine⟨?_,(hrel.owned b (by simp[hω])).2⟩
       simp only[qbe,hω]at hb ⊢
       cases hts:ts.at t with
       | none=>simp[hts]at hb
       | some n=>exact⟨n,q,rfl⟩
     ·unfold qcd
      split
      ·rename_i ad
       obtain⟨z,hz,hc⟩:=hcell 0 ad rfl
       have h1:zs.length=1:=by rw[hzl];rfl
       have hz0:zs=[z]:=by
        match zs,h1,hz with
        | [z0],_,hz=>simp at hz;rw[hz]
       have hvz:v=z:=by
        rw[←hv]
        simp[hz0]
       rw[hvz]
       exact hc
      ·rename_i hne
       have h1:¬zs.toArray.size=1:=by
        intro h
        simp at h
        rw[hzl]at h
        obtain⟨d,hd⟩:=List.length_eq_one_iff.1 h
        exact hne d hd
       rw[dif_neg h1]at hv
       exact⟨zs.toArray,hv.symm,by simpa using hzl,fun r ad hr=>by obtain⟨z,hz,hc⟩:=hcell r ad hr;exact⟨z,by simpa using hz,hc⟩⟩
    have hR:∃v,(results fn a'.tmps).run P w'=.ok v w'∧∃u,Ending.returned v=.returned u∧Blw w.heap.size w w'∧ResOk w w' ds u:=by
     refine⟨_,?_,_,rfl,hrel.below.below,hfin _ rfl⟩
     rw[qjO,Sem.run_bind,hm]
     rfl
    obtain⟨v,h6,h7⟩:=hR
    rcases he with rfl | rfl
    ·exact⟨hrel.defers,v,h6,h7⟩
    ·exact⟨hrel.defers,v,h6,h7⟩
   ·cases hres
  ·cases hres
 ·cases hres
end Go.Sx
namespace Go.Sx
open Go.RowKit
def outc(P:Program)(c:Code)(ntmps:Nat)(rv:List ResultVar)(args hint:List AD)(ans:List Ans):Option (List AD×List Prop):=
 match run P c (qfG args ntmps) ans with
 | some (.ret,st,_,obs)=>(resOf P st rv hint).map fun rs=>(rs,obs)
 | some (.normal,st,_,obs)=>(resOf P st rv hint).map fun rs=>(rs,obs)
 | _=>none
def qcj(fn:Func):Code:=fn.body.getD .skip
theorem Ret.of{P:Program}{f:FuncId}{fn:Func}{args rs:List AD}(ans:List Ans)(obs:List Prop)(hf:P.funcs[f]?=some fn)(hb:fn.body.isSome=true)
  (h:outc P (qcj fn) fn.ntmps fn.results.toList args rs ans=some (rs,obs)) (ho:Obs obs):Ret P f args rs:=by
 obtain⟨c,hc⟩:=zae.1 hb
 have hcode:qcj fn=c:=by simp[qcj,hc]
 unfold outc at h
 rw[hcode]at h
 split at h
 ·rename_i st a obs' hr
  rw[zc]at h
  obtain⟨rs',h1,h⟩:=h
  simp only[ze]at h
  obtain⟨rfl,rfl⟩:=h
  exact qmF hf hc hr ho (.inl rfl) h1
 ·rename_i st a obs' hr
  rw[zc]at h
  obtain⟨rs',h1,h⟩:=h
  simp only[ze]at h
  obtain⟨rfl,rfl⟩:=h
  exact qmF hf hc hr ho (.inr rfl) h1
 ·cases h
def loopc(P:Program)(body:Code)(st:St)(ans:List Ans)(ks bs:List Nat):Option (Ex×St×List Prop):=
 (run P body st ans).map fun r=>(r.1,r.2.1.keep ks bs,r.2.2.2)
theorem Tr.of_loopc{P:Program}{body:Code}{st st':St}{ans:List Ans}{ks bs:List Nat}{e:Ex}{obs:List Prop}(h:loopc P body st ans ks bs=some (e,st',obs))(ho:Obs obs):Tr P body st e st':=by
 unfold loopc at h
 rw[zc]at h
 obtain⟨⟨r1,r2,r3,r4⟩,h1,h⟩:=h
 simp only[ze]at h
 obtain⟨rfl,rfl,rfl⟩:=h
 intro w0 a w hr
 exact Code.wp_mono (fun e' a' w' ⟨h1,h2⟩=>⟨h1,h2.keep ks bs⟩) (qci body h1 ho w0 a w hr)
theorem qam.step{P:Program}{body:Code}{st st1 st':St}{e:Ex}(ans:List Ans)(ks bs:List Nat)(obs:List Prop)(h:loopc P body st ans ks bs=some (.normal,st1,obs))(ho:Obs obs)(h2:qam P body st1 e st'):qam P body st e st':=
 .more (Tr.of_loopc h ho) h2
theorem qam.done{P:Program}{body:Code}{st st':St}{e:Ex}(ans:List Ans)(ks bs:List Nat)(obs:List Prop)(he:e.exit'≠.normal)(h:loopc P body st ans ks bs=some (e,st',obs))(ho:Obs obs):qam P body st e st':=
 .last he (Tr.of_loopc h ho)
theorem qaf(i:Nat):(Ex.exit i).exit'≠.normal:=fun h=>by cases h
theorem qav:Ex.ret.exit'≠.normal:=fun h=>by cases h
def qdC:Code→List Code
 | .seq a b=>qdC a++qdC b
 | .cond _ a b=>qdC a++qdC b
 | .block _ b=>qdC b
 | .loop b=>b::qdC b
 | .scope b=>qdC b
 | _=>[]
def qaa(fn:Func)(i:Nat):Code:=(qdC (qcj fn)).getD i .skip
def envOf(n:Nat)(l:List (Nat×PV)):List PV:=l.foldl (fun e x=>e.set x.1 x.2) (List.replicate n .und)
abbrev I(n:Int):D:=.v (.int .i64 n)
abbrev B(b:Bool):D:=.v (.bool b)
abbrev Str(s:ByteArray):D:=.v (.string s)
end Go.Sx
