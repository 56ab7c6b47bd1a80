import Derived.Test.YtdkobdhckkjmeaaGreatR11
set_option linter.unusedVariables false
set_option linter.unusedSimpArgs false
namespace Go.Sx
open Go.RowKit
def qiR(P:Program)(st:St)(d:Nat)(elem:TypeId)(r:List Ans):Stepped:=
 match P.info? elem with
 | some i=>match i.zero with
  | some z=>if d<giv then some (⟨(st.newTok d []).env.set d (.one (.np d (z.cells.toList.map .v))),(st.newTok d []).boxes⟩,r,[]) else none
  | none=>none
 | none=>none
theorem RelAt.allocNp{P:Program}{w0:Base}{st st':St}{a:Act}{w:World}{ω:Own}{τ:Nat→Nat×Value}{d:Nat}{elem:TypeId}{ans ans':List Ans}{obs:List Prop}(hrel:RelAt w0 st a w ω τ)
  (h:qiR P st d elem ans=some (st',ans',obs)):
  ∃z w',(Instr.alloc elem true (.tuple #[])).run P w=.ok z w'∧Rel w0 st' (a.put (some d) z) w':=by
 unfold qiR at h;split at h
 ·rename_i i hi;split at h
  ·rename_i z hz;split at h
   ·rename_i hd;simp only[za,zd]at h;obtain⟨rfl,_,_⟩:=h;have h1:=hrel.newTok d hd [] (k:=0) (cap:=0) (es:=[]) (arr:=z.cells) (ty:=elem) ((Blw.refl _ _).alloc (zO _) (.cells z.cells elem)) (qcr _ _) (zO _) (by simp) (by simp)
     (by intro i j dd hc;simp[qan]at hc)
    refine⟨.pointer (some ⟨w.heap.size,0,none⟩),w.alloc (.cells z.cells elem),by simp[Instr.alloc,zeroValue,typeInfo,hi,hz,newVar,newRow],_,_,h1.1.put (p:=.one (.np d (z.cells.toList.map .v))) ?_⟩;refine⟨w.heap.size,elem,z.cells,rfl,by simp[qcQ],qcr _ _,by simp,fun j c hc=>?_⟩;rw[zr,zc]at hc;obtain⟨u,hu,rfl⟩:=hc;exact⟨u,by simpa using hu,rfl⟩
   ·cases h
  ·cases h
 ·cases h
def dropT(t:Nat):Tag→Option Tag
 | .free=>some .free
 | .own s=>if s=t then none else some (.own s)
 | .ro s=>if s=t then none else some (.ro s)
theorem qiS{t:Nat}{g g':Tag}{q:List (Nat×Nat)}{o:Owner}(h:dropT t g=some g')(hr:g.R q o):g'=g∧∀q',o≠.tok t q':=by
 cases g with
 | free=>simp only[dropT,za]at h;subst h;simp only[Tag.R]at hr;subst hr;exact⟨rfl,fun q' e=>by cases e⟩
 | own s=>
  simp only[dropT]at h;split at h
  ·cases h
  ·rename_i hs;simp only[za]at h;subst h;simp only[Tag.R]at hr;subst hr;exact⟨rfl,fun q' e=>by simp only[Owner.tok.injEq]at e;exact hs e.1⟩
 | ro s=>
  simp only[dropT]at h;split at h
  ·cases h
  ·rename_i hs;simp only[za]at h;subst h;simp only[Tag.R]at hr;refine⟨rfl,fun q' e=>?_⟩;subst e;rcases hr with hr | ⟨q2,hr⟩
   ·cases hr
   ·simp only[Owner.tok.injEq]at hr;exact hs hr.1.symm
theorem qle{a:Act}{s:Nat}{x:Value}(this:a.tmps[s]?=some x):a.put (some s) x=a:=by
 simp only[Act.put];have:a.tmps.setIfInBounds s x=a.tmps:=by
  apply Array.ext
  ·simp
  ·intro i h1 h2;rw[Array.getElem_setIfInBounds];split
   ·rename_i hi;subst hi;rw[zD h2]at this;exact (zx this).symm
   ·rfl
 rw[this]
def Leaf.nc:Leaf→NC
 | .v x=>.v x
 | .sb c=>.v (.bool c)
 | .sl t k es=>.sl t k es
 | _=>.und
def ncs(p:PV):Option (List NC):=p.leaves.map (·.map Leaf.nc)
theorem Leaf.nc_sat{w:World}{ω:Own}{τ:Nat→Nat×Value}{l:Leaf}{y:Value}(h:Sat w ω τ l y):NCSat w ω τ l.nc y:=by
 cases l<;>first | exact h | exact trivial
def NC.leaf:NC→Leaf
 | .und=>.und
 | .v x=>.v x
 | .sl t k es=>.sl t k es
theorem NC.leaf_sat{w:World}{ω:Own}{τ:Nat→Nat×Value}{c:NC}{y:Value}(h:NCSat w ω τ c y):Sat w ω τ c.leaf y:=by
 cases c<;>exact h
def qiT(P:Program)(st:St)(ty:TypeId)(s:Nat)(q:PV)(ans:List Ans):Stepped:=
 match (st.env.getD s .und).leaf,ncs q,P.info? ty with
 | some (.np t vs),some cs,some i=>
  if cs.length=i.size∧cs.length≤vs.length then
   let st2:=st.map (Leaf.re (dropT t) fun _=>true)
   some (⟨st2.env.set s (.one (.np t ((cs++vs.drop cs.length).map (NC.re (dropT t))))),st2.boxes⟩,ans,[])
  else none
 | _,_,_=>none
theorem RelAt.storeNp{P:Program}{w0:Base}{st st':St}{a:Act}{w:World}{ω:Own}{τ:Nat→Nat×Value}{ty:TypeId}{s:Nat}{q:PV}{v:Value}{ans ans':List Ans}{obs:List Prop}
  (hrel:RelAt w0 st a w ω τ) (hq:SatP (Sat w ω τ) q v) (h:qiT P st ty s q ans=some (st',ans',obs)):
  ∃w',(Instr.storeAt ty (a.eval (.tmp s)) v).run P w=.ok () w'∧Rel w0 st' a w':=by
 unfold qiT at h;split at h
 ·rename_i t vs cs i e1 e2 e3;split at h
  ·rename_i hc;obtain⟨c1,c2⟩:=hc;simp only[za,zd]at h;obtain⟨rfl,_,_⟩:=h;unfold ncs at e2;rw[zc]at e2;obtain⟨ls,e2,rfl⟩:=e2;obtain⟨hls,hone⟩:=PV.leaves_sat e2 hq;have hsz:v.cells.size=ls.length:=hls.1;rw[zb]at c1 c2;have hget:st.env[s]?=some (.one (.np t vs)):=by
    rw[zN]at e1;cases e:st.env[s]? with
    | none=>rw[e]at e1;simp[PV.leaf]at e1
    | some p=>
     rw[e]at e1;simp only[zV]at e1;cases p with
     | tup as=>cases e1
     | al x=>
      cases x with
      | agg ls=>cases e1
      | one l=>simp only[PV.leaf,za]at e1;rw[e1]
   obtain⟨y,hy,hsat⟩:=hrel.env s _ hget;obtain⟨b,tyb,arr,rfl,hb,hhb,hvn,hvs⟩:=hsat;have hev:a.eval (.tmp s)=ptrTo b:=by simp[Act.eval,zl,hy]
   have hst:=run_storeCells_at P b 0 tyb v.cells.toList 0 arr w hhb (by simp;omega) hone;obtain⟨arr',harr⟩:∃arr',arr'=(arr.toList.take (0+0)++v.cells.toList++arr.toList.drop (0+0+v.cells.toList.length)).toArray:=⟨_,rfl⟩
   rw[←harr]at hst;have harr2:arr'=(v.cells.toList++arr.toList.drop v.cells.size).toArray:=by rw[harr];simp
   refine⟨w.setRow b arr',?_,?_⟩
   ·rw[hev];simp only[ptrTo,Instr.storeAt,Instr.sureAddr,Sem.run_bind,Sem.run_pure,Result.andThen_ok,storeVar,sizeOf,typeInfo,run_program,e3];rw[zo (by simp;omega)];exact hst
   ·have hhs:=setRow_heap w b arr arr' tyb (0,0) hhb;have ev:Evolve w ω τ (w.setRow b arr') ω τ (dropT t) (fun _=>true):=by
     refine⟨?_,?_,fun id c _ hc=>hc,rfl,fun _ _=>rfl⟩
     ·intro g g' c q hg _ hq;obtain⟨rfl,hnt⟩:=qiS hg hq;exact⟨hq,setRow_other w b c _ fun e=>hnt [] (by rw[e];exact hb)⟩
     ·intro g g' y hg hy;cases g with
      | free=>simp only[dropT,za]at hg;subst hg;trivial
      | own x=>
       simp only[dropT]at hg;split at hg
       ·cases hg
       ·simp only[za]at hg;subst hg;exact hy
      | ro x=>
       simp only[dropT]at hg;split at hg
       ·cases hg
       ·simp only[za]at hg;subst hg;trivial
    have h1:RelAt w0 (st.map (Leaf.re (dropT t) fun _=>true)) a (w.setRow b arr') ω τ:=by
     refine hrel.turn _ ev.sat (hrel.below.setRow (hrel.owned b (by rw[hb];simp)).1 _) ?_ (fun id c hc=>⟨hc,setRow_other w b c _ fun e=>by rw[e,hb]at hc;cases hc⟩) (fun id c hc=>hc) (fun _ _=>rfl);intro c hc;obtain⟨h1,arr2,ty2,h2⟩:=hrel.owned c hc;by_cases e:c=b
     ·subst e;exact⟨h1,_,tyb,hhs⟩
     ·exact⟨h1,arr2,ty2,(setRow_other w b c _ e).trans h2⟩
    have hcells:arr'.size=(ls.map Leaf.nc++vs.drop (ls.map Leaf.nc).length).length∧∀(j:Nat) (c:NC),(ls.map Leaf.nc++vs.drop (ls.map Leaf.nc).length)[j]?=some c→∃u,arr'[j]?=some u∧NCSat w ω τ c u:=by
     refine⟨by rw[harr2];simp;omega,fun j c hc=>?_⟩;rw[harr2,zY];by_cases hj:j<ls.length
     ·rw[zbg (by simpa using hj),zr,zc]at hc;obtain⟨l,hl,rfl⟩:=hc;obtain⟨u,hu1,hu2⟩:=hls.2 j l hl;exact⟨u,by rw[zbg (by simp;omega)];simpa using hu1,Leaf.nc_sat hu2⟩
     ·rw[zas (by simpa using hj),zb,zA]at hc;obtain⟨u,hu1,hu2⟩:=hvs _ c hc;refine⟨u,?_,hu2⟩;rw[zas (by simp;omega),zA,zH,←hu1]
      congr 1
      simp only[zbx];omega
    have hput:=qiy ev.nc hcells.1 hcells.2;have h2:=h1.put (d:=s) (p:=.one (.np t ((ls.map Leaf.nc++vs.drop (ls.map Leaf.nc).length).map (NC.re (dropT t))))) (v:=ptrTo b) ⟨b,tyb,arr',rfl,hb,hhs,hput⟩;rw[qle hy]at h2;exact⟨ω,τ,h2⟩
  ·cases h
 ·cases h
def npBox(st:St)(d:Nat):Option St:=
 match st.env.getD d .und with
 | .al (.one (.np t vs))=>
  if d<giv then some ⟨(st.env.map (PV.map (Leaf.re (dropT t) (qbB d)))).set d (.one (.ptr d 0)),(d,vs.map fun c=>Leaf.re (dropT t) (qbB d) c.leaf)::(qcN d st.boxes).map fun x=>(x.1,x.2.map (Leaf.re (dropT t) (qbB d)))⟩ else none
 | _=>none
theorem qva{w0:Base}{st st':St}{a:Act}{w:World}{d:Nat}(h:Rel w0 st a w)(hn:npBox st d=some st'):Rel w0 st' a w:=by
 obtain⟨ω,τ,h⟩:=h;unfold npBox at hn;split at hn
 ·rename_i t vs he;split at hn
  case isFalse=>cases hn
  rename_i hdg;simp only[za]at hn;subst hn;have hget:st.env[d]?=some (.one (.np t vs)):=by
   rw[zN]at he;cases e:st.env[d]? with
   | none=>rw[e]at he;cases he
   | some p=>rw[e]at he;simp only[zV]at he;rw[he]
  obtain⟨v,hv1,hv2⟩:=h.env d _ hget;obtain⟨b,ty,arr,rfl,hb,hhb,hvn,hvs⟩:=hv2
  let ω':Own:=fun c=>if c=b then .box d else match ω c with | .box i=>if i=d then .imm else .box i | o=>o
  have hself:ω' b=.box d:=by simp[ω']
  have hother:∀c,c≠b→ω' c=(match ω c with | .box i=>if i=d then .imm else .box i | o=>o):=by
   intro c hc;simp only[ω'];rw[zo hc]
  have ev:Evolve w ω τ w ω' τ (dropT t) (qbB d):=by
   refine⟨?_,?_,?_,rfl,fun _ _=>rfl⟩
   ·intro g g' c q hg _ hq;obtain⟨rfl,hnt⟩:=qiS hg hq;have hcb:c≠b:=fun e=>hnt [] (by rw[e];exact hb)
    refine⟨?_,rfl⟩;rw[hother c hcb];cases g' with
    | free=>simp only[Tag.R]at hq ⊢;rw[hq]
    | own s=>simp only[Tag.R]at hq ⊢;rw[hq]
    | ro s=>
     simp only[Tag.R]at hq ⊢;rcases hq with hq | ⟨q',hq⟩
     ·rw[hq];exact .inl rfl
     ·rw[hq];exact .inr ⟨q',rfl⟩
   ·intro g g' y hg hy;cases g with
    | free=>simp only[dropT,za]at hg;subst hg;trivial
    | own s=>
     simp only[dropT]at hg;split at hg
     ·cases hg
     ·simp only[za]at hg;subst hg;exact hy
    | ro s=>
     simp only[dropT]at hg;split at hg
     ·cases hg
     ·simp only[za]at hg;subst hg;trivial
   ·intro i c hp hc;have hcb:c≠b:=fun e=>by rw[e,hb]at hc;cases hc
    rw[hother c hcb,hc];simp only[qbB,zi]at hp;simp[hp]
  have howned:Owned w0 w ω':=by
   intro c hc;by_cases e:c=b
   ·subst e;exact h.owned c (by rw[hb];simp)
   ·rw[hother c e]at hc;exact h.owned c (fun e'=>by rw[e']at hc;exact hc rfl)
  have key:=h.evolve (bs:=(d,vs.map fun c=>Leaf.re (dropT t) (qbB d) c.leaf)::(qcN d st.boxes).map fun x=>(x.1,x.2.map (Leaf.re (dropT t) (qbB d)))) ev h.below howned ?_ (fun i c hi hc=>by
   by_cases hn:c=b
   ·subst hn;rw[hself]at hc;simp only[Owner.box.injEq]at hc;omega
   ·rw[hother c hn]at hc;cases e:ω c with
    | imm=>simp[e]at hc
    | tok t q=>simp[e]at hc
    | box j=>
     simp only[e]at hc;split at hc
     ·cases hc
     ·exact hc)
  ·have:=key.put (d:=d) (p:=.one (.ptr d 0)) (v:=ptrTo b) ⟨b,hself,rfl⟩;rw[qle hv1]at this;exact⟨ω',τ,this⟩
  ·intro i ls' hl;simp only[qap]at hl;split at hl
   ·rename_i hi;subst hi;have e:=zx hl;subst e;refine⟨b,arr,ty,hself,?_,hhb,by simpa using hvn,fun j l hj=>?_⟩
    ·intro b' hb';by_cases hn:b'=b
     ·exact hn
     ·rw[hother b' hn]at hb';cases e:ω b' with
      | imm=>simp[e]at hb'
      | tok t q=>simp[e]at hb'
      | box j=>
       simp only[e]at hb';split at hb'
       ·cases hb'
       ·rename_i hne;simp only[Owner.box.injEq]at hb';exact absurd hb' hne
    ·rw[zr,zc]at hj;obtain⟨c,hc,rfl⟩:=hj;obtain⟨u,hu1,hu2⟩:=hvs j c hc;exact⟨u,hu1,ev.sat _ _ (NC.leaf_sat hu2)⟩
   ·rename_i hi;rw[qdH,zc]at hl;obtain⟨ls0,h0,rfl⟩:=hl;have hne:i≠d:=fun e=>hi e.symm
    rw[qfT hne]at h0;obtain⟨c,arr',ty',hc,hu,hh,hsat⟩:=h.boxes i ls0 h0;refine⟨c,arr',ty',ev.box i c (by simp[qbB,hne]) hc,?_,hh,hsat.map ev.sat⟩;intro b' hb';by_cases hn:b'=b
    ·subst hn;rw[hself]at hb';simp only[Owner.box.injEq]at hb';exact absurd hb'.symm hne
    ·rw[hother b' hn]at hb';refine hu b' ?_;cases e:ω b' with
     | imm=>simp[e]at hb'
     | tok t q=>simp[e]at hb'
     | box j=>
      simp only[e]at hb';split at hb'
      ·cases hb'
      ·exact hb'
 ·cases hn
def boxNp(st:St)(d:Nat):Option St:=
 match st.env.getD d .und,qap d st.boxes with
 | .al (.one (.ptr d' 0)),some ls=>
  if d'=d∧d<giv then some ⟨(st.env.map (PV.map (Leaf.re (dropT d) (qbB d)))).set d (.one (.np d ((ls.map Leaf.nc).map (NC.re (dropT d))))),(qcN d st.boxes).map fun x=>(x.1,x.2.map (Leaf.re (dropT d) (qbB d)))⟩ else none
 | _,_=>none
theorem qvb{w0:Base}{st st':St}{a:Act}{w:World}{d:Nat}(h:Rel w0 st a w)(hn:boxNp st d=some st'):Rel w0 st' a w:=by
 obtain⟨ω,τ,h⟩:=h;unfold boxNp at hn;split at hn
 ·rename_i d' ls he hbx;split at hn
  case isFalse=>cases hn
  rename_i hdg;obtain⟨rfl,hdg⟩:=hdg;simp only[za]at hn;subst hn;have hget:st.env[d']?=some (.one (.ptr d' 0)):=by
   rw[zN]at he;cases e:st.env[d']? with
   | none=>rw[e]at he;cases he
   | some p=>rw[e]at he;simp only[zV]at he;rw[he]
  obtain⟨v,hv1,hv2⟩:=h.env d' _ hget;obtain⟨b0,hb0,rfl⟩:=hv2;obtain⟨b,arr,ty,hb,hbu,hhb,hls⟩:=h.boxes d' ls hbx;have hbb:b0=b:=hbu b0 hb0;subst hbb
  let ω':Own:=fun c=>if c=b0 then .tok d' [] else match ω c with | .tok s q=>if s=d' then .imm else .tok s q | o=>o
  have hself:ω' b0=.tok d' []:=by simp[ω']
  have hother:∀c,c≠b0→ω' c=(match ω c with | .tok s q=>if s=d' then .imm else .tok s q | o=>o):=by
   intro c hc;simp only[ω'];rw[zo hc]
  have ev:Evolve w ω τ w ω' τ (dropT d') (qbB d'):=by
   refine⟨?_,?_,?_,rfl,fun _ _=>rfl⟩
   ·intro g g' c q hg _ hq;obtain⟨rfl,hnt⟩:=qiS hg hq;have hcb:c≠b0:=fun e=>by
     rw[e,hb]at hq;cases g' with
     | free=>cases hq
     | own s=>cases hq
     | ro s=>
      rcases hq with hq | ⟨q',hq⟩
      ·cases hq
      ·cases hq
    refine⟨?_,rfl⟩;rw[hother c hcb];cases g' with
    | free=>simp only[Tag.R]at hq ⊢;rw[hq]
    | own s=>
     simp only[Tag.R]at hq ⊢;rw[hq];simp only;rw[zo];rintro rfl;exact hnt _ hq
    | ro s=>
     simp only[Tag.R]at hq ⊢;rcases hq with hq | ⟨q',hq⟩
     ·rw[hq];exact .inl rfl
     ·rw[hq];simp only;rw[zo]
      ·exact .inr ⟨q',rfl⟩
      ·rintro rfl;exact hnt _ hq
   ·intro g g' y hg hy;cases g with
    | free=>simp only[dropT,za]at hg;subst hg;trivial
    | own s=>
     simp only[dropT]at hg;split at hg
     ·cases hg
     ·simp only[za]at hg;subst hg;exact hy
    | ro s=>
     simp only[dropT]at hg;split at hg
     ·cases hg
     ·simp only[za]at hg;subst hg;trivial
   ·intro i c hp hc;simp only[qbB,zi]at hp;have hcb:c≠b0:=fun e=>by rw[e,hb]at hc;simp only[Owner.box.injEq]at hc;exact hp hc.symm
    rw[hother c hcb,hc]
  have howned:Owned w0 w ω':=by
   intro c hc;by_cases e:c=b0
   ·subst e;exact h.owned c (by rw[hb];simp)
   ·rw[hother c e]at hc;exact h.owned c (fun e'=>by rw[e']at hc;exact hc rfl)
  have hback:∀i c,ω' c=.box i→ω c=.box i∧c≠b0:=by
   intro i c hc;by_cases hn:c=b0
   ·subst hn;rw[hself]at hc;cases hc
   ·rw[hother c hn]at hc;cases e:ω c with
    | imm=>simp[e]at hc
    | box j=>simp only[e]at hc;exact⟨hc,hn⟩
    | tok t q=>
     simp only[e]at hc;split at hc<;>cases hc
  have key:=h.evolve (bs:=(qcN d' st.boxes).map fun x=>(x.1,x.2.map (Leaf.re (dropT d') (qbB d')))) ev h.below howned ?_ (fun i c _ hc=>(hback i c hc).1)
  ·have:=key.put (d:=d') (p:=.one (.np d' ((ls.map Leaf.nc).map (NC.re (dropT d'))))) (v:=ptrTo b0) ⟨b0,ty,arr,rfl,hself,hhb,qiy ev.nc (by rw[hls.1];simp) (fun j c hc=>by
    rw[zr,zc]at hc;obtain⟨l,hl,rfl⟩:=hc;obtain⟨u,hu1,hu2⟩:=hls.2 j l hl;exact⟨u,hu1,Leaf.nc_sat hu2⟩)⟩
   rw[qle (show a.tmps[d']?=some (ptrTo b0) from hv1)]at this;exact⟨ω',τ,this⟩
  ·intro i ls' hl;rw[qdH,zc]at hl;obtain⟨ls0,h0,rfl⟩:=hl;have hne:i≠d':=fun e=>by rw[e,qkD]at h0;cases h0
   rw[qfT hne]at h0;obtain⟨c,arr',ty',hc,hu,hh,hsat⟩:=h.boxes i ls0 h0;exact⟨c,arr',ty',ev.box i c (by simp[qbB,hne]) hc,fun b' hb'=>hu b' (hback i b' hb').1,hh,hsat.map ev.sat⟩
 ·cases hn
def qhd:List Nat→St→Option St
 | [],st=>some st
 | d::ds,st=>(boxNp st d).bind (qhd ds)
theorem qoG{w0:Base}{a:Act}{w:World}:∀{ds:List Nat} {st st':St},Rel w0 st a w→qhd ds st=some st'→Rel w0 st' a w
 | [],st,st',h,hn=>by simp only[qhd,za]at hn;subst hn;exact h
 | d::ds,st,st',h,hn=>by
  simp only[qhd,zah]at hn;obtain⟨st1,h1,h2⟩:=hn;exact qoG (qvb h h1) h2
def qhe:List Nat→St→Option St
 | [],st=>some st
 | d::ds,st=>(npBox st d).bind (qhe ds)
theorem qoH{w0:Base}{a:Act}{w:World}:∀{ds:List Nat} {st st':St},Rel w0 st a w→qhe ds st=some st'→Rel w0 st' a w
 | [],st,st',h,hn=>by simp only[qhe,za]at hn;subst hn;exact h
 | d::ds,st,st',h,hn=>by
  simp only[qhe,zah]at hn;obtain⟨st1,h1,h2⟩:=hn;exact qoH (qva h h1) h2
def qbK(s n:Nat):Tag→Option Tag
 | .own x=>if x=s then some (.ro n) else if x=n then none else some (.own x)
 | .ro x=>if x=s then some (.ro n) else if x=n then none else some (.ro x)
 | .free=>some .free
def qbC(s n l:Nat):Owner→Owner
 | .tok x q=>if x=s then (match q with | []=>.tok n [] | (i,j)::r=>if i<l then .imm else .tok n ((i-l,j)::r)) else if x=n then .imm else .tok x q
 | o=>o
theorem qlf{s n l:Nat}{o:Owner}(h:qbC s n l o≠.imm):o≠.imm:=by rintro rfl;exact h rfl
theorem qd5{s n l:Nat}{o:Owner}{id:Nat}:qbC s n l o=.box id↔o=.box id:=by
 cases o with
 | imm=>simp[qbC]
 | box i=>simp[qbC]
 | tok x q=>
  simp only[qbC];split
  ·split
   ·simp
   ·split<;>simp
  ·split<;>simp
theorem qoI{s n l:Nat}{q:List (Nat×Nat)}:qbC s n l (.tok s q)=.imm∨∃q',qbC s n l (.tok s q)=.tok n q':=by
 simp only[qbC,zbb];split
 ·exact .inr ⟨_,rfl⟩
 ·split
  ·exact .inl rfl
  ·exact .inr ⟨_,rfl⟩
theorem qlg{w:World}{ω:Own}{τ:Nat→Nat×Value}{s n l k:Nat}{z:Value}(htg:n<giv):Evolve w ω τ w (fun b=>qbC s n l (ω b)) (qa0 τ n k z) (qbK s n) (fun _=>true):=by
 refine⟨?_,?_,?_,rfl,fun t ht=>by simp only[qa0];rw[zo (by omega)]⟩
 ·intro g g' b q hg _ hq;refine⟨?_,rfl⟩;cases g with
  | free=>simp only[qbK,za]at hg;subst hg;simp only[Tag.R]at hq ⊢;rw[hq];rfl
  | own x=>
   simp only[qbK]at hg;simp only[Tag.R]at hq;split at hg
   ·rename_i hs;simp only[za]at hg;subst hg;subst hs;simp only[Tag.R,hq];exact qoI
   ·rename_i hs;split at hg
    ·cases hg
    ·rename_i hn;simp only[za]at hg;subst hg;simp only[Tag.R,hq,qbC,zo hs,zo hn]
  | ro x=>
   simp only[qbK]at hg;simp only[Tag.R]at hq;split at hg
   ·rename_i hs;simp only[za]at hg;subst hg;subst hs;rcases hq with hq | ⟨q',hq⟩
    ·rw[hq];exact .inl rfl
    ·rw[hq];exact qoI
   ·rename_i hs;split at hg
    ·cases hg
    ·rename_i hn;simp only[za]at hg;subst hg;rcases hq with hq | ⟨q',hq⟩
     ·rw[hq];exact .inl rfl
     ·rw[hq];simp only[qbC,zo hs,zo hn];exact .inr ⟨q',rfl⟩
 ·intro g g' y hg hy;cases g with
  | free=>simp only[qbK,za]at hg;subst hg;trivial
  | own x=>
   simp only[qbK]at hg;split at hg
   ·simp only[za]at hg;subst hg;trivial
   ·rename_i hs;split at hg
    ·cases hg
    ·rename_i hn;simp only[za]at hg;subst hg;simp only[Tag.hdr,qa0,zo hn]at hy ⊢;exact hy
  | ro x=>
   simp only[qbK]at hg;split at hg
   ·simp only[za]at hg;subst hg;trivial
   ·split at hg
    ·cases hg
    ·simp only[za]at hg;subst hg;trivial
 ·intro id b _ hb;exact qd5.2 hb
def qcD(s d:Nat):Nat:=if s<giv then s else d
def stepCut(P:Program)(st:St)(d:Nat)(t:TypeId)(p:PV)(lo hi mx:Option Operand)(ans:List Ans):Stepped:=
 match qc0 P t,p.leaf,mx with
 | some (_,k),some (.sl (.own s) k' es),none=>
  if k=k'∧qcD s d<giv then
   match qb3 st lo,qb3 st hi with
   | some l,some h=>
    let st2:=st.map (Leaf.re (qbK s (qcD s d)) fun _=>true)
    some (⟨st2.env.set d (.one (.sl (.own (qcD s d)) k ((es.drop (l.getD 0).toNat).take ((h.getD es.length).toNat-(l.getD 0).toNat)))),st2.boxes⟩,ans,[0≤l.getD 0,l.getD 0≤h.getD es.length,h.getD es.length≤es.length])
   | _,_=>none
  else none
 | _,_,_=>none
theorem RelAt.stepCut{P:Program}{w0:Base}{w:World}{a:Act}{st st':St}{ω:Own}{τ:Nat→Nat×Value}{d:Nat}{t:TypeId}{p:PV}{v:Value}{lo hi mx:Option Operand}{ans ans':List Ans}{obs:List Prop}
  (hrel:RelAt w0 st a w ω τ) (hp:SatP (Sat w ω τ) p v) (h:stepCut P st d t p lo hi mx ans=some (st',ans',obs)) (ho:Obs obs):
  ∃z,(Instr.sliceAt t v (lo.map a.eval) (hi.map a.eval) (mx.map a.eval)).run P w=.ok z w∧Rel w0 st' (a.put (some d) z) w:=by
 unfold Go.Sx.stepCut at h;split at h
 ·rename_i e k s k' es e1 e2;split at h
  ·rename_i hk;obtain⟨rfl,hs⟩:=hk;split at h
   ·rename_i l hh e3 e4;simp only[za,zd]at h;obtain⟨rfl,_,rfl⟩:=h;obtain⟨hu,i,hi',hz⟩:=qeK e1;obtain⟨hr,_⟩:=PV.leaf_sat e2 hp;obtain⟨o1,o2,o3,_⟩:=ho;have h3:=qg3 hrel e3;have h4:=qg3 hrel e4;have hl':(lo.map a.eval=none∧l.getD 0=0)∨∃k,lo.map a.eval=some (.int k (l.getD 0)):=by
     rcases h3 with⟨h,rfl⟩ | ⟨k,n,h,rfl⟩
     ·exact .inl ⟨h,rfl⟩
     ·exact .inr ⟨k,h⟩
    have hh':(hi.map a.eval=none∧hh.getD es.length=es.length)∨∃k,hi.map a.eval=some (.int k (hh.getD es.length)):=by
     rcases h4 with⟨h,rfl⟩ | ⟨k,n,h,rfl⟩
     ·exact .inl ⟨h,rfl⟩
     ·exact .inr ⟨k,h⟩
    have key:∀(L m:Nat) (z:Value),L≤m→Rep w (fun b=>qbC s (qcD s d) L (ω b)) (Tag.own (qcD s d)).R (.sl k ((es.drop L).take (m-L))) z→
      Rel w0 ⟨(st.map (Leaf.re (qbK s (qcD s d)) fun _=>true)).env.set d (.one (.sl (.own (qcD s d)) k ((es.drop L).take (m-L)))),(st.map (Leaf.re (qbK s (qcD s d)) fun _=>true)).boxes⟩ (a.put (some d) z) w:=by
     intro L m z _ hrep;have h1:RelAt w0 (st.map (Leaf.re (qbK s (qcD s d)) fun _=>true)) a w (fun b=>qbC s (qcD s d) L (ω b)) (qa0 τ (qcD s d) k z):=
      hrel.turn _ (qlg (by omega)).sat hrel.below (fun b hb=>hrel.owned b (qlf hb)) (fun id b hb=>⟨qd5.2 hb,rfl⟩) (fun id b hb=>qd5.1 hb)
       (fun t ht=>by simp only[qa0];rw[zo (by omega)])
     exact⟨_,_,h1.put (p:=.one (.sl (.own (qcD s d)) k ((es.drop L).take (m-L)))) ⟨hrep,by simp[Tag.hdr,qa0]⟩⟩
    cases hr with
    | nil _ _ a0=>
     simp only[zh] at*;have e0:l.getD 0=0:=by omega
     have e0':hh.getD ((0:Nat):Int)=0:=by omega
     refine⟨.slice a0 0 0,?_,?_⟩
     ·simp only[Instr.sliceAt,Sem.run_bind,run_underlying hu,Result.andThen_ok,Instr.slice,Option.map_none];rw[qg2 hl' hh' o1 o2 o3];have e0'':hh.getD 0=0:=by simpa using e0'
      simp[sizeOf,typeInfo,hi',e0,e0'']
     ·refine key _ _ _ (by omega) ?_;simp only[List.drop_nil,List.take_nil];exact .nil _ _ _
    | row R k es b off cap arr ty fr us hb hR hc hsz hk hu' hd=>
     refine⟨sliced (some ⟨b,off,none⟩) (l.getD 0).toNat (hh.getD es.length).toNat cap k,?_,?_⟩
     ·simp only[Instr.sliceAt,Sem.run_bind,run_underlying hu,Result.andThen_ok,Instr.slice,Option.map_none];rw[qg2 hl' hh' o1 o2 (by omega)];simp[sizeOf,typeInfo,hi',hz,sliced]
     ·refine key _ _ _ (by omega) ?_;have:=Rep.sub (.row _ k es b off cap arr ty fr us hb hR hc hsz hk hu' hd) (l:=(l.getD 0).toNat) (m:=(hh.getD es.length).toNat) (by omega) (by omega)
       (R':=fun q o=>match q with | []=>o=.tok s [] | (i,j)::r=>o=.tok s ((i+(l.getD 0).toNat,j)::r)) (fun o h=>h) (fun i j q o hli h=>by
        simp only[Tag.R]at h;simp only[Nat.sub_add_cancel hli];exact h)
      refine this.frame fun c q _ hq=>⟨?_,rfl⟩
      simp only[Tag.R];cases q with
      | nil=>simp only at hq;rw[hq];simp[qbC]
      | cons x r=>
       obtain⟨i,j⟩:=x;simp only at hq;rw[hq];have hL:¬(i+(l.getD 0).toNat<(l.getD 0).toNat):=by omega
       simp only[qbC,zbb,zo hL,Nat.add_sub_cancel]
   ·cases h
  ·cases h
 ·cases h
end Go.Sx
namespace Go.Sx
open Go.RowKit
def laid(arr:Array Value)(o:Nat)(cs:List Value):Array Value:=(arr.toList.take o++cs++arr.toList.drop (o+cs.length)).toArray
theorem qc3{arr:Array Value}{o:Nat}{cs:List Value}(h:o+cs.length≤arr.size):(laid arr o cs).size=arr.size:=by
 simp[laid];omega
theorem qb5{arr:Array Value}{o:Nat}{cs:List Value}(h:o+cs.length≤arr.size)(x:Nat):
  (laid arr o cs)[x]?=if o≤x∧x<o+cs.length then cs[x-o]? else arr[x]?:=by
 simp only[laid,zY,zba];have hl:(arr.toList.take o).length=o:=by simp;omega
 split
 ·rename_i hx;rw[zas (by omega),zbg (by omega),hl]
 ·rename_i hx;by_cases h1:x<o
  ·rw[zbg (by omega),zF,zp h1,zH]
  ·rw[zas (by omega),zas (by omega),hl,zA,zH]
   congr 1
   omega
theorem qiU{P:Program}(w:World)(dT sT ty elem:TypeId)(k b o dLen dCap:Nat)(arr:Array Value)(tb:TypeId)(a:Addr)(sLen sCap:Nat)(cs:List Value)
  (hu:P.underlying dT=some (.slice elem)) (hs:(P.info? elem).map (·.size)=some k) (hb:w.heap[b]?=some (.cells arr tb (0,0))) (hn:cs.length=Nat.min sLen dLen*k)
  (hsrc:∀j v,cs[j]?=some v→w.cell? (a.add j)=some v) (hfit:o+cs.length≤arr.size) (h1:∀v∈cs,v.oneCell'=true):
  (Builtin.copy_ #[dT,sT] ty #[.slice (some ⟨b,o,none⟩) dLen dCap,.slice (some a) sLen sCap]).run P w=.ok (goInt (Nat.min sLen dLen)) (w.setRow b (laid arr o cs)):=by
 have hf:=run_firstCells_some (P:=P) w k (Nat.min sLen dLen) a sLen sCap cs hn hsrc;have hst:=run_storeCells_at P b o tb cs 0 arr w hb (by simpa using hfit) h1;simp only[zbj]at hst;cases hq:P.info? elem with
 | none=>simp[hq]at hs
 | some i=>
  have hi:i.size=k:=by simpa[hq]using hs
  subst hi;simp[Builtin.copy_,run_underlying hu,Builtin.lenOf,sizeOf,typeInfo,hq,hf,hst,laid]
theorem qoJ{P:Program}(w:World)(t e ty:TypeId)(z:Value)(ht:P.underlying t=some (.slice e))(hv:(zeroValue e).run P w=.ok z w)(b o n c:Nat)(arr:Array Value)(tb:TypeId)
  (hb:w.heap[b]?=some (.cells arr tb (0,0))) (hfit:o+n*z.cells.size≤arr.size) (h1:∀v∈z.cells.toList,v.oneCell'=true):
  ∃zs:List Value,zs.length=n*z.cells.size∧(∀m,m<n*z.cells.size→zs[m]?=z.cells[m % z.cells.size]?)∧(Builtin.clear_ #[t] ty #[.slice (some ⟨b,o,none⟩) n c]).run P w=.ok (.tuple #[]) (if n=0 then w else w.setRow b (laid arr o zs)):=by
 refine⟨(Builtin.zeroCells z.cells n).toList,by simp[Builtin.zeroCells],fun m hm=>?_,?_⟩
 ·have hpos:0<z.cells.size:=by
   rcases Nat.eq_zero_or_pos z.cells.size with h | h
   ·rw[h]at hm;simp at hm
   ·exact h
  simp only[Builtin.zeroCells,Array.toList_map,Array.toList_range,zr,List.getElem?_range hm,zaw];rw[getElem!_pos z.cells _ (Nat.mod_lt _ hpos),zD (Nat.mod_lt _ hpos)]
 have hone:∀v∈(Builtin.zeroCells z.cells n).toList,v.oneCell'=true:=by
  intro v hv';simp only[Builtin.zeroCells,Array.toList_map,zbm,Array.toList_range,List.mem_range]at hv';obtain⟨i,hi,rfl⟩:=hv';have hpos:0<z.cells.size:=by
   rcases Nat.eq_zero_or_pos z.cells.size with h | h
   ·rw[h]at hi;simp at hi
   ·exact h
  refine h1 _ ?_;rw[getElem!_pos z.cells _ (Nat.mod_lt _ hpos)];simp
 have hst:=run_storeCells_at P b o tb (Builtin.zeroCells z.cells n).toList 0 arr w hb (by simpa[Builtin.zeroCells]using hfit) hone;simp only[zbj]at hst;cases n with
 | zero=>simp[Builtin.clear_,run_underlying ht]
 | succ n=>simp[Builtin.clear_,run_underlying ht,hv,hst,laid]
def qf2(t k:Nat)(es':List (List D)):Leaf→Leaf
 | .sl (.own s) k' es=>if s=t then .sl (.own t) k es' else .sl (.own s) k' es
 | l=>Leaf.re (dropT t) (fun _=>true) l
def qiV(P:Program)(st:St)(d:Nat)(t:TypeId)(x:Operand)(lo:Option Operand)(tc:TypeId)(ans:List Ans):Stepped:=
 match qc0 P t,(st.ev x).leaf with
 | some (e,k),some (.sl (.own tk) k' es)=>
  match P.info? e with
  | some i=>
   match i.zero,qb3 st lo with
   | some z,some l=>
    if k=k'∧t=tc∧z.cells.size=k∧z.cells.toList.all (fun v=>v.oneCell')=true∧d<st.env.length then
     let st2:=st.map (qf2 tk k (es.take (l.getD 0).toNat++List.replicate (es.length-(l.getD 0).toNat) (z.cells.toList.map .v)))
     some (⟨st2.env.set d .und,st2.boxes⟩,ans,[0≤l.getD 0,l.getD 0<es.length,Flat es])
    else none
   | _,_=>none
  | none=>none
 | _,_=>none
theorem RelAt.clear{P:Program}{w0:Base}{st st':St}{a:Act}{w:World}{ω:Own}{τ:Nat→Nat×Value}{d:Nat}{t tc:TypeId}{x:Operand}{lo:Option Operand}{ans ans':List Ans}{obs:List Prop}
  (hrel:RelAt w0 st a w ω τ) (h:qiV P st d t x lo tc ans=some (st',ans',obs)) (ho:Obs obs):
  d<a.tmps.size∧∃y z w',(Instr.sliceAt t (a.eval x) (lo.map a.eval) none none).run P w=.ok y w∧(∀ty,(Builtin.clear_ #[tc] ty #[y]).run P w=.ok z w')∧Rel w0 st' (a.put (some d) y) w':=by
 unfold qiV at h;split at h
 ·rename_i e k tk k' es he hx;split at h
  ·rename_i i hi;split at h
   ·rename_i z l hz hlo;split at h
    ·rename_i hc;obtain⟨rfl,rfl,hzk,hz1,hdl⟩:=hc;refine⟨by rw[hrel.size];exact hdl,?_⟩;simp only[za,zd]at h;obtain⟨rfl,_,rfl⟩:=h;obtain⟨o1,o2,hflat,_⟩:=ho;obtain⟨hu,i2,hi2,hsz⟩:=qeK he;obtain⟨hr,hh⟩:=PV.leaf_sat hx (hrel.ev x);have h3:=qg3 hrel hlo;have hl':(lo.map a.eval=none∧l.getD 0=0)∨∃k,lo.map a.eval=some (.int k (l.getD 0)):=by
      rcases h3 with⟨h,rfl⟩ | ⟨k,n,h,rfl⟩
      ·exact .inl ⟨h,rfl⟩
      ·exact .inr ⟨k,h⟩
     generalize hev:a.eval x=y0 at hr hh;cases hr with
     | nil _ _ a0=>simp at o2;omega
     | row R k es b off cap arr ty fr us hb hR hcap hs hk hu' hd=>
      have hR':ω b=.tok tk []:=hR;obtain⟨hown,arr0,ty0,hb0⟩:=hrel.owned b (by rw[hR'];simp);rw[hb]at hb0;simp only[za,Obj.cells.injEq]at hb0;obtain⟨rfl,rfl,rfl⟩:=hb0;obtain⟨L,hL⟩:∃L,L=(l.getD 0).toNat:=⟨_,rfl⟩
      have hLl:L<es.length:=by omega
      rw[←hL];have hfit:off+L*k+(es.length-L)*z.cells.size≤arr.size:=by
       rw[hzk,zcv,←zR,show L+(es.length-L)=es.length by omega];have:=zB k hcap;omega
      have hzv:(zeroValue e).run P w=.ok z w:=by simp[zeroValue,typeInfo,hi,hz]
      obtain⟨zs,hzl,hzg,hclr⟩:∃zs:List Value,zs.length=(es.length-L)*z.cells.size∧(∀m,m<(es.length-L)*z.cells.size→zs[m]?=z.cells[m % z.cells.size]?)∧
        ∀ty,(Builtin.clear_ #[t] ty #[.slice (some ⟨b,off+L*k,none⟩) (es.length-L) (cap-L)]).run P w=.ok (.tuple #[]) (if es.length-L=0 then w else w.setRow b (laid arr (off+L*k) zs)):=by
       obtain⟨zs,h1,h2,h3⟩:=qoJ (P:=P) w t e 0 z hu hzv b (off+L*k) (es.length-L) (cap-L) arr ty hb hfit (zM.1 hz1);exact⟨zs,h1,h2,fun ty'=>h3⟩
      rw[zo (by omega)]at hclr;rw[hzk]at hzl hzg;have hl2:off+L*k+zs.length≤arr.size:=by rw[hzl,←hzk];exact hzk▸hfit
      refine⟨.slice (some ⟨b,off+L*k,none⟩) (es.length-L) (cap-L),_,_,?_,hclr,?_⟩
      ·simp only[Instr.sliceAt,Sem.run_bind,run_underlying hu,Result.andThen_ok,Instr.slice,Option.map_none];rw[qg2 (h:=es.length) hl' (.inl ⟨rfl,rfl⟩) o1 (by omega) (by omega)];have hne:¬cap=L:=by omega
       simp[sizeOf,typeInfo,hi2,hsz,←hL,hne,Addr.add_lit]
      ·
       have hhs:=setRow_heap w b arr (laid arr (off+L*k) zs) ty (0,0) hb;have hnew:Rep (w.setRow b (laid arr (off+L*k) zs)) ω (Tag.own tk).R (.sl k (es.take L++List.replicate (es.length-L) (z.cells.toList.map .v))) (.slice (some ⟨b,off,none⟩) es.length cap):=by
        have hlen:(es.take L++List.replicate (es.length-L) (z.cells.toList.map D.v)).length=es.length:=by simp;omega
        have hcell:∀x j d,qan (es.take L++List.replicate (es.length-L) (z.cells.toList.map D.v)) x j=some d→∃v,d=.v v∧(laid arr (off+L*k) zs)[off+x*k+j]?=some v∧v.oneCell'=true:=by
         intro x j d hdx;rw[qg7]at hdx;have htl:(es.take L).length=L:=by simp;omega
         rw[htl]at hdx;split at hdx
         ·rename_i hxL;have hdx':qan es x j=some d:=by
           unfold qan at hdx ⊢;rwa[zF,zp hxL]at hdx
          obtain⟨hxl,hjl⟩:=qdI hk hdx';have hmem:∃v,d=.v v:=by
           unfold qan at hdx';cases e1:es[x]? with
           | none=>simp[e1]at hdx'
           | some ds=>
            simp only[e1,zan]at hdx';exact hflat ds (zw e1) d (zw hdx')
          obtain⟨v,rfl⟩:=hmem;have h4:=hd x j _ hdx';have h5:=hu' x j _ hdx';generalize us x j=u at h4 h5;cases h4 with
          | v _ _ h6=>
           refine⟨v,rfl,?_,h6⟩;rw[qb5 hl2,zo ?_,h5];have:(x+1)*k≤L*k:=zB _ hxL;rw[zR]at this;omega
         ·rename_i hxL;unfold qan at hdx;rw[zbo]at hdx;split at hdx
          ·rename_i hxn;simp only[zan,zr,zc]at hdx;obtain⟨v,hv,rfl⟩:=hdx;have hjk:j<k:=by
            have:=(zk.1 hv).1;rw[zbx,hzk]at this;exact this
           refine⟨v,rfl,?_,zM.1 hz1 v (zw hv)⟩;obtain⟨m,hm⟩:∃m,x=L+m:=⟨x-L,by omega⟩
           subst hm;have hmk:m*k+j<(es.length-L)*k:=by
            have:(m+1)*k≤(es.length-L)*k:=zB _ (by omega);rw[zR]at this;omega
           have e1:off+(L+m)*k+j=off+L*k+(m*k+j):=by rw[zR];omega
           rw[e1,qb5 hl2,zp (by omega),show off+L*k+(m*k+j)-(off+L*k)=m*k+j by omega,hzg _ hmk,show (m*k+j) % k=j by rw[Nat.mul_comm m k,Nat.mul_add_mod,zcu hjk]];simpa using hv
          ·simp at hdx
        have:=Rep.row (w:=w.setRow b (laid arr (off+L*k) zs)) (ω:=ω) (Tag.own tk).R k (es.take L++List.replicate (es.length-L) (z.cells.toList.map .v)) b off cap _ ty (0,0)
         (fun x j=>(laid arr (off+L*k) zs).getD (off+x*k+j) undef) hhs hR (by omega) (by rw[qc3 hl2];exact hs)
         (by
          intro e' he';rcases zaz.1 he' with h | h
          ·exact hk e' (zbh h)
          ·rw[List.eq_of_mem_replicate h];simp[hzk])
         (fun x j d hdx=>by obtain⟨v,rfl,h1,_⟩:=hcell x j d hdx;simp[zl,h1])
         (fun x j d hdx=>by
          obtain⟨v,rfl,h1,h2⟩:=hcell x j d hdx;have:(laid arr (off+L*k) zs).getD (off+x*k+j) undef=v:=by simp[zl,h1]
          rw[this];exact .v _ _ h2)
        rwa[hlen]at this
       have ev:Evolve w ω τ (w.setRow b (laid arr (off+L*k) zs)) ω τ (dropT tk) (fun _=>true):=by
        refine⟨?_,?_,fun id c _ hc=>hc,rfl,fun _ _=>rfl⟩
        ·intro g g' c q hg _ hq;obtain⟨rfl,hnt⟩:=qiS hg hq;exact⟨hq,setRow_other w b c _ fun e=>hnt [] (by rw[e];exact hR')⟩
        ·intro g g' y hg hy;cases g with
         | free=>simp only[dropT,za]at hg;subst hg;trivial
         | own x=>
          simp only[dropT]at hg;split at hg
          ·cases hg
          ·simp only[za]at hg;subst hg;exact hy
         | ro x=>
          simp only[dropT]at hg;split at hg
          ·cases hg
          ·simp only[za]at hg;subst hg;trivial
       have hsat:∀lf v,Sat w ω τ lf v→Sat (w.setRow b (laid arr (off+L*k) zs)) ω τ (qf2 tk k (es.take L++List.replicate (es.length-L) (z.cells.toList.map .v)) lf) v:=by
        intro lf v hsv;by_cases hcase:∃s k' es',lf=.sl (.own s) k' es'
        ·obtain⟨s,k',es',rfl⟩:=hcase;simp only[qf2];split
         ·rename_i hst;subst hst;obtain⟨_,h2⟩:=hsv;simp only[Tag.hdr]at h2 hh;rw[h2]at hh;simp only[zd]at hh;obtain⟨rfl,rfl⟩:=hh;exact⟨hnew,h2⟩
         ·rename_i hst;have:=ev.sat (.sl (.own s) k' es') v hsv;simpa[Leaf.re,dropT,hst]using this
        ·have h9:qf2 tk k (es.take L++List.replicate (es.length-L) (z.cells.toList.map .v)) lf=Leaf.re (dropT tk) (fun _=>true) lf:=by
          unfold qf2;split
          ·exact absurd ⟨_,_,_,rfl⟩ hcase
          ·rfl
         rw[h9];exact ev.sat lf v hsv
       have h1:RelAt w0 (st.map (qf2 tk k (es.take L++List.replicate (es.length-L) (z.cells.toList.map .v)))) a (w.setRow b (laid arr (off+L*k) zs)) ω τ:=by
        refine hrel.turn _ hsat (hrel.below.setRow hown _) ?_ (fun id c hc=>⟨hc,setRow_other w b c _ fun e=>by rw[e,hR']at hc;cases hc⟩) (fun id c hc=>hc) (fun _ _=>rfl);intro c hc;obtain⟨h1,arr2,ty2,h2⟩:=hrel.owned c hc;by_cases e:c=b
        ·subst e;exact⟨h1,_,ty,hhs⟩
        ·exact⟨h1,arr2,ty2,(setRow_other w b c _ e).trans h2⟩
       exact⟨ω,τ,h1.put (p:=.und) trivial⟩
    ·cases h
   ·cases h
  ·cases h
 ·cases h
end Go.Sx
namespace Go.Sx
open Go.RowKit
def AL.All(p:Leaf→Prop):AL→Prop
 | .one l=>p l
 | .agg ls=>∀l∈ls,p l
def PV.All(p:Leaf→Prop):PV→Prop
 | .al a=>a.All p
 | .tup as=>∀a∈as,a.All p
theorem SatL.map'{S S':Leaf→Value→Prop}{p:Leaf→Prop}{f:Leaf→Leaf}(h:∀l v,p l→S l v→S' (f l) v){ls:List Leaf}{vs:Array Value}(ha:∀l∈ls,p l)(hs:SatL S ls vs):SatL S' (ls.map f) vs:=by
 refine⟨by simpa using hs.1,fun i l hl=>?_⟩;rw[zr,zc]at hl;obtain⟨l0,h0,rfl⟩:=hl;obtain⟨u,h1,h2⟩:=hs.2 i l0 h0;exact⟨u,h1,h _ _ (ha l0 (zw h0)) h2⟩
theorem SatA.map'{S S':Leaf→Value→Prop}{p:Leaf→Prop}{f:Leaf→Leaf}(h:∀l v,p l→S l v→S' (f l) v):∀{a:AL} {y:Value},a.All p→SatA S a y→SatA S' (a.map f) y
 | .one l,y,ha,hs=>h _ _ ha hs
 | .agg ls,y,ha,⟨vs,e,hs⟩=>⟨vs,e,hs.map' h ha⟩
theorem SatP.map'{S S':Leaf→Value→Prop}{p:Leaf→Prop}{f:Leaf→Leaf}(h:∀l v,p l→S l v→S' (f l) v):∀{q:PV} {y:Value},q.All p→SatP S q y→SatP S' (q.map f) y
 | .al a,y,ha,hs=>show SatA S' (a.map f) y from SatA.map' h ha (show SatA S a y from hs)
 | .tup as,y,ha,⟨vs,e,hn,hs⟩=>⟨vs,e,by simpa using hn,fun i a hi=>by
   rw[zr,zc]at hi;obtain⟨a0,h0,rfl⟩:=hi;obtain⟨u,h1,h2⟩:=hs i a0 h0;exact⟨u,h1,SatA.map' h (ha a0 (zw h0)) h2⟩⟩
theorem RelAt.turnOn{w0:Base}{st:St}{a:Act}{w w':World}{ω ω':Own}{τ τ':Nat→Nat×Value}{p:Leaf→Prop}(h:RelAt w0 st a w ω τ)(f:Leaf→Leaf)
  (hsat:∀l v,p l→Sat w ω τ l v→Sat w' ω' τ' (f l) v) (he:∀q∈st.env,q.All p) (hb:∀id ls,qap id st.boxes=some ls→∀l∈ls,p l) (hbelow:Bel w0 w') (howned:Owned w0 w' ω')
  (hbox:∀id b,ω b=.box id→ω' b=.box id∧w'.heap[b]?=w.heap[b]?) (hboxU:∀id b,ω' b=.box id→ω b=.box id) (hfix:∀t,giv≤t→τ' t=τ t):RelAt w0 (st.map f) a w' ω' τ' where
 defers:=h.defers
 size:=by simp[St.map,h.size]
 below:=hbelow
 owned:=howned
 fixed:=fun t ht=>(hfix t ht).trans (h.fixed t ht)
 pinned:=fun id b hi hb=>h.pinned id b hi (hboxU id b hb)
 env:=by
  intro i q hq;simp only[St.map]at hq;rw[zr,zc]at hq;obtain⟨q0,h0,rfl⟩:=hq;obtain⟨v,h1,h2⟩:=h.env i q0 h0;exact⟨v,h1,SatP.map' hsat (he q0 (zw h0)) h2⟩
 boxes:=by
  intro id ls hl;simp only[St.map]at hl;rw[qdH,zc]at hl;obtain⟨ls0,h0,rfl⟩:=hl;obtain⟨b,arr,ty,hb1,hu,hh,hs⟩:=h.boxes id ls0 h0;obtain⟨h1,h2⟩:=hbox id b hb1;exact⟨b,arr,ty,h1,fun b' hb'=>hu b' (hboxU id b' hb'),h2.trans hh,hs.map' hsat (hb id ls0 h0)⟩
def Leaf.idx(t j:Nat):Leaf→List Nat
 | .sn s a b _ _ _=>if s=t∧b=j then [a] else []
 | _=>[]
def AL.idx(t j:Nat):AL→List Nat
 | .one l=>l.idx t j
 | .agg ls=>ls.flatMap (Leaf.idx t j)
def PV.idx(t j:Nat):PV→List Nat
 | .al a=>a.idx t j
 | .tup as=>as.flatMap (AL.idx t j)
def St.idx(t j:Nat)(st:St):List Nat:=st.env.flatMap (PV.idx t j)++st.boxes.flatMap fun x=>x.2.flatMap (Leaf.idx t j)
def qiW(t i j:Nat)(l:Leaf):Prop:=∀a∈l.idx t j,a=i
theorem qoK{id:Nat}:∀{bs:List (Nat×List Leaf)} {ls:List Leaf},qap id bs=some ls→(id,ls)∈bs
 | [],_,h=>by cases h
 | (i,l)::r,ls,h=>by
  simp only[qap]at h;split at h
  ·rename_i hi;subst hi;rw[zx h];exact zm
  ·exact zg _ (qoK h)
theorem St.idx_env{t i j:Nat}{st:St}(h:∀a∈st.idx t j,a=i):∀q∈st.env,q.All (qiW t i j):=by
 intro q hq;have h1:∀a∈q.idx t j,a=i:=fun a ha=>h a (zI _ (zar.2 ⟨q,hq,ha⟩))
 have hal:∀x:AL,(∀a∈x.idx t j,a=i)→x.All (qiW t i j):=by
  intro x hx;cases x with
  | one l=>exact hx
  | agg ls=>exact fun l hl a ha=>hx a (zar.2 ⟨l,hl,ha⟩)
 cases q with
 | al x=>exact hal x h1
 | tup as=>exact fun x hx=>hal x fun a ha=>h1 a (zar.2 ⟨x,hx,ha⟩)
theorem St.idx_box{t i j:Nat}{st:St}(h:∀a∈st.idx t j,a=i){id:Nat}{ls:List Leaf}(hb:qap id st.boxes=some ls):∀l∈ls,qiW t i j l:=by
 intro l hl a ha;exact h a (zJ _ (zar.2 ⟨(id,ls),qoK hb,zar.2 ⟨l,hl,ha⟩⟩))
def qa8(t i j k:Nat)(es':List (List D))(kT:Nat)(esT:List (List D)):Leaf→Leaf
 | .sl (.own s) k0 es0=>if s=t then .sl (.own t) kT esT else .sl (.own s) k0 es0
 | .ep (.own s) k0 es0 a b=>if s=t then .ep (.own t) kT esT a b else .ep (.own s) k0 es0 a b
 | .sl (.ro s) k0 es0=>if s=t then .und else .sl (.ro s) k0 es0
 | .ep (.ro s) k0 es0 a b=>if s=t then .und else .ep (.ro s) k0 es0 a b
 | .sn s a b k0 es0 m=>if s=t∧b=j then (if k0=k∧m.home=true then .sn t i j k es' m else .und) else .sn s a b k0 es0 m
 | .np _ _=>.und
 | l=>l
theorem qd1.uniq{w:World}{ω:Own}{τ:Nat→Nat×Value}{t i j:Nat}{u v:Value}(h1:qd1 w ω τ t i j u)(h2:qd1 w ω τ t i j v):u=v:=by
 obtain⟨kT,b,off,len,cap,arr,ty,fr,a1,a2,a3,a4⟩:=h1;obtain⟨kT',b',off',len',cap',arr',ty',fr',b1,b2,b3,b4⟩:=h2;rw[a1]at b1;simp only[zd,Value.slice.injEq,za,Addr.mk.injEq]at b1;obtain⟨rfl,⟨rfl,rfl,_⟩,_,_⟩:=b1;rw[a3]at b3;simp only[za,Obj.cells.injEq]at b3;obtain⟨rfl,_,_⟩:=b3;rw[a4]at b4;exact zx b4
theorem RelAt.snTurn{w0:Base}{st:St}{a:Act}{w w':World}{ω ω':Own}{τ:Nat→Nat×Value}(h:RelAt w0 st a w ω τ){t i j k kT:Nat}{es' esT:List (List D)}{yT u0:Value}
  (hoth:∀c,c<w.heap.size→ω c≠.tok t [(i,j)]→w'.heap[c]?=w.heap[c]?) (hω:∀c,c<w.heap.size→ω' c=ω c) (hωn:∀c id,¬c<w.heap.size→ω' c≠.box id)
  (hbel:Bel w0 w') (hown:Owned w0 w' ω') (hτ:τ t=(kT,yT)) (hroot:Rep w' ω' (Tag.own t).R (.sl kT esT) yT)
  (hhome:qd1 w ω τ t i j u0) (hplace:Rep w' ω' (fun q o=>o=.tok t ((i,j)::q)) (.sl k es') u0) (hidx:∀a∈st.idx t j,a=i):RelAt w0 (st.map (qa8 t i j k es' kT esT)) a w' ω' τ:=by
 have fr:∀{R:List (Nat×Nat)→Owner→Prop} {d:D} {v:Value},(∀q,¬R q (.tok t [(i,j)]))→Rep w ω R d v→Rep w' ω' R d v:=by
  intro R d v hn hr;refine hr.frame fun b q hlt hq=>?_
  rw[hω b hlt];exact⟨hq,hoth b hlt fun e=>hn q (by rw[←e];exact hq)⟩
 have home:∀{s a b:Nat} {u:Value},qd1 w ω τ s a b u→qd1 w' ω' τ s a b u:=by
  rintro s a b u ⟨kT,c,off,len,cap,arr,ty,fr,a1,a2,a3,a4⟩;have hlt:c<w.heap.size:=(zz.1 a3).1;exact⟨kT,c,off,len,cap,arr,ty,fr,a1,by rw[hω c hlt];exact a2,(hoth c hlt (by rw[a2];simp)).trans a3,a4⟩
 refine h.turnOn (p:=qiW t i j) _ ?_ (St.idx_env hidx) (fun id ls hb=>St.idx_box hidx hb) hbel hown (fun id b hb=>?_) (fun id b hb=>?_) (fun _ _=>rfl)
 ·intro l v hg hs;cases l with
  | und=>exact trivial
  | v x=>exact hs
  | sb c=>exact hs
  | ptr id o=>
   obtain⟨c,hc,e⟩:=hs;exact⟨c,by rw[hω c (h.owned.lt (by simp[hc]))];exact hc,e⟩
  | clo f ids=>
   obtain⟨bs,e,hn,hi⟩:=hs;refine⟨bs,e,hn,fun x id hid=>?_⟩;obtain⟨b,h1,h2⟩:=hi x id hid;exact⟨b,h1,by rw[hω b (h.owned.lt (by simp[h2]))];exact h2⟩
  | rp ds o=>
   obtain⟨c,e,hr⟩:=hs;exact⟨c,e,fr (fun q hq=>by cases hq) hr⟩
  | fd d=>exact fr (R:=Tag.free.R) (fun q hq=>by cases hq) hs
  | sv t0 k0 es0=>exact⟨fr (R:=Tag.free.R) (fun q hq=>by cases hq) hs.1,hs.2⟩
  | np=>exact trivial
  | sl g k0 es0=>
   cases g with
   | free=>exact⟨fr (R:=Tag.free.R) (fun q hq=>by cases hq) hs.1,trivial⟩
   | own s=>
    simp only[qa8];split
    ·rename_i e;subst e;have h2:=hs.2;simp only[Tag.hdr]at h2;rw[hτ]at h2;simp only[zd]at h2;rw[←h2.2];exact⟨hroot,hτ⟩
    ·rename_i hne;exact⟨fr (R:=(Tag.own s).R) (fun q hq=>by simp only[Tag.R,Owner.tok.injEq]at hq;exact hne hq.1.symm) hs.1,hs.2⟩
   | ro s=>
    simp only[qa8];split
    ·exact trivial
    ·rename_i hne;refine⟨fr (R:=(Tag.ro s).R) (fun q hq=>?_) hs.1,trivial⟩;rcases hq with hq | ⟨q',hq⟩
     ·cases hq
     ·simp only[Owner.tok.injEq]at hq;exact hne hq.1.symm
  | ep g k0 es0 x y=>
   obtain⟨b2,off2,cap2,e,hi2,hr2,hh2⟩:=hs;cases g with
   | free=>exact⟨b2,off2,cap2,e,hi2,fr (R:=Tag.free.R) (fun q hq=>by cases hq) hr2,trivial⟩
   | own s=>
    simp only[qa8];split
    ·rename_i e1;subst e1;simp only[Tag.hdr]at hh2;rw[hτ]at hh2;simp only[zd]at hh2;obtain⟨rfl,rfl⟩:=hh2;have hl:esT.length=es0.length:=by
      obtain⟨_,_,e2⟩:=hroot.len;simp only[Value.slice.injEq]at e2;exact e2.2.1.symm
     refine⟨b2,off2,cap2,e,by omega,?_,?_⟩
     ·rw[hl];exact hroot
     ·rw[hl];exact hτ
    ·rename_i hne;exact⟨b2,off2,cap2,e,hi2,fr (R:=(Tag.own s).R) (fun q hq=>by simp only[Tag.R,Owner.tok.injEq]at hq;exact hne hq.1.symm) hr2,hh2⟩
   | ro s=>
    simp only[qa8];split
    ·exact trivial
    ·rename_i hne;refine⟨b2,off2,cap2,e,hi2,fr (R:=(Tag.ro s).R) (fun q hq=>?_) hr2,trivial⟩;rcases hq with hq | ⟨q',hq⟩
     ·cases hq
     ·simp only[Owner.tok.injEq]at hq;exact hne hq.1.symm
  | sn s x y k0 es0 m=>
   simp only[qa8];obtain⟨u,hu,hr,hm⟩:=hs;split
   ·rename_i hc;obtain⟨rfl,rfl⟩:=hc;have hx:x=i:=hg x (by simp[Leaf.idx]);subst hx;split
    ·rename_i hc;obtain⟨rfl,hmh⟩:=hc;have e:=(hm hmh).uniq hhome;subst e;have hl:es'.length=es0.length:=by
      obtain⟨_,_,e1⟩:=hplace.len;obtain⟨_,_,e2⟩:=hr.len;rw[e1]at e2;simp only[Value.slice.injEq]at e2;omega
     exact⟨u,by rw[hl];exact hu,hplace,fun _=>home hhome⟩
    ·exact trivial
   ·rename_i hc;refine⟨u,hu,fr (fun q hq=>?_) hr,fun hh=>home (hm hh)⟩;simp only[Owner.tok.injEq,zbr,zd]at hq;exact hc ⟨hq.1.symm,hq.2.1.2.symm⟩
 ·have hlt:=h.owned.lt (b:=b) (by simp[hb]);exact⟨by rw[hω b hlt];exact hb,hoth b hlt (by rw[hb];simp)⟩
 ·by_cases hlt:b<w.heap.size
  ·rw[hω b hlt]at hb;exact hb
  ·exact absurd hb (hωn b id hlt)
def rootL(t:Nat):Leaf→Option (Nat×List (List D))
 | .sl (.own s) k es=>if s=t then some (k,es) else none
 | _=>none
def qd6(t:Nat):List PV→Option (Nat×List (List D))
 | []=>none
 | .al (.one l)::r=>match rootL t l with | some x=>some x | none=>qd6 t r
 | .al (.agg ls)::r=>match ls.findSome? (rootL t) with | some x=>some x | none=>qd6 t r
 | _::r=>qd6 t r
def qiX(t:Nat)(st:St):Option (Nat×List (List D)):=
 match qd6 t st.env with
 | some x=>some x
 | none=>(st.boxes.find? fun x=>(x.2.findSome? (rootL t)).isSome).bind fun x=>(qap x.1 st.boxes).bind fun ls=>ls.findSome? (rootL t)
theorem qlh{w:World}{ω:Own}{τ:Nat→Nat×Value}{t kT:Nat}{esT:List (List D)}{l:Leaf}{v:Value}(h:rootL t l=some (kT,esT))(hs:Sat w ω τ l v):Sat w ω τ (.sl (.own t) kT esT) v:=by
 unfold rootL at h;split at h
 ·split at h
  ·rename_i e;subst e;simp only[za,zd]at h;obtain⟨rfl,rfl⟩:=h;exact hs
  ·cases h
 ·cases h
theorem qoL{w:World}{ω:Own}{τ:Nat→Nat×Value}{t kT:Nat}{esT:List (List D)}{ls:List Leaf}{vs:Array Value}(h:ls.findSome? (rootL t)=some (kT,esT))(hs:SatL (Sat w ω τ) ls vs):∃v,Sat w ω τ (.sl (.own t) kT esT) v:=by
 obtain⟨l,hl,h2⟩:=List.exists_of_findSome?_eq_some h;obtain⟨x,hx⟩:=zak.1 hl;obtain⟨u,_,hu⟩:=hs.2 x l hx;exact⟨u,qlh h2 hu⟩
theorem qiY{w:World}{ω:Own}{τ:Nat→Nat×Value}{t kT:Nat}{esT:List (List D)}:∀{ps:List PV},qd6 t ps=some (kT,esT)→(∀p∈ps,∃v,SatP (Sat w ω τ) p v)→∃v,Sat w ω τ (.sl (.own t) kT esT) v
 | [],h,_=>by cases h
 | p::r,h,hs=>by
  have hr:∀p∈r,∃v,SatP (Sat w ω τ) p v:=fun p hp=>hs p (zg _ hp)
  obtain⟨v,hv⟩:=hs p zm;cases p with
  | tup as=>exact qiY (by simpa[qd6]using h) hr
  | al x=>
   cases x with
   | one l=>
    simp only[qd6]at h;split at h
    ·rename_i y e;simp only[za]at h;subst h;exact⟨v,qlh e hv⟩
    ·exact qiY h hr
   | agg ls=>
    simp only[qd6]at h;split at h
    ·rename_i y e;simp only[za]at h;subst h;obtain⟨vs,_,hv⟩:=hv;exact qoL e hv
    ·exact qiY h hr
theorem RelAt.root{w0:Base}{st:St}{a:Act}{w:World}{ω:Own}{τ:Nat→Nat×Value}(h:RelAt w0 st a w ω τ){t kT:Nat}{esT:List (List D)}(e:qiX t st=some (kT,esT)):∃v,Sat w ω τ (.sl (.own t) kT esT) v:=by
 unfold qiX at e;split at e
 ·rename_i x e1;simp only[za]at e;subst e;refine qiY e1 fun p hp=>?_
  obtain⟨x,hx⟩:=zak.1 hp;obtain⟨v,_,hv⟩:=h.env x p hx;exact⟨v,hv⟩
 ·rw[zah]at e;obtain⟨x,_,e⟩:=e;rw[zah]at e;obtain⟨ls,hb,e⟩:=e;obtain⟨b,arr,ty,_,_,_,hs⟩:=h.boxes x.1 ls hb;exact qoL e hs
theorem qoM{w w':World}{ω ω':Own}{τ:Nat→Nat×Value}{t i j k kT:Nat}{es' esT:List (List D)}{dsT:List D}{yT u0:Value}(hs:Sat w ω τ (.sl (.own t) kT esT) yT)
  (hoth:∀c,c<w.heap.size→ω c≠.tok t [(i,j)]→w'.heap[c]?=w.heap[c]?) (hω:∀c,c<w.heap.size→ω' c=ω c)
  (hhome:qd1 w ω τ t i j u0) (hplace:Rep w' ω' (fun q o=>o=.tok t ((i,j)::q)) (.sl k es') u0) (hds:esT[i]?=some dsT):Rep w' ω' (Tag.own t).R (.sl kT (esT.set i (dsT.set j (.sl k es')))) yT:=by
 obtain⟨hr,hh⟩:=hs;simp only[Tag.hdr]at hh;obtain⟨kT',b0,off0,len0,cap0,arr0,ty0,fr0,a1,a2,a3,a4⟩:=hhome;rw[hh]at a1;simp only[zd]at a1;obtain⟨rfl,rfl⟩:=a1;have hil:i<esT.length:=(zk.1 hds).1;have hlen:(esT.set i (dsT.set j (.sl k es'))).length=esT.length:=zn;generalize hy:Value.slice (some ⟨b0,off0,none⟩) len0 cap0=yy at hr;cases hr with
 | nil=>simp at hil
 | row R kT esT b off cap arr ty fr us hb hR hc hsz hk hu hd=>
  simp only[Value.slice.injEq,za,Addr.mk.injEq]at hy;obtain⟨⟨rfl,rfl,_⟩,rfl,rfl⟩:=hy;rw[hb]at a3;simp only[za,Obj.cells.injEq]at a3;obtain⟨rfl,_,_⟩:=a3;have hblt:b0<w.heap.size:=(zz.1 hb).1;have hkd:dsT.length=kT:=hk dsT (zw hds);have hrow:∀e∈esT.set i (dsT.set j (.sl k es')),e.length=kT:=by
   intro e he;rcases zbf he with h | rfl
   ·exact hk e h
   ·rw[zn];exact hkd
  have key:∀x y d,qan (esT.set i (dsT.set j (.sl k es'))) x y=some d→arr[off0+x*kT+y]?=some (us x y)∧Rep w' ω' (fun q=>(Tag.own t).R ((x,y)::q)) d (us x y):=by
   intro x y d hdx;have hxy:=qdI hrow hdx;rw[hlen]at hxy;obtain⟨d0,hd0⟩:=qoi hk hxy.1 hxy.2;have hus:=hu x y d0 hd0;refine⟨hus,?_⟩;rw[qk2 hil]at hdx;by_cases hx:x=i
   ·subst hx;rw[zp rfl,zad]at hdx;by_cases hyj:j=y
    ·subst hyj;rw[zp rfl,zp (by omega)]at hdx;rw[←zx hdx];rw[a4]at hus;rw[←zx hus];exact hplace
    ·rw[zo hyj]at hdx;have hcd:qan esT x y=some d:=by simp[qan,hds,hdx]
     refine (hd x y d hcd).frame fun c q hc hq=>?_
     rw[hω c hc];refine⟨hq,hoth c hc fun e=>?_⟩;simp only[Tag.R,e,Owner.tok.injEq,zbr,zd]at hq;exact hyj hq.2.1.2
   ·rw[zo hx]at hdx;refine (hd x y d hdx).frame fun c q hc hq=>?_
    rw[hω c hc];refine⟨hq,hoth c hc fun e=>?_⟩;simp only[Tag.R,e,Owner.tok.injEq,zbr,zd]at hq;exact hx hq.2.1.1.symm
  have hR':ω b0=.tok t []:=hR;have:=Rep.row (w:=w') (ω:=ω') (Tag.own t).R kT (esT.set i (dsT.set j (.sl k es'))) b0 off0 cap0 arr ty fr us ((hoth b0 hblt (by rw[hR'];simp)).trans hb) (by rw[hω b0 hblt];exact hR') (by omega) hsz hrow
   (fun x y d hd=>(key x y d hd).1) (fun x y d hd=>(key x y d hd).2)
  rw[hlen]at this;exact this
def qli(P:Program)(st:St)(ty:TypeId)(t i j k:Nat)(es:List (List D))(x y:Nat)(q:PV)(ans:List Ans):Stepped:=
 match q.leaves,P.info? ty,qiX t st,ans with
 | some xs,some inf,some (kT,esT),.el ds::.el dsT::r=>
  match xs.mapM Leaf.toD with
  | some ys=>
   if xs.length=inf.size∧ds.length=k∧y+ys.length≤k∧xs.all (fun l=>l.tok.isNone)=true then
    some (st.map (qa8 t i j k (es.set x (blitD ds y ys)) kT (esT.set i (dsT.set j (.sl k (es.set x (blitD ds y ys)))))),r,(es[x]?=some ds)::(esT[i]?=some dsT)::(st.idx t j).map fun a=>a=i)
   else none
  | none=>none
 | _,_,_,_=>none
theorem qvc{l:Leaf}{d:D}(h:l.toD=some d)(ht:l.tok.isNone=true){w:World}{ω:Own}{τ:Nat→Nat×Value}{u:Value}(hs:Sat w ω τ l u):∃z,d=.v z∧u=z∧z.oneCell'=true:=by
 cases l with
 | v z=>
  simp only[Leaf.toD]at h;split at h
  ·simp only[za]at h;subst h;have:u=z:=hs;exact⟨z,rfl,this,‹_›⟩
  ·cases h
 | sb c=>
  simp only[Leaf.toD,za]at h;subst h;exact⟨_,rfl,hs,rfl⟩
 | sl g k es=>
  cases g with
  | own s=>simp[Leaf.tok]at ht
  | free=>cases h
  | ro s=>cases h
 | und=>cases h
 | ptr=>cases h
 | ep=>cases h
 | rp=>cases h
 | fd=>cases h
 | sv=>cases h
 | clo=>cases h
 | sn=>cases h
 | np=>cases h
theorem RelAt.storeSn{P:Program}{w0:Base}{st st':St}{a:Act}{w:World}{ω:Own}{τ:Nat→Nat×Value}{ty:TypeId}{t i j k x y:Nat}{es:List (List D)}{q:PV}{v p:Value}{ans ans':List Ans}{obs:List Prop}
  (hrel:RelAt w0 st a w ω τ) (hp:Sat w ω τ (.sn t i j k es (.at_ x y)) p) (hq:SatP (Sat w ω τ) q v) (h:qli P st ty t i j k es x y q ans=some (st',ans',obs)) (ho:Obs obs):
  ∃w',(Instr.storeAt ty p v).run P w=.ok () w'∧Rel w0 st' a w':=by
 unfold qli at h;split at h
 ·rename_i xs inf kT esT ds dsT r e1 e2 e4;split at h
  ·rename_i ys e3;split at h
   ·rename_i hc;obtain⟨hc1,hc2,hc3,hc4⟩:=hc;simp only[za,zd]at h;obtain⟨rfl,_,rfl⟩:=h;obtain⟨hds,hdsT,hidx⟩:=ho;have hidx:=qiM hidx;obtain⟨yT,hroot⟩:=hrel.root e4;obtain⟨hs,hone⟩:=PV.leaves_sat e1 hq;obtain⟨hyl,hyg⟩:=qct e3;obtain⟨u0,⟨b,off,cap,rfl,rfl,hil⟩,hr,hm⟩:=hp;have hhome:=hm rfl;have hr0:=hr;cases hr with
    | nil=>simp at hil
    | row R k es b off cap arr tyb fr us hb hR hcap hsz hkk hu hd=>
     have hR':ω b=.tok t [(i,j)]:=hR;obtain⟨hown1,arr0,ty0,hb0⟩:=hrel.owned b (by rw[hR'];simp);rw[hb]at hb0;simp only[za,Obj.cells.injEq]at hb0;obtain⟨rfl,rfl,rfl⟩:=hb0;have hblt:b<w.heap.size:=(zz.1 hb).1;have hmul:(x+1)*k≤cap*k:=zB _ (by omega);rw[zR]at hmul;have hvs:v.cells.size=xs.length:=hs.1;have hfit:off+x*k+y+v.cells.toList.length≤arr.size:=by simp;omega
     have hst:=run_storeCells_at P b (off+x*k+y) tyb v.cells.toList 0 arr w hb (by simpa using hfit) hone;simp only[zbj]at hst;generalize harr:(arr.toList.take (off+x*k+y)++v.cells.toList++arr.toList.drop (off+x*k+y+v.cells.toList.length)).toArray=arr' at hst;have hget:∀z:Nat,arr'[z]?=if off+x*k+y≤z∧z<off+x*k+y+xs.length then v.cells[z-(off+x*k+y)]? else arr[z]?:=by
      intro z;rw[←harr,zY,qg5 (by simpa using hfit)];simp[hvs]
     have hsz':arr'.size=arr.size:=by rw[←harr];simp;simp at hfit;omega
     have hhs:=setRow_heap w b arr arr' tyb (0,0) hb;have hoth:∀c,c<w.heap.size→ω c≠.tok t [(i,j)]→(w.setRow b arr').heap[c]?=w.heap[c]?:=fun c _ hc=>setRow_other w b c arr' fun e=>hc (by rw[e];exact hR')
     have hplace:Rep (w.setRow b arr') ω (fun q o=>o=.tok t ((i,j)::q)) (.sl k (es.set x (blitD ds y ys))) (.slice (some ⟨b,off,none⟩) es.length cap):=by
      have hlen:(es.set x (blitD ds y ys)).length=es.length:=zn;have hkd:ds.length=k:=hc2;have hlow:∀x' y' d,qan es x' y'=some d→Rep (w.setRow b arr') ω (fun q o=>o=.tok t ((i,j)::(x',y')::q)) d (us x' y'):=by
       intro x' y' d hcd;refine (hd x' y' d hcd).frame fun c q hc hq'=>⟨hq',hoth c hc fun e=>?_⟩
       rw[e]at hq';simp at hq'
      have hcell:∀x' y' d,qan (es.set x (blitD ds y ys)) x' y'=some d→∃u,arr'[off+x'*k+y']?=some u∧Rep (w.setRow b arr') ω (fun q o=>o=.tok t ((i,j)::(x',y')::q)) d u:=by
       intro x' y' d hdx;rw[qk2 hil]at hdx;by_cases hx:x'=x
       ·subst hx;rw[zp rfl,qol (by omega)]at hdx;split at hdx
        ·rename_i hy;obtain⟨l,hl1,hl2⟩:=hyg _ _ hdx;obtain⟨u,hu1,hu2⟩:=hs.2 _ _ hl1;obtain⟨z,rfl,rfl,hz⟩:=qvc hl2 (zM.1 hc4 l (zw hl1)) hu2;refine⟨u,?_,.v _ _ hz⟩;rw[hget,zp (by omega),←hu1]
         congr 1;omega
        ·rename_i hy;have hcd:qan es x' y'=some d:=by simp[qan,hds,hdx]
         refine⟨us x' y',?_,hlow x' y' d hcd⟩;rw[hget,zo (by omega),hu x' y' d hcd]
       ·rw[zo hx]at hdx;obtain⟨hxl,hyl'⟩:=qdI hkk hdx;refine⟨us x' y',?_,hlow x' y' d hdx⟩;rw[hget,zo ?_,hu x' y' d hdx];rcases Nat.lt_or_gt_of_ne hx with h | h
        ·have:(x'+1)*k≤x*k:=zB _ h;rw[zR]at this;omega
        ·have:(x+1)*k≤x'*k:=zB _ h;rw[zR]at this;omega
      have hrow2:∀e∈es.set x (blitD ds y ys),e.length=k:=by
       intro e he;rcases zbf he with h | rfl
       ·exact hkk e h
       ·rw[qom (by omega)];exact hkd
      have:=Rep.row (w:=w.setRow b arr') (ω:=ω) (fun q o=>o=.tok t ((i,j)::q)) k (es.set x (blitD ds y ys)) b off cap arr' tyb (0,0) (fun x' y'=>arr'.getD (off+x'*k+y') undef) hhs hR' (by omega) (by omega) hrow2
       (fun x y d hd'=>by obtain⟨u,h1,_⟩:=hcell x y d hd';rw[h1];simp[zl,h1])
       (fun x y d hd'=>by obtain⟨u,h1,h2⟩:=hcell x y d hd';have:arr'.getD (off+x*k+y) undef=u:=(by simp[zl,h1]);rw[this];exact h2)
      rw[hlen]at this;exact this
     refine⟨w.setRow b arr',?_,ω,τ,hrel.snTurn (yT:=yT) hoth (fun _ _=>rfl) (fun c id hc e=>?_) (hrel.below.setRow hown1 arr') ?_ hroot.2 (qoM hroot hoth (fun _ _=>rfl) hhome hplace hdsT) hhome hplace hidx⟩
     ·simp only[Instr.storeAt,Instr.sureAddr,Sem.run_bind,Sem.run_pure,Result.andThen_ok,storeVar,sizeOf,typeInfo,run_program,e2];have hsz2:¬(v.cells.size≠inf.size):=by simp;omega
      rw[zo hsz2];exact hst
     ·exact hc (hrel.owned.lt (by rw[e];simp))
     ·intro c hcb;obtain⟨h3,arr2,ty2,h4⟩:=hrel.owned c hcb;by_cases hcb':c=b
      ·subst hcb';exact⟨h3,arr',tyb,hhs⟩
      ·exact⟨h3,arr2,ty2,(setRow_other w b c arr' hcb').trans h4⟩
   ·cases h
  ·cases h
 ·cases h
end Go.Sx
namespace Go.Sx
open Go.RowKit
theorem qoN{α:Type}{l:List α}{i:Nat}{a:α}(h:l[i]?=some a):l.set i a=l:=by
 apply List.ext_getElem?;intro x;rw[zad];by_cases hx:i=x
 ·subst hx;have:=(zk.1 h).1;rw[zp rfl,zp this,h]
 ·rw[zo hx]
def qlj(P:Program)(st:St)(d:Nat)(tys:TypeId)(t i j k:Nat)(es:List (List D))(y:Operand)(ans:List Ans):Stepped:=
 match qc0 P tys,qiX t st,ans with
 | some (e,k'),some (kT,esT),.el dsT::ans1=>
  match P.info? e,apSrc t k (st.ev y) ans1 with
  | some inf,some (es2,none,ans2,obs)=>
   match inf.zero with
   | some z=>
    if k'=k∧z.cells.size=k∧0<k then
     some (⟨(st.map (qa8 t i j k es kT esT)).env.set d (.one (.sn t i j k (es++es2) .away)),(st.map (qa8 t i j k es kT esT)).boxes⟩,ans2,
      ((es.length+es2.length)*inf.bytes≤140737488355328)::(es.length+es2.length≤9223372036854775807)::(esT[i]?=some dsT)::(dsT[j]?=some (.sl k es))::(((st.idx t j).map fun a=>a=i)++obs))
    else none
   | none=>none
  | _,_=>none
 | _,_,_=>none
def appendSnR(P:Program)(tys:TypeId)(t i j k:Nat)(es esT:List (List D))(q:PV)(ans:List Ans):Option (PV×List Ans×List Prop):=
 match qc0 P tys,ans with
 | some (e,k'),.el dsT::ans1=>
  match P.info? e,apSrc t k q ans1 with
  | some inf,some (es2,none,ans2,obs)=>
   match inf.zero with
   | some z=>
    if k'=k∧z.cells.size=k∧0<k then
     some (.one (.sn t i j k (es++es2) .away),ans2,
      ((es.length+es2.length)*inf.bytes≤140737488355328)::(es.length+es2.length≤9223372036854775807)::(esT[i]?=some dsT)::(dsT[j]?=some (.sl k es))::obs)
    else none
   | none=>none
  | _,_=>none
 | _,_=>none
theorem RelAt.appendSnR{P:Program}{w0:Base}{st:St}{a:Act}{w:World}{ω:Own}{τ:Nat→Nat×Value}{d:Nat}{tys ty:TypeId}{t i j k kT:Nat}{es esT:List (List D)}{x y:Operand}{p:PV}{ans ans':List Ans}{obs:List Prop}
  (hrel:RelAt w0 st a w ω τ) (hp:Sat w ω τ (.sn t i j k es .here) (a.eval x)) (h:Sx.appendSnR P tys t i j k es esT (st.ev y) ans=some (p,ans',obs)) (ho:Obs obs)
  (hroot:∃v,Sat w ω τ (.sl (.own t) kT esT) v) (hidx:∀a∈st.idx t j,a=i):
  ∃z w',(Builtin.append_ #[tys,tys] ty #[a.eval x,a.eval y]).run P w=.ok z w'∧Rel w0 ⟨(st.map (qa8 t i j k es kT esT)).env.set d p,(st.map (qa8 t i j k es kT esT)).boxes⟩ (a.put (some d) z) w':=by
 unfold Sx.appendSnR at h;split at h
 ·rename_i e k' dsT ans1 he;obtain⟨ht,inf0,hi0,hs0⟩:=qeK he;split at h
  ·rename_i inf es2 ans2 obs2 hi hsrc;rw[hi0]at hi;have hie:=zx hi;subst hie;split at h
   ·rename_i z hz;split at h
    ·rename_i hc;obtain⟨rfl,hzk,hk0⟩:=hc;simp only[za,zd]at h;obtain⟨rfl,_,rfl⟩:=h;obtain⟨hb1,hb2,hdsT,hdj,ho5⟩:=ho;obtain⟨_,news,hsr⟩:=qok (P:=P) hk0 (hrel.ev y) hsrc ho5;obtain⟨yT,hroot⟩:=hroot;obtain⟨u0,hu0,hr,hm⟩:=hp;have hhome:=hm rfl;have hu0:a.eval x=u0:=hu0;rw[hu0];generalize a.eval y=y2 at hsr;have hflat:∀x' y' d,qan es2 x' y'=some d→∃u,news[x'*k'+y']?=some u∧d=.v u∧u.oneCell'=true:=by
      intro x' y' d hd;obtain⟨u,h1,h2⟩:=hsr.cell x' y' d hd;rcases h2 with⟨v,rfl,rfl⟩ | ⟨s,hs,_⟩
      ·exact⟨u,h1,rfl,hsr.one u (zw h1)⟩
      ·cases hs
     have fin:∀(w1:World) (ω':Own) (r:Value),(∀c,c<w.heap.size→ω c≠.tok t [(i,j)]→w1.heap[c]?=w.heap[c]?)→(∀c,c<w.heap.size→ω' c=ω c)→(∀c id,¬c<w.heap.size→ω' c≠.box id)→Bel w0 w1→Owned w0 w1 ω'→
       Rep w1 ω' (fun q o=>o=.tok t ((i,j)::q)) (.sl k' es) u0→Rep w1 ω' (fun q o=>o=.tok t ((i,j)::q)) (.sl k' (es++es2)) r→
       Rel w0 ⟨(st.map (qa8 t i j k' es kT esT)).env.set d (.one (.sn t i j k' (es++es2) .away)),(st.map (qa8 t i j k' es kT esT)).boxes⟩ (a.put (some d) r) w1:=by
      intro w1 ω' r hoth hω hωn hbel hown hplace hres;have hrt2:=qoM hroot hoth hω hhome hplace hdsT;rw[qoN hdj,qoN hdsT]at hrt2;exact⟨ω',τ,(hrel.snTurn hoth hω hωn hbel hown hroot.2 hrt2 hhome hplace hidx).put (p:=.one (.sn t i j k' (es++es2) .away)) ⟨r,rfl,hres,fun hh=>by cases hh⟩⟩
     have hboxn:∀c id,¬c<w.heap.size→ω c≠.box id:=fun c id hc e=>hc (hrel.owned.lt (by rw[e];simp))
     by_cases hm0:es2.length=0
     ·have hes2:es2=[]:=zbv hm0;subst hes2;refine⟨u0,w,qoj ht hi0 w ?_ ?_,fin w ω u0 (fun _ _ _=>rfl) (fun _ _=>rfl) hboxn hrel.below hrel.owned hr (by rw[zaa];exact hr)⟩
      ·cases hr with
       | nil _ _ a0=>exact⟨a0,0,0,rfl,zO _⟩
       | row R k es b off cap arr ty fr us hb hR hc hs hk hu hd=>exact⟨some ⟨b,off,none⟩,_,cap,rfl,hc⟩
      ·rcases hsr.shape with⟨⟨a,h⟩,_⟩ | ⟨b,o,c,h,_⟩
       ·exact⟨a,0,h⟩
       ·exact⟨some ⟨b,o,none⟩,c,h⟩
     have hm1:0<es2.length:=by omega
     rcases hsr.shape with⟨_,h⟩ | ⟨sb,so,sc,rfl,hnews⟩
     ·rw[h]at hm1;simp at hm1
     have grown:∀(w1:World) (arr':Array Value) (r:Value) (cap':Nat),Blw w.heap.size w w1→w1.heap[w.heap.size]?=some (.cells arr' e (0,0))→r=.slice (some ⟨w.heap.size,0,none⟩) (es.length+es2.length) cap'→
       es.length+es2.length≤cap'→cap'*k'≤arr'.size→(∀i' j' d,qan es i' j'=some d→∃u,arr'[i'*k'+j']?=some u∧Rep w ω (fun q o=>o=.tok t ((i,j)::(i',j')::q)) d u)→
       (∀x u,news[x]?=some u→arr'[es.length*k'+x]?=some u)→(∀e∈es,e.length=k')→
       Rel w0 ⟨(st.map (qa8 t i j k' es kT esT)).env.set d (.one (.sn t i j k' (es++es2) .away)),(st.map (qa8 t i j k' es kT esT)).boxes⟩ (a.put (some d) r) w1:=by
      intro w1 arr' r cap' hbel hnew hreq hcap hsz hold hnw hrow;subst hreq
      let ω':Own:=fun c=>if c=w.heap.size then .tok t [(i,j)] else ω c
      have hω:∀c,c<w.heap.size→ω' c=ω c:=fun c hc=>by simp only[ω'];rw[zo (by omega)]
      have hself:ω' w.heap.size=.tok t [(i,j)]:=by simp[ω']
      refine fin w1 ω' _ (fun c hc _=>hbel.block c hc) hω (fun c id hc=>?_) (hrel.below.next hbel) (fun b hb=>?_) (hr.frame fun c q hc hq=>⟨by rw[hω c hc];exact hq,hbel.block c hc⟩) ?_
      ·simp only[ω'];split
       ·simp
       ·exact hboxn c id hc
      ·by_cases hbn:b=w.heap.size
       ·subst hbn;exact⟨.inl hrel.below.size,arr',e,hnew⟩
       ·simp only[ω']at hb;rw[zo hbn]at hb;obtain⟨h3,arr2,ty2,h4⟩:=hrel.owned b hb;exact⟨h3,arr2,ty2,(hbel.block b (hrel.owned.lt hb)).trans h4⟩
      ·have hcell:∀x j' d,qan (es++es2) x j'=some d→∃u,arr'[x*k'+j']?=some u∧Rep w1 ω' (fun q o=>o=.tok t ((i,j)::(x,j')::q)) d u:=by
        intro x j' d hd;rw[qg7]at hd;split at hd
        ·obtain⟨u,h1,h2⟩:=hold x j' d hd;exact⟨u,h1,h2.frame fun c q hc hq=>⟨by rw[hω c hc];exact hq,hbel.block c hc⟩⟩
        ·rename_i hx;obtain⟨u,h1,rfl,h2⟩:=hflat _ _ _ hd;refine⟨u,?_,.v _ _ h2⟩;rw[←hnw _ u h1]
         congr 1
         have:x=es.length+(x-es.length):=by omega
         rw[this,zR];simp only[Nat.add_sub_cancel_left];omega
       have hlen:(es++es2).length=es.length+es2.length:=zab;have hrow2:∀e∈es++es2,e.length=k':=by
        intro e' he;rcases zaz.1 he with h | h
        ·exact hrow e' h
        ·exact hsr.rows e' h
       have:=Rep.row (w:=w1) (ω:=ω') (fun q o=>o=.tok t ((i,j)::q)) k' (es++es2) w.heap.size 0 cap' arr' e (0,0) (fun x j=>arr'.getD (x*k'+j) undef) hnew hself (by omega) (by omega) hrow2
        (fun x j d hd=>by obtain⟨u,h1,_⟩:=hcell x j d hd;rw[zv,h1];simp[zl,h1])
        (fun x j d hd=>by obtain⟨u,h1,h2⟩:=hcell x j d hd;have:arr'.getD (x*k'+j) undef=u:=(by simp[zl,h1]);rw[this];exact h2)
       rw[hlen]at this;exact this
     subst hs0;have hr0:=hr;cases hr with
     | nil _ _ a0=>
      simp only[zh,zv]at hb1 hb2;have hrun:(Builtin.append_ #[tys,tys] ty #[.slice a0 0 0,.slice (some ⟨sb,so,none⟩) es2.length sc]).run P w=
        .ok (.slice (some ⟨w.heap.size,0,none⟩) es2.length (grownCap w es2.length 0 e)) (w.drew.alloc (.cells (news.toArray++Builtin.zeroCells z.cells (grownCap w es2.length 0 e-es2.length)) e)):=by
       cases a0 with
       | none=>exact run_append_nil (P:=P) w tys ty e inf0 z ht hi0 hz ⟨sb,so,none⟩ es2.length sc news hsr.len hnews hm1 (by omega) (by omega)
       | some b0=>
        have:=run_append_grow (P:=P) w tys ty e inf0 z ht hi0 hz b0 0 0 [] (by simp) (fun j v hv=>by simp at hv) ⟨sb,so,none⟩ es2.length sc news hsr.len hnews (by omega) (by omega) (growslice_fits (by omega) (by simpa using hb1));simpa using this
      have hge:=grownCap_ge w es2.length 0 e;exact⟨_,_,hrun,grown _ (news.toArray++Builtin.zeroCells z.cells (grownCap w es2.length 0 e-es2.length)) (.slice (some ⟨w.heap.size,0,none⟩) es2.length (grownCap w es2.length 0 e)) (grownCap w es2.length 0 e)
       (((Blw.refl _ _).drew).alloc (zO _) _) (qcr _ _) (by simp) (by simpa using hge) (by
        simp only[zbd,zac,size_zeroCells,hsr.len,hzk,←zR];exact zB _ (by omega))
       (fun i' j d hd=>by simp[qan]at hd) (fun x u hx=>by
        simp only[zh,Nat.zero_mul,zv];rw[zK,zp (by have:=(zk.1 hx).1;simpa using this)];simpa using hx) (fun e he=>by cases he)⟩
     | row R k es b off cap arr tyb fr us hb hR hc hs hkk hu hd=>
      have hR':ω b=.tok t [(i,j)]:=hR;obtain⟨hown1,arr0,ty0,hb0⟩:=hrel.owned b (by rw[hR'];simp);rw[hb]at hb0;simp only[za,Obj.cells.injEq]at hb0;obtain⟨rfl,rfl,rfl⟩:=hb0;have hblt:b<w.heap.size:=(zz.1 hb).1;by_cases hroom:es.length+es2.length≤cap
      ·have hmul:(es.length+es2.length)*inf0.size≤cap*inf0.size:=zB _ hroom;rw[zR]at hmul;have hnl:=hsr.len;have hfit:off+es.length*inf0.size+news.length≤arr.size:=by omega
       have hrun:=qiK (P:=P) (ty:=ty) ht hi0 w b off es.length cap arr tyb hb ⟨sb,so,none⟩ es2.length sc news hsr.len hnews hsr.one hroom hfit;generalize harr:(arr.toList.take (off+es.length*inf0.size)++news++arr.toList.drop (off+es.length*inf0.size+news.length)).toArray=arr' at hrun;have hget:∀x:Nat,arr'[x]?=if off+es.length*inf0.size≤x∧x<off+es.length*inf0.size+news.length then news[x-(off+es.length*inf0.size)]? else arr[x]?:=by
        intro x;rw[←harr,zY,qg5 (by simpa using hfit)];simp
       have hsz':arr'.size=arr.size:=by rw[←harr];simp;omega
       have hhs:=setRow_heap w b arr arr' tyb (0,0) hb;have hoth:∀c,c<w.heap.size→ω c≠.tok t [(i,j)]→(w.setRow b arr').heap[c]?=w.heap[c]?:=fun c _ hc=>setRow_other w b c arr' fun e=>hc (by rw[e];exact hR')
       have hlow:∀x' y' d u,Rep w ω (fun q o=>o=.tok t ((i,j)::(x',y')::q)) d u→Rep (w.setRow b arr') ω (fun q o=>o=.tok t ((i,j)::(x',y')::q)) d u:=by
        intro x' y' d u hcd;refine hcd.frame fun c q hc hq'=>⟨hq',hoth c hc fun e=>?_⟩
        rw[e]at hq';simp at hq'
       refine⟨_,_,hrun,fin (w.setRow b arr') ω _ hoth (fun _ _=>rfl) hboxn (hrel.below.setRow hown1 arr') (fun c hcb=>?_) (Rep.retop hr0 hb hhs hsz' (fun x hx=>by rw[hget,zo (by omega)]) (fun o e ho=>by rw[←e];exact ho) (fun c p q hc hq=>⟨hq,hoth c hc fun e=>by rw[e]at hq;simp at hq⟩)) ?_⟩
       ·obtain⟨h3,arr2,ty2,h4⟩:=hrel.owned c hcb;by_cases hcb':c=b
        ·subst hcb';exact⟨h3,arr',tyb,hhs⟩
        ·exact⟨h3,arr2,ty2,(setRow_other w b c arr' hcb').trans h4⟩
       ·have hcell:∀x j' d,qan (es++es2) x j'=some d→∃u,arr'[off+x*inf0.size+j']?=some u∧Rep (w.setRow b arr') ω (fun q o=>o=.tok t ((i,j)::(x,j')::q)) d u:=by
         intro x j' d hdx;rw[qg7]at hdx;split at hdx
         ·rename_i hx;have hjk:=(qdI hkk hdx).2;refine⟨us x j',?_,hlow x j' d _ (hd x j' d hdx)⟩;have:(x+1)*inf0.size≤es.length*inf0.size:=zB _ hx;rw[zR]at this;rw[hget,zo (by omega),hu x j' d hdx]
         ·rename_i hx;obtain⟨u,h1,rfl,h2⟩:=hflat _ _ _ hdx;have hxlt:=(zk.1 h1).1;have hxe:x*inf0.size=es.length*inf0.size+(x-es.length)*inf0.size:=by rw[←zR];congr 1;omega
          refine⟨u,?_,.v _ _ h2⟩;rw[hget,zp (by omega),←h1]
          congr 1
          omega
        have hlen:(es++es2).length=es.length+es2.length:=zab;have hrow2:∀e∈es++es2,e.length=inf0.size:=by
         intro e' he;rcases zaz.1 he with h | h
         ·exact hkk e' h
         ·exact hsr.rows e' h
        have:=Rep.row (w:=w.setRow b arr') (ω:=ω) (fun q o=>o=.tok t ((i,j)::q)) inf0.size (es++es2) b off cap arr' tyb (0,0) (fun x j=>arr'.getD (off+x*inf0.size+j) undef) hhs hR' (by omega) (by omega) hrow2
         (fun x j d hd=>by obtain⟨u,h1,_⟩:=hcell x j d hd;rw[h1];simp[zl,h1])
         (fun x j d hd=>by obtain⟨u,h1,h2⟩:=hcell x j d hd;have:arr'.getD (off+x*inf0.size+j) undef=u:=(by simp[zl,h1]);rw[this];exact h2)
        rw[hlen]at this;exact this
      ·have hmul:es.length*inf0.size≤cap*inf0.size:=zB _ hc;have holdl:((arr.toList.drop off).take (es.length*inf0.size)).length=es.length*inf0.size:=by simp;omega
       have hrun:=run_append_grow (P:=P) w tys ty e inf0 z ht hi0 hz ⟨b,off,none⟩ es.length cap ((arr.toList.drop off).take (es.length*inf0.size)) holdl (fun j v hv=>by
        rw[qcZ,cell_of_row w b (off+j) arr tyb (0,0) hb];rw[zF]at hv;split at hv
        ·rw[zA]at hv;simpa using hv
        ·cases hv) ⟨sb,so,none⟩ es2.length sc news hsr.len hnews (by omega) (by omega) (growslice_fits (by omega) hb1)
       have hge:=grownCap_ge w (es.length+es2.length) cap e;exact⟨_,_,hrun,grown _ (((arr.toList.drop off).take (es.length*inf0.size)).toArray++news.toArray++Builtin.zeroCells z.cells (grownCap w (es.length+es2.length) cap e-(es.length+es2.length))) _ (grownCap w (es.length+es2.length) cap e)
        (((Blw.refl _ _).drew).alloc (zO _) _) (qcr _ _) rfl hge (by
         simp only[zbd,zac,size_zeroCells,hsr.len,hzk,holdl,←zR];exact zB _ (by omega))
        (fun i' j d hd'=>by
         obtain⟨hi1,hj1⟩:=qdI hkk hd';have:(i'+1)*inf0.size≤es.length*inf0.size:=zB _ hi1;rw[zR]at this;refine⟨us i' j,?_,hd i' j d hd'⟩;rw[zK,zp (by simp only[zbd,zac,holdl];omega),zK,zp (by simp only[zac,holdl];omega)];rw[zY,zF,zp (by omega),zA,←hu i' j d hd'];simp only[zH]
         congr 1
         omega)
        (fun x u hx=>by
         have hxl:=(zk.1 hx).1;rw[zK,zp (by simp only[zbd,zac,holdl];omega),zK,zo (by simp only[zac,holdl];omega)];simp only[zac,holdl,zY];rw[←hx]
         congr 1
         omega) hkk⟩
    ·cases h
   ·cases h
  ·cases h
 ·cases h
theorem RelAt.appendSn{P:Program}{w0:Base}{st st':St}{a:Act}{w:World}{ω:Own}{τ:Nat→Nat×Value}{d:Nat}{tys ty:TypeId}{t i j k:Nat}{es:List (List D)}{x y:Operand}{ans ans':List Ans}{obs:List Prop}
  (hrel:RelAt w0 st a w ω τ) (hp:Sat w ω τ (.sn t i j k es .here) (a.eval x)) (h:qlj P st d tys t i j k es y ans=some (st',ans',obs)) (ho:Obs obs):
  ∃z w',(Builtin.append_ #[tys,tys] ty #[a.eval x,a.eval y]).run P w=.ok z w'∧Rel w0 st' (a.put (some d) z) w':=by
 unfold qlj at h;split at h
 ·rename_i e k' kT esT dsT ans1 he hrt;split at h
  ·rename_i inf es2 ans2 obs2 hi hsrc;split at h
   ·rename_i z hz;split at h
    ·rename_i hc;simp only[za,zd]at h;obtain⟨rfl,rfl,rfl⟩:=h;obtain⟨hb1,hb2,hdsT,hdj,ho5⟩:=ho;obtain⟨hidx,ho6⟩:=ho5.append;refine hrel.appendSnR (p:=.one (.sn t i j k (es++es2) .away)) (ans:=.el dsT::ans1) (ans':=ans2) (esT:=esT) (kT:=kT) hp ?_ (obs:=((es.length+es2.length)*inf.bytes≤140737488355328)::(es.length+es2.length≤9223372036854775807)::(esT[i]?=some dsT)::(dsT[j]?=some (.sl k es))::obs2) ⟨hb1,hb2,hdsT,hdj,ho6⟩ (hrel.root hrt) (qiM hidx);unfold Sx.appendSnR;simp only[he,hi,hsrc,hz];rw[zp hc]
    ·cases h
   ·cases h
  ·cases h
 ·cases h
