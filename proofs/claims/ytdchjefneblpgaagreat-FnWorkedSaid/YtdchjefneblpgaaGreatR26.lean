import Derived.Test.YtdchjefneblpgaaGreatR11
set_option linter.unusedVariables false
set_option linter.unusedSimpArgs false
namespace Go.Sx
open Go.RowKit
def Dv(P:Program)(st:aI)(d:Nat)(elem:TypeId)(r:List b9):Stepped:=
 match P.info? elem with
 | some i=>match i.zero with
  | some z=>if d<c7 then some (⟨(st.iM d []).env.set d (.one (.fa d (z.cells.toList.map .v))),(st.iM d []).boxes⟩,r,[]) else none
  | none=>none
 | none=>none
variable{w0:er}{st bp:aI}{a:Act}{w:World}{ω:Own}{τ:Nat->Nat×Value}{d:Nat}{ans cd:List b9}{obs:List Prop}
theorem cy.V0{P:Program}{elem:TypeId}(aV:cy w0 st a w ω τ)
  (h:Dv P st d elem ans=some (bp,cd,obs)):
  ∃z aN,(Instr.alloc elem true (.tuple #[])).run P w=.ok z aN/\Rel w0 bp (a.put (some d) z) aN:=by
 unfold Dv at h;split at h
 ·rename_i i hi;split at h
  ·rename_i z bf;split at h
   ·rename_i aD;simp only[aR,bx]at h;obtain⟨rfl,_,_⟩:=h;have h1:=aV.iM d aD [] (k:=0) (cap:=0) (es:=[]) (arr:=z.cells) (ty:=elem) ((gk.refl _ _).alloc (fk _) (.cells z.cells elem)) (mC _ _) (fk _) (by simp) (by simp)
     (by intro i j qb ai;simp[cY]at ai)
    refine⟨.pointer (some ⟨w.heap.size,0,none⟩),w.alloc (.cells z.cells elem),by simp[Instr.alloc,zeroValue,typeInfo,hi,bf,newVar,newRow],_,_,h1.1.put (p:=.one (.fa d (z.cells.toList.map .v))) ?_⟩;refine⟨w.heap.size,elem,z.cells,rfl,by simp[oG],mC _ _,by simp,fun j c ai=>?_⟩;rw[dj,b1]at ai;obtain⟨u,hu,rfl⟩:=ai;exact⟨u,by simpa using hu,rfl⟩
   cases h
  cases h
 cases h
def e8(t:Nat):Tag->Option Tag
 | .free=>some .free
 | .own s=>if s=t then none else some (.own s)
 | .ro s=>if s=t then none else some (.ro s)
variable{o:cV}
theorem Dw{t:Nat}{g ea:Tag}{q:List (Nat×Nat)}(h:e8 t g=some ea)(aA:g.R q o):ea=g/\∀dm,o≠.tok t dm:=by
 cases g with
 | free=>simp only[e8,aR]at h;subst h;simp only[Tag.R]at aA;subst aA;exact⟨rfl,fun dm e=>by cases e⟩
 | own s=>
  simp only[e8]at h;split at h
  ·cases h
  rename_i aj;simp only[aR]at h;subst h;simp only[Tag.R]at aA;subst aA;exact⟨rfl,fun dm e=>by simp only[cV.tok.injEq]at e;exact aj e.1⟩
 | ro s=>
  simp only[e8]at h;split at h
  ·cases h
  rename_i aj;simp only[aR]at h;subst h;simp only[Tag.R]at aA;refine⟨rfl,fun dm e=>?_⟩;subst e;rcases aA with aA | ⟨lm,aA⟩
  ·cases aA
  simp only[cV.tok.injEq]at aA;exact aj aA.1.symm
variable{s:Nat}
theorem H4{x:Value}(this:a.tmps[s]?=some x):a.put (some s) x=a:=by
 simp only[Act.put];have:a.tmps.setIfInBounds s x=a.tmps:=by
  apply Array.ext
  ·simp
  intro i h1 U;rw[Array.getElem_setIfInBounds];split
  ·rename_i hi;subst hi;rw[gS U]at this;exact (eN this).symm
  rfl
 rw[this]
def aB.kQ:aB->eL
 | .v x=>.v x
 | .ba c=>.v (.bool c)
 | .J t k es=>.J t k es
 | _=>.cq
def HC(p:aJ):Option (List eL):=p.leaves.map (·.map aB.kQ)
theorem aB.Ol{l:aB}{y:Value}(h:Sat w ω τ l y):p' w ω τ l.kQ y:=by
 cases l<;>first | exact h | exact trivial
def eL.leaf:eL->aB
 | .cq=>.cq
 | .v x=>.v x
 | .J t k es=>.J t k es
theorem eL.dB{τ:Nat->Nat×Value}{c:eL}{y:Value}(h:p' w ω τ c y):Sat w ω τ c.leaf y:=by
 cases c<;>exact h
def Dx(P:Program)(st:aI)(ty:TypeId)(s:Nat)(q:aJ)(ans:List b9):Stepped:=
 match (st.env.getD s .cq).leaf,HC q,P.info? ty with
 | some (.fa t vs),some cs,some i=>
  if cs.length=i.size/\cs.length<=vs.length then
   let st2:=st.map (aB.ci (e8 t) fun _=>true)
   some (⟨st2.env.set s (.one (.fa t ((cs++vs.drop cs.length).map (eL.ci (e8 t))))),st2.boxes⟩,ans,[])
  else none
 | _,_,_=>none
theorem cy.asU{P:Program}{ty:TypeId}{q:aJ}{v:Value}
  (aV:cy w0 st a w ω τ) (aE:cL (Sat w ω τ) q v) (h:Dx P st ty s q ans=some (bp,cd,obs)):
  ∃aN,(Instr.storeAt ty (a.eval (.tmp s)) v).run P w=.ok () aN/\Rel w0 bp a aN:=by
 unfold Dx at h;split at h
 ·rename_i t vs cs i e1 e2 cb;split at h
  ·rename_i ai;obtain⟨c1,c2⟩:=ai;simp only[aR,bx]at h;obtain⟨rfl,_,_⟩:=h;unfold HC at e2;rw[b1]at e2;obtain⟨ls,e2,rfl⟩:=e2;obtain⟨uM,pu⟩:=aJ.wS e2 aE;have di:v.cells.size=ls.length:=uM.1;rw[bk]at c1 c2;have hD:st.env[s]?=some (.one (.fa t vs)):=by
    rw[ii]at e1;cases e:st.env[s]? with
    | none=>rw[e]at e1;simp[aJ.leaf]at e1
    | some p=>
     rw[e]at e1;simp only[ij]at e1;cases p with
     | fJ as=>cases e1
     | aK x=>
      cases x with
      | agg ls=>cases e1
      | one l=>simp only[aJ.leaf,aR]at e1;rw[e1]
   obtain⟨y,bl,ey⟩:=aV.env s _ hD;obtain⟨b,hf,arr,rfl,ar,wF,N2,rJ⟩:=ey;have qi:a.eval (.tmp s)=ptrTo b:=by simp[Act.eval,d',bl]
   have eE:=run_storeCells_at P b 0 hf v.cells.toList 0 arr w wF (by simp;omega) pu;obtain⟨b7,mr⟩:∃b7,b7=(arr.toList.take (0+0)++v.cells.toList++arr.toList.drop (0+0+v.cells.toList.length)).toArray:=⟨_,rfl⟩
   rw[<-mr]at eE;have Nd:b7=(v.cells.toList++arr.toList.drop v.cells.size).toArray:=by rw[mr];simp
   refine⟨w.setRow b b7,?_,?_⟩
   ·rw[qi];simp only[ptrTo,Instr.storeAt,Instr.sureAddr,Sem.run_bind,Sem.run_pure,Result.andThen_ok,storeVar,sizeOf,typeInfo,run_program,cb];rw[bh (by simp;omega)];exact eE
   have jc:=setRow_heap w b arr b7 hf (0,0) wF;have bi:k7 w ω τ (w.setRow b b7) ω τ (e8 t) (fun _=>true):=by
    refine⟨?_,?_,fun id c _ ai=>ai,rfl,fun _ _=>rfl⟩
    ·intro g ea c q au _ aE;obtain⟨rfl,sS⟩:=Dw au aE;exact⟨aE,setRow_other w b c _ fun e=>sS [] (by rw[e];exact ar)⟩
    intro g ea y au bl;cases g with
    | free=>simp only[e8,aR]at au;subst au;trivial
    | own x=>
     simp only[e8]at au;split at au
     ·cases au
     simp only[aR]at au;subst au;exact bl
    | ro x=>
     simp only[e8]at au;split at au
     ·cases au
     simp only[aR]at au;subst au;trivial
   have h1:cy w0 (st.map (aB.ci (e8 t) fun _=>true)) a (w.setRow b b7) ω τ:=by
    refine aV.ec _ bi.sat (aV.below.setRow (aV.owned b (by rw[ar];simp)).1 _) ?_ (fun id c ai=>⟨ai,setRow_other w b c _ fun e=>by rw[e,ar]at ai;cases ai⟩) (fun id c ai=>ai) (fun _ _=>rfl);intro c ai;obtain⟨h1,h3,ih,U⟩:=aV.owned c ai;by_cases e:c=b
    ·subst e;exact⟨h1,_,hf,jc⟩
    exact⟨h1,h3,ih,(setRow_other w b c _ e).trans U⟩
   have Ni:b7.size=(ls.map aB.kQ++vs.drop (ls.map aB.kQ).length).length/\∀(j:Nat) (c:eL),(ls.map aB.kQ++vs.drop (ls.map aB.kQ).length)[j]?=some c->∃u,b7[j]?=some u/\p' w ω τ c u:=by
    refine⟨by rw[Nd];simp;omega,fun j c ai=>?_⟩;rw[Nd,l8];by_cases a6:j<ls.length
    ·rw[xU (by simpa using a6),dj,b1]at ai;obtain⟨l,al,rfl⟩:=ai;obtain⟨u,fG,eV⟩:=uM.2 j l al;exact⟨u,by rw[xU (by simp;omega)];simpa using fG,aB.Ol eV⟩
    rw[vV (by simpa using a6),bk,gQ]at ai;obtain⟨u,fG,eV⟩:=rJ _ c ai;refine⟨u,?_,eV⟩;rw[vV (by simp;omega),gQ,iC,<-fG]
    congr 1
    simp only[uc];omega
   have Gv:=CN bi.kQ Ni.1 Ni.2;have U:=h1.put (d:=s) (p:=.one (.fa t ((ls.map aB.kQ++vs.drop (ls.map aB.kQ).length).map (eL.ci (e8 t))))) (v:=ptrTo b) ⟨b,hf,b7,rfl,ar,jc,Gv⟩;rw[H4 bl]at U;exact⟨ω,τ,U⟩
  cases h
 cases h
def HF(st:aI)(d:Nat):Option aI:=
 match st.env.getD d .cq with
 | .aK (.one (.fa t vs))=>
  if d<c7 then some ⟨(st.env.map (aJ.map (aB.ci (e8 t) (jj d)))).set d (.one (.ptr d 0)),(d,vs.map fun c=>aB.ci (e8 t) (jj d) c.leaf)::(oD d st.boxes).map fun x=>(x.1,x.2.map (aB.ci (e8 t) (jj d)))⟩ else none
 | _=>none
theorem ajV(h:Rel w0 st a w)(aW:HF st d=some bp):Rel w0 bp a w:=by
 obtain⟨ω,τ,h⟩:=h;unfold HF at aW;split at aW
 ·rename_i t vs he;split at aW
  case isFalse=>cases aW
  rename_i ru;simp only[aR]at aW;subst aW;have hD:st.env[d]?=some (.one (.fa t vs)):=by
   rw[ii]at he;cases e:st.env[d]? with
   | none=>rw[e]at he;cases he
   | some p=>rw[e]at he;simp only[ij]at he;rw[he]
  obtain⟨v,sX,rI⟩:=h.env d _ hD;obtain⟨b,ty,arr,rfl,ar,wF,N2,rJ⟩:=rI
  let a1:Own:=fun c=>if c=b then .box d else match ω c with | .box i=>if i=d then .bB else .box i | o=>o
  have ku:a1 b=.box d:=by simp[a1]
  have gD:∀c,c≠b->a1 c=(match ω c with | .box i=>if i=d then .bB else .box i | o=>o):=by
   intro c ai;simp only[a1];rw[bh ai]
  have bi:k7 w ω τ w a1 τ (e8 t) (jj d):=by
   refine⟨?_,?_,?_,rfl,fun _ _=>rfl⟩
   ·intro g ea c q au _ aE;obtain⟨rfl,sS⟩:=Dw au aE;have fM:c≠b:=fun e=>sS [] (by rw[e];exact ar)
    refine⟨?_,rfl⟩;rw[gD c fM];cases ea with
    | free=>simp only[Tag.R]at aE ⊢;rw[aE]
    | own s=>simp only[Tag.R]at aE ⊢;rw[aE]
    | ro s=>
     simp only[Tag.R]at aE ⊢;rcases aE with aE | ⟨dm,aE⟩
     ·rw[aE];exact .inl rfl
     rw[aE];exact .inr ⟨dm,rfl⟩
   ·intro g ea y au bl;cases g with
    | free=>simp only[e8,aR]at au;subst au;trivial
    | own s=>
     simp only[e8]at au;split at au
     ·cases au
     simp only[aR]at au;subst au;exact bl
    | ro s=>
     simp only[e8]at au;split at au
     ·cases au
     simp only[aR]at au;subst au;trivial
   intro i c hp ai;have fM:c≠b:=fun e=>by rw[e,ar]at ai;cases ai
   rw[gD c fM,ai];simp only[jj,cU]at hp;simp[hp]
  have pv:mX w0 w a1:=by
   intro c ai;by_cases e:c=b
   ·subst e;exact h.owned c (by rw[ar];simp)
   rw[gD c e]at ai;exact h.owned c (fun e'=>by rw[e']at ai;exact ai rfl)
  have key:=h.FC (bs:=(d,vs.map fun c=>aB.ci (e8 t) (jj d) c.leaf)::(oD d st.boxes).map fun x=>(x.1,x.2.map (aB.ci (e8 t) (jj d)))) bi h.below pv ?_ (fun i c hi ai=>by
   by_cases aW:c=b
   ·subst aW;rw[ku]at ai;simp only[cV.box.injEq]at ai;omega
   rw[gD c aW]at ai;cases e:ω c with
   | bB=>simp[e]at ai
   | tok t q=>simp[e]at ai
   | box j=>
    simp only[e]at ai;split at ai
    ·cases ai
    exact ai)
  ·have:=key.put (d:=d) (p:=.one (.ptr d 0)) (v:=ptrTo b) ⟨b,ku,rfl⟩;rw[H4 sX]at this;exact⟨a1,τ,this⟩
  intro i eW al;simp only[dp]at al;split at al
  ·rename_i hi;subst hi;have e:=eN al;subst e;refine⟨b,arr,ty,ku,?_,wF,by simpa using N2,fun j l a6=>?_⟩
   ·intro cW dn;by_cases aW:cW=b
    ·exact aW
    rw[gD cW aW]at dn;cases e:ω cW with
    | bB=>simp[e]at dn
    | tok t q=>simp[e]at dn
    | box j=>
     simp only[e]at dn;split at dn
     ·cases dn
     rename_i cB;simp only[cV.box.injEq]at dn;exact absurd dn cB
   rw[dj,b1]at a6;obtain⟨c,ai,rfl⟩:=a6;obtain⟨u,fG,eV⟩:=rJ j c ai;exact⟨u,fG,bi.sat _ _ (eL.dB eV)⟩
  rename_i hi;rw[rZ,b1]at al;obtain⟨iK,bN,rfl⟩:=al;have cB:i≠d:=fun e=>hi e.symm
  rw[w' cB]at bN;obtain⟨c,b7,p6,ai,hu,bJ,ey⟩:=h.boxes i iK bN;refine⟨c,b7,p6,bi.box i c (by simp[jj,cB]) ai,?_,bJ,ey.map bi.sat⟩;intro cW dn;by_cases aW:cW=b
  ·subst aW;rw[ku]at dn;simp only[cV.box.injEq]at dn;exact absurd dn.symm cB
  rw[gD cW aW]at dn;refine hu cW ?_;cases e:ω cW with
  | bB=>simp[e]at dn
  | tok t q=>simp[e]at dn
  | box j=>
   simp only[e]at dn;split at dn
   ·cases dn
   exact dn
 cases aW
def Fp(st:aI)(d:Nat):Option aI:=
 match st.env.getD d .cq,dp d st.boxes with
 | .aK (.one (.ptr dt 0)),some ls=>
  if dt=d/\d<c7 then some ⟨(st.env.map (aJ.map (aB.ci (e8 d) (jj d)))).set d (.one (.fa d ((ls.map aB.kQ).map (eL.ci (e8 d))))),(oD d st.boxes).map fun x=>(x.1,x.2.map (aB.ci (e8 d) (jj d)))⟩ else none
 | _,_=>none
theorem ajW(h:Rel w0 st a w)(aW:Fp st d=some bp):Rel w0 bp a w:=by
 obtain⟨ω,τ,h⟩:=h;unfold Fp at aW;split at aW
 ·rename_i dt ls he cn;split at aW
  case isFalse=>cases aW
  rename_i ru;obtain⟨rfl,ru⟩:=ru;simp only[aR]at aW;subst aW;have hD:st.env[dt]?=some (.one (.ptr dt 0)):=by
   rw[ii]at he;cases e:st.env[dt]? with
   | none=>rw[e]at he;cases he
   | some p=>rw[e]at he;simp only[ij]at he;rw[he]
  obtain⟨v,sX,rI⟩:=h.env dt _ hD;obtain⟨cg,hB,rfl⟩:=rI;obtain⟨b,arr,ty,ar,WK,wF,uM⟩:=h.boxes dt ls cn;have F1:cg=b:=WK cg hB;subst F1
  let a1:Own:=fun c=>if c=cg then .tok dt [] else match ω c with | .tok s q=>if s=dt then .bB else .tok s q | o=>o
  have ku:a1 cg=.tok dt []:=by simp[a1]
  have gD:∀c,c≠cg->a1 c=(match ω c with | .tok s q=>if s=dt then .bB else .tok s q | o=>o):=by
   intro c ai;simp only[a1];rw[bh ai]
  have bi:k7 w ω τ w a1 τ (e8 dt) (jj dt):=by
   refine⟨?_,?_,?_,rfl,fun _ _=>rfl⟩
   ·intro g ea c q au _ aE;obtain⟨rfl,sS⟩:=Dw au aE;have fM:c≠cg:=fun e=>by
     rw[e,ar]at aE;cases ea with
     | free=>cases aE
     | own s=>cases aE
     | ro s=>
      rcases aE with aE | ⟨dm,aE⟩
      ·cases aE
      cases aE
    refine⟨?_,rfl⟩;rw[gD c fM];cases ea with
    | free=>simp only[Tag.R]at aE ⊢;rw[aE]
    | own s=>
     simp only[Tag.R]at aE ⊢;rw[aE];simp only;rw[bh];rintro rfl;exact sS _ aE
    | ro s=>
     simp only[Tag.R]at aE ⊢;rcases aE with aE | ⟨dm,aE⟩
     ·rw[aE];exact .inl rfl
     rw[aE];simp only;rw[bh]
     ·exact .inr ⟨dm,rfl⟩
     rintro rfl;exact sS _ aE
   ·intro g ea y au bl;cases g with
    | free=>simp only[e8,aR]at au;subst au;trivial
    | own s=>
     simp only[e8]at au;split at au
     ·cases au
     simp only[aR]at au;subst au;exact bl
    | ro s=>
     simp only[e8]at au;split at au
     ·cases au
     simp only[aR]at au;subst au;trivial
   intro i c hp ai;simp only[jj,cU]at hp;have fM:c≠cg:=fun e=>by rw[e,ar]at ai;simp only[cV.box.injEq]at ai;exact hp ai.symm
   rw[gD c fM,ai]
  have pv:mX w0 w a1:=by
   intro c ai;by_cases e:c=cg
   ·subst e;exact h.owned c (by rw[ar];simp)
   rw[gD c e]at ai;exact h.owned c (fun e'=>by rw[e']at ai;exact ai rfl)
  have Nf:∀i c,a1 c=.box i->ω c=.box i/\c≠cg:=by
   intro i c ai;by_cases aW:c=cg
   ·subst aW;rw[ku]at ai;cases ai
   rw[gD c aW]at ai;cases e:ω c with
   | bB=>simp[e]at ai
   | box j=>simp only[e]at ai;exact⟨ai,aW⟩
   | tok t q=>
    simp only[e]at ai;split at ai<;>cases ai
  have key:=h.FC (bs:=(oD dt st.boxes).map fun x=>(x.1,x.2.map (aB.ci (e8 dt) (jj dt)))) bi h.below pv ?_ (fun i c _ ai=>(Nf i c ai).1)
  ·have:=key.put (d:=dt) (p:=.one (.fa dt ((ls.map aB.kQ).map (eL.ci (e8 dt))))) (v:=ptrTo cg) ⟨cg,ty,arr,rfl,ku,wF,CN bi.kQ (by rw[uM.1];simp) (fun j c ai=>by
    rw[dj,b1]at ai;obtain⟨l,al,rfl⟩:=ai;obtain⟨u,fG,eV⟩:=uM.2 j l al;exact⟨u,fG,aB.Ol eV⟩)⟩
   rw[H4 (show a.tmps[dt]?=some (ptrTo cg) from sX)]at this;exact⟨a1,τ,this⟩
  intro i eW al;rw[rZ,b1]at al;obtain⟨iK,bN,rfl⟩:=al;have cB:i≠dt:=fun e=>by rw[e,Iy]at bN;cases bN
  rw[w' cB]at bN;obtain⟨c,b7,p6,ai,hu,bJ,ey⟩:=h.boxes i iK bN;exact⟨c,b7,p6,bi.box i c (by simp[jj,cB]) ai,fun cW dn=>hu cW (Nf i cW dn).1,bJ,ey.map bi.sat⟩
 cases aW
def zH:List Nat->aI->Option aI
 | [],st=>some st
 | d::ds,st=>(Fp st d).bind (zH ds)
theorem O1:∀{ds:List Nat} {st bp:aI},Rel w0 st a w->zH ds st=some bp->Rel w0 bp a w
 | [],st,bp,h,aW=>by simp only[zH,aR]at aW;subst aW;exact h
 | d::ds,st,bp,h,aW=>by
  simp only[zH,lA]at aW;obtain⟨st1,h1,U⟩:=aW;exact O1 (ajW h h1) U
def zI:List Nat->aI->Option aI
 | [],st=>some st
 | d::ds,st=>(HF st d).bind (zI ds)
theorem O2:∀{ds:List Nat} {st bp:aI},Rel w0 st a w->zI ds st=some bp->Rel w0 bp a w
 | [],st,bp,h,aW=>by simp only[zI,aR]at aW;subst aW;exact h
 | d::ds,st,bp,h,aW=>by
  simp only[zI,lA]at aW;obtain⟨st1,h1,U⟩:=aW;exact O2 (ajV h h1) U
def j3(s n:Nat):Tag->Option Tag
 | .own x=>if x=s then some (.ro n) else if x=n then none else some (.own x)
 | .ro x=>if x=s then some (.ro n) else if x=n then none else some (.ro x)
 | .free=>some .free
def jk(s n l:Nat):cV->cV
 | .tok x q=>if x=s then (match q with | []=>.tok n [] | (i,j)::r=>if i<l then .bB else .tok n ((i-l,j)::r)) else if x=n then .bB else .tok x q
 | o=>o
variable{l n:Nat}
theorem Jc(h:jk s n l o≠.bB):o≠.bB:=by rintro rfl;exact h rfl
theorem tj{id:Nat}:jk s n l o=.box id<->o=.box id:=by
 cases o with
 | bB=>simp[jk]
 | box i=>simp[jk]
 | tok x q=>
  simp only[jk];split
  ·split
   ·simp
   ·split<;>simp
  ·split<;>simp
theorem O3{q:List (Nat×Nat)}:jk s n l (.tok s q)=.bB\/∃dm,jk s n l (.tok s q)=.tok n dm:=by
 simp only[jk,gy];split
 ·exact .inr ⟨_,rfl⟩
 split
 ·exact .inl rfl
 exact .inr ⟨_,rfl⟩
theorem Jd{k:Nat}{z:Value}(hN:n<c7):k7 w ω τ w (fun b=>jk s n l (ω b)) (fV τ n k z) (j3 s n) (fun _=>true):=by
 refine⟨?_,?_,?_,rfl,fun t bQ=>by simp only[fV];rw[bh (by omega)]⟩
 ·intro g ea b q au _ aE;refine⟨?_,rfl⟩;cases g with
  | free=>simp only[j3,aR]at au;subst au;simp only[Tag.R]at aE ⊢;rw[aE];rfl
  | own x=>
   simp only[j3]at au;simp only[Tag.R]at aE;split at au
   ·rename_i aj;simp only[aR]at au;subst au;subst aj;simp only[Tag.R,aE];exact O3
   rename_i aj;split at au
   ·cases au
   rename_i aW;simp only[aR]at au;subst au;simp only[Tag.R,aE,jk,bh aj,bh aW]
  | ro x=>
   simp only[j3]at au;simp only[Tag.R]at aE;split at au
   ·rename_i aj;simp only[aR]at au;subst au;subst aj;rcases aE with aE | ⟨dm,aE⟩
    ·rw[aE];exact .inl rfl
    rw[aE];exact O3
   rename_i aj;split at au
   ·cases au
   rename_i aW;simp only[aR]at au;subst au;rcases aE with aE | ⟨dm,aE⟩
   ·rw[aE];exact .inl rfl
   rw[aE];simp only[jk,bh aj,bh aW];exact .inr ⟨dm,rfl⟩
 ·intro g ea y au bl;cases g with
  | free=>simp only[j3,aR]at au;subst au;trivial
  | own x=>
   simp only[j3]at au;split at au
   ·simp only[aR]at au;subst au;trivial
   rename_i aj;split at au
   ·cases au
   rename_i aW;simp only[aR]at au;subst au;simp only[Tag.dT,fV,bh aW]at bl ⊢;exact bl
  | ro x=>
   simp only[j3]at au;split at au
   ·simp only[aR]at au;subst au;trivial
   split at au
   ·cases au
   simp only[aR]at au;subst au;trivial
 intro id b _ ar;exact tj.2 ar
def nO(s d:Nat):Nat:=if s<c7 then s else d
def xM(P:Program)(st:aI)(d:Nat)(t:TypeId)(p:aJ)(cX hi iu:Option Operand)(ans:List b9):Stepped:=
 match pM P t,p.leaf,iu with
 | some (_,k),some (.J (.own s) cp es),none=>
  if k=cp/\nO s d<c7 then
   match ln st cX,ln st hi with
   | some l,some h=>
    let st2:=st.map (aB.ci (j3 s (nO s d)) fun _=>true)
    some (⟨st2.env.set d (.one (.J (.own (nO s d)) k ((es.drop (l.getD 0).toNat).take ((h.getD es.length).toNat-(l.getD 0).toNat)))),st2.boxes⟩,ans,[0<=l.getD 0,l.getD 0<=h.getD es.length,h.getD es.length<=es.length])
   | _,_=>none
  else none
 | _,_,_=>none
theorem cy.xM{P:Program}{t:TypeId}{p:aJ}{v:Value}{cX hi iu:Option Operand}
  (aV:cy w0 st a w ω τ) (hp:cL (Sat w ω τ) p v) (h:xM P st d t p cX hi iu ans=some (bp,cd,obs)) (aZ:cG obs):
  ∃z,(Instr.sliceAt t v (cX.map a.eval) (hi.map a.eval) (iu.map a.eval)).run P w=.ok z w/\Rel w0 bp (a.put (some d) z) w:=by
 unfold Go.Sx.xM at h;split at h
 ·rename_i e k s cp es e1 e2;split at h
  ·rename_i hk;obtain⟨rfl,aj⟩:=hk;split at h
   ·rename_i l bJ cb ef;simp only[aR,bx]at h;obtain⟨rfl,_,rfl⟩:=h;obtain⟨hu,i,ks,bf⟩:=vv e1;obtain⟨aA,_⟩:=aJ.dB e2 hp;obtain⟨cC,cc,cH,_⟩:=aZ;have aw:=zx aV cb;have aH:=zx aV ef;have po:(cX.map a.eval=none/\l.getD 0=0)\/∃k,cX.map a.eval=some (.int k (l.getD 0)):=by
     rcases aw with⟨h,rfl⟩ | ⟨k,n,h,rfl⟩
     ·exact .inl ⟨h,rfl⟩
     exact .inr ⟨k,h⟩
    have rz:(hi.map a.eval=none/\bJ.getD es.length=es.length)\/∃k,hi.map a.eval=some (.int k (bJ.getD es.length)):=by
     rcases aH with⟨h,rfl⟩ | ⟨k,n,h,rfl⟩
     ·exact .inl ⟨h,rfl⟩
     exact .inr ⟨k,h⟩
    have key:∀(L m:Nat) (z:Value),L<=m->bV w (fun b=>jk s (nO s d) L (ω b)) (Tag.own (nO s d)).R (.J k ((es.drop L).take (m-L))) z->
      Rel w0 ⟨(st.map (aB.ci (j3 s (nO s d)) fun _=>true)).env.set d (.one (.J (.own (nO s d)) k ((es.drop L).take (m-L)))),(st.map (aB.ci (j3 s (nO s d)) fun _=>true)).boxes⟩ (a.put (some d) z) w:=by
     intro L m z _ Cl;have h1:cy w0 (st.map (aB.ci (j3 s (nO s d)) fun _=>true)) a w (fun b=>jk s (nO s d) L (ω b)) (fV τ (nO s d) k z):=
      aV.ec _ (Jd (by omega)).sat aV.below (fun b ar=>aV.owned b (Jc ar)) (fun id b ar=>⟨tj.2 ar,rfl⟩) (fun id b ar=>tj.1 ar)
       (fun t bQ=>by simp only[fV];rw[bh (by omega)])
     exact⟨_,_,h1.put (p:=.one (.J (.own (nO s d)) k ((es.drop L).take (m-L)))) ⟨Cl,by simp[Tag.dT,fV]⟩⟩
    cases aA with
    | nil _ _ a0=>
     simp only[bW] at*;have bE:l.getD 0=0:=by omega
     have Fw:bJ.getD ((0:Nat):Int)=0:=by omega
     refine⟨.slice a0 0 0,?_,?_⟩
     ·simp only[Instr.sliceAt,Sem.run_bind,run_underlying hu,Result.andThen_ok,Instr.slice,Option.map_none];rw[zw po rz cC cc cH];have Fx:bJ.getD 0=0:=by simpa using Fw
      simp[sizeOf,typeInfo,ks,bE,Fx]
     refine key _ _ _ (by omega) ?_;simp only[List.drop_nil,List.take_nil];exact .nil _ _ _
    | row R k es b off cap arr ty cO us ar dM ai di hk je aD=>
     refine⟨sliced (some ⟨b,off,none⟩) (l.getD 0).toNat (bJ.getD es.length).toNat cap k,?_,?_⟩
     ·simp only[Instr.sliceAt,Sem.run_bind,run_underlying hu,Result.andThen_ok,Instr.slice,Option.map_none];rw[zw po rz cC cc (by omega)];simp[sizeOf,typeInfo,ks,bf,sliced]
     refine key _ _ _ (by omega) ?_;have:=bV.sub (.row _ k es b off cap arr ty cO us ar dM ai di hk je aD) (l:=(l.getD 0).toNat) (m:=(bJ.getD es.length).toNat) (by omega) (by omega)
      (h0:=fun q o=>match q with | []=>o=.tok s [] | (i,j)::r=>o=.tok s ((i+(l.getD 0).toNat,j)::r)) (fun o h=>h) (fun i j q o XC h=>by
       simp only[Tag.R]at h;simp only[Nat.sub_add_cancel XC];exact h)
     refine this.frame fun c q _ aE=>⟨?_,rfl⟩
     simp only[Tag.R];cases q with
     | nil=>simp only at aE;rw[aE];simp[jk]
     | cons x r=>
      obtain⟨i,j⟩:=x;simp only at aE;rw[aE];have cw:¬(i+(l.getD 0).toNat<(l.getD 0).toNat):=by omega
      simp only[jk,gy,bh cw,Nat.add_sub_cancel]
   cases h
  cases h
 cases h
end Go.Sx
namespace Go.Sx
open Go.RowKit
def laid(arr:Array Value)(o:Nat)(cs:List Value):Array Value:=(arr.toList.take o++cs++arr.toList.drop (o+cs.length)).toArray
theorem tk{arr:Array Value}{o:Nat}{cs:List Value}(h:o+cs.length<=arr.size):(laid arr o cs).size=arr.size:=by
 simp[laid];omega
theorem mG{arr:Array Value}{o:Nat}{cs:List Value}(h:o+cs.length<=arr.size)(x:Nat):
  (laid arr o cs)[x]?=if o<=x/\x<o+cs.length then cs[x-o]? else arr[x]?:=by
 simp only[laid,l8,t'];have al:(arr.toList.take o).length=o:=by simp;omega
 split
 ·rename_i ag;rw[vV (by omega),xU (by omega),al]
 rename_i ag;by_cases h1:x<o
 ·rw[xU (by omega),hh,br h1,iC]
 rw[vV (by omega),vV (by omega),al,gQ,iC]
 congr 1
 omega
theorem Dy{P:Program}(w:World)(dW bg ty elem:TypeId)(k b o BV Wb:Nat)(arr:Array Value)(tb:TypeId)(a:Addr)(AH T9:Nat)(cs:List Value)
  (hu:P.underlying dW=some (.slice elem)) (aj:(P.info? elem).map (·.size)=some k) (ar:w.heap[b]?=some (.cells arr tb (0,0))) (aW:cs.length=Nat.min AH BV*k)
  (io:∀j v,cs[j]?=some v->w.cell? (a.add j)=some v) (dO:o+cs.length<=arr.size) (h1:∀v∈cs,v.oneCell'=true):
  (Builtin.copy_ #[dW,bg] ty #[.slice (some ⟨b,o,none⟩) BV Wb,.slice (some a) AH T9]).run P w=.ok (goInt (Nat.min AH BV)) (w.setRow b (laid arr o cs)):=by
 have bT:=run_firstCells_some (P:=P) w k (Nat.min AH BV) a AH T9 cs aW io;have eE:=run_storeCells_at P b o tb cs 0 arr w ar (by simpa using dO) h1;simp only[lC]at eE;cases aE:P.info? elem with
 | none=>simp[aE]at aj
 | some i=>
  have hi:i.size=k:=by simpa[aE]using aj
  subst hi;simp[Builtin.copy_,run_underlying hu,Builtin.lenOf,sizeOf,typeInfo,aE,bT,eE,laid]
theorem ajX{P:Program}(w:World)(t e ty:TypeId)(z:Value)(bQ:P.underlying t=some (.slice e))(bt:(zeroValue e).run P w=.ok z w)(b o n c:Nat)(arr:Array Value)(tb:TypeId)
  (ar:w.heap[b]?=some (.cells arr tb (0,0))) (dO:o+n*z.cells.size<=arr.size) (h1:∀v∈z.cells.toList,v.oneCell'=true):
  ∃zs:List Value,zs.length=n*z.cells.size/\(∀m,m<n*z.cells.size->zs[m]?=z.cells[m % z.cells.size]?)/\(Builtin.clear_ #[t] ty #[.slice (some ⟨b,o,none⟩) n c]).run P w=.ok (.tuple #[]) (if n=0 then w else w.setRow b (laid arr o zs)):=by
 refine⟨(Builtin.zeroCells z.cells n).toList,by simp[Builtin.zeroCells],fun m hm=>?_,?_⟩
 ·have Ck:0<z.cells.size:=by
   rcases Nat.eq_zero_or_pos z.cells.size with h | h
   ·rw[h]at hm;simp at hm
   exact h
  simp only[Builtin.zeroCells,Array.toList_map,Array.toList_range,dj,List.getElem?_range hm,l'];rw[getElem!_pos z.cells _ (Nat.mod_lt _ Ck),gS (Nat.mod_lt _ Ck)]
 have pu:∀v∈(Builtin.zeroCells z.cells n).toList,v.oneCell'=true:=by
  intro v y2;simp only[Builtin.zeroCells,Array.toList_map,k5,Array.toList_range,List.mem_range]at y2;obtain⟨i,hi,rfl⟩:=y2;have Ck:0<z.cells.size:=by
   rcases Nat.eq_zero_or_pos z.cells.size with h | h
   ·rw[h]at hi;simp at hi
   exact h
  refine h1 _ ?_;rw[getElem!_pos z.cells _ (Nat.mod_lt _ Ck)];simp
 have eE:=run_storeCells_at P b o tb (Builtin.zeroCells z.cells n).toList 0 arr w ar (by simpa[Builtin.zeroCells]using dO) pu;simp only[lC]at eE;cases n with
 | zero=>simp[Builtin.clear_,run_underlying bQ]
 | succ n=>simp[Builtin.clear_,run_underlying bQ,bt,eE,laid]
def w7(t k:Nat)(cr:List (List D)):aB->aB
 | .J (.own s) cp es=>if s=t then .J (.own t) k cr else .J (.own s) cp es
 | l=>aB.ci (e8 t) (fun _=>true) l
def Dz(P:Program)(st:aI)(d:Nat)(t:TypeId)(x:Operand)(cX:Option Operand)(gx:TypeId)(ans:List b9):Stepped:=
 match pM P t,(st.bi x).leaf with
 | some (e,k),some (.J (.own gJ) cp es)=>
  match P.info? e with
  | some i=>
   match i.zero,ln st cX with
   | some z,some l=>
    if k=cp/\t=gx/\z.cells.size=k/\z.cells.toList.all (fun v=>v.oneCell')=true/\d<st.env.length then
     let st2:=st.map (w7 gJ k (es.take (l.getD 0).toNat++List.replicate (es.length-(l.getD 0).toNat) (z.cells.toList.map .v)))
     some (⟨st2.env.set d .cq,st2.boxes⟩,ans,[0<=l.getD 0,l.getD 0<es.length,Flat es])
    else none
   | _,_=>none
  | none=>none
 | _,_=>none
theorem cy.clear{P:Program}{w0:er}{st bp:aI}{a:Act}{w:World}{ω:Own}{τ:Nat->Nat×Value}{d:Nat}{t gx:TypeId}{x:Operand}{cX:Option Operand}{ans cd:List b9}{obs:List Prop}
  (aV:cy w0 st a w ω τ) (h:Dz P st d t x cX gx ans=some (bp,cd,obs)) (aZ:cG obs):
  d<a.tmps.size/\∃y z aN,(Instr.sliceAt t (a.eval x) (cX.map a.eval) none none).run P w=.ok y w/\(∀ty,(Builtin.clear_ #[gx] ty #[y]).run P w=.ok z aN)/\Rel w0 bp (a.put (some d) y) aN:=by
 unfold Dz at h;split at h
 ·rename_i e k gJ cp es he ag;split at h
  ·rename_i i hi;split at h
   ·rename_i z l bf NA;split at h
    ·rename_i ai;obtain⟨rfl,rfl,ou,y8,rv⟩:=ai;refine⟨by rw[aV.size];exact rv,?_⟩;simp only[aR,bx]at h;obtain⟨rfl,_,rfl⟩:=h;obtain⟨cC,cc,Cd,_⟩:=aZ;obtain⟨hu,i2,jZ,di⟩:=vv he;obtain⟨aA,bJ⟩:=aJ.dB ag (aV.bi x);have aw:=zx aV NA;have po:(cX.map a.eval=none/\l.getD 0=0)\/∃k,cX.map a.eval=some (.int k (l.getD 0)):=by
      rcases aw with⟨h,rfl⟩ | ⟨k,n,h,rfl⟩
      ·exact .inl ⟨h,rfl⟩
      exact .inr ⟨k,h⟩
     generalize qi:a.eval x=Eu at aA bJ;cases aA with
     | nil _ _ a0=>simp at cc;omega
     | row R k es b off cap arr ty cO us ar dM fE aj hk je aD=>
      have hM:ω b=.tok gJ []:=dM;obtain⟨mx,sD,tV,hB⟩:=aV.owned b (by rw[hM];simp);rw[ar]at hB;simp only[aR,Obj.cells.injEq]at hB;obtain⟨rfl,rfl,rfl⟩:=hB;obtain⟨L,cw⟩:∃L,L=(l.getD 0).toNat:=⟨_,rfl⟩
      have at2:L<es.length:=by omega
      rw[<-cw];have dO:off+L*k+(es.length-L)*z.cells.size<=arr.size:=by
       rw[ou,v8,<-fu,show L+(es.length-L)=es.length by omega];have:=gR k fE;omega
      have Yu:(zeroValue e).run P w=.ok z w:=by simp[zeroValue,typeInfo,hi,bf]
      obtain⟨zs,lj,N9,Nj⟩:∃zs:List Value,zs.length=(es.length-L)*z.cells.size/\(∀m,m<(es.length-L)*z.cells.size->zs[m]?=z.cells[m % z.cells.size]?)/\
        ∀ty,(Builtin.clear_ #[t] ty #[.slice (some ⟨b,off+L*k,none⟩) (es.length-L) (cap-L)]).run P w=.ok (.tuple #[]) (if es.length-L=0 then w else w.setRow b (laid arr (off+L*k) zs)):=by
       obtain⟨zs,h1,U,aw⟩:=ajX (P:=P) w t e 0 z hu Yu b (off+L*k) (es.length-L) (cap-L) arr ty ar dO (fA.1 y8);exact⟨zs,h1,U,fun p6=>aw⟩
      rw[bh (by omega)]at Nj;rw[ou]at lj N9;have cZ:off+L*k+zs.length<=arr.size:=by rw[lj,<-ou];exact ou▸dO
      refine⟨.slice (some ⟨b,off+L*k,none⟩) (es.length-L) (cap-L),_,_,?_,Nj,?_⟩
      ·simp only[Instr.sliceAt,Sem.run_bind,run_underlying hu,Result.andThen_ok,Instr.slice,Option.map_none];rw[zw (h:=es.length) po (.inl ⟨rfl,rfl⟩) cC (by omega) (by omega)];have cB:¬cap=L:=by omega
       simp[sizeOf,typeInfo,jZ,di,<-cw,cB,Addr.add_lit]
      -- auW asO behind it
      have jc:=setRow_heap w b arr (laid arr (off+L*k) zs) ty (0,0) ar;have fN:bV (w.setRow b (laid arr (off+L*k) zs)) ω (Tag.own gJ).R (.J k (es.take L++List.replicate (es.length-L) (z.cells.toList.map .v))) (.slice (some ⟨b,off,none⟩) es.length cap):=by
       have hlen:(es.take L++List.replicate (es.length-L) (z.cells.toList.map D.v)).length=es.length:=by simp;omega
       have e3:∀x j d,cY (es.take L++List.replicate (es.length-L) (z.cells.toList.map D.v)) x j=some d->∃v,d=.v v/\(laid arr (off+L*k) zs)[off+x*k+j]?=some v/\v.oneCell'=true:=by
        intro x j d dR;rw[zB]at dR;have yZ:(es.take L).length=L:=by simp;omega
        rw[yZ]at dR;split at dR
        ·rename_i GK;have uK:cY es x j=some d:=by
          unfold cY at dR ⊢;rwa[hh,br GK]at dR
         obtain⟨fP,jD⟩:=r0 hk uK;have pq:∃v,d=.v v:=by
          unfold cY at uK;cases e1:es[x]? with
          | none=>simp[e1]at uK
          | some ds=>
           simp only[e1,l9]at uK;exact Cd ds (fl e1) d (fl uK)
         obtain⟨v,rfl⟩:=pq;have aH:=aD x j _ uK;have aU:=je x j _ uK;generalize us x j=u at aH aU;cases aH with
         | v _ _ bA=>
          refine⟨v,rfl,?_,bA⟩;rw[mG cZ,bh ?_,aU];have:(x+1)*k<=L*k:=gR _ GK;rw[fu]at this;omega
        rename_i GK;unfold cY at dR;rw[Br]at dR;split at dR
        ·rename_i rK;simp only[l9,dj,b1]at dR;obtain⟨v,bt,rfl⟩:=dR;have yH:j<k:=by
          have:=(eh.1 bt).1;rw[uc,ou]at this;exact this
         refine⟨v,rfl,?_,fA.1 y8 v (fl bt)⟩;obtain⟨m,hm⟩:∃m,x=L+m:=⟨x-L,by omega⟩
         subst hm;have XL:m*k+j<(es.length-L)*k:=by
          have:(m+1)*k<=(es.length-L)*k:=gR _ (by omega);rw[fu]at this;omega
         have e1:off+(L+m)*k+j=off+L*k+(m*k+j):=by rw[fu];omega
         rw[e1,mG cZ,br (by omega),show off+L*k+(m*k+j)-(off+L*k)=m*k+j by omega,N9 _ XL,show (m*k+j) % k=j by rw[Nat.mul_comm m k,Nat.mul_add_mod,Bu yH]];simpa using bt
        simp at dR
       have:=bV.row (w:=w.setRow b (laid arr (off+L*k) zs)) (ω:=ω) (Tag.own gJ).R k (es.take L++List.replicate (es.length-L) (z.cells.toList.map .v)) b off cap _ ty (0,0)
        (fun x j=>(laid arr (off+L*k) zs).getD (off+x*k+j) undef) jc dM (by omega) (by rw[tk cZ];exact aj)
        (by
         intro e' uL;rcases lB.1 uL with h | h
         ·exact hk e' (xV h)
         rw[List.eq_of_mem_replicate h];simp[ou])
        (fun x j d dR=>by obtain⟨v,rfl,h1,_⟩:=e3 x j d dR;simp[d',h1])
        (fun x j d dR=>by
         obtain⟨v,rfl,h1,U⟩:=e3 x j d dR;have:(laid arr (off+L*k) zs).getD (off+x*k+j) undef=v:=by simp[d',h1]
         rw[this];exact .v _ _ U)
       rwa[hlen]at this
      have bi:k7 w ω τ (w.setRow b (laid arr (off+L*k) zs)) ω τ (e8 gJ) (fun _=>true):=by
       refine⟨?_,?_,fun id c _ ai=>ai,rfl,fun _ _=>rfl⟩
       ·intro g ea c q au _ aE;obtain⟨rfl,sS⟩:=Dw au aE;exact⟨aE,setRow_other w b c _ fun e=>sS [] (by rw[e];exact hM)⟩
       intro g ea y au bl;cases g with
       | free=>simp only[e8,aR]at au;subst au;trivial
       | own x=>
        simp only[e8]at au;split at au
        ·cases au
        simp only[aR]at au;subst au;exact bl
       | ro x=>
        simp only[e8]at au;split at au
        ·cases au
        simp only[aR]at au;subst au;trivial
      have ey:∀ki v,Sat w ω τ ki v->Sat (w.setRow b (laid arr (off+L*k) zs)) ω τ (w7 gJ k (es.take L++List.replicate (es.length-L) (z.cells.toList.map .v)) ki) v:=by
       intro ki v GH;by_cases Nh:∃s cp cr,ki=.J (.own s) cp cr
       ·obtain⟨s,cp,cr,rfl⟩:=Nh;simp only[w7];split
        ·rename_i eE;subst eE;obtain⟨_,U⟩:=GH;simp only[Tag.dT]at U bJ;rw[U]at bJ;simp only[bx]at bJ;obtain⟨rfl,rfl⟩:=bJ;exact⟨fN,U⟩
        rename_i eE;have:=bi.sat (.J (.own s) cp cr) v GH;simpa[aB.ci,e8,eE]using this
       have dS:w7 gJ k (es.take L++List.replicate (es.length-L) (z.cells.toList.map .v)) ki=aB.ci (e8 gJ) (fun _=>true) ki:=by
        unfold w7;split
        ·exact absurd ⟨_,_,_,rfl⟩ Nh
        rfl
       rw[dS];exact bi.sat ki v GH
      have h1:cy w0 (st.map (w7 gJ k (es.take L++List.replicate (es.length-L) (z.cells.toList.map .v)))) a (w.setRow b (laid arr (off+L*k) zs)) ω τ:=by
       refine aV.ec _ ey (aV.below.setRow mx _) ?_ (fun id c ai=>⟨ai,setRow_other w b c _ fun e=>by rw[e,hM]at ai;cases ai⟩) (fun id c ai=>ai) (fun _ _=>rfl);intro c ai;obtain⟨h1,h3,ih,U⟩:=aV.owned c ai;by_cases e:c=b
       ·subst e;exact⟨h1,_,ty,jc⟩
       exact⟨h1,h3,ih,(setRow_other w b c _ e).trans U⟩
      exact⟨ω,τ,h1.put (p:=.cq) trivial⟩
    cases h
   cases h
  cases h
 cases h
end Go.Sx
namespace Go.Sx
open Go.RowKit
def bu.kH(p:aB->Prop):bu->Prop
 | .one l=>p l
 | .agg ls=>∀l∈ls,p l
def aJ.kH(p:aB->Prop):aJ->Prop
 | .aK a=>a.kH p
 | .fJ as=>∀a∈as,a.kH p
variable{S kb:aB->Value->Prop}{p:aB->Prop}{f:aB->aB}{ls:List aB}
theorem jW.map'(h:∀l v,p l->S l v->kb (f l) v){vs:Array Value}(ah:∀l∈ls,p l)(aj:jW S ls vs):jW kb (ls.map f) vs:=by
 refine⟨by simpa using aj.1,fun i l al=>?_⟩;rw[dj,b1]at al;obtain⟨fx,bN,rfl⟩:=al;obtain⟨u,h1,U⟩:=aj.2 i fx bN;exact⟨u,h1,h _ _ (ah fx (fl bN)) U⟩
theorem jV.map'(h:∀l v,p l->S l v->kb (f l) v):∀{a:bu} {y:Value},a.kH p->jV S a y->jV kb (a.map f) y
 | .one l,y,ah,aj=>h _ _ ah aj
 | .agg ls,y,ah,⟨vs,e,aj⟩=>⟨vs,e,aj.map' h ah⟩
theorem cL.map'(h:∀l v,p l->S l v->kb (f l) v):∀{q:aJ} {y:Value},q.kH p->cL S q y->cL kb (q.map f) y
 | .aK a,y,ah,aj=>show jV kb (a.map f) y from jV.map' h ah (show jV S a y from aj)
 | .fJ as,y,ah,⟨vs,e,aW,aj⟩=>⟨vs,e,by simpa using aW,fun i a hi=>by
   rw[dj,b1]at hi;obtain⟨a0,bN,rfl⟩:=hi;obtain⟨u,h1,U⟩:=aj i a0 bN;exact⟨u,h1,jV.map' h (ah a0 (fl bN)) U⟩⟩
variable{w0:er}{st:aI}{a:Act}{w aN:World}{ω a1:Own}{τ:Nat->Nat×Value}
theorem cy.asZ{cN:Nat->Nat×Value}{p:aB->Prop}(h:cy w0 st a w ω τ)(f:aB->aB)
  (ey:∀l v,p l->Sat w ω τ l v->Sat aN a1 cN (f l) v) (he:∀q∈st.env,q.kH p) (ar:∀id ls,dp id st.boxes=some ls->∀l∈ls,p l) (qf:gj w0 aN) (pv:mX w0 aN a1)
  (qg:∀id b,ω b=.box id->a1 b=.box id/\aN.heap[b]?=w.heap[b]?) (yA:∀id b,a1 b=.box id->ω b=.box id) (qj:∀t,c7<=t->cN t=τ t):cy w0 (st.map f) a aN a1 cN where
 defers:=h.defers
 size:=by simp[aI.map,h.size]
 below:=qf
 owned:=pv
 fixed:=fun t bQ=>(qj t bQ).trans (h.fixed t bQ)
 pinned:=fun id b hi ar=>h.pinned id b hi (yA id b ar)
 env:=by
  intro i q aE;simp only[aI.map]at aE;rw[dj,b1]at aE;obtain⟨h',bN,rfl⟩:=aE;obtain⟨v,h1,U⟩:=h.env i h' bN;exact⟨v,h1,cL.map' ey (he h' (fl bN)) U⟩
 boxes:=by
  intro id ls al;simp only[aI.map]at al;rw[rZ,b1]at al;obtain⟨iK,bN,rfl⟩:=al;obtain⟨b,arr,ty,fU,hu,bJ,aj⟩:=h.boxes id iK bN;obtain⟨h1,U⟩:=qg id b fU;exact⟨b,arr,ty,h1,fun cW dn=>hu cW (yA id cW dn),U.trans bJ,aj.map' ey (ar id iK bN)⟩
def aB.idx(t j:Nat):aB->List Nat
 | .aO s a b _ _ _=>if s=t/\b=j then [a] else []
 | _=>[]
def bu.idx(t j:Nat):bu->List Nat
 | .one l=>l.idx t j
 | .agg ls=>ls.flatMap (aB.idx t j)
def aJ.idx(t j:Nat):aJ->List Nat
 | .aK a=>a.idx t j
 | .fJ as=>as.flatMap (bu.idx t j)
def aI.idx(t j:Nat)(st:aI):List Nat:=st.env.flatMap (aJ.idx t j)++st.boxes.flatMap fun x=>x.2.flatMap (aB.idx t j)
def DA(t i j:Nat)(l:aB):Prop:=∀a∈l.idx t j,a=i
theorem O4{id:Nat}:∀{bs:List (Nat×List aB)} {ls:List aB},dp id bs=some ls->(id,ls)∈bs
 | [],_,h=>by cases h
 | (i,l)::r,ls,h=>by
  simp only[dp]at h;split at h
  ·rename_i hi;subst hi;rw[eN h];exact gT
  exact hy _ (O4 h)
variable{t i j:Nat}
theorem aI.Yx(h:∀a∈st.idx t j,a=i):∀q∈st.env,q.kH (DA t i j):=by
 intro q aE;have h1:∀a∈q.idx t j,a=i:=fun a ah=>h a (hY _ (mS.2 ⟨q,aE,ah⟩))
 have Nc:∀x:bu,(∀a∈x.idx t j,a=i)->x.kH (DA t i j):=by
  intro x ag;cases x with
  | one l=>exact ag
  | agg ls=>exact fun l al a ah=>ag a (mS.2 ⟨l,al,ah⟩)
 cases q with
 | aK x=>exact Nc x h1
 | fJ as=>exact fun x ag=>Nc x fun a ah=>h1 a (mS.2 ⟨x,ag,ah⟩)
theorem aI.Yw(h:∀a∈st.idx t j,a=i){id:Nat}(ar:dp id st.boxes=some ls):∀l∈ls,DA t i j l:=by
 intro l al a ah;exact h a (iD _ (mS.2 ⟨(id,ls),O4 ar,mS.2 ⟨l,al,ah⟩⟩))
def gM(t i j k:Nat)(cr:List (List D))(kT:Nat)(esT:List (List D)):aB->aB
 | .J (.own s) da dE=>if s=t then .J (.own t) kT esT else .J (.own s) da dE
 | .cE (.own s) da dE a b=>if s=t then .cE (.own t) kT esT a b else .cE (.own s) da dE a b
 | .J (.ro s) da dE=>if s=t then .cq else .J (.ro s) da dE
 | .cE (.ro s) da dE a b=>if s=t then .cq else .cE (.ro s) da dE a b
 | .aO s a b da dE m=>if s=t/\b=j then (if da=k/\m.home=true then .aO t i j k cr m else .cq) else .aO s a b da dE m
 | .fa _ _=>.cq
 | l=>l
variable{v:Value}
theorem tf.as3{u:Value}(h1:tf w ω τ t i j u)(U:tf w ω τ t i j v):u=v:=by
 obtain⟨kT,b,off,len,cap,arr,ty,cO,eO,a2,a3,a4⟩:=h1;obtain⟨YA,cW,auE,auy,k',b7,p6,atU,gV,gm,yc,Fo⟩:=U;rw[eO]at gV;simp only[bx,Value.slice.injEq,aR,Addr.mk.injEq]at gV;obtain⟨rfl,⟨rfl,rfl,_⟩,_,_⟩:=gV;rw[a3]at yc;simp only[aR,Obj.cells.injEq]at yc;obtain⟨rfl,_,_⟩:=yc;rw[a4]at Fo;exact eN Fo
variable{k kT:Nat}{esT:List (List D)}
theorem cy.Ub(h:cy w0 st a w ω τ){cr:List (List D)}{yT hX:Value}
  (jG:∀c,c<w.heap.size->ω c≠.tok t [(i,j)]->aN.heap[c]?=w.heap[c]?) (c8:∀c,c<w.heap.size->a1 c=ω c) (Hn:∀c id,¬c<w.heap.size->a1 c≠.box id)
  (ke:gj w0 aN) (mx:mX w0 aN a1) (rN:τ t=(kT,yT)) (nu:bV aN a1 (Tag.own t).R (.J kT esT) yT)
  (qk:tf w ω τ t i j hX) (om:bV aN a1 (fun q o=>o=.tok t ((i,j)::q)) (.J k cr) hX) (oj:∀a∈st.idx t j,a=i):cy w0 (st.map (gM t i j k cr kT esT)) a aN a1 τ:=by
 have cO:∀{R:List (Nat×Nat)->cV->Prop} {d:D} {v:Value},(∀q,¬R q (.tok t [(i,j)]))->bV w ω R d v->bV aN a1 R d v:=by
  intro R d v aW aA;refine aA.frame fun b q bz aE=>?_
  rw[c8 b bz];exact⟨aE,jG b bz fun e=>aW q (by rw[<-e];exact aE)⟩
 have home:∀{s a b:Nat} {u:Value},tf w ω τ s a b u->tf aN a1 τ s a b u:=by
  rintro s a b u ⟨kT,c,off,len,cap,arr,ty,cO,eO,a2,a3,a4⟩;have bz:c<w.heap.size:=(ik.1 a3).1;exact⟨kT,c,off,len,cap,arr,ty,cO,eO,by rw[c8 c bz];exact a2,(jG c bz (by rw[a2];simp)).trans a3,a4⟩
 refine h.asZ (p:=DA t i j) _ ?_ (aI.Yx oj) (fun id ls ar=>aI.Yw oj ar) ke mx (fun id b ar=>?_) (fun id b ar=>?_) (fun _ _=>rfl)
 ·intro l v au aj;cases l with
  | cq=>exact trivial
  | v x=>exact aj
  | ba c=>exact aj
  | ptr id o=>
   obtain⟨c,ai,e⟩:=aj;exact⟨c,by rw[c8 c (h.owned.lt (by simp[ai]))];exact ai,e⟩
  | gn f ids=>
   obtain⟨bs,e,aW,hi⟩:=aj;refine⟨bs,e,aW,fun x id fF=>?_⟩;obtain⟨b,h1,U⟩:=hi x id fF;exact⟨b,h1,by rw[c8 b (h.owned.lt (by simp[U]))];exact U⟩
  | hF ds o=>
   obtain⟨c,e,aA⟩:=aj;exact⟨c,e,cO (fun q aE=>by cases aE) aA⟩
  | fd d=>exact cO (R:=Tag.free.R) (fun q aE=>by cases aE) aj
  | de t0 da dE=>exact⟨cO (R:=Tag.free.R) (fun q aE=>by cases aE) aj.1,aj.2⟩
  | fa=>exact trivial
  | J g da dE=>
   cases g with
   | free=>exact⟨cO (R:=Tag.free.R) (fun q aE=>by cases aE) aj.1,aa⟩
   | own s=>
    simp only[gM];split
    ·rename_i e;subst e;have U:=aj.2;simp only[Tag.dT]at U;rw[rN]at U;simp only[bx]at U;rw[<-U.2];exact⟨nu,rN⟩
    rename_i cB;exact⟨cO (R:=(Tag.own s).R) (fun q aE=>by simp only[Tag.R,cV.tok.injEq]at aE;exact cB aE.1.symm) aj.1,aj.2⟩
   | ro s=>
    simp only[gM];split
    ·exact trivial
    rename_i cB;refine⟨cO (R:=(Tag.ro s).R) (fun q aE=>?_) aj.1,aa⟩;rcases aE with aE | ⟨dm,aE⟩
    ·cases aE
    simp only[cV.tok.injEq]at aE;exact cB aE.1.symm
  | cE g da dE x y=>
   obtain⟨gm,pH,o3,e,jZ,kN,nq⟩:=aj;cases g with
   | free=>exact⟨gm,pH,o3,e,jZ,cO (R:=Tag.free.R) (fun q aE=>by cases aE) kN,aa⟩
   | own s=>
    simp only[gM];split
    ·rename_i e1;subst e1;simp only[Tag.dT]at nq;rw[rN]at nq;simp only[bx]at nq;obtain⟨rfl,rfl⟩:=nq;have al:esT.length=dE.length:=by
      obtain⟨_,_,e2⟩:=nu.len;simp only[Value.slice.injEq]at e2;exact e2.2.1.symm
     refine⟨gm,pH,o3,e,by omega,?_,?_⟩
     ·rw[al];exact nu
     rw[al];exact rN
    rename_i cB;exact⟨gm,pH,o3,e,jZ,cO (R:=(Tag.own s).R) (fun q aE=>by simp only[Tag.R,cV.tok.injEq]at aE;exact cB aE.1.symm) kN,nq⟩
   | ro s=>
    simp only[gM];split
    ·exact trivial
    rename_i cB;refine⟨gm,pH,o3,e,jZ,cO (R:=(Tag.ro s).R) (fun q aE=>?_) kN,aa⟩;rcases aE with aE | ⟨dm,aE⟩
    ·cases aE
    simp only[cV.tok.injEq]at aE;exact cB aE.1.symm
  | aO s x y da dE m=>
   simp only[gM];obtain⟨u,hu,aA,hm⟩:=aj;split
   ·rename_i ai;obtain⟨rfl,rfl⟩:=ai;have ag:x=i:=au x (by simp[aB.idx]);subst ag;split
    ·rename_i ai;obtain⟨rfl,XK⟩:=ai;have e:=(hm XK).as3 qk;subst e;have al:cr.length=dE.length:=by
      obtain⟨_,_,e1⟩:=om.len;obtain⟨_,_,e2⟩:=aA.len;rw[e1]at e2;simp only[Value.slice.injEq]at e2;omega
     exact⟨u,by rw[al];exact hu,om,fun _=>home qk⟩
    exact trivial
   rename_i ai;refine⟨u,hu,cO (fun q aE=>?_) aA,fun bJ=>home (hm bJ)⟩;simp only[cV.tok.injEq,q4,bx]at aE;exact ai ⟨aE.1.symm,aE.2.1.2.symm⟩
 ·have bz:=h.owned.lt (b:=b) (by simp[ar]);exact⟨by rw[c8 b bz];exact ar,jG b bz (by rw[ar];simp)⟩
 by_cases bz:b<w.heap.size
 ·rw[c8 b bz]at ar;exact ar
 exact absurd ar (Hn b id bz)
def sk(t:Nat):aB->Option (Nat×List (List D))
 | .J (.own s) k es=>if s=t then some (k,es) else none
 | _=>none
def tm(t:Nat):List aJ->Option (Nat×List (List D))
 | []=>none
 | .aK (.one l)::r=>match sk t l with | some x=>some x | none=>tm t r
 | .aK (.agg ls)::r=>match ls.findSome? (sk t) with | some x=>some x | none=>tm t r
 | _::r=>tm t r
def DB(t:Nat)(st:aI):Option (Nat×List (List D)):=
 match tm t st.env with
 | some x=>some x
 | none=>(st.boxes.find? fun x=>(x.2.findSome? (sk t)).isSome).bind fun x=>(dp x.1 st.boxes).bind fun ls=>ls.findSome? (sk t)
theorem Je{l:aB}(h:sk t l=some (kT,esT))(aj:Sat w ω τ l v):Sat w ω τ (.J (.own t) kT esT) v:=by
 unfold sk at h;split at h
 ·split at h
  ·rename_i e;subst e;simp only[aR,bx]at h;obtain⟨rfl,rfl⟩:=h;exact aj
  cases h
 cases h
theorem O5{vs:Array Value}(h:ls.findSome? (sk t)=some (kT,esT))(aj:jW (Sat w ω τ) ls vs):∃v,Sat w ω τ (.J (.own t) kT esT) v:=by
 obtain⟨l,al,U⟩:=List.exists_of_findSome?_eq_some h;obtain⟨x,ag⟩:=oT.1 al;obtain⟨u,_,hu⟩:=aj.2 x l ag;exact⟨u,Je U hu⟩
theorem DC:∀{ct:List aJ},tm t ct=some (kT,esT)->(∀p∈ct,∃v,cL (Sat w ω τ) p v)->∃v,Sat w ω τ (.J (.own t) kT esT) v
 | [],h,_=>by cases h
 | p::r,h,aj=>by
  have aA:∀p∈r,∃v,cL (Sat w ω τ) p v:=fun p hp=>aj p (hy _ hp)
  obtain⟨v,bt⟩:=aj p gT;cases p with
  | fJ as=>exact DC (by simpa[tm]using h) aA
  | aK x=>
   cases x with
   | one l=>
    simp only[tm]at h;split at h
    ·rename_i y e;simp only[aR]at h;subst h;exact⟨v,Je e bt⟩
    exact DC h aA
   | agg ls=>
    simp only[tm]at h;split at h
    ·rename_i y e;simp only[aR]at h;subst h;obtain⟨vs,_,bt⟩:=bt;exact O5 e bt
    exact DC h aA
theorem cy.root(h:cy w0 st a w ω τ)(e:DB t st=some (kT,esT)):∃v,Sat w ω τ (.J (.own t) kT esT) v:=by
 unfold DB at e;split at e
 ·rename_i x e1;simp only[aR]at e;subst e;refine DC e1 fun p hp=>?_
  obtain⟨x,ag⟩:=oT.1 hp;obtain⟨v,_,bt⟩:=h.env x p ag;exact⟨v,bt⟩
 rw[lA]at e;obtain⟨x,_,e⟩:=e;rw[lA]at e;obtain⟨ls,ar,e⟩:=e;obtain⟨b,arr,ty,_,_,_,aj⟩:=h.boxes x.1 ls ar;exact O5 e aj
theorem O6{cr:List (List D)}{iH:List D}{yT hX:Value}(aj:Sat w ω τ (.J (.own t) kT esT) yT)
  (jG:∀c,c<w.heap.size->ω c≠.tok t [(i,j)]->aN.heap[c]?=w.heap[c]?) (c8:∀c,c<w.heap.size->a1 c=ω c)
  (qk:tf w ω τ t i j hX) (om:bV aN a1 (fun q o=>o=.tok t ((i,j)::q)) (.J k cr) hX) (ek:esT[i]?=some iH):bV aN a1 (Tag.own t).R (.J kT (esT.set i (iH.set j (.J k cr)))) yT:=by
 obtain⟨aA,bJ⟩:=aj;simp only[Tag.dT]at bJ;obtain⟨YA,cg,HI,Oi,MV,sD,tV,atV,eO,a2,a3,a4⟩:=qk;rw[bJ]at eO;simp only[bx]at eO;obtain⟨rfl,rfl⟩:=eO;have jd:i<esT.length:=(eh.1 ek).1;have hlen:(esT.set i (iH.set j (.J k cr))).length=esT.length:=e5;generalize bl:Value.slice (some ⟨cg,HI,none⟩) Oi MV=ME at aA;cases aA with
 | nil=>simp at jd
 | row R kT esT b off cap arr ty cO us ar dM ai di hk hu aD=>
  simp only[Value.slice.injEq,aR,Addr.mk.injEq]at bl;obtain⟨⟨rfl,rfl,_⟩,rfl,rfl⟩:=bl;rw[ar]at a3;simp only[aR,Obj.cells.injEq]at a3;obtain⟨rfl,_,_⟩:=a3;have uF:cg<w.heap.size:=(ik.1 ar).1;have yI:iH.length=kT:=hk iH (fl ek);have sT:∀e∈esT.set i (iH.set j (.J k cr)),e.length=kT:=by
   intro e he;rcases n2 he with h | rfl
   ·exact hk e h
   rw[e5];exact yI
  have key:∀x y d,cY (esT.set i (iH.set j (.J k cr))) x y=some d->arr[HI+x*kT+y]?=some (us x y)/\bV aN a1 (fun q=>(Tag.own t).R ((x,y)::q)) d (us x y):=by
   intro x y d dR;have GL:=r0 sT dR;rw[hlen]at GL;obtain⟨d0,W1⟩:=Pu hk GL.1 GL.2;have sW:=hu x y d0 W1;refine⟨sW,?_⟩;rw[Iu jd]at dR;by_cases ag:x=i
   ·subst ag;rw[br rfl,jR]at dR;by_cases Hk:j=y
    ·subst Hk;rw[br rfl,br (by omega)]at dR;rw[<-eN dR];rw[a4]at sW;rw[<-eN sW];exact om
    rw[bh Hk]at dR;have pg:cY esT x y=some d:=by simp[cY,ek,dR]
    refine (aD x y d pg).frame fun c q ai aE=>?_
    rw[c8 c ai];refine⟨aE,jG c ai fun e=>?_⟩;simp only[Tag.R,e,cV.tok.injEq,q4,bx]at aE;exact Hk aE.2.1.2
   rw[bh ag]at dR;refine (aD x y d dR).frame fun c q ai aE=>?_
   rw[c8 c ai];refine⟨aE,jG c ai fun e=>?_⟩;simp only[Tag.R,e,cV.tok.injEq,q4,bx]at aE;exact ag aE.2.1.1.symm
  have hM:ω cg=.tok t []:=dM;have:=bV.row (w:=aN) (ω:=a1) (Tag.own t).R kT (esT.set i (iH.set j (.J k cr))) cg HI MV arr ty cO us ((jG cg uF (by rw[hM];simp)).trans ar) (by rw[c8 cg uF];exact hM) (by omega) di sT
   (fun x y d aD=>(key x y d aD).1) (fun x y d aD=>(key x y d aD).2)
  rw[hlen]at this;exact this
def Jf(P:Program)(st:aI)(ty:TypeId)(t i j k:Nat)(es:List (List D))(x y:Nat)(q:aJ)(ans:List b9):Stepped:=
 match q.leaves,P.info? ty,DB t st,ans with
 | some xs,some inf,some (kT,esT),.el ds::.el iH::r=>
  match xs.mapM aB.ig with
  | some ys=>
   if xs.length=inf.size/\ds.length=k/\y+ys.length<=k/\xs.all (fun l=>l.tok.isNone)=true then
    some (st.map (gM t i j k (es.set x (kn ds y ys)) kT (esT.set i (iH.set j (.J k (es.set x (kn ds y ys)))))),r,(es[x]?=some ds)::(esT[i]?=some iH)::(st.idx t j).map fun a=>a=i)
   else none
  | none=>none
 | _,_,_,_=>none
theorem ajY{l:aB}{d:D}(h:l.ig=some d)(bQ:l.tok.isNone=true){u:Value}(aj:Sat w ω τ l u):∃z,d=.v z/\u=z/\z.oneCell'=true:=by
 cases l with
 | v z=>
  simp only[aB.ig]at h;split at h
  ·simp only[aR]at h;subst h;have:u=z:=aj;exact⟨z,rfl,this,‹_›⟩
  cases h
 | ba c=>
  simp only[aB.ig,aR]at h;subst h;exact⟨_,rfl,aj,rfl⟩
 | J g k es=>
  cases g with
  | own s=>simp[aB.tok]at bQ
  | free=>cases h
  | ro s=>cases h
 | cq=>cases h
 | ptr=>cases h
 | cE=>cases h
 | hF=>cases h
 | fd=>cases h
 | de=>cases h
 | gn=>cases h
 | aO=>cases h
 | fa=>cases h
theorem cy.asV{P:Program}{bp:aI}{ty:TypeId}{x y:Nat}{es:List (List D)}{q:aJ}{p:Value}{ans cd:List b9}{obs:List Prop}
  (aV:cy w0 st a w ω τ) (hp:Sat w ω τ (.aO t i j k es (.at_ x y)) p) (aE:cL (Sat w ω τ) q v) (h:Jf P st ty t i j k es x y q ans=some (bp,cd,obs)) (aZ:cG obs):
  ∃aN,(Instr.storeAt ty p v).run P w=.ok () aN/\Rel w0 bp a aN:=by
 unfold Jf at h;split at h
 ·rename_i xs inf kT esT ds iH r e1 e2 ef;split at h
  ·rename_i ys cb;split at h
   ·rename_i ai;obtain⟨kp,kf,kq,wB⟩:=ai;simp only[aR,bx]at h;obtain⟨rfl,_,rfl⟩:=h;obtain⟨ek,wC,oj⟩:=aZ;have oj:=CM oj;obtain⟨yT,nu⟩:=aV.root ef;obtain⟨aj,pu⟩:=aJ.wS e1 aE;obtain⟨N7,Hj⟩:=mE cb;obtain⟨hX,⟨b,off,cap,rfl,rfl,jd⟩,aA,hm⟩:=hp;have qk:=hm rfl;have rE:=aA;cases aA with
    | nil=>simp at jd
    | row R k es b off cap arr hf cO us ar dM fE di gr hu aD=>
     have hM:ω b=.tok t [(i,j)]:=dM;obtain⟨uR,sD,tV,hB⟩:=aV.owned b (by rw[hM];simp);rw[ar]at hB;simp only[aR,Obj.cells.injEq]at hB;obtain⟨rfl,rfl,rfl⟩:=hB;have uF:b<w.heap.size:=(ik.1 ar).1;have hmul:(x+1)*k<=cap*k:=gR _ (by omega);rw[fu]at hmul;have rJ:v.cells.size=xs.length:=aj.1;have dO:off+x*k+y+v.cells.toList.length<=arr.size:=by simp;omega
     have eE:=run_storeCells_at P b (off+x*k+y) hf v.cells.toList 0 arr w ar (by simpa using dO) pu;simp only[lC]at eE;generalize mr:(arr.toList.take (off+x*k+y)++v.cells.toList++arr.toList.drop (off+x*k+y+v.cells.toList.length)).toArray=b7 at eE;have hD:∀z:Nat,b7[z]?=if off+x*k+y<=z/\z<off+x*k+y+xs.length then v.cells[z-(off+x*k+y)]? else arr[z]?:=by
      intro z;rw[<-mr,l8,zz (by simpa using dO)];simp[rJ]
     have wM:b7.size=arr.size:=by rw[<-mr];simp;simp at dO;omega
     have jc:=setRow_heap w b arr b7 hf (0,0) ar;have jG:∀c,c<w.heap.size->ω c≠.tok t [(i,j)]->(w.setRow b b7).heap[c]?=w.heap[c]?:=fun c _ ai=>setRow_other w b c b7 fun e=>ai (by rw[e];exact hM)
     have om:bV (w.setRow b b7) ω (fun q o=>o=.tok t ((i,j)::q)) (.J k (es.set x (kn ds y ys))) (.slice (some ⟨b,off,none⟩) es.length cap):=by
      have hlen:(es.set x (kn ds y ys)).length=es.length:=e5;have yI:ds.length=k:=kf;have lf:∀gi fY d,cY es gi fY=some d->bV (w.setRow b b7) ω (fun q o=>o=.tok t ((i,j)::(gi,fY)::q)) d (us gi fY):=by
       intro gi fY d pg;refine (aD gi fY d pg).frame fun c q ai dU=>⟨dU,jG c ai fun e=>?_⟩
       rw[e]at dU;simp at dU
      have e3:∀gi fY d,cY (es.set x (kn ds y ys)) gi fY=some d->∃u,b7[off+gi*k+fY]?=some u/\bV (w.setRow b b7) ω (fun q o=>o=.tok t ((i,j)::(gi,fY)::q)) d u:=by
       intro gi fY d dR;rw[Iu jd]at dR;by_cases ag:gi=x
       ·subst ag;rw[br rfl,Px (by omega)]at dR;split at dR
        ·rename_i bl;obtain⟨l,jE,cZ⟩:=Hj _ _ dR;obtain⟨u,fG,eV⟩:=aj.2 _ _ jE;obtain⟨z,rfl,rfl,bf⟩:=ajY cZ (fA.1 wB l (fl jE)) eV;refine⟨u,?_,.v _ _ bf⟩;rw[hD,br (by omega),<-fG]
         congr 1;omega
        rename_i bl;have pg:cY es gi fY=some d:=by simp[cY,ek,dR]
        refine⟨us gi fY,?_,lf gi fY d pg⟩;rw[hD,bh (by omega),hu gi fY d pg]
       rw[bh ag]at dR;obtain⟨fP,Yq⟩:=r0 gr dR;refine⟨us gi fY,?_,lf gi fY d dR⟩;rw[hD,bh ?_,hu gi fY d dR];rcases Nat.lt_or_gt_of_ne ag with h | h
       ·have:(gi+1)*k<=x*k:=gR _ h;rw[fu]at this;omega
       have:(x+1)*k<=gi*k:=gR _ h;rw[fu]at this;omega
      have py:∀e∈es.set x (kn ds y ys),e.length=k:=by
       intro e he;rcases n2 he with h | rfl
       ·exact gr e h
       rw[Py (by omega)];exact yI
      have:=bV.row (w:=w.setRow b b7) (ω:=ω) (fun q o=>o=.tok t ((i,j)::q)) k (es.set x (kn ds y ys)) b off cap b7 hf (0,0) (fun gi fY=>b7.getD (off+gi*k+fY) undef) jc hM (by omega) (by omega) py
       (fun x y d dJ=>by obtain⟨u,h1,_⟩:=e3 x y d dJ;rw[h1];simp[d',h1])
       (fun x y d dJ=>by obtain⟨u,h1,U⟩:=e3 x y d dJ;have:b7.getD (off+x*k+y) undef=u:=(by simp[d',h1]);rw[this];exact U)
      rw[hlen]at this;exact this
     refine⟨w.setRow b b7,?_,ω,τ,aV.Ub (yT:=yT) jG (fun _ _=>rfl) (fun c id ai e=>?_) (aV.below.setRow uR b7) ?_ nu.2 (O6 nu jG (fun _ _=>rfl) qk om wC) qk om oj⟩
     ·simp only[Instr.storeAt,Instr.sureAddr,Sem.run_bind,Sem.run_pure,Result.andThen_ok,storeVar,sizeOf,typeInfo,run_program,e2];have GI:¬(v.cells.size≠inf.size):=by simp;omega
      rw[bh GI];exact eE
     ·exact ai (aV.owned.lt (by rw[e];simp))
     intro c fM;obtain⟨aw,h3,ih,aH⟩:=aV.owned c fM;by_cases pf:c=b
     ·subst pf;exact⟨aw,b7,hf,jc⟩
     exact⟨aw,h3,ih,(setRow_other w b c b7 pf).trans aH⟩
   cases h
  cases h
 cases h
end Go.Sx
namespace Go.Sx
open Go.RowKit
variable{i:Nat}
theorem O7{α:Type}{l:List α}{a:α}(h:l[i]?=some a):l.set i a=l:=by
 apply List.ext_getElem?;intro x;rw[jR];by_cases ag:i=x
 ·subst ag;have:=(eh.1 h).1;rw[br rfl,br this,h]
 rw[bh ag]
def Jg(P:Program)(st:aI)(d:Nat)(hG:TypeId)(t i j k:Nat)(es:List (List D))(y:Operand)(ans:List b9):Stepped:=
 match pM P hG,DB t st,ans with
 | some (e,cp),some (kT,esT),.el iH::e7=>
  match P.info? e,ur t k (st.bi y) e7 with
  | some inf,some (bO,none,uq,obs)=>
   match inf.zero with
   | some z=>
    if cp=k/\z.cells.size=k/\0<k then
     some (⟨(st.map (gM t i j k es kT esT)).env.set d (.one (.aO t i j k (es++bO) .k8)),(st.map (gM t i j k es kT esT)).boxes⟩,uq,
      ((es.length+bO.length)*inf.bytes<=140737488355328)::(es.length+bO.length<=9223372036854775807)::(esT[i]?=some iH)::(iH[j]?=some (.J k es))::(((st.idx t j).map fun a=>a=i)++obs))
    else none
   | none=>none
  | _,_=>none
 | _,_,_=>none
def sC(P:Program)(hG:TypeId)(t i j k:Nat)(es esT:List (List D))(q:aJ)(ans:List b9):Option (aJ×List b9×List Prop):=
 match pM P hG,ans with
 | some (e,cp),.el iH::e7=>
  match P.info? e,ur t k q e7 with
  | some inf,some (bO,none,uq,obs)=>
   match inf.zero with
   | some z=>
    if cp=k/\z.cells.size=k/\0<k then
     some (.one (.aO t i j k (es++bO) .k8),uq,
      ((es.length+bO.length)*inf.bytes<=140737488355328)::(es.length+bO.length<=9223372036854775807)::(esT[i]?=some iH)::(iH[j]?=some (.J k es))::obs)
    else none
   | none=>none
  | _,_=>none
 | _,_=>none
theorem cy.sC{P:Program}{w0:er}{st:aI}{a:Act}{w:World}{ω:Own}{τ:Nat->Nat×Value}{d:Nat}{hG ty:TypeId}{t j k kT:Nat}{es esT:List (List D)}{x y:Operand}{p:aJ}{ans cd:List b9}{obs:List Prop}
  (aV:cy w0 st a w ω τ) (hp:Sat w ω τ (.aO t i j k es .here) (a.eval x)) (h:Sx.sC P hG t i j k es esT (st.bi y) ans=some (p,cd,obs)) (aZ:cG obs)
  (nu:∃v,Sat w ω τ (.J (.own t) kT esT) v) (oj:∀a∈st.idx t j,a=i):
  ∃z aN,(Builtin.append_ #[hG,hG] ty #[a.eval x,a.eval y]).run P w=.ok z aN/\Rel w0 ⟨(st.map (gM t i j k es kT esT)).env.set d p,(st.map (gM t i j k es kT esT)).boxes⟩ (a.put (some d) z) aN:=by
 unfold Sx.sC at h;split at h
 ·rename_i e cp iH e7 he;obtain⟨bQ,ha,kt,wL⟩:=vv he;split at h
  ·rename_i inf bO uq wT hi io;rw[kt]at hi;have lO:=eN hi;subst lO;split at h
   ·rename_i z bf;split at h
    ·rename_i ai;obtain⟨rfl,ou,lc⟩:=ai;simp only[aR,bx]at h;obtain⟨rfl,_,rfl⟩:=h;obtain⟨fU,fL,wC,F9,Gs⟩:=aZ;obtain⟨_,news,lR⟩:=Pw (P:=P) lc (aV.bi y) io Gs;obtain⟨yT,nu⟩:=nu;obtain⟨hX,qn,aA,hm⟩:=hp;have qk:=hm rfl;have qn:a.eval x=hX:=qn;rw[qn];generalize a.eval y=fc at lR;have Cd:∀gi fY d,cY bO gi fY=some d->∃u,news[gi*cp+fY]?=some u/\d=.v u/\u.oneCell'=true:=by
      intro gi fY d aD;obtain⟨u,h1,U⟩:=lR.cell gi fY d aD;rcases U with⟨v,rfl,rfl⟩ | ⟨s,aj,_⟩
      ·exact⟨u,h1,rfl,lR.one u (fl h1)⟩
      cases aj
     have fin:∀(w1:World) (a1:Own) (r:Value),(∀c,c<w.heap.size->ω c≠.tok t [(i,j)]->w1.heap[c]?=w.heap[c]?)->(∀c,c<w.heap.size->a1 c=ω c)->(∀c id,¬c<w.heap.size->a1 c≠.box id)->gj w0 w1->mX w0 w1 a1->
       bV w1 a1 (fun q o=>o=.tok t ((i,j)::q)) (.J cp es) hX->bV w1 a1 (fun q o=>o=.tok t ((i,j)::q)) (.J cp (es++bO)) r->
       Rel w0 ⟨(st.map (gM t i j cp es kT esT)).env.set d (.one (.aO t i j cp (es++bO) .k8)),(st.map (gM t i j cp es kT esT)).boxes⟩ (a.put (some d) r) w1:=by
      intro w1 a1 r jG c8 Hn ke mx om eP;have NS:=O6 nu jG c8 qk om wC;rw[O7 F9,O7 wC]at NS;exact⟨a1,τ,(aV.Ub jG c8 Hn ke mx nu.2 NS qk om oj).put (p:=.one (.aO t i j cp (es++bO) .k8)) ⟨r,rfl,eP,fun bJ=>by cases bJ⟩⟩
     have F3:∀c id,¬c<w.heap.size->ω c≠.box id:=fun c id ai e=>ai (aV.owned.lt (by rw[e];simp))
     by_cases uN:bO.length=0
     ·have Gc:bO=[]:=vY uN;subst Gc;refine⟨hX,w,Pv bQ kt w ?_ ?_,fin w ω hX (fun _ _ _=>rfl) (fun _ _=>rfl) F3 aV.below aV.owned aA (by rw[lz];exact aA)⟩
      ·cases aA with
       | nil _ _ a0=>exact⟨a0,0,0,rfl,fk _⟩
       | row R k es b off cap arr ty cO us ar dM ai aj hk hu aD=>exact⟨some ⟨b,off,none⟩,_,cap,rfl,ai⟩
      rcases lR.shape with⟨⟨a,h⟩,_⟩ | ⟨b,o,c,h,_⟩
      ·exact⟨a,0,h⟩
      exact⟨some ⟨b,o,none⟩,c,h⟩
     have rA:0<bO.length:=by omega
     rcases lR.shape with⟨_,h⟩ | ⟨ba,ly,jO,rfl,ps⟩
     ·rw[h]at rA;simp at rA
     have grown:∀(w1:World) (b7:Array Value) (r:Value) (k':Nat),gk w.heap.size w w1->w1.heap[w.heap.size]?=some (.cells b7 e (0,0))->r=.slice (some ⟨w.heap.size,0,none⟩) (es.length+bO.length) k'->
       es.length+bO.length<=k'->k'*cp<=b7.size->(∀fm kh d,cY es fm kh=some d->∃u,b7[fm*cp+kh]?=some u/\bV w ω (fun q o=>o=.tok t ((i,j)::(fm,kh)::q)) d u)->
       (∀x u,news[x]?=some u->b7[es.length*cp+x]?=some u)->(∀e∈es,e.length=cp)->
       Rel w0 ⟨(st.map (gM t i j cp es kT esT)).env.set d (.one (.aO t i j cp (es++bO) .k8)),(st.map (gM t i j cp es kT esT)).boxes⟩ (a.put (some d) r) w1:=by
      intro w1 b7 r k' ke fN Gx fE di hold yP sT;subst Gx
      let a1:Own:=fun c=>if c=w.heap.size then .tok t [(i,j)] else ω c
      have c8:∀c,c<w.heap.size->a1 c=ω c:=fun c ai=>by simp only[a1];rw[bh (by omega)]
      have ku:a1 w.heap.size=.tok t [(i,j)]:=by simp[a1]
      refine fin w1 a1 _ (fun c ai _=>ke.block c ai) c8 (fun c id ai=>?_) (aV.below.next ke) (fun b ar=>?_) (aA.frame fun c q ai aE=>⟨by rw[c8 c ai];exact aE,ke.block c ai⟩) ?_
      ·simp only[a1];split
       ·simp
       exact F3 c id ai
      ·by_cases sO:b=w.heap.size
       ·subst sO;exact⟨.inl aV.below.size,b7,e,fN⟩
       simp only[a1]at ar;rw[bh sO]at ar;obtain⟨aw,h3,ih,aH⟩:=aV.owned b ar;exact⟨aw,h3,ih,(ke.block b (aV.owned.lt ar)).trans aH⟩
      have e3:∀x kh d,cY (es++bO) x kh=some d->∃u,b7[x*cp+kh]?=some u/\bV w1 a1 (fun q o=>o=.tok t ((i,j)::(x,kh)::q)) d u:=by
       intro x kh d aD;rw[zB]at aD;split at aD
       ·obtain⟨u,h1,U⟩:=hold x kh d aD;exact⟨u,h1,U.frame fun c q ai aE=>⟨by rw[c8 c ai];exact aE,ke.block c ai⟩⟩
       rename_i ag;obtain⟨u,h1,rfl,U⟩:=Cd _ _ _ aD;refine⟨u,?_,.v _ _ U⟩;rw[<-yP _ u h1]
       congr 1
       have:x=es.length+(x-es.length):=by omega
       rw[this,fu];simp only[Nat.add_sub_cancel_left];omega
      have hlen:(es++bO).length=es.length+bO.length:=km;have py:∀e∈es++bO,e.length=cp:=by
       intro e' he;rcases lB.1 he with h | h
       ·exact sT e' h
       exact lR.rows e' h
      have:=bV.row (w:=w1) (ω:=a1) (fun q o=>o=.tok t ((i,j)::q)) cp (es++bO) w.heap.size 0 k' b7 e (0,0) (fun x j=>b7.getD (x*cp+j) undef) fN ku (by omega) (by omega) py
       (fun x j d aD=>by obtain⟨u,h1,_⟩:=e3 x j d aD;rw[dg,h1];simp[d',h1])
       (fun x j d aD=>by obtain⟨u,h1,U⟩:=e3 x j d aD;have:b7.getD (x*cp+j) undef=u:=(by simp[d',h1]);rw[this];exact U)
      rw[hlen]at this;exact this
     subst wL;have rE:=aA;cases aA with
     | nil _ _ a0=>
      simp only[bW,dg]at fU fL;have eQ:(Builtin.append_ #[hG,hG] ty #[.slice a0 0 0,.slice (some ⟨ba,ly,none⟩) bO.length jO]).run P w=
        .ok (.slice (some ⟨w.heap.size,0,none⟩) bO.length (grownCap w bO.length 0 e)) (w.drew.alloc (.cells (news.toArray++Builtin.zeroCells z.cells (grownCap w bO.length 0 e-bO.length)) e)):=by
       cases a0 with
       | none=>exact run_append_nil (P:=P) w hG ty e ha z bQ kt bf ⟨ba,ly,none⟩ bO.length jO news lR.len ps rA (by omega) (by omega)
       | some cg=>
        have:=run_append_grow (P:=P) w hG ty e ha z bQ kt bf cg 0 0 [] (by simp) (fun j v bt=>by simp at bt) ⟨ba,ly,none⟩ bO.length jO news lR.len ps (by omega) (by omega) (growslice_fits (by omega) (by simpa using fU));simpa using this
      have lN:=grownCap_ge w bO.length 0 e;exact⟨_,_,eQ,grown _ (news.toArray++Builtin.zeroCells z.cells (grownCap w bO.length 0 e-bO.length)) (.slice (some ⟨w.heap.size,0,none⟩) bO.length (grownCap w bO.length 0 e)) (grownCap w bO.length 0 e)
       (((gk.refl _ _).drew).alloc (fk _) _) (mC _ _) (by simp) (by simpa using lN) (by
        simp only[p8,kG,size_zeroCells,lR.len,ou,<-fu];exact gR _ (by omega))
       (fun fm j d aD=>by simp[cY]at aD) (fun x u ag=>by
        simp only[bW,Nat.zero_mul,dg];rw[ht,br (by have:=(eh.1 ag).1;simpa using this)];simpa using ag) (fun e he=>by cases he)⟩
     | row R k es b off cap arr hf cO us ar dM ai aj gr hu aD=>
      have hM:ω b=.tok t [(i,j)]:=dM;obtain⟨uR,sD,tV,hB⟩:=aV.owned b (by rw[hM];simp);rw[ar]at hB;simp only[aR,Obj.cells.injEq]at hB;obtain⟨rfl,rfl,rfl⟩:=hB;have uF:b<w.heap.size:=(ik.1 ar).1;by_cases px:es.length+bO.length<=cap
      ·have hmul:(es.length+bO.length)*ha.size<=cap*ha.size:=gR _ px;rw[fu]at hmul;have NH:=lR.len;have dO:off+es.length*ha.size+news.length<=arr.size:=by omega
       have eQ:=It (P:=P) (ty:=ty) bQ kt w b off es.length cap arr hf ar ⟨ba,ly,none⟩ bO.length jO news lR.len ps lR.one px dO;generalize mr:(arr.toList.take (off+es.length*ha.size)++news++arr.toList.drop (off+es.length*ha.size+news.length)).toArray=b7 at eQ;have hD:∀x:Nat,b7[x]?=if off+es.length*ha.size<=x/\x<off+es.length*ha.size+news.length then news[x-(off+es.length*ha.size)]? else arr[x]?:=by
        intro x;rw[<-mr,l8,zz (by simpa using dO)];simp
       have wM:b7.size=arr.size:=by rw[<-mr];simp;omega
       have jc:=setRow_heap w b arr b7 hf (0,0) ar;have jG:∀c,c<w.heap.size->ω c≠.tok t [(i,j)]->(w.setRow b b7).heap[c]?=w.heap[c]?:=fun c _ ai=>setRow_other w b c b7 fun e=>ai (by rw[e];exact hM)
       have lf:∀gi fY d u,bV w ω (fun q o=>o=.tok t ((i,j)::(gi,fY)::q)) d u->bV (w.setRow b b7) ω (fun q o=>o=.tok t ((i,j)::(gi,fY)::q)) d u:=by
        intro gi fY d u pg;refine pg.frame fun c q ai dU=>⟨dU,jG c ai fun e=>?_⟩
        rw[e]at dU;simp at dU
       refine⟨_,_,eQ,fin (w.setRow b b7) ω _ jG (fun _ _=>rfl) F3 (aV.below.setRow uR b7) (fun c fM=>?_) (bV.T7 rE ar jc wM (fun x ag=>by rw[hD,bh (by omega)]) (fun o e aZ=>by rw[<-e];exact aZ) (fun c p q ai aE=>⟨aE,jG c ai fun e=>by rw[e]at aE;simp at aE⟩)) ?_⟩
       ·obtain⟨aw,h3,ih,aH⟩:=aV.owned c fM;by_cases pf:c=b
        ·subst pf;exact⟨aw,b7,hf,jc⟩
        exact⟨aw,h3,ih,(setRow_other w b c b7 pf).trans aH⟩
       have e3:∀x kh d,cY (es++bO) x kh=some d->∃u,b7[off+x*ha.size+kh]?=some u/\bV (w.setRow b b7) ω (fun q o=>o=.tok t ((i,j)::(x,kh)::q)) d u:=by
        intro x kh d dR;rw[zB]at dR;split at dR
        ·rename_i ag;have yH:=(r0 gr dR).2;refine⟨us x kh,?_,lf x kh d _ (aD x kh d dR)⟩;have:(x+1)*ha.size<=es.length*ha.size:=gR _ ag;rw[fu]at this;rw[hD,bh (by omega),hu x kh d dR]
        rename_i ag;obtain⟨u,h1,rfl,U⟩:=Cd _ _ _ dR;have Yn:=(eh.1 h1).1;have wN:x*ha.size=es.length*ha.size+(x-es.length)*ha.size:=by rw[<-fu];congr 1;omega
        refine⟨u,?_,.v _ _ U⟩;rw[hD,br (by omega),<-h1]
        congr 1
        omega
       have hlen:(es++bO).length=es.length+bO.length:=km;have py:∀e∈es++bO,e.length=ha.size:=by
        intro e' he;rcases lB.1 he with h | h
        ·exact gr e' h
        exact lR.rows e' h
       have:=bV.row (w:=w.setRow b b7) (ω:=ω) (fun q o=>o=.tok t ((i,j)::q)) ha.size (es++bO) b off cap b7 hf (0,0) (fun x j=>b7.getD (off+x*ha.size+j) undef) jc hM (by omega) (by omega) py
        (fun x j d aD=>by obtain⟨u,h1,_⟩:=e3 x j d aD;rw[h1];simp[d',h1])
        (fun x j d aD=>by obtain⟨u,h1,U⟩:=e3 x j d aD;have:b7.getD (off+x*ha.size+j) undef=u:=(by simp[d',h1]);rw[this];exact U)
       rw[hlen]at this;exact this
      have hmul:es.length*ha.size<=cap*ha.size:=gR _ ai;have lP:((arr.toList.drop off).take (es.length*ha.size)).length=es.length*ha.size:=by simp;omega
      have eQ:=run_append_grow (P:=P) w hG ty e ha z bQ kt bf ⟨b,off,none⟩ es.length cap ((arr.toList.drop off).take (es.length*ha.size)) lP (fun j v bt=>by
       rw[pL,cell_of_row w b (off+j) arr hf (0,0) ar];rw[hh]at bt;split at bt
       ·rw[gQ]at bt;simpa using bt
       cases bt) ⟨ba,ly,none⟩ bO.length jO news lR.len ps (by omega) (by omega) (growslice_fits (by omega) fU)
      have lN:=grownCap_ge w (es.length+bO.length) cap e;exact⟨_,_,eQ,grown _ (((arr.toList.drop off).take (es.length*ha.size)).toArray++news.toArray++Builtin.zeroCells z.cells (grownCap w (es.length+bO.length) cap e-(es.length+bO.length))) _ (grownCap w (es.length+bO.length) cap e)
       (((gk.refl _ _).drew).alloc (fk _) _) (mC _ _) rfl lN (by
        simp only[p8,kG,size_zeroCells,lR.len,ou,lP,<-fu];exact gR _ (by omega))
       (fun fm j d dJ=>by
        obtain⟨wG,ee⟩:=r0 gr dJ;have:(fm+1)*ha.size<=es.length*ha.size:=gR _ wG;rw[fu]at this;refine⟨us fm j,?_,aD fm j d dJ⟩;rw[ht,br (by simp only[p8,kG,lP];omega),ht,br (by simp only[kG,lP];omega)];rw[l8,hh,br (by omega),gQ,<-hu fm j d dJ];simp only[iC]
        congr 1
        omega)
       (fun x u ag=>by
        have fP:=(eh.1 ag).1;rw[ht,br (by simp only[p8,kG,lP];omega),ht,bh (by simp only[kG,lP];omega)];simp only[kG,lP,l8];rw[<-ag]
        congr 1
        omega) gr⟩
    cases h
   cases h
  cases h
 cases h
theorem cy.V1{P:Program}{w0:er}{st bp:aI}{a:Act}{w:World}{ω:Own}{τ:Nat->Nat×Value}{d:Nat}{hG ty:TypeId}{t j k:Nat}{es:List (List D)}{x y:Operand}{ans cd:List b9}{obs:List Prop}
  (aV:cy w0 st a w ω τ) (hp:Sat w ω τ (.aO t i j k es .here) (a.eval x)) (h:Jg P st d hG t i j k es y ans=some (bp,cd,obs)) (aZ:cG obs):
  ∃z aN,(Builtin.append_ #[hG,hG] ty #[a.eval x,a.eval y]).run P w=.ok z aN/\Rel w0 bp (a.put (some d) z) aN:=by
 unfold Jg at h;split at h
 ·rename_i e cp kT esT iH e7 he X2;split at h
  ·rename_i inf bO uq wT hi io;split at h
   ·rename_i z bf;split at h
    ·rename_i ai;simp only[aR,bx]at h;obtain⟨rfl,rfl,rfl⟩:=h;obtain⟨fU,fL,wC,F9,Gs⟩:=aZ;obtain⟨oj,XQ⟩:=Gs.append;refine aV.sC (p:=.one (.aO t i j k (es++bO) .k8)) (ans:=.el iH::e7) (cd:=uq) (esT:=esT) (kT:=kT) hp ?_ (obs:=((es.length+bO.length)*inf.bytes<=140737488355328)::(es.length+bO.length<=9223372036854775807)::(esT[i]?=some iH)::(iH[j]?=some (.J k es))::wT) ⟨fU,fL,wC,F9,XQ⟩ (aV.root X2) (CM oj);unfold Sx.sC;simp only[he,hi,io,bf];rw[br ai]
    cases h
   cases h
  cases h
 cases h
