import Derived.Test.YtdchjefneblpgaaGreatR11
set_option linter.unusedVariables false
set_option linter.unusedSimpArgs false
namespace Go.Sx
open Go.RowKit
def Dr(P:Program)(st:aH)(d:Nat)(elem:TypeId)(r:List b7):Stepped:=
 match P.info? elem with
 | some i=>match i.zero with
  | some z=>if d<c3 then some (⟨(st.iK d []).env.set d (.one (.e5 d (z.cells.toList.map .v))),(st.iK d []).boxes⟩,r,[]) else none
  | none=>none
 | none=>none
variable{w0:ej}{st bp:aH}{a:Act}{w:World}{ω:Own}{τ:Nat->Nat×Value}{d:Nat}{ans cd:List b7}{obs:List Prop}
theorem cw.V8{P:Program}{elem:TypeId}(aU:cw w0 st a w ω τ)
  (h:Dr P st d elem ans=some (bp,cd,obs)):
  ∃z aN,(Instr.alloc elem true (.tuple #[])).run P w=.ok z aN/\Rel w0 bp (a.put (some d) z) aN:=by
 unfold Dr at h;split at h
 ·rename_i i hi;split at h
  ·rename_i z bd;split at h
   ·rename_i aE;simp only[aQ,bu]at h;obtain⟨rfl,_,_⟩:=h;have h1:=aU.iK d aE [] (k:=0) (cap:=0) (es:=[]) (arr:=z.cells) (ty:=elem) ((gd.refl _ _).alloc (fK _) (.cells z.cells elem)) (qU) (fK _) (by simp) (by simp)
     (by intro i j lC ah;simp[cT]at ah)
    refine⟨.pointer (some ⟨w.heap.size,0,none⟩),w.alloc (.cells z.cells elem),by simp[Instr.alloc,zeroValue,typeInfo,hi,bd,newVar,newRow],_,_,h1.1.put (p:=.one (.e5 d (z.cells.toList.map .v))) ?_⟩;refine⟨w.heap.size,elem,z.cells,rfl,by simp[oU],qU,by simp,fun j c ah=>?_⟩;rw[dd,b0]at ah;obtain⟨u,hu,rfl⟩:=ah;exact⟨u,by simpa using hu,rfl⟩
   cases h
  cases h
 cases h
def e4(t:Nat):Tag->Option Tag
 | .free=>some .free
 | .own s=>if s=t then none else some (.own s)
 | .ro s=>if s=t then none else some (.ro s)
variable{o:cS}
theorem Ds{t:Nat}{g ea:Tag}{q:List (Nat×Nat)}(h:e4 t g=some ea)(aD:g.R q o):ea=g/\∀di,o≠.tok t di:=by
 cases g with
 | free=>simp only[e4,aQ]at h;subst h;simp only[Tag.R]at aD;subst aD;exact⟨rfl,fun di e=>by cases e⟩
 | own s=>
  simp only[e4]at h;split at h
  ·cases h
  rename_i ai;simp only[aQ]at h;subst h;simp only[Tag.R]at aD;subst aD;exact⟨rfl,fun di e=>by simp only[cS.tok.injEq]at e;exact ai e.1⟩
 | ro s=>
  simp only[e4]at h;split at h
  ·cases h
  rename_i ai;simp only[aQ]at h;subst h;simp only[Tag.R]at aD;refine⟨rfl,fun di e=>?_⟩;subst e;rcases aD with aD | ⟨lf,aD⟩
  ·cases aD
  simp only[cS.tok.injEq]at aD;exact ai aD.1.symm
variable{s:Nat}
theorem I'{x:Value}(this:a.tmps[s]?=some x):a.put (some s) x=a:=by
 simp only[Act.put];have:a.tmps.setIfInBounds s x=a.tmps:=by
  apply Array.ext
  ·simp
  intro i h1 U;rw[Array.getElem_setIfInBounds];split
  ·rename_i hi;subst hi;rw[hJ U]at this;exact (eL this).symm
  rfl
 rw[this]
def aB.kO:aB->eK
 | .v x=>.v x
 | .bc c=>.v (.bool c)
 | .J t k es=>.J t k es
 | _=>.cp
def HF(p:aI):Option (List eK):=p.leaves.map (·.map aB.kO)
theorem aB.Oe{l:aB}{y:Value}(h:Sat w ω τ l y):qm w ω τ l.kO y:=by
 cases l<;>first | exact h | exact trivial
def eK.leaf:eK->aB
 | .cp=>.cp
 | .v x=>.v x
 | .J t k es=>.J t k es
theorem eK.dy{τ:Nat->Nat×Value}{c:eK}{y:Value}(h:qm w ω τ c y):Sat w ω τ c.leaf y:=by
 cases c<;>exact h
def Dt(P:Program)(st:aH)(ty:TypeId)(s:Nat)(q:aI)(ans:List b7):Stepped:=
 match (st.env.getD s .cp).leaf,HF q,P.info? ty with
 | some (.e5 t vs),some cs,some i=>
  if cs.length=i.size/\cs.length<=vs.length then
   let st2:=st.map (aB.ci (e4 t) fun _=>true)
   some (⟨st2.env.set s (.one (.e5 t ((cs++vs.drop cs.length).map (eK.ci (e4 t))))),st2.boxes⟩,ans,[])
  else none
 | _,_,_=>none
theorem cw.asi{P:Program}{ty:TypeId}{q:aI}{v:Value}
  (aU:cw w0 st a w ω τ) (aC:cI (Sat w ω τ) q v) (h:Dt P st ty s q ans=some (bp,cd,obs)):
  ∃aN,(Instr.storeAt ty (a.eval (.tmp s)) v).run P w=.ok () aN/\Rel w0 bp a aN:=by
 unfold Dt at h;split at h
 ·rename_i t vs cs i e1 e2 cc;split at h
  ·rename_i ah;obtain⟨c1,c2⟩:=ah;simp only[aQ,bu]at h;obtain⟨rfl,_,_⟩:=h;unfold HF at e2;rw[b0]at e2;obtain⟨ls,e2,rfl⟩:=e2;obtain⟨uV,pH⟩:=aI.w3 e2 aC;have ek:v.cells.size=ls.length:=uV.1;rw[bm]at c1 c2;have fW:st.env[s]?=some (.one (.e5 t vs)):=by
    rw[ik]at e1;cases e:st.env[s]? with
    | none=>rw[e]at e1;simp[aI.leaf]at e1
    | some p=>
     rw[e]at e1;simp only[iA]at e1;cases p with
     | fE as=>cases e1
     | aJ x=>
      cases x with
      | agg ls=>cases e1
      | one l=>simp only[aI.leaf,aQ]at e1;rw[e1]
   obtain⟨y,bn,ey⟩:=aU.env s _ fW;obtain⟨b,gY,arr,rfl,aq,wL,NY,u3⟩:=ey;have qw:a.eval (.tmp s)=ptrTo b:=by simp[Act.eval,d',bn]
   have eO:=run_storeCells_at P b 0 gY v.cells.toList 0 arr w wL (by simp;omega) pH;obtain⟨b6,mx⟩:∃b6,b6=(arr.toList.take (0+0)++v.cells.toList++arr.toList.drop (0+0+v.cells.toList.length)).toArray:=⟨_,rfl⟩
   rw[<-mx]at eO;have M9:b6=(v.cells.toList++arr.toList.drop v.cells.size).toArray:=by rw[mx];simp
   refine⟨w.setRow b b6,?_,?_⟩
   ·rw[qw];simp only[ptrTo,Instr.storeAt,Instr.sureAddr,Sem.run_bind,Sem.run_pure,Result.andThen_ok,storeVar,sizeOf,typeInfo,run_program,cc];rw[bg (by simp;omega)];exact eO
   have iQ:=setRow_heap w b arr b6 gY (0,0) wL;have bh:k4 w ω τ (w.setRow b b6) ω τ (e4 t) (fun _=>true):=by
    refine⟨?_,?_,fun id c _ ah=>ah,rfl,fun _ _=>rfl⟩
    ·intro g ea c q au _ aC;obtain⟨rfl,s3⟩:=Ds au aC;exact⟨aC,setRow_other w b c _ fun e=>s3 [] (by rw[e];exact aq)⟩
    intro g ea y au bn;cases g with
    | free=>simp only[e4,aQ]at au;subst au;trivial
    | own x=>
     simp only[e4]at au;split at au
     ·cases au
     simp only[aQ]at au;subst au;exact bn
    | ro x=>
     simp only[e4]at au;split at au
     ·cases au
     simp only[aQ]at au;subst au;trivial
   have h1:cw w0 (st.map (aB.ci (e4 t) fun _=>true)) a (w.setRow b b6) ω τ:=by
    refine aU.dS _ bh.sat (aU.below.setRow (aU.owned b (by rw[aq];simp)).1 _) ?_ (fun id c ah=>⟨ah,setRow_other w b c _ fun e=>by rw[e,aq]at ah;cases ah⟩) (fun id c ah=>ah) (fun _ _=>rfl);intro c ah;obtain⟨h1,h2,ii,U⟩:=aU.owned c ah;by_cases e:c=b
    ·subst e;exact⟨h1,_,gY,iQ⟩
    exact⟨h1,h2,ii,(setRow_other w b c _ e).trans U⟩
   have Nf:b6.size=(ls.map aB.kO++vs.drop (ls.map aB.kO).length).length/\∀(j:Nat) (c:eK),(ls.map aB.kO++vs.drop (ls.map aB.kO).length)[j]?=some c->∃u,b6[j]?=some u/\qm w ω τ c u:=by
    refine⟨by rw[M9];simp;omega,fun j c ah=>?_⟩;rw[M9,o5];by_cases a':j<ls.length
    ·rw[x' (by simpa using a'),dd,b0]at ah;obtain⟨l,ak,rfl⟩:=ah;obtain⟨u,fN,eT⟩:=uV.2 j l ak;exact⟨u,by rw[x' (by simp;omega)];simpa using fN,aB.Oe eT⟩
    rw[sD (by simpa using a'),bm,jZ]at ah;obtain⟨u,fN,eT⟩:=u3 _ c ah;refine⟨u,?_,eT⟩;rw[sD (by simp;omega),jZ,mT,<-fN]
    congr 1
    simp only[uh];omega
   have Gz:=CJ bh.kO Nf.1 Nf.2;have U:=h1.put (d:=s) (p:=.one (.e5 t ((ls.map aB.kO++vs.drop (ls.map aB.kO).length).map (eK.ci (e4 t))))) (v:=ptrTo b) ⟨b,gY,b6,rfl,aq,iQ,Gz⟩;rw[I' bn]at U;exact⟨ω,τ,U⟩
  cases h
 cases h
def HH(st:aH)(d:Nat):Option aH:=
 match st.env.getD d .cp with
 | .aJ (.one (.e5 t vs))=>
  if d<c3 then some ⟨(st.env.map (aI.map (aB.ci (e4 t) (iX d)))).set d (.one (.ptr d 0)),(d,vs.map fun c=>aB.ci (e4 t) (iX d) c.leaf)::(oR d st.boxes).map fun x=>(x.1,x.2.map (aB.ci (e4 t) (iX d)))⟩ else none
 | _=>none
theorem akH(h:Rel w0 st a w)(aT:HH st d=some bp):Rel w0 bp a w:=by
 obtain⟨ω,τ,h⟩:=h;unfold HH at aT;split at aT
 ·rename_i t vs he;split at aT
  case isFalse=>cases aT
  rename_i rL;simp only[aQ]at aT;subst aT;have fW:st.env[d]?=some (.one (.e5 t vs)):=by
   rw[ik]at he;cases e:st.env[d]? with
   | none=>rw[e]at he;cases he
   | some p=>rw[e]at he;simp only[iA]at he;rw[he]
  obtain⟨v,y9,rX⟩:=h.env d _ fW;obtain⟨b,ty,arr,rfl,aq,wL,NY,u3⟩:=rX
  let aY:Own:=fun c=>if c=b then .box d else match ω c with | .box i=>if i=d then .bE else .box i | o=>o
  have kp:aY b=.box d:=by simp[aY]
  have gu:∀c,c≠b->aY c=(match ω c with | .box i=>if i=d then .bE else .box i | o=>o):=by
   intro c ah;simp only[aY];rw[bg ah]
  have bh:k4 w ω τ w aY τ (e4 t) (iX d):=by
   refine⟨?_,?_,?_,rfl,fun _ _=>rfl⟩
   ·intro g ea c q au _ aC;obtain⟨rfl,s3⟩:=Ds au aC;have fG:c≠b:=fun e=>s3 [] (by rw[e];exact aq)
    refine⟨?_,rfl⟩;rw[gu c fG];cases ea with
    | free=>simp only[Tag.R]at aC ⊢;rw[aC]
    | own s=>simp only[Tag.R]at aC ⊢;rw[aC]
    | ro s=>
     simp only[Tag.R]at aC ⊢;rcases aC with aC | ⟨di,aC⟩
     ·rw[aC];exact .inl rfl
     rw[aC];exact .inr ⟨di,rfl⟩
   ·intro g ea y au bn;cases g with
    | free=>simp only[e4,aQ]at au;subst au;trivial
    | own s=>
     simp only[e4]at au;split at au
     ·cases au
     simp only[aQ]at au;subst au;exact bn
    | ro s=>
     simp only[e4]at au;split at au
     ·cases au
     simp only[aQ]at au;subst au;trivial
   intro i c hp ah;have fG:c≠b:=fun e=>by rw[e,aq]at ah;cases ah
   rw[gu c fG,ah];simp only[iX,cK]at hp;simp[hp]
  have pI:na w0 w aY:=by
   intro c ah;by_cases e:c=b
   ·subst e;exact h.owned c (by rw[aq];simp)
   rw[gu c e]at ah;exact h.owned c (fun e'=>by rw[e']at ah;exact ah rfl)
  have key:=h.FD (bs:=(d,vs.map fun c=>aB.ci (e4 t) (iX d) c.leaf)::(oR d st.boxes).map fun x=>(x.1,x.2.map (aB.ci (e4 t) (iX d)))) bh h.below pI ?_ (fun i c hi ah=>by
   by_cases aT:c=b
   ·subst aT;rw[kp]at ah;simp only[cS.box.injEq]at ah;omega
   rw[gu c aT]at ah;cases e:ω c with
   | bE=>simp[e]at ah
   | tok t q=>simp[e]at ah
   | box j=>
    simp only[e]at ah;split at ah
    ·cases ah
    exact ah)
  ·have:=key.put (d:=d) (p:=.one (.ptr d 0)) (v:=ptrTo b) ⟨b,kp,rfl⟩;rw[I' y9]at this;exact⟨aY,τ,this⟩
  intro i eU ak;simp only[dn]at ak;split at ak
  ·rename_i hi;subst hi;have e:=eL ak;subst e;refine⟨b,arr,ty,kp,?_,wL,by simpa using NY,fun j l a'=>?_⟩
   ·intro cU dA;by_cases aT:cU=b
    ·exact aT
    rw[gu cU aT]at dA;cases e:ω cU with
    | bE=>simp[e]at dA
    | tok t q=>simp[e]at dA
    | box j=>
     simp only[e]at dA;split at dA
     ·cases dA
     rename_i cC;simp only[cS.box.injEq]at dA;exact absurd dA cC
   rw[dd,b0]at a';obtain⟨c,ah,rfl⟩:=a';obtain⟨u,fN,eT⟩:=u3 j c ah;exact⟨u,fN,bh.sat _ _ (eK.dy eT)⟩
  rename_i hi;rw[r9,b0]at ak;obtain⟨iI,bJ,rfl⟩:=ak;have cC:i≠d:=fun e=>hi e.symm
  rw[xg cC]at bJ;obtain⟨c,b6,qg,ah,hu,bB,ey⟩:=h.boxes i iI bJ;refine⟨c,b6,qg,bh.box i c (by simp[iX,cC]) ah,?_,bB,ey.map bh.sat⟩;intro cU dA;by_cases aT:cU=b
  ·subst aT;rw[kp]at dA;simp only[cS.box.injEq]at dA;exact absurd dA.symm cC
  rw[gu cU aT]at dA;refine hu cU ?_;cases e:ω cU with
  | bE=>simp[e]at dA
  | tok t q=>simp[e]at dA
  | box j=>
   simp only[e]at dA;split at dA
   ·cases dA
   exact dA
 cases aT
def Fu(st:aH)(d:Nat):Option aH:=
 match st.env.getD d .cp,dn d st.boxes with
 | .aJ (.one (.ptr dq 0)),some ls=>
  if dq=d/\d<c3 then some ⟨(st.env.map (aI.map (aB.ci (e4 d) (iX d)))).set d (.one (.e5 d ((ls.map aB.kO).map (eK.ci (e4 d))))),(oR d st.boxes).map fun x=>(x.1,x.2.map (aB.ci (e4 d) (iX d)))⟩ else none
 | _,_=>none
theorem akI(h:Rel w0 st a w)(aT:Fu st d=some bp):Rel w0 bp a w:=by
 obtain⟨ω,τ,h⟩:=h;unfold Fu at aT;split at aT
 ·rename_i dq ls he ck;split at aT
  case isFalse=>cases aT
  rename_i rL;obtain⟨rfl,rL⟩:=rL;simp only[aQ]at aT;subst aT;have fW:st.env[dq]?=some (.one (.ptr dq 0)):=by
   rw[ik]at he;cases e:st.env[dq]? with
   | none=>rw[e]at he;cases he
   | some p=>rw[e]at he;simp only[iA]at he;rw[he]
  obtain⟨v,y9,rX⟩:=h.env dq _ fW;obtain⟨b4,iF,rfl⟩:=rX;obtain⟨b,arr,ty,aq,WL,wL,uV⟩:=h.boxes dq ls ck;have F5:b4=b:=WL b4 iF;subst F5
  let aY:Own:=fun c=>if c=b4 then .tok dq [] else match ω c with | .tok s q=>if s=dq then .bE else .tok s q | o=>o
  have kp:aY b4=.tok dq []:=by simp[aY]
  have gu:∀c,c≠b4->aY c=(match ω c with | .tok s q=>if s=dq then .bE else .tok s q | o=>o):=by
   intro c ah;simp only[aY];rw[bg ah]
  have bh:k4 w ω τ w aY τ (e4 dq) (iX dq):=by
   refine⟨?_,?_,?_,rfl,fun _ _=>rfl⟩
   ·intro g ea c q au _ aC;obtain⟨rfl,s3⟩:=Ds au aC;have fG:c≠b4:=fun e=>by
     rw[e,aq]at aC;cases ea with
     | free=>cases aC
     | own s=>cases aC
     | ro s=>
      rcases aC with aC | ⟨di,aC⟩
      ·cases aC
      cases aC
    refine⟨?_,rfl⟩;rw[gu c fG];cases ea with
    | free=>simp only[Tag.R]at aC ⊢;rw[aC]
    | own s=>
     simp only[Tag.R]at aC ⊢;rw[aC];simp only;rw[bg];rintro rfl;exact s3 _ aC
    | ro s=>
     simp only[Tag.R]at aC ⊢;rcases aC with aC | ⟨di,aC⟩
     ·rw[aC];exact .inl rfl
     rw[aC];simp only;rw[bg]
     ·exact .inr ⟨di,rfl⟩
     rintro rfl;exact s3 _ aC
   ·intro g ea y au bn;cases g with
    | free=>simp only[e4,aQ]at au;subst au;trivial
    | own s=>
     simp only[e4]at au;split at au
     ·cases au
     simp only[aQ]at au;subst au;exact bn
    | ro s=>
     simp only[e4]at au;split at au
     ·cases au
     simp only[aQ]at au;subst au;trivial
   intro i c hp ah;simp only[iX,cK]at hp;have fG:c≠b4:=fun e=>by rw[e,aq]at ah;simp only[cS.box.injEq]at ah;exact hp ah.symm
   rw[gu c fG,ah]
  have pI:na w0 w aY:=by
   intro c ah;by_cases e:c=b4
   ·subst e;exact h.owned c (by rw[aq];simp)
   rw[gu c e]at ah;exact h.owned c (fun e'=>by rw[e']at ah;exact ah rfl)
  have Na:∀i c,aY c=.box i->ω c=.box i/\c≠b4:=by
   intro i c ah;by_cases aT:c=b4
   ·subst aT;rw[kp]at ah;cases ah
   rw[gu c aT]at ah;cases e:ω c with
   | bE=>simp[e]at ah
   | box j=>simp only[e]at ah;exact⟨ah,aT⟩
   | tok t q=>
    simp only[e]at ah;split at ah<;>cases ah
  have key:=h.FD (bs:=(oR dq st.boxes).map fun x=>(x.1,x.2.map (aB.ci (e4 dq) (iX dq)))) bh h.below pI ?_ (fun i c _ ah=>(Na i c ah).1)
  ·have:=key.put (d:=dq) (p:=.one (.e5 dq ((ls.map aB.kO).map (eK.ci (e4 dq))))) (v:=ptrTo b4) ⟨b4,ty,arr,rfl,kp,wL,CJ bh.kO (by rw[uV.1];simp) (fun j c ah=>by
    rw[dd,b0]at ah;obtain⟨l,ak,rfl⟩:=ah;obtain⟨u,fN,eT⟩:=uV.2 j l ak;exact⟨u,fN,aB.Oe eT⟩)⟩
   rw[I' (show a.tmps[dq]?=some (ptrTo b4) from y9)]at this;exact⟨aY,τ,this⟩
  intro i eU ak;rw[r9,b0]at ak;obtain⟨iI,bJ,rfl⟩:=ak;have cC:i≠dq:=fun e=>by rw[e,H5]at bJ;cases bJ
  rw[xg cC]at bJ;obtain⟨c,b6,qg,ah,hu,bB,ey⟩:=h.boxes i iI bJ;exact⟨c,b6,qg,bh.box i c (by simp[iX,cC]) ah,fun cU dA=>hu cU (Na i cU dA).1,bB,ey.map bh.sat⟩
 cases aT
def zQ:List Nat->aH->Option aH
 | [],st=>some st
 | d::ds,st=>(Fu st d).bind (zQ ds)
theorem OU:∀{ds:List Nat} {st bp:aH},Rel w0 st a w->zQ ds st=some bp->Rel w0 bp a w
 | [],st,bp,h,aT=>by simp only[zQ,aQ]at aT;subst aT;exact h
 | d::ds,st,bp,h,aT=>by
  simp only[zQ,lv]at aT;obtain⟨st1,h1,U⟩:=aT;exact OU (akI h h1) U
def zR:List Nat->aH->Option aH
 | [],st=>some st
 | d::ds,st=>(HH st d).bind (zR ds)
theorem OV:∀{ds:List Nat} {st bp:aH},Rel w0 st a w->zR ds st=some bp->Rel w0 bp a w
 | [],st,bp,h,aT=>by simp only[zR,aQ]at aT;subst aT;exact h
 | d::ds,st,bp,h,aT=>by
  simp only[zR,lv]at aT;obtain⟨st1,h1,U⟩:=aT;exact OV (akH h h1) U
def jV(s n:Nat):Tag->Option Tag
 | .own x=>if x=s then some (.ro n) else if x=n then none else some (.own x)
 | .ro x=>if x=s then some (.ro n) else if x=n then none else some (.ro x)
 | .free=>some .free
def iY(s n l:Nat):cS->cS
 | .tok x q=>if x=s then (match q with | []=>.tok n [] | (i,j)::r=>if i<l then .bE else .tok n ((i-l,j)::r)) else if x=n then .bE else .tok x q
 | o=>o
variable{l n:Nat}
theorem Ja(h:iY s n l o≠.bE):o≠.bE:=by rintro rfl;exact h rfl
theorem tw{id:Nat}:iY s n l o=.box id<->o=.box id:=by
 cases o with
 | bE=>simp[iY]
 | box i=>simp[iY]
 | tok x q=>
  simp only[iY];split
  ·split
   ·simp
   ·split<;>simp
  ·split<;>simp
theorem OW{q:List (Nat×Nat)}:iY s n l (.tok s q)=.bE\/∃di,iY s n l (.tok s q)=.tok n di:=by
 simp only[iY,gL];split
 ·exact .inr ⟨_,rfl⟩
 split
 ·exact .inl rfl
 exact .inr ⟨_,rfl⟩
theorem Jb{k:Nat}{z:Value}(hQ:n<c3):k4 w ω τ w (fun b=>iY s n l (ω b)) (fP τ n k z) (jV s n) (fun _=>true):=by
 refine⟨?_,?_,?_,rfl,fun t bR=>by simp only[fP];rw[bg (by omega)]⟩
 ·intro g ea b q au _ aC;refine⟨?_,rfl⟩;cases g with
  | free=>simp only[jV,aQ]at au;subst au;simp only[Tag.R]at aC ⊢;rw[aC];rfl
  | own x=>
   simp only[jV]at au;simp only[Tag.R]at aC;split at au
   ·rename_i ai;simp only[aQ]at au;subst au;subst ai;simp only[Tag.R,aC];exact OW
   rename_i ai;split at au
   ·cases au
   rename_i aT;simp only[aQ]at au;subst au;simp only[Tag.R,aC,iY,bg ai,bg aT]
  | ro x=>
   simp only[jV]at au;simp only[Tag.R]at aC;split at au
   ·rename_i ai;simp only[aQ]at au;subst au;subst ai;rcases aC with aC | ⟨di,aC⟩
    ·rw[aC];exact .inl rfl
    rw[aC];exact OW
   rename_i ai;split at au
   ·cases au
   rename_i aT;simp only[aQ]at au;subst au;rcases aC with aC | ⟨di,aC⟩
   ·rw[aC];exact .inl rfl
   rw[aC];simp only[iY,bg ai,bg aT];exact .inr ⟨di,rfl⟩
 ·intro g ea y au bn;cases g with
  | free=>simp only[jV,aQ]at au;subst au;trivial
  | own x=>
   simp only[jV]at au;split at au
   ·simp only[aQ]at au;subst au;trivial
   rename_i ai;split at au
   ·cases au
   rename_i aT;simp only[aQ]at au;subst au;simp only[Tag.dN,fP,bg aT]at bn ⊢;exact bn
  | ro x=>
   simp only[jV]at au;split at au
   ·simp only[aQ]at au;subst au;trivial
   split at au
   ·cases au
   simp only[aQ]at au;subst au;trivial
 intro id b _ aq;exact tw.2 aq
def nN(s d:Nat):Nat:=if s<c3 then s else d
def x0(P:Program)(st:aH)(d:Nat)(t:TypeId)(p:aI)(cQ hi iu:Option Operand)(ans:List b7):Stepped:=
 match pW P t,p.leaf,iu with
 | some (_,k),some (.J (.own s) cm es),none=>
  if k=cm/\nN s d<c3 then
   match lg st cQ,lg st hi with
   | some l,some h=>
    let st2:=st.map (aB.ci (jV s (nN s d)) fun _=>true)
    some (⟨st2.env.set d (.one (.J (.own (nN s d)) k ((es.drop (l.getD 0).toNat).take ((h.getD es.length).toNat-(l.getD 0).toNat)))),st2.boxes⟩,ans,[0<=l.getD 0,l.getD 0<=h.getD es.length,h.getD es.length<=es.length])
   | _,_=>none
  else none
 | _,_,_=>none
theorem cw.x0{P:Program}{t:TypeId}{p:aI}{v:Value}{cQ hi iu:Option Operand}
  (aU:cw w0 st a w ω τ) (hp:cI (Sat w ω τ) p v) (h:x0 P st d t p cQ hi iu ans=some (bp,cd,obs)) (aX:cE obs):
  ∃z,(Instr.sliceAt t v (cQ.map a.eval) (hi.map a.eval) (iu.map a.eval)).run P w=.ok z w/\Rel w0 bp (a.put (some d) z) w:=by
 unfold Go.Sx.x0 at h;split at h
 ·rename_i e k s cm es e1 e2;split at h
  ·rename_i hk;obtain⟨rfl,ai⟩:=hk;split at h
   ·rename_i l bB cc ec;simp only[aQ,bu]at h;obtain⟨rfl,_,rfl⟩:=h;obtain⟨hu,i,k9,bd⟩:=vA e1;obtain⟨aD,_⟩:=aI.dy e2 hp;obtain⟨cn,ca,cB,_⟩:=aX;have ax:=zG aU cc;have aK:=zG aU ec;have pE:(cQ.map a.eval=none/\l.getD 0=0)\/∃k,cQ.map a.eval=some (.int k (l.getD 0)):=by
     rcases ax with⟨h,rfl⟩ | ⟨k,n,h,rfl⟩
     ·exact .inl ⟨h,rfl⟩
     exact .inr ⟨k,h⟩
    have qy:(hi.map a.eval=none/\bB.getD es.length=es.length)\/∃k,hi.map a.eval=some (.int k (bB.getD es.length)):=by
     rcases aK with⟨h,rfl⟩ | ⟨k,n,h,rfl⟩
     ·exact .inl ⟨h,rfl⟩
     exact .inr ⟨k,h⟩
    have key:∀(L m:Nat) (z:Value),L<=m->bW w (fun b=>iY s (nN s d) L (ω b)) (Tag.own (nN s d)).R (.J k ((es.drop L).take (m-L))) z->
      Rel w0 ⟨(st.map (aB.ci (jV s (nN s d)) fun _=>true)).env.set d (.one (.J (.own (nN s d)) k ((es.drop L).take (m-L)))),(st.map (aB.ci (jV s (nN s d)) fun _=>true)).boxes⟩ (a.put (some d) z) w:=by
     intro L m z _ Ci;have h1:cw w0 (st.map (aB.ci (jV s (nN s d)) fun _=>true)) a w (fun b=>iY s (nN s d) L (ω b)) (fP τ (nN s d) k z):=
      aU.dS _ (Jb (by omega)).sat aU.below (fun b aq=>aU.owned b (Ja aq)) (fun id b aq=>⟨tw.2 aq,rfl⟩) (fun id b aq=>tw.1 aq)
       (fun t bR=>by simp only[fP];rw[bg (by omega)])
     exact⟨_,_,h1.put (p:=.one (.J (.own (nN s d)) k ((es.drop L).take (m-L)))) ⟨Ci,by simp[Tag.dN,fP]⟩⟩
    cases aD with
    | nil _ _ a0=>
     simp only[b9] at*;have bz:l.getD 0=0:=by omega
     have Fx:bB.getD ((0:Nat):Int)=0:=by omega
     refine⟨.slice a0 0 0,?_,?_⟩
     ·simp only[Instr.sliceAt,Sem.run_bind,run_underlying hu,Result.andThen_ok,Instr.slice,Option.map_none];rw[zF pE qy cn ca cB];have Fy:bB.getD 0=0:=by simpa using Fx
      simp[sizeOf,typeInfo,k9,bz,Fy]
     refine key _ _ _ (by omega) ?_;simp only[List.drop_nil,List.take_nil];exact .nil _ _ _
    | row R k es b off cap arr ty cN us aq dI ah ek hk iU aE=>
     refine⟨sliced (some ⟨b,off,none⟩) (l.getD 0).toNat (bB.getD es.length).toNat cap k,?_,?_⟩
     ·simp only[Instr.sliceAt,Sem.run_bind,run_underlying hu,Result.andThen_ok,Instr.slice,Option.map_none];rw[zF pE qy cn ca (by omega)];simp[sizeOf,typeInfo,k9,bd,sliced]
     refine key _ _ _ (by omega) ?_;have:=bW.sub (.row _ k es b off cap arr ty cN us aq dI ah ek hk iU aE) (l:=(l.getD 0).toNat) (m:=(bB.getD es.length).toNat) (by omega) (by omega)
      (h0:=fun q o=>match q with | []=>o=.tok s [] | (i,j)::r=>o=.tok s ((i+(l.getD 0).toNat,j)::r)) (fun o h=>h) (fun i j q o Xx h=>by
       simp only[Tag.R]at h;simp only[Nat.sub_add_cancel Xx];exact h)
     refine this.frame fun c q _ aC=>⟨?_,rfl⟩
     simp only[Tag.R];cases q with
     | nil=>simp only at aC;rw[aC];simp[iY]
     | cons x r=>
      obtain⟨i,j⟩:=x;simp only at aC;rw[aC];have cz:¬(i+(l.getD 0).toNat<(l.getD 0).toNat):=by omega
      simp only[iY,gL,bg cz,Nat.add_sub_cancel]
   cases h
  cases h
 cases h
end Go.Sx
namespace Go.Sx
open Go.RowKit
def laid(arr:Array Value)(o:Nat)(cs:List Value):Array Value:=(arr.toList.take o++cs++arr.toList.drop (o+cs.length)).toArray
theorem akJ{arr:Array Value}{o:Nat}{cs:List Value}(h:o+cs.length<=arr.size):(laid arr o cs).size=arr.size:=by
 simp[laid];omega
theorem OX{arr:Array Value}{o:Nat}{cs:List Value}(h:o+cs.length<=arr.size)(x:Nat):
  (laid arr o cs)[x]?=if o<=x/\x<o+cs.length then cs[x-o]? else arr[x]?:=by
 simp only[laid,o5,re];have ak:(arr.toList.take o).length=o:=by simp;omega
 split
 ·rename_i ag;rw[sD (by omega),x' (by omega),ak]
 rename_i ag;by_cases h1:x<o
 ·rw[x' (by omega),j1,br h1,mT]
 rw[sD (by omega),sD (by omega),ak,jZ,mT]
 congr 1
 omega
theorem akK{P:Program}(w:World)(t e ty:TypeId)(z:Value)(bR:P.underlying t=some (.slice e))(bA:(zeroValue e).run P w=.ok z w)(b o n c:Nat)(arr:Array Value)(tb:TypeId)
  (aq:w.heap[b]?=some (.cells arr tb (0,0))) (ev:o+n*z.cells.size<=arr.size) (h1:∀v∈z.cells.toList,v.oneCell'=true):
  ∃zs:List Value,zs.length=n*z.cells.size/\(∀m,m<n*z.cells.size->zs[m]?=z.cells[m % z.cells.size]?)/\(Builtin.clear_ #[t] ty #[.slice (some ⟨b,o,none⟩) n c]).run P w=.ok (.tuple #[]) (if n=0 then w else w.setRow b (laid arr o zs)):=by
 refine⟨(Builtin.zeroCells z.cells n).toList,by simp[Builtin.zeroCells],fun m hm=>?_,?_⟩
 ·have Ch:0<z.cells.size:=by
   rcases Nat.eq_zero_or_pos z.cells.size with h | h
   ·rw[h]at hm;simp at hm
   exact h
  simp only[Builtin.zeroCells,Array.toList_map,Array.toList_range,dd,List.getElem?_range hm,l3];rw[getElem!_pos z.cells _ (Nat.mod_lt _ Ch),hJ (Nat.mod_lt _ Ch)]
 have pH:∀v∈(Builtin.zeroCells z.cells n).toList,v.oneCell'=true:=by
  intro v y8;simp only[Builtin.zeroCells,Array.toList_map,k2,Array.toList_range,List.mem_range]at y8;obtain⟨i,hi,rfl⟩:=y8;have Ch:0<z.cells.size:=by
   rcases Nat.eq_zero_or_pos z.cells.size with h | h
   ·rw[h]at hi;simp at hi
   exact h
  refine h1 _ ?_;rw[getElem!_pos z.cells _ (Nat.mod_lt _ Ch)];simp
 have eO:=run_storeCells_at P b o tb (Builtin.zeroCells z.cells n).toList 0 arr w aq (by simpa[Builtin.zeroCells]using ev) pH;simp only[l4]at eO;cases n with
 | zero=>simp[Builtin.clear_,run_underlying bR]
 | succ n=>simp[Builtin.clear_,run_underlying bR,bA,eO,laid]
def w'(t k:Nat)(cv:List (List D)):aB->aB
 | .J (.own s) cm es=>if s=t then .J (.own t) k cv else .J (.own s) cm es
 | l=>aB.ci (e4 t) (fun _=>true) l
def Du(P:Program)(st:aH)(d:Nat)(t:TypeId)(x:Operand)(cQ:Option Operand)(gn:TypeId)(ans:List b7):Stepped:=
 match pW P t,(st.bh x).leaf with
 | some (e,k),some (.J (.own gC) cm es)=>
  match P.info? e with
  | some i=>
   match i.zero,lg st cQ with
   | some z,some l=>
    if k=cm/\t=gn/\z.cells.size=k/\z.cells.toList.all (fun v=>v.oneCell')=true/\d<st.env.length then
     let st2:=st.map (w' gC k (es.take (l.getD 0).toNat++List.replicate (es.length-(l.getD 0).toNat) (z.cells.toList.map .v)))
     some (⟨st2.env.set d .cp,st2.boxes⟩,ans,[0<=l.getD 0,l.getD 0<es.length,Flat es])
    else none
   | _,_=>none
  | none=>none
 | _,_=>none
theorem cw.clear{P:Program}{w0:ej}{st bp:aH}{a:Act}{w:World}{ω:Own}{τ:Nat->Nat×Value}{d:Nat}{t gn:TypeId}{x:Operand}{cQ:Option Operand}{ans cd:List b7}{obs:List Prop}
  (aU:cw w0 st a w ω τ) (h:Du P st d t x cQ gn ans=some (bp,cd,obs)) (aX:cE obs):
  d<a.tmps.size/\∃y z aN,(Instr.sliceAt t (a.eval x) (cQ.map a.eval) none none).run P w=.ok y w/\(∀ty,(Builtin.clear_ #[gn] ty #[y]).run P w=.ok z aN)/\Rel w0 bp (a.put (some d) y) aN:=by
 unfold Du at h;split at h
 ·rename_i e k gC cm es he ag;split at h
  ·rename_i i hi;split at h
   ·rename_i z l bd Nx;split at h
    ·rename_i ah;obtain⟨rfl,rfl,lM,zf,rM⟩:=ah;refine⟨by rw[aU.size];exact rM,?_⟩;simp only[aQ,bu]at h;obtain⟨rfl,_,rfl⟩:=h;obtain⟨cn,ca,Ca,_⟩:=aX;obtain⟨hu,i2,jR,ek⟩:=vA he;obtain⟨aD,bB⟩:=aI.dy ag (aU.bh x);have ax:=zG aU Nx;have pE:(cQ.map a.eval=none/\l.getD 0=0)\/∃k,cQ.map a.eval=some (.int k (l.getD 0)):=by
      rcases ax with⟨h,rfl⟩ | ⟨k,n,h,rfl⟩
      ·exact .inl ⟨h,rfl⟩
      exact .inr ⟨k,h⟩
     generalize qw:a.eval x=EA at aD bB;cases aD with
     | nil _ _ a0=>simp at ca;omega
     | row R k es b off cap arr ty cN us aq dI hB ai hk iU aE=>
      have hP:ω b=.tok gC []:=dI;obtain⟨rP,sK,ua,iF⟩:=aU.owned b (by rw[hP];simp);rw[aq]at iF;simp only[aQ,Obj.cells.injEq]at iF;obtain⟨rfl,rfl,rfl⟩:=iF;obtain⟨L,cz⟩:∃L,L=(l.getD 0).toNat:=⟨_,rfl⟩
      have atm:L<es.length:=by omega
      rw[<-cz];have ev:off+L*k+(es.length-L)*z.cells.size<=arr.size:=by
       rw[lM,Bx,<-fo,show L+(es.length-L)=es.length by omega];have:=gK k hB;omega
      have Ym:(zeroValue e).run P w=.ok z w:=by simp[zeroValue,typeInfo,hi,bd]
      obtain⟨zs,lb,N4,Ng⟩:∃zs:List Value,zs.length=(es.length-L)*z.cells.size/\(∀m,m<(es.length-L)*z.cells.size->zs[m]?=z.cells[m % z.cells.size]?)/\
        ∀ty,(Builtin.clear_ #[t] ty #[.slice (some ⟨b,off+L*k,none⟩) (es.length-L) (cap-L)]).run P w=.ok (.tuple #[]) (if es.length-L=0 then w else w.setRow b (laid arr (off+L*k) zs)):=by
       obtain⟨zs,h1,U,ax⟩:=akK (P:=P) w t e 0 z hu Ym b (off+L*k) (es.length-L) (cap-L) arr ty aq ev (fv.1 zf);exact⟨zs,h1,U,fun qg=>ax⟩
      rw[bg (by omega)]at Ng;rw[lM]at lb N4;have da:off+L*k+zs.length<=arr.size:=by rw[lb,<-lM];exact lM▸ev
      refine⟨.slice (some ⟨b,off+L*k,none⟩) (es.length-L) (cap-L),_,_,?_,Ng,?_⟩
      ·simp only[Instr.sliceAt,Sem.run_bind,run_underlying hu,Result.andThen_ok,Instr.slice,Option.map_none];rw[zF (h:=es.length) pE (.inl ⟨rfl,rfl⟩) cn (by omega) (by omega)];have cC:¬cap=L:=by omega
       simp[sizeOf,typeInfo,jR,ek,<-cz,cC,Addr.add_lit]
      -- aue asb behind it
      have iQ:=setRow_heap w b arr (laid arr (off+L*k) zs) ty (0,0) aq;have fH:bW (w.setRow b (laid arr (off+L*k) zs)) ω (Tag.own gC).R (.J k (es.take L++List.replicate (es.length-L) (z.cells.toList.map .v))) (.slice (some ⟨b,off,none⟩) es.length cap):=by
       have hlen:(es.take L++List.replicate (es.length-L) (z.cells.toList.map D.v)).length=es.length:=by simp;omega
       have eW:∀x j d,cT (es.take L++List.replicate (es.length-L) (z.cells.toList.map D.v)) x j=some d->∃v,d=.v v/\(laid arr (off+L*k) zs)[off+x*k+j]?=some v/\v.oneCell'=true:=by
        intro x j d dM;rw[zK]at dM;have GN:(es.take L).length=L:=by simp;omega
        rw[GN]at dM;split at dM
        ·rename_i GO;have uT:cT es x j=some d:=by
          unfold cT at dM ⊢;rwa[j1,br GO]at dM
         obtain⟨oB,ko⟩:=r' hk uT;have pF:∃v,d=.v v:=by
          unfold cT at uT;cases e1:es[x]? with
          | none=>simp[e1]at uT
          | some ds=>
           simp only[e1,l1]at uT;exact Ca ds (fp e1) d (fp uT)
         obtain⟨v,rfl⟩:=pF;have aK:=aE x j _ uT;have aV:=iU x j _ uT;generalize us x j=u at aK aV;cases aK with
         | v _ _ bw=>
          refine⟨v,rfl,?_,bw⟩;rw[OX da,bg ?_,aV];have:(x+1)*k<=L*k:=gK _ GO;rw[fo]at this;omega
        rename_i GO;unfold cT at dM;rw[Bu]at dM;split at dM
        ·rename_i rY;simp only[l1,dd,b0]at dM;obtain⟨v,bA,rfl⟩:=dM;have yP:j<k:=by
          have:=(eu.1 bA).1;rw[uh,lM]at this;exact this
         refine⟨v,rfl,?_,fv.1 zf v (fp bA)⟩;obtain⟨m,hm⟩:∃m,x=L+m:=⟨x-L,by omega⟩
         subst hm;have XG:m*k+j<(es.length-L)*k:=by
          have:(m+1)*k<=(es.length-L)*k:=gK _ (by omega);rw[fo]at this;omega
         have e1:off+(L+m)*k+j=off+L*k+(m*k+j):=by rw[fo];omega
         rw[e1,OX da,br (by omega),show off+L*k+(m*k+j)-(off+L*k)=m*k+j by omega,N4 _ XG,show (m*k+j) % k=j by rw[Nat.mul_comm m k,Nat.mul_add_mod,Bw yP]];simpa using bA
        simp at dM
       have:=bW.row (w:=w.setRow b (laid arr (off+L*k) zs)) (ω:=ω) (Tag.own gC).R k (es.take L++List.replicate (es.length-L) (z.cells.toList.map .v)) b off cap _ ty (0,0)
        (fun x j=>(laid arr (off+L*k) zs).getD (off+x*k+j) undef) iQ dI (by omega) (by rw[akJ da];exact ai)
        (by
         intro e' uU;rcases mW.1 uU with h | h
         ·exact hk e' (Fg h)
         rw[List.eq_of_mem_replicate h];simp[lM])
        (fun x j d dM=>by obtain⟨v,rfl,h1,_⟩:=eW x j d dM;simp[d',h1])
        (fun x j d dM=>by
         obtain⟨v,rfl,h1,U⟩:=eW x j d dM;have:(laid arr (off+L*k) zs).getD (off+x*k+j) undef=v:=by simp[d',h1]
         rw[this];exact .v _ _ U)
       rwa[hlen]at this
      have bh:k4 w ω τ (w.setRow b (laid arr (off+L*k) zs)) ω τ (e4 gC) (fun _=>true):=by
       refine⟨?_,?_,fun id c _ ah=>ah,rfl,fun _ _=>rfl⟩
       ·intro g ea c q au _ aC;obtain⟨rfl,s3⟩:=Ds au aC;exact⟨aC,setRow_other w b c _ fun e=>s3 [] (by rw[e];exact hP)⟩
       intro g ea y au bn;cases g with
       | free=>simp only[e4,aQ]at au;subst au;trivial
       | own x=>
        simp only[e4]at au;split at au
        ·cases au
        simp only[aQ]at au;subst au;exact bn
       | ro x=>
        simp only[e4]at au;split at au
        ·cases au
        simp only[aQ]at au;subst au;trivial
      have ey:∀ka v,Sat w ω τ ka v->Sat (w.setRow b (laid arr (off+L*k) zs)) ω τ (w' gC k (es.take L++List.replicate (es.length-L) (z.cells.toList.map .v)) ka) v:=by
       intro ka v GL;by_cases Nd:∃s cm cv,ka=.J (.own s) cm cv
       ·obtain⟨s,cm,cv,rfl⟩:=Nd;simp only[w'];split
        ·rename_i eO;subst eO;obtain⟨_,U⟩:=GL;simp only[Tag.dN]at U bB;rw[U]at bB;simp only[bu]at bB;obtain⟨rfl,rfl⟩:=bB;exact⟨fH,U⟩
        rename_i eO;have:=bh.sat (.J (.own s) cm cv) v GL;simpa[aB.ci,e4,eO]using this
       have ed:w' gC k (es.take L++List.replicate (es.length-L) (z.cells.toList.map .v)) ka=aB.ci (e4 gC) (fun _=>true) ka:=by
        unfold w';split
        ·exact absurd ⟨_,_,_,rfl⟩ Nd
        rfl
       rw[ed];exact bh.sat ka v GL
      have h1:cw w0 (st.map (w' gC k (es.take L++List.replicate (es.length-L) (z.cells.toList.map .v)))) a (w.setRow b (laid arr (off+L*k) zs)) ω τ:=by
       refine aU.dS _ ey (aU.below.setRow rP _) ?_ (fun id c ah=>⟨ah,setRow_other w b c _ fun e=>by rw[e,hP]at ah;cases ah⟩) (fun id c ah=>ah) (fun _ _=>rfl);intro c ah;obtain⟨h1,h2,ii,U⟩:=aU.owned c ah;by_cases e:c=b
       ·subst e;exact⟨h1,_,ty,iQ⟩
       exact⟨h1,h2,ii,(setRow_other w b c _ e).trans U⟩
      exact⟨ω,τ,h1.put (p:=.cp) trivial⟩
    cases h
   cases h
  cases h
 cases h
end Go.Sx
namespace Go.Sx
open Go.RowKit
def bq.kE(p:aB->Prop):bq->Prop
 | .one l=>p l
 | .agg ls=>∀l∈ls,p l
def aI.kE(p:aB->Prop):aI->Prop
 | .aJ a=>a.kE p
 | .fE as=>∀a∈as,a.kE p
variable{S j4:aB->Value->Prop}{p:aB->Prop}{f:aB->aB}{ls:List aB}
theorem jP.map'(h:∀l v,p l->S l v->j4 (f l) v){vs:Array Value}(aj:∀l∈ls,p l)(ai:jP S ls vs):jP j4 (ls.map f) vs:=by
 refine⟨by simpa using ai.1,fun i l ak=>?_⟩;rw[dd,b0]at ak;obtain⟨eP,bJ,rfl⟩:=ak;obtain⟨u,h1,U⟩:=ai.2 i eP bJ;exact⟨u,h1,h _ _ (aj eP (fp bJ)) U⟩
theorem jO.map'(h:∀l v,p l->S l v->j4 (f l) v):∀{a:bq} {y:Value},a.kE p->jO S a y->jO j4 (a.map f) y
 | .one l,y,aj,ai=>h _ _ aj ai
 | .agg ls,y,aj,⟨vs,e,ai⟩=>⟨vs,e,ai.map' h aj⟩
theorem cI.map'(h:∀l v,p l->S l v->j4 (f l) v):∀{q:aI} {y:Value},q.kE p->cI S q y->cI j4 (q.map f) y
 | .aJ a,y,aj,ai=>show jO j4 (a.map f) y from jO.map' h aj (show jO S a y from ai)
 | .fE as,y,aj,⟨vs,e,aT,ai⟩=>⟨vs,e,by simpa using aT,fun i a hi=>by
   rw[dd,b0]at hi;obtain⟨a0,bJ,rfl⟩:=hi;obtain⟨u,h1,U⟩:=ai i a0 bJ;exact⟨u,h1,jO.map' h (aj a0 (fp bJ)) U⟩⟩
variable{w0:ej}{st:aH}{a:Act}{w aN:World}{ω aY:Own}{τ:Nat->Nat×Value}
theorem cw.aso{cJ:Nat->Nat×Value}{p:aB->Prop}(h:cw w0 st a w ω τ)(f:aB->aB)
  (ey:∀l v,p l->Sat w ω τ l v->Sat aN aY cJ (f l) v) (he:∀q∈st.env,q.kE p) (aq:∀id ls,dn id st.boxes=some ls->∀l∈ls,p l) (nt:gO w0 aN) (pI:na w0 aN aY)
  (qu:∀id b,ω b=.box id->aY b=.box id/\aN.heap[b]?=w.heap[b]?) (yI:∀id b,aY b=.box id->ω b=.box id) (qx:∀t,c3<=t->cJ t=τ t):cw w0 (st.map f) a aN aY cJ where
 defers:=h.defers
 size:=by simp[aH.map,h.size]
 below:=nt
 owned:=pI
 fixed:=fun t bR=>(qx t bR).trans (h.fixed t bR)
 pinned:=fun id b hi aq=>h.pinned id b hi (yI id b aq)
 env:=by
  intro i q aC;simp only[aH.map]at aC;rw[dd,b0]at aC;obtain⟨gj,bJ,rfl⟩:=aC;obtain⟨v,h1,U⟩:=h.env i gj bJ;exact⟨v,h1,cI.map' ey (he gj (fp bJ)) U⟩
 boxes:=by
  intro id ls ak;simp only[aH.map]at ak;rw[r9,b0]at ak;obtain⟨iI,bJ,rfl⟩:=ak;obtain⟨b,arr,ty,hg,hu,bB,ai⟩:=h.boxes id iI bJ;obtain⟨h1,U⟩:=qu id b hg;exact⟨b,arr,ty,h1,fun cU dA=>hu cU (yI id cU dA),U.trans bB,ai.map' ey (aq id iI bJ)⟩
def aB.idx(t j:Nat):aB->List Nat
 | .aO s a b _ _ _=>if s=t/\b=j then [a] else []
 | _=>[]
def bq.idx(t j:Nat):bq->List Nat
 | .one l=>l.idx t j
 | .agg ls=>ls.flatMap (aB.idx t j)
def aI.idx(t j:Nat):aI->List Nat
 | .aJ a=>a.idx t j
 | .fE as=>as.flatMap (bq.idx t j)
def aH.idx(t j:Nat)(st:aH):List Nat:=st.env.flatMap (aI.idx t j)++st.boxes.flatMap fun x=>x.2.flatMap (aB.idx t j)
def Dv(t i j:Nat)(l:aB):Prop:=∀a∈l.idx t j,a=i
theorem OY{id:Nat}:∀{bs:List (Nat×List aB)} {ls:List aB},dn id bs=some ls->(id,ls)∈bs
 | [],_,h=>by cases h
 | (i,l)::r,ls,h=>by
  simp only[dn]at h;split at h
  ·rename_i hi;subst hi;rw[eL h];exact gN
  exact ht _ (OY h)
variable{t i j:Nat}
theorem aH.Yp(h:∀a∈st.idx t j,a=i):∀q∈st.env,q.kE (Dv t i j):=by
 intro q aC;have h1:∀a∈q.idx t j,a=i:=fun a aj=>h a (hZ _ (mV.2 ⟨q,aC,aj⟩))
 have M8:∀x:bq,(∀a∈x.idx t j,a=i)->x.kE (Dv t i j):=by
  intro x ag;cases x with
  | one l=>exact ag
  | agg ls=>exact fun l ak a aj=>ag a (mV.2 ⟨l,ak,aj⟩)
 cases q with
 | aJ x=>exact M8 x h1
 | fE as=>exact fun x ag=>M8 x fun a aj=>h1 a (mV.2 ⟨x,ag,aj⟩)
theorem aH.Yo(h:∀a∈st.idx t j,a=i){id:Nat}(aq:dn id st.boxes=some ls):∀l∈ls,Dv t i j l:=by
 intro l ak a aj;exact h a (iz _ (mV.2 ⟨(id,ls),OY aq,mV.2 ⟨l,ak,aj⟩⟩))
def gH(t i j k:Nat)(cv:List (List D))(kT:Nat)(esT:List (List D)):aB->aB
 | .J (.own s) dh dz=>if s=t then .J (.own t) kT esT else .J (.own s) dh dz
 | .cX (.own s) dh dz a b=>if s=t then .cX (.own t) kT esT a b else .cX (.own s) dh dz a b
 | .J (.ro s) dh dz=>if s=t then .cp else .J (.ro s) dh dz
 | .cX (.ro s) dh dz a b=>if s=t then .cp else .cX (.ro s) dh dz a b
 | .aO s a b dh dz m=>if s=t/\b=j then (if dh=k/\m.home=true then .aO t i j k cv m else .cp) else .aO s a b dh dz m
 | .e5 _ _=>.cp
 | l=>l
variable{v:Value}
theorem tS.ast{u:Value}(h1:tS w ω τ t i j u)(U:tS w ω τ t i j v):u=v:=by
 obtain⟨kT,b,off,len,cap,arr,ty,cN,eC,a2,a3,a4⟩:=h1;obtain⟨Ys,cU,atU,atN,og,b6,qg,ath,gD,gf,yk,Ft⟩:=U;rw[eC]at gD;simp only[bu,Value.slice.injEq,aQ,Addr.mk.injEq]at gD;obtain⟨rfl,⟨rfl,rfl,_⟩,_,_⟩:=gD;rw[a3]at yk;simp only[aQ,Obj.cells.injEq]at yk;obtain⟨rfl,_,_⟩:=yk;rw[a4]at Ft;exact eL Ft
variable{k kT:Nat}{esT:List (List D)}
theorem cw.Ul(h:cw w0 st a w ω τ){cv:List (List D)}{yT fR:Value}
  (js:∀c,c<w.heap.size->ω c≠.tok t [(i,j)]->aN.heap[c]?=w.heap[c]?) (c9:∀c,c<w.heap.size->aY c=ω c) (Hr:∀c id,¬c<w.heap.size->aY c≠.box id)
  (j8:gO w0 aN) (rP:na w0 aN aY) (r0:τ t=(kT,yT)) (nv:bW aN aY (Tag.own t).R (.J kT esT) yT)
  (qz:tS w ω τ t i j fR) (oy:bW aN aY (fun q o=>o=.tok t ((i,j)::q)) (.J k cv) fR) (ox:∀a∈st.idx t j,a=i):cw w0 (st.map (gH t i j k cv kT esT)) a aN aY τ:=by
 have cN:∀{R:List (Nat×Nat)->cS->Prop} {d:D} {v:Value},(∀q,¬R q (.tok t [(i,j)]))->bW w ω R d v->bW aN aY R d v:=by
  intro R d v aT aD;refine aD.frame fun b q bC aC=>?_
  rw[c9 b bC];exact⟨aC,js b bC fun e=>aT q (by rw[<-e];exact aC)⟩
 have home:∀{s a b:Nat} {u:Value},tS w ω τ s a b u->tS aN aY τ s a b u:=by
  rintro s a b u ⟨kT,c,off,len,cap,arr,ty,cN,eC,a2,a3,a4⟩;have bC:c<w.heap.size:=(iO.1 a3).1;exact⟨kT,c,off,len,cap,arr,ty,cN,eC,by rw[c9 c bC];exact a2,(js c bC (by rw[a2];simp)).trans a3,a4⟩
 refine h.aso (p:=Dv t i j) _ ?_ (aH.Yp ox) (fun id ls aq=>aH.Yo ox aq) j8 rP (fun id b aq=>?_) (fun id b aq=>?_) (fun _ _=>rfl)
 ·intro l v au ai;cases l with
  | cp=>exact trivial
  | v x=>exact ai
  | bc c=>exact ai
  | ptr id o=>
   obtain⟨c,ah,e⟩:=ai;exact⟨c,by rw[c9 c (h.owned.lt (by simp[ah]))];exact ah,e⟩
  | gg f ids=>
   obtain⟨bs,e,aT,hi⟩:=ai;refine⟨bs,e,aT,fun x id fB=>?_⟩;obtain⟨b,h1,U⟩:=hi x id fB;exact⟨b,h1,by rw[c9 b (h.owned.lt (by simp[U]))];exact U⟩
  | hF ds o=>
   obtain⟨c,e,aD⟩:=ai;exact⟨c,e,cN (fun q aC=>by cases aC) aD⟩
  | fd d=>exact cN (R:=Tag.free.R) (fun q aC=>by cases aC) ai
  | dg t0 dh dz=>exact⟨cN (R:=Tag.free.R) (fun q aC=>by cases aC) ai.1,ai.2⟩
  | e5=>exact trivial
  | J g dh dz=>
   cases g with
   | free=>exact⟨cN (R:=Tag.free.R) (fun q aC=>by cases aC) ai.1,aa⟩
   | own s=>
    simp only[gH];split
    ·rename_i e;subst e;have U:=ai.2;simp only[Tag.dN]at U;rw[r0]at U;simp only[bu]at U;rw[<-U.2];exact⟨nv,r0⟩
    rename_i cC;exact⟨cN (R:=(Tag.own s).R) (fun q aC=>by simp only[Tag.R,cS.tok.injEq]at aC;exact cC aC.1.symm) ai.1,ai.2⟩
   | ro s=>
    simp only[gH];split
    ·exact trivial
    rename_i cC;refine⟨cN (R:=(Tag.ro s).R) (fun q aC=>?_) ai.1,aa⟩;rcases aC with aC | ⟨di,aC⟩
    ·cases aC
    simp only[cS.tok.injEq]at aC;exact cC aC.1.symm
  | cX g dh dz x y=>
   obtain⟨gf,pQ,pg,e,jR,kM,nu⟩:=ai;cases g with
   | free=>exact⟨gf,pQ,pg,e,jR,cN (R:=Tag.free.R) (fun q aC=>by cases aC) kM,aa⟩
   | own s=>
    simp only[gH];split
    ·rename_i e1;subst e1;simp only[Tag.dN]at nu;rw[r0]at nu;simp only[bu]at nu;obtain⟨rfl,rfl⟩:=nu;have ak:esT.length=dz.length:=by
      obtain⟨_,_,e2⟩:=nv.len;simp only[Value.slice.injEq]at e2;exact e2.2.1.symm
     refine⟨gf,pQ,pg,e,by omega,?_,?_⟩
     ·rw[ak];exact nv
     rw[ak];exact r0
    rename_i cC;exact⟨gf,pQ,pg,e,jR,cN (R:=(Tag.own s).R) (fun q aC=>by simp only[Tag.R,cS.tok.injEq]at aC;exact cC aC.1.symm) kM,nu⟩
   | ro s=>
    simp only[gH];split
    ·exact trivial
    rename_i cC;refine⟨gf,pQ,pg,e,jR,cN (R:=(Tag.ro s).R) (fun q aC=>?_) kM,aa⟩;rcases aC with aC | ⟨di,aC⟩
    ·cases aC
    simp only[cS.tok.injEq]at aC;exact cC aC.1.symm
  | aO s x y dh dz m=>
   simp only[gH];obtain⟨u,hu,aD,hm⟩:=ai;split
   ·rename_i ah;obtain⟨rfl,rfl⟩:=ah;have ag:x=i:=au x (by simp[aB.idx]);subst ag;split
    ·rename_i ah;obtain⟨rfl,XF⟩:=ah;have e:=(hm XF).ast qz;subst e;have ak:cv.length=dz.length:=by
      obtain⟨_,_,e1⟩:=oy.len;obtain⟨_,_,e2⟩:=aD.len;rw[e1]at e2;simp only[Value.slice.injEq]at e2;omega
     exact⟨u,by rw[ak];exact hu,oy,fun _=>home qz⟩
    exact trivial
   rename_i ah;refine⟨u,hu,cN (fun q aC=>?_) aD,fun bB=>home (hm bB)⟩;simp only[cS.tok.injEq,rh,bu]at aC;exact ah ⟨aC.1.symm,aC.2.1.2.symm⟩
 ·have bC:=h.owned.lt (b:=b) (by simp[aq]);exact⟨by rw[c9 b bC];exact aq,js b bC (by rw[aq];simp)⟩
 by_cases bC:b<w.heap.size
 ·rw[c9 b bC]at aq;exact aq
 exact absurd aq (Hr b id bC)
def sv(t:Nat):aB->Option (Nat×List (List D))
 | .J (.own s) k es=>if s=t then some (k,es) else none
 | _=>none
def tx(t:Nat):List aI->Option (Nat×List (List D))
 | []=>none
 | .aJ (.one l)::r=>match sv t l with | some x=>some x | none=>tx t r
 | .aJ (.agg ls)::r=>match ls.findSome? (sv t) with | some x=>some x | none=>tx t r
 | _::r=>tx t r
def Dw(t:Nat)(st:aH):Option (Nat×List (List D)):=
 match tx t st.env with
 | some x=>some x
 | none=>(st.boxes.find? fun x=>(x.2.findSome? (sv t)).isSome).bind fun x=>(dn x.1 st.boxes).bind fun ls=>ls.findSome? (sv t)
theorem Jc{l:aB}(h:sv t l=some (kT,esT))(ai:Sat w ω τ l v):Sat w ω τ (.J (.own t) kT esT) v:=by
 unfold sv at h;split at h
 ·split at h
  ·rename_i e;subst e;simp only[aQ,bu]at h;obtain⟨rfl,rfl⟩:=h;exact ai
  cases h
 cases h
theorem OZ{vs:Array Value}(h:ls.findSome? (sv t)=some (kT,esT))(ai:jP (Sat w ω τ) ls vs):∃v,Sat w ω τ (.J (.own t) kT esT) v:=by
 obtain⟨l,ak,U⟩:=List.exists_of_findSome?_eq_some h;obtain⟨x,ag⟩:=o7.1 ak;obtain⟨u,_,hu⟩:=ai.2 x l ag;exact⟨u,Jc U hu⟩
theorem Dx:∀{ct:List aI},tx t ct=some (kT,esT)->(∀p∈ct,∃v,cI (Sat w ω τ) p v)->∃v,Sat w ω τ (.J (.own t) kT esT) v
 | [],h,_=>by cases h
 | p::r,h,ai=>by
  have aD:∀p∈r,∃v,cI (Sat w ω τ) p v:=fun p hp=>ai p (ht _ hp)
  obtain⟨v,bA⟩:=ai p gN;cases p with
  | fE as=>exact Dx (by simpa[tx]using h) aD
  | aJ x=>
   cases x with
   | one l=>
    simp only[tx]at h;split at h
    ·rename_i y e;simp only[aQ]at h;subst h;exact⟨v,Jc e bA⟩
    exact Dx h aD
   | agg ls=>
    simp only[tx]at h;split at h
    ·rename_i y e;simp only[aQ]at h;subst h;obtain⟨vs,_,bA⟩:=bA;exact OZ e bA
    exact Dx h aD
theorem cw.root(h:cw w0 st a w ω τ)(e:Dw t st=some (kT,esT)):∃v,Sat w ω τ (.J (.own t) kT esT) v:=by
 unfold Dw at e;split at e
 ·rename_i x e1;simp only[aQ]at e;subst e;refine Dx e1 fun p hp=>?_
  obtain⟨x,ag⟩:=o7.1 hp;obtain⟨v,_,bA⟩:=h.env x p ag;exact⟨v,bA⟩
 rw[lv]at e;obtain⟨x,_,e⟩:=e;rw[lv]at e;obtain⟨ls,aq,e⟩:=e;obtain⟨b,arr,ty,_,_,_,ai⟩:=h.boxes x.1 ls aq;exact OZ e ai
theorem O0{cv:List (List D)}{iD:List D}{yT fR:Value}(ai:Sat w ω τ (.J (.own t) kT esT) yT)
  (js:∀c,c<w.heap.size->ω c≠.tok t [(i,j)]->aN.heap[c]?=w.heap[c]?) (c9:∀c,c<w.heap.size->aY c=ω c)
  (qz:tS w ω τ t i j fR) (oy:bW aN aY (fun q o=>o=.tok t ((i,j)::q)) (.J k cv) fR) (eh:esT[i]?=some iD):bW aN aY (Tag.own t).R (.J kT (esT.set i (iD.set j (.J k cv)))) yT:=by
 obtain⟨aD,bB⟩:=ai;simp only[Tag.dN]at bB;obtain⟨Ys,b4,HJ,Oc,MR,sK,ua,ati,eC,a2,a3,a4⟩:=qz;rw[bB]at eC;simp only[bu]at eC;obtain⟨rfl,rfl⟩:=eC;have iR:i<esT.length:=(eu.1 eh).1;have hlen:(esT.set i (iD.set j (.J k cv))).length=esT.length:=fb;generalize bn:Value.slice (some ⟨b4,HJ,none⟩) Oc MR=Ms at aD;cases aD with
 | nil=>simp at iR
 | row R kT esT b off cap arr ty cN us aq dI ah ek hk hu aE=>
  simp only[Value.slice.injEq,aQ,Addr.mk.injEq]at bn;obtain⟨⟨rfl,rfl,_⟩,rfl,rfl⟩:=bn;rw[aq]at a3;simp only[aQ,Obj.cells.injEq]at a3;obtain⟨rfl,_,_⟩:=a3;have uR:b4<w.heap.size:=(iO.1 aq).1;have yQ:iD.length=kT:=hk iD (fp eh);have s4:∀e∈esT.set i (iD.set j (.J k cv)),e.length=kT:=by
   intro e he;rcases n2 he with h | rfl
   ·exact hk e h
   rw[fb];exact yQ
  have key:∀x y d,cT (esT.set i (iD.set j (.J k cv))) x y=some d->arr[HJ+x*kT+y]?=some (us x y)/\bW aN aY (fun q=>(Tag.own t).R ((x,y)::q)) d (us x y):=by
   intro x y d dM;have GQ:=r' s4 dM;rw[hlen]at GQ;obtain⟨d0,WZ⟩:=Pm hk GQ.1 GQ.2;have s7:=hu x y d0 WZ;refine⟨s7,?_⟩;rw[H0 iR]at dM;by_cases ag:x=i
   ·subst ag;rw[br rfl,jK]at dM;by_cases Ho:j=y
    ·subst Ho;rw[br rfl,br (by omega)]at dM;rw[<-eL dM];rw[a4]at s7;rw[<-eL s7];exact oy
    rw[bg Ho]at dM;have px:cT esT x y=some d:=by simp[cT,eh,dM]
    refine (aE x y d px).frame fun c q ah aC=>?_
    rw[c9 c ah];refine⟨aC,js c ah fun e=>?_⟩;simp only[Tag.R,e,cS.tok.injEq,rh,bu]at aC;exact Ho aC.2.1.2
   rw[bg ag]at dM;refine (aE x y d dM).frame fun c q ah aC=>?_
   rw[c9 c ah];refine⟨aC,js c ah fun e=>?_⟩;simp only[Tag.R,e,cS.tok.injEq,rh,bu]at aC;exact ag aC.2.1.1.symm
  have hP:ω b4=.tok t []:=dI;have:=bW.row (w:=aN) (ω:=aY) (Tag.own t).R kT (esT.set i (iD.set j (.J k cv))) b4 HJ MR arr ty cN us ((js b4 uR (by rw[hP];simp)).trans aq) (by rw[c9 b4 uR];exact hP) (by omega) ek s4
   (fun x y d aE=>(key x y d aE).1) (fun x y d aE=>(key x y d aE).2)
  rw[hlen]at this;exact this
def Jd(P:Program)(st:aH)(ty:TypeId)(t i j k:Nat)(es:List (List D))(x y:Nat)(q:aI)(ans:List b7):Stepped:=
 match q.leaves,P.info? ty,Dw t st,ans with
 | some xs,some inf,some (kT,esT),.el ds::.el iD::r=>
  match xs.mapM aB.ih with
  | some ys=>
   if xs.length=inf.size/\ds.length=k/\y+ys.length<=k/\xs.all (fun l=>l.tok.isNone)=true then
    some (st.map (gH t i j k (es.set x (kk ds y ys)) kT (esT.set i (iD.set j (.J k (es.set x (kk ds y ys)))))),r,(es[x]?=some ds)::(esT[i]?=some iD)::(st.idx t j).map fun a=>a=i)
   else none
  | none=>none
 | _,_,_,_=>none
theorem akL{l:aB}{d:D}(h:l.ih=some d)(bR:l.tok.isNone=true){u:Value}(ai:Sat w ω τ l u):∃z,d=.v z/\u=z/\z.oneCell'=true:=by
 cases l with
 | v z=>
  simp only[aB.ih]at h;split at h
  ·simp only[aQ]at h;subst h;have:u=z:=ai;exact⟨z,rfl,this,‹_›⟩
  cases h
 | bc c=>
  simp only[aB.ih,aQ]at h;subst h;exact⟨_,rfl,ai,rfl⟩
 | J g k es=>
  cases g with
  | own s=>simp[aB.tok]at bR
  | free=>cases h
  | ro s=>cases h
 | cp=>cases h
 | ptr=>cases h
 | cX=>cases h
 | hF=>cases h
 | fd=>cases h
 | dg=>cases h
 | gg=>cases h
 | aO=>cases h
 | e5=>cases h
theorem cw.asj{P:Program}{bp:aH}{ty:TypeId}{x y:Nat}{es:List (List D)}{q:aI}{p:Value}{ans cd:List b7}{obs:List Prop}
  (aU:cw w0 st a w ω τ) (hp:Sat w ω τ (.aO t i j k es (.at_ x y)) p) (aC:cI (Sat w ω τ) q v) (h:Jd P st ty t i j k es x y q ans=some (bp,cd,obs)) (aX:cE obs):
  ∃aN,(Instr.storeAt ty p v).run P w=.ok () aN/\Rel w0 bp a aN:=by
 unfold Jd at h;split at h
 ·rename_i xs inf kT esT ds iD r e1 e2 ec;split at h
  ·rename_i ys cc;split at h
   ·rename_i ah;obtain⟨kl,j9,km,wH⟩:=ah;simp only[aQ,bu]at h;obtain⟨rfl,_,rfl⟩:=h;obtain⟨eh,wI,ox⟩:=aX;have ox:=Dl ox;obtain⟨yT,nv⟩:=aU.root ec;obtain⟨ai,pH⟩:=aI.w3 e1 aC;obtain⟨N2,Hn⟩:=mH cc;obtain⟨fR,⟨b,off,cap,rfl,rfl,iR⟩,aD,hm⟩:=hp;have qz:=hm rfl;have rS:=aD;cases aD with
    | nil=>simp at iR
    | row R k es b off cap arr gY cN us aq dI hB ek gi hu aE=>
     have hP:ω b=.tok t [(i,j)]:=dI;obtain⟨u0,sK,ua,iF⟩:=aU.owned b (by rw[hP];simp);rw[aq]at iF;simp only[aQ,Obj.cells.injEq]at iF;obtain⟨rfl,rfl,rfl⟩:=iF;have uR:b<w.heap.size:=(iO.1 aq).1;have hmul:(x+1)*k<=cap*k:=gK _ (by omega);rw[fo]at hmul;have u3:v.cells.size=xs.length:=ai.1;have ev:off+x*k+y+v.cells.toList.length<=arr.size:=by simp;omega
     have eO:=run_storeCells_at P b (off+x*k+y) gY v.cells.toList 0 arr w aq (by simpa using ev) pH;simp only[l4]at eO;generalize mx:(arr.toList.take (off+x*k+y)++v.cells.toList++arr.toList.drop (off+x*k+y+v.cells.toList.length)).toArray=b6 at eO;have fW:∀z:Nat,b6[z]?=if off+x*k+y<=z/\z<off+x*k+y+xs.length then v.cells[z-(off+x*k+y)]? else arr[z]?:=by
      intro z;rw[<-mx,o5,zI (by simpa using ev)];simp[u3]
     have wU:b6.size=arr.size:=by rw[<-mx];simp;simp at ev;omega
     have iQ:=setRow_heap w b arr b6 gY (0,0) aq;have js:∀c,c<w.heap.size->ω c≠.tok t [(i,j)]->(w.setRow b b6).heap[c]?=w.heap[c]?:=fun c _ ah=>setRow_other w b c b6 fun e=>ah (by rw[e];exact hP)
     have oy:bW (w.setRow b b6) ω (fun q o=>o=.tok t ((i,j)::q)) (.J k (es.set x (kk ds y ys))) (.slice (some ⟨b,off,none⟩) es.length cap):=by
      have hlen:(es.set x (kk ds y ys)).length=es.length:=fb;have yQ:ds.length=k:=j9;have k':∀gb e9 d,cT es gb e9=some d->bW (w.setRow b b6) ω (fun q o=>o=.tok t ((i,j)::(gb,e9)::q)) d (us gb e9):=by
       intro gb e9 d px;refine (aE gb e9 d px).frame fun c q ah dP=>⟨dP,js c ah fun e=>?_⟩
       rw[e]at dP;simp at dP
      have eW:∀gb e9 d,cT (es.set x (kk ds y ys)) gb e9=some d->∃u,b6[off+gb*k+e9]?=some u/\bW (w.setRow b b6) ω (fun q o=>o=.tok t ((i,j)::(gb,e9)::q)) d u:=by
       intro gb e9 d dM;rw[H0 iR]at dM;by_cases ag:gb=x
       ·subst ag;rw[br rfl,Pq (by omega)]at dM;split at dM
        ·rename_i bn;obtain⟨l,qC,da⟩:=Hn _ _ dM;obtain⟨u,fN,eT⟩:=ai.2 _ _ qC;obtain⟨z,rfl,rfl,bd⟩:=akL da (fv.1 wH l (fp qC)) eT;refine⟨u,?_,.v _ _ bd⟩;rw[fW,br (by omega),<-fN]
         congr 1;omega
        rename_i bn;have px:cT es gb e9=some d:=by simp[cT,eh,dM]
        refine⟨us gb e9,?_,k' gb e9 d px⟩;rw[fW,bg (by omega),hu gb e9 d px]
       rw[bg ag]at dM;obtain⟨oB,Yj⟩:=r' gi dM;refine⟨us gb e9,?_,k' gb e9 d dM⟩;rw[fW,bg ?_,hu gb e9 d dM];rcases Nat.lt_or_gt_of_ne ag with h | h
       ·have:(gb+1)*k<=x*k:=gK _ h;rw[fo]at this;omega
       have:(x+1)*k<=gb*k:=gK _ h;rw[fo]at this;omega
      have pJ:∀e∈es.set x (kk ds y ys),e.length=k:=by
       intro e he;rcases n2 he with h | rfl
       ·exact gi e h
       rw[Pr (by omega)];exact yQ
      have:=bW.row (w:=w.setRow b b6) (ω:=ω) (fun q o=>o=.tok t ((i,j)::q)) k (es.set x (kk ds y ys)) b off cap b6 gY (0,0) (fun gb e9=>b6.getD (off+gb*k+e9) undef) iQ hP (by omega) (by omega) pJ
       (fun x y d dD=>by obtain⟨u,h1,_⟩:=eW x y d dD;rw[h1];simp[d',h1])
       (fun x y d dD=>by obtain⟨u,h1,U⟩:=eW x y d dD;have:b6.getD (off+x*k+y) undef=u:=(by simp[d',h1]);rw[this];exact U)
      rw[hlen]at this;exact this
     refine⟨w.setRow b b6,?_,ω,τ,aU.Ul (yT:=yT) js (fun _ _=>rfl) (fun c id ah e=>?_) (aU.below.setRow u0 b6) ?_ nv.2 (O0 nv js (fun _ _=>rfl) qz oy wI) qz oy ox⟩
     ·simp only[Instr.storeAt,Instr.sureAddr,Sem.run_bind,Sem.run_pure,Result.andThen_ok,storeVar,sizeOf,typeInfo,run_program,e2];have GM:¬(v.cells.size≠inf.size):=by simp;omega
      rw[bg GM];exact eO
     ·exact ah (aU.owned.lt (by rw[e];simp))
     intro c fG;obtain⟨ax,h2,ii,aK⟩:=aU.owned c fG;by_cases pw:c=b
     ·subst pw;exact⟨ax,b6,gY,iQ⟩
     exact⟨ax,h2,ii,(setRow_other w b c b6 pw).trans aK⟩
   cases h
  cases h
 cases h
end Go.Sx
namespace Go.Sx
open Go.RowKit
variable{i:Nat}
theorem O1{α:Type}{l:List α}{a:α}(h:l[i]?=some a):l.set i a=l:=by
 apply List.ext_getElem?;intro x;rw[jK];by_cases ag:i=x
 ·subst ag;have:=(eu.1 h).1;rw[br rfl,br this,h]
 rw[bg ag]
def Je(P:Program)(st:aH)(d:Nat)(hI:TypeId)(t i j k:Nat)(es:List (List D))(y:Operand)(ans:List b7):Stepped:=
 match pW P hI,Dw t st,ans with
 | some (e,cm),some (kT,esT),.el iD::e3=>
  match P.info? e,uI t k (st.bh y) e3 with
  | some inf,some (bN,none,uH,obs)=>
   match inf.zero with
   | some z=>
    if cm=k/\z.cells.size=k/\0<k then
     some (⟨(st.map (gH t i j k es kT esT)).env.set d (.one (.aO t i j k (es++bN) .k7)),(st.map (gH t i j k es kT esT)).boxes⟩,uH,
      ((es.length+bN.length)*inf.bytes<=140737488355328)::(es.length+bN.length<=9223372036854775807)::(esT[i]?=some iD)::(iD[j]?=some (.J k es))::(((st.idx t j).map fun a=>a=i)++obs))
    else none
   | none=>none
  | _,_=>none
 | _,_,_=>none
def sJ(P:Program)(hI:TypeId)(t i j k:Nat)(es esT:List (List D))(q:aI)(ans:List b7):Option (aI×List b7×List Prop):=
 match pW P hI,ans with
 | some (e,cm),.el iD::e3=>
  match P.info? e,uI t k q e3 with
  | some inf,some (bN,none,uH,obs)=>
   match inf.zero with
   | some z=>
    if cm=k/\z.cells.size=k/\0<k then
     some (.one (.aO t i j k (es++bN) .k7),uH,
      ((es.length+bN.length)*inf.bytes<=140737488355328)::(es.length+bN.length<=9223372036854775807)::(esT[i]?=some iD)::(iD[j]?=some (.J k es))::obs)
    else none
   | none=>none
  | _,_=>none
 | _,_=>none
theorem cw.sJ{P:Program}{w0:ej}{st:aH}{a:Act}{w:World}{ω:Own}{τ:Nat->Nat×Value}{d:Nat}{hI ty:TypeId}{t j k kT:Nat}{es esT:List (List D)}{x y:Operand}{p:aI}{ans cd:List b7}{obs:List Prop}
  (aU:cw w0 st a w ω τ) (hp:Sat w ω τ (.aO t i j k es .here) (a.eval x)) (h:Sx.sJ P hI t i j k es esT (st.bh y) ans=some (p,cd,obs)) (aX:cE obs)
  (nv:∃v,Sat w ω τ (.J (.own t) kT esT) v) (ox:∀a∈st.idx t j,a=i):
  ∃z aN,(Builtin.append_ #[hI,hI] ty #[a.eval x,a.eval y]).run P w=.ok z aN/\Rel w0 ⟨(st.map (gH t i j k es kT esT)).env.set d p,(st.map (gH t i j k es kT esT)).boxes⟩ (a.put (some d) z) aN:=by
 unfold Sx.sJ at h;split at h
 ·rename_i e cm iD e3 he;obtain⟨bR,gT,rO,wS⟩:=vA he;split at h
  ·rename_i inf bN uH w4 hi iT;rw[rO]at hi;have lH:=eL hi;subst lH;split at h
   ·rename_i z bd;split at h
    ·rename_i ah;obtain⟨rfl,lM,mC⟩:=ah;simp only[aQ,bu]at h;obtain⟨rfl,_,rfl⟩:=h;obtain⟨hg,fM,wI,Gb,Gw⟩:=aX;obtain⟨_,news,lK⟩:=Pp (P:=P) mC (aU.bh y) iT Gw;obtain⟨yT,nv⟩:=nv;obtain⟨fR,qD,aD,hm⟩:=hp;have qz:=hm rfl;have qD:a.eval x=fR:=qD;rw[qD];generalize a.eval y=fa at lK;have Ca:∀gb e9 d,cT bN gb e9=some d->∃u,news[gb*cm+e9]?=some u/\d=.v u/\u.oneCell'=true:=by
      intro gb e9 d aE;obtain⟨u,h1,U⟩:=lK.cell gb e9 d aE;rcases U with⟨v,rfl,rfl⟩ | ⟨s,ai,_⟩
      ·exact⟨u,h1,rfl,lK.one u (fp h1)⟩
      cases ai
     have fin:∀(w1:World) (aY:Own) (r:Value),(∀c,c<w.heap.size->ω c≠.tok t [(i,j)]->w1.heap[c]?=w.heap[c]?)->(∀c,c<w.heap.size->aY c=ω c)->(∀c id,¬c<w.heap.size->aY c≠.box id)->gO w0 w1->na w0 w1 aY->
       bW w1 aY (fun q o=>o=.tok t ((i,j)::q)) (.J cm es) fR->bW w1 aY (fun q o=>o=.tok t ((i,j)::q)) (.J cm (es++bN)) r->
       Rel w0 ⟨(st.map (gH t i j cm es kT esT)).env.set d (.one (.aO t i j cm (es++bN) .k7)),(st.map (gH t i j cm es kT esT)).boxes⟩ (a.put (some d) r) w1:=by
      intro w1 aY r js c9 Hr j8 rP oy eN;have NQ:=O0 nv js c9 qz oy wI;rw[O1 Gb,O1 wI]at NQ;exact⟨aY,τ,(aU.Ul js c9 Hr j8 rP nv.2 NQ qz oy ox).put (p:=.one (.aO t i j cm (es++bN) .k7)) ⟨r,rfl,eN,fun bB=>by cases bB⟩⟩
     have F7:∀c id,¬c<w.heap.size->ω c≠.box id:=fun c id ah e=>ah (aU.owned.lt (by rw[e];simp))
     by_cases uW:bN.length=0
     ·have Gf:bN=[]:=ug uW;subst Gf;refine⟨fR,w,Pn bR rO w ?_ ?_,fin w ω fR (fun _ _ _=>rfl) (fun _ _=>rfl) F7 aU.below aU.owned aD (by rw[lu];exact aD)⟩
      ·cases aD with
       | nil _ _ a0=>exact⟨a0,0,0,rfl,fK _⟩
       | row R k es b off cap arr ty cN us aq dI ah ai hk hu aE=>exact⟨some ⟨b,off,none⟩,_,cap,rfl,ah⟩
      rcases lK.shape with⟨⟨a,h⟩,_⟩ | ⟨b,o,c,h,_⟩
      ·exact⟨a,0,h⟩
      exact⟨some ⟨b,o,none⟩,c,h⟩
     have Gs:0<bN.length:=by omega
     rcases lK.shape with⟨_,h⟩ | ⟨bc,jG,mQ,rfl,pG⟩
     ·rw[h]at Gs;simp at Gs
     have grown:∀(w1:World) (b6:Array Value) (r:Value) (og:Nat),gd w.heap.size w w1->w1.heap[w.heap.size]?=some (.cells b6 e (0,0))->r=.slice (some ⟨w.heap.size,0,none⟩) (es.length+bN.length) og->
       es.length+bN.length<=og->og*cm<=b6.size->(∀fs kq d,cT es fs kq=some d->∃u,b6[fs*cm+kq]?=some u/\bW w ω (fun q o=>o=.tok t ((i,j)::(fs,kq)::q)) d u)->
       (∀x u,news[x]?=some u->b6[es.length*cm+x]?=some u)->(∀e∈es,e.length=cm)->
       Rel w0 ⟨(st.map (gH t i j cm es kT esT)).env.set d (.one (.aO t i j cm (es++bN) .k7)),(st.map (gH t i j cm es kT esT)).boxes⟩ (a.put (some d) r) w1:=by
      intro w1 b6 r og j8 fH GD hB ek hold yW s4;subst GD
      let aY:Own:=fun c=>if c=w.heap.size then .tok t [(i,j)] else ω c
      have c9:∀c,c<w.heap.size->aY c=ω c:=fun c ah=>by simp only[aY];rw[bg (by omega)]
      have kp:aY w.heap.size=.tok t [(i,j)]:=by simp[aY]
      refine fin w1 aY _ (fun c ah _=>j8.block c ah) c9 (fun c id ah=>?_) (aU.below.next j8) (fun b aq=>?_) (aD.frame fun c q ah aC=>⟨by rw[c9 c ah];exact aC,j8.block c ah⟩) ?_
      ·simp only[aY];split
       ·simp
       exact F7 c id ah
      ·by_cases sV:b=w.heap.size
       ·subst sV;exact⟨.inl aU.below.size,b6,e,fH⟩
       simp only[aY]at aq;rw[bg sV]at aq;obtain⟨ax,h2,ii,aK⟩:=aU.owned b aq;exact⟨ax,h2,ii,(j8.block b (aU.owned.lt aq)).trans aK⟩
      have eW:∀x kq d,cT (es++bN) x kq=some d->∃u,b6[x*cm+kq]?=some u/\bW w1 aY (fun q o=>o=.tok t ((i,j)::(x,kq)::q)) d u:=by
       intro x kq d aE;rw[zK]at aE;split at aE
       ·obtain⟨u,h1,U⟩:=hold x kq d aE;exact⟨u,h1,U.frame fun c q ah aC=>⟨by rw[c9 c ah];exact aC,j8.block c ah⟩⟩
       rename_i ag;obtain⟨u,h1,rfl,U⟩:=Ca _ _ _ aE;refine⟨u,?_,.v _ _ U⟩;rw[<-yW _ u h1]
       congr 1
       have:x=es.length+(x-es.length):=by omega
       rw[this,fo];simp only[Nat.add_sub_cancel_left];omega
      have hlen:(es++bN).length=es.length+bN.length:=hs;have pJ:∀e∈es++bN,e.length=cm:=by
       intro e' he;rcases mW.1 he with h | h
       ·exact s4 e' h
       exact lK.rows e' h
      have:=bW.row (w:=w1) (ω:=aY) (fun q o=>o=.tok t ((i,j)::q)) cm (es++bN) w.heap.size 0 og b6 e (0,0) (fun x j=>b6.getD (x*cm+j) undef) fH kp (by omega) (by omega) pJ
       (fun x j d aE=>by obtain⟨u,h1,_⟩:=eW x j d aE;rw[dx,h1];simp[d',h1])
       (fun x j d aE=>by obtain⟨u,h1,U⟩:=eW x j d aE;have:b6.getD (x*cm+j) undef=u:=(by simp[d',h1]);rw[this];exact U)
      rw[hlen]at this;exact this
     subst wS;have rS:=aD;cases aD with
     | nil _ _ a0=>
      simp only[b9,dx]at hg fM;have fC:(Builtin.append_ #[hI,hI] ty #[.slice a0 0 0,.slice (some ⟨bc,jG,none⟩) bN.length mQ]).run P w=
        .ok (.slice (some ⟨w.heap.size,0,none⟩) bN.length (grownCap w bN.length 0 e)) (w.drew.alloc (.cells (news.toArray++Builtin.zeroCells z.cells (grownCap w bN.length 0 e-bN.length)) e)):=by
       cases a0 with
       | none=>exact run_append_nil (P:=P) w hI ty e gT z bR rO bd ⟨bc,jG,none⟩ bN.length mQ news lK.len pG Gs (by omega) (by omega)
       | some b4=>
        have:=run_append_grow (P:=P) w hI ty e gT z bR rO bd b4 0 0 [] (by simp) (fun j v bA=>by simp at bA) ⟨bc,jG,none⟩ bN.length mQ news lK.len pG (by omega) (by omega) (growslice_fits (by omega) (by simpa using hg));simpa using this
      have mB:=grownCap_ge w bN.length 0 e;exact⟨_,_,fC,grown _ (news.toArray++Builtin.zeroCells z.cells (grownCap w bN.length 0 e-bN.length)) (.slice (some ⟨w.heap.size,0,none⟩) bN.length (grownCap w bN.length 0 e)) (grownCap w bN.length 0 e)
       (((gd.refl _ _).drew).alloc (fK _) _) (qU) (by simp) (by simpa using mB) (by
        simp only[ue,mU,size_zeroCells,lK.len,lM,<-fo];exact gK _ (by omega))
       (fun fs j d aE=>by simp[cT]at aE) (fun x u ag=>by
        simp only[b9,Nat.zero_mul,dx];rw[jI,br (by have:=(eu.1 ag).1;simpa using this)];simpa using ag) (fun e he=>by cases he)⟩
     | row R k es b off cap arr gY cN us aq dI ah ai gi hu aE=>
      have hP:ω b=.tok t [(i,j)]:=dI;obtain⟨u0,sK,ua,iF⟩:=aU.owned b (by rw[hP];simp);rw[aq]at iF;simp only[aQ,Obj.cells.injEq]at iF;obtain⟨rfl,rfl,rfl⟩:=iF;have uR:b<w.heap.size:=(iO.1 aq).1;by_cases u2:es.length+bN.length<=cap
      ·have hmul:(es.length+bN.length)*gT.size<=cap*gT.size:=gK _ u2;rw[fo]at hmul;have NF:=lK.len;have ev:off+es.length*gT.size+news.length<=arr.size:=by omega
       have fC:=Po (P:=P) (ty:=ty) bR rO w b off es.length cap arr gY aq ⟨bc,jG,none⟩ bN.length mQ news lK.len pG lK.one u2 ev;generalize mx:(arr.toList.take (off+es.length*gT.size)++news++arr.toList.drop (off+es.length*gT.size+news.length)).toArray=b6 at fC;have fW:∀x:Nat,b6[x]?=if off+es.length*gT.size<=x/\x<off+es.length*gT.size+news.length then news[x-(off+es.length*gT.size)]? else arr[x]?:=by
        intro x;rw[<-mx,o5,zI (by simpa using ev)];simp
       have wU:b6.size=arr.size:=by rw[<-mx];simp;omega
       have iQ:=setRow_heap w b arr b6 gY (0,0) aq;have js:∀c,c<w.heap.size->ω c≠.tok t [(i,j)]->(w.setRow b b6).heap[c]?=w.heap[c]?:=fun c _ ah=>setRow_other w b c b6 fun e=>ah (by rw[e];exact hP)
       have k':∀gb e9 d u,bW w ω (fun q o=>o=.tok t ((i,j)::(gb,e9)::q)) d u->bW (w.setRow b b6) ω (fun q o=>o=.tok t ((i,j)::(gb,e9)::q)) d u:=by
        intro gb e9 d u px;refine px.frame fun c q ah dP=>⟨dP,js c ah fun e=>?_⟩
        rw[e]at dP;simp at dP
       refine⟨_,_,fC,fin (w.setRow b b6) ω _ js (fun _ _=>rfl) F7 (aU.below.setRow u0 b6) (fun c fG=>?_) (bW.Uh rS aq iQ wU (fun x ag=>by rw[fW,bg (by omega)]) (fun o e aX=>by rw[<-e];exact aX) (fun c p q ah aC=>⟨aC,js c ah fun e=>by rw[e]at aC;simp at aC⟩)) ?_⟩
       ·obtain⟨ax,h2,ii,aK⟩:=aU.owned c fG;by_cases pw:c=b
        ·subst pw;exact⟨ax,b6,gY,iQ⟩
        exact⟨ax,h2,ii,(setRow_other w b c b6 pw).trans aK⟩
       have eW:∀x kq d,cT (es++bN) x kq=some d->∃u,b6[off+x*gT.size+kq]?=some u/\bW (w.setRow b b6) ω (fun q o=>o=.tok t ((i,j)::(x,kq)::q)) d u:=by
        intro x kq d dM;rw[zK]at dM;split at dM
        ·rename_i ag;have yP:=(r' gi dM).2;refine⟨us x kq,?_,k' x kq d _ (aE x kq d dM)⟩;have:(x+1)*gT.size<=es.length*gT.size:=gK _ ag;rw[fo]at this;rw[fW,bg (by omega),hu x kq d dM]
        rename_i ag;obtain⟨u,h1,rfl,U⟩:=Ca _ _ _ dM;have Yg:=(eu.1 h1).1;have wV:x*gT.size=es.length*gT.size+(x-es.length)*gT.size:=by rw[<-fo];congr 1;omega
        refine⟨u,?_,.v _ _ U⟩;rw[fW,br (by omega),<-h1]
        congr 1
        omega
       have hlen:(es++bN).length=es.length+bN.length:=hs;have pJ:∀e∈es++bN,e.length=gT.size:=by
        intro e' he;rcases mW.1 he with h | h
        ·exact gi e' h
        exact lK.rows e' h
       have:=bW.row (w:=w.setRow b b6) (ω:=ω) (fun q o=>o=.tok t ((i,j)::q)) gT.size (es++bN) b off cap b6 gY (0,0) (fun x j=>b6.getD (off+x*gT.size+j) undef) iQ hP (by omega) (by omega) pJ
        (fun x j d aE=>by obtain⟨u,h1,_⟩:=eW x j d aE;rw[h1];simp[d',h1])
        (fun x j d aE=>by obtain⟨u,h1,U⟩:=eW x j d aE;have:b6.getD (off+x*gT.size+j) undef=u:=(by simp[d',h1]);rw[this];exact U)
       rw[hlen]at this;exact this
      have hmul:es.length*gT.size<=cap*gT.size:=gK _ ah;have lI:((arr.toList.drop off).take (es.length*gT.size)).length=es.length*gT.size:=by simp;omega
      have fC:=run_append_grow (P:=P) w hI ty e gT z bR rO bd ⟨b,off,none⟩ es.length cap ((arr.toList.drop off).take (es.length*gT.size)) lI (fun j v bA=>by
       rw[pV,cell_of_row w b (off+j) arr gY (0,0) aq];rw[j1]at bA;split at bA
       ·rw[jZ]at bA;simpa using bA
       cases bA) ⟨bc,jG,none⟩ bN.length mQ news lK.len pG (by omega) (by omega) (growslice_fits (by omega) hg)
      have mB:=grownCap_ge w (es.length+bN.length) cap e;exact⟨_,_,fC,grown _ (((arr.toList.drop off).take (es.length*gT.size)).toArray++news.toArray++Builtin.zeroCells z.cells (grownCap w (es.length+bN.length) cap e-(es.length+bN.length))) _ (grownCap w (es.length+bN.length) cap e)
       (((gd.refl _ _).drew).alloc (fK _) _) (qU) rfl mB (by
        simp only[ue,mU,size_zeroCells,lK.len,lM,lI,<-fo];exact gK _ (by omega))
       (fun fs j d dD=>by
        obtain⟨wM,ew⟩:=r' gi dD;have:(fs+1)*gT.size<=es.length*gT.size:=gK _ wM;rw[fo]at this;refine⟨us fs j,?_,aE fs j d dD⟩;rw[jI,br (by simp only[ue,mU,lI];omega),jI,br (by simp only[mU,lI];omega)];rw[o5,j1,br (by omega),jZ,<-hu fs j d dD];simp only[mT]
        congr 1
        omega)
       (fun x u ag=>by
        have oB:=(eu.1 ag).1;rw[jI,br (by simp only[ue,mU,lI];omega),jI,bg (by simp only[mU,lI];omega)];simp only[mU,lI,o5];rw[<-ag]
        congr 1
        omega) gi⟩
    cases h
   cases h
  cases h
 cases h
theorem cw.V9{P:Program}{w0:ej}{st bp:aH}{a:Act}{w:World}{ω:Own}{τ:Nat->Nat×Value}{d:Nat}{hI ty:TypeId}{t j k:Nat}{es:List (List D)}{x y:Operand}{ans cd:List b7}{obs:List Prop}
  (aU:cw w0 st a w ω τ) (hp:Sat w ω τ (.aO t i j k es .here) (a.eval x)) (h:Je P st d hI t i j k es y ans=some (bp,cd,obs)) (aX:cE obs):
  ∃z aN,(Builtin.append_ #[hI,hI] ty #[a.eval x,a.eval y]).run P w=.ok z aN/\Rel w0 bp (a.put (some d) z) aN:=by
 unfold Je at h;split at h
 ·rename_i e cm kT esT iD e3 he XW;split at h
  ·rename_i inf bN uH w4 hi iT;split at h
   ·rename_i z bd;split at h
    ·rename_i ah;simp only[aQ,bu]at h;obtain⟨rfl,rfl,rfl⟩:=h;obtain⟨hg,fM,wI,Gb,Gw⟩:=aX;obtain⟨ox,XL⟩:=Gw.append;refine aU.sJ (p:=.one (.aO t i j k (es++bN) .k7)) (ans:=.el iD::e3) (cd:=uH) (esT:=esT) (kT:=kT) hp ?_ (obs:=((es.length+bN.length)*inf.bytes<=140737488355328)::(es.length+bN.length<=9223372036854775807)::(esT[i]?=some iD)::(iD[j]?=some (.J k es))::w4) ⟨hg,fM,wI,Gb,XL⟩ (aU.root XW) (Dl ox);unfold Sx.sJ;simp only[he,hi,iT,bd];rw[br ah]
    cases h
   cases h
  cases h
 cases h
