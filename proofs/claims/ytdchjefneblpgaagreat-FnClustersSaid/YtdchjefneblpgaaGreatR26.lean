import Derived.Test.YtdchjefneblpgaaGreatR11
set_option linter.unusedVariables false
set_option linter.unusedSimpArgs false
namespace Go.Sx
open Go.RowKit
def E3(P:Program)(st:aF)(d:Nat)(elem:TypeId)(r:List ci):Stepped:=
 match P.info? elem with
 | some i=>match i.zero with
  | some z=>if d<dj then some (⟨(st.jt d []).env.set d (.one (.ft d (z.cells.toList.map .v))),(st.jt d []).boxes⟩,r,[]) else none
  | none=>none
 | none=>none
variable{w0:eK}{st bE:aF}{a:Act}{w:World}{ω:Own}{τ:Nat->Nat×Value}{d:Nat}{ans cu:List ci}{obs:List Prop}
theorem cI.ZP{P:Program}{elem:TypeId}(aZ:cI w0 st a w ω τ)
  (h:E3 P st d elem ans=some (bE,cu,obs)):
  ∃z aS,(Instr.alloc elem true (.tuple #[])).run P w=.ok z aS/\Rel w0 bE (a.put (some d) z) aS:=by
 unfold E3 at h;split at h
 ·rename_i i hi;split at h
  ·rename_i z a6;split at h
   ·rename_i aE;simp only[aX,bJ]at h;obtain⟨rfl,_,_⟩:=h;have h1:=aZ.jt d aE [] (k:=0) (cap:=0) (es:=[]) (arr:=z.cells) (ty:=elem) ((gO.refl _ _).alloc (ei _) (.cells z.cells elem)) (rE) (ei _) (by simp) (by simp)
     (by intro i j q8 ak;simp[c9]at ak)
    refine⟨.pointer (some ⟨w.heap.size,0,none⟩),w.alloc (.cells z.cells elem),by simp[Instr.alloc,zeroValue,typeInfo,hi,a6,newVar,newRow],_,_,h1.1.put (p:=.one (.ft d (z.cells.toList.map .v))) ?_⟩;refine⟨w.heap.size,elem,z.cells,rfl,by simp[pA],rE,by simp,fun j c ak=>?_⟩;rw[du,b8]at ak;obtain⟨u,hu,rfl⟩:=ak;exact⟨u,by simpa using hu,rfl⟩
   cases h
  cases h
 cases h
def fs(t:Nat):Tag->Option Tag
 | .free=>some .free
 | .own s=>if s=t then none else some (.own s)
 | .ro s=>if s=t then none else some (.ro s)
variable{o:c8}
theorem E4{t:Nat}{g ey:Tag}{q:List (Nat×Nat)}(h:fs t g=some ey)(aA:g.R q o):ey=g/\∀dD,o≠.tok t dD:=by
 cases g with
 | free=>simp only[fs,aX]at h;subst h;simp only[Tag.R]at aA;subst aA;exact⟨rfl,fun dD e=>by cases e⟩
 | own s=>
  simp only[fs]at h;split at h
  ·cases h
  rename_i ai;simp only[aX]at h;subst h;simp only[Tag.R]at aA;subst aA;exact⟨rfl,fun dD e=>by simp only[c8.tok.injEq]at e;exact ai e.1⟩
 | ro s=>
  simp only[fs]at h;split at h
  ·cases h
  rename_i ai;simp only[aX]at h;subst h;simp only[Tag.R]at aA;refine⟨rfl,fun dD e=>?_⟩;subst e;rcases aA with aA | ⟨k9,aA⟩
  ·cases aA
  simp only[c8.tok.injEq]at aA;exact ai aA.1.symm
variable{s:Nat}
theorem KW{x:Value}(this:a.tmps[s]?=some x):a.put (some s) x=a:=by
 simp only[Act.put];have:a.tmps.setIfInBounds s x=a.tmps:=by
  apply Array.ext
  ·simp
  intro i h1 U;rw[Array.getElem_setIfInBounds];split
  ·rename_i hi;subst hi;rw[h3 U]at this;exact (eE this).symm
  rfl
 rw[this]
def aH.mI:aH->e9
 | .v x=>.v x
 | .bc c=>.v (.bool c)
 | .J t k es=>.J t k es
 | _=>.cq
def Jx(p:aJ):Option (List e9):=p.leaves.map (·.map aH.mI)
theorem aH.QR{l:aH}{y:Value}(h:Sat w ω τ l y):qZ w ω τ l.mI y:=by
 cases l<;>first | exact h | exact trivial
def e9.leaf:e9->aH
 | .cq=>.cq
 | .v x=>.v x
 | .J t k es=>.J t k es
theorem e9.dN{τ:Nat->Nat×Value}{c:e9}{y:Value}(h:qZ w ω τ c y):Sat w ω τ c.leaf y:=by
 cases c<;>exact h
def E5(P:Program)(st:aF)(ty:TypeId)(s:Nat)(q:aJ)(ans:List ci):Stepped:=
 match (st.env.getD s .cq).leaf,Jx q,P.info? ty with
 | some (.ft t vs),some cs,some i=>
  if cs.length=i.size/\cs.length<=vs.length then
   let st2:=st.map (aH.cz (fs t) fun _=>true)
   some (⟨st2.env.set s (.one (.ft t ((cs++vs.drop cs.length).map (e9.cz (fs t))))),st2.boxes⟩,ans,[])
  else none
 | _,_,_=>none
theorem cI.axZ{P:Program}{ty:TypeId}{q:aJ}{v:Value}
  (aZ:cI w0 st a w ω τ) (az:cU (Sat w ω τ) q v) (h:E5 P st ty s q ans=some (bE,cu,obs)):
  ∃aS,(Instr.storeAt ty (a.eval (.tmp s)) v).run P w=.ok () aS/\Rel w0 bE a aS:=by
 unfold E5 at h;split at h
 ·rename_i t vs cs i e1 e2 ck;split at h
  ·rename_i ak;obtain⟨c1,c2⟩:=ak;simp only[aX,bJ]at h;obtain⟨rfl,_,_⟩:=h;unfold Jx at e2;rw[b8]at e2;obtain⟨ls,e2,rfl⟩:=e2;obtain⟨vZ,qf⟩:=aJ.yE e2 az;have eT:v.cells.size=ls.length:=vZ.1;rw[bA]at c1 c2;have hW:st.env[s]?=some (.one (.ft t vs)):=by
    rw[iv]at e1;cases e:st.env[s]? with
    | none=>rw[e]at e1;simp[aJ.leaf]at e1
    | some p=>
     rw[e]at e1;simp only[ji]at e1;cases p with
     | ga as=>cases e1
     | aI x=>
      cases x with
      | agg ls=>cases e1
      | one l=>simp only[aJ.leaf,aX]at e1;rw[e1]
   obtain⟨y,bu,eS⟩:=aZ.env s _ hW;obtain⟨b,hB,arr,rfl,aj,ym,Qx,wk⟩:=eS;have rh:a.eval (.tmp s)=ptrTo b:=by simp[Act.eval,ew,bu]
   have e5:=run_storeCells_at P b 0 hB v.cells.toList 0 arr w ym (by simp;omega) qf;obtain⟨cf,ny⟩:∃cf,cf=(arr.toList.take (0+0)++v.cells.toList++arr.toList.drop (0+0+v.cells.toList.length)).toArray:=⟨_,rfl⟩
   rw[<-ny]at e5;have PL:cf=(v.cells.toList++arr.toList.drop v.cells.size).toArray:=by rw[ny];simp
   refine⟨w.setRow b cf,?_,?_⟩
   ·rw[rh];simp only[ptrTo,Instr.storeAt,Instr.sureAddr,Sem.run_bind,Sem.run_pure,Result.andThen_ok,storeVar,sizeOf,typeInfo,run_program,ck];rw[ba (by simp;omega)];exact e5
   have jB:=setRow_heap w b arr cf hB (0,0) ym;have br:lQ w ω τ (w.setRow b cf) ω τ (fs t) (fun _=>true):=by
    refine⟨?_,?_,fun id c _ ak=>ak,rfl,fun _ _=>rfl⟩
    ·intro g ey c q av _ az;obtain⟨rfl,ub⟩:=E4 av az;exact⟨az,setRow_other w b c _ fun e=>ub [] (by rw[e];exact aj)⟩
    intro g ey y av bu;cases g with
    | free=>simp only[fs,aX]at av;subst av;trivial
    | own x=>
     simp only[fs]at av;split at av
     ·cases av
     simp only[aX]at av;subst av;exact bu
    | ro x=>
     simp only[fs]at av;split at av
     ·cases av
     simp only[aX]at av;subst av;trivial
   have h1:cI w0 (st.map (aH.cz (fs t) fun _=>true)) a (w.setRow b cf) ω τ:=by
    refine aZ.di _ br.sat (aZ.below.setRow (aZ.owned b (by rw[aj];simp)).1 _) ?_ (fun id c ak=>⟨ak,setRow_other w b c _ fun e=>by rw[e,aj]at ak;cases ak⟩) (fun id c ak=>ak) (fun _ _=>rfl);intro c ak;obtain⟨h1,ix,iR,U⟩:=aZ.owned c ak;by_cases e:c=b
    ·subst e;exact⟨h1,_,hB,jB⟩
    exact⟨h1,ix,iR,(setRow_other w b c _ e).trans U⟩
   have PR:cf.size=(ls.map aH.mI++vs.drop (ls.map aH.mI).length).length/\∀(j:Nat) (c:e9),(ls.map aH.mI++vs.drop (ls.map aH.mI).length)[j]?=some c->∃u,cf[j]?=some u/\qZ w ω τ c u:=by
    refine⟨by rw[PL];simp;omega,fun j c ak=>?_⟩;rw[PL,pP];by_cases bd:j<ls.length
    ·rw[C2 (by simpa using bd),du,b8]at ak;obtain⟨l,ag,rfl⟩:=ak;obtain⟨u,fV,fk⟩:=vZ.2 j l ag;exact⟨u,by rw[C2 (by simp;omega)];simpa using fV,aH.QR fk⟩
    rw[zO (by simpa using bd),bA,ky]at ak;obtain⟨u,fV,fk⟩:=wk _ c ak;refine⟨u,?_,fk⟩;rw[zO (by simp;omega),ky,nY,<-fV]
    congr 1
    simp only[vy];omega
   have It:=Ek br.mI PR.1 PR.2;have U:=h1.put (d:=s) (p:=.one (.ft t ((ls.map aH.mI++vs.drop (ls.map aH.mI).length).map (e9.cz (fs t))))) (v:=ptrTo b) ⟨b,hB,cf,rfl,aj,jB,It⟩;rw[KW bu]at U;exact⟨ω,τ,U⟩
  cases h
 cases h
def Jz(st:aF)(d:Nat):Option aF:=
 match st.env.getD d .cq with
 | .aI (.one (.ft t vs))=>
  if d<dj then some ⟨(st.env.map (aJ.map (aH.cz (fs t) (jI d)))).set d (.one (.ptr d 0)),(d,vs.map fun c=>aH.cz (fs t) (jI d) c.leaf)::(px d st.boxes).map fun x=>(x.1,x.2.map (aH.cz (fs t) (jI d)))⟩ else none
 | _=>none
theorem ar3(h:Rel w0 st a w)(aR:Jz st d=some bE):Rel w0 bE a w:=by
 obtain⟨ω,τ,h⟩:=h;unfold Jz at aR;split at aR
 ·rename_i t vs he;split at aR
  case isFalse=>cases aR
  rename_i sH;simp only[aX]at aR;subst aR;have hW:st.env[d]?=some (.one (.ft t vs)):=by
   rw[iv]at he;cases e:st.env[d]? with
   | none=>rw[e]at he;cases he
   | some p=>rw[e]at he;simp only[ji]at he;rw[he]
  obtain⟨v,yw,sS⟩:=h.env d _ hW;obtain⟨b,ty,arr,rfl,aj,ym,Qx,wk⟩:=sS
  let a':Own:=fun c=>if c=b then .box d else match ω c with | .box i=>if i=d then .bO else .box i | o=>o
  have k5:a' b=.box d:=by simp[a']
  have gY:∀c,c≠b->a' c=(match ω c with | .box i=>if i=d then .bO else .box i | o=>o):=by
   intro c ak;simp only[a'];rw[ba ak]
  have br:lQ w ω τ w a' τ (fs t) (jI d):=by
   refine⟨?_,?_,?_,rfl,fun _ _=>rfl⟩
   ·intro g ey c q av _ az;obtain⟨rfl,ub⟩:=E4 av az;have gf:c≠b:=fun e=>ub [] (by rw[e];exact aj)
    refine⟨?_,rfl⟩;rw[gY c gf];cases ey with
    | free=>simp only[Tag.R]at az ⊢;rw[az]
    | own s=>simp only[Tag.R]at az ⊢;rw[az]
    | ro s=>
     simp only[Tag.R]at az ⊢;rcases az with az | ⟨dD,az⟩
     ·rw[az];exact .inl rfl
     rw[az];exact .inr ⟨dD,rfl⟩
   ·intro g ey y av bu;cases g with
    | free=>simp only[fs,aX]at av;subst av;trivial
    | own s=>
     simp only[fs]at av;split at av
     ·cases av
     simp only[aX]at av;subst av;exact bu
    | ro s=>
     simp only[fs]at av;split at av
     ·cases av
     simp only[aX]at av;subst av;trivial
   intro i c hp ak;have gf:c≠b:=fun e=>by rw[e,aj]at ak;cases ak
   rw[gY c gf,ak];simp only[jI,cr]at hp;simp[hp]
  have qh:n4 w0 w a':=by
   intro c ak;by_cases e:c=b
   ·subst e;exact h.owned c (by rw[aj];simp)
   rw[gY c e]at ak;exact h.owned c (fun e'=>by rw[e']at ak;exact ak rfl)
  have key:=h.HA (bs:=(d,vs.map fun c=>aH.cz (fs t) (jI d) c.leaf)::(px d st.boxes).map fun x=>(x.1,x.2.map (aH.cz (fs t) (jI d)))) br h.below qh ?_ (fun i c hi ak=>by
   by_cases aR:c=b
   ·subst aR;rw[k5]at ak;simp only[c8.box.injEq]at ak;omega
   rw[gY c aR]at ak;cases e:ω c with
   | bO=>simp[e]at ak
   | tok t q=>simp[e]at ak
   | box j=>
    simp only[e]at ak;split at ak
    ·cases ak
    exact ak)
  ·have:=key.put (d:=d) (p:=.one (.ptr d 0)) (v:=ptrTo b) ⟨b,k5,rfl⟩;rw[KW yw]at this;exact⟨a',τ,this⟩
  intro i fl ag;simp only[dF]at ag;split at ag
  ·rename_i hi;subst hi;have e:=eE ag;subst e;refine⟨b,arr,ty,k5,?_,ym,by simpa using Qx,fun j l bd=>?_⟩
   ·intro da dz;by_cases aR:da=b
    ·exact aR
    rw[gY da aR]at dz;cases e:ω da with
    | bO=>simp[e]at dz
    | tok t q=>simp[e]at dz
    | box j=>
     simp only[e]at dz;split at dz
     ·cases dz
     rename_i ct;simp only[c8.box.injEq]at dz;exact absurd dz ct
   rw[du,b8]at bd;obtain⟨c,ak,rfl⟩:=bd;obtain⟨u,fV,fk⟩:=wk j c ak;exact⟨u,fV,br.sat _ _ (e9.dN fk)⟩
  rename_i hi;rw[s6,b8]at ag;obtain⟨jq,bg,rfl⟩:=ag;have ct:i≠d:=fun e=>hi e.symm
  rw[yV ct]at bg;obtain⟨c,cf,qU,ak,hu,bQ,eS⟩:=h.boxes i jq bg;refine⟨c,cf,qU,br.box i c (by simp[jI,ct]) ak,?_,bQ,eS.map br.sat⟩;intro da dz;by_cases aR:da=b
  ·subst aR;rw[k5]at dz;simp only[c8.box.injEq]at dz;exact absurd dz.symm ct
  rw[gY da aR]at dz;refine hu da ?_;cases e:ω da with
  | bO=>simp[e]at dz
  | tok t q=>simp[e]at dz
  | box j=>
   simp only[e]at dz;split at dz
   ·cases dz
   exact dz
 cases aR
def Hq(st:aF)(d:Nat):Option aF:=
 match st.env.getD d .cq,dF d st.boxes with
 | .aI (.one (.ptr dE 0)),some ls=>
  if dE=d/\d<dj then some ⟨(st.env.map (aJ.map (aH.cz (fs d) (jI d)))).set d (.one (.ft d ((ls.map aH.mI).map (e9.cz (fs d))))),(px d st.boxes).map fun x=>(x.1,x.2.map (aH.cz (fs d) (jI d)))⟩ else none
 | _,_=>none
theorem ar4(h:Rel w0 st a w)(aR:Hq st d=some bE):Rel w0 bE a w:=by
 obtain⟨ω,τ,h⟩:=h;unfold Hq at aR;split at aR
 ·rename_i dE ls he cA;split at aR
  case isFalse=>cases aR
  rename_i sH;obtain⟨rfl,sH⟩:=sH;simp only[aX]at aR;subst aR;have hW:st.env[dE]?=some (.one (.ptr dE 0)):=by
   rw[iv]at he;cases e:st.env[dE]? with
   | none=>rw[e]at he;cases he
   | some p=>rw[e]at he;simp only[ji]at he;rw[he]
  obtain⟨v,yw,sS⟩:=h.env dE _ hW;obtain⟨b9,iZ,rfl⟩:=sS;obtain⟨b,arr,ty,aj,aaz,ym,vZ⟩:=h.boxes dE ls cA;have sB:b9=b:=aaz b9 iZ;subst sB
  let a':Own:=fun c=>if c=b9 then .tok dE [] else match ω c with | .tok s q=>if s=dE then .bO else .tok s q | o=>o
  have k5:a' b9=.tok dE []:=by simp[a']
  have gY:∀c,c≠b9->a' c=(match ω c with | .tok s q=>if s=dE then .bO else .tok s q | o=>o):=by
   intro c ak;simp only[a'];rw[ba ak]
  have br:lQ w ω τ w a' τ (fs dE) (jI dE):=by
   refine⟨?_,?_,?_,rfl,fun _ _=>rfl⟩
   ·intro g ey c q av _ az;obtain⟨rfl,ub⟩:=E4 av az;have gf:c≠b9:=fun e=>by
     rw[e,aj]at az;cases ey with
     | free=>cases az
     | own s=>cases az
     | ro s=>
      rcases az with az | ⟨dD,az⟩
      ·cases az
      cases az
    refine⟨?_,rfl⟩;rw[gY c gf];cases ey with
    | free=>simp only[Tag.R]at az ⊢;rw[az]
    | own s=>
     simp only[Tag.R]at az ⊢;rw[az];simp only;rw[ba];rintro rfl;exact ub _ az
    | ro s=>
     simp only[Tag.R]at az ⊢;rcases az with az | ⟨dD,az⟩
     ·rw[az];exact .inl rfl
     rw[az];simp only;rw[ba]
     ·exact .inr ⟨dD,rfl⟩
     rintro rfl;exact ub _ az
   ·intro g ey y av bu;cases g with
    | free=>simp only[fs,aX]at av;subst av;trivial
    | own s=>
     simp only[fs]at av;split at av
     ·cases av
     simp only[aX]at av;subst av;exact bu
    | ro s=>
     simp only[fs]at av;split at av
     ·cases av
     simp only[aX]at av;subst av;trivial
   intro i c hp ak;simp only[jI,cr]at hp;have gf:c≠b9:=fun e=>by rw[e,aj]at ak;simp only[c8.box.injEq]at ak;exact hp ak.symm
   rw[gY c gf,ak]
  have qh:n4 w0 w a':=by
   intro c ak;by_cases e:c=b9
   ·subst e;exact h.owned c (by rw[aj];simp)
   rw[gY c e]at ak;exact h.owned c (fun e'=>by rw[e']at ak;exact ak rfl)
  have PN:∀i c,a' c=.box i->ω c=.box i/\c≠b9:=by
   intro i c ak;by_cases aR:c=b9
   ·subst aR;rw[k5]at ak;cases ak
   rw[gY c aR]at ak;cases e:ω c with
   | bO=>simp[e]at ak
   | box j=>simp only[e]at ak;exact⟨ak,aR⟩
   | tok t q=>
    simp only[e]at ak;split at ak<;>cases ak
  have key:=h.HA (bs:=(px dE st.boxes).map fun x=>(x.1,x.2.map (aH.cz (fs dE) (jI dE)))) br h.below qh ?_ (fun i c _ ak=>(PN i c ak).1)
  ·have:=key.put (d:=dE) (p:=.one (.ft dE ((ls.map aH.mI).map (e9.cz (fs dE))))) (v:=ptrTo b9) ⟨b9,ty,arr,rfl,k5,ym,Ek br.mI (by rw[vZ.1];simp) (fun j c ak=>by
    rw[du,b8]at ak;obtain⟨l,ag,rfl⟩:=ak;obtain⟨u,fV,fk⟩:=vZ.2 j l ag;exact⟨u,fV,aH.QR fk⟩)⟩
   rw[KW (show a.tmps[dE]?=some (ptrTo b9) from yw)]at this;exact⟨a',τ,this⟩
  intro i fl ag;rw[s6,b8]at ag;obtain⟨jq,bg,rfl⟩:=ag;have ct:i≠dE:=fun e=>by rw[e,JW]at bg;cases bg
  rw[yV ct]at bg;obtain⟨c,cf,qU,ak,hu,bQ,eS⟩:=h.boxes i jq bg;exact⟨c,cf,qU,br.box i c (by simp[jI,ct]) ak,fun da dz=>hu da (PN i da dz).1,bQ,eS.map br.sat⟩
 cases aR
def Bo:List Nat->aF->Option aF
 | [],st=>some st
 | d::ds,st=>(Hq st d).bind (Bo ds)
theorem Sj:∀{ds:List Nat} {st bE:aF},Rel w0 st a w->Bo ds st=some bE->Rel w0 bE a w
 | [],st,bE,h,aR=>by simp only[Bo,aX]at aR;subst aR;exact h
 | d::ds,st,bE,h,aR=>by
  simp only[Bo,mo]at aR;obtain⟨st1,h1,U⟩:=aR;exact Sj (ar4 h h1) U
def Bp:List Nat->aF->Option aF
 | [],st=>some st
 | d::ds,st=>(Jz st d).bind (Bp ds)
theorem Sk:∀{ds:List Nat} {st bE:aF},Rel w0 st a w->Bp ds st=some bE->Rel w0 bE a w
 | [],st,bE,h,aR=>by simp only[Bp,aX]at aR;subst aR;exact h
 | d::ds,st,bE,h,aR=>by
  simp only[Bp,mo]at aR;obtain⟨st1,h1,U⟩:=aR;exact Sk (ar3 h h1) U
def ks(s n:Nat):Tag->Option Tag
 | .own x=>if x=s then some (.ro n) else if x=n then none else some (.own x)
 | .ro x=>if x=s then some (.ro n) else if x=n then none else some (.ro x)
 | .free=>some .free
def jK(s n l:Nat):c8->c8
 | .tok x q=>if x=s then (match q with | []=>.tok n [] | (i,j)::r=>if i<l then .bO else .tok n ((i-l,j)::r)) else if x=n then .bO else .tok x q
 | o=>o
variable{l n:Nat}
theorem KX(h:jK s n l o≠.bO):o≠.bO:=by rintro rfl;exact h rfl
theorem uG{id:Nat}:jK s n l o=.box id<->o=.box id:=by
 cases o with
 | bO=>simp[jK]
 | box i=>simp[jK]
 | tok x q=>
  simp only[jK];split
  ·split
   ·simp
   ·split<;>simp
  ·split<;>simp
theorem Sl{q:List (Nat×Nat)}:jK s n l (.tok s q)=.bO\/∃dD,jK s n l (.tok s q)=.tok n dD:=by
 simp only[jK,fQ];split
 ·exact .inr ⟨_,rfl⟩
 split
 ·exact .inl rfl
 exact .inr ⟨_,rfl⟩
theorem KY{k:Nat}{z:Value}(ia:n<dj):lQ w ω τ w (fun b=>jK s n l (ω b)) (gr τ n k z) (ks s n) (fun _=>true):=by
 refine⟨?_,?_,?_,rfl,fun t bH=>by simp only[gr];rw[ba (by omega)]⟩
 ·intro g ey b q av _ az;refine⟨?_,rfl⟩;cases g with
  | free=>simp only[ks,aX]at av;subst av;simp only[Tag.R]at az ⊢;rw[az];rfl
  | own x=>
   simp only[ks]at av;simp only[Tag.R]at az;split at av
   ·rename_i ai;simp only[aX]at av;subst av;subst ai;simp only[Tag.R,az];exact Sl
   rename_i ai;split at av
   ·cases av
   rename_i aR;simp only[aX]at av;subst av;simp only[Tag.R,az,jK,ba ai,ba aR]
  | ro x=>
   simp only[ks]at av;simp only[Tag.R]at az;split at av
   ·rename_i ai;simp only[aX]at av;subst av;subst ai;rcases az with az | ⟨dD,az⟩
    ·rw[az];exact .inl rfl
    rw[az];exact Sl
   rename_i ai;split at av
   ·cases av
   rename_i aR;simp only[aX]at av;subst av;rcases az with az | ⟨dD,az⟩
   ·rw[az];exact .inl rfl
   rw[az];simp only[jK,ba ai,ba aR];exact .inr ⟨dD,rfl⟩
 ·intro g ey y av bu;cases g with
  | free=>simp only[ks,aX]at av;subst av;trivial
  | own x=>
   simp only[ks]at av;split at av
   ·simp only[aX]at av;subst av;trivial
   rename_i ai;split at av
   ·cases av
   rename_i aR;simp only[aX]at av;subst av;simp only[Tag.ee,gr,ba aR]at bu ⊢;exact bu
  | ro x=>
   simp only[ks]at av;split at av
   ·simp only[aX]at av;subst av;trivial
   split at av
   ·cases av
   simp only[aX]at av;subst av;trivial
 intro id b _ aj;exact uG.2 aj
def oO(s d:Nat):Nat:=if s<dj then s else d
def zB(P:Program)(st:aF)(d:Nat)(t:TypeId)(p:aJ)(cZ hi jc:Option Operand)(ans:List ci):Stepped:=
 match qH P t,p.leaf,jc with
 | some (_,k),some (.J (.own s) cn es),none=>
  if k=cn/\oO s d<dj then
   match mh st cZ,mh st hi with
   | some l,some h=>
    let st2:=st.map (aH.cz (ks s (oO s d)) fun _=>true)
    some (⟨st2.env.set d (.one (.J (.own (oO s d)) k ((es.drop (l.getD 0).toNat).take ((h.getD es.length).toNat-(l.getD 0).toNat)))),st2.boxes⟩,ans,[0<=l.getD 0,l.getD 0<=h.getD es.length,h.getD es.length<=es.length])
   | _,_=>none
  else none
 | _,_,_=>none
theorem cI.zB{P:Program}{t:TypeId}{p:aJ}{v:Value}{cZ hi jc:Option Operand}
  (aZ:cI w0 st a w ω τ) (hp:cU (Sat w ω τ) p v) (h:zB P st d t p cZ hi jc ans=some (bE,cu,obs)) (aU:cO obs):
  ∃z,(Instr.sliceAt t v (cZ.map a.eval) (hi.map a.eval) (jc.map a.eval)).run P w=.ok z w/\Rel w0 bE (a.put (some d) z) w:=by
 unfold Go.Sx.zB at h;split at h
 ·rename_i e k s cn es e1 e2;split at h
  ·rename_i hk;obtain⟨rfl,ai⟩:=hk;split at h
   ·rename_i l bQ ck dX;simp only[aX,bJ]at h;obtain⟨rfl,_,rfl⟩:=h;obtain⟨hu,i,lX,a6⟩:=wJ e1;obtain⟨aA,_⟩:=aJ.dN e2 hp;obtain⟨cv,ca,cD,_⟩:=aU;have ax:=Be aZ ck;have aK:=Be aZ dX;have kJ:(cZ.map a.eval=none/\l.getD 0=0)\/∃k,cZ.map a.eval=some (.int k (l.getD 0)):=by
     rcases ax with⟨h,rfl⟩ | ⟨k,n,h,rfl⟩
     ·exact .inl ⟨h,rfl⟩
     exact .inr ⟨k,h⟩
    have sK:(hi.map a.eval=none/\bQ.getD es.length=es.length)\/∃k,hi.map a.eval=some (.int k (bQ.getD es.length)):=by
     rcases aK with⟨h,rfl⟩ | ⟨k,n,h,rfl⟩
     ·exact .inl ⟨h,rfl⟩
     exact .inr ⟨k,h⟩
    have key:∀(L m:Nat) (z:Value),L<=m->b7 w (fun b=>jK s (oO s d) L (ω b)) (Tag.own (oO s d)).R (.J k ((es.drop L).take (m-L))) z->
      Rel w0 ⟨(st.map (aH.cz (ks s (oO s d)) fun _=>true)).env.set d (.one (.J (.own (oO s d)) k ((es.drop L).take (m-L)))),(st.map (aH.cz (ks s (oO s d)) fun _=>true)).boxes⟩ (a.put (some d) z) w:=by
     intro L m z _ DR;have h1:cI w0 (st.map (aH.cz (ks s (oO s d)) fun _=>true)) a w (fun b=>jK s (oO s d) L (ω b)) (gr τ (oO s d) k z):=
      aZ.di _ (KY (by omega)).sat aZ.below (fun b aj=>aZ.owned b (KX aj)) (fun id b aj=>⟨uG.2 aj,rfl⟩) (fun id b aj=>uG.1 aj)
       (fun t bH=>by simp only[gr];rw[ba (by omega)])
     exact⟨_,_,h1.put (p:=.one (.J (.own (oO s d)) k ((es.drop L).take (m-L)))) ⟨DR,by simp[Tag.ee,gr]⟩⟩
    cases aA with
    | nil _ _ a0=>
     simp only[ch] at*;have bM:l.getD 0=0:=by omega
     have Ht:bQ.getD ((0:Nat):Int)=0:=by omega
     refine⟨.slice a0 0 0,?_,?_⟩
     ·simp only[Instr.sliceAt,Sem.run_bind,run_underlying hu,Result.andThen_ok,Instr.slice,Option.map_none];rw[Bd kJ sK cv ca cD];have Hu:bQ.getD 0=0:=by simpa using Ht
      simp[sizeOf,typeInfo,lX,bM,Hu]
     refine key _ _ _ (by omega) ?_;simp only[List.drop_nil,List.take_nil];exact .nil _ _ _
    | row R k es b off cap arr ty c0 us aj dT ak eT hk jG aE=>
     refine⟨sliced (some ⟨b,off,none⟩) (l.getD 0).toNat (bQ.getD es.length).toNat cap k,?_,?_⟩
     ·simp only[Instr.sliceAt,Sem.run_bind,run_underlying hu,Result.andThen_ok,Instr.slice,Option.map_none];rw[Bd kJ sK cv ca (by omega)];simp[sizeOf,typeInfo,lX,a6,sliced]
     refine key _ _ _ (by omega) ?_;have:=b7.sub (.row _ k es b off cap arr ty c0 us aj dT ak eT hk jG aE) (l:=(l.getD 0).toNat) (m:=(bQ.getD es.length).toNat) (by omega) (by omega)
      (iw:=fun q o=>match q with | []=>o=.tok s [] | (i,j)::r=>o=.tok s ((i+(l.getD 0).toNat,j)::r)) (fun o h=>h) (fun i j q o abr h=>by
       simp only[Tag.R]at h;simp only[Nat.sub_add_cancel abr];exact h)
     refine this.frame fun c q _ az=>⟨?_,rfl⟩
     simp only[Tag.R];cases q with
     | nil=>simp only at az;rw[az];simp[jK]
     | cons x r=>
      obtain⟨i,j⟩:=x;simp only at az;rw[az];have cN:¬(i+(l.getD 0).toNat<(l.getD 0).toNat):=by omega
      simp only[jK,fQ,ba cN,Nat.add_sub_cancel]
   cases h
  cases h
 cases h
end Go.Sx
namespace Go.Sx
open Go.RowKit
def laid(arr:Array Value)(o:Nat)(cs:List Value):Array Value:=(arr.toList.take o++cs++arr.toList.drop (o+cs.length)).toArray
theorem ar5{arr:Array Value}{o:Nat}{cs:List Value}(h:o+cs.length<=arr.size):(laid arr o cs).size=arr.size:=by
 simp[laid];omega
theorem Sm{arr:Array Value}{o:Nat}{cs:List Value}(h:o+cs.length<=arr.size)(x:Nat):
  (laid arr o cs)[x]?=if o<=x/\x<o+cs.length then cs[x-o]? else arr[x]?:=by
 simp only[laid,pP,tw];have ag:(arr.toList.take o).length=o:=by simp;omega
 split
 ·rename_i aa;rw[zO (by omega),C2 (by omega),ag]
 rename_i aa;by_cases h1:x<o
 ·rw[C2 (by omega),kX,bi h1,nY]
 rw[zO (by omega),zO (by omega),ag,ky,nY]
 congr 1
 omega
theorem ar6{P:Program}(w:World)(t e ty:TypeId)(z:Value)(bH:P.underlying t=some (.slice e))(bF:(zeroValue e).run P w=.ok z w)(b o n c:Nat)(arr:Array Value)(tb:TypeId)
  (aj:w.heap[b]?=some (.cells arr tb (0,0))) (eQ:o+n*z.cells.size<=arr.size) (h1:∀v∈z.cells.toList,v.oneCell'=true):
  ∃zs:List Value,zs.length=n*z.cells.size/\(∀m,m<n*z.cells.size->zs[m]?=z.cells[m % z.cells.size]?)/\(Builtin.clear_ #[t] ty #[.slice (some ⟨b,o,none⟩) n c]).run P w=.ok (.tuple #[]) (if n=0 then w else w.setRow b (laid arr o zs)):=by
 refine⟨(Builtin.zeroCells z.cells n).toList,by simp[Builtin.zeroCells],fun m hm=>?_,?_⟩
 ·have rl:0<z.cells.size:=by
   rcases Nat.eq_zero_or_pos z.cells.size with h | h
   ·rw[h]at hm;simp at hm
   exact h
  simp only[Builtin.zeroCells,Array.toList_map,Array.toList_range,du,List.getElem?_range hm,n0];rw[getElem!_pos z.cells _ (Nat.mod_lt _ rl),h3 (Nat.mod_lt _ rl)]
 have qf:∀v∈(Builtin.zeroCells z.cells n).toList,v.oneCell'=true:=by
  intro v mD;simp only[Builtin.zeroCells,Array.toList_map,jX,Array.toList_range,List.mem_range]at mD;obtain⟨i,hi,rfl⟩:=mD;have rl:0<z.cells.size:=by
   rcases Nat.eq_zero_or_pos z.cells.size with h | h
   ·rw[h]at hi;simp at hi
   exact h
  refine h1 _ ?_;rw[getElem!_pos z.cells _ (Nat.mod_lt _ rl)];simp
 have e5:=run_storeCells_at P b o tb (Builtin.zeroCells z.cells n).toList 0 arr w aj (by simpa[Builtin.zeroCells]using eQ) qf;simp only[m']at e5;cases n with
 | zero=>simp[Builtin.clear_,run_underlying bH]
 | succ n=>simp[Builtin.clear_,run_underlying bH,bF,e5,laid]
def y4(t k:Nat)(cH:List (List D)):aH->aH
 | .J (.own s) cn es=>if s=t then .J (.own t) k cH else .J (.own s) cn es
 | l=>aH.cz (fs t) (fun _=>true) l
def E6(P:Program)(st:aF)(d:Nat)(t:TypeId)(x:Operand)(cZ:Option Operand)(gU:TypeId)(ans:List ci):Stepped:=
 match qH P t,(st.br x).leaf with
 | some (e,k),some (.J (.own ha) cn es)=>
  match P.info? e with
  | some i=>
   match i.zero,mh st cZ with
   | some z,some l=>
    if k=cn/\t=gU/\z.cells.size=k/\z.cells.toList.all (fun v=>v.oneCell')=true/\d<st.env.length then
     let st2:=st.map (y4 ha k (es.take (l.getD 0).toNat++List.replicate (es.length-(l.getD 0).toNat) (z.cells.toList.map .v)))
     some (⟨st2.env.set d .cq,st2.boxes⟩,ans,[0<=l.getD 0,l.getD 0<es.length,Flat es])
    else none
   | _,_=>none
  | none=>none
 | _,_=>none
theorem cI.clear{P:Program}{w0:eK}{st bE:aF}{a:Act}{w:World}{ω:Own}{τ:Nat->Nat×Value}{d:Nat}{t gU:TypeId}{x:Operand}{cZ:Option Operand}{ans cu:List ci}{obs:List Prop}
  (aZ:cI w0 st a w ω τ) (h:E6 P st d t x cZ gU ans=some (bE,cu,obs)) (aU:cO obs):
  d<a.tmps.size/\∃y z aS,(Instr.sliceAt t (a.eval x) (cZ.map a.eval) none none).run P w=.ok y w/\(∀ty,(Builtin.clear_ #[gU] ty #[y]).run P w=.ok z aS)/\Rel w0 bE (a.put (some d) y) aS:=by
 unfold E6 at h;split at h
 ·rename_i e k ha cn es he aa;split at h
  ·rename_i i hi;split at h
   ·rename_i z l a6 P9;split at h
    ·rename_i ak;obtain⟨rfl,rfl,pj,AQ,sI⟩:=ak;refine⟨by rw[aZ.size];exact sI,?_⟩;simp only[aX,bJ]at h;obtain⟨rfl,_,rfl⟩:=h;obtain⟨cv,ca,DF,_⟩:=aU;obtain⟨hu,i2,kn,eT⟩:=wJ he;obtain⟨aA,bQ⟩:=aJ.dN aa (aZ.br x);have ax:=Be aZ P9;have kJ:(cZ.map a.eval=none/\l.getD 0=0)\/∃k,cZ.map a.eval=some (.int k (l.getD 0)):=by
      rcases ax with⟨h,rfl⟩ | ⟨k,n,h,rfl⟩
      ·exact .inl ⟨h,rfl⟩
      exact .inr ⟨k,h⟩
     generalize rh:a.eval x=Gk at aA bQ;cases aA with
     | nil _ _ a0=>simp at ca;omega
     | row R k es b off cap arr ty c0 us aj dT gd ai hk jG aE=>
      have h9:ω b=.tok ha []:=dT;obtain⟨qg,tH,vq,iZ⟩:=aZ.owned b (by rw[h9];simp);rw[aj]at iZ;simp only[aX,Obj.cells.injEq]at iZ;obtain⟨rfl,rfl,rfl⟩:=iZ;obtain⟨L,cN⟩:∃L,L=(l.getD 0).toNat:=⟨_,rfl⟩
      have ay8:L<es.length:=by omega
      rw[<-cN];have eQ:off+L*k+(es.length-L)*z.cells.size<=arr.size:=by
       rw[pj,zW,<-fA,show L+(es.length-L)=es.length by omega];have:=hq k gd;omega
      have acp:(zeroValue e).run P w=.ok z w:=by simp[zeroValue,typeInfo,hi,a6]
      obtain⟨zs,l1,QE,PS⟩:∃zs:List Value,zs.length=(es.length-L)*z.cells.size/\(∀m,m<(es.length-L)*z.cells.size->zs[m]?=z.cells[m % z.cells.size]?)/\
        ∀ty,(Builtin.clear_ #[t] ty #[.slice (some ⟨b,off+L*k,none⟩) (es.length-L) (cap-L)]).run P w=.ok (.tuple #[]) (if es.length-L=0 then w else w.setRow b (laid arr (off+L*k) zs)):=by
       obtain⟨zs,h1,U,ax⟩:=ar6 (P:=P) w t e 0 z hu acp b (off+L*k) (es.length-L) (cap-L) arr ty aj eQ (fK.1 AQ);exact⟨zs,h1,U,fun qU=>ax⟩
      rw[ba (by omega)]at PS;rw[pj]at l1 QE;have dq:off+L*k+zs.length<=arr.size:=by rw[l1,<-pj];exact pj▸eQ
      refine⟨.slice (some ⟨b,off+L*k,none⟩) (es.length-L) (cap-L),_,_,?_,PS,?_⟩
      ·simp only[Instr.sliceAt,Sem.run_bind,run_underlying hu,Result.andThen_ok,Instr.slice,Option.map_none];rw[Bd (h:=es.length) kJ (.inl ⟨rfl,rfl⟩) cv (by omega) (by omega)];have ct:¬cap=L:=by omega
       simp[sizeOf,typeInfo,kn,eT,<-cN,ct,Addr.add_lit]
      -- az5 axV behind it
      have jB:=setRow_heap w b arr (laid arr (off+L*k) zs) ty (0,0) aj;have gg:b7 (w.setRow b (laid arr (off+L*k) zs)) ω (Tag.own ha).R (.J k (es.take L++List.replicate (es.length-L) (z.cells.toList.map .v))) (.slice (some ⟨b,off,none⟩) es.length cap):=by
       have hlen:(es.take L++List.replicate (es.length-L) (z.cells.toList.map D.v)).length=es.length:=by simp;omega
       have fa:∀x j d,c9 (es.take L++List.replicate (es.length-L) (z.cells.toList.map D.v)) x j=some d->∃v,d=.v v/\(laid arr (off+L*k) zs)[off+x*k+j]?=some v/\v.oneCell'=true:=by
        intro x j d eb;rw[Bi]at eb;have IF:(es.take L).length=L:=by simp;omega
        rw[IF]at eb;split at eb
        ·rename_i IG;have vW:c9 es x j=some d:=by
          unfold c9 at eb ⊢;rwa[kX,bi IG]at eb
         obtain⟨pg,lv⟩:=s7 hk vW;have qe:∃v,d=.v v:=by
          unfold c9 at vW;cases e1:es[x]? with
          | none=>simp[e1]at vW
          | some ds=>
           simp only[e1,mZ]at vW;exact DF ds (fF e1) d (fF vW)
         obtain⟨v,rfl⟩:=qe;have aK:=aE x j _ vW;have a7:=jG x j _ vW;generalize us x j=u at aK a7;cases aK with
         | v _ _ bp=>
          refine⟨v,rfl,?_,bp⟩;rw[Sm dq,ba ?_,a7];have:(x+1)*k<=L*k:=hq _ IG;rw[fA]at this;omega
        rename_i IG;unfold c9 at eb;rw[zS]at eb;split at eb
        ·rename_i sT;simp only[mZ,du,b8]at eb;obtain⟨v,bF,rfl⟩:=eb;have Aw:j<k:=by
          have:=(eW.1 bF).1;rw[vy,pj]at this;exact this
         refine⟨v,rfl,?_,fK.1 AQ v (fF bF)⟩;obtain⟨m,hm⟩:∃m,x=L+m:=⟨x-L,by omega⟩
         subst hm;have abB:m*k+j<(es.length-L)*k:=by
          have:(m+1)*k<=(es.length-L)*k:=hq _ (by omega);rw[fA]at this;omega
         have e1:off+(L+m)*k+j=off+L*k+(m*k+j):=by rw[fA];omega
         rw[e1,Sm dq,bi (by omega),show off+L*k+(m*k+j)-(off+L*k)=m*k+j by omega,QE _ abB,show (m*k+j) % k=j by rw[Nat.mul_comm m k,Nat.mul_add_mod,C4 Aw]];simpa using bF
        simp at eb
       have:=b7.row (w:=w.setRow b (laid arr (off+L*k) zs)) (ω:=ω) (Tag.own ha).R k (es.take L++List.replicate (es.length-L) (z.cells.toList.map .v)) b off cap _ ty (0,0)
        (fun x j=>(laid arr (off+L*k) zs).getD (off+x*k+j) undef) jB dT (by omega) (by rw[ar5 dq];exact ai)
        (by
         intro e' vX;rcases hD.1 vX with h | h
         ·exact hk e' (zQ h)
         rw[List.eq_of_mem_replicate h];simp[pj])
        (fun x j d eb=>by obtain⟨v,rfl,h1,_⟩:=fa x j d eb;simp[ew,h1])
        (fun x j d eb=>by
         obtain⟨v,rfl,h1,U⟩:=fa x j d eb;have:(laid arr (off+L*k) zs).getD (off+x*k+j) undef=v:=by simp[ew,h1]
         rw[this];exact .v _ _ U)
       rwa[hlen]at this
      have br:lQ w ω τ (w.setRow b (laid arr (off+L*k) zs)) ω τ (fs ha) (fun _=>true):=by
       refine⟨?_,?_,fun id c _ ak=>ak,rfl,fun _ _=>rfl⟩
       ·intro g ey c q av _ az;obtain⟨rfl,ub⟩:=E4 av az;exact⟨az,setRow_other w b c _ fun e=>ub [] (by rw[e];exact h9)⟩
       intro g ey y av bu;cases g with
       | free=>simp only[fs,aX]at av;subst av;trivial
       | own x=>
        simp only[fs]at av;split at av
        ·cases av
        simp only[aX]at av;subst av;exact bu
       | ro x=>
        simp only[fs]at av;split at av
        ·cases av
        simp only[aX]at av;subst av;trivial
      have eS:∀kN v,Sat w ω τ kN v->Sat (w.setRow b (laid arr (off+L*k) zs)) ω τ (y4 ha k (es.take L++List.replicate (es.length-L) (z.cells.toList.map .v)) kN) v:=by
       intro kN v ID;by_cases tU:∃s cn cH,kN=.J (.own s) cn cH
       ·obtain⟨s,cn,cH,rfl⟩:=tU;simp only[y4];split
        ·rename_i e5;subst e5;obtain⟨_,U⟩:=ID;simp only[Tag.ee]at U bQ;rw[U]at bQ;simp only[bJ]at bQ;obtain⟨rfl,rfl⟩:=bQ;exact⟨gg,U⟩
        rename_i e5;have:=br.sat (.J (.own s) cn cH) v ID;simpa[aH.cz,fs,e5]using this
       have eF:y4 ha k (es.take L++List.replicate (es.length-L) (z.cells.toList.map .v)) kN=aH.cz (fs ha) (fun _=>true) kN:=by
        unfold y4;split
        ·exact absurd ⟨_,_,_,rfl⟩ tU
        rfl
       rw[eF];exact br.sat kN v ID
      have h1:cI w0 (st.map (y4 ha k (es.take L++List.replicate (es.length-L) (z.cells.toList.map .v)))) a (w.setRow b (laid arr (off+L*k) zs)) ω τ:=by
       refine aZ.di _ eS (aZ.below.setRow qg _) ?_ (fun id c ak=>⟨ak,setRow_other w b c _ fun e=>by rw[e,h9]at ak;cases ak⟩) (fun id c ak=>ak) (fun _ _=>rfl);intro c ak;obtain⟨h1,ix,iR,U⟩:=aZ.owned c ak;by_cases e:c=b
       ·subst e;exact⟨h1,_,ty,jB⟩
       exact⟨h1,ix,iR,(setRow_other w b c _ e).trans U⟩
      exact⟨ω,τ,h1.put (p:=.cq) trivial⟩
    cases h
   cases h
  cases h
 cases h
end Go.Sx
namespace Go.Sx
open Go.RowKit
def bC.lm(p:aH->Prop):bC->Prop
 | .one l=>p l
 | .agg ls=>∀l∈ls,p l
def aJ.lm(p:aH->Prop):aJ->Prop
 | .aI a=>a.lm p
 | .ga as=>∀a∈as,a.lm p
variable{S kE:aH->Value->Prop}{p:aH->Prop}{f:aH->aH}{ls:List aH}
theorem kk.map'(h:∀l v,p l->S l v->kE (f l) v){vs:Array Value}(ae:∀l∈ls,p l)(ai:kk S ls vs):kk kE (ls.map f) vs:=by
 refine⟨by simpa using ai.1,fun i l ag=>?_⟩;rw[du,b8]at ag;obtain⟨gh,bg,rfl⟩:=ag;obtain⟨u,h1,U⟩:=ai.2 i gh bg;exact⟨u,h1,h _ _ (ae gh (fF bg)) U⟩
theorem kj.map'(h:∀l v,p l->S l v->kE (f l) v):∀{a:bC} {y:Value},a.lm p->kj S a y->kj kE (a.map f) y
 | .one l,y,ae,ai=>h _ _ ae ai
 | .agg ls,y,ae,⟨vs,e,ai⟩=>⟨vs,e,ai.map' h ae⟩
theorem cU.map'(h:∀l v,p l->S l v->kE (f l) v):∀{q:aJ} {y:Value},q.lm p->cU S q y->cU kE (q.map f) y
 | .aI a,y,ae,ai=>show kj kE (a.map f) y from kj.map' h ae (show kj S a y from ai)
 | .ga as,y,ae,⟨vs,e,aR,ai⟩=>⟨vs,e,by simpa using aR,fun i a hi=>by
   rw[du,b8]at hi;obtain⟨a0,bg,rfl⟩:=hi;obtain⟨u,h1,U⟩:=ai i a0 bg;exact⟨u,h1,kj.map' h (ae a0 (fF bg)) U⟩⟩
variable{w0:eK}{st:aF}{a:Act}{w aS:World}{ω a':Own}{τ:Nat->Nat×Value}
theorem cI.ax6{cW:Nat->Nat×Value}{p:aH->Prop}(h:cI w0 st a w ω τ)(f:aH->aH)
  (eS:∀l v,p l->Sat w ω τ l v->Sat aS a' cW (f l) v) (he:∀q∈st.env,q.lm p) (aj:∀id ls,dF id st.boxes=some ls->∀l∈ls,p l) (rb:hr w0 aS) (qh:n4 w0 aS a')
  (rc:∀id b,ω b=.box id->a' b=.box id/\aS.heap[b]?=w.heap[b]?) (Ap:∀id b,a' b=.box id->ω b=.box id) (ri:∀t,dj<=t->cW t=τ t):cI w0 (st.map f) a aS a' cW where
 defers:=h.defers
 size:=by simp[aF.map,h.size]
 below:=rb
 owned:=qh
 fixed:=fun t bH=>(ri t bH).trans (h.fixed t bH)
 pinned:=fun id b hi aj=>h.pinned id b hi (Ap id b aj)
 env:=by
  intro i q az;simp only[aF.map]at az;rw[du,b8]at az;obtain⟨ic,bg,rfl⟩:=az;obtain⟨v,h1,U⟩:=h.env i ic bg;exact⟨v,h1,cU.map' eS (he ic (fF bg)) U⟩
 boxes:=by
  intro id ls ag;simp only[aF.map]at ag;rw[s6,b8]at ag;obtain⟨jq,bg,rfl⟩:=ag;obtain⟨b,arr,ty,hJ,hu,bQ,ai⟩:=h.boxes id jq bg;obtain⟨h1,U⟩:=rc id b hJ;exact⟨b,arr,ty,h1,fun da dz=>hu da (Ap id da dz),U.trans bQ,ai.map' eS (aj id jq bg)⟩
def aH.idx(t j:Nat):aH->List Nat
 | .aO s a b _ _ _=>if s=t/\b=j then [a] else []
 | _=>[]
def bC.idx(t j:Nat):bC->List Nat
 | .one l=>l.idx t j
 | .agg ls=>ls.flatMap (aH.idx t j)
def aJ.idx(t j:Nat):aJ->List Nat
 | .aI a=>a.idx t j
 | .ga as=>as.flatMap (bC.idx t j)
def aF.idx(t j:Nat)(st:aF):List Nat:=st.env.flatMap (aJ.idx t j)++st.boxes.flatMap fun x=>x.2.flatMap (aH.idx t j)
def E7(t i j:Nat)(l:aH):Prop:=∀a∈l.idx t j,a=i
theorem Sn{id:Nat}:∀{bs:List (Nat×List aH)} {ls:List aH},dF id bs=some ls->(id,ls)∈bs
 | [],_,h=>by cases h
 | (i,l)::r,ls,h=>by
  simp only[dF]at h;split at h
  ·rename_i hi;subst hi;rw[eE h];exact eO
  exact fi _ (Sn h)
variable{t i j:Nat}
theorem aF.acs(h:∀a∈st.idx t j,a=i):∀q∈st.env,q.lm (E7 t i j):=by
 intro q az;have h1:∀a∈q.idx t j,a=i:=fun a ae=>h a (gN _ (jU.2 ⟨q,az,ae⟩))
 have HX:∀x:bC,(∀a∈x.idx t j,a=i)->x.lm (E7 t i j):=by
  intro x aa;cases x with
  | one l=>exact aa
  | agg ls=>exact fun l ag a ae=>aa a (jU.2 ⟨l,ag,ae⟩)
 cases q with
 | aI x=>exact HX x h1
 | ga as=>exact fun x aa=>HX x fun a ae=>h1 a (jU.2 ⟨x,aa,ae⟩)
theorem aF.acr(h:∀a∈st.idx t j,a=i){id:Nat}(aj:dF id st.boxes=some ls):∀l∈ls,E7 t i j l:=by
 intro l ag a ae;exact h a (hR _ (jU.2 ⟨(id,ls),Sn aj,jU.2 ⟨l,ag,ae⟩⟩))
def hj(t i j k:Nat)(cH:List (List D))(kT:Nat)(esT:List (List D)):aH->aH
 | .J (.own s) dC dO=>if s=t then .J (.own t) kT esT else .J (.own s) dC dO
 | .ep (.own s) dC dO a b=>if s=t then .ep (.own t) kT esT a b else .ep (.own s) dC dO a b
 | .J (.ro s) dC dO=>if s=t then .cq else .J (.ro s) dC dO
 | .ep (.ro s) dC dO a b=>if s=t then .cq else .ep (.ro s) dC dO a b
 | .aO s a b dC dO m=>if s=t/\b=j then (if dC=k/\m.home=true then .aO t i j k cH m else .cq) else .aO s a b dC dO m
 | .ft _ _=>.cq
 | l=>l
variable{v:Value}
theorem uC.aya{u:Value}(h1:uC w ω τ t i j u)(U:uC w ω τ t i j v):u=v:=by
 obtain⟨kT,b,off,len,cap,arr,ty,c0,ej,a2,a3,a4⟩:=h1;obtain⟨acx,da,azH,azB,o3,cf,qU,ay2,eP,eX,jA,si⟩:=U;rw[ej]at eP;simp only[bJ,Value.slice.injEq,aX,Addr.mk.injEq]at eP;obtain⟨rfl,⟨rfl,rfl,_⟩,_,_⟩:=eP;rw[a3]at jA;simp only[aX,Obj.cells.injEq]at jA;obtain⟨rfl,_,_⟩:=jA;rw[a4]at si;exact eE si
variable{k kT:Nat}{esT:List (List D)}
theorem cI.XP(h:cI w0 st a w ω τ){cH:List (List D)}{yT hQ:Value}
  (j9:∀c,c<w.heap.size->ω c≠.tok t [(i,j)]->aS.heap[c]?=w.heap[c]?) (dr:∀c,c<w.heap.size->a' c=ω c) (Jj:∀c id,¬c<w.heap.size->a' c≠.box id)
  (kH:hr w0 aS) (qg:n4 w0 aS a') (sV:τ t=(kT,yT)) (om:b7 aS a' (Tag.own t).R (.J kT esT) yT)
  (rj:uC w ω τ t i j hQ) (pe:b7 aS a' (fun q o=>o=.tok t ((i,j)::q)) (.J k cH) hQ) (pd:∀a∈st.idx t j,a=i):cI w0 (st.map (hj t i j k cH kT esT)) a aS a' τ:=by
 have c0:∀{R:List (Nat×Nat)->c8->Prop} {d:D} {v:Value},(∀q,¬R q (.tok t [(i,j)]))->b7 w ω R d v->b7 aS a' R d v:=by
  intro R d v aR aA;refine aA.frame fun b q bL az=>?_
  rw[dr b bL];exact⟨az,j9 b bL fun e=>aR q (by rw[<-e];exact az)⟩
 have home:∀{s a b:Nat} {u:Value},uC w ω τ s a b u->uC aS a' τ s a b u:=by
  rintro s a b u ⟨kT,c,off,len,cap,arr,ty,c0,ej,a2,a3,a4⟩;have bL:c<w.heap.size:=(jz.1 a3).1;exact⟨kT,c,off,len,cap,arr,ty,c0,ej,by rw[dr c bL];exact a2,(j9 c bL (by rw[a2];simp)).trans a3,a4⟩
 refine h.ax6 (p:=E7 t i j) _ ?_ (aF.acs pd) (fun id ls aj=>aF.acr pd aj) kH qg (fun id b aj=>?_) (fun id b aj=>?_) (fun _ _=>rfl)
 ·intro l v av ai;cases l with
  | cq=>exact trivial
  | v x=>exact ai
  | bc c=>exact ai
  | ptr id o=>
   obtain⟨c,ak,e⟩:=ai;exact⟨c,by rw[dr c (h.owned.lt (by simp[ak]))];exact ak,e⟩
  | gP f ids=>
   obtain⟨bs,e,aR,hi⟩:=ai;refine⟨bs,e,aR,fun x id fT=>?_⟩;obtain⟨b,h1,U⟩:=hi x id fT;exact⟨b,h1,by rw[dr b (h.owned.lt (by simp[U]))];exact U⟩
  | h0 ds o=>
   obtain⟨c,e,aA⟩:=ai;exact⟨c,e,c0 (fun q az=>by cases az) aA⟩
  | fd d=>exact c0 (R:=Tag.free.R) (fun q az=>by cases az) ai
  | dx t0 dC dO=>exact⟨c0 (R:=Tag.free.R) (fun q az=>by cases az) ai.1,ai.2⟩
  | ft=>exact trivial
  | J g dC dO=>
   cases g with
   | free=>exact⟨c0 (R:=Tag.free.R) (fun q az=>by cases az) ai.1,ad⟩
   | own s=>
    simp only[hj];split
    ·rename_i e;subst e;have U:=ai.2;simp only[Tag.ee]at U;rw[sV]at U;simp only[bJ]at U;rw[<-U.2];exact⟨om,sV⟩
    rename_i ct;exact⟨c0 (R:=(Tag.own s).R) (fun q az=>by simp only[Tag.R,c8.tok.injEq]at az;exact ct az.1.symm) ai.1,ai.2⟩
   | ro s=>
    simp only[hj];split
    ·exact trivial
    rename_i ct;refine⟨c0 (R:=(Tag.ro s).R) (fun q az=>?_) ai.1,ad⟩;rcases az with az | ⟨dD,az⟩
    ·cases az
    simp only[c8.tok.injEq]at az;exact ct az.1.symm
  | ep g dC dO x y=>
   obtain⟨eX,qs,pW,e,kn,lx,oj⟩:=ai;cases g with
   | free=>exact⟨eX,qs,pW,e,kn,c0 (R:=Tag.free.R) (fun q az=>by cases az) lx,ad⟩
   | own s=>
    simp only[hj];split
    ·rename_i e1;subst e1;simp only[Tag.ee]at oj;rw[sV]at oj;simp only[bJ]at oj;obtain⟨rfl,rfl⟩:=oj;have ag:esT.length=dO.length:=by
      obtain⟨_,_,e2⟩:=om.len;simp only[Value.slice.injEq]at e2;exact e2.2.1.symm
     refine⟨eX,qs,pW,e,by omega,?_,?_⟩
     ·rw[ag];exact om
     rw[ag];exact sV
    rename_i ct;exact⟨eX,qs,pW,e,kn,c0 (R:=(Tag.own s).R) (fun q az=>by simp only[Tag.R,c8.tok.injEq]at az;exact ct az.1.symm) lx,oj⟩
   | ro s=>
    simp only[hj];split
    ·exact trivial
    rename_i ct;refine⟨eX,qs,pW,e,kn,c0 (R:=(Tag.ro s).R) (fun q az=>?_) lx,ad⟩;rcases az with az | ⟨dD,az⟩
    ·cases az
    simp only[c8.tok.injEq]at az;exact ct az.1.symm
  | aO s x y dC dO m=>
   simp only[hj];obtain⟨u,hu,aA,hm⟩:=ai;split
   ·rename_i ak;obtain⟨rfl,rfl⟩:=ak;have aa:x=i:=av x (by simp[aH.idx]);subst aa;split
    ·rename_i ak;obtain⟨rfl,abA⟩:=ak;have e:=(hm abA).aya rj;subst e;have ag:cH.length=dO.length:=by
      obtain⟨_,_,e1⟩:=pe.len;obtain⟨_,_,e2⟩:=aA.len;rw[e1]at e2;simp only[Value.slice.injEq]at e2;omega
     exact⟨u,by rw[ag];exact hu,pe,fun _=>home rj⟩
    exact trivial
   rename_i ak;refine⟨u,hu,c0 (fun q az=>?_) aA,fun bQ=>home (hm bQ)⟩;simp only[c8.tok.injEq,sb,bJ]at az;exact ak ⟨az.1.symm,az.2.1.2.symm⟩
 ·have bL:=h.owned.lt (b:=b) (by simp[aj]);exact⟨by rw[dr b bL];exact aj,j9 b bL (by rw[aj];simp)⟩
 by_cases bL:b<w.heap.size
 ·rw[dr b bL]at aj;exact aj
 exact absurd aj (Jj b id bL)
def tn(t:Nat):aH->Option (Nat×List (List D))
 | .J (.own s) k es=>if s=t then some (k,es) else none
 | _=>none
def uH(t:Nat):List aJ->Option (Nat×List (List D))
 | []=>none
 | .aI (.one l)::r=>match tn t l with | some x=>some x | none=>uH t r
 | .aI (.agg ls)::r=>match ls.findSome? (tn t) with | some x=>some x | none=>uH t r
 | _::r=>uH t r
def E8(t:Nat)(st:aF):Option (Nat×List (List D)):=
 match uH t st.env with
 | some x=>some x
 | none=>(st.boxes.find? fun x=>(x.2.findSome? (tn t)).isSome).bind fun x=>(dF x.1 st.boxes).bind fun ls=>ls.findSome? (tn t)
theorem KZ{l:aH}(h:tn t l=some (kT,esT))(ai:Sat w ω τ l v):Sat w ω τ (.J (.own t) kT esT) v:=by
 unfold tn at h;split at h
 ·split at h
  ·rename_i e;subst e;simp only[aX,bJ]at h;obtain⟨rfl,rfl⟩:=h;exact ai
  cases h
 cases h
theorem Sp{vs:Array Value}(h:ls.findSome? (tn t)=some (kT,esT))(ai:kk (Sat w ω τ) ls vs):∃v,Sat w ω τ (.J (.own t) kT esT) v:=by
 obtain⟨l,ag,U⟩:=List.exists_of_findSome?_eq_some h;obtain⟨x,aa⟩:=r8.1 ag;obtain⟨u,_,hu⟩:=ai.2 x l aa;exact⟨u,KZ U hu⟩
theorem E9:∀{cF:List aJ},uH t cF=some (kT,esT)->(∀p∈cF,∃v,cU (Sat w ω τ) p v)->∃v,Sat w ω τ (.J (.own t) kT esT) v
 | [],h,_=>by cases h
 | p::r,h,ai=>by
  have aA:∀p∈r,∃v,cU (Sat w ω τ) p v:=fun p hp=>ai p (fi _ hp)
  obtain⟨v,bF⟩:=ai p eO;cases p with
  | ga as=>exact E9 (by simpa[uH]using h) aA
  | aI x=>
   cases x with
   | one l=>
    simp only[uH]at h;split at h
    ·rename_i y e;simp only[aX]at h;subst h;exact⟨v,KZ e bF⟩
    exact E9 h aA
   | agg ls=>
    simp only[uH]at h;split at h
    ·rename_i y e;simp only[aX]at h;subst h;obtain⟨vs,_,bF⟩:=bF;exact Sp e bF
    exact E9 h aA
theorem cI.root(h:cI w0 st a w ω τ)(e:E8 t st=some (kT,esT)):∃v,Sat w ω τ (.J (.own t) kT esT) v:=by
 unfold E8 at e;split at e
 ·rename_i x e1;simp only[aX]at e;subst e;refine E9 e1 fun p hp=>?_
  obtain⟨x,aa⟩:=r8.1 hp;obtain⟨v,_,bF⟩:=h.env x p aa;exact⟨v,bF⟩
 rw[mo]at e;obtain⟨x,_,e⟩:=e;rw[mo]at e;obtain⟨ls,aj,e⟩:=e;obtain⟨b,arr,ty,_,_,_,ai⟩:=h.boxes x.1 ls aj;exact Sp e ai
theorem RA{cH:List (List D)}{jm:List D}{yT hQ:Value}(ai:Sat w ω τ (.J (.own t) kT esT) yT)
  (j9:∀c,c<w.heap.size->ω c≠.tok t [(i,j)]->aS.heap[c]?=w.heap[c]?) (dr:∀c,c<w.heap.size->a' c=ω c)
  (rj:uC w ω τ t i j hQ) (pe:b7 aS a' (fun q o=>o=.tok t ((i,j)::q)) (.J k cH) hQ) (eI:esT[i]?=some jm):b7 aS a' (Tag.own t).R (.J kT (esT.set i (jm.set j (.J k cH)))) yT:=by
 obtain⟨aA,bQ⟩:=ai;simp only[Tag.ee]at bQ;obtain⟨acx,b9,JB,QN,Pq,tH,vq,ay3,ej,a2,a3,a4⟩:=rj;rw[bQ]at ej;simp only[bJ]at ej;obtain⟨rfl,rfl⟩:=ej;have jC:i<esT.length:=(eW.1 eI).1;have hlen:(esT.set i (jm.set j (.J k cH))).length=esT.length:=e8;generalize bu:Value.slice (some ⟨b9,JB,none⟩) QN Pq=O1 at aA;cases aA with
 | nil=>simp at jC
 | row R kT esT b off cap arr ty c0 us aj dT ak eT hk hu aE=>
  simp only[Value.slice.injEq,aX,Addr.mk.injEq]at bu;obtain⟨⟨rfl,rfl,_⟩,rfl,rfl⟩:=bu;rw[aj]at a3;simp only[aX,Obj.cells.injEq]at a3;obtain⟨rfl,_,_⟩:=a3;have vS:b9<w.heap.size:=(jz.1 aj).1;have Ax:jm.length=kT:=hk jm (fF eI);have ud:∀e∈esT.set i (jm.set j (.J k cH)),e.length=kT:=by
   intro e he;rcases hb he with h | rfl
   ·exact hk e h
   rw[e8];exact Ax
  have key:∀x y d,c9 (esT.set i (jm.set j (.J k cH))) x y=some d->arr[JB+x*kT+y]?=some (us x y)/\b7 aS a' (fun q=>(Tag.own t).R ((x,y)::q)) d (us x y):=by
   intro x y d eb;have II:=s7 ud eb;rw[hlen]at II;obtain⟨d0,hK⟩:=Q8 hk II.1 II.2;have uh:=hu x y d0 hK;refine⟨uh,?_⟩;rw[KK jC]at eb;by_cases aa:x=i
   ·subst aa;rw[bi rfl,iT]at eb;by_cases Jg:j=y
    ·subst Jg;rw[bi rfl,bi (by omega)]at eb;rw[<-eE eb];rw[a4]at uh;rw[<-eE uh];exact pe
    rw[ba Jg]at eb;have p9:c9 esT x y=some d:=by simp[c9,eI,eb]
    refine (aE x y d p9).frame fun c q ak az=>?_
    rw[dr c ak];refine⟨az,j9 c ak fun e=>?_⟩;simp only[Tag.R,e,c8.tok.injEq,sb,bJ]at az;exact Jg az.2.1.2
   rw[ba aa]at eb;refine (aE x y d eb).frame fun c q ak az=>?_
   rw[dr c ak];refine⟨az,j9 c ak fun e=>?_⟩;simp only[Tag.R,e,c8.tok.injEq,sb,bJ]at az;exact aa az.2.1.1.symm
  have h9:ω b9=.tok t []:=dT;have:=b7.row (w:=aS) (ω:=a') (Tag.own t).R kT (esT.set i (jm.set j (.J k cH))) b9 JB Pq arr ty c0 us ((j9 b9 vS (by rw[h9];simp)).trans aj) (by rw[dr b9 vS];exact h9) (by omega) eT ud
   (fun x y d aE=>(key x y d aE).1) (fun x y d aE=>(key x y d aE).2)
  rw[hlen]at this;exact this
def K0(P:Program)(st:aF)(ty:TypeId)(t i j k:Nat)(es:List (List D))(x y:Nat)(q:aJ)(ans:List ci):Stepped:=
 match q.leaves,P.info? ty,E8 t st,ans with
 | some xs,some inf,some (kT,esT),.el ds::.el jm::r=>
  match xs.mapM aH.iQ with
  | some ys=>
   if xs.length=inf.size/\ds.length=k/\y+ys.length<=k/\xs.all (fun l=>l.tok.isNone)=true then
    some (st.map (hj t i j k (es.set x (k0 ds y ys)) kT (esT.set i (jm.set j (.J k (es.set x (k0 ds y ys)))))),r,(es[x]?=some ds)::(esT[i]?=some jm)::(st.idx t j).map fun a=>a=i)
   else none
  | none=>none
 | _,_,_,_=>none
theorem ar7{l:aH}{d:D}(h:l.iQ=some d)(bH:l.tok.isNone=true){u:Value}(ai:Sat w ω τ l u):∃z,d=.v z/\u=z/\z.oneCell'=true:=by
 cases l with
 | v z=>
  simp only[aH.iQ]at h;split at h
  ·simp only[aX]at h;subst h;have:u=z:=ai;exact⟨z,rfl,this,‹_›⟩
  cases h
 | bc c=>
  simp only[aH.iQ,aX]at h;subst h;exact⟨_,rfl,ai,rfl⟩
 | J g k es=>
  cases g with
  | own s=>simp[aH.tok]at bH
  | free=>cases h
  | ro s=>cases h
 | cq=>cases h
 | ptr=>cases h
 | ep=>cases h
 | h0=>cases h
 | fd=>cases h
 | dx=>cases h
 | gP=>cases h
 | aO=>cases h
 | ft=>cases h
theorem cI.ax0{P:Program}{bE:aF}{ty:TypeId}{x y:Nat}{es:List (List D)}{q:aJ}{p:Value}{ans cu:List ci}{obs:List Prop}
  (aZ:cI w0 st a w ω τ) (hp:Sat w ω τ (.aO t i j k es (.at_ x y)) p) (az:cU (Sat w ω τ) q v) (h:K0 P st ty t i j k es x y q ans=some (bE,cu,obs)) (aU:cO obs):
  ∃aS,(Instr.storeAt ty p v).run P w=.ok () aS/\Rel w0 bE a aS:=by
 unfold K0 at h;split at h
 ·rename_i xs inf kT esT ds jm r e1 e2 dX;split at h
  ·rename_i ys ck;split at h
   ·rename_i ak;obtain⟨k1,kI,k2,yj⟩:=ak;simp only[aX,bJ]at h;obtain⟨rfl,_,rfl⟩:=h;obtain⟨eI,yk,pd⟩:=aU;have pd:=EY pd;obtain⟨yT,om⟩:=aZ.root dX;obtain⟨ai,qf⟩:=aJ.yE e1 az;obtain⟨QC,Jf⟩:=nN ck;obtain⟨hQ,⟨b,off,cap,rfl,rfl,jC⟩,aA,hm⟩:=hp;have rj:=hm rfl;have qi:=aA;cases aA with
    | nil=>simp at jC
    | row R k es b off cap arr hB c0 us aj dT gd eT gq hu aE=>
     have h9:ω b=.tok t [(i,j)]:=dT;obtain⟨wh,tH,vq,iZ⟩:=aZ.owned b (by rw[h9];simp);rw[aj]at iZ;simp only[aX,Obj.cells.injEq]at iZ;obtain⟨rfl,rfl,rfl⟩:=iZ;have vS:b<w.heap.size:=(jz.1 aj).1;have hmul:(x+1)*k<=cap*k:=hq _ (by omega);rw[fA]at hmul;have wk:v.cells.size=xs.length:=ai.1;have eQ:off+x*k+y+v.cells.toList.length<=arr.size:=by simp;omega
     have e5:=run_storeCells_at P b (off+x*k+y) hB v.cells.toList 0 arr w aj (by simpa using eQ) qf;simp only[m']at e5;generalize ny:(arr.toList.take (off+x*k+y)++v.cells.toList++arr.toList.drop (off+x*k+y+v.cells.toList.length)).toArray=cf at e5;have hW:∀z:Nat,cf[z]?=if off+x*k+y<=z/\z<off+x*k+y+xs.length then v.cells[z-(off+x*k+y)]? else arr[z]?:=by
      intro z;rw[<-ny,pP,Bg (by simpa using eQ)];simp[wk]
     have yv:cf.size=arr.size:=by rw[<-ny];simp;simp at eQ;omega
     have jB:=setRow_heap w b arr cf hB (0,0) aj;have j9:∀c,c<w.heap.size->ω c≠.tok t [(i,j)]->(w.setRow b cf).heap[c]?=w.heap[c]?:=fun c _ ak=>setRow_other w b c cf fun e=>ak (by rw[e];exact h9)
     have pe:b7 (w.setRow b cf) ω (fun q o=>o=.tok t ((i,j)::q)) (.J k (es.set x (k0 ds y ys))) (.slice (some ⟨b,off,none⟩) es.length cap):=by
      have hlen:(es.set x (k0 ds y ys)).length=es.length:=e8;have Ax:ds.length=k:=kI;have lY:∀gx gy d,c9 es gx gy=some d->b7 (w.setRow b cf) ω (fun q o=>o=.tok t ((i,j)::(gx,gy)::q)) d (us gx gy):=by
       intro gx gy d p9;refine (aE gx gy d p9).frame fun c q ak eg=>⟨eg,j9 c ak fun e=>?_⟩
       rw[e]at eg;simp at eg
      have fa:∀gx gy d,c9 (es.set x (k0 ds y ys)) gx gy=some d->∃u,cf[off+gx*k+gy]?=some u/\b7 (w.setRow b cf) ω (fun q o=>o=.tok t ((i,j)::(gx,gy)::q)) d u:=by
       intro gx gy d eb;rw[KK jC]at eb;by_cases aa:gx=x
       ·subst aa;rw[bi rfl,Rb (by omega)]at eb;split at eb
        ·rename_i bu;obtain⟨l,sL,dq⟩:=Jf _ _ eb;obtain⟨u,fV,fk⟩:=ai.2 _ _ sL;obtain⟨z,rfl,rfl,a6⟩:=ar7 dq (fK.1 yj l (fF sL)) fk;refine⟨u,?_,.v _ _ a6⟩;rw[hW,bi (by omega),<-fV]
         congr 1;omega
        rename_i bu;have p9:c9 es gx gy=some d:=by simp[c9,eI,eb]
        refine⟨us gx gy,?_,lY gx gy d p9⟩;rw[hW,ba (by omega),hu gx gy d p9]
       rw[ba aa]at eb;obtain⟨pg,acm⟩:=s7 gq eb;refine⟨us gx gy,?_,lY gx gy d eb⟩;rw[hW,ba ?_,hu gx gy d eb];rcases Nat.lt_or_gt_of_ne aa with h | h
       ·have:(gx+1)*k<=x*k:=hq _ h;rw[fA]at this;omega
       have:(x+1)*k<=gx*k:=hq _ h;rw[fA]at this;omega
      have qj:∀e∈es.set x (k0 ds y ys),e.length=k:=by
       intro e he;rcases hb he with h | rfl
       ·exact gq e h
       rw[R0 (by omega)];exact Ax
      have:=b7.row (w:=w.setRow b cf) (ω:=ω) (fun q o=>o=.tok t ((i,j)::q)) k (es.set x (k0 ds y ys)) b off cap cf hB (0,0) (fun gx gy=>cf.getD (off+gx*k+gy) undef) jB h9 (by omega) (by omega) qj
       (fun x y d dP=>by obtain⟨u,h1,_⟩:=fa x y d dP;rw[h1];simp[ew,h1])
       (fun x y d dP=>by obtain⟨u,h1,U⟩:=fa x y d dP;have:cf.getD (off+x*k+y) undef=u:=(by simp[ew,h1]);rw[this];exact U)
      rw[hlen]at this;exact this
     refine⟨w.setRow b cf,?_,ω,τ,aZ.XP (yT:=yT) j9 (fun _ _=>rfl) (fun c id ak e=>?_) (aZ.below.setRow wh cf) ?_ om.2 (RA om j9 (fun _ _=>rfl) rj pe yk) rj pe pd⟩
     ·simp only[Instr.storeAt,Instr.sureAddr,Sem.run_bind,Sem.run_pure,Result.andThen_ok,storeVar,sizeOf,typeInfo,run_program,e2];have IE:¬(v.cells.size≠inf.size):=by simp;omega
      rw[ba IE];exact e5
     ·exact ak (aZ.owned.lt (by rw[e];simp))
     intro c gf;obtain⟨ax,ix,iR,aK⟩:=aZ.owned c gf;by_cases p8:c=b
     ·subst p8;exact⟨ax,cf,hB,jB⟩
     exact⟨ax,ix,iR,(setRow_other w b c cf p8).trans aK⟩
   cases h
  cases h
 cases h
end Go.Sx
namespace Go.Sx
open Go.RowKit
variable{i:Nat}
theorem RB{α:Type}{l:List α}{a:α}(h:l[i]?=some a):l.set i a=l:=by
 apply List.ext_getElem?;intro x;rw[iT];by_cases aa:i=x
 ·subst aa;have:=(eW.1 h).1;rw[bi rfl,bi this,h]
 rw[ba aa]
def K1(P:Program)(st:aF)(d:Nat)(h2:TypeId)(t i j k:Nat)(es:List (List D))(y:Operand)(ans:List ci):Stepped:=
 match qH P h2,E8 t st,ans with
 | some (e,cn),some (kT,esT),.el jm::fr=>
  match P.info? e,vK t k (st.br y) fr with
  | some inf,some (bX,none,vJ,obs)=>
   match inf.zero with
   | some z=>
    if cn=k/\z.cells.size=k/\0<k then
     some (⟨(st.map (hj t i j k es kT esT)).env.set d (.one (.aO t i j k (es++bX) .lU)),(st.map (hj t i j k es kT esT)).boxes⟩,vJ,
      ((es.length+bX.length)*inf.bytes<=140737488355328)::(es.length+bX.length<=9223372036854775807)::(esT[i]?=some jm)::(jm[j]?=some (.J k es))::(((st.idx t j).map fun a=>a=i)++obs))
    else none
   | none=>none
  | _,_=>none
 | _,_,_=>none
def tG(P:Program)(h2:TypeId)(t i j k:Nat)(es esT:List (List D))(q:aJ)(ans:List ci):Option (aJ×List ci×List Prop):=
 match qH P h2,ans with
 | some (e,cn),.el jm::fr=>
  match P.info? e,vK t k q fr with
  | some inf,some (bX,none,vJ,obs)=>
   match inf.zero with
   | some z=>
    if cn=k/\z.cells.size=k/\0<k then
     some (.one (.aO t i j k (es++bX) .lU),vJ,
      ((es.length+bX.length)*inf.bytes<=140737488355328)::(es.length+bX.length<=9223372036854775807)::(esT[i]?=some jm)::(jm[j]?=some (.J k es))::obs)
    else none
   | none=>none
  | _,_=>none
 | _,_=>none
theorem cI.tG{P:Program}{w0:eK}{st:aF}{a:Act}{w:World}{ω:Own}{τ:Nat->Nat×Value}{d:Nat}{h2 ty:TypeId}{t j k kT:Nat}{es esT:List (List D)}{x y:Operand}{p:aJ}{ans cu:List ci}{obs:List Prop}
  (aZ:cI w0 st a w ω τ) (hp:Sat w ω τ (.aO t i j k es .here) (a.eval x)) (h:Sx.tG P h2 t i j k es esT (st.br y) ans=some (p,cu,obs)) (aU:cO obs)
  (om:∃v,Sat w ω τ (.J (.own t) kT esT) v) (pd:∀a∈st.idx t j,a=i):
  ∃z aS,(Builtin.append_ #[h2,h2] ty #[a.eval x,a.eval y]).run P w=.ok z aS/\Rel w0 ⟨(st.map (hj t i j k es kT esT)).env.set d p,(st.map (hj t i j k es kT esT)).boxes⟩ (a.put (some d) z) aS:=by
 unfold Sx.tG at h;split at h
 ·rename_i e cn jm fr he;obtain⟨bH,hx,qb,yu⟩:=wJ he;split at h
  ·rename_i inf bX vJ yG hi jF;rw[qb]at hi;have my:=eE hi;subst my;split at h
   ·rename_i z a6;split at h
    ·rename_i ak;obtain⟨rfl,pj,nE⟩:=ak;simp only[aX,bJ]at h;obtain⟨rfl,_,rfl⟩:=h;obtain⟨hJ,gp,yk,H5,Iq⟩:=aU;obtain⟨_,news,mC⟩:=Ra (P:=P) nE (aZ.br y) jF Iq;obtain⟨yT,om⟩:=om;obtain⟨hQ,rm,aA,hm⟩:=hp;have rj:=hm rfl;have rm:a.eval x=hQ:=rm;rw[rm];generalize a.eval y=fb at mC;have DF:∀gx gy d,c9 bX gx gy=some d->∃u,news[gx*cn+gy]?=some u/\d=.v u/\u.oneCell'=true:=by
      intro gx gy d aE;obtain⟨u,h1,U⟩:=mC.cell gx gy d aE;rcases U with⟨v,rfl,rfl⟩ | ⟨s,ai,_⟩
      ·exact⟨u,h1,rfl,mC.one u (fF h1)⟩
      cases ai
     have fin:∀(w1:World) (a':Own) (r:Value),(∀c,c<w.heap.size->ω c≠.tok t [(i,j)]->w1.heap[c]?=w.heap[c]?)->(∀c,c<w.heap.size->a' c=ω c)->(∀c id,¬c<w.heap.size->a' c≠.box id)->hr w0 w1->n4 w0 w1 a'->
       b7 w1 a' (fun q o=>o=.tok t ((i,j)::q)) (.J cn es) hQ->b7 w1 a' (fun q o=>o=.tok t ((i,j)::q)) (.J cn (es++bX)) r->
       Rel w0 ⟨(st.map (hj t i j cn es kT esT)).env.set d (.one (.aO t i j cn (es++bX) .lU)),(st.map (hj t i j cn es kT esT)).boxes⟩ (a.put (some d) r) w1:=by
      intro w1 a' r j9 dr Jj kH qg pe fe;have Qq:=RA om j9 dr rj pe yk;rw[RB H5,RB yk]at Qq;exact⟨a',τ,(aZ.XP j9 dr Jj kH qg om.2 Qq rj pe pd).put (p:=.one (.aO t i j cn (es++bX) .lU)) ⟨r,rfl,fe,fun bQ=>by cases bQ⟩⟩
     have HY:∀c id,¬c<w.heap.size->ω c≠.box id:=fun c id ak e=>ak (aZ.owned.lt (by rw[e];simp))
     by_cases v7:bX.length=0
     ·have H8:bX=[]:=xN v7;subst H8;refine⟨hQ,w,Q9 bH qb w ?_ ?_,fin w ω hQ (fun _ _ _=>rfl) (fun _ _=>rfl) HY aZ.below aZ.owned aA (by rw[lL];exact aA)⟩
      ·cases aA with
       | nil _ _ a0=>exact⟨a0,0,0,rfl,ei _⟩
       | row R k es b off cap arr ty c0 us aj dT ak ai hk hu aE=>exact⟨some ⟨b,off,none⟩,_,cap,rfl,ak⟩
      rcases mC.shape with⟨⟨a,h⟩,_⟩ | ⟨b,o,c,h,_⟩
      ·exact⟨a,0,h⟩
      exact⟨some ⟨b,o,none⟩,c,h⟩
     have DL:0<bX.length:=by omega
     rcases mC.shape with⟨_,h⟩ | ⟨bc,ml,qT,rfl,nF⟩
     ·rw[h]at DL;simp at DL
     have grown:∀(w1:World) (cf:Array Value) (r:Value) (o3:Nat),gO w.heap.size w w1->w1.heap[w.heap.size]?=some (.cells cf e (0,0))->r=.slice (some ⟨w.heap.size,0,none⟩) (es.length+bX.length) o3->
       es.length+bX.length<=o3->o3*cn<=cf.size->(∀fI kM d,c9 es fI kM=some d->∃u,cf[fI*cn+kM]?=some u/\b7 w ω (fun q o=>o=.tok t ((i,j)::(fI,kM)::q)) d u)->
       (∀x u,news[x]?=some u->cf[es.length*cn+x]?=some u)->(∀e∈es,e.length=cn)->
       Rel w0 ⟨(st.map (hj t i j cn es kT esT)).env.set d (.one (.aO t i j cn (es++bX) .lU)),(st.map (hj t i j cn es kT esT)).boxes⟩ (a.put (some d) r) w1:=by
      intro w1 cf r o3 kH gg Iw gd eT hold Az ud;subst Iw
      let a':Own:=fun c=>if c=w.heap.size then .tok t [(i,j)] else ω c
      have dr:∀c,c<w.heap.size->a' c=ω c:=fun c ak=>by simp only[a'];rw[ba (by omega)]
      have k5:a' w.heap.size=.tok t [(i,j)]:=by simp[a']
      refine fin w1 a' _ (fun c ak _=>kH.block c ak) dr (fun c id ak=>?_) (aZ.below.next kH) (fun b aj=>?_) (aA.frame fun c q ak az=>⟨by rw[dr c ak];exact az,kH.block c ak⟩) ?_
      ·simp only[a'];split
       ·simp
       exact HY c id ak
      ·by_cases tT:b=w.heap.size
       ·subst tT;exact⟨.inl aZ.below.size,cf,e,gg⟩
       simp only[a']at aj;rw[ba tT]at aj;obtain⟨ax,ix,iR,aK⟩:=aZ.owned b aj;exact⟨ax,ix,iR,(kH.block b (aZ.owned.lt aj)).trans aK⟩
      have fa:∀x kM d,c9 (es++bX) x kM=some d->∃u,cf[x*cn+kM]?=some u/\b7 w1 a' (fun q o=>o=.tok t ((i,j)::(x,kM)::q)) d u:=by
       intro x kM d aE;rw[Bi]at aE;split at aE
       ·obtain⟨u,h1,U⟩:=hold x kM d aE;exact⟨u,h1,U.frame fun c q ak az=>⟨by rw[dr c ak];exact az,kH.block c ak⟩⟩
       rename_i aa;obtain⟨u,h1,rfl,U⟩:=DF _ _ _ aE;refine⟨u,?_,.v _ _ U⟩;rw[<-Az _ u h1]
       congr 1
       have:x=es.length+(x-es.length):=by omega
       rw[this,fA];simp only[Nat.add_sub_cancel_left];omega
      have hlen:(es++bX).length=es.length+bX.length:=jy;have qj:∀e∈es++bX,e.length=cn:=by
       intro e' he;rcases hD.1 he with h | h
       ·exact ud e' h
       exact mC.rows e' h
      have:=b7.row (w:=w1) (ω:=a') (fun q o=>o=.tok t ((i,j)::q)) cn (es++bX) w.heap.size 0 o3 cf e (0,0) (fun x j=>cf.getD (x*cn+j) undef) gg k5 (by omega) (by omega) qj
       (fun x j d aE=>by obtain⟨u,h1,_⟩:=fa x j d aE;rw[dG,h1];simp[ew,h1])
       (fun x j d aE=>by obtain⟨u,h1,U⟩:=fa x j d aE;have:cf.getD (x*cn+j) undef=u:=(by simp[ew,h1]);rw[this];exact U)
      rw[hlen]at this;exact this
     subst yu;have qi:=aA;cases aA with
     | nil _ _ a0=>
      simp only[ch,dG]at hJ gp;have fU:(Builtin.append_ #[h2,h2] ty #[.slice a0 0 0,.slice (some ⟨bc,ml,none⟩) bX.length qT]).run P w=
        .ok (.slice (some ⟨w.heap.size,0,none⟩) bX.length (grownCap w bX.length 0 e)) (w.drew.alloc (.cells (news.toArray++Builtin.zeroCells z.cells (grownCap w bX.length 0 e-bX.length)) e)):=by
       cases a0 with
       | none=>exact run_append_nil (P:=P) w h2 ty e hx z bH qb a6 ⟨bc,ml,none⟩ bX.length qT news mC.len nF DL (by omega) (by omega)
       | some b9=>
        have:=run_append_grow (P:=P) w h2 ty e hx z bH qb a6 b9 0 0 [] (by simp) (fun j v bF=>by simp at bF) ⟨bc,ml,none⟩ bX.length qT news mC.len nF (by omega) (by omega) (growslice_fits (by omega) (by simpa using hJ));simpa using this
      have nC:=grownCap_ge w bX.length 0 e;exact⟨_,_,fU,grown _ (news.toArray++Builtin.zeroCells z.cells (grownCap w bX.length 0 e-bX.length)) (.slice (some ⟨w.heap.size,0,none⟩) bX.length (grownCap w bX.length 0 e)) (grownCap w bX.length 0 e)
       (((gO.refl _ _).drew).alloc (ei _) _) (rE) (by simp) (by simpa using nC) (by
        simp only[vw,nZ,size_zeroCells,mC.len,pj,<-fA];exact hq _ (by omega))
       (fun fI j d aE=>by simp[c9]at aE) (fun x u aa=>by
        simp only[ch,Nat.zero_mul,dG];rw[kf,bi (by have:=(eW.1 aa).1;simpa using this)];simpa using aa) (fun e he=>by cases he)⟩
     | row R k es b off cap arr hB c0 us aj dT ak ai gq hu aE=>
      have h9:ω b=.tok t [(i,j)]:=dT;obtain⟨wh,tH,vq,iZ⟩:=aZ.owned b (by rw[h9];simp);rw[aj]at iZ;simp only[aX,Obj.cells.injEq]at iZ;obtain⟨rfl,rfl,rfl⟩:=iZ;have vS:b<w.heap.size:=(jz.1 aj).1;by_cases wj:es.length+bX.length<=cap
      ·have hmul:(es.length+bX.length)*hx.size<=cap*hx.size:=hq _ wj;rw[fA]at hmul;have Ik:=mC.len;have eQ:off+es.length*hx.size+news.length<=arr.size:=by omega
       have fU:=Q' (P:=P) (ty:=ty) bH qb w b off es.length cap arr hB aj ⟨bc,ml,none⟩ bX.length qT news mC.len nF mC.one wj eQ;generalize ny:(arr.toList.take (off+es.length*hx.size)++news++arr.toList.drop (off+es.length*hx.size+news.length)).toArray=cf at fU;have hW:∀x:Nat,cf[x]?=if off+es.length*hx.size<=x/\x<off+es.length*hx.size+news.length then news[x-(off+es.length*hx.size)]? else arr[x]?:=by
        intro x;rw[<-ny,pP,Bg (by simpa using eQ)];simp
       have yv:cf.size=arr.size:=by rw[<-ny];simp;omega
       have jB:=setRow_heap w b arr cf hB (0,0) aj;have j9:∀c,c<w.heap.size->ω c≠.tok t [(i,j)]->(w.setRow b cf).heap[c]?=w.heap[c]?:=fun c _ ak=>setRow_other w b c cf fun e=>ak (by rw[e];exact h9)
       have lY:∀gx gy d u,b7 w ω (fun q o=>o=.tok t ((i,j)::(gx,gy)::q)) d u->b7 (w.setRow b cf) ω (fun q o=>o=.tok t ((i,j)::(gx,gy)::q)) d u:=by
        intro gx gy d u p9;refine p9.frame fun c q ak eg=>⟨eg,j9 c ak fun e=>?_⟩
        rw[e]at eg;simp at eg
       refine⟨_,_,fU,fin (w.setRow b cf) ω _ j9 (fun _ _=>rfl) HY (aZ.below.setRow wh cf) (fun c gf=>?_) (b7.XL qi aj jB yv (fun x aa=>by rw[hW,ba (by omega)]) (fun o e aU=>by rw[<-e];exact aU) (fun c p q ak az=>⟨az,j9 c ak fun e=>by rw[e]at az;simp at az⟩)) ?_⟩
       ·obtain⟨ax,ix,iR,aK⟩:=aZ.owned c gf;by_cases p8:c=b
        ·subst p8;exact⟨ax,cf,hB,jB⟩
        exact⟨ax,ix,iR,(setRow_other w b c cf p8).trans aK⟩
       have fa:∀x kM d,c9 (es++bX) x kM=some d->∃u,cf[off+x*hx.size+kM]?=some u/\b7 (w.setRow b cf) ω (fun q o=>o=.tok t ((i,j)::(x,kM)::q)) d u:=by
        intro x kM d eb;rw[Bi]at eb;split at eb
        ·rename_i aa;have Aw:=(s7 gq eb).2;refine⟨us x kM,?_,lY x kM d _ (aE x kM d eb)⟩;have:(x+1)*hx.size<=es.length*hx.size:=hq _ aa;rw[fA]at this;rw[hW,ba (by omega),hu x kM d eb]
        rename_i aa;obtain⟨u,h1,rfl,U⟩:=DF _ _ _ eb;have acj:=(eW.1 h1).1;have yx:x*hx.size=es.length*hx.size+(x-es.length)*hx.size:=by rw[<-fA];congr 1;omega
        refine⟨u,?_,.v _ _ U⟩;rw[hW,bi (by omega),<-h1]
        congr 1
        omega
       have hlen:(es++bX).length=es.length+bX.length:=jy;have qj:∀e∈es++bX,e.length=hx.size:=by
        intro e' he;rcases hD.1 he with h | h
        ·exact gq e' h
        exact mC.rows e' h
       have:=b7.row (w:=w.setRow b cf) (ω:=ω) (fun q o=>o=.tok t ((i,j)::q)) hx.size (es++bX) b off cap cf hB (0,0) (fun x j=>cf.getD (off+x*hx.size+j) undef) jB h9 (by omega) (by omega) qj
        (fun x j d aE=>by obtain⟨u,h1,_⟩:=fa x j d aE;rw[h1];simp[ew,h1])
        (fun x j d aE=>by obtain⟨u,h1,U⟩:=fa x j d aE;have:cf.getD (off+x*hx.size+j) undef=u:=(by simp[ew,h1]);rw[this];exact U)
       rw[hlen]at this;exact this
      have hmul:es.length*hx.size<=cap*hx.size:=hq _ ak;have mz:((arr.toList.drop off).take (es.length*hx.size)).length=es.length*hx.size:=by simp;omega
      have fU:=run_append_grow (P:=P) w h2 ty e hx z bH qb a6 ⟨b,off,none⟩ es.length cap ((arr.toList.drop off).take (es.length*hx.size)) mz (fun j v bF=>by
       rw[qG,cell_of_row w b (off+j) arr hB (0,0) aj];rw[kX]at bF;split at bF
       ·rw[ky]at bF;simpa using bF
       cases bF) ⟨bc,ml,none⟩ bX.length qT news mC.len nF (by omega) (by omega) (growslice_fits (by omega) hJ)
      have nC:=grownCap_ge w (es.length+bX.length) cap e;exact⟨_,_,fU,grown _ (((arr.toList.drop off).take (es.length*hx.size)).toArray++news.toArray++Builtin.zeroCells z.cells (grownCap w (es.length+bX.length) cap e-(es.length+bX.length))) _ (grownCap w (es.length+bX.length) cap e)
       (((gO.refl _ _).drew).alloc (ei _) _) (rE) rfl nC (by
        simp only[vw,nZ,size_zeroCells,mC.len,pj,mz,<-fA];exact hq _ (by omega))
       (fun fI j d dP=>by
        obtain⟨t',eR⟩:=s7 gq dP;have:(fI+1)*hx.size<=es.length*hx.size:=hq _ t';rw[fA]at this;refine⟨us fI j,?_,aE fI j d dP⟩;rw[kf,bi (by simp only[vw,nZ,mz];omega),kf,bi (by simp only[nZ,mz];omega)];rw[pP,kX,bi (by omega),ky,<-hu fI j d dP];simp only[nY]
        congr 1
        omega)
       (fun x u aa=>by
        have pg:=(eW.1 aa).1;rw[kf,bi (by simp only[vw,nZ,mz];omega),kf,ba (by simp only[nZ,mz];omega)];simp only[nZ,mz,pP];rw[<-aa]
        congr 1
        omega) gq⟩
    cases h
   cases h
  cases h
 cases h
theorem cI.ZQ{P:Program}{w0:eK}{st bE:aF}{a:Act}{w:World}{ω:Own}{τ:Nat->Nat×Value}{d:Nat}{h2 ty:TypeId}{t j k:Nat}{es:List (List D)}{x y:Operand}{ans cu:List ci}{obs:List Prop}
  (aZ:cI w0 st a w ω τ) (hp:Sat w ω τ (.aO t i j k es .here) (a.eval x)) (h:K1 P st d h2 t i j k es y ans=some (bE,cu,obs)) (aU:cO obs):
  ∃z aS,(Builtin.append_ #[h2,h2] ty #[a.eval x,a.eval y]).run P w=.ok z aS/\Rel w0 bE (a.put (some d) z) aS:=by
 unfold K1 at h;split at h
 ·rename_i e cn kT esT jm fr he abV;split at h
  ·rename_i inf bX vJ yG hi jF;split at h
   ·rename_i z a6;split at h
    ·rename_i ak;simp only[aX,bJ]at h;obtain⟨rfl,rfl,rfl⟩:=h;obtain⟨hJ,gp,yk,H5,Iq⟩:=aU;obtain⟨pd,abG⟩:=Iq.append;refine aZ.tG (p:=.one (.aO t i j k (es++bX) .lU)) (ans:=.el jm::fr) (cu:=vJ) (esT:=esT) (kT:=kT) hp ?_ (obs:=((es.length+bX.length)*inf.bytes<=140737488355328)::(es.length+bX.length<=9223372036854775807)::(esT[i]?=some jm)::(jm[j]?=some (.J k es))::yG) ⟨hJ,gp,yk,H5,abG⟩ (aZ.root abV) (EY pd);unfold Sx.tG;simp only[he,hi,jF,a6];rw[bi ak]
    cases h
   cases h
  cases h
 cases h
