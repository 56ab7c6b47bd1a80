import Derived.Test.YtdchjefneblpgaaGreatR11
set_option linter.unusedVariables false
set_option linter.unusedSimpArgs false
namespace Go.Sx
open Go.RowKit
def EK(P:Program)(st:aG)(d:Nat)(elem:TypeId)(r:List b6):Stepped:=
 match P.info? elem with
 | some i=>match i.zero with
  | some z=>if d<df then some (⟨(st.ke d []).env.set d (.one (.fB d (z.cells.toList.map .v))),(st.ke d []).boxes⟩,r,[]) else none
  | none=>none
 | none=>none
variable{w0:eN}{st br:aG}{a:Act}{w:World}{ω:Own}{τ:Nat->Nat×Value}{d:Nat}{ans cj:List b6}{obs:List Prop}
theorem cE.X8{P:Program}{elem:TypeId}(aT:cE w0 st a w ω τ)
  (h:EK P st d elem ans=some (br,cj,obs)):
  ∃z aJ,(Instr.alloc elem true (.tuple #[])).run P w=.ok z aJ/\Rel w0 br (a.put (some d) z) aJ:=by
 unfold EK at h;split at h
 ·rename_i i hi;split at h
  ·rename_i z aW;split at h
   ·rename_i aB;simp only[aO,bx]at h;obtain⟨rfl,_,_⟩:=h;have h1:=aT.ke d aB [] (k:=0) (cap:=0) (es:=[]) (arr:=z.cells) (ty:=elem) ((ho.refl _ _).alloc (dN _) (.cells z.cells elem)) (ov _ _) (dN _) (by simp) (by simp)
     (by intro i j rW af;simp[c5]at af)
    refine⟨.pointer (some ⟨w.heap.size,0,none⟩),w.alloc (.cells z.cells elem),by simp[Instr.alloc,zeroValue,typeInfo,hi,aW,newVar,newRow],_,_,h1.1.put (p:=.one (.fB d (z.cells.toList.map .v))) ?_⟩;refine⟨w.heap.size,elem,z.cells,rfl,by simp[qe],ov _ _,by simp,fun j c af=>?_⟩;rw[dG,b2]at af;obtain⟨u,hu,rfl⟩:=af;exact⟨u,by simpa using hu,rfl⟩
   cases h
  cases h
 cases h
def fz(t:Nat):Tag->Option Tag
 | .free=>some .free
 | .own s=>if s=t then none else some (.own s)
 | .ro s=>if s=t then none else some (.ro s)
variable{o:c0}
theorem EL{t:Nat}{g ev:Tag}{q:List (Nat×Nat)}(h:fz t g=some ev)(az:g.R q o):ev=g/\∀dB,o≠.tok t dB:=by
 cases g with
 | free=>simp only[fz,aO]at h;subst h;simp only[Tag.R]at az;subst az;exact⟨rfl,fun dB e=>by cases e⟩
 | own s=>
  simp only[fz]at h;split at h
  ·cases h
  rename_i ai;simp only[aO]at h;subst h;simp only[Tag.R]at az;subst az;exact⟨rfl,fun dB e=>by simp only[c0.tok.injEq]at e;exact ai e.1⟩
 | ro s=>
  simp only[fz]at h;split at h
  ·cases h
  rename_i ai;simp only[aO]at h;subst h;simp only[Tag.R]at az;refine⟨rfl,fun dB e=>?_⟩;subst e;rcases az with az | ⟨jK,az⟩
  ·cases az
  simp only[c0.tok.injEq]at az;exact ai az.1.symm
variable{s:Nat}
theorem Li{x:Value}(this:a.tmps[s]?=some x):a.put (some s) x=a:=by
 simp only[Act.put];have:a.tmps.setIfInBounds s x=a.tmps:=by
  apply Array.ext
  ·simp
  intro i h1 U;rw[Array.getElem_setIfInBounds];split
  ·rename_i hi;subst hi;rw[hS U]at this;exact (eQ this).symm
  rfl
 rw[this]
def aD.nI:aD->e9
 | .v x=>.v x
 | .cg c=>.v (.bool c)
 | .J t k es=>.J t k es
 | _=>.cu
def JS(p:aI):Option (List e9):=p.leaves.map (·.map aD.nI)
theorem aD.Qg{l:aD}{y:Value}(h:Sat w ω τ l y):rQ w ω τ l.nI y:=by
 cases l<;>first | exact h | exact trivial
def e9.leaf:e9->aD
 | .cu=>.cu
 | .v x=>.v x
 | .J t k es=>.J t k es
theorem e9.dQ{τ:Nat->Nat×Value}{c:e9}{y:Value}(h:rQ w ω τ c y):Sat w ω τ c.leaf y:=by
 cases c<;>exact h
def EM(P:Program)(st:aG)(ty:TypeId)(s:Nat)(q:aI)(ans:List b6):Stepped:=
 match (st.env.getD s .cu).leaf,JS q,P.info? ty with
 | some (.fB t vs),some cs,some i=>
  if cs.length=i.size/\cs.length<=vs.length then
   let st2:=st.map (aD.cr (fz t) fun _=>true)
   some (⟨st2.env.set s (.one (.fB t ((cs++vs.drop cs.length).map (e9.cr (fz t))))),st2.boxes⟩,ans,[])
  else none
 | _,_,_=>none
theorem cE.avk{P:Program}{ty:TypeId}{q:aI}{v:Value}
  (aT:cE w0 st a w ω τ) (aA:cP (Sat w ω τ) q v) (h:EM P st ty s q ans=some (br,cj,obs)):
  ∃aJ,(Instr.storeAt ty (a.eval (.tmp s)) v).run P w=.ok () aJ/\Rel w0 br a aJ:=by
 unfold EM at h;split at h
 ·rename_i t vs cs i e1 e2 cJ;split at h
  ·rename_i af;obtain⟨c1,c2⟩:=af;simp only[aO,bx]at h;obtain⟨rfl,_,_⟩:=h;unfold JS at e2;rw[b2]at e2;obtain⟨ls,e2,rfl⟩:=e2;obtain⟨wA,q6⟩:=aI.yZ e2 aA;have c7:v.cells.size=ls.length:=wA.1;rw[bk]at c1 c2;have ix:st.env[s]?=some (.one (.fB t vs)):=by
    rw[iF]at e1;cases e:st.env[s]? with
    | none=>rw[e]at e1;simp[aI.leaf]at e1
    | some p=>
     rw[e]at e1;simp only[jx]at e1;cases p with
     | gv as=>cases e1
     | bd x=>
      cases x with
      | agg ls=>cases e1
      | one l=>simp only[aI.leaf,aO]at e1;rw[e1]
   obtain⟨y,bn,eV⟩:=aT.env s _ ix;obtain⟨b,h6,arr,rfl,ao,yJ,P0,rb⟩:=eV;have r5:a.eval (.tmp s)=ptrTo b:=by simp[Act.eval,eu,bn]
   have fk:=run_storeCells_at P b 0 h6 v.cells.toList 0 arr w yJ (by simp;omega) q6;obtain⟨b5,oh⟩:∃b5,b5=(arr.toList.take (0+0)++v.cells.toList++arr.toList.drop (0+0+v.cells.toList.length)).toArray:=⟨_,rfl⟩
   rw[<-oh]at fk;have Pb:b5=(v.cells.toList++arr.toList.drop v.cells.size).toArray:=by rw[oh];simp
   refine⟨w.setRow b b5,?_,?_⟩
   ·rw[r5];simp only[ptrTo,Instr.storeAt,Instr.sureAddr,Sem.run_bind,Sem.run_pure,Result.andThen_ok,storeVar,sizeOf,typeInfo,run_program,cJ];rw[a6 (by simp;omega)];exact fk
   have kq:=setRow_heap w b arr b5 h6 (0,0) yJ;have bj:mC w ω τ (w.setRow b b5) ω τ (fz t) (fun _=>true):=by
    refine⟨?_,?_,fun id c _ af=>af,rfl,fun _ _=>rfl⟩
    ·intro g ev c q ar _ aA;obtain⟨rfl,uT⟩:=EL ar aA;exact⟨aA,setRow_other w b c _ fun e=>uT [] (by rw[e];exact ao)⟩
    intro g ev y ar bn;cases g with
    | free=>simp only[fz,aO]at ar;subst ar;trivial
    | own x=>
     simp only[fz]at ar;split at ar
     ·cases ar
     simp only[aO]at ar;subst ar;exact bn
    | ro x=>
     simp only[fz]at ar;split at ar
     ·cases ar
     simp only[aO]at ar;subst ar;trivial
   have h1:cE w0 (st.map (aD.cr (fz t) fun _=>true)) a (w.setRow b b5) ω τ:=by
    refine aT.dh _ bj.sat (aT.below.setRow (aT.owned b (by rw[ao];simp)).1 _) ?_ (fun id c af=>⟨af,setRow_other w b c _ fun e=>by rw[e,ao]at af;cases af⟩) (fun id c af=>af) (fun _ _=>rfl);intro c af;obtain⟨h1,jb,jv,U⟩:=aT.owned c af;by_cases e:c=b
    ·subst e;exact⟨h1,_,h6,kq⟩
    exact⟨h1,jb,jv,(setRow_other w b c _ e).trans U⟩
   have Pe:b5.size=(ls.map aD.nI++vs.drop (ls.map aD.nI).length).length/\∀(j:Nat) (c:e9),(ls.map aD.nI++vs.drop (ls.map aD.nI).length)[j]?=some c->∃u,b5[j]?=some u/\rQ w ω τ c u:=by
    refine⟨by rw[Pb];simp;omega,fun j c af=>?_⟩;rw[Pb,nY];by_cases aP:j<ls.length
    ·rw[x9 (by simpa using aP),dG,b2]at af;obtain⟨l,aj,rfl⟩:=af;obtain⟨u,fO,fb⟩:=wA.2 j l aj;exact⟨u,by rw[x9 (by simp;omega)];simpa using fO,aD.Qg fb⟩
    rw[vT (by simpa using aP),bk,gU]at af;obtain⟨u,fO,fb⟩:=rb _ c af;refine⟨u,?_,fb⟩;rw[vT (by simp;omega),gU,iX,<-fO]
    congr 1
    simp only[vX];omega
   have IV:=ER bj.nI Pe.1 Pe.2;have U:=h1.put (d:=s) (p:=.one (.fB t ((ls.map aD.nI++vs.drop (ls.map aD.nI).length).map (e9.cr (fz t))))) (v:=ptrTo b) ⟨b,h6,b5,rfl,ao,kq,IV⟩;rw[Li bn]at U;exact⟨ω,τ,U⟩
  cases h
 cases h
def JV(st:aG)(d:Nat):Option aG:=
 match st.env.getD d .cu with
 | .bd (.one (.fB t vs))=>
  if d<df then some ⟨(st.env.map (aI.map (aD.cr (fz t) (kB d)))).set d (.one (.ptr d 0)),(d,vs.map fun c=>aD.cr (fz t) (kB d) c.leaf)::(qb d st.boxes).map fun x=>(x.1,x.2.map (aD.cr (fz t) (kB d)))⟩ else none
 | _=>none
theorem anj(h:Rel w0 st a w)(aK:JV st d=some br):Rel w0 br a w:=by
 obtain⟨ω,τ,h⟩:=h;unfold JV at aK;split at aK
 ·rename_i t vs he;split at aK
  case isFalse=>cases aK
  rename_i tr;simp only[aO]at aK;subst aK;have ix:st.env[d]?=some (.one (.fB t vs)):=by
   rw[iF]at he;cases e:st.env[d]? with
   | none=>rw[e]at he;cases he
   | some p=>rw[e]at he;simp only[jx]at he;rw[he]
  obtain⟨v,tA,tB⟩:=h.env d _ ix;obtain⟨b,ty,arr,rfl,ao,yJ,P0,rb⟩:=tB
  let a1:Own:=fun c=>if c=b then .box d else match ω c with | .box i=>if i=d then .bB else .box i | o=>o
  have lX:a1 b=.box d:=by simp[a1]
  have hA:∀c,c≠b->a1 c=(match ω c with | .box i=>if i=d then .bB else .box i | o=>o):=by
   intro c af;simp only[a1];rw[a6 af]
  have bj:mC w ω τ w a1 τ (fz t) (kB d):=by
   refine⟨?_,?_,?_,rfl,fun _ _=>rfl⟩
   ·intro g ev c q ar _ aA;obtain⟨rfl,uT⟩:=EL ar aA;have gD:c≠b:=fun e=>uT [] (by rw[e];exact ao)
    refine⟨?_,rfl⟩;rw[hA c gD];cases ev with
    | free=>simp only[Tag.R]at aA ⊢;rw[aA]
    | own s=>simp only[Tag.R]at aA ⊢;rw[aA]
    | ro s=>
     simp only[Tag.R]at aA ⊢;rcases aA with aA | ⟨dB,aA⟩
     ·rw[aA];exact .inl rfl
     rw[aA];exact .inr ⟨dB,rfl⟩
   ·intro g ev y ar bn;cases g with
    | free=>simp only[fz,aO]at ar;subst ar;trivial
    | own s=>
     simp only[fz]at ar;split at ar
     ·cases ar
     simp only[aO]at ar;subst ar;exact bn
    | ro s=>
     simp only[fz]at ar;split at ar
     ·cases ar
     simp only[aO]at ar;subst ar;trivial
   intro i c hp af;have gD:c≠b:=fun e=>by rw[e,ao]at af;cases af
   rw[hA c gD,af];simp only[kB,b']at hp;simp[hp]
  have q8:oP w0 w a1:=by
   intro c af;by_cases e:c=b
   ·subst e;exact h.owned c (by rw[ao];simp)
   rw[hA c e]at af;exact h.owned c (fun e'=>by rw[e']at af;exact af rfl)
  have key:=h.HY (bs:=(d,vs.map fun c=>aD.cr (fz t) (kB d) c.leaf)::(qb d st.boxes).map fun x=>(x.1,x.2.map (aD.cr (fz t) (kB d)))) bj h.below q8 ?_ (fun i c hi af=>by
   by_cases aK:c=b
   ·subst aK;rw[lX]at af;simp only[c0.box.injEq]at af;omega
   rw[hA c aK]at af;cases e:ω c with
   | bB=>simp[e]at af
   | tok t q=>simp[e]at af
   | box j=>
    simp only[e]at af;split at af
    ·cases af
    exact af)
  ·have:=key.put (d:=d) (p:=.one (.ptr d 0)) (v:=ptrTo b) ⟨b,lX,rfl⟩;rw[Li tA]at this;exact⟨a1,τ,this⟩
  intro i fr aj;simp only[dE]at aj;split at aj
  ·rename_i hi;subst hi;have e:=eQ aj;subst e;refine⟨b,arr,ty,lX,?_,yJ,by simpa using P0,fun j l aP=>?_⟩
   ·intro c3 di;by_cases aK:c3=b
    ·exact aK
    rw[hA c3 aK]at di;cases e:ω c3 with
    | bB=>simp[e]at di
    | tok t q=>simp[e]at di
    | box j=>
     simp only[e]at di;split at di
     ·cases di
     rename_i cf;simp only[c0.box.injEq]at di;exact absurd di cf
   rw[dG,b2]at aP;obtain⟨c,af,rfl⟩:=aP;obtain⟨u,fO,fb⟩:=rb j c af;exact⟨u,fO,bj.sat _ _ (e9.dQ fb)⟩
  rename_i hi;rw[tO,b2]at aj;obtain⟨kd,bl,rfl⟩:=aj;have cf:i≠d:=fun e=>hi e.symm
  rw[zj cf]at bl;obtain⟨c,b5,rI,af,hu,bC,eV⟩:=h.boxes i kd bl;refine⟨c,b5,rI,bj.box i c (by simp[kB,cf]) af,?_,bC,eV.map bj.sat⟩;intro c3 di;by_cases aK:c3=b
  ·subst aK;rw[lX]at di;simp only[c0.box.injEq]at di;exact absurd di.symm cf
  rw[hA c3 aK]at di;refine hu c3 ?_;cases e:ω c3 with
  | bB=>simp[e]at di
  | tok t q=>simp[e]at di
  | box j=>
   simp only[e]at di;split at di
   ·cases di
   exact di
 cases aK
def HL(st:aG)(d:Nat):Option aG:=
 match st.env.getD d .cu,dE d st.boxes with
 | .bd (.one (.ptr dK 0)),some ls=>
  if dK=d/\d<df then some ⟨(st.env.map (aI.map (aD.cr (fz d) (kB d)))).set d (.one (.fB d ((ls.map aD.nI).map (e9.cr (fz d))))),(qb d st.boxes).map fun x=>(x.1,x.2.map (aD.cr (fz d) (kB d)))⟩ else none
 | _,_=>none
theorem ank(h:Rel w0 st a w)(aK:HL st d=some br):Rel w0 br a w:=by
 obtain⟨ω,τ,h⟩:=h;unfold HL at aK;split at aK
 ·rename_i dK ls he cv;split at aK
  case isFalse=>cases aK
  rename_i tr;obtain⟨rfl,tr⟩:=tr;simp only[aO]at aK;subst aK;have ix:st.env[dK]?=some (.one (.ptr dK 0)):=by
   rw[iF]at he;cases e:st.env[dK]? with
   | none=>rw[e]at he;cases he
   | some p=>rw[e]at he;simp only[jx]at he;rw[he]
  obtain⟨v,tA,tB⟩:=h.env dK _ ix;obtain⟨ck,ic,rfl⟩:=tB;obtain⟨b,arr,ty,ao,YQ,yJ,wA⟩:=h.boxes dK ls cv;have tj:ck=b:=YQ ck ic;subst tj
  let a1:Own:=fun c=>if c=ck then .tok dK [] else match ω c with | .tok s q=>if s=dK then .bB else .tok s q | o=>o
  have lX:a1 ck=.tok dK []:=by simp[a1]
  have hA:∀c,c≠ck->a1 c=(match ω c with | .tok s q=>if s=dK then .bB else .tok s q | o=>o):=by
   intro c af;simp only[a1];rw[a6 af]
  have bj:mC w ω τ w a1 τ (fz dK) (kB dK):=by
   refine⟨?_,?_,?_,rfl,fun _ _=>rfl⟩
   ·intro g ev c q ar _ aA;obtain⟨rfl,uT⟩:=EL ar aA;have gD:c≠ck:=fun e=>by
     rw[e,ao]at aA;cases ev with
     | free=>cases aA
     | own s=>cases aA
     | ro s=>
      rcases aA with aA | ⟨dB,aA⟩
      ·cases aA
      cases aA
    refine⟨?_,rfl⟩;rw[hA c gD];cases ev with
    | free=>simp only[Tag.R]at aA ⊢;rw[aA]
    | own s=>
     simp only[Tag.R]at aA ⊢;rw[aA];simp only;rw[a6];rintro rfl;exact uT _ aA
    | ro s=>
     simp only[Tag.R]at aA ⊢;rcases aA with aA | ⟨dB,aA⟩
     ·rw[aA];exact .inl rfl
     rw[aA];simp only;rw[a6]
     ·exact .inr ⟨dB,rfl⟩
     rintro rfl;exact uT _ aA
   ·intro g ev y ar bn;cases g with
    | free=>simp only[fz,aO]at ar;subst ar;trivial
    | own s=>
     simp only[fz]at ar;split at ar
     ·cases ar
     simp only[aO]at ar;subst ar;exact bn
    | ro s=>
     simp only[fz]at ar;split at ar
     ·cases ar
     simp only[aO]at ar;subst ar;trivial
   intro i c hp af;simp only[kB,b']at hp;have gD:c≠ck:=fun e=>by rw[e,ao]at af;simp only[c0.box.injEq]at af;exact hp af.symm
   rw[hA c gD,af]
  have q8:oP w0 w a1:=by
   intro c af;by_cases e:c=ck
   ·subst e;exact h.owned c (by rw[ao];simp)
   rw[hA c e]at af;exact h.owned c (fun e'=>by rw[e']at af;exact af rfl)
  have Pc:∀i c,a1 c=.box i->ω c=.box i/\c≠ck:=by
   intro i c af;by_cases aK:c=ck
   ·subst aK;rw[lX]at af;cases af
   rw[hA c aK]at af;cases e:ω c with
   | bB=>simp[e]at af
   | box j=>simp only[e]at af;exact⟨af,aK⟩
   | tok t q=>
    simp only[e]at af;split at af<;>cases af
  have key:=h.HY (bs:=(qb dK st.boxes).map fun x=>(x.1,x.2.map (aD.cr (fz dK) (kB dK)))) bj h.below q8 ?_ (fun i c _ af=>(Pc i c af).1)
  ·have:=key.put (d:=dK) (p:=.one (.fB dK ((ls.map aD.nI).map (e9.cr (fz dK))))) (v:=ptrTo ck) ⟨ck,ty,arr,rfl,lX,yJ,ER bj.nI (by rw[wA.1];simp) (fun j c af=>by
    rw[dG,b2]at af;obtain⟨l,aj,rfl⟩:=af;obtain⟨u,fO,fb⟩:=wA.2 j l aj;exact⟨u,fO,aD.Qg fb⟩)⟩
   rw[Li (show a.tmps[dK]?=some (ptrTo ck) from tA)]at this;exact⟨a1,τ,this⟩
  intro i fr aj;rw[tO,b2]at aj;obtain⟨kd,bl,rfl⟩:=aj;have cf:i≠dK:=fun e=>by rw[e,Ki]at bl;cases bl
  rw[zj cf]at bl;obtain⟨c,b5,rI,af,hu,bC,eV⟩:=h.boxes i kd bl;exact⟨c,b5,rI,bj.box i c (by simp[kB,cf]) af,fun c3 di=>hu c3 (Pc i c3 di).1,bC,eV.map bj.sat⟩
 cases aK
def BK:List Nat->aG->Option aG
 | [],st=>some st
 | d::ds,st=>(HL st d).bind (BK ds)
theorem RI:∀{ds:List Nat} {st br:aG},Rel w0 st a w->BK ds st=some br->Rel w0 br a w
 | [],st,br,h,aK=>by simp only[BK,aO]at aK;subst aK;exact h
 | d::ds,st,br,h,aK=>by
  simp only[BK,nf]at aK;obtain⟨st1,h1,U⟩:=aK;exact RI (ank h h1) U
def BL:List Nat->aG->Option aG
 | [],st=>some st
 | d::ds,st=>(JV st d).bind (BL ds)
theorem RJ:∀{ds:List Nat} {st br:aG},Rel w0 st a w->BL ds st=some br->Rel w0 br a w
 | [],st,br,h,aK=>by simp only[BL,aO]at aK;subst aK;exact h
 | d::ds,st,br,h,aK=>by
  simp only[BL,nf]at aK;obtain⟨st1,h1,U⟩:=aK;exact RJ (anj h h1) U
def lm(s n:Nat):Tag->Option Tag
 | .own x=>if x=s then some (.ro n) else if x=n then none else some (.own x)
 | .ro x=>if x=s then some (.ro n) else if x=n then none else some (.ro x)
 | .free=>some .free
def kx(s n l:Nat):c0->c0
 | .tok x q=>if x=s then (match q with | []=>.tok n [] | (i,j)::r=>if i<l then .bB else .tok n ((i-l,j)::r)) else if x=n then .bB else .tok x q
 | o=>o
variable{l n:Nat}
theorem Lj(h:kx s n l o≠.bB):o≠.bB:=by rintro rfl;exact h rfl
theorem vk{id:Nat}:kx s n l o=.box id<->o=.box id:=by
 cases o with
 | bB=>simp[kx]
 | box i=>simp[kx]
 | tok x q=>
  simp only[kx];split
  ·split
   ·simp
   ·split<;>simp
  ·split<;>simp
theorem RK{q:List (Nat×Nat)}:kx s n l (.tok s q)=.bB\/∃dB,kx s n l (.tok s q)=.tok n dB:=by
 simp only[kx,fL];split
 ·exact .inr ⟨_,rfl⟩
 split
 ·exact .inl rfl
 exact .inr ⟨_,rfl⟩
theorem Lk{k:Nat}{z:Value}(iM:n<df):mC w ω τ w (fun b=>kx s n l (ω b)) (gQ τ n k z) (lm s n) (fun _=>true):=by
 refine⟨?_,?_,?_,rfl,fun t bq=>by simp only[gQ];rw[a6 (by omega)]⟩
 ·intro g ev b q ar _ aA;refine⟨?_,rfl⟩;cases g with
  | free=>simp only[lm,aO]at ar;subst ar;simp only[Tag.R]at aA ⊢;rw[aA];rfl
  | own x=>
   simp only[lm]at ar;simp only[Tag.R]at aA;split at ar
   ·rename_i ai;simp only[aO]at ar;subst ar;subst ai;simp only[Tag.R,aA];exact RK
   rename_i ai;split at ar
   ·cases ar
   rename_i aK;simp only[aO]at ar;subst ar;simp only[Tag.R,aA,kx,a6 ai,a6 aK]
  | ro x=>
   simp only[lm]at ar;simp only[Tag.R]at aA;split at ar
   ·rename_i ai;simp only[aO]at ar;subst ar;subst ai;rcases aA with aA | ⟨dB,aA⟩
    ·rw[aA];exact .inl rfl
    rw[aA];exact RK
   rename_i ai;split at ar
   ·cases ar
   rename_i aK;simp only[aO]at ar;subst ar;rcases aA with aA | ⟨dB,aA⟩
   ·rw[aA];exact .inl rfl
   rw[aA];simp only[kx,a6 ai,a6 aK];exact .inr ⟨dB,rfl⟩
 ·intro g ev y ar bn;cases g with
  | free=>simp only[lm,aO]at ar;subst ar;trivial
  | own x=>
   simp only[lm]at ar;split at ar
   ·simp only[aO]at ar;subst ar;trivial
   rename_i ai;split at ar
   ·cases ar
   rename_i aK;simp only[aO]at ar;subst ar;simp only[Tag.eg,gQ,a6 aK]at bn ⊢;exact bn
  | ro x=>
   simp only[lm]at ar;split at ar
   ·simp only[aO]at ar;subst ar;trivial
   split at ar
   ·cases ar
   simp only[aO]at ar;subst ar;trivial
 intro id b _ ao;exact vk.2 ao
def pF(s d:Nat):Nat:=if s<df then s else d
def Ae(P:Program)(st:aG)(d:Nat)(t:TypeId)(p:aI)(cW hi jI:Option Operand)(ans:List b6):Stepped:=
 match rz P t,p.leaf,jI with
 | some (_,k),some (.J (.own s) cb es),none=>
  if k=cb/\pF s d<df then
   match mS st cW,mS st hi with
   | some l,some h=>
    let st2:=st.map (aD.cr (lm s (pF s d)) fun _=>true)
    some (⟨st2.env.set d (.one (.J (.own (pF s d)) k ((es.drop (l.getD 0).toNat).take ((h.getD es.length).toNat-(l.getD 0).toNat)))),st2.boxes⟩,ans,[0<=l.getD 0,l.getD 0<=h.getD es.length,h.getD es.length<=es.length])
   | _,_=>none
  else none
 | _,_,_=>none
theorem cE.Ae{P:Program}{t:TypeId}{p:aI}{v:Value}{cW hi jI:Option Operand}
  (aT:cE w0 st a w ω τ) (hp:cP (Sat w ω τ) p v) (h:Ae P st d t p cW hi jI ans=some (br,cj,obs)) (aN:c8 obs):
  ∃z,(Instr.sliceAt t v (cW.map a.eval) (hi.map a.eval) (jI.map a.eval)).run P w=.ok z w/\Rel w0 br (a.put (some d) z) w:=by
 unfold Go.Sx.Ae at h;split at h
 ·rename_i e k s cb es e1 e2;split at h
  ·rename_i hk;obtain⟨rfl,ai⟩:=hk;split at h
   ·rename_i l bC cJ e4;simp only[aO,bx]at h;obtain⟨rfl,_,rfl⟩:=h;obtain⟨hu,i,lV,aW⟩:=w5 e1;obtain⟨az,_⟩:=aI.dQ e2 hp;obtain⟨dR,dH,gF,_⟩:=aN;have ax:=B8 aT cJ;have aF:=B8 aT e4;have lW:(cW.map a.eval=none/\l.getD 0=0)\/∃k,cW.map a.eval=some (.int k (l.getD 0)):=by
     rcases ax with⟨h,rfl⟩ | ⟨k,n,h,rfl⟩
     ·exact .inl ⟨h,rfl⟩
     exact .inr ⟨k,h⟩
    have r7:(hi.map a.eval=none/\bC.getD es.length=es.length)\/∃k,hi.map a.eval=some (.int k (bC.getD es.length)):=by
     rcases aF with⟨h,rfl⟩ | ⟨k,n,h,rfl⟩
     ·exact .inl ⟨h,rfl⟩
     exact .inr ⟨k,h⟩
    have key:∀(L m:Nat) (z:Value),L<=m->bX w (fun b=>kx s (pF s d) L (ω b)) (Tag.own (pF s d)).R (.J k ((es.drop L).take (m-L))) z->
      Rel w0 ⟨(st.map (aD.cr (lm s (pF s d)) fun _=>true)).env.set d (.one (.J (.own (pF s d)) k ((es.drop L).take (m-L)))),(st.map (aD.cr (lm s (pF s d)) fun _=>true)).boxes⟩ (a.put (some d) z) w:=by
     intro L m z _ Ej;have h1:cE w0 (st.map (aD.cr (lm s (pF s d)) fun _=>true)) a w (fun b=>kx s (pF s d) L (ω b)) (gQ τ (pF s d) k z):=
      aT.dh _ (Lk (by omega)).sat aT.below (fun b ao=>aT.owned b (Lj ao)) (fun id b ao=>⟨vk.2 ao,rfl⟩) (fun id b ao=>vk.1 ao)
       (fun t bq=>by simp only[gQ];rw[a6 (by omega)])
     exact⟨_,_,h1.put (p:=.one (.J (.own (pF s d)) k ((es.drop L).take (m-L)))) ⟨Ej,by simp[Tag.eg,gQ]⟩⟩
    cases az with
    | nil _ _ a0=>
     simp only[bY] at*;have cc:l.getD 0=0:=by omega
     have HR:bC.getD ((0:Nat):Int)=0:=by omega
     refine⟨.slice a0 0 0,?_,?_⟩
     ·simp only[Instr.sliceAt,Sem.run_bind,run_underlying hu,Result.andThen_ok,Instr.slice,Option.map_none];rw[B7 lW r7 dR dH gF];have HS:bC.getD 0=0:=by simpa using HR
      simp[sizeOf,typeInfo,lV,cc,HS]
     refine key _ _ _ (by omega) ?_;simp only[List.drop_nil,List.take_nil];exact .nil _ _ _
    | row R k es b off cap arr ty cR us ao ed af c7 hk ks aB=>
     refine⟨sliced (some ⟨b,off,none⟩) (l.getD 0).toNat (bC.getD es.length).toNat cap k,?_,?_⟩
     ·simp only[Instr.sliceAt,Sem.run_bind,run_underlying hu,Result.andThen_ok,Instr.slice,Option.map_none];rw[B7 lW r7 dR dH (by omega)];simp[sizeOf,typeInfo,lV,aW,sliced]
     refine key _ _ _ (by omega) ?_;have:=bX.sub (.row _ k es b off cap arr ty cR us ao ed af c7 hk ks aB) (l:=(l.getD 0).toNat) (m:=(bC.getD es.length).toNat) (by omega) (by omega)
      (i':=fun q o=>match q with | []=>o=.tok s [] | (i,j)::r=>o=.tok s ((i+(l.getD 0).toNat,j)::r)) (fun o h=>h) (fun i j q o ZH h=>by
       simp only[Tag.R]at h;simp only[Nat.sub_add_cancel ZH];exact h)
     refine this.frame fun c q _ aA=>⟨?_,rfl⟩
     simp only[Tag.R];cases q with
     | nil=>simp only at aA;rw[aA];simp[kx]
     | cons x r=>
      obtain⟨i,j⟩:=x;simp only at aA;rw[aA];have cz:¬(i+(l.getD 0).toNat<(l.getD 0).toNat):=by omega
      simp only[kx,fL,a6 cz,Nat.add_sub_cancel]
   cases h
  cases h
 cases h
end Go.Sx
namespace Go.Sx
open Go.RowKit
def laid(arr:Array Value)(o:Nat)(cs:List Value):Array Value:=(arr.toList.take o++cs++arr.toList.drop (o+cs.length)).toArray
theorem rj{arr:Array Value}{o:Nat}{cs:List Value}(h:o+cs.length<=arr.size):(laid arr o cs).size=arr.size:=by
 simp[laid];omega
theorem mU{arr:Array Value}{o:Nat}{cs:List Value}(h:o+cs.length<=arr.size)(x:Nat):
  (laid arr o cs)[x]?=if o<=x/\x<o+cs.length then cs[x-o]? else arr[x]?:=by
 simp only[laid,nY,pL];have aj:(arr.toList.take o).length=o:=by simp;omega
 split
 ·rename_i aa;rw[vT (by omega),x9 (by omega),aj]
 rename_i aa;by_cases h1:x<o
 ·rw[x9 (by omega),hj,aZ h1,iX]
 rw[vT (by omega),vT (by omega),aj,gU,iX]
 congr 1
 omega
theorem EN{P:Program}(w:World)(dr bp ty elem:TypeId)(k b o DS Yi:Nat)(arr:Array Value)(tb:TypeId)(a:Addr)(CP V':Nat)(cs:List Value)
  (hu:P.underlying dr=some (.slice elem)) (ai:(P.info? elem).map (·.size)=some k) (ao:w.heap[b]?=some (.cells arr tb (0,0))) (aK:cs.length=Nat.min CP DS*k)
  (jG:∀j v,cs[j]?=some v->w.cell? (a.add j)=some v) (dV:o+cs.length<=arr.size) (h1:∀v∈cs,v.oneCell'=true):
  (Builtin.copy_ #[dr,bp] ty #[.slice (some ⟨b,o,none⟩) DS Yi,.slice (some a) CP V']).run P w=.ok (goInt (Nat.min CP DS)) (w.setRow b (laid arr o cs)):=by
 have bg:=run_firstCells_some (P:=P) w k (Nat.min CP DS) a CP V' cs aK jG;have fk:=run_storeCells_at P b o tb cs 0 arr w ao (by simpa using dV) h1;simp only[nj]at fk;cases aA:P.info? elem with
 | none=>simp[aA]at ai
 | some i=>
  have hi:i.size=k:=by simpa[aA]using ai
  subst hi;simp[Builtin.copy_,run_underlying hu,Builtin.lenOf,sizeOf,typeInfo,aA,bg,fk,laid]
theorem RL{P:Program}(w:World)(t e ty:TypeId)(z:Value)(bq:P.underlying t=some (.slice e))(bz:(zeroValue e).run P w=.ok z w)(b o n c:Nat)(arr:Array Value)(tb:TypeId)
  (ao:w.heap[b]?=some (.cells arr tb (0,0))) (dV:o+n*z.cells.size<=arr.size) (h1:∀v∈z.cells.toList,v.oneCell'=true):
  ∃zs:List Value,zs.length=n*z.cells.size/\(∀m,m<n*z.cells.size->zs[m]?=z.cells[m % z.cells.size]?)/\(Builtin.clear_ #[t] ty #[.slice (some ⟨b,o,none⟩) n c]).run P w=.ok (.tuple #[]) (if n=0 then w else w.setRow b (laid arr o zs)):=by
 refine⟨(Builtin.zeroCells z.cells n).toList,by simp[Builtin.zeroCells],fun m hm=>?_,?_⟩
 ·have sb:0<z.cells.size:=by
   rcases Nat.eq_zero_or_pos z.cells.size with h | h
   ·rw[h]at hm;simp at hm
   exact h
  simp only[Builtin.zeroCells,Array.toList_map,Array.toList_range,dG,List.getElem?_range hm,n0];rw[getElem!_pos z.cells _ (Nat.mod_lt _ sb),hS (Nat.mod_lt _ sb)]
 have q6:∀v∈(Builtin.zeroCells z.cells n).toList,v.oneCell'=true:=by
  intro v nE;simp only[Builtin.zeroCells,Array.toList_map,jZ,Array.toList_range,List.mem_range]at nE;obtain⟨i,hi,rfl⟩:=nE;have sb:0<z.cells.size:=by
   rcases Nat.eq_zero_or_pos z.cells.size with h | h
   ·rw[h]at hi;simp at hi
   exact h
  refine h1 _ ?_;rw[getElem!_pos z.cells _ (Nat.mod_lt _ sb)];simp
 have fk:=run_storeCells_at P b o tb (Builtin.zeroCells z.cells n).toList 0 arr w ao (by simpa[Builtin.zeroCells]using dV) q6;simp only[nj]at fk;cases n with
 | zero=>simp[Builtin.clear_,run_underlying bq]
 | succ n=>simp[Builtin.clear_,run_underlying bq,bz,fk,laid]
def zt(t k:Nat)(cB:List (List D)):aD->aD
 | .J (.own s) cb es=>if s=t then .J (.own t) k cB else .J (.own s) cb es
 | l=>aD.cr (fz t) (fun _=>true) l
def EO(P:Program)(st:aG)(d:Nat)(t:TypeId)(x:Operand)(cW:Option Operand)(eM:TypeId)(ans:List b6):Stepped:=
 match rz P t,(st.bj x).leaf with
 | some (e,k),some (.J (.own hF) cb es)=>
  match P.info? e with
  | some i=>
   match i.zero,mS st cW with
   | some z,some l=>
    if k=cb/\t=eM/\z.cells.size=k/\z.cells.toList.all (fun v=>v.oneCell')=true/\d<st.env.length then
     let st2:=st.map (zt hF k (es.take (l.getD 0).toNat++List.replicate (es.length-(l.getD 0).toNat) (z.cells.toList.map .v)))
     some (⟨st2.env.set d .cu,st2.boxes⟩,ans,[0<=l.getD 0,l.getD 0<es.length,Flat es])
    else none
   | _,_=>none
  | none=>none
 | _,_=>none
theorem cE.clear{P:Program}{w0:eN}{st br:aG}{a:Act}{w:World}{ω:Own}{τ:Nat->Nat×Value}{d:Nat}{t eM:TypeId}{x:Operand}{cW:Option Operand}{ans cj:List b6}{obs:List Prop}
  (aT:cE w0 st a w ω τ) (h:EO P st d t x cW eM ans=some (br,cj,obs)) (aN:c8 obs):
  d<a.tmps.size/\∃y z aJ,(Instr.sliceAt t (a.eval x) (cW.map a.eval) none none).run P w=.ok y w/\(∀ty,(Builtin.clear_ #[eM] ty #[y]).run P w=.ok z aJ)/\Rel w0 br (a.put (some d) y) aJ:=by
 unfold EO at h;split at h
 ·rename_i e k hF cb es he aa;split at h
  ·rename_i i hi;split at h
   ·rename_i z l aW Py;split at h
    ·rename_i af;obtain⟨rfl,rfl,p2,Bi,qW⟩:=af;refine⟨by rw[aT.size];exact qW,?_⟩;simp only[aO,bx]at h;obtain⟨rfl,_,rfl⟩:=h;obtain⟨dR,dH,D',_⟩:=aN;obtain⟨hu,i2,lg,c7⟩:=w5 he;obtain⟨az,bC⟩:=aI.dQ aa (aT.bj x);have ax:=B8 aT Py;have lW:(cW.map a.eval=none/\l.getD 0=0)\/∃k,cW.map a.eval=some (.int k (l.getD 0)):=by
      rcases ax with⟨h,rfl⟩ | ⟨k,n,h,rfl⟩
      ·exact .inl ⟨h,rfl⟩
      exact .inr ⟨k,h⟩
     generalize r5:a.eval x=mA at az bC;cases az with
     | nil _ _ a0=>simp at dH;omega
     | row R k es b off cap arr ty cR us ao ed f' ai hk ks aB=>
      have iK:ω b=.tok hF []:=ed;obtain⟨lD,ux,vR,ic⟩:=aT.owned b (by rw[iK];simp);rw[ao]at ic;simp only[aO,Obj.cells.injEq]at ic;obtain⟨rfl,rfl,rfl⟩:=ic;obtain⟨L,cz⟩:∃L,L=(l.getD 0).toNat:=⟨_,rfl⟩
      have awx:L<es.length:=by omega
      rw[<-cz];have dV:off+L*k+(es.length-L)*z.cells.size<=arr.size:=by
       rw[p2,ye,<-fX,show L+(es.length-L)=es.length by omega];have:=hR k f';omega
      have aaH:(zeroValue e).run P w=.ok z w:=by simp[zeroValue,typeInfo,hi,aW]
      obtain⟨zs,lY,P5,AU⟩:∃zs:List Value,zs.length=(es.length-L)*z.cells.size/\(∀m,m<(es.length-L)*z.cells.size->zs[m]?=z.cells[m % z.cells.size]?)/\
        ∀ty,(Builtin.clear_ #[t] ty #[.slice (some ⟨b,off+L*k,none⟩) (es.length-L) (cap-L)]).run P w=.ok (.tuple #[]) (if es.length-L=0 then w else w.setRow b (laid arr (off+L*k) zs)):=by
       obtain⟨zs,h1,U,ax⟩:=RL (P:=P) w t e 0 z hu aaH b (off+L*k) (es.length-L) (cap-L) arr ty ao dV (fW.1 Bi);exact⟨zs,h1,U,fun rI=>ax⟩
      rw[a6 (by omega)]at AU;rw[p2]at lY P5;have cV:off+L*k+zs.length<=arr.size:=by rw[lY,<-p2];exact p2▸dV
      refine⟨.slice (some ⟨b,off+L*k,none⟩) (es.length-L) (cap-L),_,_,?_,AU,?_⟩
      ·simp only[Instr.sliceAt,Sem.run_bind,run_underlying hu,Result.andThen_ok,Instr.slice,Option.map_none];rw[B7 (h:=es.length) lW (.inl ⟨rfl,rfl⟩) dR (by omega) (by omega)];have cf:¬cap=L:=by omega
       simp[sizeOf,typeInfo,lg,c7,<-cz,cf,Addr.add_lit]
      -- axs avg behind it
      have kq:=setRow_heap w b arr (laid arr (off+L*k) zs) ty (0,0) ao;have gE:bX (w.setRow b (laid arr (off+L*k) zs)) ω (Tag.own hF).R (.J k (es.take L++List.replicate (es.length-L) (z.cells.toList.map .v))) (.slice (some ⟨b,off,none⟩) es.length cap):=by
       have hlen:(es.take L++List.replicate (es.length-L) (z.cells.toList.map D.v)).length=es.length:=by simp;omega
       have fa:∀x j d,c5 (es.take L++List.replicate (es.length-L) (z.cells.toList.map D.v)) x j=some d->∃v,d=.v v/\(laid arr (off+L*k) zs)[off+x*k+j]?=some v/\v.oneCell'=true:=by
        intro x j d ef;rw[Cb]at ef;have I7:(es.take L).length=L:=by simp;omega
        rw[I7]at ef;split at ef
        ·rename_i Ja;have wx:c5 es x j=some d:=by
          unfold c5 at ef ⊢;rwa[hj,aZ Ja]at ef
         obtain⟨gk,j9⟩:=tP hk wx;have q3:∃v,d=.v v:=by
          unfold c5 at wx;cases e1:es[x]? with
          | none=>simp[e1]at wx
          | some ds=>
           simp only[e1,nZ]at wx;exact D' ds (fE e1) d (fE wx)
         obtain⟨v,rfl⟩:=q3;have aF:=aB x j _ wx;have aQ:=ks x j _ wx;generalize us x j=u at aF aQ;cases aF with
         | v _ _ bb=>
          refine⟨v,rfl,?_,bb⟩;rw[mU cV,a6 ?_,aQ];have:(x+1)*k<=L*k:=hR _ Ja;rw[fX]at this;omega
        rename_i Ja;unfold c5 at ef;rw[Am]at ef;split at ef
        ·rename_i tC;simp only[nZ,dG,b2]at ef;obtain⟨v,bz,rfl⟩:=ef;have A0:j<k:=by
          have:=(ey.1 bz).1;rw[vX,p2]at this;exact this
         refine⟨v,rfl,?_,fW.1 Bi v (fE bz)⟩;obtain⟨m,hm⟩:∃m,x=L+m:=⟨x-L,by omega⟩
         subst hm;have ZP:m*k+j<(es.length-L)*k:=by
          have:(m+1)*k<=(es.length-L)*k:=hR _ (by omega);rw[fX]at this;omega
         have e1:off+(L+m)*k+j=off+L*k+(m*k+j):=by rw[fX];omega
         rw[e1,mU cV,aZ (by omega),show off+L*k+(m*k+j)-(off+L*k)=m*k+j by omega,P5 _ ZP,show (m*k+j) % k=j by rw[Nat.mul_comm m k,Nat.mul_add_mod,Ds A0]];simpa using bz
        simp at ef
       have:=bX.row (w:=w.setRow b (laid arr (off+L*k) zs)) (ω:=ω) (Tag.own hF).R k (es.take L++List.replicate (es.length-L) (z.cells.toList.map .v)) b off cap _ ty (0,0)
        (fun x j=>(laid arr (off+L*k) zs).getD (off+x*k+j) undef) kq ed (by omega) (by rw[rj cV];exact ai)
        (by
         intro e' qY;rcases gV.1 qY with h | h
         ·exact hk e' (rN h)
         rw[List.eq_of_mem_replicate h];simp[p2])
        (fun x j d ef=>by obtain⟨v,rfl,h1,_⟩:=fa x j d ef;simp[eu,h1])
        (fun x j d ef=>by
         obtain⟨v,rfl,h1,U⟩:=fa x j d ef;have:(laid arr (off+L*k) zs).getD (off+x*k+j) undef=v:=by simp[eu,h1]
         rw[this];exact .v _ _ U)
       rwa[hlen]at this
      have bj:mC w ω τ (w.setRow b (laid arr (off+L*k) zs)) ω τ (fz hF) (fun _=>true):=by
       refine⟨?_,?_,fun id c _ af=>af,rfl,fun _ _=>rfl⟩
       ·intro g ev c q ar _ aA;obtain⟨rfl,uT⟩:=EL ar aA;exact⟨aA,setRow_other w b c _ fun e=>uT [] (by rw[e];exact iK)⟩
       intro g ev y ar bn;cases g with
       | free=>simp only[fz,aO]at ar;subst ar;trivial
       | own x=>
        simp only[fz]at ar;split at ar
        ·cases ar
        simp only[aO]at ar;subst ar;exact bn
       | ro x=>
        simp only[fz]at ar;split at ar
        ·cases ar
        simp only[aO]at ar;subst ar;trivial
      have eV:∀lI v,Sat w ω τ lI v->Sat (w.setRow b (laid arr (off+L*k) zs)) ω τ (zt hF k (es.take L++List.replicate (es.length-L) (z.cells.toList.map .v)) lI) v:=by
       intro lI v I5;by_cases uO:∃s cb cB,lI=.J (.own s) cb cB
       ·obtain⟨s,cb,cB,rfl⟩:=uO;simp only[zt];split
        ·rename_i fk;subst fk;obtain⟨_,U⟩:=I5;simp only[Tag.eg]at U bC;rw[U]at bC;simp only[bx]at bC;obtain⟨rfl,rfl⟩:=bC;exact⟨gE,U⟩
        rename_i fk;have:=bj.sat (.J (.own s) cb cB) v I5;simpa[aD.cr,fz,fk]using this
       have ej:zt hF k (es.take L++List.replicate (es.length-L) (z.cells.toList.map .v)) lI=aD.cr (fz hF) (fun _=>true) lI:=by
        unfold zt;split
        ·exact absurd ⟨_,_,_,rfl⟩ uO
        rfl
       rw[ej];exact bj.sat lI v I5
      have h1:cE w0 (st.map (zt hF k (es.take L++List.replicate (es.length-L) (z.cells.toList.map .v)))) a (w.setRow b (laid arr (off+L*k) zs)) ω τ:=by
       refine aT.dh _ eV (aT.below.setRow lD _) ?_ (fun id c af=>⟨af,setRow_other w b c _ fun e=>by rw[e,iK]at af;cases af⟩) (fun id c af=>af) (fun _ _=>rfl);intro c af;obtain⟨h1,jb,jv,U⟩:=aT.owned c af;by_cases e:c=b
       ·subst e;exact⟨h1,_,ty,kq⟩
       exact⟨h1,jb,jv,(setRow_other w b c _ e).trans U⟩
      exact⟨ω,τ,h1.put (p:=.cu) trivial⟩
    cases h
   cases h
  cases h
 cases h
end Go.Sx
namespace Go.Sx
open Go.RowKit
def bS.l'(p:aD->Prop):bS->Prop
 | .one l=>p l
 | .agg ls=>∀l∈ls,p l
def aI.l'(p:aD->Prop):aI->Prop
 | .bd a=>a.l' p
 | .gv as=>∀a∈as,a.l' p
variable{S lx:aD->Value->Prop}{p:aD->Prop}{f:aD->aD}{ls:List aD}
theorem lb.map'(h:∀l v,p l->S l v->lx (f l) v){vs:Array Value}(ad:∀l∈ls,p l)(ai:lb S ls vs):lb lx (ls.map f) vs:=by
 refine⟨by simpa using ai.1,fun i l aj=>?_⟩;rw[dG,b2]at aj;obtain⟨fS,bl,rfl⟩:=aj;obtain⟨u,h1,U⟩:=ai.2 i fS bl;exact⟨u,h1,h _ _ (ad fS (fE bl)) U⟩
theorem la.map'(h:∀l v,p l->S l v->lx (f l) v):∀{a:bS} {y:Value},a.l' p->la S a y->la lx (a.map f) y
 | .one l,y,ad,ai=>h _ _ ad ai
 | .agg ls,y,ad,⟨vs,e,ai⟩=>⟨vs,e,ai.map' h ad⟩
theorem cP.map'(h:∀l v,p l->S l v->lx (f l) v):∀{q:aI} {y:Value},q.l' p->cP S q y->cP lx (q.map f) y
 | .bd a,y,ad,ai=>show la lx (a.map f) y from la.map' h ad (show la S a y from ai)
 | .gv as,y,ad,⟨vs,e,aK,ai⟩=>⟨vs,e,by simpa using aK,fun i a hi=>by
   rw[dG,b2]at hi;obtain⟨a0,bl,rfl⟩:=hi;obtain⟨u,h1,U⟩:=ai i a0 bl;exact⟨u,h1,la.map' h (ad a0 (fE bl)) U⟩⟩
variable{w0:eN}{st:aG}{a:Act}{w aJ:World}{ω a1:Own}{τ:Nat->Nat×Value}
theorem cE.avq{cT:Nat->Nat×Value}{p:aD->Prop}(h:cE w0 st a w ω τ)(f:aD->aD)
  (eV:∀l v,p l->Sat w ω τ l v->Sat aJ a1 cT (f l) v) (he:∀q∈st.env,q.l' p) (ao:∀id ls,dE id st.boxes=some ls->∀l∈ls,p l) (r0:hn w0 aJ) (q8:oP w0 aJ a1)
  (r2:∀id b,ω b=.box id->a1 b=.box id/\aJ.heap[b]?=w.heap[b]?) (AT:∀id b,a1 b=.box id->ω b=.box id) (r6:∀t,df<=t->cT t=τ t):cE w0 (st.map f) a aJ a1 cT where
 defers:=h.defers
 size:=by simp[aG.map,h.size]
 below:=r0
 owned:=q8
 fixed:=fun t bq=>(r6 t bq).trans (h.fixed t bq)
 pinned:=fun id b hi ao=>h.pinned id b hi (AT id b ao)
 env:=by
  intro i q aA;simp only[aG.map]at aA;rw[dG,b2]at aA;obtain⟨gH,bl,rfl⟩:=aA;obtain⟨v,h1,U⟩:=h.env i gH bl;exact⟨v,h1,cP.map' eV (he gH (fE bl)) U⟩
 boxes:=by
  intro id ls aj;simp only[aG.map]at aj;rw[tO,b2]at aj;obtain⟨kd,bl,rfl⟩:=aj;obtain⟨b,arr,ty,gj,hu,bC,ai⟩:=h.boxes id kd bl;obtain⟨h1,U⟩:=r2 id b gj;exact⟨b,arr,ty,h1,fun c3 di=>hu c3 (AT id c3 di),U.trans bC,ai.map' eV (ao id kd bl)⟩
def aD.idx(t j:Nat):aD->List Nat
 | .a8 s a b _ _ _=>if s=t/\b=j then [a] else []
 | _=>[]
def bS.idx(t j:Nat):bS->List Nat
 | .one l=>l.idx t j
 | .agg ls=>ls.flatMap (aD.idx t j)
def aI.idx(t j:Nat):aI->List Nat
 | .bd a=>a.idx t j
 | .gv as=>as.flatMap (bS.idx t j)
def aG.idx(t j:Nat)(st:aG):List Nat:=st.env.flatMap (aI.idx t j)++st.boxes.flatMap fun x=>x.2.flatMap (aD.idx t j)
def EP(t i j:Nat)(l:aD):Prop:=∀a∈l.idx t j,a=i
theorem QW{id:Nat}:∀{bs:List (Nat×List aD)} {ls:List aD},dE id bs=some ls->(id,ls)∈bs
 | [],_,h=>by cases h
 | (i,l)::r,ls,h=>by
  simp only[dE]at h;split at h
  ·rename_i hi;subst hi;rw[eQ h];exact eY
  exact fw _ (QW h)
variable{t i j:Nat}
theorem aG.aaK(h:∀a∈st.idx t j,a=i):∀q∈st.env,q.l' (EP t i j):=by
 intro q aA;have h1:∀a∈q.idx t j,a=i:=fun a ad=>h a (hl _ (kF.2 ⟨q,aA,ad⟩))
 have D6:∀x:bS,(∀a∈x.idx t j,a=i)->x.l' (EP t i j):=by
  intro x aa;cases x with
  | one l=>exact aa
  | agg ls=>exact fun l aj a ad=>aa a (kF.2 ⟨l,aj,ad⟩)
 cases q with
 | bd x=>exact D6 x h1
 | gv as=>exact fun x aa=>D6 x fun a ad=>h1 a (kF.2 ⟨x,aa,ad⟩)
theorem aG.aaJ(h:∀a∈st.idx t j,a=i){id:Nat}(ao:dE id st.boxes=some ls):∀l∈ls,EP t i j l:=by
 intro l aj a ad;exact h a (io _ (kF.2 ⟨(id,ls),QW ao,kF.2 ⟨l,aj,ad⟩⟩))
def hM(t i j k:Nat)(cB:List (List D))(kT:Nat)(esT:List (List D)):aD->aD
 | .J (.own s) dw dP=>if s=t then .J (.own t) kT esT else .J (.own s) dw dP
 | .ep (.own s) dw dP a b=>if s=t then .ep (.own t) kT esT a b else .ep (.own s) dw dP a b
 | .J (.ro s) dw dP=>if s=t then .cu else .J (.ro s) dw dP
 | .ep (.ro s) dw dP a b=>if s=t then .cu else .ep (.ro s) dw dP a b
 | .a8 s a b dw dP m=>if s=t/\b=j then (if dw=k/\m.home=true then .a8 t i j k cB m else .cu) else .a8 s a b dw dP m
 | .fB _ _=>.cu
 | l=>l
variable{v:Value}
theorem vg.avu{u:Value}(h1:vg w ω τ t i j u)(U:vg w ω τ t i j v):u=v:=by
 obtain⟨kT,b,off,len,cap,arr,ty,cR,eZ,a2,a3,a4⟩:=h1;obtain⟨aaO,c3,aw8,aw3,mG,b5,rI,awo,eU,fH,mE,HI⟩:=U;rw[eZ]at eU;simp only[bx,Value.slice.injEq,aO,Addr.mk.injEq]at eU;obtain⟨rfl,⟨rfl,rfl,_⟩,_,_⟩:=eU;rw[a3]at mE;simp only[aO,Obj.cells.injEq]at mE;obtain⟨rfl,_,_⟩:=mE;rw[a4]at HI;exact eQ HI
variable{k kT:Nat}{esT:List (List D)}
theorem cE.Wb(h:cE w0 st a w ω τ){cB:List (List D)}{yT fv:Value}
  (kQ:∀c,c<w.heap.size->ω c≠.tok t [(i,j)]->aJ.heap[c]?=w.heap[c]?) (da:∀c,c<w.heap.size->a1 c=ω c) (JJ:∀c id,¬c<w.heap.size->a1 c≠.box id)
  (lz:hn w0 aJ) (lD:oP w0 aJ a1) (tF:τ t=(kT,yT)) (o5:bX aJ a1 (Tag.own t).R (.J kT esT) yT)
  (r8:vg w ω τ t i j fv) (pY:bX aJ a1 (fun q o=>o=.tok t ((i,j)::q)) (.J k cB) fv) (pX:∀a∈st.idx t j,a=i):cE w0 (st.map (hM t i j k cB kT esT)) a aJ a1 τ:=by
 have cR:∀{R:List (Nat×Nat)->c0->Prop} {d:D} {v:Value},(∀q,¬R q (.tok t [(i,j)]))->bX w ω R d v->bX aJ a1 R d v:=by
  intro R d v aK az;refine az.frame fun b q bu aA=>?_
  rw[da b bu];exact⟨aA,kQ b bu fun e=>aK q (by rw[<-e];exact aA)⟩
 have home:∀{s a b:Nat} {u:Value},vg w ω τ s a b u->vg aJ a1 τ s a b u:=by
  rintro s a b u ⟨kT,c,off,len,cap,arr,ty,cR,eZ,a2,a3,a4⟩;have bu:c<w.heap.size:=(jz.1 a3).1;exact⟨kT,c,off,len,cap,arr,ty,cR,eZ,by rw[da c bu];exact a2,(kQ c bu (by rw[a2];simp)).trans a3,a4⟩
 refine h.avq (p:=EP t i j) _ ?_ (aG.aaK pX) (fun id ls ao=>aG.aaJ pX ao) lz lD (fun id b ao=>?_) (fun id b ao=>?_) (fun _ _=>rfl)
 ·intro l v ar ai;cases l with
  | cu=>exact trivial
  | v x=>exact ai
  | cg c=>exact ai
  | ptr id o=>
   obtain⟨c,af,e⟩:=ai;exact⟨c,by rw[da c (h.owned.lt (by simp[af]))];exact af,e⟩
  | hq f ids=>
   obtain⟨bs,e,aK,hi⟩:=ai;refine⟨bs,e,aK,fun x id gq=>?_⟩;obtain⟨b,h1,U⟩:=hi x id gq;exact⟨b,h1,by rw[da b (h.owned.lt (by simp[U]))];exact U⟩
  | iC ds o=>
   obtain⟨c,e,az⟩:=ai;exact⟨c,e,cR (fun q aA=>by cases aA) az⟩
  | fd d=>exact cR (R:=Tag.free.R) (fun q aA=>by cases aA) ai
  | gb t0 dw dP=>exact⟨cR (R:=Tag.free.R) (fun q aA=>by cases aA) ai.1,ai.2⟩
  | fB=>exact trivial
  | J g dw dP=>
   cases g with
   | free=>exact⟨cR (R:=Tag.free.R) (fun q aA=>by cases aA) ai.1,ae⟩
   | own s=>
    simp only[hM];split
    ·rename_i e;subst e;have U:=ai.2;simp only[Tag.eg]at U;rw[tF]at U;simp only[bx]at U;rw[<-U.2];exact⟨o5,tF⟩
    rename_i cf;exact⟨cR (R:=(Tag.own s).R) (fun q aA=>by simp only[Tag.R,c0.tok.injEq]at aA;exact cf aA.1.symm) ai.1,ai.2⟩
   | ro s=>
    simp only[hM];split
    ·exact trivial
    rename_i cf;refine⟨cR (R:=(Tag.ro s).R) (fun q aA=>?_) ai.1,ae⟩;rcases aA with aA | ⟨dB,aA⟩
    ·cases aA
    simp only[c0.tok.injEq]at aA;exact cf aA.1.symm
  | ep g dw dP x y=>
   obtain⟨fH,rf,qA,e,lg,mj,o2⟩:=ai;cases g with
   | free=>exact⟨fH,rf,qA,e,lg,cR (R:=Tag.free.R) (fun q aA=>by cases aA) mj,ae⟩
   | own s=>
    simp only[hM];split
    ·rename_i e1;subst e1;simp only[Tag.eg]at o2;rw[tF]at o2;simp only[bx]at o2;obtain⟨rfl,rfl⟩:=o2;have aj:esT.length=dP.length:=by
      obtain⟨_,_,e2⟩:=o5.len;simp only[Value.slice.injEq]at e2;exact e2.2.1.symm
     refine⟨fH,rf,qA,e,by omega,?_,?_⟩
     ·rw[aj];exact o5
     rw[aj];exact tF
    rename_i cf;exact⟨fH,rf,qA,e,lg,cR (R:=(Tag.own s).R) (fun q aA=>by simp only[Tag.R,c0.tok.injEq]at aA;exact cf aA.1.symm) mj,o2⟩
   | ro s=>
    simp only[hM];split
    ·exact trivial
    rename_i cf;refine⟨fH,rf,qA,e,lg,cR (R:=(Tag.ro s).R) (fun q aA=>?_) mj,ae⟩;rcases aA with aA | ⟨dB,aA⟩
    ·cases aA
    simp only[c0.tok.injEq]at aA;exact cf aA.1.symm
  | a8 s x y dw dP m=>
   simp only[hM];obtain⟨u,hu,az,hm⟩:=ai;split
   ·rename_i af;obtain⟨rfl,rfl⟩:=af;have aa:x=i:=ar x (by simp[aD.idx]);subst aa;split
    ·rename_i af;obtain⟨rfl,ZO⟩:=af;have e:=(hm ZO).avu r8;subst e;have aj:cB.length=dP.length:=by
      obtain⟨_,_,e1⟩:=pY.len;obtain⟨_,_,e2⟩:=az.len;rw[e1]at e2;simp only[Value.slice.injEq]at e2;omega
     exact⟨u,by rw[aj];exact hu,pY,fun _=>home r8⟩
    exact trivial
   rename_i af;refine⟨u,hu,cR (fun q aA=>?_) az,fun bC=>home (hm bC)⟩;simp only[c0.tok.injEq,sT,bx]at aA;exact af ⟨aA.1.symm,aA.2.1.2.symm⟩
 ·have bu:=h.owned.lt (b:=b) (by simp[ao]);exact⟨by rw[da b bu];exact ao,kQ b bu (by rw[ao];simp)⟩
 by_cases bu:b<w.heap.size
 ·rw[da b bu]at ao;exact ao
 exact absurd ao (JJ b id bu)
def ug(t:Nat):aD->Option (Nat×List (List D))
 | .J (.own s) k es=>if s=t then some (k,es) else none
 | _=>none
def vl(t:Nat):List aI->Option (Nat×List (List D))
 | []=>none
 | .bd (.one l)::r=>match ug t l with | some x=>some x | none=>vl t r
 | .bd (.agg ls)::r=>match ls.findSome? (ug t) with | some x=>some x | none=>vl t r
 | _::r=>vl t r
def EQ(t:Nat)(st:aG):Option (Nat×List (List D)):=
 match vl t st.env with
 | some x=>some x
 | none=>(st.boxes.find? fun x=>(x.2.findSome? (ug t)).isSome).bind fun x=>(dE x.1 st.boxes).bind fun ls=>ls.findSome? (ug t)
theorem Ll{l:aD}(h:ug t l=some (kT,esT))(ai:Sat w ω τ l v):Sat w ω τ (.J (.own t) kT esT) v:=by
 unfold ug at h;split at h
 ·split at h
  ·rename_i e;subst e;simp only[aO,bx]at h;obtain⟨rfl,rfl⟩:=h;exact ai
  cases h
 cases h
theorem QX{vs:Array Value}(h:ls.findSome? (ug t)=some (kT,esT))(ai:lb (Sat w ω τ) ls vs):∃v,Sat w ω τ (.J (.own t) kT esT) v:=by
 obtain⟨l,aj,U⟩:=List.exists_of_findSome?_eq_some h;obtain⟨x,aa⟩:=pJ.1 aj;obtain⟨u,_,hu⟩:=ai.2 x l aa;exact⟨u,Ll U hu⟩
theorem FJ:∀{cx:List aI},vl t cx=some (kT,esT)->(∀p∈cx,∃v,cP (Sat w ω τ) p v)->∃v,Sat w ω τ (.J (.own t) kT esT) v
 | [],h,_=>by cases h
 | p::r,h,ai=>by
  have az:∀p∈r,∃v,cP (Sat w ω τ) p v:=fun p hp=>ai p (fw _ hp)
  obtain⟨v,bz⟩:=ai p eY;cases p with
  | gv as=>exact FJ (by simpa[vl]using h) az
  | bd x=>
   cases x with
   | one l=>
    simp only[vl]at h;split at h
    ·rename_i y e;simp only[aO]at h;subst h;exact⟨v,Ll e bz⟩
    exact FJ h az
   | agg ls=>
    simp only[vl]at h;split at h
    ·rename_i y e;simp only[aO]at h;subst h;obtain⟨vs,_,bz⟩:=bz;exact QX e bz
    exact FJ h az
theorem cE.root(h:cE w0 st a w ω τ)(e:EQ t st=some (kT,esT)):∃v,Sat w ω τ (.J (.own t) kT esT) v:=by
 unfold EQ at e;split at e
 ·rename_i x e1;simp only[aO]at e;subst e;refine FJ e1 fun p hp=>?_
  obtain⟨x,aa⟩:=pJ.1 hp;obtain⟨v,_,bz⟩:=h.env x p aa;exact⟨v,bz⟩
 rw[nf]at e;obtain⟨x,_,e⟩:=e;rw[nf]at e;obtain⟨ls,ao,e⟩:=e;obtain⟨b,arr,ty,_,_,_,ai⟩:=h.boxes x.1 ls ao;exact QX e ai
theorem QY{cB:List (List D)}{j6:List D}{yT fv:Value}(ai:Sat w ω τ (.J (.own t) kT esT) yT)
  (kQ:∀c,c<w.heap.size->ω c≠.tok t [(i,j)]->aJ.heap[c]?=w.heap[c]?) (da:∀c,c<w.heap.size->a1 c=ω c)
  (r8:vg w ω τ t i j fv) (pY:bX aJ a1 (fun q o=>o=.tok t ((i,j)::q)) (.J k cB) fv) (eI:esT[i]?=some j6):bX aJ a1 (Tag.own t).R (.J kT (esT.set i (j6.set j (.J k cB)))) yT:=by
 obtain⟨az,bC⟩:=ai;simp only[Tag.eg]at bC;obtain⟨aaO,ck,JZ,Qe,OR,ux,vR,awp,eZ,a2,a3,a4⟩:=r8;rw[bC]at eZ;simp only[bx]at eZ;obtain⟨rfl,rfl⟩:=eZ;have lB:i<esT.length:=(ey.1 eI).1;have hlen:(esT.set i (j6.set j (.J k cB))).length=esT.length:=fN;generalize bn:Value.slice (some ⟨ck,JZ,none⟩) Qe OR=Oz at az;cases az with
 | nil=>simp at lB
 | row R kT esT b off cap arr ty cR us ao ed af c7 hk hu aB=>
  simp only[Value.slice.injEq,aO,Addr.mk.injEq]at bn;obtain⟨⟨rfl,rfl,_⟩,rfl,rfl⟩:=bn;rw[ao]at a3;simp only[aO,Obj.cells.injEq]at a3;obtain⟨rfl,_,_⟩:=a3;have wu:ck<w.heap.size:=(jz.1 ao).1;have A1:j6.length=kT:=hk j6 (fE eI);have uV:∀e∈esT.set i (j6.set j (.J k cB)),e.length=kT:=by
   intro e he;rcases h8 he with h | rfl
   ·exact hk e h
   rw[fN];exact A1
  have key:∀x y d,c5 (esT.set i (j6.set j (.J k cB))) x y=some d->arr[JZ+x*kT+y]?=some (us x y)/\bX aJ a1 (fun q=>(Tag.own t).R ((x,y)::q)) d (us x y):=by
   intro x y d ef;have Jc:=tP uV ef;rw[hlen]at Jc;obtain⟨d0,ie⟩:=QA hk Jc.1 Jc.2;have uY:=hu x y d0 ie;refine⟨uY,?_⟩;rw[Kb lB]at ef;by_cases aa:x=i
   ·subst aa;rw[aZ rfl,jy]at ef;by_cases JI:j=y
    ·subst JI;rw[aZ rfl,aZ (by omega)]at ef;rw[<-eQ ef];rw[a4]at uY;rw[<-eQ uY];exact pY
    rw[a6 JI]at ef;have qT:c5 esT x y=some d:=by simp[c5,eI,ef]
    refine (aB x y d qT).frame fun c q af aA=>?_
    rw[da c af];refine⟨aA,kQ c af fun e=>?_⟩;simp only[Tag.R,e,c0.tok.injEq,sT,bx]at aA;exact JI aA.2.1.2
   rw[a6 aa]at ef;refine (aB x y d ef).frame fun c q af aA=>?_
   rw[da c af];refine⟨aA,kQ c af fun e=>?_⟩;simp only[Tag.R,e,c0.tok.injEq,sT,bx]at aA;exact aa aA.2.1.1.symm
  have iK:ω ck=.tok t []:=ed;have:=bX.row (w:=aJ) (ω:=a1) (Tag.own t).R kT (esT.set i (j6.set j (.J k cB))) ck JZ OR arr ty cR us ((kQ ck wu (by rw[iK];simp)).trans ao) (by rw[da ck wu];exact iK) (by omega) c7 uV
   (fun x y d aB=>(key x y d aB).1) (fun x y d aB=>(key x y d aB).2)
  rw[hlen]at this;exact this
def Lm(P:Program)(st:aG)(ty:TypeId)(t i j k:Nat)(es:List (List D))(x y:Nat)(q:aI)(ans:List b6):Stepped:=
 match q.leaves,P.info? ty,EQ t st,ans with
 | some xs,some inf,some (kT,esT),.el ds::.el j6::r=>
  match xs.mapM aD.ju with
  | some ys=>
   if xs.length=inf.size/\ds.length=k/\y+ys.length<=k/\xs.all (fun l=>l.tok.isNone)=true then
    some (st.map (hM t i j k (es.set x (lQ ds y ys)) kT (esT.set i (j6.set j (.J k (es.set x (lQ ds y ys)))))),r,(es[x]?=some ds)::(esT[i]?=some j6)::(st.idx t j).map fun a=>a=i)
   else none
  | none=>none
 | _,_,_,_=>none
theorem anl{l:aD}{d:D}(h:l.ju=some d)(bq:l.tok.isNone=true){u:Value}(ai:Sat w ω τ l u):∃z,d=.v z/\u=z/\z.oneCell'=true:=by
 cases l with
 | v z=>
  simp only[aD.ju]at h;split at h
  ·simp only[aO]at h;subst h;have:u=z:=ai;exact⟨z,rfl,this,‹_›⟩
  cases h
 | cg c=>
  simp only[aD.ju,aO]at h;subst h;exact⟨_,rfl,ai,rfl⟩
 | J g k es=>
  cases g with
  | own s=>simp[aD.tok]at bq
  | free=>cases h
  | ro s=>cases h
 | cu=>cases h
 | ptr=>cases h
 | ep=>cases h
 | iC=>cases h
 | fd=>cases h
 | gb=>cases h
 | hq=>cases h
 | a8=>cases h
 | fB=>cases h
theorem cE.avl{P:Program}{br:aG}{ty:TypeId}{x y:Nat}{es:List (List D)}{q:aI}{p:Value}{ans cj:List b6}{obs:List Prop}
  (aT:cE w0 st a w ω τ) (hp:Sat w ω τ (.a8 t i j k es (.at_ x y)) p) (aA:cP (Sat w ω τ) q v) (h:Lm P st ty t i j k es x y q ans=some (br,cj,obs)) (aN:c8 obs):
  ∃aJ,(Instr.storeAt ty p v).run P w=.ok () aJ/\Rel w0 br a aJ:=by
 unfold Lm at h;split at h
 ·rename_i xs inf kT esT ds j6 r e1 e2 e4;split at h
  ·rename_i ys cJ;split at h
   ·rename_i af;obtain⟨lS,lA,lT,uN⟩:=af;simp only[aO,bx]at h;obtain⟨rfl,_,rfl⟩:=h;obtain⟨eI,yG,pX⟩:=aN;have pX:=E5 pX;obtain⟨yT,o5⟩:=aT.root e4;obtain⟨ai,q6⟩:=aI.yZ e1 aA;obtain⟨aaB,JH⟩:=ox cJ;obtain⟨fv,⟨b,off,cap,rfl,rfl,lB⟩,az,hm⟩:=hp;have r8:=hm rfl;have q9:=az;cases az with
    | nil=>simp at lB
    | row R k es b off cap arr h6 cR us ao ed f' c7 gP hu aB=>
     have iK:ω b=.tok t [(i,j)]:=ed;obtain⟨wI,ux,vR,ic⟩:=aT.owned b (by rw[iK];simp);rw[ao]at ic;simp only[aO,Obj.cells.injEq]at ic;obtain⟨rfl,rfl,rfl⟩:=ic;have wu:b<w.heap.size:=(jz.1 ao).1;have hmul:(x+1)*k<=cap*k:=hR _ (by omega);rw[fX]at hmul;have rb:v.cells.size=xs.length:=ai.1;have dV:off+x*k+y+v.cells.toList.length<=arr.size:=by simp;omega
     have fk:=run_storeCells_at P b (off+x*k+y) h6 v.cells.toList 0 arr w ao (by simpa using dV) q6;simp only[nj]at fk;generalize oh:(arr.toList.take (off+x*k+y)++v.cells.toList++arr.toList.drop (off+x*k+y+v.cells.toList.length)).toArray=b5 at fk;have ix:∀z:Nat,b5[z]?=if off+x*k+y<=z/\z<off+x*k+y+xs.length then v.cells[z-(off+x*k+y)]? else arr[z]?:=by
      intro z;rw[<-oh,nY,B' (by simpa using dV)];simp[rb]
     have yR:b5.size=arr.size:=by rw[<-oh];simp;simp at dV;omega
     have kq:=setRow_heap w b arr b5 h6 (0,0) ao;have kQ:∀c,c<w.heap.size->ω c≠.tok t [(i,j)]->(w.setRow b b5).heap[c]?=w.heap[c]?:=fun c _ af=>setRow_other w b c b5 fun e=>af (by rw[e];exact iK)
     have pY:bX (w.setRow b b5) ω (fun q o=>o=.tok t ((i,j)::q)) (.J k (es.set x (lQ ds y ys))) (.slice (some ⟨b,off,none⟩) es.length cap):=by
      have hlen:(es.set x (lQ ds y ys)).length=es.length:=fN;have A1:ds.length=k:=lA;have mM:∀gS gT d,c5 es gS gT=some d->bX (w.setRow b b5) ω (fun q o=>o=.tok t ((i,j)::(gS,gT)::q)) d (us gS gT):=by
       intro gS gT d qT;refine (aB gS gT d qT).frame fun c q af eh=>⟨eh,kQ c af fun e=>?_⟩
       rw[e]at eh;simp at eh
      have fa:∀gS gT d,c5 (es.set x (lQ ds y ys)) gS gT=some d->∃u,b5[off+gS*k+gT]?=some u/\bX (w.setRow b b5) ω (fun q o=>o=.tok t ((i,j)::(gS,gT)::q)) d u:=by
       intro gS gT d ef;rw[Kb lB]at ef;by_cases aa:gS=x
       ·subst aa;rw[aZ rfl,Rn (by omega)]at ef;split at ef
        ·rename_i bn;obtain⟨l,jE,cV⟩:=JH _ _ ef;obtain⟨u,fO,fb⟩:=ai.2 _ _ jE;obtain⟨z,rfl,rfl,aW⟩:=anl cV (fW.1 uN l (fE jE)) fb;refine⟨u,?_,.v _ _ aW⟩;rw[ix,aZ (by omega),<-fO]
         congr 1;omega
        rename_i bn;have qT:c5 es gS gT=some d:=by simp[c5,eI,ef]
        refine⟨us gS gT,?_,mM gS gT d qT⟩;rw[ix,a6 (by omega),hu gS gT d qT]
       rw[a6 aa]at ef;obtain⟨gk,aaC⟩:=tP gP ef;refine⟨us gS gT,?_,mM gS gT d ef⟩;rw[ix,a6 ?_,hu gS gT d ef];rcases Nat.lt_or_gt_of_ne aa with h | h
       ·have:(gS+1)*k<=x*k:=hR _ h;rw[fX]at this;omega
       have:(x+1)*k<=gS*k:=hR _ h;rw[fX]at this;omega
      have q':∀e∈es.set x (lQ ds y ys),e.length=k:=by
       intro e he;rcases h8 he with h | rfl
       ·exact gP e h
       rw[Ro (by omega)];exact A1
      have:=bX.row (w:=w.setRow b b5) (ω:=ω) (fun q o=>o=.tok t ((i,j)::q)) k (es.set x (lQ ds y ys)) b off cap b5 h6 (0,0) (fun gS gT=>b5.getD (off+gS*k+gT) undef) kq iK (by omega) (by omega) q'
       (fun x y d d'=>by obtain⟨u,h1,_⟩:=fa x y d d';rw[h1];simp[eu,h1])
       (fun x y d d'=>by obtain⟨u,h1,U⟩:=fa x y d d';have:b5.getD (off+x*k+y) undef=u:=(by simp[eu,h1]);rw[this];exact U)
      rw[hlen]at this;exact this
     refine⟨w.setRow b b5,?_,ω,τ,aT.Wb (yT:=yT) kQ (fun _ _=>rfl) (fun c id af e=>?_) (aT.below.setRow wI b5) ?_ o5.2 (QY o5 kQ (fun _ _=>rfl) r8 pY yG) r8 pY pX⟩
     ·simp only[Instr.storeAt,Instr.sureAddr,Sem.run_bind,Sem.run_pure,Result.andThen_ok,storeVar,sizeOf,typeInfo,run_program,e2];have I6:¬(v.cells.size≠inf.size):=by simp;omega
      rw[a6 I6];exact fk
     ·exact af (aT.owned.lt (by rw[e];simp))
     intro c gD;obtain⟨ax,jb,jv,aF⟩:=aT.owned c gD;by_cases qS:c=b
     ·subst qS;exact⟨ax,b5,h6,kq⟩
     exact⟨ax,jb,jv,(setRow_other w b c b5 qS).trans aF⟩
   cases h
  cases h
 cases h
end Go.Sx
namespace Go.Sx
open Go.RowKit
variable{i:Nat}
theorem QZ{α:Type}{l:List α}{a:α}(h:l[i]?=some a):l.set i a=l:=by
 apply List.ext_getElem?;intro x;rw[jy];by_cases aa:i=x
 ·subst aa;have:=(ey.1 h).1;rw[aZ rfl,aZ this,h]
 rw[a6 aa]
def Ln(P:Program)(st:aG)(d:Nat)(iD:TypeId)(t i j k:Nat)(es:List (List D))(y:Operand)(ans:List b6):Stepped:=
 match rz P iD,EQ t st,ans with
 | some (e,cb),some (kT,esT),.el j6::fy=>
  match P.info? e,wg t k (st.bj y) fy with
  | some inf,some (bR,none,we,obs)=>
   match inf.zero with
   | some z=>
    if cb=k/\z.cells.size=k/\0<k then
     some (⟨(st.map (hM t i j k es kT esT)).env.set d (.one (.a8 t i j k (es++bR) .mD)),(st.map (hM t i j k es kT esT)).boxes⟩,we,
      ((es.length+bR.length)*inf.bytes<=140737488355328)::(es.length+bR.length<=9223372036854775807)::(esT[i]?=some j6)::(j6[j]?=some (.J k es))::(((st.idx t j).map fun a=>a=i)++obs))
    else none
   | none=>none
  | _,_=>none
 | _,_,_=>none
def uw(P:Program)(iD:TypeId)(t i j k:Nat)(es esT:List (List D))(q:aI)(ans:List b6):Option (aI×List b6×List Prop):=
 match rz P iD,ans with
 | some (e,cb),.el j6::fy=>
  match P.info? e,wg t k q fy with
  | some inf,some (bR,none,we,obs)=>
   match inf.zero with
   | some z=>
    if cb=k/\z.cells.size=k/\0<k then
     some (.one (.a8 t i j k (es++bR) .mD),we,
      ((es.length+bR.length)*inf.bytes<=140737488355328)::(es.length+bR.length<=9223372036854775807)::(esT[i]?=some j6)::(j6[j]?=some (.J k es))::obs)
    else none
   | none=>none
  | _,_=>none
 | _,_=>none
theorem cE.uw{P:Program}{w0:eN}{st:aG}{a:Act}{w:World}{ω:Own}{τ:Nat->Nat×Value}{d:Nat}{iD ty:TypeId}{t j k kT:Nat}{es esT:List (List D)}{x y:Operand}{p:aI}{ans cj:List b6}{obs:List Prop}
  (aT:cE w0 st a w ω τ) (hp:Sat w ω τ (.a8 t i j k es .here) (a.eval x)) (h:Sx.uw P iD t i j k es esT (st.bj y) ans=some (p,cj,obs)) (aN:c8 obs)
  (o5:∃v,Sat w ω τ (.J (.own t) kT esT) v) (pX:∀a∈st.idx t j,a=i):
  ∃z aJ,(Builtin.append_ #[iD,iD] ty #[a.eval x,a.eval y]).run P w=.ok z aJ/\Rel w0 ⟨(st.map (hM t i j k es kT esT)).env.set d p,(st.map (hM t i j k es kT esT)).boxes⟩ (a.put (some d) z) aJ:=by
 unfold Sx.uw at h;split at h
 ·rename_i e cb j6 fy he;obtain⟨bq,h0,lf,yQ⟩:=w5 he;split at h
  ·rename_i inf bR we y5 hi jG;rw[lf]at hi;have nA:=eQ hi;subst nA;split at h
   ·rename_i z aW;split at h
    ·rename_i af;obtain⟨rfl,p2,mL⟩:=af;simp only[aO,bx]at h;obtain⟨rfl,_,rfl⟩:=h;obtain⟨gj,gC,yG,Ix,IS⟩:=aN;obtain⟨_,news,nD⟩:=Rm (P:=P) mL (aT.bj y) jG IS;obtain⟨yT,o5⟩:=o5;obtain⟨fv,sd,az,hm⟩:=hp;have r8:=hm rfl;have sd:a.eval x=fv:=sd;rw[sd];generalize a.eval y=iE at nD;have D':∀gS gT d,c5 bR gS gT=some d->∃u,news[gS*cb+gT]?=some u/\d=.v u/\u.oneCell'=true:=by
      intro gS gT d aB;obtain⟨u,h1,U⟩:=nD.cell gS gT d aB;rcases U with⟨v,rfl,rfl⟩ | ⟨s,ai,_⟩
      ·exact⟨u,h1,rfl,nD.one u (fE h1)⟩
      cases ai
     have fin:∀(w1:World) (a1:Own) (r:Value),(∀c,c<w.heap.size->ω c≠.tok t [(i,j)]->w1.heap[c]?=w.heap[c]?)->(∀c,c<w.heap.size->a1 c=ω c)->(∀c id,¬c<w.heap.size->a1 c≠.box id)->hn w0 w1->oP w0 w1 a1->
       bX w1 a1 (fun q o=>o=.tok t ((i,j)::q)) (.J cb es) fv->bX w1 a1 (fun q o=>o=.tok t ((i,j)::q)) (.J cb (es++bR)) r->
       Rel w0 ⟨(st.map (hM t i j cb es kT esT)).env.set d (.one (.a8 t i j cb (es++bR) .mD)),(st.map (hM t i j cb es kT esT)).boxes⟩ (a.put (some d) r) w1:=by
      intro w1 a1 r kQ da JJ lz lD pY fi;have PR:=QY o5 kQ da r8 pY yG;rw[QZ Ix,QZ yG]at PR;exact⟨a1,τ,(aT.Wb kQ da JJ lz lD o5.2 PR r8 pY pX).put (p:=.one (.a8 t i j cb (es++bR) .mD)) ⟨r,rfl,fi,fun bC=>by cases bC⟩⟩
     have Iq:∀c id,¬c<w.heap.size->ω c≠.box id:=fun c id af e=>af (aT.owned.lt (by rw[e];simp))
     by_cases wB:bR.length=0
     ·have IA:bR=[]:=x' wB;subst IA;refine⟨fv,w,QB bq lf w ?_ ?_,fin w ω fv (fun _ _ _=>rfl) (fun _ _=>rfl) Iq aT.below aT.owned az (by rw[jX];exact az)⟩
      ·cases az with
       | nil _ _ a0=>exact⟨a0,0,0,rfl,dN _⟩
       | row R k es b off cap arr ty cR us ao ed af ai hk hu aB=>exact⟨some ⟨b,off,none⟩,_,cap,rfl,af⟩
      rcases nD.shape with⟨⟨a,h⟩,_⟩ | ⟨b,o,c,h,_⟩
      ·exact⟨a,0,h⟩
      exact⟨some ⟨b,o,none⟩,c,h⟩
     have r9:0<bR.length:=by omega
     rcases nD.shape with⟨_,h⟩ | ⟨cg,k2,lP,rfl,jF⟩
     ·rw[h]at r9;simp at r9
     have grown:∀(w1:World) (b5:Array Value) (r:Value) (mG:Nat),ho w.heap.size w w1->w1.heap[w.heap.size]?=some (.cells b5 e (0,0))->r=.slice (some ⟨w.heap.size,0,none⟩) (es.length+bR.length) mG->
       es.length+bR.length<=mG->mG*cb<=b5.size->(∀fA kS d,c5 es fA kS=some d->∃u,b5[fA*cb+kS]?=some u/\bX w ω (fun q o=>o=.tok t ((i,j)::(fA,kS)::q)) d u)->
       (∀x u,news[x]?=some u->b5[es.length*cb+x]?=some u)->(∀e∈es,e.length=cb)->
       Rel w0 ⟨(st.map (hM t i j cb es kT esT)).env.set d (.one (.a8 t i j cb (es++bR) .mD)),(st.map (hM t i j cb es kT esT)).boxes⟩ (a.put (some d) r) w1:=by
      intro w1 b5 r mG lz gE IY f' c7 hold A3 uV;subst IY
      let a1:Own:=fun c=>if c=w.heap.size then .tok t [(i,j)] else ω c
      have da:∀c,c<w.heap.size->a1 c=ω c:=fun c af=>by simp only[a1];rw[a6 (by omega)]
      have lX:a1 w.heap.size=.tok t [(i,j)]:=by simp[a1]
      refine fin w1 a1 _ (fun c af _=>lz.block c af) da (fun c id af=>?_) (aT.below.next lz) (fun b ao=>?_) (az.frame fun c q af aA=>⟨by rw[da c af];exact aA,lz.block c af⟩) ?_
      ·simp only[a1];split
       ·simp
       exact Iq c id af
      ·by_cases uM:b=w.heap.size
       ·subst uM;exact⟨.inl aT.below.size,b5,e,gE⟩
       simp only[a1]at ao;rw[a6 uM]at ao;obtain⟨ax,jb,jv,aF⟩:=aT.owned b ao;exact⟨ax,jb,jv,(lz.block b (aT.owned.lt ao)).trans aF⟩
      have fa:∀x kS d,c5 (es++bR) x kS=some d->∃u,b5[x*cb+kS]?=some u/\bX w1 a1 (fun q o=>o=.tok t ((i,j)::(x,kS)::q)) d u:=by
       intro x kS d aB;rw[Cb]at aB;split at aB
       ·obtain⟨u,h1,U⟩:=hold x kS d aB;exact⟨u,h1,U.frame fun c q af aA=>⟨by rw[da c af];exact aA,lz.block c af⟩⟩
       rename_i aa;obtain⟨u,h1,rfl,U⟩:=D' _ _ _ aB;refine⟨u,?_,.v _ _ U⟩;rw[<-A3 _ u h1]
       congr 1
       have:x=es.length+(x-es.length):=by omega
       rw[this,fX];simp only[Nat.add_sub_cancel_left];omega
      have hlen:(es++bR).length=es.length+bR.length:=k7;have q':∀e∈es++bR,e.length=cb:=by
       intro e' he;rcases gV.1 he with h | h
       ·exact uV e' h
       exact nD.rows e' h
      have:=bX.row (w:=w1) (ω:=a1) (fun q o=>o=.tok t ((i,j)::q)) cb (es++bR) w.heap.size 0 mG b5 e (0,0) (fun x j=>b5.getD (x*cb+j) undef) gE lX (by omega) (by omega) q'
       (fun x j d aB=>by obtain⟨u,h1,_⟩:=fa x j d aB;rw[dq,h1];simp[eu,h1])
       (fun x j d aB=>by obtain⟨u,h1,U⟩:=fa x j d aB;have:b5.getD (x*cb+j) undef=u:=(by simp[eu,h1]);rw[this];exact U)
      rw[hlen]at this;exact this
     subst yQ;have q9:=az;cases az with
     | nil _ _ a0=>
      simp only[bY,dq]at gj gC;have fj:(Builtin.append_ #[iD,iD] ty #[.slice a0 0 0,.slice (some ⟨cg,k2,none⟩) bR.length lP]).run P w=
        .ok (.slice (some ⟨w.heap.size,0,none⟩) bR.length (grownCap w bR.length 0 e)) (w.drew.alloc (.cells (news.toArray++Builtin.zeroCells z.cells (grownCap w bR.length 0 e-bR.length)) e)):=by
       cases a0 with
       | none=>exact run_append_nil (P:=P) w iD ty e h0 z bq lf aW ⟨cg,k2,none⟩ bR.length lP news nD.len jF r9 (by omega) (by omega)
       | some ck=>
        have:=run_append_grow (P:=P) w iD ty e h0 z bq lf aW ck 0 0 [] (by simp) (fun j v bz=>by simp at bz) ⟨cg,k2,none⟩ bR.length lP news nD.len jF (by omega) (by omega) (growslice_fits (by omega) (by simpa using gj));simpa using this
      have nz:=grownCap_ge w bR.length 0 e;exact⟨_,_,fj,grown _ (news.toArray++Builtin.zeroCells z.cells (grownCap w bR.length 0 e-bR.length)) (.slice (some ⟨w.heap.size,0,none⟩) bR.length (grownCap w bR.length 0 e)) (grownCap w bR.length 0 e)
       (((ho.refl _ _).drew).alloc (dN _) _) (ov _ _) (by simp) (by simpa using nz) (by
        simp only[rM,l8,size_zeroCells,nD.len,p2,<-fX];exact hR _ (by omega))
       (fun fA j d aB=>by simp[c5]at aB) (fun x u aa=>by
        simp only[bY,Nat.zero_mul,dq];rw[iq,aZ (by have:=(ey.1 aa).1;simpa using this)];simpa using aa) (fun e he=>by cases he)⟩
     | row R k es b off cap arr h6 cR us ao ed af ai gP hu aB=>
      have iK:ω b=.tok t [(i,j)]:=ed;obtain⟨wI,ux,vR,ic⟩:=aT.owned b (by rw[iK];simp);rw[ao]at ic;simp only[aO,Obj.cells.injEq]at ic;obtain⟨rfl,rfl,rfl⟩:=ic;have wu:b<w.heap.size:=(jz.1 ao).1;by_cases o4:es.length+bR.length<=cap
      ·have hmul:(es.length+bR.length)*h0.size<=cap*h0.size:=hR _ o4;rw[fX]at hmul;have wH:=nD.len;have dV:off+es.length*h0.size+news.length<=arr.size:=by omega
       have fj:=E3 (P:=P) (ty:=ty) bq lf w b off es.length cap arr h6 ao ⟨cg,k2,none⟩ bR.length lP news nD.len jF nD.one o4 dV;generalize oh:(arr.toList.take (off+es.length*h0.size)++news++arr.toList.drop (off+es.length*h0.size+news.length)).toArray=b5 at fj;have ix:∀x:Nat,b5[x]?=if off+es.length*h0.size<=x/\x<off+es.length*h0.size+news.length then news[x-(off+es.length*h0.size)]? else arr[x]?:=by
        intro x;rw[<-oh,nY,B' (by simpa using dV)];simp
       have yR:b5.size=arr.size:=by rw[<-oh];simp;omega
       have kq:=setRow_heap w b arr b5 h6 (0,0) ao;have kQ:∀c,c<w.heap.size->ω c≠.tok t [(i,j)]->(w.setRow b b5).heap[c]?=w.heap[c]?:=fun c _ af=>setRow_other w b c b5 fun e=>af (by rw[e];exact iK)
       have mM:∀gS gT d u,bX w ω (fun q o=>o=.tok t ((i,j)::(gS,gT)::q)) d u->bX (w.setRow b b5) ω (fun q o=>o=.tok t ((i,j)::(gS,gT)::q)) d u:=by
        intro gS gT d u qT;refine qT.frame fun c q af eh=>⟨eh,kQ c af fun e=>?_⟩
        rw[e]at eh;simp at eh
       refine⟨_,_,fj,fin (w.setRow b b5) ω _ kQ (fun _ _=>rfl) Iq (aT.below.setRow wI b5) (fun c gD=>?_) (bX.V8 q9 ao kq yR (fun x aa=>by rw[ix,a6 (by omega)]) (fun o e aN=>by rw[<-e];exact aN) (fun c p q af aA=>⟨aA,kQ c af fun e=>by rw[e]at aA;simp at aA⟩)) ?_⟩
       ·obtain⟨ax,jb,jv,aF⟩:=aT.owned c gD;by_cases qS:c=b
        ·subst qS;exact⟨ax,b5,h6,kq⟩
        exact⟨ax,jb,jv,(setRow_other w b c b5 qS).trans aF⟩
       have fa:∀x kS d,c5 (es++bR) x kS=some d->∃u,b5[off+x*h0.size+kS]?=some u/\bX (w.setRow b b5) ω (fun q o=>o=.tok t ((i,j)::(x,kS)::q)) d u:=by
        intro x kS d ef;rw[Cb]at ef;split at ef
        ·rename_i aa;have A0:=(tP gP ef).2;refine⟨us x kS,?_,mM x kS d _ (aB x kS d ef)⟩;have:(x+1)*h0.size<=es.length*h0.size:=hR _ aa;rw[fX]at this;rw[ix,a6 (by omega),hu x kS d ef]
        rename_i aa;obtain⟨u,h1,rfl,U⟩:=D' _ _ _ ef;have aaz:=(ey.1 h1).1;have yS:x*h0.size=es.length*h0.size+(x-es.length)*h0.size:=by rw[<-fX];congr 1;omega
        refine⟨u,?_,.v _ _ U⟩;rw[ix,aZ (by omega),<-h1]
        congr 1
        omega
       have hlen:(es++bR).length=es.length+bR.length:=k7;have q':∀e∈es++bR,e.length=h0.size:=by
        intro e' he;rcases gV.1 he with h | h
        ·exact gP e' h
        exact nD.rows e' h
       have:=bX.row (w:=w.setRow b b5) (ω:=ω) (fun q o=>o=.tok t ((i,j)::q)) h0.size (es++bR) b off cap b5 h6 (0,0) (fun x j=>b5.getD (off+x*h0.size+j) undef) kq iK (by omega) (by omega) q'
        (fun x j d aB=>by obtain⟨u,h1,_⟩:=fa x j d aB;rw[h1];simp[eu,h1])
        (fun x j d aB=>by obtain⟨u,h1,U⟩:=fa x j d aB;have:b5.getD (off+x*h0.size+j) undef=u:=(by simp[eu,h1]);rw[this];exact U)
       rw[hlen]at this;exact this
      have hmul:es.length*h0.size<=cap*h0.size:=hR _ af;have nB:((arr.toList.drop off).take (es.length*h0.size)).length=es.length*h0.size:=by simp;omega
      have fj:=run_append_grow (P:=P) w iD ty e h0 z bq lf aW ⟨b,off,none⟩ es.length cap ((arr.toList.drop off).take (es.length*h0.size)) nB (fun j v bz=>by
       rw[ry,cell_of_row w b (off+j) arr h6 (0,0) ao];rw[hj]at bz;split at bz
       ·rw[gU]at bz;simpa using bz
       cases bz) ⟨cg,k2,none⟩ bR.length lP news nD.len jF (by omega) (by omega) (growslice_fits (by omega) gj)
      have nz:=grownCap_ge w (es.length+bR.length) cap e;exact⟨_,_,fj,grown _ (((arr.toList.drop off).take (es.length*h0.size)).toArray++news.toArray++Builtin.zeroCells z.cells (grownCap w (es.length+bR.length) cap e-(es.length+bR.length))) _ (grownCap w (es.length+bR.length) cap e)
       (((ho.refl _ _).drew).alloc (dN _) _) (ov _ _) rfl nz (by
        simp only[rM,l8,size_zeroCells,nD.len,p2,nB,<-fX];exact hR _ (by omega))
       (fun fA j d d'=>by
        obtain⟨yK,eA⟩:=tP gP d';have:(fA+1)*h0.size<=es.length*h0.size:=hR _ yK;rw[fX]at this;refine⟨us fA j,?_,aB fA j d d'⟩;rw[iq,aZ (by simp only[rM,l8,nB];omega),iq,aZ (by simp only[l8,nB];omega)];rw[nY,hj,aZ (by omega),gU,<-hu fA j d d'];simp only[iX]
        congr 1
        omega)
       (fun x u aa=>by
        have gk:=(ey.1 aa).1;rw[iq,aZ (by simp only[rM,l8,nB];omega),iq,a6 (by simp only[l8,nB];omega)];simp only[l8,nB,nY];rw[<-aa]
        congr 1
        omega) gP⟩
    cases h
   cases h
  cases h
 cases h
theorem cE.X9{P:Program}{w0:eN}{st br:aG}{a:Act}{w:World}{ω:Own}{τ:Nat->Nat×Value}{d:Nat}{iD ty:TypeId}{t j k:Nat}{es:List (List D)}{x y:Operand}{ans cj:List b6}{obs:List Prop}
  (aT:cE w0 st a w ω τ) (hp:Sat w ω τ (.a8 t i j k es .here) (a.eval x)) (h:Ln P st d iD t i j k es y ans=some (br,cj,obs)) (aN:c8 obs):
  ∃z aJ,(Builtin.append_ #[iD,iD] ty #[a.eval x,a.eval y]).run P w=.ok z aJ/\Rel w0 br (a.put (some d) z) aJ:=by
 unfold Ln at h;split at h
 ·rename_i e cb kT esT j6 fy he Z9;split at h
  ·rename_i inf bR we y5 hi jG;split at h
   ·rename_i z aW;split at h
    ·rename_i af;simp only[aO,bx]at h;obtain⟨rfl,rfl,rfl⟩:=h;obtain⟨gj,gC,yG,Ix,IS⟩:=aN;obtain⟨pX,ZU⟩:=IS.append;refine aT.uw (p:=.one (.a8 t i j k (es++bR) .mD)) (ans:=.el j6::fy) (cj:=we) (esT:=esT) (kT:=kT) hp ?_ (obs:=((es.length+bR.length)*inf.bytes<=140737488355328)::(es.length+bR.length<=9223372036854775807)::(esT[i]?=some j6)::(j6[j]?=some (.J k es))::y5) ⟨gj,gC,yG,Ix,ZU⟩ (aT.root Z9) (E5 pX);unfold Sx.uw;simp only[he,hi,jG,aW];rw[aZ af]
    cases h
   cases h
  cases h
 cases h
