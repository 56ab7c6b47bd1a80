import Derived.Test.YtdchjefneblpgaaGreatR11
set_option linter.unusedVariables false
set_option linter.unusedSimpArgs false
namespace Go.Sx
open Go.RowKit
def GJ(P:Program)(st:aD)(d:Nat)(elem:TypeId)(r:List cb):Stepped:=
 match P.info? elem with
 | some i=>match i.zero with
  | some z=>if d<dj then some (⟨(st.ki d []).env.set d (.one (.fr d (z.cells.toList.map .v))),(st.ki d []).boxes⟩,r,[]) else none
  | none=>none
 | none=>none
variable{w0:eN}{st bB:aD}{a:Act}{w:World}{ω:Own}{τ:Nat->Nat×Value}{d:Nat}{ans cq:List cb}{obs:List Prop}
theorem cD.ab7{P:Program}{elem:TypeId}(aZ:cD w0 st a w ω τ)
  (h:GJ P st d elem ans=some (bB,cq,obs)):
  ∃z aM,(Instr.alloc elem true (.tuple #[])).run P w=.ok z aM/\Rel w0 bB (a.put (some d) z) aM:=by
 unfold GJ at h;split at h
 ·rename_i i hi;split at h
  ·rename_i z aL;split at h
   ·rename_i aF;simp only[aX,bH]at h;obtain⟨rfl,_,_⟩:=h;have h1:=aZ.ki d aF [] (k:=0) (cap:=0) (es:=[]) (arr:=z.cells) (ty:=elem) ((hq.refl _ _).alloc (fl _) (.cells z.cells elem)) (oX _ _) (fl _) (by simp) (by simp)
     (by grind[dd])
    refine⟨.pointer (some ⟨w.heap.size,0,none⟩),w.alloc (.cells z.cells elem),by simp_all[Instr.alloc,zeroValue,typeInfo,newVar,newRow],_,_,h1.1.put (p:=.one (.fr d (z.cells.toList.map .v))) ?_⟩;refine⟨w.heap.size,elem,z.cells,rfl,by simp[qF],oX _ _,by simp,fun j c al=>?_⟩;rw[eg,b5]at al;obtain⟨u,hu,rfl⟩:=al;exact⟨u,by grind,rfl⟩
   cases h
  cases h
 cases h
def fz(t:Nat):Tag->Option Tag
 | .free=>some .free
 | .own s=>if s=t then none else some (.own s)
 | .ro s=>if s=t then none else some (.ro s)
variable{o:dp}
theorem Hy{t:Nat}{g ek:Tag}{q:List (Nat×Nat)}(h:fz t g=some ek)(aB:g.R q o):ek=g/\∀ee,o≠.tok t ee:=by
 cases g with
 | free=>simp_all[fz,aX,Tag.R]
 | own s=>
  simp_all[fz,aX,Tag.R,dp.tok.injEq]
 | ro s=>
  simp only[fz]at h;split at h
  ·cases h
  rename_i ai;simp only[aX]at h;subst h;simp only[Tag.R]at aB;grind
variable{s:Nat}
theorem Nk{x:Value}(this:a.tmps[s]?=some x):a.put (some s) x=a:=by
 simp only[Act.put];have:a.tmps.setIfInBounds s x=a.tmps:=by
  grind
 rw[this]
def aG.nX:aG->fg
 | .v x=>.v x
 | .bR c=>.v (.bool c)
 | .J t k es=>.J t k es
 | _=>.cu
def LQ(p:aH):Option (List fg):=p.leaves.map (·.map aG.nX)
theorem aG.S4{l:aG}{y:Value}(h:Sat w ω τ l y):sl w ω τ l.nX y:=by
 cases l<;>first | exact h | exact trivial
def fg.leaf:fg->aG
 | .cu=>.cu
 | .v x=>.v x
 | .J t k es=>.J t k es
theorem fg.dX{τ:Nat->Nat×Value}{c:fg}{y:Value}(h:sl w ω τ c y):Sat w ω τ c.leaf y:=by
 cases c<;>exact h
def Hz(P:Program)(st:aD)(ty:TypeId)(s:Nat)(q:aH)(ans:List cb):Stepped:=
 match (st.env.getD s .cu).leaf,LQ q,P.info? ty with
 | some (.fr t vs),some cs,some i=>
  if cs.length=i.size/\cs.length<=vs.length then
   let st2:=st.map (aG.cG (fz t) fun _=>true)
   some (⟨st2.env.set s (.one (.fr t ((cs++vs.drop cs.length).map (fg.cG (fz t))))),st2.boxes⟩,ans,[])
  else none
 | _,_,_=>none
theorem cD.aBq{P:Program}{ty:TypeId}{q:aH}{v:Value}
  (aZ:cD w0 st a w ω τ) (aC:cT (Sat w ω τ) q v) (h:Hz P st ty s q ans=some (bB,cq,obs)):
  ∃aM,(Instr.storeAt ty (a.eval (.tmp s)) v).run P w=.ok () aM/\Rel w0 bB a aM:=by
 unfold Hz at h;split at h
 ·rename_i t vs cs i e1 e2 cx;split at h
  ·rename_i al;obtain⟨c1,c2⟩:=al;simp only[aX,bH]at h;obtain⟨rfl,_,_⟩:=h;unfold LQ at e2;rw[b5]at e2;obtain⟨ls,e2,rfl⟩:=e2;obtain⟨xn,rz⟩:=aH.zM e2 aC;have dN:v.cells.size=ls.length:=xn.1;rw[cp]at c1 c2;have jI:st.env[s]?=some (.one (.fr t vs)):=by
    rw[lZ]at e1;cases e:st.env[s]? with
    | none=>grind[aH.leaf]
    | some p=>
     rw[e]at e1;simp only[l0]at e1;cases p with
     | gB as=>cases e1
     | aR x=>
      cases x with
      | agg ls=>cases e1
      | one l=>grind[aH.leaf,aX]
   obtain⟨y,bk,eT⟩:=aZ.env s _ jI;obtain⟨b,jy,arr,rfl,aq,zv,aes,sJ⟩:=eT;have sA:a.eval (.tmp s)=ptrTo b:=by simp_all[Act.eval]
   have fQ:=run_storeCells_at P b 0 jy v.cells.toList 0 arr w zv (by simp;omega) rz;obtain⟨cg,qj⟩:∃cg,cg=(arr.toList.take (0+0)++v.cells.toList++arr.toList.drop (0+0+v.cells.toList.length)).toArray:=⟨_,rfl⟩
   rw[<-qj]at fQ;have acP:cg=(v.cells.toList++arr.toList.drop v.cells.size).toArray:=by grind
   refine⟨w.setRow b cg,?_,?_⟩
   ·rw[sA];simp only[ptrTo,Instr.storeAt,Instr.sureAddr,Sem.run_bind,Sem.run_pure,Result.andThen_ok,storeVar,sizeOf,typeInfo,run_program,cx];grind
   have me:=setRow_heap w b arr cg jy (0,0) zv;have bp:mY w ω τ (w.setRow b cg) ω τ (fz t) (fun _=>true):=by
    refine⟨?_,?_,fun id c _ al=>al,rfl,fun _ _=>rfl⟩
    ·intro g ek c q ar _ aC;obtain⟨rfl,Ci⟩:=Hy ar aC;grind[setRow_other]
    intro g ek y ar bk;cases g with
    | free=>simp_all[fz,aX,trivial]
    | own x=>
     grind[fz,aX]
    | ro x=>
     simp_all[fz,aX,trivial]
   have h1:cD w0 (st.map (aG.cG (fz t) fun _=>true)) a (w.setRow b cg) ω τ:=by
    refine aZ.dG _ bp.sat (aZ.below.setRow (aZ.owned b (by rw[aq];simp)).1 _) ?_ (fun id c al=>⟨al,setRow_other w b c _ fun e=>by grind⟩) (fun id c al=>al) (fun _ _=>rfl);intro c al;obtain⟨h1,ln,lG,U⟩:=aZ.owned c al;grind[setRow_other]
   have R6:cg.size=(ls.map aG.nX++vs.drop (ls.map aG.nX).length).length/\∀(j:Nat) (c:fg),(ls.map aG.nX++vs.drop (ls.map aG.nX).length)[j]?=some c->∃u,cg[j]?=some u/\sl w ω τ c u:=by
    refine⟨by grind,fun j c al=>?_⟩;rw[acP,p1];by_cases a8:j<ls.length
    ·rw[EZ (by grind),eg,b5]at al;obtain⟨l,aj,rfl⟩:=al;obtain⟨u,ha,fH⟩:=xn.2 j l aj;grind[aG.S4]
    grind
   have Sy:=GK bp.nX R6.1 R6.2;have U:=h1.put (d:=s) (p:=.one (.fr t ((ls.map aG.nX++vs.drop (ls.map aG.nX).length).map (fg.cG (fz t))))) (v:=ptrTo b) ⟨b,jy,cg,rfl,aq,me,Sy⟩;rw[Nk bk]at U;exact⟨ω,τ,U⟩
  cases h
 cases h
def LU(st:aD)(d:Nat):Option aD:=
 match st.env.getD d .cu with
 | .aR (.one (.fr t vs))=>
  if d<dj then some ⟨(st.env.map (aH.map (aG.cG (fz t) (kD d)))).set d (.one (.ptr d 0)),(d,vs.map fun c=>aG.cG (fz t) (kD d) c.leaf)::(qM d st.boxes).map fun x=>(x.1,x.2.map (aG.cG (fz t) (kD d)))⟩ else none
 | _=>none
theorem aw2(h:Rel w0 st a w)(aP:LU st d=some bB):Rel w0 bB a w:=by
 obtain⟨ω,τ,h⟩:=h;unfold LU at aP;split at aP
 ·rename_i t vs he;split at aP
  case isFalse=>cases aP
  rename_i vy;simp only[aX]at aP;subst aP;have jI:st.env[d]?=some (.one (.fr t vs)):=by
   grind
  obtain⟨v,uh,ui⟩:=h.env d _ jI;obtain⟨b,ty,arr,rfl,aq,zv,aes,sJ⟩:=ui
  let bc:Own:=fun c=>if c=b then .box d else match ω c with | .box i=>if i=d then .bJ else .box i | o=>o
  have pv:bc b=.box d:=by simp[bc]
  have jK:∀c,c≠b->bc c=(match ω c with | .box i=>if i=d then .bJ else .box i | o=>o):=by
   grind
  have bp:mY w ω τ w bc τ (fz t) (kD d):=by
   refine⟨?_,?_,?_,rfl,fun _ _=>rfl⟩
   ·intro g ek c q ar _ aC;obtain⟨rfl,Ci⟩:=Hy ar aC;have kc:c≠b:=fun e=>Ci [] (by grind)
    refine⟨?_,rfl⟩;rw[jK c kc];cases ek with
    | free=>grind[Tag.R]
    | own s=>grind[Tag.R]
    | ro s=>
     simp only[Tag.R]at aC ⊢;grind
   ·intro g ek y ar bk;cases g with
    | free=>simp_all[fz,aX,trivial]
    | own s=>
     grind[fz,aX]
    | ro s=>
     simp_all[fz,aX,trivial]
   intro i c hp al;have kc:c≠b:=fun e=>by grind
   simp_all[kD,cc]
  have rA:o8 w0 w bc:=by
   intro c al;by_cases e:c=b
   ·subst e;exact h.owned c (by rw[aq];simp)
   rw[jK c e]at al;exact h.owned c (fun e'=>by grind)
  have key:=h.JY (bs:=(d,vs.map fun c=>aG.cG (fz t) (kD d) c.leaf)::(qM d st.boxes).map fun x=>(x.1,x.2.map (aG.cG (fz t) (kD d)))) bp h.below rA ?_ (fun i c hi al=>by
   grind)
  ·have:=key.put (d:=d) (p:=.one (.ptr d 0)) (v:=ptrTo b) ⟨b,pv,rfl⟩;rw[Nk uh]at this;exact⟨bc,τ,this⟩
  intro i fJ aj;simp only[dI]at aj;split at aj
  ·rename_i hi;subst hi;have e:=gX aj;subst e;refine⟨b,arr,ty,pv,?_,zv,by grind,fun j l a8=>?_⟩
   ·grind
   rw[eg,b5]at a8;obtain⟨c,al,rfl⟩:=a8;obtain⟨u,ha,fH⟩:=sJ j c al;exact⟨u,ha,bp.sat _ _ (fg.dX fH)⟩
  rename_i hi;rw[uM,b5]at aj;obtain⟨kh,bE,rfl⟩:=aj;have cU:i≠d:=fun e=>hi e.symm
  rw[Az cU]at bE;obtain⟨c,cg,sd,al,hu,bK,eT⟩:=h.boxes i kh bE;refine⟨c,cg,sd,bp.box i c (by grind[kD]) al,?_,bK,eT.map bp.sat⟩;grind
 cases aP
def JM(st:aD)(d:Nat):Option aD:=
 match st.env.getD d .cu,dI d st.boxes with
 | .aR (.one (.ptr dR 0)),some ls=>
  if dR=d/\d<dj then some ⟨(st.env.map (aH.map (aG.cG (fz d) (kD d)))).set d (.one (.fr d ((ls.map aG.nX).map (fg.cG (fz d))))),(qM d st.boxes).map fun x=>(x.1,x.2.map (aG.cG (fz d) (kD d)))⟩ else none
 | _,_=>none
theorem aw3(h:Rel w0 st a w)(aP:JM st d=some bB):Rel w0 bB a w:=by
 obtain⟨ω,τ,h⟩:=h;unfold JM at aP;split at aP
 ·rename_i dR ls he dk;split at aP
  case isFalse=>cases aP
  rename_i vy;obtain⟨rfl,vy⟩:=vy;simp only[aX]at aP;subst aP;have jI:st.env[dR]?=some (.one (.ptr dR 0)):=by
   grind
  obtain⟨v,uh,ui⟩:=h.env dR _ jI;obtain⟨ch,iq,rfl⟩:=ui;obtain⟨b,arr,ty,aq,acV,zv,xn⟩:=h.boxes dR ls dk;have vw:ch=b:=acV ch iq;subst vw
  let bc:Own:=fun c=>if c=ch then .tok dR [] else match ω c with | .tok s q=>if s=dR then .bJ else .tok s q | o=>o
  have pv:bc ch=.tok dR []:=by simp[bc]
  have jK:∀c,c≠ch->bc c=(match ω c with | .tok s q=>if s=dR then .bJ else .tok s q | o=>o):=by
   grind
  have bp:mY w ω τ w bc τ (fz dR) (kD dR):=by
   refine⟨?_,?_,?_,rfl,fun _ _=>rfl⟩
   ·intro g ek c q ar _ aC;obtain⟨rfl,Ci⟩:=Hy ar aC;have kc:c≠ch:=fun e=>by
     rw[e,aq]at aC;cases ek with
     | free=>cases aC
     | own s=>cases aC
     | ro s=>
      rcases aC with aC | ⟨ee,aC⟩
      ·cases aC
      cases aC
    grind
   ·intro g ek y ar bk;cases g with
    | free=>simp_all[fz,aX,trivial]
    | own s=>
     grind[fz,aX]
    | ro s=>
     simp_all[fz,aX,trivial]
   intro i c hp al;simp only[kD,cc]at hp;grind
  have rA:o8 w0 w bc:=by
   intro c al;by_cases e:c=ch
   ·subst e;exact h.owned c (by rw[aq];simp)
   rw[jK c e]at al;exact h.owned c (fun e'=>by grind)
  have R3:∀i c,bc c=.box i->ω c=.box i/\c≠ch:=by
   grind
  have key:=h.JY (bs:=(qM dR st.boxes).map fun x=>(x.1,x.2.map (aG.cG (fz dR) (kD dR)))) bp h.below rA ?_ (fun i c _ al=>(R3 i c al).1)
  ·have:=key.put (d:=dR) (p:=.one (.fr dR ((ls.map aG.nX).map (fg.cG (fz dR))))) (v:=ptrTo ch) ⟨ch,ty,arr,rfl,pv,zv,GK bp.nX (by rw[xn.1];simp) (fun j c al=>by
    rw[eg,b5]at al;obtain⟨l,aj,rfl⟩:=al;obtain⟨u,ha,fH⟩:=xn.2 j l aj;grind[aG.S4])⟩
   rw[Nk (show a.tmps[dR]?=some (ptrTo ch) from uh)]at this;exact⟨bc,τ,this⟩
  intro i fJ aj;rw[uM,b5]at aj;obtain⟨kh,bE,rfl⟩:=aj;have cU:i≠dR:=fun e=>by grind[Mh]
  rw[Az cU]at bE;obtain⟨c,cg,sd,al,hu,bK,eT⟩:=h.boxes i kh bE;exact⟨c,cg,sd,bp.box i c (by grind[kD]) al,fun dA er=>hu dA (R3 i dA er).1,bK,eT.map bp.sat⟩
 cases aP
def CZ:List Nat->aD->Option aD
 | [],st=>some st
 | d::ds,st=>(JM st d).bind (CZ ds)
theorem UA:∀{ds:List Nat} {st bB:aD},Rel w0 st a w->CZ ds st=some bB->Rel w0 bB a w
 | [],st,bB,h,aP=>by grind[CZ,aX]
 | d::ds,st,bB,h,aP=>by
  simp only[CZ,nM]at aP;obtain⟨st1,h1,U⟩:=aP;exact UA (aw3 h h1) U
def C0:List Nat->aD->Option aD
 | [],st=>some st
 | d::ds,st=>(LU st d).bind (C0 ds)
theorem UB:∀{ds:List Nat} {st bB:aD},Rel w0 st a w->C0 ds st=some bB->Rel w0 bB a w
 | [],st,bB,h,aP=>by grind[C0,aX]
 | d::ds,st,bB,h,aP=>by
  simp only[C0,nM]at aP;obtain⟨st1,h1,U⟩:=aP;exact UB (aw2 h h1) U
def lz(s n:Nat):Tag->Option Tag
 | .own x=>if x=s then some (.ro n) else if x=n then none else some (.own x)
 | .ro x=>if x=s then some (.ro n) else if x=n then none else some (.ro x)
 | .free=>some .free
def kE(s n l:Nat):dp->dp
 | .tok x q=>if x=s then (match q with | []=>.tok n [] | (i,j)::r=>if i<l then .bJ else .tok n ((i-l,j)::r)) else if x=n then .bJ else .tok x q
 | o=>o
variable{l n:Nat}
theorem Nl(h:kE s n l o≠.bJ):o≠.bJ:=by rintro rfl;exact h rfl
theorem wu{id:Nat}:kE s n l o=.box id<->o=.box id:=by
 cases o with
 | bJ=>simp[kE]
 | box i=>simp[kE]
 | tok x q=>
  simp only[kE];grind
theorem UC{q:List (Nat×Nat)}:kE s n l (.tok s q)=.bJ\/∃ee,kE s n l (.tok s q)=.tok n ee:=by
 simp only[kE,fU];grind
theorem Nn{k:Nat}{z:Value}(jM:n<dj):mY w ω τ w (fun b=>kE s n l (ω b)) (gU τ n k z) (lz s n) (fun _=>true):=by
 refine⟨?_,?_,?_,rfl,fun t bG=>by simp only[gU];grind⟩
 ·intro g ek b q ar _ aC;refine⟨?_,rfl⟩;cases g with
  | free=>simp only[lz,aX]at ar;subst ar;simp only[Tag.R]at aC ⊢;rw[aC];rfl
  | own x=>
   simp only[lz]at ar;simp only[Tag.R]at aC;split at ar
   ·grind[aX,Tag.R,UC]
   rename_i ai;split at ar
   ·cases ar
   rename_i aP;simp only[aX]at ar;subst ar;simp_all[Tag.R,kE,bq]
  | ro x=>
   simp only[lz]at ar;simp only[Tag.R]at aC;split at ar
   ·rename_i ai;simp only[aX]at ar;subst ar;subst ai;rcases aC with aC | ⟨ee,aC⟩
    ·rw[aC];exact .inl rfl
    rw[aC];exact UC
   rename_i ai;split at ar
   ·cases ar
   rename_i aP;simp only[aX]at ar;subst ar;rcases aC with aC | ⟨ee,aC⟩
   ·rw[aC];exact .inl rfl
   rw[aC];simp only[kE,bq ai,bq aP];exact .inr ⟨ee,rfl⟩
 ·intro g ek y ar bk;cases g with
  | free=>simp only[lz,aX]at ar;subst ar;trivial
  | own x=>
   simp only[lz]at ar;split at ar
   ·simp only[aX]at ar;subst ar;trivial
   rename_i ai;split at ar
   ·cases ar
   rename_i aP;simp only[aX]at ar;subst ar;simp_all[Tag.ev,gU,bq]
  | ro x=>
   simp only[lz]at ar;split at ar
   ·simp only[aX]at ar;subst ar;trivial
   split at ar
   ·cases ar
   simp only[aX]at ar;subst ar;trivial
 intro id b _ aq;exact wu.2 aq
def pJ(s d:Nat):Nat:=if s<dj then s else d
def Bk(P:Program)(st:aD)(d:Nat)(t:TypeId)(p:aH)(c5 hi jR:Option Operand)(ans:List cb):Stepped:=
 match rP P t,p.leaf,jR with
 | some (_,k),some (.J (.own s) cf es),none=>
  if k=cf/\pJ s d<dj then
   match ny st c5,ny st hi with
   | some l,some h=>
    let st2:=st.map (aG.cG (lz s (pJ s d)) fun _=>true)
    some (⟨st2.env.set d (.one (.J (.own (pJ s d)) k ((es.drop (l.getD 0).toNat).take ((h.getD es.length).toNat-(l.getD 0).toNat)))),st2.boxes⟩,ans,[0<=l.getD 0,l.getD 0<=h.getD es.length,h.getD es.length<=es.length])
   | _,_=>none
  else none
 | _,_,_=>none
theorem cD.Bk{P:Program}{t:TypeId}{p:aH}{v:Value}{c5 hi jR:Option Operand}
  (aZ:cD w0 st a w ω τ) (hp:cT (Sat w ω τ) p v) (h:Bk P st d t p c5 hi jR ans=some (bB,cq,obs)) (aW:c8 obs):
  ∃z,(Instr.sliceAt t v (c5.map a.eval) (hi.map a.eval) (jR.map a.eval)).run P w=.ok z w/\Rel w0 bB (a.put (some d) z) w:=by
 unfold Go.Sx.Bk at h;split at h
 ·rename_i e k s cf es e1 e2;split at h
  ·rename_i hk;obtain⟨rfl,ai⟩:=hk;split at h
   ·rename_i l bK cx eD;simp only[aX,bH]at h;obtain⟨rfl,_,rfl⟩:=h;obtain⟨hu,i,qo,aL⟩:=xH e1;obtain⟨aB,_⟩:=aH.dX e2 hp;obtain⟨dt,dm,eY,_⟩:=aW;have aA:=Dn aZ cx;have aI:=Dn aZ eD;have ni:(c5.map a.eval=none/\l.getD 0=0)\/∃k,c5.map a.eval=some (.int k (l.getD 0)):=by
     grind
    have sB:(hi.map a.eval=none/\bK.getD es.length=es.length)\/∃k,hi.map a.eval=some (.int k (bK.getD es.length)):=by
     grind
    have key:∀(L m:Nat) (z:Value),L<=m->bZ w (fun b=>kE s (pJ s d) L (ω b)) (Tag.own (pJ s d)).R (.J k ((es.drop L).take (m-L))) z->
      Rel w0 ⟨(st.map (aG.cG (lz s (pJ s d)) fun _=>true)).env.set d (.one (.J (.own (pJ s d)) k ((es.drop L).take (m-L)))),(st.map (aG.cG (lz s (pJ s d)) fun _=>true)).boxes⟩ (a.put (some d) z) w:=by
     intro L m z _ F2;have h1:cD w0 (st.map (aG.cG (lz s (pJ s d)) fun _=>true)) a w (fun b=>kE s (pJ s d) L (ω b)) (gU τ (pJ s d) k z):=
      aZ.dG _ (Nn (by omega)).sat aZ.below (fun b aq=>aZ.owned b (Nl aq)) (fun id b aq=>⟨wu.2 aq,rfl⟩) (fun id b aq=>wu.1 aq)
       (fun t bG=>by simp only[gU];grind)
     exact⟨_,_,h1.put (p:=.one (.J (.own (pJ s d)) k ((es.drop L).take (m-L)))) ⟨F2,by simp[Tag.ev,gU]⟩⟩
    cases aB with
    | nil _ _ a0=>
     simp only[ej] at*;have cd:l.getD 0=0:=by omega
     have aco:bK.getD ((0:Nat):Int)=0:=by omega
     refine⟨.slice a0 0 0,?_,?_⟩
     ·simp only[Instr.sliceAt,Sem.run_bind,run_underlying hu,Result.andThen_ok,Instr.slice,Option.map_none];rw[Dm ni sB dt dm eY];simp_all[sizeOf,typeInfo]
     refine key _ _ _ (by omega) ?_;simp only[List.drop_nil,List.take_nil];exact .nil _ _ _
    | row R k es b off cap arr ty cM us aq ef al dN hk kA aF=>
     refine⟨sliced (some ⟨b,off,none⟩) (l.getD 0).toNat (bK.getD es.length).toNat cap k,?_,?_⟩
     ·simp only[Instr.sliceAt,Sem.run_bind,run_underlying hu,Result.andThen_ok,Instr.slice,Option.map_none];rw[Dm ni sB dt dm (by omega)];simp_all[sizeOf,typeInfo,sliced]
     refine key _ _ _ (by omega) ?_;have:=bZ.sub (.row _ k es b off cap arr ty cM us aq ef al dN hk kA aF) (l:=(l.getD 0).toNat) (m:=(bK.getD es.length).toNat) (by omega) (by omega)
      (jF:=fun q o=>match q with | []=>o=.tok s [] | (i,j)::r=>o=.tok s ((i+(l.getD 0).toNat,j)::r)) (fun o h=>h) (fun i j q o aDa h=>by
       grind[Tag.R,Nat.sub_add_cancel])
     refine this.frame fun c q _ aC=>⟨?_,rfl⟩
     simp only[Tag.R];cases q with
     | nil=>grind[kE]
     | cons x r=>
      obtain⟨i,j⟩:=x;simp only at aC;rw[aC];have cC:¬(i+(l.getD 0).toNat<(l.getD 0).toNat):=by omega
      simp_all[kE,fU,bq,Nat.add_sub_cancel]
   cases h
  cases h
 cases h
end Go.Sx
namespace Go.Sx
open Go.RowKit
def laid(arr:Array Value)(o:Nat)(cs:List Value):Array Value:=(arr.toList.take o++cs++arr.toList.drop (o+cs.length)).toArray
theorem rT{arr:Array Value}{o:Nat}{cs:List Value}(h:o+cs.length<=arr.size):(laid arr o cs).size=arr.size:=by
 simp[laid];omega
theorem nA{arr:Array Value}{o:Nat}{cs:List Value}(h:o+cs.length<=arr.size)(x:Nat):
  (laid arr o cs)[x]?=if o<=x/\x<o+cs.length then cs[x-o]? else arr[x]?:=by
 simp only[laid,p1,o5];have aj:(arr.toList.take o).length=o:=by simp;omega
 split
 ·rename_i aa;rw[EY (by omega),EZ (by omega),aj]
 rename_i aa;by_cases h1:x<o
 ·rw[EZ (by omega),kK,bh h1,mT]
 rw[EY (by omega),EY (by omega),aj,lY,mT]
 congr 1
 omega
theorem HA{P:Program}(w:World)(dc ba ty elem:TypeId)(k b o Ft ack:Nat)(arr:Array Value)(tb:TypeId)(a:Addr)(Ed ZY:Nat)(cs:List Value)
  (hu:P.underlying dc=some (.slice elem)) (ai:(P.info? elem).map (·.size)=some k) (aq:w.heap[b]?=some (.cells arr tb (0,0))) (aP:cs.length=Nat.min Ed Ft*k)
  (jL:∀j v,cs[j]?=some v->w.cell? (a.add j)=some v) (eh:o+cs.length<=arr.size) (h1:∀v∈cs,v.oneCell'=true):
  (Builtin.copy_ #[dc,ba] ty #[.slice (some ⟨b,o,none⟩) Ft ack,.slice (some a) Ed ZY]).run P w=.ok (goInt (Nat.min Ed Ft)) (w.setRow b (laid arr o cs)):=by
 have br:=run_firstCells_some (P:=P) w k (Nat.min Ed Ft) a Ed ZY cs aP jL;have fQ:=run_storeCells_at P b o tb cs 0 arr w aq (by simpa using eh) h1;simp only[o7]at fQ;cases aC:P.info? elem with
 | none=>simp[aC]at ai
 | some i=>
  have hi:i.size=k:=by simpa[aC]using ai
  subst hi;simp[Builtin.copy_,run_underlying hu,Builtin.lenOf,sizeOf,typeInfo,aC,br,fQ,laid]
theorem UD{P:Program}(w:World)(t e ty:TypeId)(z:Value)(bG:P.underlying t=some (.slice e))(bD:(zeroValue e).run P w=.ok z w)(b o n c:Nat)(arr:Array Value)(tb:TypeId)
  (aq:w.heap[b]?=some (.cells arr tb (0,0))) (eh:o+n*z.cells.size<=arr.size) (h1:∀v∈z.cells.toList,v.oneCell'=true):
  ∃zs:List Value,zs.length=n*z.cells.size/\(∀m,m<n*z.cells.size->zs[m]?=z.cells[m % z.cells.size]?)/\(Builtin.clear_ #[t] ty #[.slice (some ⟨b,o,none⟩) n c]).run P w=.ok (.tuple #[]) (if n=0 then w else w.setRow b (laid arr o zs)):=by
 refine⟨(Builtin.zeroCells z.cells n).toList,by simp[Builtin.zeroCells],fun m hm=>?_,?_⟩
 ·have rB:0<z.cells.size:=by
   rcases Nat.eq_zero_or_pos z.cells.size with h | h
   ·rw[h]at hm;simp at hm
   exact h
  simp only[Builtin.zeroCells,Array.toList_map,Array.toList_range,eg,List.getElem?_range hm,si];rw[getElem!_pos z.cells _ (Nat.mod_lt _ rB),nL (Nat.mod_lt _ rB)]
 have rz:∀v∈(Builtin.zeroCells z.cells n).toList,v.oneCell'=true:=by
  intro v qu;simp only[Builtin.zeroCells,Array.toList_map,fV,Array.toList_range,List.mem_range]at qu;obtain⟨i,hi,rfl⟩:=qu;have rB:0<z.cells.size:=by
   rcases Nat.eq_zero_or_pos z.cells.size with h | h
   ·rw[h]at hi;simp at hi
   exact h
  refine h1 _ ?_;rw[getElem!_pos z.cells _ (Nat.mod_lt _ rB)];simp
 have fQ:=run_storeCells_at P b o tb (Builtin.zeroCells z.cells n).toList 0 arr w aq (by simpa[Builtin.zeroCells]using eh) rz;simp only[o7]at fQ;cases n with
 | zero=>simp[Builtin.clear_,run_underlying bG]
 | succ n=>simp[Builtin.clear_,run_underlying bG,bD,fQ,laid]
def AJ(t k:Nat)(cy:List (List D)):aG->aG
 | .J (.own s) cf es=>if s=t then .J (.own t) k cy else .J (.own s) cf es
 | l=>aG.cG (fz t) (fun _=>true) l
def HB(P:Program)(st:aD)(d:Nat)(t:TypeId)(x:Operand)(c5:Option Operand)(eM:TypeId)(ans:List cb):Stepped:=
 match rP P t,(st.bp x).leaf with
 | some (e,k),some (.J (.own hL) cf es)=>
  match P.info? e with
  | some i=>
   match i.zero,ny st c5 with
   | some z,some l=>
    if k=cf/\t=eM/\z.cells.size=k/\z.cells.toList.all (fun v=>v.oneCell')=true/\d<st.env.length then
     let st2:=st.map (AJ hL k (es.take (l.getD 0).toNat++List.replicate (es.length-(l.getD 0).toNat) (z.cells.toList.map .v)))
     some (⟨st2.env.set d .cu,st2.boxes⟩,ans,[0<=l.getD 0,l.getD 0<es.length,Flat es])
    else none
   | _,_=>none
  | none=>none
 | _,_=>none
theorem cD.clear{P:Program}{w0:eN}{st bB:aD}{a:Act}{w:World}{ω:Own}{τ:Nat->Nat×Value}{d:Nat}{t eM:TypeId}{x:Operand}{c5:Option Operand}{ans cq:List cb}{obs:List Prop}
  (aZ:cD w0 st a w ω τ) (h:HB P st d t x c5 eM ans=some (bB,cq,obs)) (aW:c8 obs):
  d<a.tmps.size/\∃y z aM,(Instr.sliceAt t (a.eval x) (c5.map a.eval) none none).run P w=.ok y w/\(∀ty,(Builtin.clear_ #[eM] ty #[y]).run P w=.ok z aM)/\Rel w0 bB (a.put (some d) y) aM:=by
 unfold HB at h;split at h
 ·rename_i e k hL cf es he aa;split at h
  ·rename_i i hi;split at h
   ·rename_i z l aL Sl;split at h
    ·rename_i al;obtain⟨rfl,rfl,qw,Cx,rn⟩:=al;refine⟨by rw[aZ.size];exact rn,?_⟩;simp only[aX,bH]at h;obtain⟨rfl,_,rfl⟩:=h;obtain⟨dt,dm,FP,_⟩:=aW;obtain⟨hu,i2,oF,dN⟩:=xH he;obtain⟨aB,bK⟩:=aH.dX aa (aZ.bp x);have aA:=Dn aZ Sl;have ni:(c5.map a.eval=none/\l.getD 0=0)\/∃k,c5.map a.eval=some (.int k (l.getD 0)):=by
      rcases aA with⟨h,rfl⟩ | ⟨k,n,h,rfl⟩
      ·exact .inl ⟨h,rfl⟩
      exact .inr ⟨k,h⟩
     generalize sA:a.eval x=mS at aB bK;cases aB with
     | nil _ _ a0=>simp at dm;omega
     | row R k es b off cap arr ty cM us aq ef fP ai hk kA aF=>
      have l9:ω b=.tok hL []:=ef;obtain⟨nm,vf,wQ,iq⟩:=aZ.owned b (by rw[l9];simp);rw[aq]at iq;simp only[aX,Obj.cells.injEq]at iq;obtain⟨rfl,rfl,rfl⟩:=iq;obtain⟨L,cC⟩:∃L,L=(l.getD 0).toNat:=⟨_,rfl⟩
      have aCE:L<es.length:=by omega
      rw[<-cC];have eh:off+L*k+(es.length-L)*z.cells.size<=arr.size:=by
       rw[qw,E3,<-hQ,show L+(es.length-L)=es.length by omega];have:=iA k fP;omega
      have aeB:(zeroValue e).run P w=.ok z w:=by simp[zeroValue,typeInfo,hi,aL]
      obtain⟨zs,np,SQ,B8⟩:∃zs:List Value,zs.length=(es.length-L)*z.cells.size/\(∀m,m<(es.length-L)*z.cells.size->zs[m]?=z.cells[m % z.cells.size]?)/\
        ∀ty,(Builtin.clear_ #[t] ty #[.slice (some ⟨b,off+L*k,none⟩) (es.length-L) (cap-L)]).run P w=.ok (.tuple #[]) (if es.length-L=0 then w else w.setRow b (laid arr (off+L*k) zs)):=by
       obtain⟨zs,h1,U,aA⟩:=UD (P:=P) w t e 0 z hu aeB b (off+L*k) (es.length-L) (cap-L) arr ty aq eh (gP.1 Cx);exact⟨zs,h1,U,fun sd=>aA⟩
      rw[bq (by omega)]at B8;rw[qw]at np SQ;have c':off+L*k+zs.length<=arr.size:=by rw[np,<-qw];exact qw▸eh
      refine⟨.slice (some ⟨b,off+L*k,none⟩) (es.length-L) (cap-L),_,_,?_,B8,?_⟩
      ·simp only[Instr.sliceAt,Sem.run_bind,run_underlying hu,Result.andThen_ok,Instr.slice,Option.map_none];rw[Dm (h:=es.length) ni (.inl ⟨rfl,rfl⟩) dt (by omega) (by omega)];have cU:¬cap=L:=by omega
       simp[sizeOf,typeInfo,oF,dN,<-cC,cU,Addr.add_lit]
      -- aD4 aBm behind it
      have me:=setRow_heap w b arr (laid arr (off+L*k) zs) ty (0,0) aq;have hx:bZ (w.setRow b (laid arr (off+L*k) zs)) ω (Tag.own hL).R (.J k (es.take L++List.replicate (es.length-L) (z.cells.toList.map .v))) (.slice (some ⟨b,off,none⟩) es.length cap):=by
       have hlen:(es.take L++List.replicate (es.length-L) (z.cells.toList.map D.v)).length=es.length:=by simp;omega
       have fq:∀x j d,dd (es.take L++List.replicate (es.length-L) (z.cells.toList.map D.v)) x j=some d->∃v,d=.v v/\(laid arr (off+L*k) zs)[off+x*k+j]?=some v/\v.oneCell'=true:=by
        intro x j d ew;rw[Ds]at ew;have K4:(es.take L).length=L:=by simp;omega
        rw[K4]at ew;split at ew
        ·rename_i K8;have xl:dd es x j=some d:=by
          unfold dd at ew ⊢;rwa[kK,bh K8]at ew
         obtain⟨gk,kY⟩:=uN hk xl;have qs:∃v,d=.v v:=by
          unfold dd at xl;cases e1:es[x]? with
          | none=>simp[e1]at xl
          | some ds=>
           simp only[e1,qU]at xl;exact FP ds (f' e1) d (f' xl)
         obtain⟨v,rfl⟩:=qs;have aI:=aF x j _ xl;have a':=kA x j _ xl;generalize us x j=u at aI a';cases aI with
         | v _ _ bu=>
          refine⟨v,rfl,?_,bu⟩;rw[nA c',bq ?_,a'];have:(x+1)*k<=L*k:=iA _ K8;rw[hQ]at this;omega
        rename_i K8;unfold dd at ew;rw[E0]at ew;split at ew
        ·rename_i Cu;simp only[qU,eg,b5]at ew;obtain⟨v,bD,rfl⟩:=ew;have Ce:j<k:=by
          have:=(gh.1 bD).1;rw[Ro,qw]at this;exact this
         refine⟨v,rfl,?_,gP.1 Cx v (f' bD)⟩;obtain⟨m,hm⟩:∃m,x=L+m:=⟨x-L,by omega⟩
         subst hm;have adP:m*k+j<(es.length-L)*k:=by
          have:(m+1)*k<=(es.length-L)*k:=iA _ (by omega);rw[hQ]at this;omega
         have e1:off+(L+m)*k+j=off+L*k+(m*k+j):=by rw[hQ];omega
         rw[e1,nA c',bh (by omega),show off+L*k+(m*k+j)-(off+L*k)=m*k+j by omega,SQ _ adP,show (m*k+j) % k=j by rw[Nat.mul_comm m k,Nat.mul_add_mod,Jy Ce]];simpa using bD
        simp at ew
       have:=bZ.row (w:=w.setRow b (laid arr (off+L*k) zs)) (ω:=ω) (Tag.own hL).R k (es.take L++List.replicate (es.length-L) (z.cells.toList.map .v)) b off cap _ ty (0,0)
        (fun x j=>(laid arr (off+L*k) zs).getD (off+x*k+j) undef) me ef (by omega) (by rw[rT c'];exact ai)
        (by
         intro e' rq;rcases gg.1 rq with h | h
         ·exact hk e' (tB h)
         rw[List.eq_of_mem_replicate h];simp[qw])
        (fun x j d ew=>by obtain⟨v,rfl,h1,_⟩:=fq x j d ew;simp[eW,h1])
        (fun x j d ew=>by
         obtain⟨v,rfl,h1,U⟩:=fq x j d ew;have:(laid arr (off+L*k) zs).getD (off+x*k+j) undef=v:=by simp[eW,h1]
         rw[this];exact .v _ _ U)
       rwa[hlen]at this
      have bp:mY w ω τ (w.setRow b (laid arr (off+L*k) zs)) ω τ (fz hL) (fun _=>true):=by
       refine⟨?_,?_,fun id c _ al=>al,rfl,fun _ _=>rfl⟩
       ·intro g ek c q ar _ aC;obtain⟨rfl,Ci⟩:=Hy ar aC;exact⟨aC,setRow_other w b c _ fun e=>Ci [] (by rw[e];exact l9)⟩
       intro g ek y ar bk;cases g with
       | free=>simp only[fz,aX]at ar;subst ar;trivial
       | own x=>
        simp only[fz]at ar;split at ar
        ·cases ar
        simp only[aX]at ar;subst ar;exact bk
       | ro x=>
        simp only[fz]at ar;split at ar
        ·cases ar
        simp only[aX]at ar;subst ar;trivial
      have eT:∀lR v,Sat w ω τ lR v->Sat (w.setRow b (laid arr (off+L*k) zs)) ω τ (AJ hL k (es.take L++List.replicate (es.length-L) (z.cells.toList.map .v)) lR) v:=by
       intro lR v K3;by_cases FN:∃s cf cy,lR=.J (.own s) cf cy
       ·obtain⟨s,cf,cy,rfl⟩:=FN;simp only[AJ];split
        ·rename_i fQ;subst fQ;obtain⟨_,U⟩:=K3;simp only[Tag.ev]at U bK;rw[U]at bK;simp only[bH]at bK;obtain⟨rfl,rfl⟩:=bK;exact⟨hx,U⟩
        rename_i fQ;have:=bp.sat (.J (.own s) cf cy) v K3;simpa[aG.cG,fz,fQ]using this
       have eu:AJ hL k (es.take L++List.replicate (es.length-L) (z.cells.toList.map .v)) lR=aG.cG (fz hL) (fun _=>true) lR:=by
        unfold AJ;split
        ·exact absurd ⟨_,_,_,rfl⟩ FN
        rfl
       rw[eu];exact bp.sat lR v K3
      have h1:cD w0 (st.map (AJ hL k (es.take L++List.replicate (es.length-L) (z.cells.toList.map .v)))) a (w.setRow b (laid arr (off+L*k) zs)) ω τ:=by
       refine aZ.dG _ eT (aZ.below.setRow nm _) ?_ (fun id c al=>⟨al,setRow_other w b c _ fun e=>by rw[e,l9]at al;cases al⟩) (fun id c al=>al) (fun _ _=>rfl);intro c al;obtain⟨h1,ln,lG,U⟩:=aZ.owned c al;by_cases e:c=b
       ·subst e;exact⟨h1,_,ty,me⟩
       exact⟨h1,ln,lG,(setRow_other w b c _ e).trans U⟩
      exact⟨ω,τ,h1.put (p:=.cu) trivial⟩
    cases h
   cases h
  cases h
 cases h
end Go.Sx
namespace Go.Sx
open Go.RowKit
def bm.mu(p:aG->Prop):bm->Prop
 | .one l=>p l
 | .agg ls=>∀l∈ls,p l
def aH.mu(p:aG->Prop):aH->Prop
 | .aR a=>a.mu p
 | .gB as=>∀a∈as,a.mu p
variable{S lJ:aG->Value->Prop}{p:aG->Prop}{f:aG->aG}{ls:List aG}
theorem lm.map'(h:∀l v,p l->S l v->lJ (f l) v){vs:Array Value}(ae:∀l∈ls,p l)(ai:lm S ls vs):lm lJ (ls.map f) vs:=by
 refine⟨by simpa using ai.1,fun i l aj=>?_⟩;rw[eg,b5]at aj;obtain⟨fR,bE,rfl⟩:=aj;obtain⟨u,h1,U⟩:=ai.2 i fR bE;exact⟨u,h1,h _ _ (ae fR (f' bE)) U⟩
theorem ll.map'(h:∀l v,p l->S l v->lJ (f l) v):∀{a:bm} {y:Value},a.mu p->ll S a y->ll lJ (a.map f) y
 | .one l,y,ae,ai=>h _ _ ae ai
 | .agg ls,y,ae,⟨vs,e,ai⟩=>⟨vs,e,ai.map' h ae⟩
theorem cT.map'(h:∀l v,p l->S l v->lJ (f l) v):∀{q:aH} {y:Value},q.mu p->cT S q y->cT lJ (q.map f) y
 | .aR a,y,ae,ai=>show ll lJ (a.map f) y from ll.map' h ae (show ll S a y from ai)
 | .gB as,y,ae,⟨vs,e,aP,ai⟩=>⟨vs,e,by simpa using aP,fun i a hi=>by
   rw[eg,b5]at hi;obtain⟨a0,bE,rfl⟩:=hi;obtain⟨u,h1,U⟩:=ai i a0 bE;exact⟨u,h1,ll.map' h (ae a0 (f' bE)) U⟩⟩
variable{w0:eN}{st:aD}{a:Act}{w aM:World}{ω bc:Own}{τ:Nat->Nat×Value}
theorem cD.aBv{cZ:Nat->Nat×Value}{p:aG->Prop}(h:cD w0 st a w ω τ)(f:aG->aG)
  (eT:∀l v,p l->Sat w ω τ l v->Sat aM bc cZ (f l) v) (he:∀q∈st.env,q.mu p) (aq:∀id ls,dI id st.boxes=some ls->∀l∈ls,p l) (sw:ho w0 aM) (rA:o8 w0 aM bc)
  (tZ:∀id b,ω b=.box id->bc b=.box id/\aM.heap[b]?=w.heap[b]?) (B5:∀id b,bc b=.box id->ω b=.box id) (vA:∀t,dj<=t->cZ t=τ t):cD w0 (st.map f) a aM bc cZ where
 defers:=h.defers
 size:=by simp[aD.map,h.size]
 below:=sw
 owned:=rA
 fixed:=fun t bG=>(vA t bG).trans (h.fixed t bG)
 pinned:=fun id b hi aq=>h.pinned id b hi (B5 id b aq)
 env:=by
  intro i q aC;simp only[aD.map]at aC;rw[eg,b5]at aC;obtain⟨gJ,bE,rfl⟩:=aC;obtain⟨v,h1,U⟩:=h.env i gJ bE;exact⟨v,h1,cT.map' eT (he gJ (f' bE)) U⟩
 boxes:=by
  intro id ls aj;simp only[aD.map]at aj;rw[uM,b5]at aj;obtain⟨kh,bE,rfl⟩:=aj;obtain⟨b,arr,ty,ht,hu,bK,ai⟩:=h.boxes id kh bE;obtain⟨h1,U⟩:=tZ id b ht;exact⟨b,arr,ty,h1,fun dA er=>hu dA (B5 id dA er),U.trans bK,ai.map' eT (aq id kh bE)⟩
def aG.idx(t j:Nat):aG->List Nat
 | .aS s a b _ _ _=>if s=t/\b=j then [a] else []
 | _=>[]
def bm.idx(t j:Nat):bm->List Nat
 | .one l=>l.idx t j
 | .agg ls=>ls.flatMap (aG.idx t j)
def aH.idx(t j:Nat):aH->List Nat
 | .aR a=>a.idx t j
 | .gB as=>as.flatMap (bm.idx t j)
def aD.idx(t j:Nat)(st:aD):List Nat:=st.env.flatMap (aH.idx t j)++st.boxes.flatMap fun x=>x.2.flatMap (aG.idx t j)
def HC(t i j:Nat)(l:aG):Prop:=∀a∈l.idx t j,a=i
theorem UE{id:Nat}:∀{bs:List (Nat×List aG)} {ls:List aG},dI id bs=some ls->(id,ls)∈bs
 | [],_,h=>by cases h
 | (i,l)::r,ls,h=>by
  simp only[dI]at h;split at h
  ·rename_i hi;subst hi;rw[gX h];exact fN
  exact ff _ (UE h)
variable{t i j:Nat}
theorem aD.aeE(h:∀a∈st.idx t j,a=i):∀q∈st.env,q.mu (HC t i j):=by
 intro q aC;have h1:∀a∈q.idx t j,a=i:=fun a ae=>h a (gE _ (l2.2 ⟨q,aC,ae⟩))
 have FL:∀x:bm,(∀a∈x.idx t j,a=i)->x.mu (HC t i j):=by
  intro x aa;cases x with
  | one l=>exact aa
  | agg ls=>exact fun l aj a ae=>aa a (l2.2 ⟨l,aj,ae⟩)
 cases q with
 | aR x=>exact FL x h1
 | gB as=>exact fun x aa=>FL x fun a ae=>h1 a (l2.2 ⟨x,aa,ae⟩)
theorem aD.aeD(h:∀a∈st.idx t j,a=i){id:Nat}(aq:dI id st.boxes=some ls):∀l∈ls,HC t i j l:=by
 intro l aj a ae;exact h a (hP _ (l2.2 ⟨(id,ls),UE aq,l2.2 ⟨l,aj,ae⟩⟩))
def hW(t i j k:Nat)(cy:List (List D))(kT:Nat)(esT:List (List D)):aG->aG
 | .J (.own s) eb dW=>if s=t then .J (.own t) kT esT else .J (.own s) eb dW
 | .ep (.own s) eb dW a b=>if s=t then .ep (.own t) kT esT a b else .ep (.own s) eb dW a b
 | .J (.ro s) eb dW=>if s=t then .cu else .J (.ro s) eb dW
 | .ep (.ro s) eb dW a b=>if s=t then .cu else .ep (.ro s) eb dW a b
 | .aS s a b eb dW m=>if s=t/\b=j then (if eb=k/\m.home=true then .aS t i j k cy m else .cu) else .aS s a b eb dW m
 | .fr _ _=>.cu
 | l=>l
variable{v:Value}
theorem wl.wR{u:Value}(h1:wl w ω τ t i j u)(U:wl w ω τ t i j v):u=v:=by
 obtain⟨kT,b,off,len,cap,arr,ty,cM,eB,a2,a3,a4⟩:=h1;obtain⟨aeH,dA,aDF,aDA,na,cg,sd,aCv,eO,fo,l7,xa⟩:=U;rw[eB]at eO;simp only[bH,Value.slice.injEq,aX,Addr.mk.injEq]at eO;obtain⟨rfl,⟨rfl,rfl,_⟩,_,_⟩:=eO;rw[a3]at l7;simp only[aX,Obj.cells.injEq]at l7;obtain⟨rfl,_,_⟩:=l7;rw[a4]at xa;exact gX xa
variable{k kT:Nat}{esT:List (List D)}
theorem cD.Z0(h:cD w0 st a w ω τ){cy:List (List D)}{yT fC:Value}
  (k0:∀c,c<w.heap.size->ω c≠.tok t [(i,j)]->aM.heap[c]?=w.heap[c]?) (dr:∀c,c<w.heap.size->bc c=ω c) (LH:∀c id,¬c<w.heap.size->bc c≠.box id)
  (l':ho w0 aM) (nm:o8 w0 aM bc) (um:τ t=(kT,yT)) (pu:bZ aM bc (Tag.own t).R (.J kT esT) yT)
  (sC:wl w ω τ t i j fC) (qt:bZ aM bc (fun q o=>o=.tok t ((i,j)::q)) (.J k cy) fC) (qp:∀a∈st.idx t j,a=i):cD w0 (st.map (hW t i j k cy kT esT)) a aM bc τ:=by
 have cM:∀{R:List (Nat×Nat)->dp->Prop} {d:D} {v:Value},(∀q,¬R q (.tok t [(i,j)]))->bZ w ω R d v->bZ aM bc R d v:=by
  intro R d v aP aB;refine aB.frame fun b q bM aC=>?_
  rw[dr b bM];exact⟨aC,k0 b bM fun e=>aP q (by rw[<-e];exact aC)⟩
 have home:∀{s a b:Nat} {u:Value},wl w ω τ s a b u->wl aM bc τ s a b u:=by
  rintro s a b u ⟨kT,c,off,len,cap,arr,ty,cM,eB,a2,a3,a4⟩;have bM:c<w.heap.size:=(kt.1 a3).1;exact⟨kT,c,off,len,cap,arr,ty,cM,eB,by rw[dr c bM];exact a2,(k0 c bM (by rw[a2];simp)).trans a3,a4⟩
 refine h.aBv (p:=HC t i j) _ ?_ (aD.aeE qp) (fun id ls aq=>aD.aeD qp aq) l' nm (fun id b aq=>?_) (fun id b aq=>?_) (fun _ _=>rfl)
 ·intro l v ar ai;cases l with
  | cu=>exact trivial
  | v x=>exact ai
  | bR c=>exact ai
  | ptr id o=>
   obtain⟨c,al,e⟩:=ai;exact⟨c,by rw[dr c (h.owned.lt (by simp[al]))];exact al,e⟩
  | hr f ids=>
   obtain⟨bs,e,aP,hi⟩:=ai;refine⟨bs,e,aP,fun x id hD=>?_⟩;obtain⟨b,h1,U⟩:=hi x id hD;exact⟨b,h1,by rw[dr b (h.owned.lt (by simp[U]))];exact U⟩
  | jd ds o=>
   obtain⟨c,e,aB⟩:=ai;exact⟨c,e,cM (fun q aC=>by cases aC) aB⟩
  | fd d=>exact cM (R:=Tag.free.R) (fun q aC=>by cases aC) ai
  | e5 t0 eb dW=>exact⟨cM (R:=Tag.free.R) (fun q aC=>by cases aC) ai.1,ai.2⟩
  | fr=>exact trivial
  | J g eb dW=>
   cases g with
   | free=>exact⟨cM (R:=Tag.free.R) (fun q aC=>by cases aC) ai.1,ad⟩
   | own s=>
    simp only[hW];split
    ·rename_i e;subst e;have U:=ai.2;simp only[Tag.ev]at U;rw[um]at U;simp only[bH]at U;rw[<-U.2];exact⟨pu,um⟩
    rename_i cU;exact⟨cM (R:=(Tag.own s).R) (fun q aC=>by simp only[Tag.R,dp.tok.injEq]at aC;exact cU aC.1.symm) ai.1,ai.2⟩
   | ro s=>
    simp only[hW];split
    ·exact trivial
    rename_i cU;refine⟨cM (R:=(Tag.ro s).R) (fun q aC=>?_) ai.1,ad⟩;rcases aC with aC | ⟨ee,aC⟩
    ·cases aC
    simp only[dp.tok.injEq]at aC;exact cU aC.1.symm
  | ep g eb dW x y=>
   obtain⟨fo,rK,q4,e,oF,oK,pr⟩:=ai;cases g with
   | free=>exact⟨fo,rK,q4,e,oF,cM (R:=Tag.free.R) (fun q aC=>by cases aC) oK,ad⟩
   | own s=>
    simp only[hW];split
    ·rename_i e1;subst e1;simp only[Tag.ev]at pr;rw[um]at pr;simp only[bH]at pr;obtain⟨rfl,rfl⟩:=pr;have aj:esT.length=dW.length:=by
      obtain⟨_,_,e2⟩:=pu.len;simp only[Value.slice.injEq]at e2;exact e2.2.1.symm
     refine⟨fo,rK,q4,e,by omega,?_,?_⟩
     ·rw[aj];exact pu
     rw[aj];exact um
    rename_i cU;exact⟨fo,rK,q4,e,oF,cM (R:=(Tag.own s).R) (fun q aC=>by simp only[Tag.R,dp.tok.injEq]at aC;exact cU aC.1.symm) oK,pr⟩
   | ro s=>
    simp only[hW];split
    ·exact trivial
    rename_i cU;refine⟨fo,rK,q4,e,oF,cM (R:=(Tag.ro s).R) (fun q aC=>?_) oK,ad⟩;rcases aC with aC | ⟨ee,aC⟩
    ·cases aC
    simp only[dp.tok.injEq]at aC;exact cU aC.1.symm
  | aS s x y eb dW m=>
   simp only[hW];obtain⟨u,hu,aB,hm⟩:=ai;split
   ·rename_i al;obtain⟨rfl,rfl⟩:=al;have aa:x=i:=ar x (by simp[aG.idx]);subst aa;split
    ·rename_i al;obtain⟨rfl,adO⟩:=al;have e:=(hm adO).wR sC;subst e;have aj:cy.length=dW.length:=by
      obtain⟨_,_,e1⟩:=qt.len;obtain⟨_,_,e2⟩:=aB.len;rw[e1]at e2;simp only[Value.slice.injEq]at e2;omega
     exact⟨u,by rw[aj];exact hu,qt,fun _=>home sC⟩
    exact trivial
   rename_i al;refine⟨u,hu,cM (fun q aC=>?_) aB,fun bK=>home (hm bK)⟩;simp only[dp.tok.injEq,tC,bH]at aC;exact al ⟨aC.1.symm,aC.2.1.2.symm⟩
 ·have bM:=h.owned.lt (b:=b) (by simp[aq]);exact⟨by rw[dr b bM];exact aq,k0 b bM (by rw[aq];simp)⟩
 by_cases bM:b<w.heap.size
 ·rw[dr b bM]at aq;exact aq
 exact absurd aq (LH b id bM)
def uW(t:Nat):aG->Option (Nat×List (List D))
 | .J (.own s) k es=>if s=t then some (k,es) else none
 | _=>none
def wv(t:Nat):List aH->Option (Nat×List (List D))
 | []=>none
 | .aR (.one l)::r=>match uW t l with | some x=>some x | none=>wv t r
 | .aR (.agg ls)::r=>match ls.findSome? (uW t) with | some x=>some x | none=>wv t r
 | _::r=>wv t r
def HD(t:Nat)(st:aD):Option (Nat×List (List D)):=
 match wv t st.env with
 | some x=>some x
 | none=>(st.boxes.find? fun x=>(x.2.findSome? (uW t)).isSome).bind fun x=>(dI x.1 st.boxes).bind fun ls=>ls.findSome? (uW t)
theorem No{l:aG}(h:uW t l=some (kT,esT))(ai:Sat w ω τ l v):Sat w ω τ (.J (.own t) kT esT) v:=by
 unfold uW at h;split at h
 ·split at h
  ·rename_i e;subst e;simp only[aX,bH]at h;obtain⟨rfl,rfl⟩:=h;exact ai
  cases h
 cases h
theorem UF{vs:Array Value}(h:ls.findSome? (uW t)=some (kT,esT))(ai:lm (Sat w ω τ) ls vs):∃v,Sat w ω τ (.J (.own t) kT esT) v:=by
 obtain⟨l,aj,U⟩:=List.exists_of_findSome?_eq_some h;obtain⟨x,aa⟩:=p4.1 aj;obtain⟨u,_,hu⟩:=ai.2 x l aa;exact⟨u,No U hu⟩
theorem HE:∀{ca:List aH},wv t ca=some (kT,esT)->(∀p∈ca,∃v,cT (Sat w ω τ) p v)->∃v,Sat w ω τ (.J (.own t) kT esT) v
 | [],h,_=>by cases h
 | p::r,h,ai=>by
  have aB:∀p∈r,∃v,cT (Sat w ω τ) p v:=fun p hp=>ai p (ff _ hp)
  obtain⟨v,bD⟩:=ai p fN;cases p with
  | gB as=>exact HE (by simpa[wv]using h) aB
  | aR x=>
   cases x with
   | one l=>
    simp only[wv]at h;split at h
    ·rename_i y e;simp only[aX]at h;subst h;exact⟨v,No e bD⟩
    exact HE h aB
   | agg ls=>
    simp only[wv]at h;split at h
    ·rename_i y e;simp only[aX]at h;subst h;obtain⟨vs,_,bD⟩:=bD;exact UF e bD
    exact HE h aB
theorem cD.root(h:cD w0 st a w ω τ)(e:HD t st=some (kT,esT)):∃v,Sat w ω τ (.J (.own t) kT esT) v:=by
 unfold HD at e;split at e
 ·rename_i x e1;simp only[aX]at e;subst e;refine HE e1 fun p hp=>?_
  obtain⟨x,aa⟩:=p4.1 hp;obtain⟨v,_,bD⟩:=h.env x p aa;exact⟨v,bD⟩
 rw[nM]at e;obtain⟨x,_,e⟩:=e;rw[nM]at e;obtain⟨ls,aq,e⟩:=e;obtain⟨b,arr,ty,_,_,_,ai⟩:=h.boxes x.1 ls aq;exact UF e ai
theorem UG{cy:List (List D)}{j9:List D}{yT fC:Value}(ai:Sat w ω τ (.J (.own t) kT esT) yT)
  (k0:∀c,c<w.heap.size->ω c≠.tok t [(i,j)]->aM.heap[c]?=w.heap[c]?) (dr:∀c,c<w.heap.size->bc c=ω c)
  (sC:wl w ω τ t i j fC) (qt:bZ aM bc (fun q o=>o=.tok t ((i,j)::q)) (.J k cy) fC) (e6:esT[i]?=some j9):bZ aM bc (Tag.own t).R (.J kT (esT.set i (j9.set j (.J k cy)))) yT:=by
 obtain⟨aB,bK⟩:=ai;simp only[Tag.ev]at bK;obtain⟨aeH,ch,LY,S2,RJ,vf,wQ,aCw,eB,a2,a3,a4⟩:=sC;rw[bK]at eB;simp only[bH]at eB;obtain⟨rfl,rfl⟩:=eB;have lN:i<esT.length:=(gh.1 e6).1;have hlen:(esT.set i (j9.set j (.J k cy))).length=esT.length:=iN;generalize bk:Value.slice (some ⟨ch,LY,none⟩) S2 RJ=Rn at aB;cases aB with
 | nil=>simp at lN
 | row R kT esT b off cap arr ty cM us aq ef al dN hk hu aF=>
  simp only[Value.slice.injEq,aX,Addr.mk.injEq]at bk;obtain⟨⟨rfl,rfl,_⟩,rfl,rfl⟩:=bk;rw[aq]at a3;simp only[aX,Obj.cells.injEq]at a3;obtain⟨rfl,_,_⟩:=a3;have xi:ch<w.heap.size:=(kt.1 aq).1;have FR:j9.length=kT:=hk j9 (f' e6);have xt:∀e∈esT.set i (j9.set j (.J k cy)),e.length=kT:=by
   intro e he;rcases iB he with h | rfl
   ·exact hk e h
   rw[iN];exact FR
  have key:∀x y d,dd (esT.set i (j9.set j (.J k cy))) x y=some d->arr[LY+x*kT+y]?=some (us x y)/\bZ aM bc (fun q=>(Tag.own t).R ((x,y)::q)) d (us x y):=by
   intro x y d ew;have K9:=uN xt ew;rw[hlen]at K9;obtain⟨d0,mB⟩:=Tq hk K9.1 K9.2;have xw:=hu x y d0 mB;refine⟨xw,?_⟩;rw[M8 lN]at ew;by_cases aa:x=i
   ·subst aa;rw[bh rfl,o3]at ew;by_cases LG:j=y
    ·subst LG;rw[bh rfl,bh (by omega)]at ew;rw[<-gX ew];rw[a4]at xw;rw[<-gX xw];exact qt
    rw[bq LG]at ew;have rl:dd esT x y=some d:=by simp[dd,e6,ew]
    refine (aF x y d rl).frame fun c q al aC=>?_
    rw[dr c al];refine⟨aC,k0 c al fun e=>?_⟩;simp only[Tag.R,e,dp.tok.injEq,tC,bH]at aC;exact LG aC.2.1.2
   rw[bq aa]at ew;refine (aF x y d ew).frame fun c q al aC=>?_
   rw[dr c al];refine⟨aC,k0 c al fun e=>?_⟩;simp only[Tag.R,e,dp.tok.injEq,tC,bH]at aC;exact aa aC.2.1.1.symm
  have l9:ω ch=.tok t []:=ef;have:=bZ.row (w:=aM) (ω:=bc) (Tag.own t).R kT (esT.set i (j9.set j (.J k cy))) ch LY RJ arr ty cM us ((k0 ch xi (by rw[l9];simp)).trans aq) (by rw[dr ch xi];exact l9) (by omega) dN xt
   (fun x y d aF=>(key x y d aF).1) (fun x y d aF=>(key x y d aF).2)
  rw[hlen]at this;exact this
def Np(P:Program)(st:aD)(ty:TypeId)(t i j k:Nat)(es:List (List D))(x y:Nat)(q:aH)(ans:List cb):Stepped:=
 match q.leaves,P.info? ty,HD t st,ans with
 | some xs,some inf,some (kT,esT),.el ds::.el j9::r=>
  match xs.mapM aG.jx with
  | some ys=>
   if xs.length=inf.size/\ds.length=k/\y+ys.length<=k/\xs.all (fun l=>l.tok.isNone)=true then
    some (st.map (hW t i j k (es.set x (l8 ds y ys)) kT (esT.set i (j9.set j (.J k (es.set x (l8 ds y ys)))))),r,(es[x]?=some ds)::(esT[i]?=some j9)::(st.idx t j).map fun a=>a=i)
   else none
  | none=>none
 | _,_,_,_=>none
theorem awu{l:aG}{d:D}(h:l.jx=some d)(bG:l.tok.isNone=true){u:Value}(ai:Sat w ω τ l u):∃z,d=.v z/\u=z/\z.oneCell'=true:=by
 cases l with
 | v z=>
  simp only[aG.jx]at h;split at h
  ·simp only[aX]at h;subst h;have:u=z:=ai;exact⟨z,rfl,this,‹_›⟩
  cases h
 | bR c=>
  simp only[aG.jx,aX]at h;subst h;exact⟨_,rfl,ai,rfl⟩
 | J g k es=>
  cases g with
  | own s=>simp[aG.tok]at bG
  | free=>cases h
  | ro s=>cases h
 | cu=>cases h
 | ptr=>cases h
 | ep=>cases h
 | jd=>cases h
 | fd=>cases h
 | e5=>cases h
 | hr=>cases h
 | aS=>cases h
 | fr=>cases h
theorem cD.aBr{P:Program}{bB:aD}{ty:TypeId}{x y:Nat}{es:List (List D)}{q:aH}{p:Value}{ans cq:List cb}{obs:List Prop}
  (aZ:cD w0 st a w ω τ) (hp:Sat w ω τ (.aS t i j k es (.at_ x y)) p) (aC:cT (Sat w ω τ) q v) (h:Np P st ty t i j k es x y q ans=some (bB,cq,obs)) (aW:c8 obs):
  ∃aM,(Instr.storeAt ty p v).run P w=.ok () aM/\Rel w0 bB a aM:=by
 unfold Np at h;split at h
 ·rename_i xs inf kT esT ds j9 r e1 e2 eD;split at h
  ·rename_i ys cx;split at h
   ·rename_i al;obtain⟨lp,lL,ma,zp⟩:=al;simp only[aX,bH]at h;obtain⟨rfl,_,rfl⟩:=h;obtain⟨e6,zq,qp⟩:=aW;have qp:=GD qp;obtain⟨yT,pu⟩:=aZ.root eD;obtain⟨ai,rz⟩:=aH.zM e1 aC;obtain⟨SO,LF⟩:=oO cx;obtain⟨fC,⟨b,off,cap,rfl,rfl,lN⟩,aB,hm⟩:=hp;have sC:=hm rfl;have rC:=aB;cases aB with
    | nil=>simp at lN
    | row R k es b off cap arr jy cM us aq ef fP dN hv hu aF=>
     have l9:ω b=.tok t [(i,j)]:=ef;obtain⟨xq,vf,wQ,iq⟩:=aZ.owned b (by rw[l9];simp);rw[aq]at iq;simp only[aX,Obj.cells.injEq]at iq;obtain⟨rfl,rfl,rfl⟩:=iq;have xi:b<w.heap.size:=(kt.1 aq).1;have hmul:(x+1)*k<=cap*k:=iA _ (by omega);rw[hQ]at hmul;have sJ:v.cells.size=xs.length:=ai.1;have eh:off+x*k+y+v.cells.toList.length<=arr.size:=by simp;omega
     have fQ:=run_storeCells_at P b (off+x*k+y) jy v.cells.toList 0 arr w aq (by simpa using eh) rz;simp only[o7]at fQ;generalize qj:(arr.toList.take (off+x*k+y)++v.cells.toList++arr.toList.drop (off+x*k+y+v.cells.toList.length)).toArray=cg at fQ;have jI:∀z:Nat,cg[z]?=if off+x*k+y<=z/\z<off+x*k+y+xs.length then v.cells[z-(off+x*k+y)]? else arr[z]?:=by
      intro z;rw[<-qj,p1,Dq (by simpa using eh)];simp[sJ]
     have zG:cg.size=arr.size:=by rw[<-qj];simp;simp at eh;omega
     have me:=setRow_heap w b arr cg jy (0,0) aq;have k0:∀c,c<w.heap.size->ω c≠.tok t [(i,j)]->(w.setRow b cg).heap[c]?=w.heap[c]?:=fun c _ al=>setRow_other w b c cg fun e=>al (by rw[e];exact l9)
     have qt:bZ (w.setRow b cg) ω (fun q o=>o=.tok t ((i,j)::q)) (.J k (es.set x (l8 ds y ys))) (.slice (some ⟨b,off,none⟩) es.length cap):=by
      have hlen:(es.set x (l8 ds y ys)).length=es.length:=iN;have FR:ds.length=k:=lL;have oJ:∀hn hz d,dd es hn hz=some d->bZ (w.setRow b cg) ω (fun q o=>o=.tok t ((i,j)::(hn,hz)::q)) d (us hn hz):=by
       intro hn hz d rl;refine (aF hn hz d rl).frame fun c q al e7=>⟨e7,k0 c al fun e=>?_⟩
       rw[e]at e7;simp at e7
      have fq:∀hn hz d,dd (es.set x (l8 ds y ys)) hn hz=some d->∃u,cg[off+hn*k+hz]?=some u/\bZ (w.setRow b cg) ω (fun q o=>o=.tok t ((i,j)::(hn,hz)::q)) d u:=by
       intro hn hz d ew;rw[M8 lN]at ew;by_cases aa:hn=x
       ·subst aa;rw[bh rfl,Tt (by omega)]at ew;split at ew
        ·rename_i bk;obtain⟨l,jJ,c'⟩:=LF _ _ ew;obtain⟨u,ha,fH⟩:=ai.2 _ _ jJ;obtain⟨z,rfl,rfl,aL⟩:=awu c' (gP.1 zp l (f' jJ)) fH;refine⟨u,?_,.v _ _ aL⟩;rw[jI,bh (by omega),<-ha]
         congr 1;omega
        rename_i bk;have rl:dd es hn hz=some d:=by simp[dd,e6,ew]
        refine⟨us hn hz,?_,oJ hn hz d rl⟩;rw[jI,bq (by omega),hu hn hz d rl]
       rw[bq aa]at ew;obtain⟨gk,aez⟩:=uN hv ew;refine⟨us hn hz,?_,oJ hn hz d ew⟩;rw[jI,bq ?_,hu hn hz d ew];rcases Nat.lt_or_gt_of_ne aa with h | h
       ·have:(hn+1)*k<=x*k:=iA _ h;rw[hQ]at this;omega
       have:(x+1)*k<=hn*k:=iA _ h;rw[hQ]at this;omega
      have rE:∀e∈es.set x (l8 ds y ys),e.length=k:=by
       intro e he;rcases iB he with h | rfl
       ·exact hv e h
       rw[Tu (by omega)];exact FR
      have:=bZ.row (w:=w.setRow b cg) (ω:=ω) (fun q o=>o=.tok t ((i,j)::q)) k (es.set x (l8 ds y ys)) b off cap cg jy (0,0) (fun hn hz=>cg.getD (off+hn*k+hz) undef) me l9 (by omega) (by omega) rE
       (fun x y d eK=>by obtain⟨u,h1,_⟩:=fq x y d eK;rw[h1];simp[eW,h1])
       (fun x y d eK=>by obtain⟨u,h1,U⟩:=fq x y d eK;have:cg.getD (off+x*k+y) undef=u:=(by simp[eW,h1]);rw[this];exact U)
      rw[hlen]at this;exact this
     refine⟨w.setRow b cg,?_,ω,τ,aZ.Z0 (yT:=yT) k0 (fun _ _=>rfl) (fun c id al e=>?_) (aZ.below.setRow xq cg) ?_ pu.2 (UG pu k0 (fun _ _=>rfl) sC qt zq) sC qt qp⟩
     ·simp only[Instr.storeAt,Instr.sureAddr,Sem.run_bind,Sem.run_pure,Result.andThen_ok,storeVar,sizeOf,typeInfo,run_program,e2];have aei:¬(v.cells.size≠inf.size):=by simp;omega
      rw[bq aei];exact fQ
     ·exact al (aZ.owned.lt (by rw[e];simp))
     intro c kc;obtain⟨aA,ln,lG,aI⟩:=aZ.owned c kc;by_cases B7:c=b
     ·subst B7;exact⟨aA,cg,jy,me⟩
     exact⟨aA,ln,lG,(setRow_other w b c cg B7).trans aI⟩
   cases h
  cases h
 cases h
end Go.Sx
namespace Go.Sx
open Go.RowKit
variable{i:Nat}
theorem TS{α:Type}{l:List α}{a:α}(h:l[i]?=some a):l.set i a=l:=by
 apply List.ext_getElem?;intro x;rw[o3];by_cases aa:i=x
 ·subst aa;have:=(gh.1 h).1;rw[bh rfl,bh this,h]
 rw[bq aa]
def Nq(P:Program)(st:aD)(d:Nat)(iK:TypeId)(t i j k:Nat)(es:List (List D))(y:Operand)(ans:List cb):Stepped:=
 match rP P iK,HD t st,ans with
 | some (e,cf),some (kT,esT),.el j9::fy=>
  match P.info? e,w9 t k (st.bp y) fy with
  | some inf,some (bS,none,w8,obs)=>
   match inf.zero with
   | some z=>
    if cf=k/\z.cells.size=k/\0<k then
     some (⟨(st.map (hW t i j k es kT esT)).env.set d (.one (.aS t i j k (es++bS) .mZ)),(st.map (hW t i j k es kT esT)).boxes⟩,w8,
      ((es.length+bS.length)*inf.bytes<=140737488355328)::(es.length+bS.length<=9223372036854775807)::(esT[i]?=some j9)::(j9[j]?=some (.J k es))::(((st.idx t j).map fun a=>a=i)++obs))
    else none
   | none=>none
  | _,_=>none
 | _,_,_=>none
def ve(P:Program)(iK:TypeId)(t i j k:Nat)(es esT:List (List D))(q:aH)(ans:List cb):Option (aH×List cb×List Prop):=
 match rP P iK,ans with
 | some (e,cf),.el j9::fy=>
  match P.info? e,w9 t k q fy with
  | some inf,some (bS,none,w8,obs)=>
   match inf.zero with
   | some z=>
    if cf=k/\z.cells.size=k/\0<k then
     some (.one (.aS t i j k (es++bS) .mZ),w8,
      ((es.length+bS.length)*inf.bytes<=140737488355328)::(es.length+bS.length<=9223372036854775807)::(esT[i]?=some j9)::(j9[j]?=some (.J k es))::obs)
    else none
   | none=>none
  | _,_=>none
 | _,_=>none
theorem cD.ve{P:Program}{w0:eN}{st:aD}{a:Act}{w:World}{ω:Own}{τ:Nat->Nat×Value}{d:Nat}{iK ty:TypeId}{t j k kT:Nat}{es esT:List (List D)}{x y:Operand}{p:aH}{ans cq:List cb}{obs:List Prop}
  (aZ:cD w0 st a w ω τ) (hp:Sat w ω τ (.aS t i j k es .here) (a.eval x)) (h:Sx.ve P iK t i j k es esT (st.bp y) ans=some (p,cq,obs)) (aW:c8 obs)
  (pu:∃v,Sat w ω τ (.J (.own t) kT esT) v) (qp:∀a∈st.idx t j,a=i):
  ∃z aM,(Builtin.append_ #[iK,iK] ty #[a.eval x,a.eval y]).run P w=.ok z aM/\Rel w0 ⟨(st.map (hW t i j k es kT esT)).env.set d p,(st.map (hW t i j k es kT esT)).boxes⟩ (a.put (some d) z) aM:=by
 unfold Sx.ve at h;split at h
 ·rename_i e cf j9 fy he;obtain⟨bG,ic,lM,zF⟩:=xH he;split at h
  ·rename_i inf bS w8 zP hi jL;rw[lM]at hi;have qq:=gX hi;subst qq;split at h
   ·rename_i z aL;split at h
    ·rename_i al;obtain⟨rfl,qw,oH⟩:=al;simp only[aX,bH]at h;obtain⟨rfl,_,rfl⟩:=h;obtain⟨ht,gj,zq,Kr,KP⟩:=aW;obtain⟨_,news,nT⟩:=Ts (P:=P) oH (aZ.bp y) jL KP;obtain⟨yT,pu⟩:=pu;obtain⟨fC,sI,aB,hm⟩:=hp;have sC:=hm rfl;have sI:a.eval x=fC:=sI;rw[sI];generalize a.eval y=hN at nT;have FP:∀hn hz d,dd bS hn hz=some d->∃u,news[hn*cf+hz]?=some u/\d=.v u/\u.oneCell'=true:=by
      intro hn hz d aF;obtain⟨u,h1,U⟩:=nT.cell hn hz d aF;rcases U with⟨v,rfl,rfl⟩ | ⟨s,ai,_⟩
      ·exact⟨u,h1,rfl,nT.one u (f' h1)⟩
      cases ai
     have fin:∀(w1:World) (bc:Own) (r:Value),(∀c,c<w.heap.size->ω c≠.tok t [(i,j)]->w1.heap[c]?=w.heap[c]?)->(∀c,c<w.heap.size->bc c=ω c)->(∀c id,¬c<w.heap.size->bc c≠.box id)->ho w0 w1->o8 w0 w1 bc->
       bZ w1 bc (fun q o=>o=.tok t ((i,j)::q)) (.J cf es) fC->bZ w1 bc (fun q o=>o=.tok t ((i,j)::q)) (.J cf (es++bS)) r->
       Rel w0 ⟨(st.map (hW t i j cf es kT esT)).env.set d (.one (.aS t i j cf (es++bS) .mZ)),(st.map (hW t i j cf es kT esT)).boxes⟩ (a.put (some d) r) w1:=by
      intro w1 bc r k0 dr LH l' nm qt fi;have SC:=UG pu k0 dr sC qt zq;rw[TS Kr,TS zq]at SC;exact⟨bc,τ,(aZ.Z0 k0 dr LH l' nm pu.2 SC sC qt qp).put (p:=.one (.aS t i j cf (es++bS) .mZ)) ⟨r,rfl,fi,fun bK=>by cases bK⟩⟩
     have Kk:∀c id,¬c<w.heap.size->ω c≠.box id:=fun c id al e=>al (aZ.owned.lt (by rw[e];simp))
     by_cases Cf:bS.length=0
     ·have Kv:bS=[]:=u' Cf;subst Kv;refine⟨fC,w,Tr bG lM w ?_ ?_,fin w ω fC (fun _ _ _=>rfl) (fun _ _=>rfl) Kk aZ.below aZ.owned aB (by rw[gR];exact aB)⟩
      ·cases aB with
       | nil _ _ a0=>exact⟨a0,0,0,rfl,fl _⟩
       | row R k es b off cap arr ty cM us aq ef al ai hk hu aF=>exact⟨some ⟨b,off,none⟩,_,cap,rfl,al⟩
      rcases nT.shape with⟨⟨a,h⟩,_⟩ | ⟨b,o,c,h,_⟩
      ·exact⟨a,0,h⟩
      exact⟨some ⟨b,o,none⟩,c,h⟩
     have mf:0<bS.length:=by omega
     rcases nT.shape with⟨_,h⟩ | ⟨bR,k',lW,rfl,ke⟩
     ·rw[h]at mf;simp at mf
     have grown:∀(w1:World) (cg:Array Value) (r:Value) (na:Nat),hq w.heap.size w w1->w1.heap[w.heap.size]?=some (.cells cg e (0,0))->r=.slice (some ⟨w.heap.size,0,none⟩) (es.length+bS.length) na->
       es.length+bS.length<=na->na*cf<=cg.size->(∀fW k3 d,dd es fW k3=some d->∃u,cg[fW*cf+k3]?=some u/\bZ w ω (fun q o=>o=.tok t ((i,j)::(fW,k3)::q)) d u)->
       (∀x u,news[x]?=some u->cg[es.length*cf+x]?=some u)->(∀e∈es,e.length=cf)->
       Rel w0 ⟨(st.map (hW t i j cf es kT esT)).env.set d (.one (.aS t i j cf (es++bS) .mZ)),(st.map (hW t i j cf es kT esT)).boxes⟩ (a.put (some d) r) w1:=by
      intro w1 cg r na l' hx KV fP dN hold FX xt;subst KV
      let bc:Own:=fun c=>if c=w.heap.size then .tok t [(i,j)] else ω c
      have dr:∀c,c<w.heap.size->bc c=ω c:=fun c al=>by simp only[bc];rw[bq (by omega)]
      have pv:bc w.heap.size=.tok t [(i,j)]:=by simp[bc]
      refine fin w1 bc _ (fun c al _=>l'.block c al) dr (fun c id al=>?_) (aZ.below.next l') (fun b aq=>?_) (aB.frame fun c q al aC=>⟨by rw[dr c al];exact aC,l'.block c al⟩) ?_
      ·simp only[bc];split
       ·simp
       exact Kk c id al
      ·by_cases zo:b=w.heap.size
       ·subst zo;exact⟨.inl aZ.below.size,cg,e,hx⟩
       simp only[bc]at aq;rw[bq zo]at aq;obtain⟨aA,ln,lG,aI⟩:=aZ.owned b aq;exact⟨aA,ln,lG,(l'.block b (aZ.owned.lt aq)).trans aI⟩
      have fq:∀x k3 d,dd (es++bS) x k3=some d->∃u,cg[x*cf+k3]?=some u/\bZ w1 bc (fun q o=>o=.tok t ((i,j)::(x,k3)::q)) d u:=by
       intro x k3 d aF;rw[Ds]at aF;split at aF
       ·obtain⟨u,h1,U⟩:=hold x k3 d aF;exact⟨u,h1,U.frame fun c q al aC=>⟨by rw[dr c al];exact aC,l'.block c al⟩⟩
       rename_i aa;obtain⟨u,h1,rfl,U⟩:=FP _ _ _ aF;refine⟨u,?_,.v _ _ U⟩;rw[<-FX _ u h1]
       congr 1
       have:x=es.length+(x-es.length):=by omega
       rw[this,hQ];simp only[Nat.add_sub_cancel_left];omega
      have hlen:(es++bS).length=es.length+bS.length:=lH;have rE:∀e∈es++bS,e.length=cf:=by
       intro e' he;rcases gg.1 he with h | h
       ·exact xt e' h
       exact nT.rows e' h
      have:=bZ.row (w:=w1) (ω:=bc) (fun q o=>o=.tok t ((i,j)::q)) cf (es++bS) w.heap.size 0 na cg e (0,0) (fun x j=>cg.getD (x*cf+j) undef) hx pv (by omega) (by omega) rE
       (fun x j d aF=>by obtain⟨u,h1,_⟩:=fq x j d aF;rw[dV,h1];simp[eW,h1])
       (fun x j d aF=>by obtain⟨u,h1,U⟩:=fq x j d aF;have:cg.getD (x*cf+j) undef=u:=(by simp[eW,h1]);rw[this];exact U)
      rw[hlen]at this;exact this
     subst zF;have rC:=aB;cases aB with
     | nil _ _ a0=>
      simp only[ej,dV]at ht gj;have fG:(Builtin.append_ #[iK,iK] ty #[.slice a0 0 0,.slice (some ⟨bR,k',none⟩) bS.length lW]).run P w=
        .ok (.slice (some ⟨w.heap.size,0,none⟩) bS.length (grownCap w bS.length 0 e)) (w.drew.alloc (.cells (news.toArray++Builtin.zeroCells z.cells (grownCap w bS.length 0 e-bS.length)) e)):=by
       cases a0 with
       | none=>exact run_append_nil (P:=P) w iK ty e ic z bG lM aL ⟨bR,k',none⟩ bS.length lW news nT.len ke mf (by omega) (by omega)
       | some ch=>
        have:=run_append_grow (P:=P) w iK ty e ic z bG lM aL ch 0 0 [] (by simp) (fun j v bD=>by simp at bD) ⟨bR,k',none⟩ bS.length lW news nT.len ke (by omega) (by omega) (growslice_fits (by omega) (by simpa using ht));simpa using this
      have qn:=grownCap_ge w bS.length 0 e;exact⟨_,_,fG,grown _ (news.toArray++Builtin.zeroCells z.cells (grownCap w bS.length 0 e-bS.length)) (.slice (some ⟨w.heap.size,0,none⟩) bS.length (grownCap w bS.length 0 e)) (grownCap w bS.length 0 e)
       (((hq.refl _ _).drew).alloc (fl _) _) (oX _ _) (by simp) (by simpa using qn) (by
        simp only[u9,p2,size_zeroCells,nT.len,qw,<-hQ];exact iA _ (by omega))
       (fun fW j d aF=>by simp[dd]at aF) (fun x u aa=>by
        simp only[ej,Nat.zero_mul,dV];rw[kr,bh (by have:=(gh.1 aa).1;simpa using this)];simpa using aa) (fun e he=>by cases he)⟩
     | row R k es b off cap arr jy cM us aq ef al ai hv hu aF=>
      have l9:ω b=.tok t [(i,j)]:=ef;obtain⟨xq,vf,wQ,iq⟩:=aZ.owned b (by rw[l9];simp);rw[aq]at iq;simp only[aX,Obj.cells.injEq]at iq;obtain⟨rfl,rfl,rfl⟩:=iq;have xi:b<w.heap.size:=(kt.1 aq).1;by_cases pt:es.length+bS.length<=cap
      ·have hmul:(es.length+bS.length)*ic.size<=cap*ic.size:=iA _ pt;rw[hQ]at hmul;have xp:=nT.len;have eh:off+es.length*ic.size+news.length<=arr.size:=by omega
       have fG:=Gz (P:=P) (ty:=ty) bG lM w b off es.length cap arr jy aq ⟨bR,k',none⟩ bS.length lW news nT.len ke nT.one pt eh;generalize qj:(arr.toList.take (off+es.length*ic.size)++news++arr.toList.drop (off+es.length*ic.size+news.length)).toArray=cg at fG;have jI:∀x:Nat,cg[x]?=if off+es.length*ic.size<=x/\x<off+es.length*ic.size+news.length then news[x-(off+es.length*ic.size)]? else arr[x]?:=by
        intro x;rw[<-qj,p1,Dq (by simpa using eh)];simp
       have zG:cg.size=arr.size:=by rw[<-qj];simp;omega
       have me:=setRow_heap w b arr cg jy (0,0) aq;have k0:∀c,c<w.heap.size->ω c≠.tok t [(i,j)]->(w.setRow b cg).heap[c]?=w.heap[c]?:=fun c _ al=>setRow_other w b c cg fun e=>al (by rw[e];exact l9)
       have oJ:∀hn hz d u,bZ w ω (fun q o=>o=.tok t ((i,j)::(hn,hz)::q)) d u->bZ (w.setRow b cg) ω (fun q o=>o=.tok t ((i,j)::(hn,hz)::q)) d u:=by
        intro hn hz d u rl;refine rl.frame fun c q al e7=>⟨e7,k0 c al fun e=>?_⟩
        rw[e]at e7;simp at e7
       refine⟨_,_,fG,fin (w.setRow b cg) ω _ k0 (fun _ _=>rfl) Kk (aZ.below.setRow xq cg) (fun c kc=>?_) (bZ.ZW rC aq me zG (fun x aa=>by rw[jI,bq (by omega)]) (fun o e aW=>by rw[<-e];exact aW) (fun c p q al aC=>⟨aC,k0 c al fun e=>by rw[e]at aC;simp at aC⟩)) ?_⟩
       ·obtain⟨aA,ln,lG,aI⟩:=aZ.owned c kc;by_cases B7:c=b
        ·subst B7;exact⟨aA,cg,jy,me⟩
        exact⟨aA,ln,lG,(setRow_other w b c cg B7).trans aI⟩
       have fq:∀x k3 d,dd (es++bS) x k3=some d->∃u,cg[off+x*ic.size+k3]?=some u/\bZ (w.setRow b cg) ω (fun q o=>o=.tok t ((i,j)::(x,k3)::q)) d u:=by
        intro x k3 d ew;rw[Ds]at ew;split at ew
        ·rename_i aa;have Ce:=(uN hv ew).2;refine⟨us x k3,?_,oJ x k3 d _ (aF x k3 d ew)⟩;have:(x+1)*ic.size<=es.length*ic.size:=iA _ aa;rw[hQ]at this;rw[jI,bq (by omega),hu x k3 d ew]
        rename_i aa;obtain⟨u,h1,rfl,U⟩:=FP _ _ _ ew;have aex:=(gh.1 h1).1;have sM:x*ic.size=es.length*ic.size+(x-es.length)*ic.size:=by rw[<-hQ];congr 1;omega
        refine⟨u,?_,.v _ _ U⟩;rw[jI,bh (by omega),<-h1]
        congr 1
        omega
       have hlen:(es++bS).length=es.length+bS.length:=lH;have rE:∀e∈es++bS,e.length=ic.size:=by
        intro e' he;rcases gg.1 he with h | h
        ·exact hv e' h
        exact nT.rows e' h
       have:=bZ.row (w:=w.setRow b cg) (ω:=ω) (fun q o=>o=.tok t ((i,j)::q)) ic.size (es++bS) b off cap cg jy (0,0) (fun x j=>cg.getD (off+x*ic.size+j) undef) me l9 (by omega) (by omega) rE
        (fun x j d aF=>by obtain⟨u,h1,_⟩:=fq x j d aF;rw[h1];simp[eW,h1])
        (fun x j d aF=>by obtain⟨u,h1,U⟩:=fq x j d aF;have:cg.getD (off+x*ic.size+j) undef=u:=(by simp[eW,h1]);rw[this];exact U)
       rw[hlen]at this;exact this
      have hmul:es.length*ic.size<=cap*ic.size:=iA _ al;have sG:((arr.toList.drop off).take (es.length*ic.size)).length=es.length*ic.size:=by simp;omega
      have fG:=run_append_grow (P:=P) w iK ty e ic z bG lM aL ⟨b,off,none⟩ es.length cap ((arr.toList.drop off).take (es.length*ic.size)) sG (fun j v bD=>by
       rw[rO,cell_of_row w b (off+j) arr jy (0,0) aq];rw[kK]at bD;split at bD
       ·rw[lY]at bD;simpa using bD
       cases bD) ⟨bR,k',none⟩ bS.length lW news nT.len ke (by omega) (by omega) (growslice_fits (by omega) ht)
      have qn:=grownCap_ge w (es.length+bS.length) cap e;exact⟨_,_,fG,grown _ (((arr.toList.drop off).take (es.length*ic.size)).toArray++news.toArray++Builtin.zeroCells z.cells (grownCap w (es.length+bS.length) cap e-(es.length+bS.length))) _ (grownCap w (es.length+bS.length) cap e)
       (((hq.refl _ _).drew).alloc (fl _) _) (oX _ _) rfl qn (by
        simp only[u9,p2,size_zeroCells,nT.len,qw,sG,<-hQ];exact iA _ (by omega))
       (fun fW j d eK=>by
        obtain⟨zw,eE⟩:=uN hv eK;have:(fW+1)*ic.size<=es.length*ic.size:=iA _ zw;rw[hQ]at this;refine⟨us fW j,?_,aF fW j d eK⟩;rw[kr,bh (by simp only[u9,p2,sG];omega),kr,bh (by simp only[p2,sG];omega)];rw[p1,kK,bh (by omega),lY,<-hu fW j d eK];simp only[mT]
        congr 1
        omega)
       (fun x u aa=>by
        have gk:=(gh.1 aa).1;rw[kr,bh (by simp only[u9,p2,sG];omega),kr,bq (by simp only[p2,sG];omega)];simp only[p2,sG,p1];rw[<-aa]
        congr 1
        omega) hv⟩
    cases h
   cases h
  cases h
 cases h
theorem cD.ab8{P:Program}{w0:eN}{st bB:aD}{a:Act}{w:World}{ω:Own}{τ:Nat->Nat×Value}{d:Nat}{iK ty:TypeId}{t j k:Nat}{es:List (List D)}{x y:Operand}{ans cq:List cb}{obs:List Prop}
  (aZ:cD w0 st a w ω τ) (hp:Sat w ω τ (.aS t i j k es .here) (a.eval x)) (h:Nq P st d iK t i j k es y ans=some (bB,cq,obs)) (aW:c8 obs):
  ∃z aM,(Builtin.append_ #[iK,iK] ty #[a.eval x,a.eval y]).run P w=.ok z aM/\Rel w0 bB (a.put (some d) z) aM:=by
 unfold Nq at h;split at h
 ·rename_i e cf kT esT j9 fy he ad9;split at h
  ·rename_i inf bS w8 zP hi jL;split at h
   ·rename_i z aL;split at h
    ·rename_i al;simp only[aX,bH]at h;obtain⟨rfl,rfl,rfl⟩:=h;obtain⟨ht,gj,zq,Kr,KP⟩:=aW;obtain⟨qp,adV⟩:=KP.append;refine aZ.ve (p:=.one (.aS t i j k (es++bS) .mZ)) (ans:=.el j9::fy) (cq:=w8) (esT:=esT) (kT:=kT) hp ?_ (obs:=((es.length+bS.length)*inf.bytes<=140737488355328)::(es.length+bS.length<=9223372036854775807)::(esT[i]?=some j9)::(j9[j]?=some (.J k es))::zP) ⟨ht,gj,zq,Kr,adV⟩ (aZ.root ad9) (GD qp);unfold Sx.ve;simp only[he,hi,jL,aL];rw[bh al]
    cases h
   cases h
  cases h
 cases h
