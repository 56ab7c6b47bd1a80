import Derived.Test.YthfnndblgbjniaaGreatR11
set_option linter.unusedVariables false
set_option linter.unusedSimpArgs false
namespace Go.Sx
open Go.RowKit
def F8(P:Program)(st:aD)(d:Nat)(elem:TypeId)(r:List cf):Stepped:=
 match P.info? elem with
 | some i=>match i.zero with
  | some z=>if d<dk then some (⟨(st.ki d []).env.set d (.one (.fP d (z.cells.toList.map .v))),(st.ki d []).boxes⟩,r,[]) else none
  | none=>none
 | none=>none
variable{w0:eT}{st bG:aD}{a:Act}{w:World}{ω:Own}{τ:Nat->Nat×Value}{d:Nat}{ans cv:List cf}{obs:List Prop}
theorem cM.acM{P:Program}{elem:TypeId}(a6:cM w0 st a w ω τ)
  (h:F8 P st d elem ans=some (bG,cv,obs)):
  ∃z aN,(Instr.alloc elem true (.tuple #[])).run P w=.ok z aN/\Rel w0 bG (a.put (some d) z) aN:=by
 unfold F8 at h;split at h
 ·rename_i i hi;split at h
  ·rename_i z bb;split at h
   ·rename_i aE;simp only[aZ,bL]at h;obtain⟨rfl,_,_⟩:=h;have h1:=a6.ki d aE [] (k:=0) (cap:=0) (es:=[]) (arr:=z.cells) (ty:=elem) ((g'.refl _ _).alloc (fi _) (.cells z.cells elem)) (oP _ _) (fi _) (by simp) (by simp)
     (by grind[df])
    refine⟨.pointer (some ⟨w.heap.size,0,none⟩),w.alloc (.cells z.cells elem),by simp_all[Instr.alloc,zeroValue,typeInfo,newVar,newRow],_,_,h1.1.put (p:=.one (.fP d (z.cells.toList.map .v))) ?_⟩;refine⟨w.heap.size,elem,z.cells,rfl,by simp[qM],oP _ _,by simp,fun j c ai=>?_⟩;rw[dI,ca]at ai;obtain⟨u,hu,rfl⟩:=ai;exact⟨u,by grind,rfl⟩
   cases h
  cases h
 cases h
def fO(t:Nat):Tag->Option Tag
 | .free=>some .free
 | .own s=>if s=t then none else some (.own s)
 | .ro s=>if s=t then none else some (.ro s)
variable{o:dv}
theorem F9{t:Nat}{g eN:Tag}{q:List (Nat×Nat)}(h:fO t g=some eN)(aC:g.R q o):eN=g/\∀ee,o≠.tok t ee:=by
 cases g with
 | free=>simp_all[fO,aZ,Tag.R]
 | own s=>
  simp_all[fO,aZ,Tag.R,dv.tok.injEq]
 | ro s=>
  simp only[fO]at h;split at h
  ·cases h
  rename_i ao;simp only[aZ]at h;subst h;simp only[Tag.R]at aC;grind
variable{s:Nat}
theorem Nf{x:Value}(this:a.tmps[s]?=some x):a.put (some s) x=a:=by
 simp only[Act.put];have:a.tmps.setIfInBounds s x=a.tmps:=by
  grind
 rw[this]
def aG.jN:aG->fq
 | .v x=>.v x
 | .bg c=>.v (.bool c)
 | .J t k es=>.J t k es
 | _=>.cp
def LH(p:aI):Option (List fq):=p.leaves.map (·.map aG.jN)
theorem aG.Th{l:aG}{y:Value}(h:Sat w ω τ l y):so w ω τ l.jN y:=by
 cases l<;>first | exact h | exact trivial
def fq.leaf:fq->aG
 | .cp=>.cp
 | .v x=>.v x
 | .J t k es=>.J t k es
theorem fq.dU{τ:Nat->Nat×Value}{c:fq}{y:Value}(h:so w ω τ c y):Sat w ω τ c.leaf y:=by
 cases c<;>exact h
def F'(P:Program)(st:aD)(ty:TypeId)(s:Nat)(q:aI)(ans:List cf):Stepped:=
 match (st.env.getD s .cp).leaf,LH q,P.info? ty with
 | some (.fP t vs),some cs,some i=>
  if cs.length=i.size/\cs.length<=vs.length then
   let st2:=st.map (aG.cN (fO t) fun _=>true)
   some (⟨st2.env.set s (.one (.fP t ((cs++vs.drop cs.length).map (fq.cN (fO t))))),st2.boxes⟩,ans,[])
  else none
 | _,_,_=>none
theorem cM.aDZ{P:Program}{ty:TypeId}{q:aI}{v:Value}
  (a6:cM w0 st a w ω τ) (aH:cW (Sat w ω τ) q v) (h:F' P st ty s q ans=some (bG,cv,obs)):
  ∃aN,(Instr.storeAt ty (a.eval (.tmp s)) v).run P w=.ok () aN/\Rel w0 bG a aN:=by
 unfold F' at h;split at h
 ·rename_i t vs cs i e1 e2 ch;split at h
  ·rename_i ai;obtain⟨c1,c2⟩:=ai;simp only[aZ,bL]at h;obtain⟨rfl,_,_⟩:=h;unfold LH at e2;rw[ca]at e2;obtain⟨ls,e2,rfl⟩:=e2;obtain⟨xl,oG⟩:=aI.zG e2 aH;have dO:v.cells.size=ls.length:=xl.1;rw[b']at c1 c2;have hT:st.env[s]?=some (.one (.fP t vs)):=by
    rw[ly]at e1;cases e:st.env[s]? with
    | none=>grind[aI.leaf]
    | some p=>
     rw[e]at e1;simp only[lW]at e1;cases p with
     | gx as=>cases e1
     | aF x=>
      cases x with
      | agg ls=>cases e1
      | one l=>grind[aI.leaf,aZ]
   obtain⟨y,bu,e8⟩:=a6.env s _ hT;obtain⟨b,jB,arr,rfl,aw,zp,ae6,qw⟩:=e8;have sG:a.eval (.tmp s)=ptrTo b:=by simp_all[Act.eval]
   have fr:=run_storeCells_at P b 0 jB v.cells.toList 0 arr w zp (by simp;omega) oG;obtain⟨cm,qn⟩:∃cm,cm=(arr.toList.take (0+0)++v.cells.toList++arr.toList.drop (0+0+v.cells.toList.length)).toArray:=⟨_,rfl⟩
   rw[<-qn]at fr;have adm:cm=(v.cells.toList++arr.toList.drop v.cells.size).toArray:=by grind
   refine⟨w.setRow b cm,?_,?_⟩
   ·rw[sG];simp only[ptrTo,Instr.storeAt,Instr.sureAddr,Sem.run_bind,Sem.run_pure,Result.andThen_ok,storeVar,sizeOf,typeInfo,run_program,ch];grind
   have l6:=setRow_heap w b arr cm jB (0,0) zp;have bt:mQ w ω τ (w.setRow b cm) ω τ (fO t) (fun _=>true):=by
    refine⟨?_,?_,fun id c _ ai=>ai,rfl,fun _ _=>rfl⟩
    ·intro g eN c q ay _ aH;obtain⟨rfl,B7⟩:=F9 ay aH;grind[setRow_other]
    intro g eN y ay bu;cases g with
    | free=>simp_all[fO,aZ,trivial]
    | own x=>
     grind[fO,aZ]
    | ro x=>
     simp_all[fO,aZ,trivial]
   have h1:cM w0 (st.map (aG.cN (fO t) fun _=>true)) a (w.setRow b cm) ω τ:=by
    refine a6.dc _ bt.sat (a6.below.setRow (a6.owned b (by rw[aw];simp)).1 _) ?_ (fun id c ai=>⟨ai,setRow_other w b c _ fun e=>by grind⟩) (fun id c ai=>ai) (fun _ _=>rfl);intro c ai;obtain⟨h1,kt,kJ,U⟩:=a6.owned c ai;grind[setRow_other]
   have Sd:cm.size=(ls.map aG.jN++vs.drop (ls.map aG.jN).length).length/\∀(j:Nat) (c:fq),(ls.map aG.jN++vs.drop (ls.map aG.jN).length)[j]?=some c->∃u,cm[j]?=some u/\so w ω τ c u:=by
    refine⟨by grind,fun j c ai=>?_⟩;rw[adm,p6];by_cases bf:j<ls.length
    ·rw[Ba (by grind),dI,ca]at ai;obtain⟨l,al,rfl⟩:=ai;obtain⟨u,hd,fG⟩:=xl.2 j l al;grind[aG.Th]
    grind
   have SM:=Gf bt.jN Sd.1 Sd.2;have U:=h1.put (d:=s) (p:=.one (.fP t ((ls.map aG.jN++vs.drop (ls.map aG.jN).length).map (fq.cN (fO t))))) (v:=ptrTo b) ⟨b,jB,cm,rfl,aw,l6,SM⟩;rw[Nf bu]at U;exact⟨ω,τ,U⟩
  cases h
 cases h
def LL(st:aD)(d:Nat):Option aD:=
 match st.env.getD d .cp with
 | .aF (.one (.fP t vs))=>
  if d<dk then some ⟨(st.env.map (aI.map (aG.cN (fO t) (kC d)))).set d (.one (.ptr d 0)),(d,vs.map fun c=>aG.cN (fO t) (kC d) c.leaf)::(qK d st.boxes).map fun x=>(x.1,x.2.map (aG.cN (fO t) (kC d)))⟩ else none
 | _=>none
theorem aAF(h:Rel w0 st a w)(aW:LL st d=some bG):Rel w0 bG a w:=by
 obtain⟨ω,τ,h⟩:=h;unfold LL at aW;split at aW
 ·rename_i t vs he;split at aW
  case isFalse=>cases aW
  rename_i vw;simp only[aZ]at aW;subst aW;have hT:st.env[d]?=some (.one (.fP t vs)):=by
   grind
  obtain⟨v,ug,uh⟩:=h.env d _ hT;obtain⟨b,ty,arr,rfl,aw,zp,ae6,qw⟩:=uh
  let bh:Own:=fun c=>if c=b then .box d else match ω c with | .box i=>if i=d then .bP else .box i | o=>o
  have px:bh b=.box d:=by simp[bh]
  have jI:∀c,c≠b->bh c=(match ω c with | .box i=>if i=d then .bP else .box i | o=>o):=by
   grind
  have bt:mQ w ω τ w bh τ (fO t) (kC d):=by
   refine⟨?_,?_,?_,rfl,fun _ _=>rfl⟩
   ·intro g eN c q ay _ aH;obtain⟨rfl,B7⟩:=F9 ay aH;have iT:c≠b:=fun e=>B7 [] (by grind)
    refine⟨?_,rfl⟩;rw[jI c iT];cases eN with
    | free=>grind[Tag.R]
    | own s=>grind[Tag.R]
    | ro s=>
     simp only[Tag.R]at aH ⊢;grind
   ·intro g eN y ay bu;cases g with
    | free=>simp_all[fO,aZ,trivial]
    | own s=>
     grind[fO,aZ]
    | ro s=>
     simp_all[fO,aZ,trivial]
   intro i c hp ai;have iT:c≠b:=fun e=>by grind
   simp_all[kC,cj]
  have rC:pa w0 w bh:=by
   intro c ai;by_cases e:c=b
   ·subst e;exact h.owned c (by rw[aw];simp)
   rw[jI c e]at ai;exact h.owned c (fun e'=>by grind)
  have key:=h.JM (bs:=(d,vs.map fun c=>aG.cN (fO t) (kC d) c.leaf)::(qK d st.boxes).map fun x=>(x.1,x.2.map (aG.cN (fO t) (kC d)))) bt h.below rC ?_ (fun i c hi ai=>by
   grind)
  ·have:=key.put (d:=d) (p:=.one (.ptr d 0)) (v:=ptrTo b) ⟨b,px,rfl⟩;rw[Nf ug]at this;exact⟨bh,τ,this⟩
  intro i fV al;simp only[dK]at al;split at al
  ·rename_i hi;subst hi;have e:=gO al;subst e;refine⟨b,arr,ty,px,?_,zp,by grind,fun j l bf=>?_⟩
   ·grind
   rw[dI,ca]at bf;obtain⟨c,ai,rfl⟩:=bf;obtain⟨u,hd,fG⟩:=qw j c ai;exact⟨u,hd,bt.sat _ _ (fq.dU fG)⟩
  rename_i hi;rw[uK,ca]at al;obtain⟨kg,bJ,rfl⟩:=al;have cZ:i≠d:=fun e=>hi e.symm
  rw[zP cZ]at bJ;obtain⟨c,cm,se,ai,hu,bO,e8⟩:=h.boxes i kg bJ;refine⟨c,cm,se,bt.box i c (by grind[kC]) ai,?_,bO,e8.map bt.sat⟩;grind
 cases aW
def JB(st:aD)(d:Nat):Option aD:=
 match st.env.getD d .cp,dK d st.boxes with
 | .aF (.one (.ptr dQ 0)),some ls=>
  if dQ=d/\d<dk then some ⟨(st.env.map (aI.map (aG.cN (fO d) (kC d)))).set d (.one (.fP d ((ls.map aG.jN).map (fq.cN (fO d))))),(qK d st.boxes).map fun x=>(x.1,x.2.map (aG.cN (fO d) (kC d)))⟩ else none
 | _,_=>none
theorem aAG(h:Rel w0 st a w)(aW:JB st d=some bG):Rel w0 bG a w:=by
 obtain⟨ω,τ,h⟩:=h;unfold JB at aW;split at aW
 ·rename_i dQ ls he dm;split at aW
  case isFalse=>cases aW
  rename_i vw;obtain⟨rfl,vw⟩:=vw;simp only[aZ]at aW;subst aW;have hT:st.env[dQ]?=some (.one (.ptr dQ 0)):=by
   grind
  obtain⟨v,ug,uh⟩:=h.env dQ _ hT;obtain⟨b8,iw,rfl⟩:=uh;obtain⟨b,arr,ty,aw,adr,zp,xl⟩:=h.boxes dQ ls dm;have vu:b8=b:=adr b8 iw;subst vu
  let bh:Own:=fun c=>if c=b8 then .tok dQ [] else match ω c with | .tok s q=>if s=dQ then .bP else .tok s q | o=>o
  have px:bh b8=.tok dQ []:=by simp[bh]
  have jI:∀c,c≠b8->bh c=(match ω c with | .tok s q=>if s=dQ then .bP else .tok s q | o=>o):=by
   grind
  have bt:mQ w ω τ w bh τ (fO dQ) (kC dQ):=by
   refine⟨?_,?_,?_,rfl,fun _ _=>rfl⟩
   ·intro g eN c q ay _ aH;obtain⟨rfl,B7⟩:=F9 ay aH;have iT:c≠b8:=fun e=>by
     rw[e,aw]at aH;cases eN with
     | free=>cases aH
     | own s=>cases aH
     | ro s=>
      rcases aH with aH | ⟨ee,aH⟩
      ·cases aH
      cases aH
    grind
   ·intro g eN y ay bu;cases g with
    | free=>simp_all[fO,aZ,trivial]
    | own s=>
     grind[fO,aZ]
    | ro s=>
     simp_all[fO,aZ,trivial]
   intro i c hp ai;simp only[kC,cj]at hp;grind
  have rC:pa w0 w bh:=by
   intro c ai;by_cases e:c=b8
   ·subst e;exact h.owned c (by rw[aw];simp)
   rw[jI c e]at ai;exact h.owned c (fun e'=>by grind)
  have Sa:∀i c,bh c=.box i->ω c=.box i/\c≠b8:=by
   grind
  have key:=h.JM (bs:=(qK dQ st.boxes).map fun x=>(x.1,x.2.map (aG.cN (fO dQ) (kC dQ)))) bt h.below rC ?_ (fun i c _ ai=>(Sa i c ai).1)
  ·have:=key.put (d:=dQ) (p:=.one (.fP dQ ((ls.map aG.jN).map (fq.cN (fO dQ))))) (v:=ptrTo b8) ⟨b8,ty,arr,rfl,px,zp,Gf bt.jN (by rw[xl.1];simp) (fun j c ai=>by
    rw[dI,ca]at ai;obtain⟨l,al,rfl⟩:=ai;obtain⟨u,hd,fG⟩:=xl.2 j l al;grind[aG.Th])⟩
   rw[Nf (show a.tmps[dQ]?=some (ptrTo b8) from ug)]at this;exact⟨bh,τ,this⟩
  intro i fV al;rw[uK,ca]at al;obtain⟨kg,bJ,rfl⟩:=al;have cZ:i≠dQ:=fun e=>by grind[Mc]
  rw[zP cZ]at bJ;obtain⟨c,cm,se,ai,hu,bO,e8⟩:=h.boxes i kg bJ;exact⟨c,cm,se,bt.box i c (by grind[kC]) ai,fun dE eE=>hu dE (Sa i dE eE).1,bO,e8.map bt.sat⟩
 cases aW
def Dh:List Nat->aD->Option aD
 | [],st=>some st
 | d::ds,st=>(JB st d).bind (Dh ds)
theorem T2:∀{ds:List Nat} {st bG:aD},Rel w0 st a w->Dh ds st=some bG->Rel w0 bG a w
 | [],st,bG,h,aW=>by grind[Dh,aZ]
 | d::ds,st,bG,h,aW=>by
  simp only[Dh,nB]at aW;obtain⟨st1,h1,U⟩:=aW;exact T2 (aAG h h1) U
def Di:List Nat->aD->Option aD
 | [],st=>some st
 | d::ds,st=>(LL st d).bind (Di ds)
theorem T3:∀{ds:List Nat} {st bG:aD},Rel w0 st a w->Di ds st=some bG->Rel w0 bG a w
 | [],st,bG,h,aW=>by grind[Di,aZ]
 | d::ds,st,bG,h,aW=>by
  simp only[Di,nB]at aW;obtain⟨st1,h1,U⟩:=aW;exact T3 (aAF h h1) U
def lp(s n:Nat):Tag->Option Tag
 | .own x=>if x=s then some (.ro n) else if x=n then none else some (.own x)
 | .ro x=>if x=s then some (.ro n) else if x=n then none else some (.ro x)
 | .free=>some .free
def kD(s n l:Nat):dv->dv
 | .tok x q=>if x=s then (match q with | []=>.tok n [] | (i,j)::r=>if i<l then .bP else .tok n ((i-l,j)::r)) else if x=n then .bP else .tok x q
 | o=>o
variable{l n:Nat}
theorem Ng(h:kD s n l o≠.bP):o≠.bP:=by rintro rfl;exact h rfl
theorem wo{id:Nat}:kD s n l o=.box id<->o=.box id:=by
 cases o with
 | bP=>simp[kD]
 | box i=>simp[kD]
 | tok x q=>
  simp only[kD];grind
theorem T4{q:List (Nat×Nat)}:kD s n l (.tok s q)=.bP\/∃ee,kD s n l (.tok s q)=.tok n ee:=by
 simp only[kD,gy];grind
theorem Nh{k:Nat}{z:Value}(jK:n<dk):mQ w ω τ w (fun b=>kD s n l (ω b)) (gW τ n k z) (lp s n) (fun _=>true):=by
 refine⟨?_,?_,?_,rfl,fun t bK=>by simp only[gW];grind⟩
 ·intro g eN b q ay _ aH;refine⟨?_,rfl⟩;cases g with
  | free=>simp only[lp,aZ]at ay;subst ay;simp only[Tag.R]at aH ⊢;rw[aH];rfl
  | own x=>
   simp only[lp]at ay;simp only[Tag.R]at aH;split at ay
   ·grind[aZ,Tag.R,T4]
   rename_i ao;split at ay
   ·cases ay
   rename_i aW;simp only[aZ]at ay;subst ay;simp_all[Tag.R,kD,bD]
  | ro x=>
   simp only[lp]at ay;simp only[Tag.R]at aH;split at ay
   ·rename_i ao;simp only[aZ]at ay;subst ay;subst ao;rcases aH with aH | ⟨ee,aH⟩
    ·rw[aH];exact .inl rfl
    rw[aH];exact T4
   rename_i ao;split at ay
   ·cases ay
   rename_i aW;simp only[aZ]at ay;subst ay;rcases aH with aH | ⟨ee,aH⟩
   ·rw[aH];exact .inl rfl
   rw[aH];simp only[kD,bD ao,bD aW];exact .inr ⟨ee,rfl⟩
 ·intro g eN y ay bu;cases g with
  | free=>simp only[lp,aZ]at ay;subst ay;trivial
  | own x=>
   simp only[lp]at ay;split at ay
   ·simp only[aZ]at ay;subst ay;trivial
   rename_i ao;split at ay
   ·cases ay
   rename_i aW;simp only[aZ]at ay;subst ay;simp_all[Tag.et,gW,bD]
  | ro x=>
   simp only[lp]at ay;split at ay
   ·simp only[aZ]at ay;subst ay;trivial
   split at ay
   ·cases ay
   simp only[aZ]at ay;subst ay;trivial
 intro id b _ aw;exact wo.2 aw
def pQ(s d:Nat):Nat:=if s<dk then s else d
def A3(P:Program)(st:aD)(d:Nat)(t:TypeId)(p:aI)(c7 hi jL:Option Operand)(ans:List cf):Stepped:=
 match rV P t,p.leaf,jL with
 | some (_,k),some (.J (.own s) ck es),none=>
  if k=ck/\pQ s d<dk then
   match nf st c7,nf st hi with
   | some l,some h=>
    let st2:=st.map (aG.cN (lp s (pQ s d)) fun _=>true)
    some (⟨st2.env.set d (.one (.J (.own (pQ s d)) k ((es.drop (l.getD 0).toNat).take ((h.getD es.length).toNat-(l.getD 0).toNat)))),st2.boxes⟩,ans,[0<=l.getD 0,l.getD 0<=h.getD es.length,h.getD es.length<=es.length])
   | _,_=>none
  else none
 | _,_,_=>none
theorem cM.A3{P:Program}{t:TypeId}{p:aI}{v:Value}{c7 hi jL:Option Operand}
  (a6:cM w0 st a w ω τ) (hp:cW (Sat w ω τ) p v) (h:A3 P st d t p c7 hi jL ans=some (bG,cv,obs)) (a8:cO obs):
  ∃z,(Instr.sliceAt t v (c7.map a.eval) (hi.map a.eval) (jL.map a.eval)).run P w=.ok z w/\Rel w0 bG (a.put (some d) z) w:=by
 unfold Go.Sx.A3 at h;split at h
 ·rename_i e k s ck es e1 e2;split at h
  ·rename_i hk;obtain⟨rfl,ao⟩:=hk;split at h
   ·rename_i l bO ch dS;simp only[aZ,bL]at h;obtain⟨rfl,_,rfl⟩:=h;obtain⟨hu,i,oB,bb⟩:=xA e1;obtain⟨aC,_⟩:=aI.dU e2 hp;obtain⟨cy,ci,cI,_⟩:=a8;have aA:=C8 a6 ch;have aJ:=C8 a6 dS;have mZ:(c7.map a.eval=none/\l.getD 0=0)\/∃k,c7.map a.eval=some (.int k (l.getD 0)):=by
     grind
    have sH:(hi.map a.eval=none/\bO.getD es.length=es.length)\/∃k,hi.map a.eval=some (.int k (bO.getD es.length)):=by
     grind
    have key:∀(L m:Nat) (z:Value),L<=m->b3 w (fun b=>kD s (pQ s d) L (ω b)) (Tag.own (pQ s d)).R (.J k ((es.drop L).take (m-L))) z->
      Rel w0 ⟨(st.map (aG.cN (lp s (pQ s d)) fun _=>true)).env.set d (.one (.J (.own (pQ s d)) k ((es.drop L).take (m-L)))),(st.map (aG.cN (lp s (pQ s d)) fun _=>true)).boxes⟩ (a.put (some d) z) w:=by
     intro L m z _ FK;have h1:cM w0 (st.map (aG.cN (lp s (pQ s d)) fun _=>true)) a w (fun b=>kD s (pQ s d) L (ω b)) (gW τ (pQ s d) k z):=
      a6.dc _ (Nh (by omega)).sat a6.below (fun b aw=>a6.owned b (Ng aw)) (fun id b aw=>⟨wo.2 aw,rfl⟩) (fun id b aw=>wo.1 aw)
       (fun t bK=>by simp only[gW];grind)
     exact⟨_,_,h1.put (p:=.one (.J (.own (pQ s d)) k ((es.drop L).take (m-L)))) ⟨FK,by simp[Tag.et,gW]⟩⟩
    cases aC with
    | nil _ _ a0=>
     simp only[ew] at*;have bE:l.getD 0=0:=by omega
     have ac1:bO.getD ((0:Nat):Int)=0:=by omega
     refine⟨.slice a0 0 0,?_,?_⟩
     ·simp only[Instr.sliceAt,Sem.run_bind,run_underlying hu,Result.andThen_ok,Instr.slice,Option.map_none];rw[C7 mZ sH cy ci cI];simp_all[sizeOf,typeInfo]
     refine key _ _ _ (by omega) ?_;simp only[List.drop_nil,List.take_nil];exact .nil _ _ _
    | row R k es b off cap arr ty cY us aw ef ai dO hk ky aE=>
     refine⟨sliced (some ⟨b,off,none⟩) (l.getD 0).toNat (bO.getD es.length).toNat cap k,?_,?_⟩
     ·simp only[Instr.sliceAt,Sem.run_bind,run_underlying hu,Result.andThen_ok,Instr.slice,Option.map_none];rw[C7 mZ sH cy ci (by omega)];simp_all[sizeOf,typeInfo,sliced]
     refine key _ _ _ (by omega) ?_;have:=b3.sub (.row _ k es b off cap arr ty cY us aw ef ai dO hk ky aE) (l:=(l.getD 0).toNat) (m:=(bO.getD es.length).toNat) (by omega) (by omega)
      (jE:=fun q o=>match q with | []=>o=.tok s [] | (i,j)::r=>o=.tok s ((i+(l.getD 0).toNat,j)::r)) (fun o h=>h) (fun i j q o aFQ h=>by
       grind[Tag.R,Nat.sub_add_cancel])
     refine this.frame fun c q _ aH=>⟨?_,rfl⟩
     simp only[Tag.R];cases q with
     | nil=>grind[kD]
     | cons x r=>
      obtain⟨i,j⟩:=x;simp only at aH;rw[aH];have cJ:¬(i+(l.getD 0).toNat<(l.getD 0).toNat):=by omega
      simp_all[kD,gy,bD,Nat.add_sub_cancel]
   cases h
  cases h
 cases h
end Go.Sx
namespace Go.Sx
open Go.RowKit
def laid(arr:Array Value)(o:Nat)(cs:List Value):Array Value:=(arr.toList.take o++cs++arr.toList.drop (o+cs.length)).toArray
theorem rZ{arr:Array Value}{o:Nat}{cs:List Value}(h:o+cs.length<=arr.size):(laid arr o cs).size=arr.size:=by
 simp[laid];omega
theorem nh{arr:Array Value}{o:Nat}{cs:List Value}(h:o+cs.length<=arr.size)(x:Nat):
  (laid arr o cs)[x]?=if o<=x/\x<o+cs.length then cs[x-o]? else arr[x]?:=by
 simp only[laid,p6,mO];have al:(arr.toList.take o).length=o:=by simp;omega
 split
 ·rename_i ag;rw[wX (by omega),Ba (by omega),al]
 rename_i ag;by_cases h1:x<o
 ·rw[Ba (by omega),jZ,bq h1,mN]
 rw[wX (by omega),wX (by omega),al,lx,mN]
 congr 1
 omega
theorem Ga{P:Program}(w:World)(dh a' ty elem:TypeId)(k b o Ff acY:Nat)(arr:Array Value)(tb:TypeId)(a:Addr)(D6 aaC:Nat)(cs:List Value)
  (hu:P.underlying dh=some (.slice elem)) (ao:(P.info? elem).map (·.size)=some k) (aw:w.heap[b]?=some (.cells arr tb (0,0))) (aW:cs.length=Nat.min D6 Ff*k)
  (jJ:∀j v,cs[j]?=some v->w.cell? (a.add j)=some v) (eo:o+cs.length<=arr.size) (h1:∀v∈cs,v.oneCell'=true):
  (Builtin.copy_ #[dh,a'] ty #[.slice (some ⟨b,o,none⟩) Ff acY,.slice (some a) D6 aaC]).run P w=.ok (goInt (Nat.min D6 Ff)) (w.setRow b (laid arr o cs)):=by
 have bI:=run_firstCells_some (P:=P) w k (Nat.min D6 Ff) a D6 aaC cs aW jJ;have fr:=run_storeCells_at P b o tb cs 0 arr w aw (by simpa using eo) h1;simp only[o6]at fr;cases aH:P.info? elem with
 | none=>simp[aH]at ao
 | some i=>
  have hi:i.size=k:=by simpa[aH]using ao
  subst hi;simp[Builtin.copy_,run_underlying hu,Builtin.lenOf,sizeOf,typeInfo,aH,bI,fr,laid]
theorem T5{P:Program}(w:World)(t e ty:TypeId)(z:Value)(bK:P.underlying t=some (.slice e))(bF:(zeroValue e).run P w=.ok z w)(b o n c:Nat)(arr:Array Value)(tb:TypeId)
  (aw:w.heap[b]?=some (.cells arr tb (0,0))) (eo:o+n*z.cells.size<=arr.size) (h1:∀v∈z.cells.toList,v.oneCell'=true):
  ∃zs:List Value,zs.length=n*z.cells.size/\(∀m,m<n*z.cells.size->zs[m]?=z.cells[m % z.cells.size]?)/\(Builtin.clear_ #[t] ty #[.slice (some ⟨b,o,none⟩) n c]).run P w=.ok (.tuple #[]) (if n=0 then w else w.setRow b (laid arr o zs)):=by
 refine⟨(Builtin.zeroCells z.cells n).toList,by simp[Builtin.zeroCells],fun m hm=>?_,?_⟩
 ·have qu:0<z.cells.size:=by
   rcases Nat.eq_zero_or_pos z.cells.size with h | h
   ·rw[h]at hm;simp at hm
   exact h
  simp only[Builtin.zeroCells,Array.toList_map,Array.toList_range,dI,List.getElem?_range hm,sk];rw[getElem!_pos z.cells _ (Nat.mod_lt _ qu),lV (Nat.mod_lt _ qu)]
 have oG:∀v∈(Builtin.zeroCells z.cells n).toList,v.oneCell'=true:=by
  intro v qv;simp only[Builtin.zeroCells,Array.toList_map,kr,Array.toList_range,List.mem_range]at qv;obtain⟨i,hi,rfl⟩:=qv;have qu:0<z.cells.size:=by
   rcases Nat.eq_zero_or_pos z.cells.size with h | h
   ·rw[h]at hi;simp at hi
   exact h
  refine h1 _ ?_;rw[getElem!_pos z.cells _ (Nat.mod_lt _ qu)];simp
 have fr:=run_storeCells_at P b o tb (Builtin.zeroCells z.cells n).toList 0 arr w aw (by simpa[Builtin.zeroCells]using eo) oG;simp only[o6]at fr;cases n with
 | zero=>simp[Builtin.clear_,run_underlying bK]
 | succ n=>simp[Builtin.clear_,run_underlying bK,bF,fr,laid]
def AD(t k:Nat)(cC:List (List D)):aG->aG
 | .J (.own s) ck es=>if s=t then .J (.own t) k cC else .J (.own s) ck es
 | l=>aG.cN (fO t) (fun _=>true) l
def Gb(P:Program)(st:aD)(d:Nat)(t:TypeId)(x:Operand)(c7:Option Operand)(eS:TypeId)(ans:List cf):Stepped:=
 match rV P t,(st.bt x).leaf with
 | some (e,k),some (.J (.own hG) ck es)=>
  match P.info? e with
  | some i=>
   match i.zero,nf st c7 with
   | some z,some l=>
    if k=ck/\t=eS/\z.cells.size=k/\z.cells.toList.all (fun v=>v.oneCell')=true/\d<st.env.length then
     let st2:=st.map (AD hG k (es.take (l.getD 0).toNat++List.replicate (es.length-(l.getD 0).toNat) (z.cells.toList.map .v)))
     some (⟨st2.env.set d .cp,st2.boxes⟩,ans,[0<=l.getD 0,l.getD 0<es.length,Flat es])
    else none
   | _,_=>none
  | none=>none
 | _,_=>none
theorem cM.clear{P:Program}{w0:eT}{st bG:aD}{a:Act}{w:World}{ω:Own}{τ:Nat->Nat×Value}{d:Nat}{t eS:TypeId}{x:Operand}{c7:Option Operand}{ans cv:List cf}{obs:List Prop}
  (a6:cM w0 st a w ω τ) (h:Gb P st d t x c7 eS ans=some (bG,cv,obs)) (a8:cO obs):
  d<a.tmps.size/\∃y z aN,(Instr.sliceAt t (a.eval x) (c7.map a.eval) none none).run P w=.ok y w/\(∀ty,(Builtin.clear_ #[eS] ty #[y]).run P w=.ok z aN)/\Rel w0 bG (a.put (some d) y) aN:=by
 unfold Gb at h;split at h
 ·rename_i e k hG ck es he ag;split at h
  ·rename_i i hi;split at h
   ·rename_i z l bb Sz;split at h
    ·rename_i ai;obtain⟨rfl,rfl,nS,um,rr⟩:=ai;refine⟨by rw[a6.size];exact rr,?_⟩;simp only[aZ,bL]at h;obtain⟨rfl,_,rfl⟩:=h;obtain⟨cy,ci,FC,_⟩:=a8;obtain⟨hu,i2,oC,dO⟩:=xA he;obtain⟨aC,bO⟩:=aI.dU ag (a6.bt x);have aA:=C8 a6 Sz;have mZ:(c7.map a.eval=none/\l.getD 0=0)\/∃k,c7.map a.eval=some (.int k (l.getD 0)):=by
      rcases aA with⟨h,rfl⟩ | ⟨k,n,h,rfl⟩
      ·exact .inl ⟨h,rfl⟩
      exact .inr ⟨k,h⟩
     generalize sG:a.eval x=mM at aC bO;cases aC with
     | nil _ _ a0=>simp at ci;omega
     | row R k es b off cap arr ty cY us aw ef ff ao hk ky aE=>
      have l2:ω b=.tok hG []:=ef;obtain⟨lK,vg,wU,iw⟩:=a6.owned b (by rw[l2];simp);rw[aw]at iw;simp only[aZ,Obj.cells.injEq]at iw;obtain⟨rfl,rfl,rfl⟩:=iw;obtain⟨L,cJ⟩:∃L,L=(l.getD 0).toNat:=⟨_,rfl⟩
      have aFg:L<es.length:=by omega
      rw[<-cJ];have eo:off+L*k+(es.length-L)*z.cells.size<=arr.size:=by
       rw[nS,ES,<-hK,show L+(es.length-L)=es.length by omega];have:=hI k ff;omega
      have afi:(zeroValue e).run P w=.ok z w:=by simp[zeroValue,typeInfo,hi,bb]
      obtain⟨zs,nd,S7,BS⟩:∃zs:List Value,zs.length=(es.length-L)*z.cells.size/\(∀m,m<(es.length-L)*z.cells.size->zs[m]?=z.cells[m % z.cells.size]?)/\
        ∀ty,(Builtin.clear_ #[t] ty #[.slice (some ⟨b,off+L*k,none⟩) (es.length-L) (cap-L)]).run P w=.ok (.tuple #[]) (if es.length-L=0 then w else w.setRow b (laid arr (off+L*k) zs)):=by
       obtain⟨zs,h1,U,aA⟩:=T5 (P:=P) w t e 0 z hu afi b (off+L*k) (es.length-L) (cap-L) arr ty aw eo (gn.1 um);exact⟨zs,h1,U,fun se=>aA⟩
      rw[bD (by omega)]at BS;rw[nS]at nd S7;have c4:off+L*k+zs.length<=arr.size:=by rw[nd,<-nS];exact nS▸eo
      refine⟨.slice (some ⟨b,off+L*k,none⟩) (es.length-L) (cap-L),_,_,?_,BS,?_⟩
      ·simp only[Instr.sliceAt,Sem.run_bind,run_underlying hu,Result.andThen_ok,Instr.slice,Option.map_none];rw[C7 (h:=es.length) mZ (.inl ⟨rfl,rfl⟩) cy (by omega) (by omega)];have cZ:¬cap=L:=by omega
       simp[sizeOf,typeInfo,oC,dO,<-cJ,cZ,Addr.add_lit]
      -- aGO aDV behind it
      have l6:=setRow_heap w b arr (laid arr (off+L*k) zs) ty (0,0) aw;have hv:b3 (w.setRow b (laid arr (off+L*k) zs)) ω (Tag.own hG).R (.J k (es.take L++List.replicate (es.length-L) (z.cells.toList.map .v))) (.slice (some ⟨b,off,none⟩) es.length cap):=by
       have hlen:(es.take L++List.replicate (es.length-L) (z.cells.toList.map D.v)).length=es.length:=by simp;omega
       have fA:∀x j d,df (es.take L++List.replicate (es.length-L) (z.cells.toList.map D.v)) x j=some d->∃v,d=.v v/\(laid arr (off+L*k) zs)[off+x*k+j]?=some v/\v.oneCell'=true:=by
        intro x j d eu;rw[Db]at eu;have Cf:(es.take L).length=L:=by simp;omega
        rw[Cf]at eu;split at eu
        ·rename_i KW;have xk:df es x j=some d:=by
          unfold df at eu ⊢;rwa[jZ,bq KW]at eu
         obtain⟨gz,jG⟩:=uL hk xk;have sK:∃v,d=.v v:=by
          unfold df at xk;cases e1:es[x]? with
          | none=>simp[e1]at xk
          | some ds=>
           simp only[e1,q0]at xk;exact FC ds (gj e1) d (gj xk)
         obtain⟨v,rfl⟩:=sK;have aJ:=aE x j _ xk;have a7:=ky x j _ xk;generalize us x j=u at aJ a7;cases aJ with
         | v _ _ bw=>
          refine⟨v,rfl,?_,bw⟩;rw[nh c4,bD ?_,a7];have:(x+1)*k<=L*k:=hI _ KW;rw[hK]at this;omega
        rename_i KW;unfold df at eu;rw[EO]at eu;split at eu
        ·rename_i Cj;simp only[q0,dI,ca]at eu;obtain⟨v,bF,rfl⟩:=eu;have B3:j<k:=by
          have:=(ga.1 bF).1;rw[Ry,nS]at this;exact this
         refine⟨v,rfl,?_,gn.1 um v (gj bF)⟩;obtain⟨m,hm⟩:∃m,x=L+m:=⟨x-L,by omega⟩
         subst hm;have aem:m*k+j<(es.length-L)*k:=by
          have:(m+1)*k<=(es.length-L)*k:=hI _ (by omega);rw[hK]at this;omega
         have e1:off+(L+m)*k+j=off+L*k+(m*k+j):=by rw[hK];omega
         rw[e1,nh c4,bq (by omega),show off+L*k+(m*k+j)-(off+L*k)=m*k+j by omega,S7 _ aem,show (m*k+j) % k=j by rw[Nat.mul_comm m k,Nat.mul_add_mod,ER B3]];simpa using bF
        simp at eu
       have:=b3.row (w:=w.setRow b (laid arr (off+L*k) zs)) (ω:=ω) (Tag.own hG).R k (es.take L++List.replicate (es.length-L) (z.cells.toList.map .v)) b off cap _ ty (0,0)
        (fun x j=>(laid arr (off+L*k) zs).getD (off+x*k+j) undef) l6 ef (by omega) (by rw[rZ c4];exact ao)
        (by
         intro e' rv;rcases hM.1 rv with h | h
         ·exact hk e' (sl h)
         rw[List.eq_of_mem_replicate h];simp[nS])
        (fun x j d eu=>by obtain⟨v,rfl,h1,_⟩:=fA x j d eu;simp[fc,h1])
        (fun x j d eu=>by
         obtain⟨v,rfl,h1,U⟩:=fA x j d eu;have:(laid arr (off+L*k) zs).getD (off+x*k+j) undef=v:=by simp[fc,h1]
         rw[this];exact .v _ _ U)
       rwa[hlen]at this
      have bt:mQ w ω τ (w.setRow b (laid arr (off+L*k) zs)) ω τ (fO hG) (fun _=>true):=by
       refine⟨?_,?_,fun id c _ ai=>ai,rfl,fun _ _=>rfl⟩
       ·intro g eN c q ay _ aH;obtain⟨rfl,B7⟩:=F9 ay aH;exact⟨aH,setRow_other w b c _ fun e=>B7 [] (by rw[e];exact l2)⟩
       intro g eN y ay bu;cases g with
       | free=>simp only[fO,aZ]at ay;subst ay;trivial
       | own x=>
        simp only[fO]at ay;split at ay
        ·cases ay
        simp only[aZ]at ay;subst ay;exact bu
       | ro x=>
        simp only[fO]at ay;split at ay
        ·cases ay
        simp only[aZ]at ay;subst ay;trivial
      have e8:∀lN v,Sat w ω τ lN v->Sat (w.setRow b (laid arr (off+L*k) zs)) ω τ (AD hG k (es.take L++List.replicate (es.length-L) (z.cells.toList.map .v)) lN) v:=by
       intro lN v KR;by_cases Fz:∃s ck cC,lN=.J (.own s) ck cC
       ·obtain⟨s,ck,cC,rfl⟩:=Fz;simp only[AD];split
        ·rename_i fr;subst fr;obtain⟨_,U⟩:=KR;simp only[Tag.et]at U bO;rw[U]at bO;simp only[bL]at bO;obtain⟨rfl,rfl⟩:=bO;exact⟨hv,U⟩
        rename_i fr;have:=bt.sat (.J (.own s) ck cC) v KR;simpa[aG.cN,fO,fr]using this
       have ez:AD hG k (es.take L++List.replicate (es.length-L) (z.cells.toList.map .v)) lN=aG.cN (fO hG) (fun _=>true) lN:=by
        unfold AD;split
        ·exact absurd ⟨_,_,_,rfl⟩ Fz
        rfl
       rw[ez];exact bt.sat lN v KR
      have h1:cM w0 (st.map (AD hG k (es.take L++List.replicate (es.length-L) (z.cells.toList.map .v)))) a (w.setRow b (laid arr (off+L*k) zs)) ω τ:=by
       refine a6.dc _ e8 (a6.below.setRow lK _) ?_ (fun id c ai=>⟨ai,setRow_other w b c _ fun e=>by rw[e,l2]at ai;cases ai⟩) (fun id c ai=>ai) (fun _ _=>rfl);intro c ai;obtain⟨h1,kt,kJ,U⟩:=a6.owned c ai;by_cases e:c=b
       ·subst e;exact⟨h1,_,ty,l6⟩
       exact⟨h1,kt,kJ,(setRow_other w b c _ e).trans U⟩
      exact⟨ω,τ,h1.put (p:=.cp) trivial⟩
    cases h
   cases h
  cases h
 cases h
end Go.Sx
namespace Go.Sx
open Go.RowKit
def bp.mi(p:aG->Prop):bp->Prop
 | .one l=>p l
 | .agg ls=>∀l∈ls,p l
def aI.mi(p:aG->Prop):aI->Prop
 | .aF a=>a.mi p
 | .gx as=>∀a∈as,a.mi p
variable{S lD:aG->Value->Prop}{p:aG->Prop}{f:aG->aG}{ls:List aG}
theorem lf.map'(h:∀l v,p l->S l v->lD (f l) v){vs:Array Value}(ah:∀l∈ls,p l)(ao:lf S ls vs):lf lD (ls.map f) vs:=by
 refine⟨by simpa using ao.1,fun i l al=>?_⟩;rw[dI,ca]at al;obtain⟨dn,bJ,rfl⟩:=al;obtain⟨u,h1,U⟩:=ao.2 i dn bJ;exact⟨u,h1,h _ _ (ah dn (gj bJ)) U⟩
theorem lc.map'(h:∀l v,p l->S l v->lD (f l) v):∀{a:bp} {y:Value},a.mi p->lc S a y->lc lD (a.map f) y
 | .one l,y,ah,ao=>h _ _ ah ao
 | .agg ls,y,ah,⟨vs,e,ao⟩=>⟨vs,e,ao.map' h ah⟩
theorem cW.map'(h:∀l v,p l->S l v->lD (f l) v):∀{q:aI} {y:Value},q.mi p->cW S q y->cW lD (q.map f) y
 | .aF a,y,ah,ao=>show lc lD (a.map f) y from lc.map' h ah (show lc S a y from ao)
 | .gx as,y,ah,⟨vs,e,aW,ao⟩=>⟨vs,e,by simpa using aW,fun i a hi=>by
   rw[dI,ca]at hi;obtain⟨a0,bJ,rfl⟩:=hi;obtain⟨u,h1,U⟩:=ao i a0 bJ;exact⟨u,h1,lc.map' h (ah a0 (gj bJ)) U⟩⟩
variable{w0:eT}{st:aD}{a:Act}{w aN:World}{ω bh:Own}{τ:Nat->Nat×Value}
theorem cM.aD4{c3:Nat->Nat×Value}{p:aG->Prop}(h:cM w0 st a w ω τ)(f:aG->aG)
  (e8:∀l v,p l->Sat w ω τ l v->Sat aN bh c3 (f l) v) (he:∀q∈st.env,q.mi p) (aw:∀id ls,dK id st.boxes=some ls->∀l∈ls,p l) (pr:gZ w0 aN) (rC:pa w0 aN bh)
  (tX:∀id b,ω b=.box id->bh b=.box id/\aN.heap[b]?=w.heap[b]?) (BP:∀id b,bh b=.box id->ω b=.box id) (vy:∀t,dk<=t->c3 t=τ t):cM w0 (st.map f) a aN bh c3 where
 defers:=h.defers
 size:=by simp[aD.map,h.size]
 below:=pr
 owned:=rC
 fixed:=fun t bK=>(vy t bK).trans (h.fixed t bK)
 pinned:=fun id b hi aw=>h.pinned id b hi (BP id b aw)
 env:=by
  intro i q aH;simp only[aD.map]at aH;rw[dI,ca]at aH;obtain⟨gr,bJ,rfl⟩:=aH;obtain⟨v,h1,U⟩:=h.env i gr bJ;exact⟨v,h1,cW.map' e8 (he gr (gj bJ)) U⟩
 boxes:=by
  intro id ls al;simp only[aD.map]at al;rw[uK,ca]at al;obtain⟨kg,bJ,rfl⟩:=al;obtain⟨b,arr,ty,hs,hu,bO,ao⟩:=h.boxes id kg bJ;obtain⟨h1,U⟩:=tX id b hs;exact⟨b,arr,ty,h1,fun dE eE=>hu dE (BP id dE eE),U.trans bO,ao.map' e8 (aw id kg bJ)⟩
def aG.idx(t j:Nat):aG->List Nat
 | .aR s a b _ _ _=>if s=t/\b=j then [a] else []
 | _=>[]
def bp.idx(t j:Nat):bp->List Nat
 | .one l=>l.idx t j
 | .agg ls=>ls.flatMap (aG.idx t j)
def aI.idx(t j:Nat):aI->List Nat
 | .aF a=>a.idx t j
 | .gx as=>as.flatMap (bp.idx t j)
def aD.idx(t j:Nat)(st:aD):List Nat:=st.env.flatMap (aI.idx t j)++st.boxes.flatMap fun x=>x.2.flatMap (aG.idx t j)
def Gc(t i j:Nat)(l:aG):Prop:=∀a∈l.idx t j,a=i
theorem T6{id:Nat}:∀{bs:List (Nat×List aG)} {ls:List aG},dK id bs=some ls->(id,ls)∈bs
 | [],_,h=>by cases h
 | (i,l)::r,ls,h=>by
  simp only[dK]at h;split at h
  ·rename_i hi;subst hi;rw[gO h];exact h2
  exact gE _ (T6 h)
variable{t i j:Nat}
theorem aD.afl(h:∀a∈st.idx t j,a=i):∀q∈st.env,q.mi (Gc t i j):=by
 intro q aH;have h1:∀a∈q.idx t j,a=i:=fun a ah=>h a (hJ _ (lA.2 ⟨q,aH,ah⟩))
 have Fx:∀x:bp,(∀a∈x.idx t j,a=i)->x.mi (Gc t i j):=by
  intro x ag;cases x with
  | one l=>exact ag
  | agg ls=>exact fun l al a ah=>ag a (lA.2 ⟨l,al,ah⟩)
 cases q with
 | aF x=>exact Fx x h1
 | gx as=>exact fun x ag=>Fx x fun a ah=>h1 a (lA.2 ⟨x,ag,ah⟩)
theorem aD.afk(h:∀a∈st.idx t j,a=i){id:Nat}(aw:dK id st.boxes=some ls):∀l∈ls,Gc t i j l:=by
 intro l al a ah;exact h a (iN _ (lA.2 ⟨(id,ls),T6 aw,lA.2 ⟨l,al,ah⟩⟩))
def hV(t i j k:Nat)(cC:List (List D))(kT:Nat)(esT:List (List D)):aG->aG
 | .J (.own s) dw dT=>if s=t then .J (.own t) kT esT else .J (.own s) dw dT
 | .ep (.own s) dw dT a b=>if s=t then .ep (.own t) kT esT a b else .ep (.own s) dw dT a b
 | .J (.ro s) dw dT=>if s=t then .cp else .J (.ro s) dw dT
 | .ep (.ro s) dw dT a b=>if s=t then .cp else .ep (.ro s) dw dT a b
 | .aR s a b dw dT m=>if s=t/\b=j then (if dw=k/\m.home=true then .aR t i j k cC m else .cp) else .aR s a b dw dT m
 | .fP _ _=>.cp
 | l=>l
variable{v:Value}
theorem vM.aD7{u:Value}(h1:vM w ω τ t i j u)(U:vM w ω τ t i j v):u=v:=by
 obtain⟨kT,b,off,len,cap,arr,ty,cY,dN,a2,a3,a4⟩:=h1;obtain⟨afp,dE,aGm,aGg,mU,cm,se,aE3,e7,fT,sv,JA⟩:=U;rw[dN]at e7;simp only[bL,Value.slice.injEq,aZ,Addr.mk.injEq]at e7;obtain⟨rfl,⟨rfl,rfl,_⟩,_,_⟩:=e7;rw[a3]at sv;simp only[aZ,Obj.cells.injEq]at sv;obtain⟨rfl,_,_⟩:=sv;rw[a4]at JA;exact gO JA
variable{k kT:Nat}{esT:List (List D)}
theorem cM.aaG(h:cM w0 st a w ω τ){cC:List (List D)}{yT fo:Value}
  (kW:∀c,c<w.heap.size->ω c≠.tok t [(i,j)]->aN.heap[c]?=w.heap[c]?) (di:∀c,c<w.heap.size->bh c=ω c) (Lu:∀c id,¬c<w.heap.size->bh c≠.box id)
  (l3:gZ w0 aN) (lK:pa w0 aN bh) (uo:τ t=(kT,yT)) (pw:b3 aN bh (Tag.own t).R (.J kT esT) yT)
  (sI:vM w ω τ t i j fo) (qt:b3 aN bh (fun q o=>o=.tok t ((i,j)::q)) (.J k cC) fo) (qq:∀a∈st.idx t j,a=i):cM w0 (st.map (hV t i j k cC kT esT)) a aN bh τ:=by
 have cY:∀{R:List (Nat×Nat)->dv->Prop} {d:D} {v:Value},(∀q,¬R q (.tok t [(i,j)]))->b3 w ω R d v->b3 aN bh R d v:=by
  intro R d v aW aC;refine aC.frame fun b q bR aH=>?_
  rw[di b bR];exact⟨aH,kW b bR fun e=>aW q (by rw[<-e];exact aH)⟩
 have home:∀{s a b:Nat} {u:Value},vM w ω τ s a b u->vM aN bh τ s a b u:=by
  rintro s a b u ⟨kT,c,off,len,cap,arr,ty,cY,dN,a2,a3,a4⟩;have bR:c<w.heap.size:=(jj.1 a3).1;exact⟨kT,c,off,len,cap,arr,ty,cY,dN,by rw[di c bR];exact a2,(kW c bR (by rw[a2];simp)).trans a3,a4⟩
 refine h.aD4 (p:=Gc t i j) _ ?_ (aD.afl qq) (fun id ls aw=>aD.afk qq aw) l3 lK (fun id b aw=>?_) (fun id b aw=>?_) (fun _ _=>rfl)
 ·intro l v ay ao;cases l with
  | cp=>exact trivial
  | v x=>exact ao
  | bg c=>exact ao
  | ptr id o=>
   obtain⟨c,ai,e⟩:=ao;exact⟨c,by rw[di c (h.owned.lt (by simp[ai]))];exact ai,e⟩
  | hq f ids=>
   obtain⟨bs,e,aW,hi⟩:=ao;refine⟨bs,e,aW,fun x id hB=>?_⟩;obtain⟨b,h1,U⟩:=hi x id hB;exact⟨b,h1,by rw[di b (h.owned.lt (by simp[U]))];exact U⟩
  | hY ds o=>
   obtain⟨c,e,aC⟩:=ao;exact⟨c,e,cY (fun q aH=>by cases aH) aC⟩
  | fd d=>exact cY (R:=Tag.free.R) (fun q aH=>by cases aH) ao
  | dC t0 dw dT=>exact⟨cY (R:=Tag.free.R) (fun q aH=>by cases aH) ao.1,ao.2⟩
  | fP=>exact trivial
  | J g dw dT=>
   cases g with
   | free=>exact⟨cY (R:=Tag.free.R) (fun q aH=>by cases aH) ao.1,aa⟩
   | own s=>
    simp only[hV];split
    ·rename_i e;subst e;have U:=ao.2;simp only[Tag.et]at U;rw[uo]at U;simp only[bL]at U;rw[<-U.2];exact⟨pw,uo⟩
    rename_i cZ;exact⟨cY (R:=(Tag.own s).R) (fun q aH=>by simp only[Tag.R,dv.tok.injEq]at aH;exact cZ aH.1.symm) ao.1,ao.2⟩
   | ro s=>
    simp only[hV];split
    ·exact trivial
    rename_i cZ;refine⟨cY (R:=(Tag.ro s).R) (fun q aH=>?_) ao.1,aa⟩;rcases aH with aH | ⟨ee,aH⟩
    ·cases aH
    simp only[dv.tok.injEq]at aH;exact cZ aH.1.symm
  | ep g dw dT x y=>
   obtain⟨fT,rP,q9,e,oC,oH,pv⟩:=ao;cases g with
   | free=>exact⟨fT,rP,q9,e,oC,cY (R:=Tag.free.R) (fun q aH=>by cases aH) oH,aa⟩
   | own s=>
    simp only[hV];split
    ·rename_i e1;subst e1;simp only[Tag.et]at pv;rw[uo]at pv;simp only[bL]at pv;obtain⟨rfl,rfl⟩:=pv;have al:esT.length=dT.length:=by
      obtain⟨_,_,e2⟩:=pw.len;simp only[Value.slice.injEq]at e2;exact e2.2.1.symm
     refine⟨fT,rP,q9,e,by omega,?_,?_⟩
     ·rw[al];exact pw
     rw[al];exact uo
    rename_i cZ;exact⟨fT,rP,q9,e,oC,cY (R:=(Tag.own s).R) (fun q aH=>by simp only[Tag.R,dv.tok.injEq]at aH;exact cZ aH.1.symm) oH,pv⟩
   | ro s=>
    simp only[hV];split
    ·exact trivial
    rename_i cZ;refine⟨fT,rP,q9,e,oC,cY (R:=(Tag.ro s).R) (fun q aH=>?_) oH,aa⟩;rcases aH with aH | ⟨ee,aH⟩
    ·cases aH
    simp only[dv.tok.injEq]at aH;exact cZ aH.1.symm
  | aR s x y dw dT m=>
   simp only[hV];obtain⟨u,hu,aC,hm⟩:=ao;split
   ·rename_i ai;obtain⟨rfl,rfl⟩:=ai;have ag:x=i:=ay x (by simp[aG.idx]);subst ag;split
    ·rename_i ai;obtain⟨rfl,ael⟩:=ai;have e:=(hm ael).aD7 sI;subst e;have al:cC.length=dT.length:=by
      obtain⟨_,_,e1⟩:=qt.len;obtain⟨_,_,e2⟩:=aC.len;rw[e1]at e2;simp only[Value.slice.injEq]at e2;omega
     exact⟨u,by rw[al];exact hu,qt,fun _=>home sI⟩
    exact trivial
   rename_i ai;refine⟨u,hu,cY (fun q aH=>?_) aC,fun bO=>home (hm bO)⟩;simp only[dv.tok.injEq,tD,bL]at aH;exact ai ⟨aH.1.symm,aH.2.1.2.symm⟩
 ·have bR:=h.owned.lt (b:=b) (by simp[aw]);exact⟨by rw[di b bR];exact aw,kW b bR (by rw[aw];simp)⟩
 by_cases bR:b<w.heap.size
 ·rw[di b bR]at aw;exact aw
 exact absurd aw (Lu b id bR)
def u0(t:Nat):aG->Option (Nat×List (List D))
 | .J (.own s) k es=>if s=t then some (k,es) else none
 | _=>none
def wq(t:Nat):List aI->Option (Nat×List (List D))
 | []=>none
 | .aF (.one l)::r=>match u0 t l with | some x=>some x | none=>wq t r
 | .aF (.agg ls)::r=>match ls.findSome? (u0 t) with | some x=>some x | none=>wq t r
 | _::r=>wq t r
def Gd(t:Nat)(st:aD):Option (Nat×List (List D)):=
 match wq t st.env with
 | some x=>some x
 | none=>(st.boxes.find? fun x=>(x.2.findSome? (u0 t)).isSome).bind fun x=>(dK x.1 st.boxes).bind fun ls=>ls.findSome? (u0 t)
theorem Ni{l:aG}(h:u0 t l=some (kT,esT))(ao:Sat w ω τ l v):Sat w ω τ (.J (.own t) kT esT) v:=by
 unfold u0 at h;split at h
 ·split at h
  ·rename_i e;subst e;simp only[aZ,bL]at h;obtain⟨rfl,rfl⟩:=h;exact ao
  cases h
 cases h
theorem T7{vs:Array Value}(h:ls.findSome? (u0 t)=some (kT,esT))(ao:lf (Sat w ω τ) ls vs):∃v,Sat w ω τ (.J (.own t) kT esT) v:=by
 obtain⟨l,al,U⟩:=List.exists_of_findSome?_eq_some h;obtain⟨x,ag⟩:=ob.1 al;obtain⟨u,_,hu⟩:=ao.2 x l ag;exact⟨u,Ni U hu⟩
theorem Ge:∀{cz:List aI},wq t cz=some (kT,esT)->(∀p∈cz,∃v,cW (Sat w ω τ) p v)->∃v,Sat w ω τ (.J (.own t) kT esT) v
 | [],h,_=>by cases h
 | p::r,h,ao=>by
  have aC:∀p∈r,∃v,cW (Sat w ω τ) p v:=fun p hp=>ao p (gE _ hp)
  obtain⟨v,bF⟩:=ao p h2;cases p with
  | gx as=>exact Ge (by simpa[wq]using h) aC
  | aF x=>
   cases x with
   | one l=>
    simp only[wq]at h;split at h
    ·rename_i y e;simp only[aZ]at h;subst h;exact⟨v,Ni e bF⟩
    exact Ge h aC
   | agg ls=>
    simp only[wq]at h;split at h
    ·rename_i y e;simp only[aZ]at h;subst h;obtain⟨vs,_,bF⟩:=bF;exact T7 e bF
    exact Ge h aC
theorem cM.root(h:cM w0 st a w ω τ)(e:Gd t st=some (kT,esT)):∃v,Sat w ω τ (.J (.own t) kT esT) v:=by
 unfold Gd at e;split at e
 ·rename_i x e1;simp only[aZ]at e;subst e;refine Ge e1 fun p hp=>?_
  obtain⟨x,ag⟩:=ob.1 hp;obtain⟨v,_,bF⟩:=h.env x p ag;exact⟨v,bF⟩
 rw[nB]at e;obtain⟨x,_,e⟩:=e;rw[nB]at e;obtain⟨ls,aw,e⟩:=e;obtain⟨b,arr,ty,_,_,_,ao⟩:=h.boxes x.1 ls aw;exact T7 e ao
theorem T8{cC:List (List D)}{j6:List D}{yT fo:Value}(ao:Sat w ω τ (.J (.own t) kT esT) yT)
  (kW:∀c,c<w.heap.size->ω c≠.tok t [(i,j)]->aN.heap[c]?=w.heap[c]?) (di:∀c,c<w.heap.size->bh c=ω c)
  (sI:vM w ω τ t i j fo) (qt:b3 aN bh (fun q o=>o=.tok t ((i,j)::q)) (.J k cC) fo) (fj:esT[i]?=some j6):b3 aN bh (Tag.own t).R (.J kT (esT.set i (j6.set j (.J k cC)))) yT:=by
 obtain⟨aC,bO⟩:=ao;simp only[Tag.et]at bO;obtain⟨afp,b8,LO,rI,RM,vg,wU,aE4,dN,a2,a3,a4⟩:=sI;rw[bO]at dN;simp only[bL]at dN;obtain⟨rfl,rfl⟩:=dN;have kv:i<esT.length:=(ga.1 fj).1;have hlen:(esT.set i (j6.set j (.J k cC))).length=esT.length:=ho;generalize bu:Value.slice (some ⟨b8,LO,none⟩) rI RM=Rx at aC;cases aC with
 | nil=>simp at kv
 | row R kT esT b off cap arr ty cY us aw ef ai dO hk hu aE=>
  simp only[Value.slice.injEq,aZ,Addr.mk.injEq]at bu;obtain⟨⟨rfl,rfl,_⟩,rfl,rfl⟩:=bu;rw[aw]at a3;simp only[aZ,Obj.cells.injEq]at a3;obtain⟨rfl,_,_⟩:=a3;have xj:b8<w.heap.size:=(jj.1 aw).1;have FD:j6.length=kT:=hk j6 (gj fj);have xp:∀e∈esT.set i (j6.set j (.J k cC)),e.length=kT:=by
   intro e he;rcases iD he with h | rfl
   ·exact hk e h
   rw[ho];exact FD
  have key:∀x y d,df (esT.set i (j6.set j (.J k cC))) x y=some d->arr[LO+x*kT+y]?=some (us x y)/\b3 aN bh (fun q=>(Tag.own t).R ((x,y)::q)) d (us x y):=by
   intro x y d eu;have KX:=uL xp eu;rw[hlen]at KX;obtain⟨d0,lj⟩:=Ut hk KX.1 KX.2;have xt:=hu x y d0 lj;refine⟨xt,?_⟩;rw[M3 kv]at eu;by_cases ag:x=i
   ·subst ag;rw[bq rfl,p7]at eu;by_cases Ls:j=y
    ·subst Ls;rw[bq rfl,bq (by omega)]at eu;rw[<-gO eu];rw[a4]at xt;rw[<-gO xt];exact qt
    rw[bD Ls]at eu;have rp:df esT x y=some d:=by simp[df,fj,eu]
    refine (aE x y d rp).frame fun c q ai aH=>?_
    rw[di c ai];refine⟨aH,kW c ai fun e=>?_⟩;simp only[Tag.R,e,dv.tok.injEq,tD,bL]at aH;exact Ls aH.2.1.2
   rw[bD ag]at eu;refine (aE x y d eu).frame fun c q ai aH=>?_
   rw[di c ai];refine⟨aH,kW c ai fun e=>?_⟩;simp only[Tag.R,e,dv.tok.injEq,tD,bL]at aH;exact ag aH.2.1.1.symm
  have l2:ω b8=.tok t []:=ef;have:=b3.row (w:=aN) (ω:=bh) (Tag.own t).R kT (esT.set i (j6.set j (.J k cC))) b8 LO RM arr ty cY us ((kW b8 xj (by rw[l2];simp)).trans aw) (by rw[di b8 xj];exact l2) (by omega) dO xp
   (fun x y d aE=>(key x y d aE).1) (fun x y d aE=>(key x y d aE).2)
  rw[hlen]at this;exact this
def Nj(P:Program)(st:aD)(ty:TypeId)(t i j k:Nat)(es:List (List D))(x y:Nat)(q:aI)(ans:List cf):Stepped:=
 match q.leaves,P.info? ty,Gd t st,ans with
 | some xs,some inf,some (kT,esT),.el ds::.el j6::r=>
  match xs.mapM aG.jz with
  | some ys=>
   if xs.length=inf.size/\ds.length=k/\y+ys.length<=k/\xs.all (fun l=>l.tok.isNone)=true then
    some (st.map (hV t i j k (es.set x (l0 ds y ys)) kT (esT.set i (j6.set j (.J k (es.set x (l0 ds y ys)))))),r,(es[x]?=some ds)::(esT[i]?=some j6)::(st.idx t j).map fun a=>a=i)
   else none
  | none=>none
 | _,_,_,_=>none
theorem aAH{l:aG}{d:D}(h:l.jz=some d)(bK:l.tok.isNone=true){u:Value}(ao:Sat w ω τ l u):∃z,d=.v z/\u=z/\z.oneCell'=true:=by
 cases l with
 | v z=>
  simp only[aG.jz]at h;split at h
  ·simp only[aZ]at h;subst h;have:u=z:=ao;exact⟨z,rfl,this,‹_›⟩
  cases h
 | bg c=>
  simp only[aG.jz,aZ]at h;subst h;exact⟨_,rfl,ao,rfl⟩
 | J g k es=>
  cases g with
  | own s=>simp[aG.tok]at bK
  | free=>cases h
  | ro s=>cases h
 | cp=>cases h
 | ptr=>cases h
 | ep=>cases h
 | hY=>cases h
 | fd=>cases h
 | dC=>cases h
 | hq=>cases h
 | aR=>cases h
 | fP=>cases h
theorem cM.aD0{P:Program}{bG:aD}{ty:TypeId}{x y:Nat}{es:List (List D)}{q:aI}{p:Value}{ans cv:List cf}{obs:List Prop}
  (a6:cM w0 st a w ω τ) (hp:Sat w ω τ (.aR t i j k es (.at_ x y)) p) (aH:cW (Sat w ω τ) q v) (h:Nj P st ty t i j k es x y q ans=some (bG,cv,obs)) (a8:cO obs):
  ∃aN,(Instr.storeAt ty p v).run P w=.ok () aN/\Rel w0 bG a aN:=by
 unfold Nj at h;split at h
 ·rename_i xs inf kT esT ds j6 r e1 e2 dS;split at h
  ·rename_i ys ch;split at h
   ·rename_i ai;obtain⟨mY,mr,l4,zk⟩:=ai;simp only[aZ,bL]at h;obtain⟨rfl,_,rfl⟩:=h;obtain⟨fj,zl,qq⟩:=a8;have qq:=Gu qq;obtain⟨yT,pw⟩:=a6.root dS;obtain⟨ao,oG⟩:=aI.zG e1 aH;obtain⟨S5,Lr⟩:=oR ch;obtain⟨fo,⟨b,off,cap,rfl,rfl,kv⟩,aC,hm⟩:=hp;have sI:=hm rfl;have rD:=aC;cases aC with
    | nil=>simp at kv
    | row R k es b off cap arr jB cY us aw ef ff dO ht hu aE=>
     have l2:ω b=.tok t [(i,j)]:=ef;obtain⟨xn,vg,wU,iw⟩:=a6.owned b (by rw[l2];simp);rw[aw]at iw;simp only[aZ,Obj.cells.injEq]at iw;obtain⟨rfl,rfl,rfl⟩:=iw;have xj:b<w.heap.size:=(jj.1 aw).1;have hmul:(x+1)*k<=cap*k:=hI _ (by omega);rw[hK]at hmul;have qw:v.cells.size=xs.length:=ao.1;have eo:off+x*k+y+v.cells.toList.length<=arr.size:=by simp;omega
     have fr:=run_storeCells_at P b (off+x*k+y) jB v.cells.toList 0 arr w aw (by simpa using eo) oG;simp only[o6]at fr;generalize qn:(arr.toList.take (off+x*k+y)++v.cells.toList++arr.toList.drop (off+x*k+y+v.cells.toList.length)).toArray=cm at fr;have hT:∀z:Nat,cm[z]?=if off+x*k+y<=z/\z<off+x*k+y+xs.length then v.cells[z-(off+x*k+y)]? else arr[z]?:=by
      intro z;rw[<-qn,p6,C' (by simpa using eo)];simp[qw]
     have zA:cm.size=arr.size:=by rw[<-qn];simp;simp at eo;omega
     have l6:=setRow_heap w b arr cm jB (0,0) aw;have kW:∀c,c<w.heap.size->ω c≠.tok t [(i,j)]->(w.setRow b cm).heap[c]?=w.heap[c]?:=fun c _ ai=>setRow_other w b c cm fun e=>ai (by rw[e];exact l2)
     have qt:b3 (w.setRow b cm) ω (fun q o=>o=.tok t ((i,j)::q)) (.J k (es.set x (l0 ds y ys))) (.slice (some ⟨b,off,none⟩) es.length cap):=by
      have hlen:(es.set x (l0 ds y ys)).length=es.length:=ho;have FD:ds.length=k:=mr;have oF:∀hl gh d,df es hl gh=some d->b3 (w.setRow b cm) ω (fun q o=>o=.tok t ((i,j)::(hl,gh)::q)) d (us hl gh):=by
       intro hl gh d rp;refine (aE hl gh d rp).frame fun c q ai fk=>⟨fk,kW c ai fun e=>?_⟩
       rw[e]at fk;simp at fk
      have fA:∀hl gh d,df (es.set x (l0 ds y ys)) hl gh=some d->∃u,cm[off+hl*k+gh]?=some u/\b3 (w.setRow b cm) ω (fun q o=>o=.tok t ((i,j)::(hl,gh)::q)) d u:=by
       intro hl gh d eu;rw[M3 kv]at eu;by_cases ag:hl=x
       ·subst ag;rw[bq rfl,Uw (by omega)]at eu;split at eu
        ·rename_i bu;obtain⟨l,jm,c4⟩:=Lr _ _ eu;obtain⟨u,hd,fG⟩:=ao.2 _ _ jm;obtain⟨z,rfl,rfl,bb⟩:=aAH c4 (gn.1 zk l (gj jm)) fG;refine⟨u,?_,.v _ _ bb⟩;rw[hT,bq (by omega),<-hd]
         congr 1;omega
        rename_i bu;have rp:df es hl gh=some d:=by simp[df,fj,eu]
        refine⟨us hl gh,?_,oF hl gh d rp⟩;rw[hT,bD (by omega),hu hl gh d rp]
       rw[bD ag]at eu;obtain⟨gz,afe⟩:=uL ht eu;refine⟨us hl gh,?_,oF hl gh d eu⟩;rw[hT,bD ?_,hu hl gh d eu];rcases Nat.lt_or_gt_of_ne ag with h | h
       ·have:(hl+1)*k<=x*k:=hI _ h;rw[hK]at this;omega
       have:(x+1)*k<=hl*k:=hI _ h;rw[hK]at this;omega
      have rF:∀e∈es.set x (l0 ds y ys),e.length=k:=by
       intro e he;rcases iD he with h | rfl
       ·exact ht e h
       rw[Ux (by omega)];exact FD
      have:=b3.row (w:=w.setRow b cm) (ω:=ω) (fun q o=>o=.tok t ((i,j)::q)) k (es.set x (l0 ds y ys)) b off cap cm jB (0,0) (fun hl gh=>cm.getD (off+hl*k+gh) undef) l6 l2 (by omega) (by omega) rF
       (fun x y d eQ=>by obtain⟨u,h1,_⟩:=fA x y d eQ;rw[h1];simp[fc,h1])
       (fun x y d eQ=>by obtain⟨u,h1,U⟩:=fA x y d eQ;have:cm.getD (off+x*k+y) undef=u:=(by simp[fc,h1]);rw[this];exact U)
      rw[hlen]at this;exact this
     refine⟨w.setRow b cm,?_,ω,τ,a6.aaG (yT:=yT) kW (fun _ _=>rfl) (fun c id ai e=>?_) (a6.below.setRow xn cm) ?_ pw.2 (T8 pw kW (fun _ _=>rfl) sI qt zl) sI qt qq⟩
     ·simp only[Instr.storeAt,Instr.sureAddr,Sem.run_bind,Sem.run_pure,Result.andThen_ok,storeVar,sizeOf,typeInfo,run_program,e2];have aeU:¬(v.cells.size≠inf.size):=by simp;omega
      rw[bD aeU];exact fr
     ·exact ai (a6.owned.lt (by rw[e];simp))
     intro c iT;obtain⟨aA,kt,kJ,aJ⟩:=a6.owned c iT;by_cases BQ:c=b
     ·subst BQ;exact⟨aA,cm,jB,l6⟩
     exact⟨aA,kt,kJ,(setRow_other w b c cm BQ).trans aJ⟩
   cases h
  cases h
 cases h
end Go.Sx
namespace Go.Sx
open Go.RowKit
variable{i:Nat}
theorem T9{α:Type}{l:List α}{a:α}(h:l[i]?=some a):l.set i a=l:=by
 apply List.ext_getElem?;intro x;rw[p7];by_cases ag:i=x
 ·subst ag;have:=(ga.1 h).1;rw[bq rfl,bq this,h]
 rw[bD ag]
def Nk(P:Program)(st:aD)(d:Nat)(iM:TypeId)(t i j k:Nat)(es:List (List D))(y:Operand)(ans:List cf):Stepped:=
 match rV P iM,Gd t st,ans with
 | some (e,ck),some (kT,esT),.el j6::fN=>
  match P.info? e,xa t k (st.bt y) fN with
  | some inf,some (bZ,none,w',obs)=>
   match inf.zero with
   | some z=>
    if ck=k/\z.cells.size=k/\0<k then
     some (⟨(st.map (hV t i j k es kT esT)).env.set d (.one (.aR t i j k (es++bZ) .mS)),(st.map (hV t i j k es kT esT)).boxes⟩,w',
      ((es.length+bZ.length)*inf.bytes<=140737488355328)::(es.length+bZ.length<=9223372036854775807)::(esT[i]?=some j6)::(j6[j]?=some (.J k es))::(((st.idx t j).map fun a=>a=i)++obs))
    else none
   | none=>none
  | _,_=>none
 | _,_,_=>none
def vf(P:Program)(iM:TypeId)(t i j k:Nat)(es esT:List (List D))(q:aI)(ans:List cf):Option (aI×List cf×List Prop):=
 match rV P iM,ans with
 | some (e,ck),.el j6::fN=>
  match P.info? e,xa t k q fN with
  | some inf,some (bZ,none,w',obs)=>
   match inf.zero with
   | some z=>
    if ck=k/\z.cells.size=k/\0<k then
     some (.one (.aR t i j k (es++bZ) .mS),w',
      ((es.length+bZ.length)*inf.bytes<=140737488355328)::(es.length+bZ.length<=9223372036854775807)::(esT[i]?=some j6)::(j6[j]?=some (.J k es))::obs)
    else none
   | none=>none
  | _,_=>none
 | _,_=>none
theorem cM.vf{P:Program}{w0:eT}{st:aD}{a:Act}{w:World}{ω:Own}{τ:Nat->Nat×Value}{d:Nat}{iM ty:TypeId}{t j k kT:Nat}{es esT:List (List D)}{x y:Operand}{p:aI}{ans cv:List cf}{obs:List Prop}
  (a6:cM w0 st a w ω τ) (hp:Sat w ω τ (.aR t i j k es .here) (a.eval x)) (h:Sx.vf P iM t i j k es esT (st.bt y) ans=some (p,cv,obs)) (a8:cO obs)
  (pw:∃v,Sat w ω τ (.J (.own t) kT esT) v) (qq:∀a∈st.idx t j,a=i):
  ∃z aN,(Builtin.append_ #[iM,iM] ty #[a.eval x,a.eval y]).run P w=.ok z aN/\Rel w0 ⟨(st.map (hV t i j k es kT esT)).env.set d p,(st.map (hV t i j k es kT esT)).boxes⟩ (a.put (some d) z) aN:=by
 unfold Sx.vf at h;split at h
 ·rename_i e ck j6 fN he;obtain⟨bK,ia,lH,zz⟩:=xA he;split at h
  ·rename_i inf bZ w' zK hi jJ;rw[lH]at hi;have qs:=gO hi;subst qs;split at h
   ·rename_i z bb;split at h
    ·rename_i ai;obtain⟨rfl,nS,oE⟩:=ai;simp only[aZ,bL]at h;obtain⟨rfl,_,rfl⟩:=h;obtain⟨hs,hS,zl,Ki,KE⟩:=a8;obtain⟨_,news,nR⟩:=Uv (P:=P) oE (a6.bt y) jJ KE;obtain⟨yT,pw⟩:=pw;obtain⟨fo,sO,aC,hm⟩:=hp;have sI:=hm rfl;have sO:a.eval x=fo:=sO;rw[sO];generalize a.eval y=e4 at nR;have FC:∀hl gh d,df bZ hl gh=some d->∃u,news[hl*ck+gh]?=some u/\d=.v u/\u.oneCell'=true:=by
      intro hl gh d aE;obtain⟨u,h1,U⟩:=nR.cell hl gh d aE;rcases U with⟨v,rfl,rfl⟩ | ⟨s,ao,_⟩
      ·exact⟨u,h1,rfl,nR.one u (gj h1)⟩
      cases ao
     have fin:∀(w1:World) (bh:Own) (r:Value),(∀c,c<w.heap.size->ω c≠.tok t [(i,j)]->w1.heap[c]?=w.heap[c]?)->(∀c,c<w.heap.size->bh c=ω c)->(∀c id,¬c<w.heap.size->bh c≠.box id)->gZ w0 w1->pa w0 w1 bh->
       b3 w1 bh (fun q o=>o=.tok t ((i,j)::q)) (.J ck es) fo->b3 w1 bh (fun q o=>o=.tok t ((i,j)::q)) (.J ck (es++bZ)) r->
       Rel w0 ⟨(st.map (hV t i j ck es kT esT)).env.set d (.one (.aR t i j ck (es++bZ) .mS)),(st.map (hV t i j ck es kT esT)).boxes⟩ (a.put (some d) r) w1:=by
      intro w1 bh r kW di Lu l3 lK qt fl;have SP:=T8 pw kW di sI qt zl;rw[T9 Ki,T9 zl]at SP;exact⟨bh,τ,(a6.aaG kW di Lu l3 lK pw.2 SP sI qt qq).put (p:=.one (.aR t i j ck (es++bZ) .mS)) ⟨r,rfl,fl,fun bO=>by cases bO⟩⟩
     have Kb:∀c id,¬c<w.heap.size->ω c≠.box id:=fun c id ai e=>ai (a6.owned.lt (by rw[e];simp))
     by_cases B5:bZ.length=0
     ·have Kn:bZ=[]:=yV B5;subst Kn;refine⟨fo,w,Uu bK lH w ?_ ?_,fin w ω fo (fun _ _ _=>rfl) (fun _ _=>rfl) Kb a6.below a6.owned aC (by rw[iO];exact aC)⟩
      ·cases aC with
       | nil _ _ a0=>exact⟨a0,0,0,rfl,fi _⟩
       | row R k es b off cap arr ty cY us aw ef ai ao hk hu aE=>exact⟨some ⟨b,off,none⟩,_,cap,rfl,ai⟩
      rcases nR.shape with⟨⟨a,h⟩,_⟩ | ⟨b,o,c,h,_⟩
      ·exact⟨a,0,h⟩
      exact⟨some ⟨b,o,none⟩,c,h⟩
     have sJ:0<bZ.length:=by omega
     rcases nR.shape with⟨_,h⟩ | ⟨bg,k8,lS,rfl,ka⟩
     ·rw[h]at sJ;simp at sJ
     have grown:∀(w1:World) (cm:Array Value) (r:Value) (mU:Nat),g' w.heap.size w w1->w1.heap[w.heap.size]?=some (.cells cm e (0,0))->r=.slice (some ⟨w.heap.size,0,none⟩) (es.length+bZ.length) mU->
       es.length+bZ.length<=mU->mU*ck<=cm.size->(∀gk kZ d,df es gk kZ=some d->∃u,cm[gk*ck+kZ]?=some u/\b3 w ω (fun q o=>o=.tok t ((i,j)::(gk,kZ)::q)) d u)->
       (∀x u,news[x]?=some u->cm[es.length*ck+x]?=some u)->(∀e∈es,e.length=ck)->
       Rel w0 ⟨(st.map (hV t i j ck es kT esT)).env.set d (.one (.aR t i j ck (es++bZ) .mS)),(st.map (hV t i j ck es kT esT)).boxes⟩ (a.put (some d) r) w1:=by
      intro w1 cm r mU l3 hv KJ ff dO hold FH xp;subst KJ
      let bh:Own:=fun c=>if c=w.heap.size then .tok t [(i,j)] else ω c
      have di:∀c,c<w.heap.size->bh c=ω c:=fun c ai=>by simp only[bh];rw[bD (by omega)]
      have px:bh w.heap.size=.tok t [(i,j)]:=by simp[bh]
      refine fin w1 bh _ (fun c ai _=>l3.block c ai) di (fun c id ai=>?_) (a6.below.next l3) (fun b aw=>?_) (aC.frame fun c q ai aH=>⟨by rw[di c ai];exact aH,l3.block c ai⟩) ?_
      ·simp only[bh];split
       ·simp
       exact Kb c id ai
      ·by_cases zj:b=w.heap.size
       ·subst zj;exact⟨.inl a6.below.size,cm,e,hv⟩
       simp only[bh]at aw;rw[bD zj]at aw;obtain⟨aA,kt,kJ,aJ⟩:=a6.owned b aw;exact⟨aA,kt,kJ,(l3.block b (a6.owned.lt aw)).trans aJ⟩
      have fA:∀x kZ d,df (es++bZ) x kZ=some d->∃u,cm[x*ck+kZ]?=some u/\b3 w1 bh (fun q o=>o=.tok t ((i,j)::(x,kZ)::q)) d u:=by
       intro x kZ d aE;rw[Db]at aE;split at aE
       ·obtain⟨u,h1,U⟩:=hold x kZ d aE;exact⟨u,h1,U.frame fun c q ai aH=>⟨by rw[di c ai];exact aH,l3.block c ai⟩⟩
       rename_i ag;obtain⟨u,h1,rfl,U⟩:=FC _ _ _ aE;refine⟨u,?_,.v _ _ U⟩;rw[<-FH _ u h1]
       congr 1
       have:x=es.length+(x-es.length):=by omega
       rw[this,hK];simp only[Nat.add_sub_cancel_left];omega
      have hlen:(es++bZ).length=es.length+bZ.length:=f';have rF:∀e∈es++bZ,e.length=ck:=by
       intro e' he;rcases hM.1 he with h | h
       ·exact xp e' h
       exact nR.rows e' h
      have:=b3.row (w:=w1) (ω:=bh) (fun q o=>o=.tok t ((i,j)::q)) ck (es++bZ) w.heap.size 0 mU cm e (0,0) (fun x j=>cm.getD (x*ck+j) undef) hv px (by omega) (by omega) rF
       (fun x j d aE=>by obtain⟨u,h1,_⟩:=fA x j d aE;rw[dX,h1];simp[fc,h1])
       (fun x j d aE=>by obtain⟨u,h1,U⟩:=fA x j d aE;have:cm.getD (x*ck+j) undef=u:=(by simp[fc,h1]);rw[this];exact U)
      rw[hlen]at this;exact this
     subst zz;have rD:=aC;cases aC with
     | nil _ _ a0=>
      simp only[ew,dX]at hs hS;have fU:(Builtin.append_ #[iM,iM] ty #[.slice a0 0 0,.slice (some ⟨bg,k8,none⟩) bZ.length lS]).run P w=
        .ok (.slice (some ⟨w.heap.size,0,none⟩) bZ.length (grownCap w bZ.length 0 e)) (w.drew.alloc (.cells (news.toArray++Builtin.zeroCells z.cells (grownCap w bZ.length 0 e-bZ.length)) e)):=by
       cases a0 with
       | none=>exact run_append_nil (P:=P) w iM ty e ia z bK lH bb ⟨bg,k8,none⟩ bZ.length lS news nR.len ka sJ (by omega) (by omega)
       | some b8=>
        have:=run_append_grow (P:=P) w iM ty e ia z bK lH bb b8 0 0 [] (by simp) (fun j v bF=>by simp at bF) ⟨bg,k8,none⟩ bZ.length lS news nR.len ka (by omega) (by omega) (growslice_fits (by omega) (by simpa using hs));simpa using this
      have qp:=grownCap_ge w bZ.length 0 e;exact⟨_,_,fU,grown _ (news.toArray++Builtin.zeroCells z.cells (grownCap w bZ.length 0 e-bZ.length)) (.slice (some ⟨w.heap.size,0,none⟩) bZ.length (grownCap w bZ.length 0 e)) (grownCap w bZ.length 0 e)
       (((g'.refl _ _).drew).alloc (fi _) _) (oP _ _) (by simp) (by simpa using qp) (by
        simp only[u',o1,size_zeroCells,nR.len,nS,<-hK];exact hI _ (by omega))
       (fun gk j d aE=>by simp[df]at aE) (fun x u ag=>by
        simp only[ew,Nat.zero_mul,dX];rw[ji,bq (by have:=(ga.1 ag).1;simpa using this)];simpa using ag) (fun e he=>by cases he)⟩
     | row R k es b off cap arr jB cY us aw ef ai ao ht hu aE=>
      have l2:ω b=.tok t [(i,j)]:=ef;obtain⟨xn,vg,wU,iw⟩:=a6.owned b (by rw[l2];simp);rw[aw]at iw;simp only[aZ,Obj.cells.injEq]at iw;obtain⟨rfl,rfl,rfl⟩:=iw;have xj:b<w.heap.size:=(jj.1 aw).1;by_cases nc:es.length+bZ.length<=cap
      ·have hmul:(es.length+bZ.length)*ia.size<=cap*ia.size:=hI _ nc;rw[hK]at hmul;have vD:=nR.len;have eo:off+es.length*ia.size+news.length<=arr.size:=by omega
       have fU:=Gs (P:=P) (ty:=ty) bK lH w b off es.length cap arr jB aw ⟨bg,k8,none⟩ bZ.length lS news nR.len ka nR.one nc eo;generalize qn:(arr.toList.take (off+es.length*ia.size)++news++arr.toList.drop (off+es.length*ia.size+news.length)).toArray=cm at fU;have hT:∀x:Nat,cm[x]?=if off+es.length*ia.size<=x/\x<off+es.length*ia.size+news.length then news[x-(off+es.length*ia.size)]? else arr[x]?:=by
        intro x;rw[<-qn,p6,C' (by simpa using eo)];simp
       have zA:cm.size=arr.size:=by rw[<-qn];simp;omega
       have l6:=setRow_heap w b arr cm jB (0,0) aw;have kW:∀c,c<w.heap.size->ω c≠.tok t [(i,j)]->(w.setRow b cm).heap[c]?=w.heap[c]?:=fun c _ ai=>setRow_other w b c cm fun e=>ai (by rw[e];exact l2)
       have oF:∀hl gh d u,b3 w ω (fun q o=>o=.tok t ((i,j)::(hl,gh)::q)) d u->b3 (w.setRow b cm) ω (fun q o=>o=.tok t ((i,j)::(hl,gh)::q)) d u:=by
        intro hl gh d u rp;refine rp.frame fun c q ai fk=>⟨fk,kW c ai fun e=>?_⟩
        rw[e]at fk;simp at fk
       refine⟨_,_,fU,fin (w.setRow b cm) ω _ kW (fun _ _=>rfl) Kb (a6.below.setRow xn cm) (fun c iT=>?_) (b3.aaA rD aw l6 zA (fun x ag=>by rw[hT,bD (by omega)]) (fun o e a8=>by rw[<-e];exact a8) (fun c p q ai aH=>⟨aH,kW c ai fun e=>by rw[e]at aH;simp at aH⟩)) ?_⟩
       ·obtain⟨aA,kt,kJ,aJ⟩:=a6.owned c iT;by_cases BQ:c=b
        ·subst BQ;exact⟨aA,cm,jB,l6⟩
        exact⟨aA,kt,kJ,(setRow_other w b c cm BQ).trans aJ⟩
       have fA:∀x kZ d,df (es++bZ) x kZ=some d->∃u,cm[off+x*ia.size+kZ]?=some u/\b3 (w.setRow b cm) ω (fun q o=>o=.tok t ((i,j)::(x,kZ)::q)) d u:=by
        intro x kZ d eu;rw[Db]at eu;split at eu
        ·rename_i ag;have B3:=(uL ht eu).2;refine⟨us x kZ,?_,oF x kZ d _ (aE x kZ d eu)⟩;have:(x+1)*ia.size<=es.length*ia.size:=hI _ ag;rw[hK]at this;rw[hT,bD (by omega),hu x kZ d eu]
        rename_i ag;obtain⟨u,h1,rfl,U⟩:=FC _ _ _ eu;have afb:=(ga.1 h1).1;have zB:x*ia.size=es.length*ia.size+(x-es.length)*ia.size:=by rw[<-hK];congr 1;omega
        refine⟨u,?_,.v _ _ U⟩;rw[hT,bq (by omega),<-h1]
        congr 1
        omega
       have hlen:(es++bZ).length=es.length+bZ.length:=f';have rF:∀e∈es++bZ,e.length=ia.size:=by
        intro e' he;rcases hM.1 he with h | h
        ·exact ht e' h
        exact nR.rows e' h
       have:=b3.row (w:=w.setRow b cm) (ω:=ω) (fun q o=>o=.tok t ((i,j)::q)) ia.size (es++bZ) b off cap cm jB (0,0) (fun x j=>cm.getD (off+x*ia.size+j) undef) l6 l2 (by omega) (by omega) rF
        (fun x j d aE=>by obtain⟨u,h1,_⟩:=fA x j d aE;rw[h1];simp[fc,h1])
        (fun x j d aE=>by obtain⟨u,h1,U⟩:=fA x j d aE;have:cm.getD (off+x*ia.size+j) undef=u:=(by simp[fc,h1]);rw[this];exact U)
       rw[hlen]at this;exact this
      have hmul:es.length*ia.size<=cap*ia.size:=hI _ ai;have sN:((arr.toList.drop off).take (es.length*ia.size)).length=es.length*ia.size:=by simp;omega
      have fU:=run_append_grow (P:=P) w iM ty e ia z bK lH bb ⟨b,off,none⟩ es.length cap ((arr.toList.drop off).take (es.length*ia.size)) sN (fun j v bF=>by
       rw[rU,cell_of_row w b (off+j) arr jB (0,0) aw];rw[jZ]at bF;split at bF
       ·rw[lx]at bF;simpa using bF
       cases bF) ⟨bg,k8,none⟩ bZ.length lS news nR.len ka (by omega) (by omega) (growslice_fits (by omega) hs)
      have qp:=grownCap_ge w (es.length+bZ.length) cap e;exact⟨_,_,fU,grown _ (((arr.toList.drop off).take (es.length*ia.size)).toArray++news.toArray++Builtin.zeroCells z.cells (grownCap w (es.length+bZ.length) cap e-(es.length+bZ.length))) _ (grownCap w (es.length+bZ.length) cap e)
       (((g'.refl _ _).drew).alloc (fi _) _) (oP _ _) rfl qp (by
        simp only[u',o1,size_zeroCells,nR.len,nS,sN,<-hK];exact hI _ (by omega))
       (fun gk j d eQ=>by
        obtain⟨zq,eJ⟩:=uL ht eQ;have:(gk+1)*ia.size<=es.length*ia.size:=hI _ zq;rw[hK]at this;refine⟨us gk j,?_,aE gk j d eQ⟩;rw[ji,bq (by simp only[u',o1,sN];omega),ji,bq (by simp only[o1,sN];omega)];rw[p6,jZ,bq (by omega),lx,<-hu gk j d eQ];simp only[mN]
        congr 1
        omega)
       (fun x u ag=>by
        have gz:=(ga.1 ag).1;rw[ji,bq (by simp only[u',o1,sN];omega),ji,bD (by simp only[o1,sN];omega)];simp only[o1,sN,p6];rw[<-ag]
        congr 1
        omega) ht⟩
    cases h
   cases h
  cases h
 cases h
theorem cM.acN{P:Program}{w0:eT}{st bG:aD}{a:Act}{w:World}{ω:Own}{τ:Nat->Nat×Value}{d:Nat}{iM ty:TypeId}{t j k:Nat}{es:List (List D)}{x y:Operand}{ans cv:List cf}{obs:List Prop}
  (a6:cM w0 st a w ω τ) (hp:Sat w ω τ (.aR t i j k es .here) (a.eval x)) (h:Nk P st d iM t i j k es y ans=some (bG,cv,obs)) (a8:cO obs):
  ∃z aN,(Builtin.append_ #[iM,iM] ty #[a.eval x,a.eval y]).run P w=.ok z aN/\Rel w0 bG (a.put (some d) z) aN:=by
 unfold Nk at h;split at h
 ·rename_i e ck kT esT j6 fN he aeK;split at h
  ·rename_i inf bZ w' zK hi jJ;split at h
   ·rename_i z bb;split at h
    ·rename_i ai;simp only[aZ,bL]at h;obtain⟨rfl,rfl,rfl⟩:=h;obtain⟨hs,hS,zl,Ki,KE⟩:=a8;obtain⟨qq,aeu⟩:=KE.append;refine a6.vf (p:=.one (.aR t i j k (es++bZ) .mS)) (ans:=.el j6::fN) (cv:=w') (esT:=esT) (kT:=kT) hp ?_ (obs:=((es.length+bZ.length)*inf.bytes<=140737488355328)::(es.length+bZ.length<=9223372036854775807)::(esT[i]?=some j6)::(j6[j]?=some (.J k es))::zK) ⟨hs,hS,zl,Ki,aeu⟩ (a6.root aeK) (Gu qq);unfold Sx.vf;simp only[he,hi,jJ,bb];rw[bq ai]
    cases h
   cases h
  cases h
 cases h
