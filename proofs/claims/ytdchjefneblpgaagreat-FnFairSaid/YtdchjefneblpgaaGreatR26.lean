import Derived.Test.YtdchjefneblpgaaGreatR11
set_option linter.unusedVariables false
set_option linter.unusedSimpArgs false
namespace Go.Sx
open Go.RowKit
def FY(P:Program)(st:aC)(d:Nat)(elem:TypeId)(r:List cd):Stepped:=
 match P.info? elem with
 | some i=>match i.zero with
  | some z=>if d<dj then some (⟨(st.j1 d []).env.set d (.one (.fD d (z.cells.toList.map .v))),(st.j1 d []).boxes⟩,r,[]) else none
  | none=>none
 | none=>none
variable{w0:eR}{st bz:aC}{a:Act}{w:World}{ω:Own}{τ:Nat->Nat×Value}{d:Nat}{ans cu:List cd}{obs:List Prop}
theorem cK.abt{P:Program}{elem:TypeId}(a6:cK w0 st a w ω τ)
  (h:FY P st d elem ans=some (bz,cu,obs)):
  ∃z aP,(Instr.alloc elem true (.tuple #[])).run P w=.ok z aP/\Rel w0 bz (a.put (some d) z) aP:=by
 unfold FY at h;split at h
 ·rename_i i hi;split at h
  ·rename_i z bd;split at h
   ·rename_i aE;simp only[aX,bK]at h;obtain⟨rfl,_,_⟩:=h;have h1:=a6.j1 d aE [] (k:=0) (cap:=0) (es:=[]) (arr:=z.cells) (ty:=elem) ((hf.refl _ _).alloc (fg _) (.cells z.cells elem)) (ot _ _) (fg _) (by simp) (by simp)
     (by grind[df])
    refine⟨.pointer (some ⟨w.heap.size,0,none⟩),w.alloc (.cells z.cells elem),by simp_all[Instr.alloc,zeroValue,typeInfo,newVar,newRow],_,_,h1.1.put (p:=.one (.fD d (z.cells.toList.map .v))) ?_⟩;refine⟨w.heap.size,elem,z.cells,rfl,by simp[qs],ot _ _,by simp,fun j c ak=>?_⟩;rw[dK,b9]at ak;obtain⟨u,hu,rfl⟩:=ak;exact⟨u,by grind,rfl⟩
   cases h
  cases h
 cases h
def fC(t:Nat):Tag->Option Tag
 | .free=>some .free
 | .own s=>if s=t then none else some (.own s)
 | .ro s=>if s=t then none else some (.ro s)
variable{o:dr}
theorem FZ{t:Nat}{g eI:Tag}{q:List (Nat×Nat)}(h:fC t g=some eI)(aD:g.R q o):eI=g/\∀ec,o≠.tok t ec:=by
 cases g with
 | free=>simp_all[fC,aX,Tag.R]
 | own s=>
  simp_all[fC,aX,Tag.R,dr.tok.injEq]
 | ro s=>
  simp only[fC]at h;split at h
  ·cases h
  rename_i ao;simp only[aX]at h;subst h;simp only[Tag.R]at aD;grind
variable{s:Nat}
theorem Lo{x:Value}(this:a.tmps[s]?=some x):a.put (some s) x=a:=by
 simp only[Act.put];have:a.tmps.setIfInBounds s x=a.tmps:=by
  grind
 rw[this]
def aF.nE:aF->fj
 | .v x=>.v x
 | .bg c=>.v (.bool c)
 | .J t k es=>.J t k es
 | _=>.cp
def K5(p:aI):Option (List fj):=p.leaves.map (·.map aF.nE)
theorem aF.R'{l:aF}{y:Value}(h:Sat w ω τ l y):r4 w ω τ l.nE y:=by
 cases l<;>first | exact h | exact trivial
def fj.leaf:fj->aF
 | .cp=>.cp
 | .v x=>.v x
 | .J t k es=>.J t k es
theorem fj.dS{τ:Nat->Nat×Value}{c:fj}{y:Value}(h:r4 w ω τ c y):Sat w ω τ c.leaf y:=by
 cases c<;>exact h
def F0(P:Program)(st:aC)(ty:TypeId)(s:Nat)(q:aI)(ans:List cd):Stepped:=
 match (st.env.getD s .cp).leaf,K5 q,P.info? ty with
 | some (.fD t vs),some cs,some i=>
  if cs.length=i.size/\cs.length<=vs.length then
   let st2:=st.map (aF.cM (fC t) fun _=>true)
   some (⟨st2.env.set s (.one (.fD t ((cs++vs.drop cs.length).map (fj.cM (fC t))))),st2.boxes⟩,ans,[])
  else none
 | _,_,_=>none
theorem cK.aBu{P:Program}{ty:TypeId}{q:aI}{v:Value}
  (a6:cK w0 st a w ω τ) (aH:cV (Sat w ω τ) q v) (h:F0 P st ty s q ans=some (bz,cu,obs)):
  ∃aP,(Instr.storeAt ty (a.eval (.tmp s)) v).run P w=.ok () aP/\Rel w0 bz a aP:=by
 unfold F0 at h;split at h
 ·rename_i t vs cs i e1 e2 cj;split at h
  ·rename_i ak;obtain⟨c1,c2⟩:=ak;simp only[aX,bK]at h;obtain⟨rfl,_,_⟩:=h;unfold K5 at e2;rw[b9]at e2;obtain⟨ls,e2,rfl⟩:=e2;obtain⟨wV,rc⟩:=aI.zt e2 aH;have dM:v.cells.size=ls.length:=wV.1;rw[ct]at c1 c2;have hJ:st.env[s]?=some (.one (.fD t vs)):=by
    rw[lK]at e1;cases e:st.env[s]? with
    | none=>grind[aI.leaf]
    | some p=>
     rw[e]at e1;simp only[lL]at e1;cases p with
     | gx as=>cases e1
     | aG x=>
      cases x with
      | agg ls=>cases e1
      | one l=>grind[aI.leaf,aX]
   obtain⟨y,bD,e0⟩:=a6.env s _ hJ;obtain⟨b,jo,arr,rfl,aw,y',adJ,ss⟩:=e0;have sh:a.eval (.tmp s)=ptrTo b:=by simp_all[Act.eval]
   have fm:=run_storeCells_at P b 0 jo v.cells.toList 0 arr w y' (by simp;omega) rc;obtain⟨cm,p9⟩:∃cm,cm=(arr.toList.take (0+0)++v.cells.toList++arr.toList.drop (0+0+v.cells.toList.length)).toArray:=⟨_,rfl⟩
   rw[<-p9]at fm;have ab0:cm=(v.cells.toList++arr.toList.drop v.cells.size).toArray:=by grind
   refine⟨w.setRow b cm,?_,?_⟩
   ·rw[sh];simp only[ptrTo,Instr.storeAt,Instr.sureAddr,Sem.run_bind,Sem.run_pure,Result.andThen_ok,storeVar,sizeOf,typeInfo,run_program,cj];grind
   have lX:=setRow_heap w b arr cm jo (0,0) y';have bq:mI w ω τ (w.setRow b cm) ω τ (fC t) (fun _=>true):=by
    refine⟨?_,?_,fun id c _ ak=>ak,rfl,fun _ _=>rfl⟩
    ·intro g eI c q ax _ aH;obtain⟨rfl,BH⟩:=FZ ax aH;grind[setRow_other]
    intro g eI y ax bD;cases g with
    | free=>simp_all[fC,aX,trivial]
    | own x=>
     grind[fC,aX]
    | ro x=>
     simp_all[fC,aX,trivial]
   have h1:cK w0 (st.map (aF.cM (fC t) fun _=>true)) a (w.setRow b cm) ω τ:=by
    refine a6.dg _ bq.sat (a6.below.setRow (a6.owned b (by rw[aw];simp)).1 _) ?_ (fun id c ak=>⟨ak,setRow_other w b c _ fun e=>by grind⟩) (fun id c ak=>ak) (fun _ _=>rfl);intro c ak;obtain⟨h1,k1,lf,U⟩:=a6.owned c ak;grind[setRow_other]
   have Ra:cm.size=(ls.map aF.nE++vs.drop (ls.map aF.nE).length).length/\∀(j:Nat) (c:fj),(ls.map aF.nE++vs.drop (ls.map aF.nE).length)[j]?=some c->∃u,cm[j]?=some u/\r4 w ω τ c u:=by
    refine⟨by grind,fun j c ak=>?_⟩;rw[ab0,pO];by_cases bk:j<ls.length
    ·rw[AR (by grind),dK,b9]at ak;obtain⟨l,al,rfl⟩:=ak;obtain⟨u,gU,fO⟩:=wV.2 j l al;grind[aF.R']
    grind
   have RF:=Ge bq.nE Ra.1 Ra.2;have U:=h1.put (d:=s) (p:=.one (.fD t ((ls.map aF.nE++vs.drop (ls.map aF.nE).length).map (fj.cM (fC t))))) (v:=ptrTo b) ⟨b,jo,cm,rfl,aw,lX,RF⟩;rw[Lo bD]at U;exact⟨ω,τ,U⟩
  cases h
 cases h
def K8(st:aC)(d:Nat):Option aC:=
 match st.env.getD d .cp with
 | .aG (.one (.fD t vs))=>
  if d<dj then some ⟨(st.env.map (aI.map (aF.cM (fC t) (ko d)))).set d (.one (.ptr d 0)),(d,vs.map fun c=>aF.cM (fC t) (ko d) c.leaf)::(qp d st.boxes).map fun x=>(x.1,x.2.map (aF.cM (fC t) (ko d)))⟩ else none
 | _=>none
theorem awU(h:Rel w0 st a w)(aZ:K8 st d=some bz):Rel w0 bz a w:=by
 obtain⟨ω,τ,h⟩:=h;unfold K8 at aZ;split at aZ
 ·rename_i t vs he;split at aZ
  case isFalse=>cases aZ
  rename_i u3;simp only[aX]at aZ;subst aZ;have hJ:st.env[d]?=some (.one (.fD t vs)):=by
   grind
  obtain⟨v,tL,tM⟩:=h.env d _ hJ;obtain⟨b,ty,arr,rfl,aw,y',adJ,ss⟩:=tM
  let bf:Own:=fun c=>if c=b then .box d else match ω c with | .box i=>if i=d then .bM else .box i | o=>o
  have o5:bf b=.box d:=by simp[bf]
  have ju:∀c,c≠b->bf c=(match ω c with | .box i=>if i=d then .bM else .box i | o=>o):=by
   grind
  have bq:mI w ω τ w bf τ (fC t) (ko d):=by
   refine⟨?_,?_,?_,rfl,fun _ _=>rfl⟩
   ·intro g eI c q ax _ aH;obtain⟨rfl,BH⟩:=FZ ax aH;have jS:c≠b:=fun e=>BH [] (by grind)
    refine⟨?_,rfl⟩;rw[ju c jS];cases eI with
    | free=>grind[Tag.R]
    | own s=>grind[Tag.R]
    | ro s=>
     simp only[Tag.R]at aH ⊢;grind
   ·intro g eI y ax bD;cases g with
    | free=>simp_all[fC,aX,trivial]
    | own s=>
     grind[fC,aX]
    | ro s=>
     simp_all[fC,aX,trivial]
   intro i c hp ak;have jS:c≠b:=fun e=>by grind
   simp_all[ko,ck]
  have rf:oM w0 w bf:=by
   intro c ak;by_cases e:c=b
   ·subst e;exact h.owned c (by rw[aw];simp)
   rw[ju c e]at ak;exact h.owned c (fun e'=>by grind)
  have key:=h.Je (bs:=(d,vs.map fun c=>aF.cM (fC t) (ko d) c.leaf)::(qp d st.boxes).map fun x=>(x.1,x.2.map (aF.cM (fC t) (ko d)))) bq h.below rf ?_ (fun i c hi ak=>by
   grind)
  ·have:=key.put (d:=d) (p:=.one (.ptr d 0)) (v:=ptrTo b) ⟨b,o5,rfl⟩;rw[Lo tL]at this;exact⟨bf,τ,this⟩
  intro i fQ al;simp only[dI]at al;split at al
  ·rename_i hi;subst hi;have e:=gJ al;subst e;refine⟨b,arr,ty,o5,?_,y',by grind,fun j l bk=>?_⟩
   ·grind
   rw[dK,b9]at bk;obtain⟨c,ak,rfl⟩:=bk;obtain⟨u,gU,fO⟩:=ss j c ak;exact⟨u,gU,bq.sat _ _ (fj.dS fO)⟩
  rename_i hi;rw[tZ,b9]at al;obtain⟨jY,bO,rfl⟩:=al;have cX:i≠d:=fun e=>hi e.symm
  rw[zI cX]at bO;obtain⟨c,cm,rX,ak,hu,bN,e0⟩:=h.boxes i jY bO;refine⟨c,cm,rX,bq.box i c (by grind[ko]) ak,?_,bN,e0.map bq.sat⟩;grind
 cases aZ
def I4(st:aC)(d:Nat):Option aC:=
 match st.env.getD d .cp,dI d st.boxes with
 | .aG (.one (.ptr dP 0)),some ls=>
  if dP=d/\d<dj then some ⟨(st.env.map (aI.map (aF.cM (fC d) (ko d)))).set d (.one (.fD d ((ls.map aF.nE).map (fj.cM (fC d))))),(qp d st.boxes).map fun x=>(x.1,x.2.map (aF.cM (fC d) (ko d)))⟩ else none
 | _,_=>none
theorem awV(h:Rel w0 st a w)(aZ:I4 st d=some bz):Rel w0 bz a w:=by
 obtain⟨ω,τ,h⟩:=h;unfold I4 at aZ;split at aZ
 ·rename_i dP ls he dk;split at aZ
  case isFalse=>cases aZ
  rename_i u3;obtain⟨rfl,u3⟩:=u3;simp only[aX]at aZ;subst aZ;have hJ:st.env[dP]?=some (.one (.ptr dP 0)):=by
   grind
  obtain⟨v,tL,tM⟩:=h.env dP _ hJ;obtain⟨b6,ih,rfl⟩:=tM;obtain⟨b,arr,ty,aw,ab6,y',wV⟩:=h.boxes dP ls dk;have u1:b6=b:=ab6 b6 ih;subst u1
  let bf:Own:=fun c=>if c=b6 then .tok dP [] else match ω c with | .tok s q=>if s=dP then .bM else .tok s q | o=>o
  have o5:bf b6=.tok dP []:=by simp[bf]
  have ju:∀c,c≠b6->bf c=(match ω c with | .tok s q=>if s=dP then .bM else .tok s q | o=>o):=by
   grind
  have bq:mI w ω τ w bf τ (fC dP) (ko dP):=by
   refine⟨?_,?_,?_,rfl,fun _ _=>rfl⟩
   ·intro g eI c q ax _ aH;obtain⟨rfl,BH⟩:=FZ ax aH;have jS:c≠b6:=fun e=>by
     rw[e,aw]at aH;cases eI with
     | free=>cases aH
     | own s=>cases aH
     | ro s=>
      rcases aH with aH | ⟨ec,aH⟩
      ·cases aH
      cases aH
    grind
   ·intro g eI y ax bD;cases g with
    | free=>simp_all[fC,aX,trivial]
    | own s=>
     grind[fC,aX]
    | ro s=>
     simp_all[fC,aX,trivial]
   intro i c hp ak;simp only[ko,ck]at hp;grind
  have rf:oM w0 w bf:=by
   intro c ak;by_cases e:c=b6
   ·subst e;exact h.owned c (by rw[aw];simp)
   rw[ju c e]at ak;exact h.owned c (fun e'=>by grind)
  have Q8:∀i c,bf c=.box i->ω c=.box i/\c≠b6:=by
   grind
  have key:=h.Je (bs:=(qp dP st.boxes).map fun x=>(x.1,x.2.map (aF.cM (fC dP) (ko dP)))) bq h.below rf ?_ (fun i c _ ak=>(Q8 i c ak).1)
  ·have:=key.put (d:=dP) (p:=.one (.fD dP ((ls.map aF.nE).map (fj.cM (fC dP))))) (v:=ptrTo b6) ⟨b6,ty,arr,rfl,o5,y',Ge bq.nE (by rw[wV.1];simp) (fun j c ak=>by
    rw[dK,b9]at ak;obtain⟨l,al,rfl⟩:=ak;obtain⟨u,gU,fO⟩:=wV.2 j l al;grind[aF.R'])⟩
   rw[Lo (show a.tmps[dP]?=some (ptrTo b6) from tL)]at this;exact⟨bf,τ,this⟩
  intro i fQ al;rw[tZ,b9]at al;obtain⟨jY,bO,rfl⟩:=al;have cX:i≠dP:=fun e=>by grind[LX]
  rw[zI cX]at bO;obtain⟨c,cm,rX,ak,hu,bN,e0⟩:=h.boxes i jY bO;exact⟨c,cm,rX,bq.box i c (by grind[ko]) ak,fun dD ey=>hu dD (Q8 i dD ey).1,bN,e0.map bq.sat⟩
 cases aZ
def Cj:List Nat->aC->Option aC
 | [],st=>some st
 | d::ds,st=>(I4 st d).bind (Cj ds)
theorem Sn:∀{ds:List Nat} {st bz:aC},Rel w0 st a w->Cj ds st=some bz->Rel w0 bz a w
 | [],st,bz,h,aZ=>by grind[Cj,aX]
 | d::ds,st,bz,h,aZ=>by
  simp only[Cj,nn]at aZ;obtain⟨st1,h1,U⟩:=aZ;exact Sn (awV h h1) U
def Ck:List Nat->aC->Option aC
 | [],st=>some st
 | d::ds,st=>(K8 st d).bind (Ck ds)
theorem Sp:∀{ds:List Nat} {st bz:aC},Rel w0 st a w->Ck ds st=some bz->Rel w0 bz a w
 | [],st,bz,h,aZ=>by grind[Ck,aX]
 | d::ds,st,bz,h,aZ=>by
  simp only[Ck,nn]at aZ;obtain⟨st1,h1,U⟩:=aZ;exact Sp (awU h h1) U
def k'(s n:Nat):Tag->Option Tag
 | .own x=>if x=s then some (.ro n) else if x=n then none else some (.own x)
 | .ro x=>if x=s then some (.ro n) else if x=n then none else some (.ro x)
 | .free=>some .free
def kp(s n l:Nat):dr->dr
 | .tok x q=>if x=s then (match q with | []=>.tok n [] | (i,j)::r=>if i<l then .bM else .tok n ((i-l,j)::r)) else if x=n then .bM else .tok x q
 | o=>o
variable{l n:Nat}
theorem Lp(h:kp s n l o≠.bM):o≠.bM:=by rintro rfl;exact h rfl
theorem vq{id:Nat}:kp s n l o=.box id<->o=.box id:=by
 cases o with
 | bM=>simp[kp]
 | box i=>simp[kp]
 | tok x q=>
  simp only[kp];grind
theorem Sq{q:List (Nat×Nat)}:kp s n l (.tok s q)=.bM\/∃ec,kp s n l (.tok s q)=.tok n ec:=by
 simp only[kp,gj];grind
theorem Lq{k:Nat}{z:Value}(jw:n<dj):mI w ω τ w (fun b=>kp s n l (ω b)) (gL τ n k z) (k' s n) (fun _=>true):=by
 refine⟨?_,?_,?_,rfl,fun t bG=>by simp only[gL];grind⟩
 ·intro g eI b q ax _ aH;refine⟨?_,rfl⟩;cases g with
  | free=>simp only[k',aX]at ax;subst ax;simp only[Tag.R]at aH ⊢;rw[aH];rfl
  | own x=>
   simp only[k']at ax;simp only[Tag.R]at aH;split at ax
   ·grind[aX,Tag.R,Sq]
   rename_i ao;split at ax
   ·cases ax
   rename_i aZ;simp only[aX]at ax;subst ax;simp_all[Tag.R,kp,bw]
  | ro x=>
   simp only[k']at ax;simp only[Tag.R]at aH;split at ax
   ·rename_i ao;simp only[aX]at ax;subst ax;subst ao;rcases aH with aH | ⟨ec,aH⟩
    ·rw[aH];exact .inl rfl
    rw[aH];exact Sq
   rename_i ao;split at ax
   ·cases ax
   rename_i aZ;simp only[aX]at ax;subst ax;rcases aH with aH | ⟨ec,aH⟩
   ·rw[aH];exact .inl rfl
   rw[aH];simp only[kp,bw ao,bw aZ];exact .inr ⟨ec,rfl⟩
 ·intro g eI y ax bD;cases g with
  | free=>simp only[k',aX]at ax;subst ax;trivial
  | own x=>
   simp only[k']at ax;split at ax
   ·simp only[aX]at ax;subst ax;trivial
   rename_i ao;split at ax
   ·cases ax
   rename_i aZ;simp only[aX]at ax;subst ax;simp_all[Tag.ei,gL,bw]
  | ro x=>
   simp only[k']at ax;split at ax
   ·simp only[aX]at ax;subst ax;trivial
   split at ax
   ·cases ax
   simp only[aX]at ax;subst ax;trivial
 intro id b _ aw;exact vq.2 aw
def pI(s d:Nat):Nat:=if s<dj then s else d
def AI(P:Program)(st:aC)(d:Nat)(t:TypeId)(p:aI)(c7 hi jy:Option Operand)(ans:List cd):Stepped:=
 match rA P t,p.leaf,jy with
 | some (_,k),some (.J (.own s) ch es),none=>
  if k=ch/\pI s d<dj then
   match mV st c7,mV st hi with
   | some l,some h=>
    let st2:=st.map (aF.cM (k' s (pI s d)) fun _=>true)
    some (⟨st2.env.set d (.one (.J (.own (pI s d)) k ((es.drop (l.getD 0).toNat).take ((h.getD es.length).toNat-(l.getD 0).toNat)))),st2.boxes⟩,ans,[0<=l.getD 0,l.getD 0<=h.getD es.length,h.getD es.length<=es.length])
   | _,_=>none
  else none
 | _,_,_=>none
theorem cK.AI{P:Program}{t:TypeId}{p:aI}{v:Value}{c7 hi jy:Option Operand}
  (a6:cK w0 st a w ω τ) (hp:cV (Sat w ω τ) p v) (h:AI P st d t p c7 hi jy ans=some (bz,cu,obs)) (a7:cQ obs):
  ∃z,(Instr.sliceAt t v (c7.map a.eval) (hi.map a.eval) (jy.map a.eval)).run P w=.ok z w/\Rel w0 bz (a.put (some d) z) w:=by
 unfold Go.Sx.AI at h;split at h
 ·rename_i e k s ch es e1 e2;split at h
  ·rename_i hk;obtain⟨rfl,ao⟩:=hk;split at h
   ·rename_i l bN cj d';simp only[aX,bK]at h;obtain⟨rfl,_,rfl⟩:=h;obtain⟨hu,i,qb,bd⟩:=xn e1;obtain⟨aD,_⟩:=aI.dS e2 hp;obtain⟨cC,cg,cL,_⟩:=a7;have aA:=Cp a6 cj;have aJ:=Cp a6 d';have mQ:(c7.map a.eval=none/\l.getD 0=0)\/∃k,c7.map a.eval=some (.int k (l.getD 0)):=by
     grind
    have si:(hi.map a.eval=none/\bN.getD es.length=es.length)\/∃k,hi.map a.eval=some (.int k (bN.getD es.length)):=by
     grind
    have key:∀(L m:Nat) (z:Value),L<=m->b4 w (fun b=>kp s (pI s d) L (ω b)) (Tag.own (pI s d)).R (.J k ((es.drop L).take (m-L))) z->
      Rel w0 ⟨(st.map (aF.cM (k' s (pI s d)) fun _=>true)).env.set d (.one (.J (.own (pI s d)) k ((es.drop L).take (m-L)))),(st.map (aF.cM (k' s (pI s d)) fun _=>true)).boxes⟩ (a.put (some d) z) w:=by
     intro L m z _ Ff;have h1:cK w0 (st.map (aF.cM (k' s (pI s d)) fun _=>true)) a w (fun b=>kp s (pI s d) L (ω b)) (gL τ (pI s d) k z):=
      a6.dg _ (Lq (by omega)).sat a6.below (fun b aw=>a6.owned b (Lp aw)) (fun id b aw=>⟨vq.2 aw,rfl⟩) (fun id b aw=>vq.1 aw)
       (fun t bG=>by simp only[gL];grind)
     exact⟨_,_,h1.put (p:=.one (.J (.own (pI s d)) k ((es.drop L).take (m-L)))) ⟨Ff,by simp[Tag.ei,gL]⟩⟩
    cases aD with
    | nil _ _ a0=>
     simp only[et] at*;have bE:l.getD 0=0:=by omega
     have abH:bN.getD ((0:Nat):Int)=0:=by omega
     refine⟨.slice a0 0 0,?_,?_⟩
     ·simp only[Instr.sliceAt,Sem.run_bind,run_underlying hu,Result.andThen_ok,Instr.slice,Option.map_none];rw[Co mQ si cC cg cL];simp_all[sizeOf,typeInfo]
     refine key _ _ _ (by omega) ?_;simp only[List.drop_nil,List.take_nil];exact .nil _ _ _
    | row R k es b off cap arr ty cZ us aw ed ak dM hk kl aE=>
     refine⟨sliced (some ⟨b,off,none⟩) (l.getD 0).toNat (bN.getD es.length).toNat cap k,?_,?_⟩
     ·simp only[Instr.sliceAt,Sem.run_bind,run_underlying hu,Result.andThen_ok,Instr.slice,Option.map_none];rw[Co mQ si cC cg (by omega)];simp_all[sizeOf,typeInfo,sliced]
     refine key _ _ _ (by omega) ?_;have:=b4.sub (.row _ k es b off cap arr ty cZ us aw ed ak dM hk kl aE) (l:=(l.getD 0).toNat) (m:=(bN.getD es.length).toNat) (by omega) (by omega)
      (jr:=fun q o=>match q with | []=>o=.tok s [] | (i,j)::r=>o=.tok s ((i+(l.getD 0).toNat,j)::r)) (fun o h=>h) (fun i j q o aDh h=>by
       grind[Tag.R,Nat.sub_add_cancel])
     refine this.frame fun c q _ aH=>⟨?_,rfl⟩
     simp only[Tag.R];cases q with
     | nil=>grind[kp]
     | cons x r=>
      obtain⟨i,j⟩:=x;simp only at aH;rw[aH];have cH:¬(i+(l.getD 0).toNat<(l.getD 0).toNat):=by omega
      simp_all[kp,gj,bw,Nat.add_sub_cancel]
   cases h
  cases h
 cases h
end Go.Sx
namespace Go.Sx
open Go.RowKit
def laid(arr:Array Value)(o:Nat)(cs:List Value):Array Value:=(arr.toList.take o++cs++arr.toList.drop (o+cs.length)).toArray
theorem rE{arr:Array Value}{o:Nat}{cs:List Value}(h:o+cs.length<=arr.size):(laid arr o cs).size=arr.size:=by
 simp[laid];omega
theorem mX{arr:Array Value}{o:Nat}{cs:List Value}(h:o+cs.length<=arr.size)(x:Nat):
  (laid arr o cs)[x]?=if o<=x/\x<o+cs.length then cs[x-o]? else arr[x]?:=by
 simp only[laid,pO,nT];have al:(arr.toList.take o).length=o:=by simp;omega
 split
 ·rename_i af;rw[wo (by omega),AR (by omega),al]
 rename_i af;by_cases h1:x<o
 ·rw[AR (by omega),kb,bn h1,mD]
 rw[wo (by omega),wo (by omega),al,lJ,mD]
 congr 1
 omega
theorem F1{P:Program}(w:World)(dh bb ty elem:TypeId)(k b o EM abD:Nat)(arr:Array Value)(tb:TypeId)(a:Addr)(DL Zs:Nat)(cs:List Value)
  (hu:P.underlying dh=some (.slice elem)) (ao:(P.info? elem).map (·.size)=some k) (aw:w.heap[b]?=some (.cells arr tb (0,0))) (aZ:cs.length=Nat.min DL EM*k)
  (jv:∀j v,cs[j]?=some v->w.cell? (a.add j)=some v) (er:o+cs.length<=arr.size) (h1:∀v∈cs,v.oneCell'=true):
  (Builtin.copy_ #[dh,bb] ty #[.slice (some ⟨b,o,none⟩) EM abD,.slice (some a) DL Zs]).run P w=.ok (goInt (Nat.min DL EM)) (w.setRow b (laid arr o cs)):=by
 have bF:=run_firstCells_some (P:=P) w k (Nat.min DL EM) a DL Zs cs aZ jv;have fm:=run_storeCells_at P b o tb cs 0 arr w aw (by simpa using er) h1;simp only[oI]at fm;cases aH:P.info? elem with
 | none=>simp[aH]at ao
 | some i=>
  have hi:i.size=k:=by simpa[aH]using ao
  subst hi;simp[Builtin.copy_,run_underlying hu,Builtin.lenOf,sizeOf,typeInfo,aH,bF,fm,laid]
theorem Sr{P:Program}(w:World)(t e ty:TypeId)(z:Value)(bG:P.underlying t=some (.slice e))(bI:(zeroValue e).run P w=.ok z w)(b o n c:Nat)(arr:Array Value)(tb:TypeId)
  (aw:w.heap[b]?=some (.cells arr tb (0,0))) (er:o+n*z.cells.size<=arr.size) (h1:∀v∈z.cells.toList,v.oneCell'=true):
  ∃zs:List Value,zs.length=n*z.cells.size/\(∀m,m<n*z.cells.size->zs[m]?=z.cells[m % z.cells.size]?)/\(Builtin.clear_ #[t] ty #[.slice (some ⟨b,o,none⟩) n c]).run P w=.ok (.tuple #[]) (if n=0 then w else w.setRow b (laid arr o zs)):=by
 refine⟨(Builtin.zeroCells z.cells n).toList,by simp[Builtin.zeroCells],fun m hm=>?_,?_⟩
 ·have sq:0<z.cells.size:=by
   rcases Nat.eq_zero_or_pos z.cells.size with h | h
   ·rw[h]at hm;simp at hm
   exact h
  simp only[Builtin.zeroCells,Array.toList_map,Array.toList_range,dK,List.getElem?_range hm,tc];rw[getElem!_pos z.cells _ (Nat.mod_lt _ sq),nm (Nat.mod_lt _ sq)]
 have rc:∀v∈(Builtin.zeroCells z.cells n).toList,v.oneCell'=true:=by
  intro v qf;simp only[Builtin.zeroCells,Array.toList_map,lh,Array.toList_range,List.mem_range]at qf;obtain⟨i,hi,rfl⟩:=qf;have sq:0<z.cells.size:=by
   rcases Nat.eq_zero_or_pos z.cells.size with h | h
   ·rw[h]at hi;simp at hi
   exact h
  refine h1 _ ?_;rw[getElem!_pos z.cells _ (Nat.mod_lt _ sq)];simp
 have fm:=run_storeCells_at P b o tb (Builtin.zeroCells z.cells n).toList 0 arr w aw (by simpa[Builtin.zeroCells]using er) rc;simp only[oI]at fm;cases n with
 | zero=>simp[Builtin.clear_,run_underlying bG]
 | succ n=>simp[Builtin.clear_,run_underlying bG,bI,fm,laid]
def zB(t k:Nat)(cD:List (List D)):aF->aF
 | .J (.own s) ch es=>if s=t then .J (.own t) k cD else .J (.own s) ch es
 | l=>aF.cM (fC t) (fun _=>true) l
def F2(P:Program)(st:aC)(d:Nat)(t:TypeId)(x:Operand)(c7:Option Operand)(eQ:TypeId)(ans:List cd):Stepped:=
 match rA P t,(st.bq x).leaf with
 | some (e,k),some (.J (.own hB) ch es)=>
  match P.info? e with
  | some i=>
   match i.zero,mV st c7 with
   | some z,some l=>
    if k=ch/\t=eQ/\z.cells.size=k/\z.cells.toList.all (fun v=>v.oneCell')=true/\d<st.env.length then
     let st2:=st.map (zB hB k (es.take (l.getD 0).toNat++List.replicate (es.length-(l.getD 0).toNat) (z.cells.toList.map .v)))
     some (⟨st2.env.set d .cp,st2.boxes⟩,ans,[0<=l.getD 0,l.getD 0<es.length,Flat es])
    else none
   | _,_=>none
  | none=>none
 | _,_=>none
theorem cK.clear{P:Program}{w0:eR}{st bz:aC}{a:Act}{w:World}{ω:Own}{τ:Nat->Nat×Value}{d:Nat}{t eQ:TypeId}{x:Operand}{c7:Option Operand}{ans cu:List cd}{obs:List Prop}
  (a6:cK w0 st a w ω τ) (h:F2 P st d t x c7 eQ ans=some (bz,cu,obs)) (a7:cQ obs):
  d<a.tmps.size/\∃y z aP,(Instr.sliceAt t (a.eval x) (c7.map a.eval) none none).run P w=.ok y w/\(∀ty,(Builtin.clear_ #[eQ] ty #[y]).run P w=.ok z aP)/\Rel w0 bz (a.put (some d) y) aP:=by
 unfold F2 at h;split at h
 ·rename_i e k hB ch es he af;split at h
  ·rename_i i hi;split at h
   ·rename_i z l bd Rs;split at h
    ·rename_i ak;obtain⟨rfl,rfl,nC,BY,q7⟩:=ak;refine⟨by rw[a6.size];exact q7,?_⟩;simp only[aX,bK]at h;obtain⟨rfl,_,rfl⟩:=h;obtain⟨cC,cg,E7,_⟩:=a7;obtain⟨hu,i2,od,dM⟩:=xn he;obtain⟨aD,bN⟩:=aI.dS af (a6.bq x);have aA:=Cp a6 Rs;have mQ:(c7.map a.eval=none/\l.getD 0=0)\/∃k,c7.map a.eval=some (.int k (l.getD 0)):=by
      rcases aA with⟨h,rfl⟩ | ⟨k,n,h,rfl⟩
      ·exact .inl ⟨h,rfl⟩
      exact .inr ⟨k,h⟩
     generalize sh:a.eval x=mC at aD bN;cases aD with
     | nil _ _ a0=>simp at cg;omega
     | row R k es b off cap arr ty cZ us aw ed fZ ao hk kl aE=>
      have lT:ω b=.tok hB []:=ed;obtain⟨mS,uM,wi,ih⟩:=a6.owned b (by rw[lT];simp);rw[aw]at ih;simp only[aX,Obj.cells.injEq]at ih;obtain⟨rfl,rfl,rfl⟩:=ih;obtain⟨L,cH⟩:∃L,L=(l.getD 0).toNat:=⟨_,rfl⟩
      have aCJ:L<es.length:=by omega
      rw[<-cH];have er:off+L*k+(es.length-L)*z.cells.size<=arr.size:=by
       rw[nC,IT,<-hT,show L+(es.length-L)=es.length by omega];have:=im k fZ;omega
      have adT:(zeroValue e).run P w=.ok z w:=by simp[zeroValue,typeInfo,hi,bd]
      obtain⟨zs,mU,RY,Bv⟩:∃zs:List Value,zs.length=(es.length-L)*z.cells.size/\(∀m,m<(es.length-L)*z.cells.size->zs[m]?=z.cells[m % z.cells.size]?)/\
        ∀ty,(Builtin.clear_ #[t] ty #[.slice (some ⟨b,off+L*k,none⟩) (es.length-L) (cap-L)]).run P w=.ok (.tuple #[]) (if es.length-L=0 then w else w.setRow b (laid arr (off+L*k) zs)):=by
       obtain⟨zs,h1,U,aA⟩:=Sr (P:=P) w t e 0 z hu adT b (off+L*k) (es.length-L) (cap-L) arr ty aw er (gA.1 BY);exact⟨zs,h1,U,fun rX=>aA⟩
      rw[bw (by omega)]at Bv;rw[nC]at mU RY;have c3:off+L*k+zs.length<=arr.size:=by rw[mU,<-nC];exact nC▸er
      refine⟨.slice (some ⟨b,off+L*k,none⟩) (es.length-L) (cap-L),_,_,?_,Bv,?_⟩
      ·simp only[Instr.sliceAt,Sem.run_bind,run_underlying hu,Result.andThen_ok,Instr.slice,Option.map_none];rw[Co (h:=es.length) mQ (.inl ⟨rfl,rfl⟩) cC (by omega) (by omega)];have cX:¬cap=L:=by omega
       simp[sizeOf,typeInfo,od,dM,<-cH,cX,Addr.add_lit]
      -- aEe aBq behind it
      have lX:=setRow_heap w b arr (laid arr (off+L*k) zs) ty (0,0) aw;have ho:b4 (w.setRow b (laid arr (off+L*k) zs)) ω (Tag.own hB).R (.J k (es.take L++List.replicate (es.length-L) (z.cells.toList.map .v))) (.slice (some ⟨b,off,none⟩) es.length cap):=by
       have hlen:(es.take L++List.replicate (es.length-L) (z.cells.toList.map D.v)).length=es.length:=by simp;omega
       have fw:∀x j d,df (es.take L++List.replicate (es.length-L) (z.cells.toList.map D.v)) x j=some d->∃v,d=.v v/\(laid arr (off+L*k) zs)[off+x*k+j]?=some v/\v.oneCell'=true:=by
        intro x j d ej;rw[Ct]at ej;have BQ:(es.take L).length=L:=by simp;omega
        rw[BQ]at ej;split at ej
        ·rename_i Km;have wU:df es x j=some d:=by
          unfold df at ej ⊢;rwa[kb,bn Km]at ej
         obtain⟨gm,kD⟩:=t' hk wU;have sl:∃v,d=.v v:=by
          unfold df at wU;cases e1:es[x]? with
          | none=>simp[e1]at wU
          | some ds=>
           simp only[e1,qG]at wU;exact E7 ds (gb e1) d (gb wU)
         obtain⟨v,rfl⟩:=sl;have aJ:=aE x j _ wU;have a':=kl x j _ wU;generalize us x j=u at aJ a';cases aJ with
         | v _ _ bu=>
          refine⟨v,rfl,?_,bu⟩;rw[mX c3,bw ?_,a'];have:(x+1)*k<=L*k:=im _ Km;rw[hT]at this;omega
        rename_i Km;unfold df at ej;rw[Eo]at ej;split at ej
        ·rename_i BV;simp only[qG,dK,b9]at ej;obtain⟨v,bI,rfl⟩:=ej;have BD:j<k:=by
          have:=(gk.1 bI).1;rw[QB,nC]at this;exact this
         refine⟨v,rfl,?_,gA.1 BY v (gb bI)⟩;obtain⟨m,hm⟩:∃m,x=L+m:=⟨x-L,by omega⟩
         subst hm;have ac1:m*k+j<(es.length-L)*k:=by
          have:(m+1)*k<=(es.length-L)*k:=im _ (by omega);rw[hT]at this;omega
         have e1:off+(L+m)*k+j=off+L*k+(m*k+j):=by rw[hT];omega
         rw[e1,mX c3,bn (by omega),show off+L*k+(m*k+j)-(off+L*k)=m*k+j by omega,RY _ ac1,show (m*k+j) % k=j by rw[Nat.mul_comm m k,Nat.mul_add_mod,IS BD]];simpa using bI
        simp at ej
       have:=b4.row (w:=w.setRow b (laid arr (off+L*k) zs)) (ω:=ω) (Tag.own hB).R k (es.take L++List.replicate (es.length-L) (z.cells.toList.map .v)) b off cap _ ty (0,0)
        (fun x j=>(laid arr (off+L*k) zs).getD (off+x*k+j) undef) lX ed (by omega) (by rw[rE c3];exact ao)
        (by
         intro e' q9;rcases ia.1 q9 with h | h
         ·exact hk e' (td h)
         rw[List.eq_of_mem_replicate h];simp[nC])
        (fun x j d ej=>by obtain⟨v,rfl,h1,_⟩:=fw x j d ej;simp[e7,h1])
        (fun x j d ej=>by
         obtain⟨v,rfl,h1,U⟩:=fw x j d ej;have:(laid arr (off+L*k) zs).getD (off+x*k+j) undef=v:=by simp[e7,h1]
         rw[this];exact .v _ _ U)
       rwa[hlen]at this
      have bq:mI w ω τ (w.setRow b (laid arr (off+L*k) zs)) ω τ (fC hB) (fun _=>true):=by
       refine⟨?_,?_,fun id c _ ak=>ak,rfl,fun _ _=>rfl⟩
       ·intro g eI c q ax _ aH;obtain⟨rfl,BH⟩:=FZ ax aH;exact⟨aH,setRow_other w b c _ fun e=>BH [] (by rw[e];exact lT)⟩
       intro g eI y ax bD;cases g with
       | free=>simp only[fC,aX]at ax;subst ax;trivial
       | own x=>
        simp only[fC]at ax;split at ax
        ·cases ax
        simp only[aX]at ax;subst ax;exact bD
       | ro x=>
        simp only[fC]at ax;split at ax
        ·cases ax
        simp only[aX]at ax;subst ax;trivial
      have e0:∀lz v,Sat w ω τ lz v->Sat (w.setRow b (laid arr (off+L*k) zs)) ω τ (zB hB k (es.take L++List.replicate (es.length-L) (z.cells.toList.map .v)) lz) v:=by
       intro lz v Kh;by_cases E4:∃s ch cD,lz=.J (.own s) ch cD
       ·obtain⟨s,ch,cD,rfl⟩:=E4;simp only[zB];split
        ·rename_i fm;subst fm;obtain⟨_,U⟩:=Kh;simp only[Tag.ei]at U bN;rw[U]at bN;simp only[bK]at bN;obtain⟨rfl,rfl⟩:=bN;exact⟨ho,U⟩
        rename_i fm;have:=bq.sat (.J (.own s) ch cD) v Kh;simpa[aF.cM,fC,fm]using this
       have eu:zB hB k (es.take L++List.replicate (es.length-L) (z.cells.toList.map .v)) lz=aF.cM (fC hB) (fun _=>true) lz:=by
        unfold zB;split
        ·exact absurd ⟨_,_,_,rfl⟩ E4
        rfl
       rw[eu];exact bq.sat lz v Kh
      have h1:cK w0 (st.map (zB hB k (es.take L++List.replicate (es.length-L) (z.cells.toList.map .v)))) a (w.setRow b (laid arr (off+L*k) zs)) ω τ:=by
       refine a6.dg _ e0 (a6.below.setRow mS _) ?_ (fun id c ak=>⟨ak,setRow_other w b c _ fun e=>by rw[e,lT]at ak;cases ak⟩) (fun id c ak=>ak) (fun _ _=>rfl);intro c ak;obtain⟨h1,k1,lf,U⟩:=a6.owned c ak;by_cases e:c=b
       ·subst e;exact⟨h1,_,ty,lX⟩
       exact⟨h1,k1,lf,(setRow_other w b c _ e).trans U⟩
      exact⟨ω,τ,h1.put (p:=.cp) trivial⟩
    cases h
   cases h
  cases h
 cases h
end Go.Sx
namespace Go.Sx
open Go.RowKit
def bl.l8(p:aF->Prop):bl->Prop
 | .one l=>p l
 | .agg ls=>∀l∈ls,p l
def aI.l8(p:aF->Prop):aI->Prop
 | .aG a=>a.l8 p
 | .gx as=>∀a∈as,a.l8 p
variable{S ll:aF->Value->Prop}{p:aF->Prop}{f:aF->aF}{ls:List aF}
theorem k0.map'(h:∀l v,p l->S l v->ll (f l) v){vs:Array Value}(ai:∀l∈ls,p l)(ao:k0 S ls vs):k0 ll (ls.map f) vs:=by
 refine⟨by simpa using ao.1,fun i l al=>?_⟩;rw[dK,b9]at al;obtain⟨eF,bO,rfl⟩:=al;obtain⟨u,h1,U⟩:=ao.2 i eF bO;exact⟨u,h1,h _ _ (ai eF (gb bO)) U⟩
theorem kZ.map'(h:∀l v,p l->S l v->ll (f l) v):∀{a:bl} {y:Value},a.l8 p->kZ S a y->kZ ll (a.map f) y
 | .one l,y,ai,ao=>h _ _ ai ao
 | .agg ls,y,ai,⟨vs,e,ao⟩=>⟨vs,e,ao.map' h ai⟩
theorem cV.map'(h:∀l v,p l->S l v->ll (f l) v):∀{q:aI} {y:Value},q.l8 p->cV S q y->cV ll (q.map f) y
 | .aG a,y,ai,ao=>show kZ ll (a.map f) y from kZ.map' h ai (show kZ S a y from ao)
 | .gx as,y,ai,⟨vs,e,aZ,ao⟩=>⟨vs,e,by simpa using aZ,fun i a hi=>by
   rw[dK,b9]at hi;obtain⟨a0,bO,rfl⟩:=hi;obtain⟨u,h1,U⟩:=ao i a0 bO;exact⟨u,h1,kZ.map' h (ai a0 (gb bO)) U⟩⟩
variable{w0:eR}{st:aC}{a:Act}{w aP:World}{ω bf:Own}{τ:Nat->Nat×Value}
theorem cK.aBz{c0:Nat->Nat×Value}{p:aF->Prop}(h:cK w0 st a w ω τ)(f:aF->aF)
  (e0:∀l v,p l->Sat w ω τ l v->Sat aP bf c0 (f l) v) (he:∀q∈st.env,q.l8 p) (aw:∀id ls,dI id st.boxes=some ls->∀l∈ls,p l) (se:hd w0 aP) (rf:oM w0 aP bf)
  (tB:∀id b,ω b=.box id->bf b=.box id/\aP.heap[b]?=w.heap[b]?) (Bs:∀id b,bf b=.box id->ω b=.box id) (u6:∀t,dj<=t->c0 t=τ t):cK w0 (st.map f) a aP bf c0 where
 defers:=h.defers
 size:=by simp[aC.map,h.size]
 below:=se
 owned:=rf
 fixed:=fun t bG=>(u6 t bG).trans (h.fixed t bG)
 pinned:=fun id b hi aw=>h.pinned id b hi (Bs id b aw)
 env:=by
  intro i q aH;simp only[aC.map]at aH;rw[dK,b9]at aH;obtain⟨gE,bO,rfl⟩:=aH;obtain⟨v,h1,U⟩:=h.env i gE bO;exact⟨v,h1,cV.map' e0 (he gE (gb bO)) U⟩
 boxes:=by
  intro id ls al;simp only[aC.map]at al;rw[tZ,b9]at al;obtain⟨jY,bO,rfl⟩:=al;obtain⟨b,arr,ty,hl,hu,bN,ao⟩:=h.boxes id jY bO;obtain⟨h1,U⟩:=tB id b hl;exact⟨b,arr,ty,h1,fun dD ey=>hu dD (Bs id dD ey),U.trans bN,ao.map' e0 (aw id jY bO)⟩
def aF.idx(t j:Nat):aF->List Nat
 | .aN s a b _ _ _=>if s=t/\b=j then [a] else []
 | _=>[]
def bl.idx(t j:Nat):bl->List Nat
 | .one l=>l.idx t j
 | .agg ls=>ls.flatMap (aF.idx t j)
def aI.idx(t j:Nat):aI->List Nat
 | .aG a=>a.idx t j
 | .gx as=>as.flatMap (bl.idx t j)
def aC.idx(t j:Nat)(st:aC):List Nat:=st.env.flatMap (aI.idx t j)++st.boxes.flatMap fun x=>x.2.flatMap (aF.idx t j)
def F3(t i j:Nat)(l:aF):Prop:=∀a∈l.idx t j,a=i
theorem Ss{id:Nat}:∀{bs:List (Nat×List aF)} {ls:List aF},dI id bs=some ls->(id,ls)∈bs
 | [],_,h=>by cases h
 | (i,l)::r,ls,h=>by
  simp only[dI]at h;split at h
  ·rename_i hi;subst hi;rw[gJ h];exact hU
  exact gI _ (Ss h)
variable{t i j:Nat}
theorem aC.adW(h:∀a∈st.idx t j,a=i):∀q∈st.env,q.l8 (F3 t i j):=by
 intro q aH;have h1:∀a∈q.idx t j,a=i:=fun a ai=>h a (hD _ (l5.2 ⟨q,aH,ai⟩))
 have E1:∀x:bl,(∀a∈x.idx t j,a=i)->x.l8 (F3 t i j):=by
  intro x af;cases x with
  | one l=>exact af
  | agg ls=>exact fun l al a ai=>af a (l5.2 ⟨l,al,ai⟩)
 cases q with
 | aG x=>exact E1 x h1
 | gx as=>exact fun x af=>E1 x fun a ai=>h1 a (l5.2 ⟨x,af,ai⟩)
theorem aC.adV(h:∀a∈st.idx t j,a=i){id:Nat}(aw:dI id st.boxes=some ls):∀l∈ls,F3 t i j l:=by
 intro l al a ai;exact h a (iC _ (l5.2 ⟨(id,ls),Ss aw,l5.2 ⟨l,al,ai⟩⟩))
def hL(t i j k:Nat)(cD:List (List D))(kT:Nat)(esT:List (List D)):aF->aF
 | .J (.own s) dm dR=>if s=t then .J (.own t) kT esT else .J (.own s) dm dR
 | .ep (.own s) dm dR a b=>if s=t then .ep (.own t) kT esT a b else .ep (.own s) dm dR a b
 | .J (.ro s) dm dR=>if s=t then .cp else .J (.ro s) dm dR
 | .ep (.ro s) dm dR a b=>if s=t then .cp else .ep (.ro s) dm dR a b
 | .aN s a b dm dR m=>if s=t/\b=j then (if dm=k/\m.home=true then .aN t i j k cD m else .cp) else .aN s a b dm dR m
 | .fD _ _=>.cp
 | l=>l
variable{v:Value}
theorem vm.aBC{u:Value}(h1:vm w ω τ t i j u)(U:vm w ω τ t i j v):u=v:=by
 obtain⟨kT,b,off,len,cap,arr,ty,cZ,eC,a2,a3,a4⟩:=h1;obtain⟨adZ,dD,aDP,aDJ,mL,cm,rX,aCy,fb,fY,r8,I1⟩:=U;rw[eC]at fb;simp only[bK,Value.slice.injEq,aX,Addr.mk.injEq]at fb;obtain⟨rfl,⟨rfl,rfl,_⟩,_,_⟩:=fb;rw[a3]at r8;simp only[aX,Obj.cells.injEq]at r8;obtain⟨rfl,_,_⟩:=r8;rw[a4]at I1;exact gJ I1
variable{k kT:Nat}{esT:List (List D)}
theorem cK.Zv(h:cK w0 st a w ω τ){cD:List (List D)}{yT fH:Value}
  (kF:∀c,c<w.heap.size->ω c≠.tok t [(i,j)]->aP.heap[c]?=w.heap[c]?) (dt:∀c,c<w.heap.size->bf c=ω c) (KV:∀c id,¬c<w.heap.size->bf c≠.box id)
  (lU:hd w0 aP) (mS:oM w0 aP bf) (tP:τ t=(kT,yT)) (o4:b4 aP bf (Tag.own t).R (.J kT esT) yT)
  (sj:vm w ω τ t i j fH) (qe:b4 aP bf (fun q o=>o=.tok t ((i,j)::q)) (.J k cD) fH) (qc:∀a∈st.idx t j,a=i):cK w0 (st.map (hL t i j k cD kT esT)) a aP bf τ:=by
 have cZ:∀{R:List (Nat×Nat)->dr->Prop} {d:D} {v:Value},(∀q,¬R q (.tok t [(i,j)]))->b4 w ω R d v->b4 aP bf R d v:=by
  intro R d v aZ aD;refine aD.frame fun b q bS aH=>?_
  rw[dt b bS];exact⟨aH,kF b bS fun e=>aZ q (by rw[<-e];exact aH)⟩
 have home:∀{s a b:Nat} {u:Value},vm w ω τ s a b u->vm aP bf τ s a b u:=by
  rintro s a b u ⟨kT,c,off,len,cap,arr,ty,cZ,eC,a2,a3,a4⟩;have bS:c<w.heap.size:=(kf.1 a3).1;exact⟨kT,c,off,len,cap,arr,ty,cZ,eC,by rw[dt c bS];exact a2,(kF c bS (by rw[a2];simp)).trans a3,a4⟩
 refine h.aBz (p:=F3 t i j) _ ?_ (aC.adW qc) (fun id ls aw=>aC.adV qc aw) lU mS (fun id b aw=>?_) (fun id b aw=>?_) (fun _ _=>rfl)
 ·intro l v ax ao;cases l with
  | cp=>exact trivial
  | v x=>exact ao
  | bg c=>exact ao
  | ptr id o=>
   obtain⟨c,ak,e⟩:=ao;exact⟨c,by rw[dt c (h.owned.lt (by simp[ak]))];exact ak,e⟩
  | hg f ids=>
   obtain⟨bs,e,aZ,hi⟩:=ao;refine⟨bs,e,aZ,fun x id hx=>?_⟩;obtain⟨b,h1,U⟩:=hi x id hx;exact⟨b,h1,by rw[dt b (h.owned.lt (by simp[U]))];exact U⟩
  | hQ ds o=>
   obtain⟨c,e,aD⟩:=ao;exact⟨c,e,cZ (fun q aH=>by cases aH) aD⟩
  | fd d=>exact cZ (R:=Tag.free.R) (fun q aH=>by cases aH) ao
  | dA t0 dm dR=>exact⟨cZ (R:=Tag.free.R) (fun q aH=>by cases aH) ao.1,ao.2⟩
  | fD=>exact trivial
  | J g dm dR=>
   cases g with
   | free=>exact⟨cZ (R:=Tag.free.R) (fun q aH=>by cases aH) ao.1,aa⟩
   | own s=>
    simp only[hL];split
    ·rename_i e;subst e;have U:=ao.2;simp only[Tag.ei]at U;rw[tP]at U;simp only[bK]at U;rw[<-U.2];exact⟨o4,tP⟩
    rename_i cX;exact⟨cZ (R:=(Tag.own s).R) (fun q aH=>by simp only[Tag.R,dr.tok.injEq]at aH;exact cX aH.1.symm) ao.1,ao.2⟩
   | ro s=>
    simp only[hL];split
    ·exact trivial
    rename_i cX;refine⟨cZ (R:=(Tag.ro s).R) (fun q aH=>?_) ao.1,aa⟩;rcases aH with aH | ⟨ec,aH⟩
    ·cases aH
    simp only[dr.tok.injEq]at aH;exact cX aH.1.symm
  | ep g dm dR x y=>
   obtain⟨fY,ru,qQ,e,od,oi,o2⟩:=ao;cases g with
   | free=>exact⟨fY,ru,qQ,e,od,cZ (R:=Tag.free.R) (fun q aH=>by cases aH) oi,aa⟩
   | own s=>
    simp only[hL];split
    ·rename_i e1;subst e1;simp only[Tag.ei]at o2;rw[tP]at o2;simp only[bK]at o2;obtain⟨rfl,rfl⟩:=o2;have al:esT.length=dR.length:=by
      obtain⟨_,_,e2⟩:=o4.len;simp only[Value.slice.injEq]at e2;exact e2.2.1.symm
     refine⟨fY,ru,qQ,e,by omega,?_,?_⟩
     ·rw[al];exact o4
     rw[al];exact tP
    rename_i cX;exact⟨fY,ru,qQ,e,od,cZ (R:=(Tag.own s).R) (fun q aH=>by simp only[Tag.R,dr.tok.injEq]at aH;exact cX aH.1.symm) oi,o2⟩
   | ro s=>
    simp only[hL];split
    ·exact trivial
    rename_i cX;refine⟨fY,ru,qQ,e,od,cZ (R:=(Tag.ro s).R) (fun q aH=>?_) oi,aa⟩;rcases aH with aH | ⟨ec,aH⟩
    ·cases aH
    simp only[dr.tok.injEq]at aH;exact cX aH.1.symm
  | aN s x y dm dR m=>
   simp only[hL];obtain⟨u,hu,aD,hm⟩:=ao;split
   ·rename_i ak;obtain⟨rfl,rfl⟩:=ak;have af:x=i:=ax x (by simp[aF.idx]);subst af;split
    ·rename_i ak;obtain⟨rfl,ac0⟩:=ak;have e:=(hm ac0).aBC sj;subst e;have al:cD.length=dR.length:=by
      obtain⟨_,_,e1⟩:=qe.len;obtain⟨_,_,e2⟩:=aD.len;rw[e1]at e2;simp only[Value.slice.injEq]at e2;omega
     exact⟨u,by rw[al];exact hu,qe,fun _=>home sj⟩
    exact trivial
   rename_i ak;refine⟨u,hu,cZ (fun q aH=>?_) aD,fun bN=>home (hm bN)⟩;simp only[dr.tok.injEq,te,bK]at aH;exact ak ⟨aH.1.symm,aH.2.1.2.symm⟩
 ·have bS:=h.owned.lt (b:=b) (by simp[aw]);exact⟨by rw[dt b bS];exact aw,kF b bS (by rw[aw];simp)⟩
 by_cases bS:b<w.heap.size
 ·rw[dt b bS]at aw;exact aw
 exact absurd aw (KV b id bS)
def uy(t:Nat):aF->Option (Nat×List (List D))
 | .J (.own s) k es=>if s=t then some (k,es) else none
 | _=>none
def vr(t:Nat):List aI->Option (Nat×List (List D))
 | []=>none
 | .aG (.one l)::r=>match uy t l with | some x=>some x | none=>vr t r
 | .aG (.agg ls)::r=>match ls.findSome? (uy t) with | some x=>some x | none=>vr t r
 | _::r=>vr t r
def F4(t:Nat)(st:aC):Option (Nat×List (List D)):=
 match vr t st.env with
 | some x=>some x
 | none=>(st.boxes.find? fun x=>(x.2.findSome? (uy t)).isSome).bind fun x=>(dI x.1 st.boxes).bind fun ls=>ls.findSome? (uy t)
theorem Lr{l:aF}(h:uy t l=some (kT,esT))(ao:Sat w ω τ l v):Sat w ω τ (.J (.own t) kT esT) v:=by
 unfold uy at h;split at h
 ·split at h
  ·rename_i e;subst e;simp only[aX,bK]at h;obtain⟨rfl,rfl⟩:=h;exact ao
  cases h
 cases h
theorem St{vs:Array Value}(h:ls.findSome? (uy t)=some (kT,esT))(ao:k0 (Sat w ω τ) ls vs):∃v,Sat w ω τ (.J (.own t) kT esT) v:=by
 obtain⟨l,al,U⟩:=List.exists_of_findSome?_eq_some h;obtain⟨x,af⟩:=pS.1 al;obtain⟨u,_,hu⟩:=ao.2 x l af;exact⟨u,Lr U hu⟩
theorem F5:∀{cz:List aI},vr t cz=some (kT,esT)->(∀p∈cz,∃v,cV (Sat w ω τ) p v)->∃v,Sat w ω τ (.J (.own t) kT esT) v
 | [],h,_=>by cases h
 | p::r,h,ao=>by
  have aD:∀p∈r,∃v,cV (Sat w ω τ) p v:=fun p hp=>ao p (gI _ hp)
  obtain⟨v,bI⟩:=ao p hU;cases p with
  | gx as=>exact F5 (by simpa[vr]using h) aD
  | aG x=>
   cases x with
   | one l=>
    simp only[vr]at h;split at h
    ·rename_i y e;simp only[aX]at h;subst h;exact⟨v,Lr e bI⟩
    exact F5 h aD
   | agg ls=>
    simp only[vr]at h;split at h
    ·rename_i y e;simp only[aX]at h;subst h;obtain⟨vs,_,bI⟩:=bI;exact St e bI
    exact F5 h aD
theorem cK.root(h:cK w0 st a w ω τ)(e:F4 t st=some (kT,esT)):∃v,Sat w ω τ (.J (.own t) kT esT) v:=by
 unfold F4 at e;split at e
 ·rename_i x e1;simp only[aX]at e;subst e;refine F5 e1 fun p hp=>?_
  obtain⟨x,af⟩:=pS.1 hp;obtain⟨v,_,bI⟩:=h.env x p af;exact⟨v,bI⟩
 rw[nn]at e;obtain⟨x,_,e⟩:=e;rw[nn]at e;obtain⟨ls,aw,e⟩:=e;obtain⟨b,arr,ty,_,_,_,ao⟩:=h.boxes x.1 ls aw;exact St e ao
theorem Su{cD:List (List D)}{jP:List D}{yT fH:Value}(ao:Sat w ω τ (.J (.own t) kT esT) yT)
  (kF:∀c,c<w.heap.size->ω c≠.tok t [(i,j)]->aP.heap[c]?=w.heap[c]?) (dt:∀c,c<w.heap.size->bf c=ω c)
  (sj:vm w ω τ t i j fH) (qe:b4 aP bf (fun q o=>o=.tok t ((i,j)::q)) (.J k cD) fH) (fc:esT[i]?=some jP):b4 aP bf (Tag.own t).R (.J kT (esT.set i (jP.set j (.J k cD)))) yT:=by
 obtain⟨aD,bN⟩:=ao;simp only[Tag.ei]at bN;obtain⟨adZ,b6,La,R8,QP,uM,wi,aCz,eC,a2,a3,a4⟩:=sj;rw[bN]at eC;simp only[bK]at eC;obtain⟨rfl,rfl⟩:=eC;have ki:i<esT.length:=(gk.1 fc).1;have hlen:(esT.set i (jP.set j (.J k cD))).length=esT.length:=hc;generalize bD:Value.slice (some ⟨b6,La,none⟩) R8 QP=QA at aD;cases aD with
 | nil=>simp at ki
 | row R kT esT b off cap arr ty cZ us aw ed ak dM hk hu aE=>
  simp only[Value.slice.injEq,aX,Addr.mk.injEq]at bD;obtain⟨⟨rfl,rfl,_⟩,rfl,rfl⟩:=bD;rw[aw]at a3;simp only[aX,Obj.cells.injEq]at a3;obtain⟨rfl,_,_⟩:=a3;have wT:b6<w.heap.size:=(kf.1 aw).1;have E8:jP.length=kT:=hk jP (gb fc);have wZ:∀e∈esT.set i (jP.set j (.J k cD)),e.length=kT:=by
   intro e he;rcases iq he with h | rfl
   ·exact hk e h
   rw[hc];exact E8
  have key:∀x y d,df (esT.set i (jP.set j (.J k cD))) x y=some d->arr[La+x*kT+y]?=some (us x y)/\b4 aP bf (fun q=>(Tag.own t).R ((x,y)::q)) d (us x y):=by
   intro x y d ej;have Kn:=t' wZ ej;rw[hlen]at Kn;obtain⟨d0,mf⟩:=SB hk Kn.1 Kn.2;have w4:=hu x y d0 mf;refine⟨w4,?_⟩;rw[LO ki]at ej;by_cases af:x=i
   ·subst af;rw[bn rfl,pQ]at ej;by_cases KT:j=y
    ·subst KT;rw[bn rfl,bn (by omega)]at ej;rw[<-gJ ej];rw[a4]at w4;rw[<-gJ w4];exact qe
    rw[bw KT]at ej;have q4:df esT x y=some d:=by simp[df,fc,ej]
    refine (aE x y d q4).frame fun c q ak aH=>?_
    rw[dt c ak];refine⟨aH,kF c ak fun e=>?_⟩;simp only[Tag.R,e,dr.tok.injEq,te,bK]at aH;exact KT aH.2.1.2
   rw[bw af]at ej;refine (aE x y d ej).frame fun c q ak aH=>?_
   rw[dt c ak];refine⟨aH,kF c ak fun e=>?_⟩;simp only[Tag.R,e,dr.tok.injEq,te,bK]at aH;exact af aH.2.1.1.symm
  have lT:ω b6=.tok t []:=ed;have:=b4.row (w:=aP) (ω:=bf) (Tag.own t).R kT (esT.set i (jP.set j (.J k cD))) b6 La QP arr ty cZ us ((kF b6 wT (by rw[lT];simp)).trans aw) (by rw[dt b6 wT];exact lT) (by omega) dM wZ
   (fun x y d aE=>(key x y d aE).1) (fun x y d aE=>(key x y d aE).2)
  rw[hlen]at this;exact this
def Ls(P:Program)(st:aC)(ty:TypeId)(t i j k:Nat)(es:List (List D))(x y:Nat)(q:aI)(ans:List cd):Stepped:=
 match q.leaves,P.info? ty,F4 t st,ans with
 | some xs,some inf,some (kT,esT),.el ds::.el jP::r=>
  match xs.mapM aF.jn with
  | some ys=>
   if xs.length=inf.size/\ds.length=k/\y+ys.length<=k/\xs.all (fun l=>l.tok.isNone)=true then
    some (st.map (hL t i j k (es.set x (lS ds y ys)) kT (esT.set i (jP.set j (.J k (es.set x (lS ds y ys)))))),r,(es[x]?=some ds)::(esT[i]?=some jP)::(st.idx t j).map fun a=>a=i)
   else none
  | none=>none
 | _,_,_,_=>none
theorem awW{l:aF}{d:D}(h:l.jn=some d)(bG:l.tok.isNone=true){u:Value}(ao:Sat w ω τ l u):∃z,d=.v z/\u=z/\z.oneCell'=true:=by
 cases l with
 | v z=>
  simp only[aF.jn]at h;split at h
  ·simp only[aX]at h;subst h;have:u=z:=ao;exact⟨z,rfl,this,‹_›⟩
  cases h
 | bg c=>
  simp only[aF.jn,aX]at h;subst h;exact⟨_,rfl,ao,rfl⟩
 | J g k es=>
  cases g with
  | own s=>simp[aF.tok]at bG
  | free=>cases h
  | ro s=>cases h
 | cp=>cases h
 | ptr=>cases h
 | ep=>cases h
 | hQ=>cases h
 | fd=>cases h
 | dA=>cases h
 | hg=>cases h
 | aN=>cases h
 | fD=>cases h
theorem cK.aBv{P:Program}{bz:aC}{ty:TypeId}{x y:Nat}{es:List (List D)}{q:aI}{p:Value}{ans cu:List cd}{obs:List Prop}
  (a6:cK w0 st a w ω τ) (hp:Sat w ω τ (.aN t i j k es (.at_ x y)) p) (aH:cV (Sat w ω τ) q v) (h:Ls P st ty t i j k es x y q ans=some (bz,cu,obs)) (a7:cQ obs):
  ∃aP,(Instr.storeAt ty p v).run P w=.ok () aP/\Rel w0 bz a aP:=by
 unfold Ls at h;split at h
 ·rename_i xs inf kT esT ds jP r e1 e2 d';split at h
  ·rename_i ys cj;split at h
   ·rename_i ak;obtain⟨mP,me,lV,y5⟩:=ak;simp only[aX,bK]at h;obtain⟨rfl,_,rfl⟩:=h;obtain⟨fc,y6,qc⟩:=a7;have qc:=FT qc;obtain⟨yT,o4⟩:=a6.root d';obtain⟨ao,rc⟩:=aI.zt e1 aH;obtain⟨RV,KS⟩:=ov cj;obtain⟨fH,⟨b,off,cap,rfl,rfl,ki⟩,aD,hm⟩:=hp;have sj:=hm rfl;have rh:=aD;cases aD with
    | nil=>simp at ki
    | row R k es b off cap arr jo cZ us aw ed fZ dM hn hu aE=>
     have lT:ω b=.tok t [(i,j)]:=ed;obtain⟨wX,uM,wi,ih⟩:=a6.owned b (by rw[lT];simp);rw[aw]at ih;simp only[aX,Obj.cells.injEq]at ih;obtain⟨rfl,rfl,rfl⟩:=ih;have wT:b<w.heap.size:=(kf.1 aw).1;have hmul:(x+1)*k<=cap*k:=im _ (by omega);rw[hT]at hmul;have ss:v.cells.size=xs.length:=ao.1;have er:off+x*k+y+v.cells.toList.length<=arr.size:=by simp;omega
     have fm:=run_storeCells_at P b (off+x*k+y) jo v.cells.toList 0 arr w aw (by simpa using er) rc;simp only[oI]at fm;generalize p9:(arr.toList.take (off+x*k+y)++v.cells.toList++arr.toList.drop (off+x*k+y+v.cells.toList.length)).toArray=cm at fm;have hJ:∀z:Nat,cm[z]?=if off+x*k+y<=z/\z<off+x*k+y+xs.length then v.cells[z-(off+x*k+y)]? else arr[z]?:=by
      intro z;rw[<-p9,pO,Cr (by simpa using er)];simp[ss]
     have zk:cm.size=arr.size:=by rw[<-p9];simp;simp at er;omega
     have lX:=setRow_heap w b arr cm jo (0,0) aw;have kF:∀c,c<w.heap.size->ω c≠.tok t [(i,j)]->(w.setRow b cm).heap[c]?=w.heap[c]?:=fun c _ ak=>setRow_other w b c cm fun e=>ak (by rw[e];exact lT)
     have qe:b4 (w.setRow b cm) ω (fun q o=>o=.tok t ((i,j)::q)) (.J k (es.set x (lS ds y ys))) (.slice (some ⟨b,off,none⟩) es.length cap):=by
      have hlen:(es.set x (lS ds y ys)).length=es.length:=hc;have E8:ds.length=k:=me;have oh:∀ha fW d,df es ha fW=some d->b4 (w.setRow b cm) ω (fun q o=>o=.tok t ((i,j)::(ha,fW)::q)) d (us ha fW):=by
       intro ha fW d q4;refine (aE ha fW d q4).frame fun c q ak fe=>⟨fe,kF c ak fun e=>?_⟩
       rw[e]at fe;simp at fe
      have fw:∀ha fW d,df (es.set x (lS ds y ys)) ha fW=some d->∃u,cm[off+ha*k+fW]?=some u/\b4 (w.setRow b cm) ω (fun q o=>o=.tok t ((i,j)::(ha,fW)::q)) d u:=by
       intro ha fW d ej;rw[LO ki]at ej;by_cases af:ha=x
       ·subst af;rw[bn rfl,SE (by omega)]at ej;split at ej
        ·rename_i bD;obtain⟨l,iZ,c3⟩:=KS _ _ ej;obtain⟨u,gU,fO⟩:=ao.2 _ _ iZ;obtain⟨z,rfl,rfl,bd⟩:=awW c3 (gA.1 y5 l (gb iZ)) fO;refine⟨u,?_,.v _ _ bd⟩;rw[hJ,bn (by omega),<-gU]
         congr 1;omega
        rename_i bD;have q4:df es ha fW=some d:=by simp[df,fc,ej]
        refine⟨us ha fW,?_,oh ha fW d q4⟩;rw[hJ,bw (by omega),hu ha fW d q4]
       rw[bw af]at ej;obtain⟨gm,adP⟩:=t' hn ej;refine⟨us ha fW,?_,oh ha fW d ej⟩;rw[hJ,bw ?_,hu ha fW d ej];rcases Nat.lt_or_gt_of_ne af with h | h
       ·have:(ha+1)*k<=x*k:=im _ h;rw[hT]at this;omega
       have:(x+1)*k<=ha*k:=im _ h;rw[hT]at this;omega
      have rj:∀e∈es.set x (lS ds y ys),e.length=k:=by
       intro e he;rcases iq he with h | rfl
       ·exact hn e h
       rw[SF (by omega)];exact E8
      have:=b4.row (w:=w.setRow b cm) (ω:=ω) (fun q o=>o=.tok t ((i,j)::q)) k (es.set x (lS ds y ys)) b off cap cm jo (0,0) (fun ha fW=>cm.getD (off+ha*k+fW) undef) lX lT (by omega) (by omega) rj
       (fun x y d eN=>by obtain⟨u,h1,_⟩:=fw x y d eN;rw[h1];simp[e7,h1])
       (fun x y d eN=>by obtain⟨u,h1,U⟩:=fw x y d eN;have:cm.getD (off+x*k+y) undef=u:=(by simp[e7,h1]);rw[this];exact U)
      rw[hlen]at this;exact this
     refine⟨w.setRow b cm,?_,ω,τ,a6.Zv (yT:=yT) kF (fun _ _=>rfl) (fun c id ak e=>?_) (a6.below.setRow wX cm) ?_ o4.2 (Su o4 kF (fun _ _=>rfl) sj qe y6) sj qe qc⟩
     ·simp only[Instr.storeAt,Instr.sureAddr,Sem.run_bind,Sem.run_pure,Result.andThen_ok,storeVar,sizeOf,typeInfo,run_program,e2];have adz:¬(v.cells.size≠inf.size):=by simp;omega
      rw[bw adz];exact fm
     ·exact ak (a6.owned.lt (by rw[e];simp))
     intro c jS;obtain⟨aA,k1,lf,aJ⟩:=a6.owned c jS;by_cases Bt:c=b
     ·subst Bt;exact⟨aA,cm,jo,lX⟩
     exact⟨aA,k1,lf,(setRow_other w b c cm Bt).trans aJ⟩
   cases h
  cases h
 cases h
end Go.Sx
namespace Go.Sx
open Go.RowKit
variable{i:Nat}
theorem Sv{α:Type}{l:List α}{a:α}(h:l[i]?=some a):l.set i a=l:=by
 apply List.ext_getElem?;intro x;rw[pQ];by_cases af:i=x
 ·subst af;have:=(gk.1 h).1;rw[bn rfl,bn this,h]
 rw[bw af]
def MD(P:Program)(st:aC)(d:Nat)(iB:TypeId)(t i j k:Nat)(es:List (List D))(y:Operand)(ans:List cd):Stepped:=
 match rA P iB,F4 t st,ans with
 | some (e,ch),some (kT,esT),.el jP::fB=>
  match P.info? e,wJ t k (st.bq y) fB with
  | some inf,some (bX,none,wI,obs)=>
   match inf.zero with
   | some z=>
    if ch=k/\z.cells.size=k/\0<k then
     some (⟨(st.map (hL t i j k es kT esT)).env.set d (.one (.aN t i j k (es++bX) .mJ)),(st.map (hL t i j k es kT esT)).boxes⟩,wI,
      ((es.length+bX.length)*inf.bytes<=140737488355328)::(es.length+bX.length<=9223372036854775807)::(esT[i]?=some jP)::(jP[j]?=some (.J k es))::(((st.idx t j).map fun a=>a=i)++obs))
    else none
   | none=>none
  | _,_=>none
 | _,_,_=>none
def uL(P:Program)(iB:TypeId)(t i j k:Nat)(es esT:List (List D))(q:aI)(ans:List cd):Option (aI×List cd×List Prop):=
 match rA P iB,ans with
 | some (e,ch),.el jP::fB=>
  match P.info? e,wJ t k q fB with
  | some inf,some (bX,none,wI,obs)=>
   match inf.zero with
   | some z=>
    if ch=k/\z.cells.size=k/\0<k then
     some (.one (.aN t i j k (es++bX) .mJ),wI,
      ((es.length+bX.length)*inf.bytes<=140737488355328)::(es.length+bX.length<=9223372036854775807)::(esT[i]?=some jP)::(jP[j]?=some (.J k es))::obs)
    else none
   | none=>none
  | _,_=>none
 | _,_=>none
theorem cK.uL{P:Program}{w0:eR}{st:aC}{a:Act}{w:World}{ω:Own}{τ:Nat->Nat×Value}{d:Nat}{iB ty:TypeId}{t j k kT:Nat}{es esT:List (List D)}{x y:Operand}{p:aI}{ans cu:List cd}{obs:List Prop}
  (a6:cK w0 st a w ω τ) (hp:Sat w ω τ (.aN t i j k es .here) (a.eval x)) (h:Sx.uL P iB t i j k es esT (st.bq y) ans=some (p,cu,obs)) (a7:cQ obs)
  (o4:∃v,Sat w ω τ (.J (.own t) kT esT) v) (qc:∀a∈st.idx t j,a=i):
  ∃z aP,(Builtin.append_ #[iB,iB] ty #[a.eval x,a.eval y]).run P w=.ok z aP/\Rel w0 ⟨(st.map (hL t i j k es kT esT)).env.set d p,(st.map (hL t i j k es kT esT)).boxes⟩ (a.put (some d) z) aP:=by
 unfold Sx.uL at h;split at h
 ·rename_i e ch jP fB he;obtain⟨bG,h4,lo,zj⟩:=xn he;split at h
  ·rename_i inf bX wI zv hi jv;rw[lo]at hi;have qd:=gJ hi;subst qd;split at h
   ·rename_i z bd;split at h
    ·rename_i ak;obtain⟨rfl,nC,og⟩:=ak;simp only[aX,bK]at h;obtain⟨rfl,_,rfl⟩:=h;obtain⟨hl,h2,y6,JK,J5⟩:=a7;obtain⟨_,news,nB⟩:=SD (P:=P) og (a6.bq y) jv J5;obtain⟨yT,o4⟩:=o4;obtain⟨fH,sr,aD,hm⟩:=hp;have sj:=hm rfl;have sr:a.eval x=fH:=sr;rw[sr];generalize a.eval y=eV at nB;have E7:∀ha fW d,df bX ha fW=some d->∃u,news[ha*ch+fW]?=some u/\d=.v u/\u.oneCell'=true:=by
      intro ha fW d aE;obtain⟨u,h1,U⟩:=nB.cell ha fW d aE;rcases U with⟨v,rfl,rfl⟩ | ⟨s,ao,_⟩
      ·exact⟨u,h1,rfl,nB.one u (gb h1)⟩
      cases ao
     have fin:∀(w1:World) (bf:Own) (r:Value),(∀c,c<w.heap.size->ω c≠.tok t [(i,j)]->w1.heap[c]?=w.heap[c]?)->(∀c,c<w.heap.size->bf c=ω c)->(∀c id,¬c<w.heap.size->bf c≠.box id)->hd w0 w1->oM w0 w1 bf->
       b4 w1 bf (fun q o=>o=.tok t ((i,j)::q)) (.J ch es) fH->b4 w1 bf (fun q o=>o=.tok t ((i,j)::q)) (.J ch (es++bX)) r->
       Rel w0 ⟨(st.map (hL t i j ch es kT esT)).env.set d (.one (.aN t i j ch (es++bX) .mJ)),(st.map (hL t i j ch es kT esT)).boxes⟩ (a.put (some d) r) w1:=by
      intro w1 bf r kF dt KV lU mS qe fl;have RI:=Su o4 kF dt sj qe y6;rw[Sv JK,Sv y6]at RI;exact⟨bf,τ,(a6.Zv kF dt KV lU mS o4.2 RI sj qe qc).put (p:=.one (.aN t i j ch (es++bX) .mJ)) ⟨r,rfl,fl,fun bN=>by cases bN⟩⟩
     have JD:∀c id,¬c<w.heap.size->ω c≠.box id:=fun c id ak e=>ak (a6.owned.lt (by rw[e];simp))
     by_cases BF:bX.length=0
     ·have JP:bX=[]:=yA BF;subst JP;refine⟨fH,w,SC bG lo w ?_ ?_,fin w ω fH (fun _ _ _=>rfl) (fun _ _=>rfl) JD a6.below a6.owned aD (by rw[io];exact aD)⟩
      ·cases aD with
       | nil _ _ a0=>exact⟨a0,0,0,rfl,fg _⟩
       | row R k es b off cap arr ty cZ us aw ed ak ao hk hu aE=>exact⟨some ⟨b,off,none⟩,_,cap,rfl,ak⟩
      rcases nB.shape with⟨⟨a,h⟩,_⟩ | ⟨b,o,c,h,_⟩
      ·exact⟨a,0,h⟩
      exact⟨some ⟨b,o,none⟩,c,h⟩
     have sk:0<bX.length:=by omega
     rcases nB.shape with⟨_,h⟩ | ⟨bg,kQ,lG,rfl,jU⟩
     ·rw[h]at sk;simp at sk
     have grown:∀(w1:World) (cm:Array Value) (r:Value) (mL:Nat),hf w.heap.size w w1->w1.heap[w.heap.size]?=some (.cells cm e (0,0))->r=.slice (some ⟨w.heap.size,0,none⟩) (es.length+bX.length) mL->
       es.length+bX.length<=mL->mL*ch<=cm.size->(∀f' kH d,df es f' kH=some d->∃u,cm[f'*ch+kH]?=some u/\b4 w ω (fun q o=>o=.tok t ((i,j)::(f',kH)::q)) d u)->
       (∀x u,news[x]?=some u->cm[es.length*ch+x]?=some u)->(∀e∈es,e.length=ch)->
       Rel w0 ⟨(st.map (hL t i j ch es kT esT)).env.set d (.one (.aN t i j ch (es++bX) .mJ)),(st.map (hL t i j ch es kT esT)).boxes⟩ (a.put (some d) r) w1:=by
      intro w1 cm r mL lU ho J' fZ dM hold Fb wZ;subst J'
      let bf:Own:=fun c=>if c=w.heap.size then .tok t [(i,j)] else ω c
      have dt:∀c,c<w.heap.size->bf c=ω c:=fun c ak=>by simp only[bf];rw[bw (by omega)]
      have o5:bf w.heap.size=.tok t [(i,j)]:=by simp[bf]
      refine fin w1 bf _ (fun c ak _=>lU.block c ak) dt (fun c id ak=>?_) (a6.below.next lU) (fun b aw=>?_) (aD.frame fun c q ak aH=>⟨by rw[dt c ak];exact aH,lU.block c ak⟩) ?_
      ·simp only[bf];split
       ·simp
       exact JD c id ak
      ·by_cases y4:b=w.heap.size
       ·subst y4;exact⟨.inl a6.below.size,cm,e,ho⟩
       simp only[bf]at aw;rw[bw y4]at aw;obtain⟨aA,k1,lf,aJ⟩:=a6.owned b aw;exact⟨aA,k1,lf,(lU.block b (a6.owned.lt aw)).trans aJ⟩
      have fw:∀x kH d,df (es++bX) x kH=some d->∃u,cm[x*ch+kH]?=some u/\b4 w1 bf (fun q o=>o=.tok t ((i,j)::(x,kH)::q)) d u:=by
       intro x kH d aE;rw[Ct]at aE;split at aE
       ·obtain⟨u,h1,U⟩:=hold x kH d aE;exact⟨u,h1,U.frame fun c q ak aH=>⟨by rw[dt c ak];exact aH,lU.block c ak⟩⟩
       rename_i af;obtain⟨u,h1,rfl,U⟩:=E7 _ _ _ aE;refine⟨u,?_,.v _ _ U⟩;rw[<-Fb _ u h1]
       congr 1
       have:x=es.length+(x-es.length):=by omega
       rw[this,hT];simp only[Nat.add_sub_cancel_left];omega
      have hlen:(es++bX).length=es.length+bX.length:=hs;have rj:∀e∈es++bX,e.length=ch:=by
       intro e' he;rcases ia.1 he with h | h
       ·exact wZ e' h
       exact nB.rows e' h
      have:=b4.row (w:=w1) (ω:=bf) (fun q o=>o=.tok t ((i,j)::q)) ch (es++bX) w.heap.size 0 mL cm e (0,0) (fun x j=>cm.getD (x*ch+j) undef) ho o5 (by omega) (by omega) rj
       (fun x j d aE=>by obtain⟨u,h1,_⟩:=fw x j d aE;rw[dV,h1];simp[e7,h1])
       (fun x j d aE=>by obtain⟨u,h1,U⟩:=fw x j d aE;have:cm.getD (x*ch+j) undef=u:=(by simp[e7,h1]);rw[this];exact U)
      rw[hlen]at this;exact this
     subst zj;have rh:=aD;cases aD with
     | nil _ _ a0=>
      simp only[et,dV]at hl h2;have fN:(Builtin.append_ #[iB,iB] ty #[.slice a0 0 0,.slice (some ⟨bg,kQ,none⟩) bX.length lG]).run P w=
        .ok (.slice (some ⟨w.heap.size,0,none⟩) bX.length (grownCap w bX.length 0 e)) (w.drew.alloc (.cells (news.toArray++Builtin.zeroCells z.cells (grownCap w bX.length 0 e-bX.length)) e)):=by
       cases a0 with
       | none=>exact run_append_nil (P:=P) w iB ty e h4 z bG lo bd ⟨bg,kQ,none⟩ bX.length lG news nB.len jU sk (by omega) (by omega)
       | some b6=>
        have:=run_append_grow (P:=P) w iB ty e h4 z bG lo bd b6 0 0 [] (by simp) (fun j v bI=>by simp at bI) ⟨bg,kQ,none⟩ bX.length lG news nB.len jU (by omega) (by omega) (growslice_fits (by omega) (by simpa using hl));simpa using this
      have qa:=grownCap_ge w bX.length 0 e;exact⟨_,_,fN,grown _ (news.toArray++Builtin.zeroCells z.cells (grownCap w bX.length 0 e-bX.length)) (.slice (some ⟨w.heap.size,0,none⟩) bX.length (grownCap w bX.length 0 e)) (grownCap w bX.length 0 e)
       (((hf.refl _ _).drew).alloc (fg _) _) (ot _ _) (by simp) (by simpa using qa) (by
        simp only[uH,pP,size_zeroCells,nB.len,nC,<-hT];exact im _ (by omega))
       (fun f' j d aE=>by simp[df]at aE) (fun x u af=>by
        simp only[et,Nat.zero_mul,dV];rw[kc,bn (by have:=(gk.1 af).1;simpa using this)];simpa using af) (fun e he=>by cases he)⟩
     | row R k es b off cap arr jo cZ us aw ed ak ao hn hu aE=>
      have lT:ω b=.tok t [(i,j)]:=ed;obtain⟨wX,uM,wi,ih⟩:=a6.owned b (by rw[lT];simp);rw[aw]at ih;simp only[aX,Obj.cells.injEq]at ih;obtain⟨rfl,rfl,rfl⟩:=ih;have wT:b<w.heap.size:=(kf.1 aw).1;by_cases o3:es.length+bX.length<=cap
      ·have hmul:(es.length+bX.length)*h4.size<=cap*h4.size:=im _ o3;rw[hT]at hmul;have ve:=nB.len;have er:off+es.length*h4.size+news.length<=arr.size:=by omega
       have fN:=FQ (P:=P) (ty:=ty) bG lo w b off es.length cap arr jo aw ⟨bg,kQ,none⟩ bX.length lG news nB.len jU nB.one o3 er;generalize p9:(arr.toList.take (off+es.length*h4.size)++news++arr.toList.drop (off+es.length*h4.size+news.length)).toArray=cm at fN;have hJ:∀x:Nat,cm[x]?=if off+es.length*h4.size<=x/\x<off+es.length*h4.size+news.length then news[x-(off+es.length*h4.size)]? else arr[x]?:=by
        intro x;rw[<-p9,pO,Cr (by simpa using er)];simp
       have zk:cm.size=arr.size:=by rw[<-p9];simp;omega
       have lX:=setRow_heap w b arr cm jo (0,0) aw;have kF:∀c,c<w.heap.size->ω c≠.tok t [(i,j)]->(w.setRow b cm).heap[c]?=w.heap[c]?:=fun c _ ak=>setRow_other w b c cm fun e=>ak (by rw[e];exact lT)
       have oh:∀ha fW d u,b4 w ω (fun q o=>o=.tok t ((i,j)::(ha,fW)::q)) d u->b4 (w.setRow b cm) ω (fun q o=>o=.tok t ((i,j)::(ha,fW)::q)) d u:=by
        intro ha fW d u q4;refine q4.frame fun c q ak fe=>⟨fe,kF c ak fun e=>?_⟩
        rw[e]at fe;simp at fe
       refine⟨_,_,fN,fin (w.setRow b cm) ω _ kF (fun _ _=>rfl) JD (a6.below.setRow wX cm) (fun c jS=>?_) (b4.Zq rh aw lX zk (fun x af=>by rw[hJ,bw (by omega)]) (fun o e a7=>by rw[<-e];exact a7) (fun c p q ak aH=>⟨aH,kF c ak fun e=>by rw[e]at aH;simp at aH⟩)) ?_⟩
       ·obtain⟨aA,k1,lf,aJ⟩:=a6.owned c jS;by_cases Bt:c=b
        ·subst Bt;exact⟨aA,cm,jo,lX⟩
        exact⟨aA,k1,lf,(setRow_other w b c cm Bt).trans aJ⟩
       have fw:∀x kH d,df (es++bX) x kH=some d->∃u,cm[off+x*h4.size+kH]?=some u/\b4 (w.setRow b cm) ω (fun q o=>o=.tok t ((i,j)::(x,kH)::q)) d u:=by
        intro x kH d ej;rw[Ct]at ej;split at ej
        ·rename_i af;have BD:=(t' hn ej).2;refine⟨us x kH,?_,oh x kH d _ (aE x kH d ej)⟩;have:(x+1)*h4.size<=es.length*h4.size:=im _ af;rw[hT]at this;rw[hJ,bw (by omega),hu x kH d ej]
        rename_i af;obtain⟨u,h1,rfl,U⟩:=E7 _ _ _ ej;have adN:=(gk.1 h1).1;have zl:x*h4.size=es.length*h4.size+(x-es.length)*h4.size:=by rw[<-hT];congr 1;omega
        refine⟨u,?_,.v _ _ U⟩;rw[hJ,bn (by omega),<-h1]
        congr 1
        omega
       have hlen:(es++bX).length=es.length+bX.length:=hs;have rj:∀e∈es++bX,e.length=h4.size:=by
        intro e' he;rcases ia.1 he with h | h
        ·exact hn e' h
        exact nB.rows e' h
       have:=b4.row (w:=w.setRow b cm) (ω:=ω) (fun q o=>o=.tok t ((i,j)::q)) h4.size (es++bX) b off cap cm jo (0,0) (fun x j=>cm.getD (off+x*h4.size+j) undef) lX lT (by omega) (by omega) rj
        (fun x j d aE=>by obtain⟨u,h1,_⟩:=fw x j d aE;rw[h1];simp[e7,h1])
        (fun x j d aE=>by obtain⟨u,h1,U⟩:=fw x j d aE;have:cm.getD (off+x*h4.size+j) undef=u:=(by simp[e7,h1]);rw[this];exact U)
       rw[hlen]at this;exact this
      have hmul:es.length*h4.size<=cap*h4.size:=im _ ak;have so:((arr.toList.drop off).take (es.length*h4.size)).length=es.length*h4.size:=by simp;omega
      have fN:=run_append_grow (P:=P) w iB ty e h4 z bG lo bd ⟨b,off,none⟩ es.length cap ((arr.toList.drop off).take (es.length*h4.size)) so (fun j v bI=>by
       rw[rK,cell_of_row w b (off+j) arr jo (0,0) aw];rw[kb]at bI;split at bI
       ·rw[lJ]at bI;simpa using bI
       cases bI) ⟨bg,kQ,none⟩ bX.length lG news nB.len jU (by omega) (by omega) (growslice_fits (by omega) hl)
      have qa:=grownCap_ge w (es.length+bX.length) cap e;exact⟨_,_,fN,grown _ (((arr.toList.drop off).take (es.length*h4.size)).toArray++news.toArray++Builtin.zeroCells z.cells (grownCap w (es.length+bX.length) cap e-(es.length+bX.length))) _ (grownCap w (es.length+bX.length) cap e)
       (((hf.refl _ _).drew).alloc (fg _) _) (ot _ _) rfl qa (by
        simp only[uH,pP,size_zeroCells,nB.len,nC,so,<-hT];exact im _ (by omega))
       (fun f' j d eN=>by
        obtain⟨za,eE⟩:=t' hn eN;have:(f'+1)*h4.size<=es.length*h4.size:=im _ za;rw[hT]at this;refine⟨us f' j,?_,aE f' j d eN⟩;rw[kc,bn (by simp only[uH,pP,so];omega),kc,bn (by simp only[pP,so];omega)];rw[pO,kb,bn (by omega),lJ,<-hu f' j d eN];simp only[mD]
        congr 1
        omega)
       (fun x u af=>by
        have gm:=(gk.1 af).1;rw[kc,bn (by simp only[uH,pP,so];omega),kc,bw (by simp only[pP,so];omega)];simp only[pP,so,pO];rw[<-af]
        congr 1
        omega) hn⟩
    cases h
   cases h
  cases h
 cases h
theorem cK.abu{P:Program}{w0:eR}{st bz:aC}{a:Act}{w:World}{ω:Own}{τ:Nat->Nat×Value}{d:Nat}{iB ty:TypeId}{t j k:Nat}{es:List (List D)}{x y:Operand}{ans cu:List cd}{obs:List Prop}
  (a6:cK w0 st a w ω τ) (hp:Sat w ω τ (.aN t i j k es .here) (a.eval x)) (h:MD P st d iB t i j k es y ans=some (bz,cu,obs)) (a7:cQ obs):
  ∃z aP,(Builtin.append_ #[iB,iB] ty #[a.eval x,a.eval y]).run P w=.ok z aP/\Rel w0 bz (a.put (some d) z) aP:=by
 unfold MD at h;split at h
 ·rename_i e ch kT esT jP fB he adp;split at h
  ·rename_i inf bX wI zv hi jv;split at h
   ·rename_i z bd;split at h
    ·rename_i ak;simp only[aX,bK]at h;obtain⟨rfl,rfl,rfl⟩:=h;obtain⟨hl,h2,y6,JK,J5⟩:=a7;obtain⟨qc,ac9⟩:=J5.append;refine a6.uL (p:=.one (.aN t i j k (es++bX) .mJ)) (ans:=.el jP::fB) (cu:=wI) (esT:=esT) (kT:=kT) hp ?_ (obs:=((es.length+bX.length)*inf.bytes<=140737488355328)::(es.length+bX.length<=9223372036854775807)::(esT[i]?=some jP)::(jP[j]?=some (.J k es))::zv) ⟨hl,h2,y6,JK,ac9⟩ (a6.root adp) (FT qc);unfold Sx.uL;simp only[he,hi,jv,bd];rw[bn ak]
    cases h
   cases h
  cases h
 cases h
