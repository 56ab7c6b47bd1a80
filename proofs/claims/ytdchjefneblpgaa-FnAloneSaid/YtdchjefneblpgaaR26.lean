import Derived.Test.YtdchjefneblpgaaR11
set_option linter.unusedVariables false
set_option linter.unusedSimpArgs false
namespace Go.Sx
open Go.RowKit
def zt(P:Program)(st:aG)(d:Nat)(elem:TypeId)(r:List bI):Stepped:=
 match P.info? elem with
 | some i=>match i.zero with
  | some z=>if d<cy then some (⟨(st.ho d []).env.set d (.one (.ef d (z.cells.toList.map .v))),(st.ho d []).boxes⟩,r,[]) else none
  | none=>none
 | none=>none
variable{w0:dC}{st a6:aG}{a:Act}{w:World}{ω:Own}{τ:Nat->Nat×Value}{d:Nat}{ans bN:List bI}{obs:List Prop}
theorem b1.OH{P:Program}{elem:TypeId}(aI:b1 w0 st a w ω τ)
  (h:zt P st d elem ans=some (a6,bN,obs)):
  ∃z aD,(Instr.alloc elem true (.tuple #[])).run P w=.ok z aD/\Rel w0 a6 (a.put (some d) z) aD:=by
 unfold zt at h;split at h
 ·rename_i i hi;split at h
  ·rename_i z aL;split at h
   ·rename_i ay;simp only[aH,a']at h;obtain⟨rfl,_,_⟩:=h;have J:=aI.ho d ay [] (k:=0) (cap:=0) (es:=[]) (arr:=z.cells) (ty:=elem) ((e9.refl _ _).alloc (fF _) (.cells z.cells elem)) (kQ _ _) (fF _) (by simp) (by simp)
     (by grind[cq])
    refine⟨.pointer (some ⟨w.heap.size,0,none⟩),w.alloc (.cells z.cells elem),by simp_all[Instr.alloc,zeroValue,typeInfo,newVar,newRow],_,_,J.1.put (p:=.one (.ef d (z.cells.toList.map .v))) ?_⟩;refine⟨w.heap.size,elem,z.cells,rfl,by simp[mi],kQ _ _,by simp,fun j c ai=>?_⟩;rw[dG,bF]at ai;obtain⟨u,hu,rfl⟩:=ai;exact⟨u,by grind,rfl⟩
   cases h
  cases h
 cases h
def eb(t:Nat):Tag->Option Tag
 | .free=>some .free
 | .own s=>if s=t then none else some (.own s)
 | .ro s=>if s=t then none else some (.ro s)
variable{o:cx}
theorem zu{t:Nat}{g dg:Tag}{q:List (Nat×Nat)}(h:eb t g=some dg)(ar:g.R q o):dg=g/\∀c5,o≠.tok t c5:=by
 cases g with
 | free=>simp_all[eb,aH,Tag.R]
 | own s=>
  simp_all[eb,aH,Tag.R,cx.tok.injEq]
 | ro s=>
  simp only[eb]at h;split at h
  ·cases h
  rename_i ad;simp only[aH]at h;subst h;simp only[Tag.R]at ar;grind
variable{s:Nat}
theorem C9{x:Value}(this:a.tmps[s]?=some x):a.put (some s) x=a:=by
 simp only[Act.put];have:a.tmps.setIfInBounds s x=a.tmps:=by
  grind
 rw[this]
def aq.j4:aq->dR
 | .v x=>.v x
 | .bP c=>.v (.bool c)
 | .aa t k es=>.aa t k es
 | _=>.b5
def CX(p:az):Option (List dR):=p.leaves.map (·.map aq.j4)
theorem aq.Iu{l:aq}{y:Value}(h:Sat w ω τ l y):n1 w ω τ l.j4 y:=by
 cases l<;>first | exact h | exact trivial
def dR.leaf:dR->aq
 | .b5=>.b5
 | .v x=>.v x
 | .aa t k es=>.aa t k es
theorem dR.cW{τ:Nat->Nat×Value}{c:dR}{y:Value}(h:n1 w ω τ c y):Sat w ω τ c.leaf y:=by
 cases c<;>exact h
def zv(P:Program)(st:aG)(ty:TypeId)(s:Nat)(q:az)(ans:List bI):Stepped:=
 match (st.env.getD s .b5).leaf,CX q,P.info? ty with
 | some (.ef t vs),some cs,some i=>
  if cs.length=i.size/\cs.length<=vs.length then
   let lH:=st.map (aq.b3 (eb t) fun _=>true)
   some (⟨lH.env.set s (.one (.ef t ((cs++vs.drop cs.length).map (dR.b3 (eb t))))),lH.boxes⟩,ans,[])
  else none
 | _,_,_=>none
theorem b1.adX{P:Program}{ty:TypeId}{q:az}{v:Value}
  (aI:b1 w0 st a w ω τ) (aw:cd (Sat w ω τ) q v) (h:zv P st ty s q ans=some (a6,bN,obs)):
  ∃aD,(Instr.storeAt ty (a.eval (.tmp s)) v).run P w=.ok () aD/\Rel w0 a6 a aD:=by
 unfold zv at h;split at h
 ·rename_i t vs cs i aK aO b2;split at h
  ·rename_i ai;obtain⟨bK,cL⟩:=ai;simp only[aH,a']at h;obtain⟨rfl,_,_⟩:=h;unfold CX at aO;rw[bF]at aO;obtain⟨ls,aO,rfl⟩:=aO;obtain⟨rT,nh⟩:=az.tH aO aw;have dN:v.cells.size=ls.length:=rT.1;rw[br]at bK cL;have gr:st.env[s]?=some (.one (.ef t vs)):=by
    rw[jz]at aK;cases e:st.env[s]? with
    | none=>grind[az.leaf]
    | some p=>
     rw[e]at aK;simp only[kh]at aK;cases p with
     | fD as=>cases aK
     | aN x=>
      cases x with
      | agg ls=>cases aK
      | one l=>grind[az.leaf,aH]
   obtain⟨y,a7,dJ⟩:=aI.env s _ gr;obtain⟨b,gB,arr,rfl,ah,tv,QU,qA⟩:=dJ;have oa:a.eval (.tmp s)=ptrTo b:=by simp_all[Act.eval]
   have ek:=run_storeCells_at P b 0 gB v.cells.toList 0 arr w tv (by simp;omega) nh;obtain⟨bJ,lY⟩:∃bJ,bJ=(arr.toList.take (0+0)++v.cells.toList++arr.toList.drop (0+0+v.cells.toList.length)).toArray:=⟨_,rfl⟩
   rw[<-lY]at ek;have Po:bJ=(v.cells.toList++arr.toList.drop v.cells.size).toArray:=by grind
   refine⟨w.setRow b bJ,?_,?_⟩
   ·rw[oa];simp only[ptrTo,Instr.storeAt,Instr.sureAddr,Sem.run_bind,Sem.run_pure,Result.andThen_ok,storeVar,sizeOf,typeInfo,run_program,b2];grind
   have ie:=setRow_heap w b arr bJ gB (0,0) tv;have aW:jD w ω τ (w.setRow b bJ) ω τ (eb t) (fun _=>true):=by
    refine⟨?_,?_,fun id c _ ai=>ai,rfl,fun _ _=>rfl⟩
    ·intro g dg c q ag _ aw;obtain⟨rfl,vD⟩:=zu ag aw;grind[setRow_other]
    intro g dg y ag a7;cases g with
    | free=>simp_all[eb,aH,trivial]
    | own x=>
     grind[eb,aH]
    | ro x=>
     simp_all[eb,aH,trivial]
   have J:b1 w0 (st.map (aq.b3 (eb t) fun _=>true)) a (w.setRow b bJ) ω τ:=by
    refine aI.dE _ aW.sat (aI.below.setRow (aI.owned b (by rw[ah];simp)).1 _) ?_ (fun id c ai=>⟨ai,setRow_other w b c _ fun e=>by grind⟩) (fun id c ai=>ai) (fun _ _=>rfl);intro c ai;obtain⟨J,hD,hO,U⟩:=aI.owned c ai;grind[setRow_other]
   have Ht:bJ.size=(ls.map aq.j4++vs.drop (ls.map aq.j4).length).length/\∀(j:Nat) (c:dR),(ls.map aq.j4++vs.drop (ls.map aq.j4).length)[j]?=some c->∃u,bJ[j]?=some u/\n1 w ω τ c u:=by
    refine⟨by grind,fun j c ai=>?_⟩;rw[Po,lI];by_cases aU:j<ls.length
    ·rw[Ax (by grind),dG,bF]at ai;obtain⟨l,ak,rfl⟩:=ai;obtain⟨u,fe,er⟩:=rT.2 j l ak;grind[aq.Iu]
    grind
   have B2:=yA aW.j4 Ht.1 Ht.2;have U:=J.put (d:=s) (p:=.one (.ef t ((ls.map aq.j4++vs.drop (ls.map aq.j4).length).map (dR.b3 (eb t))))) (v:=ptrTo b) ⟨b,gB,bJ,rfl,ah,ie,B2⟩;rw[C9 a7]at U;exact⟨ω,τ,U⟩
  cases h
 cases h
def C1(st:aG)(d:Nat):Option aG:=
 match st.env.getD d .b5 with
 | .aN (.one (.ef t vs))=>
  if d<cy then some ⟨(st.env.map (az.map (aq.b3 (eb t) (hL d)))).set d (.one (.ptr d 0)),(d,vs.map fun c=>aq.b3 (eb t) (hL d) c.leaf)::(mg d st.boxes).map fun x=>(x.1,x.2.map (aq.b3 (eb t) (hL d)))⟩ else none
 | _=>none
theorem Rz(h:Rel w0 st a w)(aR:C1 st d=some a6):Rel w0 a6 a w:=by
 obtain⟨ω,τ,h⟩:=h;unfold C1 at aR;split at aR
 ·rename_i t vs he;split at aR
  case isFalse=>cases aR
  rename_i qs;simp only[aH]at aR;subst aR;have gr:st.env[d]?=some (.one (.ef t vs)):=by
   grind
  obtain⟨v,qz,pB⟩:=h.env d _ gr;obtain⟨b,ty,arr,rfl,ah,tv,QU,qA⟩:=pB
  let aP:Own:=fun c=>if c=b then .box d else match ω c with | .box i=>if i=d then .bc else .box i | o=>o
  have ll:aP b=.box d:=by simp[aP]
  have gS:∀c,c≠b->aP c=(match ω c with | .box i=>if i=d then .bc else .box i | o=>o):=by
   grind
  have aW:jD w ω τ w aP τ (eb t) (hL d):=by
   refine⟨?_,?_,?_,rfl,fun _ _=>rfl⟩
   ·intro g dg c q ag _ aw;obtain⟨rfl,vD⟩:=zu ag aw;have gJ:c≠b:=fun e=>vD [] (by grind)
    refine⟨?_,rfl⟩;rw[gS c gJ];cases dg with
    | free=>grind[Tag.R]
    | own s=>grind[Tag.R]
    | ro s=>
     simp only[Tag.R]at aw ⊢;grind
   ·intro g dg y ag a7;cases g with
    | free=>simp_all[eb,aH,trivial]
    | own s=>
     grind[eb,aH]
    | ro s=>
     simp_all[eb,aH,trivial]
   intro i c hp ai;have gJ:c≠b:=fun e=>by grind
   simp_all[hL,cF]
  have nj:k5 w0 w aP:=by
   intro c ai;by_cases e:c=b
   ·subst e;exact h.owned c (by rw[ah];simp)
   rw[gS c e]at ai;exact h.owned c (fun e'=>by grind)
  have key:=h.A3 (bs:=(d,vs.map fun c=>aq.b3 (eb t) (hL d) c.leaf)::(mg d st.boxes).map fun x=>(x.1,x.2.map (aq.b3 (eb t) (hL d)))) aW h.below nj ?_ (fun i c hi ai=>by
   grind)
  ·have:=key.put (d:=d) (p:=.one (.ptr d 0)) (v:=ptrTo b) ⟨b,ll,rfl⟩;rw[C9 qz]at this;exact⟨aP,τ,this⟩
  intro i ej ak;simp only[cM]at ak;split at ak
  ·rename_i hi;subst hi;have e:=e0 ak;subst e;refine⟨b,arr,ty,ll,?_,tv,by grind,fun j l aU=>?_⟩
   ·grind
   rw[dG,bF]at aU;obtain⟨c,ai,rfl⟩:=aU;obtain⟨u,fe,er⟩:=qA j c ai;exact⟨u,fe,aW.sat _ _ (dR.cW er)⟩
  rename_i hi;rw[pR,bF]at ak;obtain⟨hn,bX,rfl⟩:=ak;have cl:i≠d:=fun e=>hi e.symm
  rw[tW cl]at bX;obtain⟨c,bJ,nX,ai,hu,bq,dJ⟩:=h.boxes i hn bX;refine⟨c,bJ,nX,aW.box i c (by grind[hL]) ai,?_,bq,dJ.map aW.sat⟩;grind
 cases aR
def AR(st:aG)(d:Nat):Option aG:=
 match st.env.getD d .b5,cM d st.boxes with
 | .aN (.one (.ptr cN 0)),some ls=>
  if cN=d/\d<cy then some ⟨(st.env.map (az.map (aq.b3 (eb d) (hL d)))).set d (.one (.ef d ((ls.map aq.j4).map (dR.b3 (eb d))))),(mg d st.boxes).map fun x=>(x.1,x.2.map (aq.b3 (eb d) (hL d)))⟩ else none
 | _,_=>none
theorem RA(h:Rel w0 st a w)(aR:AR st d=some a6):Rel w0 a6 a w:=by
 obtain⟨ω,τ,h⟩:=h;unfold AR at aR;split at aR
 ·rename_i cN ls he cA;split at aR
  case isFalse=>cases aR
  rename_i qs;obtain⟨rfl,qs⟩:=qs;simp only[aH]at aR;subst aR;have gr:st.env[cN]?=some (.one (.ptr cN 0)):=by
   grind
  obtain⟨v,qz,pB⟩:=h.env cN _ gr;obtain⟨cm,ga,rfl⟩:=pB;obtain⟨b,arr,ty,ah,Pu,tv,rT⟩:=h.boxes cN ls cA;have Bs:cm=b:=Pu cm ga;subst Bs
  let aP:Own:=fun c=>if c=cm then .tok cN [] else match ω c with | .tok s q=>if s=cN then .bc else .tok s q | o=>o
  have ll:aP cm=.tok cN []:=by simp[aP]
  have gS:∀c,c≠cm->aP c=(match ω c with | .tok s q=>if s=cN then .bc else .tok s q | o=>o):=by
   grind
  have aW:jD w ω τ w aP τ (eb cN) (hL cN):=by
   refine⟨?_,?_,?_,rfl,fun _ _=>rfl⟩
   ·intro g dg c q ag _ aw;obtain⟨rfl,vD⟩:=zu ag aw;have gJ:c≠cm:=fun e=>by
     rw[e,ah]at aw;cases dg with
     | free=>cases aw
     | own s=>cases aw
     | ro s=>
      rcases aw with aw | ⟨c5,aw⟩
      ·cases aw
      cases aw
    grind
   ·intro g dg y ag a7;cases g with
    | free=>simp_all[eb,aH,trivial]
    | own s=>
     grind[eb,aH]
    | ro s=>
     simp_all[eb,aH,trivial]
   intro i c hp ai;simp only[hL,cF]at hp;grind
  have nj:k5 w0 w aP:=by
   intro c ai;by_cases e:c=cm
   ·subst e;exact h.owned c (by rw[ah];simp)
   rw[gS c e]at ai;exact h.owned c (fun e'=>by grind)
  have Hp:∀i c,aP c=.box i->ω c=.box i/\c≠cm:=by
   grind
  have key:=h.A3 (bs:=(mg cN st.boxes).map fun x=>(x.1,x.2.map (aq.b3 (eb cN) (hL cN)))) aW h.below nj ?_ (fun i c _ ai=>(Hp i c ai).1)
  ·have:=key.put (d:=cN) (p:=.one (.ef cN ((ls.map aq.j4).map (dR.b3 (eb cN))))) (v:=ptrTo cm) ⟨cm,ty,arr,rfl,ll,tv,yA aW.j4 (by rw[rT.1];simp) (fun j c ai=>by
    rw[dG,bF]at ai;obtain⟨l,ak,rfl⟩:=ai;obtain⟨u,fe,er⟩:=rT.2 j l ak;grind[aq.Iu])⟩
   rw[C9 (show a.tmps[cN]?=some (ptrTo cm) from qz)]at this;exact⟨aP,τ,this⟩
  intro i ej ak;rw[pR,bF]at ak;obtain⟨hn,bX,rfl⟩:=ak;have cl:i≠cN:=fun e=>by grind[DJ]
  rw[tW cl]at bX;obtain⟨c,bJ,nX,ai,hu,bq,dJ⟩:=h.boxes i hn bX;exact⟨c,bJ,nX,aW.box i c (by grind[hL]) ai,fun cH dv=>hu cH (Hp i cH dv).1,bq,dJ.map aW.sat⟩
 cases aR
def wq:List Nat->aG->Option aG
 | [],st=>some st
 | d::ds,st=>(AR st d).bind (wq ds)
theorem I9:∀{ds:List Nat} {st a6:aG},Rel w0 st a w->wq ds st=some a6->Rel w0 a6 a w
 | [],st,a6,h,aR=>by grind[wq,aH]
 | d::ds,st,a6,h,aR=>by
  simp only[wq,jT]at aR;obtain⟨c0,J,U⟩:=aR;exact I9 (RA h J) U
def wu:List Nat->aG->Option aG
 | [],st=>some st
 | d::ds,st=>(C1 st d).bind (wu ds)
theorem I':∀{ds:List Nat} {st a6:aG},Rel w0 st a w->wu ds st=some a6->Rel w0 a6 a w
 | [],st,a6,h,aR=>by grind[wu,aH]
 | d::ds,st,a6,h,aR=>by
  simp only[wu,jT]at aR;obtain⟨c0,J,U⟩:=aR;exact I' (Rz h J) U
def ik(s n:Nat):Tag->Option Tag
 | .own x=>if x=s then some (.ro n) else if x=n then none else some (.own x)
 | .ro x=>if x=s then some (.ro n) else if x=n then none else some (.ro x)
 | .free=>some .free
def hJ(s n l:Nat):cx->cx
 | .tok x q=>if x=s then (match q with | []=>.tok n [] | (i,j)::r=>if i<l then .bc else .tok n ((i-l,j)::r)) else if x=n then .bc else .tok x q
 | o=>o
variable{l n:Nat}
theorem C'(h:hJ s n l o≠.bc):o≠.bc:=by rintro rfl;exact h rfl
theorem qS{id:Nat}:hJ s n l o=.box id<->o=.box id:=by
 cases o with
 | bc=>simp[hJ]
 | box i=>simp[hJ]
 | tok x q=>
  simp only[hJ];grind
theorem Ja{q:List (Nat×Nat)}:hJ s n l (.tok s q)=.bc\/∃c5,hJ s n l (.tok s q)=.tok n c5:=by
 simp only[hJ,fZ];grind
theorem Da{k:Nat}{z:Value}(gU:n<cy):jD w ω τ w (fun b=>hJ s n l (ω b)) (eZ τ n k z) (ik s n) (fun _=>true):=by
 refine⟨?_,?_,?_,rfl,fun t bH=>by simp only[eZ];grind⟩
 ·intro g dg b q ag _ aw;refine⟨?_,rfl⟩;cases g with
  | free=>simp only[ik,aH]at ag;subst ag;simp only[Tag.R]at aw ⊢;rw[aw];rfl
  | own x=>
   simp only[ik]at ag;simp only[Tag.R]at aw;split at ag
   ·grind[aH,Tag.R,Ja]
   rename_i ad;split at ag
   ·cases ag
   rename_i aR;simp only[aH]at ag;subst ag;simp_all[Tag.R,hJ,aZ]
  | ro x=>
   simp only[ik]at ag;simp only[Tag.R]at aw;split at ag
   ·rename_i ad;simp only[aH]at ag;subst ag;subst ad;rcases aw with aw | ⟨c5,aw⟩
    ·rw[aw];exact .inl rfl
    rw[aw];exact Ja
   rename_i ad;split at ag
   ·cases ag
   rename_i aR;simp only[aH]at ag;subst ag;rcases aw with aw | ⟨c5,aw⟩
   ·rw[aw];exact .inl rfl
   rw[aw];simp only[hJ,aZ ad,aZ aR];exact .inr ⟨c5,rfl⟩
 ·intro g dg y ag a7;cases g with
  | free=>simp only[ik,aH]at ag;subst ag;trivial
  | own x=>
   simp only[ik]at ag;split at ag
   ·simp only[aH]at ag;subst ag;trivial
   rename_i ad;split at ag
   ·cases ag
   rename_i aR;simp only[aH]at ag;subst ag;simp_all[Tag.de,eZ,aZ]
  | ro x=>
   simp only[ik]at ag;split at ag
   ·simp only[aH]at ag;subst ag;trivial
   split at ag
   ·cases ag
   simp only[aH]at ag;subst ag;trivial
 intro id b _ ah;exact qS.2 ah
def lx(s d:Nat):Nat:=if s<cy then s else d
def uG(P:Program)(st:aG)(d:Nat)(t:TypeId)(p:az)(cp hi gV:Option Operand)(ans:List bI):Stepped:=
 match nP P t,p.leaf,gV with
 | some (_,k),some (.aa (.own s) bS es),none=>
  if k=bS/\lx s d<cy then
   match jO st cp,jO st hi with
   | some l,some h=>
    let lH:=st.map (aq.b3 (ik s (lx s d)) fun _=>true)
    some (⟨lH.env.set d (.one (.aa (.own (lx s d)) k ((es.drop (l.getD 0).toNat).take ((h.getD es.length).toNat-(l.getD 0).toNat)))),lH.boxes⟩,ans,[0<=l.getD 0,l.getD 0<=h.getD es.length,h.getD es.length<=es.length])
   | _,_=>none
  else none
 | _,_,_=>none
theorem b1.uG{P:Program}{t:TypeId}{p:az}{v:Value}{cp hi gV:Option Operand}
  (aI:b1 w0 st a w ω τ) (hp:cd (Sat w ω τ) p v) (h:uG P st d t p cp hi gV ans=some (a6,bN,obs)) (aM:cn obs):
  ∃z,(Instr.sliceAt t v (cp.map a.eval) (hi.map a.eval) (gV.map a.eval)).run P w=.ok z w/\Rel w0 a6 (a.put (some d) z) w:=by
 unfold Go.Sx.uG at h;split at h
 ·rename_i e k s bS es aK aO;split at h
  ·rename_i aT;obtain⟨rfl,ad⟩:=aT;split at h
   ·rename_i l bq b2 eY;simp only[aH,a']at h;obtain⟨rfl,_,rfl⟩:=h;obtain⟨hu,i,kD,aL⟩:=ss aK;obtain⟨ar,_⟩:=az.cW aO hp;obtain⟨cu,cc,c7,_⟩:=aM;have ax:=wQ aI b2;have aJ:=wQ aI eY;have na:(cp.map a.eval=none/\l.getD 0=0)\/∃k,cp.map a.eval=some (.int k (l.getD 0)):=by
     grind
    have ps:(hi.map a.eval=none/\bq.getD es.length=es.length)\/∃k,hi.map a.eval=some (.int k (bq.getD es.length)):=by
     grind
    have key:∀(L m:Nat) (z:Value),L<=m->bA w (fun b=>hJ s (lx s d) L (ω b)) (Tag.own (lx s d)).R (.aa k ((es.drop L).take (m-L))) z->
      Rel w0 ⟨(st.map (aq.b3 (ik s (lx s d)) fun _=>true)).env.set d (.one (.aa (.own (lx s d)) k ((es.drop L).take (m-L)))),(st.map (aq.b3 (ik s (lx s d)) fun _=>true)).boxes⟩ (a.put (some d) z) w:=by
     intro L m z _ yb;have J:b1 w0 (st.map (aq.b3 (ik s (lx s d)) fun _=>true)) a w (fun b=>hJ s (lx s d) L (ω b)) (eZ τ (lx s d) k z):=
      aI.dE _ (Da (by omega)).sat aI.below (fun b ah=>aI.owned b (C' ah)) (fun id b ah=>⟨qS.2 ah,rfl⟩) (fun id b ah=>qS.1 ah)
       (fun t bH=>by simp only[eZ];grind)
     exact⟨_,_,J.put (p:=.one (.aa (.own (lx s d)) k ((es.drop L).take (m-L)))) ⟨yb,by simp[Tag.de,eZ]⟩⟩
    cases ar with
    | nil _ _ a0=>
     simp only[bG] at*;have b8:l.getD 0=0:=by omega
     have OX:bq.getD ((0:Nat):Int)=0:=by omega
     refine⟨.slice a0 0 0,?_,?_⟩
     ·simp only[Instr.sliceAt,Sem.run_bind,run_underlying hu,Result.andThen_ok,Instr.slice,Option.map_none];rw[wP na ps cu cc c7];simp_all[sizeOf,typeInfo]
     refine key _ _ _ (by omega) ?_;simp only[List.drop_nil,List.take_nil];exact .nil _ _ _
    | row R k es b off cap arr ty cj us ah c6 ai dN aT hG ay=>
     refine⟨sliced (some ⟨b,off,none⟩) (l.getD 0).toNat (bq.getD es.length).toNat cap k,?_,?_⟩
     ·simp only[Instr.sliceAt,Sem.run_bind,run_underlying hu,Result.andThen_ok,Instr.slice,Option.map_none];rw[wP na ps cu cc (by omega)];simp_all[sizeOf,typeInfo,sliced]
     refine key _ _ _ (by omega) ?_;have:=bA.sub (.row _ k es b off cap arr ty cj us ah c6 ai dN aT hG ay) (l:=(l.getD 0).toNat) (m:=(bq.getD es.length).toNat) (by omega) (by omega)
      (gR:=fun q o=>match q with | []=>o=.tok s [] | (i,j)::r=>o=.tok s ((i+(l.getD 0).toNat,j)::r)) (fun o h=>h) (fun i j q o aft h=>by
       grind[Tag.R,Nat.sub_add_cancel])
     refine this.frame fun c q _ aw=>⟨?_,rfl⟩
     simp only[Tag.R];cases q with
     | nil=>grind[hJ]
     | cons x r=>
      obtain⟨i,j⟩:=x;simp only at aw;rw[aw];have b9:¬(i+(l.getD 0).toNat<(l.getD 0).toNat):=by omega
      simp_all[hJ,fZ,aZ,Nat.add_sub_cancel]
   cases h
  cases h
 cases h
end Go.Sx
namespace Go.Sx
open Go.RowKit
def laid(arr:Array Value)(o:Nat)(cs:List Value):Array Value:=(arr.toList.take o++cs++arr.toList.drop (o+cs.length)).toArray
theorem qT{arr:Array Value}{o:Nat}{cs:List Value}(h:o+cs.length<=arr.size):(laid arr o cs).size=arr.size:=by
 simp[laid];omega
theorem kV{arr:Array Value}{o:Nat}{cs:List Value}(h:o+cs.length<=arr.size)(x:Nat):
  (laid arr o cs)[x]?=if o<=x/\x<o+cs.length then cs[x-o]? else arr[x]?:=by
 simp only[laid,lI,GM];have ak:(arr.toList.take o).length=o:=by simp;omega
 split
 ·rename_i ae;rw[Aw (by omega),Ax (by omega),ak]
 rename_i ae;by_cases J:x<o
 ·rw[Ax (by omega),h9,bb J,jy]
 rw[Aw (by omega),Aw (by omega),ak,iv,jy]
 congr 1
 omega
theorem zw{P:Program}(w:World)(e3 bR ty elem:TypeId)(k b o xL OV:Nat)(arr:Array Value)(tb:TypeId)(a:Addr)(wX Nj:Nat)(cs:List Value)
  (hu:P.underlying e3=some (.slice elem)) (ad:(P.info? elem).map (·.size)=some k) (ah:w.heap[b]?=some (.cells arr tb (0,0))) (aR:cs.length=Nat.min wX xL*k)
  (gT:∀j v,cs[j]?=some v->w.cell? (a.add j)=some v) (dc:o+cs.length<=arr.size) (J:∀v∈cs,v.oneCell'=true):
  (Builtin.copy_ #[e3,bR] ty #[.slice (some ⟨b,o,none⟩) xL OV,.slice (some a) wX Nj]).run P w=.ok (goInt (Nat.min wX xL)) (w.setRow b (laid arr o cs)):=by
 have bn:=run_firstCells_some (P:=P) w k (Nat.min wX xL) a wX Nj cs aR gT;have ek:=run_storeCells_at P b o tb cs 0 arr w ah (by simpa using dc) J;simp only[lM]at ek;cases aw:P.info? elem with
 | none=>simp[aw]at ad
 | some i=>
  have hi:i.size=k:=by simpa[aw]using ad
  subst hi;simp[Builtin.copy_,run_underlying hu,Builtin.lenOf,sizeOf,typeInfo,aw,bn,ek,laid]
theorem RB{P:Program}(w:World)(t e ty:TypeId)(z:Value)(bH:P.underlying t=some (.slice e))(a8:(zeroValue e).run P w=.ok z w)(b o n c:Nat)(arr:Array Value)(tb:TypeId)
  (ah:w.heap[b]?=some (.cells arr tb (0,0))) (dc:o+n*z.cells.size<=arr.size) (J:∀v∈z.cells.toList,v.oneCell'=true):
  ∃zs:List Value,zs.length=n*z.cells.size/\(∀m,m<n*z.cells.size->zs[m]?=z.cells[m % z.cells.size]?)/\(Builtin.clear_ #[t] ty #[.slice (some ⟨b,o,none⟩) n c]).run P w=.ok (.tuple #[]) (if n=0 then w else w.setRow b (laid arr o zs)):=by
 refine⟨(Builtin.zeroCells z.cells n).toList,by simp[Builtin.zeroCells],fun m hm=>?_,?_⟩
 ·have x9:0<z.cells.size:=by
   rcases Nat.eq_zero_or_pos z.cells.size with h | h
   ·rw[h]at hm;simp at hm
   exact h
  simp only[Builtin.zeroCells,Array.toList_map,Array.toList_range,dG,List.getElem?_range hm,oU];rw[getElem!_pos z.cells _ (Nat.mod_lt _ x9),i' (Nat.mod_lt _ x9)]
 have nh:∀v∈(Builtin.zeroCells z.cells n).toList,v.oneCell'=true:=by
  intro v H3;simp only[Builtin.zeroCells,Array.toList_map,eC,Array.toList_range,List.mem_range]at H3;obtain⟨i,hi,rfl⟩:=H3;have x9:0<z.cells.size:=by
   rcases Nat.eq_zero_or_pos z.cells.size with h | h
   ·rw[h]at hi;simp at hi
   exact h
  refine J _ ?_;rw[getElem!_pos z.cells _ (Nat.mod_lt _ x9)];simp
 have ek:=run_storeCells_at P b o tb (Builtin.zeroCells z.cells n).toList 0 arr w ah (by simpa[Builtin.zeroCells]using dc) nh;simp only[lM]at ek;cases n with
 | zero=>simp[Builtin.clear_,run_underlying bH]
 | succ n=>simp[Builtin.clear_,run_underlying bH,a8,ek,laid]
def tO(t k:Nat)(bV:List (List D)):aq->aq
 | .aa (.own s) bS es=>if s=t then .aa (.own t) k bV else .aa (.own s) bS es
 | l=>aq.b3 (eb t) (fun _=>true) l
def zx(P:Program)(st:aG)(d:Nat)(t:TypeId)(x:Operand)(cp:Option Operand)(mw:TypeId)(ans:List bI):Stepped:=
 match nP P t,(st.aW x).leaf with
 | some (e,k),some (.aa (.own fY) bS es)=>
  match P.info? e with
  | some i=>
   match i.zero,jO st cp with
   | some z,some l=>
    if k=bS/\t=mw/\z.cells.size=k/\z.cells.toList.all (fun v=>v.oneCell')=true/\d<st.env.length then
     let lH:=st.map (tO fY k (es.take (l.getD 0).toNat++List.replicate (es.length-(l.getD 0).toNat) (z.cells.toList.map .v)))
     some (⟨lH.env.set d .b5,lH.boxes⟩,ans,[0<=l.getD 0,l.getD 0<es.length,Flat es])
    else none
   | _,_=>none
  | none=>none
 | _,_=>none
theorem b1.clear{P:Program}{w0:dC}{st a6:aG}{a:Act}{w:World}{ω:Own}{τ:Nat->Nat×Value}{d:Nat}{t mw:TypeId}{x:Operand}{cp:Option Operand}{ans bN:List bI}{obs:List Prop}
  (aI:b1 w0 st a w ω τ) (h:zx P st d t x cp mw ans=some (a6,bN,obs)) (aM:cn obs):
  d<a.tmps.size/\∃y z aD,(Instr.sliceAt t (a.eval x) (cp.map a.eval) none none).run P w=.ok y w/\(∀ty,(Builtin.clear_ #[mw] ty #[y]).run P w=.ok z aD)/\Rel w0 a6 (a.put (some d) y) aD:=by
 unfold zx at h;split at h
 ·rename_i e k fY bS es he ae;split at h
  ·rename_i i hi;split at h
   ·rename_i z l aL HJ;split at h
    ·rename_i ai;obtain⟨rfl,rfl,l9,vS,tn⟩:=ai;refine⟨by rw[aI.size];exact tn,?_⟩;simp only[aH,a']at h;obtain⟨rfl,_,rfl⟩:=h;obtain⟨cu,cc,x4,_⟩:=aM;obtain⟨hu,i2,kE,dN⟩:=ss he;obtain⟨ar,bq⟩:=az.cW ae (aI.aW x);have ax:=wQ aI HJ;have na:(cp.map a.eval=none/\l.getD 0=0)\/∃k,cp.map a.eval=some (.int k (l.getD 0)):=by
      rcases ax with⟨h,rfl⟩ | ⟨k,n,h,rfl⟩
      ·exact .inl ⟨h,rfl⟩
      exact .inr ⟨k,h⟩
     generalize oa:a.eval x=z7 at ar bq;cases ar with
     | nil _ _ a0=>simp at cc;omega
     | row R k es b off cap arr ty cj us ah c6 e4 ad aT hG ay=>
      have hF:ω b=.tok fY []:=c6;obtain⟨ni,qe,rf,ga⟩:=aI.owned b (by rw[hF];simp);rw[ah]at ga;simp only[aH,Obj.cells.injEq]at ga;obtain⟨rfl,rfl,rfl⟩:=ga;obtain⟨L,b9⟩:∃L,L=(l.getD 0).toNat:=⟨_,rfl⟩
      have ae6:L<es.length:=by omega
      rw[<-b9];have dc:off+L*k+(es.length-L)*z.cells.size<=arr.size:=by
       rw[l9,AI,<-fG,show L+(es.length-L)=es.length by omega];have:=gk k e4;omega
      have Q3:(zeroValue e).run P w=.ok z w:=by simp[zeroValue,typeInfo,hi,aL]
      obtain⟨zs,kI,Ie,Hu⟩:∃zs:List Value,zs.length=(es.length-L)*z.cells.size/\(∀m,m<(es.length-L)*z.cells.size->zs[m]?=z.cells[m % z.cells.size]?)/\
        ∀ty,(Builtin.clear_ #[t] ty #[.slice (some ⟨b,off+L*k,none⟩) (es.length-L) (cap-L)]).run P w=.ok (.tuple #[]) (if es.length-L=0 then w else w.setRow b (laid arr (off+L*k) zs)):=by
       obtain⟨zs,J,U,ax⟩:=RB (P:=P) w t e 0 z hu Q3 b (off+L*k) (es.length-L) (cap-L) arr ty ah dc (eP.1 vS);exact⟨zs,J,U,fun nX=>ax⟩
      rw[aZ (by omega)]at Hu;rw[l9]at kI Ie;have cr:off+L*k+zs.length<=arr.size:=by rw[kI,<-l9];exact l9▸dc
      refine⟨.slice (some ⟨b,off+L*k,none⟩) (es.length-L) (cap-L),_,_,?_,Hu,?_⟩
      ·simp only[Instr.sliceAt,Sem.run_bind,run_underlying hu,Result.andThen_ok,Instr.slice,Option.map_none];rw[wP (h:=es.length) na (.inl ⟨rfl,rfl⟩) cu (by omega) (by omega)];have cl:¬cap=L:=by omega
       simp[sizeOf,typeInfo,kE,dN,<-b9,cl,Addr.add_lit]
      -- agb adT behind it
      have ie:=setRow_heap w b arr (laid arr (off+L*k) zs) ty (0,0) ah;have fc:bA (w.setRow b (laid arr (off+L*k) zs)) ω (Tag.own fY).R (.aa k (es.take L++List.replicate (es.length-L) (z.cells.toList.map .v))) (.slice (some ⟨b,off,none⟩) es.length cap):=by
       have hlen:(es.take L++List.replicate (es.length-L) (z.cells.toList.map D.v)).length=es.length:=by simp;omega
       have ee:∀x j d,cq (es.take L++List.replicate (es.length-L) (z.cells.toList.map D.v)) x j=some d->∃v,d=.v v/\(laid arr (off+L*k) zs)[off+x*k+j]?=some v/\v.oneCell'=true:=by
        intro x j d db;rw[wU]at db;have Cb:(es.take L).length=L:=by simp;omega
        rw[Cb]at db;split at db
        ·rename_i Ce;have rR:cq es x j=some d:=by
          unfold cq at db ⊢;rwa[h9,bb Ce]at db
         obtain⟨eU,h0⟩:=pS aT rR;have nc:∃v,d=.v v:=by
          unfold cq at rR;cases aK:es[x]? with
          | none=>simp[aK]at rR
          | some ds=>
           simp only[aK,mB]at rR;exact x4 ds (eD aK) d (eD rR)
         obtain⟨v,rfl⟩:=nc;have aJ:=ay x j _ rR;have a1:=hG x j _ rR;generalize us x j=u at aJ a1;cases aJ with
         | v _ _ bt=>
          refine⟨v,rfl,?_,bt⟩;rw[kV cr,aZ ?_,a1];have:(x+1)*k<=L*k:=gk _ Ce;rw[fG]at this;omega
        rename_i Ce;unfold cq at db;rw[xr]at db;split at db
        ·rename_i vQ;simp only[mB,dG,bF]at db;obtain⟨v,a8,rfl⟩:=db;have vx:j<k:=by
          have:=(eJ.1 a8).1;rw[AA,l9]at this;exact this
         refine⟨v,rfl,?_,eP.1 vS v (eD a8)⟩;obtain⟨m,hm⟩:∃m,x=L+m:=⟨x-L,by omega⟩
         subst hm;have Qn:m*k+j<(es.length-L)*k:=by
          have:(m+1)*k<=(es.length-L)*k:=gk _ (by omega);rw[fG]at this;omega
         have aK:off+(L+m)*k+j=off+L*k+(m*k+j):=by rw[fG];omega
         rw[aK,kV cr,bb (by omega),show off+L*k+(m*k+j)-(off+L*k)=m*k+j by omega,Ie _ Qn,show (m*k+j) % k=j by rw[Nat.mul_comm m k,Nat.mul_add_mod,AH vx]];simpa using a8
        simp at db
       have:=bA.row (w:=w.setRow b (laid arr (off+L*k) zs)) (ω:=ω) (Tag.own fY).R k (es.take L++List.replicate (es.length-L) (z.cells.toList.map .v)) b off cap _ ty (0,0)
        (fun x j=>(laid arr (off+L*k) zs).getD (off+x*k+j) undef) ie c6 (by omega) (by rw[qT cr];exact ad)
        (by
         intro e' BC;rcases hA.1 BC with h | h
         ·exact aT e' (xq h)
         rw[List.eq_of_mem_replicate h];simp[l9])
        (fun x j d db=>by obtain⟨v,rfl,J,_⟩:=ee x j d db;simp[dF,J])
        (fun x j d db=>by
         obtain⟨v,rfl,J,U⟩:=ee x j d db;have:(laid arr (off+L*k) zs).getD (off+x*k+j) undef=v:=by simp[dF,J]
         rw[this];exact .v _ _ U)
       rwa[hlen]at this
      have aW:jD w ω τ (w.setRow b (laid arr (off+L*k) zs)) ω τ (eb fY) (fun _=>true):=by
       refine⟨?_,?_,fun id c _ ai=>ai,rfl,fun _ _=>rfl⟩
       ·intro g dg c q ag _ aw;obtain⟨rfl,vD⟩:=zu ag aw;exact⟨aw,setRow_other w b c _ fun e=>vD [] (by rw[e];exact hF)⟩
       intro g dg y ag a7;cases g with
       | free=>simp only[eb,aH]at ag;subst ag;trivial
       | own x=>
        simp only[eb]at ag;split at ag
        ·cases ag
        simp only[aH]at ag;subst ag;exact a7
       | ro x=>
        simp only[eb]at ag;split at ag
        ·cases ag
        simp only[aH]at ag;subst ag;trivial
      have dJ:∀iG v,Sat w ω τ iG v->Sat (w.setRow b (laid arr (off+L*k) zs)) ω τ (tO fY k (es.take L++List.replicate (es.length-L) (z.cells.toList.map .v)) iG) v:=by
       intro iG v B';by_cases Hs:∃s bS bV,iG=.aa (.own s) bS bV
       ·obtain⟨s,bS,bV,rfl⟩:=Hs;simp only[tO];split
        ·rename_i ek;subst ek;obtain⟨_,U⟩:=B';simp only[Tag.de]at U bq;rw[U]at bq;simp only[a']at bq;obtain⟨rfl,rfl⟩:=bq;exact⟨fc,U⟩
        rename_i ek;have:=aW.sat (.aa (.own s) bS bV) v B';simpa[aq.b3,eb,ek]using this
       have dQ:tO fY k (es.take L++List.replicate (es.length-L) (z.cells.toList.map .v)) iG=aq.b3 (eb fY) (fun _=>true) iG:=by
        unfold tO;split
        ·exact absurd ⟨_,_,_,rfl⟩ Hs
        rfl
       rw[dQ];exact aW.sat iG v B'
      have J:b1 w0 (st.map (tO fY k (es.take L++List.replicate (es.length-L) (z.cells.toList.map .v)))) a (w.setRow b (laid arr (off+L*k) zs)) ω τ:=by
       refine aI.dE _ dJ (aI.below.setRow ni _) ?_ (fun id c ai=>⟨ai,setRow_other w b c _ fun e=>by rw[e,hF]at ai;cases ai⟩) (fun id c ai=>ai) (fun _ _=>rfl);intro c ai;obtain⟨J,hD,hO,U⟩:=aI.owned c ai;by_cases e:c=b
       ·subst e;exact⟨J,_,ty,ie⟩
       exact⟨J,hD,hO,(setRow_other w b c _ e).trans U⟩
      exact⟨ω,τ,J.put (p:=.b5) trivial⟩
    cases h
   cases h
  cases h
 cases h
end Go.Sx
namespace Go.Sx
open Go.RowKit
def bi.jb(p:aq->Prop):bi->Prop
 | .one l=>p l
 | .agg ls=>∀l∈ls,p l
def az.jb(p:aq->Prop):az->Prop
 | .aN a=>a.jb p
 | .fD as=>∀a∈as,a.jb p
variable{S iw:aq->Value->Prop}{p:aq->Prop}{f:aq->aq}{ls:List aq}
theorem ia.map'(h:∀l v,p l->S l v->iw (f l) v){vs:Array Value}(aC:∀l∈ls,p l)(ad:ia S ls vs):ia iw (ls.map f) vs:=by
 refine⟨by simpa using ad.1,fun i l ak=>?_⟩;rw[dG,bF]at ak;obtain⟨fO,bX,rfl⟩:=ak;obtain⟨u,J,U⟩:=ad.2 i fO bX;exact⟨u,J,h _ _ (aC fO (eD bX)) U⟩
theorem h'.map'(h:∀l v,p l->S l v->iw (f l) v):∀{a:bi} {y:Value},a.jb p->h' S a y->h' iw (a.map f) y
 | .one l,y,aC,ad=>h _ _ aC ad
 | .agg ls,y,aC,⟨vs,e,ad⟩=>⟨vs,e,ad.map' h aC⟩
theorem cd.map'(h:∀l v,p l->S l v->iw (f l) v):∀{q:az} {y:Value},q.jb p->cd S q y->cd iw (q.map f) y
 | .aN a,y,aC,ad=>show h' iw (a.map f) y from h'.map' h aC (show h' S a y from ad)
 | .fD as,y,aC,⟨vs,e,aR,ad⟩=>⟨vs,e,by simpa using aR,fun i a hi=>by
   rw[dG,bF]at hi;obtain⟨a0,bX,rfl⟩:=hi;obtain⟨u,J,U⟩:=ad i a0 bX;exact⟨u,J,h'.map' h (aC a0 (eD bX)) U⟩⟩
variable{w0:dC}{st:aG}{a:Act}{w aD:World}{ω aP:Own}{τ:Nat->Nat×Value}
theorem b1.ad3{ch:Nat->Nat×Value}{p:aq->Prop}(h:b1 w0 st a w ω τ)(f:aq->aq)
  (dJ:∀l v,p l->Sat w ω τ l v->Sat aD aP ch (f l) v) (he:∀q∈st.env,q.jb p) (ah:∀id ls,cM id st.boxes=some ls->∀l∈ls,p l) (n9:e8 w0 aD) (nj:k5 w0 aD aP)
  (pi:∀id b,ω b=.box id->aP b=.box id/\aD.heap[b]?=w.heap[b]?) (vn:∀id b,aP b=.box id->ω b=.box id) (qu:∀t,cy<=t->ch t=τ t):b1 w0 (st.map f) a aD aP ch where
 defers:=h.defers
 size:=by simp[aG.map,h.size]
 below:=n9
 owned:=nj
 fixed:=fun t bH=>(qu t bH).trans (h.fixed t bH)
 pinned:=fun id b hi ah=>h.pinned id b hi (vn id b ah)
 env:=by
  intro i q aw;simp only[aG.map]at aw;rw[dG,bF]at aw;obtain⟨mf,bX,rfl⟩:=aw;obtain⟨v,J,U⟩:=h.env i mf bX;exact⟨v,J,cd.map' dJ (he mf (eD bX)) U⟩
 boxes:=by
  intro id ls ak;simp only[aG.map]at ak;rw[pR,bF]at ak;obtain⟨hn,bX,rfl⟩:=ak;obtain⟨b,arr,ty,fM,hu,bq,ad⟩:=h.boxes id hn bX;obtain⟨J,U⟩:=pi id b fM;exact⟨b,arr,ty,J,fun cH dv=>hu cH (vn id cH dv),U.trans bq,ad.map' dJ (ah id hn bX)⟩
def aq.idx(t j:Nat):aq->List Nat
 | .bE s a b _ _ _=>if s=t/\b=j then [a] else []
 | _=>[]
def bi.idx(t j:Nat):bi->List Nat
 | .one l=>l.idx t j
 | .agg ls=>ls.flatMap (aq.idx t j)
def az.idx(t j:Nat):az->List Nat
 | .aN a=>a.idx t j
 | .fD as=>as.flatMap (bi.idx t j)
def aG.idx(t j:Nat)(st:aG):List Nat:=st.env.flatMap (az.idx t j)++st.boxes.flatMap fun x=>x.2.flatMap (aq.idx t j)
def zy(t i j:Nat)(l:aq):Prop:=∀a∈l.idx t j,a=i
theorem Jb{id:Nat}:∀{bs:List (Nat×List aq)} {ls:List aq},cM id bs=some ls->(id,ls)∈bs
 | [],_,h=>by cases h
 | (i,l)::r,ls,h=>by
  simp only[cM]at h;split at h
  ·rename_i hi;subst hi;rw[e0 h];exact fk
  exact eQ _ (Jb h)
variable{t i j:Nat}
theorem aG.Q6(h:∀a∈st.idx t j,a=i):∀q∈st.env,q.jb (zy t i j):=by
 intro q aw;have J:∀a∈q.idx t j,a=i:=fun a aC=>h a (gl _ (lL.2 ⟨q,aw,aC⟩))
 have Ho:∀x:bi,(∀a∈x.idx t j,a=i)->x.jb (zy t i j):=by
  intro x ae;cases x with
  | one l=>exact ae
  | agg ls=>exact fun l ak a aC=>ae a (lL.2 ⟨l,ak,aC⟩)
 cases q with
 | aN x=>exact Ho x J
 | fD as=>exact fun x ae=>Ho x fun a aC=>J a (lL.2 ⟨x,ae,aC⟩)
theorem aG.Q5(h:∀a∈st.idx t j,a=i){id:Nat}(ah:cM id st.boxes=some ls):∀l∈ls,zy t i j l:=by
 intro l ak a aC;exact h a (gQ _ (lL.2 ⟨(id,ls),Jb ah,lL.2 ⟨l,ak,aC⟩⟩))
def fA(t i j k:Nat)(bV:List (List D))(kT:Nat)(esT:List (List D)):aq->aq
 | .aa (.own s) et cX=>if s=t then .aa (.own t) kT esT else .aa (.own s) et cX
 | .ep (.own s) et cX a b=>if s=t then .ep (.own t) kT esT a b else .ep (.own s) et cX a b
 | .aa (.ro s) et cX=>if s=t then .b5 else .aa (.ro s) et cX
 | .ep (.ro s) et cX a b=>if s=t then .b5 else .ep (.ro s) et cX a b
 | .bE s a b et cX m=>if s=t/\b=j then (if et=k/\m.home=true then .bE t i j k bV m else .b5) else .bE s a b et cX m
 | .ef _ _=>.b5
 | l=>l
variable{v:Value}
theorem qO.sU{u:Value}(J:qO w ω τ t i j u)(U:qO w ω τ t i j v):u=v:=by
 obtain⟨kT,b,off,len,cap,arr,ty,cj,dy,a2,a3,a4⟩:=J;obtain⟨Q',cH,afR,afK,jH,bJ,nX,aeY,fU,fa,o5,rD⟩:=U;rw[dy]at fU;simp only[a',Value.slice.injEq,aH,Addr.mk.injEq]at fU;obtain⟨rfl,⟨rfl,rfl,_⟩,_,_⟩:=fU;rw[a3]at o5;simp only[aH,Obj.cells.injEq]at o5;obtain⟨rfl,_,_⟩:=o5;rw[a4]at rD;exact e0 rD
variable{k kT:Nat}{esT:List (List D)}
theorem b1.Nk(h:b1 w0 st a w ω τ){bV:List (List D)}{yT gC:Value}
  (h3:∀c,c<w.heap.size->ω c≠.tok t [(i,j)]->aD.heap[c]?=w.heap[c]?) (cE:∀c,c<w.heap.size->aP c=ω c) (CN:∀c id,¬c<w.heap.size->aP c≠.box id)
  (iP:e8 w0 aD) (ni:k5 w0 aD aP) (pF:τ t=(kT,yT)) (lk:bA aD aP (Tag.own t).R (.aa kT esT) yT)
  (ob:qO w ω τ t i j gC) (l5:bA aD aP (fun q o=>o=.tok t ((i,j)::q)) (.aa k bV) gC) (l1:∀a∈st.idx t j,a=i):b1 w0 (st.map (fA t i j k bV kT esT)) a aD aP τ:=by
 have cj:∀{R:List (Nat×Nat)->cx->Prop} {d:D} {v:Value},(∀q,¬R q (.tok t [(i,j)]))->bA w ω R d v->bA aD aP R d v:=by
  intro R d v aR ar;refine ar.frame fun b q bk aw=>?_
  rw[cE b bk];exact⟨aw,h3 b bk fun e=>aR q (by rw[<-e];exact aw)⟩
 have home:∀{s a b:Nat} {u:Value},qO w ω τ s a b u->qO aD aP τ s a b u:=by
  rintro s a b u ⟨kT,c,off,len,cap,arr,ty,cj,dy,a2,a3,a4⟩;have bk:c<w.heap.size:=(hB.1 a3).1;exact⟨kT,c,off,len,cap,arr,ty,cj,dy,by rw[cE c bk];exact a2,(h3 c bk (by rw[a2];simp)).trans a3,a4⟩
 refine h.ad3 (p:=zy t i j) _ ?_ (aG.Q6 l1) (fun id ls ah=>aG.Q5 l1 ah) iP ni (fun id b ah=>?_) (fun id b ah=>?_) (fun _ _=>rfl)
 ·intro l v ag ad;cases l with
  | b5=>exact trivial
  | v x=>exact ad
  | bP c=>exact ad
  | ptr id o=>
   obtain⟨c,ai,e⟩:=ad;exact⟨c,by rw[cE c (h.owned.lt (by simp[ai]))];exact ai,e⟩
  | eL f ids=>
   obtain⟨bs,e,aR,hi⟩:=ad;refine⟨bs,e,aR,fun x id fp=>?_⟩;obtain⟨b,J,U⟩:=hi x id fp;exact⟨b,J,by rw[cE b (h.owned.lt (by simp[U]))];exact U⟩
  | gZ ds o=>
   obtain⟨c,e,ar⟩:=ad;exact⟨c,e,cj (fun q aw=>by cases aw) ar⟩
  | fd d=>exact cj (R:=Tag.free.R) (fun q aw=>by cases aw) ad
  | dL t0 et cX=>exact⟨cj (R:=Tag.free.R) (fun q aw=>by cases aw) ad.1,ad.2⟩
  | ef=>exact trivial
  | aa g et cX=>
   cases g with
   | free=>exact⟨cj (R:=Tag.free.R) (fun q aw=>by cases aw) ad.1,aj⟩
   | own s=>
    simp only[fA];split
    ·rename_i e;subst e;have U:=ad.2;simp only[Tag.de]at U;rw[pF]at U;simp only[a']at U;rw[<-U.2];exact⟨lk,pF⟩
    rename_i cl;exact⟨cj (R:=(Tag.own s).R) (fun q aw=>by simp only[Tag.R,cx.tok.injEq]at aw;exact cl aw.1.symm) ad.1,ad.2⟩
   | ro s=>
    simp only[fA];split
    ·exact trivial
    rename_i cl;refine⟨cj (R:=(Tag.ro s).R) (fun q aw=>?_) ad.1,aj⟩;rcases aw with aw | ⟨c5,aw⟩
    ·cases aw
    simp only[cx.tok.injEq]at aw;exact cl aw.1.symm
  | ep g et cX x y=>
   obtain⟨fa,nA,mN,e,kE,lj,lh⟩:=ad;cases g with
   | free=>exact⟨fa,nA,mN,e,kE,cj (R:=Tag.free.R) (fun q aw=>by cases aw) lj,aj⟩
   | own s=>
    simp only[fA];split
    ·rename_i aK;subst aK;simp only[Tag.de]at lh;rw[pF]at lh;simp only[a']at lh;obtain⟨rfl,rfl⟩:=lh;have ak:esT.length=cX.length:=by
      obtain⟨_,_,aO⟩:=lk.len;simp only[Value.slice.injEq]at aO;exact aO.2.1.symm
     refine⟨fa,nA,mN,e,by omega,?_,?_⟩
     ·rw[ak];exact lk
     rw[ak];exact pF
    rename_i cl;exact⟨fa,nA,mN,e,kE,cj (R:=(Tag.own s).R) (fun q aw=>by simp only[Tag.R,cx.tok.injEq]at aw;exact cl aw.1.symm) lj,lh⟩
   | ro s=>
    simp only[fA];split
    ·exact trivial
    rename_i cl;refine⟨fa,nA,mN,e,kE,cj (R:=(Tag.ro s).R) (fun q aw=>?_) lj,aj⟩;rcases aw with aw | ⟨c5,aw⟩
    ·cases aw
    simp only[cx.tok.injEq]at aw;exact cl aw.1.symm
  | bE s x y et cX m=>
   simp only[fA];obtain⟨u,hu,ar,hm⟩:=ad;split
   ·rename_i ai;obtain⟨rfl,rfl⟩:=ai;have ae:x=i:=ag x (by simp[aq.idx]);subst ae;split
    ·rename_i ai;obtain⟨rfl,Qm⟩:=ai;have e:=(hm Qm).sU ob;subst e;have ak:bV.length=cX.length:=by
      obtain⟨_,_,aK⟩:=l5.len;obtain⟨_,_,aO⟩:=ar.len;rw[aK]at aO;simp only[Value.slice.injEq]at aO;omega
     exact⟨u,by rw[ak];exact hu,l5,fun _=>home ob⟩
    exact trivial
   rename_i ai;refine⟨u,hu,cj (fun q aw=>?_) ar,fun bq=>home (hm bq)⟩;simp only[cx.tok.injEq,oW,a']at aw;exact ai ⟨aw.1.symm,aw.2.1.2.symm⟩
 ·have bk:=h.owned.lt (b:=b) (by simp[ah]);exact⟨by rw[cE b bk];exact ah,h3 b bk (by rw[ah];simp)⟩
 by_cases bk:b<w.heap.size
 ·rw[cE b bk]at ah;exact ah
 exact absurd ah (CN b id bk)
def pZ(t:Nat):aq->Option (Nat×List (List D))
 | .aa (.own s) k es=>if s=t then some (k,es) else none
 | _=>none
def qU(t:Nat):List az->Option (Nat×List (List D))
 | []=>none
 | .aN (.one l)::r=>match pZ t l with | some x=>some x | none=>qU t r
 | .aN (.agg ls)::r=>match ls.findSome? (pZ t) with | some x=>some x | none=>qU t r
 | _::r=>qU t r
def zz(t:Nat)(st:aG):Option (Nat×List (List D)):=
 match qU t st.env with
 | some x=>some x
 | none=>(st.boxes.find? fun x=>(x.2.findSome? (pZ t)).isSome).bind fun x=>(cM x.1 st.boxes).bind fun ls=>ls.findSome? (pZ t)
theorem Db{l:aq}(h:pZ t l=some (kT,esT))(ad:Sat w ω τ l v):Sat w ω τ (.aa (.own t) kT esT) v:=by
 unfold pZ at h;split at h
 ·split at h
  ·rename_i e;subst e;simp only[aH,a']at h;obtain⟨rfl,rfl⟩:=h;exact ad
  cases h
 cases h
theorem Jc{vs:Array Value}(h:ls.findSome? (pZ t)=some (kT,esT))(ad:ia (Sat w ω τ) ls vs):∃v,Sat w ω τ (.aa (.own t) kT esT) v:=by
 obtain⟨l,ak,U⟩:=List.exists_of_findSome?_eq_some h;obtain⟨x,ae⟩:=mA.1 ak;obtain⟨u,_,hu⟩:=ad.2 x l ae;exact⟨u,Db U hu⟩
theorem zA:∀{b':List az},qU t b'=some (kT,esT)->(∀p∈b',∃v,cd (Sat w ω τ) p v)->∃v,Sat w ω τ (.aa (.own t) kT esT) v
 | [],h,_=>by cases h
 | p::r,h,ad=>by
  have ar:∀p∈r,∃v,cd (Sat w ω τ) p v:=fun p hp=>ad p (eQ _ hp)
  obtain⟨v,a8⟩:=ad p fk;cases p with
  | fD as=>exact zA (by simpa[qU]using h) ar
  | aN x=>
   cases x with
   | one l=>
    simp only[qU]at h;split at h
    ·rename_i y e;simp only[aH]at h;subst h;exact⟨v,Db e a8⟩
    exact zA h ar
   | agg ls=>
    simp only[qU]at h;split at h
    ·rename_i y e;simp only[aH]at h;subst h;obtain⟨vs,_,a8⟩:=a8;exact Jc e a8
    exact zA h ar
theorem b1.root(h:b1 w0 st a w ω τ)(e:zz t st=some (kT,esT)):∃v,Sat w ω τ (.aa (.own t) kT esT) v:=by
 unfold zz at e;split at e
 ·rename_i x aK;simp only[aH]at e;subst e;refine zA aK fun p hp=>?_
  obtain⟨x,ae⟩:=mA.1 hp;obtain⟨v,_,a8⟩:=h.env x p ae;exact⟨v,a8⟩
 rw[jT]at e;obtain⟨x,_,e⟩:=e;rw[jT]at e;obtain⟨ls,ah,e⟩:=e;obtain⟨b,arr,ty,_,_,_,ad⟩:=h.boxes x.1 ls ah;exact Jc e ad
theorem Jd{bV:List (List D)}{hf:List D}{yT gC:Value}(ad:Sat w ω τ (.aa (.own t) kT esT) yT)
  (h3:∀c,c<w.heap.size->ω c≠.tok t [(i,j)]->aD.heap[c]?=w.heap[c]?) (cE:∀c,c<w.heap.size->aP c=ω c)
  (ob:qO w ω τ t i j gC) (l5:bA aD aP (fun q o=>o=.tok t ((i,j)::q)) (.aa k bV) gC) (dM:esT[i]?=some hf):bA aD aP (Tag.own t).R (.aa kT (esT.set i (hf.set j (.aa k bV)))) yT:=by
 obtain⟨ar,bq⟩:=ad;simp only[Tag.de]at bq;obtain⟨Q',cm,C3,Is,G5,qe,rf,aeZ,dy,a2,a3,a4⟩:=ob;rw[bq]at dy;simp only[a']at dy;obtain⟨rfl,rfl⟩:=dy;have jK:i<esT.length:=(eJ.1 dM).1;have hlen:(esT.set i (hf.set j (.aa k bV))).length=esT.length:=kj;generalize a7:Value.slice (some ⟨cm,C3,none⟩) Is G5=GJ at ar;cases ar with
 | nil=>simp at jK
 | row R kT esT b off cap arr ty cj us ah c6 ai dN aT hu ay=>
  simp only[Value.slice.injEq,aH,Addr.mk.injEq]at a7;obtain⟨⟨rfl,rfl,_⟩,rfl,rfl⟩:=a7;rw[ah]at a3;simp only[aH,Obj.cells.injEq]at a3;obtain⟨rfl,_,_⟩:=a3;have rP:cm<w.heap.size:=(hB.1 ah).1;have vy:hf.length=kT:=aT hf (eD dM);have rX:∀e∈esT.set i (hf.set j (.aa k bV)),e.length=kT:=by
   intro e he;rcases oV he with h | rfl
   ·exact aT e h
   rw[kj];exact vy
  have key:∀x y d,cq (esT.set i (hf.set j (.aa k bV))) x y=some d->arr[C3+x*kT+y]?=some (us x y)/\bA aD aP (fun q=>(Tag.own t).R ((x,y)::q)) d (us x y):=by
   intro x y d db;have Cf:=pS rX db;rw[hlen]at Cf;obtain⟨d0,PM⟩:=JA aT Cf.1 Cf.2;have rZ:=hu x y d0 PM;refine⟨rZ,?_⟩;rw[Dx jK]at db;by_cases ae:x=i
   ·subst ae;rw[bb rfl,iL]at db;by_cases CL:j=y
    ·subst CL;rw[bb rfl,bb (by omega)]at db;rw[<-e0 db];rw[a4]at rZ;rw[<-e0 rZ];exact l5
    rw[aZ CL]at db;have mX:cq esT x y=some d:=by simp[cq,dM,db]
    refine (ay x y d mX).frame fun c q ai aw=>?_
    rw[cE c ai];refine⟨aw,h3 c ai fun e=>?_⟩;simp only[Tag.R,e,cx.tok.injEq,oW,a']at aw;exact CL aw.2.1.2
   rw[aZ ae]at db;refine (ay x y d db).frame fun c q ai aw=>?_
   rw[cE c ai];refine⟨aw,h3 c ai fun e=>?_⟩;simp only[Tag.R,e,cx.tok.injEq,oW,a']at aw;exact ae aw.2.1.1.symm
  have hF:ω cm=.tok t []:=c6;have:=bA.row (w:=aD) (ω:=aP) (Tag.own t).R kT (esT.set i (hf.set j (.aa k bV))) cm C3 G5 arr ty cj us ((h3 cm rP (by rw[hF];simp)).trans ah) (by rw[cE cm rP];exact hF) (by omega) dN rX
   (fun x y d ay=>(key x y d ay).1) (fun x y d ay=>(key x y d ay).2)
  rw[hlen]at this;exact this
def Dc(P:Program)(st:aG)(ty:TypeId)(t i j k:Nat)(es:List (List D))(x y:Nat)(q:az)(ans:List bI):Stepped:=
 match q.leaves,P.info? ty,zz t st,ans with
 | some xs,some inf,some (kT,esT),.el ds::.el hf::r=>
  match xs.mapM aq.gP with
  | some ys=>
   if xs.length=inf.size/\ds.length=k/\y+ys.length<=k/\xs.all (fun l=>l.tok.isNone)=true then
    some (st.map (fA t i j k (es.set x (iO ds y ys)) kT (esT.set i (hf.set j (.aa k (es.set x (iO ds y ys)))))),r,(es[x]?=some ds)::(esT[i]?=some hf)::(st.idx t j).map fun a=>a=i)
   else none
  | none=>none
 | _,_,_,_=>none
theorem RC{l:aq}{d:D}(h:l.gP=some d)(bH:l.tok.isNone=true){u:Value}(ad:Sat w ω τ l u):∃z,d=.v z/\u=z/\z.oneCell'=true:=by
 cases l with
 | v z=>
  simp only[aq.gP]at h;split at h
  ·simp only[aH]at h;subst h;have:u=z:=ad;exact⟨z,rfl,this,‹_›⟩
  cases h
 | bP c=>
  simp only[aq.gP,aH]at h;subst h;exact⟨_,rfl,ad,rfl⟩
 | aa g k es=>
  cases g with
  | own s=>simp[aq.tok]at bH
  | free=>cases h
  | ro s=>cases h
 | b5=>cases h
 | ptr=>cases h
 | ep=>cases h
 | gZ=>cases h
 | fd=>cases h
 | dL=>cases h
 | eL=>cases h
 | bE=>cases h
 | ef=>cases h
theorem b1.adY{P:Program}{a6:aG}{ty:TypeId}{x y:Nat}{es:List (List D)}{q:az}{p:Value}{ans bN:List bI}{obs:List Prop}
  (aI:b1 w0 st a w ω τ) (hp:Sat w ω τ (.bE t i j k es (.at_ x y)) p) (aw:cd (Sat w ω τ) q v) (h:Dc P st ty t i j k es x y q ans=some (a6,bN,obs)) (aM:cn obs):
  ∃aD,(Instr.storeAt ty p v).run P w=.ok () aD/\Rel w0 a6 a aD:=by
 unfold Dc at h;split at h
 ·rename_i xs inf kT esT ds hf r aK aO eY;split at h
  ·rename_i ys b2;split at h
   ·rename_i ai;obtain⟨iA,hZ,iQ,x1⟩:=ai;simp only[aH,a']at h;obtain⟨rfl,_,rfl⟩:=h;obtain⟨dM,tp,l1⟩:=aM;have l1:=zn l1;obtain⟨yT,lk⟩:=aI.root eY;obtain⟨ad,nh⟩:=az.tH aK aw;obtain⟨Ib,CK⟩:=kS b2;obtain⟨gC,⟨b,off,cap,rfl,rfl,jK⟩,ar,hm⟩:=hp;have ob:=hm rfl;have pz:=ar;cases ar with
    | nil=>simp at jK
    | row R k es b off cap arr gB cj us ah c6 e4 dN fq hu ay=>
     have hF:ω b=.tok t [(i,j)]:=c6;obtain⟨rV,qe,rf,ga⟩:=aI.owned b (by rw[hF];simp);rw[ah]at ga;simp only[aH,Obj.cells.injEq]at ga;obtain⟨rfl,rfl,rfl⟩:=ga;have rP:b<w.heap.size:=(hB.1 ah).1;have hmul:(x+1)*k<=cap*k:=gk _ (by omega);rw[fG]at hmul;have qA:v.cells.size=xs.length:=ad.1;have dc:off+x*k+y+v.cells.toList.length<=arr.size:=by simp;omega
     have ek:=run_storeCells_at P b (off+x*k+y) gB v.cells.toList 0 arr w ah (by simpa using dc) nh;simp only[lM]at ek;generalize lY:(arr.toList.take (off+x*k+y)++v.cells.toList++arr.toList.drop (off+x*k+y+v.cells.toList.length)).toArray=bJ at ek;have gr:∀z:Nat,bJ[z]?=if off+x*k+y<=z/\z<off+x*k+y+xs.length then v.cells[z-(off+x*k+y)]? else arr[z]?:=by
      intro z;rw[<-lY,lI,wS (by simpa using dc)];simp[qA]
     have tE:bJ.size=arr.size:=by rw[<-lY];simp;simp at dc;omega
     have ie:=setRow_heap w b arr bJ gB (0,0) ah;have h3:∀c,c<w.heap.size->ω c≠.tok t [(i,j)]->(w.setRow b bJ).heap[c]?=w.heap[c]?:=fun c _ ai=>setRow_other w b c bJ fun e=>ai (by rw[e];exact hF)
     have l5:bA (w.setRow b bJ) ω (fun q o=>o=.tok t ((i,j)::q)) (.aa k (es.set x (iO ds y ys))) (.slice (some ⟨b,off,none⟩) es.length cap):=by
      have hlen:(es.set x (iO ds y ys)).length=es.length:=kj;have vy:ds.length=k:=hZ;have kF:∀fi fj d,cq es fi fj=some d->bA (w.setRow b bJ) ω (fun q o=>o=.tok t ((i,j)::(fi,fj)::q)) d (us fi fj):=by
       intro fi fj d mX;refine (ay fi fj d mX).frame fun c q ai df=>⟨df,h3 c ai fun e=>?_⟩
       rw[e]at df;simp at df
      have ee:∀fi fj d,cq (es.set x (iO ds y ys)) fi fj=some d->∃u,bJ[off+fi*k+fj]?=some u/\bA (w.setRow b bJ) ω (fun q o=>o=.tok t ((i,j)::(fi,fj)::q)) d u:=by
       intro fi fj d db;rw[Dx jK]at db;by_cases ae:fi=x
       ·subst ae;rw[bb rfl,JD (by omega)]at db;split at db
        ·rename_i a7;obtain⟨l,h1,cr⟩:=CK _ _ db;obtain⟨u,fe,er⟩:=ad.2 _ _ h1;obtain⟨z,rfl,rfl,aL⟩:=RC cr (eP.1 x1 l (eD h1)) er;refine⟨u,?_,.v _ _ aL⟩;rw[gr,bb (by omega),<-fe]
         congr 1;omega
        rename_i a7;have mX:cq es fi fj=some d:=by simp[cq,dM,db]
        refine⟨us fi fj,?_,kF fi fj d mX⟩;rw[gr,aZ (by omega),hu fi fj d mX]
       rw[aZ ae]at db;obtain⟨eU,Q1⟩:=pS fq db;refine⟨us fi fj,?_,kF fi fj d db⟩;rw[gr,aZ ?_,hu fi fj d db];rcases Nat.lt_or_gt_of_ne ae with h | h
       ·have:(fi+1)*k<=x*k:=gk _ h;rw[fG]at this;omega
       have:(x+1)*k<=fi*k:=gk _ h;rw[fG]at this;omega
      have np:∀e∈es.set x (iO ds y ys),e.length=k:=by
       intro e he;rcases oV he with h | rfl
       ·exact fq e h
       rw[JE (by omega)];exact vy
      have:=bA.row (w:=w.setRow b bJ) (ω:=ω) (fun q o=>o=.tok t ((i,j)::q)) k (es.set x (iO ds y ys)) b off cap bJ gB (0,0) (fun fi fj=>bJ.getD (off+fi*k+fj) undef) ie hF (by omega) (by omega) np
       (fun x y d dp=>by obtain⟨u,J,_⟩:=ee x y d dp;rw[J];simp[dF,J])
       (fun x y d dp=>by obtain⟨u,J,U⟩:=ee x y d dp;have:bJ.getD (off+x*k+y) undef=u:=(by simp[dF,J]);rw[this];exact U)
      rw[hlen]at this;exact this
     refine⟨w.setRow b bJ,?_,ω,τ,aI.Nk (yT:=yT) h3 (fun _ _=>rfl) (fun c id ai e=>?_) (aI.below.setRow rV bJ) ?_ lk.2 (Jd lk h3 (fun _ _=>rfl) ob l5 tp) ob l5 l1⟩
     ·simp only[Instr.storeAt,Instr.sureAddr,Sem.run_bind,Sem.run_pure,Result.andThen_ok,storeVar,sizeOf,typeInfo,run_program,aO];have Ca:¬(v.cells.size≠inf.size):=by simp;omega
      rw[aZ Ca];exact ek
     ·exact ai (aI.owned.lt (by rw[e];simp))
     intro c gJ;obtain⟨ax,hD,hO,aJ⟩:=aI.owned c gJ;by_cases qq:c=b
     ·subst qq;exact⟨ax,bJ,gB,ie⟩
     exact⟨ax,hD,hO,(setRow_other w b c bJ qq).trans aJ⟩
   cases h
  cases h
 cases h
end Go.Sx
namespace Go.Sx
open Go.RowKit
variable{i:Nat}
theorem Je{α:Type}{l:List α}{a:α}(h:l[i]?=some a):l.set i a=l:=by
 apply List.ext_getElem?;intro x;rw[iL];by_cases ae:i=x
 ·subst ae;have:=(eJ.1 h).1;rw[bb rfl,bb this,h]
 rw[aZ ae]
def Dd(P:Program)(st:aG)(d:Nat)(gj:TypeId)(t i j k:Nat)(es:List (List D))(y:Operand)(ans:List bI):Stepped:=
 match nP P gj,zz t st,ans with
 | some (e,bS),some (kT,esT),.el hf::ea=>
  match P.info? e,rB t k (st.aW y) ea with
  | some inf,some (bm,none,rA,obs)=>
   match inf.zero with
   | some z=>
    if bS=k/\z.cells.size=k/\0<k then
     some (⟨(st.map (fA t i j k es kT esT)).env.set d (.one (.bE t i j k (es++bm) .jF)),(st.map (fA t i j k es kT esT)).boxes⟩,rA,
      ((es.length+bm.length)*inf.bytes<=140737488355328)::(es.length+bm.length<=9223372036854775807)::(esT[i]?=some hf)::(hf[j]?=some (.aa k es))::(((st.idx t j).map fun a=>a=i)++obs))
    else none
   | none=>none
  | _,_=>none
 | _,_,_=>none
def qd(P:Program)(gj:TypeId)(t i j k:Nat)(es esT:List (List D))(q:az)(ans:List bI):Option (az×List bI×List Prop):=
 match nP P gj,ans with
 | some (e,bS),.el hf::ea=>
  match P.info? e,rB t k q ea with
  | some inf,some (bm,none,rA,obs)=>
   match inf.zero with
   | some z=>
    if bS=k/\z.cells.size=k/\0<k then
     some (.one (.bE t i j k (es++bm) .jF),rA,
      ((es.length+bm.length)*inf.bytes<=140737488355328)::(es.length+bm.length<=9223372036854775807)::(esT[i]?=some hf)::(hf[j]?=some (.aa k es))::obs)
    else none
   | none=>none
  | _,_=>none
 | _,_=>none
theorem b1.qd{P:Program}{w0:dC}{st:aG}{a:Act}{w:World}{ω:Own}{τ:Nat->Nat×Value}{d:Nat}{gj ty:TypeId}{t j k kT:Nat}{es esT:List (List D)}{x y:Operand}{p:az}{ans bN:List bI}{obs:List Prop}
  (aI:b1 w0 st a w ω τ) (hp:Sat w ω τ (.bE t i j k es .here) (a.eval x)) (h:Sx.qd P gj t i j k es esT (st.aW y) ans=some (p,bN,obs)) (aM:cn obs)
  (lk:∃v,Sat w ω τ (.aa (.own t) kT esT) v) (l1:∀a∈st.idx t j,a=i):
  ∃z aD,(Builtin.append_ #[gj,gj] ty #[a.eval x,a.eval y]).run P w=.ok z aD/\Rel w0 ⟨(st.map (fA t i j k es kT esT)).env.set d p,(st.map (fA t i j k es kT esT)).boxes⟩ (a.put (some d) z) aD:=by
 unfold Sx.qd at h;split at h
 ·rename_i e bS hf ea he;obtain⟨bH,fN,iS,tC⟩:=ss he;split at h
  ·rename_i inf bm rA tJ hi gT;rw[iS]at hi;have l2:=e0 hi;subst l2;split at h
   ·rename_i z aL;split at h
    ·rename_i ai;obtain⟨rfl,l9,jL⟩:=ai;simp only[aH,a']at h;obtain⟨rfl,_,rfl⟩:=h;obtain⟨fM,dX,tp,Bz,BZ⟩:=aM;obtain⟨_,news,j3⟩:=JC (P:=P) jL (aI.aW y) gT BZ;obtain⟨yT,lk⟩:=lk;obtain⟨gC,oe,ar,hm⟩:=hp;have ob:=hm rfl;have oe:a.eval x=gC:=oe;rw[oe];generalize a.eval y=iZ at j3;have x4:∀fi fj d,cq bm fi fj=some d->∃u,news[fi*bS+fj]?=some u/\d=.v u/\u.oneCell'=true:=by
      intro fi fj d ay;obtain⟨u,J,U⟩:=j3.cell fi fj d ay;rcases U with⟨v,rfl,rfl⟩ | ⟨s,ad,_⟩
      ·exact⟨u,J,rfl,j3.one u (eD J)⟩
      cases ad
     have fin:∀(w1:World) (aP:Own) (r:Value),(∀c,c<w.heap.size->ω c≠.tok t [(i,j)]->w1.heap[c]?=w.heap[c]?)->(∀c,c<w.heap.size->aP c=ω c)->(∀c id,¬c<w.heap.size->aP c≠.box id)->e8 w0 w1->k5 w0 w1 aP->
       bA w1 aP (fun q o=>o=.tok t ((i,j)::q)) (.aa bS es) gC->bA w1 aP (fun q o=>o=.tok t ((i,j)::q)) (.aa bS (es++bm)) r->
       Rel w0 ⟨(st.map (fA t i j bS es kT esT)).env.set d (.one (.bE t i j bS (es++bm) .jF)),(st.map (fA t i j bS es kT esT)).boxes⟩ (a.put (some d) r) w1:=by
      intro w1 aP r h3 cE CN iP ni l5 dS;have HY:=Jd lk h3 cE ob l5 tp;rw[Je Bz,Je tp]at HY;exact⟨aP,τ,(aI.Nk h3 cE CN iP ni lk.2 HY ob l5 l1).put (p:=.one (.bE t i j bS (es++bm) .jF)) ⟨r,rfl,dS,fun bq=>by cases bq⟩⟩
     have Bu:∀c id,¬c<w.heap.size->ω c≠.box id:=fun c id ai e=>ai (aI.owned.lt (by rw[e];simp))
     by_cases vA:bm.length=0
     ·have BF:bm=[]:=rm vA;subst BF;refine⟨gC,w,JB bH iS w ?_ ?_,fin w ω gC (fun _ _ _=>rfl) (fun _ _=>rfl) Bu aI.below aI.owned ar (by rw[ja];exact ar)⟩
      ·cases ar with
       | nil _ _ a0=>exact⟨a0,0,0,rfl,fF _⟩
       | row R k es b off cap arr ty cj us ah c6 ai ad aT hu ay=>exact⟨some ⟨b,off,none⟩,_,cap,rfl,ai⟩
      rcases j3.shape with⟨⟨a,h⟩,_⟩ | ⟨b,o,c,h,_⟩
      ·exact⟨a,0,h⟩
      exact⟨some ⟨b,o,none⟩,c,h⟩
     have j2:0<bm.length:=by omega
     rcases j3.shape with⟨_,h⟩ | ⟨bP,nW,iJ,rfl,nf⟩
     ·rw[h]at j2;simp at j2
     have grown:∀(w1:World) (bJ:Array Value) (r:Value) (jH:Nat),e9 w.heap.size w w1->w1.heap[w.heap.size]?=some (.cells bJ e (0,0))->r=.slice (some ⟨w.heap.size,0,none⟩) (es.length+bm.length) jH->
       es.length+bm.length<=jH->jH*bS<=bJ.size->(∀eE iF d,cq es eE iF=some d->∃u,bJ[eE*bS+iF]?=some u/\bA w ω (fun q o=>o=.tok t ((i,j)::(eE,iF)::q)) d u)->
       (∀x u,news[x]?=some u->bJ[es.length*bS+x]?=some u)->(∀e∈es,e.length=bS)->
       Rel w0 ⟨(st.map (fA t i j bS es kT esT)).env.set d (.one (.bE t i j bS (es++bm) .jF)),(st.map (fA t i j bS es kT esT)).boxes⟩ (a.put (some d) r) w1:=by
      intro w1 bJ r jH iP fc B4 e4 dN hold x6 rX;subst B4
      let aP:Own:=fun c=>if c=w.heap.size then .tok t [(i,j)] else ω c
      have cE:∀c,c<w.heap.size->aP c=ω c:=fun c ai=>by simp only[aP];rw[aZ (by omega)]
      have ll:aP w.heap.size=.tok t [(i,j)]:=by simp[aP]
      refine fin w1 aP _ (fun c ai _=>iP.block c ai) cE (fun c id ai=>?_) (aI.below.next iP) (fun b ah=>?_) (ar.frame fun c q ai aw=>⟨by rw[cE c ai];exact aw,iP.block c ai⟩) ?_
      ·simp only[aP];split
       ·simp
       exact Bu c id ai
      ·by_cases tm:b=w.heap.size
       ·subst tm;exact⟨.inl aI.below.size,bJ,e,fc⟩
       simp only[aP]at ah;rw[aZ tm]at ah;obtain⟨ax,hD,hO,aJ⟩:=aI.owned b ah;exact⟨ax,hD,hO,(iP.block b (aI.owned.lt ah)).trans aJ⟩
      have ee:∀x iF d,cq (es++bm) x iF=some d->∃u,bJ[x*bS+iF]?=some u/\bA w1 aP (fun q o=>o=.tok t ((i,j)::(x,iF)::q)) d u:=by
       intro x iF d ay;rw[wU]at ay;split at ay
       ·obtain⟨u,J,U⟩:=hold x iF d ay;exact⟨u,J,U.frame fun c q ai aw=>⟨by rw[cE c ai];exact aw,iP.block c ai⟩⟩
       rename_i ae;obtain⟨u,J,rfl,U⟩:=x4 _ _ _ ay;refine⟨u,?_,.v _ _ U⟩;rw[<-x6 _ u J]
       congr 1
       have:x=es.length+(x-es.length):=by omega
       rw[this,fG];simp only[Nat.add_sub_cancel_left];omega
      have hlen:(es++bm).length=es.length+bm.length:=mz;have np:∀e∈es++bm,e.length=bS:=by
       intro e' he;rcases hA.1 he with h | h
       ·exact rX e' h
       exact j3.rows e' h
      have:=bA.row (w:=w1) (ω:=aP) (fun q o=>o=.tok t ((i,j)::q)) bS (es++bm) w.heap.size 0 jH bJ e (0,0) (fun x j=>bJ.getD (x*bS+j) undef) fc ll (by omega) (by omega) np
       (fun x j d ay=>by obtain⟨u,J,_⟩:=ee x j d ay;rw[cP,J];simp[dF,J])
       (fun x j d ay=>by obtain⟨u,J,U⟩:=ee x j d ay;have:bJ.getD (x*bS+j) undef=u:=(by simp[dF,J]);rw[this];exact U)
      rw[hlen]at this;exact this
     subst tC;have pz:=ar;cases ar with
     | nil _ _ a0=>
      simp only[bG,cP]at fM dX;have ei:(Builtin.append_ #[gj,gj] ty #[.slice a0 0 0,.slice (some ⟨bP,nW,none⟩) bm.length iJ]).run P w=
        .ok (.slice (some ⟨w.heap.size,0,none⟩) bm.length (grownCap w bm.length 0 e)) (w.drew.alloc (.cells (news.toArray++Builtin.zeroCells z.cells (grownCap w bm.length 0 e-bm.length)) e)):=by
       cases a0 with
       | none=>exact run_append_nil (P:=P) w gj ty e fN z bH iS aL ⟨bP,nW,none⟩ bm.length iJ news j3.len nf j2 (by omega) (by omega)
       | some cm=>
        have:=run_append_grow (P:=P) w gj ty e fN z bH iS aL cm 0 0 [] (by simp) (fun j v a8=>by simp at a8) ⟨bP,nW,none⟩ bm.length iJ news j3.len nf (by omega) (by omega) (growslice_fits (by omega) (by simpa using fM));simpa using this
      have l0:=grownCap_ge w bm.length 0 e;exact⟨_,_,ei,grown _ (news.toArray++Builtin.zeroCells z.cells (grownCap w bm.length 0 e-bm.length)) (.slice (some ⟨w.heap.size,0,none⟩) bm.length (grownCap w bm.length 0 e)) (grownCap w bm.length 0 e)
       (((e9.refl _ _).drew).alloc (fF _) _) (kQ _ _) (by simp) (by simpa using l0) (by
        simp only[p',lJ,size_zeroCells,j3.len,l9,<-fG];exact gk _ (by omega))
       (fun eE j d ay=>by simp[cq]at ay) (fun x u ae=>by
        simp only[bG,Nat.zero_mul,cP];rw[hz,bb (by have:=(eJ.1 ae).1;simpa using this)];simpa using ae) (fun e he=>by cases he)⟩
     | row R k es b off cap arr gB cj us ah c6 ai ad fq hu ay=>
      have hF:ω b=.tok t [(i,j)]:=c6;obtain⟨rV,qe,rf,ga⟩:=aI.owned b (by rw[hF];simp);rw[ah]at ga;simp only[aH,Obj.cells.injEq]at ga;obtain⟨rfl,rfl,rfl⟩:=ga;have rP:b<w.heap.size:=(hB.1 ah).1;by_cases nn:es.length+bm.length<=cap
      ·have hmul:(es.length+bm.length)*fN.size<=cap*fN.size:=gk _ nn;rw[fG]at hmul;have Qr:=j3.len;have dc:off+es.length*fN.size+news.length<=arr.size:=by omega
       have ei:=Dw (P:=P) (ty:=ty) bH iS w b off es.length cap arr gB ah ⟨bP,nW,none⟩ bm.length iJ news j3.len nf j3.one nn dc;generalize lY:(arr.toList.take (off+es.length*fN.size)++news++arr.toList.drop (off+es.length*fN.size+news.length)).toArray=bJ at ei;have gr:∀x:Nat,bJ[x]?=if off+es.length*fN.size<=x/\x<off+es.length*fN.size+news.length then news[x-(off+es.length*fN.size)]? else arr[x]?:=by
        intro x;rw[<-lY,lI,wS (by simpa using dc)];simp
       have tE:bJ.size=arr.size:=by rw[<-lY];simp;omega
       have ie:=setRow_heap w b arr bJ gB (0,0) ah;have h3:∀c,c<w.heap.size->ω c≠.tok t [(i,j)]->(w.setRow b bJ).heap[c]?=w.heap[c]?:=fun c _ ai=>setRow_other w b c bJ fun e=>ai (by rw[e];exact hF)
       have kF:∀fi fj d u,bA w ω (fun q o=>o=.tok t ((i,j)::(fi,fj)::q)) d u->bA (w.setRow b bJ) ω (fun q o=>o=.tok t ((i,j)::(fi,fj)::q)) d u:=by
        intro fi fj d u mX;refine mX.frame fun c q ai df=>⟨df,h3 c ai fun e=>?_⟩
        rw[e]at df;simp at df
       refine⟨_,_,ei,fin (w.setRow b bJ) ω _ h3 (fun _ _=>rfl) Bu (aI.below.setRow rV bJ) (fun c gJ=>?_) (bA.Nh pz ah ie tE (fun x ae=>by rw[gr,aZ (by omega)]) (fun o e aM=>by rw[<-e];exact aM) (fun c p q ai aw=>⟨aw,h3 c ai fun e=>by rw[e]at aw;simp at aw⟩)) ?_⟩
       ·obtain⟨ax,hD,hO,aJ⟩:=aI.owned c gJ;by_cases qq:c=b
        ·subst qq;exact⟨ax,bJ,gB,ie⟩
        exact⟨ax,hD,hO,(setRow_other w b c bJ qq).trans aJ⟩
       have ee:∀x iF d,cq (es++bm) x iF=some d->∃u,bJ[off+x*fN.size+iF]?=some u/\bA (w.setRow b bJ) ω (fun q o=>o=.tok t ((i,j)::(x,iF)::q)) d u:=by
        intro x iF d db;rw[wU]at db;split at db
        ·rename_i ae;have vx:=(pS fq db).2;refine⟨us x iF,?_,kF x iF d _ (ay x iF d db)⟩;have:(x+1)*fN.size<=es.length*fN.size:=gk _ ae;rw[fG]at this;rw[gr,aZ (by omega),hu x iF d db]
        rename_i ae;obtain⟨u,J,rfl,U⟩:=x4 _ _ _ db;have QZ:=(eJ.1 J).1;have og:x*fN.size=es.length*fN.size+(x-es.length)*fN.size:=by rw[<-fG];congr 1;omega
        refine⟨u,?_,.v _ _ U⟩;rw[gr,bb (by omega),<-J]
        congr 1
        omega
       have hlen:(es++bm).length=es.length+bm.length:=mz;have np:∀e∈es++bm,e.length=fN.size:=by
        intro e' he;rcases hA.1 he with h | h
        ·exact fq e' h
        exact j3.rows e' h
       have:=bA.row (w:=w.setRow b bJ) (ω:=ω) (fun q o=>o=.tok t ((i,j)::q)) fN.size (es++bm) b off cap bJ gB (0,0) (fun x j=>bJ.getD (off+x*fN.size+j) undef) ie hF (by omega) (by omega) np
        (fun x j d ay=>by obtain⟨u,J,_⟩:=ee x j d ay;rw[J];simp[dF,J])
        (fun x j d ay=>by obtain⟨u,J,U⟩:=ee x j d ay;have:bJ.getD (off+x*fN.size+j) undef=u:=(by simp[dF,J]);rw[this];exact U)
       rw[hlen]at this;exact this
      have hmul:es.length*fN.size<=cap*fN.size:=gk _ ai;have od:((arr.toList.drop off).take (es.length*fN.size)).length=es.length*fN.size:=by simp;omega
      have ei:=run_append_grow (P:=P) w gj ty e fN z bH iS aL ⟨b,off,none⟩ es.length cap ((arr.toList.drop off).take (es.length*fN.size)) od (fun j v a8=>by
       rw[nO,cell_of_row w b (off+j) arr gB (0,0) ah];rw[h9]at a8;split at a8
       ·rw[iv]at a8;simpa using a8
       cases a8) ⟨bP,nW,none⟩ bm.length iJ news j3.len nf (by omega) (by omega) (growslice_fits (by omega) fM)
      have l0:=grownCap_ge w (es.length+bm.length) cap e;exact⟨_,_,ei,grown _ (((arr.toList.drop off).take (es.length*fN.size)).toArray++news.toArray++Builtin.zeroCells z.cells (grownCap w (es.length+bm.length) cap e-(es.length+bm.length))) _ (grownCap w (es.length+bm.length) cap e)
       (((e9.refl _ _).drew).alloc (fF _) _) (kQ _ _) rfl l0 (by
        simp only[p',lJ,size_zeroCells,j3.len,l9,od,<-fG];exact gk _ (by omega))
       (fun eE j d dp=>by
        obtain⟨tw,dq⟩:=pS fq dp;have:(eE+1)*fN.size<=es.length*fN.size:=gk _ tw;rw[fG]at this;refine⟨us eE j,?_,ay eE j d dp⟩;rw[hz,bb (by simp only[p',lJ,od];omega),hz,bb (by simp only[lJ,od];omega)];rw[lI,h9,bb (by omega),iv,<-hu eE j d dp];simp only[jy]
        congr 1
        omega)
       (fun x u ae=>by
        have eU:=(eJ.1 ae).1;rw[hz,bb (by simp only[p',lJ,od];omega),hz,aZ (by simp only[lJ,od];omega)];simp only[lJ,od,lI];rw[<-ae]
        congr 1
        omega) fq⟩
    cases h
   cases h
  cases h
 cases h
theorem b1.OI{P:Program}{w0:dC}{st a6:aG}{a:Act}{w:World}{ω:Own}{τ:Nat->Nat×Value}{d:Nat}{gj ty:TypeId}{t j k:Nat}{es:List (List D)}{x y:Operand}{ans bN:List bI}{obs:List Prop}
  (aI:b1 w0 st a w ω τ) (hp:Sat w ω τ (.bE t i j k es .here) (a.eval x)) (h:Dd P st d gj t i j k es y ans=some (a6,bN,obs)) (aM:cn obs):
  ∃z aD,(Builtin.append_ #[gj,gj] ty #[a.eval x,a.eval y]).run P w=.ok z aD/\Rel w0 a6 (a.put (some d) z) aD:=by
 unfold Dd at h;split at h
 ·rename_i e bS kT esT hf ea he QC;split at h
  ·rename_i inf bm rA tJ hi gT;split at h
   ·rename_i z aL;split at h
    ·rename_i ai;simp only[aH,a']at h;obtain⟨rfl,rfl,rfl⟩:=h;obtain⟨fM,dX,tp,Bz,BZ⟩:=aM;obtain⟨l1,Qs⟩:=BZ.append;refine aI.qd (p:=.one (.bE t i j k (es++bm) .jF)) (ans:=.el hf::ea) (bN:=rA) (esT:=esT) (kT:=kT) hp ?_ (obs:=((es.length+bm.length)*inf.bytes<=140737488355328)::(es.length+bm.length<=9223372036854775807)::(esT[i]?=some hf)::(hf[j]?=some (.aa k es))::tJ) ⟨fM,dX,tp,Bz,Qs⟩ (aI.root QC) (zn l1);unfold Sx.qd;simp only[he,hi,gT,aL];rw[bb ai]
    cases h
   cases h
  cases h
 cases h
