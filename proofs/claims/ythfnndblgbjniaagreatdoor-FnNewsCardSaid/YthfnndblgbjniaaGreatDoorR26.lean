import Derived.Test.YthfnndblgbjniaaGreatDoorR11
set_option linter.unusedVariables false
set_option linter.unusedSimpArgs false
namespace Go.Sx
open Go.RowKit
def BG(P:Program)(st:aD)(d:Nat)(elem:TypeId)(r:List b'):Stepped:=
 match P.info? elem with
 | some i=>match i.zero with
  | some z=>if d<cX then some (⟨(st.h5 d []).env.set d (.one (.eS d (z.cells.toList.map .v))),(st.h5 d []).boxes⟩,r,[]) else none
  | none=>none
 | none=>none
variable{w0:dY}{st bl:aD}{a:Act}{w:World}{ω:Own}{τ:Nat->Nat×Value}{d:Nat}{ans cf:List b'}{obs:List Prop}
theorem cy.U0{P:Program}{elem:TypeId}(aW:cy w0 st a w ω τ)
  (h:BG P st d elem ans=some (bl,cf,obs)):
  ∃z aP,(Instr.alloc elem true (.tuple #[])).run P w=.ok z aP/\Rel w0 bl (a.put (some d) z) aP:=by
 unfold BG at h;split at h
 ·rename_i i hi;split at h
  ·rename_i z bk;split at h
   ·rename_i aF;simp only[aT,bq]at h;obtain⟨rfl,_,_⟩:=h;have U:=aW.h5 d aF [] (k:=0) (cap:=0) (es:=[]) (arr:=z.cells) (ty:=elem) ((fC.refl _ _).alloc (ht _) (.cells z.cells elem)) (p6) (ht _) (by simp) (by simp)
     (by grind[cN])
    refine⟨.pointer (some ⟨w.heap.size,0,none⟩),w.alloc (.cells z.cells elem),by simp_all[Instr.alloc,zeroValue,typeInfo,newVar,newRow],_,_,U.1.put (p:=.one (.eS d (z.cells.toList.map .v))) ?_⟩;refine⟨w.heap.size,elem,z.cells,rfl,by simp[nS],p6,by simp,fun j c ap=>?_⟩;rw[dk,b0]at ap;obtain⟨u,hu,rfl⟩:=ap;exact⟨u,by grind,rfl⟩
   cases h
  cases h
 cases h
def eR(t:Nat):Tag->Option Tag
 | .free=>some .free
 | .own s=>if s=t then none else some (.own s)
 | .ro s=>if s=t then none else some (.ro s)
variable{o:c4}
theorem BH{t:Nat}{g dS:Tag}{q:List (Nat×Nat)}(h:eR t g=some dS)(aI:g.R q o):dS=g/\∀dB,o≠.tok t dB:=by
 cases g with
 | free=>simp_all[eR,aT,Tag.R]
 | own s=>
  simp_all[eR,aT,Tag.R,c4.tok.injEq]
 | ro s=>
  simp only[eR]at h;split at h
  ·cases h
  rename_i aj;simp only[aT]at h;subst h;simp only[Tag.R]at aI;grind
variable{s:Nat}
theorem G'{x:Value}(this:a.tmps[s]?=some x):a.put (some s) x=a:=by
 simp only[Act.put];have:a.tmps.setIfInBounds s x=a.tmps:=by
  grind
 rw[this]
def aC.lb:aC->eB
 | .v x=>.v x
 | .a1 c=>.v (.bool c)
 | .J t k es=>.J t k es
 | _=>.cp
def GH(p:aE):Option (List eB):=p.leaves.map (·.map aC.lb)
theorem aC.Ng{l:aC}{y:Value}(h:Sat w ω τ l y):pw w ω τ l.lb y:=by
 cases l<;>first | exact h | exact trivial
def eB.leaf:eB->aC
 | .cp=>.cp
 | .v x=>.v x
 | .J t k es=>.J t k es
theorem eB.dt{τ:Nat->Nat×Value}{c:eB}{y:Value}(h:pw w ω τ c y):Sat w ω τ c.leaf y:=by
 cases c<;>exact h
def BI(P:Program)(st:aD)(ty:TypeId)(s:Nat)(q:aE)(ans:List b'):Stepped:=
 match (st.env.getD s .cp).leaf,GH q,P.info? ty with
 | some (.eS t vs),some cs,some i=>
  if cs.length=i.size/\cs.length<=vs.length then
   let mU:=st.map (aC.cB (eR t) fun _=>true)
   some (⟨mU.env.set s (.one (.eS t ((cs++vs.drop cs.length).map (eB.cB (eR t))))),mU.boxes⟩,ans,[])
  else none
 | _,_,_=>none
theorem cy.arw{P:Program}{ty:TypeId}{q:aE}{v:Value}
  (aW:cy w0 st a w ω τ) (aM:cH (Sat w ω τ) q v) (h:BI P st ty s q ans=some (bl,cf,obs)):
  ∃aP,(Instr.storeAt ty (a.eval (.tmp s)) v).run P w=.ok () aP/\Rel w0 bl a aP:=by
 unfold BI at h;split at h
 ·rename_i t vs cs i e1 e2 ch;split at h
  ·rename_i ap;obtain⟨bX,cw⟩:=ap;simp only[aT,bq]at h;obtain⟨rfl,_,_⟩:=h;unfold GH at e2;rw[b0]at e2;obtain⟨ls,e2,rfl⟩:=e2;obtain⟨tM,oB⟩:=aE.vX e2 aM;have eL:v.cells.size=ls.length:=tM.1;rw[cr]at bX cw;have hM:st.env[s]?=some (.one (.eS t vs)):=by
    rw[jJ]at e1;cases e:st.env[s]? with
    | none=>grind[aE.leaf]
    | some p=>
     rw[e]at e1;simp only[j5]at e1;cases p with
     | ek as=>cases e1
     | az x=>
      cases x with
      | agg ls=>cases e1
      | one l=>grind[aE.leaf,aT]
   obtain⟨y,bO,ec⟩:=aW.env s _ hM;obtain⟨b,hF,arr,rfl,aw,vJ,WU,nE⟩:=ec;have pJ:a.eval (.tmp s)=ptrTo b:=by simp_all[Act.eval]
   have e5:=run_storeCells_at P b 0 hF v.cells.toList 0 arr w vJ (by simp;omega) oB;obtain⟨cc,nt⟩:∃cc,cc=(arr.toList.take (0+0)++v.cells.toList++arr.toList.drop (0+0+v.cells.toList.length)).toArray:=⟨_,rfl⟩
   rw[<-nt]at e5;have Vv:cc=(v.cells.toList++arr.toList.drop v.cells.size).toArray:=by grind
   refine⟨w.setRow b cc,?_,?_⟩
   ·rw[pJ];simp only[ptrTo,Instr.storeAt,Instr.sureAddr,Sem.run_bind,Sem.run_pure,Result.andThen_ok,storeVar,sizeOf,typeInfo,run_program,ch];grind
   have jS:=setRow_heap w b arr cc hF (0,0) vJ;have bj:kx w ω τ (w.setRow b cc) ω τ (eR t) (fun _=>true):=by
    refine⟨?_,?_,fun id c _ ap=>ap,rfl,fun _ _=>rfl⟩
    ·intro g dS c q ay _ aM;obtain⟨rfl,xV⟩:=BH ay aM;grind[setRow_other]
    intro g dS y ay bO;cases g with
    | free=>simp_all[eR,aT,trivial]
    | own x=>
     grind[eR,aT]
    | ro x=>
     simp_all[eR,aT,trivial]
   have U:cy w0 (st.map (aC.cB (eR t) fun _=>true)) a (w.setRow b cc) ω τ:=by
    refine aW.eo _ bj.sat (aW.below.setRow (aW.owned b (by rw[aw];simp)).1 _) ?_ (fun id c ap=>⟨ap,setRow_other w b c _ fun e=>by grind⟩) (fun id c ap=>ap) (fun _ _=>rfl);intro c ap;obtain⟨U,ja,jk,aa⟩:=aW.owned c ap;grind[setRow_other]
   have Mm:cc.size=(ls.map aC.lb++vs.drop (ls.map aC.lb).length).length/\∀(j:Nat) (c:eB),(ls.map aC.lb++vs.drop (ls.map aC.lb).length)[j]?=some c->∃u,cc[j]?=some u/\pw w ω τ c u:=by
    refine⟨by grind,fun j c ap=>?_⟩;rw[Vv,qk];by_cases bm:j<ls.length
    ·rw[D5 (by grind),dk,b0]at ap;obtain⟨l,au,rfl⟩:=ap;obtain⟨u,gq,eV⟩:=tM.2 j l au;grind[aC.Ng]
    grind
   have MK:=BJ bj.lb Mm.1 Mm.2;have aa:=U.put (d:=s) (p:=.one (.eS t ((ls.map aC.lb++vs.drop (ls.map aC.lb).length).map (eB.cB (eR t))))) (v:=ptrTo b) ⟨b,hF,cc,rfl,aw,jS,MK⟩;rw[G' bO]at aa;exact⟨ω,τ,aa⟩
  cases h
 cases h
def GK(st:aD)(d:Nat):Option aD:=
 match st.env.getD d .cp with
 | .az (.one (.eS t vs))=>
  if d<cX then some ⟨(st.env.map (aE.map (aC.cB (eR t) (iq d)))).set d (.one (.ptr d 0)),(d,vs.map fun c=>aC.cB (eR t) (iq d) c.leaf)::(nQ d st.boxes).map fun x=>(x.1,x.2.map (aC.cB (eR t) (iq d)))⟩ else none
 | _=>none
theorem aiA(h:Rel w0 st a w)(a7:GK st d=some bl):Rel w0 bl a w:=by
 obtain⟨ω,τ,h⟩:=h;unfold GK at a7;split at a7
 ·rename_i t vs he;split at a7
  case isFalse=>cases a7
  rename_i sb;simp only[aT]at a7;subst a7;have hM:st.env[d]?=some (.one (.eS t vs)):=by
   grind
  obtain⟨v,x3,q2⟩:=h.env d _ hM;obtain⟨b,ty,arr,rfl,aw,vJ,WU,nE⟩:=q2
  let a':Own:=fun c=>if c=b then .box d else match ω c with | .box i=>if i=d then .bz else .box i | o=>o
  have mv:a' b=.box d:=by simp[a']
  have hN:∀c,c≠b->a' c=(match ω c with | .box i=>if i=d then .bz else .box i | o=>o):=by
   grind
  have bj:kx w ω τ w a' τ (eR t) (iq d):=by
   refine⟨?_,?_,?_,rfl,fun _ _=>rfl⟩
   ·intro g dS c q ay _ aM;obtain⟨rfl,xV⟩:=BH ay aM;have h0:c≠b:=fun e=>xV [] (by grind)
    refine⟨?_,rfl⟩;rw[hN c h0];cases dS with
    | free=>grind[Tag.R]
    | own s=>grind[Tag.R]
    | ro s=>
     simp only[Tag.R]at aM ⊢;grind
   ·intro g dS y ay bO;cases g with
    | free=>simp_all[eR,aT,trivial]
    | own s=>
     grind[eR,aT]
    | ro s=>
     simp_all[eR,aT,trivial]
   intro i c hp ap;have h0:c≠b:=fun e=>by grind
   simp_all[iq,cW]
  have oC:mc w0 w a':=by
   intro c ap;by_cases e:c=b
   ·subst e;exact h.owned c (by rw[aw];simp)
   rw[hN c e]at ap;exact h.owned c (fun e'=>by grind)
  have key:=h.EH (bs:=(d,vs.map fun c=>aC.cB (eR t) (iq d) c.leaf)::(nQ d st.boxes).map fun x=>(x.1,x.2.map (aC.cB (eR t) (iq d)))) bj h.below oC ?_ (fun i c hi ap=>by
   grind)
  ·have:=key.put (d:=d) (p:=.one (.ptr d 0)) (v:=ptrTo b) ⟨b,mv,rfl⟩;rw[G' x3]at this;exact⟨a',τ,this⟩
  intro i eW au;simp only[dh]at au;split at au
  ·rename_i hi;subst hi;have e:=fB au;subst e;refine⟨b,arr,ty,mv,?_,vJ,by grind,fun j l bm=>?_⟩
   ·grind
   rw[dk,b0]at bm;obtain⟨c,ap,rfl⟩:=bm;obtain⟨u,gq,eV⟩:=nE j c ap;exact⟨u,gq,bj.sat _ _ (eB.dt eV)⟩
  rename_i hi;rw[re,b0]at au;obtain⟨h3,bV,rfl⟩:=au;have c1:i≠d:=fun e=>hi e.symm
  rw[wj c1]at bV;obtain⟨c,cc,pi,ap,hu,bH,ec⟩:=h.boxes i h3 bV;refine⟨c,cc,pi,bj.box i c (by grind[iq]) ap,?_,bH,ec.map bj.sat⟩;grind
 cases a7
def Ey(st:aD)(d:Nat):Option aD:=
 match st.env.getD d .cp,dh d st.boxes with
 | .az (.one (.ptr dn 0)),some ls=>
  if dn=d/\d<cX then some ⟨(st.env.map (aE.map (aC.cB (eR d) (iq d)))).set d (.one (.eS d ((ls.map aC.lb).map (eB.cB (eR d))))),(nQ d st.boxes).map fun x=>(x.1,x.2.map (aC.cB (eR d) (iq d)))⟩ else none
 | _,_=>none
theorem aiB(h:Rel w0 st a w)(a7:Ey st d=some bl):Rel w0 bl a w:=by
 obtain⟨ω,τ,h⟩:=h;unfold Ey at a7;split at a7
 ·rename_i dn ls he cZ;split at a7
  case isFalse=>cases a7
  rename_i sb;obtain⟨rfl,sb⟩:=sb;simp only[aT]at a7;subst a7;have hM:st.env[dn]?=some (.one (.ptr dn 0)):=by
   grind
  obtain⟨v,x3,q2⟩:=h.env dn _ hM;obtain⟨cj,hX,rfl⟩:=q2;obtain⟨b,arr,ty,aw,VA,vJ,tM⟩:=h.boxes dn ls cZ;have Mh:cj=b:=VA cj hX;subst Mh
  let a':Own:=fun c=>if c=cj then .tok dn [] else match ω c with | .tok s q=>if s=dn then .bz else .tok s q | o=>o
  have mv:a' cj=.tok dn []:=by simp[a']
  have hN:∀c,c≠cj->a' c=(match ω c with | .tok s q=>if s=dn then .bz else .tok s q | o=>o):=by
   grind
  have bj:kx w ω τ w a' τ (eR dn) (iq dn):=by
   refine⟨?_,?_,?_,rfl,fun _ _=>rfl⟩
   ·intro g dS c q ay _ aM;obtain⟨rfl,xV⟩:=BH ay aM;have h0:c≠cj:=fun e=>by
     rw[e,aw]at aM;cases dS with
     | free=>cases aM
     | own s=>cases aM
     | ro s=>
      rcases aM with aM | ⟨dB,aM⟩
      ·cases aM
      cases aM
    grind
   ·intro g dS y ay bO;cases g with
    | free=>simp_all[eR,aT,trivial]
    | own s=>
     grind[eR,aT]
    | ro s=>
     simp_all[eR,aT,trivial]
   intro i c hp ap;simp only[iq,cW]at hp;grind
  have oC:mc w0 w a':=by
   intro c ap;by_cases e:c=cj
   ·subst e;exact h.owned c (by rw[aw];simp)
   rw[hN c e]at ap;exact h.owned c (fun e'=>by grind)
  have Mg:∀i c,a' c=.box i->ω c=.box i/\c≠cj:=by
   grind
  have key:=h.EH (bs:=(nQ dn st.boxes).map fun x=>(x.1,x.2.map (aC.cB (eR dn) (iq dn)))) bj h.below oC ?_ (fun i c _ ap=>(Mg i c ap).1)
  ·have:=key.put (d:=dn) (p:=.one (.eS dn ((ls.map aC.lb).map (eB.cB (eR dn))))) (v:=ptrTo cj) ⟨cj,ty,arr,rfl,mv,vJ,BJ bj.lb (by rw[tM.1];simp) (fun j c ap=>by
    rw[dk,b0]at ap;obtain⟨l,au,rfl⟩:=ap;obtain⟨u,gq,eV⟩:=tM.2 j l au;grind[aC.Ng])⟩
   rw[G' (show a.tmps[dn]?=some (ptrTo cj) from x3)]at this;exact⟨a',τ,this⟩
  intro i eW au;rw[re,b0]at au;obtain⟨h3,bV,rfl⟩:=au;have c1:i≠dn:=fun e=>by grind[HD]
  rw[wj c1]at bV;obtain⟨c,cc,pi,ap,hu,bH,ec⟩:=h.boxes i h3 bV;exact⟨c,cc,pi,bj.box i c (by grind[iq]) ap,fun de eE=>hu de (Mg i de eE).1,bH,ec.map bj.sat⟩
 cases a7
def yI:List Nat->aD->Option aD
 | [],st=>some st
 | d::ds,st=>(Ey st d).bind (yI ds)
theorem NT:∀{ds:List Nat} {st bl:aD},Rel w0 st a w->yI ds st=some bl->Rel w0 bl a w
 | [],st,bl,h,a7=>by grind[yI,aT]
 | d::ds,st,bl,h,a7=>by
  simp only[yI,kW]at a7;obtain⟨dx,U,aa⟩:=a7;exact NT (aiB h U) aa
def yJ:List Nat->aD->Option aD
 | [],st=>some st
 | d::ds,st=>(GK st d).bind (yJ ds)
theorem NU:∀{ds:List Nat} {st bl:aD},Rel w0 st a w->yJ ds st=some bl->Rel w0 bl a w
 | [],st,bl,h,a7=>by grind[yJ,aT]
 | d::ds,st,bl,h,a7=>by
  simp only[yJ,kW]at a7;obtain⟨dx,U,aa⟩:=a7;exact NU (aiA h U) aa
def jg(s n:Nat):Tag->Option Tag
 | .own x=>if x=s then some (.ro n) else if x=n then none else some (.own x)
 | .ro x=>if x=s then some (.ro n) else if x=n then none else some (.ro x)
 | .free=>some .free
def iu(s n l:Nat):c4->c4
 | .tok x q=>if x=s then (match q with | []=>.tok n [] | (i,j)::r=>if i<l then .bz else .tok n ((i-l,j)::r)) else if x=n then .bz else .tok x q
 | o=>o
variable{l n:Nat}
theorem Ii(h:iu s n l o≠.bz):o≠.bz:=by rintro rfl;exact h rfl
theorem sC{id:Nat}:iu s n l o=.box id<->o=.box id:=by
 cases o with
 | bz=>simp[iu]
 | box i=>simp[iu]
 | tok x q=>
  simp only[iu];grind
theorem NV{q:List (Nat×Nat)}:iu s n l (.tok s q)=.bz\/∃dB,iu s n l (.tok s q)=.tok n dB:=by
 simp only[iu,gO];grind
theorem Ij{k:Nat}{z:Value}(hO:n<cX):kx w ω τ w (fun b=>iu s n l (ω b)) (fx τ n k z) (jg s n) (fun _=>true):=by
 refine⟨?_,?_,?_,rfl,fun t bZ=>by simp only[fx];grind⟩
 ·intro g dS b q ay _ aM;refine⟨?_,rfl⟩;cases g with
  | free=>simp only[jg,aT]at ay;subst ay;simp only[Tag.R]at aM ⊢;rw[aM];rfl
  | own x=>
   simp only[jg]at ay;simp only[Tag.R]at aM;split at ay
   ·grind[aT,Tag.R,NV]
   rename_i aj;split at ay
   ·cases ay
   rename_i a7;simp only[aT]at ay;subst ay;simp_all[Tag.R,iu,bE]
  | ro x=>
   simp only[jg]at ay;simp only[Tag.R]at aM;split at ay
   ·rename_i aj;simp only[aT]at ay;subst ay;subst aj;rcases aM with aM | ⟨dB,aM⟩
    ·rw[aM];exact .inl rfl
    rw[aM];exact NV
   rename_i aj;split at ay
   ·cases ay
   rename_i a7;simp only[aT]at ay;subst ay;rcases aM with aM | ⟨dB,aM⟩
   ·rw[aM];exact .inl rfl
   rw[aM];simp only[iu,bE aj,bE a7];exact .inr ⟨dB,rfl⟩
 ·intro g dS y ay bO;cases g with
  | free=>simp only[jg,aT]at ay;subst ay;trivial
  | own x=>
   simp only[jg]at ay;split at ay
   ·simp only[aT]at ay;subst ay;trivial
   rename_i aj;split at ay
   ·cases ay
   rename_i a7;simp only[aT]at ay;subst ay;simp_all[Tag.dG,fx,bE]
  | ro x=>
   simp only[jg]at ay;split at ay
   ·simp only[aT]at ay;subst ay;trivial
   split at ay
   ·cases ay
   simp only[aT]at ay;subst ay;trivial
 intro id b _ aw;exact sC.2 aw
def mI(s d:Nat):Nat:=if s<cX then s else d
def wX(P:Program)(st:aD)(d:Nat)(t:TypeId)(p:aE)(cP hi hP:Option Operand)(ans:List b'):Stepped:=
 match pc P t,p.leaf,hP with
 | some (_,k),some (.J (.own s) cm es),none=>
  if k=cm/\mI s d<cX then
   match kL st cP,kL st hi with
   | some l,some h=>
    let mU:=st.map (aC.cB (jg s (mI s d)) fun _=>true)
    some (⟨mU.env.set d (.one (.J (.own (mI s d)) k ((es.drop (l.getD 0).toNat).take ((h.getD es.length).toNat-(l.getD 0).toNat)))),mU.boxes⟩,ans,[0<=l.getD 0,l.getD 0<=h.getD es.length,h.getD es.length<=es.length])
   | _,_=>none
  else none
 | _,_,_=>none
theorem cy.wX{P:Program}{t:TypeId}{p:aE}{v:Value}{cP hi hP:Option Operand}
  (aW:cy w0 st a w ω τ) (hp:cH (Sat w ω τ) p v) (h:wX P st d t p cP hi hP ans=some (bl,cf,obs)) (a6:cv obs):
  ∃z,(Instr.sliceAt t v (cP.map a.eval) (hi.map a.eval) (hP.map a.eval)).run P w=.ok z w/\Rel w0 bl (a.put (some d) z) w:=by
 unfold Go.Sx.wX at h;split at h
 ·rename_i e k s cm es e1 e2;split at h
  ·rename_i bc;obtain⟨rfl,aj⟩:=bc;split at h
   ·rename_i l bH ch dP;simp only[aT,bq]at h;obtain⟨rfl,_,rfl⟩:=h;obtain⟨hu,i,kD,bk⟩:=uF e1;obtain⟨aI,_⟩:=aE.dt e2 hp;obtain⟨cx,cd,cD,_⟩:=a6;have aA:=yy aW ch;have aO:=yy aW dP;have oA:(cP.map a.eval=none/\l.getD 0=0)\/∃k,cP.map a.eval=some (.int k (l.getD 0)):=by
     grind
    have qP:(hi.map a.eval=none/\bH.getD es.length=es.length)\/∃k,hi.map a.eval=some (.int k (bH.getD es.length)):=by
     grind
    have key:∀(L m:Nat) (z:Value),L<=m->bS w (fun b=>iu s (mI s d) L (ω b)) (Tag.own (mI s d)).R (.J k ((es.drop L).take (m-L))) z->
      Rel w0 ⟨(st.map (aC.cB (jg s (mI s d)) fun _=>true)).env.set d (.one (.J (.own (mI s d)) k ((es.drop L).take (m-L)))),(st.map (aC.cB (jg s (mI s d)) fun _=>true)).boxes⟩ (a.put (some d) z) w:=by
     intro L m z _ Be;have U:cy w0 (st.map (aC.cB (jg s (mI s d)) fun _=>true)) a w (fun b=>iu s (mI s d) L (ω b)) (fx τ (mI s d) k z):=
      aW.eo _ (Ij (by omega)).sat aW.below (fun b aw=>aW.owned b (Ii aw)) (fun id b aw=>⟨sC.2 aw,rfl⟩) (fun id b aw=>sC.1 aw)
       (fun t bZ=>by simp only[fx];grind)
     exact⟨_,_,U.put (p:=.one (.J (.own (mI s d)) k ((es.drop L).take (m-L)))) ⟨Be,by simp[Tag.dG,fx]⟩⟩
    cases aI with
    | nil _ _ a0=>
     simp only[dM] at*;have bD:l.getD 0=0:=by omega
     have Vb:bH.getD ((0:Nat):Int)=0:=by omega
     refine⟨.slice a0 0 0,?_,?_⟩
     ·simp only[Instr.sliceAt,Sem.run_bind,run_underlying hu,Result.andThen_ok,Instr.slice,Option.map_none];rw[yx oA qP cx cd cD];simp_all[sizeOf,typeInfo]
     refine key _ _ _ (by omega) ?_;simp only[List.drop_nil,List.take_nil];exact .nil _ _ _
    | row R k es b off cap arr ty cF us aw dz ap eL bc il aF=>
     refine⟨sliced (some ⟨b,off,none⟩) (l.getD 0).toNat (bH.getD es.length).toNat cap k,?_,?_⟩
     ·simp only[Instr.sliceAt,Sem.run_bind,run_underlying hu,Result.andThen_ok,Instr.slice,Option.map_none];rw[yx oA qP cx cd (by omega)];simp_all[sizeOf,typeInfo,sliced]
     refine key _ _ _ (by omega) ?_;have:=bS.sub (.row _ k es b off cap arr ty cF us aw dz ap eL bc il aF) (l:=(l.getD 0).toNat) (m:=(bH.getD es.length).toNat) (by omega) (by omega)
      (hH:=fun q o=>match q with | []=>o=.tok s [] | (i,j)::r=>o=.tok s ((i+(l.getD 0).toNat,j)::r)) (fun o h=>h) (fun i j q o as6 h=>by
       grind[Tag.R,Nat.sub_add_cancel])
     refine this.frame fun c q _ aM=>⟨?_,rfl⟩
     simp only[Tag.R];cases q with
     | nil=>grind[iu]
     | cons x r=>
      obtain⟨i,j⟩:=x;simp only at aM;rw[aM];have cz:¬(i+(l.getD 0).toNat<(l.getD 0).toNat):=by omega
      simp_all[iu,gO,bE,Nat.add_sub_cancel]
   cases h
  cases h
 cases h
end Go.Sx
namespace Go.Sx
open Go.RowKit
def laid(arr:Array Value)(o:Nat)(cs:List Value):Array Value:=(arr.toList.take o++cs++arr.toList.drop (o+cs.length)).toArray
theorem Cu{arr:Array Value}{o:Nat}{cs:List Value}(h:o+cs.length<=arr.size):(laid arr o cs).size=arr.size:=by
 simp[laid];omega
theorem Cv{arr:Array Value}{o:Nat}{cs:List Value}(h:o+cs.length<=arr.size)(x:Nat):
  (laid arr o cs)[x]?=if o<=x/\x<o+cs.length then cs[x-o]? else arr[x]?:=by
 simp only[laid,qk,rR];have au:(arr.toList.take o).length=o:=by simp;omega
 split
 ·rename_i ao;rw[D4 (by omega),D5 (by omega),au]
 rename_i ao;by_cases U:x<o
 ·rw[D5 (by omega),pk,bU U,vj]
 rw[D4 (by omega),D4 (by omega),au,th,vj]
 congr 1
 omega
theorem NW{P:Program}(w:World)(t e ty:TypeId)(z:Value)(bZ:P.underlying t=some (.slice e))(br:(zeroValue e).run P w=.ok z w)(b o n c:Nat)(arr:Array Value)(tb:TypeId)
  (aw:w.heap[b]?=some (.cells arr tb (0,0))) (ez:o+n*z.cells.size<=arr.size) (U:∀v∈z.cells.toList,v.oneCell'=true):
  ∃zs:List Value,zs.length=n*z.cells.size/\(∀m,m<n*z.cells.size->zs[m]?=z.cells[m % z.cells.size]?)/\(Builtin.clear_ #[t] ty #[.slice (some ⟨b,o,none⟩) n c]).run P w=.ok (.tuple #[]) (if n=0 then w else w.setRow b (laid arr o zs)):=by
 refine⟨(Builtin.zeroCells z.cells n).toList,by simp[Builtin.zeroCells],fun m hm=>?_,?_⟩
 ·have Bd:0<z.cells.size:=by
   rcases Nat.eq_zero_or_pos z.cells.size with h | h
   ·rw[h]at hm;simp at hm
   exact h
  simp only[Builtin.zeroCells,Array.toList_map,Array.toList_range,dk,List.getElem?_range hm,rP];rw[getElem!_pos z.cells _ (Nat.mod_lt _ Bd),jI (Nat.mod_lt _ Bd)]
 have oB:∀v∈(Builtin.zeroCells z.cells n).toList,v.oneCell'=true:=by
  intro v MU;simp only[Builtin.zeroCells,Array.toList_map,kX,Array.toList_range,List.mem_range]at MU;obtain⟨i,hi,rfl⟩:=MU;have Bd:0<z.cells.size:=by
   rcases Nat.eq_zero_or_pos z.cells.size with h | h
   ·rw[h]at hi;simp at hi
   exact h
  refine U _ ?_;rw[getElem!_pos z.cells _ (Nat.mod_lt _ Bd)];simp
 have e5:=run_storeCells_at P b o tb (Builtin.zeroCells z.cells n).toList 0 arr w aw (by simpa[Builtin.zeroCells]using ez) oB;simp only[mX]at e5;cases n with
 | zero=>simp[Builtin.clear_,run_underlying bZ]
 | succ n=>simp[Builtin.clear_,run_underlying bZ,br,e5,laid]
def wc(t k:Nat)(cq:List (List D)):aC->aC
 | .J (.own s) cm es=>if s=t then .J (.own t) k cq else .J (.own s) cm es
 | l=>aC.cB (eR t) (fun _=>true) l
def Cw(P:Program)(st:aD)(d:Nat)(t:TypeId)(x:Operand)(cP:Option Operand)(fU:TypeId)(ans:List b'):Stepped:=
 match pc P t,(st.bj x).leaf with
 | some (e,k),some (.J (.own gf) cm es)=>
  match P.info? e with
  | some i=>
   match i.zero,kL st cP with
   | some z,some l=>
    if k=cm/\t=fU/\z.cells.size=k/\z.cells.toList.all (fun v=>v.oneCell')=true/\d<st.env.length then
     let mU:=st.map (wc gf k (es.take (l.getD 0).toNat++List.replicate (es.length-(l.getD 0).toNat) (z.cells.toList.map .v)))
     some (⟨mU.env.set d .cp,mU.boxes⟩,ans,[0<=l.getD 0,l.getD 0<es.length,Flat es])
    else none
   | _,_=>none
  | none=>none
 | _,_=>none
theorem cy.clear{P:Program}{w0:dY}{st bl:aD}{a:Act}{w:World}{ω:Own}{τ:Nat->Nat×Value}{d:Nat}{t fU:TypeId}{x:Operand}{cP:Option Operand}{ans cf:List b'}{obs:List Prop}
  (aW:cy w0 st a w ω τ) (h:Cw P st d t x cP fU ans=some (bl,cf,obs)) (a6:cv obs):
  d<a.tmps.size/\∃y z aP,(Instr.sliceAt t (a.eval x) (cP.map a.eval) none none).run P w=.ok y w/\(∀ty,(Builtin.clear_ #[fU] ty #[y]).run P w=.ok z aP)/\Rel w0 bl (a.put (some d) y) aP:=by
 unfold Cw at h;split at h
 ·rename_i e k gf cm es he ao;split at h
  ·rename_i i hi;split at h
   ·rename_i z l bk My;split at h
    ·rename_i ap;obtain⟨rfl,rfl,nF,x',pH⟩:=ap;refine⟨by rw[aW.size];exact pH,?_⟩;simp only[aT,bq]at h;obtain⟨rfl,_,rfl⟩:=h;obtain⟨cx,cd,A4,_⟩:=a6;obtain⟨hu,i2,lM,eL⟩:=uF he;obtain⟨aI,bH⟩:=aE.dt ao (aW.bj x);have aA:=yy aW My;have oA:(cP.map a.eval=none/\l.getD 0=0)\/∃k,cP.map a.eval=some (.int k (l.getD 0)):=by
      rcases aA with⟨h,rfl⟩ | ⟨k,n,h,rfl⟩
      ·exact .inl ⟨h,rfl⟩
      exact .inr ⟨k,h⟩
     generalize pJ:a.eval x=Dr at aI bH;cases aI with
     | nil _ _ a0=>simp at cd;omega
     | row R k es b off cap arr ty cF us aw dz hZ aj bc il aF=>
      have jQ:ω b=.tok gf []:=dz;obtain⟨qU,r1,tc,hX⟩:=aW.owned b (by rw[jQ];simp);rw[aw]at hX;simp only[aT,Obj.cells.injEq]at hX;obtain⟨rfl,rfl,rfl⟩:=hX;obtain⟨L,cz⟩:∃L,L=(l.getD 0).toNat:=⟨_,rfl⟩
      have asH:L<es.length:=by omega
      rw[<-cz];have ez:off+L*k+(es.length-L)*z.cells.size<=arr.size:=by
       rw[nF,UQ,<-gx,show L+(es.length-L)=es.length by omega];have:=gN k hZ;omega
      have W4:(zeroValue e).run P w=.ok z w:=by simp[zeroValue,typeInfo,hi,bk]
      obtain⟨zs,kH,M3,xJ⟩:∃zs:List Value,zs.length=(es.length-L)*z.cells.size/\(∀m,m<(es.length-L)*z.cells.size->zs[m]?=z.cells[m % z.cells.size]?)/\
        ∀ty,(Builtin.clear_ #[t] ty #[.slice (some ⟨b,off+L*k,none⟩) (es.length-L) (cap-L)]).run P w=.ok (.tuple #[]) (if es.length-L=0 then w else w.setRow b (laid arr (off+L*k) zs)):=by
       obtain⟨zs,U,aa,aA⟩:=NW (P:=P) w t e 0 z hu W4 b (off+L*k) (es.length-L) (cap-L) arr ty aw ez (fp.1 x');exact⟨zs,U,aa,fun pi=>aA⟩
      rw[bE (by omega)]at xJ;rw[nF]at kH M3;have c2:off+L*k+zs.length<=arr.size:=by rw[kH,<-nF];exact nF▸ez
      refine⟨.slice (some ⟨b,off+L*k,none⟩) (es.length-L) (cap-L),_,_,?_,xJ,?_⟩
      ·simp only[Instr.sliceAt,Sem.run_bind,run_underlying hu,Result.andThen_ok,Instr.slice,Option.map_none];rw[yx (h:=es.length) oA (.inl ⟨rfl,rfl⟩) cx (by omega) (by omega)];have c1:¬cap=L:=by omega
       simp[sizeOf,typeInfo,lM,eL,<-cz,c1,Addr.add_lit]
      -- atU ars behind it
      have jS:=setRow_heap w b arr (laid arr (off+L*k) zs) ty (0,0) aw;have fN:bS (w.setRow b (laid arr (off+L*k) zs)) ω (Tag.own gf).R (.J k (es.take L++List.replicate (es.length-L) (z.cells.toList.map .v))) (.slice (some ⟨b,off,none⟩) es.length cap):=by
       have hlen:(es.take L++List.replicate (es.length-L) (z.cells.toList.map D.v)).length=es.length:=by simp;omega
       have eI:∀x j d,cN (es.take L++List.replicate (es.length-L) (z.cells.toList.map D.v)) x j=some d->∃v,d=.v v/\(laid arr (off+L*k) zs)[off+x*k+j]?=some v/\v.oneCell'=true:=by
        intro x j d dH;rw[yC]at dH;have FQ:(es.take L).length=L:=by simp;omega
        rw[FQ]at dH;split at dH
        ·rename_i FT;have tJ:cN es x j=some d:=by
          unfold cN at dH ⊢;rwa[pk,bU FT]at dH
         obtain⟨k7,k5⟩:=rh bc tJ;have pL:∃v,d=.v v:=by
          unfold cN at tJ;cases e1:es[x]? with
          | none=>simp[e1]at tJ
          | some ds=>
           simp only[e1,l8]at tJ;exact A4 ds (fe e1) d (fe tJ)
         obtain⟨v,rfl⟩:=pL;have aO:=aF x j _ tJ;have a8:=il x j _ tJ;generalize us x j=u at aO a8;cases aO with
         | v _ _ bG=>
          refine⟨v,rfl,?_,bG⟩;rw[Cv c2,bE ?_,a8];have:(x+1)*k<=L*k:=gN _ FT;rw[gx]at this;omega
        rename_i FT;unfold cN at dH;rw[Ak]at dH;split at dH
        ·rename_i x7;simp only[l8,dk,b0]at dH;obtain⟨v,br,rfl⟩:=dH;have xQ:j<k:=by
          have:=(fA.1 br).1;rw[LJ,nF]at this;exact this
         refine⟨v,rfl,?_,fp.1 x' v (fe br)⟩;obtain⟨m,hm⟩:∃m,x=L+m:=⟨x-L,by omega⟩
         subst hm;have Wl:m*k+j<(es.length-L)*k:=by
          have:(m+1)*k<=(es.length-L)*k:=gN _ (by omega);rw[gx]at this;omega
         have e1:off+(L+m)*k+j=off+L*k+(m*k+j):=by rw[gx];omega
         rw[e1,Cv c2,bU (by omega),show off+L*k+(m*k+j)-(off+L*k)=m*k+j by omega,M3 _ Wl,show (m*k+j) % k=j by rw[Nat.mul_comm m k,Nat.mul_add_mod,Ap xQ]];simpa using br
        simp at dH
       have:=bS.row (w:=w.setRow b (laid arr (off+L*k) zs)) (ω:=ω) (Tag.own gf).R k (es.take L++List.replicate (es.length-L) (z.cells.toList.map .v)) b off cap _ ty (0,0)
        (fun x j=>(laid arr (off+L*k) zs).getD (off+x*k+j) undef) jS dz (by omega) (by rw[Cu c2];exact aj)
        (by
         intro e' tK;rcases lv.1 tK with h | h
         ·exact bc e' (vk h)
         rw[List.eq_of_mem_replicate h];simp[nF])
        (fun x j d dH=>by obtain⟨v,rfl,U,_⟩:=eI x j d dH;simp[eg,U])
        (fun x j d dH=>by
         obtain⟨v,rfl,U,aa⟩:=eI x j d dH;have:(laid arr (off+L*k) zs).getD (off+x*k+j) undef=v:=by simp[eg,U]
         rw[this];exact .v _ _ aa)
       rwa[hlen]at this
      have bj:kx w ω τ (w.setRow b (laid arr (off+L*k) zs)) ω τ (eR gf) (fun _=>true):=by
       refine⟨?_,?_,fun id c _ ap=>ap,rfl,fun _ _=>rfl⟩
       ·intro g dS c q ay _ aM;obtain⟨rfl,xV⟩:=BH ay aM;exact⟨aM,setRow_other w b c _ fun e=>xV [] (by rw[e];exact jQ)⟩
       intro g dS y ay bO;cases g with
       | free=>simp only[eR,aT]at ay;subst ay;trivial
       | own x=>
        simp only[eR]at ay;split at ay
        ·cases ay
        simp only[aT]at ay;subst ay;exact bO
       | ro x=>
        simp only[eR]at ay;split at ay
        ·cases ay
        simp only[aT]at ay;subst ay;trivial
      have ec:∀jx v,Sat w ω τ jx v->Sat (w.setRow b (laid arr (off+L*k) zs)) ω τ (wc gf k (es.take L++List.replicate (es.length-L) (z.cells.toList.map .v)) jx) v:=by
       intro jx v FP;by_cases Ml:∃s cm cq,jx=.J (.own s) cm cq
       ·obtain⟨s,cm,cq,rfl⟩:=Ml;simp only[wc];split
        ·rename_i e5;subst e5;obtain⟨_,aa⟩:=FP;simp only[Tag.dG]at aa bH;rw[aa]at bH;simp only[bq]at bH;obtain⟨rfl,rfl⟩:=bH;exact⟨fN,aa⟩
        rename_i e5;have:=bj.sat (.J (.own s) cm cq) v FP;simpa[aC.cB,eR,e5]using this
       have dZ:wc gf k (es.take L++List.replicate (es.length-L) (z.cells.toList.map .v)) jx=aC.cB (eR gf) (fun _=>true) jx:=by
        unfold wc;split
        ·exact absurd ⟨_,_,_,rfl⟩ Ml
        rfl
       rw[dZ];exact bj.sat jx v FP
      have U:cy w0 (st.map (wc gf k (es.take L++List.replicate (es.length-L) (z.cells.toList.map .v)))) a (w.setRow b (laid arr (off+L*k) zs)) ω τ:=by
       refine aW.eo _ ec (aW.below.setRow qU _) ?_ (fun id c ap=>⟨ap,setRow_other w b c _ fun e=>by rw[e,jQ]at ap;cases ap⟩) (fun id c ap=>ap) (fun _ _=>rfl);intro c ap;obtain⟨U,ja,jk,aa⟩:=aW.owned c ap;by_cases e:c=b
       ·subst e;exact⟨U,_,ty,jS⟩
       exact⟨U,ja,jk,(setRow_other w b c _ e).trans aa⟩
      exact⟨ω,τ,U.put (p:=.cp) trivial⟩
    cases h
   cases h
  cases h
 cases h
end Go.Sx
namespace Go.Sx
open Go.RowKit
def bg.j9(p:aC->Prop):bg->Prop
 | .one l=>p l
 | .agg ls=>∀l∈ls,p l
def aE.j9(p:aC->Prop):aE->Prop
 | .az a=>a.j9 p
 | .ek as=>∀a∈as,a.j9 p
variable{S jo:aC->Value->Prop}{p:aC->Prop}{f:aC->aC}{ls:List aC}
theorem i'.map'(h:∀l v,p l->S l v->jo (f l) v){vs:Array Value}(ai:∀l∈ls,p l)(aj:i' S ls vs):i' jo (ls.map f) vs:=by
 refine⟨by simpa using aj.1,fun i l au=>?_⟩;rw[dk,b0]at au;obtain⟨fk,bV,rfl⟩:=au;obtain⟨u,U,aa⟩:=aj.2 i fk bV;exact⟨u,U,h _ _ (ai fk (fe bV)) aa⟩
theorem iZ.map'(h:∀l v,p l->S l v->jo (f l) v):∀{a:bg} {y:Value},a.j9 p->iZ S a y->iZ jo (a.map f) y
 | .one l,y,ai,aj=>h _ _ ai aj
 | .agg ls,y,ai,⟨vs,e,aj⟩=>⟨vs,e,aj.map' h ai⟩
theorem cH.map'(h:∀l v,p l->S l v->jo (f l) v):∀{q:aE} {y:Value},q.j9 p->cH S q y->cH jo (q.map f) y
 | .az a,y,ai,aj=>show iZ jo (a.map f) y from iZ.map' h ai (show iZ S a y from aj)
 | .ek as,y,ai,⟨vs,e,a7,aj⟩=>⟨vs,e,by simpa using a7,fun i a hi=>by
   rw[dk,b0]at hi;obtain⟨a0,bV,rfl⟩:=hi;obtain⟨u,U,aa⟩:=aj i a0 bV;exact⟨u,U,iZ.map' h (ai a0 (fe bV)) aa⟩⟩
variable{w0:dY}{st:aD}{a:Act}{w aP:World}{ω a':Own}{τ:Nat->Nat×Value}
theorem cy.arB{cL:Nat->Nat×Value}{p:aC->Prop}(h:cy w0 st a w ω τ)(f:aC->aC)
  (ec:∀l v,p l->Sat w ω τ l v->Sat aP a' cL (f l) v) (he:∀q∈st.env,q.j9 p) (aw:∀id ls,dh id st.boxes=some ls->∀l∈ls,p l) (pG:fX w0 aP) (oC:mc w0 aP a')
  (qK:∀id b,ω b=.box id->a' b=.box id/\aP.heap[b]?=w.heap[b]?) (xG:∀id b,a' b=.box id->ω b=.box id) (se:∀t,cX<=t->cL t=τ t):cy w0 (st.map f) a aP a' cL where
 defers:=h.defers
 size:=by simp[aD.map,h.size]
 below:=pG
 owned:=oC
 fixed:=fun t bZ=>(se t bZ).trans (h.fixed t bZ)
 pinned:=fun id b hi aw=>h.pinned id b hi (xG id b aw)
 env:=by
  intro i q aM;simp only[aD.map]at aM;rw[dk,b0]at aM;obtain⟨gJ,bV,rfl⟩:=aM;obtain⟨v,U,aa⟩:=h.env i gJ bV;exact⟨v,U,cH.map' ec (he gJ (fe bV)) aa⟩
 boxes:=by
  intro id ls au;simp only[aD.map]at au;rw[re,b0]at au;obtain⟨h3,bV,rfl⟩:=au;obtain⟨b,arr,ty,hh,hu,bH,aj⟩:=h.boxes id h3 bV;obtain⟨U,aa⟩:=qK id b hh;exact⟨b,arr,ty,U,fun de eE=>hu de (xG id de eE),aa.trans bH,aj.map' ec (aw id h3 bV)⟩
def aC.idx(t j:Nat):aC->List Nat
 | .aL s a b _ _ _=>if s=t/\b=j then [a] else []
 | _=>[]
def bg.idx(t j:Nat):bg->List Nat
 | .one l=>l.idx t j
 | .agg ls=>ls.flatMap (aC.idx t j)
def aE.idx(t j:Nat):aE->List Nat
 | .az a=>a.idx t j
 | .ek as=>as.flatMap (bg.idx t j)
def aD.idx(t j:Nat)(st:aD):List Nat:=st.env.flatMap (aE.idx t j)++st.boxes.flatMap fun x=>x.2.flatMap (aC.idx t j)
def Cx(t i j:Nat)(l:aC):Prop:=∀a∈l.idx t j,a=i
theorem NY{id:Nat}:∀{bs:List (Nat×List aC)} {ls:List aC},dh id bs=some ls->(id,ls)∈bs
 | [],_,h=>by cases h
 | (i,l)::r,ls,h=>by
  simp only[dh]at h;split at h
  ·rename_i hi;subst hi;rw[fB h];exact jn
  exact hb _ (NY h)
variable{t i j:Nat}
theorem aD.W7(h:∀a∈st.idx t j,a=i):∀q∈st.env,q.j9 (Cx t i j):=by
 intro q aM;have U:∀a∈q.idx t j,a=i:=fun a ai=>h a (hG _ (mW.2 ⟨q,aM,ai⟩))
 have Me:∀x:bg,(∀a∈x.idx t j,a=i)->x.j9 (Cx t i j):=by
  intro x ao;cases x with
  | one l=>exact ao
  | agg ls=>exact fun l au a ai=>ao a (mW.2 ⟨l,au,ai⟩)
 cases q with
 | az x=>exact Me x U
 | ek as=>exact fun x ao=>Me x fun a ai=>U a (mW.2 ⟨x,ao,ai⟩)
theorem aD.W6(h:∀a∈st.idx t j,a=i){id:Nat}(aw:dh id st.boxes=some ls):∀l∈ls,Cx t i j l:=by
 intro l au a ai;exact h a (ig _ (mW.2 ⟨(id,ls),NY aw,mW.2 ⟨l,au,ai⟩⟩))
def gu(t i j k:Nat)(cq:List (List D))(kT:Nat)(esT:List (List D)):aC->aC
 | .J (.own s) dE du=>if s=t then .J (.own t) kT esT else .J (.own s) dE du
 | .cU (.own s) dE du a b=>if s=t then .cU (.own t) kT esT a b else .cU (.own s) dE du a b
 | .J (.ro s) dE du=>if s=t then .cp else .J (.ro s) dE du
 | .cU (.ro s) dE du a b=>if s=t then .cp else .cU (.ro s) dE du a b
 | .aL s a b dE du m=>if s=t/\b=j then (if dE=k/\m.home=true then .aL t i j k cq m else .cp) else .aL s a b dE du m
 | .eS _ _=>.cp
 | l=>l
variable{v:Value}
theorem s0.arE{u:Value}(U:s0 w ω τ t i j u)(aa:s0 w ω τ t i j v):u=v:=by
 obtain⟨kT,b,off,len,cap,arr,ty,cF,e3,a2,a3,a4⟩:=U;obtain⟨Xa,de,atz,att,nf,cc,pi,asC,hK,gj,xj,Ex⟩:=aa;rw[e3]at hK;simp only[bq,Value.slice.injEq,aT,Addr.mk.injEq]at hK;obtain⟨rfl,⟨rfl,rfl,_⟩,_,_⟩:=hK;rw[a3]at xj;simp only[aT,Obj.cells.injEq]at xj;obtain⟨rfl,_,_⟩:=xj;rw[a4]at Ex;exact fB Ex
variable{k kT:Nat}{esT:List (List D)}
theorem cy.S9(h:cy w0 st a w ω τ){cq:List (List D)}{yT gg:Value}
  (iM:∀c,c<w.heap.size->ω c≠.tok t [(i,j)]->aP.heap[c]?=w.heap[c]?) (c8:∀c,c<w.heap.size->a' c=ω c) (Gs:∀c id,¬c<w.heap.size->a' c≠.box id)
  (iK:fX w0 aP) (qU:mc w0 aP a') (q5:τ t=(kT,yT)) (mu:bS aP a' (Tag.own t).R (.J kT esT) yT)
  (pK:s0 w ω τ t i j gg) (nC:bS aP a' (fun q o=>o=.tok t ((i,j)::q)) (.J k cq) gg) (nx:∀a∈st.idx t j,a=i):cy w0 (st.map (gu t i j k cq kT esT)) a aP a' τ:=by
 have cF:∀{R:List (Nat×Nat)->c4->Prop} {d:D} {v:Value},(∀q,¬R q (.tok t [(i,j)]))->bS w ω R d v->bS aP a' R d v:=by
  intro R d v a7 aI;refine aI.frame fun b q bM aM=>?_
  rw[c8 b bM];exact⟨aM,iM b bM fun e=>a7 q (by rw[<-e];exact aM)⟩
 have home:∀{s a b:Nat} {u:Value},s0 w ω τ s a b u->s0 aP a' τ s a b u:=by
  rintro s a b u ⟨kT,c,off,len,cap,arr,ty,cF,e3,a2,a3,a4⟩;have bM:c<w.heap.size:=(iV.1 a3).1;exact⟨kT,c,off,len,cap,arr,ty,cF,e3,by rw[c8 c bM];exact a2,(iM c bM (by rw[a2];simp)).trans a3,a4⟩
 refine h.arB (p:=Cx t i j) _ ?_ (aD.W7 nx) (fun id ls aw=>aD.W6 nx aw) iK qU (fun id b aw=>?_) (fun id b aw=>?_) (fun _ _=>rfl)
 ·intro l v ay aj;cases l with
  | cp=>exact trivial
  | v x=>exact aj
  | a1 c=>exact aj
  | ptr id o=>
   obtain⟨c,ap,e⟩:=aj;exact⟨c,by rw[c8 c (h.owned.lt (by simp[ap]))];exact ap,e⟩
  | fK f ids=>
   obtain⟨bs,e,a7,hi⟩:=aj;refine⟨bs,e,a7,fun x id hid=>?_⟩;obtain⟨b,U,aa⟩:=hi x id hid;exact⟨b,U,by rw[c8 b (h.owned.lt (by simp[aa]))];exact aa⟩
  | gZ ds o=>
   obtain⟨c,e,aI⟩:=aj;exact⟨c,e,cF (fun q aM=>by cases aM) aI⟩
  | fd d=>exact cF (R:=Tag.free.R) (fun q aM=>by cases aM) aj
  | c9 t0 dE du=>exact⟨cF (R:=Tag.free.R) (fun q aM=>by cases aM) aj.1,aj.2⟩
  | eS=>exact trivial
  | J g dE du=>
   cases g with
   | free=>exact⟨cF (R:=Tag.free.R) (fun q aM=>by cases aM) aj.1,ad⟩
   | own s=>
    simp only[gu];split
    ·rename_i e;subst e;have aa:=aj.2;simp only[Tag.dG]at aa;rw[q5]at aa;simp only[bq]at aa;rw[<-aa.2];exact⟨mu,q5⟩
    rename_i c1;exact⟨cF (R:=(Tag.own s).R) (fun q aM=>by simp only[Tag.R,c4.tok.injEq]at aM;exact c1 aM.1.symm) aj.1,aj.2⟩
   | ro s=>
    simp only[gu];split
    ·exact trivial
    rename_i c1;refine⟨cF (R:=(Tag.ro s).R) (fun q aM=>?_) aj.1,ad⟩;rcases aM with aM | ⟨dB,aM⟩
    ·cases aM
    simp only[c4.tok.injEq]at aM;exact c1 aM.1.symm
  | cU g dE du x y=>
   obtain⟨gj,oP,od,e,lM,lO,mo⟩:=aj;cases g with
   | free=>exact⟨gj,oP,od,e,lM,cF (R:=Tag.free.R) (fun q aM=>by cases aM) lO,ad⟩
   | own s=>
    simp only[gu];split
    ·rename_i e1;subst e1;simp only[Tag.dG]at mo;rw[q5]at mo;simp only[bq]at mo;obtain⟨rfl,rfl⟩:=mo;have au:esT.length=du.length:=by
      obtain⟨_,_,e2⟩:=mu.len;simp only[Value.slice.injEq]at e2;exact e2.2.1.symm
     refine⟨gj,oP,od,e,by omega,?_,?_⟩
     ·rw[au];exact mu
     rw[au];exact q5
    rename_i c1;exact⟨gj,oP,od,e,lM,cF (R:=(Tag.own s).R) (fun q aM=>by simp only[Tag.R,c4.tok.injEq]at aM;exact c1 aM.1.symm) lO,mo⟩
   | ro s=>
    simp only[gu];split
    ·exact trivial
    rename_i c1;refine⟨gj,oP,od,e,lM,cF (R:=(Tag.ro s).R) (fun q aM=>?_) lO,ad⟩;rcases aM with aM | ⟨dB,aM⟩
    ·cases aM
    simp only[c4.tok.injEq]at aM;exact c1 aM.1.symm
  | aL s x y dE du m=>
   simp only[gu];obtain⟨u,hu,aI,hm⟩:=aj;split
   ·rename_i ap;obtain⟨rfl,rfl⟩:=ap;have ao:x=i:=ay x (by simp[aC.idx]);subst ao;split
    ·rename_i ap;obtain⟨rfl,Wk⟩:=ap;have e:=(hm Wk).arE pK;subst e;have au:cq.length=du.length:=by
      obtain⟨_,_,e1⟩:=nC.len;obtain⟨_,_,e2⟩:=aI.len;rw[e1]at e2;simp only[Value.slice.injEq]at e2;omega
     exact⟨u,by rw[au];exact hu,nC,fun _=>home pK⟩
    exact trivial
   rename_i ap;refine⟨u,hu,cF (fun q aM=>?_) aI,fun bH=>home (hm bH)⟩;simp only[c4.tok.injEq,qo,bq]at aM;exact ap ⟨aM.1.symm,aM.2.1.2.symm⟩
 ·have bM:=h.owned.lt (b:=b) (by simp[aw]);exact⟨by rw[c8 b bM];exact aw,iM b bM (by rw[aw];simp)⟩
 by_cases bM:b<w.heap.size
 ·rw[c8 b bM]at aw;exact aw
 exact absurd aw (Gs b id bM)
def rG(t:Nat):aC->Option (Nat×List (List D))
 | .J (.own s) k es=>if s=t then some (k,es) else none
 | _=>none
def sD(t:Nat):List aE->Option (Nat×List (List D))
 | []=>none
 | .az (.one l)::r=>match rG t l with | some x=>some x | none=>sD t r
 | .az (.agg ls)::r=>match ls.findSome? (rG t) with | some x=>some x | none=>sD t r
 | _::r=>sD t r
def Cy(t:Nat)(st:aD):Option (Nat×List (List D)):=
 match sD t st.env with
 | some x=>some x
 | none=>(st.boxes.find? fun x=>(x.2.findSome? (rG t)).isSome).bind fun x=>(dh x.1 st.boxes).bind fun ls=>ls.findSome? (rG t)
theorem Ik{l:aC}(h:rG t l=some (kT,esT))(aj:Sat w ω τ l v):Sat w ω τ (.J (.own t) kT esT) v:=by
 unfold rG at h;split at h
 ·split at h
  ·rename_i e;subst e;simp only[aT,bq]at h;obtain⟨rfl,rfl⟩:=h;exact aj
  cases h
 cases h
theorem NZ{vs:Array Value}(h:ls.findSome? (rG t)=some (kT,esT))(aj:i' (Sat w ω τ) ls vs):∃v,Sat w ω τ (.J (.own t) kT esT) v:=by
 obtain⟨l,au,aa⟩:=List.exists_of_findSome?_eq_some h;obtain⟨x,ao⟩:=pr.1 au;obtain⟨u,_,hu⟩:=aj.2 x l ao;exact⟨u,Ik aa hu⟩
theorem Cz:∀{ct:List aE},sD t ct=some (kT,esT)->(∀p∈ct,∃v,cH (Sat w ω τ) p v)->∃v,Sat w ω τ (.J (.own t) kT esT) v
 | [],h,_=>by cases h
 | p::r,h,aj=>by
  have aI:∀p∈r,∃v,cH (Sat w ω τ) p v:=fun p hp=>aj p (hb _ hp)
  obtain⟨v,br⟩:=aj p jn;cases p with
  | ek as=>exact Cz (by simpa[sD]using h) aI
  | az x=>
   cases x with
   | one l=>
    simp only[sD]at h;split at h
    ·rename_i y e;simp only[aT]at h;subst h;exact⟨v,Ik e br⟩
    exact Cz h aI
   | agg ls=>
    simp only[sD]at h;split at h
    ·rename_i y e;simp only[aT]at h;subst h;obtain⟨vs,_,br⟩:=br;exact NZ e br
    exact Cz h aI
theorem cy.root(h:cy w0 st a w ω τ)(e:Cy t st=some (kT,esT)):∃v,Sat w ω τ (.J (.own t) kT esT) v:=by
 unfold Cy at e;split at e
 ·rename_i x e1;simp only[aT]at e;subst e;refine Cz e1 fun p hp=>?_
  obtain⟨x,ao⟩:=pr.1 hp;obtain⟨v,_,br⟩:=h.env x p ao;exact⟨v,br⟩
 rw[kW]at e;obtain⟨x,_,e⟩:=e;rw[kW]at e;obtain⟨ls,aw,e⟩:=e;obtain⟨b,arr,ty,_,_,_,aj⟩:=h.boxes x.1 ls aw;exact NZ e aj
theorem N0{cq:List (List D)}{hV:List D}{yT gg:Value}(aj:Sat w ω τ (.J (.own t) kT esT) yT)
  (iM:∀c,c<w.heap.size->ω c≠.tok t [(i,j)]->aP.heap[c]?=w.heap[c]?) (c8:∀c,c<w.heap.size->a' c=ω c)
  (pK:s0 w ω τ t i j gg) (nC:bS aP a' (fun q o=>o=.tok t ((i,j)::q)) (.J k cq) gg) (er:esT[i]?=some hV):bS aP a' (Tag.own t).R (.J kT (esT.set i (hV.set j (.J k cq)))) yT:=by
 obtain⟨aI,bH⟩:=aj;simp only[Tag.dG]at bH;obtain⟨Xa,cj,GM,Nd,LW,r1,tc,asD,e3,a2,a3,a4⟩:=pK;rw[bH]at e3;simp only[bq]at e3;obtain⟨rfl,rfl⟩:=e3;have ij:i<esT.length:=(fA.1 er).1;have hlen:(esT.set i (hV.set j (.J k cq))).length=esT.length:=gz;generalize bO:Value.slice (some ⟨cj,GM,none⟩) Nd LW=LI at aI;cases aI with
 | nil=>simp at ij
 | row R kT esT b off cap arr ty cF us aw dz ap eL bc hu aF=>
  simp only[Value.slice.injEq,aT,Addr.mk.injEq]at bO;obtain⟨⟨rfl,rfl,_⟩,rfl,rfl⟩:=bO;rw[aw]at a3;simp only[aT,Obj.cells.injEq]at a3;obtain⟨rfl,_,_⟩:=a3;have tG:cj<w.heap.size:=(iV.1 aw).1;have A5:hV.length=kT:=bc hV (fe er);have tP:∀e∈esT.set i (hV.set j (.J k cq)),e.length=kT:=by
   intro e he;rcases ps he with h | rfl
   ·exact bc e h
   rw[gz];exact A5
  have key:∀x y d,cN (esT.set i (hV.set j (.J k cq))) x y=some d->arr[GM+x*kT+y]?=some (us x y)/\bS aP a' (fun q=>(Tag.own t).R ((x,y)::q)) d (us x y):=by
   intro x y d dH;have FU:=rh tP dH;rw[hlen]at FU;obtain⟨d0,A1⟩:=Ol bc FU.1 FU.2;have tS:=hu x y d0 A1;refine⟨tS,?_⟩;rw[Hy ij]at dH;by_cases ao:x=i
   ·subst ao;rw[bU rfl,l7]at dH;by_cases Gq:j=y
    ·subst Gq;rw[bU rfl,bU (by omega)]at dH;rw[<-fB dH];rw[a4]at tS;rw[<-fB tS];exact nC
    rw[bE Gq]at dH;have ov:cN esT x y=some d:=by simp[cN,er,dH]
    refine (aF x y d ov).frame fun c q ap aM=>?_
    rw[c8 c ap];refine⟨aM,iM c ap fun e=>?_⟩;simp only[Tag.R,e,c4.tok.injEq,qo,bq]at aM;exact Gq aM.2.1.2
   rw[bE ao]at dH;refine (aF x y d dH).frame fun c q ap aM=>?_
   rw[c8 c ap];refine⟨aM,iM c ap fun e=>?_⟩;simp only[Tag.R,e,c4.tok.injEq,qo,bq]at aM;exact ao aM.2.1.1.symm
  have jQ:ω cj=.tok t []:=dz;have:=bS.row (w:=aP) (ω:=a') (Tag.own t).R kT (esT.set i (hV.set j (.J k cq))) cj GM LW arr ty cF us ((iM cj tG (by rw[jQ];simp)).trans aw) (by rw[c8 cj tG];exact jQ) (by omega) eL tP
   (fun x y d aF=>(key x y d aF).1) (fun x y d aF=>(key x y d aF).2)
  rw[hlen]at this;exact this
def Il(P:Program)(st:aD)(ty:TypeId)(t i j k:Nat)(es:List (List D))(x y:Nat)(q:aE)(ans:List b'):Stepped:=
 match q.leaves,P.info? ty,Cy t st,ans with
 | some xs,some inf,some (kT,esT),.el ds::.el hV::r=>
  match xs.mapM aC.hE with
  | some ys=>
   if xs.length=inf.size/\ds.length=k/\y+ys.length<=k/\xs.all (fun l=>l.tok.isNone)=true then
    some (st.map (gu t i j k (es.set x (jP ds y ys)) kT (esT.set i (hV.set j (.J k (es.set x (jP ds y ys)))))),r,(es[x]?=some ds)::(esT[i]?=some hV)::(st.idx t j).map fun a=>a=i)
   else none
  | none=>none
 | _,_,_,_=>none
theorem aiC{l:aC}{d:D}(h:l.hE=some d)(bZ:l.tok.isNone=true){u:Value}(aj:Sat w ω τ l u):∃z,d=.v z/\u=z/\z.oneCell'=true:=by
 cases l with
 | v z=>
  simp only[aC.hE]at h;split at h
  ·simp only[aT]at h;subst h;have:u=z:=aj;exact⟨z,rfl,this,‹_›⟩
  cases h
 | a1 c=>
  simp only[aC.hE,aT]at h;subst h;exact⟨_,rfl,aj,rfl⟩
 | J g k es=>
  cases g with
  | own s=>simp[aC.tok]at bZ
  | free=>cases h
  | ro s=>cases h
 | cp=>cases h
 | ptr=>cases h
 | cU=>cases h
 | gZ=>cases h
 | fd=>cases h
 | c9=>cases h
 | fK=>cases h
 | aL=>cases h
 | eS=>cases h
theorem cy.arx{P:Program}{bl:aD}{ty:TypeId}{x y:Nat}{es:List (List D)}{q:aE}{p:Value}{ans cf:List b'}{obs:List Prop}
  (aW:cy w0 st a w ω τ) (hp:Sat w ω τ (.aL t i j k es (.at_ x y)) p) (aM:cH (Sat w ω τ) q v) (h:Il P st ty t i j k es x y q ans=some (bl,cf,obs)) (a6:cv obs):
  ∃aP,(Instr.storeAt ty p v).run P w=.ok () aP/\Rel w0 bl a aP:=by
 unfold Il at h;split at h
 ·rename_i xs inf kT esT ds hV r e1 e2 dP;split at h
  ·rename_i ys ch;split at h
   ·rename_i ap;obtain⟨kB,kf,jR,A0⟩:=ap;simp only[aT,bq]at h;obtain⟨rfl,_,rfl⟩:=h;obtain⟨er,vG,nx⟩:=a6;have nx:=BB nx;obtain⟨yT,mu⟩:=aW.root dP;obtain⟨aj,oB⟩:=aE.vX e1 aM;obtain⟨M0,Gp⟩:=lU ch;obtain⟨gg,⟨b,off,cap,rfl,rfl,ij⟩,aI,hm⟩:=hp;have pK:=hm rfl;have qX:=aI;cases aI with
    | nil=>simp at ij
    | row R k es b off cap arr hF cF us aw dz hZ eL gp hu aF=>
     have jQ:ω b=.tok t [(i,j)]:=dz;obtain⟨tN,r1,tc,hX⟩:=aW.owned b (by rw[jQ];simp);rw[aw]at hX;simp only[aT,Obj.cells.injEq]at hX;obtain⟨rfl,rfl,rfl⟩:=hX;have tG:b<w.heap.size:=(iV.1 aw).1;have hmul:(x+1)*k<=cap*k:=gN _ (by omega);rw[gx]at hmul;have nE:v.cells.size=xs.length:=aj.1;have ez:off+x*k+y+v.cells.toList.length<=arr.size:=by simp;omega
     have e5:=run_storeCells_at P b (off+x*k+y) hF v.cells.toList 0 arr w aw (by simpa using ez) oB;simp only[mX]at e5;generalize nt:(arr.toList.take (off+x*k+y)++v.cells.toList++arr.toList.drop (off+x*k+y+v.cells.toList.length)).toArray=cc at e5;have hM:∀z:Nat,cc[z]?=if off+x*k+y<=z/\z<off+x*k+y+xs.length then v.cells[z-(off+x*k+y)]? else arr[z]?:=by
      intro z;rw[<-nt,qk,yA (by simpa using ez)];simp[nE]
     have tR:cc.size=arr.size:=by rw[<-nt];simp;simp at ez;omega
     have jS:=setRow_heap w b arr cc hF (0,0) aw;have iM:∀c,c<w.heap.size->ω c≠.tok t [(i,j)]->(w.setRow b cc).heap[c]?=w.heap[c]?:=fun c _ ap=>setRow_other w b c cc fun e=>ap (by rw[e];exact jQ)
     have nC:bS (w.setRow b cc) ω (fun q o=>o=.tok t ((i,j)::q)) (.J k (es.set x (jP ds y ys))) (.slice (some ⟨b,off,none⟩) es.length cap):=by
      have hlen:(es.set x (jP ds y ys)).length=es.length:=gz;have A5:ds.length=k:=kf;have lN:∀fV fW d,cN es fV fW=some d->bS (w.setRow b cc) ω (fun q o=>o=.tok t ((i,j)::(fV,fW)::q)) d (us fV fW):=by
       intro fV fW d ov;refine (aF fV fW d ov).frame fun c q ap et=>⟨et,iM c ap fun e=>?_⟩
       rw[e]at et;simp at et
      have eI:∀fV fW d,cN (es.set x (jP ds y ys)) fV fW=some d->∃u,cc[off+fV*k+fW]?=some u/\bS (w.setRow b cc) ω (fun q o=>o=.tok t ((i,j)::(fV,fW)::q)) d u:=by
       intro fV fW d dH;rw[Hy ij]at dH;by_cases ao:fV=x
       ·subst ao;rw[bU rfl,Oo (by omega)]at dH;split at dH
        ·rename_i bO;obtain⟨l,nA,c2⟩:=Gp _ _ dH;obtain⟨u,gq,eV⟩:=aj.2 _ _ nA;obtain⟨z,rfl,rfl,bk⟩:=aiC c2 (fp.1 A0 l (fe nA)) eV;refine⟨u,?_,.v _ _ bk⟩;rw[hM,bU (by omega),<-gq]
         congr 1;omega
        rename_i bO;have ov:cN es fV fW=some d:=by simp[cN,er,dH]
        refine⟨us fV fW,?_,lN fV fW d ov⟩;rw[hM,bE (by omega),hu fV fW d ov]
       rw[bE ao]at dH;obtain⟨k7,WZ⟩:=rh gp dH;refine⟨us fV fW,?_,lN fV fW d dH⟩;rw[hM,bE ?_,hu fV fW d dH];rcases Nat.lt_or_gt_of_ne ao with h | h
       ·have:(fV+1)*k<=x*k:=gN _ h;rw[gx]at this;omega
       have:(x+1)*k<=fV*k:=gN _ h;rw[gx]at this;omega
      have oE:∀e∈es.set x (jP ds y ys),e.length=k:=by
       intro e he;rcases ps he with h | rfl
       ·exact gp e h
       rw[Oq (by omega)];exact A5
      have:=bS.row (w:=w.setRow b cc) (ω:=ω) (fun q o=>o=.tok t ((i,j)::q)) k (es.set x (jP ds y ys)) b off cap cc hF (0,0) (fun fV fW=>cc.getD (off+fV*k+fW) undef) jS jQ (by omega) (by omega) oE
       (fun x y d dX=>by obtain⟨u,U,_⟩:=eI x y d dX;rw[U];simp[eg,U])
       (fun x y d dX=>by obtain⟨u,U,aa⟩:=eI x y d dX;have:cc.getD (off+x*k+y) undef=u:=(by simp[eg,U]);rw[this];exact aa)
      rw[hlen]at this;exact this
     refine⟨w.setRow b cc,?_,ω,τ,aW.S9 (yT:=yT) iM (fun _ _=>rfl) (fun c id ap e=>?_) (aW.below.setRow tN cc) ?_ mu.2 (N0 mu iM (fun _ _=>rfl) pK nC vG) pK nC nx⟩
     ·simp only[Instr.storeAt,Instr.sureAddr,Sem.run_bind,Sem.run_pure,Result.andThen_ok,storeVar,sizeOf,typeInfo,run_program,e2];have WI:¬(v.cells.size≠inf.size):=by simp;omega
      rw[bE WI];exact e5
     ·exact ap (aW.owned.lt (by rw[e];simp))
     intro c h0;obtain⟨aA,ja,jk,aO⟩:=aW.owned c h0;by_cases xH:c=b
     ·subst xH;exact⟨aA,cc,hF,jS⟩
     exact⟨aA,ja,jk,(setRow_other w b c cc xH).trans aO⟩
   cases h
  cases h
 cases h
end Go.Sx
namespace Go.Sx
open Go.RowKit
variable{i:Nat}
theorem N1{α:Type}{l:List α}{a:α}(h:l[i]?=some a):l.set i a=l:=by
 apply List.ext_getElem?;intro x;rw[l7];by_cases ao:i=x
 ·subst ao;have:=(fA.1 h).1;rw[bU rfl,bU this,h]
 rw[bE ao]
def Im(P:Program)(st:aD)(d:Nat)(g':TypeId)(t i j k:Nat)(es:List (List D))(y:Operand)(ans:List b'):Stepped:=
 match pc P g',Cy t st,ans with
 | some (e,cm),some (kT,esT),.el hV::eQ=>
  match P.info? e,tx t k (st.bj y) eQ with
  | some inf,some (bL,none,tw,obs)=>
   match inf.zero with
   | some z=>
    if cm=k/\z.cells.size=k/\0<k then
     some (⟨(st.map (gu t i j k es kT esT)).env.set d (.one (.aL t i j k (es++bL) .ky)),(st.map (gu t i j k es kT esT)).boxes⟩,tw,
      ((es.length+bL.length)*inf.bytes<=140737488355328)::(es.length+bL.length<=9223372036854775807)::(esT[i]?=some hV)::(hV[j]?=some (.J k es))::(((st.idx t j).map fun a=>a=i)++obs))
    else none
   | none=>none
  | _,_=>none
 | _,_,_=>none
def r0(P:Program)(g':TypeId)(t i j k:Nat)(es esT:List (List D))(q:aE)(ans:List b'):Option (aE×List b'×List Prop):=
 match pc P g',ans with
 | some (e,cm),.el hV::eQ=>
  match P.info? e,tx t k q eQ with
  | some inf,some (bL,none,tw,obs)=>
   match inf.zero with
   | some z=>
    if cm=k/\z.cells.size=k/\0<k then
     some (.one (.aL t i j k (es++bL) .ky),tw,
      ((es.length+bL.length)*inf.bytes<=140737488355328)::(es.length+bL.length<=9223372036854775807)::(esT[i]?=some hV)::(hV[j]?=some (.J k es))::obs)
    else none
   | none=>none
  | _,_=>none
 | _,_=>none
theorem cy.r0{P:Program}{w0:dY}{st:aD}{a:Act}{w:World}{ω:Own}{τ:Nat->Nat×Value}{d:Nat}{g' ty:TypeId}{t j k kT:Nat}{es esT:List (List D)}{x y:Operand}{p:aE}{ans cf:List b'}{obs:List Prop}
  (aW:cy w0 st a w ω τ) (hp:Sat w ω τ (.aL t i j k es .here) (a.eval x)) (h:Sx.r0 P g' t i j k es esT (st.bj y) ans=some (p,cf,obs)) (a6:cv obs)
  (mu:∃v,Sat w ω τ (.J (.own t) kT esT) v) (nx:∀a∈st.idx t j,a=i):
  ∃z aP,(Builtin.append_ #[g',g'] ty #[a.eval x,a.eval y]).run P w=.ok z aP/\Rel w0 ⟨(st.map (gu t i j k es kT esT)).env.set d p,(st.map (gu t i j k es kT esT)).boxes⟩ (a.put (some d) z) aP:=by
 unfold Sx.r0 at h;split at h
 ·rename_i e cm hV eQ he;obtain⟨bZ,gC,qQ,vQ⟩:=uF he;split at h
  ·rename_i inf bL tw vY hi ik;rw[qQ]at hi;have ny:=fB hi;subst ny;split at h
   ·rename_i z bk;split at h
    ·rename_i ap;obtain⟨rfl,nF,mq⟩:=ap;simp only[aT,bq]at h;obtain⟨rfl,_,rfl⟩:=h;obtain⟨hh,gI,vG,Fb,FD⟩:=a6;obtain⟨_,news,k6⟩:=On (P:=P) mq (aW.bj y) ik FD;obtain⟨yT,mu⟩:=mu;obtain⟨gg,pN,aI,hm⟩:=hp;have pK:=hm rfl;have pN:a.eval x=gg:=pN;rw[pN];generalize a.eval y=eU at k6;have A4:∀fV fW d,cN bL fV fW=some d->∃u,news[fV*cm+fW]?=some u/\d=.v u/\u.oneCell'=true:=by
      intro fV fW d aF;obtain⟨u,U,aa⟩:=k6.cell fV fW d aF;rcases aa with⟨v,rfl,rfl⟩ | ⟨s,aj,_⟩
      ·exact⟨u,U,rfl,k6.one u (fe U)⟩
      cases aj
     have fin:∀(w1:World) (a':Own) (r:Value),(∀c,c<w.heap.size->ω c≠.tok t [(i,j)]->w1.heap[c]?=w.heap[c]?)->(∀c,c<w.heap.size->a' c=ω c)->(∀c id,¬c<w.heap.size->a' c≠.box id)->fX w0 w1->mc w0 w1 a'->
       bS w1 a' (fun q o=>o=.tok t ((i,j)::q)) (.J cm es) gg->bS w1 a' (fun q o=>o=.tok t ((i,j)::q)) (.J cm (es++bL)) r->
       Rel w0 ⟨(st.map (gu t i j cm es kT esT)).env.set d (.one (.aL t i j cm (es++bL) .ky)),(st.map (gu t i j cm es kT esT)).boxes⟩ (a.put (some d) r) w1:=by
      intro w1 a' r iM c8 Gs iK qU nC eF;have MQ:=N0 mu iM c8 pK nC vG;rw[N1 Fb,N1 vG]at MQ;exact⟨a',τ,(aW.S9 iM c8 Gs iK qU mu.2 MQ pK nC nx).put (p:=.one (.aL t i j cm (es++bL) .ky)) ⟨r,rfl,eF,fun bH=>by cases bH⟩⟩
     have E7:∀c id,¬c<w.heap.size->ω c≠.box id:=fun c id ap e=>ap (aW.owned.lt (by rw[e];simp))
     by_cases xS:bL.length=0
     ·have Fi:bL=[]:=w9 xS;subst Fi;refine⟨gg,w,Om bZ qQ w ?_ ?_,fin w ω gg (fun _ _ _=>rfl) (fun _ _=>rfl) E7 aW.below aW.owned aI (by rw[kt];exact aI)⟩
      ·cases aI with
       | nil _ _ a0=>exact⟨a0,0,0,rfl,ht _⟩
       | row R k es b off cap arr ty cF us aw dz ap aj bc hu aF=>exact⟨some ⟨b,off,none⟩,_,cap,rfl,ap⟩
      rcases k6.shape with⟨⟨a,h⟩,_⟩ | ⟨b,o,c,h,_⟩
      ·exact⟨a,0,h⟩
      exact⟨some ⟨b,o,none⟩,c,h⟩
     have Fz:0<bL.length:=by omega
     rcases k6.shape with⟨_,h⟩ | ⟨a1,kS,ph,rfl,iL⟩
     ·rw[h]at Fz;simp at Fz
     have grown:∀(w1:World) (cc:Array Value) (r:Value) (nf:Nat),fC w.heap.size w w1->w1.heap[w.heap.size]?=some (.cells cc e (0,0))->r=.slice (some ⟨w.heap.size,0,none⟩) (es.length+bL.length) nf->
       es.length+bL.length<=nf->nf*cm<=cc.size->(∀fj jw d,cN es fj jw=some d->∃u,cc[fj*cm+jw]?=some u/\bS w ω (fun q o=>o=.tok t ((i,j)::(fj,jw)::q)) d u)->
       (∀x u,news[x]?=some u->cc[es.length*cm+x]?=some u)->(∀e∈es,e.length=cm)->
       Rel w0 ⟨(st.map (gu t i j cm es kT esT)).env.set d (.one (.aL t i j cm (es++bL) .ky)),(st.map (gu t i j cm es kT esT)).boxes⟩ (a.put (some d) r) w1:=by
      intro w1 cc r nf iK fN FH hZ eL hold Ba tP;subst FH
      let a':Own:=fun c=>if c=w.heap.size then .tok t [(i,j)] else ω c
      have c8:∀c,c<w.heap.size->a' c=ω c:=fun c ap=>by simp only[a'];rw[bE (by omega)]
      have mv:a' w.heap.size=.tok t [(i,j)]:=by simp[a']
      refine fin w1 a' _ (fun c ap _=>iK.block c ap) c8 (fun c id ap=>?_) (aW.below.next iK) (fun b aw=>?_) (aI.frame fun c q ap aM=>⟨by rw[c8 c ap];exact aM,iK.block c ap⟩) ?_
      ·simp only[a'];split
       ·simp
       exact E7 c id ap
      ·by_cases vF:b=w.heap.size
       ·subst vF;exact⟨.inl aW.below.size,cc,e,fN⟩
       simp only[a']at aw;rw[bE vF]at aw;obtain⟨aA,ja,jk,aO⟩:=aW.owned b aw;exact⟨aA,ja,jk,(iK.block b (aW.owned.lt aw)).trans aO⟩
      have eI:∀x jw d,cN (es++bL) x jw=some d->∃u,cc[x*cm+jw]?=some u/\bS w1 a' (fun q o=>o=.tok t ((i,j)::(x,jw)::q)) d u:=by
       intro x jw d aF;rw[yC]at aF;split at aF
       ·obtain⟨u,U,aa⟩:=hold x jw d aF;exact⟨u,U,aa.frame fun c q ap aM=>⟨by rw[c8 c ap];exact aM,iK.block c ap⟩⟩
       rename_i ao;obtain⟨u,U,rfl,aa⟩:=A4 _ _ _ aF;refine⟨u,?_,.v _ _ aa⟩;rw[<-Ba _ u U]
       congr 1
       have:x=es.length+(x-es.length):=by omega
       rw[this,gx];simp only[Nat.add_sub_cancel_left];omega
      have hlen:(es++bL).length=es.length+bL.length:=ku;have oE:∀e∈es++bL,e.length=cm:=by
       intro e' he;rcases lv.1 he with h | h
       ·exact tP e' h
       exact k6.rows e' h
      have:=bS.row (w:=w1) (ω:=a') (fun q o=>o=.tok t ((i,j)::q)) cm (es++bL) w.heap.size 0 nf cc e (0,0) (fun x j=>cc.getD (x*cm+j) undef) fN mv (by omega) (by omega) oE
       (fun x j d aF=>by obtain⟨u,U,_⟩:=eI x j d aF;rw[dL,U];simp[eg,U])
       (fun x j d aF=>by obtain⟨u,U,aa⟩:=eI x j d aF;have:cc.getD (x*cm+j) undef=u:=(by simp[eg,U]);rw[this];exact aa)
      rw[hlen]at this;exact this
     subst vQ;have qX:=aI;cases aI with
     | nil _ _ a0=>
      simp only[dM,dL]at hh gI;have fO:(Builtin.append_ #[g',g'] ty #[.slice a0 0 0,.slice (some ⟨a1,kS,none⟩) bL.length ph]).run P w=
        .ok (.slice (some ⟨w.heap.size,0,none⟩) bL.length (grownCap w bL.length 0 e)) (w.drew.alloc (.cells (news.toArray++Builtin.zeroCells z.cells (grownCap w bL.length 0 e-bL.length)) e)):=by
       cases a0 with
       | none=>exact run_append_nil (P:=P) w g' ty e gC z bZ qQ bk ⟨a1,kS,none⟩ bL.length ph news k6.len iL Fz (by omega) (by omega)
       | some cj=>
        have:=run_append_grow (P:=P) w g' ty e gC z bZ qQ bk cj 0 0 [] (by simp) (fun j v br=>by simp at br) ⟨a1,kS,none⟩ bL.length ph news k6.len iL (by omega) (by omega) (growslice_fits (by omega) (by simpa using hh));simpa using this
      have ox:=grownCap_ge w bL.length 0 e;exact⟨_,_,fO,grown _ (news.toArray++Builtin.zeroCells z.cells (grownCap w bL.length 0 e-bL.length)) (.slice (some ⟨w.heap.size,0,none⟩) bL.length (grownCap w bL.length 0 e)) (grownCap w bL.length 0 e)
       (((fC.refl _ _).drew).alloc (ht _) _) (p6) (by simp) (by simpa using ox) (by
        simp only[w8,rN,size_zeroCells,k6.len,nF,<-gx];exact gN _ (by omega))
       (fun fj j d aF=>by simp[cN]at aF) (fun x u ao=>by
        simp only[dM,Nat.zero_mul,dL];rw[kU,bU (by have:=(fA.1 ao).1;simpa using this)];simpa using ao) (fun e he=>by cases he)⟩
     | row R k es b off cap arr hF cF us aw dz ap aj gp hu aF=>
      have jQ:ω b=.tok t [(i,j)]:=dz;obtain⟨tN,r1,tc,hX⟩:=aW.owned b (by rw[jQ];simp);rw[aw]at hX;simp only[aT,Obj.cells.injEq]at hX;obtain⟨rfl,rfl,rfl⟩:=hX;have tG:b<w.heap.size:=(iV.1 aw).1;by_cases qY:es.length+bL.length<=cap
      ·have hmul:(es.length+bL.length)*gC.size<=cap*gC.size:=gN _ qY;rw[gx]at hmul;have qS:=k6.len;have ez:off+es.length*gC.size+news.length<=arr.size:=by omega
       have fO:=Hw (P:=P) (ty:=ty) bZ qQ w b off es.length cap arr hF aw ⟨a1,kS,none⟩ bL.length ph news k6.len iL k6.one qY ez;generalize nt:(arr.toList.take (off+es.length*gC.size)++news++arr.toList.drop (off+es.length*gC.size+news.length)).toArray=cc at fO;have hM:∀x:Nat,cc[x]?=if off+es.length*gC.size<=x/\x<off+es.length*gC.size+news.length then news[x-(off+es.length*gC.size)]? else arr[x]?:=by
        intro x;rw[<-nt,qk,yA (by simpa using ez)];simp
       have tR:cc.size=arr.size:=by rw[<-nt];simp;omega
       have jS:=setRow_heap w b arr cc hF (0,0) aw;have iM:∀c,c<w.heap.size->ω c≠.tok t [(i,j)]->(w.setRow b cc).heap[c]?=w.heap[c]?:=fun c _ ap=>setRow_other w b c cc fun e=>ap (by rw[e];exact jQ)
       have lN:∀fV fW d u,bS w ω (fun q o=>o=.tok t ((i,j)::(fV,fW)::q)) d u->bS (w.setRow b cc) ω (fun q o=>o=.tok t ((i,j)::(fV,fW)::q)) d u:=by
        intro fV fW d u ov;refine ov.frame fun c q ap et=>⟨et,iM c ap fun e=>?_⟩
        rw[e]at et;simp at et
       refine⟨_,_,fO,fin (w.setRow b cc) ω _ iM (fun _ _=>rfl) E7 (aW.below.setRow tN cc) (fun c h0=>?_) (bS.S2 qX aw jS tR (fun x ao=>by rw[hM,bE (by omega)]) (fun o e a6=>by rw[<-e];exact a6) (fun c p q ap aM=>⟨aM,iM c ap fun e=>by rw[e]at aM;simp at aM⟩)) ?_⟩
       ·obtain⟨aA,ja,jk,aO⟩:=aW.owned c h0;by_cases xH:c=b
        ·subst xH;exact⟨aA,cc,hF,jS⟩
        exact⟨aA,ja,jk,(setRow_other w b c cc xH).trans aO⟩
       have eI:∀x jw d,cN (es++bL) x jw=some d->∃u,cc[off+x*gC.size+jw]?=some u/\bS (w.setRow b cc) ω (fun q o=>o=.tok t ((i,j)::(x,jw)::q)) d u:=by
        intro x jw d dH;rw[yC]at dH;split at dH
        ·rename_i ao;have xQ:=(rh gp dH).2;refine⟨us x jw,?_,lN x jw d _ (aF x jw d dH)⟩;have:(x+1)*gC.size<=es.length*gC.size:=gN _ ao;rw[gx]at this;rw[hM,bE (by omega),hu x jw d dH]
        rename_i ao;obtain⟨u,U,rfl,aa⟩:=A4 _ _ _ dH;have WX:=(fA.1 U).1;have vS:x*gC.size=es.length*gC.size+(x-es.length)*gC.size:=by rw[<-gx];congr 1;omega
        refine⟨u,?_,.v _ _ aa⟩;rw[hM,bU (by omega),<-U]
        congr 1
        omega
       have hlen:(es++bL).length=es.length+bL.length:=ku;have oE:∀e∈es++bL,e.length=gC.size:=by
        intro e' he;rcases lv.1 he with h | h
        ·exact gp e' h
        exact k6.rows e' h
       have:=bS.row (w:=w.setRow b cc) (ω:=ω) (fun q o=>o=.tok t ((i,j)::q)) gC.size (es++bL) b off cap cc hF (0,0) (fun x j=>cc.getD (off+x*gC.size+j) undef) jS jQ (by omega) (by omega) oE
        (fun x j d aF=>by obtain⟨u,U,_⟩:=eI x j d aF;rw[U];simp[eg,U])
        (fun x j d aF=>by obtain⟨u,U,aa⟩:=eI x j d aF;have:cc.getD (off+x*gC.size+j) undef=u:=(by simp[eg,U]);rw[this];exact aa)
       rw[hlen]at this;exact this
      have hmul:es.length*gC.size<=cap*gC.size:=gN _ ap;have pM:((arr.toList.drop off).take (es.length*gC.size)).length=es.length*gC.size:=by simp;omega
      have fO:=run_append_grow (P:=P) w g' ty e gC z bZ qQ bk ⟨b,off,none⟩ es.length cap ((arr.toList.drop off).take (es.length*gC.size)) pM (fun j v br=>by
       rw[pb,cell_of_row w b (off+j) arr hF (0,0) aw];rw[pk]at br;split at br
       ·rw[th]at br;simpa using br
       cases br) ⟨a1,kS,none⟩ bL.length ph news k6.len iL (by omega) (by omega) (growslice_fits (by omega) hh)
      have ox:=grownCap_ge w (es.length+bL.length) cap e;exact⟨_,_,fO,grown _ (((arr.toList.drop off).take (es.length*gC.size)).toArray++news.toArray++Builtin.zeroCells z.cells (grownCap w (es.length+bL.length) cap e-(es.length+bL.length))) _ (grownCap w (es.length+bL.length) cap e)
       (((fC.refl _ _).drew).alloc (ht _) _) (p6) rfl ox (by
        simp only[w8,rN,size_zeroCells,k6.len,nF,pM,<-gx];exact gN _ (by omega))
       (fun fj j d dX=>by
        obtain⟨vK,eb⟩:=rh gp dX;have:(fj+1)*gC.size<=es.length*gC.size:=gN _ vK;rw[gx]at this;refine⟨us fj j,?_,aF fj j d dX⟩;rw[kU,bU (by simp only[w8,rN,pM];omega),kU,bU (by simp only[rN,pM];omega)];rw[qk,pk,bU (by omega),th,<-hu fj j d dX];simp only[vj]
        congr 1
        omega)
       (fun x u ao=>by
        have k7:=(fA.1 ao).1;rw[kU,bU (by simp only[w8,rN,pM];omega),kU,bE (by simp only[rN,pM];omega)];simp only[rN,pM,qk];rw[<-ao]
        congr 1
        omega) gp⟩
    cases h
   cases h
  cases h
 cases h
theorem cy.U1{P:Program}{w0:dY}{st bl:aD}{a:Act}{w:World}{ω:Own}{τ:Nat->Nat×Value}{d:Nat}{g' ty:TypeId}{t j k:Nat}{es:List (List D)}{x y:Operand}{ans cf:List b'}{obs:List Prop}
  (aW:cy w0 st a w ω τ) (hp:Sat w ω τ (.aL t i j k es .here) (a.eval x)) (h:Im P st d g' t i j k es y ans=some (bl,cf,obs)) (a6:cv obs):
  ∃z aP,(Builtin.append_ #[g',g'] ty #[a.eval x,a.eval y]).run P w=.ok z aP/\Rel w0 bl (a.put (some d) z) aP:=by
 unfold Im at h;split at h
 ·rename_i e cm kT esT hV eQ he Wz;split at h
  ·rename_i inf bL tw vY hi ik;split at h
   ·rename_i z bk;split at h
    ·rename_i ap;simp only[aT,bq]at h;obtain⟨rfl,rfl,rfl⟩:=h;obtain⟨hh,gI,vG,Fb,FD⟩:=a6;obtain⟨nx,Wq⟩:=FD.append;refine aW.r0 (p:=.one (.aL t i j k (es++bL) .ky)) (ans:=.el hV::eQ) (cf:=tw) (esT:=esT) (kT:=kT) hp ?_ (obs:=((es.length+bL.length)*inf.bytes<=140737488355328)::(es.length+bL.length<=9223372036854775807)::(esT[i]?=some hV)::(hV[j]?=some (.J k es))::vY) ⟨hh,gI,vG,Fb,Wq⟩ (aW.root Wz) (BB nx);unfold Sx.r0;simp only[he,hi,ik,bk];rw[bU ap]
    cases h
   cases h
  cases h
 cases h
