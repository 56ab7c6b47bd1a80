import Derived.Test.YtdchjefneblpgaaGreatR11
set_option linter.unusedVariables false
set_option linter.unusedSimpArgs false
namespace Go.Sx
open Go.RowKit
def C7(P:Program)(st:aD)(d:Nat)(elem:TypeId)(r:List b4):Stepped:=
 match P.info? elem with
 | some i=>match i.zero with
  | some z=>if d<cX then some (⟨(st.il d []).env.set d (.one (.eX d (z.cells.toList.map .v))),(st.il d []).boxes⟩,r,[]) else none
  | none=>none
 | none=>none
variable{w0:ee}{st bn:aD}{a:Act}{w:World}{ω:Own}{τ:Nat->Nat×Value}{d:Nat}{ans b':List b4}{obs:List Prop}
theorem cr.Vy{P:Program}{elem:TypeId}(aU:cr w0 st a w ω τ)
  (h:C7 P st d elem ans=some (bn,b',obs)):
  ∃z aM,(Instr.alloc elem true (.tuple #[])).run P w=.ok z aM/\Rel w0 bn (a.put (some d) z) aM:=by
 unfold C7 at h;split at h
 ·rename_i i hi;split at h
  ·rename_i z bk;split at h
   ·rename_i aG;simp only[aS,bq]at h;obtain⟨rfl,_,_⟩:=h;have h1:=aU.il d aG [] (k:=0) (cap:=0) (es:=[]) (arr:=z.cells) (ty:=elem) ((fP.refl _ _).alloc (ga _) (.cells z.cells elem)) (ma _ _) (ga _) (by simp) (by simp)
     (by grind[cQ])
    refine⟨.pointer (some ⟨w.heap.size,0,none⟩),w.alloc (.cells z.cells elem),by simp_all[Instr.alloc,zeroValue,typeInfo,newVar,newRow],_,_,h1.1.put (p:=.one (.eX d (z.cells.toList.map .v))) ?_⟩;refine⟨w.heap.size,elem,z.cells,rfl,by simp[oe],ma _ _,by simp,fun j c al=>?_⟩;rw[dr,bX]at al;obtain⟨u,hu,rfl⟩:=al;exact⟨u,by grind,rfl⟩
   cases h
  cases h
 cases h
def eU(t:Nat):Tag->Option Tag
 | .free=>some .free
 | .own s=>if s=t then none else some (.own s)
 | .ro s=>if s=t then none else some (.ro s)
variable{o:c0}
theorem C8{t:Nat}{g dW:Tag}{q:List (Nat×Nat)}(h:eU t g=some dW)(aH:g.R q o):dW=g/\∀dE,o≠.tok t dE:=by
 cases g with
 | free=>simp_all[eU,aS,Tag.R]
 | own s=>
  simp_all[eU,aS,Tag.R,c0.tok.injEq]
 | ro s=>
  simp only[eU]at h;split at h
  ·cases h
  rename_i ai;simp only[aS]at h;subst h;simp only[Tag.R]at aH;grind
variable{s:Nat}
theorem HC{x:Value}(this:a.tmps[s]?=some x):a.put (some s) x=a:=by
 simp only[Act.put];have:a.tmps.setIfInBounds s x=a.tmps:=by
  grind
 rw[this]
def az.ku:az->eD
 | .v x=>.v x
 | .a' c=>.v (.bool c)
 | .J t k es=>.J t k es
 | _=>.ck
def He(p:aE):Option (List eD):=p.leaves.map (·.map az.ku)
theorem az.NQ{l:az}{y:Value}(h:Sat w ω τ l y):pU w ω τ l.ku y:=by
 cases l<;>first | exact h | exact trivial
def eD.leaf:eD->az
 | .ck=>.ck
 | .v x=>.v x
 | .J t k es=>.J t k es
theorem eD.du{τ:Nat->Nat×Value}{c:eD}{y:Value}(h:pU w ω τ c y):Sat w ω τ c.leaf y:=by
 cases c<;>exact h
def C9(P:Program)(st:aD)(ty:TypeId)(s:Nat)(q:aE)(ans:List b4):Stepped:=
 match (st.env.getD s .ck).leaf,He q,P.info? ty with
 | some (.eX t vs),some cs,some i=>
  if cs.length=i.size/\cs.length<=vs.length then
   let st2:=st.map (az.ct (eU t) fun _=>true)
   some (⟨st2.env.set s (.one (.eX t ((cs++vs.drop cs.length).map (eD.ct (eU t))))),st2.boxes⟩,ans,[])
  else none
 | _,_,_=>none
theorem cr.asp{P:Program}{ty:TypeId}{q:aE}{v:Value}
  (aU:cr w0 st a w ω τ) (aK:cE (Sat w ω τ) q v) (h:C9 P st ty s q ans=some (bn,b',obs)):
  ∃aM,(Instr.storeAt ty (a.eval (.tmp s)) v).run P w=.ok () aM/\Rel w0 bn a aM:=by
 unfold C9 at h;split at h
 ·rename_i t vs cs i e1 e2 cb;split at h
  ·rename_i al;obtain⟨c1,c2⟩:=al;simp only[aS,bq]at h;obtain⟨rfl,_,_⟩:=h;unfold He at e2;rw[bX]at e2;obtain⟨ls,e2,rfl⟩:=e2;obtain⟨um,o1⟩:=aE.wm e2 aK;have dN:v.cells.size=ls.length:=um.1;rw[cf]at c1 c2;have hW:st.env[s]?=some (.one (.eX t vs)):=by
    rw[jZ]at e1;cases e:st.env[s]? with
    | none=>grind[aE.leaf]
    | some p=>
     rw[e]at e1;simp only[jM]at e1;cases p with
     | fv as=>cases e1
     | aF x=>
      cases x with
      | agg ls=>cases e1
      | one l=>grind[aE.leaf,aS]
   obtain⟨y,bD,ei⟩:=aU.env s _ hW;obtain⟨b,hN,arr,rfl,aw,v7,XL,sE⟩:=ei;have p2:a.eval (.tmp s)=ptrTo b:=by simp_all[Act.eval]
   have eP:=run_storeCells_at P b 0 hN v.cells.toList 0 arr w v7 (by simp;omega) o1;obtain⟨b9,nT⟩:∃b9,b9=(arr.toList.take (0+0)++v.cells.toList++arr.toList.drop (0+0+v.cells.toList.length)).toArray:=⟨_,rfl⟩
   rw[<-nT]at eP;have Wa:b9=(v.cells.toList++arr.toList.drop v.cells.size).toArray:=by grind
   refine⟨w.setRow b b9,?_,?_⟩
   ·rw[p2];simp only[ptrTo,Instr.storeAt,Instr.sureAddr,Sem.run_bind,Sem.run_pure,Result.andThen_ok,storeVar,sizeOf,typeInfo,run_program,cb];grind
   have j7:=setRow_heap w b arr b9 hN (0,0) v7;have bh:kN w ω τ (w.setRow b b9) ω τ (eU t) (fun _=>true):=by
    refine⟨?_,?_,fun id c _ al=>al,rfl,fun _ _=>rfl⟩
    ·intro g dW c q av _ aK;obtain⟨rfl,yr⟩:=C8 av aK;grind[setRow_other]
    intro g dW y av bD;cases g with
    | free=>simp_all[eU,aS,trivial]
    | own x=>
     grind[eU,aS]
    | ro x=>
     simp_all[eU,aS,trivial]
   have h1:cr w0 (st.map (az.ct (eU t) fun _=>true)) a (w.setRow b b9) ω τ:=by
    refine aU.dT _ bh.sat (aU.below.setRow (aU.owned b (by rw[aw];simp)).1 _) ?_ (fun id c al=>⟨al,setRow_other w b c _ fun e=>by grind⟩) (fun id c al=>al) (fun _ _=>rfl);intro c al;obtain⟨h1,jz,jK,U⟩:=aU.owned c al;grind[setRow_other]
   have MT:b9.size=(ls.map az.ku++vs.drop (ls.map az.ku).length).length/\∀(j:Nat) (c:eD),(ls.map az.ku++vs.drop (ls.map az.ku).length)[j]?=some c->∃u,b9[j]?=some u/\pU w ω τ c u:=by
    refine⟨by grind,fun j c al=>?_⟩;rw[Wa,nB];by_cases bg:j<ls.length
    ·rw[EJ (by grind),dr,bX]at al;obtain⟨l,ap,rfl⟩:=al;obtain⟨u,gv,fc⟩:=um.2 j l ap;grind[az.NQ]
    grind
   have Nj:=Cp bh.ku MT.1 MT.2;have U:=h1.put (d:=s) (p:=.one (.eX t ((ls.map az.ku++vs.drop (ls.map az.ku).length).map (eD.ct (eU t))))) (v:=ptrTo b) ⟨b,hN,b9,rfl,aw,j7,Nj⟩;rw[HC bD]at U;exact⟨ω,τ,U⟩
  cases h
 cases h
def Hh(st:aD)(d:Nat):Option aD:=
 match st.env.getD d .ck with
 | .aF (.one (.eX t vs))=>
  if d<cX then some ⟨(st.env.map (aE.map (az.ct (eU t) (iO d)))).set d (.one (.ptr d 0)),(d,vs.map fun c=>az.ct (eU t) (iO d) c.leaf)::(oc d st.boxes).map fun x=>(x.1,x.2.map (az.ct (eU t) (iO d)))⟩ else none
 | _=>none
theorem ajP(h:Rel w0 st a w)(a8:Hh st d=some bn):Rel w0 bn a w:=by
 obtain⟨ω,τ,h⟩:=h;unfold Hh at a8;split at a8
 ·rename_i t vs he;split at a8
  case isFalse=>cases a8
  rename_i sv;simp only[aS]at a8;subst a8;have hW:st.env[d]?=some (.one (.eX t vs)):=by
   grind
  obtain⟨v,sD,rp⟩:=h.env d _ hW;obtain⟨b,ty,arr,rfl,aw,v7,XL,sE⟩:=rp
  let a7:Own:=fun c=>if c=b then .box d else match ω c with | .box i=>if i=d then .bt else .box i | o=>o
  have mR:a7 b=.box d:=by simp[a7]
  have hX:∀c,c≠b->a7 c=(match ω c with | .box i=>if i=d then .bt else .box i | o=>o):=by
   grind
  have bh:kN w ω τ w a7 τ (eU t) (iO d):=by
   refine⟨?_,?_,?_,rfl,fun _ _=>rfl⟩
   ·intro g dW c q av _ aK;obtain⟨rfl,yr⟩:=C8 av aK;have ig:c≠b:=fun e=>yr [] (by grind)
    refine⟨?_,rfl⟩;rw[hX c ig];cases dW with
    | free=>grind[Tag.R]
    | own s=>grind[Tag.R]
    | ro s=>
     simp only[Tag.R]at aK ⊢;grind
   ·intro g dW y av bD;cases g with
    | free=>simp_all[eU,aS,trivial]
    | own s=>
     grind[eU,aS]
    | ro s=>
     simp_all[eU,aS,trivial]
   intro i c hp al;have ig:c≠b:=fun e=>by grind
   simp_all[iO,cU]
  have o3:my w0 w a7:=by
   intro c al;by_cases e:c=b
   ·subst e;exact h.owned c (by rw[aw];simp)
   rw[hX c e]at al;exact h.owned c (fun e'=>by grind)
  have key:=h.Fe (bs:=(d,vs.map fun c=>az.ct (eU t) (iO d) c.leaf)::(oc d st.boxes).map fun x=>(x.1,x.2.map (az.ct (eU t) (iO d)))) bh h.below o3 ?_ (fun i c hi al=>by
   grind)
  ·have:=key.put (d:=d) (p:=.one (.ptr d 0)) (v:=ptrTo b) ⟨b,mR,rfl⟩;rw[HC sD]at this;exact⟨a7,τ,this⟩
  intro i e6 ap;simp only[df]at ap;split at ap
  ·rename_i hi;subst hi;have e:=gQ ap;subst e;refine⟨b,arr,ty,mR,?_,v7,by grind,fun j l bg=>?_⟩
   ·grind
   rw[dr,bX]at bg;obtain⟨c,al,rfl⟩:=bg;obtain⟨u,gv,fc⟩:=sE j c al;exact⟨u,gv,bh.sat _ _ (eD.du fc)⟩
  rename_i hi;rw[rJ,bX]at ap;obtain⟨ij,b5,rfl⟩:=ap;have c3:i≠d:=fun e=>hi e.symm
  rw[wG c3]at b5;obtain⟨c,b9,pN,al,hu,bH,ei⟩:=h.boxes i ij b5;refine⟨c,b9,pN,bh.box i c (by grind[iO]) al,?_,bH,ei.map bh.sat⟩;grind
 cases a8
def E4(st:aD)(d:Nat):Option aD:=
 match st.env.getD d .ck,df d st.boxes with
 | .aF (.one (.ptr dn 0)),some ls=>
  if dn=d/\d<cX then some ⟨(st.env.map (aE.map (az.ct (eU d) (iO d)))).set d (.one (.eX d ((ls.map az.ku).map (eD.ct (eU d))))),(oc d st.boxes).map fun x=>(x.1,x.2.map (az.ct (eU d) (iO d)))⟩ else none
 | _,_=>none
theorem ajQ(h:Rel w0 st a w)(a8:E4 st d=some bn):Rel w0 bn a w:=by
 obtain⟨ω,τ,h⟩:=h;unfold E4 at a8;split at a8
 ·rename_i dn ls he cY;split at a8
  case isFalse=>cases a8
  rename_i sv;obtain⟨rfl,sv⟩:=sv;simp only[aS]at a8;subst a8;have hW:st.env[dn]?=some (.one (.ptr dn 0)):=by
   grind
  obtain⟨v,sD,rp⟩:=h.env dn _ hW;obtain⟨cc,ha,rfl⟩:=rp;obtain⟨b,arr,ty,aw,Wg,v7,um⟩:=h.boxes dn ls cY;have MP:cc=b:=Wg cc ha;subst MP
  let a7:Own:=fun c=>if c=cc then .tok dn [] else match ω c with | .tok s q=>if s=dn then .bt else .tok s q | o=>o
  have mR:a7 cc=.tok dn []:=by simp[a7]
  have hX:∀c,c≠cc->a7 c=(match ω c with | .tok s q=>if s=dn then .bt else .tok s q | o=>o):=by
   grind
  have bh:kN w ω τ w a7 τ (eU dn) (iO dn):=by
   refine⟨?_,?_,?_,rfl,fun _ _=>rfl⟩
   ·intro g dW c q av _ aK;obtain⟨rfl,yr⟩:=C8 av aK;have ig:c≠cc:=fun e=>by
     rw[e,aw]at aK;cases dW with
     | free=>cases aK
     | own s=>cases aK
     | ro s=>
      rcases aK with aK | ⟨dE,aK⟩
      ·cases aK
      cases aK
    grind
   ·intro g dW y av bD;cases g with
    | free=>simp_all[eU,aS,trivial]
    | own s=>
     grind[eU,aS]
    | ro s=>
     simp_all[eU,aS,trivial]
   intro i c hp al;simp only[iO,cU]at hp;grind
  have o3:my w0 w a7:=by
   intro c al;by_cases e:c=cc
   ·subst e;exact h.owned c (by rw[aw];simp)
   rw[hX c e]at al;exact h.owned c (fun e'=>by grind)
  have MO:∀i c,a7 c=.box i->ω c=.box i/\c≠cc:=by
   grind
  have key:=h.Fe (bs:=(oc dn st.boxes).map fun x=>(x.1,x.2.map (az.ct (eU dn) (iO dn)))) bh h.below o3 ?_ (fun i c _ al=>(MO i c al).1)
  ·have:=key.put (d:=dn) (p:=.one (.eX dn ((ls.map az.ku).map (eD.ct (eU dn))))) (v:=ptrTo cc) ⟨cc,ty,arr,rfl,mR,v7,Cp bh.ku (by rw[um.1];simp) (fun j c al=>by
    rw[dr,bX]at al;obtain⟨l,ap,rfl⟩:=al;obtain⟨u,gv,fc⟩:=um.2 j l ap;grind[az.NQ])⟩
   rw[HC (show a.tmps[dn]?=some (ptrTo cc) from sD)]at this;exact⟨a7,τ,this⟩
  intro i e6 ap;rw[rJ,bX]at ap;obtain⟨ij,b5,rfl⟩:=ap;have c3:i≠dn:=fun e=>by grind[H7]
  rw[wG c3]at b5;obtain⟨c,b9,pN,al,hu,bH,ei⟩:=h.boxes i ij b5;exact⟨c,b9,pN,bh.box i c (by grind[iO]) al,fun da eh=>hu da (MO i da eh).1,bH,ei.map bh.sat⟩
 cases a8
def zf:List Nat->aD->Option aD
 | [],st=>some st
 | d::ds,st=>(E4 st d).bind (zf ds)
theorem Ox:∀{ds:List Nat} {st bn:aD},Rel w0 st a w->zf ds st=some bn->Rel w0 bn a w
 | [],st,bn,h,a8=>by grind[zf,aS]
 | d::ds,st,bn,h,a8=>by
  simp only[zf,lf]at a8;obtain⟨st1,h1,U⟩:=a8;exact Ox (ajQ h h1) U
def zg:List Nat->aD->Option aD
 | [],st=>some st
 | d::ds,st=>(Hh st d).bind (zg ds)
theorem Oy:∀{ds:List Nat} {st bn:aD},Rel w0 st a w->zg ds st=some bn->Rel w0 bn a w
 | [],st,bn,h,a8=>by grind[zg,aS]
 | d::ds,st,bn,h,a8=>by
  simp only[zg,lf]at a8;obtain⟨st1,h1,U⟩:=a8;exact Oy (ajP h h1) U
def jF(s n:Nat):Tag->Option Tag
 | .own x=>if x=s then some (.ro n) else if x=n then none else some (.own x)
 | .ro x=>if x=s then some (.ro n) else if x=n then none else some (.ro x)
 | .free=>some .free
def iP(s n l:Nat):c0->c0
 | .tok x q=>if x=s then (match q with | []=>.tok n [] | (i,j)::r=>if i<l then .bt else .tok n ((i-l,j)::r)) else if x=n then .bt else .tok x q
 | o=>o
variable{l n:Nat}
theorem HD(h:iP s n l o≠.bt):o≠.bt:=by rintro rfl;exact h rfl
theorem sY{id:Nat}:iP s n l o=.box id<->o=.box id:=by
 cases o with
 | bt=>simp[iP]
 | box i=>simp[iP]
 | tok x q=>
  simp only[iP];grind
theorem Oz{q:List (Nat×Nat)}:iP s n l (.tok s q)=.bt\/∃dE,iP s n l (.tok s q)=.tok n dE:=by
 simp only[iP,gC];grind
theorem HE{k:Nat}{z:Value}(hZ:n<cX):kN w ω τ w (fun b=>iP s n l (ω b)) (fE τ n k z) (jF s n) (fun _=>true):=by
 refine⟨?_,?_,?_,rfl,fun t bU=>by simp only[fE];grind⟩
 ·intro g dW b q av _ aK;refine⟨?_,rfl⟩;cases g with
  | free=>simp only[jF,aS]at av;subst av;simp only[Tag.R]at aK ⊢;rw[aK];rfl
  | own x=>
   simp only[jF]at av;simp only[Tag.R]at aK;split at av
   ·grind[aS,Tag.R,Oz]
   rename_i ai;split at av
   ·cases av
   rename_i a8;simp only[aS]at av;subst av;simp_all[Tag.R,iP,bG]
  | ro x=>
   simp only[jF]at av;simp only[Tag.R]at aK;split at av
   ·rename_i ai;simp only[aS]at av;subst av;subst ai;rcases aK with aK | ⟨dE,aK⟩
    ·rw[aK];exact .inl rfl
    rw[aK];exact Oz
   rename_i ai;split at av
   ·cases av
   rename_i a8;simp only[aS]at av;subst av;rcases aK with aK | ⟨dE,aK⟩
   ·rw[aK];exact .inl rfl
   rw[aK];simp only[iP,bG ai,bG a8];exact .inr ⟨dE,rfl⟩
 ·intro g dW y av bD;cases g with
  | free=>simp only[jF,aS]at av;subst av;trivial
  | own x=>
   simp only[jF]at av;split at av
   ·simp only[aS]at av;subst av;trivial
   rename_i ai;split at av
   ·cases av
   rename_i a8;simp only[aS]at av;subst av;simp_all[Tag.dJ,fE,bG]
  | ro x=>
   simp only[jF]at av;split at av
   ·simp only[aS]at av;subst av;trivial
   split at av
   ·cases av
   simp only[aS]at av;subst av;trivial
 intro id b _ aw;exact sY.2 aw
def nj(s d:Nat):Nat:=if s<cX then s else d
def xj(P:Program)(st:aD)(d:Nat)(t:TypeId)(p:aE)(cP hi h0:Option Operand)(ans:List b4):Stepped:=
 match ps P t,p.leaf,h0 with
 | some (_,k),some (.J (.own s) ci es),none=>
  if k=ci/\nj s d<cX then
   match k1 st cP,k1 st hi with
   | some l,some h=>
    let st2:=st.map (az.ct (jF s (nj s d)) fun _=>true)
    some (⟨st2.env.set d (.one (.J (.own (nj s d)) k ((es.drop (l.getD 0).toNat).take ((h.getD es.length).toNat-(l.getD 0).toNat)))),st2.boxes⟩,ans,[0<=l.getD 0,l.getD 0<=h.getD es.length,h.getD es.length<=es.length])
   | _,_=>none
  else none
 | _,_,_=>none
theorem cr.xj{P:Program}{t:TypeId}{p:aE}{v:Value}{cP hi h0:Option Operand}
  (aU:cr w0 st a w ω τ) (hp:cE (Sat w ω τ) p v) (h:xj P st d t p cP hi h0 ans=some (bn,b',obs)) (aZ:cA obs):
  ∃z,(Instr.sliceAt t v (cP.map a.eval) (hi.map a.eval) (h0.map a.eval)).run P w=.ok z w/\Rel w0 bn (a.put (some d) z) w:=by
 unfold Go.Sx.xj at h;split at h
 ·rename_i e k s ci es e1 e2;split at h
  ·rename_i hk;obtain⟨rfl,ai⟩:=hk;split at h
   ·rename_i l bH cb d';simp only[aS,bq]at h;obtain⟨rfl,_,rfl⟩:=h;obtain⟨hu,i,nX,bk⟩:=u6 e1;obtain⟨aH,_⟩:=aE.du e2 hp;obtain⟨cy,ca,cC,_⟩:=aZ;have ax:=y6 aU cb;have aI:=y6 aU d';have oX:(cP.map a.eval=none/\l.getD 0=0)\/∃k,cP.map a.eval=some (.int k (l.getD 0)):=by
     grind
    have rc:(hi.map a.eval=none/\bH.getD es.length=es.length)\/∃k,hi.map a.eval=some (.int k (bH.getD es.length)):=by
     grind
    have key:∀(L m:Nat) (z:Value),L<=m->bQ w (fun b=>iP s (nj s d) L (ω b)) (Tag.own (nj s d)).R (.J k ((es.drop L).take (m-L))) z->
      Rel w0 ⟨(st.map (az.ct (jF s (nj s d)) fun _=>true)).env.set d (.one (.J (.own (nj s d)) k ((es.drop L).take (m-L)))),(st.map (az.ct (jF s (nj s d)) fun _=>true)).boxes⟩ (a.put (some d) z) w:=by
     intro L m z _ BV;have h1:cr w0 (st.map (az.ct (jF s (nj s d)) fun _=>true)) a w (fun b=>iP s (nj s d) L (ω b)) (fE τ (nj s d) k z):=
      aU.dT _ (HE (by omega)).sat aU.below (fun b aw=>aU.owned b (HD aw)) (fun id b aw=>⟨sY.2 aw,rfl⟩) (fun id b aw=>sY.1 aw)
       (fun t bU=>by simp only[fE];grind)
     exact⟨_,_,h1.put (p:=.one (.J (.own (nj s d)) k ((es.drop L).take (m-L)))) ⟨BV,by simp[Tag.dJ,fE]⟩⟩
    cases aH with
    | nil _ _ a0=>
     simp only[dR] at*;have bB:l.getD 0=0:=by omega
     have VN:bH.getD ((0:Nat):Int)=0:=by omega
     refine⟨.slice a0 0 0,?_,?_⟩
     ·simp only[Instr.sliceAt,Sem.run_bind,run_underlying hu,Result.andThen_ok,Instr.slice,Option.map_none];rw[y5 oX rc cy ca cC];simp_all[sizeOf,typeInfo]
     refine key _ _ _ (by omega) ?_;simp only[List.drop_nil,List.take_nil];exact .nil _ _ _
    | row R k es b off cap arr ty cL us aw dG al dN hk iL aG=>
     refine⟨sliced (some ⟨b,off,none⟩) (l.getD 0).toNat (bH.getD es.length).toNat cap k,?_,?_⟩
     ·simp only[Instr.sliceAt,Sem.run_bind,run_underlying hu,Result.andThen_ok,Instr.slice,Option.map_none];rw[y5 oX rc cy ca (by omega)];simp_all[sizeOf,typeInfo,sliced]
     refine key _ _ _ (by omega) ?_;have:=bQ.sub (.row _ k es b off cap arr ty cL us aw dG al dN hk iL aG) (l:=(l.getD 0).toNat) (m:=(bH.getD es.length).toNat) (by omega) (by omega)
      (hT:=fun q o=>match q with | []=>o=.tok s [] | (i,j)::r=>o=.tok s ((i+(l.getD 0).toNat,j)::r)) (fun o h=>h) (fun i j q o at3 h=>by
       grind[Tag.R,Nat.sub_add_cancel])
     refine this.frame fun c q _ aK=>⟨?_,rfl⟩
     simp only[Tag.R];cases q with
     | nil=>grind[iP]
     | cons x r=>
      obtain⟨i,j⟩:=x;simp only at aK;rw[aK];have cv:¬(i+(l.getD 0).toNat<(l.getD 0).toNat):=by omega
      simp_all[iP,gC,bG,Nat.add_sub_cancel]
   cases h
  cases h
 cases h
end Go.Sx
namespace Go.Sx
open Go.RowKit
def laid(arr:Array Value)(o:Nat)(cs:List Value):Array Value:=(arr.toList.take o++cs++arr.toList.drop (o+cs.length)).toArray
theorem sZ{arr:Array Value}{o:Nat}{cs:List Value}(h:o+cs.length<=arr.size):(laid arr o cs).size=arr.size:=by
 simp[laid];omega
theorem mf{arr:Array Value}{o:Nat}{cs:List Value}(h:o+cs.length<=arr.size)(x:Nat):
  (laid arr o cs)[x]?=if o<=x/\x<o+cs.length then cs[x-o]? else arr[x]?:=by
 simp only[laid,nB,tI];have ap:(arr.toList.take o).length=o:=by simp;omega
 split
 ·rename_i ak;rw[EI (by omega),EJ (by omega),ap]
 rename_i ak;by_cases h1:x<o
 ·rw[EJ (by omega),jY,bM h1,lK]
 rw[EI (by omega),EI (by omega),ap,k',lK]
 congr 1
 omega
theorem C'{P:Program}(w:World)(dM bd ty elem:TypeId)(k b o Bq VK:Nat)(arr:Array Value)(tb:TypeId)(a:Addr)(Ad TG:Nat)(cs:List Value)
  (hu:P.underlying dM=some (.slice elem)) (ai:(P.info? elem).map (·.size)=some k) (aw:w.heap[b]?=some (.cells arr tb (0,0))) (a8:cs.length=Nat.min Ad Bq*k)
  (hY:∀j v,cs[j]?=some v->w.cell? (a.add j)=some v) (dX:o+cs.length<=arr.size) (h1:∀v∈cs,v.oneCell'=true):
  (Builtin.copy_ #[dM,bd] ty #[.slice (some ⟨b,o,none⟩) Bq VK,.slice (some a) Ad TG]).run P w=.ok (goInt (Nat.min Ad Bq)) (w.setRow b (laid arr o cs)):=by
 have b0:=run_firstCells_some (P:=P) w k (Nat.min Ad Bq) a Ad TG cs a8 hY;have eP:=run_storeCells_at P b o tb cs 0 arr w aw (by simpa using dX) h1;simp only[mr]at eP;cases aK:P.info? elem with
 | none=>simp[aK]at ai
 | some i=>
  have hi:i.size=k:=by simpa[aK]using ai
  subst hi;simp[Builtin.copy_,run_underlying hu,Builtin.lenOf,sizeOf,typeInfo,aK,b0,eP,laid]
theorem ajh{P:Program}(w:World)(t e ty:TypeId)(z:Value)(bU:P.underlying t=some (.slice e))(bz:(zeroValue e).run P w=.ok z w)(b o n c:Nat)(arr:Array Value)(tb:TypeId)
  (aw:w.heap[b]?=some (.cells arr tb (0,0))) (dX:o+n*z.cells.size<=arr.size) (h1:∀v∈z.cells.toList,v.oneCell'=true):
  ∃zs:List Value,zs.length=n*z.cells.size/\(∀m,m<n*z.cells.size->zs[m]?=z.cells[m % z.cells.size]?)/\(Builtin.clear_ #[t] ty #[.slice (some ⟨b,o,none⟩) n c]).run P w=.ok (.tuple #[]) (if n=0 then w else w.setRow b (laid arr o zs)):=by
 refine⟨(Builtin.zeroCells z.cells n).toList,by simp[Builtin.zeroCells],fun m hm=>?_,?_⟩
 ·have BU:0<z.cells.size:=by
   rcases Nat.eq_zero_or_pos z.cells.size with h | h
   ·rw[h]at hm;simp at hm
   exact h
  simp only[Builtin.zeroCells,Array.toList_map,Array.toList_range,dr,List.getElem?_range hm,qL];rw[getElem!_pos z.cells _ (Nat.mod_lt _ BU),lb (Nat.mod_lt _ BU)]
 have o1:∀v∈(Builtin.zeroCells z.cells n).toList,v.oneCell'=true:=by
  intro v Nu;simp only[Builtin.zeroCells,Array.toList_map,kK,Array.toList_range,List.mem_range]at Nu;obtain⟨i,hi,rfl⟩:=Nu;have BU:0<z.cells.size:=by
   rcases Nat.eq_zero_or_pos z.cells.size with h | h
   ·rw[h]at hi;simp at hi
   exact h
  refine h1 _ ?_;rw[getElem!_pos z.cells _ (Nat.mod_lt _ BU)];simp
 have eP:=run_storeCells_at P b o tb (Builtin.zeroCells z.cells n).toList 0 arr w aw (by simpa[Builtin.zeroCells]using dX) o1;simp only[mr]at eP;cases n with
 | zero=>simp[Builtin.clear_,run_underlying bU]
 | succ n=>simp[Builtin.clear_,run_underlying bU,bz,eP,laid]
def wC(t k:Nat)(cm:List (List D)):az->az
 | .J (.own s) ci es=>if s=t then .J (.own t) k cm else .J (.own s) ci es
 | l=>az.ct (eU t) (fun _=>true) l
def Da(P:Program)(st:aD)(d:Nat)(t:TypeId)(x:Operand)(cP:Option Operand)(fY:TypeId)(ans:List b4):Stepped:=
 match ps P t,(st.bh x).leaf with
 | some (e,k),some (.J (.own gm) ci es)=>
  match P.info? e with
  | some i=>
   match i.zero,k1 st cP with
   | some z,some l=>
    if k=ci/\t=fY/\z.cells.size=k/\z.cells.toList.all (fun v=>v.oneCell')=true/\d<st.env.length then
     let st2:=st.map (wC gm k (es.take (l.getD 0).toNat++List.replicate (es.length-(l.getD 0).toNat) (z.cells.toList.map .v)))
     some (⟨st2.env.set d .ck,st2.boxes⟩,ans,[0<=l.getD 0,l.getD 0<es.length,Flat es])
    else none
   | _,_=>none
  | none=>none
 | _,_=>none
theorem cr.clear{P:Program}{w0:ee}{st bn:aD}{a:Act}{w:World}{ω:Own}{τ:Nat->Nat×Value}{d:Nat}{t fY:TypeId}{x:Operand}{cP:Option Operand}{ans b':List b4}{obs:List Prop}
  (aU:cr w0 st a w ω τ) (h:Da P st d t x cP fY ans=some (bn,b',obs)) (aZ:cA obs):
  d<a.tmps.size/\∃y z aM,(Instr.sliceAt t (a.eval x) (cP.map a.eval) none none).run P w=.ok y w/\(∀ty,(Builtin.clear_ #[fY] ty #[y]).run P w=.ok z aM)/\Rel w0 bn (a.put (some d) y) aM:=by
 unfold Da at h;split at h
 ·rename_i e k gm ci es he ak;split at h
  ·rename_i i hi;split at h
   ·rename_i z l bk M7;split at h
    ·rename_i al;obtain⟨rfl,rfl,n2,yH,rb⟩:=al;refine⟨by rw[aU.size];exact rb,?_⟩;simp only[aS,bq]at h;obtain⟨rfl,_,rfl⟩:=h;obtain⟨cy,ca,BL,_⟩:=aZ;obtain⟨hu,i2,l2,dN⟩:=u6 he;obtain⟨aH,bH⟩:=aE.du ak (aU.bh x);have ax:=y6 aU M7;have oX:(cP.map a.eval=none/\l.getD 0=0)\/∃k,cP.map a.eval=some (.int k (l.getD 0)):=by
      rcases ax with⟨h,rfl⟩ | ⟨k,n,h,rfl⟩
      ·exact .inl ⟨h,rfl⟩
      exact .inr ⟨k,h⟩
     generalize p2:a.eval x=D3 at aH bH;cases aH with
     | nil _ _ a0=>simp at ca;omega
     | row R k es b off cap arr ty cL us aw dG fS ai hk iL aG=>
      have j4:ω b=.tok gm []:=dG;obtain⟨o2,sj,tC,ha⟩:=aU.owned b (by rw[j4];simp);rw[aw]at ha;simp only[aS,Obj.cells.injEq]at ha;obtain⟨rfl,rfl,rfl⟩:=ha;obtain⟨L,cv⟩:∃L,L=(l.getD 0).toNat:=⟨_,rfl⟩
      have atA:L<es.length:=by omega
      rw[<-cv];have dX:off+L*k+(es.length-L)*z.cells.size<=arr.size:=by
       rw[n2,ER,<-gB,show L+(es.length-L)=es.length by omega];have:=gX k fS;omega
      have XV:(zeroValue e).run P w=.ok z w:=by simp[zeroValue,typeInfo,hi,bk]
      obtain⟨zs,l6,NE,MU⟩:∃zs:List Value,zs.length=(es.length-L)*z.cells.size/\(∀m,m<(es.length-L)*z.cells.size->zs[m]?=z.cells[m % z.cells.size]?)/\
        ∀ty,(Builtin.clear_ #[t] ty #[.slice (some ⟨b,off+L*k,none⟩) (es.length-L) (cap-L)]).run P w=.ok (.tuple #[]) (if es.length-L=0 then w else w.setRow b (laid arr (off+L*k) zs)):=by
       obtain⟨zs,h1,U,ax⟩:=ajh (P:=P) w t e 0 z hu XV b (off+L*k) (es.length-L) (cap-L) arr ty aw dX (fx.1 yH);exact⟨zs,h1,U,fun pN=>ax⟩
      rw[bG (by omega)]at MU;rw[n2]at l6 NE;have cR:off+L*k+zs.length<=arr.size:=by rw[l6,<-n2];exact n2▸dX
      refine⟨.slice (some ⟨b,off+L*k,none⟩) (es.length-L) (cap-L),_,_,?_,MU,?_⟩
      ·simp only[Instr.sliceAt,Sem.run_bind,run_underlying hu,Result.andThen_ok,Instr.slice,Option.map_none];rw[y5 (h:=es.length) oX (.inl ⟨rfl,rfl⟩) cy (by omega) (by omega)];have c3:¬cap=L:=by omega
       simp[sizeOf,typeInfo,l2,dN,<-cv,c3,Addr.add_lit]
      -- auQ asi behind it
      have j7:=setRow_heap w b arr (laid arr (off+L*k) zs) ty (0,0) aw;have fT:bQ (w.setRow b (laid arr (off+L*k) zs)) ω (Tag.own gm).R (.J k (es.take L++List.replicate (es.length-L) (z.cells.toList.map .v))) (.slice (some ⟨b,off,none⟩) es.length cap):=by
       have hlen:(es.take L++List.replicate (es.length-L) (z.cells.toList.map D.v)).length=es.length:=by simp;omega
       have eW:∀x j d,cQ (es.take L++List.replicate (es.length-L) (z.cells.toList.map D.v)) x j=some d->∃v,d=.v v/\(laid arr (off+L*k) zs)[off+x*k+j]?=some v/\v.oneCell'=true:=by
        intro x j d dK;rw[y']at dK;have yz:(es.take L).length=L:=by simp;omega
        rw[yz]at dK;split at dK
        ·rename_i Gk;have ui:cQ es x j=some d:=by
          unfold cQ at dK ⊢;rwa[jY,bM Gk]at dK
         obtain⟨fA,jR⟩:=rK hk ui;have p4:∃v,d=.v v:=by
          unfold cQ at ui;cases e1:es[x]? with
          | none=>simp[e1]at ui
          | some ds=>
           simp only[e1,oy]at ui;exact BL ds (fl e1) d (fl ui)
         obtain⟨v,rfl⟩:=p4;have aI:=aG x j _ ui;have aX:=iL x j _ ui;generalize us x j=u at aI aX;cases aI with
         | v _ _ bx=>
          refine⟨v,rfl,?_,bx⟩;rw[mf cR,bG ?_,aX];have:(x+1)*k<=L*k:=gX _ Gk;rw[gB]at this;omega
        rename_i Gk;unfold cQ at dK;rw[A1]at dK;split at dK
        ·rename_i yE;simp only[oy,dr,bX]at dK;obtain⟨v,bz,rfl⟩:=dK;have yl:j<k:=by
          have:=(fy.1 bz).1;rw[Me,n2]at this;exact this
         refine⟨v,rfl,?_,fx.1 yH v (fl bz)⟩;obtain⟨m,hm⟩:∃m,x=L+m:=⟨x-L,by omega⟩
         subst hm;have Xd:m*k+j<(es.length-L)*k:=by
          have:(m+1)*k<=(es.length-L)*k:=gX _ (by omega);rw[gB]at this;omega
         have e1:off+(L+m)*k+j=off+L*k+(m*k+j):=by rw[gB];omega
         rw[e1,mf cR,bM (by omega),show off+L*k+(m*k+j)-(off+L*k)=m*k+j by omega,NE _ Xd,show (m*k+j) % k=j by rw[Nat.mul_comm m k,Nat.mul_add_mod,EQ yl]];simpa using bz
        simp at dK
       have:=bQ.row (w:=w.setRow b (laid arr (off+L*k) zs)) (ω:=ω) (Tag.own gm).R k (es.take L++List.replicate (es.length-L) (z.cells.toList.map .v)) b off cap _ ty (0,0)
        (fun x j=>(laid arr (off+L*k) zs).getD (off+x*k+j) undef) j7 dG (by omega) (by rw[sZ cR];exact ai)
        (by
         intro e' uj;rcases lM.1 uj with h | h
         ·exact hk e' (A0 h)
         rw[List.eq_of_mem_replicate h];simp[n2])
        (fun x j d dK=>by obtain⟨v,rfl,h1,_⟩:=eW x j d dK;simp[ep,h1])
        (fun x j d dK=>by
         obtain⟨v,rfl,h1,U⟩:=eW x j d dK;have:(laid arr (off+L*k) zs).getD (off+x*k+j) undef=v:=by simp[ep,h1]
         rw[this];exact .v _ _ U)
       rwa[hlen]at this
      have bh:kN w ω τ (w.setRow b (laid arr (off+L*k) zs)) ω τ (eU gm) (fun _=>true):=by
       refine⟨?_,?_,fun id c _ al=>al,rfl,fun _ _=>rfl⟩
       ·intro g dW c q av _ aK;obtain⟨rfl,yr⟩:=C8 av aK;exact⟨aK,setRow_other w b c _ fun e=>yr [] (by rw[e];exact j4)⟩
       intro g dW y av bD;cases g with
       | free=>simp only[eU,aS]at av;subst av;trivial
       | own x=>
        simp only[eU]at av;split at av
        ·cases av
        simp only[aS]at av;subst av;exact bD
       | ro x=>
        simp only[eU]at av;split at av
        ·cases av
        simp only[aS]at av;subst av;trivial
      have ei:∀jU v,Sat w ω τ jU v->Sat (w.setRow b (laid arr (off+L*k) zs)) ω τ (wC gm k (es.take L++List.replicate (es.length-L) (z.cells.toList.map .v)) jU) v:=by
       intro jU v Gh;by_cases MS:∃s ci cm,jU=.J (.own s) ci cm
       ·obtain⟨s,ci,cm,rfl⟩:=MS;simp only[wC];split
        ·rename_i eP;subst eP;obtain⟨_,U⟩:=Gh;simp only[Tag.dJ]at U bH;rw[U]at bH;simp only[bq]at bH;obtain⟨rfl,rfl⟩:=bH;exact⟨fT,U⟩
        rename_i eP;have:=bh.sat (.J (.own s) ci cm) v Gh;simpa[az.ct,eU,eP]using this
       have dQ:wC gm k (es.take L++List.replicate (es.length-L) (z.cells.toList.map .v)) jU=az.ct (eU gm) (fun _=>true) jU:=by
        unfold wC;split
        ·exact absurd ⟨_,_,_,rfl⟩ MS
        rfl
       rw[dQ];exact bh.sat jU v Gh
      have h1:cr w0 (st.map (wC gm k (es.take L++List.replicate (es.length-L) (z.cells.toList.map .v)))) a (w.setRow b (laid arr (off+L*k) zs)) ω τ:=by
       refine aU.dT _ ei (aU.below.setRow o2 _) ?_ (fun id c al=>⟨al,setRow_other w b c _ fun e=>by rw[e,j4]at al;cases al⟩) (fun id c al=>al) (fun _ _=>rfl);intro c al;obtain⟨h1,jz,jK,U⟩:=aU.owned c al;by_cases e:c=b
       ·subst e;exact⟨h1,_,ty,j7⟩
       exact⟨h1,jz,jK,(setRow_other w b c _ e).trans U⟩
      exact⟨ω,τ,h1.put (p:=.ck) trivial⟩
    cases h
   cases h
  cases h
 cases h
end Go.Sx
namespace Go.Sx
open Go.RowKit
def bm.ki(p:az->Prop):bm->Prop
 | .one l=>p l
 | .agg ls=>∀l∈ls,p l
def aE.ki(p:az->Prop):aE->Prop
 | .aF a=>a.ki p
 | .fv as=>∀a∈as,a.ki p
variable{S jO:az->Value->Prop}{p:az->Prop}{f:az->az}{ls:List az}
theorem jx.map'(h:∀l v,p l->S l v->jO (f l) v){vs:Array Value}(ag:∀l∈ls,p l)(ai:jx S ls vs):jx jO (ls.map f) vs:=by
 refine⟨by simpa using ai.1,fun i l ap=>?_⟩;rw[dr,bX]at ap;obtain⟨fo,b5,rfl⟩:=ap;obtain⟨u,h1,U⟩:=ai.2 i fo b5;exact⟨u,h1,h _ _ (ag fo (fl b5)) U⟩
theorem jw.map'(h:∀l v,p l->S l v->jO (f l) v):∀{a:bm} {y:Value},a.ki p->jw S a y->jw jO (a.map f) y
 | .one l,y,ag,ai=>h _ _ ag ai
 | .agg ls,y,ag,⟨vs,e,ai⟩=>⟨vs,e,ai.map' h ag⟩
theorem cE.map'(h:∀l v,p l->S l v->jO (f l) v):∀{q:aE} {y:Value},q.ki p->cE S q y->cE jO (q.map f) y
 | .aF a,y,ag,ai=>show jw jO (a.map f) y from jw.map' h ag (show jw S a y from ai)
 | .fv as,y,ag,⟨vs,e,a8,ai⟩=>⟨vs,e,by simpa using a8,fun i a hi=>by
   rw[dr,bX]at hi;obtain⟨a0,b5,rfl⟩:=hi;obtain⟨u,h1,U⟩:=ai i a0 b5;exact⟨u,h1,jw.map' h (ag a0 (fl b5)) U⟩⟩
variable{w0:ee}{st:aD}{a:Act}{w aM:World}{ω a7:Own}{τ:Nat->Nat×Value}
theorem cr.asu{cI:Nat->Nat×Value}{p:az->Prop}(h:cr w0 st a w ω τ)(f:az->az)
  (ei:∀l v,p l->Sat w ω τ l v->Sat aM a7 cI (f l) v) (he:∀q∈st.env,q.ki p) (aw:∀id ls,df id st.boxes=some ls->∀l∈ls,p l) (p0:fO w0 aM) (o3:my w0 aM a7)
  (q8:∀id b,ω b=.box id->a7 b=.box id/\aM.heap[b]?=w.heap[b]?) (yc:∀id b,a7 b=.box id->ω b=.box id) (sx:∀t,cX<=t->cI t=τ t):cr w0 (st.map f) a aM a7 cI where
 defers:=h.defers
 size:=by simp[aD.map,h.size]
 below:=p0
 owned:=o3
 fixed:=fun t bU=>(sx t bU).trans (h.fixed t bU)
 pinned:=fun id b hi aw=>h.pinned id b hi (yc id b aw)
 env:=by
  intro i q aK;simp only[aD.map]at aK;rw[dr,bX]at aK;obtain⟨hE,b5,rfl⟩:=aK;obtain⟨v,h1,U⟩:=h.env i hE b5;exact⟨v,h1,cE.map' ei (he hE (fl b5)) U⟩
 boxes:=by
  intro id ls ap;simp only[aD.map]at ap;rw[rJ,bX]at ap;obtain⟨ij,b5,rfl⟩:=ap;obtain⟨b,arr,ty,gH,hu,bH,ai⟩:=h.boxes id ij b5;obtain⟨h1,U⟩:=q8 id b gH;exact⟨b,arr,ty,h1,fun da eh=>hu da (yc id da eh),U.trans bH,ai.map' ei (aw id ij b5)⟩
def az.idx(t j:Nat):az->List Nat
 | .aO s a b _ _ _=>if s=t/\b=j then [a] else []
 | _=>[]
def bm.idx(t j:Nat):bm->List Nat
 | .one l=>l.idx t j
 | .agg ls=>ls.flatMap (az.idx t j)
def aE.idx(t j:Nat):aE->List Nat
 | .aF a=>a.idx t j
 | .fv as=>as.flatMap (bm.idx t j)
def aD.idx(t j:Nat)(st:aD):List Nat:=st.env.flatMap (aE.idx t j)++st.boxes.flatMap fun x=>x.2.flatMap (az.idx t j)
def Db(t i j:Nat)(l:az):Prop:=∀a∈l.idx t j,a=i
theorem OA{id:Nat}:∀{bs:List (Nat×List az)} {ls:List az},df id bs=some ls->(id,ls)∈bs
 | [],_,h=>by cases h
 | (i,l)::r,ls,h=>by
  simp only[df]at h;split at h
  ·rename_i hi;subst hi;rw[gQ h];exact j1
  exact hR _ (OA h)
variable{t i j:Nat}
theorem aD.XY(h:∀a∈st.idx t j,a=i):∀q∈st.env,q.ki (Db t i j):=by
 intro q aK;have h1:∀a∈q.idx t j,a=i:=fun a ag=>h a (hQ _ (nF.2 ⟨q,aK,ag⟩))
 have MN:∀x:bm,(∀a∈x.idx t j,a=i)->x.ki (Db t i j):=by
  intro x ak;cases x with
  | one l=>exact ak
  | agg ls=>exact fun l ap a ag=>ak a (nF.2 ⟨l,ap,ag⟩)
 cases q with
 | aF x=>exact MN x h1
 | fv as=>exact fun x ak=>MN x fun a ag=>h1 a (nF.2 ⟨x,ak,ag⟩)
theorem aD.XX(h:∀a∈st.idx t j,a=i){id:Nat}(aw:df id st.boxes=some ls):∀l∈ls,Db t i j l:=by
 intro l ap a ag;exact h a (iC _ (nF.2 ⟨(id,ls),OA aw,nF.2 ⟨l,ap,ag⟩⟩))
def gx(t i j k:Nat)(cm:List (List D))(kT:Nat)(esT:List (List D)):az->az
 | .J (.own s) dq dx=>if s=t then .J (.own t) kT esT else .J (.own s) dq dx
 | .cB (.own s) dq dx a b=>if s=t then .cB (.own t) kT esT a b else .cB (.own s) dq dx a b
 | .J (.ro s) dq dx=>if s=t then .ck else .J (.ro s) dq dx
 | .cB (.ro s) dq dx a b=>if s=t then .ck else .cB (.ro s) dq dx a b
 | .aO s a b dq dx m=>if s=t/\b=j then (if dq=k/\m.home=true then .aO t i j k cm m else .ck) else .aO s a b dq dx m
 | .eX _ _=>.ck
 | l=>l
variable{v:Value}
theorem tn.asy{u:Value}(h1:tn w ω τ t i j u)(U:tn w ω τ t i j v):u=v:=by
 obtain⟨kT,b,off,len,cap,arr,ty,cL,eE,a2,a3,a4⟩:=h1;obtain⟨X1,da,auw,auq,kQ,b9,pN,ats,gD,fQ,xO,E3⟩:=U;rw[eE]at gD;simp only[bq,Value.slice.injEq,aS,Addr.mk.injEq]at gD;obtain⟨rfl,⟨rfl,rfl,_⟩,_,_⟩:=gD;rw[a3]at xO;simp only[aS,Obj.cells.injEq]at xO;obtain⟨rfl,_,_⟩:=xO;rw[a4]at E3;exact gQ E3
variable{k kT:Nat}{esT:List (List D)}
theorem cr.TJ(h:cr w0 st a w ω τ){cm:List (List D)}{yT hz:Value}
  (jg:∀c,c<w.heap.size->ω c≠.tok t [(i,j)]->aM.heap[c]?=w.heap[c]?) (c7:∀c,c<w.heap.size->a7 c=ω c) (G2:∀c id,¬c<w.heap.size->a7 c≠.box id)
  (j5:fO w0 aM) (o2:my w0 aM a7) (ru:τ t=(kT,yT)) (mP:bQ aM a7 (Tag.own t).R (.J kT esT) yT)
  (p3:tn w ω τ t i j hz) (n0:bQ aM a7 (fun q o=>o=.tok t ((i,j)::q)) (.J k cm) hz) (nY:∀a∈st.idx t j,a=i):cr w0 (st.map (gx t i j k cm kT esT)) a aM a7 τ:=by
 have cL:∀{R:List (Nat×Nat)->c0->Prop} {d:D} {v:Value},(∀q,¬R q (.tok t [(i,j)]))->bQ w ω R d v->bQ aM a7 R d v:=by
  intro R d v a8 aH;refine aH.frame fun b q bJ aK=>?_
  rw[c7 b bJ];exact⟨aK,jg b bJ fun e=>a8 q (by rw[<-e];exact aK)⟩
 have home:∀{s a b:Nat} {u:Value},tn w ω τ s a b u->tn aM a7 τ s a b u:=by
  rintro s a b u ⟨kT,c,off,len,cap,arr,ty,cL,eE,a2,a3,a4⟩;have bJ:c<w.heap.size:=(iE.1 a3).1;exact⟨kT,c,off,len,cap,arr,ty,cL,eE,by rw[c7 c bJ];exact a2,(jg c bJ (by rw[a2];simp)).trans a3,a4⟩
 refine h.asu (p:=Db t i j) _ ?_ (aD.XY nY) (fun id ls aw=>aD.XX nY aw) j5 o2 (fun id b aw=>?_) (fun id b aw=>?_) (fun _ _=>rfl)
 ·intro l v av ai;cases l with
  | ck=>exact trivial
  | v x=>exact ai
  | a' c=>exact ai
  | ptr id o=>
   obtain⟨c,al,e⟩:=ai;exact⟨c,by rw[c7 c (h.owned.lt (by simp[al]))];exact al,e⟩
  | fR f ids=>
   obtain⟨bs,e,a8,hi⟩:=ai;refine⟨bs,e,a8,fun x id gh=>?_⟩;obtain⟨b,h1,U⟩:=hi x id gh;exact⟨b,h1,by rw[c7 b (h.owned.lt (by simp[U]))];exact U⟩
  | hc ds o=>
   obtain⟨c,e,aH⟩:=ai;exact⟨c,e,cL (fun q aK=>by cases aK) aH⟩
  | fd d=>exact cL (R:=Tag.free.R) (fun q aK=>by cases aK) ai
  | c' t0 dq dx=>exact⟨cL (R:=Tag.free.R) (fun q aK=>by cases aK) ai.1,ai.2⟩
  | eX=>exact trivial
  | J g dq dx=>
   cases g with
   | free=>exact⟨cL (R:=Tag.free.R) (fun q aK=>by cases aK) ai.1,aa⟩
   | own s=>
    simp only[gx];split
    ·rename_i e;subst e;have U:=ai.2;simp only[Tag.dJ]at U;rw[ru]at U;simp only[bq]at U;rw[<-U.2];exact⟨mP,ru⟩
    rename_i c3;exact⟨cL (R:=(Tag.own s).R) (fun q aK=>by simp only[Tag.R,c0.tok.injEq]at aK;exact c3 aK.1.symm) ai.1,ai.2⟩
   | ro s=>
    simp only[gx];split
    ·exact trivial
    rename_i c3;refine⟨cL (R:=(Tag.ro s).R) (fun q aK=>?_) ai.1,aa⟩;rcases aK with aK | ⟨dE,aK⟩
    ·cases aK
    simp only[c0.tok.injEq]at aK;exact c3 aK.1.symm
  | cB g dq dx x y=>
   obtain⟨fQ,ph,oH,e,l2,l5,mM⟩:=ai;cases g with
   | free=>exact⟨fQ,ph,oH,e,l2,cL (R:=Tag.free.R) (fun q aK=>by cases aK) l5,aa⟩
   | own s=>
    simp only[gx];split
    ·rename_i e1;subst e1;simp only[Tag.dJ]at mM;rw[ru]at mM;simp only[bq]at mM;obtain⟨rfl,rfl⟩:=mM;have ap:esT.length=dx.length:=by
      obtain⟨_,_,e2⟩:=mP.len;simp only[Value.slice.injEq]at e2;exact e2.2.1.symm
     refine⟨fQ,ph,oH,e,by omega,?_,?_⟩
     ·rw[ap];exact mP
     rw[ap];exact ru
    rename_i c3;exact⟨fQ,ph,oH,e,l2,cL (R:=(Tag.own s).R) (fun q aK=>by simp only[Tag.R,c0.tok.injEq]at aK;exact c3 aK.1.symm) l5,mM⟩
   | ro s=>
    simp only[gx];split
    ·exact trivial
    rename_i c3;refine⟨fQ,ph,oH,e,l2,cL (R:=(Tag.ro s).R) (fun q aK=>?_) l5,aa⟩;rcases aK with aK | ⟨dE,aK⟩
    ·cases aK
    simp only[c0.tok.injEq]at aK;exact c3 aK.1.symm
  | aO s x y dq dx m=>
   simp only[gx];obtain⟨u,hu,aH,hm⟩:=ai;split
   ·rename_i al;obtain⟨rfl,rfl⟩:=al;have ak:x=i:=av x (by simp[az.idx]);subst ak;split
    ·rename_i al;obtain⟨rfl,Xc⟩:=al;have e:=(hm Xc).asy p3;subst e;have ap:cm.length=dx.length:=by
      obtain⟨_,_,e1⟩:=n0.len;obtain⟨_,_,e2⟩:=aH.len;rw[e1]at e2;simp only[Value.slice.injEq]at e2;omega
     exact⟨u,by rw[ap];exact hu,n0,fun _=>home p3⟩
    exact trivial
   rename_i al;refine⟨u,hu,cL (fun q aK=>?_) aH,fun bH=>home (hm bH)⟩;simp only[c0.tok.injEq,qN,bq]at aK;exact al ⟨aK.1.symm,aK.2.1.2.symm⟩
 ·have bJ:=h.owned.lt (b:=b) (by simp[aw]);exact⟨by rw[c7 b bJ];exact aw,jg b bJ (by rw[aw];simp)⟩
 by_cases bJ:b<w.heap.size
 ·rw[c7 b bJ]at aw;exact aw
 exact absurd aw (G2 b id bJ)
def r5(t:Nat):az->Option (Nat×List (List D))
 | .J (.own s) k es=>if s=t then some (k,es) else none
 | _=>none
def s0(t:Nat):List aE->Option (Nat×List (List D))
 | []=>none
 | .aF (.one l)::r=>match r5 t l with | some x=>some x | none=>s0 t r
 | .aF (.agg ls)::r=>match ls.findSome? (r5 t) with | some x=>some x | none=>s0 t r
 | _::r=>s0 t r
def Dc(t:Nat)(st:aD):Option (Nat×List (List D)):=
 match s0 t st.env with
 | some x=>some x
 | none=>(st.boxes.find? fun x=>(x.2.findSome? (r5 t)).isSome).bind fun x=>(df x.1 st.boxes).bind fun ls=>ls.findSome? (r5 t)
theorem IP{l:az}(h:r5 t l=some (kT,esT))(ai:Sat w ω τ l v):Sat w ω τ (.J (.own t) kT esT) v:=by
 unfold r5 at h;split at h
 ·split at h
  ·rename_i e;subst e;simp only[aS,bq]at h;obtain⟨rfl,rfl⟩:=h;exact ai
  cases h
 cases h
theorem OB{vs:Array Value}(h:ls.findSome? (r5 t)=some (kT,esT))(ai:jx (Sat w ω τ) ls vs):∃v,Sat w ω τ (.J (.own t) kT esT) v:=by
 obtain⟨l,ap,U⟩:=List.exists_of_findSome?_eq_some h;obtain⟨x,ak⟩:=ox.1 ap;obtain⟨u,_,hu⟩:=ai.2 x l ak;exact⟨u,IP U hu⟩
theorem Dd:∀{cn:List aE},s0 t cn=some (kT,esT)->(∀p∈cn,∃v,cE (Sat w ω τ) p v)->∃v,Sat w ω τ (.J (.own t) kT esT) v
 | [],h,_=>by cases h
 | p::r,h,ai=>by
  have aH:∀p∈r,∃v,cE (Sat w ω τ) p v:=fun p hp=>ai p (hR _ hp)
  obtain⟨v,bz⟩:=ai p j1;cases p with
  | fv as=>exact Dd (by simpa[s0]using h) aH
  | aF x=>
   cases x with
   | one l=>
    simp only[s0]at h;split at h
    ·rename_i y e;simp only[aS]at h;subst h;exact⟨v,IP e bz⟩
    exact Dd h aH
   | agg ls=>
    simp only[s0]at h;split at h
    ·rename_i y e;simp only[aS]at h;subst h;obtain⟨vs,_,bz⟩:=bz;exact OB e bz
    exact Dd h aH
theorem cr.root(h:cr w0 st a w ω τ)(e:Dc t st=some (kT,esT)):∃v,Sat w ω τ (.J (.own t) kT esT) v:=by
 unfold Dc at e;split at e
 ·rename_i x e1;simp only[aS]at e;subst e;refine Dd e1 fun p hp=>?_
  obtain⟨x,ak⟩:=ox.1 hp;obtain⟨v,_,bz⟩:=h.env x p ak;exact⟨v,bz⟩
 rw[lf]at e;obtain⟨x,_,e⟩:=e;rw[lf]at e;obtain⟨ls,aw,e⟩:=e;obtain⟨b,arr,ty,_,_,_,ai⟩:=h.boxes x.1 ls aw;exact OB e ai
theorem OC{cm:List (List D)}{ib:List D}{yT hz:Value}(ai:Sat w ω τ (.J (.own t) kT esT) yT)
  (jg:∀c,c<w.heap.size->ω c≠.tok t [(i,j)]->aM.heap[c]?=w.heap[c]?) (c7:∀c,c<w.heap.size->a7 c=ω c)
  (p3:tn w ω τ t i j hz) (n0:bQ aM a7 (fun q o=>o=.tok t ((i,j)::q)) (.J k cm) hz) (ey:esT[i]?=some ib):bQ aM a7 (Tag.own t).R (.J kT (esT.set i (ib.set j (.J k cm)))) yT:=by
 obtain⟨aH,bH⟩:=ai;simp only[Tag.dJ]at bH;obtain⟨X1,cc,Hj,NO,Mu,sj,tC,att,eE,a2,a3,a4⟩:=p3;rw[bH]at eE;simp only[bq]at eE;obtain⟨rfl,rfl⟩:=eE;have iK:i<esT.length:=(fy.1 ey).1;have hlen:(esT.set i (ib.set j (.J k cm))).length=esT.length:=gp;generalize bD:Value.slice (some ⟨cc,Hj,none⟩) NO Mu=Mc at aH;cases aH with
 | nil=>simp at iK
 | row R kT esT b off cap arr ty cL us aw dG al dN hk hu aG=>
  simp only[Value.slice.injEq,aS,Addr.mk.injEq]at bD;obtain⟨⟨rfl,rfl,_⟩,rfl,rfl⟩:=bD;rw[aw]at a3;simp only[aS,Obj.cells.injEq]at a3;obtain⟨rfl,_,_⟩:=a3;have uf:cc<w.heap.size:=(iE.1 aw).1;have BM:ib.length=kT:=hk ib (fl ey);have uu:∀e∈esT.set i (ib.set j (.J k cm)),e.length=kT:=by
   intro e he;rcases pR he with h | rfl
   ·exact hk e h
   rw[gp];exact BM
  have key:∀x y d,cQ (esT.set i (ib.set j (.J k cm))) x y=some d->arr[Hj+x*kT+y]?=some (us x y)/\bQ aM a7 (fun q=>(Tag.own t).R ((x,y)::q)) d (us x y):=by
   intro x y d dK;have Gl:=rK uu dK;rw[hlen]at Gl;obtain⟨d0,Wv⟩:=OZ hk Gl.1 Gl.2;have ux:=hu x y d0 Wv;refine⟨ux,?_⟩;rw[H0 iK]at dK;by_cases ak:x=i
   ·subst ak;rw[bM rfl,nD]at dK;by_cases GZ:j=y
    ·subst GZ;rw[bM rfl,bM (by omega)]at dK;rw[<-gQ dK];rw[a4]at ux;rw[<-gQ ux];exact n0
    rw[bG GZ]at dK;have oT:cQ esT x y=some d:=by simp[cQ,ey,dK]
    refine (aG x y d oT).frame fun c q al aK=>?_
    rw[c7 c al];refine⟨aK,jg c al fun e=>?_⟩;simp only[Tag.R,e,c0.tok.injEq,qN,bq]at aK;exact GZ aK.2.1.2
   rw[bG ak]at dK;refine (aG x y d dK).frame fun c q al aK=>?_
   rw[c7 c al];refine⟨aK,jg c al fun e=>?_⟩;simp only[Tag.R,e,c0.tok.injEq,qN,bq]at aK;exact ak aK.2.1.1.symm
  have j4:ω cc=.tok t []:=dG;have:=bQ.row (w:=aM) (ω:=a7) (Tag.own t).R kT (esT.set i (ib.set j (.J k cm))) cc Hj Mu arr ty cL us ((jg cc uf (by rw[j4];simp)).trans aw) (by rw[c7 cc uf];exact j4) (by omega) dN uu
   (fun x y d aG=>(key x y d aG).1) (fun x y d aG=>(key x y d aG).2)
  rw[hlen]at this;exact this
def IQ(P:Program)(st:aD)(ty:TypeId)(t i j k:Nat)(es:List (List D))(x y:Nat)(q:aE)(ans:List b4):Stepped:=
 match q.leaves,P.info? ty,Dc t st,ans with
 | some xs,some inf,some (kT,esT),.el ds::.el ib::r=>
  match xs.mapM az.hM with
  | some ys=>
   if xs.length=inf.size/\ds.length=k/\y+ys.length<=k/\xs.all (fun l=>l.tok.isNone)=true then
    some (st.map (gx t i j k (es.set x (j2 ds y ys)) kT (esT.set i (ib.set j (.J k (es.set x (j2 ds y ys)))))),r,(es[x]?=some ds)::(esT[i]?=some ib)::(st.idx t j).map fun a=>a=i)
   else none
  | none=>none
 | _,_,_,_=>none
theorem aji{l:az}{d:D}(h:l.hM=some d)(bU:l.tok.isNone=true){u:Value}(ai:Sat w ω τ l u):∃z,d=.v z/\u=z/\z.oneCell'=true:=by
 cases l with
 | v z=>
  simp only[az.hM]at h;split at h
  ·simp only[aS]at h;subst h;have:u=z:=ai;exact⟨z,rfl,this,‹_›⟩
  cases h
 | a' c=>
  simp only[az.hM,aS]at h;subst h;exact⟨_,rfl,ai,rfl⟩
 | J g k es=>
  cases g with
  | own s=>simp[az.tok]at bU
  | free=>cases h
  | ro s=>cases h
 | ck=>cases h
 | ptr=>cases h
 | cB=>cases h
 | hc=>cases h
 | fd=>cases h
 | c'=>cases h
 | fR=>cases h
 | aO=>cases h
 | eX=>cases h
theorem cr.asq{P:Program}{bn:aD}{ty:TypeId}{x y:Nat}{es:List (List D)}{q:aE}{p:Value}{ans b':List b4}{obs:List Prop}
  (aU:cr w0 st a w ω τ) (hp:Sat w ω τ (.aO t i j k es (.at_ x y)) p) (aK:cE (Sat w ω τ) q v) (h:IQ P st ty t i j k es x y q ans=some (bn,b',obs)) (aZ:cA obs):
  ∃aM,(Instr.storeAt ty p v).run P w=.ok () aM/\Rel w0 bn a aM:=by
 unfold IQ at h;split at h
 ·rename_i xs inf kT esT ds ib r e1 e2 d';split at h
  ·rename_i ys cb;split at h
   ·rename_i al;obtain⟨kU,ko,j6,BG⟩:=al;simp only[aS,bq]at h;obtain⟨rfl,_,rfl⟩:=h;obtain⟨ey,vX,nY⟩:=aZ;have nY:=Cm nY;obtain⟨yT,mP⟩:=aU.root d';obtain⟨ai,o1⟩:=aE.wm e1 aK;obtain⟨NC,GY⟩:=mc cb;obtain⟨hz,⟨b,off,cap,rfl,rfl,iK⟩,aH,hm⟩:=hp;have p3:=hm rfl;have rl:=aH;cases aH with
    | nil=>simp at iK
    | row R k es b off cap arr hN cL us aw dG fS dN gu hu aG=>
     have j4:ω b=.tok t [(i,j)]:=dG;obtain⟨uq,sj,tC,ha⟩:=aU.owned b (by rw[j4];simp);rw[aw]at ha;simp only[aS,Obj.cells.injEq]at ha;obtain⟨rfl,rfl,rfl⟩:=ha;have uf:b<w.heap.size:=(iE.1 aw).1;have hmul:(x+1)*k<=cap*k:=gX _ (by omega);rw[gB]at hmul;have sE:v.cells.size=xs.length:=ai.1;have dX:off+x*k+y+v.cells.toList.length<=arr.size:=by simp;omega
     have eP:=run_storeCells_at P b (off+x*k+y) hN v.cells.toList 0 arr w aw (by simpa using dX) o1;simp only[mr]at eP;generalize nT:(arr.toList.take (off+x*k+y)++v.cells.toList++arr.toList.drop (off+x*k+y+v.cells.toList.length)).toArray=b9 at eP;have hW:∀z:Nat,b9[z]?=if off+x*k+y<=z/\z<off+x*k+y+xs.length then v.cells[z-(off+x*k+y)]? else arr[z]?:=by
      intro z;rw[<-nT,nB,y8 (by simpa using dX)];simp[sE]
     have wh:b9.size=arr.size:=by rw[<-nT];simp;simp at dX;omega
     have j7:=setRow_heap w b arr b9 hN (0,0) aw;have jg:∀c,c<w.heap.size->ω c≠.tok t [(i,j)]->(w.setRow b b9).heap[c]?=w.heap[c]?:=fun c _ al=>setRow_other w b c b9 fun e=>al (by rw[e];exact j4)
     have n0:bQ (w.setRow b b9) ω (fun q o=>o=.tok t ((i,j)::q)) (.J k (es.set x (j2 ds y ys))) (.slice (some ⟨b,off,none⟩) es.length cap):=by
      have hlen:(es.set x (j2 ds y ys)).length=es.length:=gp;have BM:ds.length=k:=ko;have l4:∀fZ f' d,cQ es fZ f'=some d->bQ (w.setRow b b9) ω (fun q o=>o=.tok t ((i,j)::(fZ,f')::q)) d (us fZ f'):=by
       intro fZ f' d oT;refine (aG fZ f' d oT).frame fun c q al ez=>⟨ez,jg c al fun e=>?_⟩
       rw[e]at ez;simp at ez
      have eW:∀fZ f' d,cQ (es.set x (j2 ds y ys)) fZ f'=some d->∃u,b9[off+fZ*k+f']?=some u/\bQ (w.setRow b b9) ω (fun q o=>o=.tok t ((i,j)::(fZ,f')::q)) d u:=by
       intro fZ f' d dK;rw[H0 iK]at dK;by_cases ak:fZ=x
       ·subst ak;rw[bM rfl,O2 (by omega)]at dK;split at dK
        ·rename_i bD;obtain⟨l,jf,cR⟩:=GY _ _ dK;obtain⟨u,gv,fc⟩:=ai.2 _ _ jf;obtain⟨z,rfl,rfl,bk⟩:=aji cR (fx.1 BG l (fl jf)) fc;refine⟨u,?_,.v _ _ bk⟩;rw[hW,bM (by omega),<-gv]
         congr 1;omega
        rename_i bD;have oT:cQ es fZ f'=some d:=by simp[cQ,ey,dK]
        refine⟨us fZ f',?_,l4 fZ f' d oT⟩;rw[hW,bG (by omega),hu fZ f' d oT]
       rw[bG ak]at dK;obtain⟨fA,XR⟩:=rK gu dK;refine⟨us fZ f',?_,l4 fZ f' d dK⟩;rw[hW,bG ?_,hu fZ f' d dK];rcases Nat.lt_or_gt_of_ne ak with h | h
       ·have:(fZ+1)*k<=x*k:=gX _ h;rw[gB]at this;omega
       have:(x+1)*k<=fZ*k:=gX _ h;rw[gB]at this;omega
      have o7:∀e∈es.set x (j2 ds y ys),e.length=k:=by
       intro e he;rcases pR he with h | rfl
       ·exact gu e h
       rw[O3 (by omega)];exact BM
      have:=bQ.row (w:=w.setRow b b9) (ω:=ω) (fun q o=>o=.tok t ((i,j)::q)) k (es.set x (j2 ds y ys)) b off cap b9 hN (0,0) (fun fZ f'=>b9.getD (off+fZ*k+f') undef) j7 j4 (by omega) (by omega) o7
       (fun x y d eb=>by obtain⟨u,h1,_⟩:=eW x y d eb;rw[h1];simp[ep,h1])
       (fun x y d eb=>by obtain⟨u,h1,U⟩:=eW x y d eb;have:b9.getD (off+x*k+y) undef=u:=(by simp[ep,h1]);rw[this];exact U)
      rw[hlen]at this;exact this
     refine⟨w.setRow b b9,?_,ω,τ,aU.TJ (yT:=yT) jg (fun _ _=>rfl) (fun c id al e=>?_) (aU.below.setRow uq b9) ?_ mP.2 (OC mP jg (fun _ _=>rfl) p3 n0 vX) p3 n0 nY⟩
     ·simp only[Instr.storeAt,Instr.sureAddr,Sem.run_bind,Sem.run_pure,Result.andThen_ok,storeVar,sizeOf,typeInfo,run_program,e2];have XC:¬(v.cells.size≠inf.size):=by simp;omega
      rw[bG XC];exact eP
     ·exact al (aU.owned.lt (by rw[e];simp))
     intro c ig;obtain⟨ax,jz,jK,aI⟩:=aU.owned c ig;by_cases yd:c=b
     ·subst yd;exact⟨ax,b9,hN,j7⟩
     exact⟨ax,jz,jK,(setRow_other w b c b9 yd).trans aI⟩
   cases h
  cases h
 cases h
end Go.Sx
namespace Go.Sx
open Go.RowKit
variable{i:Nat}
theorem OD{α:Type}{l:List α}{a:α}(h:l[i]?=some a):l.set i a=l:=by
 apply List.ext_getElem?;intro x;rw[nD];by_cases ak:i=x
 ·subst ak;have:=(fy.1 h).1;rw[bM rfl,bM this,h]
 rw[bG ak]
def IS(P:Program)(st:aD)(d:Nat)(hd:TypeId)(t i j k:Nat)(es:List (List D))(y:Operand)(ans:List b4):Stepped:=
 match ps P hd,Dc t st,ans with
 | some (e,ci),some (kT,esT),.el ib::eT=>
  match P.info? e,tV t k (st.bh y) eT with
  | some inf,some (bL,none,tU,obs)=>
   match inf.zero with
   | some z=>
    if ci=k/\z.cells.size=k/\0<k then
     some (⟨(st.map (gx t i j k es kT esT)).env.set d (.one (.aO t i j k (es++bL) .kO)),(st.map (gx t i j k es kT esT)).boxes⟩,tU,
      ((es.length+bL.length)*inf.bytes<=140737488355328)::(es.length+bL.length<=9223372036854775807)::(esT[i]?=some ib)::(ib[j]?=some (.J k es))::(((st.idx t j).map fun a=>a=i)++obs))
    else none
   | none=>none
  | _,_=>none
 | _,_,_=>none
def si(P:Program)(hd:TypeId)(t i j k:Nat)(es esT:List (List D))(q:aE)(ans:List b4):Option (aE×List b4×List Prop):=
 match ps P hd,ans with
 | some (e,ci),.el ib::eT=>
  match P.info? e,tV t k q eT with
  | some inf,some (bL,none,tU,obs)=>
   match inf.zero with
   | some z=>
    if ci=k/\z.cells.size=k/\0<k then
     some (.one (.aO t i j k (es++bL) .kO),tU,
      ((es.length+bL.length)*inf.bytes<=140737488355328)::(es.length+bL.length<=9223372036854775807)::(esT[i]?=some ib)::(ib[j]?=some (.J k es))::obs)
    else none
   | none=>none
  | _,_=>none
 | _,_=>none
theorem cr.si{P:Program}{w0:ee}{st:aD}{a:Act}{w:World}{ω:Own}{τ:Nat->Nat×Value}{d:Nat}{hd ty:TypeId}{t j k kT:Nat}{es esT:List (List D)}{x y:Operand}{p:aE}{ans b':List b4}{obs:List Prop}
  (aU:cr w0 st a w ω τ) (hp:Sat w ω τ (.aO t i j k es .here) (a.eval x)) (h:Sx.si P hd t i j k es esT (st.bh y) ans=some (p,b',obs)) (aZ:cA obs)
  (mP:∃v,Sat w ω τ (.J (.own t) kT esT) v) (nY:∀a∈st.idx t j,a=i):
  ∃z aM,(Builtin.append_ #[hd,hd] ty #[a.eval x,a.eval y]).run P w=.ok z aM/\Rel w0 ⟨(st.map (gx t i j k es kT esT)).env.set d p,(st.map (gx t i j k es kT esT)).boxes⟩ (a.put (some d) z) aM:=by
 unfold Sx.si at h;split at h
 ·rename_i e ci ib eT he;obtain⟨bU,gK,j8,wg⟩:=u6 he;split at h
  ·rename_i inf bL tU wo hi hY;rw[j8]at hi;have nZ:=gQ hi;subst nZ;split at h
   ·rename_i z bk;split at h
    ·rename_i al;obtain⟨rfl,n2,l3⟩:=al;simp only[aS,bq]at h;obtain⟨rfl,_,rfl⟩:=h;obtain⟨gH,gI,vX,FI,F6⟩:=aZ;obtain⟨_,news,lp⟩:=O1 (P:=P) l3 (aU.bh y) hY F6;obtain⟨yT,mP⟩:=mP;obtain⟨hz,p7,aH,hm⟩:=hp;have p3:=hm rfl;have p7:a.eval x=hz:=p7;rw[p7];generalize a.eval y=e0 at lp;have BL:∀fZ f' d,cQ bL fZ f'=some d->∃u,news[fZ*ci+f']?=some u/\d=.v u/\u.oneCell'=true:=by
      intro fZ f' d aG;obtain⟨u,h1,U⟩:=lp.cell fZ f' d aG;rcases U with⟨v,rfl,rfl⟩ | ⟨s,ai,_⟩
      ·exact⟨u,h1,rfl,lp.one u (fl h1)⟩
      cases ai
     have fin:∀(w1:World) (a7:Own) (r:Value),(∀c,c<w.heap.size->ω c≠.tok t [(i,j)]->w1.heap[c]?=w.heap[c]?)->(∀c,c<w.heap.size->a7 c=ω c)->(∀c id,¬c<w.heap.size->a7 c≠.box id)->fO w0 w1->my w0 w1 a7->
       bQ w1 a7 (fun q o=>o=.tok t ((i,j)::q)) (.J ci es) hz->bQ w1 a7 (fun q o=>o=.tok t ((i,j)::q)) (.J ci (es++bL)) r->
       Rel w0 ⟨(st.map (gx t i j ci es kT esT)).env.set d (.one (.aO t i j ci (es++bL) .kO)),(st.map (gx t i j ci es kT esT)).boxes⟩ (a.put (some d) r) w1:=by
      intro w1 a7 r jg c7 G2 j5 o2 n0 eG;have Np:=OC mP jg c7 p3 n0 vX;rw[OD FI,OD vX]at Np;exact⟨a7,τ,(aU.TJ jg c7 G2 j5 o2 mP.2 Np p3 n0 nY).put (p:=.one (.aO t i j ci (es++bL) .kO)) ⟨r,rfl,eG,fun bH=>by cases bH⟩⟩
     have FC:∀c id,¬c<w.heap.size->ω c≠.box id:=fun c id al e=>al (aU.owned.lt (by rw[e];simp))
     by_cases yo:bL.length=0
     ·have FO:bL=[]:=xu yo;subst FO;refine⟨hz,w,O0 bU j8 w ?_ ?_,fin w ω hz (fun _ _ _=>rfl) (fun _ _=>rfl) FC aU.below aU.owned aH (by rw[lc];exact aH)⟩
      ·cases aH with
       | nil _ _ a0=>exact⟨a0,0,0,rfl,ga _⟩
       | row R k es b off cap arr ty cL us aw dG al ai hk hu aG=>exact⟨some ⟨b,off,none⟩,_,cap,rfl,al⟩
      rcases lp.shape with⟨⟨a,h⟩,_⟩ | ⟨b,o,c,h,_⟩
      ·exact⟨a,0,h⟩
      exact⟨some ⟨b,o,none⟩,c,h⟩
     have rh:0<bL.length:=by omega
     rcases lp.shape with⟨_,h⟩ | ⟨a',k9,jr,rfl,oZ⟩
     ·rw[h]at rh;simp at rh
     have grown:∀(w1:World) (b9:Array Value) (r:Value) (kQ:Nat),fP w.heap.size w w1->w1.heap[w.heap.size]?=some (.cells b9 e (0,0))->r=.slice (some ⟨w.heap.size,0,none⟩) (es.length+bL.length) kQ->
       es.length+bL.length<=kQ->kQ*ci<=b9.size->(∀fm jT d,cQ es fm jT=some d->∃u,b9[fm*ci+jT]?=some u/\bQ w ω (fun q o=>o=.tok t ((i,j)::(fm,jT)::q)) d u)->
       (∀x u,news[x]?=some u->b9[es.length*ci+x]?=some u)->(∀e∈es,e.length=ci)->
       Rel w0 ⟨(st.map (gx t i j ci es kT esT)).env.set d (.one (.aO t i j ci (es++bL) .kO)),(st.map (gx t i j ci es kT esT)).boxes⟩ (a.put (some d) r) w1:=by
      intro w1 b9 r kQ j5 fT F' fS dN hold BQ uu;subst F'
      let a7:Own:=fun c=>if c=w.heap.size then .tok t [(i,j)] else ω c
      have c7:∀c,c<w.heap.size->a7 c=ω c:=fun c al=>by simp only[a7];rw[bG (by omega)]
      have mR:a7 w.heap.size=.tok t [(i,j)]:=by simp[a7]
      refine fin w1 a7 _ (fun c al _=>j5.block c al) c7 (fun c id al=>?_) (aU.below.next j5) (fun b aw=>?_) (aH.frame fun c q al aK=>⟨by rw[c7 c al];exact aK,j5.block c al⟩) ?_
      ·simp only[a7];split
       ·simp
       exact FC c id al
      ·by_cases vW:b=w.heap.size
       ·subst vW;exact⟨.inl aU.below.size,b9,e,fT⟩
       simp only[a7]at aw;rw[bG vW]at aw;obtain⟨ax,jz,jK,aI⟩:=aU.owned b aw;exact⟨ax,jz,jK,(j5.block b (aU.owned.lt aw)).trans aI⟩
      have eW:∀x jT d,cQ (es++bL) x jT=some d->∃u,b9[x*ci+jT]?=some u/\bQ w1 a7 (fun q o=>o=.tok t ((i,j)::(x,jT)::q)) d u:=by
       intro x jT d aG;rw[y']at aG;split at aG
       ·obtain⟨u,h1,U⟩:=hold x jT d aG;exact⟨u,h1,U.frame fun c q al aK=>⟨by rw[c7 c al];exact aK,j5.block c al⟩⟩
       rename_i ak;obtain⟨u,h1,rfl,U⟩:=BL _ _ _ aG;refine⟨u,?_,.v _ _ U⟩;rw[<-BQ _ u h1]
       congr 1
       have:x=es.length+(x-es.length):=by omega
       rw[this,gB];simp only[Nat.add_sub_cancel_left];omega
      have hlen:(es++bL).length=es.length+bL.length:=kI;have o7:∀e∈es++bL,e.length=ci:=by
       intro e' he;rcases lM.1 he with h | h
       ·exact uu e' h
       exact lp.rows e' h
      have:=bQ.row (w:=w1) (ω:=a7) (fun q o=>o=.tok t ((i,j)::q)) ci (es++bL) w.heap.size 0 kQ b9 e (0,0) (fun x j=>b9.getD (x*ci+j) undef) fT mR (by omega) (by omega) o7
       (fun x j d aG=>by obtain⟨u,h1,_⟩:=eW x j d aG;rw[dF,h1];simp[ep,h1])
       (fun x j d aG=>by obtain⟨u,h1,U⟩:=eW x j d aG;have:b9.getD (x*ci+j) undef=u:=(by simp[ep,h1]);rw[this];exact U)
      rw[hlen]at this;exact this
     subst wg;have rl:=aH;cases aH with
     | nil _ _ a0=>
      simp only[dR,dF]at gH gI;have e5:(Builtin.append_ #[hd,hd] ty #[.slice a0 0 0,.slice (some ⟨a',k9,none⟩) bL.length jr]).run P w=
        .ok (.slice (some ⟨w.heap.size,0,none⟩) bL.length (grownCap w bL.length 0 e)) (w.drew.alloc (.cells (news.toArray++Builtin.zeroCells z.cells (grownCap w bL.length 0 e-bL.length)) e)):=by
       cases a0 with
       | none=>exact run_append_nil (P:=P) w hd ty e gK z bU j8 bk ⟨a',k9,none⟩ bL.length jr news lp.len oZ rh (by omega) (by omega)
       | some cc=>
        have:=run_append_grow (P:=P) w hd ty e gK z bU j8 bk cc 0 0 [] (by simp) (fun j v bz=>by simp at bz) ⟨a',k9,none⟩ bL.length jr news lp.len oZ (by omega) (by omega) (growslice_fits (by omega) (by simpa using gH));simpa using this
      have nW:=grownCap_ge w bL.length 0 e;exact⟨_,_,e5,grown _ (news.toArray++Builtin.zeroCells z.cells (grownCap w bL.length 0 e-bL.length)) (.slice (some ⟨w.heap.size,0,none⟩) bL.length (grownCap w bL.length 0 e)) (grownCap w bL.length 0 e)
       (((fP.refl _ _).drew).alloc (ga _) _) (ma _ _) (by simp) (by simpa using nW) (by
        simp only[sb,nC,size_zeroCells,lp.len,n2,<-gB];exact gX _ (by omega))
       (fun fm j d aG=>by simp[cQ]at aG) (fun x u ak=>by
        simp only[dR,Nat.zero_mul,dF];rw[iD,bM (by have:=(fy.1 ak).1;simpa using this)];simpa using ak) (fun e he=>by cases he)⟩
     | row R k es b off cap arr hN cL us aw dG al ai gu hu aG=>
      have j4:ω b=.tok t [(i,j)]:=dG;obtain⟨uq,sj,tC,ha⟩:=aU.owned b (by rw[j4];simp);rw[aw]at ha;simp only[aS,Obj.cells.injEq]at ha;obtain⟨rfl,rfl,rfl⟩:=ha;have uf:b<w.heap.size:=(iE.1 aw).1;by_cases o6:es.length+bL.length<=cap
      ·have hmul:(es.length+bL.length)*gK.size<=cap*gK.size:=gX _ o6;rw[gB]at hmul;have Nb:=lp.len;have dX:off+es.length*gK.size+news.length<=arr.size:=by omega
       have e5:=HZ (P:=P) (ty:=ty) bU j8 w b off es.length cap arr hN aw ⟨a',k9,none⟩ bL.length jr news lp.len oZ lp.one o6 dX;generalize nT:(arr.toList.take (off+es.length*gK.size)++news++arr.toList.drop (off+es.length*gK.size+news.length)).toArray=b9 at e5;have hW:∀x:Nat,b9[x]?=if off+es.length*gK.size<=x/\x<off+es.length*gK.size+news.length then news[x-(off+es.length*gK.size)]? else arr[x]?:=by
        intro x;rw[<-nT,nB,y8 (by simpa using dX)];simp
       have wh:b9.size=arr.size:=by rw[<-nT];simp;omega
       have j7:=setRow_heap w b arr b9 hN (0,0) aw;have jg:∀c,c<w.heap.size->ω c≠.tok t [(i,j)]->(w.setRow b b9).heap[c]?=w.heap[c]?:=fun c _ al=>setRow_other w b c b9 fun e=>al (by rw[e];exact j4)
       have l4:∀fZ f' d u,bQ w ω (fun q o=>o=.tok t ((i,j)::(fZ,f')::q)) d u->bQ (w.setRow b b9) ω (fun q o=>o=.tok t ((i,j)::(fZ,f')::q)) d u:=by
        intro fZ f' d u oT;refine oT.frame fun c q al ez=>⟨ez,jg c al fun e=>?_⟩
        rw[e]at ez;simp at ez
       refine⟨_,_,e5,fin (w.setRow b b9) ω _ jg (fun _ _=>rfl) FC (aU.below.setRow uq b9) (fun c ig=>?_) (bQ.TE rl aw j7 wh (fun x ak=>by rw[hW,bG (by omega)]) (fun o e aZ=>by rw[<-e];exact aZ) (fun c p q al aK=>⟨aK,jg c al fun e=>by rw[e]at aK;simp at aK⟩)) ?_⟩
       ·obtain⟨ax,jz,jK,aI⟩:=aU.owned c ig;by_cases yd:c=b
        ·subst yd;exact⟨ax,b9,hN,j7⟩
        exact⟨ax,jz,jK,(setRow_other w b c b9 yd).trans aI⟩
       have eW:∀x jT d,cQ (es++bL) x jT=some d->∃u,b9[off+x*gK.size+jT]?=some u/\bQ (w.setRow b b9) ω (fun q o=>o=.tok t ((i,j)::(x,jT)::q)) d u:=by
        intro x jT d dK;rw[y']at dK;split at dK
        ·rename_i ak;have yl:=(rK gu dK).2;refine⟨us x jT,?_,l4 x jT d _ (aG x jT d dK)⟩;have:(x+1)*gK.size<=es.length*gK.size:=gX _ ak;rw[gB]at this;rw[hW,bG (by omega),hu x jT d dK]
        rename_i ak;obtain⟨u,h1,rfl,U⟩:=BL _ _ _ dK;have XP:=(fy.1 h1).1;have wi:x*gK.size=es.length*gK.size+(x-es.length)*gK.size:=by rw[<-gB];congr 1;omega
        refine⟨u,?_,.v _ _ U⟩;rw[hW,bM (by omega),<-h1]
        congr 1
        omega
       have hlen:(es++bL).length=es.length+bL.length:=kI;have o7:∀e∈es++bL,e.length=gK.size:=by
        intro e' he;rcases lM.1 he with h | h
        ·exact gu e' h
        exact lp.rows e' h
       have:=bQ.row (w:=w.setRow b b9) (ω:=ω) (fun q o=>o=.tok t ((i,j)::q)) gK.size (es++bL) b off cap b9 hN (0,0) (fun x j=>b9.getD (off+x*gK.size+j) undef) j7 j4 (by omega) (by omega) o7
        (fun x j d aG=>by obtain⟨u,h1,_⟩:=eW x j d aG;rw[h1];simp[ep,h1])
        (fun x j d aG=>by obtain⟨u,h1,U⟩:=eW x j d aG;have:b9.getD (off+x*gK.size+j) undef=u:=(by simp[ep,h1]);rw[this];exact U)
       rw[hlen]at this;exact this
      have hmul:es.length*gK.size<=cap*gK.size:=gX _ al;have p6:((arr.toList.drop off).take (es.length*gK.size)).length=es.length*gK.size:=by simp;omega
      have e5:=run_append_grow (P:=P) w hd ty e gK z bU j8 bk ⟨b,off,none⟩ es.length cap ((arr.toList.drop off).take (es.length*gK.size)) p6 (fun j v bz=>by
       rw[pr,cell_of_row w b (off+j) arr hN (0,0) aw];rw[jY]at bz;split at bz
       ·rw[k']at bz;simpa using bz
       cases bz) ⟨a',k9,none⟩ bL.length jr news lp.len oZ (by omega) (by omega) (growslice_fits (by omega) gH)
      have nW:=grownCap_ge w (es.length+bL.length) cap e;exact⟨_,_,e5,grown _ (((arr.toList.drop off).take (es.length*gK.size)).toArray++news.toArray++Builtin.zeroCells z.cells (grownCap w (es.length+bL.length) cap e-(es.length+bL.length))) _ (grownCap w (es.length+bL.length) cap e)
       (((fP.refl _ _).drew).alloc (ga _) _) (ma _ _) rfl nW (by
        simp only[sb,nC,size_zeroCells,lp.len,n2,p6,<-gB];exact gX _ (by omega))
       (fun fm j d eb=>by
        obtain⟨v8,dV⟩:=rK gu eb;have:(fm+1)*gK.size<=es.length*gK.size:=gX _ v8;rw[gB]at this;refine⟨us fm j,?_,aG fm j d eb⟩;rw[iD,bM (by simp only[sb,nC,p6];omega),iD,bM (by simp only[nC,p6];omega)];rw[nB,jY,bM (by omega),k',<-hu fm j d eb];simp only[lK]
        congr 1
        omega)
       (fun x u ak=>by
        have fA:=(fy.1 ak).1;rw[iD,bM (by simp only[sb,nC,p6];omega),iD,bG (by simp only[nC,p6];omega)];simp only[nC,p6,nB];rw[<-ak]
        congr 1
        omega) gu⟩
    cases h
   cases h
  cases h
 cases h
theorem cr.Vz{P:Program}{w0:ee}{st bn:aD}{a:Act}{w:World}{ω:Own}{τ:Nat->Nat×Value}{d:Nat}{hd ty:TypeId}{t j k:Nat}{es:List (List D)}{x y:Operand}{ans b':List b4}{obs:List Prop}
  (aU:cr w0 st a w ω τ) (hp:Sat w ω τ (.aO t i j k es .here) (a.eval x)) (h:IS P st d hd t i j k es y ans=some (bn,b',obs)) (aZ:cA obs):
  ∃z aM,(Builtin.append_ #[hd,hd] ty #[a.eval x,a.eval y]).run P w=.ok z aM/\Rel w0 bn (a.put (some d) z) aM:=by
 unfold IS at h;split at h
 ·rename_i e ci kT esT ib eT he Xt;split at h
  ·rename_i inf bL tU wo hi hY;split at h
   ·rename_i z bk;split at h
    ·rename_i al;simp only[aS,bq]at h;obtain⟨rfl,rfl,rfl⟩:=h;obtain⟨gH,gI,vX,FI,F6⟩:=aZ;obtain⟨nY,Xj⟩:=F6.append;refine aU.si (p:=.one (.aO t i j k (es++bL) .kO)) (ans:=.el ib::eT) (b':=tU) (esT:=esT) (kT:=kT) hp ?_ (obs:=((es.length+bL.length)*inf.bytes<=140737488355328)::(es.length+bL.length<=9223372036854775807)::(esT[i]?=some ib)::(ib[j]?=some (.J k es))::wo) ⟨gH,gI,vX,FI,Xj⟩ (aU.root Xt) (Cm nY);unfold Sx.si;simp only[he,hi,hY,bk];rw[bM al]
    cases h
   cases h
  cases h
 cases h
