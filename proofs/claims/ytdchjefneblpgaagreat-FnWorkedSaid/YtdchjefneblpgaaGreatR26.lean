import Derived.Test.YtdchjefneblpgaaGreatR11
set_option linter.unusedVariables false
set_option linter.unusedSimpArgs false
namespace Go.Sx
open Go.RowKit
def C5(P:Program)(st:aD)(d:Nat)(elem:TypeId)(r:List b4):Stepped:=
 match P.info? elem with
 | some i=>match i.zero with
  | some z=>if d<cX then some (⟨(st.il d []).env.set d (.one (.eX d (z.cells.toList.map .v))),(st.il d []).boxes⟩,r,[]) else none
  | none=>none
 | none=>none
variable{w0:ee}{st bn:aD}{a:Act}{w:World}{ω:Own}{τ:Nat->Nat×Value}{d:Nat}{ans b':List b4}{obs:List Prop}
theorem cr.Vx{P:Program}{elem:TypeId}(aU:cr w0 st a w ω τ)
  (h:C5 P st d elem ans=some (bn,b',obs)):
  ∃z aM,(Instr.alloc elem true (.tuple #[])).run P w=.ok z aM/\Rel w0 bn (a.put (some d) z) aM:=by
 unfold C5 at h;split at h
 ·rename_i i hi;split at h
  ·rename_i z bl;split at h
   ·rename_i aG;simp only[aS,bq]at h;obtain⟨rfl,_,_⟩:=h;have h1:=aU.il d aG [] (k:=0) (cap:=0) (es:=[]) (arr:=z.cells) (ty:=elem) ((fP.refl _ _).alloc (ga _) (.cells z.cells elem)) (l8 _ _) (ga _) (by simp) (by simp)
     (by grind[cQ])
    refine⟨.pointer (some ⟨w.heap.size,0,none⟩),w.alloc (.cells z.cells elem),by simp_all[Instr.alloc,zeroValue,typeInfo,newVar,newRow],_,_,h1.1.put (p:=.one (.eX d (z.cells.toList.map .v))) ?_⟩;refine⟨w.heap.size,elem,z.cells,rfl,by simp[od],l8 _ _,by simp,fun j c al=>?_⟩;rw[dr,bX]at al;obtain⟨u,hu,rfl⟩:=al;exact⟨u,by grind,rfl⟩
   cases h
  cases h
 cases h
def eU(t:Nat):Tag->Option Tag
 | .free=>some .free
 | .own s=>if s=t then none else some (.own s)
 | .ro s=>if s=t then none else some (.ro s)
variable{o:c0}
theorem C6{t:Nat}{g dW:Tag}{q:List (Nat×Nat)}(h:eU t g=some dW)(aH:g.R q o):dW=g/\∀dE,o≠.tok t dE:=by
 cases g with
 | free=>simp_all[eU,aS,Tag.R]
 | own s=>
  simp_all[eU,aS,Tag.R,c0.tok.injEq]
 | ro s=>
  simp only[eU]at h;split at h
  ·cases h
  rename_i ai;simp only[aS]at h;subst h;simp only[Tag.R]at aH;grind
variable{s:Nat}
theorem HB{x:Value}(this:a.tmps[s]?=some x):a.put (some s) x=a:=by
 simp only[Act.put];have:a.tmps.setIfInBounds s x=a.tmps:=by
  grind
 rw[this]
def az.ku:az->eD
 | .v x=>.v x
 | .a' c=>.v (.bool c)
 | .J t k es=>.J t k es
 | _=>.cj
def Hd(p:aE):Option (List eD):=p.leaves.map (·.map az.ku)
theorem az.NO{l:az}{y:Value}(h:Sat w ω τ l y):pU w ω τ l.ku y:=by
 cases l<;>first | exact h | exact trivial
def eD.leaf:eD->az
 | .cj=>.cj
 | .v x=>.v x
 | .J t k es=>.J t k es
theorem eD.du{τ:Nat->Nat×Value}{c:eD}{y:Value}(h:pU w ω τ c y):Sat w ω τ c.leaf y:=by
 cases c<;>exact h
def C7(P:Program)(st:aD)(ty:TypeId)(s:Nat)(q:aE)(ans:List b4):Stepped:=
 match (st.env.getD s .cj).leaf,Hd q,P.info? ty with
 | some (.eX t vs),some cs,some i=>
  if cs.length=i.size/\cs.length<=vs.length then
   let st2:=st.map (az.ct (eU t) fun _=>true)
   some (⟨st2.env.set s (.one (.eX t ((cs++vs.drop cs.length).map (eD.ct (eU t))))),st2.boxes⟩,ans,[])
  else none
 | _,_,_=>none
theorem cr.asl{P:Program}{ty:TypeId}{q:aE}{v:Value}
  (aU:cr w0 st a w ω τ) (aK:cE (Sat w ω τ) q v) (h:C7 P st ty s q ans=some (bn,b',obs)):
  ∃aM,(Instr.storeAt ty (a.eval (.tmp s)) v).run P w=.ok () aM/\Rel w0 bn a aM:=by
 unfold C7 at h;split at h
 ·rename_i t vs cs i e1 e2 cb;split at h
  ·rename_i al;obtain⟨c1,c2⟩:=al;simp only[aS,bq]at h;obtain⟨rfl,_,_⟩:=h;unfold Hd at e2;rw[bX]at e2;obtain⟨ls,e2,rfl⟩:=e2;obtain⟨uj,o1⟩:=aE.wl e2 aK;have dN:v.cells.size=ls.length:=uj.1;rw[cm]at c1 c2;have hW:st.env[s]?=some (.one (.eX t vs)):=by
    rw[jY]at e1;cases e:st.env[s]? with
    | none=>grind[aE.leaf]
    | some p=>
     rw[e]at e1;simp only[jZ]at e1;cases p with
     | fv as=>cases e1
     | aF x=>
      cases x with
      | agg ls=>cases e1
      | one l=>grind[aE.leaf,aS]
   obtain⟨y,bD,ei⟩:=aU.env s _ hW;obtain⟨b,hN,arr,rfl,aw,vY,XH,sE⟩:=ei;have p2:a.eval (.tmp s)=ptrTo b:=by simp_all[Act.eval]
   have eP:=run_storeCells_at P b 0 hN v.cells.toList 0 arr w vY (by simp;omega) o1;obtain⟨b9,nS⟩:∃b9,b9=(arr.toList.take (0+0)++v.cells.toList++arr.toList.drop (0+0+v.cells.toList.length)).toArray:=⟨_,rfl⟩
   rw[<-nS]at eP;have V7:b9=(v.cells.toList++arr.toList.drop v.cells.size).toArray:=by grind
   refine⟨w.setRow b b9,?_,?_⟩
   ·rw[p2];simp only[ptrTo,Instr.storeAt,Instr.sureAddr,Sem.run_bind,Sem.run_pure,Result.andThen_ok,storeVar,sizeOf,typeInfo,run_program,cb];grind
   have j7:=setRow_heap w b arr b9 hN (0,0) vY;have bh:kK w ω τ (w.setRow b b9) ω τ (eU t) (fun _=>true):=by
    refine⟨?_,?_,fun id c _ al=>al,rfl,fun _ _=>rfl⟩
    ·intro g dW c q av _ aK;obtain⟨rfl,yp⟩:=C6 av aK;grind[setRow_other]
    intro g dW y av bD;cases g with
    | free=>simp_all[eU,aS,trivial]
    | own x=>
     grind[eU,aS]
    | ro x=>
     simp_all[eU,aS,trivial]
   have h1:cr w0 (st.map (az.ct (eU t) fun _=>true)) a (w.setRow b b9) ω τ:=by
    refine aU.dT _ bh.sat (aU.below.setRow (aU.owned b (by rw[aw];simp)).1 _) ?_ (fun id c al=>⟨al,setRow_other w b c _ fun e=>by grind⟩) (fun id c al=>al) (fun _ _=>rfl);intro c al;obtain⟨h1,jx,jJ,U⟩:=aU.owned c al;grind[setRow_other]
   have MR:b9.size=(ls.map az.ku++vs.drop (ls.map az.ku).length).length/\∀(j:Nat) (c:eD),(ls.map az.ku++vs.drop (ls.map az.ku).length)[j]?=some c->∃u,b9[j]?=some u/\pU w ω τ c u:=by
    refine⟨by grind,fun j c al=>?_⟩;rw[V7,nA];by_cases bg:j<ls.length
    ·rw[EH (by grind),dr,bX]at al;obtain⟨l,ap,rfl⟩:=al;obtain⟨u,gv,fc⟩:=uj.2 j l ap;grind[az.NO]
    grind
   have Nh:=Cn bh.ku MR.1 MR.2;have U:=h1.put (d:=s) (p:=.one (.eX t ((ls.map az.ku++vs.drop (ls.map az.ku).length).map (eD.ct (eU t))))) (v:=ptrTo b) ⟨b,hN,b9,rfl,aw,j7,Nh⟩;rw[HB bD]at U;exact⟨ω,τ,U⟩
  cases h
 cases h
def Hg(st:aD)(d:Nat):Option aD:=
 match st.env.getD d .cj with
 | .aF (.one (.eX t vs))=>
  if d<cX then some ⟨(st.env.map (aE.map (az.ct (eU t) (iO d)))).set d (.one (.ptr d 0)),(d,vs.map fun c=>az.ct (eU t) (iO d) c.leaf)::(ob d st.boxes).map fun x=>(x.1,x.2.map (az.ct (eU t) (iO d)))⟩ else none
 | _=>none
theorem ajL(h:Rel w0 st a w)(a8:Hg st d=some bn):Rel w0 bn a w:=by
 obtain⟨ω,τ,h⟩:=h;unfold Hg at a8;split at a8
 ·rename_i t vs he;split at a8
  case isFalse=>cases a8
  rename_i sv;simp only[aS]at a8;subst a8;have hW:st.env[d]?=some (.one (.eX t vs)):=by
   grind
  obtain⟨v,sD,rp⟩:=h.env d _ hW;obtain⟨b,ty,arr,rfl,aw,vY,XH,sE⟩:=rp
  let a7:Own:=fun c=>if c=b then .box d else match ω c with | .box i=>if i=d then .bt else .box i | o=>o
  have mQ:a7 b=.box d:=by simp[a7]
  have hX:∀c,c≠b->a7 c=(match ω c with | .box i=>if i=d then .bt else .box i | o=>o):=by
   grind
  have bh:kK w ω τ w a7 τ (eU t) (iO d):=by
   refine⟨?_,?_,?_,rfl,fun _ _=>rfl⟩
   ·intro g dW c q av _ aK;obtain⟨rfl,yp⟩:=C6 av aK;have ig:c≠b:=fun e=>yp [] (by grind)
    refine⟨?_,rfl⟩;rw[hX c ig];cases dW with
    | free=>grind[Tag.R]
    | own s=>grind[Tag.R]
    | ro s=>
     simp only[Tag.R]at aK ⊢;grind
   ·intro g dW y av bD;cases g with
    | free=>simp_all[eU,aS,trivial]
    | own s=>
     grind[eU,aS]
    | ro s=>
     simp_all[eU,aS,trivial]
   intro i c hp al;have ig:c≠b:=fun e=>by grind
   simp_all[iO,cW]
  have o3:mx w0 w a7:=by
   intro c al;by_cases e:c=b
   ·subst e;exact h.owned c (by rw[aw];simp)
   rw[hX c e]at al;exact h.owned c (fun e'=>by grind)
  have key:=h.Fc (bs:=(d,vs.map fun c=>az.ct (eU t) (iO d) c.leaf)::(ob d st.boxes).map fun x=>(x.1,x.2.map (az.ct (eU t) (iO d)))) bh h.below o3 ?_ (fun i c hi al=>by
   grind)
  ·have:=key.put (d:=d) (p:=.one (.ptr d 0)) (v:=ptrTo b) ⟨b,mQ,rfl⟩;rw[HB sD]at this;exact⟨a7,τ,this⟩
  intro i e6 ap;simp only[df]at ap;split at ap
  ·rename_i hi;subst hi;have e:=gP ap;subst e;refine⟨b,arr,ty,mQ,?_,vY,by grind,fun j l bg=>?_⟩
   ·grind
   rw[dr,bX]at bg;obtain⟨c,al,rfl⟩:=bg;obtain⟨u,gv,fc⟩:=sE j c al;exact⟨u,gv,bh.sat _ _ (eD.du fc)⟩
  rename_i hi;rw[rJ,bX]at ap;obtain⟨ij,b5,rfl⟩:=ap;have c3:i≠d:=fun e=>hi e.symm
  rw[wF c3]at b5;obtain⟨c,b9,pN,al,hu,bH,ei⟩:=h.boxes i ij b5;refine⟨c,b9,pN,bh.box i c (by grind[iO]) al,?_,bH,ei.map bh.sat⟩;grind
 cases a8
def E3(st:aD)(d:Nat):Option aD:=
 match st.env.getD d .cj,df d st.boxes with
 | .aF (.one (.ptr dn 0)),some ls=>
  if dn=d/\d<cX then some ⟨(st.env.map (aE.map (az.ct (eU d) (iO d)))).set d (.one (.eX d ((ls.map az.ku).map (eD.ct (eU d))))),(ob d st.boxes).map fun x=>(x.1,x.2.map (az.ct (eU d) (iO d)))⟩ else none
 | _,_=>none
theorem ajM(h:Rel w0 st a w)(a8:E3 st d=some bn):Rel w0 bn a w:=by
 obtain⟨ω,τ,h⟩:=h;unfold E3 at a8;split at a8
 ·rename_i dn ls he cY;split at a8
  case isFalse=>cases a8
  rename_i sv;obtain⟨rfl,sv⟩:=sv;simp only[aS]at a8;subst a8;have hW:st.env[dn]?=some (.one (.ptr dn 0)):=by
   grind
  obtain⟨v,sD,rp⟩:=h.env dn _ hW;obtain⟨cc,gZ,rfl⟩:=rp;obtain⟨b,arr,ty,aw,Wc,vY,uj⟩:=h.boxes dn ls cY;have MN:cc=b:=Wc cc gZ;subst MN
  let a7:Own:=fun c=>if c=cc then .tok dn [] else match ω c with | .tok s q=>if s=dn then .bt else .tok s q | o=>o
  have mQ:a7 cc=.tok dn []:=by simp[a7]
  have hX:∀c,c≠cc->a7 c=(match ω c with | .tok s q=>if s=dn then .bt else .tok s q | o=>o):=by
   grind
  have bh:kK w ω τ w a7 τ (eU dn) (iO dn):=by
   refine⟨?_,?_,?_,rfl,fun _ _=>rfl⟩
   ·intro g dW c q av _ aK;obtain⟨rfl,yp⟩:=C6 av aK;have ig:c≠cc:=fun e=>by
     rw[e,aw]at aK;cases dW with
     | free=>cases aK
     | own s=>cases aK
     | ro s=>
      rcases aK with aK | ⟨dE,aK⟩
      ·cases aK
      cases aK
    grind
   ·intro g dW y av bD;cases g with
    | free=>simp_all[eU,aS,trivial]
    | own s=>
     grind[eU,aS]
    | ro s=>
     simp_all[eU,aS,trivial]
   intro i c hp al;simp only[iO,cW]at hp;grind
  have o3:mx w0 w a7:=by
   intro c al;by_cases e:c=cc
   ·subst e;exact h.owned c (by rw[aw];simp)
   rw[hX c e]at al;exact h.owned c (fun e'=>by grind)
  have ML:∀i c,a7 c=.box i->ω c=.box i/\c≠cc:=by
   grind
  have key:=h.Fc (bs:=(ob dn st.boxes).map fun x=>(x.1,x.2.map (az.ct (eU dn) (iO dn)))) bh h.below o3 ?_ (fun i c _ al=>(ML i c al).1)
  ·have:=key.put (d:=dn) (p:=.one (.eX dn ((ls.map az.ku).map (eD.ct (eU dn))))) (v:=ptrTo cc) ⟨cc,ty,arr,rfl,mQ,vY,Cn bh.ku (by rw[uj.1];simp) (fun j c al=>by
    rw[dr,bX]at al;obtain⟨l,ap,rfl⟩:=al;obtain⟨u,gv,fc⟩:=uj.2 j l ap;grind[az.NO])⟩
   rw[HB (show a.tmps[dn]?=some (ptrTo cc) from sD)]at this;exact⟨a7,τ,this⟩
  intro i e6 ap;rw[rJ,bX]at ap;obtain⟨ij,b5,rfl⟩:=ap;have c3:i≠dn:=fun e=>by grind[H6]
  rw[wF c3]at b5;obtain⟨c,b9,pN,al,hu,bH,ei⟩:=h.boxes i ij b5;exact⟨c,b9,pN,bh.box i c (by grind[iO]) al,fun da eh=>hu da (ML i da eh).1,bH,ei.map bh.sat⟩
 cases a8
def zd:List Nat->aD->Option aD
 | [],st=>some st
 | d::ds,st=>(E3 st d).bind (zd ds)
theorem Ov:∀{ds:List Nat} {st bn:aD},Rel w0 st a w->zd ds st=some bn->Rel w0 bn a w
 | [],st,bn,h,a8=>by grind[zd,aS]
 | d::ds,st,bn,h,a8=>by
  simp only[zd,la]at a8;obtain⟨st1,h1,U⟩:=a8;exact Ov (ajM h h1) U
def ze:List Nat->aD->Option aD
 | [],st=>some st
 | d::ds,st=>(Hg st d).bind (ze ds)
theorem Ow:∀{ds:List Nat} {st bn:aD},Rel w0 st a w->ze ds st=some bn->Rel w0 bn a w
 | [],st,bn,h,a8=>by grind[ze,aS]
 | d::ds,st,bn,h,a8=>by
  simp only[ze,la]at a8;obtain⟨st1,h1,U⟩:=a8;exact Ow (ajL h h1) U
def jE(s n:Nat):Tag->Option Tag
 | .own x=>if x=s then some (.ro n) else if x=n then none else some (.own x)
 | .ro x=>if x=s then some (.ro n) else if x=n then none else some (.ro x)
 | .free=>some .free
def iP(s n l:Nat):c0->c0
 | .tok x q=>if x=s then (match q with | []=>.tok n [] | (i,j)::r=>if i<l then .bt else .tok n ((i-l,j)::r)) else if x=n then .bt else .tok x q
 | o=>o
variable{l n:Nat}
theorem HC(h:iP s n l o≠.bt):o≠.bt:=by rintro rfl;exact h rfl
theorem sX{id:Nat}:iP s n l o=.box id<->o=.box id:=by
 cases o with
 | bt=>simp[iP]
 | box i=>simp[iP]
 | tok x q=>
  simp only[iP];grind
theorem Ox{q:List (Nat×Nat)}:iP s n l (.tok s q)=.bt\/∃dE,iP s n l (.tok s q)=.tok n dE:=by
 simp only[iP,gO];grind
theorem HD{k:Nat}{z:Value}(hZ:n<cX):kK w ω τ w (fun b=>iP s n l (ω b)) (fE τ n k z) (jE s n) (fun _=>true):=by
 refine⟨?_,?_,?_,rfl,fun t bU=>by simp only[fE];grind⟩
 ·intro g dW b q av _ aK;refine⟨?_,rfl⟩;cases g with
  | free=>simp only[jE,aS]at av;subst av;simp only[Tag.R]at aK ⊢;rw[aK];rfl
  | own x=>
   simp only[jE]at av;simp only[Tag.R]at aK;split at av
   ·grind[aS,Tag.R,Ox]
   rename_i ai;split at av
   ·cases av
   rename_i a8;simp only[aS]at av;subst av;simp_all[Tag.R,iP,bG]
  | ro x=>
   simp only[jE]at av;simp only[Tag.R]at aK;split at av
   ·rename_i ai;simp only[aS]at av;subst av;subst ai;rcases aK with aK | ⟨dE,aK⟩
    ·rw[aK];exact .inl rfl
    rw[aK];exact Ox
   rename_i ai;split at av
   ·cases av
   rename_i a8;simp only[aS]at av;subst av;rcases aK with aK | ⟨dE,aK⟩
   ·rw[aK];exact .inl rfl
   rw[aK];simp only[iP,bG ai,bG a8];exact .inr ⟨dE,rfl⟩
 ·intro g dW y av bD;cases g with
  | free=>simp only[jE,aS]at av;subst av;trivial
  | own x=>
   simp only[jE]at av;split at av
   ·simp only[aS]at av;subst av;trivial
   rename_i ai;split at av
   ·cases av
   rename_i a8;simp only[aS]at av;subst av;simp_all[Tag.dJ,fE,bG]
  | ro x=>
   simp only[jE]at av;split at av
   ·simp only[aS]at av;subst av;trivial
   split at av
   ·cases av
   simp only[aS]at av;subst av;trivial
 intro id b _ aw;exact sX.2 aw
def ni(s d:Nat):Nat:=if s<cX then s else d
def xj(P:Program)(st:aD)(d:Nat)(t:TypeId)(p:aE)(cP hi h0:Option Operand)(ans:List b4):Stepped:=
 match ps P t,p.leaf,h0 with
 | some (_,k),some (.J (.own s) ch es),none=>
  if k=ch/\ni s d<cX then
   match kY st cP,kY st hi with
   | some l,some h=>
    let st2:=st.map (az.ct (jE s (ni s d)) fun _=>true)
    some (⟨st2.env.set d (.one (.J (.own (ni s d)) k ((es.drop (l.getD 0).toNat).take ((h.getD es.length).toNat-(l.getD 0).toNat)))),st2.boxes⟩,ans,[0<=l.getD 0,l.getD 0<=h.getD es.length,h.getD es.length<=es.length])
   | _,_=>none
  else none
 | _,_,_=>none
theorem cr.xj{P:Program}{t:TypeId}{p:aE}{v:Value}{cP hi h0:Option Operand}
  (aU:cr w0 st a w ω τ) (hp:cE (Sat w ω τ) p v) (h:xj P st d t p cP hi h0 ans=some (bn,b',obs)) (aZ:cA obs):
  ∃z,(Instr.sliceAt t v (cP.map a.eval) (hi.map a.eval) (h0.map a.eval)).run P w=.ok z w/\Rel w0 bn (a.put (some d) z) w:=by
 unfold Go.Sx.xj at h;split at h
 ·rename_i e k s ch es e1 e2;split at h
  ·rename_i hk;obtain⟨rfl,ai⟩:=hk;split at h
   ·rename_i l bH cb d';simp only[aS,bq]at h;obtain⟨rfl,_,rfl⟩:=h;obtain⟨hu,i,nW,bl⟩:=u3 e1;obtain⟨aH,_⟩:=aE.du e2 hp;obtain⟨cy,ca,cC,_⟩:=aZ;have ax:=y4 aU cb;have aJ:=y4 aU d';have oX:(cP.map a.eval=none/\l.getD 0=0)\/∃k,cP.map a.eval=some (.int k (l.getD 0)):=by
     grind
    have rc:(hi.map a.eval=none/\bH.getD es.length=es.length)\/∃k,hi.map a.eval=some (.int k (bH.getD es.length)):=by
     grind
    have key:∀(L m:Nat) (z:Value),L<=m->bQ w (fun b=>iP s (ni s d) L (ω b)) (Tag.own (ni s d)).R (.J k ((es.drop L).take (m-L))) z->
      Rel w0 ⟨(st.map (az.ct (jE s (ni s d)) fun _=>true)).env.set d (.one (.J (.own (ni s d)) k ((es.drop L).take (m-L)))),(st.map (az.ct (jE s (ni s d)) fun _=>true)).boxes⟩ (a.put (some d) z) w:=by
     intro L m z _ BS;have h1:cr w0 (st.map (az.ct (jE s (ni s d)) fun _=>true)) a w (fun b=>iP s (ni s d) L (ω b)) (fE τ (ni s d) k z):=
      aU.dT _ (HD (by omega)).sat aU.below (fun b aw=>aU.owned b (HC aw)) (fun id b aw=>⟨sX.2 aw,rfl⟩) (fun id b aw=>sX.1 aw)
       (fun t bU=>by simp only[fE];grind)
     exact⟨_,_,h1.put (p:=.one (.J (.own (ni s d)) k ((es.drop L).take (m-L)))) ⟨BS,by simp[Tag.dJ,fE]⟩⟩
    cases aH with
    | nil _ _ a0=>
     simp only[dR] at*;have bB:l.getD 0=0:=by omega
     have VM:bH.getD ((0:Nat):Int)=0:=by omega
     refine⟨.slice a0 0 0,?_,?_⟩
     ·simp only[Instr.sliceAt,Sem.run_bind,run_underlying hu,Result.andThen_ok,Instr.slice,Option.map_none];rw[y3 oX rc cy ca cC];simp_all[sizeOf,typeInfo]
     refine key _ _ _ (by omega) ?_;simp only[List.drop_nil,List.take_nil];exact .nil _ _ _
    | row R k es b off cap arr ty cL us aw dG al dN hk iL aG=>
     refine⟨sliced (some ⟨b,off,none⟩) (l.getD 0).toNat (bH.getD es.length).toNat cap k,?_,?_⟩
     ·simp only[Instr.sliceAt,Sem.run_bind,run_underlying hu,Result.andThen_ok,Instr.slice,Option.map_none];rw[y3 oX rc cy ca (by omega)];simp_all[sizeOf,typeInfo,sliced]
     refine key _ _ _ (by omega) ?_;have:=bQ.sub (.row _ k es b off cap arr ty cL us aw dG al dN hk iL aG) (l:=(l.getD 0).toNat) (m:=(bH.getD es.length).toNat) (by omega) (by omega)
      (hS:=fun q o=>match q with | []=>o=.tok s [] | (i,j)::r=>o=.tok s ((i+(l.getD 0).toNat,j)::r)) (fun o h=>h) (fun i j q o at3 h=>by
       grind[Tag.R,Nat.sub_add_cancel])
     refine this.frame fun c q _ aK=>⟨?_,rfl⟩
     simp only[Tag.R];cases q with
     | nil=>grind[iP]
     | cons x r=>
      obtain⟨i,j⟩:=x;simp only at aK;rw[aK];have cv:¬(i+(l.getD 0).toNat<(l.getD 0).toNat):=by omega
      simp_all[iP,gO,bG,Nat.add_sub_cancel]
   cases h
  cases h
 cases h
end Go.Sx
namespace Go.Sx
open Go.RowKit
def laid(arr:Array Value)(o:Nat)(cs:List Value):Array Value:=(arr.toList.take o++cs++arr.toList.drop (o+cs.length)).toArray
theorem sY{arr:Array Value}{o:Nat}{cs:List Value}(h:o+cs.length<=arr.size):(laid arr o cs).size=arr.size:=by
 simp[laid];omega
theorem mb{arr:Array Value}{o:Nat}{cs:List Value}(h:o+cs.length<=arr.size)(x:Nat):
  (laid arr o cs)[x]?=if o<=x/\x<o+cs.length then cs[x-o]? else arr[x]?:=by
 simp only[laid,nA,tG];have ap:(arr.toList.take o).length=o:=by simp;omega
 split
 ·rename_i ak;rw[EG (by omega),EH (by omega),ap]
 rename_i ak;by_cases h1:x<o
 ·rw[EH (by omega),jX,bM h1,lI]
 rw[EG (by omega),EG (by omega),ap,k7,lI]
 congr 1
 omega
theorem C8{P:Program}(w:World)(dM bd ty elem:TypeId)(k b o Bo VJ:Nat)(arr:Array Value)(tb:TypeId)(a:Addr)(Ab TE:Nat)(cs:List Value)
  (hu:P.underlying dM=some (.slice elem)) (ai:(P.info? elem).map (·.size)=some k) (aw:w.heap[b]?=some (.cells arr tb (0,0))) (a8:cs.length=Nat.min Ab Bo*k)
  (hY:∀j v,cs[j]?=some v->w.cell? (a.add j)=some v) (dX:o+cs.length<=arr.size) (h1:∀v∈cs,v.oneCell'=true):
  (Builtin.copy_ #[dM,bd] ty #[.slice (some ⟨b,o,none⟩) Bo VJ,.slice (some a) Ab TE]).run P w=.ok (goInt (Nat.min Ab Bo)) (w.setRow b (laid arr o cs)):=by
 have b0:=run_firstCells_some (P:=P) w k (Nat.min Ab Bo) a Ab TE cs a8 hY;have eP:=run_storeCells_at P b o tb cs 0 arr w aw (by simpa using dX) h1;simp only[mq]at eP;cases aK:P.info? elem with
 | none=>simp[aK]at ai
 | some i=>
  have hi:i.size=k:=by simpa[aK]using ai
  subst hi;simp[Builtin.copy_,run_underlying hu,Builtin.lenOf,sizeOf,typeInfo,aK,b0,eP,laid]
theorem ajd{P:Program}(w:World)(t e ty:TypeId)(z:Value)(bU:P.underlying t=some (.slice e))(bz:(zeroValue e).run P w=.ok z w)(b o n c:Nat)(arr:Array Value)(tb:TypeId)
  (aw:w.heap[b]?=some (.cells arr tb (0,0))) (dX:o+n*z.cells.size<=arr.size) (h1:∀v∈z.cells.toList,v.oneCell'=true):
  ∃zs:List Value,zs.length=n*z.cells.size/\(∀m,m<n*z.cells.size->zs[m]?=z.cells[m % z.cells.size]?)/\(Builtin.clear_ #[t] ty #[.slice (some ⟨b,o,none⟩) n c]).run P w=.ok (.tuple #[]) (if n=0 then w else w.setRow b (laid arr o zs)):=by
 refine⟨(Builtin.zeroCells z.cells n).toList,by simp[Builtin.zeroCells],fun m hm=>?_,?_⟩
 ·have BR:0<z.cells.size:=by
   rcases Nat.eq_zero_or_pos z.cells.size with h | h
   ·rw[h]at hm;simp at hm
   exact h
  simp only[Builtin.zeroCells,Array.toList_map,Array.toList_range,dr,List.getElem?_range hm,qL];rw[getElem!_pos z.cells _ (Nat.mod_lt _ BR),k9 (Nat.mod_lt _ BR)]
 have o1:∀v∈(Builtin.zeroCells z.cells n).toList,v.oneCell'=true:=by
  intro v Ns;simp only[Builtin.zeroCells,Array.toList_map,lJ,Array.toList_range,List.mem_range]at Ns;obtain⟨i,hi,rfl⟩:=Ns;have BR:0<z.cells.size:=by
   rcases Nat.eq_zero_or_pos z.cells.size with h | h
   ·rw[h]at hi;simp at hi
   exact h
  refine h1 _ ?_;rw[getElem!_pos z.cells _ (Nat.mod_lt _ BR)];simp
 have eP:=run_storeCells_at P b o tb (Builtin.zeroCells z.cells n).toList 0 arr w aw (by simpa[Builtin.zeroCells]using dX) o1;simp only[mq]at eP;cases n with
 | zero=>simp[Builtin.clear_,run_underlying bU]
 | succ n=>simp[Builtin.clear_,run_underlying bU,bz,eP,laid]
def wA(t k:Nat)(ck:List (List D)):az->az
 | .J (.own s) ch es=>if s=t then .J (.own t) k ck else .J (.own s) ch es
 | l=>az.ct (eU t) (fun _=>true) l
def C9(P:Program)(st:aD)(d:Nat)(t:TypeId)(x:Operand)(cP:Option Operand)(fY:TypeId)(ans:List b4):Stepped:=
 match ps P t,(st.bh x).leaf with
 | some (e,k),some (.J (.own gm) ch es)=>
  match P.info? e with
  | some i=>
   match i.zero,kY st cP with
   | some z,some l=>
    if k=ch/\t=fY/\z.cells.size=k/\z.cells.toList.all (fun v=>v.oneCell')=true/\d<st.env.length then
     let st2:=st.map (wA gm k (es.take (l.getD 0).toNat++List.replicate (es.length-(l.getD 0).toNat) (z.cells.toList.map .v)))
     some (⟨st2.env.set d .cj,st2.boxes⟩,ans,[0<=l.getD 0,l.getD 0<es.length,Flat es])
    else none
   | _,_=>none
  | none=>none
 | _,_=>none
theorem cr.clear{P:Program}{w0:ee}{st bn:aD}{a:Act}{w:World}{ω:Own}{τ:Nat->Nat×Value}{d:Nat}{t fY:TypeId}{x:Operand}{cP:Option Operand}{ans b':List b4}{obs:List Prop}
  (aU:cr w0 st a w ω τ) (h:C9 P st d t x cP fY ans=some (bn,b',obs)) (aZ:cA obs):
  d<a.tmps.size/\∃y z aM,(Instr.sliceAt t (a.eval x) (cP.map a.eval) none none).run P w=.ok y w/\(∀ty,(Builtin.clear_ #[fY] ty #[y]).run P w=.ok z aM)/\Rel w0 bn (a.put (some d) y) aM:=by
 unfold C9 at h;split at h
 ·rename_i e k gm ch es he ak;split at h
  ·rename_i i hi;split at h
   ·rename_i z l bl M5;split at h
    ·rename_i al;obtain⟨rfl,rfl,n1,yF,rb⟩:=al;refine⟨by rw[aU.size];exact rb,?_⟩;simp only[aS,bq]at h;obtain⟨rfl,_,rfl⟩:=h;obtain⟨cy,ca,BJ,_⟩:=aZ;obtain⟨hu,i2,lZ,dN⟩:=u3 he;obtain⟨aH,bH⟩:=aE.du ak (aU.bh x);have ax:=y4 aU M5;have oX:(cP.map a.eval=none/\l.getD 0=0)\/∃k,cP.map a.eval=some (.int k (l.getD 0)):=by
      rcases ax with⟨h,rfl⟩ | ⟨k,n,h,rfl⟩
      ·exact .inl ⟨h,rfl⟩
      exact .inr ⟨k,h⟩
     generalize p2:a.eval x=D1 at aH bH;cases aH with
     | nil _ _ a0=>simp at ca;omega
     | row R k es b off cap arr ty cL us aw dG fS ai hk iL aG=>
      have j4:ω b=.tok gm []:=dG;obtain⟨o2,sj,tA,gZ⟩:=aU.owned b (by rw[j4];simp);rw[aw]at gZ;simp only[aS,Obj.cells.injEq]at gZ;obtain⟨rfl,rfl,rfl⟩:=gZ;obtain⟨L,cv⟩:∃L,L=(l.getD 0).toNat:=⟨_,rfl⟩
      have atA:L<es.length:=by omega
      rw[<-cv];have dX:off+L*k+(es.length-L)*z.cells.size<=arr.size:=by
       rw[n1,EP,<-gB,show L+(es.length-L)=es.length by omega];have:=gW k fS;omega
      have XR:(zeroValue e).run P w=.ok z w:=by simp[zeroValue,typeInfo,hi,bl]
      obtain⟨zs,l3,NC,MS⟩:∃zs:List Value,zs.length=(es.length-L)*z.cells.size/\(∀m,m<(es.length-L)*z.cells.size->zs[m]?=z.cells[m % z.cells.size]?)/\
        ∀ty,(Builtin.clear_ #[t] ty #[.slice (some ⟨b,off+L*k,none⟩) (es.length-L) (cap-L)]).run P w=.ok (.tuple #[]) (if es.length-L=0 then w else w.setRow b (laid arr (off+L*k) zs)):=by
       obtain⟨zs,h1,U,ax⟩:=ajd (P:=P) w t e 0 z hu XR b (off+L*k) (es.length-L) (cap-L) arr ty aw dX (fx.1 yF);exact⟨zs,h1,U,fun pN=>ax⟩
      rw[bG (by omega)]at MS;rw[n1]at l3 NC;have cR:off+L*k+zs.length<=arr.size:=by rw[l3,<-n1];exact n1▸dX
      refine⟨.slice (some ⟨b,off+L*k,none⟩) (es.length-L) (cap-L),_,_,?_,MS,?_⟩
      ·simp only[Instr.sliceAt,Sem.run_bind,run_underlying hu,Result.andThen_ok,Instr.slice,Option.map_none];rw[y3 (h:=es.length) oX (.inl ⟨rfl,rfl⟩) cy (by omega) (by omega)];have c3:¬cap=L:=by omega
       simp[sizeOf,typeInfo,lZ,dN,<-cv,c3,Addr.add_lit]
      -- auQ ase behind it
      have j7:=setRow_heap w b arr (laid arr (off+L*k) zs) ty (0,0) aw;have fT:bQ (w.setRow b (laid arr (off+L*k) zs)) ω (Tag.own gm).R (.J k (es.take L++List.replicate (es.length-L) (z.cells.toList.map .v))) (.slice (some ⟨b,off,none⟩) es.length cap):=by
       have hlen:(es.take L++List.replicate (es.length-L) (z.cells.toList.map D.v)).length=es.length:=by simp;omega
       have eW:∀x j d,cQ (es.take L++List.replicate (es.length-L) (z.cells.toList.map D.v)) x j=some d->∃v,d=.v v/\(laid arr (off+L*k) zs)[off+x*k+j]?=some v/\v.oneCell'=true:=by
        intro x j d dK;rw[y8]at dK;have yx:(es.take L).length=L:=by simp;omega
        rw[yx]at dK;split at dK
        ·rename_i Gj;have ug:cQ es x j=some d:=by
          unfold cQ at dK ⊢;rwa[jX,bM Gj]at dK
         obtain⟨fA,jQ⟩:=rK hk ug;have p4:∃v,d=.v v:=by
          unfold cQ at ug;cases e1:es[x]? with
          | none=>simp[e1]at ug
          | some ds=>
           simp only[e1,ox]at ug;exact BJ ds (fl e1) d (fl ug)
         obtain⟨v,rfl⟩:=p4;have aJ:=aG x j _ ug;have aY:=iL x j _ ug;generalize us x j=u at aJ aY;cases aJ with
         | v _ _ bx=>
          refine⟨v,rfl,?_,bx⟩;rw[mb cR,bG ?_,aY];have:(x+1)*k<=L*k:=gW _ Gj;rw[gB]at this;omega
        rename_i Gj;unfold cQ at dK;rw[AZ]at dK;split at dK
        ·rename_i yC;simp only[ox,dr,bX]at dK;obtain⟨v,bz,rfl⟩:=dK;have yj:j<k:=by
          have:=(fy.1 bz).1;rw[Mc,n1]at this;exact this
         refine⟨v,rfl,?_,fx.1 yF v (fl bz)⟩;obtain⟨m,hm⟩:∃m,x=L+m:=⟨x-L,by omega⟩
         subst hm;have W':m*k+j<(es.length-L)*k:=by
          have:(m+1)*k<=(es.length-L)*k:=gW _ (by omega);rw[gB]at this;omega
         have e1:off+(L+m)*k+j=off+L*k+(m*k+j):=by rw[gB];omega
         rw[e1,mb cR,bM (by omega),show off+L*k+(m*k+j)-(off+L*k)=m*k+j by omega,NC _ W',show (m*k+j) % k=j by rw[Nat.mul_comm m k,Nat.mul_add_mod,EO yj]];simpa using bz
        simp at dK
       have:=bQ.row (w:=w.setRow b (laid arr (off+L*k) zs)) (ω:=ω) (Tag.own gm).R k (es.take L++List.replicate (es.length-L) (z.cells.toList.map .v)) b off cap _ ty (0,0)
        (fun x j=>(laid arr (off+L*k) zs).getD (off+x*k+j) undef) j7 dG (by omega) (by rw[sY cR];exact ai)
        (by
         intro e' uh;rcases mo.1 uh with h | h
         ·exact hk e' (AX h)
         rw[List.eq_of_mem_replicate h];simp[n1])
        (fun x j d dK=>by obtain⟨v,rfl,h1,_⟩:=eW x j d dK;simp[er,h1])
        (fun x j d dK=>by
         obtain⟨v,rfl,h1,U⟩:=eW x j d dK;have:(laid arr (off+L*k) zs).getD (off+x*k+j) undef=v:=by simp[er,h1]
         rw[this];exact .v _ _ U)
       rwa[hlen]at this
      have bh:kK w ω τ (w.setRow b (laid arr (off+L*k) zs)) ω τ (eU gm) (fun _=>true):=by
       refine⟨?_,?_,fun id c _ al=>al,rfl,fun _ _=>rfl⟩
       ·intro g dW c q av _ aK;obtain⟨rfl,yp⟩:=C6 av aK;exact⟨aK,setRow_other w b c _ fun e=>yp [] (by rw[e];exact j4)⟩
       intro g dW y av bD;cases g with
       | free=>simp only[eU,aS]at av;subst av;trivial
       | own x=>
        simp only[eU]at av;split at av
        ·cases av
        simp only[aS]at av;subst av;exact bD
       | ro x=>
        simp only[eU]at av;split at av
        ·cases av
        simp only[aS]at av;subst av;trivial
      have ei:∀jT v,Sat w ω τ jT v->Sat (w.setRow b (laid arr (off+L*k) zs)) ω τ (wA gm k (es.take L++List.replicate (es.length-L) (z.cells.toList.map .v)) jT) v:=by
       intro jT v Gg;by_cases MQ:∃s ch ck,jT=.J (.own s) ch ck
       ·obtain⟨s,ch,ck,rfl⟩:=MQ;simp only[wA];split
        ·rename_i eP;subst eP;obtain⟨_,U⟩:=Gg;simp only[Tag.dJ]at U bH;rw[U]at bH;simp only[bq]at bH;obtain⟨rfl,rfl⟩:=bH;exact⟨fT,U⟩
        rename_i eP;have:=bh.sat (.J (.own s) ch ck) v Gg;simpa[az.ct,eU,eP]using this
       have dQ:wA gm k (es.take L++List.replicate (es.length-L) (z.cells.toList.map .v)) jT=az.ct (eU gm) (fun _=>true) jT:=by
        unfold wA;split
        ·exact absurd ⟨_,_,_,rfl⟩ MQ
        rfl
       rw[dQ];exact bh.sat jT v Gg
      have h1:cr w0 (st.map (wA gm k (es.take L++List.replicate (es.length-L) (z.cells.toList.map .v)))) a (w.setRow b (laid arr (off+L*k) zs)) ω τ:=by
       refine aU.dT _ ei (aU.below.setRow o2 _) ?_ (fun id c al=>⟨al,setRow_other w b c _ fun e=>by rw[e,j4]at al;cases al⟩) (fun id c al=>al) (fun _ _=>rfl);intro c al;obtain⟨h1,jx,jJ,U⟩:=aU.owned c al;by_cases e:c=b
       ·subst e;exact⟨h1,_,ty,j7⟩
       exact⟨h1,jx,jJ,(setRow_other w b c _ e).trans U⟩
      exact⟨ω,τ,h1.put (p:=.cj) trivial⟩
    cases h
   cases h
  cases h
 cases h
end Go.Sx
namespace Go.Sx
open Go.RowKit
def bm.ki(p:az->Prop):bm->Prop
 | .one l=>p l
 | .agg ls=>∀l∈ls,p l
def aE.ki(p:az->Prop):aE->Prop
 | .aF a=>a.ki p
 | .fv as=>∀a∈as,a.ki p
variable{S jN:az->Value->Prop}{p:az->Prop}{f:az->az}{ls:List az}
theorem jv.map'(h:∀l v,p l->S l v->jN (f l) v){vs:Array Value}(ah:∀l∈ls,p l)(ai:jv S ls vs):jv jN (ls.map f) vs:=by
 refine⟨by simpa using ai.1,fun i l ap=>?_⟩;rw[dr,bX]at ap;obtain⟨fo,b5,rfl⟩:=ap;obtain⟨u,h1,U⟩:=ai.2 i fo b5;exact⟨u,h1,h _ _ (ah fo (fl b5)) U⟩
theorem ju.map'(h:∀l v,p l->S l v->jN (f l) v):∀{a:bm} {y:Value},a.ki p->ju S a y->ju jN (a.map f) y
 | .one l,y,ah,ai=>h _ _ ah ai
 | .agg ls,y,ah,⟨vs,e,ai⟩=>⟨vs,e,ai.map' h ah⟩
theorem cE.map'(h:∀l v,p l->S l v->jN (f l) v):∀{q:aE} {y:Value},q.ki p->cE S q y->cE jN (q.map f) y
 | .aF a,y,ah,ai=>show ju jN (a.map f) y from ju.map' h ah (show ju S a y from ai)
 | .fv as,y,ah,⟨vs,e,a8,ai⟩=>⟨vs,e,by simpa using a8,fun i a hi=>by
   rw[dr,bX]at hi;obtain⟨a0,b5,rfl⟩:=hi;obtain⟨u,h1,U⟩:=ai i a0 b5;exact⟨u,h1,ju.map' h (ah a0 (fl b5)) U⟩⟩
variable{w0:ee}{st:aD}{a:Act}{w aM:World}{ω a7:Own}{τ:Nat->Nat×Value}
theorem cr.asq{cI:Nat->Nat×Value}{p:az->Prop}(h:cr w0 st a w ω τ)(f:az->az)
  (ei:∀l v,p l->Sat w ω τ l v->Sat aM a7 cI (f l) v) (he:∀q∈st.env,q.ki p) (aw:∀id ls,df id st.boxes=some ls->∀l∈ls,p l) (p0:fO w0 aM) (o3:mx w0 aM a7)
  (q8:∀id b,ω b=.box id->a7 b=.box id/\aM.heap[b]?=w.heap[b]?) (ya:∀id b,a7 b=.box id->ω b=.box id) (sx:∀t,cX<=t->cI t=τ t):cr w0 (st.map f) a aM a7 cI where
 defers:=h.defers
 size:=by simp[aD.map,h.size]
 below:=p0
 owned:=o3
 fixed:=fun t bU=>(sx t bU).trans (h.fixed t bU)
 pinned:=fun id b hi aw=>h.pinned id b hi (ya id b aw)
 env:=by
  intro i q aK;simp only[aD.map]at aK;rw[dr,bX]at aK;obtain⟨hE,b5,rfl⟩:=aK;obtain⟨v,h1,U⟩:=h.env i hE b5;exact⟨v,h1,cE.map' ei (he hE (fl b5)) U⟩
 boxes:=by
  intro id ls ap;simp only[aD.map]at ap;rw[rJ,bX]at ap;obtain⟨ij,b5,rfl⟩:=ap;obtain⟨b,arr,ty,gG,hu,bH,ai⟩:=h.boxes id ij b5;obtain⟨h1,U⟩:=q8 id b gG;exact⟨b,arr,ty,h1,fun da eh=>hu da (ya id da eh),U.trans bH,ai.map' ei (aw id ij b5)⟩
def az.idx(t j:Nat):az->List Nat
 | .aO s a b _ _ _=>if s=t/\b=j then [a] else []
 | _=>[]
def bm.idx(t j:Nat):bm->List Nat
 | .one l=>l.idx t j
 | .agg ls=>ls.flatMap (az.idx t j)
def aE.idx(t j:Nat):aE->List Nat
 | .aF a=>a.idx t j
 | .fv as=>as.flatMap (bm.idx t j)
def aD.idx(t j:Nat)(st:aD):List Nat:=st.env.flatMap (aE.idx t j)++st.boxes.flatMap fun x=>x.2.flatMap (az.idx t j)
def C'(t i j:Nat)(l:az):Prop:=∀a∈l.idx t j,a=i
theorem Oy{id:Nat}:∀{bs:List (Nat×List az)} {ls:List az},df id bs=some ls->(id,ls)∈bs
 | [],_,h=>by cases h
 | (i,l)::r,ls,h=>by
  simp only[df]at h;split at h
  ·rename_i hi;subst hi;rw[gP h];exact j1
  exact hQ _ (Oy h)
variable{t i j:Nat}
theorem aD.XU(h:∀a∈st.idx t j,a=i):∀q∈st.env,q.ki (C' t i j):=by
 intro q aK;have h1:∀a∈q.idx t j,a=i:=fun a ah=>h a (hP _ (nE.2 ⟨q,aK,ah⟩))
 have MK:∀x:bm,(∀a∈x.idx t j,a=i)->x.ki (C' t i j):=by
  intro x ak;cases x with
  | one l=>exact ak
  | agg ls=>exact fun l ap a ah=>ak a (nE.2 ⟨l,ap,ah⟩)
 cases q with
 | aF x=>exact MK x h1
 | fv as=>exact fun x ak=>MK x fun a ah=>h1 a (nE.2 ⟨x,ak,ah⟩)
theorem aD.XT(h:∀a∈st.idx t j,a=i){id:Nat}(aw:df id st.boxes=some ls):∀l∈ls,C' t i j l:=by
 intro l ap a ah;exact h a (iC _ (nE.2 ⟨(id,ls),Oy aw,nE.2 ⟨l,ap,ah⟩⟩))
def gx(t i j k:Nat)(ck:List (List D))(kT:Nat)(esT:List (List D)):az->az
 | .J (.own s) dq dx=>if s=t then .J (.own t) kT esT else .J (.own s) dq dx
 | .cB (.own s) dq dx a b=>if s=t then .cB (.own t) kT esT a b else .cB (.own s) dq dx a b
 | .J (.ro s) dq dx=>if s=t then .cj else .J (.ro s) dq dx
 | .cB (.ro s) dq dx a b=>if s=t then .cj else .cB (.ro s) dq dx a b
 | .aO s a b dq dx m=>if s=t/\b=j then (if dq=k/\m.home=true then .aO t i j k ck m else .cj) else .aO s a b dq dx m
 | .eX _ _=>.cj
 | l=>l
variable{v:Value}
theorem tm.asu{u:Value}(h1:tm w ω τ t i j u)(U:tm w ω τ t i j v):u=v:=by
 obtain⟨kT,b,off,len,cap,arr,ty,cL,eE,a2,a3,a4⟩:=h1;obtain⟨XX,da,auw,auq,kN,b9,pN,ats,gC,fQ,xM,E2⟩:=U;rw[eE]at gC;simp only[bq,Value.slice.injEq,aS,Addr.mk.injEq]at gC;obtain⟨rfl,⟨rfl,rfl,_⟩,_,_⟩:=gC;rw[a3]at xM;simp only[aS,Obj.cells.injEq]at xM;obtain⟨rfl,_,_⟩:=xM;rw[a4]at E2;exact gP E2
variable{k kT:Nat}{esT:List (List D)}
theorem cr.TH(h:cr w0 st a w ω τ){ck:List (List D)}{yT hx:Value}
  (jf:∀c,c<w.heap.size->ω c≠.tok t [(i,j)]->aM.heap[c]?=w.heap[c]?) (c7:∀c,c<w.heap.size->a7 c=ω c) (G1:∀c id,¬c<w.heap.size->a7 c≠.box id)
  (j5:fO w0 aM) (o2:mx w0 aM a7) (ru:τ t=(kT,yT)) (mO:bQ aM a7 (Tag.own t).R (.J kT esT) yT)
  (p3:tm w ω τ t i j hx) (nZ:bQ aM a7 (fun q o=>o=.tok t ((i,j)::q)) (.J k ck) hx) (nX:∀a∈st.idx t j,a=i):cr w0 (st.map (gx t i j k ck kT esT)) a aM a7 τ:=by
 have cL:∀{R:List (Nat×Nat)->c0->Prop} {d:D} {v:Value},(∀q,¬R q (.tok t [(i,j)]))->bQ w ω R d v->bQ aM a7 R d v:=by
  intro R d v a8 aH;refine aH.frame fun b q bJ aK=>?_
  rw[c7 b bJ];exact⟨aK,jf b bJ fun e=>a8 q (by rw[<-e];exact aK)⟩
 have home:∀{s a b:Nat} {u:Value},tm w ω τ s a b u->tm aM a7 τ s a b u:=by
  rintro s a b u ⟨kT,c,off,len,cap,arr,ty,cL,eE,a2,a3,a4⟩;have bJ:c<w.heap.size:=(iE.1 a3).1;exact⟨kT,c,off,len,cap,arr,ty,cL,eE,by rw[c7 c bJ];exact a2,(jf c bJ (by rw[a2];simp)).trans a3,a4⟩
 refine h.asq (p:=C' t i j) _ ?_ (aD.XU nX) (fun id ls aw=>aD.XT nX aw) j5 o2 (fun id b aw=>?_) (fun id b aw=>?_) (fun _ _=>rfl)
 ·intro l v av ai;cases l with
  | cj=>exact trivial
  | v x=>exact ai
  | a' c=>exact ai
  | ptr id o=>
   obtain⟨c,al,e⟩:=ai;exact⟨c,by rw[c7 c (h.owned.lt (by simp[al]))];exact al,e⟩
  | fR f ids=>
   obtain⟨bs,e,a8,hi⟩:=ai;refine⟨bs,e,a8,fun x id gh=>?_⟩;obtain⟨b,h1,U⟩:=hi x id gh;exact⟨b,h1,by rw[c7 b (h.owned.lt (by simp[U]))];exact U⟩
  | ha ds o=>
   obtain⟨c,e,aH⟩:=ai;exact⟨c,e,cL (fun q aK=>by cases aK) aH⟩
  | fd d=>exact cL (R:=Tag.free.R) (fun q aK=>by cases aK) ai
  | c' t0 dq dx=>exact⟨cL (R:=Tag.free.R) (fun q aK=>by cases aK) ai.1,ai.2⟩
  | eX=>exact trivial
  | J g dq dx=>
   cases g with
   | free=>exact⟨cL (R:=Tag.free.R) (fun q aK=>by cases aK) ai.1,aa⟩
   | own s=>
    simp only[gx];split
    ·rename_i e;subst e;have U:=ai.2;simp only[Tag.dJ]at U;rw[ru]at U;simp only[bq]at U;rw[<-U.2];exact⟨mO,ru⟩
    rename_i c3;exact⟨cL (R:=(Tag.own s).R) (fun q aK=>by simp only[Tag.R,c0.tok.injEq]at aK;exact c3 aK.1.symm) ai.1,ai.2⟩
   | ro s=>
    simp only[gx];split
    ·exact trivial
    rename_i c3;refine⟨cL (R:=(Tag.ro s).R) (fun q aK=>?_) ai.1,aa⟩;rcases aK with aK | ⟨dE,aK⟩
    ·cases aK
    simp only[c0.tok.injEq]at aK;exact c3 aK.1.symm
  | cB g dq dx x y=>
   obtain⟨fQ,ph,oH,e,lZ,l2,mL⟩:=ai;cases g with
   | free=>exact⟨fQ,ph,oH,e,lZ,cL (R:=Tag.free.R) (fun q aK=>by cases aK) l2,aa⟩
   | own s=>
    simp only[gx];split
    ·rename_i e1;subst e1;simp only[Tag.dJ]at mL;rw[ru]at mL;simp only[bq]at mL;obtain⟨rfl,rfl⟩:=mL;have ap:esT.length=dx.length:=by
      obtain⟨_,_,e2⟩:=mO.len;simp only[Value.slice.injEq]at e2;exact e2.2.1.symm
     refine⟨fQ,ph,oH,e,by omega,?_,?_⟩
     ·rw[ap];exact mO
     rw[ap];exact ru
    rename_i c3;exact⟨fQ,ph,oH,e,lZ,cL (R:=(Tag.own s).R) (fun q aK=>by simp only[Tag.R,c0.tok.injEq]at aK;exact c3 aK.1.symm) l2,mL⟩
   | ro s=>
    simp only[gx];split
    ·exact trivial
    rename_i c3;refine⟨fQ,ph,oH,e,lZ,cL (R:=(Tag.ro s).R) (fun q aK=>?_) l2,aa⟩;rcases aK with aK | ⟨dE,aK⟩
    ·cases aK
    simp only[c0.tok.injEq]at aK;exact c3 aK.1.symm
  | aO s x y dq dx m=>
   simp only[gx];obtain⟨u,hu,aH,hm⟩:=ai;split
   ·rename_i al;obtain⟨rfl,rfl⟩:=al;have ak:x=i:=av x (by simp[az.idx]);subst ak;split
    ·rename_i al;obtain⟨rfl,W9⟩:=al;have e:=(hm W9).asu p3;subst e;have ap:ck.length=dx.length:=by
      obtain⟨_,_,e1⟩:=nZ.len;obtain⟨_,_,e2⟩:=aH.len;rw[e1]at e2;simp only[Value.slice.injEq]at e2;omega
     exact⟨u,by rw[ap];exact hu,nZ,fun _=>home p3⟩
    exact trivial
   rename_i al;refine⟨u,hu,cL (fun q aK=>?_) aH,fun bH=>home (hm bH)⟩;simp only[c0.tok.injEq,qN,bq]at aK;exact al ⟨aK.1.symm,aK.2.1.2.symm⟩
 ·have bJ:=h.owned.lt (b:=b) (by simp[aw]);exact⟨by rw[c7 b bJ];exact aw,jf b bJ (by rw[aw];simp)⟩
 by_cases bJ:b<w.heap.size
 ·rw[c7 b bJ]at aw;exact aw
 exact absurd aw (G1 b id bJ)
def r5(t:Nat):az->Option (Nat×List (List D))
 | .J (.own s) k es=>if s=t then some (k,es) else none
 | _=>none
def sZ(t:Nat):List aE->Option (Nat×List (List D))
 | []=>none
 | .aF (.one l)::r=>match r5 t l with | some x=>some x | none=>sZ t r
 | .aF (.agg ls)::r=>match ls.findSome? (r5 t) with | some x=>some x | none=>sZ t r
 | _::r=>sZ t r
def Da(t:Nat)(st:aD):Option (Nat×List (List D)):=
 match sZ t st.env with
 | some x=>some x
 | none=>(st.boxes.find? fun x=>(x.2.findSome? (r5 t)).isSome).bind fun x=>(df x.1 st.boxes).bind fun ls=>ls.findSome? (r5 t)
theorem IN{l:az}(h:r5 t l=some (kT,esT))(ai:Sat w ω τ l v):Sat w ω τ (.J (.own t) kT esT) v:=by
 unfold r5 at h;split at h
 ·split at h
  ·rename_i e;subst e;simp only[aS,bq]at h;obtain⟨rfl,rfl⟩:=h;exact ai
  cases h
 cases h
theorem Oz{vs:Array Value}(h:ls.findSome? (r5 t)=some (kT,esT))(ai:jv (Sat w ω τ) ls vs):∃v,Sat w ω τ (.J (.own t) kT esT) v:=by
 obtain⟨l,ap,U⟩:=List.exists_of_findSome?_eq_some h;obtain⟨x,ak⟩:=ow.1 ap;obtain⟨u,_,hu⟩:=ai.2 x l ak;exact⟨u,IN U hu⟩
theorem Db:∀{cn:List aE},sZ t cn=some (kT,esT)->(∀p∈cn,∃v,cE (Sat w ω τ) p v)->∃v,Sat w ω τ (.J (.own t) kT esT) v
 | [],h,_=>by cases h
 | p::r,h,ai=>by
  have aH:∀p∈r,∃v,cE (Sat w ω τ) p v:=fun p hp=>ai p (hQ _ hp)
  obtain⟨v,bz⟩:=ai p j1;cases p with
  | fv as=>exact Db (by simpa[sZ]using h) aH
  | aF x=>
   cases x with
   | one l=>
    simp only[sZ]at h;split at h
    ·rename_i y e;simp only[aS]at h;subst h;exact⟨v,IN e bz⟩
    exact Db h aH
   | agg ls=>
    simp only[sZ]at h;split at h
    ·rename_i y e;simp only[aS]at h;subst h;obtain⟨vs,_,bz⟩:=bz;exact Oz e bz
    exact Db h aH
theorem cr.root(h:cr w0 st a w ω τ)(e:Da t st=some (kT,esT)):∃v,Sat w ω τ (.J (.own t) kT esT) v:=by
 unfold Da at e;split at e
 ·rename_i x e1;simp only[aS]at e;subst e;refine Db e1 fun p hp=>?_
  obtain⟨x,ak⟩:=ow.1 hp;obtain⟨v,_,bz⟩:=h.env x p ak;exact⟨v,bz⟩
 rw[la]at e;obtain⟨x,_,e⟩:=e;rw[la]at e;obtain⟨ls,aw,e⟩:=e;obtain⟨b,arr,ty,_,_,_,ai⟩:=h.boxes x.1 ls aw;exact Oz e ai
theorem OA{ck:List (List D)}{ib:List D}{yT hx:Value}(ai:Sat w ω τ (.J (.own t) kT esT) yT)
  (jf:∀c,c<w.heap.size->ω c≠.tok t [(i,j)]->aM.heap[c]?=w.heap[c]?) (c7:∀c,c<w.heap.size->a7 c=ω c)
  (p3:tm w ω τ t i j hx) (nZ:bQ aM a7 (fun q o=>o=.tok t ((i,j)::q)) (.J k ck) hx) (ey:esT[i]?=some ib):bQ aM a7 (Tag.own t).R (.J kT (esT.set i (ib.set j (.J k ck)))) yT:=by
 obtain⟨aH,bH⟩:=ai;simp only[Tag.dJ]at bH;obtain⟨XX,cc,Hi,NM,Ms,sj,tA,att,eE,a2,a3,a4⟩:=p3;rw[bH]at eE;simp only[bq]at eE;obtain⟨rfl,rfl⟩:=eE;have iK:i<esT.length:=(fy.1 ey).1;have hlen:(esT.set i (ib.set j (.J k ck))).length=esT.length:=gp;generalize bD:Value.slice (some ⟨cc,Hi,none⟩) NM Ms=Mb at aH;cases aH with
 | nil=>simp at iK
 | row R kT esT b off cap arr ty cL us aw dG al dN hk hu aG=>
  simp only[Value.slice.injEq,aS,Addr.mk.injEq]at bD;obtain⟨⟨rfl,rfl,_⟩,rfl,rfl⟩:=bD;rw[aw]at a3;simp only[aS,Obj.cells.injEq]at a3;obtain⟨rfl,_,_⟩:=a3;have ud:cc<w.heap.size:=(iE.1 aw).1;have BK:ib.length=kT:=hk ib (fl ey);have uq:∀e∈esT.set i (ib.set j (.J k ck)),e.length=kT:=by
   intro e he;rcases pR he with h | rfl
   ·exact hk e h
   rw[gp];exact BK
  have key:∀x y d,cQ (esT.set i (ib.set j (.J k ck))) x y=some d->arr[Hi+x*kT+y]?=some (us x y)/\bQ aM a7 (fun q=>(Tag.own t).R ((x,y)::q)) d (us x y):=by
   intro x y d dK;have Gk:=rK uq dK;rw[hlen]at Gk;obtain⟨d0,Wr⟩:=OX hk Gk.1 Gk.2;have uv:=hu x y d0 Wr;refine⟨uv,?_⟩;rw[HZ iK]at dK;by_cases ak:x=i
   ·subst ak;rw[bM rfl,nC]at dK;by_cases GY:j=y
    ·subst GY;rw[bM rfl,bM (by omega)]at dK;rw[<-gP dK];rw[a4]at uv;rw[<-gP uv];exact nZ
    rw[bG GY]at dK;have oT:cQ esT x y=some d:=by simp[cQ,ey,dK]
    refine (aG x y d oT).frame fun c q al aK=>?_
    rw[c7 c al];refine⟨aK,jf c al fun e=>?_⟩;simp only[Tag.R,e,c0.tok.injEq,qN,bq]at aK;exact GY aK.2.1.2
   rw[bG ak]at dK;refine (aG x y d dK).frame fun c q al aK=>?_
   rw[c7 c al];refine⟨aK,jf c al fun e=>?_⟩;simp only[Tag.R,e,c0.tok.injEq,qN,bq]at aK;exact ak aK.2.1.1.symm
  have j4:ω cc=.tok t []:=dG;have:=bQ.row (w:=aM) (ω:=a7) (Tag.own t).R kT (esT.set i (ib.set j (.J k ck))) cc Hi Ms arr ty cL us ((jf cc ud (by rw[j4];simp)).trans aw) (by rw[c7 cc ud];exact j4) (by omega) dN uq
   (fun x y d aG=>(key x y d aG).1) (fun x y d aG=>(key x y d aG).2)
  rw[hlen]at this;exact this
def IP(P:Program)(st:aD)(ty:TypeId)(t i j k:Nat)(es:List (List D))(x y:Nat)(q:aE)(ans:List b4):Stepped:=
 match q.leaves,P.info? ty,Da t st,ans with
 | some xs,some inf,some (kT,esT),.el ds::.el ib::r=>
  match xs.mapM az.hM with
  | some ys=>
   if xs.length=inf.size/\ds.length=k/\y+ys.length<=k/\xs.all (fun l=>l.tok.isNone)=true then
    some (st.map (gx t i j k (es.set x (j2 ds y ys)) kT (esT.set i (ib.set j (.J k (es.set x (j2 ds y ys)))))),r,(es[x]?=some ds)::(esT[i]?=some ib)::(st.idx t j).map fun a=>a=i)
   else none
  | none=>none
 | _,_,_,_=>none
theorem aje{l:az}{d:D}(h:l.hM=some d)(bU:l.tok.isNone=true){u:Value}(ai:Sat w ω τ l u):∃z,d=.v z/\u=z/\z.oneCell'=true:=by
 cases l with
 | v z=>
  simp only[az.hM]at h;split at h
  ·simp only[aS]at h;subst h;have:u=z:=ai;exact⟨z,rfl,this,‹_›⟩
  cases h
 | a' c=>
  simp only[az.hM,aS]at h;subst h;exact⟨_,rfl,ai,rfl⟩
 | J g k es=>
  cases g with
  | own s=>simp[az.tok]at bU
  | free=>cases h
  | ro s=>cases h
 | cj=>cases h
 | ptr=>cases h
 | cB=>cases h
 | ha=>cases h
 | fd=>cases h
 | c'=>cases h
 | fR=>cases h
 | aO=>cases h
 | eX=>cases h
theorem cr.asm{P:Program}{bn:aD}{ty:TypeId}{x y:Nat}{es:List (List D)}{q:aE}{p:Value}{ans b':List b4}{obs:List Prop}
  (aU:cr w0 st a w ω τ) (hp:Sat w ω τ (.aO t i j k es (.at_ x y)) p) (aK:cE (Sat w ω τ) q v) (h:IP P st ty t i j k es x y q ans=some (bn,b',obs)) (aZ:cA obs):
  ∃aM,(Instr.storeAt ty p v).run P w=.ok () aM/\Rel w0 bn a aM:=by
 unfold IP at h;split at h
 ·rename_i xs inf kT esT ds ib r e1 e2 d';split at h
  ·rename_i ys cb;split at h
   ·rename_i al;obtain⟨kQ,ko,j6,BE⟩:=al;simp only[aS,bq]at h;obtain⟨rfl,_,rfl⟩:=h;obtain⟨ey,vV,nX⟩:=aZ;have nX:=Ck nX;obtain⟨yT,mO⟩:=aU.root d';obtain⟨ai,o1⟩:=aE.wl e1 aK;obtain⟨NA,GX⟩:=l' cb;obtain⟨hx,⟨b,off,cap,rfl,rfl,iK⟩,aH,hm⟩:=hp;have p3:=hm rfl;have rl:=aH;cases aH with
    | nil=>simp at iK
    | row R k es b off cap arr hN cL us aw dG fS dN gu hu aG=>
     have j4:ω b=.tok t [(i,j)]:=dG;obtain⟨um,sj,tA,gZ⟩:=aU.owned b (by rw[j4];simp);rw[aw]at gZ;simp only[aS,Obj.cells.injEq]at gZ;obtain⟨rfl,rfl,rfl⟩:=gZ;have ud:b<w.heap.size:=(iE.1 aw).1;have hmul:(x+1)*k<=cap*k:=gW _ (by omega);rw[gB]at hmul;have sE:v.cells.size=xs.length:=ai.1;have dX:off+x*k+y+v.cells.toList.length<=arr.size:=by simp;omega
     have eP:=run_storeCells_at P b (off+x*k+y) hN v.cells.toList 0 arr w aw (by simpa using dX) o1;simp only[mq]at eP;generalize nS:(arr.toList.take (off+x*k+y)++v.cells.toList++arr.toList.drop (off+x*k+y+v.cells.toList.length)).toArray=b9 at eP;have hW:∀z:Nat,b9[z]?=if off+x*k+y<=z/\z<off+x*k+y+xs.length then v.cells[z-(off+x*k+y)]? else arr[z]?:=by
      intro z;rw[<-nS,nA,y6 (by simpa using dX)];simp[sE]
     have we:b9.size=arr.size:=by rw[<-nS];simp;simp at dX;omega
     have j7:=setRow_heap w b arr b9 hN (0,0) aw;have jf:∀c,c<w.heap.size->ω c≠.tok t [(i,j)]->(w.setRow b b9).heap[c]?=w.heap[c]?:=fun c _ al=>setRow_other w b c b9 fun e=>al (by rw[e];exact j4)
     have nZ:bQ (w.setRow b b9) ω (fun q o=>o=.tok t ((i,j)::q)) (.J k (es.set x (j2 ds y ys))) (.slice (some ⟨b,off,none⟩) es.length cap):=by
      have hlen:(es.set x (j2 ds y ys)).length=es.length:=gp;have BK:ds.length=k:=ko;have l1:∀fZ f' d,cQ es fZ f'=some d->bQ (w.setRow b b9) ω (fun q o=>o=.tok t ((i,j)::(fZ,f')::q)) d (us fZ f'):=by
       intro fZ f' d oT;refine (aG fZ f' d oT).frame fun c q al ez=>⟨ez,jf c al fun e=>?_⟩
       rw[e]at ez;simp at ez
      have eW:∀fZ f' d,cQ (es.set x (j2 ds y ys)) fZ f'=some d->∃u,b9[off+fZ*k+f']?=some u/\bQ (w.setRow b b9) ω (fun q o=>o=.tok t ((i,j)::(fZ,f')::q)) d u:=by
       intro fZ f' d dK;rw[HZ iK]at dK;by_cases ak:fZ=x
       ·subst ak;rw[bM rfl,O0 (by omega)]at dK;split at dK
        ·rename_i bD;obtain⟨l,je,cR⟩:=GX _ _ dK;obtain⟨u,gv,fc⟩:=ai.2 _ _ je;obtain⟨z,rfl,rfl,bl⟩:=aje cR (fx.1 BE l (fl je)) fc;refine⟨u,?_,.v _ _ bl⟩;rw[hW,bM (by omega),<-gv]
         congr 1;omega
        rename_i bD;have oT:cQ es fZ f'=some d:=by simp[cQ,ey,dK]
        refine⟨us fZ f',?_,l1 fZ f' d oT⟩;rw[hW,bG (by omega),hu fZ f' d oT]
       rw[bG ak]at dK;obtain⟨fA,XN⟩:=rK gu dK;refine⟨us fZ f',?_,l1 fZ f' d dK⟩;rw[hW,bG ?_,hu fZ f' d dK];rcases Nat.lt_or_gt_of_ne ak with h | h
       ·have:(fZ+1)*k<=x*k:=gW _ h;rw[gB]at this;omega
       have:(x+1)*k<=fZ*k:=gW _ h;rw[gB]at this;omega
      have o7:∀e∈es.set x (j2 ds y ys),e.length=k:=by
       intro e he;rcases pR he with h | rfl
       ·exact gu e h
       rw[O1 (by omega)];exact BK
      have:=bQ.row (w:=w.setRow b b9) (ω:=ω) (fun q o=>o=.tok t ((i,j)::q)) k (es.set x (j2 ds y ys)) b off cap b9 hN (0,0) (fun fZ f'=>b9.getD (off+fZ*k+f') undef) j7 j4 (by omega) (by omega) o7
       (fun x y d eb=>by obtain⟨u,h1,_⟩:=eW x y d eb;rw[h1];simp[er,h1])
       (fun x y d eb=>by obtain⟨u,h1,U⟩:=eW x y d eb;have:b9.getD (off+x*k+y) undef=u:=(by simp[er,h1]);rw[this];exact U)
      rw[hlen]at this;exact this
     refine⟨w.setRow b b9,?_,ω,τ,aU.TH (yT:=yT) jf (fun _ _=>rfl) (fun c id al e=>?_) (aU.below.setRow um b9) ?_ mO.2 (OA mO jf (fun _ _=>rfl) p3 nZ vV) p3 nZ nX⟩
     ·simp only[Instr.storeAt,Instr.sureAddr,Sem.run_bind,Sem.run_pure,Result.andThen_ok,storeVar,sizeOf,typeInfo,run_program,e2];have Xy:¬(v.cells.size≠inf.size):=by simp;omega
      rw[bG Xy];exact eP
     ·exact al (aU.owned.lt (by rw[e];simp))
     intro c ig;obtain⟨ax,jx,jJ,aJ⟩:=aU.owned c ig;by_cases yb:c=b
     ·subst yb;exact⟨ax,b9,hN,j7⟩
     exact⟨ax,jx,jJ,(setRow_other w b c b9 yb).trans aJ⟩
   cases h
  cases h
 cases h
end Go.Sx
namespace Go.Sx
open Go.RowKit
variable{i:Nat}
theorem OB{α:Type}{l:List α}{a:α}(h:l[i]?=some a):l.set i a=l:=by
 apply List.ext_getElem?;intro x;rw[nC];by_cases ak:i=x
 ·subst ak;have:=(fy.1 h).1;rw[bM rfl,bM this,h]
 rw[bG ak]
def IQ(P:Program)(st:aD)(d:Nat)(hb:TypeId)(t i j k:Nat)(es:List (List D))(y:Operand)(ans:List b4):Stepped:=
 match ps P hb,Da t st,ans with
 | some (e,ch),some (kT,esT),.el ib::eT=>
  match P.info? e,tT t k (st.bh y) eT with
  | some inf,some (bL,none,tS,obs)=>
   match inf.zero with
   | some z=>
    if ch=k/\z.cells.size=k/\0<k then
     some (⟨(st.map (gx t i j k es kT esT)).env.set d (.one (.aO t i j k (es++bL) .kL)),(st.map (gx t i j k es kT esT)).boxes⟩,tS,
      ((es.length+bL.length)*inf.bytes<=140737488355328)::(es.length+bL.length<=9223372036854775807)::(esT[i]?=some ib)::(ib[j]?=some (.J k es))::(((st.idx t j).map fun a=>a=i)++obs))
    else none
   | none=>none
  | _,_=>none
 | _,_,_=>none
def si(P:Program)(hb:TypeId)(t i j k:Nat)(es esT:List (List D))(q:aE)(ans:List b4):Option (aE×List b4×List Prop):=
 match ps P hb,ans with
 | some (e,ch),.el ib::eT=>
  match P.info? e,tT t k q eT with
  | some inf,some (bL,none,tS,obs)=>
   match inf.zero with
   | some z=>
    if ch=k/\z.cells.size=k/\0<k then
     some (.one (.aO t i j k (es++bL) .kL),tS,
      ((es.length+bL.length)*inf.bytes<=140737488355328)::(es.length+bL.length<=9223372036854775807)::(esT[i]?=some ib)::(ib[j]?=some (.J k es))::obs)
    else none
   | none=>none
  | _,_=>none
 | _,_=>none
theorem cr.si{P:Program}{w0:ee}{st:aD}{a:Act}{w:World}{ω:Own}{τ:Nat->Nat×Value}{d:Nat}{hb ty:TypeId}{t j k kT:Nat}{es esT:List (List D)}{x y:Operand}{p:aE}{ans b':List b4}{obs:List Prop}
  (aU:cr w0 st a w ω τ) (hp:Sat w ω τ (.aO t i j k es .here) (a.eval x)) (h:Sx.si P hb t i j k es esT (st.bh y) ans=some (p,b',obs)) (aZ:cA obs)
  (mO:∃v,Sat w ω τ (.J (.own t) kT esT) v) (nX:∀a∈st.idx t j,a=i):
  ∃z aM,(Builtin.append_ #[hb,hb] ty #[a.eval x,a.eval y]).run P w=.ok z aM/\Rel w0 ⟨(st.map (gx t i j k es kT esT)).env.set d p,(st.map (gx t i j k es kT esT)).boxes⟩ (a.put (some d) z) aM:=by
 unfold Sx.si at h;split at h
 ·rename_i e ch ib eT he;obtain⟨bU,gJ,j8,wc⟩:=u3 he;split at h
  ·rename_i inf bL tS wm hi hY;rw[j8]at hi;have nY:=gP hi;subst nY;split at h
   ·rename_i z bl;split at h
    ·rename_i al;obtain⟨rfl,n1,l0⟩:=al;simp only[aS,bq]at h;obtain⟨rfl,_,rfl⟩:=h;obtain⟨gG,gH,vV,FH,F5⟩:=aZ;obtain⟨_,news,lm⟩:=OZ (P:=P) l0 (aU.bh y) hY F5;obtain⟨yT,mO⟩:=mO;obtain⟨hx,p7,aH,hm⟩:=hp;have p3:=hm rfl;have p7:a.eval x=hx:=p7;rw[p7];generalize a.eval y=e0 at lm;have BJ:∀fZ f' d,cQ bL fZ f'=some d->∃u,news[fZ*ch+f']?=some u/\d=.v u/\u.oneCell'=true:=by
      intro fZ f' d aG;obtain⟨u,h1,U⟩:=lm.cell fZ f' d aG;rcases U with⟨v,rfl,rfl⟩ | ⟨s,ai,_⟩
      ·exact⟨u,h1,rfl,lm.one u (fl h1)⟩
      cases ai
     have fin:∀(w1:World) (a7:Own) (r:Value),(∀c,c<w.heap.size->ω c≠.tok t [(i,j)]->w1.heap[c]?=w.heap[c]?)->(∀c,c<w.heap.size->a7 c=ω c)->(∀c id,¬c<w.heap.size->a7 c≠.box id)->fO w0 w1->mx w0 w1 a7->
       bQ w1 a7 (fun q o=>o=.tok t ((i,j)::q)) (.J ch es) hx->bQ w1 a7 (fun q o=>o=.tok t ((i,j)::q)) (.J ch (es++bL)) r->
       Rel w0 ⟨(st.map (gx t i j ch es kT esT)).env.set d (.one (.aO t i j ch (es++bL) .kL)),(st.map (gx t i j ch es kT esT)).boxes⟩ (a.put (some d) r) w1:=by
      intro w1 a7 r jf c7 G1 j5 o2 nZ eG;have Nn:=OA mO jf c7 p3 nZ vV;rw[OB FH,OB vV]at Nn;exact⟨a7,τ,(aU.TH jf c7 G1 j5 o2 mO.2 Nn p3 nZ nX).put (p:=.one (.aO t i j ch (es++bL) .kL)) ⟨r,rfl,eG,fun bH=>by cases bH⟩⟩
     have FB:∀c id,¬c<w.heap.size->ω c≠.box id:=fun c id al e=>al (aU.owned.lt (by rw[e];simp))
     by_cases ym:bL.length=0
     ·have FN:bL=[]:=xt ym;subst FN;refine⟨hx,w,OY bU j8 w ?_ ?_,fin w ω hx (fun _ _ _=>rfl) (fun _ _=>rfl) FB aU.below aU.owned aH (by rw[k'];exact aH)⟩
      ·cases aH with
       | nil _ _ a0=>exact⟨a0,0,0,rfl,ga _⟩
       | row R k es b off cap arr ty cL us aw dG al ai hk hu aG=>exact⟨some ⟨b,off,none⟩,_,cap,rfl,al⟩
      rcases lm.shape with⟨⟨a,h⟩,_⟩ | ⟨b,o,c,h,_⟩
      ·exact⟨a,0,h⟩
      exact⟨some ⟨b,o,none⟩,c,h⟩
     have rh:0<bL.length:=by omega
     rcases lm.shape with⟨_,h⟩ | ⟨a',k6,jo,rfl,oZ⟩
     ·rw[h]at rh;simp at rh
     have grown:∀(w1:World) (b9:Array Value) (r:Value) (kN:Nat),fP w.heap.size w w1->w1.heap[w.heap.size]?=some (.cells b9 e (0,0))->r=.slice (some ⟨w.heap.size,0,none⟩) (es.length+bL.length) kN->
       es.length+bL.length<=kN->kN*ch<=b9.size->(∀fm jS d,cQ es fm jS=some d->∃u,b9[fm*ch+jS]?=some u/\bQ w ω (fun q o=>o=.tok t ((i,j)::(fm,jS)::q)) d u)->
       (∀x u,news[x]?=some u->b9[es.length*ch+x]?=some u)->(∀e∈es,e.length=ch)->
       Rel w0 ⟨(st.map (gx t i j ch es kT esT)).env.set d (.one (.aO t i j ch (es++bL) .kL)),(st.map (gx t i j ch es kT esT)).boxes⟩ (a.put (some d) r) w1:=by
      intro w1 b9 r kN j5 fT F9 fS dN hold BO uq;subst F9
      let a7:Own:=fun c=>if c=w.heap.size then .tok t [(i,j)] else ω c
      have c7:∀c,c<w.heap.size->a7 c=ω c:=fun c al=>by simp only[a7];rw[bG (by omega)]
      have mQ:a7 w.heap.size=.tok t [(i,j)]:=by simp[a7]
      refine fin w1 a7 _ (fun c al _=>j5.block c al) c7 (fun c id al=>?_) (aU.below.next j5) (fun b aw=>?_) (aH.frame fun c q al aK=>⟨by rw[c7 c al];exact aK,j5.block c al⟩) ?_
      ·simp only[a7];split
       ·simp
       exact FB c id al
      ·by_cases vU:b=w.heap.size
       ·subst vU;exact⟨.inl aU.below.size,b9,e,fT⟩
       simp only[a7]at aw;rw[bG vU]at aw;obtain⟨ax,jx,jJ,aJ⟩:=aU.owned b aw;exact⟨ax,jx,jJ,(j5.block b (aU.owned.lt aw)).trans aJ⟩
      have eW:∀x jS d,cQ (es++bL) x jS=some d->∃u,b9[x*ch+jS]?=some u/\bQ w1 a7 (fun q o=>o=.tok t ((i,j)::(x,jS)::q)) d u:=by
       intro x jS d aG;rw[y8]at aG;split at aG
       ·obtain⟨u,h1,U⟩:=hold x jS d aG;exact⟨u,h1,U.frame fun c q al aK=>⟨by rw[c7 c al];exact aK,j5.block c al⟩⟩
       rename_i ak;obtain⟨u,h1,rfl,U⟩:=BJ _ _ _ aG;refine⟨u,?_,.v _ _ U⟩;rw[<-BO _ u h1]
       congr 1
       have:x=es.length+(x-es.length):=by omega
       rw[this,gB];simp only[Nat.add_sub_cancel_left];omega
      have hlen:(es++bL).length=es.length+bL.length:=kH;have o7:∀e∈es++bL,e.length=ch:=by
       intro e' he;rcases mo.1 he with h | h
       ·exact uq e' h
       exact lm.rows e' h
      have:=bQ.row (w:=w1) (ω:=a7) (fun q o=>o=.tok t ((i,j)::q)) ch (es++bL) w.heap.size 0 kN b9 e (0,0) (fun x j=>b9.getD (x*ch+j) undef) fT mQ (by omega) (by omega) o7
       (fun x j d aG=>by obtain⟨u,h1,_⟩:=eW x j d aG;rw[dF,h1];simp[er,h1])
       (fun x j d aG=>by obtain⟨u,h1,U⟩:=eW x j d aG;have:b9.getD (x*ch+j) undef=u:=(by simp[er,h1]);rw[this];exact U)
      rw[hlen]at this;exact this
     subst wc;have rl:=aH;cases aH with
     | nil _ _ a0=>
      simp only[dR,dF]at gG gH;have e5:(Builtin.append_ #[hb,hb] ty #[.slice a0 0 0,.slice (some ⟨a',k6,none⟩) bL.length jo]).run P w=
        .ok (.slice (some ⟨w.heap.size,0,none⟩) bL.length (grownCap w bL.length 0 e)) (w.drew.alloc (.cells (news.toArray++Builtin.zeroCells z.cells (grownCap w bL.length 0 e-bL.length)) e)):=by
       cases a0 with
       | none=>exact run_append_nil (P:=P) w hb ty e gJ z bU j8 bl ⟨a',k6,none⟩ bL.length jo news lm.len oZ rh (by omega) (by omega)
       | some cc=>
        have:=run_append_grow (P:=P) w hb ty e gJ z bU j8 bl cc 0 0 [] (by simp) (fun j v bz=>by simp at bz) ⟨a',k6,none⟩ bL.length jo news lm.len oZ (by omega) (by omega) (growslice_fits (by omega) (by simpa using gG));simpa using this
      have nV:=grownCap_ge w bL.length 0 e;exact⟨_,_,e5,grown _ (news.toArray++Builtin.zeroCells z.cells (grownCap w bL.length 0 e-bL.length)) (.slice (some ⟨w.heap.size,0,none⟩) bL.length (grownCap w bL.length 0 e)) (grownCap w bL.length 0 e)
       (((fP.refl _ _).drew).alloc (ga _) _) (l8 _ _) (by simp) (by simpa using nV) (by
        simp only[sb,nB,size_zeroCells,lm.len,n1,<-gB];exact gW _ (by omega))
       (fun fm j d aG=>by simp[cQ]at aG) (fun x u ak=>by
        simp only[dR,Nat.zero_mul,dF];rw[iD,bM (by have:=(fy.1 ak).1;simpa using this)];simpa using ak) (fun e he=>by cases he)⟩
     | row R k es b off cap arr hN cL us aw dG al ai gu hu aG=>
      have j4:ω b=.tok t [(i,j)]:=dG;obtain⟨um,sj,tA,gZ⟩:=aU.owned b (by rw[j4];simp);rw[aw]at gZ;simp only[aS,Obj.cells.injEq]at gZ;obtain⟨rfl,rfl,rfl⟩:=gZ;have ud:b<w.heap.size:=(iE.1 aw).1;by_cases o6:es.length+bL.length<=cap
      ·have hmul:(es.length+bL.length)*gJ.size<=cap*gJ.size:=gW _ o6;rw[gB]at hmul;have M':=lm.len;have dX:off+es.length*gJ.size+news.length<=arr.size:=by omega
       have e5:=HY (P:=P) (ty:=ty) bU j8 w b off es.length cap arr hN aw ⟨a',k6,none⟩ bL.length jo news lm.len oZ lm.one o6 dX;generalize nS:(arr.toList.take (off+es.length*gJ.size)++news++arr.toList.drop (off+es.length*gJ.size+news.length)).toArray=b9 at e5;have hW:∀x:Nat,b9[x]?=if off+es.length*gJ.size<=x/\x<off+es.length*gJ.size+news.length then news[x-(off+es.length*gJ.size)]? else arr[x]?:=by
        intro x;rw[<-nS,nA,y6 (by simpa using dX)];simp
       have we:b9.size=arr.size:=by rw[<-nS];simp;omega
       have j7:=setRow_heap w b arr b9 hN (0,0) aw;have jf:∀c,c<w.heap.size->ω c≠.tok t [(i,j)]->(w.setRow b b9).heap[c]?=w.heap[c]?:=fun c _ al=>setRow_other w b c b9 fun e=>al (by rw[e];exact j4)
       have l1:∀fZ f' d u,bQ w ω (fun q o=>o=.tok t ((i,j)::(fZ,f')::q)) d u->bQ (w.setRow b b9) ω (fun q o=>o=.tok t ((i,j)::(fZ,f')::q)) d u:=by
        intro fZ f' d u oT;refine oT.frame fun c q al ez=>⟨ez,jf c al fun e=>?_⟩
        rw[e]at ez;simp at ez
       refine⟨_,_,e5,fin (w.setRow b b9) ω _ jf (fun _ _=>rfl) FB (aU.below.setRow um b9) (fun c ig=>?_) (bQ.TC rl aw j7 we (fun x ak=>by rw[hW,bG (by omega)]) (fun o e aZ=>by rw[<-e];exact aZ) (fun c p q al aK=>⟨aK,jf c al fun e=>by rw[e]at aK;simp at aK⟩)) ?_⟩
       ·obtain⟨ax,jx,jJ,aJ⟩:=aU.owned c ig;by_cases yb:c=b
        ·subst yb;exact⟨ax,b9,hN,j7⟩
        exact⟨ax,jx,jJ,(setRow_other w b c b9 yb).trans aJ⟩
       have eW:∀x jS d,cQ (es++bL) x jS=some d->∃u,b9[off+x*gJ.size+jS]?=some u/\bQ (w.setRow b b9) ω (fun q o=>o=.tok t ((i,j)::(x,jS)::q)) d u:=by
        intro x jS d dK;rw[y8]at dK;split at dK
        ·rename_i ak;have yj:=(rK gu dK).2;refine⟨us x jS,?_,l1 x jS d _ (aG x jS d dK)⟩;have:(x+1)*gJ.size<=es.length*gJ.size:=gW _ ak;rw[gB]at this;rw[hW,bG (by omega),hu x jS d dK]
        rename_i ak;obtain⟨u,h1,rfl,U⟩:=BJ _ _ _ dK;have XL:=(fy.1 h1).1;have wg:x*gJ.size=es.length*gJ.size+(x-es.length)*gJ.size:=by rw[<-gB];congr 1;omega
        refine⟨u,?_,.v _ _ U⟩;rw[hW,bM (by omega),<-h1]
        congr 1
        omega
       have hlen:(es++bL).length=es.length+bL.length:=kH;have o7:∀e∈es++bL,e.length=gJ.size:=by
        intro e' he;rcases mo.1 he with h | h
        ·exact gu e' h
        exact lm.rows e' h
       have:=bQ.row (w:=w.setRow b b9) (ω:=ω) (fun q o=>o=.tok t ((i,j)::q)) gJ.size (es++bL) b off cap b9 hN (0,0) (fun x j=>b9.getD (off+x*gJ.size+j) undef) j7 j4 (by omega) (by omega) o7
        (fun x j d aG=>by obtain⟨u,h1,_⟩:=eW x j d aG;rw[h1];simp[er,h1])
        (fun x j d aG=>by obtain⟨u,h1,U⟩:=eW x j d aG;have:b9.getD (off+x*gJ.size+j) undef=u:=(by simp[er,h1]);rw[this];exact U)
       rw[hlen]at this;exact this
      have hmul:es.length*gJ.size<=cap*gJ.size:=gW _ al;have p6:((arr.toList.drop off).take (es.length*gJ.size)).length=es.length*gJ.size:=by simp;omega
      have e5:=run_append_grow (P:=P) w hb ty e gJ z bU j8 bl ⟨b,off,none⟩ es.length cap ((arr.toList.drop off).take (es.length*gJ.size)) p6 (fun j v bz=>by
       rw[pr,cell_of_row w b (off+j) arr hN (0,0) aw];rw[jX]at bz;split at bz
       ·rw[k7]at bz;simpa using bz
       cases bz) ⟨a',k6,none⟩ bL.length jo news lm.len oZ (by omega) (by omega) (growslice_fits (by omega) gG)
      have nV:=grownCap_ge w (es.length+bL.length) cap e;exact⟨_,_,e5,grown _ (((arr.toList.drop off).take (es.length*gJ.size)).toArray++news.toArray++Builtin.zeroCells z.cells (grownCap w (es.length+bL.length) cap e-(es.length+bL.length))) _ (grownCap w (es.length+bL.length) cap e)
       (((fP.refl _ _).drew).alloc (ga _) _) (l8 _ _) rfl nV (by
        simp only[sb,nB,size_zeroCells,lm.len,n1,p6,<-gB];exact gW _ (by omega))
       (fun fm j d eb=>by
        obtain⟨vZ,dV⟩:=rK gu eb;have:(fm+1)*gJ.size<=es.length*gJ.size:=gW _ vZ;rw[gB]at this;refine⟨us fm j,?_,aG fm j d eb⟩;rw[iD,bM (by simp only[sb,nB,p6];omega),iD,bM (by simp only[nB,p6];omega)];rw[nA,jX,bM (by omega),k7,<-hu fm j d eb];simp only[lI]
        congr 1
        omega)
       (fun x u ak=>by
        have fA:=(fy.1 ak).1;rw[iD,bM (by simp only[sb,nB,p6];omega),iD,bG (by simp only[nB,p6];omega)];simp only[nB,p6,nA];rw[<-ak]
        congr 1
        omega) gu⟩
    cases h
   cases h
  cases h
 cases h
theorem cr.Vy{P:Program}{w0:ee}{st bn:aD}{a:Act}{w:World}{ω:Own}{τ:Nat->Nat×Value}{d:Nat}{hb ty:TypeId}{t j k:Nat}{es:List (List D)}{x y:Operand}{ans b':List b4}{obs:List Prop}
  (aU:cr w0 st a w ω τ) (hp:Sat w ω τ (.aO t i j k es .here) (a.eval x)) (h:IQ P st d hb t i j k es y ans=some (bn,b',obs)) (aZ:cA obs):
  ∃z aM,(Builtin.append_ #[hb,hb] ty #[a.eval x,a.eval y]).run P w=.ok z aM/\Rel w0 bn (a.put (some d) z) aM:=by
 unfold IQ at h;split at h
 ·rename_i e ch kT esT ib eT he Xp;split at h
  ·rename_i inf bL tS wm hi hY;split at h
   ·rename_i z bl;split at h
    ·rename_i al;simp only[aS,bq]at h;obtain⟨rfl,rfl,rfl⟩:=h;obtain⟨gG,gH,vV,FH,F5⟩:=aZ;obtain⟨nX,Xf⟩:=F5.append;refine aU.si (p:=.one (.aO t i j k (es++bL) .kL)) (ans:=.el ib::eT) (b':=tS) (esT:=esT) (kT:=kT) hp ?_ (obs:=((es.length+bL.length)*inf.bytes<=140737488355328)::(es.length+bL.length<=9223372036854775807)::(esT[i]?=some ib)::(ib[j]?=some (.J k es))::wm) ⟨gG,gH,vV,FH,Xf⟩ (aU.root Xp) (Ck nX);unfold Sx.si;simp only[he,hi,hY,bl];rw[bM al]
    cases h
   cases h
  cases h
 cases h
