import Derived.Test.YtdchjefneblpgaaGreatR11
set_option linter.unusedVariables false
set_option linter.unusedSimpArgs false
namespace Go.Sx
open Go.RowKit
def DW(P:Program)(st:aE)(d:Nat)(elem:TypeId)(r:List b4):Stepped:=
 match P.info? elem with
 | some i=>match i.zero with
  | some z=>if d<c5 then some (⟨(st.jt d []).env.set d (.one (.fk d (z.cells.toList.map .v))),(st.jt d []).boxes⟩,r,[]) else none
  | none=>none
 | none=>none
variable{w0:ev}{st bn:aE}{a:Act}{w:World}{ω:Own}{τ:Nat->Nat×Value}{d:Nat}{ans ch:List b4}{obs:List Prop}
theorem cx.Wf{P:Program}{elem:TypeId}(aV:cx w0 st a w ω τ)
  (h:DW P st d elem ans=some (bn,ch,obs)):
  ∃z aG,(Instr.alloc elem true (.tuple #[])).run P w=.ok z aG/\Rel w0 bn (a.put (some d) z) aG:=by
 unfold DW at h;split at h
 ·rename_i i hi;split at h
  ·rename_i z aR;split at h
   ·rename_i ax;simp only[aQ,bw]at h;obtain⟨rfl,_,_⟩:=h;have h1:=aV.jt d ax [] (k:=0) (cap:=0) (es:=[]) (arr:=z.cells) (ty:=elem) ((gA.refl _ _).alloc (dm _) (.cells z.cells elem)) (nJ _ _) (dm _) (by simp) (by simp)
     (by intro i j o4 ad;simp[cX]at ad)
    refine⟨.pointer (some ⟨w.heap.size,0,none⟩),w.alloc (.cells z.cells elem),by simp[Instr.alloc,zeroValue,typeInfo,hi,aR,newVar,newRow],_,_,h1.1.put (p:=.one (.fk d (z.cells.toList.map .v))) ?_⟩;refine⟨w.heap.size,elem,z.cells,rfl,by simp[pr],nJ _ _,by simp,fun j c ad=>?_⟩;rw[c9,bX]at ad;obtain⟨u,hu,rfl⟩:=ad;exact⟨u,by simpa using hu,rfl⟩
   cases h
  cases h
 cases h
def fi(t:Nat):Tag->Option Tag
 | .free=>some .free
 | .own s=>if s=t then none else some (.own s)
 | .ro s=>if s=t then none else some (.ro s)
variable{o:cS}
theorem DX{t:Nat}{g ec:Tag}{q:List (Nat×Nat)}(h:fi t g=some ec)(ar:g.R q o):ec=g/\∀dh,o≠.tok t dh:=by
 cases g with
 | free=>simp only[fi,aQ]at h;subst h;simp only[Tag.R]at ar;subst ar;exact⟨rfl,fun dh e=>by cases e⟩
 | own s=>
  simp only[fi]at h;split at h
  ·cases h
  rename_i ae;simp only[aQ]at h;subst h;simp only[Tag.R]at ar;subst ar;exact⟨rfl,fun dh e=>by simp only[cS.tok.injEq]at e;exact ae e.1⟩
 | ro s=>
  simp only[fi]at h;split at h
  ·cases h
  rename_i ae;simp only[aQ]at h;subst h;simp only[Tag.R]at ar;refine⟨rfl,fun dh e=>?_⟩;subst e;rcases ar with ar | ⟨k1,ar⟩
  ·cases ar
  simp only[cS.tok.injEq]at ar;exact ae ar.1.symm
variable{s:Nat}
theorem H9{x:Value}(this:a.tmps[s]?=some x):a.put (some s) x=a:=by
 simp only[Act.put];have:a.tmps.setIfInBounds s x=a.tmps:=by
  apply Array.ext
  ·simp
  intro i h1 U;rw[Array.getElem_setIfInBounds];split
  ·rename_i hi;subst hi;rw[gN U]at this;exact (ei this).symm
  rfl
 rw[this]
def aC.mP:aC->eS
 | .v x=>.v x
 | .bg c=>.v (.bool c)
 | .J t k es=>.J t k es
 | _=>.cc
def HT(p:aB):Option (List eS):=p.leaves.map (·.map aC.mP)
theorem aC.Oq{l:aC}{y:Value}(h:Sat w ω τ l y):qO w ω τ l.mP y:=by
 cases l<;>first | exact h | exact trivial
def eS.leaf:eS->aC
 | .cc=>.cc
 | .v x=>.v x
 | .J t k es=>.J t k es
theorem eS.dw{τ:Nat->Nat×Value}{c:eS}{y:Value}(h:qO w ω τ c y):Sat w ω τ c.leaf y:=by
 cases c<;>exact h
def DY(P:Program)(st:aE)(ty:TypeId)(s:Nat)(q:aB)(ans:List b4):Stepped:=
 match (st.env.getD s .cc).leaf,HT q,P.info? ty with
 | some (.fk t vs),some cs,some i=>
  if cs.length=i.size/\cs.length<=vs.length then
   let st2:=st.map (aC.cm (fi t) fun _=>true)
   some (⟨st2.env.set s (.one (.fk t ((cs++vs.drop cs.length).map (eS.cm (fi t))))),st2.boxes⟩,ans,[])
  else none
 | _,_,_=>none
theorem cx.aqw{P:Program}{ty:TypeId}{q:aB}{v:Value}
  (aV:cx w0 st a w ω τ) (av:cM (Sat w ω τ) q v) (h:DY P st ty s q ans=some (bn,ch,obs)):
  ∃aG,(Instr.storeAt ty (a.eval (.tmp s)) v).run P w=.ok () aG/\Rel w0 bn a aG:=by
 unfold DY at h;split at h
 ·rename_i t vs cs i e1 e2 b2;split at h
  ·rename_i ad;obtain⟨c1,c2⟩:=ad;simp only[aQ,bw]at h;obtain⟨rfl,_,_⟩:=h;unfold HT at e2;rw[bX]at e2;obtain⟨ls,e2,rfl⟩:=e2;obtain⟨vC,lp⟩:=aB.xW e2 av;have di:v.cells.size=ls.length:=vC.1;rw[bp]at c1 c2;have gE:st.env[s]?=some (.one (.fk t vs)):=by
    rw[iw]at e1;cases e:st.env[s]? with
    | none=>rw[e]at e1;simp[aB.leaf]at e1
    | some p=>
     rw[e]at e1;simp only[hl]at e1;cases p with
     | fM as=>cases e1
     | aD x=>
      cases x with
      | agg ls=>cases e1
      | one l=>simp only[aB.leaf,aQ]at e1;rw[e1]
   obtain⟨y,a1,eB⟩:=aV.env s _ gE;obtain⟨b,hM,arr,rfl,ah,xF,N5,oo⟩:=eB;have q4:a.eval (.tmp s)=ptrTo b:=by simp[Act.eval,ea,a1]
   have ew:=run_storeCells_at P b 0 hM v.cells.toList 0 arr w xF (by simp;omega) lp;obtain⟨b3,nx⟩:∃b3,b3=(arr.toList.take (0+0)++v.cells.toList++arr.toList.drop (0+0+v.cells.toList.length)).toArray:=⟨_,rfl⟩
   rw[<-nx]at ew;have Na:b3=(v.cells.toList++arr.toList.drop v.cells.size).toArray:=by rw[nx];simp
   refine⟨w.setRow b b3,?_,?_⟩
   ·rw[q4];simp only[ptrTo,Instr.storeAt,Instr.sureAddr,Sem.run_bind,Sem.run_pure,Result.andThen_ok,storeVar,sizeOf,typeInfo,run_program,b2];rw[aX (by simp;omega)];exact ew
   have jy:=setRow_heap w b arr b3 hM (0,0) xF;have bk:lQ w ω τ (w.setRow b b3) ω τ (fi t) (fun _=>true):=by
    refine⟨?_,?_,fun id c _ ad=>ad,rfl,fun _ _=>rfl⟩
    ·intro g ec c q ao _ av;obtain⟨rfl,tP⟩:=DX ao av;exact⟨av,setRow_other w b c _ fun e=>tP [] (by rw[e];exact ah)⟩
    intro g ec y ao a1;cases g with
    | free=>simp only[fi,aQ]at ao;subst ao;trivial
    | own x=>
     simp only[fi]at ao;split at ao
     ·cases ao
     simp only[aQ]at ao;subst ao;exact a1
    | ro x=>
     simp only[fi]at ao;split at ao
     ·cases ao
     simp only[aQ]at ao;subst ao;trivial
   have h1:cx w0 (st.map (aC.cm (fi t) fun _=>true)) a (w.setRow b b3) ω τ:=by
    refine aV.cD _ bk.sat (aV.below.setRow (aV.owned b (by rw[ah];simp)).1 _) ?_ (fun id c ad=>⟨ad,setRow_other w b c _ fun e=>by rw[e,ah]at ad;cases ad⟩) (fun id c ad=>ad) (fun _ _=>rfl);intro c ad;obtain⟨h1,hB,hL,U⟩:=aV.owned c ad;by_cases e:c=b
    ·subst e;exact⟨h1,_,hM,jy⟩
    exact⟨h1,hB,hL,(setRow_other w b c _ e).trans U⟩
   have Nd:b3.size=(ls.map aC.mP++vs.drop (ls.map aC.mP).length).length/\∀(j:Nat) (c:eS),(ls.map aC.mP++vs.drop (ls.map aC.mP).length)[j]?=some c->∃u,b3[j]?=some u/\qO w ω τ c u:=by
    refine⟨by rw[Na];simp;omega,fun j c ad=>?_⟩;rw[Na,nf];by_cases aM:j<ls.length
    ·rw[xf (by simpa using aM),c9,bX]at ad;obtain⟨l,af,rfl⟩:=ad;obtain⟨u,fJ,eG⟩:=vC.2 j l af;exact⟨u,by rw[xf (by simp;omega)];simpa using fJ,aC.Oq eG⟩
    rw[rY (by simpa using aM),bp,gV]at ad;obtain⟨u,fJ,eG⟩:=oo _ c ad;refine⟨u,?_,eG⟩;rw[rY (by simp;omega),gV,jg,<-fJ]
    congr 1
    simp only[u1];omega
   have He:=DE bk.mP Nd.1 Nd.2;have U:=h1.put (d:=s) (p:=.one (.fk t ((ls.map aC.mP++vs.drop (ls.map aC.mP).length).map (eS.cm (fi t))))) (v:=ptrTo b) ⟨b,hM,b3,rfl,ah,jy,He⟩;rw[H9 a1]at U;exact⟨ω,τ,U⟩
  cases h
 cases h
def HV(st:aE)(d:Nat):Option aE:=
 match st.env.getD d .cc with
 | .aD (.one (.fk t vs))=>
  if d<c5 then some ⟨(st.env.map (aB.map (aC.cm (fi t) (jF d)))).set d (.one (.ptr d 0)),(d,vs.map fun c=>aC.cm (fi t) (jF d) c.leaf)::(pC d st.boxes).map fun x=>(x.1,x.2.map (aC.cm (fi t) (jF d)))⟩ else none
 | _=>none
theorem ajv(h:Rel w0 st a w)(aL:HV st d=some bn):Rel w0 bn a w:=by
 obtain⟨ω,τ,h⟩:=h;unfold HV at aL;split at aL
 ·rename_i t vs he;split at aL
  case isFalse=>cases aL
  rename_i ss;simp only[aQ]at aL;subst aL;have gE:st.env[d]?=some (.one (.fk t vs)):=by
   rw[iw]at he;cases e:st.env[d]? with
   | none=>rw[e]at he;cases he
   | some p=>rw[e]at he;simp only[hl]at he;rw[he]
  obtain⟨v,sF,sG⟩:=h.env d _ gE;obtain⟨b,ty,arr,rfl,ah,xF,N5,oo⟩:=sG
  let aY:Own:=fun c=>if c=b then .box d else match ω c with | .box i=>if i=d then .bx else .box i | o=>o
  have kV:aY b=.box d:=by simp[aY]
  have ha:∀c,c≠b->aY c=(match ω c with | .box i=>if i=d then .bx else .box i | o=>o):=by
   intro c ad;simp only[aY];rw[aX ad]
  have bk:lQ w ω τ w aY τ (fi t) (jF d):=by
   refine⟨?_,?_,?_,rfl,fun _ _=>rfl⟩
   ·intro g ec c q ao _ av;obtain⟨rfl,tP⟩:=DX ao av;have ft:c≠b:=fun e=>tP [] (by rw[e];exact ah)
    refine⟨?_,rfl⟩;rw[ha c ft];cases ec with
    | free=>simp only[Tag.R]at av ⊢;rw[av]
    | own s=>simp only[Tag.R]at av ⊢;rw[av]
    | ro s=>
     simp only[Tag.R]at av ⊢;rcases av with av | ⟨dh,av⟩
     ·rw[av];exact .inl rfl
     rw[av];exact .inr ⟨dh,rfl⟩
   ·intro g ec y ao a1;cases g with
    | free=>simp only[fi,aQ]at ao;subst ao;trivial
    | own s=>
     simp only[fi]at ao;split at ao
     ·cases ao
     simp only[aQ]at ao;subst ao;exact a1
    | ro s=>
     simp only[fi]at ao;split at ao
     ·cases ao
     simp only[aQ]at ao;subst ao;trivial
   intro i c hp ad;have ft:c≠b:=fun e=>by rw[e,ah]at ad;cases ad
   rw[ha c ft,ad];simp only[jF,ci]at hp;simp[hp]
  have p6:n4 w0 w aY:=by
   intro c ad;by_cases e:c=b
   ·subst e;exact h.owned c (by rw[ah];simp)
   rw[ha c e]at ad;exact h.owned c (fun e'=>by rw[e']at ad;exact ad rfl)
  have key:=h.Gj (bs:=(d,vs.map fun c=>aC.cm (fi t) (jF d) c.leaf)::(pC d st.boxes).map fun x=>(x.1,x.2.map (aC.cm (fi t) (jF d)))) bk h.below p6 ?_ (fun i c hi ad=>by
   by_cases aL:c=b
   ·subst aL;rw[kV]at ad;simp only[cS.box.injEq]at ad;omega
   rw[ha c aL]at ad;cases e:ω c with
   | bx=>simp[e]at ad
   | tok t q=>simp[e]at ad
   | box j=>
    simp only[e]at ad;split at ad
    ·cases ad
    exact ad)
  ·have:=key.put (d:=d) (p:=.one (.ptr d 0)) (v:=ptrTo b) ⟨b,kV,rfl⟩;rw[H9 sF]at this;exact⟨aY,τ,this⟩
  intro i e6 af;simp only[dj]at af;split at af
  ·rename_i hi;subst hi;have e:=ei af;subst e;refine⟨b,arr,ty,kV,?_,xF,by simpa using N5,fun j l aM=>?_⟩
   ·intro cT c7;by_cases aL:cT=b
    ·exact aL
    rw[ha cT aL]at c7;cases e:ω cT with
    | bx=>simp[e]at c7
    | tok t q=>simp[e]at c7
    | box j=>
     simp only[e]at c7;split at c7
     ·cases c7
     rename_i b5;simp only[cS.box.injEq]at c7;exact absurd c7 b5
   rw[c9,bX]at aM;obtain⟨c,ad,rfl⟩:=aM;obtain⟨u,fJ,eG⟩:=oo j c ad;exact⟨u,fJ,bk.sat _ _ (eS.dw eG)⟩
  rename_i hi;rw[s8,bX]at af;obtain⟨jr,bm,rfl⟩:=af;have b5:i≠d:=fun e=>hi e.symm
  rw[yD b5]at bm;obtain⟨c,b3,qH,ad,hu,bI,eB⟩:=h.boxes i jr bm;refine⟨c,b3,qH,bk.box i c (by simp[jF,b5]) ad,?_,bI,eB.map bk.sat⟩;intro cT c7;by_cases aL:cT=b
  ·subst aL;rw[kV]at c7;simp only[cS.box.injEq]at c7;exact absurd c7.symm b5
  rw[ha cT aL]at c7;refine hu cT ?_;cases e:ω cT with
  | bx=>simp[e]at c7
  | tok t q=>simp[e]at c7
  | box j=>
   simp only[e]at c7;split at c7
   ·cases c7
   exact c7
 cases aL
def F8(st:aE)(d:Nat):Option aE:=
 match st.env.getD d .cc,dj d st.boxes with
 | .aD (.one (.ptr dr 0)),some ls=>
  if dr=d/\d<c5 then some ⟨(st.env.map (aB.map (aC.cm (fi d) (jF d)))).set d (.one (.fk d ((ls.map aC.mP).map (eS.cm (fi d))))),(pC d st.boxes).map fun x=>(x.1,x.2.map (aC.cm (fi d) (jF d)))⟩ else none
 | _,_=>none
theorem ajw(h:Rel w0 st a w)(aL:F8 st d=some bn):Rel w0 bn a w:=by
 obtain⟨ω,τ,h⟩:=h;unfold F8 at aL;split at aL
 ·rename_i dr ls he cq;split at aL
  case isFalse=>cases aL
  rename_i ss;obtain⟨rfl,ss⟩:=ss;simp only[aQ]at aL;subst aL;have gE:st.env[dr]?=some (.one (.ptr dr 0)):=by
   rw[iw]at he;cases e:st.env[dr]? with
   | none=>rw[e]at he;cases he
   | some p=>rw[e]at he;simp only[hl]at he;rw[he]
  obtain⟨v,sF,sG⟩:=h.env dr _ gE;obtain⟨cf,hS,rfl⟩:=sG;obtain⟨b,arr,ty,ah,W7,xF,vC⟩:=h.boxes dr ls cq;have sm:cf=b:=W7 cf hS;subst sm
  let aY:Own:=fun c=>if c=cf then .tok dr [] else match ω c with | .tok s q=>if s=dr then .bx else .tok s q | o=>o
  have kV:aY cf=.tok dr []:=by simp[aY]
  have ha:∀c,c≠cf->aY c=(match ω c with | .tok s q=>if s=dr then .bx else .tok s q | o=>o):=by
   intro c ad;simp only[aY];rw[aX ad]
  have bk:lQ w ω τ w aY τ (fi dr) (jF dr):=by
   refine⟨?_,?_,?_,rfl,fun _ _=>rfl⟩
   ·intro g ec c q ao _ av;obtain⟨rfl,tP⟩:=DX ao av;have ft:c≠cf:=fun e=>by
     rw[e,ah]at av;cases ec with
     | free=>cases av
     | own s=>cases av
     | ro s=>
      rcases av with av | ⟨dh,av⟩
      ·cases av
      cases av
    refine⟨?_,rfl⟩;rw[ha c ft];cases ec with
    | free=>simp only[Tag.R]at av ⊢;rw[av]
    | own s=>
     simp only[Tag.R]at av ⊢;rw[av];simp only;rw[aX];rintro rfl;exact tP _ av
    | ro s=>
     simp only[Tag.R]at av ⊢;rcases av with av | ⟨dh,av⟩
     ·rw[av];exact .inl rfl
     rw[av];simp only;rw[aX]
     ·exact .inr ⟨dh,rfl⟩
     rintro rfl;exact tP _ av
   ·intro g ec y ao a1;cases g with
    | free=>simp only[fi,aQ]at ao;subst ao;trivial
    | own s=>
     simp only[fi]at ao;split at ao
     ·cases ao
     simp only[aQ]at ao;subst ao;exact a1
    | ro s=>
     simp only[fi]at ao;split at ao
     ·cases ao
     simp only[aQ]at ao;subst ao;trivial
   intro i c hp ad;simp only[jF,ci]at hp;have ft:c≠cf:=fun e=>by rw[e,ah]at ad;simp only[cS.box.injEq]at ad;exact hp ad.symm
   rw[ha c ft,ad]
  have p6:n4 w0 w aY:=by
   intro c ad;by_cases e:c=cf
   ·subst e;exact h.owned c (by rw[ah];simp)
   rw[ha c e]at ad;exact h.owned c (fun e'=>by rw[e']at ad;exact ad rfl)
  have Nb:∀i c,aY c=.box i->ω c=.box i/\c≠cf:=by
   intro i c ad;by_cases aL:c=cf
   ·subst aL;rw[kV]at ad;cases ad
   rw[ha c aL]at ad;cases e:ω c with
   | bx=>simp[e]at ad
   | box j=>simp only[e]at ad;exact⟨ad,aL⟩
   | tok t q=>
    simp only[e]at ad;split at ad<;>cases ad
  have key:=h.Gj (bs:=(pC dr st.boxes).map fun x=>(x.1,x.2.map (aC.cm (fi dr) (jF dr)))) bk h.below p6 ?_ (fun i c _ ad=>(Nb i c ad).1)
  ·have:=key.put (d:=dr) (p:=.one (.fk dr ((ls.map aC.mP).map (eS.cm (fi dr))))) (v:=ptrTo cf) ⟨cf,ty,arr,rfl,kV,xF,DE bk.mP (by rw[vC.1];simp) (fun j c ad=>by
    rw[c9,bX]at ad;obtain⟨l,af,rfl⟩:=ad;obtain⟨u,fJ,eG⟩:=vC.2 j l af;exact⟨u,fJ,aC.Oq eG⟩)⟩
   rw[H9 (show a.tmps[dr]?=some (ptrTo cf) from sF)]at this;exact⟨aY,τ,this⟩
  intro i e6 af;rw[s8,bX]at af;obtain⟨jr,bm,rfl⟩:=af;have b5:i≠dr:=fun e=>by rw[e,IK]at bm;cases bm
  rw[yD b5]at bm;obtain⟨c,b3,qH,ad,hu,bI,eB⟩:=h.boxes i jr bm;exact⟨c,b3,qH,bk.box i c (by simp[jF,b5]) ad,fun cT c7=>hu cT (Nb i cT c7).1,bI,eB.map bk.sat⟩
 cases aL
def AH:List Nat->aE->Option aE
 | [],st=>some st
 | d::ds,st=>(F8 st d).bind (AH ds)
theorem O2:∀{ds:List Nat} {st bn:aE},Rel w0 st a w->AH ds st=some bn->Rel w0 bn a w
 | [],st,bn,h,aL=>by simp only[AH,aQ]at aL;subst aL;exact h
 | d::ds,st,bn,h,aL=>by
  simp only[AH,mj]at aL;obtain⟨st1,h1,U⟩:=aL;exact O2 (ajw h h1) U
def AI:List Nat->aE->Option aE
 | [],st=>some st
 | d::ds,st=>(HV st d).bind (AI ds)
theorem O3:∀{ds:List Nat} {st bn:aE},Rel w0 st a w->AI ds st=some bn->Rel w0 bn a w
 | [],st,bn,h,aL=>by simp only[AI,aQ]at aL;subst aL;exact h
 | d::ds,st,bn,h,aL=>by
  simp only[AI,mj]at aL;obtain⟨st1,h1,U⟩:=aL;exact O3 (ajv h h1) U
def kj(s n:Nat):Tag->Option Tag
 | .own x=>if x=s then some (.ro n) else if x=n then none else some (.own x)
 | .ro x=>if x=s then some (.ro n) else if x=n then none else some (.ro x)
 | .free=>some .free
def jG(s n l:Nat):cS->cS
 | .tok x q=>if x=s then (match q with | []=>.tok n [] | (i,j)::r=>if i<l then .bx else .tok n ((i-l,j)::r)) else if x=n then .bx else .tok x q
 | o=>o
variable{l n:Nat}
theorem H'(h:jG s n l o≠.bx):o≠.bx:=by rintro rfl;exact h rfl
theorem um{id:Nat}:jG s n l o=.box id<->o=.box id:=by
 cases o with
 | bx=>simp[jG]
 | box i=>simp[jG]
 | tok x q=>
  simp only[jG];split
  ·split
   ·simp
   ·split<;>simp
  ·split<;>simp
theorem O4{q:List (Nat×Nat)}:jG s n l (.tok s q)=.bx\/∃dh,jG s n l (.tok s q)=.tok n dh:=by
 simp only[jG,fO];split
 ·exact .inr ⟨_,rfl⟩
 split
 ·exact .inl rfl
 exact .inr ⟨_,rfl⟩
theorem Ia{k:Nat}{z:Value}(ih:n<c5):lQ w ω τ w (fun b=>jG s n l (ω b)) (gv τ n k z) (kj s n) (fun _=>true):=by
 refine⟨?_,?_,?_,rfl,fun t bt=>by simp only[gv];rw[aX (by omega)]⟩
 ·intro g ec b q ao _ av;refine⟨?_,rfl⟩;cases g with
  | free=>simp only[kj,aQ]at ao;subst ao;simp only[Tag.R]at av ⊢;rw[av];rfl
  | own x=>
   simp only[kj]at ao;simp only[Tag.R]at av;split at ao
   ·rename_i ae;simp only[aQ]at ao;subst ao;subst ae;simp only[Tag.R,av];exact O4
   rename_i ae;split at ao
   ·cases ao
   rename_i aL;simp only[aQ]at ao;subst ao;simp only[Tag.R,av,jG,aX ae,aX aL]
  | ro x=>
   simp only[kj]at ao;simp only[Tag.R]at av;split at ao
   ·rename_i ae;simp only[aQ]at ao;subst ao;subst ae;rcases av with av | ⟨dh,av⟩
    ·rw[av];exact .inl rfl
    rw[av];exact O4
   rename_i ae;split at ao
   ·cases ao
   rename_i aL;simp only[aQ]at ao;subst ao;rcases av with av | ⟨dh,av⟩
   ·rw[av];exact .inl rfl
   rw[av];simp only[jG,aX ae,aX aL];exact .inr ⟨dh,rfl⟩
 ·intro g ec y ao a1;cases g with
  | free=>simp only[kj,aQ]at ao;subst ao;trivial
  | own x=>
   simp only[kj]at ao;split at ao
   ·simp only[aQ]at ao;subst ao;trivial
   rename_i ae;split at ao
   ·cases ao
   rename_i aL;simp only[aQ]at ao;subst ao;simp only[Tag.dS,gv,aX aL]at a1 ⊢;exact a1
  | ro x=>
   simp only[kj]at ao;split at ao
   ·simp only[aQ]at ao;subst ao;trivial
   split at ao
   ·cases ao
   simp only[aQ]at ao;subst ao;trivial
 intro id b _ ah;exact um.2 ah
def oI(s d:Nat):Nat:=if s<c5 then s else d
def y5(P:Program)(st:aE)(d:Nat)(t:TypeId)(p:aB)(cV hi ja:Option Operand)(ans:List b4):Stepped:=
 match qq P t,p.leaf,ja with
 | some (_,k),some (.J (.own s) b8 es),none=>
  if k=b8/\oI s d<c5 then
   match l3 st cV,l3 st hi with
   | some l,some h=>
    let st2:=st.map (aC.cm (kj s (oI s d)) fun _=>true)
    some (⟨st2.env.set d (.one (.J (.own (oI s d)) k ((es.drop (l.getD 0).toNat).take ((h.getD es.length).toNat-(l.getD 0).toNat)))),st2.boxes⟩,ans,[0<=l.getD 0,l.getD 0<=h.getD es.length,h.getD es.length<=es.length])
   | _,_=>none
  else none
 | _,_,_=>none
theorem cx.y5{P:Program}{t:TypeId}{p:aB}{v:Value}{cV hi ja:Option Operand}
  (aV:cx w0 st a w ω τ) (hp:cM (Sat w ω τ) p v) (h:y5 P st d t p cV hi ja ans=some (bn,ch,obs)) (aN:cB obs):
  ∃z,(Instr.sliceAt t v (cV.map a.eval) (hi.map a.eval) (ja.map a.eval)).run P w=.ok z w/\Rel w0 bn (a.put (some d) z) w:=by
 unfold Go.Sx.y5 at h;split at h
 ·rename_i e k s b8 es e1 e2;split at h
  ·rename_i hk;obtain⟨rfl,ae⟩:=hk;split at h
   ·rename_i l bI b2 dB;simp only[aQ,bw]at h;obtain⟨rfl,_,rfl⟩:=h;obtain⟨hu,i,ka,aR⟩:=wK e1;obtain⟨ar,_⟩:=aB.dw e2 hp;obtain⟨cd,bY,cr,_⟩:=aN;have au:=A8 aV b2;have aH:=A8 aV dB;have kU:(cV.map a.eval=none/\l.getD 0=0)\/∃k,cV.map a.eval=some (.int k (l.getD 0)):=by
     rcases au with⟨h,rfl⟩ | ⟨k,n,h,rfl⟩
     ·exact .inl ⟨h,rfl⟩
     exact .inr ⟨k,h⟩
    have sw:(hi.map a.eval=none/\bI.getD es.length=es.length)\/∃k,hi.map a.eval=some (.int k (bI.getD es.length)):=by
     rcases aH with⟨h,rfl⟩ | ⟨k,n,h,rfl⟩
     ·exact .inl ⟨h,rfl⟩
     exact .inr ⟨k,h⟩
    have key:∀(L m:Nat) (z:Value),L<=m->bR w (fun b=>jG s (oI s d) L (ω b)) (Tag.own (oI s d)).R (.J k ((es.drop L).take (m-L))) z->
      Rel w0 ⟨(st.map (aC.cm (kj s (oI s d)) fun _=>true)).env.set d (.one (.J (.own (oI s d)) k ((es.drop L).take (m-L)))),(st.map (aC.cm (kj s (oI s d)) fun _=>true)).boxes⟩ (a.put (some d) z) w:=by
     intro L m z _ C8;have h1:cx w0 (st.map (aC.cm (kj s (oI s d)) fun _=>true)) a w (fun b=>jG s (oI s d) L (ω b)) (gv τ (oI s d) k z):=
      aV.cD _ (Ia (by omega)).sat aV.below (fun b ah=>aV.owned b (H' ah)) (fun id b ah=>⟨um.2 ah,rfl⟩) (fun id b ah=>um.1 ah)
       (fun t bt=>by simp only[gv];rw[aX (by omega)])
     exact⟨_,_,h1.put (p:=.one (.J (.own (oI s d)) k ((es.drop L).take (m-L)))) ⟨C8,by simp[Tag.dS,gv]⟩⟩
    cases ar with
    | nil _ _ a0=>
     simp only[b1] at*;have bE:l.getD 0=0:=by omega
     have Gb:bI.getD ((0:Nat):Int)=0:=by omega
     refine⟨.slice a0 0 0,?_,?_⟩
     ·simp only[Instr.sliceAt,Sem.run_bind,run_underlying hu,Result.andThen_ok,Instr.slice,Option.map_none];rw[A7 kU sw cd bY cr];have Gc:bI.getD 0=0:=by simpa using Gb
      simp[sizeOf,typeInfo,ka,bE,Gc]
     refine key _ _ _ (by omega) ?_;simp only[List.drop_nil,List.take_nil];exact .nil _ _ _
    | row R k es b off cap arr ty cO us ah dI ad di hk jD ax=>
     refine⟨sliced (some ⟨b,off,none⟩) (l.getD 0).toNat (bI.getD es.length).toNat cap k,?_,?_⟩
     ·simp only[Instr.sliceAt,Sem.run_bind,run_underlying hu,Result.andThen_ok,Instr.slice,Option.map_none];rw[A7 kU sw cd bY (by omega)];simp[sizeOf,typeInfo,ka,aR,sliced]
     refine key _ _ _ (by omega) ?_;have:=bR.sub (.row _ k es b off cap arr ty cO us ah dI ad di hk jD ax) (l:=(l.getD 0).toNat) (m:=(bI.getD es.length).toNat) (by omega) (by omega)
      (iz:=fun q o=>match q with | []=>o=.tok s [] | (i,j)::r=>o=.tok s ((i+(l.getD 0).toNat,j)::r)) (fun o h=>h) (fun i j q o X3 h=>by
       simp only[Tag.R]at h;simp only[Nat.sub_add_cancel X3];exact h)
     refine this.frame fun c q _ av=>⟨?_,rfl⟩
     simp only[Tag.R];cases q with
     | nil=>simp only at av;rw[av];simp[jG]
     | cons x r=>
      obtain⟨i,j⟩:=x;simp only at av;rw[av];have fv:¬(i+(l.getD 0).toNat<(l.getD 0).toNat):=by omega
      simp only[jG,fO,aX fv,Nat.add_sub_cancel]
   cases h
  cases h
 cases h
end Go.Sx
namespace Go.Sx
open Go.RowKit
def laid(arr:Array Value)(o:Nat)(cs:List Value):Array Value:=(arr.toList.take o++cs++arr.toList.drop (o+cs.length)).toArray
theorem uo{arr:Array Value}{o:Nat}{cs:List Value}(h:o+cs.length<=arr.size):(laid arr o cs).size=arr.size:=by
 simp[laid];omega
theorem nN{arr:Array Value}{o:Nat}{cs:List Value}(h:o+cs.length<=arr.size)(x:Nat):
  (laid arr o cs)[x]?=if o<=x/\x<o+cs.length then cs[x-o]? else arr[x]?:=by
 simp only[laid,nf,mo];have af:(arr.toList.take o).length=o:=by simp;omega
 split
 ·rename_i aa;rw[rY (by omega),xf (by omega),af]
 rename_i aa;by_cases h1:x<o
 ·rw[xf (by omega),gX,a6 h1,jg]
 rw[rY (by omega),rY (by omega),af,gV,jg]
 congr 1
 omega
theorem Dt{P:Program}(w:World)(dU bi ty elem:TypeId)(k b o CE Wt:Nat)(arr:Array Value)(tb:TypeId)(a:Addr)(BM U5:Nat)(cs:List Value)
  (hu:P.underlying dU=some (.slice elem)) (ae:(P.info? elem).map (·.size)=some k) (ah:w.heap[b]?=some (.cells arr tb (0,0))) (aL:cs.length=Nat.min BM CE*k)
  (iZ:∀j v,cs[j]?=some v->w.cell? (a.add j)=some v) (dD:o+cs.length<=arr.size) (h1:∀v∈cs,v.oneCell'=true):
  (Builtin.copy_ #[dU,bi] ty #[.slice (some ⟨b,o,none⟩) CE Wt,.slice (some a) BM U5]).run P w=.ok (goInt (Nat.min BM CE)) (w.setRow b (laid arr o cs)):=by
 have bl:=run_firstCells_some (P:=P) w k (Nat.min BM CE) a BM U5 cs aL iZ;have ew:=run_storeCells_at P b o tb cs 0 arr w ah (by simpa using dD) h1;simp only[mq]at ew;cases av:P.info? elem with
 | none=>simp[av]at ae
 | some i=>
  have hi:i.size=k:=by simpa[av]using ae
  subst hi;simp[Builtin.copy_,run_underlying hu,Builtin.lenOf,sizeOf,typeInfo,av,bl,ew,laid]
theorem ajx{P:Program}(w:World)(t e ty:TypeId)(z:Value)(bt:P.underlying t=some (.slice e))(bj:(zeroValue e).run P w=.ok z w)(b o n c:Nat)(arr:Array Value)(tb:TypeId)
  (ah:w.heap[b]?=some (.cells arr tb (0,0))) (dD:o+n*z.cells.size<=arr.size) (h1:∀v∈z.cells.toList,v.oneCell'=true):
  ∃zs:List Value,zs.length=n*z.cells.size/\(∀m,m<n*z.cells.size->zs[m]?=z.cells[m % z.cells.size]?)/\(Builtin.clear_ #[t] ty #[.slice (some ⟨b,o,none⟩) n c]).run P w=.ok (.tuple #[]) (if n=0 then w else w.setRow b (laid arr o zs)):=by
 refine⟨(Builtin.zeroCells z.cells n).toList,by simp[Builtin.zeroCells],fun m hm=>?_,?_⟩
 ·have q9:0<z.cells.size:=by
   rcases Nat.eq_zero_or_pos z.cells.size with h | h
   ·rw[h]at hm;simp at hm
   exact h
  simp only[Builtin.zeroCells,Array.toList_map,Array.toList_range,c9,List.getElem?_range hm,mn];rw[getElem!_pos z.cells _ (Nat.mod_lt _ q9),gN (Nat.mod_lt _ q9)]
 have lp:∀v∈(Builtin.zeroCells z.cells n).toList,v.oneCell'=true:=by
  intro v mK;simp only[Builtin.zeroCells,Array.toList_map,h',Array.toList_range,List.mem_range]at mK;obtain⟨i,hi,rfl⟩:=mK;have q9:0<z.cells.size:=by
   rcases Nat.eq_zero_or_pos z.cells.size with h | h
   ·rw[h]at hi;simp at hi
   exact h
  refine h1 _ ?_;rw[getElem!_pos z.cells _ (Nat.mod_lt _ q9)];simp
 have ew:=run_storeCells_at P b o tb (Builtin.zeroCells z.cells n).toList 0 arr w ah (by simpa[Builtin.zeroCells]using dD) lp;simp only[mq]at ew;cases n with
 | zero=>simp[Builtin.clear_,run_underlying bt]
 | succ n=>simp[Builtin.clear_,run_underlying bt,bj,ew,laid]
def yd(t k:Nat)(cp:List (List D)):aC->aC
 | .J (.own s) b8 es=>if s=t then .J (.own t) k cp else .J (.own s) b8 es
 | l=>aC.cm (fi t) (fun _=>true) l
def Du(P:Program)(st:aE)(d:Nat)(t:TypeId)(x:Operand)(cV:Option Operand)(gU:TypeId)(ans:List b4):Stepped:=
 match qq P t,(st.bk x).leaf with
 | some (e,k),some (.J (.own hh) b8 es)=>
  match P.info? e with
  | some i=>
   match i.zero,l3 st cV with
   | some z,some l=>
    if k=b8/\t=gU/\z.cells.size=k/\z.cells.toList.all (fun v=>v.oneCell')=true/\d<st.env.length then
     let st2:=st.map (yd hh k (es.take (l.getD 0).toNat++List.replicate (es.length-(l.getD 0).toNat) (z.cells.toList.map .v)))
     some (⟨st2.env.set d .cc,st2.boxes⟩,ans,[0<=l.getD 0,l.getD 0<es.length,Flat es])
    else none
   | _,_=>none
  | none=>none
 | _,_=>none
theorem cx.clear{P:Program}{w0:ev}{st bn:aE}{a:Act}{w:World}{ω:Own}{τ:Nat->Nat×Value}{d:Nat}{t gU:TypeId}{x:Operand}{cV:Option Operand}{ans ch:List b4}{obs:List Prop}
  (aV:cx w0 st a w ω τ) (h:Du P st d t x cV gU ans=some (bn,ch,obs)) (aN:cB obs):
  d<a.tmps.size/\∃y z aG,(Instr.sliceAt t (a.eval x) (cV.map a.eval) none none).run P w=.ok y w/\(∀ty,(Builtin.clear_ #[gU] ty #[y]).run P w=.ok z aG)/\Rel w0 bn (a.put (some d) y) aG:=by
 unfold Du at h;split at h
 ·rename_i e k hh b8 es he aa;split at h
  ·rename_i i hi;split at h
   ·rename_i z l aR NC;split at h
    ·rename_i ad;obtain⟨rfl,rfl,mM,Ae,su⟩:=ad;refine⟨by rw[aV.size];exact su,?_⟩;simp only[aQ,bw]at h;obtain⟨rfl,_,rfl⟩:=h;obtain⟨cd,bY,CY,_⟩:=aN;obtain⟨hu,i2,kc,di⟩:=wK he;obtain⟨ar,bI⟩:=aB.dw aa (aV.bk x);have au:=A8 aV NC;have kU:(cV.map a.eval=none/\l.getD 0=0)\/∃k,cV.map a.eval=some (.int k (l.getD 0)):=by
      rcases au with⟨h,rfl⟩ | ⟨k,n,h,rfl⟩
      ·exact .inl ⟨h,rfl⟩
      exact .inr ⟨k,h⟩
     generalize q4:a.eval x=Fs at ar bI;cases ar with
     | nil _ _ a0=>simp at bY;omega
     | row R k es b off cap arr ty cO us ah dI eY ae hk jD ax=>
      have ic:ω b=.tok hh []:=dI;obtain⟨jC,tv,uV,hS⟩:=aV.owned b (by rw[ic];simp);rw[ah]at hS;simp only[aQ,Obj.cells.injEq]at hS;obtain⟨rfl,rfl,rfl⟩:=hS;obtain⟨L,fv⟩:∃L,L=(l.getD 0).toNat:=⟨_,rfl⟩
      have art:L<es.length:=by omega
      rw[<-fv];have dD:off+L*k+(es.length-L)*z.cells.size<=arr.size:=by
       rw[mM,u4,<-fB,show L+(es.length-L)=es.length by omega];have:=gW k eY;omega
      have Y3:(zeroValue e).run P w=.ok z w:=by simp[zeroValue,typeInfo,hi,aR]
      obtain⟨zs,l0,N',Nf⟩:∃zs:List Value,zs.length=(es.length-L)*z.cells.size/\(∀m,m<(es.length-L)*z.cells.size->zs[m]?=z.cells[m % z.cells.size]?)/\
        ∀ty,(Builtin.clear_ #[t] ty #[.slice (some ⟨b,off+L*k,none⟩) (es.length-L) (cap-L)]).run P w=.ok (.tuple #[]) (if es.length-L=0 then w else w.setRow b (laid arr (off+L*k) zs)):=by
       obtain⟨zs,h1,U,au⟩:=ajx (P:=P) w t e 0 z hu Y3 b (off+L*k) (es.length-L) (cap-L) arr ty ah dD (fN.1 Ae);exact⟨zs,h1,U,fun qH=>au⟩
      rw[aX (by omega)]at Nf;rw[mM]at l0 N';have cU:off+L*k+zs.length<=arr.size:=by rw[l0,<-mM];exact mM▸dD
      refine⟨.slice (some ⟨b,off+L*k,none⟩) (es.length-L) (cap-L),_,_,?_,Nf,?_⟩
      ·simp only[Instr.sliceAt,Sem.run_bind,run_underlying hu,Result.andThen_ok,Instr.slice,Option.map_none];rw[A7 (h:=es.length) kU (.inl ⟨rfl,rfl⟩) cd (by omega) (by omega)];have b5:¬cap=L:=by omega
       simp[sizeOf,typeInfo,kc,di,<-fv,b5,Addr.add_lit]
      -- asC aqs behind it
      have jy:=setRow_heap w b arr (laid arr (off+L*k) zs) ty (0,0) ah;have gh:bR (w.setRow b (laid arr (off+L*k) zs)) ω (Tag.own hh).R (.J k (es.take L++List.replicate (es.length-L) (z.cells.toList.map .v))) (.slice (some ⟨b,off,none⟩) es.length cap):=by
       have hlen:(es.take L++List.replicate (es.length-L) (z.cells.toList.map D.v)).length=es.length:=by simp;omega
       have eU:∀x j d,cX (es.take L++List.replicate (es.length-L) (z.cells.toList.map D.v)) x j=some d->∃v,d=.v v/\(laid arr (off+L*k) zs)[off+x*k+j]?=some v/\v.oneCell'=true:=by
        intro x j d dP;rw[Bb]at dP;have zZ:(es.take L).length=L:=by simp;omega
        rw[zZ]at dP;split at dP
        ·rename_i Hs;have vx:cX es x j=some d:=by
          unfold cX at dP ⊢;rwa[gX,a6 Hs]at dP
         obtain⟨gk,h4⟩:=s9 hk vx;have mF:∃v,d=.v v:=by
          unfold cX at vx;cases e1:es[x]? with
          | none=>simp[e1]at vx
          | some ds=>
           simp only[e1,nh]at vx;exact CY ds (e4 e1) d (e4 vx)
         obtain⟨v,rfl⟩:=mF;have aH:=ax x j _ vx;have ba:=jD x j _ vx;generalize us x j=u at aH ba;cases aH with
         | v _ _ br=>
          refine⟨v,rfl,?_,br⟩;rw[nN cU,aX ?_,ba];have:(x+1)*k<=L*k:=gW _ Hs;rw[fB]at this;omega
        rename_i Hs;unfold cX at dP;rw[zd]at dP;split at dP
        ·rename_i sH;simp only[nh,c9,bX]at dP;obtain⟨v,bj,rfl⟩:=dP;have zK:j<k:=by
          have:=(dK.1 bj).1;rw[u1,mM]at this;exact this
         refine⟨v,rfl,?_,fN.1 Ae v (e4 bj)⟩;obtain⟨m,hm⟩:∃m,x=L+m:=⟨x-L,by omega⟩
         subst hm;have Yb:m*k+j<(es.length-L)*k:=by
          have:(m+1)*k<=(es.length-L)*k:=gW _ (by omega);rw[fB]at this;omega
         have e1:off+(L+m)*k+j=off+L*k+(m*k+j):=by rw[fB];omega
         rw[e1,nN cU,a6 (by omega),show off+L*k+(m*k+j)-(off+L*k)=m*k+j by omega,N' _ Yb,show (m*k+j) % k=j by rw[Nat.mul_comm m k,Nat.mul_add_mod,zi zK]];simpa using bj
        simp at dP
       have:=bR.row (w:=w.setRow b (laid arr (off+L*k) zs)) (ω:=ω) (Tag.own hh).R k (es.take L++List.replicate (es.length-L) (z.cells.toList.map .v)) b off cap _ ty (0,0)
        (fun x j=>(laid arr (off+L*k) zs).getD (off+x*k+j) undef) jy dI (by omega) (by rw[uo cU];exact ae)
        (by
         intro e' vy;rcases gY.1 vy with h | h
         ·exact hk e' (uY h)
         rw[List.eq_of_mem_replicate h];simp[mM])
        (fun x j d dP=>by obtain⟨v,rfl,h1,_⟩:=eU x j d dP;simp[ea,h1])
        (fun x j d dP=>by
         obtain⟨v,rfl,h1,U⟩:=eU x j d dP;have:(laid arr (off+L*k) zs).getD (off+x*k+j) undef=v:=by simp[ea,h1]
         rw[this];exact .v _ _ U)
       rwa[hlen]at this
      have bk:lQ w ω τ (w.setRow b (laid arr (off+L*k) zs)) ω τ (fi hh) (fun _=>true):=by
       refine⟨?_,?_,fun id c _ ad=>ad,rfl,fun _ _=>rfl⟩
       ·intro g ec c q ao _ av;obtain⟨rfl,tP⟩:=DX ao av;exact⟨av,setRow_other w b c _ fun e=>tP [] (by rw[e];exact ic)⟩
       intro g ec y ao a1;cases g with
       | free=>simp only[fi,aQ]at ao;subst ao;trivial
       | own x=>
        simp only[fi]at ao;split at ao
        ·cases ao
        simp only[aQ]at ao;subst ao;exact a1
       | ro x=>
        simp only[fi]at ao;split at ao
        ·cases ao
        simp only[aQ]at ao;subst ao;trivial
      have eB:∀kH v,Sat w ω τ kH v->Sat (w.setRow b (laid arr (off+L*k) zs)) ω τ (yd hh k (es.take L++List.replicate (es.length-L) (z.cells.toList.map .v)) kH) v:=by
       intro kH v Hn;by_cases tK:∃s b8 cp,kH=.J (.own s) b8 cp
       ·obtain⟨s,b8,cp,rfl⟩:=tK;simp only[yd];split
        ·rename_i ew;subst ew;obtain⟨_,U⟩:=Hn;simp only[Tag.dS]at U bI;rw[U]at bI;simp only[bw]at bI;obtain⟨rfl,rfl⟩:=bI;exact⟨gh,U⟩
        rename_i ew;have:=bk.sat (.J (.own s) b8 cp) v Hn;simpa[aC.cm,fi,ew]using this
       have e5:yd hh k (es.take L++List.replicate (es.length-L) (z.cells.toList.map .v)) kH=aC.cm (fi hh) (fun _=>true) kH:=by
        unfold yd;split
        ·exact absurd ⟨_,_,_,rfl⟩ tK
        rfl
       rw[e5];exact bk.sat kH v Hn
      have h1:cx w0 (st.map (yd hh k (es.take L++List.replicate (es.length-L) (z.cells.toList.map .v)))) a (w.setRow b (laid arr (off+L*k) zs)) ω τ:=by
       refine aV.cD _ eB (aV.below.setRow jC _) ?_ (fun id c ad=>⟨ad,setRow_other w b c _ fun e=>by rw[e,ic]at ad;cases ad⟩) (fun id c ad=>ad) (fun _ _=>rfl);intro c ad;obtain⟨h1,hB,hL,U⟩:=aV.owned c ad;by_cases e:c=b
       ·subst e;exact⟨h1,_,ty,jy⟩
       exact⟨h1,hB,hL,(setRow_other w b c _ e).trans U⟩
      exact⟨ω,τ,h1.put (p:=.cc) trivial⟩
    cases h
   cases h
  cases h
 cases h
end Go.Sx
namespace Go.Sx
open Go.RowKit
def bd.lh(p:aC->Prop):bd->Prop
 | .one l=>p l
 | .agg ls=>∀l∈ls,p l
def aB.lh(p:aC->Prop):aB->Prop
 | .aD a=>a.lh p
 | .fM as=>∀a∈as,a.lh p
variable{S kz:aC->Value->Prop}{p:aC->Prop}{f:aC->aC}{ls:List aC}
theorem j7.map'(h:∀l v,p l->S l v->kz (f l) v){vs:Array Value}(ag:∀l∈ls,p l)(ae:j7 S ls vs):j7 kz (ls.map f) vs:=by
 refine⟨by simpa using ae.1,fun i l af=>?_⟩;rw[c9,bX]at af;obtain⟨ej,bm,rfl⟩:=af;obtain⟨u,h1,U⟩:=ae.2 i ej bm;exact⟨u,h1,h _ _ (ag ej (e4 bm)) U⟩
theorem j6.map'(h:∀l v,p l->S l v->kz (f l) v):∀{a:bd} {y:Value},a.lh p->j6 S a y->j6 kz (a.map f) y
 | .one l,y,ag,ae=>h _ _ ag ae
 | .agg ls,y,ag,⟨vs,e,ae⟩=>⟨vs,e,ae.map' h ag⟩
theorem cM.map'(h:∀l v,p l->S l v->kz (f l) v):∀{q:aB} {y:Value},q.lh p->cM S q y->cM kz (q.map f) y
 | .aD a,y,ag,ae=>show j6 kz (a.map f) y from j6.map' h ag (show j6 S a y from ae)
 | .fM as,y,ag,⟨vs,e,aL,ae⟩=>⟨vs,e,by simpa using aL,fun i a hi=>by
   rw[c9,bX]at hi;obtain⟨a0,bm,rfl⟩:=hi;obtain⟨u,h1,U⟩:=ae i a0 bm;exact⟨u,h1,j6.map' h (ag a0 (e4 bm)) U⟩⟩
variable{w0:ev}{st:aE}{a:Act}{w aG:World}{ω aY:Own}{τ:Nat->Nat×Value}
theorem cx.aqD{cN:Nat->Nat×Value}{p:aC->Prop}(h:cx w0 st a w ω τ)(f:aC->aC)
  (eB:∀l v,p l->Sat w ω τ l v->Sat aG aY cN (f l) v) (he:∀q∈st.env,q.lh p) (ah:∀id ls,dj id st.boxes=some ls->∀l∈ls,p l) (oe:gn w0 aG) (p6:n4 w0 aG aY)
  (q0:∀id b,ω b=.box id->aY b=.box id/\aG.heap[b]?=w.heap[b]?) (zE:∀id b,aY b=.box id->ω b=.box id) (q5:∀t,c5<=t->cN t=τ t):cx w0 (st.map f) a aG aY cN where
 defers:=h.defers
 size:=by simp[aE.map,h.size]
 below:=oe
 owned:=p6
 fixed:=fun t bt=>(q5 t bt).trans (h.fixed t bt)
 pinned:=fun id b hi ah=>h.pinned id b hi (zE id b ah)
 env:=by
  intro i q av;simp only[aE.map]at av;rw[c9,bX]at av;obtain⟨ju,bm,rfl⟩:=av;obtain⟨v,h1,U⟩:=h.env i ju bm;exact⟨v,h1,cM.map' eB (he ju (e4 bm)) U⟩
 boxes:=by
  intro id ls af;simp only[aE.map]at af;rw[s8,bX]at af;obtain⟨jr,bm,rfl⟩:=af;obtain⟨b,arr,ty,gr,hu,bI,ae⟩:=h.boxes id jr bm;obtain⟨h1,U⟩:=q0 id b gr;exact⟨b,arr,ty,h1,fun cT c7=>hu cT (zE id cT c7),U.trans bI,ae.map' eB (ah id jr bm)⟩
def aC.idx(t j:Nat):aC->List Nat
 | .aO s a b _ _ _=>if s=t/\b=j then [a] else []
 | _=>[]
def bd.idx(t j:Nat):bd->List Nat
 | .one l=>l.idx t j
 | .agg ls=>ls.flatMap (aC.idx t j)
def aB.idx(t j:Nat):aB->List Nat
 | .aD a=>a.idx t j
 | .fM as=>as.flatMap (bd.idx t j)
def aE.idx(t j:Nat)(st:aE):List Nat:=st.env.flatMap (aB.idx t j)++st.boxes.flatMap fun x=>x.2.flatMap (aC.idx t j)
def Dv(t i j:Nat)(l:aC):Prop:=∀a∈l.idx t j,a=i
theorem O5{id:Nat}:∀{bs:List (Nat×List aC)} {ls:List aC},dj id bs=some ls->(id,ls)∈bs
 | [],_,h=>by cases h
 | (i,l)::r,ls,h=>by
  simp only[dj]at h;split at h
  ·rename_i hi;subst hi;rw[ei h];exact eF
  exact fc _ (O5 h)
variable{t i j:Nat}
theorem aE.Y6(h:∀a∈st.idx t j,a=i):∀q∈st.env,q.lh (Dv t i j):=by
 intro q av;have h1:∀a∈q.idx t j,a=i:=fun a ag=>h a (gm _ (jN.2 ⟨q,av,ag⟩))
 have GC:∀x:bd,(∀a∈x.idx t j,a=i)->x.lh (Dv t i j):=by
  intro x aa;cases x with
  | one l=>exact aa
  | agg ls=>exact fun l af a ag=>aa a (jN.2 ⟨l,af,ag⟩)
 cases q with
 | aD x=>exact GC x h1
 | fM as=>exact fun x aa=>GC x fun a ag=>h1 a (jN.2 ⟨x,aa,ag⟩)
theorem aE.Y5(h:∀a∈st.idx t j,a=i){id:Nat}(ah:dj id st.boxes=some ls):∀l∈ls,Dv t i j l:=by
 intro l af a ag;exact h a (hZ _ (jN.2 ⟨(id,ls),O5 ah,jN.2 ⟨l,af,ag⟩⟩))
def hx(t i j k:Nat)(cp:List (List D))(kT:Nat)(esT:List (List D)):aC->aC
 | .J (.own s) dp dx=>if s=t then .J (.own t) kT esT else .J (.own s) dp dx
 | .ep (.own s) dp dx a b=>if s=t then .ep (.own t) kT esT a b else .ep (.own s) dp dx a b
 | .J (.ro s) dp dx=>if s=t then .cc else .J (.ro s) dp dx
 | .ep (.ro s) dp dx a b=>if s=t then .cc else .ep (.ro s) dp dx a b
 | .aO s a b dp dx m=>if s=t/\b=j then (if dp=k/\m.home=true then .aO t i j k cp m else .cc) else .aO s a b dp dx m
 | .fk _ _=>.cc
 | l=>l
variable{v:Value}
theorem uh.aqH{u:Value}(h1:uh w ω τ t i j u)(U:uh w ω τ t i j v):u=v:=by
 obtain⟨kT,b,off,len,cap,arr,ty,cO,ff,a2,a3,a4⟩:=h1;obtain⟨Y9,cT,asd,ar6,lT,b3,qH,ari,fQ,fH,nn,F5⟩:=U;rw[ff]at fQ;simp only[bw,Value.slice.injEq,aQ,Addr.mk.injEq]at fQ;obtain⟨rfl,⟨rfl,rfl,_⟩,_,_⟩:=fQ;rw[a3]at nn;simp only[aQ,Obj.cells.injEq]at nn;obtain⟨rfl,_,_⟩:=nn;rw[a4]at F5;exact ei F5
variable{k kT:Nat}{esT:List (List D)}
theorem cx.U8(h:cx w0 st a w ω τ){cp:List (List D)}{yT hX:Value}
  (jX:∀c,c<w.heap.size->ω c≠.tok t [(i,j)]->aG.heap[c]?=w.heap[c]?) (cQ:∀c,c<w.heap.size->aY c=ω c) (HD:∀c id,¬c<w.heap.size->aY c≠.box id)
  (kB:gn w0 aG) (jC:n4 w0 aG aY) (sK:τ t=(kT,yT)) (om:bR aG aY (Tag.own t).R (.J kT esT) yT)
  (q6:uh w ω τ t i j hX) (o9:bR aG aY (fun q o=>o=.tok t ((i,j)::q)) (.J k cp) hX) (o7:∀a∈st.idx t j,a=i):cx w0 (st.map (hx t i j k cp kT esT)) a aG aY τ:=by
 have cO:∀{R:List (Nat×Nat)->cS->Prop} {d:D} {v:Value},(∀q,¬R q (.tok t [(i,j)]))->bR w ω R d v->bR aG aY R d v:=by
  intro R d v aL ar;refine ar.frame fun b q bq av=>?_
  rw[cQ b bq];exact⟨av,jX b bq fun e=>aL q (by rw[<-e];exact av)⟩
 have home:∀{s a b:Nat} {u:Value},uh w ω τ s a b u->uh aG aY τ s a b u:=by
  rintro s a b u ⟨kT,c,off,len,cap,arr,ty,cO,ff,a2,a3,a4⟩;have bq:c<w.heap.size:=(hA.1 a3).1;exact⟨kT,c,off,len,cap,arr,ty,cO,ff,by rw[cQ c bq];exact a2,(jX c bq (by rw[a2];simp)).trans a3,a4⟩
 refine h.aqD (p:=Dv t i j) _ ?_ (aE.Y6 o7) (fun id ls ah=>aE.Y5 o7 ah) kB jC (fun id b ah=>?_) (fun id b ah=>?_) (fun _ _=>rfl)
 ·intro l v ao ae;cases l with
  | cc=>exact trivial
  | v x=>exact ae
  | bg c=>exact ae
  | ptr id o=>
   obtain⟨c,ad,e⟩:=ae;exact⟨c,by rw[cQ c (h.owned.lt (by simp[ad]))];exact ad,e⟩
  | gP f ids=>
   obtain⟨bs,e,aL,hi⟩:=ae;refine⟨bs,e,aL,fun x id fX=>?_⟩;obtain⟨b,h1,U⟩:=hi x id fX;exact⟨b,h1,by rw[cQ b (h.owned.lt (by simp[U]))];exact U⟩
  | h8 ds o=>
   obtain⟨c,e,ar⟩:=ae;exact⟨c,e,cO (fun q av=>by cases av) ar⟩
  | fd d=>exact cO (R:=Tag.free.R) (fun q av=>by cases av) ae
  | db t0 dp dx=>exact⟨cO (R:=Tag.free.R) (fun q av=>by cases av) ae.1,ae.2⟩
  | fk=>exact trivial
  | J g dp dx=>
   cases g with
   | free=>exact⟨cO (R:=Tag.free.R) (fun q av=>by cases av) ae.1,aj⟩
   | own s=>
    simp only[hx];split
    ·rename_i e;subst e;have U:=ae.2;simp only[Tag.dS]at U;rw[sK]at U;simp only[bw]at U;rw[<-U.2];exact⟨om,sK⟩
    rename_i b5;exact⟨cO (R:=(Tag.own s).R) (fun q av=>by simp only[Tag.R,cS.tok.injEq]at av;exact b5 av.1.symm) ae.1,ae.2⟩
   | ro s=>
    simp only[hx];split
    ·exact trivial
    rename_i b5;refine⟨cO (R:=(Tag.ro s).R) (fun q av=>?_) ae.1,aj⟩;rcases av with av | ⟨dh,av⟩
    ·cases av
    simp only[cS.tok.injEq]at av;exact b5 av.1.symm
  | ep g dp dx x y=>
   obtain⟨fH,qe,pP,e,kc,lq,oh⟩:=ae;cases g with
   | free=>exact⟨fH,qe,pP,e,kc,cO (R:=Tag.free.R) (fun q av=>by cases av) lq,aj⟩
   | own s=>
    simp only[hx];split
    ·rename_i e1;subst e1;simp only[Tag.dS]at oh;rw[sK]at oh;simp only[bw]at oh;obtain⟨rfl,rfl⟩:=oh;have af:esT.length=dx.length:=by
      obtain⟨_,_,e2⟩:=om.len;simp only[Value.slice.injEq]at e2;exact e2.2.1.symm
     refine⟨fH,qe,pP,e,by omega,?_,?_⟩
     ·rw[af];exact om
     rw[af];exact sK
    rename_i b5;exact⟨fH,qe,pP,e,kc,cO (R:=(Tag.own s).R) (fun q av=>by simp only[Tag.R,cS.tok.injEq]at av;exact b5 av.1.symm) lq,oh⟩
   | ro s=>
    simp only[hx];split
    ·exact trivial
    rename_i b5;refine⟨fH,qe,pP,e,kc,cO (R:=(Tag.ro s).R) (fun q av=>?_) lq,aj⟩;rcases av with av | ⟨dh,av⟩
    ·cases av
    simp only[cS.tok.injEq]at av;exact b5 av.1.symm
  | aO s x y dp dx m=>
   simp only[hx];obtain⟨u,hu,ar,hm⟩:=ae;split
   ·rename_i ad;obtain⟨rfl,rfl⟩:=ad;have aa:x=i:=ao x (by simp[aC.idx]);subst aa;split
    ·rename_i ad;obtain⟨rfl,Ya⟩:=ad;have e:=(hm Ya).aqH q6;subst e;have af:cp.length=dx.length:=by
      obtain⟨_,_,e1⟩:=o9.len;obtain⟨_,_,e2⟩:=ar.len;rw[e1]at e2;simp only[Value.slice.injEq]at e2;omega
     exact⟨u,by rw[af];exact hu,o9,fun _=>home q6⟩
    exact trivial
   rename_i ad;refine⟨u,hu,cO (fun q av=>?_) ar,fun bI=>home (hm bI)⟩;simp only[cS.tok.injEq,r0,bw]at av;exact ad ⟨av.1.symm,av.2.1.2.symm⟩
 ·have bq:=h.owned.lt (b:=b) (by simp[ah]);exact⟨by rw[cQ b bq];exact ah,jX b bq (by rw[ah];simp)⟩
 by_cases bq:b<w.heap.size
 ·rw[cQ b bq]at ah;exact ah
 exact absurd ah (HD b id bq)
def tf(t:Nat):aC->Option (Nat×List (List D))
 | .J (.own s) k es=>if s=t then some (k,es) else none
 | _=>none
def uq(t:Nat):List aB->Option (Nat×List (List D))
 | []=>none
 | .aD (.one l)::r=>match tf t l with | some x=>some x | none=>uq t r
 | .aD (.agg ls)::r=>match ls.findSome? (tf t) with | some x=>some x | none=>uq t r
 | _::r=>uq t r
def Dw(t:Nat)(st:aE):Option (Nat×List (List D)):=
 match uq t st.env with
 | some x=>some x
 | none=>(st.boxes.find? fun x=>(x.2.findSome? (tf t)).isSome).bind fun x=>(dj x.1 st.boxes).bind fun ls=>ls.findSome? (tf t)
theorem Ib{l:aC}(h:tf t l=some (kT,esT))(ae:Sat w ω τ l v):Sat w ω τ (.J (.own t) kT esT) v:=by
 unfold tf at h;split at h
 ·split at h
  ·rename_i e;subst e;simp only[aQ,bw]at h;obtain⟨rfl,rfl⟩:=h;exact ae
  cases h
 cases h
theorem O6{vs:Array Value}(h:ls.findSome? (tf t)=some (kT,esT))(ae:j7 (Sat w ω τ) ls vs):∃v,Sat w ω τ (.J (.own t) kT esT) v:=by
 obtain⟨l,af,U⟩:=List.exists_of_findSome?_eq_some h;obtain⟨x,aa⟩:=ng.1 af;obtain⟨u,_,hu⟩:=ae.2 x l aa;exact⟨u,Ib U hu⟩
theorem Dx:∀{cw:List aB},uq t cw=some (kT,esT)->(∀p∈cw,∃v,cM (Sat w ω τ) p v)->∃v,Sat w ω τ (.J (.own t) kT esT) v
 | [],h,_=>by cases h
 | p::r,h,ae=>by
  have ar:∀p∈r,∃v,cM (Sat w ω τ) p v:=fun p hp=>ae p (fc _ hp)
  obtain⟨v,bj⟩:=ae p eF;cases p with
  | fM as=>exact Dx (by simpa[uq]using h) ar
  | aD x=>
   cases x with
   | one l=>
    simp only[uq]at h;split at h
    ·rename_i y e;simp only[aQ]at h;subst h;exact⟨v,Ib e bj⟩
    exact Dx h ar
   | agg ls=>
    simp only[uq]at h;split at h
    ·rename_i y e;simp only[aQ]at h;subst h;obtain⟨vs,_,bj⟩:=bj;exact O6 e bj
    exact Dx h ar
theorem cx.root(h:cx w0 st a w ω τ)(e:Dw t st=some (kT,esT)):∃v,Sat w ω τ (.J (.own t) kT esT) v:=by
 unfold Dw at e;split at e
 ·rename_i x e1;simp only[aQ]at e;subst e;refine Dx e1 fun p hp=>?_
  obtain⟨x,aa⟩:=ng.1 hp;obtain⟨v,_,bj⟩:=h.env x p aa;exact⟨v,bj⟩
 rw[mj]at e;obtain⟨x,_,e⟩:=e;rw[mj]at e;obtain⟨ls,ah,e⟩:=e;obtain⟨b,arr,ty,_,_,_,ae⟩:=h.boxes x.1 ls ah;exact O6 e ae
theorem O7{cp:List (List D)}{jn:List D}{yT hX:Value}(ae:Sat w ω τ (.J (.own t) kT esT) yT)
  (jX:∀c,c<w.heap.size->ω c≠.tok t [(i,j)]->aG.heap[c]?=w.heap[c]?) (cQ:∀c,c<w.heap.size->aY c=ω c)
  (q6:uh w ω τ t i j hX) (o9:bR aG aY (fun q o=>o=.tok t ((i,j)::q)) (.J k cp) hX) (eo:esT[i]?=some jn):bR aG aY (Tag.own t).R (.J kT (esT.set i (jn.set j (.J k cp)))) yT:=by
 obtain⟨ar,bI⟩:=ae;simp only[Tag.dS]at bI;obtain⟨Y9,cf,HX,Oj,MQ,tv,uV,arj,ff,a2,a3,a4⟩:=q6;rw[bI]at ff;simp only[bw]at ff;obtain⟨rfl,rfl⟩:=ff;have jz:i<esT.length:=(dK.1 eo).1;have hlen:(esT.set i (jn.set j (.J k cp))).length=esT.length:=eQ;generalize a1:Value.slice (some ⟨cf,HX,none⟩) Oj MQ=MD at ar;cases ar with
 | nil=>simp at jz
 | row R kT esT b off cap arr ty cO us ah dI ad di hk hu ax=>
  simp only[Value.slice.injEq,aQ,Addr.mk.injEq]at a1;obtain⟨⟨rfl,rfl,_⟩,rfl,rfl⟩:=a1;rw[ah]at a3;simp only[aQ,Obj.cells.injEq]at a3;obtain⟨rfl,_,_⟩:=a3;have vu:cf<w.heap.size:=(hA.1 ah).1;have zL:jn.length=kT:=hk jn (e4 eo);have tR:∀e∈esT.set i (jn.set j (.J k cp)),e.length=kT:=by
   intro e he;rcases hn he with h | rfl
   ·exact hk e h
   rw[eQ];exact zL
  have key:∀x y d,cX (esT.set i (jn.set j (.J k cp))) x y=some d->arr[HX+x*kT+y]?=some (us x y)/\bR aG aY (fun q=>(Tag.own t).R ((x,y)::q)) d (us x y):=by
   intro x y d dP;have Hu:=s9 tR dP;rw[hlen]at Hu;obtain⟨d0,hT⟩:=Pv hk Hu.1 Hu.2;have tU:=hu x y d0 hT;refine⟨tU,?_⟩;rw[Iz jz]at dP;by_cases aa:x=i
   ·subst aa;rw[a6 rfl,iS]at dP;by_cases HA:j=y
    ·subst HA;rw[a6 rfl,a6 (by omega)]at dP;rw[<-ei dP];rw[a4]at tU;rw[<-ei tU];exact o9
    rw[aX HA]at dP;have pZ:cX esT x y=some d:=by simp[cX,eo,dP]
    refine (ax x y d pZ).frame fun c q ad av=>?_
    rw[cQ c ad];refine⟨av,jX c ad fun e=>?_⟩;simp only[Tag.R,e,cS.tok.injEq,r0,bw]at av;exact HA av.2.1.2
   rw[aX aa]at dP;refine (ax x y d dP).frame fun c q ad av=>?_
   rw[cQ c ad];refine⟨av,jX c ad fun e=>?_⟩;simp only[Tag.R,e,cS.tok.injEq,r0,bw]at av;exact aa av.2.1.1.symm
  have ic:ω cf=.tok t []:=dI;have:=bR.row (w:=aG) (ω:=aY) (Tag.own t).R kT (esT.set i (jn.set j (.J k cp))) cf HX MQ arr ty cO us ((jX cf vu (by rw[ic];simp)).trans ah) (by rw[cQ cf vu];exact ic) (by omega) di tR
   (fun x y d ax=>(key x y d ax).1) (fun x y d ax=>(key x y d ax).2)
  rw[hlen]at this;exact this
def Ic(P:Program)(st:aE)(ty:TypeId)(t i j k:Nat)(es:List (List D))(x y:Nat)(q:aB)(ans:List b4):Stepped:=
 match q.leaves,P.info? ty,Dw t st,ans with
 | some xs,some inf,some (kT,esT),.el ds::.el jn::r=>
  match xs.mapM aC.iR with
  | some ys=>
   if xs.length=inf.size/\ds.length=k/\y+ys.length<=k/\xs.all (fun l=>l.tok.isNone)=true then
    some (st.map (hx t i j k (es.set x (kP ds y ys)) kT (esT.set i (jn.set j (.J k (es.set x (kP ds y ys)))))),r,(es[x]?=some ds)::(esT[i]?=some jn)::(st.idx t j).map fun a=>a=i)
   else none
  | none=>none
 | _,_,_,_=>none
theorem ajy{l:aC}{d:D}(h:l.iR=some d)(bt:l.tok.isNone=true){u:Value}(ae:Sat w ω τ l u):∃z,d=.v z/\u=z/\z.oneCell'=true:=by
 cases l with
 | v z=>
  simp only[aC.iR]at h;split at h
  ·simp only[aQ]at h;subst h;have:u=z:=ae;exact⟨z,rfl,this,‹_›⟩
  cases h
 | bg c=>
  simp only[aC.iR,aQ]at h;subst h;exact⟨_,rfl,ae,rfl⟩
 | J g k es=>
  cases g with
  | own s=>simp[aC.tok]at bt
  | free=>cases h
  | ro s=>cases h
 | cc=>cases h
 | ptr=>cases h
 | ep=>cases h
 | h8=>cases h
 | fd=>cases h
 | db=>cases h
 | gP=>cases h
 | aO=>cases h
 | fk=>cases h
theorem cx.aqx{P:Program}{bn:aE}{ty:TypeId}{x y:Nat}{es:List (List D)}{q:aB}{p:Value}{ans ch:List b4}{obs:List Prop}
  (aV:cx w0 st a w ω τ) (hp:Sat w ω τ (.aO t i j k es (.at_ x y)) p) (av:cM (Sat w ω τ) q v) (h:Ic P st ty t i j k es x y q ans=some (bn,ch,obs)) (aN:cB obs):
  ∃aG,(Instr.storeAt ty p v).run P w=.ok () aG/\Rel w0 bn a aG:=by
 unfold Ic at h;split at h
 ·rename_i xs inf kT esT ds jn r e1 e2 dB;split at h
  ·rename_i ys b2;split at h
   ·rename_i ad;obtain⟨kQ,kC,kR,xC⟩:=ad;simp only[aQ,bw]at h;obtain⟨rfl,_,rfl⟩:=h;obtain⟨eo,xD,o7⟩:=aN;have o7:=DR o7;obtain⟨yT,om⟩:=aV.root dB;obtain⟨ae,lp⟩:=aB.xW e1 av;obtain⟨N9,Hz⟩:=nL b2;obtain⟨hX,⟨b,off,cap,rfl,rfl,jz⟩,ar,hm⟩:=hp;have q6:=hm rfl;have p7:=ar;cases ar with
    | nil=>simp at jz
    | row R k es b off cap arr hM cO us ah dI eY di gu hu ax=>
     have ic:ω b=.tok t [(i,j)]:=dI;obtain⟨vK,tv,uV,hS⟩:=aV.owned b (by rw[ic];simp);rw[ah]at hS;simp only[aQ,Obj.cells.injEq]at hS;obtain⟨rfl,rfl,rfl⟩:=hS;have vu:b<w.heap.size:=(hA.1 ah).1;have hmul:(x+1)*k<=cap*k:=gW _ (by omega);rw[fB]at hmul;have oo:v.cells.size=xs.length:=ae.1;have dD:off+x*k+y+v.cells.toList.length<=arr.size:=by simp;omega
     have ew:=run_storeCells_at P b (off+x*k+y) hM v.cells.toList 0 arr w ah (by simpa using dD) lp;simp only[mq]at ew;generalize nx:(arr.toList.take (off+x*k+y)++v.cells.toList++arr.toList.drop (off+x*k+y+v.cells.toList.length)).toArray=b3 at ew;have gE:∀z:Nat,b3[z]?=if off+x*k+y<=z/\z<off+x*k+y+xs.length then v.cells[z-(off+x*k+y)]? else arr[z]?:=by
      intro z;rw[<-nx,nf,A' (by simpa using dD)];simp[oo]
     have xO:b3.size=arr.size:=by rw[<-nx];simp;simp at dD;omega
     have jy:=setRow_heap w b arr b3 hM (0,0) ah;have jX:∀c,c<w.heap.size->ω c≠.tok t [(i,j)]->(w.setRow b b3).heap[c]?=w.heap[c]?:=fun c _ ad=>setRow_other w b c b3 fun e=>ad (by rw[e];exact ic)
     have o9:bR (w.setRow b b3) ω (fun q o=>o=.tok t ((i,j)::q)) (.J k (es.set x (kP ds y ys))) (.slice (some ⟨b,off,none⟩) es.length cap):=by
      have hlen:(es.set x (kP ds y ys)).length=es.length:=eQ;have zL:ds.length=k:=kC;have lW:∀gy fq d,cX es gy fq=some d->bR (w.setRow b b3) ω (fun q o=>o=.tok t ((i,j)::(gy,fq)::q)) d (us gy fq):=by
       intro gy fq d pZ;refine (ax gy fq d pZ).frame fun c q ad dT=>⟨dT,jX c ad fun e=>?_⟩
       rw[e]at dT;simp at dT
      have eU:∀gy fq d,cX (es.set x (kP ds y ys)) gy fq=some d->∃u,b3[off+gy*k+fq]?=some u/\bR (w.setRow b b3) ω (fun q o=>o=.tok t ((i,j)::(gy,fq)::q)) d u:=by
       intro gy fq d dP;rw[Iz jz]at dP;by_cases aa:gy=x
       ·subst aa;rw[a6 rfl,Py (by omega)]at dP;split at dP
        ·rename_i a1;obtain⟨l,jB,cU⟩:=Hz _ _ dP;obtain⟨u,fJ,eG⟩:=ae.2 _ _ jB;obtain⟨z,rfl,rfl,aR⟩:=ajy cU (fN.1 xC l (e4 jB)) eG;refine⟨u,?_,.v _ _ aR⟩;rw[gE,a6 (by omega),<-fJ]
         congr 1;omega
        rename_i a1;have pZ:cX es gy fq=some d:=by simp[cX,eo,dP]
        refine⟨us gy fq,?_,lW gy fq d pZ⟩;rw[gE,aX (by omega),hu gy fq d pZ]
       rw[aX aa]at dP;obtain⟨gk,YY⟩:=s9 gu dP;refine⟨us gy fq,?_,lW gy fq d dP⟩;rw[gE,aX ?_,hu gy fq d dP];rcases Nat.lt_or_gt_of_ne aa with h | h
       ·have:(gy+1)*k<=x*k:=gW _ h;rw[fB]at this;omega
       have:(x+1)*k<=gy*k:=gW _ h;rw[fB]at this;omega
      have p8:∀e∈es.set x (kP ds y ys),e.length=k:=by
       intro e he;rcases hn he with h | rfl
       ·exact gu e h
       rw[Pz (by omega)];exact zL
      have:=bR.row (w:=w.setRow b b3) (ω:=ω) (fun q o=>o=.tok t ((i,j)::q)) k (es.set x (kP ds y ys)) b off cap b3 hM (0,0) (fun gy fq=>b3.getD (off+gy*k+fq) undef) jy ic (by omega) (by omega) p8
       (fun x y d dC=>by obtain⟨u,h1,_⟩:=eU x y d dC;rw[h1];simp[ea,h1])
       (fun x y d dC=>by obtain⟨u,h1,U⟩:=eU x y d dC;have:b3.getD (off+x*k+y) undef=u:=(by simp[ea,h1]);rw[this];exact U)
      rw[hlen]at this;exact this
     refine⟨w.setRow b b3,?_,ω,τ,aV.U8 (yT:=yT) jX (fun _ _=>rfl) (fun c id ad e=>?_) (aV.below.setRow vK b3) ?_ om.2 (O7 om jX (fun _ _=>rfl) q6 o9 xD) q6 o9 o7⟩
     ·simp only[Instr.storeAt,Instr.sureAddr,Sem.run_bind,Sem.run_pure,Result.andThen_ok,storeVar,sizeOf,typeInfo,run_program,e2];have Ho:¬(v.cells.size≠inf.size):=by simp;omega
      rw[aX Ho];exact ew
     ·exact ad (aV.owned.lt (by rw[e];simp))
     intro c ft;obtain⟨au,hB,hL,aH⟩:=aV.owned c ft;by_cases pY:c=b
     ·subst pY;exact⟨au,b3,hM,jy⟩
     exact⟨au,hB,hL,(setRow_other w b c b3 pY).trans aH⟩
   cases h
  cases h
 cases h
end Go.Sx
namespace Go.Sx
open Go.RowKit
variable{i:Nat}
theorem O8{α:Type}{l:List α}{a:α}(h:l[i]?=some a):l.set i a=l:=by
 apply List.ext_getElem?;intro x;rw[iS];by_cases aa:i=x
 ·subst aa;have:=(dK.1 h).1;rw[a6 rfl,a6 this,h]
 rw[aX aa]
def Ie(P:Program)(st:aE)(d:Nat)(h9:TypeId)(t i j k:Nat)(es:List (List D))(y:Operand)(ans:List b4):Stepped:=
 match qq P h9,Dw t st,ans with
 | some (e,b8),some (kT,esT),.el jn::fg=>
  match P.info? e,vb t k (st.bk y) fg with
  | some inf,some (bN,none,va,obs)=>
   match inf.zero with
   | some z=>
    if b8=k/\z.cells.size=k/\0<k then
     some (⟨(st.map (hx t i j k es kT esT)).env.set d (.one (.aO t i j k (es++bN) .lS)),(st.map (hx t i j k es kT esT)).boxes⟩,va,
      ((es.length+bN.length)*inf.bytes<=140737488355328)::(es.length+bN.length<=9223372036854775807)::(esT[i]?=some jn)::(jn[j]?=some (.J k es))::(((st.idx t j).map fun a=>a=i)++obs))
    else none
   | none=>none
  | _,_=>none
 | _,_,_=>none
def tu(P:Program)(h9:TypeId)(t i j k:Nat)(es esT:List (List D))(q:aB)(ans:List b4):Option (aB×List b4×List Prop):=
 match qq P h9,ans with
 | some (e,b8),.el jn::fg=>
  match P.info? e,vb t k q fg with
  | some inf,some (bN,none,va,obs)=>
   match inf.zero with
   | some z=>
    if b8=k/\z.cells.size=k/\0<k then
     some (.one (.aO t i j k (es++bN) .lS),va,
      ((es.length+bN.length)*inf.bytes<=140737488355328)::(es.length+bN.length<=9223372036854775807)::(esT[i]?=some jn)::(jn[j]?=some (.J k es))::obs)
    else none
   | none=>none
  | _,_=>none
 | _,_=>none
theorem cx.tu{P:Program}{w0:ev}{st:aE}{a:Act}{w:World}{ω:Own}{τ:Nat->Nat×Value}{d:Nat}{h9 ty:TypeId}{t j k kT:Nat}{es esT:List (List D)}{x y:Operand}{p:aB}{ans ch:List b4}{obs:List Prop}
  (aV:cx w0 st a w ω τ) (hp:Sat w ω τ (.aO t i j k es .here) (a.eval x)) (h:Sx.tu P h9 t i j k es esT (st.bk y) ans=some (p,ch,obs)) (aN:cB obs)
  (om:∃v,Sat w ω τ (.J (.own t) kT esT) v) (o7:∀a∈st.idx t j,a=i):
  ∃z aG,(Builtin.append_ #[h9,h9] ty #[a.eval x,a.eval y]).run P w=.ok z aG/\Rel w0 ⟨(st.map (hx t i j k es kT esT)).env.set d p,(st.map (hx t i j k es kT esT)).boxes⟩ (a.put (some d) z) aG:=by
 unfold Sx.tu at h;split at h
 ·rename_i e b8 jn fg he;obtain⟨bt,hG,kb,xN⟩:=wK he;split at h
  ·rename_i inf bN va xZ hi iZ;rw[kb]at hi;have mE:=ei hi;subst mE;split at h
   ·rename_i z aR;split at h
    ·rename_i ad;obtain⟨rfl,mM,oj⟩:=ad;simp only[aQ,bw]at h;obtain⟨rfl,_,rfl⟩:=h;obtain⟨gr,gg,xD,GN,Hb⟩:=aN;obtain⟨_,news,mJ⟩:=Px (P:=P) oj (aV.bk y) iZ Hb;obtain⟨yT,om⟩:=om;obtain⟨hX,q',ar,hm⟩:=hp;have q6:=hm rfl;have q':a.eval x=hX:=q';rw[q'];generalize a.eval y=fb at mJ;have CY:∀gy fq d,cX bN gy fq=some d->∃u,news[gy*b8+fq]?=some u/\d=.v u/\u.oneCell'=true:=by
      intro gy fq d ax;obtain⟨u,h1,U⟩:=mJ.cell gy fq d ax;rcases U with⟨v,rfl,rfl⟩ | ⟨s,ae,_⟩
      ·exact⟨u,h1,rfl,mJ.one u (e4 h1)⟩
      cases ae
     have fin:∀(w1:World) (aY:Own) (r:Value),(∀c,c<w.heap.size->ω c≠.tok t [(i,j)]->w1.heap[c]?=w.heap[c]?)->(∀c,c<w.heap.size->aY c=ω c)->(∀c id,¬c<w.heap.size->aY c≠.box id)->gn w0 w1->n4 w0 w1 aY->
       bR w1 aY (fun q o=>o=.tok t ((i,j)::q)) (.J b8 es) hX->bR w1 aY (fun q o=>o=.tok t ((i,j)::q)) (.J b8 (es++bN)) r->
       Rel w0 ⟨(st.map (hx t i j b8 es kT esT)).env.set d (.one (.aO t i j b8 (es++bN) .lS)),(st.map (hx t i j b8 es kT esT)).boxes⟩ (a.put (some d) r) w1:=by
      intro w1 aY r jX cQ HD kB jC o9 eA;have NU:=O7 om jX cQ q6 o9 xD;rw[O8 GN,O8 xD]at NU;exact⟨aY,τ,(aV.U8 jX cQ HD kB jC om.2 NU q6 o9 o7).put (p:=.one (.aO t i j b8 (es++bN) .lS)) ⟨r,rfl,eA,fun bI=>by cases bI⟩⟩
     have GF:∀c id,¬c<w.heap.size->ω c≠.box id:=fun c id ad e=>ad (aV.owned.lt (by rw[e];simp))
     by_cases vD:bN.length=0
     ·have GR:bN=[]:=u0 vD;subst GR;refine⟨hX,w,Pw bt kb w ?_ ?_,fin w ω hX (fun _ _ _=>rfl) (fun _ _=>rfl) GF aV.below aV.owned ar (by rw[ix];exact ar)⟩
      ·cases ar with
       | nil _ _ a0=>exact⟨a0,0,0,rfl,dm _⟩
       | row R k es b off cap arr ty cO us ah dI ad ae hk hu ax=>exact⟨some ⟨b,off,none⟩,_,cap,rfl,ad⟩
      rcases mJ.shape with⟨⟨a,h⟩,_⟩ | ⟨b,o,c,h,_⟩
      ·exact⟨a,0,h⟩
      exact⟨some ⟨b,o,none⟩,c,h⟩
     have o8:0<bN.length:=by omega
     rcases mJ.shape with⟨_,h⟩ | ⟨bg,mh,kM,rfl,nC⟩
     ·rw[h]at o8;simp at o8
     have grown:∀(w1:World) (b3:Array Value) (r:Value) (lT:Nat),gA w.heap.size w w1->w1.heap[w.heap.size]?=some (.cells b3 e (0,0))->r=.slice (some ⟨w.heap.size,0,none⟩) (es.length+bN.length) lT->
       es.length+bN.length<=lT->lT*b8<=b3.size->(∀fy ke d,cX es fy ke=some d->∃u,b3[fy*b8+ke]?=some u/\bR w ω (fun q o=>o=.tok t ((i,j)::(fy,ke)::q)) d u)->
       (∀x u,news[x]?=some u->b3[es.length*b8+x]?=some u)->(∀e∈es,e.length=b8)->
       Rel w0 ⟨(st.map (hx t i j b8 es kT esT)).env.set d (.one (.aO t i j b8 (es++bN) .lS)),(st.map (hx t i j b8 es kT esT)).boxes⟩ (a.put (some d) r) w1:=by
      intro w1 b3 r lT kB gh Hh eY di hold zO tR;subst Hh
      let aY:Own:=fun c=>if c=w.heap.size then .tok t [(i,j)] else ω c
      have cQ:∀c,c<w.heap.size->aY c=ω c:=fun c ad=>by simp only[aY];rw[aX (by omega)]
      have kV:aY w.heap.size=.tok t [(i,j)]:=by simp[aY]
      refine fin w1 aY _ (fun c ad _=>kB.block c ad) cQ (fun c id ad=>?_) (aV.below.next kB) (fun b ah=>?_) (ar.frame fun c q ad av=>⟨by rw[cQ c ad];exact av,kB.block c ad⟩) ?_
      ·simp only[aY];split
       ·simp
       exact GF c id ad
      ·by_cases tJ:b=w.heap.size
       ·subst tJ;exact⟨.inl aV.below.size,b3,e,gh⟩
       simp only[aY]at ah;rw[aX tJ]at ah;obtain⟨au,hB,hL,aH⟩:=aV.owned b ah;exact⟨au,hB,hL,(kB.block b (aV.owned.lt ah)).trans aH⟩
      have eU:∀x ke d,cX (es++bN) x ke=some d->∃u,b3[x*b8+ke]?=some u/\bR w1 aY (fun q o=>o=.tok t ((i,j)::(x,ke)::q)) d u:=by
       intro x ke d ax;rw[Bb]at ax;split at ax
       ·obtain⟨u,h1,U⟩:=hold x ke d ax;exact⟨u,h1,U.frame fun c q ad av=>⟨by rw[cQ c ad];exact av,kB.block c ad⟩⟩
       rename_i aa;obtain⟨u,h1,rfl,U⟩:=CY _ _ _ ax;refine⟨u,?_,.v _ _ U⟩;rw[<-zO _ u h1]
       congr 1
       have:x=es.length+(x-es.length):=by omega
       rw[this,fB];simp only[Nat.add_sub_cancel_left];omega
      have hlen:(es++bN).length=es.length+bN.length:=eK;have p8:∀e∈es++bN,e.length=b8:=by
       intro e' he;rcases gY.1 he with h | h
       ·exact tR e' h
       exact mJ.rows e' h
      have:=bR.row (w:=w1) (ω:=aY) (fun q o=>o=.tok t ((i,j)::q)) b8 (es++bN) w.heap.size 0 lT b3 e (0,0) (fun x j=>b3.getD (x*b8+j) undef) gh kV (by omega) (by omega) p8
       (fun x j d ax=>by obtain⟨u,h1,_⟩:=eU x j d ax;rw[c',h1];simp[ea,h1])
       (fun x j d ax=>by obtain⟨u,h1,U⟩:=eU x j d ax;have:b3.getD (x*b8+j) undef=u:=(by simp[ea,h1]);rw[this];exact U)
      rw[hlen]at this;exact this
     subst xN;have p7:=ar;cases ar with
     | nil _ _ a0=>
      simp only[b1,c']at gr gg;have eZ:(Builtin.append_ #[h9,h9] ty #[.slice a0 0 0,.slice (some ⟨bg,mh,none⟩) bN.length kM]).run P w=
        .ok (.slice (some ⟨w.heap.size,0,none⟩) bN.length (grownCap w bN.length 0 e)) (w.drew.alloc (.cells (news.toArray++Builtin.zeroCells z.cells (grownCap w bN.length 0 e-bN.length)) e)):=by
       cases a0 with
       | none=>exact run_append_nil (P:=P) w h9 ty e hG z bt kb aR ⟨bg,mh,none⟩ bN.length kM news mJ.len nC o8 (by omega) (by omega)
       | some cf=>
        have:=run_append_grow (P:=P) w h9 ty e hG z bt kb aR cf 0 0 [] (by simp) (fun j v bj=>by simp at bj) ⟨bg,mh,none⟩ bN.length kM news mJ.len nC (by omega) (by omega) (growslice_fits (by omega) (by simpa using gr));simpa using this
      have mD:=grownCap_ge w bN.length 0 e;exact⟨_,_,eZ,grown _ (news.toArray++Builtin.zeroCells z.cells (grownCap w bN.length 0 e-bN.length)) (.slice (some ⟨w.heap.size,0,none⟩) bN.length (grownCap w bN.length 0 e)) (grownCap w bN.length 0 e)
       (((gA.refl _ _).drew).alloc (dm _) _) (nJ _ _) (by simp) (by simpa using mD) (by
        simp only[qM,kN,size_zeroCells,mJ.len,mM,<-fB];exact gW _ (by omega))
       (fun fy j d ax=>by simp[cX]at ax) (fun x u aa=>by
        simp only[b1,Nat.zero_mul,c'];rw[hj,a6 (by have:=(dK.1 aa).1;simpa using this)];simpa using aa) (fun e he=>by cases he)⟩
     | row R k es b off cap arr hM cO us ah dI ad ae gu hu ax=>
      have ic:ω b=.tok t [(i,j)]:=dI;obtain⟨vK,tv,uV,hS⟩:=aV.owned b (by rw[ic];simp);rw[ah]at hS;simp only[aQ,Obj.cells.injEq]at hS;obtain⟨rfl,rfl,rfl⟩:=hS;have vu:b<w.heap.size:=(hA.1 ah).1;by_cases nD:es.length+bN.length<=cap
      ·have hmul:(es.length+bN.length)*hG.size<=cap*hG.size:=gW _ nD;rw[fB]at hmul;have G7:=mJ.len;have dD:off+es.length*hG.size+news.length<=arr.size:=by omega
       have eZ:=Iy (P:=P) (ty:=ty) bt kb w b off es.length cap arr hM ah ⟨bg,mh,none⟩ bN.length kM news mJ.len nC mJ.one nD dD;generalize nx:(arr.toList.take (off+es.length*hG.size)++news++arr.toList.drop (off+es.length*hG.size+news.length)).toArray=b3 at eZ;have gE:∀x:Nat,b3[x]?=if off+es.length*hG.size<=x/\x<off+es.length*hG.size+news.length then news[x-(off+es.length*hG.size)]? else arr[x]?:=by
        intro x;rw[<-nx,nf,A' (by simpa using dD)];simp
       have xO:b3.size=arr.size:=by rw[<-nx];simp;omega
       have jy:=setRow_heap w b arr b3 hM (0,0) ah;have jX:∀c,c<w.heap.size->ω c≠.tok t [(i,j)]->(w.setRow b b3).heap[c]?=w.heap[c]?:=fun c _ ad=>setRow_other w b c b3 fun e=>ad (by rw[e];exact ic)
       have lW:∀gy fq d u,bR w ω (fun q o=>o=.tok t ((i,j)::(gy,fq)::q)) d u->bR (w.setRow b b3) ω (fun q o=>o=.tok t ((i,j)::(gy,fq)::q)) d u:=by
        intro gy fq d u pZ;refine pZ.frame fun c q ad dT=>⟨dT,jX c ad fun e=>?_⟩
        rw[e]at dT;simp at dT
       refine⟨_,_,eZ,fin (w.setRow b b3) ω _ jX (fun _ _=>rfl) GF (aV.below.setRow vK b3) (fun c ft=>?_) (bR.U3 p7 ah jy xO (fun x aa=>by rw[gE,aX (by omega)]) (fun o e aN=>by rw[<-e];exact aN) (fun c p q ad av=>⟨av,jX c ad fun e=>by rw[e]at av;simp at av⟩)) ?_⟩
       ·obtain⟨au,hB,hL,aH⟩:=aV.owned c ft;by_cases pY:c=b
        ·subst pY;exact⟨au,b3,hM,jy⟩
        exact⟨au,hB,hL,(setRow_other w b c b3 pY).trans aH⟩
       have eU:∀x ke d,cX (es++bN) x ke=some d->∃u,b3[off+x*hG.size+ke]?=some u/\bR (w.setRow b b3) ω (fun q o=>o=.tok t ((i,j)::(x,ke)::q)) d u:=by
        intro x ke d dP;rw[Bb]at dP;split at dP
        ·rename_i aa;have zK:=(s9 gu dP).2;refine⟨us x ke,?_,lW x ke d _ (ax x ke d dP)⟩;have:(x+1)*hG.size<=es.length*hG.size:=gW _ aa;rw[fB]at this;rw[gE,aX (by omega),hu x ke d dP]
        rename_i aa;obtain⟨u,h1,rfl,U⟩:=CY _ _ _ dP;have YW:=(dK.1 h1).1;have xP:x*hG.size=es.length*hG.size+(x-es.length)*hG.size:=by rw[<-fB];congr 1;omega
        refine⟨u,?_,.v _ _ U⟩;rw[gE,a6 (by omega),<-h1]
        congr 1
        omega
       have hlen:(es++bN).length=es.length+bN.length:=eK;have p8:∀e∈es++bN,e.length=hG.size:=by
        intro e' he;rcases gY.1 he with h | h
        ·exact gu e' h
        exact mJ.rows e' h
       have:=bR.row (w:=w.setRow b b3) (ω:=ω) (fun q o=>o=.tok t ((i,j)::q)) hG.size (es++bN) b off cap b3 hM (0,0) (fun x j=>b3.getD (off+x*hG.size+j) undef) jy ic (by omega) (by omega) p8
        (fun x j d ax=>by obtain⟨u,h1,_⟩:=eU x j d ax;rw[h1];simp[ea,h1])
        (fun x j d ax=>by obtain⟨u,h1,U⟩:=eU x j d ax;have:b3.getD (off+x*hG.size+j) undef=u:=(by simp[ea,h1]);rw[this];exact U)
       rw[hlen]at this;exact this
      have hmul:es.length*hG.size<=cap*hG.size:=gW _ ad;have mG:((arr.toList.drop off).take (es.length*hG.size)).length=es.length*hG.size:=by simp;omega
      have eZ:=run_append_grow (P:=P) w h9 ty e hG z bt kb aR ⟨b,off,none⟩ es.length cap ((arr.toList.drop off).take (es.length*hG.size)) mG (fun j v bj=>by
       rw[qp,cell_of_row w b (off+j) arr hM (0,0) ah];rw[gX]at bj;split at bj
       ·rw[gV]at bj;simpa using bj
       cases bj) ⟨bg,mh,none⟩ bN.length kM news mJ.len nC (by omega) (by omega) (growslice_fits (by omega) gr)
      have mD:=grownCap_ge w (es.length+bN.length) cap e;exact⟨_,_,eZ,grown _ (((arr.toList.drop off).take (es.length*hG.size)).toArray++news.toArray++Builtin.zeroCells z.cells (grownCap w (es.length+bN.length) cap e-(es.length+bN.length))) _ (grownCap w (es.length+bN.length) cap e)
       (((gA.refl _ _).drew).alloc (dm _) _) (nJ _ _) rfl mD (by
        simp only[qM,kN,size_zeroCells,mJ.len,mM,mG,<-fB];exact gW _ (by omega))
       (fun fy j d dC=>by
        obtain⟨oi,g'⟩:=s9 gu dC;have:(fy+1)*hG.size<=es.length*hG.size:=gW _ oi;rw[fB]at this;refine⟨us fy j,?_,ax fy j d dC⟩;rw[hj,a6 (by simp only[qM,kN,mG];omega),hj,a6 (by simp only[kN,mG];omega)];rw[nf,gX,a6 (by omega),gV,<-hu fy j d dC];simp only[jg]
        congr 1
        omega)
       (fun x u aa=>by
        have gk:=(dK.1 aa).1;rw[hj,a6 (by simp only[qM,kN,mG];omega),hj,aX (by simp only[kN,mG];omega)];simp only[kN,mG,nf];rw[<-aa]
        congr 1
        omega) gu⟩
    cases h
   cases h
  cases h
 cases h
theorem cx.Wg{P:Program}{w0:ev}{st bn:aE}{a:Act}{w:World}{ω:Own}{τ:Nat->Nat×Value}{d:Nat}{h9 ty:TypeId}{t j k:Nat}{es:List (List D)}{x y:Operand}{ans ch:List b4}{obs:List Prop}
  (aV:cx w0 st a w ω τ) (hp:Sat w ω τ (.aO t i j k es .here) (a.eval x)) (h:Ie P st d h9 t i j k es y ans=some (bn,ch,obs)) (aN:cB obs):
  ∃z aG,(Builtin.append_ #[h9,h9] ty #[a.eval x,a.eval y]).run P w=.ok z aG/\Rel w0 bn (a.put (some d) z) aG:=by
 unfold Ie at h;split at h
 ·rename_i e b8 kT esT jn fg he Yx;split at h
  ·rename_i inf bN va xZ hi iZ;split at h
   ·rename_i z aR;split at h
    ·rename_i ad;simp only[aQ,bw]at h;obtain⟨rfl,rfl,rfl⟩:=h;obtain⟨gr,gg,xD,GN,Hb⟩:=aN;obtain⟨o7,Yg⟩:=Hb.append;refine aV.tu (p:=.one (.aO t i j k (es++bN) .lS)) (ans:=.el jn::fg) (ch:=va) (esT:=esT) (kT:=kT) hp ?_ (obs:=((es.length+bN.length)*inf.bytes<=140737488355328)::(es.length+bN.length<=9223372036854775807)::(esT[i]?=some jn)::(jn[j]?=some (.J k es))::xZ) ⟨gr,gg,xD,GN,Yg⟩ (aV.root Yx) (DR o7);unfold Sx.tu;simp only[he,hi,iZ,aR];rw[a6 ad]
    cases h
   cases h
  cases h
 cases h
