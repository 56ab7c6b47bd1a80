import Derived.Test.YtdchjefneblpgaaGreatR11
set_option linter.unusedVariables false
set_option linter.unusedSimpArgs false
namespace Go.Sx
open Go.RowKit
def EQ(P:Program)(st:aJ)(d:Nat)(elem:TypeId)(r:List cf):Stepped:=
 match P.info? elem with
 | some i=>match i.zero with
  | some z=>if d<dn then some (⟨(st.j' d []).env.set d (.one (.fN d (z.cells.toList.map .v))),(st.j' d []).boxes⟩,r,[]) else none
  | none=>none
 | none=>none
variable{w0:eT}{st bC:aJ}{a:Act}{w:World}{ω:Own}{τ:Nat->Nat×Value}{d:Nat}{ans cq:List cf}{obs:List Prop}
theorem cJ.aaW{P:Program}{elem:TypeId}(a8:cJ w0 st a w ω τ)
  (h:EQ P st d elem ans=some (bC,cq,obs)):
  ∃z aO,(Instr.alloc elem true (.tuple #[])).run P w=.ok z aO/\Rel w0 bC (a.put (some d) z) aO:=by
 unfold EQ at h;split at h
 ·rename_i i hi;split at h
  ·rename_i z bi;split at h
   ·rename_i aG;simp only[aV,bH]at h;obtain⟨rfl,_,_⟩:=h;have h1:=a8.j' d aG [] (k:=0) (cap:=0) (es:=[]) (arr:=z.cells) (ty:=elem) ((hb.refl _ _).alloc (fI _) (.cells z.cells elem)) (ow _ _) (fI _) (by simp) (by simp)
     (by intro i j rX aj;simp[df]at aj)
    refine⟨.pointer (some ⟨w.heap.size,0,none⟩),w.alloc (.cells z.cells elem),by simp[Instr.alloc,zeroValue,typeInfo,hi,bi,newVar,newRow],_,_,h1.1.put (p:=.one (.fN d (z.cells.toList.map .v))) ?_⟩;refine⟨w.heap.size,elem,z.cells,rfl,by simp[qg],ow _ _,by simp,fun j c aj=>?_⟩;rw[dq,cc]at aj;obtain⟨u,hu,rfl⟩:=aj;exact⟨u,by simpa using hu,rfl⟩
   cases h
  cases h
 cases h
def fM(t:Nat):Tag->Option Tag
 | .free=>some .free
 | .own s=>if s=t then none else some (.own s)
 | .ro s=>if s=t then none else some (.ro s)
variable{o:db}
theorem ER{t:Nat}{g eI:Tag}{q:List (Nat×Nat)}(h:fM t g=some eI)(aA:g.R q o):eI=g/\∀dJ,o≠.tok t dJ:=by
 cases g with
 | free=>simp only[fM,aV]at h;subst h;simp only[Tag.R]at aA;subst aA;exact⟨rfl,fun dJ e=>by cases e⟩
 | own s=>
  simp only[fM]at h;split at h
  ·cases h
  rename_i ao;simp only[aV]at h;subst h;simp only[Tag.R]at aA;subst aA;exact⟨rfl,fun dJ e=>by simp only[db.tok.injEq]at e;exact ao e.1⟩
 | ro s=>
  simp only[fM]at h;split at h
  ·cases h
  rename_i ao;simp only[aV]at h;subst h;simp only[Tag.R]at aA;refine⟨rfl,fun dJ e=>?_⟩;subst e;rcases aA with aA | ⟨iv,aA⟩
  ·cases aA
  simp only[db.tok.injEq]at aA;exact ao aA.1.symm
variable{s:Nat}
theorem LV{x:Value}(this:a.tmps[s]?=some x):a.put (some s) x=a:=by
 simp only[Act.put];have:a.tmps.setIfInBounds s x=a.tmps:=by
  apply Array.ext
  ·simp
  intro i h1 U;rw[Array.getElem_setIfInBounds];split
  ·rename_i hi;subst hi;rw[ht U]at this;exact (eW this).symm
  rfl
 rw[this]
def aH.mm:aH->fj
 | .v x=>.v x
 | .bg c=>.v (.bool c)
 | .J t k es=>.J t k es
 | _=>.cA
def Kr(p:aL):Option (List fj):=p.leaves.map (·.map aH.mm)
theorem aH.R'{l:aH}{y:Value}(h:Sat w ω τ l y):rS w ω τ l.mm y:=by
 cases l<;>first | exact h | exact trivial
def fj.leaf:fj->aH
 | .cA=>.cA
 | .v x=>.v x
 | .J t k es=>.J t k es
theorem fj.dV{τ:Nat->Nat×Value}{c:fj}{y:Value}(h:rS w ω τ c y):Sat w ω τ c.leaf y:=by
 cases c<;>exact h
def ES(P:Program)(st:aJ)(ty:TypeId)(s:Nat)(q:aL)(ans:List cf):Stepped:=
 match (st.env.getD s .cA).leaf,Kr q,P.info? ty with
 | some (.fN t vs),some cs,some i=>
  if cs.length=i.size/\cs.length<=vs.length then
   let st2:=st.map (aH.cu (fM t) fun _=>true)
   some (⟨st2.env.set s (.one (.fN t ((cs++vs.drop cs.length).map (fj.cu (fM t))))),st2.boxes⟩,ans,[])
  else none
 | _,_,_=>none
theorem cJ.aBA{P:Program}{ty:TypeId}{q:aL}{v:Value}
  (a8:cJ w0 st a w ω τ) (aK:cW (Sat w ω τ) q v) (h:ES P st ty s q ans=some (bC,cq,obs)):
  ∃aO,(Instr.storeAt ty (a.eval (.tmp s)) v).run P w=.ok () aO/\Rel w0 bC a aO:=by
 unfold ES at h;split at h
 ·rename_i t vs cs i e1 e2 cg;split at h
  ·rename_i aj;obtain⟨c1,c2⟩:=aj;simp only[aV,bH]at h;obtain⟨rfl,_,_⟩:=h;unfold Kr at e2;rw[cc]at e2;obtain⟨ls,e2,rfl⟩:=e2;obtain⟨wK,oq⟩:=aL.yQ e2 aK;have c':v.cells.size=ls.length:=wK.1;rw[bl]at c1 c2;have hg:st.env[s]?=some (.one (.fN t vs)):=by
    rw[jB]at e1;cases e:st.env[s]? with
    | none=>rw[e]at e1;simp[aL.leaf]at e1
    | some p=>
     rw[e]at e1;simp only[il]at e1;cases p with
     | gf as=>cases e1
     | aI x=>
      cases x with
      | agg ls=>cases e1
      | one l=>simp only[aL.leaf,aV]at e1;rw[e1]
   obtain⟨y,bf,e3⟩:=a8.env s _ hg;obtain⟨b,ii,arr,rfl,av,yB,RT,nJ⟩:=e3;have r5:a.eval (.tmp s)=ptrTo b:=by simp[Act.eval,eG,bf]
   have fb:=run_storeCells_at P b 0 ii v.cells.toList 0 arr w yB (by simp;omega) oq;obtain⟨cd,oj⟩:∃cd,cd=(arr.toList.take (0+0)++v.cells.toList++arr.toList.drop (0+0+v.cells.toList.length)).toArray:=⟨_,rfl⟩
   rw[<-oj]at fb;have Q4:cd=(v.cells.toList++arr.toList.drop v.cells.size).toArray:=by rw[oj];simp
   refine⟨w.setRow b cd,?_,?_⟩
   ·rw[r5];simp only[ptrTo,Instr.storeAt,Instr.sureAddr,Sem.run_bind,Sem.run_pure,Result.andThen_ok,storeVar,sizeOf,typeInfo,run_program,cg];rw[bk (by simp;omega)];exact fb
   have ko:=setRow_heap w b arr cd ii (0,0) yB;have br:mB w ω τ (w.setRow b cd) ω τ (fM t) (fun _=>true):=by
    refine⟨?_,?_,fun id c _ aj=>aj,rfl,fun _ _=>rfl⟩
    ·intro g eI c q ay _ aK;obtain⟨rfl,uX⟩:=ER ay aK;exact⟨aK,setRow_other w b c _ fun e=>uX [] (by rw[e];exact av)⟩
    intro g eI y ay bf;cases g with
    | free=>simp only[fM,aV]at ay;subst ay;trivial
    | own x=>
     simp only[fM]at ay;split at ay
     ·cases ay
     simp only[aV]at ay;subst ay;exact bf
    | ro x=>
     simp only[fM]at ay;split at ay
     ·cases ay
     simp only[aV]at ay;subst ay;trivial
   have h1:cJ w0 (st.map (aH.cu (fM t) fun _=>true)) a (w.setRow b cd) ω τ:=by
    refine a8.dC _ br.sat (a8.below.setRow (a8.owned b (by rw[av];simp)).1 _) ?_ (fun id c aj=>⟨aj,setRow_other w b c _ fun e=>by rw[e,av]at aj;cases aj⟩) (fun id c aj=>aj) (fun _ _=>rfl);intro c aj;obtain⟨h1,iD,iM,U⟩:=a8.owned c aj;by_cases e:c=b
    ·subst e;exact⟨h1,_,ii,ko⟩
    exact⟨h1,iD,iM,(setRow_other w b c _ e).trans U⟩
   have Q8:cd.size=(ls.map aH.mm++vs.drop (ls.map aH.mm).length).length/\∀(j:Nat) (c:fj),(ls.map aH.mm++vs.drop (ls.map aH.mm).length)[j]?=some c->∃u,cd[j]?=some u/\rS w ω τ c u:=by
    refine⟨by rw[Q4];simp;omega,fun j c aj=>?_⟩;rw[Q4,nW];by_cases a1:j<ls.length
    ·rw[ur (by simpa using a1),dq,cc]at aj;obtain⟨l,ap,rfl⟩:=aj;obtain⟨u,f',eY⟩:=wK.2 j l ap;exact⟨u,by rw[ur (by simp;omega)];simpa using f',aH.R' eY⟩
    rw[qv (by simpa using a1),bl,gH]at aj;obtain⟨u,f',eY⟩:=nJ _ c aj;refine⟨u,?_,eY⟩;rw[qv (by simp;omega),gH,iO,<-f']
    congr 1
    simp only[v8];omega
   have Jr:=EV br.mm Q8.1 Q8.2;have U:=h1.put (d:=s) (p:=.one (.fN t ((ls.map aH.mm++vs.drop (ls.map aH.mm).length).map (fj.cu (fM t))))) (v:=ptrTo b) ⟨b,ii,cd,rfl,av,ko,Jr⟩;rw[LV bf]at U;exact⟨ω,τ,U⟩
  cases h
 cases h
def Ku(st:aJ)(d:Nat):Option aJ:=
 match st.env.getD d .cA with
 | .aI (.one (.fN t vs))=>
  if d<dn then some ⟨(st.env.map (aL.map (aH.cu (fM t) (ky d)))).set d (.one (.ptr d 0)),(d,vs.map fun c=>aH.cu (fM t) (ky d) c.leaf)::(qd d st.boxes).map fun x=>(x.1,x.2.map (aH.cu (fM t) (ky d)))⟩ else none
 | _=>none
theorem avJ(h:Rel w0 st a w)(aX:Ku st d=some bC):Rel w0 bC a w:=by
 obtain⟨ω,τ,h⟩:=h;unfold Ku at aX;split at aX
 ·rename_i t vs he;split at aX
  case isFalse=>cases aX
  rename_i tk;simp only[aV]at aX;subst aX;have hg:st.env[d]?=some (.one (.fN t vs)):=by
   rw[jB]at he;cases e:st.env[d]? with
   | none=>rw[e]at he;cases he
   | some p=>rw[e]at he;simp only[il]at he;rw[he]
  obtain⟨v,u2,q5⟩:=h.env d _ hg;obtain⟨b,ty,arr,rfl,av,yB,RT,nJ⟩:=q5
  let bc:Own:=fun c=>if c=b then .box d else match ω c with | .box i=>if i=d then .bI else .box i | o=>o
  have lW:bc b=.box d:=by simp[bc]
  have hL:∀c,c≠b->bc c=(match ω c with | .box i=>if i=d then .bI else .box i | o=>o):=by
   intro c aj;simp only[bc];rw[bk aj]
  have br:mB w ω τ w bc τ (fM t) (ky d):=by
   refine⟨?_,?_,?_,rfl,fun _ _=>rfl⟩
   ·intro g eI c q ay _ aK;obtain⟨rfl,uX⟩:=ER ay aK;have gp:c≠b:=fun e=>uX [] (by rw[e];exact av)
    refine⟨?_,rfl⟩;rw[hL c gp];cases eI with
    | free=>simp only[Tag.R]at aK ⊢;rw[aK]
    | own s=>simp only[Tag.R]at aK ⊢;rw[aK]
    | ro s=>
     simp only[Tag.R]at aK ⊢;rcases aK with aK | ⟨dJ,aK⟩
     ·rw[aK];exact .inl rfl
     rw[aK];exact .inr ⟨dJ,rfl⟩
   ·intro g eI y ay bf;cases g with
    | free=>simp only[fM,aV]at ay;subst ay;trivial
    | own s=>
     simp only[fM]at ay;split at ay
     ·cases ay
     simp only[aV]at ay;subst ay;exact bf
    | ro s=>
     simp only[fM]at ay;split at ay
     ·cases ay
     simp only[aV]at ay;subst ay;trivial
   intro i c hp aj;have gp:c≠b:=fun e=>by rw[e,av]at aj;cases aj
   rw[hL c gp,aj];simp only[ky,cV]at hp;simp[hp]
  have q2:oR w0 w bc:=by
   intro c aj;by_cases e:c=b
   ·subst e;exact h.owned c (by rw[av];simp)
   rw[hL c e]at aj;exact h.owned c (fun e'=>by rw[e']at aj;exact aj rfl)
  have key:=h.Iw (bs:=(d,vs.map fun c=>aH.cu (fM t) (ky d) c.leaf)::(qd d st.boxes).map fun x=>(x.1,x.2.map (aH.cu (fM t) (ky d)))) br h.below q2 ?_ (fun i c hi aj=>by
   by_cases aX:c=b
   ·subst aX;rw[lW]at aj;simp only[db.box.injEq]at aj;omega
   rw[hL c aX]at aj;cases e:ω c with
   | bI=>simp[e]at aj
   | tok t q=>simp[e]at aj
   | box j=>
    simp only[e]at aj;split at aj
    ·cases aj
    exact aj)
  ·have:=key.put (d:=d) (p:=.one (.ptr d 0)) (v:=ptrTo b) ⟨b,lW,rfl⟩;rw[LV u2]at this;exact⟨bc,τ,this⟩
  intro i fz ap;simp only[dM]at ap;split at ap
  ·rename_i hi;subst hi;have e:=eW ap;subst e;refine⟨b,arr,ty,lW,?_,yB,by simpa using RT,fun j l a1=>?_⟩
   ·intro dc dL;by_cases aX:dc=b
    ·exact aX
    rw[hL dc aX]at dL;cases e:ω dc with
    | bI=>simp[e]at dL
    | tok t q=>simp[e]at dL
    | box j=>
     simp only[e]at dL;split at dL
     ·cases dL
     rename_i cC;simp only[db.box.injEq]at dL;exact absurd dL cC
   rw[dq,cc]at a1;obtain⟨c,aj,rfl⟩:=a1;obtain⟨u,f',eY⟩:=nJ j c aj;exact⟨u,f',br.sat _ _ (fj.dV eY)⟩
  rename_i hi;rw[tI,cc]at ap;obtain⟨j8,bG,rfl⟩:=ap;have cC:i≠d:=fun e=>hi e.symm
  rw[zu cC]at bG;obtain⟨c,cd,rK,aj,hu,bJ,e3⟩:=h.boxes i j8 bG;refine⟨c,cd,rK,br.box i c (by simp[ky,cC]) aj,?_,bJ,e3.map br.sat⟩;intro dc dL;by_cases aX:dc=b
  ·subst aX;rw[lW]at dL;simp only[db.box.injEq]at dL;exact absurd dL.symm cC
  rw[hL dc aX]at dL;refine hu dc ?_;cases e:ω dc with
  | bI=>simp[e]at dL
  | tok t q=>simp[e]at dL
  | box j=>
   simp only[e]at dL;split at dL
   ·cases dL
   exact dL
 cases aX
def Ij(st:aJ)(d:Nat):Option aJ:=
 match st.env.getD d .cA,dM d st.boxes with
 | .aI (.one (.ptr dP 0)),some ls=>
  if dP=d/\d<dn then some ⟨(st.env.map (aL.map (aH.cu (fM d) (ky d)))).set d (.one (.fN d ((ls.map aH.mm).map (fj.cu (fM d))))),(qd d st.boxes).map fun x=>(x.1,x.2.map (aH.cu (fM d) (ky d)))⟩ else none
 | _,_=>none
theorem avK(h:Rel w0 st a w)(aX:Ij st d=some bC):Rel w0 bC a w:=by
 obtain⟨ω,τ,h⟩:=h;unfold Ij at aX;split at aX
 ·rename_i dP ls he cy;split at aX
  case isFalse=>cases aX
  rename_i tk;obtain⟨rfl,tk⟩:=tk;simp only[aV]at aX;subst aX;have hg:st.env[dP]?=some (.one (.ptr dP 0)):=by
   rw[jB]at he;cases e:st.env[dP]? with
   | none=>rw[e]at he;cases he
   | some p=>rw[e]at he;simp only[il]at he;rw[he]
  obtain⟨v,u2,q5⟩:=h.env dP _ hg;obtain⟨bX,iG,rfl⟩:=q5;obtain⟨b,arr,ty,av,abC,yB,wK⟩:=h.boxes dP ls cy;have IY:bX=b:=abC bX iG;subst IY
  let bc:Own:=fun c=>if c=bX then .tok dP [] else match ω c with | .tok s q=>if s=dP then .bI else .tok s q | o=>o
  have lW:bc bX=.tok dP []:=by simp[bc]
  have hL:∀c,c≠bX->bc c=(match ω c with | .tok s q=>if s=dP then .bI else .tok s q | o=>o):=by
   intro c aj;simp only[bc];rw[bk aj]
  have br:mB w ω τ w bc τ (fM dP) (ky dP):=by
   refine⟨?_,?_,?_,rfl,fun _ _=>rfl⟩
   ·intro g eI c q ay _ aK;obtain⟨rfl,uX⟩:=ER ay aK;have gp:c≠bX:=fun e=>by
     rw[e,av]at aK;cases eI with
     | free=>cases aK
     | own s=>cases aK
     | ro s=>
      rcases aK with aK | ⟨dJ,aK⟩
      ·cases aK
      cases aK
    refine⟨?_,rfl⟩;rw[hL c gp];cases eI with
    | free=>simp only[Tag.R]at aK ⊢;rw[aK]
    | own s=>
     simp only[Tag.R]at aK ⊢;rw[aK];simp only;rw[bk];rintro rfl;exact uX _ aK
    | ro s=>
     simp only[Tag.R]at aK ⊢;rcases aK with aK | ⟨dJ,aK⟩
     ·rw[aK];exact .inl rfl
     rw[aK];simp only;rw[bk]
     ·exact .inr ⟨dJ,rfl⟩
     rintro rfl;exact uX _ aK
   ·intro g eI y ay bf;cases g with
    | free=>simp only[fM,aV]at ay;subst ay;trivial
    | own s=>
     simp only[fM]at ay;split at ay
     ·cases ay
     simp only[aV]at ay;subst ay;exact bf
    | ro s=>
     simp only[fM]at ay;split at ay
     ·cases ay
     simp only[aV]at ay;subst ay;trivial
   intro i c hp aj;simp only[ky,cV]at hp;have gp:c≠bX:=fun e=>by rw[e,av]at aj;simp only[db.box.injEq]at aj;exact hp aj.symm
   rw[hL c gp,aj]
  have q2:oR w0 w bc:=by
   intro c aj;by_cases e:c=bX
   ·subst e;exact h.owned c (by rw[av];simp)
   rw[hL c e]at aj;exact h.owned c (fun e'=>by rw[e']at aj;exact aj rfl)
  have Q5:∀i c,bc c=.box i->ω c=.box i/\c≠bX:=by
   intro i c aj;by_cases aX:c=bX
   ·subst aX;rw[lW]at aj;cases aj
   rw[hL c aX]at aj;cases e:ω c with
   | bI=>simp[e]at aj
   | box j=>simp only[e]at aj;exact⟨aj,aX⟩
   | tok t q=>
    simp only[e]at aj;split at aj<;>cases aj
  have key:=h.Iw (bs:=(qd dP st.boxes).map fun x=>(x.1,x.2.map (aH.cu (fM dP) (ky dP)))) br h.below q2 ?_ (fun i c _ aj=>(Q5 i c aj).1)
  ·have:=key.put (d:=dP) (p:=.one (.fN dP ((ls.map aH.mm).map (fj.cu (fM dP))))) (v:=ptrTo bX) ⟨bX,ty,arr,rfl,lW,yB,EV br.mm (by rw[wK.1];simp) (fun j c aj=>by
    rw[dq,cc]at aj;obtain⟨l,ap,rfl⟩:=aj;obtain⟨u,f',eY⟩:=wK.2 j l ap;exact⟨u,f',aH.R' eY⟩)⟩
   rw[LV (show a.tmps[dP]?=some (ptrTo bX) from u2)]at this;exact⟨bc,τ,this⟩
  intro i fz ap;rw[tI,cc]at ap;obtain⟨j8,bG,rfl⟩:=ap;have cC:i≠dP:=fun e=>by rw[e,KS]at bG;cases bG
  rw[zu cC]at bG;obtain⟨c,cd,rK,aj,hu,bJ,e3⟩:=h.boxes i j8 bG;exact⟨c,cd,rK,br.box i c (by simp[ky,cC]) aj,fun dc dL=>hu dc (Q5 i dc dL).1,bJ,e3.map br.sat⟩
 cases aX
def B6:List Nat->aJ->Option aJ
 | [],st=>some st
 | d::ds,st=>(Ij st d).bind (B6 ds)
theorem TH:∀{ds:List Nat} {st bC:aJ},Rel w0 st a w->B6 ds st=some bC->Rel w0 bC a w
 | [],st,bC,h,aX=>by simp only[B6,aV]at aX;subst aX;exact h
 | d::ds,st,bC,h,aX=>by
  simp only[B6,ni]at aX;obtain⟨st1,h1,U⟩:=aX;exact TH (avK h h1) U
def B7:List Nat->aJ->Option aJ
 | [],st=>some st
 | d::ds,st=>(Ku st d).bind (B7 ds)
theorem TI:∀{ds:List Nat} {st bC:aJ},Rel w0 st a w->B7 ds st=some bC->Rel w0 bC a w
 | [],st,bC,h,aX=>by simp only[B7,aV]at aX;subst aX;exact h
 | d::ds,st,bC,h,aX=>by
  simp only[B7,ni]at aX;obtain⟨st1,h1,U⟩:=aX;exact TI (avJ h h1) U
def lk(s n:Nat):Tag->Option Tag
 | .own x=>if x=s then some (.ro n) else if x=n then none else some (.own x)
 | .ro x=>if x=s then some (.ro n) else if x=n then none else some (.ro x)
 | .free=>some .free
def kz(s n l:Nat):db->db
 | .tok x q=>if x=s then (match q with | []=>.tok n [] | (i,j)::r=>if i<l then .bI else .tok n ((i-l,j)::r)) else if x=n then .bI else .tok x q
 | o=>o
variable{l n:Nat}
theorem LW(h:kz s n l o≠.bI):o≠.bI:=by rintro rfl;exact h rfl
theorem vb{id:Nat}:kz s n l o=.box id<->o=.box id:=by
 cases o with
 | bI=>simp[kz]
 | box i=>simp[kz]
 | tok x q=>
  simp only[kz];split
  ·split
   ·simp
   ·split<;>simp
  ·split<;>simp
theorem TJ{q:List (Nat×Nat)}:kz s n l (.tok s q)=.bI\/∃dJ,kz s n l (.tok s q)=.tok n dJ:=by
 simp only[kz,fX];split
 ·exact .inr ⟨_,rfl⟩
 split
 ·exact .inl rfl
 exact .inr ⟨_,rfl⟩
theorem LX{k:Nat}{z:Value}(iU:n<dn):mB w ω τ w (fun b=>kz s n l (ω b)) (gX τ n k z) (lk s n) (fun _=>true):=by
 refine⟨?_,?_,?_,rfl,fun t bT=>by simp only[gX];rw[bk (by omega)]⟩
 ·intro g eI b q ay _ aK;refine⟨?_,rfl⟩;cases g with
  | free=>simp only[lk,aV]at ay;subst ay;simp only[Tag.R]at aK ⊢;rw[aK];rfl
  | own x=>
   simp only[lk]at ay;simp only[Tag.R]at aK;split at ay
   ·rename_i ao;simp only[aV]at ay;subst ay;subst ao;simp only[Tag.R,aK];exact TJ
   rename_i ao;split at ay
   ·cases ay
   rename_i aX;simp only[aV]at ay;subst ay;simp only[Tag.R,aK,kz,bk ao,bk aX]
  | ro x=>
   simp only[lk]at ay;simp only[Tag.R]at aK;split at ay
   ·rename_i ao;simp only[aV]at ay;subst ay;subst ao;rcases aK with aK | ⟨dJ,aK⟩
    ·rw[aK];exact .inl rfl
    rw[aK];exact TJ
   rename_i ao;split at ay
   ·cases ay
   rename_i aX;simp only[aV]at ay;subst ay;rcases aK with aK | ⟨dJ,aK⟩
   ·rw[aK];exact .inl rfl
   rw[aK];simp only[kz,bk ao,bk aX];exact .inr ⟨dJ,rfl⟩
 ·intro g eI y ay bf;cases g with
  | free=>simp only[lk,aV]at ay;subst ay;trivial
  | own x=>
   simp only[lk]at ay;split at ay
   ·simp only[aV]at ay;subst ay;trivial
   rename_i ao;split at ay
   ·cases ay
   rename_i aX;simp only[aV]at ay;subst ay;simp only[Tag.ev,gX,bk aX]at bf ⊢;exact bf
  | ro x=>
   simp only[lk]at ay;split at ay
   ·simp only[aV]at ay;subst ay;trivial
   split at ay
   ·cases ay
   simp only[aV]at ay;subst ay;trivial
 intro id b _ av;exact vb.2 av
def pA(s d:Nat):Nat:=if s<dn then s else d
def z'(P:Program)(st:aJ)(d:Nat)(t:TypeId)(p:aL)(de hi jI:Option Operand)(ans:List cf):Stepped:=
 match ru P t,p.leaf,jI with
 | some (_,k),some (.J (.own s) cw es),none=>
  if k=cw/\pA s d<dn then
   match nc st de,nc st hi with
   | some l,some h=>
    let st2:=st.map (aH.cu (lk s (pA s d)) fun _=>true)
    some (⟨st2.env.set d (.one (.J (.own (pA s d)) k ((es.drop (l.getD 0).toNat).take ((h.getD es.length).toNat-(l.getD 0).toNat)))),st2.boxes⟩,ans,[0<=l.getD 0,l.getD 0<=h.getD es.length,h.getD es.length<=es.length])
   | _,_=>none
  else none
 | _,_,_=>none
theorem cJ.z'{P:Program}{t:TypeId}{p:aL}{v:Value}{de hi jI:Option Operand}
  (a8:cJ w0 st a w ω τ) (hp:cW (Sat w ω τ) p v) (h:z' P st d t p de hi jI ans=some (bC,cq,obs)) (ba:cL obs):
  ∃z,(Instr.sliceAt t v (de.map a.eval) (hi.map a.eval) (jI.map a.eval)).run P w=.ok z w/\Rel w0 bC (a.put (some d) z) w:=by
 unfold Go.Sx.z' at h;split at h
 ·rename_i e k s cw es e1 e2;split at h
  ·rename_i hk;obtain⟨rfl,ao⟩:=hk;split at h
   ·rename_i l bJ cg eo;simp only[aV,bH]at h;obtain⟨rfl,_,rfl⟩:=h;obtain⟨hu,i,lb,bi⟩:=xd e1;obtain⟨aA,_⟩:=aL.dV e2 hp;obtain⟨ci,b6,ct,_⟩:=ba;have ax:=BV a8 cg;have aF:=BV a8 eo;have qW:(de.map a.eval=none/\l.getD 0=0)\/∃k,de.map a.eval=some (.int k (l.getD 0)):=by
     rcases ax with⟨h,rfl⟩ | ⟨k,n,h,rfl⟩
     ·exact .inl ⟨h,rfl⟩
     exact .inr ⟨k,h⟩
    have r7:(hi.map a.eval=none/\bJ.getD es.length=es.length)\/∃k,hi.map a.eval=some (.int k (bJ.getD es.length)):=by
     rcases aF with⟨h,rfl⟩ | ⟨k,n,h,rfl⟩
     ·exact .inl ⟨h,rfl⟩
     exact .inr ⟨k,h⟩
    have key:∀(L m:Nat) (z:Value),L<=m->b0 w (fun b=>kz s (pA s d) L (ω b)) (Tag.own (pA s d)).R (.J k ((es.drop L).take (m-L))) z->
      Rel w0 ⟨(st.map (aH.cu (lk s (pA s d)) fun _=>true)).env.set d (.one (.J (.own (pA s d)) k ((es.drop L).take (m-L)))),(st.map (aH.cu (lk s (pA s d)) fun _=>true)).boxes⟩ (a.put (some d) z) w:=by
     intro L m z _ Et;have h1:cJ w0 (st.map (aH.cu (lk s (pA s d)) fun _=>true)) a w (fun b=>kz s (pA s d) L (ω b)) (gX τ (pA s d) k z):=
      a8.dC _ (LX (by omega)).sat a8.below (fun b av=>a8.owned b (LW av)) (fun id b av=>⟨vb.2 av,rfl⟩) (fun id b av=>vb.1 av)
       (fun t bT=>by simp only[gX];rw[bk (by omega)])
     exact⟨_,_,h1.put (p:=.one (.J (.own (pA s d)) k ((es.drop L).take (m-L)))) ⟨Et,by simp[Tag.ev,gX]⟩⟩
    cases aA with
    | nil _ _ a0=>
     simp only[b7] at*;have bu:l.getD 0=0:=by omega
     have Iq:bJ.getD ((0:Nat):Int)=0:=by omega
     refine⟨.slice a0 0 0,?_,?_⟩
     ·simp only[Instr.sliceAt,Sem.run_bind,run_underlying hu,Result.andThen_ok,Instr.slice,Option.map_none];rw[BU qW r7 ci b6 ct];have Ir:bJ.getD 0=0:=by simpa using Iq
      simp[sizeOf,typeInfo,lb,bu,Ir]
     refine key _ _ _ (by omega) ?_;simp only[List.drop_nil,List.take_nil];exact .nil _ _ _
    | row R k es b off cap arr ty c3 us av ej aj c' hk kr aG=>
     refine⟨sliced (some ⟨b,off,none⟩) (l.getD 0).toNat (bJ.getD es.length).toNat cap k,?_,?_⟩
     ·simp only[Instr.sliceAt,Sem.run_bind,run_underlying hu,Result.andThen_ok,Instr.slice,Option.map_none];rw[BU qW r7 ci b6 (by omega)];simp[sizeOf,typeInfo,lb,bi,sliced]
     refine key _ _ _ (by omega) ?_;have:=b0.sub (.row _ k es b off cap arr ty c3 us av ej aj c' hk kr aG) (l:=(l.getD 0).toNat) (m:=(bJ.getD es.length).toNat) (by omega) (by omega)
      (jm:=fun q o=>match q with | []=>o=.tok s [] | (i,j)::r=>o=.tok s ((i+(l.getD 0).toNat,j)::r)) (fun o h=>h) (fun i j q o acx h=>by
       simp only[Tag.R]at h;simp only[Nat.sub_add_cancel acx];exact h)
     refine this.frame fun c q _ aK=>⟨?_,rfl⟩
     simp only[Tag.R];cases q with
     | nil=>simp only at aK;rw[aK];simp[kz]
     | cons x r=>
      obtain⟨i,j⟩:=x;simp only at aK;rw[aK];have cz:¬(i+(l.getD 0).toNat<(l.getD 0).toNat):=by omega
      simp only[kz,fX,bk cz,Nat.add_sub_cancel]
   cases h
  cases h
 cases h
end Go.Sx
namespace Go.Sx
open Go.RowKit
def laid(arr:Array Value)(o:Nat)(cs:List Value):Array Value:=(arr.toList.take o++cs++arr.toList.drop (o+cs.length)).toArray
theorem oA{arr:Array Value}{o:Nat}{cs:List Value}(h:o+cs.length<=arr.size):(laid arr o cs).size=arr.size:=by
 simp[laid];omega
theorem l0{arr:Array Value}{o:Nat}{cs:List Value}(h:o+cs.length<=arr.size)(x:Nat):
  (laid arr o cs)[x]?=if o<=x/\x<o+cs.length then cs[x-o]? else arr[x]?:=by
 simp only[laid,nW,oM];have ap:(arr.toList.take o).length=o:=by simp;omega
 split
 ·rename_i ah;rw[qv (by omega),ur (by omega),ap]
 rename_i ah;by_cases h1:x<o
 ·rw[ur (by omega),gI,bm h1,iO]
 rw[qv (by omega),qv (by omega),ap,gH,iO]
 congr 1
 omega
theorem ET{P:Program}(w:World)(dt bj ty elem:TypeId)(k b o D2 aa6:Nat)(arr:Array Value)(tb:TypeId)(a:Addr)(CU YQ:Nat)(cs:List Value)
  (hu:P.underlying dt=some (.slice elem)) (ao:(P.info? elem).map (·.size)=some k) (av:w.heap[b]?=some (.cells arr tb (0,0))) (aX:cs.length=Nat.min CU D2*k)
  (jG:∀j v,cs[j]?=some v->w.cell? (a.add j)=some v) (dI:o+cs.length<=arr.size) (h1:∀v∈cs,v.oneCell'=true):
  (Builtin.copy_ #[dt,bj] ty #[.slice (some ⟨b,o,none⟩) D2 aa6,.slice (some a) CU YQ]).run P w=.ok (goInt (Nat.min CU D2)) (w.setRow b (laid arr o cs)):=by
 have b2:=run_firstCells_some (P:=P) w k (Nat.min CU D2) a CU YQ cs aX jG;have fb:=run_storeCells_at P b o tb cs 0 arr w av (by simpa using dI) h1;simp only[np]at fb;cases aK:P.info? elem with
 | none=>simp[aK]at ao
 | some i=>
  have hi:i.size=k:=by simpa[aK]using ao
  subst hi;simp[Builtin.copy_,run_underlying hu,Builtin.lenOf,sizeOf,typeInfo,aK,b2,fb,laid]
theorem LY{P:Program}(w:World)(t e ty:TypeId)(z:Value)(bT:P.underlying t=some (.slice e))(bp:(zeroValue e).run P w=.ok z w)(b o n c:Nat)(arr:Array Value)(tb:TypeId)
  (av:w.heap[b]?=some (.cells arr tb (0,0))) (dI:o+n*z.cells.size<=arr.size) (h1:∀v∈z.cells.toList,v.oneCell'=true):
  ∃zs:List Value,zs.length=n*z.cells.size/\(∀m,m<n*z.cells.size->zs[m]?=z.cells[m % z.cells.size]?)/\(Builtin.clear_ #[t] ty #[.slice (some ⟨b,o,none⟩) n c]).run P w=.ok (.tuple #[]) (if n=0 then w else w.setRow b (laid arr o zs)):=by
 refine⟨(Builtin.zeroCells z.cells n).toList,by simp[Builtin.zeroCells],fun m hm=>?_,?_⟩
 ·have Es:0<z.cells.size:=by
   rcases Nat.eq_zero_or_pos z.cells.size with h | h
   ·rw[h]at hm;simp at hm
   exact h
  simp only[Builtin.zeroCells,Array.toList_map,Array.toList_range,dq,List.getElem?_range hm,mz];rw[getElem!_pos z.cells _ (Nat.mod_lt _ Es),ht (Nat.mod_lt _ Es)]
 have oq:∀v∈(Builtin.zeroCells z.cells n).toList,v.oneCell'=true:=by
  intro v Bn;simp only[Builtin.zeroCells,Array.toList_map,lo,Array.toList_range,List.mem_range]at Bn;obtain⟨i,hi,rfl⟩:=Bn;have Es:0<z.cells.size:=by
   rcases Nat.eq_zero_or_pos z.cells.size with h | h
   ·rw[h]at hi;simp at hi
   exact h
  refine h1 _ ?_;rw[getElem!_pos z.cells _ (Nat.mod_lt _ Es)];simp
 have fb:=run_storeCells_at P b o tb (Builtin.zeroCells z.cells n).toList 0 arr w av (by simpa[Builtin.zeroCells]using dI) oq;simp only[np]at fb;cases n with
 | zero=>simp[Builtin.clear_,run_underlying bT]
 | succ n=>simp[Builtin.clear_,run_underlying bT,bp,fb,laid]
def y'(t k:Nat)(cv:List (List D)):aH->aH
 | .J (.own s) cw es=>if s=t then .J (.own t) k cv else .J (.own s) cw es
 | l=>aH.cu (fM t) (fun _=>true) l
def EU(P:Program)(st:aJ)(d:Nat)(t:TypeId)(x:Operand)(de:Option Operand)(eS:TypeId)(ans:List cf):Stepped:=
 match ru P t,(st.br x).leaf with
 | some (e,k),some (.J (.own hV) cw es)=>
  match P.info? e with
  | some i=>
   match i.zero,nc st de with
   | some z,some l=>
    if k=cw/\t=eS/\z.cells.size=k/\z.cells.toList.all (fun v=>v.oneCell')=true/\d<st.env.length then
     let st2:=st.map (y' hV k (es.take (l.getD 0).toNat++List.replicate (es.length-(l.getD 0).toNat) (z.cells.toList.map .v)))
     some (⟨st2.env.set d .cA,st2.boxes⟩,ans,[0<=l.getD 0,l.getD 0<es.length,Flat es])
    else none
   | _,_=>none
  | none=>none
 | _,_=>none
theorem cJ.clear{P:Program}{w0:eT}{st bC:aJ}{a:Act}{w:World}{ω:Own}{τ:Nat->Nat×Value}{d:Nat}{t eS:TypeId}{x:Operand}{de:Option Operand}{ans cq:List cf}{obs:List Prop}
  (a8:cJ w0 st a w ω τ) (h:EU P st d t x de eS ans=some (bC,cq,obs)) (ba:cL obs):
  d<a.tmps.size/\∃y z aO,(Instr.sliceAt t (a.eval x) (de.map a.eval) none none).run P w=.ok y w/\(∀ty,(Builtin.clear_ #[eS] ty #[y]).run P w=.ok z aO)/\Rel w0 bC (a.put (some d) y) aO:=by
 unfold EU at h;split at h
 ·rename_i e k hV cw es he ah;split at h
  ·rename_i i hi;split at h
   ·rename_i z l bi Rs;split at h
    ·rename_i aj;obtain⟨rfl,rfl,nK,Bu,qR⟩:=aj;refine⟨by rw[a8.size];exact qR,?_⟩;simp only[aV,bH]at h;obtain⟨rfl,_,rfl⟩:=h;obtain⟨ci,b6,Ek,_⟩:=ba;obtain⟨hu,i2,lc,c'⟩:=xd he;obtain⟨aA,bJ⟩:=aL.dV ah (a8.br x);have ax:=BV a8 Rs;have qW:(de.map a.eval=none/\l.getD 0=0)\/∃k,de.map a.eval=some (.int k (l.getD 0)):=by
      rcases ax with⟨h,rfl⟩ | ⟨k,n,h,rfl⟩
      ·exact .inl ⟨h,rfl⟩
      exact .inr ⟨k,h⟩
     generalize r5:a.eval x=my at aA bJ;cases aA with
     | nil _ _ a0=>simp at b6;omega
     | row R k es b off cap arr ty c3 us av ej gA ao hk kr aG=>
      have iT:ω b=.tok hV []:=ej;obtain⟨j4,uz,vW,iG⟩:=a8.owned b (by rw[iT];simp);rw[av]at iG;simp only[aV,Obj.cells.injEq]at iG;obtain⟨rfl,rfl,rfl⟩:=iG;obtain⟨L,cz⟩:∃L,L=(l.getD 0).toNat:=⟨_,rfl⟩
      have aCE:L<es.length:=by omega
      rw[<-cz];have dI:off+L*k+(es.length-L)*z.cells.size<=arr.size:=by
       rw[nK,wc,<-gg,show L+(es.length-L)=es.length by omega];have:=hF k gA;omega
      have adv:(zeroValue e).run P w=.ok z w:=by simp[zeroValue,typeInfo,hi,bi]
      obtain⟨zs,lh,RZ,uP⟩:∃zs:List Value,zs.length=(es.length-L)*z.cells.size/\(∀m,m<(es.length-L)*z.cells.size->zs[m]?=z.cells[m % z.cells.size]?)/\
        ∀ty,(Builtin.clear_ #[t] ty #[.slice (some ⟨b,off+L*k,none⟩) (es.length-L) (cap-L)]).run P w=.ok (.tuple #[]) (if es.length-L=0 then w else w.setRow b (laid arr (off+L*k) zs)):=by
       obtain⟨zs,h1,U,ax⟩:=LY (P:=P) w t e 0 z hu adv b (off+L*k) (es.length-L) (cap-L) arr ty av dI (gx.1 Bu);exact⟨zs,h1,U,fun rK=>ax⟩
      rw[bk (by omega)]at uP;rw[nK]at lh RZ;have c4:off+L*k+zs.length<=arr.size:=by rw[lh,<-nK];exact nK▸dI
      refine⟨.slice (some ⟨b,off+L*k,none⟩) (es.length-L) (cap-L),_,_,?_,uP,?_⟩
      ·simp only[Instr.sliceAt,Sem.run_bind,run_underlying hu,Result.andThen_ok,Instr.slice,Option.map_none];rw[BU (h:=es.length) qW (.inl ⟨rfl,rfl⟩) ci (by omega) (by omega)];have cC:¬cap=L:=by omega
       simp[sizeOf,typeInfo,lc,c',<-cz,cC,Addr.add_lit]
      -- aDA aBw behind it
      have ko:=setRow_heap w b arr (laid arr (off+L*k) zs) ty (0,0) av;have gL:b0 (w.setRow b (laid arr (off+L*k) zs)) ω (Tag.own hV).R (.J k (es.take L++List.replicate (es.length-L) (z.cells.toList.map .v))) (.slice (some ⟨b,off,none⟩) es.length cap):=by
       have hlen:(es.take L++List.replicate (es.length-L) (z.cells.toList.map D.v)).length=es.length:=by simp;omega
       have fH:∀x j d,df (es.take L++List.replicate (es.length-L) (z.cells.toList.map D.v)) x j=some d->∃v,d=.v v/\(laid arr (off+L*k) zs)[off+x*k+j]?=some v/\v.oneCell'=true:=by
        intro x j d er;rw[BZ]at er;have Bj:(es.take L).length=L:=by simp;omega
        rw[Bj]at er;split at er
        ·rename_i JF;have wG:df es x j=some d:=by
          unfold df at er ⊢;rwa[gI,bm JF]at er
         obtain⟨gi,jF⟩:=tJ hk wG;have o7:∃v,d=.v v:=by
          unfold df at wG;cases e1:es[x]? with
          | none=>simp[e1]at wG
          | some ds=>
           simp only[e1,nX]at wG;exact Ek ds (ft e1) d (ft wG)
         obtain⟨v,rfl⟩:=o7;have aF:=aG x j _ wG;have aZ:=kr x j _ wG;generalize us x j=u at aF aZ;cases aF with
         | v _ _ bB=>
          refine⟨v,rfl,?_,bB⟩;rw[l0 c4,bk ?_,aZ];have:(x+1)*k<=L*k:=hF _ JF;rw[gg]at this;omega
        rename_i JF;unfold df at er;rw[DB]at er;split at er
        ·rename_i tv;simp only[nX,dq,cc]at er;obtain⟨v,bp,rfl⟩:=er;have A5:j<k:=by
          have:=(ek.1 bp).1;rw[v8,nK]at this;exact this
         refine⟨v,rfl,?_,gx.1 Bu v (ft bp)⟩;obtain⟨m,hm⟩:∃m,x=L+m:=⟨x-L,by omega⟩
         subst hm;have acG:m*k+j<(es.length-L)*k:=by
          have:(m+1)*k<=(es.length-L)*k:=hF _ (by omega);rw[gg]at this;omega
         have e1:off+(L+m)*k+j=off+L*k+(m*k+j):=by rw[gg];omega
         rw[e1,l0 c4,bm (by omega),show off+L*k+(m*k+j)-(off+L*k)=m*k+j by omega,RZ _ acG,show (m*k+j) % k=j by rw[Nat.mul_comm m k,Nat.mul_add_mod,Ao A5]];simpa using bp
        simp at er
       have:=b0.row (w:=w.setRow b (laid arr (off+L*k) zs)) (ω:=ω) (Tag.own hV).R k (es.take L++List.replicate (es.length-L) (z.cells.toList.map .v)) b off cap _ ty (0,0)
        (fun x j=>(laid arr (off+L*k) zs).getD (off+x*k+j) undef) ko ej (by omega) (by rw[oA c4];exact ao)
        (by
         intro e' qT;rcases ki.1 qT with h | h
         ·exact hk e' (qx h)
         rw[List.eq_of_mem_replicate h];simp[nK])
        (fun x j d er=>by obtain⟨v,rfl,h1,_⟩:=fH x j d er;simp[eG,h1])
        (fun x j d er=>by
         obtain⟨v,rfl,h1,U⟩:=fH x j d er;have:(laid arr (off+L*k) zs).getD (off+x*k+j) undef=v:=by simp[eG,h1]
         rw[this];exact .v _ _ U)
       rwa[hlen]at this
      have br:mB w ω τ (w.setRow b (laid arr (off+L*k) zs)) ω τ (fM hV) (fun _=>true):=by
       refine⟨?_,?_,fun id c _ aj=>aj,rfl,fun _ _=>rfl⟩
       ·intro g eI c q ay _ aK;obtain⟨rfl,uX⟩:=ER ay aK;exact⟨aK,setRow_other w b c _ fun e=>uX [] (by rw[e];exact iT)⟩
       intro g eI y ay bf;cases g with
       | free=>simp only[fM,aV]at ay;subst ay;trivial
       | own x=>
        simp only[fM]at ay;split at ay
        ·cases ay
        simp only[aV]at ay;subst ay;exact bf
       | ro x=>
        simp only[fM]at ay;split at ay
        ·cases ay
        simp only[aV]at ay;subst ay;trivial
      have e3:∀lF v,Sat w ω τ lF v->Sat (w.setRow b (laid arr (off+L*k) zs)) ω τ (y' hV k (es.take L++List.replicate (es.length-L) (z.cells.toList.map .v)) lF) v:=by
       intro lF v JA;by_cases Q7:∃s cw cv,lF=.J (.own s) cw cv
       ·obtain⟨s,cw,cv,rfl⟩:=Q7;simp only[y'];split
        ·rename_i fb;subst fb;obtain⟨_,U⟩:=JA;simp only[Tag.ev]at U bJ;rw[U]at bJ;simp only[bH]at bJ;obtain⟨rfl,rfl⟩:=bJ;exact⟨gL,U⟩
        rename_i fb;have:=br.sat (.J (.own s) cw cv) v JA;simpa[aH.cu,fM,fb]using this
       have eu:y' hV k (es.take L++List.replicate (es.length-L) (z.cells.toList.map .v)) lF=aH.cu (fM hV) (fun _=>true) lF:=by
        unfold y';split
        ·exact absurd ⟨_,_,_,rfl⟩ Q7
        rfl
       rw[eu];exact br.sat lF v JA
      have h1:cJ w0 (st.map (y' hV k (es.take L++List.replicate (es.length-L) (z.cells.toList.map .v)))) a (w.setRow b (laid arr (off+L*k) zs)) ω τ:=by
       refine a8.dC _ e3 (a8.below.setRow j4 _) ?_ (fun id c aj=>⟨aj,setRow_other w b c _ fun e=>by rw[e,iT]at aj;cases aj⟩) (fun id c aj=>aj) (fun _ _=>rfl);intro c aj;obtain⟨h1,iD,iM,U⟩:=a8.owned c aj;by_cases e:c=b
       ·subst e;exact⟨h1,_,ty,ko⟩
       exact⟨h1,iD,iM,(setRow_other w b c _ e).trans U⟩
      exact⟨ω,τ,h1.put (p:=.cA) trivial⟩
    cases h
   cases h
  cases h
 cases h
end Go.Sx
namespace Go.Sx
open Go.RowKit
def bn.mb(p:aH->Prop):bn->Prop
 | .one l=>p l
 | .agg ls=>∀l∈ls,p l
def aL.mb(p:aH->Prop):aL->Prop
 | .aI a=>a.mb p
 | .gf as=>∀a∈as,a.mb p
variable{S lr:aH->Value->Prop}{p:aH->Prop}{f:aH->aH}{ls:List aH}
theorem k9.map'(h:∀l v,p l->S l v->lr (f l) v){vs:Array Value}(ak:∀l∈ls,p l)(ao:k9 S ls vs):k9 lr (ls.map f) vs:=by
 refine⟨by simpa using ao.1,fun i l ap=>?_⟩;rw[dq,cc]at ap;obtain⟨ea,bG,rfl⟩:=ap;obtain⟨u,h1,U⟩:=ao.2 i ea bG;exact⟨u,h1,h _ _ (ak ea (ft bG)) U⟩
theorem k8.map'(h:∀l v,p l->S l v->lr (f l) v):∀{a:bn} {y:Value},a.mb p->k8 S a y->k8 lr (a.map f) y
 | .one l,y,ak,ao=>h _ _ ak ao
 | .agg ls,y,ak,⟨vs,e,ao⟩=>⟨vs,e,ao.map' h ak⟩
theorem cW.map'(h:∀l v,p l->S l v->lr (f l) v):∀{q:aL} {y:Value},q.mb p->cW S q y->cW lr (q.map f) y
 | .aI a,y,ak,ao=>show k8 lr (a.map f) y from k8.map' h ak (show k8 S a y from ao)
 | .gf as,y,ak,⟨vs,e,aX,ao⟩=>⟨vs,e,by simpa using aX,fun i a hi=>by
   rw[dq,cc]at hi;obtain⟨a0,bG,rfl⟩:=hi;obtain⟨u,h1,U⟩:=ao i a0 bG;exact⟨u,h1,k8.map' h (ak a0 (ft bG)) U⟩⟩
variable{w0:eT}{st:aJ}{a:Act}{w aO:World}{ω bc:Own}{τ:Nat->Nat×Value}
theorem cJ.aBG{cY:Nat->Nat×Value}{p:aH->Prop}(h:cJ w0 st a w ω τ)(f:aH->aH)
  (e3:∀l v,p l->Sat w ω τ l v->Sat aO bc cY (f l) v) (he:∀q∈st.env,q.mb p) (av:∀id ls,dM id st.boxes=some ls->∀l∈ls,p l) (o4:ha w0 aO) (q2:oR w0 aO bc)
  (r3:∀id b,ω b=.box id->bc b=.box id/\aO.heap[b]?=w.heap[b]?) (AY:∀id b,bc b=.box id->ω b=.box id) (r6:∀t,dn<=t->cY t=τ t):cJ w0 (st.map f) a aO bc cY where
 defers:=h.defers
 size:=by simp[aJ.map,h.size]
 below:=o4
 owned:=q2
 fixed:=fun t bT=>(r6 t bT).trans (h.fixed t bT)
 pinned:=fun id b hi av=>h.pinned id b hi (AY id b av)
 env:=by
  intro i q aK;simp only[aJ.map]at aK;rw[dq,cc]at aK;obtain⟨gM,bG,rfl⟩:=aK;obtain⟨v,h1,U⟩:=h.env i gM bG;exact⟨v,h1,cW.map' e3 (he gM (ft bG)) U⟩
 boxes:=by
  intro id ls ap;simp only[aJ.map]at ap;rw[tI,cc]at ap;obtain⟨j8,bG,rfl⟩:=ap;obtain⟨b,arr,ty,fZ,hu,bJ,ao⟩:=h.boxes id j8 bG;obtain⟨h1,U⟩:=r3 id b fZ;exact⟨b,arr,ty,h1,fun dc dL=>hu dc (AY id dc dL),U.trans bJ,ao.map' e3 (av id j8 bG)⟩
def aH.idx(t j:Nat):aH->List Nat
 | .aQ s a b _ _ _=>if s=t/\b=j then [a] else []
 | _=>[]
def bn.idx(t j:Nat):bn->List Nat
 | .one l=>l.idx t j
 | .agg ls=>ls.flatMap (aH.idx t j)
def aL.idx(t j:Nat):aL->List Nat
 | .aI a=>a.idx t j
 | .gf as=>as.flatMap (bn.idx t j)
def aJ.idx(t j:Nat)(st:aJ):List Nat:=st.env.flatMap (aL.idx t j)++st.boxes.flatMap fun x=>x.2.flatMap (aH.idx t j)
def FK(t i j:Nat)(l:aH):Prop:=∀a∈l.idx t j,a=i
theorem TK{id:Nat}:∀{bs:List (Nat×List aH)} {ls:List aH},dM id bs=some ls->(id,ls)∈bs
 | [],_,h=>by cases h
 | (i,l)::r,ls,h=>by
  simp only[dM]at h;split at h
  ·rename_i hi;subst hi;rw[eW h];exact hX
  exact iA _ (TK h)
variable{t i j:Nat}
theorem aJ.ady(h:∀a∈st.idx t j,a=i):∀q∈st.env,q.mb (FK t i j):=by
 intro q aK;have h1:∀a∈q.idx t j,a=i:=fun a ak=>h a (ij _ (nm.2 ⟨q,aK,ak⟩))
 have Q2:∀x:bn,(∀a∈x.idx t j,a=i)->x.mb (FK t i j):=by
  intro x ah;cases x with
  | one l=>exact ah
  | agg ls=>exact fun l ap a ak=>ah a (nm.2 ⟨l,ap,ak⟩)
 cases q with
 | aI x=>exact Q2 x h1
 | gf as=>exact fun x ah=>Q2 x fun a ak=>h1 a (nm.2 ⟨x,ah,ak⟩)
theorem aJ.adx(h:∀a∈st.idx t j,a=i){id:Nat}(av:dM id st.boxes=some ls):∀l∈ls,FK t i j l:=by
 intro l ap a ak;exact h a (jU _ (nm.2 ⟨(id,ls),TK av,nm.2 ⟨l,ap,ak⟩⟩))
def h3(t i j k:Nat)(cv:List (List D))(kT:Nat)(esT:List (List D)):aH->aH
 | .J (.own s) cX dS=>if s=t then .J (.own t) kT esT else .J (.own s) cX dS
 | .cP (.own s) cX dS a b=>if s=t then .cP (.own t) kT esT a b else .cP (.own s) cX dS a b
 | .J (.ro s) cX dS=>if s=t then .cA else .J (.ro s) cX dS
 | .cP (.ro s) cX dS a b=>if s=t then .cA else .cP (.ro s) cX dS a b
 | .aQ s a b cX dS m=>if s=t/\b=j then (if cX=k/\m.home=true then .aQ t i j k cv m else .cA) else .aQ s a b cX dS m
 | .fN _ _=>.cA
 | l=>l
variable{v:Value}
theorem vl.aBI{u:Value}(h1:vl w ω τ t i j u)(U:vl w ω τ t i j v):u=v:=by
 obtain⟨kT,b,off,len,cap,arr,ty,c3,d',a2,a3,a4⟩:=h1;obtain⟨adB,dc,aDf,aC9,mG,cd,rK,aCv,eC,fG,s4,wo⟩:=U;rw[d']at eC;simp only[bH,Value.slice.injEq,aV,Addr.mk.injEq]at eC;obtain⟨rfl,⟨rfl,rfl,_⟩,_,_⟩:=eC;rw[a3]at s4;simp only[aV,Obj.cells.injEq]at s4;obtain⟨rfl,_,_⟩:=s4;rw[a4]at wo;exact eW wo
variable{k kT:Nat}{esT:List (List D)}
theorem cJ.YT(h:cJ w0 st a w ω τ){cv:List (List D)}{yT fW:Value}
  (kO:∀c,c<w.heap.size->ω c≠.tok t [(i,j)]->aO.heap[c]?=w.heap[c]?) (da:∀c,c<w.heap.size->bc c=ω c) (Kd:∀c id,¬c<w.heap.size->bc c≠.box id)
  (lx:ha w0 aO) (j4:oR w0 aO bc) (tz:τ t=(kT,yT)) (o8:b0 aO bc (Tag.own t).R (.J kT esT) yT)
  (r8:vl w ω τ t i j fW) (p0:b0 aO bc (fun q o=>o=.tok t ((i,j)::q)) (.J k cv) fW) (pY:∀a∈st.idx t j,a=i):cJ w0 (st.map (h3 t i j k cv kT esT)) a aO bc τ:=by
 have c3:∀{R:List (Nat×Nat)->db->Prop} {d:D} {v:Value},(∀q,¬R q (.tok t [(i,j)]))->b0 w ω R d v->b0 aO bc R d v:=by
  intro R d v aX aA;refine aA.frame fun b q bz aK=>?_
  rw[da b bz];exact⟨aK,kO b bz fun e=>aX q (by rw[<-e];exact aK)⟩
 have home:∀{s a b:Nat} {u:Value},vl w ω τ s a b u->vl aO bc τ s a b u:=by
  rintro s a b u ⟨kT,c,off,len,cap,arr,ty,c3,d',a2,a3,a4⟩;have bz:c<w.heap.size:=(iB.1 a3).1;exact⟨kT,c,off,len,cap,arr,ty,c3,d',by rw[da c bz];exact a2,(kO c bz (by rw[a2];simp)).trans a3,a4⟩
 refine h.aBG (p:=FK t i j) _ ?_ (aJ.ady pY) (fun id ls av=>aJ.adx pY av) lx j4 (fun id b av=>?_) (fun id b av=>?_) (fun _ _=>rfl)
 ·intro l v ay ao;cases l with
  | cA=>exact trivial
  | v x=>exact ao
  | bg c=>exact ao
  | ptr id o=>
   obtain⟨c,aj,e⟩:=ao;exact⟨c,by rw[da c (h.owned.lt (by simp[aj]))];exact aj,e⟩
  | hv f ids=>
   obtain⟨bs,e,aX,hi⟩:=ao;refine⟨bs,e,aX,fun x id gE=>?_⟩;obtain⟨b,h1,U⟩:=hi x id gE;exact⟨b,h1,by rw[da b (h.owned.lt (by simp[U]))];exact U⟩
  | iK ds o=>
   obtain⟨c,e,aA⟩:=ao;exact⟨c,e,c3 (fun q aK=>by cases aK) aA⟩
  | fd d=>exact c3 (R:=Tag.free.R) (fun q aK=>by cases aK) ao
  | dw t0 cX dS=>exact⟨c3 (R:=Tag.free.R) (fun q aK=>by cases aK) ao.1,ao.2⟩
  | fN=>exact trivial
  | J g cX dS=>
   cases g with
   | free=>exact⟨c3 (R:=Tag.free.R) (fun q aK=>by cases aK) ao.1,aa⟩
   | own s=>
    simp only[h3];split
    ·rename_i e;subst e;have U:=ao.2;simp only[Tag.ev]at U;rw[tz]at U;simp only[bH]at U;rw[<-U.2];exact⟨o8,tz⟩
    rename_i cC;exact⟨c3 (R:=(Tag.own s).R) (fun q aK=>by simp only[Tag.R,db.tok.injEq]at aK;exact cC aK.1.symm) ao.1,ao.2⟩
   | ro s=>
    simp only[h3];split
    ·exact trivial
    rename_i cC;refine⟨c3 (R:=(Tag.ro s).R) (fun q aK=>?_) ao.1,aa⟩;rcases aK with aK | ⟨dJ,aK⟩
    ·cases aK
    simp only[db.tok.injEq]at aK;exact cC aK.1.symm
  | cP g cX dS x y=>
   obtain⟨fG,rb,qD,e,lc,ml,o5⟩:=ao;cases g with
   | free=>exact⟨fG,rb,qD,e,lc,c3 (R:=Tag.free.R) (fun q aK=>by cases aK) ml,aa⟩
   | own s=>
    simp only[h3];split
    ·rename_i e1;subst e1;simp only[Tag.ev]at o5;rw[tz]at o5;simp only[bH]at o5;obtain⟨rfl,rfl⟩:=o5;have ap:esT.length=dS.length:=by
      obtain⟨_,_,e2⟩:=o8.len;simp only[Value.slice.injEq]at e2;exact e2.2.1.symm
     refine⟨fG,rb,qD,e,by omega,?_,?_⟩
     ·rw[ap];exact o8
     rw[ap];exact tz
    rename_i cC;exact⟨fG,rb,qD,e,lc,c3 (R:=(Tag.own s).R) (fun q aK=>by simp only[Tag.R,db.tok.injEq]at aK;exact cC aK.1.symm) ml,o5⟩
   | ro s=>
    simp only[h3];split
    ·exact trivial
    rename_i cC;refine⟨fG,rb,qD,e,lc,c3 (R:=(Tag.ro s).R) (fun q aK=>?_) ml,aa⟩;rcases aK with aK | ⟨dJ,aK⟩
    ·cases aK
    simp only[db.tok.injEq]at aK;exact cC aK.1.symm
  | aQ s x y cX dS m=>
   simp only[h3];obtain⟨u,hu,aA,hm⟩:=ao;split
   ·rename_i aj;obtain⟨rfl,rfl⟩:=aj;have ah:x=i:=ay x (by simp[aH.idx]);subst ah;split
    ·rename_i aj;obtain⟨rfl,acF⟩:=aj;have e:=(hm acF).aBI r8;subst e;have ap:cv.length=dS.length:=by
      obtain⟨_,_,e1⟩:=p0.len;obtain⟨_,_,e2⟩:=aA.len;rw[e1]at e2;simp only[Value.slice.injEq]at e2;omega
     exact⟨u,by rw[ap];exact hu,p0,fun _=>home r8⟩
    exact trivial
   rename_i aj;refine⟨u,hu,c3 (fun q aK=>?_) aA,fun bJ=>home (hm bJ)⟩;simp only[db.tok.injEq,sU,bH]at aK;exact aj ⟨aK.1.symm,aK.2.1.2.symm⟩
 ·have bz:=h.owned.lt (b:=b) (by simp[av]);exact⟨by rw[da b bz];exact av,kO b bz (by rw[av];simp)⟩
 by_cases bz:b<w.heap.size
 ·rw[da b bz]at av;exact av
 exact absurd av (Kd b id bz)
def ue(t:Nat):aH->Option (Nat×List (List D))
 | .J (.own s) k es=>if s=t then some (k,es) else none
 | _=>none
def vd(t:Nat):List aL->Option (Nat×List (List D))
 | []=>none
 | .aI (.one l)::r=>match ue t l with | some x=>some x | none=>vd t r
 | .aI (.agg ls)::r=>match ls.findSome? (ue t) with | some x=>some x | none=>vd t r
 | _::r=>vd t r
def FL(t:Nat)(st:aJ):Option (Nat×List (List D)):=
 match vd t st.env with
 | some x=>some x
 | none=>(st.boxes.find? fun x=>(x.2.findSome? (ue t)).isSome).bind fun x=>(dM x.1 st.boxes).bind fun ls=>ls.findSome? (ue t)
theorem LZ{l:aH}(h:ue t l=some (kT,esT))(ao:Sat w ω τ l v):Sat w ω τ (.J (.own t) kT esT) v:=by
 unfold ue at h;split at h
 ·split at h
  ·rename_i e;subst e;simp only[aV,bH]at h;obtain⟨rfl,rfl⟩:=h;exact ao
  cases h
 cases h
theorem TL{vs:Array Value}(h:ls.findSome? (ue t)=some (kT,esT))(ao:k9 (Sat w ω τ) ls vs):∃v,Sat w ω τ (.J (.own t) kT esT) v:=by
 obtain⟨l,ap,U⟩:=List.exists_of_findSome?_eq_some h;obtain⟨x,ah⟩:=nj.1 ap;obtain⟨u,_,hu⟩:=ao.2 x l ah;exact⟨u,LZ U hu⟩
theorem FM:∀{cr:List aL},vd t cr=some (kT,esT)->(∀p∈cr,∃v,cW (Sat w ω τ) p v)->∃v,Sat w ω τ (.J (.own t) kT esT) v
 | [],h,_=>by cases h
 | p::r,h,ao=>by
  have aA:∀p∈r,∃v,cW (Sat w ω τ) p v:=fun p hp=>ao p (iA _ hp)
  obtain⟨v,bp⟩:=ao p hX;cases p with
  | gf as=>exact FM (by simpa[vd]using h) aA
  | aI x=>
   cases x with
   | one l=>
    simp only[vd]at h;split at h
    ·rename_i y e;simp only[aV]at h;subst h;exact⟨v,LZ e bp⟩
    exact FM h aA
   | agg ls=>
    simp only[vd]at h;split at h
    ·rename_i y e;simp only[aV]at h;subst h;obtain⟨vs,_,bp⟩:=bp;exact TL e bp
    exact FM h aA
theorem cJ.root(h:cJ w0 st a w ω τ)(e:FL t st=some (kT,esT)):∃v,Sat w ω τ (.J (.own t) kT esT) v:=by
 unfold FL at e;split at e
 ·rename_i x e1;simp only[aV]at e;subst e;refine FM e1 fun p hp=>?_
  obtain⟨x,ah⟩:=nj.1 hp;obtain⟨v,_,bp⟩:=h.env x p ah;exact⟨v,bp⟩
 rw[ni]at e;obtain⟨x,_,e⟩:=e;rw[ni]at e;obtain⟨ls,av,e⟩:=e;obtain⟨b,arr,ty,_,_,_,ao⟩:=h.boxes x.1 ls av;exact TL e ao
theorem TM{cv:List (List D)}{j2:List D}{yT fW:Value}(ao:Sat w ω τ (.J (.own t) kT esT) yT)
  (kO:∀c,c<w.heap.size->ω c≠.tok t [(i,j)]->aO.heap[c]?=w.heap[c]?) (da:∀c,c<w.heap.size->bc c=ω c)
  (r8:vl w ω τ t i j fW) (p0:b0 aO bc (fun q o=>o=.tok t ((i,j)::q)) (.J k cv) fW) (eR:esT[i]?=some j2):b0 aO bc (Tag.own t).R (.J kT (esT.set i (j2.set j (.J k cv)))) yT:=by
 obtain⟨aA,bJ⟩:=ao;simp only[Tag.ev]at bJ;obtain⟨adB,bX,Kx,R8,QG,uz,vW,aCw,d',a2,a3,a4⟩:=r8;rw[bJ]at d';simp only[bH]at d';obtain⟨rfl,rfl⟩:=d';have kp:i<esT.length:=(ek.1 eR).1;have hlen:(esT.set i (j2.set j (.J k cv))).length=esT.length:=fR;generalize bf:Value.slice (some ⟨bX,Kx,none⟩) R8 QG=Qt at aA;cases aA with
 | nil=>simp at kp
 | row R kT esT b off cap arr ty c3 us av ej aj c' hk hu aG=>
  simp only[Value.slice.injEq,aV,Addr.mk.injEq]at bf;obtain⟨⟨rfl,rfl,_⟩,rfl,rfl⟩:=bf;rw[av]at a3;simp only[aV,Obj.cells.injEq]at a3;obtain⟨rfl,_,_⟩:=a3;have wD:bX<w.heap.size:=(iB.1 av).1;have A6:j2.length=kT:=hk j2 (ft eR);have uY:∀e∈esT.set i (j2.set j (.J k cv)),e.length=kT:=by
   intro e he;rcases pH he with h | rfl
   ·exact hk e h
   rw[fR];exact A6
  have key:∀x y d,df (esT.set i (j2.set j (.J k cv))) x y=some d->arr[Kx+x*kT+y]?=some (us x y)/\b0 aO bc (fun q=>(Tag.own t).R ((x,y)::q)) d (us x y):=by
   intro x y d er;have JG:=tJ uY er;rw[hlen]at JG;obtain⟨d0,abT⟩:=Sv hk JG.1 JG.2;have u1:=hu x y d0 abT;refine⟨u1,?_⟩;rw[LI kp]at er;by_cases ah:x=i
   ·subst ah;rw[bm rfl,k6]at er;by_cases Kb:j=y
    ·subst Kb;rw[bm rfl,bm (by omega)]at er;rw[<-eW er];rw[a4]at u1;rw[<-eW u1];exact p0
    rw[bk Kb]at er;have qQ:df esT x y=some d:=by simp[df,eR,er]
    refine (aG x y d qQ).frame fun c q aj aK=>?_
    rw[da c aj];refine⟨aK,kO c aj fun e=>?_⟩;simp only[Tag.R,e,db.tok.injEq,sU,bH]at aK;exact Kb aK.2.1.2
   rw[bk ah]at er;refine (aG x y d er).frame fun c q aj aK=>?_
   rw[da c aj];refine⟨aK,kO c aj fun e=>?_⟩;simp only[Tag.R,e,db.tok.injEq,sU,bH]at aK;exact ah aK.2.1.1.symm
  have iT:ω bX=.tok t []:=ej;have:=b0.row (w:=aO) (ω:=bc) (Tag.own t).R kT (esT.set i (j2.set j (.J k cv))) bX Kx QG arr ty c3 us ((kO bX wD (by rw[iT];simp)).trans av) (by rw[da bX wD];exact iT) (by omega) c' uY
   (fun x y d aG=>(key x y d aG).1) (fun x y d aG=>(key x y d aG).2)
  rw[hlen]at this;exact this
def L0(P:Program)(st:aJ)(ty:TypeId)(t i j k:Nat)(es:List (List D))(x y:Nat)(q:aL)(ans:List cf):Stepped:=
 match q.leaves,P.info? ty,FL t st,ans with
 | some xs,some inf,some (kT,esT),.el ds::.el j2::r=>
  match xs.mapM aH.jA with
  | some ys=>
   if xs.length=inf.size/\ds.length=k/\y+ys.length<=k/\xs.all (fun l=>l.tok.isNone)=true then
    some (st.map (h3 t i j k (es.set x (lR ds y ys)) kT (esT.set i (j2.set j (.J k (es.set x (lR ds y ys)))))),r,(es[x]?=some ds)::(esT[i]?=some j2)::(st.idx t j).map fun a=>a=i)
   else none
  | none=>none
 | _,_,_,_=>none
theorem avL{l:aH}{d:D}(h:l.jA=some d)(bT:l.tok.isNone=true){u:Value}(ao:Sat w ω τ l u):∃z,d=.v z/\u=z/\z.oneCell'=true:=by
 cases l with
 | v z=>
  simp only[aH.jA]at h;split at h
  ·simp only[aV]at h;subst h;have:u=z:=ao;exact⟨z,rfl,this,‹_›⟩
  cases h
 | bg c=>
  simp only[aH.jA,aV]at h;subst h;exact⟨_,rfl,ao,rfl⟩
 | J g k es=>
  cases g with
  | own s=>simp[aH.tok]at bT
  | free=>cases h
  | ro s=>cases h
 | cA=>cases h
 | ptr=>cases h
 | cP=>cases h
 | iK=>cases h
 | fd=>cases h
 | dw=>cases h
 | hv=>cases h
 | aQ=>cases h
 | fN=>cases h
theorem cJ.aBB{P:Program}{bC:aJ}{ty:TypeId}{x y:Nat}{es:List (List D)}{q:aL}{p:Value}{ans cq:List cf}{obs:List Prop}
  (a8:cJ w0 st a w ω τ) (hp:Sat w ω τ (.aQ t i j k es (.at_ x y)) p) (aK:cW (Sat w ω τ) q v) (h:L0 P st ty t i j k es x y q ans=some (bC,cq,obs)) (ba:cL obs):
  ∃aO,(Instr.storeAt ty p v).run P w=.ok () aO/\Rel w0 bC a aO:=by
 unfold L0 at h;split at h
 ·rename_i xs inf kT esT ds j2 r e1 e2 eo;split at h
  ·rename_i ys cg;split at h
   ·rename_i aj;obtain⟨lS,ly,lT,uO⟩:=aj;simp only[aV,bH]at h;obtain⟨rfl,_,rfl⟩:=h;obtain⟨eR,yz,pY⟩:=ba;have pY:=EL pY;obtain⟨yT,o8⟩:=a8.root eo;obtain⟨ao,oq⟩:=aL.yQ e1 aK;obtain⟨RY,Ka⟩:=oy cg;obtain⟨fW,⟨b,off,cap,rfl,rfl,kp⟩,aA,hm⟩:=hp;have r8:=hm rfl;have tr:=aA;cases aA with
    | nil=>simp at kp
    | row R k es b off cap arr ii c3 us av ej gA c' hy hu aG=>
     have iT:ω b=.tok t [(i,j)]:=ej;obtain⟨wQ,uz,vW,iG⟩:=a8.owned b (by rw[iT];simp);rw[av]at iG;simp only[aV,Obj.cells.injEq]at iG;obtain⟨rfl,rfl,rfl⟩:=iG;have wD:b<w.heap.size:=(iB.1 av).1;have hmul:(x+1)*k<=cap*k:=hF _ (by omega);rw[gg]at hmul;have nJ:v.cells.size=xs.length:=ao.1;have dI:off+x*k+y+v.cells.toList.length<=arr.size:=by simp;omega
     have fb:=run_storeCells_at P b (off+x*k+y) ii v.cells.toList 0 arr w av (by simpa using dI) oq;simp only[np]at fb;generalize oj:(arr.toList.take (off+x*k+y)++v.cells.toList++arr.toList.drop (off+x*k+y+v.cells.toList.length)).toArray=cd at fb;have hg:∀z:Nat,cd[z]?=if off+x*k+y<=z/\z<off+x*k+y+xs.length then v.cells[z-(off+x*k+y)]? else arr[z]?:=by
      intro z;rw[<-oj,nW,BX (by simpa using dI)];simp[nJ]
     have yK:cd.size=arr.size:=by rw[<-oj];simp;simp at dI;omega
     have ko:=setRow_heap w b arr cd ii (0,0) av;have kO:∀c,c<w.heap.size->ω c≠.tok t [(i,j)]->(w.setRow b cd).heap[c]?=w.heap[c]?:=fun c _ aj=>setRow_other w b c cd fun e=>aj (by rw[e];exact iT)
     have p0:b0 (w.setRow b cd) ω (fun q o=>o=.tok t ((i,j)::q)) (.J k (es.set x (lR ds y ys))) (.slice (some ⟨b,off,none⟩) es.length cap):=by
      have hlen:(es.set x (lR ds y ys)).length=es.length:=fR;have A6:ds.length=k:=ly;have mL:∀hr fP d,df es hr fP=some d->b0 (w.setRow b cd) ω (fun q o=>o=.tok t ((i,j)::(hr,fP)::q)) d (us hr fP):=by
       intro hr fP d qQ;refine (aG hr fP d qQ).frame fun c q aj ew=>⟨ew,kO c aj fun e=>?_⟩
       rw[e]at ew;simp at ew
      have fH:∀hr fP d,df (es.set x (lR ds y ys)) hr fP=some d->∃u,cd[off+hr*k+fP]?=some u/\b0 (w.setRow b cd) ω (fun q o=>o=.tok t ((i,j)::(hr,fP)::q)) d u:=by
       intro hr fP d er;rw[LI kp]at er;by_cases ah:hr=x
       ·subst ah;rw[bm rfl,Sz (by omega)]at er;split at er
        ·rename_i bf;obtain⟨l,iu,c4⟩:=Ka _ _ er;obtain⟨u,f',eY⟩:=ao.2 _ _ iu;obtain⟨z,rfl,rfl,bi⟩:=avL c4 (gx.1 uO l (ft iu)) eY;refine⟨u,?_,.v _ _ bi⟩;rw[hg,bm (by omega),<-f']
         congr 1;omega
        rename_i bf;have qQ:df es hr fP=some d:=by simp[df,eR,er]
        refine⟨us hr fP,?_,mL hr fP d qQ⟩;rw[hg,bk (by omega),hu hr fP d qQ]
       rw[bk ah]at er;obtain⟨gi,adr⟩:=tJ hy er;refine⟨us hr fP,?_,mL hr fP d er⟩;rw[hg,bk ?_,hu hr fP d er];rcases Nat.lt_or_gt_of_ne ah with h | h
       ·have:(hr+1)*k<=x*k:=hF _ h;rw[gg]at this;omega
       have:(x+1)*k<=hr*k:=hF _ h;rw[gg]at this;omega
      have q3:∀e∈es.set x (lR ds y ys),e.length=k:=by
       intro e he;rcases pH he with h | rfl
       ·exact hy e h
       rw[Tn (by omega)];exact A6
      have:=b0.row (w:=w.setRow b cd) (ω:=ω) (fun q o=>o=.tok t ((i,j)::q)) k (es.set x (lR ds y ys)) b off cap cd ii (0,0) (fun hr fP=>cd.getD (off+hr*k+fP) undef) ko iT (by omega) (by omega) q3
       (fun x y d ed=>by obtain⟨u,h1,_⟩:=fH x y d ed;rw[h1];simp[eG,h1])
       (fun x y d ed=>by obtain⟨u,h1,U⟩:=fH x y d ed;have:cd.getD (off+x*k+y) undef=u:=(by simp[eG,h1]);rw[this];exact U)
      rw[hlen]at this;exact this
     refine⟨w.setRow b cd,?_,ω,τ,a8.YT (yT:=yT) kO (fun _ _=>rfl) (fun c id aj e=>?_) (a8.below.setRow wQ cd) ?_ o8.2 (TM o8 kO (fun _ _=>rfl) r8 p0 yz) r8 p0 pY⟩
     ·simp only[Instr.storeAt,Instr.sureAddr,Sem.run_bind,Sem.run_pure,Result.andThen_ok,storeVar,sizeOf,typeInfo,run_program,e2];have JB:¬(v.cells.size≠inf.size):=by simp;omega
      rw[bk JB];exact fb
     ·exact aj (a8.owned.lt (by rw[e];simp))
     intro c gp;obtain⟨ax,iD,iM,aF⟩:=a8.owned c gp;by_cases qP:c=b
     ·subst qP;exact⟨ax,cd,ii,ko⟩
     exact⟨ax,iD,iM,(setRow_other w b c cd qP).trans aF⟩
   cases h
  cases h
 cases h
end Go.Sx
namespace Go.Sx
open Go.RowKit
variable{i:Nat}
theorem SY{α:Type}{l:List α}{a:α}(h:l[i]?=some a):l.set i a=l:=by
 apply List.ext_getElem?;intro x;rw[k6];by_cases ah:i=x
 ·subst ah;have:=(ek.1 h).1;rw[bm rfl,bm this,h]
 rw[bk ah]
def L1(P:Program)(st:aJ)(d:Nat)(iN:TypeId)(t i j k:Nat)(es:List (List D))(y:Operand)(ans:List cf):Stepped:=
 match ru P iN,FL t st,ans with
 | some (e,cw),some (kT,esT),.el j2::fL=>
  match P.info? e,wl t k (st.br y) fL with
  | some inf,some (bV,none,wk,obs)=>
   match inf.zero with
   | some z=>
    if cw=k/\z.cells.size=k/\0<k then
     some (⟨(st.map (h3 t i j k es kT esT)).env.set d (.one (.aQ t i j k (es++bV) .mD)),(st.map (h3 t i j k es kT esT)).boxes⟩,wk,
      ((es.length+bV.length)*inf.bytes<=140737488355328)::(es.length+bV.length<=9223372036854775807)::(esT[i]?=some j2)::(j2[j]?=some (.J k es))::(((st.idx t j).map fun a=>a=i)++obs))
    else none
   | none=>none
  | _,_=>none
 | _,_,_=>none
def uy(P:Program)(iN:TypeId)(t i j k:Nat)(es esT:List (List D))(q:aL)(ans:List cf):Option (aL×List cf×List Prop):=
 match ru P iN,ans with
 | some (e,cw),.el j2::fL=>
  match P.info? e,wl t k q fL with
  | some inf,some (bV,none,wk,obs)=>
   match inf.zero with
   | some z=>
    if cw=k/\z.cells.size=k/\0<k then
     some (.one (.aQ t i j k (es++bV) .mD),wk,
      ((es.length+bV.length)*inf.bytes<=140737488355328)::(es.length+bV.length<=9223372036854775807)::(esT[i]?=some j2)::(j2[j]?=some (.J k es))::obs)
    else none
   | none=>none
  | _,_=>none
 | _,_=>none
theorem cJ.uy{P:Program}{w0:eT}{st:aJ}{a:Act}{w:World}{ω:Own}{τ:Nat->Nat×Value}{d:Nat}{iN ty:TypeId}{t j k kT:Nat}{es esT:List (List D)}{x y:Operand}{p:aL}{ans cq:List cf}{obs:List Prop}
  (a8:cJ w0 st a w ω τ) (hp:Sat w ω τ (.aQ t i j k es .here) (a.eval x)) (h:Sx.uy P iN t i j k es esT (st.br y) ans=some (p,cq,obs)) (ba:cL obs)
  (o8:∃v,Sat w ω τ (.J (.own t) kT esT) v) (pY:∀a∈st.idx t j,a=i):
  ∃z aO,(Builtin.append_ #[iN,iN] ty #[a.eval x,a.eval y]).run P w=.ok z aO/\Rel w0 ⟨(st.map (h3 t i j k es kT esT)).env.set d p,(st.map (h3 t i j k es kT esT)).boxes⟩ (a.put (some d) z) aO:=by
 unfold Sx.uy at h;split at h
 ·rename_i e cw j2 fL he;obtain⟨bT,ic,lU,yI⟩:=xd he;split at h
  ·rename_i inf bV wk yS hi jG;rw[lU]at hi;have nG:=eW hi;subst nG;split at h
   ·rename_i z bi;split at h
    ·rename_i aj;obtain⟨rfl,nK,mK⟩:=aj;simp only[aV,bH]at h;obtain⟨rfl,_,rfl⟩:=h;obtain⟨fZ,gK,yz,I6,Jo⟩:=ba;obtain⟨_,news,nI⟩:=Sy (P:=P) mK (a8.br y) jG Jo;obtain⟨yT,o8⟩:=o8;obtain⟨fW,r',aA,hm⟩:=hp;have r8:=hm rfl;have r':a.eval x=fW:=r';rw[r'];generalize a.eval y=eV at nI;have Ek:∀hr fP d,df bV hr fP=some d->∃u,news[hr*cw+fP]?=some u/\d=.v u/\u.oneCell'=true:=by
      intro hr fP d aG;obtain⟨u,h1,U⟩:=nI.cell hr fP d aG;rcases U with⟨v,rfl,rfl⟩ | ⟨s,ao,_⟩
      ·exact⟨u,h1,rfl,nI.one u (ft h1)⟩
      cases ao
     have fin:∀(w1:World) (bc:Own) (r:Value),(∀c,c<w.heap.size->ω c≠.tok t [(i,j)]->w1.heap[c]?=w.heap[c]?)->(∀c,c<w.heap.size->bc c=ω c)->(∀c id,¬c<w.heap.size->bc c≠.box id)->ha w0 w1->oR w0 w1 bc->
       b0 w1 bc (fun q o=>o=.tok t ((i,j)::q)) (.J cw es) fW->b0 w1 bc (fun q o=>o=.tok t ((i,j)::q)) (.J cw (es++bV)) r->
       Rel w0 ⟨(st.map (h3 t i j cw es kT esT)).env.set d (.one (.aQ t i j cw (es++bV) .mD)),(st.map (h3 t i j cw es kT esT)).boxes⟩ (a.put (some d) r) w1:=by
      intro w1 bc r kO da Kd lx j4 p0 fi;have RK:=TM o8 kO da r8 p0 yz;rw[SY I6,SY yz]at RK;exact⟨bc,τ,(a8.YT kO da Kd lx j4 o8.2 RK r8 p0 pY).put (p:=.one (.aQ t i j cw (es++bV) .mD)) ⟨r,rfl,fi,fun bJ=>by cases bJ⟩⟩
     have I0:∀c id,¬c<w.heap.size->ω c≠.box id:=fun c id aj e=>aj (a8.owned.lt (by rw[e];simp))
     by_cases wL:bV.length=0
     ·have I9:bV=[]:=sV wL;subst I9;refine⟨fW,w,Sw bT lU w ?_ ?_,fin w ω fW (fun _ _ _=>rfl) (fun _ _=>rfl) I0 a8.below a8.owned aA (by rw[kE];exact aA)⟩
      ·cases aA with
       | nil _ _ a0=>exact⟨a0,0,0,rfl,fI _⟩
       | row R k es b off cap arr ty c3 us av ej aj ao hk hu aG=>exact⟨some ⟨b,off,none⟩,_,cap,rfl,aj⟩
      rcases nI.shape with⟨⟨a,h⟩,_⟩ | ⟨b,o,c,h,_⟩
      ·exact⟨a,0,h⟩
      exact⟨some ⟨b,o,none⟩,c,h⟩
     have tn:0<bV.length:=by omega
     rcases nI.shape with⟨_,h⟩ | ⟨bg,k3,lN,rfl,hK⟩
     ·rw[h]at tn;simp at tn
     have grown:∀(w1:World) (cd:Array Value) (r:Value) (mG:Nat),hb w.heap.size w w1->w1.heap[w.heap.size]?=some (.cells cd e (0,0))->r=.slice (some ⟨w.heap.size,0,none⟩) (es.length+bV.length) mG->
       es.length+bV.length<=mG->mG*cw<=cd.size->(∀fy kQ d,df es fy kQ=some d->∃u,cd[fy*cw+kQ]?=some u/\b0 w ω (fun q o=>o=.tok t ((i,j)::(fy,kQ)::q)) d u)->
       (∀x u,news[x]?=some u->cd[es.length*cw+x]?=some u)->(∀e∈es,e.length=cw)->
       Rel w0 ⟨(st.map (h3 t i j cw es kT esT)).env.set d (.one (.aQ t i j cw (es++bV) .mD)),(st.map (h3 t i j cw es kT esT)).boxes⟩ (a.put (some d) r) w1:=by
      intro w1 cd r mG lx gL Jt gA c' hold Ba uY;subst Jt
      let bc:Own:=fun c=>if c=w.heap.size then .tok t [(i,j)] else ω c
      have da:∀c,c<w.heap.size->bc c=ω c:=fun c aj=>by simp only[bc];rw[bk (by omega)]
      have lW:bc w.heap.size=.tok t [(i,j)]:=by simp[bc]
      refine fin w1 bc _ (fun c aj _=>lx.block c aj) da (fun c id aj=>?_) (a8.below.next lx) (fun b av=>?_) (aA.frame fun c q aj aK=>⟨by rw[da c aj];exact aK,lx.block c aj⟩) ?_
      ·simp only[bc];split
       ·simp
       exact I0 c id aj
      ·by_cases uN:b=w.heap.size
       ·subst uN;exact⟨.inl a8.below.size,cd,e,gL⟩
       simp only[bc]at av;rw[bk uN]at av;obtain⟨ax,iD,iM,aF⟩:=a8.owned b av;exact⟨ax,iD,iM,(lx.block b (a8.owned.lt av)).trans aF⟩
      have fH:∀x kQ d,df (es++bV) x kQ=some d->∃u,cd[x*cw+kQ]?=some u/\b0 w1 bc (fun q o=>o=.tok t ((i,j)::(x,kQ)::q)) d u:=by
       intro x kQ d aG;rw[BZ]at aG;split at aG
       ·obtain⟨u,h1,U⟩:=hold x kQ d aG;exact⟨u,h1,U.frame fun c q aj aK=>⟨by rw[da c aj];exact aK,lx.block c aj⟩⟩
       rename_i ah;obtain⟨u,h1,rfl,U⟩:=Ek _ _ _ aG;refine⟨u,?_,.v _ _ U⟩;rw[<-Ba _ u h1]
       congr 1
       have:x=es.length+(x-es.length):=by omega
       rw[this,gg];simp only[Nat.add_sub_cancel_left];omega
      have hlen:(es++bV).length=es.length+bV.length:=fF;have q3:∀e∈es++bV,e.length=cw:=by
       intro e' he;rcases ki.1 he with h | h
       ·exact uY e' h
       exact nI.rows e' h
      have:=b0.row (w:=w1) (ω:=bc) (fun q o=>o=.tok t ((i,j)::q)) cw (es++bV) w.heap.size 0 mG cd e (0,0) (fun x j=>cd.getD (x*cw+j) undef) gL lW (by omega) (by omega) q3
       (fun x j d aG=>by obtain⟨u,h1,_⟩:=fH x j d aG;rw[dF,h1];simp[eG,h1])
       (fun x j d aG=>by obtain⟨u,h1,U⟩:=fH x j d aG;have:cd.getD (x*cw+j) undef=u:=(by simp[eG,h1]);rw[this];exact U)
      rw[hlen]at this;exact this
     subst yI;have tr:=aA;cases aA with
     | nil _ _ a0=>
      simp only[b7,dF]at fZ gK;have fm:(Builtin.append_ #[iN,iN] ty #[.slice a0 0 0,.slice (some ⟨bg,k3,none⟩) bV.length lN]).run P w=
        .ok (.slice (some ⟨w.heap.size,0,none⟩) bV.length (grownCap w bV.length 0 e)) (w.drew.alloc (.cells (news.toArray++Builtin.zeroCells z.cells (grownCap w bV.length 0 e-bV.length)) e)):=by
       cases a0 with
       | none=>exact run_append_nil (P:=P) w iN ty e ic z bT lU bi ⟨bg,k3,none⟩ bV.length lN news nI.len hK tn (by omega) (by omega)
       | some bX=>
        have:=run_append_grow (P:=P) w iN ty e ic z bT lU bi bX 0 0 [] (by simp) (fun j v bp=>by simp at bp) ⟨bg,k3,none⟩ bV.length lN news nI.len hK (by omega) (by omega) (growslice_fits (by omega) (by simpa using fZ));simpa using this
      have nF:=grownCap_ge w bV.length 0 e;exact⟨_,_,fm,grown _ (news.toArray++Builtin.zeroCells z.cells (grownCap w bV.length 0 e-bV.length)) (.slice (some ⟨w.heap.size,0,none⟩) bV.length (grownCap w bV.length 0 e)) (grownCap w bV.length 0 e)
       (((hb.refl _ _).drew).alloc (fI _) _) (ow _ _) (by simp) (by simpa using nF) (by
        simp only[rO,lO,size_zeroCells,nI.len,nK,<-gg];exact hF _ (by omega))
       (fun fy j d aG=>by simp[df]at aG) (fun x u ah=>by
        simp only[b7,Nat.zero_mul,dF];rw[hW,bm (by have:=(ek.1 ah).1;simpa using this)];simpa using ah) (fun e he=>by cases he)⟩
     | row R k es b off cap arr ii c3 us av ej aj ao hy hu aG=>
      have iT:ω b=.tok t [(i,j)]:=ej;obtain⟨wQ,uz,vW,iG⟩:=a8.owned b (by rw[iT];simp);rw[av]at iG;simp only[aV,Obj.cells.injEq]at iG;obtain⟨rfl,rfl,rfl⟩:=iG;have wD:b<w.heap.size:=(iB.1 av).1;by_cases lV:es.length+bV.length<=cap
      ·have hmul:(es.length+bV.length)*ic.size<=cap*ic.size:=hF _ lV;rw[gg]at hmul;have pZ:=nI.len;have dI:off+es.length*ic.size+news.length<=arr.size:=by omega
       have fm:=B0 (P:=P) (ty:=ty) bT lU w b off es.length cap arr ii av ⟨bg,k3,none⟩ bV.length lN news nI.len hK nI.one lV dI;generalize oj:(arr.toList.take (off+es.length*ic.size)++news++arr.toList.drop (off+es.length*ic.size+news.length)).toArray=cd at fm;have hg:∀x:Nat,cd[x]?=if off+es.length*ic.size<=x/\x<off+es.length*ic.size+news.length then news[x-(off+es.length*ic.size)]? else arr[x]?:=by
        intro x;rw[<-oj,nW,BX (by simpa using dI)];simp
       have yK:cd.size=arr.size:=by rw[<-oj];simp;omega
       have ko:=setRow_heap w b arr cd ii (0,0) av;have kO:∀c,c<w.heap.size->ω c≠.tok t [(i,j)]->(w.setRow b cd).heap[c]?=w.heap[c]?:=fun c _ aj=>setRow_other w b c cd fun e=>aj (by rw[e];exact iT)
       have mL:∀hr fP d u,b0 w ω (fun q o=>o=.tok t ((i,j)::(hr,fP)::q)) d u->b0 (w.setRow b cd) ω (fun q o=>o=.tok t ((i,j)::(hr,fP)::q)) d u:=by
        intro hr fP d u qQ;refine qQ.frame fun c q aj ew=>⟨ew,kO c aj fun e=>?_⟩
        rw[e]at ew;simp at ew
       refine⟨_,_,fm,fin (w.setRow b cd) ω _ kO (fun _ _=>rfl) I0 (a8.below.setRow wQ cd) (fun c gp=>?_) (b0.YO tr av ko yK (fun x ah=>by rw[hg,bk (by omega)]) (fun o e ba=>by rw[<-e];exact ba) (fun c p q aj aK=>⟨aK,kO c aj fun e=>by rw[e]at aK;simp at aK⟩)) ?_⟩
       ·obtain⟨ax,iD,iM,aF⟩:=a8.owned c gp;by_cases qP:c=b
        ·subst qP;exact⟨ax,cd,ii,ko⟩
        exact⟨ax,iD,iM,(setRow_other w b c cd qP).trans aF⟩
       have fH:∀x kQ d,df (es++bV) x kQ=some d->∃u,cd[off+x*ic.size+kQ]?=some u/\b0 (w.setRow b cd) ω (fun q o=>o=.tok t ((i,j)::(x,kQ)::q)) d u:=by
        intro x kQ d er;rw[BZ]at er;split at er
        ·rename_i ah;have A5:=(tJ hy er).2;refine⟨us x kQ,?_,mL x kQ d _ (aG x kQ d er)⟩;have:(x+1)*ic.size<=es.length*ic.size:=hF _ ah;rw[gg]at this;rw[hg,bk (by omega),hu x kQ d er]
        rename_i ah;obtain⟨u,h1,rfl,U⟩:=Ek _ _ _ er;have adn:=(ek.1 h1).1;have yL:x*ic.size=es.length*ic.size+(x-es.length)*ic.size:=by rw[<-gg];congr 1;omega
        refine⟨u,?_,.v _ _ U⟩;rw[hg,bm (by omega),<-h1]
        congr 1
        omega
       have hlen:(es++bV).length=es.length+bV.length:=fF;have q3:∀e∈es++bV,e.length=ic.size:=by
        intro e' he;rcases ki.1 he with h | h
        ·exact hy e' h
        exact nI.rows e' h
       have:=b0.row (w:=w.setRow b cd) (ω:=ω) (fun q o=>o=.tok t ((i,j)::q)) ic.size (es++bV) b off cap cd ii (0,0) (fun x j=>cd.getD (off+x*ic.size+j) undef) ko iT (by omega) (by omega) q3
        (fun x j d aG=>by obtain⟨u,h1,_⟩:=fH x j d aG;rw[h1];simp[eG,h1])
        (fun x j d aG=>by obtain⟨u,h1,U⟩:=fH x j d aG;have:cd.getD (off+x*ic.size+j) undef=u:=(by simp[eG,h1]);rw[this];exact U)
       rw[hlen]at this;exact this
      have hmul:es.length*ic.size<=cap*ic.size:=hF _ aj;have nH:((arr.toList.drop off).take (es.length*ic.size)).length=es.length*ic.size:=by simp;omega
      have fm:=run_append_grow (P:=P) w iN ty e ic z bT lU bi ⟨b,off,none⟩ es.length cap ((arr.toList.drop off).take (es.length*ic.size)) nH (fun j v bp=>by
       rw[rr,cell_of_row w b (off+j) arr ii (0,0) av];rw[gI]at bp;split at bp
       ·rw[gH]at bp;simpa using bp
       cases bp) ⟨bg,k3,none⟩ bV.length lN news nI.len hK (by omega) (by omega) (growslice_fits (by omega) fZ)
      have nF:=grownCap_ge w (es.length+bV.length) cap e;exact⟨_,_,fm,grown _ (((arr.toList.drop off).take (es.length*ic.size)).toArray++news.toArray++Builtin.zeroCells z.cells (grownCap w (es.length+bV.length) cap e-(es.length+bV.length))) _ (grownCap w (es.length+bV.length) cap e)
       (((hb.refl _ _).drew).alloc (fI _) _) (ow _ _) rfl nF (by
        simp only[rO,lO,size_zeroCells,nI.len,nK,nH,<-gg];exact hF _ (by omega))
       (fun fy j d ed=>by
        obtain⟨yC,eL⟩:=tJ hy ed;have:(fy+1)*ic.size<=es.length*ic.size:=hF _ yC;rw[gg]at this;refine⟨us fy j,?_,aG fy j d ed⟩;rw[hW,bm (by simp only[rO,lO,nH];omega),hW,bm (by simp only[lO,nH];omega)];rw[nW,gI,bm (by omega),gH,<-hu fy j d ed];simp only[iO]
        congr 1
        omega)
       (fun x u ah=>by
        have gi:=(ek.1 ah).1;rw[hW,bm (by simp only[rO,lO,nH];omega),hW,bk (by simp only[lO,nH];omega)];simp only[lO,nH,nW];rw[<-ah]
        congr 1
        omega) hy⟩
    cases h
   cases h
  cases h
 cases h
theorem cJ.aaX{P:Program}{w0:eT}{st bC:aJ}{a:Act}{w:World}{ω:Own}{τ:Nat->Nat×Value}{d:Nat}{iN ty:TypeId}{t j k:Nat}{es:List (List D)}{x y:Operand}{ans cq:List cf}{obs:List Prop}
  (a8:cJ w0 st a w ω τ) (hp:Sat w ω τ (.aQ t i j k es .here) (a.eval x)) (h:L1 P st d iN t i j k es y ans=some (bC,cq,obs)) (ba:cL obs):
  ∃z aO,(Builtin.append_ #[iN,iN] ty #[a.eval x,a.eval y]).run P w=.ok z aO/\Rel w0 bC (a.put (some d) z) aO:=by
 unfold L1 at h;split at h
 ·rename_i e cw kT esT j2 fL he acY;split at h
  ·rename_i inf bV wk yS hi jG;split at h
   ·rename_i z bi;split at h
    ·rename_i aj;simp only[aV,bH]at h;obtain⟨rfl,rfl,rfl⟩:=h;obtain⟨fZ,gK,yz,I6,Jo⟩:=ba;obtain⟨pY,acK⟩:=Jo.append;refine a8.uy (p:=.one (.aQ t i j k (es++bV) .mD)) (ans:=.el j2::fL) (cq:=wk) (esT:=esT) (kT:=kT) hp ?_ (obs:=((es.length+bV.length)*inf.bytes<=140737488355328)::(es.length+bV.length<=9223372036854775807)::(esT[i]?=some j2)::(j2[j]?=some (.J k es))::yS) ⟨fZ,gK,yz,I6,acK⟩ (a8.root acY) (EL pY);unfold Sx.uy;simp only[he,hi,jG,bi];rw[bm aj]
    cases h
   cases h
  cases h
 cases h
