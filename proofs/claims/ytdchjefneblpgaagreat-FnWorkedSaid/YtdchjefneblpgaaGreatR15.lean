import Derived.Test.YtdchjefneblpgaaGreatR13
import Derived.LoopN
import Derived.ChangeMaps5
import Derived.ChangeSame
import Derived.ChangeStays
import Derived.ProofKit
import Derived.Lib.SmallJoins
set_option linter.unusedVariables false
set_option linter.unusedSimpArgs false
namespace Go.Sx
open Go.RowKit
def hl.o7:hl->Exit
 | .normal=>.normal
 | .exit id=>.exit id
 | .ret=>.ret
def MJ(w0:er)(e:hl)(st:aI):Exit->Act->World->Prop:=fun e' a w=>e'=e.o7/\Rel w0 st a w
def gl(P:Program)(c:Code)(st:aI)(e:hl)(bp:aI):Prop:=∀w0 a w,Rel w0 st a w->c.wp P (MJ w0 e bp) a w
def c3(P:Program)(c:Code)(st:aI)(e:hl)(bp:aI):Prop:=∃n,∀w0 a w,Rel w0 st a w->Code.rounds P c (MJ w0 e bp) n a w
variable{P:Program}{st bp:aI}
theorem c3.last{c:Code}{e:hl}(he:e.o7≠.normal)(h:gl P c st e bp):c3 P c st e bp:=
 ⟨1,fun w0 a w aA=>Code.wp_mono (fun e' cz aN ⟨h1,U⟩=>by
  subst h1;cases e with
  | normal=>exact absurd rfl he
  | exit id=>exact⟨rfl,U⟩
  | ret=>exact⟨rfl,U⟩) (h w0 a w aA)⟩
theorem c3.more{c:Code}{st1:aI}{e:hl}(h:gl P c st .normal st1)(U:c3 P c st1 e bp):c3 P c st e bp:=by
 obtain⟨n,aW⟩:=U;refine⟨n+1,fun w0 a w aA=>Code.wp_mono (fun e' cz aN ⟨h1,aw⟩=>?_) (h w0 a w aA)⟩;subst h1;exact aW w0 cz aN aw
def tq(cK:List Nat):Nat->List aJ->List aJ
 | _,[]=>[]
 | i,p::r=>(if cK.contains i then p else .cq)::tq cK (i+1) r
theorem QB(cK:List Nat):∀(l:List aJ) (i j:Nat),(tq cK i l)[j]?=(l[j]?).map fun p=>if cK.contains (i+j) then p else .cq
 | [],_,_=>by simp[tq]
 | p::r,i,0=>by simp[tq]
 | p::r,i,j+1=>by
  simp only[tq,mR,QB cK r (i+1) j];rw[show i+1+j=i+(j+1) by omega]
theorem QC(cK:List Nat):∀(l:List aJ) (i:Nat),(tq cK i l).length=l.length
 | [],_=>rfl
 | p::r,i=>by simp[tq,QC cK r]
def vI(bs:List Nat):List (Nat×List aB)->List (Nat×List aB)
 | []=>[]
 | (i,ls)::r=>if bs.contains i then (i,ls)::vI bs r else vI bs r
theorem IY(bs:List Nat)(id:Nat):∀(l:List (Nat×List aB)) (ls:List aB),dp id (vI bs l)=some ls->dp id l=some ls
 | [],_,h=>by cases h
 | (i,fx)::r,ls,h=>by
  simp only[vI]at h;simp only[dp];split at h
  ·simp only[dp]at h;split at h
   ·rename_i hi;rw[br hi];exact h
   rename_i hi;rw[bh hi];exact IY bs id r ls h
  rename_i ai;have:=IY bs id r ls h;split
  ·rename_i hi;subst hi;exfalso;have h8:∀(r:List (Nat×List aB)),dp i (vI bs r)=none:=by
    intro r;induction r with
    | nil=>rfl
    | cons x r dP=>
     obtain⟨mQ,jv⟩:=x;simp only[vI];split
     ·rename_i ag;simp only[dp];rw[bh]
      ·exact dP
      intro e;subst e;exact ai ag
     exact dP
   rw[h8]at h;cases h
  exact this
def CA:aB->aB
 | .v (.bool b)=>.ba b
 | l=>l
variable{w:World}
theorem QD{ω:Own}{τ:Nat->Nat×Value}(l:aB)(v:Value)(h:Sat w ω τ l v):Sat w ω τ (CA l) v:=by
 unfold CA;split
 ·exact h
 exact h
def aI.fo(st:aI)(cK bs:List Nat):aI:=⟨(tq cK 0 st.env).map (aJ.map CA),(vI bs st.boxes).map fun x=>(x.1,x.2.map CA)⟩
variable{w0:er}{a:Act}
theorem Rel.fo(h:Rel w0 st a w)(cK bs:List Nat):Rel w0 (st.fo cK bs) a w:=by
 obtain⟨ω,τ,h⟩:=h;refine⟨ω,τ,h.defers,by simp[aI.fo,QC,h.size],h.below,h.owned,h.fixed,h.pinned,?_,?_⟩
 ·intro i p hp;simp only[aI.fo]at hp;rw[dj,b1]at hp;obtain⟨kx,hp,rfl⟩:=hp;rw[QB,b1]at hp;obtain⟨HO,hp,rfl⟩:=hp;obtain⟨v,h1,U⟩:=h.env i HO hp;refine⟨v,h1,cL.map QD ?_⟩;split
  ·exact U
  exact trivial
 intro id ls al;simp only[aI.fo]at al;rw[rZ,b1]at al;obtain⟨iK,al,rfl⟩:=al;obtain⟨b,arr,ty,h1,U,aw,aH⟩:=h.boxes id iK (IY bs id _ _ al);exact⟨b,arr,ty,h1,U,aw,aH.map QD⟩
def IZ(st:aI)(id j t k:Nat):Option aI:=
 match dp id (st.iM t []).boxes with
 | some ls=>
  match ls[j]? with
  | some (.v (.slice none 0 0))=>if t<c7 then some ⟨(st.iM t []).env,pN id (ls.set j (.J (.own t) k [])) (st.iM t []).boxes⟩ else none
  | _=>none
 | none=>none
def I0(st:aI)(id j t:Nat):Option aI:=
 match dp id st.boxes with
 | some iK=>
  match iK[j]? with
  | some (.J (.own jr) cp es)=>
   if t<c7 then
    let st1:=st.map (aB.ci (j3 jr t) fun _=>true)
    match dp id st1.boxes with
    | some ls=>some ⟨st1.env,pN id (ls.set j (.J (.own t) cp es)) st1.boxes⟩
    | none=>none
   else none
  | _=>none
 | none=>none
def tr(st:aI):List (Nat×Nat×Nat)->Option aI
 | []=>some st
 | (s,t,k)::r=>
  if 1000000<=s then
   (match I0 st (s / 1000000-1) (s % 1000000) t with
   | some st1=>some st1
   | none=>IZ st (s / 1000000-1) (s % 1000000) t k).bind fun st1=>tr st1 r else
  match (st.env.getD s .cq).leaf with
  | some (.v (.slice none 0 0))=>if t<c7 then tr ⟨(st.iM t []).env.set s (.one (.J (.own t) k [])),(st.iM t []).boxes⟩ r else none
  | some (.J (.own jr) cp es)=>
   if t<c7 then tr ⟨(st.map (aB.ci (j3 jr t) fun _=>true)).env.set s (.one (.J (.own t) cp es)),(st.map (aB.ci (j3 jr t) fun _=>true)).boxes⟩ r else none
  | _=>none
theorem cy.MS{ω:Own}{τ:Nat->Nat×Value}(h:cy w0 st a w ω τ){s:Nat}{l:aB}(al:(st.env.getD s .cq).leaf=some l)(cB:l≠.cq):∃v,a.tmps[s]?=some v/\Sat w ω τ l v:=by
 rw[ii]at al;cases e:st.env[s]? with
 | none=>rw[e]at al;simp only[Option.getD_none,aJ.leaf,aR]at al;exact absurd al.symm cB
 | some p=>
  rw[e]at al;obtain⟨v,h1,U⟩:=h.env s p e;exact⟨v,h1,aJ.dB al U⟩
theorem QE{s:Nat}{v:Value}(h:a.tmps[s]?=some v):a.put (some s) v=a:=by
 simp only[Act.put];have:a.tmps.setIfInBounds s v=a.tmps:=by
  apply Array.ext
  ·simp
  intro i h1 U;rw[Array.getElem_setIfInBounds];split
  ·rename_i hi;subst hi;rw[gS U]at h;exact (eN h).symm
  rfl
 rw[this]
theorem alv{id j t k:Nat}(h:IZ st id j t k=some bp)(aA:Rel w0 st a w):Rel w0 bp a w:=by
 obtain⟨ω,τ,aA⟩:=aA;unfold IZ at h;split at h
 ·rename_i ls ar;split at h
  ·rename_i a6;split at h
   ·rename_i hN;simp only[aR]at h;subst h;obtain⟨a1,h1,U⟩:=aA.HE t k hN;refine⟨a1,_,h1.defers,h1.size,h1.below,h1.owned,h1.fixed,h1.pinned,h1.env,fun gE eW al=>?_⟩;by_cases fF:gE=id
    ·subst fF;rw[w3 ar]at al;cases al;obtain⟨b,arr,ty,e1,e2,cb,ef⟩:=h1.boxes gE ls ar;refine⟨b,arr,ty,e1,e2,cb,by rw[ef.1,e5],fun i l hi=>?_⟩;rw[jR]at hi;split at hi
     ·rename_i ql;subst ql;split at hi
      ·cases hi;obtain⟨u,fG,eV⟩:=ef.2 j _ a6;have Yg:u=.slice none 0 0:=eV;subst Yg;exact⟨_,fG,U⟩
      cases hi
     exact ef.2 i l hi
    rw[w4 fF]at al;exact h1.boxes gE eW al
   cases h
  cases h
 cases h
theorem alw{id j t:Nat}(h:I0 st id j t=some bp)(aA:Rel w0 st a w):Rel w0 bp a w:=by
 obtain⟨ω,τ,aA⟩:=aA;unfold I0 at h;split at h
 case h_2=>cases h
 rename_i iK hB;split at h
 case h_2=>cases h
 rename_i jr cp es a6;split at h
 case isFalse=>cases h
 rename_i hN;simp only at h;split at h
 case h_2=>cases h
 rename_i ls ar;simp only[aR]at h;subst h;obtain⟨cg,sD,tV,atO,We,Wf,Wg⟩:=aA.boxes id iK hB;obtain⟨v,bt,aj⟩:=Wg.2 j _ a6;have h1:cy w0 (st.map (aB.ci (j3 jr t) fun _=>true)) a w (fun b=>jk jr t 0 (ω b)) (fV τ t cp v):=
  aA.ec _ (Jd hN).sat aA.below (fun b ar=>aA.owned b (Jc ar)) (fun id b ar=>⟨tj.2 ar,rfl⟩) (fun id b ar=>tj.1 ar)
   (fun c6 bQ=>by simp only[fV];rw[bh (by omega)])
 have U:Sat w (fun b=>jk jr t 0 (ω b)) (fV τ t cp v) (.J (.own t) cp es) v:=⟨aj.1.frame fun b q _ aE=>⟨by
  simp only[Tag.R]at aE ⊢;rw[aE];cases q with
  | nil=>simp[jk]
  | cons x q=>obtain⟨i,j⟩:=x;simp[jk],rfl⟩,by simp[Tag.dT,fV]⟩
 refine⟨_,_,h1.defers,h1.size,h1.below,h1.owned,h1.fixed,h1.pinned,h1.env,fun gE eW al=>?_⟩;by_cases fF:gE=id
 ·subst fF;rw[w3 ar]at al;cases al;obtain⟨b,arr,ty,e1,e2,cb,ef⟩:=h1.boxes gE ls ar;refine⟨b,arr,ty,e1,e2,cb,by rw[ef.1,e5],fun i l hi=>?_⟩;rw[jR]at hi;split at hi
  ·rename_i ql;subst ql;split at hi
   ·cases hi;have F1:b=cg:=by
     have gY:ω b=.box gE:=tj.1 e1;exact We b gY
    subst F1;rw[Wf]at cb;cases cb;exact⟨v,bt,U⟩
   cases hi
  exact ef.2 i l hi
 rw[w4 fF]at al;exact h1.boxes gE eW al
theorem zn:∀{ns:List (Nat×Nat×Nat)} {st bp:aI},tr st ns=some bp->Rel w0 st a w->Rel w0 bp a w
 | [],st,bp,h,aA=>by simp only[tr,aR]at h;subst h;exact aA
 | (s,t,k)::r,st,bp,h,aA=>by
  simp only[tr]at h;split at h
  ·rw[lA]at h;obtain⟨st1,h1,h⟩:=h;refine zn h ?_;split at h1
   ·rename_i st2 U;cases h1;exact alw U aA
   exact alv h1 aA
  split at h
  ·rename_i al;obtain⟨ω,τ,aA⟩:=aA;obtain⟨v,bt,aj⟩:=aA.MS al (by simp);have:v=.slice none 0 0:=aj;subst this;split at h
   case isFalse=>cases h
   rename_i hN;obtain⟨a1,h1,U⟩:=aA.HE t k hN;have aw:=h1.put (d:=s) (p:=.one (.J (.own t) k [])) U;rw[QE bt]at aw;exact zn h ⟨a1,_,aw⟩
  ·rename_i jr cp es al;obtain⟨ω,τ,aA⟩:=aA;obtain⟨v,bt,aj⟩:=aA.MS al (by simp);split at h
   case isFalse=>cases h
   rename_i hN;have h1:cy w0 (st.map (aB.ci (j3 jr t) fun _=>true)) a w (fun b=>jk jr t 0 (ω b)) (fV τ t cp v):=
    aA.ec _ (Jd hN).sat aA.below (fun b ar=>aA.owned b (Jc ar)) (fun id b ar=>⟨tj.2 ar,rfl⟩) (fun id b ar=>tj.1 ar)
     (fun c6 bQ=>by simp only[fV];rw[bh (by omega)])
   have aw:=h1.put (d:=s) (p:=.one (.J (.own t) cp es)) (v:=v) ⟨aj.1.frame fun b q _ aE=>⟨by
    simp only[Tag.R]at aE ⊢;rw[aE];cases q with
    | nil=>simp[jk]
    | cons x q=>obtain⟨i,j⟩:=x;simp[jk],rfl⟩,by simp[Tag.dT,fV]⟩
   rw[QE bt]at aw;exact zn h ⟨_,_,aw⟩
  cases h
abbrev VU:=Option (hl×aI×List b9×List Prop)
def run(P:Program):Code->aI->List b9->VU
 | .skip,st,ans=>some (.normal,st,ans,[])
 | .label _,st,ans=>some (.normal,st,ans,[])
 | .region _ ops draw,st,ans=>if draw then (IX P ops st ans).map fun r=>(.normal,r.1,r.2.1,r.2.2) else (vF P ops ops.toList st ans).map fun r=>(.normal,r.1,r.2.1,r.2.2)
 | .seq a b,st,ans=>
  match run P a st ans with
  | some (.normal,st1,e7,fC)=>(run P b st1 e7).map fun r=>(r.1,r.2.1,r.2.2.1,fC++r.2.2.2)
  | some (e,st1,e7,fC)=>some (e,st1,e7,fC)
  | none=>none
 | .cond c x y,st,ans=>
  match (st.bi c).leaf,ans with
  | some (.v (.bool true)),ans=>run P x st ans
  | some (.v (.bool false)),ans=>run P y st ans
  | some (.ba c),.n9 true::r=>(run P x st r).map fun r=>(r.1,r.2.1,r.2.2.1,(c=true)::r.2.2.2)
  | some (.ba c),.n9 false::r=>(run P y st r).map fun r=>(r.1,r.2.1,r.2.2.1,(c=false)::r.2.2.2)
  | _,_=>none
 | .block id body,st,ans=>
  match run P body st ans with
  | some (.exit i,st1,e7,fC)=>some (if i=id then .normal else .exit i,st1,e7,fC)
  | r=>r
 | .loop body,st,ans=>
  match ans with
  | .loop Cy cK bs e bp::r=>
   match e,tr st Cy with
   | .normal,_=>none
   | e,some st1=>some (e,bp,r,[c3 P body (st1.fo cK bs) e bp])
   | _,none=>none
  | _=>none
 | .exit id,st,ans=>some (.exit id,st,ans,[])
 | .ret,st,ans=>some (.ret,st,ans,[])
 | _,_,_=>none
theorem mH:∀(c:Code) {st bp:aI} {ans cd:List b9} {obs:List Prop} {e:hl},run P c st ans=some (e,bp,cd,obs)->cG obs->gl P c st e bp
 | .skip,st,bp,ans,cd,obs,e,h,aZ=>by
  simp only[run,aR,bx]at h;obtain⟨rfl,rfl,_,_⟩:=h;exact fun w0 a w aA=>wp_skip ⟨rfl,aA⟩
 | .label l,st,bp,ans,cd,obs,e,h,aZ=>by
  simp only[run,aR,bx]at h;obtain⟨rfl,rfl,_,_⟩:=h;exact fun w0 a w aA=>wp_label ⟨rfl,aA⟩
 | .region id ops draw,st,bp,ans,cd,obs,e,h,aZ=>by
  simp only[run]at h;split at h
  ·rename_i aD;rw[b1]at h;obtain⟨⟨bM,b2,cj⟩,h1,h⟩:=h;simp only[bx]at h;obtain⟨rfl,rfl,rfl,rfl⟩:=h;subst aD;exact fun w0 a w aA=>alu h1 aZ aA fun cz aN h=>⟨rfl,h⟩
  rename_i aD;rw[b1]at h;obtain⟨⟨bM,b2,cj⟩,h1,h⟩:=h;simp only[bx]at h;obtain⟨rfl,rfl,rfl,rfl⟩:=h;have:draw=false:=by simpa using aD
  subst this;exact fun w0 a w aA=>wp_region_list (Jw _ h1 aZ aA fun cz aN h=>⟨rfl,h⟩)
 | .seq x y,st,bp,ans,cd,obs,e,h,aZ=>by
  simp only[run]at h;split at h
  ·rename_i st1 e7 fC h1;rw[b1]at h;obtain⟨⟨bM,b2,cj,ep⟩,U,h⟩:=h;simp only[bx]at h;obtain⟨rfl,rfl,rfl,rfl⟩:=h;obtain⟨cC,cc⟩:=aZ.append;intro w0 a w aA;refine wp_seq (Code.wp_mono (fun e' cz aN hp=>?_) (mH x h1 cC w0 a w aA));obtain⟨rfl,dX⟩:=hp;exact mH y U cc w0 cz aN dX
  ·rename_i e1 st1 e7 fC cB h1;simp only[aR,bx]at h;obtain⟨rfl,rfl,rfl,rfl⟩:=h;intro w0 a w aA;refine wp_seq (Code.wp_mono (fun e' cz aN hp=>?_) (mH x h1 aZ w0 a w aA));obtain⟨rfl,dX⟩:=hp;cases e1 with
   | normal=>first | exact (cB rfl).elim | exact (cB _ rfl).elim | exact (cB _ _ _ rfl).elim
   | exit i=>exact⟨rfl,dX⟩
   | ret=>exact⟨rfl,dX⟩
  cases h
 | .cond c x y,st,bp,ans,cd,obs,e,h,aZ=>by
  intro w0 a w aA;have rE:=aA;obtain⟨ω,τ,dX⟩:=rE;have ey:=dX.bi c;simp only[run]at h;split at h
  ·rename_i al;have:a.eval c=.bool true:=aJ.dB al ey;exact wp_cond_true this (mH x h aZ w0 a w aA)
  ·rename_i al;have:a.eval c=.bool false:=aJ.dB al ey;exact wp_cond_false this (mH y h aZ w0 a w aA)
  ·rename_i jA r al;rw[b1]at h;obtain⟨⟨bM,b2,cj,ep⟩,U,h⟩:=h;simp only[bx]at h;obtain⟨rfl,rfl,rfl,rfl⟩:=h;have:a.eval c=.bool jA:=aJ.dB al ey;have ai:jA=true:=aZ.1;exact wp_cond_true (by rw[this,ai]) (mH x U aZ.2 w0 a w aA)
  ·rename_i jA r al;rw[b1]at h;obtain⟨⟨bM,b2,cj,ep⟩,U,h⟩:=h;simp only[bx]at h;obtain⟨rfl,rfl,rfl,rfl⟩:=h;have:a.eval c=.bool jA:=aJ.dB al ey;have ai:jA=false:=aZ.1;exact wp_cond_false (by rw[this,ai]) (mH y U aZ.2 w0 a w aA)
  cases h
 | .block id body,st,bp,ans,cd,obs,e,h,aZ=>by
  intro w0 a w aA;simp only[run]at h;split at h
  ·rename_i i st1 e7 fC h1;simp only[aR,bx]at h;obtain⟨rfl,rfl,rfl,rfl⟩:=h;refine wp_block (Code.wp_mono (fun e' cz aN hp=>?_) (mH body h1 aZ w0 a w aA));obtain⟨rfl,dX⟩:=hp;simp only[hl.o7,Exit.inBlock];split
   ·exact⟨rfl,dX⟩
   exact⟨rfl,dX⟩
  rename_i cB;refine wp_block (Code.wp_mono (fun e' cz aN hp=>?_) (mH body h aZ w0 a w aA));obtain⟨rfl,dX⟩:=hp;cases e with
  | normal=>exact⟨rfl,dX⟩
  | exit i=>exact absurd h (cB _ _ _ _)
  | ret=>exact⟨rfl,dX⟩
 | .loop body,st,bp,ans,cd,obs,e,h,aZ=>by
  intro w0 a w aA;simp only[run]at h;split at h
  ·rename_i Cy cK bs bE ft r;split at h
   ·cases h
   ·rename_i e1 st1 cB aW;simp only[aR,bx]at h;obtain⟨rfl,rfl,rfl,rfl⟩:=h;obtain⟨n,al⟩:=aZ.1;exact wp_loop_rounds n (al w0 a w ((zn aW aA).fo cK bs))
   cases h
  cases h
 | .exit id,st,bp,ans,cd,obs,e,h,aZ=>by
  simp only[run,aR,bx]at h;obtain⟨rfl,rfl,_,_⟩:=h;exact fun w0 a w aA=>wp_exit ⟨rfl,aA⟩
 | .ret,st,bp,ans,cd,obs,e,h,aZ=>by
  simp only[run,aR,bx]at h;obtain⟨rfl,rfl,_,_⟩:=h;exact fun w0 a w aA=>wp_ret ⟨rfl,aA⟩
 | .rangeFunc ..,_,_,_,_,_,_,h,_=>by simp[run]at h
 | .scope _,_,_,_,_,_,_,h,_=>by simp[run]at h
 | .goto _,_,_,_,_,_,_,h,_=>by simp[run]at h
 | .refuse _,_,_,_,_,_,_,h,_=>by simp[run]at h
end Go.Sx
namespace Go.Sx
open Go.RowKit
def aB.xI:aB->D->Option (D×Option Nat)
 | .v x,hint=>
  match x,hint with
  | .slice none 0 0,.J k _=>some (.J k [],none)
  | x,_=>if x.oneCell' then some (.v x,none) else none
 | .ba c,_=>some (.v (.bool c),none)
 | .J (.own t) k es,_=>some (.J k es,some t)
 | _,_=>none
abbrev hJ:=List (Nat×Nat)
def hJ.at(t:Nat):hJ->Option Nat
 | []=>none
 | (s,n)::r=>if s=t then some n else hJ.at t r
def DR(n:Nat):Option Nat->hJ
 | some t=>[(t,n)]
 | none=>[]
def p3(n:Nat):List aB->List D->Option (List D×hJ)
 | [],[]=>some ([],[])
 | l::ls,d::ds=>
  match l.xI d,p3 (n+1) ls ds with
  | some (dt,t),some (rh,ts)=>some (dt::rh,DR n t++ts)
  | _,_=>none
 | _,_=>none
def Ef(n:Nat):bu->cF->Option (cF×hJ)
 | .one l,.one d=>(l.xI d).map fun x=>(.one x.1,DR n x.2)
 | .agg ls,.agg ds=>(p3 n ls ds).map fun x=>(.agg x.1,x.2)
 | _,_=>none
def qW(r:Nat):List aJ->List cF->Option (List cF×hJ)
 | [],[]=>some ([],[])
 | .aK a::ct,d::ds=>
  match Ef (100*r) a d,qW (r+1) ct ds with
  | some (dt,t),some (rh,ts)=>some (dt::rh,t++ts)
  | _,_=>none
 | _,_=>none
def C1(ts:hJ):Bool:=ts.all fun x=>match ts.at x.1 with | some n=>n==x.2 | none=>false
variable{ts:hJ}{n:Nat}
theorem C2(h:C1 ts=true){t:Nat}(hm:(t,n)∈ts):ts.at t=some n:=by
 have:=fA.1 h _ hm;simp only at this;split at this
 ·rename_i YG e;rw[e];simp only[eD]at this;rw[this]
 cases this
def ib(ω:Own)(ts:hJ):Own:=fun b=>
 match ω b with
 | .tok t q=>match ts.at t with | some n=>.tok n q | none=>.bB
 | _=>.bB
variable{w:World}{ω:Own}{τ:Nat->Nat×Value}
theorem aB.T6{l:aB}{h d:D}{t:Option Nat}{u:Value}(aD:l.xI h=some (d,t))(aj:Sat w ω τ l u)
  (j1:∀s,t=some s->ts.at s=some n):bV w (ib ω ts) (Tag.own n).R d u:=by
 cases l with
 | cq=>cases aD
 | v x=>
  have e:u=x:=aj;subst e;simp only[aB.xI]at aD;split at aD
  ·simp only[aR,bx]at aD;obtain⟨rfl,_⟩:=aD;exact .nil _ _ _
  split at aD
  ·simp only[aR,bx]at aD;obtain⟨rfl,_⟩:=aD;exact .v _ _ ‹_›
  cases aD
 | ba c=>
  have e:u=.bool c:=aj;subst e;simp only[aB.xI,aR,bx]at aD;obtain⟨rfl,_⟩:=aD;exact .v _ _ rfl
 | J g k es=>
  cases g with
  | free=>cases aD
  | ro s=>cases aD
  | own s=>
   simp only[aB.xI,aR,bx]at aD;obtain⟨rfl,rfl⟩:=aD;refine aj.1.frame fun b q _ aE=>⟨?_,rfl⟩
   simp only[Tag.R]at aE ⊢;simp only[ib,aE,j1 s rfl]
 | ptr=>cases aD
 | cE=>cases aD
 | hF=>cases aD
 | fd=>cases aD
 | de=>cases aD
 | gn=>cases aD
 | aO=>cases aD
 | fa=>cases aD
theorem QF{t:Option Nat}{s:Nat}(h:t=some s):(s,n)∈DR n t:=by subst h;simp[DR]
theorem I1{w:World}{ω:Own}{τ:Nat->Nat×Value}(j1:∀t n,(t,n)∈ts->ts.at t=some n):∀{ls:List aB} {aj ds:List D} {n:Nat} {jQ:hJ},p3 n ls aj=some (ds,jQ)->(∀x∈jQ,x∈ts)->
  ds.length=ls.length/\∀(j:Nat) (d:D),ds[j]?=some d->∃l,ls[j]?=some l/\∀u,Sat w ω τ l u->bV w (ib ω ts) (Tag.own (n+j)).R d u
 | [],[],ds,n,jQ,h,_=>by
  simp only[p3,aR,bx]at h;obtain⟨rfl,_⟩:=h;exact⟨rfl,fun j d aD=>by simp at aD⟩
 | l::ls,bN::aj,ds,n,jQ,h,iJ=>by
  simp only[p3]at h;split at h
  ·rename_i dt t rh so e1 e2;simp only[aR,bx]at h;obtain⟨rfl,rfl⟩:=h;obtain⟨h1,U⟩:=I1 (w:=w) (ω:=ω) (τ:=τ) j1 e2 (fun x ag=>iJ x (iD _ ag));refine⟨by simp[h1],fun j d aD=>?_⟩;cases j with
   | zero=>
    simp at aD;subst aD;exact⟨l,rfl,fun u hu=>aB.T6 e1 hu fun s db=>j1 s n (iJ _ (hY _ (QF db)))⟩
   | succ j=>
    obtain⟨gu,aw,aH⟩:=U j d (by simpa using aD);refine⟨gu,by simpa using aw,fun u hu=>?_⟩;have:=aH u hu;rwa[show n+1+j=n+(j+1) by omega]at this
  cases h
 | [],_::_,_,_,_,h,_=>by simp[p3]at h
 | _::_,[],_,_,_,h,_=>by simp[p3]at h
theorem alx(j1:∀t n,(t,n)∈ts->ts.at t=some n){a:bu}{h d:cF}{r:Nat}{jQ:hJ}(aA:Ef (100*r) a h=some (d,jQ))(iJ:∀x∈jQ,x∈ts)
  {y:Value} (aj:jV (Sat w ω τ) a y):lo w (ib ω ts) r d y:=by
 cases a with
 | one l=>
  cases h with
  | agg db=>cases aA
  | one bN=>
   simp only[Ef,b1]at aA;obtain⟨⟨dt,t⟩,h1,U⟩:=aA;simp only[bx]at U;obtain⟨rfl,rfl⟩:=U;exact aB.T6 h1 aj fun s db=>j1 s _ (iJ _ (QF db))
 | agg ls=>
  cases h with
  | one bN=>cases aA
  | agg db=>
   simp only[Ef,b1]at aA;obtain⟨⟨ds,t⟩,h1,U⟩:=aA;simp only[bx]at U;obtain⟨rfl,rfl⟩:=U;obtain⟨aw,aH⟩:=I1 (w:=w) (ω:=ω) (τ:=τ) j1 h1 iJ;obtain⟨vs,rfl,aW,bt⟩:=aj;refine⟨vs,rfl,by omega,fun j qb aD=>?_⟩;obtain⟨l,al,cZ⟩:=aH j qb aD;obtain⟨u,hu,eV⟩:=bt j l al;exact⟨u,hu,cZ u eV⟩
theorem C3{w:World}{ω:Own}{τ:Nat->Nat×Value}{ts:hJ}(j1:∀t n,(t,n)∈ts->ts.at t=some n):∀{ct:List aJ} {aj ds:List cF} {r:Nat} {jQ:hJ},qW r ct aj=some (ds,jQ)->(∀x∈jQ,x∈ts)->
  ds.length=ct.length/\∀(j:Nat) (d:cF),ds[j]?=some d->∃p,ct[j]?=some p/\∀u,cL (Sat w ω τ) p u->lo w (ib ω ts) (r+j) d u
 | [],[],ds,r,jQ,h,_=>by
  simp only[qW,aR,bx]at h;obtain⟨rfl,_⟩:=h;exact⟨rfl,fun j d aD=>by simp at aD⟩
 | .aK a::ct,bN::aj,ds,r,jQ,h,iJ=>by
  simp only[qW]at h;split at h
  ·rename_i dt t rh so e1 e2;simp only[aR,bx]at h;obtain⟨rfl,rfl⟩:=h;obtain⟨h1,U⟩:=C3 (w:=w) (ω:=ω) (τ:=τ) j1 e2 (fun x ag=>iJ x (iD _ ag));refine⟨by simp[h1],fun j d aD=>?_⟩;cases j with
   | zero=>
    simp at aD;subst aD;exact⟨.aK a,rfl,fun u hu=>alx j1 e1 (fun x ag=>iJ x (hY _ ag)) hu⟩
   | succ j=>
    obtain⟨gu,aw,aH⟩:=U j d (by simpa using aD);refine⟨gu,by simpa using aw,fun u hu=>?_⟩;have:=aH u hu;rwa[show r+1+j=r+(j+1) by omega]at this
  cases h
 | [],_::_,_,_,_,h,_=>by simp[qW]at h
 | .aK _::_,[],_,_,_,h,_=>by simp[qW]at h
 | .fJ _::_,_,_,_,_,h,_=>by simp[qW]at h
def cF.arg:cF->bu
 | .one d=>.one (d.leaf .free)
 | .agg ds=>.agg (ds.map (D.leaf .free))
def xp(args:List cF)(ntmps:Nat):aI:=⟨args.map (fun a=>.aK a.arg)++List.replicate (ntmps-args.length) .cq,[]⟩
theorem kR.leaf{d:D}{u:Value}(h:kR w d u):Sat w (fun _=>.bB) τ (d.leaf .free) u:=D.dB (p:=(0,0)) h
theorem aly{args:List cF}{vs:Array Value}(rH:o0 w)(h:Dr w args vs)(ntmps:Nat):
  Rel (er.of w) (xp args ntmps) { tmps:=vs++Array.replicate (ntmps-vs.size) undef,defers:=[] } w:=by
 refine⟨fun _=>.bB,fun _=>(0,undef),rfl,by simp[xp,h.1],gj.refl _ rH (fun _ _ h=>h),fun b ar=>absurd rfl ar,fun _ _=>rfl,(fun _ _ _ h=>by cases h),?_,fun id ls al=>by simp[xp,dp]at al⟩;intro i p hp;simp only[xp]at hp;rw[kD,bk]at hp;split at hp
 ·rename_i hi;rw[dj,b1]at hp;obtain⟨ck,WB,rfl⟩:=hp;obtain⟨v,bt,cJ⟩:=h.2 i ck WB;refine⟨v,?_,?_⟩
  ·rw[ht,br (by rw[h.1];exact hi)];exact bt
  cases ck with
  | one d=>exact kR.leaf cJ
  | agg ds=>
   obtain⟨us,rfl,aW,hu⟩:=cJ;refine⟨us,rfl,by simpa using aW,fun j l al=>?_⟩;rw[dj,b1]at al;obtain⟨d,aD,rfl⟩:=al;obtain⟨u,h1,U⟩:=hu j d aD;exact⟨u,h1,kR.leaf U⟩
 rename_i hi;rw[Br]at hp;split at hp
 ·rename_i bz;simp only[aR]at hp;subst hp;refine⟨undef,?_,aa⟩;rw[ht,bh (by rw[h.1];exact hi),Array.getElem?_replicate,br (by rw[h.1];exact bz)]
 cases hp
def pR(P:Program)(st:aI):ResultVar->Option aJ
 | .tmp t=>some (st.bi (.tmp t))
 | .cell a t=>
  match vu P t,P.info? t,(st.bi (.tmp a)).leaf with
  | some agg,some i,some (.ptr id off)=>
   match dp id st.boxes with
   | some ls=>qH agg i.size ls off
   | none=>none
  | _,_,_=>none
def zo(tmps:Array Value):ResultVar->Sem Value
 | .tmp t=>pure (tmps.getD t undef)
 | .cell x t=>do loadVar t (<-asAddr (tmps.getD x undef))
theorem I2(fn:Func)(tmps:Array Value):results fn tmps=(do
  let vs <-fn.results.mapM (zo tmps)
  pure (if h:vs.size=1 then vs[0] else .tuple vs)):=by
 unfold results;have:(fun x=>match x with | .tmp t=>pure (tmps.getD t undef) | .cell a t=>do loadVar t (<-asAddr (tmps.getD a undef)):ResultVar->Sem Value)=zo tmps:=by
  funext x;cases x<;>rfl
 rw[<-this];rfl
variable{P:Program}{st:aI}
theorem akH{w0:er}{a:Act}(aV:cy w0 st a w ω τ){r:ResultVar}{p:aJ}(h:pR P st r=some p):
  ∃z,(zo a.tmps r).run P w=.ok z w/\cL (Sat w ω τ) p z:=by
 cases r with
 | tmp t=>
  simp only[pR,aR]at h;subst h;exact⟨_,rfl,aV.bi (.tmp t)⟩
 | cell x t=>
  simp only[pR]at h;split at h
  ·rename_i agg i id off e1 e2 cb;split at h
   ·rename_i ls cn;have ag:=aJ.dB cb (aV.bi (.tmp x));obtain⟨b,ar,ag⟩:=ag;simp only[Act.eval]at ag;obtain⟨cW,arr,ty,dn,y1,Gh,di,ey⟩:=aV.boxes id ls cn;have:=y1 b ar;subst this;have:=wZ (P:=P) e1 e2 h Gh (base:=0) (by omega) (fun j l al=>by simpa using ey j l al);simpa[zo,ag,asAddr]using this
   cases h
  cases h
def Eg(P:Program)(st:aI)(jq:List ResultVar)(hint:List cF):Option (List cF):=
 match jq.mapM (pR P st) with
 | some ct=>
  match qW 0 ct hint with
  | some (ds,ts)=>if C1 ts then some ds else none
  | none=>none
 | none=>none
theorem C4{w0:er}{a:Act}(aV:cy w0 st a w ω τ):∀{jq:List ResultVar} {ct:List aJ},jq.mapM (pR P st)=some ct->
  ∃zs:List Value,(jq.mapM (zo a.tmps)).run P w=.ok zs w/\zs.length=ct.length/\∀(i:Nat) (p:aJ),ct[i]?=some p->∃z,zs[i]?=some z/\cL (Sat w ω τ) p z
 | [],ct,h=>by simp at h;subst h;exact⟨[],rfl,rfl,fun i p hp=>by simp at hp⟩
 | r::jq,ct,h=>by
  rw[vZ]at h;cases e:pR P st r with
  | none=>simp[e]at h
  | some kx=>
   cases e2:jq.mapM (pR P st) with
   | none=>simp[e,e2]at h
   | some auL=>
    simp[e,e2]at h;subst h;obtain⟨z,h1,U⟩:=akH aV e;obtain⟨zs,aw,aH,aU⟩:=C4 aV e2;refine⟨z::zs,?_,by simp[aH],fun i p hp=>?_⟩
    ·rw[vZ,Sem.run_bind,h1,Result.andThen_ok,Sem.run_bind,aw];rfl
    cases i with
    | zero=>simp at hp;subst hp;exact⟨z,rfl,U⟩
    | succ i=>exact aU i p (by simpa using hp)
theorem QG{f:FuncId}{fn:Func}{c:Code}{args rs:List cF}{ans cd:List b9}{obs:List Prop}{e:hl}(bT:P.funcs[f]?=some fn)(ar:fn.body=some c)
  (eQ:run P c (xp args fn.ntmps) ans=some (e,st,cd,obs)) (aZ:cG obs) (he:e=.ret\/e=.normal) (eP:Eg P st fn.results.toList rs=some rs):h2 P f args rs:=by
 intro w vs rH lM;refine calls_of_wp bT ar (Code.wp_mono (fun e' cz aN hp=>?_) (mH c eQ aZ (er.of w) _ w (aly rH lM fn.ntmps)));obtain⟨rfl,ω,τ,aV⟩:=hp;unfold Eg at eP;split at eP
 ·rename_i ct rD;split at eP
  ·rename_i ds ts ek;split at eP
   ·rename_i cJ;simp only[aR]at eP;subst eP;obtain⟨zs,h1,U,aw⟩:=C4 aV rD;obtain⟨aH,aU⟩:=C3 (w:=aN) (ω:=ω) (τ:=τ) (fun t n h=>C2 cJ h) ek (fun x ag=>ag);have hm:=CE (P:=P) _ fn.results aN _ h1;have e3:∀(j:Nat) (d:cF),ds[j]?=some d->∃z,zs[j]?=some z/\lo aN (ib ω ts) j d z:=by
     intro j d aD;obtain⟨p,hp,rC⟩:=aU j d aD;obtain⟨z,bf,qo⟩:=aw j p hp;exact⟨z,bf,by have:=rC z qo;rwa[dg]at this⟩
    have lj:zs.length=ds.length:=by omega
    have W9:∀v,(if h:zs.toArray.size=1 then zs.toArray[0] else .tuple zs.toArray)=v->wb w aN ds v:=by
     intro v bt;refine⟨ib ω ts,fun b ar=>?_,fun b ar=>?_,?_⟩
     ·cases c8:ω b with
      | bB=>simp[ib,c8]
      | box id=>simp[ib,c8]
      | tok t q=>
       rcases (aV.owned b (by simp[c8])).1 with h | h
       ·exact absurd ar (by have h:w.heap.size<=b:=h;omega)
       exact absurd h (fun h=>h)
     ·cases c8:ω b with
      | bB=>simp[ib,c8]at ar
      | box id=>simp[ib,c8]at ar
      | tok t q=>
       refine⟨?_,(aV.owned b (by simp[c8])).2⟩;simp only[ib,c8]at ar ⊢;cases j1:ts.at t with
       | none=>simp[j1]at ar
       | some n=>exact⟨n,q,rfl⟩
     unfold l3;split
     ·rename_i ck;obtain⟨z,bf,ai⟩:=e3 0 ck rfl;have h1:zs.length=1:=by rw[lj];rfl
      have ot:zs=[z]:=by
       match zs,h1,bf with
       | [z0],_,bf=>simp at bf;rw[bf]
      have y4:v=z:=by
       rw[<-bt];simp[ot]
      rw[y4];exact ai
     rename_i cB;have h1:¬zs.toArray.size=1:=by
      intro h;simp at h;rw[lj]at h;obtain⟨d,aD⟩:=List.length_eq_one_iff.1 h;exact cB d aD
     rw[dif_neg h1]at bt;exact⟨zs.toArray,bt.symm,by simpa using lj,fun r ck aA=>by obtain⟨z,bf,ai⟩:=e3 r ck aA;exact⟨z,by simpa using bf,ai⟩⟩
    have dM:∃v,(results fn cz.tmps).run P aN=.ok v aN/\∃u,Ending.returned v=.returned u/\gk w.heap.size w aN/\wb w aN ds u:=by
     refine⟨_,?_,_,rfl,aV.below.below,W9 _ rfl⟩;rw[I2,Sem.run_bind,hm];rfl
    obtain⟨v,bA,bP⟩:=dM;rcases he with rfl | rfl
    ·exact⟨aV.defers,v,bA,bP⟩
    exact⟨aV.defers,v,bA,bP⟩
   cases eP
  cases eP
 cases eP
end Go.Sx
namespace Go.Sx
open Go.RowKit
def HM(P:Program)(c:Code)(ntmps:Nat)(jq:List ResultVar)(args hint:List cF)(ans:List b9):Option (List cF×List Prop):=
 match run P c (xp args ntmps) ans with
 | some (.ret,st,_,obs)=>(Eg P st jq hint).map fun rs=>(rs,obs)
 | some (.normal,st,_,obs)=>(Eg P st jq hint).map fun rs=>(rs,obs)
 | _=>none
def mI(fn:Func):Code:=fn.body.getD .skip
variable{P:Program}
theorem h2.of{f:FuncId}{fn:Func}{args rs:List cF}(ans:List b9)(obs:List Prop)(bT:P.funcs[f]?=some fn)(ar:fn.body.isSome=true)
  (h:HM P (mI fn) fn.ntmps fn.results.toList args rs ans=some (rs,obs)) (aZ:cG obs):h2 P f args rs:=by
 obtain⟨c,ai⟩:=oS.1 ar;have yB:mI fn=c:=by simp[mI,ai]
 unfold HM at h;rw[yB]at h;split at h
 ·rename_i st a lW aA;rw[b1]at h;obtain⟨tQ,h1,h⟩:=h;simp only[bx]at h;obtain⟨rfl,rfl⟩:=h;exact QG bT ai aA aZ (.inl rfl) h1
 ·rename_i st a lW aA;rw[b1]at h;obtain⟨tQ,h1,h⟩:=h;simp only[bx]at h;obtain⟨rfl,rfl⟩:=h;exact QG bT ai aA aZ (.inr rfl) h1
 cases h
def zd(P:Program)(body:Code)(st:aI)(ans:List b9)(cK bs:List Nat):Option (hl×aI×List Prop):=
 (run P body st ans).map fun r=>(r.1,r.2.1.fo cK bs,r.2.2.2)
variable{body:Code}{st bp:aI}{e:hl}
theorem gl.HH{ans:List b9}{cK bs:List Nat}{obs:List Prop}(h:zd P body st ans cK bs=some (e,bp,obs))(aZ:cG obs):gl P body st e bp:=by
 unfold zd at h;rw[b1]at h;obtain⟨⟨bM,b2,cj,ep⟩,h1,h⟩:=h;simp only[bx]at h;obtain⟨rfl,rfl,rfl⟩:=h;intro w0 a w aA;exact Code.wp_mono (fun e' cz aN ⟨h1,U⟩=>⟨h1,U.fo cK bs⟩) (mH body h1 aZ w0 a w aA)
def Hy(P:Program)(body:Code)(st:aI)(ans:List b9)(ns:List (Nat×Nat×Nat))(cK bs:List Nat):Option (hl×aI×List Prop):=
 (run P body st ans).bind fun r=>(tr r.2.1 ns).map fun s=>(r.1,s.fo cK bs,r.2.2.2)
theorem gl.YK{ans:List b9}{ns:List (Nat×Nat×Nat)}{cK bs:List Nat}{obs:List Prop}(h:Hy P body st ans ns cK bs=some (e,bp,obs))(aZ:cG obs):gl P body st e bp:=by
 unfold Hy at h;rw[lA]at h;obtain⟨⟨bM,b2,cj,ep⟩,h1,h⟩:=h;rw[b1]at h;obtain⟨s,aj,h⟩:=h;simp only[bx]at h;obtain⟨rfl,rfl,rfl⟩:=h;intro w0 a w aA;exact Code.wp_mono (fun e' cz aN ⟨h1,U⟩=>⟨h1,(zn aj U).fo cK bs⟩) (mH body h1 aZ w0 a w aA)
theorem c3.step{st1:aI}(ans:List b9)(cK bs:List Nat)(obs:List Prop)(h:zd P body st ans cK bs=some (.normal,st1,obs))(aZ:cG obs)(U:c3 P body st1 e bp):c3 P body st e bp:=
 .more (gl.HH h aZ) U
theorem c3.done(ans:List b9)(cK bs:List Nat)(obs:List Prop)(he:e.o7≠.normal)(h:zd P body st ans cK bs=some (e,bp,obs))(aZ:cG obs):c3 P body st e bp:=
 .last he (gl.HH h aZ)
theorem cM(i:Nat):(hl.exit i).o7≠.normal:=fun h=>by cases h
theorem fg:hl.ret.o7≠.normal:=fun h=>by cases h
def tt:Code->List Code
 | .seq a b=>tt a++tt b
 | .cond _ a b=>tt a++tt b
 | .block _ b=>tt b
 | .loop b=>b::tt b
 | .scope b=>tt b
 | _=>[]
def aq(fn:Func)(i:Nat):Code:=(tt (mI fn)).getD i .skip
def tu:Code->List (Nat×Array Oper)
 | .region id ops true=>[(id,ops)]
 | .seq a b=>tu a++tu b
 | .cond _ a b=>tu a++tu b
 | .block _ b=>tu b
 | .loop b=>tu b
 | .scope b=>tu b
 | _=>[]
def cR(fn:Func)(id:Nat):Array Oper:=(((tu (mI fn)).find? fun x=>Nat.beq x.1 id).map (·.2)).getD #[]
def Wl(n:Nat)(l:List (Nat×aJ)):List aJ:=l.foldl (fun e x=>e.set x.1 x.2) (List.replicate n .cq)
abbrev I(n:Int):D:=.v (.int .i64 n)
abbrev B(b:Bool):D:=.v (.bool b)
abbrev aty(s:ByteArray):D:=.v (.string s)
end Go.Sx
namespace Go.Sx
open Go.RowKit
inductive jy (P:Program):TypeId->List D->Prop
 | bool (t:TypeId) (b:Bool) (h:P.underlying t=some .bool):jy P t [.v (.bool b)]
 | int (t:TypeId) (k:IntKind) (n:Int) (h:P.underlying t=some (.int k)) (hw:(Lit.int k n).wf=true):jy P t [.v (.int k n)]
 | str (t:TypeId) (s:ByteArray) (h:P.underlying t=some .string) (aj:s.size<=maxLen):jy P t [.v (.string s)]
 | J (t e:TypeId) (es:List (List D)) (h:P.underlying t=some (.slice e)) (al:es.length<=maxLen) (he:∀ds∈es,jy P e ds):jy P t [.J (P.cellsOf e) es]
 | struct (t:TypeId) (eH:Array Field) (ds:List D) (h:P.underlying t=some (.struct eH)) (al:ds.length=P.cellsOf t) (bT:∀f∈eH.toList,jy P f.type ((ds.drop f.offset).take (P.cellsOf f.type))):jy P t ds
def tT(P:Program):Nat->List Field->Nat->Bool
 | o,[],n=>o==n
 | o,f::r,n=>f.offset==o&&tT P (o+P.cellsOf f.type) r n
def tv(P:Program):Nat->TypeId->Bool
 | 0,_=>false
 | m+1,t=>
  match P.underlying t with
  | some .bool | some (.int _) | some .string=>true
  | some (.slice e)=>decide (0<P.cellsOf e)&&tv P m e
  | some (.struct eH)=>eH.toList.all (fun f=>tv P m f.type)&&tT P 0 eH.toList (P.cellsOf t)
  | _=>false
def n5(w:World)(ds:List D)(cs:List Value):Prop:=ds.length=cs.length/\∀(i:Nat) (d:D),ds[i]?=some d->∃v,cs[i]?=some v/\kR w d v
theorem n5.one{w:World}{d:D}{v:Value}(h:kR w d v):n5 w [d] [v]:=
 ⟨rfl,fun i dt aD=>by
  cases i with
  | zero=>simp at aD;subst aD;exact⟨v,rfl,h⟩
  | succ i=>simp at aD⟩
theorem n5.append{w:World}{a b:List D}{x y:List Value}(h:n5 w a x)(k:n5 w b y):n5 w (a++b) (x++y):=by
 refine⟨by simp[h.1,k.1],fun i d aD=>?_⟩;rw[kD]at aD ⊢;rw[<-h.1];split at aD
 ·rename_i hi;rw[br hi];exact h.2 i d aD
 rename_i hi;rw[bh hi];exact k.2 _ d aD
theorem I3{P:Program}:∀{gb:List Field} {o n:Nat},tT P o gb n=true->o<=n/\∀f∈gb,o<=f.offset/\f.offset+P.cellsOf f.type<=n
 | [],o,n,h=>by simp[tT]at h;exact⟨by omega,fun f bT=>by cases bT⟩
 | f::r,o,n,h=>by
  simp only[tT,cx,eD]at h;obtain⟨h1,U⟩:=I3 h.2;refine⟨by omega,fun g au=>?_⟩;rcases eu.1 au with rfl | au
  ·exact⟨by omega,by omega⟩
  have:=U g au;exact⟨by omega,this.2⟩
theorem Ug{P:Program}{w:World}{cs:List Value}:∀{gb:List Field} {o:Nat},tT P o gb cs.length=true->
  (∀f∈gb,∃ds,jy P f.type ds/\n5 w ds ((cs.drop f.offset).take (P.cellsOf f.type)))->
  ∃ds,n5 w ds (cs.drop o)/\∀f∈gb,jy P f.type ((ds.drop (f.offset-o)).take (P.cellsOf f.type))
 | [],o,h,_=>by
  simp only[tT,eD]at h;subst h;exact⟨[],⟨by simp,fun i d aD=>by simp at aD⟩,fun f bT=>by cases bT⟩
 | f::r,o,h,bT=>by
  have hle:=I3 h;simp only[tT,cx,eD]at h;obtain⟨bN,h⟩:=h;obtain⟨ds,h1,U⟩:=Ug h fun g au=>bT g (by simp[au])
  obtain⟨d0,aw,aH⟩:=bT f (by simp);have Ce:d0.length=P.cellsOf f.type:=by
   rw[aH.1];have:=(hle.2 f (by simp)).2;simp;omega
  refine⟨d0++ds,?_,?_⟩
  ·have:cs.drop o=(cs.drop f.offset).take (P.cellsOf f.type)++cs.drop (o+P.cellsOf f.type):=by
    rw[bN,<-List.drop_drop];exact (VP _ _).symm
   rw[this];exact aH.append h1
  intro g au;rcases eu.1 au with rfl | au
  ·rw[bN,Nat.sub_self,v7,E9 (by omega),vX (by omega)];exact aw
  have auf:=U g au;have:=(I3 h).2 g au;rw[List.drop_append,List.drop_eq_nil_of_le (show d0.length<=g.offset-o by omega),List.nil_append,Ce];rwa[show g.offset-o-P.cellsOf f.type=g.offset-(o+P.cellsOf f.type) by omega]
section
variable {H : Type} {enc : TypeId × Value -> H} {P : Program} {w : World} {base : Nat} {held : Bool}
theorem C5{a:Addr}{k:Nat}{cs:List Value}(h:w.cells? base a k=some cs):cs.length=k/\∀i,i<k->w.cell? (a.add i)=cs[i]?:=by
 unfold World.cells? at h;split at h
 ·exact⟨by simpa using mapM_some_length h,fun i hi=>mapM_some_get h i i (by simp[hi])⟩
 cases h
theorem I4{a:Addr}{v:Value}(h:w.cell? a=some v):∃arr ty cO,w.heap[a.block]?=some (.cells arr ty cO)/\a.spot=none/\arr[a.off]?=some v:=by
 unfold World.cell? at h;split at h
 ·rename_i arr ty cO e;split at h
  ·cases h
  rename_i aj;refine⟨arr,ty,cO,e,?_,h⟩;cases GF:a.spot with
  | none=>rfl
  | some x=>simp[GF]at aj
 cases h
theorem I5:∀(m:Nat) (t:TypeId) (gZ:Nat) (cs:List Value) (x:DataW H×List MemPlace),tv P m t=true->DataW.trod enc P w base (fun _=>true) held gZ t cs=some x->
  ∃ds,jy P t ds/\n5 w ds cs
 | 0,_,_,_,_,h,_=>by cases h
 | m+1,t,gZ,cs,x,aj,h=>by
  unfold tv at aj;split at aj
  ·rename_i hu;obtain⟨b,rfl,_⟩:=DataW.trod_bool hu h;exact⟨_,.bool t b hu,.one (.v _ _ rfl)⟩
  ·rename_i k hu;obtain⟨n,rfl,_,hw⟩:=DataW.trod_int hu h;exact⟨_,.int t k n hu hw,.one (.v _ _ rfl)⟩
  ·rename_i hu;obtain⟨s,rfl,_,hw⟩:=DataW.trod_string hu h;exact⟨_,.str t s hu hw,.one (.v _ _ rfl)⟩
  ·rename_i e hu;simp only[cx,cU]at aj;obtain⟨lc,Co⟩:=aj;rcases DataW.trod_slice hu h with⟨rfl,_⟩ | ⟨a,len,cap,M1,rest,n,_,rfl,_,_,al,ai,hlen,sP,GF,_⟩
   ·exact⟨_,.J t e [] hu (by simp) (fun ds ek=>by cases ek),.one (.nil _ _ _)⟩
   obtain⟨NR,NQ⟩:=GF rfl;generalize gr:P.cellsOf e=k at*;have hA:∀i,i<cap->∃cs,w.cells? base (a.add (i*k)) k=some cs/\∃x,DataW.trod enc P w base (fun _=>true) held n e cs=some x:=by
    intro i hi;by_cases jd:i<len
    ·have:=sP i jd;obtain⟨y,bl⟩:∃y,M1[i]?=some y:=⟨M1[i],gU (by omega)⟩
     rw[bl,lA]at this;obtain⟨cs,h1,U⟩:=this;exact⟨cs,h1,y,U⟩
    have:=NQ (i-len) (by omega);rw[show len+(i-len)=i by omega]at this;obtain⟨y,bl⟩:∃y,rest[i-len]?=some y:=⟨rest[i-len],gU (by omega)⟩
    rw[bl,lA]at this;obtain⟨cs,h1,U⟩:=this;exact⟨cs,h1,y,U⟩
   by_cases fE:cap=0
   ·subst fE;have:len=0:=by omega
    subst this;have:=jy.J (P:=P) t e [] hu (by simp) (fun ds ek=>by cases ek);exact⟨_,this,.one (.nil _ _ _)⟩
   have W5:∀i,∃ds,i<len->jy P e ds/\∃cs,w.cells? base (a.add (i*k)) k=some cs/\n5 w ds cs:=by
    intro i;by_cases hi:i<len
    ·obtain⟨cs,h1,x,U⟩:=hA i (by omega);obtain⟨ds,aw,aH⟩:=I5 m e n cs x Co U;exact⟨ds,fun _=>⟨aw,cs,h1,aH⟩⟩
    exact⟨[],fun h=>absurd h hi⟩
   obtain⟨f,bT⟩:=Classical.skolem.1 W5;obtain⟨cl,np,_⟩:=hA (cap-1) (by omega);obtain⟨at8,WS⟩:=C5 np;have sR:=WS (k-1) (by omega);obtain⟨auV,GJ⟩:∃v,cl[k-1]?=some v:=⟨cl[k-1],gU (by omega)⟩
   rw[GJ]at sR;obtain⟨b,off,spot⟩:=a;have X9:spot=none:=by
    obtain⟨dx,WL,_⟩:=hA 0 (by omega);obtain⟨at6,WM⟩:=C5 WL;have bN:=WM 0 lc;obtain⟨v0,Cq⟩:∃v,dx[0]?=some v:=⟨dx[0],gU (by omega)⟩
    rw[Cq]at bN;obtain⟨_,_,_,_,h1,_⟩:=I4 bN;simpa[Addr.add]using h1
   subst X9;obtain⟨arr,ty,cO,ar,_,sR⟩:=I4 sR;simp only[pL]at ar sR;have di:off+cap*k<=arr.size:=by
    have h1:=(ik.1 sR).1;have U:cap*k=(cap-1)*k+k:=by rw[<-Nat.succ_mul];congr 1;omega
    omega
   have Cc:((List.range len).map f).length=len:=by simp
   have hD:∀i j d,cY ((List.range len).map f) i j=some d->i<len/\(f i)[j]?=some d:=by
    intro i j d aD;unfold cY at aD;rw[dj]at aD;by_cases hi:i<len
    ·rw[List.getElem?_range hi]at aD;exact⟨hi,by simpa using aD⟩
    rw[List.getElem?_eq_none (by simpa using hi)]at aD;simp at aD
   have e3:∀i j d,cY ((List.range len).map f) i j=some d->∃u,arr[off+i*k+j]?=some u/\kR w d u:=by
    intro i j d aD;obtain⟨hi,a6⟩:=hD i j d aD;obtain⟨_,cs,h1,U⟩:=bT i hi;obtain⟨WR,rp⟩:=C5 h1;obtain⟨u,je,aA⟩:=U.2 j d a6;have yH:j<k:=by rw[<-WR];exact (eh.1 je).1
    have:=rp j yH;rw[je]at this;obtain⟨h3,ih,FG,fL,_,ag⟩:=I4 this;simp only[pL]at fL ag;rw[ar]at fL;cases fL;exact⟨u,ag,aA⟩
   have Cl:bV w (fun _=>.bB) Tag.free.R (.J k ((List.range len).map f)) (.slice (some ⟨b,off,none⟩) ((List.range len).map f).length cap):=by
    refine .row _ k _ b off cap arr ty cO (fun i j=>arr.getD (off+i*k+j) undef) ar rfl (by omega) di ?_ ?_ ?_
    ·intro e' he;obtain⟨i,hi,rfl⟩:=k5.1 he;obtain⟨_,cs,h1,U⟩:=bT i (by simpa using hi);rw[U.1];exact (C5 h1).1
    ·intro i j d aD;obtain⟨u,h1,_⟩:=e3 i j d aD;rw[h1];simp[d',h1]
    intro i j d aD;obtain⟨u,h1,U⟩:=e3 i j d aD;have:arr.getD (off+i*k+j) undef=u:=by simp[d',h1]
    rw[this];exact U
   rw[Cc]at Cl;have oq:=jy.J (P:=P) t e ((List.range len).map f) hu (by rw[Cc];omega);rw[gr]at oq;refine⟨_,oq ?_,.one Cl⟩;intro ds ek;obtain⟨i,hi,rfl⟩:=k5.1 ek;exact (bT i (by simpa using hi)).1
  ·rename_i eH hu;simp only[cx,fA]at aj;obtain⟨my,sU⟩:=aj;obtain⟨xs,n,_,_,al,fP,bT⟩:=DataW.trod_struct hu h;rw[<-al]at sU;obtain⟨ds,h1,U⟩:=Ug (w:=w) sU fun f Nq=>by
    obtain⟨i,hi⟩:=oT.1 Nq;have:=bT i f (by simpa using hi);have ks:i<xs.length:=by rw[fP];have:=(eh.1 hi).1;simpa using this
    rw[gU ks]at this;exact I5 m f.type n _ _ (my f Nq) this
   rw[v7]at h1;exact⟨ds,.struct t eH ds hu (by rw[h1.1,al]) (by simpa using U),h1⟩
  cases aj
end
end Go.Sx
namespace Go.Sx
open Go.ChangeShapes Go.WideShapes Go.ChangeAt Go.RowKit Go.Joins
def q'(P:Program)(t:TypeId):Bool:=match P.underlying t with | some (.struct _)=>true | _=>false
def BH(P:Program)(t:TypeId):cF->Prop
 | .one d=>jy P t [d]/\q' P t=false
 | .agg ds=>jy P t ds/\q' P t=true
def BI(P:Program):List TypeId->List cF->Prop
 | [],[]=>True
 | t::ts,a::as=>BH P t a/\BI P ts as
 | _,_=>False
section
variable {H : Type} {enc : TypeId × Value -> H} {P : Program} {w : World} {base cg : Nat} {held : Bool} {r : Reach}
theorem akI{t:TypeId}{v:Value}{d:DataW H}{ct:List MemPlace}(aj:tv P 20 t=true)(gd:Value.okWide P w r cg t v)(h:DataW.Trod enc P w base (fun _=>true) held t v d ct):
  ∃ck,BH P t ck/\uf w ck v:=by
 obtain⟨gZ,bT⟩:=h;obtain⟨ds,h1,U⟩:=I5 20 t gZ _ _ aj bT;have one:(∀cs,v≠.agg cs)->q' P t=false->∃ck,BH P t ck/\uf w ck v:=by
  intro bt ah;have ai:v.cells.toList=[v]:=by
   cases v<;>first | rfl | (exact absurd rfl (bt _))
  rw[ai]at U
  match ds,h1,U with
  | [d],h1,U=>
   obtain⟨u,hu,aA⟩:=U.2 0 d rfl;simp at hu;subst hu;exact⟨.one d,⟨h1,ah⟩,aA⟩
  | [],_,U=>simp[n5]at U
  | _::_::_,_,U=>simp[n5]at U
 rw[show (20:Nat)=19+1 from rfl]at aj;unfold tv at aj;unfold Value.okWide at gd;split at aj
 ·rename_i hu;rw[hu]at gd;refine one (fun cs e=>?_) (by simp[q',hu]);subst e;simp[Cell.okWide,Cell.ok,hu]at gd
 ·rename_i hu;rw[hu]at gd;refine one (fun cs e=>?_) (by simp[q',hu]);subst e;simp[Cell.okWide,Cell.ok,hu]at gd
 ·rename_i hu;rw[hu]at gd;refine one (fun cs e=>?_) (by simp[q',hu]);subst e;simp[Cell.okWide,Cell.ok,hu]at gd
 ·rename_i hu;rw[hu]at gd;refine one (fun cs e=>?_) (by simp[q',hu]);subst e;simp[Cell.okWide,Cell.ok,hu]at gd
 ·rename_i hu;rw[hu]at gd;obtain⟨cs,rfl,_,_⟩:=gd;refine⟨.agg ds,⟨h1,by simp[q',hu]⟩,cs,rfl,by have:=U.1;simpa[Value.cells]using this.symm,fun i d aD=>?_⟩;obtain⟨u,je,aA⟩:=U.2 i d aD;exact⟨u,by simpa[Value.cells]using je,aA⟩
 cases aj
theorem QH:∀(ts:List TypeId) (vs:List Value) (ds:List (DataW H)) (ct:List MemPlace),ts.all (tv P 20)=true->(∀(j:Nat) t v,ts[j]?=some t->vs[j]?=some v->Value.okWide P w r cg t v)->
  DataW.TrodAll enc P w base (fun _=>true) held ts vs ds ct->∃fZ,BI P ts fZ/\vs.length=fZ.length/\∀(i:Nat) (ck:cF),fZ[i]?=some ck->∃v,vs[i]?=some v/\uf w ck v
 | [],[],[],_,_,_,_=>⟨[],aa,rfl,fun i ck h=>by simp at h⟩
 | t::ts,v::vs,d::ds,ct,aj,gd,h=>by
  obtain⟨p,q,h1,U,_⟩:=h;simp only[List.all_cons,cx]at aj;obtain⟨ck,WA,FZ⟩:=akI aj.1 (gd 0 t v rfl rfl) h1;obtain⟨fZ,aw,aH,aU⟩:=QH ts vs ds q aj.2 (fun j t v bQ bt=>gd (j+1) t v (by simpa using bQ) (by simpa using bt)) U;refine⟨ck::fZ,⟨WA,aw⟩,by simp[aH],fun i mZ hi=>?_⟩;cases i with
  | zero=>simp at hi;subst hi;exact⟨v,rfl,FZ⟩
  | succ i=>simpa using aU i mZ (by simpa using hi)
 | [],_::_,_,_,_,_,h=>by simp[DataW.TrodAll]at h
 | [],[],_::_,_,_,_,h=>by simp[DataW.TrodAll]at h
 | _::_,[],_,_,_,_,h=>by simp[DataW.TrodAll]at h
 | _::_,_::_,[],_,_,_,h=>by simp[DataW.TrodAll]at h
theorem PT{H:Type}{enc:TypeId×Value->H}{P:Program}(al:laidOutB P=true){W x9:World}(ar:Below W.heap.size W x9):
  ∀(ts:List TypeId) (vs:List Value) (ds:List (DataW H)) (ct:List MemPlace),ts.all (fun t=>P.readableRec t&&decide (t<P.types.size))=true->
   DataW.TrodAll enc P W 0 (fun _=>true) true ts vs ds ct->(∀x∈ct,x.block<W.heap.size)->
   DataW.TrodAll enc P x9 0 (fun b=>decide (b<W.heap.size)) true ts vs ds ct
 | [],vs,ds,ct,_,h,_=>by
  obtain⟨rfl,rfl,rfl⟩:=trodAll_nil h;exact trodAll_mk0
 | t::ts,vs,ds,ct,bQ,h,bz=>by
  obtain⟨v,as6,d,rh,p,q,rfl,rfl,rfl,bN,aA⟩:=trodAll_cons h;simp only[List.all_cons,cx,cU]at bQ;exact trodAll_cons_mk (Below.trod al bQ.1.1 bQ.1.2 bN ar (fun x ag=>bz x (hY _ ag)))
   (PT al ar ts as6 rh q bQ.2 aA (fun x ag=>bz x (iD _ ag)))
theorem PU:∀(ts:List TypeId) (vs:List Value) (ds:List (DataW H)) (ct:List MemPlace),DataW.TrodAll enc P w base (fun _=>true) held ts vs ds ct->ds.length=ts.length
 | [],[],[],_,_=>rfl
 | t::ts,v::vs,d::ds,ct,h=>by
  obtain⟨p,q,_,U,_⟩:=h;simp[PU ts vs ds q U]
 | [],_::_,_,_,h=>by simp[DataW.TrodAll]at h
 | [],[],_::_,_,h=>by simp[DataW.TrodAll]at h
 | _::_,[],_,_,h=>by simp[DataW.TrodAll]at h
 | _::_,_::_,[],_,h=>by simp[DataW.TrodAll]at h
theorem akJ(al:laidOutB P=true){f:Func}{fno:Nat}{s:ChangeSpec}{tb:TypeId}(eP:f.resultTypes=#[tb])(ar:P.underlying tb=some .bool)
  (hp:f.params.toList.all (fun t=>P.readableRec t&&decide (t<P.types.size))=true) (eE:f.params.toList.all (tv P 20)=true) (NZ:s.vars=[])
  {W:World} {args:Array Value} {ds gs:List (DataW H)} {before:List MemPlace} (gd:∀(j:Nat) t v,f.params[j]?=some t->args[j]?=some v->Value.okWide P W r cg t v)
  (sN:DataW.Whole enc P f.params.toList s.vars false W args.toList ds gs before)
  (aj:ds.length=f.params.size->(s.fn H ds).results=[.lit (.bool true)]/\(s.fn H ds).args=ds/\(s.fn H ds).vars=[])
  (rH:o0 W) (Xz:∀fZ,BI P f.params.toList fZ->h2 P fno fZ [.one (B true)]):
  Calls P fno args W fun e x9=>∃v,e=.returned v/\s.post enc P f false true false false W args v x9:=by
 have Wz:=sN;have bz:=sN.lt;obtain⟨p,q,yx,Na,rfl,aue,auq⟩:=sN;rw[NZ]at Na;obtain⟨rfl,rfl⟩:=trodVars_none Na;obtain⟨h1,U,aw⟩:=aj (by have:=PU _ _ _ _ yx;simpa using this);obtain⟨fZ,X7,hlen,cJ⟩:=QH _ _ _ _ eE (fun j t v bQ bt=>gd j t v (by simpa using bQ) (by simpa using bt)) yx;refine (Xz fZ X7 W args rH ⟨by simpa using hlen,fun i ck hi=>by simpa using cJ i ck hi⟩).mono ?_;rintro e x9 ⟨v,rfl,qf,aA⟩;have bt:v=.bool true:=by
  obtain⟨ω,_,_,h⟩:=aA;simp only[l3,lo]at h;cases h;rfl
 subst bt;refine⟨_,rfl,ds,[],p++[],[],p,[],Wz,?_,?_,?_,qf.below.frame _,fun h=>by cases h⟩
 ·rw[lz,h1,eP];exact trodAll_mk1 (shut_bool ar true)
 ·rw[lz,U];exact PT al qf.below _ _ _ _ hp yx (fun x ag=>bz x (by simpa using ag))
 rw[lz,aw,NZ];rfl
end
