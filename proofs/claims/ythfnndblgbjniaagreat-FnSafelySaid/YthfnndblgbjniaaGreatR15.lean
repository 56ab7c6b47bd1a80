import Derived.Test.YthfnndblgbjniaaGreatR13
import Derived.LoopN
import Derived.ChangeMaps5
import Derived.ChangeSame
import Derived.ChangeStays
import Derived.ProofKit
import Derived.Lib.SmallJoins
set_option linter.unusedVariables false
set_option linter.unusedSimpArgs false
namespace Go.Sx
open Go.RowKit
def h3.qf:h3->Exit
 | .normal=>.normal
 | .exit id=>.exit id
 | .ret=>.ret
def RB(w0:eT)(e:h3)(st:aD):Exit->Act->World->Prop:=fun e' a w=>e'=e.qf/\Rel w0 st a w
def fS(P:Program)(c:Code)(st:aD)(e:h3)(bG:aD):Prop:=∀w0 a w,Rel w0 st a w->c.wp P (RB w0 e bG) a w
def c8(P:Program)(c:Code)(st:aD)(e:h3)(bG:aD):Prop:=∃n,∀w0 a w,Rel w0 st a w->Code.rounds P c (RB w0 e bG) n a w
variable{P:Program}{st bG:aD}
theorem c8.last{c:Code}{e:h3}(he:e.qf≠.normal)(h:fS P c st e bG):c8 P c st e bG:=
 ⟨1,fun w0 a w aC=>Code.wp_mono (fun e' cQ aN ⟨h1,U⟩=>by
  subst h1;cases e with
  | normal=>exact absurd rfl he
  | exit id=>exact⟨rfl,U⟩
  | ret=>exact⟨rfl,U⟩) (h w0 a w aC)⟩
theorem c8.more{c:Code}{st1:aD}{e:h3}(h:fS P c st .normal st1)(U:c8 P c st1 e bG):c8 P c st e bG:=by
 obtain⟨n,aW⟩:=U;refine⟨n+1,fun w0 a w aC=>Code.wp_mono (fun e' cQ aN ⟨h1,aA⟩=>?_) (h w0 a w aC)⟩;subst h1;exact aW w0 cQ aN aA
def ww(cV:List Nat):Nat->List aI->List aI
 | _,[]=>[]
 | i,p::r=>(if cV.contains i then p else .cp)::ww cV (i+1) r
theorem VB(cV:List Nat):∀(l:List aI) (i j:Nat),(ww cV i l)[j]?=(l[j]?).map fun p=>if cV.contains (i+j) then p else .cp
 | [],_,_=>by simp[ww]
 | p::r,i,0=>by simp[ww]
 | p::r,i,j+1=>by
  simp only[ww,p8,VB cV r (i+1) j];rw[show i+1+j=i+(j+1) by omega]
theorem VC(cV:List Nat):∀(l:List aI) (i:Nat),(ww cV i l).length=l.length
 | [],_=>rfl
 | p::r,i=>by simp[ww,VC cV r]
def yl(bs:List Nat):List (Nat×List aG)->List (Nat×List aG)
 | []=>[]
 | (i,ls)::r=>if bs.contains i then (i,ls)::yl bs r else yl bs r
theorem Mp(bs:List Nat)(id:Nat):∀(l:List (Nat×List aG)) (ls:List aG),dK id (yl bs l)=some ls->dK id l=some ls
 | [],_,h=>by cases h
 | (i,dn)::r,ls,h=>by
  simp only[yl]at h;simp only[dK];split at h
  ·simp only[dK]at h;split at h
   ·grind
   rename_i hi;rw[bD hi];exact Mp bs id r ls h
  rename_i ai;have:=Mp bs id r ls h;split
  ·rename_i hi;subst hi;exfalso;have jH:∀(r:List (Nat×List aG)),dK i (yl bs r)=none:=by
    intro r;induction r with
    | nil=>rfl
    | cons x r eA=>
     obtain⟨gY,gN⟩:=x;simp only[yl];split
     ·rename_i ag;simp only[dK];grind
     exact eA
   grind
  exact this
def F1:aG->aG
 | .v (.bool b)=>.bg b
 | l=>l
variable{w:World}
theorem VD{ω:Own}{τ:Nat->Nat×Value}(l:aG)(v:Value)(h:Sat w ω τ l v):Sat w ω τ (F1 l) v:=by
 unfold F1;split
 ·exact h
 exact h
def aD.e9(st:aD)(cV bs:List Nat):aD:=⟨(ww cV 0 st.env).map (aI.map F1),(yl bs st.boxes).map fun x=>(x.1,x.2.map F1)⟩
variable{w0:eT}{a:Act}
theorem Rel.e9(h:Rel w0 st a w)(cV bs:List Nat):Rel w0 (st.e9 cV bs) a w:=by
 obtain⟨ω,τ,h⟩:=h;refine⟨ω,τ,h.defers,by simp[aD.e9,VC,h.size],h.below,h.owned,h.fixed,h.pinned,?_,?_⟩
 ·intro i p hp;simp only[aD.e9]at hp;rw[dI,ca]at hp;obtain⟨ic,hp,rfl⟩:=hp;rw[VB,ca]at hp;obtain⟨sZ,hp,rfl⟩:=hp;obtain⟨v,h1,U⟩:=h.env i sZ hp;refine⟨v,h1,cW.map VD ?_⟩;split
  ·exact U
  exact trivial
 intro id ls al;simp only[aD.e9]at al;rw[uK,ca]at al;obtain⟨kg,al,rfl⟩:=al;obtain⟨b,arr,ty,h1,U,aA,aJ⟩:=h.boxes id kg (Mp bs id _ _ al);exact⟨b,arr,ty,h1,U,aA,aJ.map VD⟩
def Mq(st:aD)(id j t k:Nat):Option aD:=
 match dK id (st.ki t []).boxes with
 | some ls=>
  match ls[j]? with
  | some (.v (.slice none 0 0))=>if t<dk then some ⟨(st.ki t []).env,rX id (ls.set j (.J (.own t) k [])) (st.ki t []).boxes⟩ else none
  | _=>none
 | none=>none
def Mr(st:aD)(id j t:Nat):Option aD:=
 match dK id st.boxes with
 | some kg=>
  match kg[j]? with
  | some (.J (.own gL) ck es)=>
   if t<dk then
    let st1:=st.map (aG.cN (lp gL t) fun _=>true)
    match dK id st1.boxes with
    | some ls=>some ⟨st1.env,rX id (ls.set j (.J (.own t) ck es)) st1.boxes⟩
    | none=>none
   else none
  | _=>none
 | none=>none
def wx(st:aD):List (Nat×Nat×Nat)->Option aD
 | []=>some st
 | (s,t,k)::r=>
  if 1000000<=s then
   (match Mr st (s / 1000000-1) (s % 1000000) t with
   | some st1=>some st1
   | none=>Mq st (s / 1000000-1) (s % 1000000) t k).bind fun st1=>wx st1 r else
  match (st.env.getD s .cp).leaf with
  | some (.v (.slice none 0 0))=>if t<dk then wx ⟨(st.ki t []).env.set s (.one (.J (.own t) k [])),(st.ki t []).boxes⟩ r else none
  | some (.J (.own gL) ck es)=>
   if t<dk then wx ⟨(st.map (aG.cN (lp gL t) fun _=>true)).env.set s (.one (.J (.own t) ck es)),(st.map (aG.cN (lp gL t) fun _=>true)).boxes⟩ r else none
  | _=>none
theorem cM.RH{ω:Own}{τ:Nat->Nat×Value}(h:cM w0 st a w ω τ){s:Nat}{l:aG}(al:(st.env.getD s .cp).leaf=some l)(cZ:l≠.cp):∃v,a.tmps[s]?=some v/\Sat w ω τ l v:=by
 rw[ly]at al;cases e:st.env[s]? with
 | none=>grind[aI.leaf,aZ,absurd]
 | some p=>
  rw[e]at al;obtain⟨v,h1,U⟩:=h.env s p e;grind[aI.dU]
theorem VE{s:Nat}{v:Value}(h:a.tmps[s]?=some v):a.put (some s) v=a:=by
 simp only[Act.put];have:a.tmps.setIfInBounds s v=a.tmps:=by
  grind
 rw[this]
theorem aAh{id j t k:Nat}(h:Mq st id j t k=some bG)(aC:Rel w0 st a w):Rel w0 bG a w:=by
 obtain⟨ω,τ,aC⟩:=aC;unfold Mq at h;split at h
 ·rename_i ls aw;split at h
  ·rename_i bf;split at h
   ·rename_i jK;simp only[aZ]at h;subst h;obtain⟨bh,h1,U⟩:=aC.LK t k jK;refine⟨bh,_,h1.defers,h1.size,h1.below,h1.owned,h1.fixed,h1.pinned,h1.env,fun iV fV al=>?_⟩;by_cases hB:iV=id
    ·subst hB;rw[Ay aw]at al;cases al;obtain⟨b,arr,ty,e1,e2,ch,dS⟩:=h1.boxes iV ls aw;refine⟨b,arr,ty,e1,e2,ch,by rw[dS.1,ho],fun i l hi=>?_⟩;rw[p7]at hi;split at hi
     ·rename_i oD;subst oD;split at hi
      ·cases hi;obtain⟨u,hd,fG⟩:=dS.2 j _ bf;have SU:u=.slice none 0 0:=fG;grind
      cases hi
     exact dS.2 i l hi
    rw[Az hB]at al;exact h1.boxes iV fV al
   cases h
  cases h
 cases h
theorem aAi{id j t:Nat}(h:Mr st id j t=some bG)(aC:Rel w0 st a w):Rel w0 bG a w:=by
 obtain⟨ω,τ,aC⟩:=aC;unfold Mr at h;split at h
 case h_2=>cases h
 rename_i kg iw;split at h
 case h_2=>cases h
 rename_i gL ck es bf;split at h
 case isFalse=>cases h
 rename_i jK;simp only at h;split at h
 case h_2=>cases h
 rename_i ls aw;simp only[aZ]at h;subst h;obtain⟨b8,vg,wU,aEU,aEV,aEW,ac2⟩:=aC.boxes id kg iw;obtain⟨v,bF,ao⟩:=ac2.2 j _ bf;have h1:cM w0 (st.map (aG.cN (lp gL t) fun _=>true)) a w (fun b=>kD gL t 0 (ω b)) (gW τ t ck v):=
  aC.dc _ (Nh jK).sat aC.below (fun b aw=>aC.owned b (Ng aw)) (fun id b aw=>⟨wo.2 aw,rfl⟩) (fun id b aw=>wo.1 aw)
   (fun dx bK=>by simp only[gW];grind)
 have U:Sat w (fun b=>kD gL t 0 (ω b)) (gW τ t ck v) (.J (.own t) ck es) v:=⟨ao.1.frame fun b q _ aH=>⟨by
  simp only[Tag.R]at aH ⊢;rw[aH];cases q with
  | nil=>simp[kD]
  | cons x q=>grind[kD],rfl⟩,by simp[Tag.et,gW]⟩
 refine⟨_,_,h1.defers,h1.size,h1.below,h1.owned,h1.fixed,h1.pinned,h1.env,fun iV fV al=>?_⟩;by_cases hB:iV=id
 ·subst hB;rw[Ay aw]at al;cases al;obtain⟨b,arr,ty,e1,e2,ch,dS⟩:=h1.boxes iV ls aw;refine⟨b,arr,ty,e1,e2,ch,by rw[dS.1,ho],fun i l hi=>?_⟩;rw[p7]at hi;split at hi
  ·rename_i oD;subst oD;split at hi
   ·cases hi;have vu:b=b8:=by
     have hz:ω b=.box iV:=wo.1 e1;grind
    grind
   cases hi
  exact dS.2 i l hi
 rw[Az hB]at al;exact h1.boxes iV fV al
theorem Ds:∀{ns:List (Nat×Nat×Nat)} {st bG:aD},wx st ns=some bG->Rel w0 st a w->Rel w0 bG a w
 | [],st,bG,h,aC=>by grind[wx,aZ]
 | (s,t,k)::r,st,bG,h,aC=>by
  simp only[wx]at h;split at h
  ·rw[nB]at h;obtain⟨st1,h1,h⟩:=h;refine Ds h ?_;split at h1
   ·rename_i st2 U;cases h1;exact aAi U aC
   exact aAh h1 aC
  split at h
  ·rename_i al;obtain⟨ω,τ,aC⟩:=aC;obtain⟨v,bF,ao⟩:=aC.RH al (by simp);have:v=.slice none 0 0:=ao;subst this;split at h
   case isFalse=>cases h
   rename_i jK;obtain⟨bh,h1,U⟩:=aC.LK t k jK;have aA:=h1.put (d:=s) (p:=.one (.J (.own t) k [])) U;rw[VE bF]at aA;exact Ds h ⟨bh,_,aA⟩
  ·rename_i gL ck es al;obtain⟨ω,τ,aC⟩:=aC;obtain⟨v,bF,ao⟩:=aC.RH al (by simp);split at h
   case isFalse=>cases h
   rename_i jK;have h1:cM w0 (st.map (aG.cN (lp gL t) fun _=>true)) a w (fun b=>kD gL t 0 (ω b)) (gW τ t ck v):=
    aC.dc _ (Nh jK).sat aC.below (fun b aw=>aC.owned b (Ng aw)) (fun id b aw=>⟨wo.2 aw,rfl⟩) (fun id b aw=>wo.1 aw)
     (fun dx bK=>by simp only[gW];grind)
   have aA:=h1.put (d:=s) (p:=.one (.J (.own t) ck es)) (v:=v) ⟨ao.1.frame fun b q _ aH=>⟨by
    simp only[Tag.R]at aH ⊢;rw[aH];cases q with
    | nil=>simp[kD]
    | cons x q=>grind[kD],rfl⟩,by simp[Tag.et,gW]⟩
   rw[VE bF]at aA;exact Ds h ⟨_,_,aA⟩
  cases h
abbrev acJ:=Option (h3×aD×List cf×List Prop)
def run(P:Program):Code->aD->List cf->acJ
 | .skip,st,ans=>some (.normal,st,ans,[])
 | .label _,st,ans=>some (.normal,st,ans,[])
 | .region _ ops draw,st,ans=>if draw then (Mo P ops st ans).map fun r=>(.normal,r.1,r.2.1,r.2.2) else (yi P ops ops.toList st ans).map fun r=>(.normal,r.1,r.2.1,r.2.2)
 | .seq a b,st,ans=>
  match run P a st ans with
  | some (.normal,st1,fN,gC)=>(run P b st1 fN).map fun r=>(r.1,r.2.1,r.2.2.1,gC++r.2.2.2)
  | some (e,st1,fN,gC)=>some (e,st1,fN,gC)
  | none=>none
 | .cond c x y,st,ans=>
  match (st.bt c).leaf,ans with
  | some (.v (.bool true)),ans=>run P x st ans
  | some (.v (.bool false)),ans=>run P y st ans
  | some (.bg c),.qb true::r=>(run P x st r).map fun r=>(r.1,r.2.1,r.2.2.1,(c=true)::r.2.2.2)
  | some (.bg c),.qb false::r=>(run P y st r).map fun r=>(r.1,r.2.1,r.2.2.1,(c=false)::r.2.2.2)
  | _,_=>none
 | .block id body,st,ans=>
  match run P body st ans with
  | some (.exit i,st1,fN,gC)=>some (if i=id then .normal else .exit i,st1,fN,gC)
  | r=>r
 | .loop body,st,ans=>
  match ans with
  | .loop F0 cV bs e bG::r=>
   match e,wx st F0 with
   | .normal,_=>none
   | e,some st1=>some (e,bG,r,[c8 P body (st1.e9 cV bs) e bG])
   | _,none=>none
  | _=>none
 | .exit id,st,ans=>some (.exit id,st,ans,[])
 | .ret,st,ans=>some (.ret,st,ans,[])
 | _,_,_=>none
theorem oT:∀(c:Code) {st bG:aD} {ans cv:List cf} {obs:List Prop} {e:h3},run P c st ans=some (e,bG,cv,obs)->cO obs->fS P c st e bG
 | .skip,st,bG,ans,cv,obs,e,h,a8=>by
  simp only[run,aZ,bL]at h;obtain⟨rfl,rfl,_,_⟩:=h;exact fun w0 a w aC=>wp_skip ⟨rfl,aC⟩
 | .label l,st,bG,ans,cv,obs,e,h,a8=>by
  simp only[run,aZ,bL]at h;obtain⟨rfl,rfl,_,_⟩:=h;exact fun w0 a w aC=>wp_label ⟨rfl,aC⟩
 | .region id ops draw,st,bG,ans,cv,obs,e,h,a8=>by
  simp only[run]at h;split at h
  ·rename_i aE;rw[ca]at h;obtain⟨⟨bC,b2,cg⟩,h1,h⟩:=h;simp only[bL]at h;obtain⟨rfl,rfl,rfl,rfl⟩:=h;subst aE;exact fun w0 a w aC=>aAg h1 a8 aC fun cQ aN h=>⟨rfl,h⟩
  rename_i aE;rw[ca]at h;obtain⟨⟨bC,b2,cg⟩,h1,h⟩:=h;simp only[bL]at h;obtain⟨rfl,rfl,rfl,rfl⟩:=h;have:draw=false:=by grind
  subst this;exact fun w0 a w aC=>wp_region_list (MI _ h1 a8 aC fun cQ aN h=>⟨rfl,h⟩)
 | .seq x y,st,bG,ans,cv,obs,e,h,a8=>by
  simp only[run]at h;split at h
  ·rename_i st1 fN gC h1;rw[ca]at h;obtain⟨⟨bC,b2,cg,eG⟩,U,h⟩:=h;simp only[bL]at h;obtain⟨rfl,rfl,rfl,rfl⟩:=h;obtain⟨cy,ci⟩:=a8.append;intro w0 a w aC;refine wp_seq (Code.wp_mono (fun e' cQ aN hp=>?_) (oT x h1 cy w0 a w aC));obtain⟨rfl,eW⟩:=hp;exact oT y U ci w0 cQ aN eW
  ·rename_i e1 st1 fN gC cZ h1;simp only[aZ,bL]at h;obtain⟨rfl,rfl,rfl,rfl⟩:=h;intro w0 a w aC;refine wp_seq (Code.wp_mono (fun e' cQ aN hp=>?_) (oT x h1 a8 w0 a w aC));obtain⟨rfl,eW⟩:=hp;cases e1 with
   | normal=>grind
   | exit i=>exact⟨rfl,eW⟩
   | ret=>exact⟨rfl,eW⟩
  cases h
 | .cond c x y,st,bG,ans,cv,obs,e,h,a8=>by
  intro w0 a w aC;have rD:=aC;obtain⟨ω,τ,eW⟩:=rD;have e8:=eW.bt c;simp only[run]at h;split at h
  ·rename_i al;have:a.eval c=.bool true:=aI.dU al e8;exact wp_cond_true this (oT x h a8 w0 a w aC)
  ·rename_i al;have:a.eval c=.bool false:=aI.dU al e8;exact wp_cond_false this (oT y h a8 w0 a w aC)
  ·rename_i kP r al;rw[ca]at h;obtain⟨⟨bC,b2,cg,eG⟩,U,h⟩:=h;simp only[bL]at h;obtain⟨rfl,rfl,rfl,rfl⟩:=h;have:a.eval c=.bool kP:=aI.dU al e8;have ai:kP=true:=a8.1;exact wp_cond_true (by rw[this,ai]) (oT x U a8.2 w0 a w aC)
  ·rename_i kP r al;rw[ca]at h;obtain⟨⟨bC,b2,cg,eG⟩,U,h⟩:=h;simp only[bL]at h;obtain⟨rfl,rfl,rfl,rfl⟩:=h;have:a.eval c=.bool kP:=aI.dU al e8;have ai:kP=false:=a8.1;exact wp_cond_false (by rw[this,ai]) (oT y U a8.2 w0 a w aC)
  cases h
 | .block id body,st,bG,ans,cv,obs,e,h,a8=>by
  intro w0 a w aC;simp only[run]at h;split at h
  ·rename_i i st1 fN gC h1;simp only[aZ,bL]at h;obtain⟨rfl,rfl,rfl,rfl⟩:=h;refine wp_block (Code.wp_mono (fun e' cQ aN hp=>?_) (oT body h1 a8 w0 a w aC));obtain⟨rfl,eW⟩:=hp;simp only[h3.qf,Exit.inBlock];split
   ·exact⟨rfl,eW⟩
   exact⟨rfl,eW⟩
  rename_i cZ;refine wp_block (Code.wp_mono (fun e' cQ aN hp=>?_) (oT body h a8 w0 a w aC));obtain⟨rfl,eW⟩:=hp;cases e with
  | normal=>exact⟨rfl,eW⟩
  | exit i=>grind
  | ret=>exact⟨rfl,eW⟩
 | .loop body,st,bG,ans,cv,obs,e,h,a8=>by
  intro w0 a w aC;simp only[run]at h;split at h
  ·rename_i F0 cV bs bE gm r;split at h
   ·cases h
   ·rename_i e1 st1 cZ aW;simp only[aZ,bL]at h;obtain⟨rfl,rfl,rfl,rfl⟩:=h;obtain⟨n,al⟩:=a8.1;exact wp_loop_rounds n (al w0 a w ((Ds aW aC).e9 cV bs))
   cases h
  cases h
 | .exit id,st,bG,ans,cv,obs,e,h,a8=>by
  simp only[run,aZ,bL]at h;obtain⟨rfl,rfl,_,_⟩:=h;exact fun w0 a w aC=>wp_exit ⟨rfl,aC⟩
 | .ret,st,bG,ans,cv,obs,e,h,a8=>by
  simp only[run,aZ,bL]at h;obtain⟨rfl,rfl,_,_⟩:=h;exact fun w0 a w aC=>wp_ret ⟨rfl,aC⟩
 | .rangeFunc ..,_,_,_,_,_,_,h,_=>by simp[run]at h
 | .scope _,_,_,_,_,_,_,h,_=>by simp[run]at h
 | .goto _,_,_,_,_,_,_,h,_=>by simp[run]at h
 | .refuse _,_,_,_,_,_,_,h,_=>by simp[run]at h
end Go.Sx
namespace Go.Sx
open Go.RowKit
def aG.AZ:aG->D->Option (D×Option Nat)
 | .v x,hint=>
  match x,hint with
  | .slice none 0 0,.J k _=>some (.J k [],none)
  | x,_=>if x.oneCell' then some (.v x,none) else none
 | .bg c,_=>some (.v (.bool c),none)
 | .J (.own t) k es,_=>some (.J k es,some t)
 | _,_=>none
abbrev iR:=List (Nat×Nat)
def iR.at(t:Nat):iR->Option Nat
 | []=>none
 | (s,n)::r=>if s=t then some n else iR.at t r
def Hp(n:Nat):Option Nat->iR
 | some t=>[(t,n)]
 | none=>[]
def sd(n:Nat):List aG->List D->Option (List D×iR)
 | [],[]=>some ([],[])
 | l::ls,d::ds=>
  match l.AZ d,sd (n+1) ls ds with
  | some (dQ,t),some (tP,ts)=>some (dQ::tP,Hp n t++ts)
  | _,_=>none
 | _,_=>none
def Io(n:Nat):bp->cR->Option (cR×iR)
 | .one l,.one d=>(l.AZ d).map fun x=>(.one x.1,Hp n x.2)
 | .agg ls,.agg ds=>(sd n ls ds).map fun x=>(.agg x.1,x.2)
 | _,_=>none
def tv(r:Nat):List aI->List cR->Option (List cR×iR)
 | [],[]=>some ([],[])
 | .aF a::cz,d::ds=>
  match Io (100*r) a d,tv (r+1) cz ds with
  | some (dQ,t),some (tP,ts)=>some (dQ::tP,t++ts)
  | _,_=>none
 | _,_=>none
def Hq(ts:iR):Bool:=ts.all fun x=>match ts.at x.1 with | some n=>n==x.2 | none=>false
variable{ts:iR}{n:Nat}
theorem Hr(h:Hq ts=true){t:Nat}(hm:(t,n)∈ts):ts.at t=some n:=by
 have:=gn.1 h _ hm;simp only at this;split at this
 ·rename_i afx e;rw[e];simp only[kq]at this;rw[this]
 cases this
def jr(ω:Own)(ts:iR):Own:=fun b=>
 match ω b with
 | .tok t q=>match ts.at t with | some n=>.tok n q | none=>.bP
 | _=>.bP
variable{w:World}{ω:Own}{τ:Nat->Nat×Value}
theorem aG.aaz{l:aG}{h d:D}{t:Option Nat}{u:Value}(aE:l.AZ h=some (d,t))(ao:Sat w ω τ l u)
  (ll:∀s,t=some s->ts.at s=some n):b3 w (jr ω ts) (Tag.own n).R d u:=by
 cases l with
 | cp=>cases aE
 | v x=>
  have e:u=x:=ao;subst e;simp only[aG.AZ]at aE;split at aE
  ·simp only[aZ,bL]at aE;obtain⟨rfl,_⟩:=aE;exact .nil _ _ _
  split at aE
  ·simp only[aZ,bL]at aE;obtain⟨rfl,_⟩:=aE;exact .v _ _ ‹_›
  cases aE
 | bg c=>
  have e:u=.bool c:=ao;subst e;simp only[aG.AZ,aZ,bL]at aE;obtain⟨rfl,_⟩:=aE;exact .v _ _ rfl
 | J g k es=>
  cases g with
  | free=>cases aE
  | ro s=>cases aE
  | own s=>
   simp only[aG.AZ,aZ,bL]at aE;obtain⟨rfl,rfl⟩:=aE;refine ao.1.frame fun b q _ aH=>⟨?_,rfl⟩
   simp only[Tag.R]at aH ⊢;simp only[jr,aH,ll s rfl]
 | ptr=>cases aE
 | ep=>cases aE
 | hY=>cases aE
 | fd=>cases aE
 | dC=>cases aE
 | hq=>cases aE
 | aR=>cases aE
 | fP=>cases aE
theorem VF{t:Option Nat}{s:Nat}(h:t=some s):(s,n)∈Hp n t:=by subst h;simp[Hp]
theorem Ms{w:World}{ω:Own}{τ:Nat->Nat×Value}(ll:∀t n,(t,n)∈ts->ts.at t=some n):∀{ls:List aG} {ao ds:List D} {n:Nat} {lT:iR},sd n ls ao=some (ds,lT)->(∀x∈lT,x∈ts)->
  ds.length=ls.length/\∀(j:Nat) (d:D),ds[j]?=some d->∃l,ls[j]?=some l/\∀u,Sat w ω τ l u->b3 w (jr ω ts) (Tag.own (n+j)).R d u
 | [],[],ds,n,lT,h,_=>by
  simp only[sd,aZ,bL]at h;obtain⟨rfl,_⟩:=h;exact⟨rfl,fun j d aE=>by simp at aE⟩
 | l::ls,bJ::ao,ds,n,lT,h,kc=>by
  simp only[sd]at h;split at h
  ·rename_i dQ t tP u4 e1 e2;simp only[aZ,bL]at h;obtain⟨rfl,rfl⟩:=h;obtain⟨h1,U⟩:=Ms (w:=w) (ω:=ω) (τ:=τ) ll e2 (fun x ag=>kc x (iN _ ag));refine⟨by simp[h1],fun j d aE=>?_⟩;cases j with
   | zero=>
    simp at aE;subst aE;exact⟨l,rfl,fun u hu=>aG.aaz e1 hu fun s dr=>ll s n (kc _ (hJ _ (VF dr)))⟩
   | succ j=>
    obtain⟨hf,aA,aJ⟩:=U j d (by simpa using aE);refine⟨hf,by simpa using aA,fun u hu=>?_⟩;have:=aJ u hu;rwa[show n+1+j=n+(j+1) by omega]at this
  cases h
 | [],_::_,_,_,_,h,_=>by simp[sd]at h
 | _::_,[],_,_,_,h,_=>by simp[sd]at h
theorem aAj(ll:∀t n,(t,n)∈ts->ts.at t=some n){a:bp}{h d:cR}{r:Nat}{lT:iR}(aC:Io (100*r) a h=some (d,lT))(kc:∀x∈lT,x∈ts)
  {y:Value} (ao:lc (Sat w ω τ) a y):ng w (jr ω ts) r d y:=by
 cases a with
 | one l=>
  cases h with
  | agg dr=>cases aC
  | one bJ=>
   simp only[Io,ca]at aC;obtain⟨⟨dQ,t⟩,h1,U⟩:=aC;simp only[bL]at U;obtain⟨rfl,rfl⟩:=U;exact aG.aaz h1 ao fun s dr=>ll s _ (kc _ (VF dr))
 | agg ls=>
  cases h with
  | one bJ=>cases aC
  | agg dr=>
   simp only[Io,ca]at aC;obtain⟨⟨ds,t⟩,h1,U⟩:=aC;simp only[bL]at U;obtain⟨rfl,rfl⟩:=U;obtain⟨aA,aJ⟩:=Ms (w:=w) (ω:=ω) (τ:=τ) ll h1 kc;obtain⟨vs,rfl,aW,bF⟩:=ao;refine⟨vs,rfl,by omega,fun j qd aE=>?_⟩;obtain⟨l,al,c4⟩:=aJ j qd aE;obtain⟨u,hu,fG⟩:=bF j l al;exact⟨u,hu,c4 u fG⟩
theorem Hs{w:World}{ω:Own}{τ:Nat->Nat×Value}{ts:iR}(ll:∀t n,(t,n)∈ts->ts.at t=some n):∀{cz:List aI} {ao ds:List cR} {r:Nat} {lT:iR},tv r cz ao=some (ds,lT)->(∀x∈lT,x∈ts)->
  ds.length=cz.length/\∀(j:Nat) (d:cR),ds[j]?=some d->∃p,cz[j]?=some p/\∀u,cW (Sat w ω τ) p u->ng w (jr ω ts) (r+j) d u
 | [],[],ds,r,lT,h,_=>by
  simp only[tv,aZ,bL]at h;obtain⟨rfl,_⟩:=h;exact⟨rfl,fun j d aE=>by simp at aE⟩
 | .aF a::cz,bJ::ao,ds,r,lT,h,kc=>by
  simp only[tv]at h;split at h
  ·rename_i dQ t tP u4 e1 e2;simp only[aZ,bL]at h;obtain⟨rfl,rfl⟩:=h;obtain⟨h1,U⟩:=Hs (w:=w) (ω:=ω) (τ:=τ) ll e2 (fun x ag=>kc x (iN _ ag));refine⟨by simp[h1],fun j d aE=>?_⟩;cases j with
   | zero=>
    simp at aE;subst aE;exact⟨.aF a,rfl,fun u hu=>aAj ll e1 (fun x ag=>kc x (hJ _ ag)) hu⟩
   | succ j=>
    obtain⟨hf,aA,aJ⟩:=U j d (by simpa using aE);refine⟨hf,by simpa using aA,fun u hu=>?_⟩;have:=aJ u hu;rwa[show r+1+j=r+(j+1) by omega]at this
  cases h
 | [],_::_,_,_,_,h,_=>by simp[tv]at h
 | .aF _::_,[],_,_,_,h,_=>by simp[tv]at h
 | .gx _::_,_,_,_,_,h,_=>by simp[tv]at h
def cR.arg:cR->bp
 | .one d=>.one (d.leaf .free)
 | .agg ds=>.agg (ds.map (D.leaf .free))
def AM(args:List cR)(ntmps:Nat):aD:=⟨args.map (fun a=>.aF a.arg)++List.replicate (ntmps-args.length) .cp,[]⟩
theorem mJ.leaf{d:D}{u:Value}(h:mJ w d u):Sat w (fun _=>.bP) τ (d.leaf .free) u:=D.dU (p:=(0,0)) h
theorem aAk{args:List cR}{vs:Array Value}(uf:qa w)(h:Gv w args vs)(ntmps:Nat):
  Rel (eT.of w) (AM args ntmps) { tmps:=vs++Array.replicate (ntmps-vs.size) undef,defers:=[] } w:=by
 refine⟨fun _=>.bP,fun _=>(0,undef),rfl,by simp[AM,h.1],gZ.refl _ uf (fun _ _ h=>h),fun b aw=>absurd rfl aw,fun _ _=>rfl,(fun _ _ _ h=>by cases h),?_,fun id ls al=>by simp[AM,dK]at al⟩;intro i p hp;simp only[AM]at hp;rw[qY,b']at hp;split at hp
 ·rename_i hi;rw[dI,ca]at hp;obtain⟨cw,J8,rfl⟩:=hp;obtain⟨v,bF,bY⟩:=h.2 i cw J8;refine⟨v,?_,?_⟩
  ·rw[ji,bq (by rw[h.1];exact hi)];exact bF
  cases cw with
  | one d=>exact mJ.leaf bY
  | agg ds=>
   obtain⟨us,rfl,aW,hu⟩:=bY;refine⟨us,rfl,by simpa using aW,fun j l al=>?_⟩;rw[dI,ca]at al;obtain⟨d,aE,rfl⟩:=al;obtain⟨u,h1,U⟩:=hu j d aE;exact⟨u,h1,mJ.leaf U⟩
 rename_i hi;rw[EO]at hp;split at hp
 ·rename_i bR;simp only[aZ]at hp;subst hp;refine⟨undef,?_,aa⟩;rw[ji,bD (by rw[h.1];exact hi),Array.getElem?_replicate,bq (by rw[h.1];exact bR)]
 cases hp
def r2(P:Program)(st:aD):ResultVar->Option aI
 | .tmp t=>some (st.bt (.tmp t))
 | .cell a t=>
  match xL P t,P.info? t,(st.bt (.tmp a)).leaf with
  | some agg,some i,some (.ptr id off)=>
   match dK id st.boxes with
   | some ls=>te agg i.size ls off
   | none=>none
  | _,_,_=>none
def Dt(tmps:Array Value):ResultVar->Sem Value
 | .tmp t=>pure (tmps.getD t undef)
 | .cell x t=>do loadVar t (<-asAddr (tmps.getD x undef))
theorem NW(fn:Func)(tmps:Array Value):results fn tmps=(do
  let vs <-fn.results.mapM (Dt tmps)
  pure (if h:vs.size=1 then vs[0] else .tuple vs)):=by
 unfold results;have:(fun x=>match x with | .tmp t=>pure (tmps.getD t undef) | .cell a t=>do loadVar t (<-asAddr (tmps.getD a undef)):ResultVar->Sem Value)=Dt tmps:=by
  funext x;cases x<;>rfl
 rw[<-this];rfl
variable{P:Program}{st:aD}
theorem aAl{w0:eT}{a:Act}(a6:cM w0 st a w ω τ){r:ResultVar}{p:aI}(h:r2 P st r=some p):
  ∃z,(Dt a.tmps r).run P w=.ok z w/\cW (Sat w ω τ) p z:=by
 cases r with
 | tmp t=>
  simp only[r2,aZ]at h;subst h;exact⟨_,rfl,a6.bt (.tmp t)⟩
 | cell x t=>
  simp only[r2]at h;split at h
  ·rename_i agg i id off e1 e2 ch;split at h
   ·rename_i ls dm;have ag:=aI.dU ch (a6.bt (.tmp x));obtain⟨b,aw,ag⟩:=ag;simp only[Act.eval]at ag;obtain⟨dE,arr,ty,eE,FQ,Ku,dO,e8⟩:=a6.boxes id ls dm;have:=FQ b aw;subst this;have:=Aw (P:=P) e1 e2 h Ku (base:=0) (by omega) (fun j l al=>by simpa using e8 j l al);simpa[Dt,ag,asAddr]using this
   cases h
  cases h
def Ip(P:Program)(st:aD)(kH:List ResultVar)(hint:List cR):Option (List cR):=
 match kH.mapM (r2 P st) with
 | some cz=>
  match tv 0 cz hint with
  | some (ds,ts)=>if Hq ts then some ds else none
  | none=>none
 | none=>none
theorem Ht{w0:eT}{a:Act}(a6:cM w0 st a w ω τ):∀{kH:List ResultVar} {cz:List aI},kH.mapM (r2 P st)=some cz->
  ∃zs:List Value,(kH.mapM (Dt a.tmps)).run P w=.ok zs w/\zs.length=cz.length/\∀(i:Nat) (p:aI),cz[i]?=some p->∃z,zs[i]?=some z/\cW (Sat w ω τ) p z
 | [],cz,h=>by simp at h;subst h;exact⟨[],rfl,rfl,fun i p hp=>by simp at hp⟩
 | r::kH,cz,h=>by
  rw[Bc]at h;cases e:r2 P st r with
  | none=>simp[e]at h
  | some ic=>
   cases e2:kH.mapM (r2 P st) with
   | none=>simp[e,e2]at h
   | some aGx=>
    simp[e,e2]at h;subst h;obtain⟨z,h1,U⟩:=aAl a6 e;obtain⟨zs,aA,aJ,a7⟩:=Ht a6 e2;refine⟨z::zs,?_,by simp[aJ],fun i p hp=>?_⟩
    ·rw[Bc,Sem.run_bind,h1,Result.andThen_ok,Sem.run_bind,aA];rfl
    cases i with
    | zero=>simp at hp;subst hp;exact⟨z,rfl,U⟩
    | succ i=>exact a7 i p (by simpa using hp)
theorem VG{f:FuncId}{fn:Func}{c:Code}{args rs:List cR}{ans cv:List cf}{obs:List Prop}{e:h3}(bI:P.funcs[f]?=some fn)(aw:fn.body=some c)
  (fU:run P c (AM args fn.ntmps) ans=some (e,st,cv,obs)) (a8:cO obs) (he:e=.ret\/e=.normal) (fl:Ip P st fn.results.toList rs=some rs):iF P f args rs:=by
 intro w vs uf nP;refine calls_of_wp bI aw (Code.wp_mono (fun e' cQ aN hp=>?_) (oT c fU a8 (eT.of w) _ w (aAk uf nP fn.ntmps)));obtain⟨rfl,ω,τ,a6⟩:=hp;unfold Ip at fl;split at fl
 ·rename_i cz ue;split at fl
  ·rename_i ds ts fj;split at fl
   ·rename_i bY;simp only[aZ]at fl;subst fl;obtain⟨zs,h1,U,aA⟩:=Ht a6 ue;obtain⟨aJ,a7⟩:=Hs (w:=aN) (ω:=ω) (τ:=τ) (fun t n h=>Hr bY h) fj (fun x ag=>ag);have hm:=Gk (P:=P) _ fn.results aN _ h1;have fA:∀(j:Nat) (d:cR),ds[j]?=some d->∃z,zs[j]?=some z/\ng aN (jr ω ts) j d z:=by
     intro j d aE;obtain⟨p,hp,ud⟩:=a7 j d aE;obtain⟨z,bb,qy⟩:=aA j p hp;exact⟨z,bb,by have:=ud z qy;rwa[dX]at this⟩
    have nd:zs.length=ds.length:=by omega
    have adL:∀v,(if h:zs.toArray.size=1 then zs.toArray[0] else .tuple zs.toArray)=v->y2 w aN ds v:=by
     intro v bF;refine⟨jr ω ts,fun b aw=>?_,fun b aw=>?_,?_⟩
     ·cases di:ω b with
      | bP=>simp[jr,di]
      | box id=>simp[jr,di]
      | tok t q=>
       rcases (a6.owned b (by simp[di])).1 with h | h
       ·exact absurd aw (by have h:w.heap.size<=b:=h;omega)
       exact absurd h (fun h=>h)
     ·cases di:ω b with
      | bP=>simp[jr,di]at aw
      | box id=>simp[jr,di]at aw
      | tok t q=>
       refine⟨?_,(a6.owned b (by simp[di])).2⟩;simp only[jr,di]at aw ⊢;cases ll:ts.at t with
       | none=>simp[ll]at aw
       | some n=>exact⟨n,q,rfl⟩
     unfold nX;split
     ·rename_i cw;obtain⟨z,bb,ai⟩:=fA 0 cw rfl;have h1:zs.length=1:=by rw[nd];rfl
      have sS:zs=[z]:=by
       match zs,h1,bb with
       | [z0],_,bb=>simp at bb;rw[bb]
      have KU:v=z:=by
       rw[<-bF];simp[sS]
      rw[KU];exact ai
     rename_i cZ;have h1:¬zs.toArray.size=1:=by
      intro h;simp at h;rw[nd]at h;obtain⟨d,aE⟩:=List.length_eq_one_iff.1 h;exact cZ d aE
     rw[dif_neg h1]at bF;exact⟨zs.toArray,bF.symm,by simpa using nd,fun r cw aC=>by obtain⟨z,bb,ai⟩:=fA r cw aC;exact⟨z,by simpa using bb,ai⟩⟩
    have ef:∃v,(results fn cQ.tmps).run P aN=.ok v aN/\∃u,Ending.returned v=.returned u/\g' w.heap.size w aN/\y2 w aN ds u:=by
     refine⟨_,?_,_,rfl,a6.below.below,adL _ rfl⟩;rw[NW,Sem.run_bind,hm];rfl
    obtain⟨v,bw,b1⟩:=ef;rcases he with rfl | rfl
    ·exact⟨a6.defers,v,bw,b1⟩
    exact⟨a6.defers,v,bw,b1⟩
   cases fl
  cases fl
 cases fl
end Go.Sx
namespace Go.Sx
open Go.RowKit
def LR(P:Program)(c:Code)(ntmps:Nat)(kH:List ResultVar)(args hint:List cR)(ans:List cf):Option (List cR×List Prop):=
 match run P c (AM args ntmps) ans with
 | some (.ret,st,_,obs)=>(Ip P st kH hint).map fun rs=>(rs,obs)
 | some (.normal,st,_,obs)=>(Ip P st kH hint).map fun rs=>(rs,obs)
 | _=>none
def oU(fn:Func):Code:=fn.body.getD .skip
variable{P:Program}
theorem iF.of{f:FuncId}{fn:Func}{args rs:List cR}(ans:List cf)(obs:List Prop)(bI:P.funcs[f]?=some fn)(aw:fn.body.isSome=true)
  (h:LR P (oU fn) fn.ntmps fn.results.toList args rs ans=some (rs,obs)) (a8:cO obs):iF P f args rs:=by
 obtain⟨c,ai⟩:=sj.1 aw;have BU:oU fn=c:=by simp[oU,ai]
 unfold LR at h;rw[BU]at h;split at h
 ·rename_i st a nU aC;rw[ca]at h;obtain⟨wQ,h1,h⟩:=h;simp only[bL]at h;obtain⟨rfl,rfl⟩:=h;exact VG bI ai aC a8 (.inl rfl) h1
 ·rename_i st a nU aC;rw[ca]at h;obtain⟨wQ,h1,h⟩:=h;simp only[bL]at h;obtain⟨rfl,rfl⟩:=h;exact VG bI ai aC a8 (.inr rfl) h1
 cases h
def Cr(P:Program)(body:Code)(st:aD)(ans:List cf)(cV bs:List Nat):Option (h3×aD×List Prop):=
 (run P body st ans).map fun r=>(r.1,r.2.1.e9 cV bs,r.2.2.2)
variable{body:Code}{st bG:aD}{e:h3}
theorem fS.LN{ans:List cf}{cV bs:List Nat}{obs:List Prop}(h:Cr P body st ans cV bs=some (e,bG,obs))(a8:cO obs):fS P body st e bG:=by
 unfold Cr at h;rw[ca]at h;obtain⟨⟨bC,b2,cg,eG⟩,h1,h⟩:=h;simp only[bL]at h;obtain⟨rfl,rfl,rfl⟩:=h;intro w0 a w aC;exact Code.wp_mono (fun e' cQ aN ⟨h1,U⟩=>⟨h1,U.e9 cV bs⟩) (oT body h1 a8 w0 a w aC)
def LF(P:Program)(body:Code)(st:aD)(ans:List cf)(ns:List (Nat×Nat×Nat))(cV bs:List Nat):Option (h3×aD×List Prop):=
 (run P body st ans).bind fun r=>(wx r.2.1 ns).map fun s=>(r.1,s.e9 cV bs,r.2.2.2)
theorem fS.afB{ans:List cf}{ns:List (Nat×Nat×Nat)}{cV bs:List Nat}{obs:List Prop}(h:LF P body st ans ns cV bs=some (e,bG,obs))(a8:cO obs):fS P body st e bG:=by
 unfold LF at h;rw[nB]at h;obtain⟨⟨bC,b2,cg,eG⟩,h1,h⟩:=h;rw[ca]at h;obtain⟨s,ao,h⟩:=h;simp only[bL]at h;obtain⟨rfl,rfl,rfl⟩:=h;intro w0 a w aC;exact Code.wp_mono (fun e' cQ aN ⟨h1,U⟩=>⟨h1,(Ds ao U).e9 cV bs⟩) (oT body h1 a8 w0 a w aC)
theorem c8.step{st1:aD}(ans:List cf)(cV bs:List Nat)(obs:List Prop)(h:Cr P body st ans cV bs=some (.normal,st1,obs))(a8:cO obs)(U:c8 P body st1 e bG):c8 P body st e bG:=
 .more (fS.LN h a8) U
theorem c8.done(ans:List cf)(cV bs:List Nat)(obs:List Prop)(he:e.qf≠.normal)(h:Cr P body st ans cV bs=some (e,bG,obs))(a8:cO obs):c8 P body st e bG:=
 .last he (fS.LN h a8)
theorem cn(i:Nat):(h3.exit i).qf≠.normal:=fun h=>by cases h
theorem eC:h3.ret.qf≠.normal:=fun h=>by cases h
def wy:Code->List Code
 | .seq a b=>wy a++wy b
 | .cond _ a b=>wy a++wy b
 | .block _ b=>wy b
 | .loop b=>b::wy b
 | .scope b=>wy b
 | _=>[]
def ap(fn:Func)(i:Nat):Code:=(wy (oU fn)).getD i .skip
def wz:Code->List (Nat×Array Oper)
 | .region id ops true=>[(id,ops)]
 | .seq a b=>wz a++wz b
 | .cond _ a b=>wz a++wz b
 | .block _ b=>wz b
 | .loop b=>wz b
 | .scope b=>wz b
 | _=>[]
def cT(fn:Func)(id:Nat):Array Oper:=(((wz (oU fn)).find? fun x=>Nat.beq x.1 id).map (·.2)).getD #[]
def ac4(n:Nat)(l:List (Nat×aI)):List aI:=l.foldl (fun e x=>e.set x.1 x.2) (List.replicate n .cp)
abbrev I(n:Int):D:=.v (.int .i64 n)
abbrev B(b:Bool):D:=.v (.bool b)
abbrev aEB(s:ByteArray):D:=.v (.string s)
end Go.Sx
namespace Go.Sx
open Go.RowKit
inductive kN (P:Program):TypeId->List D->Prop
 | bool (t:TypeId) (b:Bool) (h:P.underlying t=some .bool):kN P t [.v (.bool b)]
 | int (t:TypeId) (k:IntKind) (n:Int) (h:P.underlying t=some (.int k)) (hw:(Lit.int k n).wf=true):kN P t [.v (.int k n)]
 | str (t:TypeId) (s:ByteArray) (h:P.underlying t=some .string) (ao:s.size<=maxLen):kN P t [.v (.string s)]
 | J (t e:TypeId) (es:List (List D)) (h:P.underlying t=some (.slice e)) (al:es.length<=maxLen) (he:∀ds∈es,kN P e ds):kN P t [.J (P.cellsOf e) es]
 | struct (t:TypeId) (eV:Array Field) (ds:List D) (h:P.underlying t=some (.struct eV)) (al:ds.length=P.cellsOf t) (bI:∀f∈eV.toList,kN P f.type ((ds.drop f.offset).take (P.cellsOf f.type))):kN P t ds
def wS(P:Program):Nat->List Field->Nat->Bool
 | o,[],n=>o==n
 | o,f::r,n=>f.offset==o&&wS P (o+P.cellsOf f.type) r n
def wA(P:Program):Nat->TypeId->Bool
 | 0,_=>false
 | m+1,t=>
  match P.underlying t with
  | some .bool | some (.int _) | some .string=>true
  | some (.slice e)=>decide (0<P.cellsOf e)&&wA P m e
  | some (.struct eV)=>eV.toList.all (fun f=>wA P m f.type)&&wS P 0 eV.toList (P.cellsOf t)
  | _=>false
def p'(w:World)(ds:List D)(cs:List Value):Prop:=ds.length=cs.length/\∀(i:Nat) (d:D),ds[i]?=some d->∃v,cs[i]?=some v/\mJ w d v
theorem p'.one{w:World}{d:D}{v:Value}(h:mJ w d v):p' w [d] [v]:=
 ⟨rfl,fun i dQ aE=>by
  cases i with
  | zero=>simp at aE;subst aE;exact⟨v,rfl,h⟩
  | succ i=>simp at aE⟩
theorem p'.append{w:World}{a b:List D}{x y:List Value}(h:p' w a x)(k:p' w b y):p' w (a++b) (x++y):=by
 refine⟨by simp[h.1,k.1],fun i d aE=>?_⟩;rw[qY]at aE ⊢;rw[<-h.1];split at aE
 ·rename_i hi;rw[bq hi];exact h.2 i d aE
 rename_i hi;rw[bD hi];exact k.2 _ d aE
theorem NY{P:Program}:∀{gG:List Field} {o n:Nat},wS P o gG n=true->o<=n/\∀f∈gG,o<=f.offset/\f.offset+P.cellsOf f.type<=n
 | [],o,n,h=>by simp[wS]at h;exact⟨by omega,fun f bI=>by cases bI⟩
 | f::r,o,n,h=>by
  simp only[wS,cu,kq]at h;obtain⟨h1,U⟩:=NY h.2;refine⟨by omega,fun g ay=>?_⟩;rcases ev.1 ay with rfl | ay
  ·exact⟨by omega,by omega⟩
  have:=U g ay;exact⟨by omega,this.2⟩
theorem aaJ{P:Program}{w:World}{cs:List Value}:∀{gG:List Field} {o:Nat},wS P o gG cs.length=true->
  (∀f∈gG,∃ds,kN P f.type ds/\p' w ds ((cs.drop f.offset).take (P.cellsOf f.type)))->
  ∃ds,p' w ds (cs.drop o)/\∀f∈gG,kN P f.type ((ds.drop (f.offset-o)).take (P.cellsOf f.type))
 | [],o,h,_=>by
  simp only[wS,kq]at h;subst h;exact⟨[],⟨by simp,fun i d aE=>by simp at aE⟩,fun f bI=>by cases bI⟩
 | f::r,o,h,bI=>by
  have hle:=NY h;simp only[wS,cu,kq]at h;obtain⟨bJ,h⟩:=h;obtain⟨ds,h1,U⟩:=aaJ h fun g ay=>bI g (by simp[ay])
  obtain⟨d0,aA,aJ⟩:=bI f (by simp);have zt:d0.length=P.cellsOf f.type:=by
   rw[aJ.1];have:=(hle.2 f (by simp)).2;simp;omega
  refine⟨d0++ds,?_,?_⟩
  ·have:cs.drop o=(cs.drop f.offset).take (P.cellsOf f.type)++cs.drop (o+P.cellsOf f.type):=by
    rw[bJ,<-List.drop_drop];exact (yX _ _).symm
   rw[this];exact aJ.append h1
  intro g ay;rcases ev.1 ay with rfl | ay
  ·rw[bJ,Nat.sub_self,yY,acD (by omega),yS (by omega)];exact aA
  have aFH:=U g ay;have:=(NY h).2 g ay;rw[List.drop_append,List.drop_eq_nil_of_le (show d0.length<=g.offset-o by omega),List.nil_append,zt];rwa[show g.offset-o-P.cellsOf f.type=g.offset-(o+P.cellsOf f.type) by omega]
section
variable {H : Type} {enc : TypeId × Value -> H} {P : Program} {w : World} {base : Nat} {held : Bool}
theorem Hu{a:Addr}{k:Nat}{cs:List Value}(h:w.cells? base a k=some cs):cs.length=k/\∀i,i<k->w.cell? (a.add i)=cs[i]?:=by
 unfold World.cells? at h;split at h
 ·exact⟨by simpa using mapM_some_length h,fun i hi=>mapM_some_get h i i (by simp[hi])⟩
 cases h
theorem NZ{a:Addr}{v:Value}(h:w.cell? a=some v):∃arr ty cY,w.heap[a.block]?=some (.cells arr ty cY)/\a.spot=none/\arr[a.off]?=some v:=by
 unfold World.cell? at h;split at h
 ·rename_i arr ty cY e;split at h
  ·cases h
  rename_i ao;refine⟨arr,ty,cY,e,?_,h⟩;cases KO:a.spot with
  | none=>rfl
  | some x=>simp[KO]at ao
 cases h
theorem N0:∀(m:Nat) (t:TypeId) (h7:Nat) (cs:List Value) (x:DataW H×List MemPlace),wA P m t=true->DataW.trod enc P w base (fun _=>true) held h7 t cs=some x->
  ∃ds,kN P t ds/\p' w ds cs
 | 0,_,_,_,_,h,_=>by cases h
 | m+1,t,h7,cs,x,ao,h=>by
  unfold wA at ao;split at ao
  ·rename_i hu;obtain⟨b,rfl,_⟩:=DataW.trod_bool hu h;exact⟨_,.bool t b hu,.one (.v _ _ rfl)⟩
  ·rename_i k hu;obtain⟨n,rfl,_,hw⟩:=DataW.trod_int hu h;exact⟨_,.int t k n hu hw,.one (.v _ _ rfl)⟩
  ·rename_i hu;obtain⟨s,rfl,_,hw⟩:=DataW.trod_string hu h;exact⟨_,.str t s hu hw,.one (.v _ _ rfl)⟩
  ·rename_i e hu;simp only[cu,cj]at ao;obtain⟨oE,SQ⟩:=ao;rcases DataW.trod_slice hu h with⟨rfl,_⟩ | ⟨a,len,cap,RY,rest,n,_,rfl,_,_,al,ai,hlen,zm,KO,_⟩
   ·exact⟨_,.J t e [] hu (by simp) (fun ds fj=>by cases fj),.one (.nil _ _ _)⟩
   obtain⟨SO,FL⟩:=KO rfl;generalize ht:P.cellsOf e=k at*;have h9:∀i,i<cap->∃cs,w.cells? base (a.add (i*k)) k=some cs/\∃x,DataW.trod enc P w base (fun _=>true) held n e cs=some x:=by
    intro i hi;by_cases kv:i<len
    ·have:=zm i kv;obtain⟨y,bu⟩:∃y,RY[i]?=some y:=⟨RY[i],gU (by omega)⟩
     rw[bu,nB]at this;obtain⟨cs,h1,U⟩:=this;exact⟨cs,h1,y,U⟩
    have:=FL (i-len) (by omega);rw[show len+(i-len)=i by omega]at this;obtain⟨y,bu⟩:∃y,rest[i-len]?=some y:=⟨rest[i-len],gU (by omega)⟩
    rw[bu,nB]at this;obtain⟨cs,h1,U⟩:=this;exact⟨cs,h1,y,U⟩
   by_cases ff:cap=0
   ·subst ff;have:len=0:=by omega
    subst this;have:=kN.J (P:=P) t e [] hu (by simp) (fun ds fj=>by cases fj);exact⟨_,this,.one (.nil _ _ _)⟩
   have adH:∀i,∃ds,i<len->kN P e ds/\∃cs,w.cells? base (a.add (i*k)) k=some cs/\p' w ds cs:=by
    intro i;by_cases hi:i<len
    ·obtain⟨cs,h1,x,U⟩:=h9 i (by omega);obtain⟨ds,aA,aJ⟩:=N0 m e n cs x SQ U;exact⟨ds,fun _=>⟨aA,cs,h1,aJ⟩⟩
    exact⟨[],fun h=>absurd h hi⟩
   obtain⟨f,bI⟩:=Classical.skolem.1 adH;obtain⟨cl,ps,_⟩:=h9 (cap-1) (by omega);obtain⟨aFr,adx⟩:=Hu ps;have vC:=adx (k-1) (by omega);obtain⟨aGN,KT⟩:∃v,cl[k-1]?=some v:=⟨cl[k-1],gU (by omega)⟩
   rw[KT]at vC;obtain⟨b,off,spot⟩:=a;have aeR:spot=none:=by
    obtain⟨c9,ads,_⟩:=h9 0 (by omega);obtain⟨aFp,adt⟩:=Hu ads;have bJ:=adt 0 oE;obtain⟨v0,FR⟩:∃v,c9[0]?=some v:=⟨c9[0],gU (by omega)⟩
    rw[FR]at bJ;obtain⟨_,_,_,_,h1,_⟩:=NZ bJ;simpa[Addr.add]using h1
   subst aeR;obtain⟨arr,ty,cY,aw,_,vC⟩:=NZ vC;simp only[rU]at aw vC;have dO:off+cap*k<=arr.size:=by
    have h1:=(jj.1 vC).1;have U:cap*k=(cap-1)*k+k:=by rw[<-Nat.succ_mul];congr 1;omega
    omega
   have FB:((List.range len).map f).length=len:=by simp
   have hT:∀i j d,df ((List.range len).map f) i j=some d->i<len/\(f i)[j]?=some d:=by
    intro i j d aE;unfold df at aE;rw[dI]at aE;by_cases hi:i<len
    ·rw[List.getElem?_range hi]at aE;exact⟨hi,by simpa using aE⟩
    rw[List.getElem?_eq_none (by simpa using hi)]at aE;simp at aE
   have fA:∀i j d,df ((List.range len).map f) i j=some d->∃u,arr[off+i*k+j]?=some u/\mJ w d u:=by
    intro i j d aE;obtain⟨hi,bf⟩:=hT i j d aE;obtain⟨_,cs,h1,U⟩:=bI i hi;obtain⟨adw,tY⟩:=Hu h1;obtain⟨u,ky,aC⟩:=U.2 j d bf;have B3:j<k:=by rw[<-adw];exact (ga.1 ky).1
    have:=tY j B3;rw[ky]at this;obtain⟨kt,kJ,JR,hS,_,ag⟩:=NZ this;simp only[rU]at hS ag;rw[aw]at hS;cases hS;exact⟨u,ag,aC⟩
   have FK:b3 w (fun _=>.bP) Tag.free.R (.J k ((List.range len).map f)) (.slice (some ⟨b,off,none⟩) ((List.range len).map f).length cap):=by
    refine .row _ k _ b off cap arr ty cY (fun i j=>arr.getD (off+i*k+j) undef) aw rfl (by omega) dO ?_ ?_ ?_
    ·intro e' he;obtain⟨i,hi,rfl⟩:=kr.1 he;obtain⟨_,cs,h1,U⟩:=bI i (by simpa using hi);rw[U.1];exact (Hu h1).1
    ·intro i j d aE;obtain⟨u,h1,_⟩:=fA i j d aE;rw[h1];simp[fc,h1]
    intro i j d aE;obtain⟨u,h1,U⟩:=fA i j d aE;have:arr.getD (off+i*k+j) undef=u:=by simp[fc,h1]
    rw[this];exact U
   rw[FB]at FK;have nQ:=kN.J (P:=P) t e ((List.range len).map f) hu (by rw[FB];omega);rw[ht]at nQ;refine⟨_,nQ ?_,.one FK⟩;intro ds fj;obtain⟨i,hi,rfl⟩:=kr.1 fj;exact (bI i (by simpa using hi)).1
  ·rename_i eV hu;simp only[cu,gn]at ao;obtain⟨mw,xr⟩:=ao;obtain⟨xs,n,_,_,al,gz,bI⟩:=DataW.trod_struct hu h;rw[<-al]at xr;obtain⟨ds,h1,U⟩:=aaJ (w:=w) xr fun f Sj=>by
    obtain⟨i,hi⟩:=ob.1 Sj;have:=bI i f (by simpa using hi);have oB:i<xs.length:=by rw[gz];have:=(ga.1 hi).1;simpa using this
    rw[gU oB]at this;exact N0 m f.type n _ _ (mw f Sj) this
   rw[yY]at h1;exact⟨ds,.struct t eV ds hu (by rw[h1.1,al]) (by simpa using U),h1⟩
  cases ao
end
end Go.Sx
namespace Go.Sx
open Go.ChangeShapes Go.WideShapes Go.ChangeAt Go.RowKit Go.Joins
def tG(P:Program)(t:TypeId):Bool:=match P.underlying t with | some (.struct _)=>true | _=>false
def E3(P:Program)(t:TypeId):cR->Prop
 | .one d=>kN P t [d]/\tG P t=false
 | .agg ds=>kN P t ds/\tG P t=true
def E4(P:Program):List TypeId->List cR->Prop
 | [],[]=>True
 | t::ts,a::as=>E3 P t a/\E4 P ts as
 | _,_=>False
section
variable {H : Type} {enc : TypeId × Value -> H} {P : Program} {w : World} {base b8 : Nat} {held : Bool} {r : Reach}
theorem azM{t:TypeId}{v:Value}{d:DataW H}{cz:List MemPlace}(ao:wA P 20 t=true)(hD:Value.okWide P w r b8 t v)(h:DataW.Trod enc P w base (fun _=>true) held t v d cz):
  ∃cw,E3 P t cw/\vb w cw v:=by
 obtain⟨h7,bI⟩:=h;obtain⟨ds,h1,U⟩:=N0 20 t h7 _ _ ao bI;have one:(∀cs,v≠.agg cs)->tG P t=false->∃cw,E3 P t cw/\vb w cw v:=by
  intro bF ah;have ai:v.cells.toList=[v]:=by
   cases v<;>first | rfl | (exact absurd rfl (bF _))
  rw[ai]at U
  match ds,h1,U with
  | [d],h1,U=>
   obtain⟨u,hu,aC⟩:=U.2 0 d rfl;simp at hu;subst hu;exact⟨.one d,⟨h1,ah⟩,aC⟩
  | [],_,U=>simp[p']at U
  | _::_::_,_,U=>simp[p']at U
 rw[show (20:Nat)=19+1 from rfl]at ao;unfold wA at ao;unfold Value.okWide at hD;split at ao
 ·rename_i hu;rw[hu]at hD;refine one (fun cs e=>?_) (by simp[tG,hu]);subst e;simp[Cell.okWide,Cell.ok,hu]at hD
 ·rename_i hu;rw[hu]at hD;refine one (fun cs e=>?_) (by simp[tG,hu]);subst e;simp[Cell.okWide,Cell.ok,hu]at hD
 ·rename_i hu;rw[hu]at hD;refine one (fun cs e=>?_) (by simp[tG,hu]);subst e;simp[Cell.okWide,Cell.ok,hu]at hD
 ·rename_i hu;rw[hu]at hD;refine one (fun cs e=>?_) (by simp[tG,hu]);subst e;simp[Cell.okWide,Cell.ok,hu]at hD
 ·rename_i hu;rw[hu]at hD;obtain⟨cs,rfl,_,_⟩:=hD;refine⟨.agg ds,⟨h1,by simp[tG,hu]⟩,cs,rfl,by have:=U.1;simpa[Value.cells]using this.symm,fun i d aE=>?_⟩;obtain⟨u,ky,aC⟩:=U.2 i d aE;exact⟨u,by simpa[Value.cells]using ky,aC⟩
 cases ao
theorem VH:∀(ts:List TypeId) (vs:List Value) (ds:List (DataW H)) (cz:List MemPlace),ts.all (wA P 20)=true->(∀(j:Nat) t v,ts[j]?=some t->vs[j]?=some v->Value.okWide P w r b8 t v)->
  DataW.TrodAll enc P w base (fun _=>true) held ts vs ds cz->∃ha,E4 P ts ha/\vs.length=ha.length/\∀(i:Nat) (cw:cR),ha[i]?=some cw->∃v,vs[i]?=some v/\vb w cw v
 | [],[],[],_,_,_,_=>⟨[],aa,rfl,fun i cw h=>by simp at h⟩
 | t::ts,v::vs,d::ds,cz,ao,hD,h=>by
  obtain⟨p,q,h1,U,_⟩:=h;simp only[List.all_cons,cu]at ao;obtain⟨cw,adj,Fw⟩:=azM ao.1 (hD 0 t v rfl rfl) h1;obtain⟨ha,aA,aJ,a7⟩:=VH ts vs ds q ao.2 (fun j t v bK bF=>hD (j+1) t v (by simpa using bK) (by simpa using bF)) U;refine⟨cw::ha,⟨adj,aA⟩,by simp[aJ],fun i pc hi=>?_⟩;cases i with
  | zero=>simp at hi;subst hi;exact⟨v,rfl,Fw⟩
  | succ i=>simpa using a7 i pc (by simpa using hi)
 | [],_::_,_,_,_,_,h=>by simp[DataW.TrodAll]at h
 | [],[],_::_,_,_,_,h=>by simp[DataW.TrodAll]at h
 | _::_,[],_,_,_,_,h=>by simp[DataW.TrodAll]at h
 | _::_,_::_,[],_,_,_,h=>by simp[DataW.TrodAll]at h
theorem VI{H:Type}{enc:TypeId×Value->H}{P:Program}(al:laidOutB P=true){W Bj:World}(aw:Below W.heap.size W Bj):
  ∀(ts:List TypeId) (vs:List Value) (ds:List (DataW H)) (cz:List MemPlace),ts.all (fun t=>P.readableRec t&&decide (t<P.types.size))=true->
   DataW.TrodAll enc P W 0 (fun _=>true) true ts vs ds cz->(∀x∈cz,x.block<W.heap.size)->
   DataW.TrodAll enc P Bj 0 (fun b=>decide (b<W.heap.size)) true ts vs ds cz
 | [],vs,ds,cz,_,h,_=>by
  obtain⟨rfl,rfl,rfl⟩:=trodAll_nil h;exact trodAll_mk0
 | t::ts,vs,ds,cz,bK,h,bR=>by
  obtain⟨v,aEa,d,tP,p,q,rfl,rfl,rfl,bJ,aC⟩:=trodAll_cons h;simp only[List.all_cons,cu,cj]at bK;exact trodAll_cons_mk (Below.trod al bK.1.1 bK.1.2 bJ aw (fun x ag=>bR x (hJ _ ag)))
   (VI al aw ts aEa tP q bK.2 aC (fun x ag=>bR x (iN _ ag)))
theorem VJ:∀(ts:List TypeId) (vs:List Value) (ds:List (DataW H)) (cz:List MemPlace),DataW.TrodAll enc P w base (fun _=>true) held ts vs ds cz->ds.length=ts.length
 | [],[],[],_,_=>rfl
 | t::ts,v::vs,d::ds,cz,h=>by
  obtain⟨p,q,_,U,_⟩:=h;simp[VJ ts vs ds q U]
 | [],_::_,_,_,h=>by simp[DataW.TrodAll]at h
 | [],[],_::_,_,h=>by simp[DataW.TrodAll]at h
 | _::_,[],_,_,h=>by simp[DataW.TrodAll]at h
 | _::_,_::_,[],_,h=>by simp[DataW.TrodAll]at h
theorem azN(al:laidOutB P=true){f:Func}{fno:Nat}{s:ChangeSpec}{tb:TypeId}(fl:f.resultTypes=#[tb])(aw:P.underlying tb=some .bool)
  (hp:f.params.toList.all (fun t=>P.readableRec t&&decide (t<P.types.size))=true) (fr:f.params.toList.all (wA P 20)=true) (SY:s.vars=[])
  {W:World} {args:Array Value} {ds gs:List (DataW H)} {before:List MemPlace} (hD:∀(j:Nat) t v,f.params[j]?=some t->args[j]?=some v->Value.okWide P W r b8 t v)
  (vr:DataW.Whole enc P f.params.toList s.vars false W args.toList ds gs before)
  (ao:ds.length=f.params.size->(s.fn H ds).results=[.lit (.bool true)]/\(s.fn H ds).args=ds/\(s.fn H ds).vars=[])
  (uf:qa W) (aef:∀ha,E4 P f.params.toList ha->iF P fno ha [.one (B true)]):
  Calls P fno args W fun e Bj=>∃v,e=.returned v/\s.post enc P f false true false false W args v Bj:=by
 have adi:=vr;have bR:=vr.lt;obtain⟨p,q,BL,R7,rfl,aFG,aFY⟩:=vr;rw[SY]at R7;obtain⟨rfl,rfl⟩:=trodVars_none R7;obtain⟨h1,U,aA⟩:=ao (by have:=VJ _ _ _ _ BL;simpa using this);obtain⟨ha,aeP,hlen,bY⟩:=VH _ _ _ _ fr (fun j t v bK bF=>hD j t v (by simpa using bK) (by simpa using bF)) BL;refine (aef ha aeP W args uf ⟨by simpa using hlen,fun i cw hi=>by simpa using bY i cw hi⟩).mono ?_;rintro e Bj ⟨v,rfl,pr,aC⟩;have bF:v=.bool true:=by
  obtain⟨ω,_,_,h⟩:=aC;simp only[nX,ng]at h;cases h;rfl
 subst bF;refine⟨_,rfl,ds,[],p++[],[],p,[],adi,?_,?_,?_,pr.below.frame _,fun h=>by cases h⟩
 ·rw[iO,h1,fl];exact trodAll_mk1 (shut_bool aw true)
 ·rw[iO,U];exact VI al pr.below _ _ _ _ hp BL (fun x ag=>bR x (by simpa using ag))
 rw[iO,aA,SY];rfl
end
