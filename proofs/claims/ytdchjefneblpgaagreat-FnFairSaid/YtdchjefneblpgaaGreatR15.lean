import Derived.Test.YtdchjefneblpgaaGreatR13
import Derived.LoopN
import Derived.ChangeMaps5
import Derived.ChangeSame
import Derived.ChangeStays
import Derived.ProofKit
import Derived.Lib.SmallJoins
set_option linter.unusedVariables false
set_option linter.unusedSimpArgs false
namespace Go.Sx
open Go.RowKit
def hV.p2:hV->Exit
 | .normal=>.normal
 | .exit id=>.exit id
 | .ret=>.ret
def QE(w0:eR)(e:hV)(st:aC):Exit->Act->World->Prop:=fun e' a w=>e'=e.p2/\Rel w0 st a w
def fX(P:Program)(c:Code)(st:aC)(e:hV)(bz:aC):Prop:=∀w0 a w,Rel w0 st a w->c.wp P (QE w0 e bz) a w
def c8(P:Program)(c:Code)(st:aC)(e:hV)(bz:aC):Prop:=∃n,∀w0 a w,Rel w0 st a w->Code.rounds P c (QE w0 e bz) n a w
variable{P:Program}{st bz:aC}
theorem c8.last{c:Code}{e:hV}(he:e.p2≠.normal)(h:fX P c st e bz):c8 P c st e bz:=
 ⟨1,fun w0 a w aD=>Code.wp_mono (fun e' cO aP ⟨h1,U⟩=>by
  subst h1;cases e with
  | normal=>exact absurd rfl he
  | exit id=>exact⟨rfl,U⟩
  | ret=>exact⟨rfl,U⟩) (h w0 a w aD)⟩
theorem c8.more{c:Code}{st1:aC}{e:hV}(h:fX P c st .normal st1)(U:c8 P c st1 e bz):c8 P c st e bz:=by
 obtain⟨n,aZ⟩:=U;refine⟨n+1,fun w0 a w aD=>Code.wp_mono (fun e' cO aP ⟨h1,aA⟩=>?_) (h w0 a w aD)⟩;subst h1;exact aZ w0 cO aP aA
def vv(cT:List Nat):Nat->List aI->List aI
 | _,[]=>[]
 | i,p::r=>(if cT.contains i then p else .cp)::vv cT (i+1) r
theorem TA(cT:List Nat):∀(l:List aI) (i j:Nat),(vv cT i l)[j]?=(l[j]?).map fun p=>if cT.contains (i+j) then p else .cp
 | [],_,_=>by simp[vv]
 | p::r,i,0=>by simp[vv]
 | p::r,i,j+1=>by
  simp only[vv,pR,TA cT r (i+1) j];rw[show i+1+j=i+(j+1) by omega]
theorem TB(cT:List Nat):∀(l:List aI) (i:Nat),(vv cT i l).length=l.length
 | [],_=>rfl
 | p::r,i=>by simp[vv,TB cT r]
def xB(bs:List Nat):List (Nat×List aF)->List (Nat×List aF)
 | []=>[]
 | (i,ls)::r=>if bs.contains i then (i,ls)::xB bs r else xB bs r
theorem Mk(bs:List Nat)(id:Nat):∀(l:List (Nat×List aF)) (ls:List aF),dI id (xB bs l)=some ls->dI id l=some ls
 | [],_,h=>by cases h
 | (i,eF)::r,ls,h=>by
  simp only[xB]at h;simp only[dI];split at h
  ·simp only[dI]at h;split at h
   ·grind
   rename_i hi;rw[bw hi];exact Mk bs id r ls h
  rename_i ak;have:=Mk bs id r ls h;split
  ·rename_i hi;subst hi;exfalso;have iJ:∀(r:List (Nat×List aF)),dI i (xB bs r)=none:=by
    intro r;induction r with
    | nil=>rfl
    | cons x r eg=>
     obtain⟨gP,gz⟩:=x;simp only[xB];split
     ·rename_i af;simp only[dI];grind
     exact eg
   grind
  exact this
def Fy:aF->aF
 | .v (.bool b)=>.bg b
 | l=>l
variable{w:World}
theorem TC{ω:Own}{τ:Nat->Nat×Value}(l:aF)(v:Value)(h:Sat w ω τ l v):Sat w ω τ (Fy l) v:=by
 unfold Fy;split
 ·exact h
 exact h
def aC.e3(st:aC)(cT bs:List Nat):aC:=⟨(vv cT 0 st.env).map (aI.map Fy),(xB bs st.boxes).map fun x=>(x.1,x.2.map Fy)⟩
variable{w0:eR}{a:Act}
theorem Rel.e3(h:Rel w0 st a w)(cT bs:List Nat):Rel w0 (st.e3 cT bs) a w:=by
 obtain⟨ω,τ,h⟩:=h;refine⟨ω,τ,h.defers,by simp[aC.e3,TB,h.size],h.below,h.owned,h.fixed,h.pinned,?_,?_⟩
 ·intro i p hp;simp only[aC.e3]at hp;rw[dK,b9]at hp;obtain⟨hq,hp,rfl⟩:=hp;rw[TA,b9]at hp;obtain⟨sC,hp,rfl⟩:=hp;obtain⟨v,h1,U⟩:=h.env i sC hp;refine⟨v,h1,cV.map TC ?_⟩;split
  ·exact U
  exact trivial
 intro id ls al;simp only[aC.e3]at al;rw[tZ,b9]at al;obtain⟨jY,al,rfl⟩:=al;obtain⟨b,arr,ty,h1,U,aA,aJ⟩:=h.boxes id jY (Mk bs id _ _ al);exact⟨b,arr,ty,h1,U,aA,aJ.map TC⟩
def Ml(st:aC)(id j t k:Nat):Option aC:=
 match dI id (st.j1 t []).boxes with
 | some ls=>
  match ls[j]? with
  | some (.v (.slice none 0 0))=>if t<dj then some ⟨(st.j1 t []).env,rC id (ls.set j (.J (.own t) k [])) (st.j1 t []).boxes⟩ else none
  | _=>none
 | none=>none
def Mm(st:aC)(id j t:Nat):Option aC:=
 match dI id st.boxes with
 | some jY=>
  match jY[j]? with
  | some (.J (.own gZ) ch es)=>
   if t<dj then
    let st1:=st.map (aF.cM (k' gZ t) fun _=>true)
    match dI id st1.boxes with
    | some ls=>some ⟨st1.env,rC id (ls.set j (.J (.own t) ch es)) st1.boxes⟩
    | none=>none
   else none
  | _=>none
 | none=>none
def vw(st:aC):List (Nat×Nat×Nat)->Option aC
 | []=>some st
 | (s,t,k)::r=>
  if 1000000<=s then
   (match Mm st (s / 1000000-1) (s % 1000000) t with
   | some st1=>some st1
   | none=>Ml st (s / 1000000-1) (s % 1000000) t k).bind fun st1=>vw st1 r else
  match (st.env.getD s .cp).leaf with
  | some (.v (.slice none 0 0))=>if t<dj then vw ⟨(st.j1 t []).env.set s (.one (.J (.own t) k [])),(st.j1 t []).boxes⟩ r else none
  | some (.J (.own gZ) ch es)=>
   if t<dj then vw ⟨(st.map (aF.cM (k' gZ t) fun _=>true)).env.set s (.one (.J (.own t) ch es)),(st.map (aF.cM (k' gZ t) fun _=>true)).boxes⟩ r else none
  | _=>none
theorem cK.QK{ω:Own}{τ:Nat->Nat×Value}(h:cK w0 st a w ω τ){s:Nat}{l:aF}(al:(st.env.getD s .cp).leaf=some l)(cX:l≠.cp):∃v,a.tmps[s]?=some v/\Sat w ω τ l v:=by
 rw[lK]at al;cases e:st.env[s]? with
 | none=>grind[aI.leaf,aX,absurd]
 | some p=>
  rw[e]at al;obtain⟨v,h1,U⟩:=h.env s p e;grind[aI.dS]
theorem TD{s:Nat}{v:Value}(h:a.tmps[s]?=some v):a.put (some s) v=a:=by
 simp only[Act.put];have:a.tmps.setIfInBounds s v=a.tmps:=by
  grind
 rw[this]
theorem ax2{id j t k:Nat}(h:Ml st id j t k=some bz)(aD:Rel w0 st a w):Rel w0 bz a w:=by
 obtain⟨ω,τ,aD⟩:=aD;unfold Ml at h;split at h
 ·rename_i ls aw;split at h
  ·rename_i bk;split at h
   ·rename_i jw;simp only[aX]at h;subst h;obtain⟨bf,h1,U⟩:=aD.K7 t k jw;refine⟨bf,_,h1.defers,h1.size,h1.below,h1.owned,h1.fixed,h1.pinned,h1.env,fun iK fQ al=>?_⟩;by_cases hx:iK=id
    ·subst hx;rw[zN aw]at al;cases al;obtain⟨b,arr,ty,e1,e2,cj,d'⟩:=h1.boxes iK ls aw;refine⟨b,arr,ty,e1,e2,cj,by rw[d'.1,hc],fun i l hi=>?_⟩;rw[pQ]at hi;split at hi
     ·rename_i oe;subst oe;split at hi
      ·cases hi;obtain⟨u,gU,fO⟩:=d'.2 j _ bk;have aDC:u=.slice none 0 0:=fO;grind
      cases hi
     exact d'.2 i l hi
    rw[zy hx]at al;exact h1.boxes iK fQ al
   cases h
  cases h
 cases h
theorem ax3{id j t:Nat}(h:Mm st id j t=some bz)(aD:Rel w0 st a w):Rel w0 bz a w:=by
 obtain⟨ω,τ,aD⟩:=aD;unfold Mm at h;split at h
 case h_2=>cases h
 rename_i jY ih;split at h
 case h_2=>cases h
 rename_i gZ ch es bk;split at h
 case isFalse=>cases h
 rename_i jw;simp only at h;split at h
 case h_2=>cases h
 rename_i ls aw;simp only[aX]at h;subst h;obtain⟨b6,uM,wi,aCo,aCp,aCq,abI⟩:=aD.boxes id jY ih;obtain⟨v,bI,ao⟩:=abI.2 j _ bk;have h1:cK w0 (st.map (aF.cM (k' gZ t) fun _=>true)) a w (fun b=>kp gZ t 0 (ω b)) (gL τ t ch v):=
  aD.dg _ (Lq jw).sat aD.below (fun b aw=>aD.owned b (Lp aw)) (fun id b aw=>⟨vq.2 aw,rfl⟩) (fun id b aw=>vq.1 aw)
   (fun du bG=>by simp only[gL];grind)
 have U:Sat w (fun b=>kp gZ t 0 (ω b)) (gL τ t ch v) (.J (.own t) ch es) v:=⟨ao.1.frame fun b q _ aH=>⟨by
  simp only[Tag.R]at aH ⊢;rw[aH];cases q with
  | nil=>simp[kp]
  | cons x q=>grind[kp],rfl⟩,by simp[Tag.ei,gL]⟩
 refine⟨_,_,h1.defers,h1.size,h1.below,h1.owned,h1.fixed,h1.pinned,h1.env,fun iK fQ al=>?_⟩;by_cases hx:iK=id
 ·subst hx;rw[zN aw]at al;cases al;obtain⟨b,arr,ty,e1,e2,cj,d'⟩:=h1.boxes iK ls aw;refine⟨b,arr,ty,e1,e2,cj,by rw[d'.1,hc],fun i l hi=>?_⟩;rw[pQ]at hi;split at hi
  ·rename_i oe;subst oe;split at hi
   ·cases hi;have u1:b=b6:=by
     have hj:ω b=.box iK:=vq.1 e1;grind
    grind
   cases hi
  exact d'.2 i l hi
 rw[zy hx]at al;exact h1.boxes iK fQ al
theorem C8:∀{ns:List (Nat×Nat×Nat)} {st bz:aC},vw st ns=some bz->Rel w0 st a w->Rel w0 bz a w
 | [],st,bz,h,aD=>by grind[vw,aX]
 | (s,t,k)::r,st,bz,h,aD=>by
  simp only[vw]at h;split at h
  ·rw[nn]at h;obtain⟨st1,h1,h⟩:=h;refine C8 h ?_;split at h1
   ·rename_i st2 U;cases h1;exact ax3 U aD
   exact ax2 h1 aD
  split at h
  ·rename_i al;obtain⟨ω,τ,aD⟩:=aD;obtain⟨v,bI,ao⟩:=aD.QK al (by simp);have:v=.slice none 0 0:=ao;subst this;split at h
   case isFalse=>cases h
   rename_i jw;obtain⟨bf,h1,U⟩:=aD.K7 t k jw;have aA:=h1.put (d:=s) (p:=.one (.J (.own t) k [])) U;rw[TD bI]at aA;exact C8 h ⟨bf,_,aA⟩
  ·rename_i gZ ch es al;obtain⟨ω,τ,aD⟩:=aD;obtain⟨v,bI,ao⟩:=aD.QK al (by simp);split at h
   case isFalse=>cases h
   rename_i jw;have h1:cK w0 (st.map (aF.cM (k' gZ t) fun _=>true)) a w (fun b=>kp gZ t 0 (ω b)) (gL τ t ch v):=
    aD.dg _ (Lq jw).sat aD.below (fun b aw=>aD.owned b (Lp aw)) (fun id b aw=>⟨vq.2 aw,rfl⟩) (fun id b aw=>vq.1 aw)
     (fun du bG=>by simp only[gL];grind)
   have aA:=h1.put (d:=s) (p:=.one (.J (.own t) ch es)) (v:=v) ⟨ao.1.frame fun b q _ aH=>⟨by
    simp only[Tag.R]at aH ⊢;rw[aH];cases q with
    | nil=>simp[kp]
    | cons x q=>grind[kp],rfl⟩,by simp[Tag.ei,gL]⟩
   rw[TD bI]at aA;exact C8 h ⟨_,_,aA⟩
  cases h
abbrev abp:=Option (hV×aC×List cd×List Prop)
def run(P:Program):Code->aC->List cd->abp
 | .skip,st,ans=>some (.normal,st,ans,[])
 | .label _,st,ans=>some (.normal,st,ans,[])
 | .region _ ops draw,st,ans=>if draw then (Mj P ops st ans).map fun r=>(.normal,r.1,r.2.1,r.2.2) else (xy P ops ops.toList st ans).map fun r=>(.normal,r.1,r.2.1,r.2.2)
 | .seq a b,st,ans=>
  match run P a st ans with
  | some (.normal,st1,fB,gq)=>(run P b st1 fB).map fun r=>(r.1,r.2.1,r.2.2.1,gq++r.2.2.2)
  | some (e,st1,fB,gq)=>some (e,st1,fB,gq)
  | none=>none
 | .cond c x y,st,ans=>
  match (st.bq c).leaf,ans with
  | some (.v (.bool true)),ans=>run P x st ans
  | some (.v (.bool false)),ans=>run P y st ans
  | some (.bg c),.pZ true::r=>(run P x st r).map fun r=>(r.1,r.2.1,r.2.2.1,(c=true)::r.2.2.2)
  | some (.bg c),.pZ false::r=>(run P y st r).map fun r=>(r.1,r.2.1,r.2.2.1,(c=false)::r.2.2.2)
  | _,_=>none
 | .block id body,st,ans=>
  match run P body st ans with
  | some (.exit i,st1,fB,gq)=>some (if i=id then .normal else .exit i,st1,fB,gq)
  | r=>r
 | .loop body,st,ans=>
  match ans with
  | .loop Fx cT bs e bz::r=>
   match e,vw st Fx with
   | .normal,_=>none
   | e,some st1=>some (e,bz,r,[c8 P body (st1.e3 cT bs) e bz])
   | _,none=>none
  | _=>none
 | .exit id,st,ans=>some (.exit id,st,ans,[])
 | .ret,st,ans=>some (.ret,st,ans,[])
 | _,_,_=>none
theorem ox:∀(c:Code) {st bz:aC} {ans cu:List cd} {obs:List Prop} {e:hV},run P c st ans=some (e,bz,cu,obs)->cQ obs->fX P c st e bz
 | .skip,st,bz,ans,cu,obs,e,h,a7=>by
  simp only[run,aX,bK]at h;obtain⟨rfl,rfl,_,_⟩:=h;exact fun w0 a w aD=>wp_skip ⟨rfl,aD⟩
 | .label l,st,bz,ans,cu,obs,e,h,a7=>by
  simp only[run,aX,bK]at h;obtain⟨rfl,rfl,_,_⟩:=h;exact fun w0 a w aD=>wp_label ⟨rfl,aD⟩
 | .region id ops draw,st,bz,ans,cu,obs,e,h,a7=>by
  simp only[run]at h;split at h
  ·rename_i aE;rw[b9]at h;obtain⟨⟨bx,b0,ci⟩,h1,h⟩:=h;simp only[bK]at h;obtain⟨rfl,rfl,rfl,rfl⟩:=h;subst aE;exact fun w0 a w aD=>ax1 h1 a7 aD fun cO aP h=>⟨rfl,h⟩
  rename_i aE;rw[b9]at h;obtain⟨⟨bx,b0,ci⟩,h1,h⟩:=h;simp only[bK]at h;obtain⟨rfl,rfl,rfl,rfl⟩:=h;have:draw=false:=by grind
  subst this;exact fun w0 a w aD=>wp_region_list (MU _ h1 a7 aD fun cO aP h=>⟨rfl,h⟩)
 | .seq x y,st,bz,ans,cu,obs,e,h,a7=>by
  simp only[run]at h;split at h
  ·rename_i st1 fB gq h1;rw[b9]at h;obtain⟨⟨bx,b0,ci,eA⟩,U,h⟩:=h;simp only[bK]at h;obtain⟨rfl,rfl,rfl,rfl⟩:=h;obtain⟨cC,cg⟩:=a7.append;intro w0 a w aD;refine wp_seq (Code.wp_mono (fun e' cO aP hp=>?_) (ox x h1 cC w0 a w aD));obtain⟨rfl,e8⟩:=hp;exact ox y U cg w0 cO aP e8
  ·rename_i e1 st1 fB gq cX h1;simp only[aX,bK]at h;obtain⟨rfl,rfl,rfl,rfl⟩:=h;intro w0 a w aD;refine wp_seq (Code.wp_mono (fun e' cO aP hp=>?_) (ox x h1 a7 w0 a w aD));obtain⟨rfl,e8⟩:=hp;cases e1 with
   | normal=>grind
   | exit i=>exact⟨rfl,e8⟩
   | ret=>exact⟨rfl,e8⟩
  cases h
 | .cond c x y,st,bz,ans,cu,obs,e,h,a7=>by
  intro w0 a w aD;have rh:=aD;obtain⟨ω,τ,e8⟩:=rh;have e0:=e8.bq c;simp only[run]at h;split at h
  ·rename_i al;have:a.eval c=.bool true:=aI.dS al e0;exact wp_cond_true this (ox x h a7 w0 a w aD)
  ·rename_i al;have:a.eval c=.bool false:=aI.dS al e0;exact wp_cond_false this (ox y h a7 w0 a w aD)
  ·rename_i kz r al;rw[b9]at h;obtain⟨⟨bx,b0,ci,eA⟩,U,h⟩:=h;simp only[bK]at h;obtain⟨rfl,rfl,rfl,rfl⟩:=h;have:a.eval c=.bool kz:=aI.dS al e0;have ak:kz=true:=a7.1;exact wp_cond_true (by rw[this,ak]) (ox x U a7.2 w0 a w aD)
  ·rename_i kz r al;rw[b9]at h;obtain⟨⟨bx,b0,ci,eA⟩,U,h⟩:=h;simp only[bK]at h;obtain⟨rfl,rfl,rfl,rfl⟩:=h;have:a.eval c=.bool kz:=aI.dS al e0;have ak:kz=false:=a7.1;exact wp_cond_false (by rw[this,ak]) (ox y U a7.2 w0 a w aD)
  cases h
 | .block id body,st,bz,ans,cu,obs,e,h,a7=>by
  intro w0 a w aD;simp only[run]at h;split at h
  ·rename_i i st1 fB gq h1;simp only[aX,bK]at h;obtain⟨rfl,rfl,rfl,rfl⟩:=h;refine wp_block (Code.wp_mono (fun e' cO aP hp=>?_) (ox body h1 a7 w0 a w aD));obtain⟨rfl,e8⟩:=hp;simp only[hV.p2,Exit.inBlock];split
   ·exact⟨rfl,e8⟩
   exact⟨rfl,e8⟩
  rename_i cX;refine wp_block (Code.wp_mono (fun e' cO aP hp=>?_) (ox body h a7 w0 a w aD));obtain⟨rfl,e8⟩:=hp;cases e with
  | normal=>exact⟨rfl,e8⟩
  | exit i=>grind
  | ret=>exact⟨rfl,e8⟩
 | .loop body,st,bz,ans,cu,obs,e,h,a7=>by
  intro w0 a w aD;simp only[run]at h;split at h
  ·rename_i Fx cT bs bE ga r;split at h
   ·cases h
   ·rename_i e1 st1 cX aZ;simp only[aX,bK]at h;obtain⟨rfl,rfl,rfl,rfl⟩:=h;obtain⟨n,al⟩:=a7.1;exact wp_loop_rounds n (al w0 a w ((C8 aZ aD).e3 cT bs))
   cases h
  cases h
 | .exit id,st,bz,ans,cu,obs,e,h,a7=>by
  simp only[run,aX,bK]at h;obtain⟨rfl,rfl,_,_⟩:=h;exact fun w0 a w aD=>wp_exit ⟨rfl,aD⟩
 | .ret,st,bz,ans,cu,obs,e,h,a7=>by
  simp only[run,aX,bK]at h;obtain⟨rfl,rfl,_,_⟩:=h;exact fun w0 a w aD=>wp_ret ⟨rfl,aD⟩
 | .rangeFunc ..,_,_,_,_,_,_,h,_=>by simp[run]at h
 | .scope _,_,_,_,_,_,_,h,_=>by simp[run]at h
 | .goto _,_,_,_,_,_,_,h,_=>by simp[run]at h
 | .refuse _,_,_,_,_,_,_,h,_=>by simp[run]at h
end Go.Sx
namespace Go.Sx
open Go.RowKit
def aF.AE:aF->D->Option (D×Option Nat)
 | .v x,hint=>
  match x,hint with
  | .slice none 0 0,.J k _=>some (.J k [],none)
  | x,_=>if x.oneCell' then some (.v x,none) else none
 | .bg c,_=>some (.v (.bool c),none)
 | .J (.own t) k es,_=>some (.J k es,some t)
 | _,_=>none
abbrev iF:=List (Nat×Nat)
def iF.at(t:Nat):iF->Option Nat
 | []=>none
 | (s,n)::r=>if s=t then some n else iF.at t r
def FH(n:Nat):Option Nat->iF
 | some t=>[(t,n)]
 | none=>[]
def rW(n:Nat):List aF->List D->Option (List D×iF)
 | [],[]=>some ([],[])
 | l::ls,d::ds=>
  match l.AE d,rW (n+1) ls ds with
  | some (dP,t),some (tu,ts)=>some (dP::tu,FH n t++ts)
  | _,_=>none
 | _,_=>none
def HQ(n:Nat):bl->cP->Option (cP×iF)
 | .one l,.one d=>(l.AE d).map fun x=>(.one x.1,FH n x.2)
 | .agg ls,.agg ds=>(rW n ls ds).map fun x=>(.agg x.1,x.2)
 | _,_=>none
def s5(r:Nat):List aI->List cP->Option (List cP×iF)
 | [],[]=>some ([],[])
 | .aG a::cz,d::ds=>
  match HQ (100*r) a d,s5 (r+1) cz ds with
  | some (dP,t),some (tu,ts)=>some (dP::tu,t++ts)
  | _,_=>none
 | _,_=>none
def FI(ts:iF):Bool:=ts.all fun x=>match ts.at x.1 with | some n=>n==x.2 | none=>false
variable{ts:iF}{n:Nat}
theorem FJ(h:FI ts=true){t:Nat}(hm:(t,n)∈ts):ts.at t=some n:=by
 have:=gA.1 h _ hm;simp only at this;split at this
 ·rename_i ad7 e;rw[e];simp only[ka]at this;rw[this]
 cases this
def jd(ω:Own)(ts:iF):Own:=fun b=>
 match ω b with
 | .tok t q=>match ts.at t with | some n=>.tok n q | none=>.bM
 | _=>.bM
variable{w:World}{ω:Own}{τ:Nat->Nat×Value}
theorem aF.Zp{l:aF}{h d:D}{t:Option Nat}{u:Value}(aE:l.AE h=some (d,t))(ao:Sat w ω τ l u)
  (k5:∀s,t=some s->ts.at s=some n):b4 w (jd ω ts) (Tag.own n).R d u:=by
 cases l with
 | cp=>cases aE
 | v x=>
  have e:u=x:=ao;subst e;simp only[aF.AE]at aE;split at aE
  ·simp only[aX,bK]at aE;obtain⟨rfl,_⟩:=aE;exact .nil _ _ _
  split at aE
  ·simp only[aX,bK]at aE;obtain⟨rfl,_⟩:=aE;exact .v _ _ ‹_›
  cases aE
 | bg c=>
  have e:u=.bool c:=ao;subst e;simp only[aF.AE,aX,bK]at aE;obtain⟨rfl,_⟩:=aE;exact .v _ _ rfl
 | J g k es=>
  cases g with
  | free=>cases aE
  | ro s=>cases aE
  | own s=>
   simp only[aF.AE,aX,bK]at aE;obtain⟨rfl,rfl⟩:=aE;refine ao.1.frame fun b q _ aH=>⟨?_,rfl⟩
   simp only[Tag.R]at aH ⊢;simp only[jd,aH,k5 s rfl]
 | ptr=>cases aE
 | ep=>cases aE
 | hQ=>cases aE
 | fd=>cases aE
 | dA=>cases aE
 | hg=>cases aE
 | aN=>cases aE
 | fD=>cases aE
theorem TE{t:Option Nat}{s:Nat}(h:t=some s):(s,n)∈FH n t:=by subst h;simp[FH]
theorem Mn{w:World}{ω:Own}{τ:Nat->Nat×Value}(k5:∀t n,(t,n)∈ts->ts.at t=some n):∀{ls:List aF} {ao ds:List D} {n:Nat} {lH:iF},rW n ls ao=some (ds,lH)->(∀x∈lH,x∈ts)->
  ds.length=ls.length/\∀(j:Nat) (d:D),ds[j]?=some d->∃l,ls[j]?=some l/\∀u,Sat w ω τ l u->b4 w (jd ω ts) (Tag.own (n+j)).R d u
 | [],[],ds,n,lH,h,_=>by
  simp only[rW,aX,bK]at h;obtain⟨rfl,_⟩:=h;exact⟨rfl,fun j d aE=>by simp at aE⟩
 | l::ls,bO::ao,ds,n,lH,h,jV=>by
  simp only[rW]at h;split at h
  ·rename_i dP t tu uC e1 e2;simp only[aX,bK]at h;obtain⟨rfl,rfl⟩:=h;obtain⟨h1,U⟩:=Mn (w:=w) (ω:=ω) (τ:=τ) k5 e2 (fun x af=>jV x (iC _ af));refine⟨by simp[h1],fun j d aE=>?_⟩;cases j with
   | zero=>
    simp at aE;subst aE;exact⟨l,rfl,fun u hu=>aF.Zp e1 hu fun s dp=>k5 s n (jV _ (hD _ (TE dp)))⟩
   | succ j=>
    obtain⟨gV,aA,aJ⟩:=U j d (by simpa using aE);refine⟨gV,by simpa using aA,fun u hu=>?_⟩;have:=aJ u hu;rwa[show n+1+j=n+(j+1) by omega]at this
  cases h
 | [],_::_,_,_,_,h,_=>by simp[rW]at h
 | _::_,[],_,_,_,h,_=>by simp[rW]at h
theorem ax4(k5:∀t n,(t,n)∈ts->ts.at t=some n){a:bl}{h d:cP}{r:Nat}{lH:iF}(aD:HQ (100*r) a h=some (d,lH))(jV:∀x∈lH,x∈ts)
  {y:Value} (ao:kZ (Sat w ω τ) a y):mW w (jd ω ts) r d y:=by
 cases a with
 | one l=>
  cases h with
  | agg dp=>cases aD
  | one bO=>
   simp only[HQ,b9]at aD;obtain⟨⟨dP,t⟩,h1,U⟩:=aD;simp only[bK]at U;obtain⟨rfl,rfl⟩:=U;exact aF.Zp h1 ao fun s dp=>k5 s _ (jV _ (TE dp))
 | agg ls=>
  cases h with
  | one bO=>cases aD
  | agg dp=>
   simp only[HQ,b9]at aD;obtain⟨⟨ds,t⟩,h1,U⟩:=aD;simp only[bK]at U;obtain⟨rfl,rfl⟩:=U;obtain⟨aA,aJ⟩:=Mn (w:=w) (ω:=ω) (τ:=τ) k5 h1 jV;obtain⟨vs,rfl,aZ,bI⟩:=ao;refine⟨vs,rfl,by omega,fun j tt aE=>?_⟩;obtain⟨l,al,c3⟩:=aJ j tt aE;obtain⟨u,hu,fO⟩:=bI j l al;exact⟨u,hu,c3 u fO⟩
theorem FK{w:World}{ω:Own}{τ:Nat->Nat×Value}{ts:iF}(k5:∀t n,(t,n)∈ts->ts.at t=some n):∀{cz:List aI} {ao ds:List cP} {r:Nat} {lH:iF},s5 r cz ao=some (ds,lH)->(∀x∈lH,x∈ts)->
  ds.length=cz.length/\∀(j:Nat) (d:cP),ds[j]?=some d->∃p,cz[j]?=some p/\∀u,cV (Sat w ω τ) p u->mW w (jd ω ts) (r+j) d u
 | [],[],ds,r,lH,h,_=>by
  simp only[s5,aX,bK]at h;obtain⟨rfl,_⟩:=h;exact⟨rfl,fun j d aE=>by simp at aE⟩
 | .aG a::cz,bO::ao,ds,r,lH,h,jV=>by
  simp only[s5]at h;split at h
  ·rename_i dP t tu uC e1 e2;simp only[aX,bK]at h;obtain⟨rfl,rfl⟩:=h;obtain⟨h1,U⟩:=FK (w:=w) (ω:=ω) (τ:=τ) k5 e2 (fun x af=>jV x (iC _ af));refine⟨by simp[h1],fun j d aE=>?_⟩;cases j with
   | zero=>
    simp at aE;subst aE;exact⟨.aG a,rfl,fun u hu=>ax4 k5 e1 (fun x af=>jV x (hD _ af)) hu⟩
   | succ j=>
    obtain⟨gV,aA,aJ⟩:=U j d (by simpa using aE);refine⟨gV,by simpa using aA,fun u hu=>?_⟩;have:=aJ u hu;rwa[show r+1+j=r+(j+1) by omega]at this
  cases h
 | [],_::_,_,_,_,h,_=>by simp[s5]at h
 | .aG _::_,[],_,_,_,h,_=>by simp[s5]at h
 | .gx _::_,_,_,_,_,h,_=>by simp[s5]at h
def cP.arg:cP->bl
 | .one d=>.one (d.leaf .free)
 | .agg ds=>.agg (ds.map (D.leaf .free))
def Ae(args:List cP)(ntmps:Nat):aC:=⟨args.map (fun a=>.aG a.arg)++List.replicate (ntmps-args.length) .cp,[]⟩
theorem my.leaf{d:D}{u:Value}(h:my w d u):Sat w (fun _=>.bM) τ (d.leaf .free) u:=D.dS (p:=(0,0)) h
theorem ax5{args:List cP}{vs:Array Value}(tK:qN w)(h:FU w args vs)(ntmps:Nat):
  Rel (eR.of w) (Ae args ntmps) { tmps:=vs++Array.replicate (ntmps-vs.size) undef,defers:=[] } w:=by
 refine⟨fun _=>.bM,fun _=>(0,undef),rfl,by simp[Ae,h.1],hd.refl _ tK (fun _ _ h=>h),fun b aw=>absurd rfl aw,fun _ _=>rfl,(fun _ _ _ h=>by cases h),?_,fun id ls al=>by simp[Ae,dI]at al⟩;intro i p hp;simp only[Ae]at hp;rw[qE,ct]at hp;split at hp
 ·rename_i hi;rw[dK,b9]at hp;obtain⟨cy,JA,rfl⟩:=hp;obtain⟨v,bI,bW⟩:=h.2 i cy JA;refine⟨v,?_,?_⟩
  ·rw[kc,bn (by rw[h.1];exact hi)];exact bI
  cases cy with
  | one d=>exact my.leaf bW
  | agg ds=>
   obtain⟨us,rfl,aZ,hu⟩:=bW;refine⟨us,rfl,by simpa using aZ,fun j l al=>?_⟩;rw[dK,b9]at al;obtain⟨d,aE,rfl⟩:=al;obtain⟨u,h1,U⟩:=hu j d aE;exact⟨u,h1,my.leaf U⟩
 rename_i hi;rw[Eo]at hp;split at hp
 ·rename_i bS;simp only[aX]at hp;subst hp;refine⟨undef,?_,aa⟩;rw[kc,bw (by rw[h.1];exact hi),Array.getElem?_replicate,bn (by rw[h.1];exact bS)]
 cases hp
def rH(P:Program)(st:aC):ResultVar->Option aI
 | .tmp t=>some (st.bq (.tmp t))
 | .cell a t=>
  match xm P t,P.info? t,(st.bq (.tmp a)).leaf with
  | some agg,some i,some (.ptr id off)=>
   match dI id st.boxes with
   | some ls=>sL agg i.size ls off
   | none=>none
  | _,_,_=>none
def C9(tmps:Array Value):ResultVar->Sem Value
 | .tmp t=>pure (tmps.getD t undef)
 | .cell x t=>do loadVar t (<-asAddr (tmps.getD x undef))
theorem Mo(fn:Func)(tmps:Array Value):results fn tmps=(do
  let vs <-fn.results.mapM (C9 tmps)
  pure (if h:vs.size=1 then vs[0] else .tuple vs)):=by
 unfold results;have:(fun x=>match x with | .tmp t=>pure (tmps.getD t undef) | .cell a t=>do loadVar t (<-asAddr (tmps.getD a undef)):ResultVar->Sem Value)=C9 tmps:=by
  funext x;cases x<;>rfl
 rw[<-this];rfl
variable{P:Program}{st:aC}
theorem ax6{w0:eR}{a:Act}(a6:cK w0 st a w ω τ){r:ResultVar}{p:aI}(h:rH P st r=some p):
  ∃z,(C9 a.tmps r).run P w=.ok z w/\cV (Sat w ω τ) p z:=by
 cases r with
 | tmp t=>
  simp only[rH,aX]at h;subst h;exact⟨_,rfl,a6.bq (.tmp t)⟩
 | cell x t=>
  simp only[rH]at h;split at h
  ·rename_i agg i id off e1 e2 cj;split at h
   ·rename_i ls dk;have af:=aI.dS cj (a6.bq (.tmp x));obtain⟨b,aw,af⟩:=af;simp only[Act.eval]at af;obtain⟨dD,arr,ty,ey,Fl,JV,dM,e0⟩:=a6.boxes id ls dk;have:=Fl b aw;subst this;have:=zL (P:=P) e1 e2 h JV (base:=0) (by omega) (fun j l al=>by simpa using e0 j l al);simpa[C9,af,asAddr]using this
   cases h
  cases h
def HR(P:Program)(st:aC)(kt:List ResultVar)(hint:List cP):Option (List cP):=
 match kt.mapM (rH P st) with
 | some cz=>
  match s5 0 cz hint with
  | some (ds,ts)=>if FI ts then some ds else none
  | none=>none
 | none=>none
theorem FL{w0:eR}{a:Act}(a6:cK w0 st a w ω τ):∀{kt:List ResultVar} {cz:List aI},kt.mapM (rH P st)=some cz->
  ∃zs:List Value,(kt.mapM (C9 a.tmps)).run P w=.ok zs w/\zs.length=cz.length/\∀(i:Nat) (p:aI),cz[i]?=some p->∃z,zs[i]?=some z/\cV (Sat w ω τ) p z
 | [],cz,h=>by simp at h;subst h;exact⟨[],rfl,rfl,fun i p hp=>by simp at hp⟩
 | r::kt,cz,h=>by
  rw[AU]at h;cases e:rH P st r with
  | none=>simp[e]at h
  | some hq=>
   cases e2:kt.mapM (rH P st) with
   | none=>simp[e,e2]at h
   | some aDY=>
    simp[e,e2]at h;subst h;obtain⟨z,h1,U⟩:=ax6 a6 e;obtain⟨zs,aA,aJ,a'⟩:=FL a6 e2;refine⟨z::zs,?_,by simp[aJ],fun i p hp=>?_⟩
    ·rw[AU,Sem.run_bind,h1,Result.andThen_ok,Sem.run_bind,aA];rfl
    cases i with
    | zero=>simp at hp;subst hp;exact⟨z,rfl,U⟩
    | succ i=>exact a' i p (by simpa using hp)
theorem TF{f:FuncId}{fn:Func}{c:Code}{args rs:List cP}{ans cu:List cd}{obs:List Prop}{e:hV}(bF:P.funcs[f]?=some fn)(aw:fn.body=some c)
  (fN:run P c (Ae args fn.ntmps) ans=some (e,st,cu,obs)) (a7:cQ obs) (he:e=.ret\/e=.normal) (fl:HR P st fn.results.toList rs=some rs):iV P f args rs:=by
 intro w vs tK ny;refine calls_of_wp bF aw (Code.wp_mono (fun e' cO aP hp=>?_) (ox c fN a7 (eR.of w) _ w (ax5 tK ny fn.ntmps)));obtain⟨rfl,ω,τ,a6⟩:=hp;unfold HR at fl;split at fl
 ·rename_i cz tJ;split at fl
  ·rename_i ds ts fc;split at fl
   ·rename_i bW;simp only[aX]at fl;subst fl;obtain⟨zs,h1,U,aA⟩:=FL a6 tJ;obtain⟨aJ,a'⟩:=FK (w:=aP) (ω:=ω) (τ:=τ) (fun t n h=>FJ bW h) fc (fun x af=>af);have hm:=Gj (P:=P) _ fn.results aP _ h1;have fw:∀(j:Nat) (d:cP),ds[j]?=some d->∃z,zs[j]?=some z/\mW aP (jd ω ts) j d z:=by
     intro j d aE;obtain⟨p,hp,tI⟩:=a' j d aE;obtain⟨z,bd,qh⟩:=aA j p hp;exact⟨z,bd,by have:=tI z qh;rwa[dV]at this⟩
    have mU:zs.length=ds.length:=by omega
    have acr:∀v,(if h:zs.toArray.size=1 then zs.toArray[0] else .tuple zs.toArray)=v->yK w aP ds v:=by
     intro v bI;refine⟨jd ω ts,fun b aw=>?_,fun b aw=>?_,?_⟩
     ·cases dt:ω b with
      | bM=>simp[jd,dt]
      | box id=>simp[jd,dt]
      | tok t q=>
       rcases (a6.owned b (by simp[dt])).1 with h | h
       ·exact absurd aw (by have h:w.heap.size<=b:=h;omega)
       exact absurd h (fun h=>h)
     ·cases dt:ω b with
      | bM=>simp[jd,dt]at aw
      | box id=>simp[jd,dt]at aw
      | tok t q=>
       refine⟨?_,(a6.owned b (by simp[dt])).2⟩;simp only[jd,dt]at aw ⊢;cases k5:ts.at t with
       | none=>simp[k5]at aw
       | some n=>exact⟨n,q,rfl⟩
     unfold nH;split
     ·rename_i cy;obtain⟨z,bd,ak⟩:=fw 0 cy rfl;have h1:zs.length=1:=by rw[mU];rfl
      have sw:zs=[z]:=by
       match zs,h1,bd with
       | [z0],_,bd=>simp at bd;rw[bd]
      have Kk:v=z:=by
       rw[<-bI];simp[sw]
      rw[Kk];exact ak
     rename_i cX;have h1:¬zs.toArray.size=1:=by
      intro h;simp at h;rw[mU]at h;obtain⟨d,aE⟩:=List.length_eq_one_iff.1 h;exact cX d aE
     rw[dif_neg h1]at bI;exact⟨zs.toArray,bI.symm,by simpa using mU,fun r cy aD=>by obtain⟨z,bd,ak⟩:=fw r cy aD;exact⟨z,by simpa using bd,ak⟩⟩
    have ed:∃v,(results fn cO.tmps).run P aP=.ok v aP/\∃u,Ending.returned v=.returned u/\hf w.heap.size w aP/\yK w aP ds u:=by
     refine⟨_,?_,_,rfl,a6.below.below,acr _ rfl⟩;rw[Mo,Sem.run_bind,hm];rfl
    obtain⟨v,bu,b1⟩:=ed;rcases he with rfl | rfl
    ·exact⟨a6.defers,v,bu,b1⟩
    exact⟨a6.defers,v,bu,b1⟩
   cases fl
  cases fl
 cases fl
end Go.Sx
namespace Go.Sx
open Go.RowKit
def Ld(P:Program)(c:Code)(ntmps:Nat)(kt:List ResultVar)(args hint:List cP)(ans:List cd):Option (List cP×List Prop):=
 match run P c (Ae args ntmps) ans with
 | some (.ret,st,_,obs)=>(HR P st kt hint).map fun rs=>(rs,obs)
 | some (.normal,st,_,obs)=>(HR P st kt hint).map fun rs=>(rs,obs)
 | _=>none
def oy(fn:Func):Code:=fn.body.getD .skip
variable{P:Program}
theorem iV.of{f:FuncId}{fn:Func}{args rs:List cP}(ans:List cd)(obs:List Prop)(bF:P.funcs[f]?=some fn)(aw:fn.body.isSome=true)
  (h:Ld P (oy fn) fn.ntmps fn.results.toList args rs ans=some (rs,obs)) (a7:cQ obs):iV P f args rs:=by
 obtain⟨c,ak⟩:=r2.1 aw;have Bw:oy fn=c:=by simp[oy,ak]
 unfold Ld at h;rw[Bw]at h;split at h
 ·rename_i st a nF aD;rw[b9]at h;obtain⟨wc,h1,h⟩:=h;simp only[bK]at h;obtain⟨rfl,rfl⟩:=h;exact TF bF ak aD a7 (.inl rfl) h1
 ·rename_i st a nF aD;rw[b9]at h;obtain⟨wc,h1,h⟩:=h;simp only[bK]at h;obtain⟨rfl,rfl⟩:=h;exact TF bF ak aD a7 (.inr rfl) h1
 cases h
def B6(P:Program)(body:Code)(st:aC)(ans:List cd)(cT bs:List Nat):Option (hV×aC×List Prop):=
 (run P body st ans).map fun r=>(r.1,r.2.1.e3 cT bs,r.2.2.2)
variable{body:Code}{st bz:aC}{e:hV}
theorem fX.K'{ans:List cd}{cT bs:List Nat}{obs:List Prop}(h:B6 P body st ans cT bs=some (e,bz,obs))(a7:cQ obs):fX P body st e bz:=by
 unfold B6 at h;rw[b9]at h;obtain⟨⟨bx,b0,ci,eA⟩,h1,h⟩:=h;simp only[bK]at h;obtain⟨rfl,rfl,rfl⟩:=h;intro w0 a w aD;exact Code.wp_mono (fun e' cO aP ⟨h1,U⟩=>⟨h1,U.e3 cT bs⟩) (ox body h1 a7 w0 a w aD)
def K3(P:Program)(body:Code)(st:aC)(ans:List cd)(ns:List (Nat×Nat×Nat))(cT bs:List Nat):Option (hV×aC×List Prop):=
 (run P body st ans).bind fun r=>(vw r.2.1 ns).map fun s=>(r.1,s.e3 cT bs,r.2.2.2)
theorem fX.aeb{ans:List cd}{ns:List (Nat×Nat×Nat)}{cT bs:List Nat}{obs:List Prop}(h:K3 P body st ans ns cT bs=some (e,bz,obs))(a7:cQ obs):fX P body st e bz:=by
 unfold K3 at h;rw[nn]at h;obtain⟨⟨bx,b0,ci,eA⟩,h1,h⟩:=h;rw[b9]at h;obtain⟨s,ao,h⟩:=h;simp only[bK]at h;obtain⟨rfl,rfl,rfl⟩:=h;intro w0 a w aD;exact Code.wp_mono (fun e' cO aP ⟨h1,U⟩=>⟨h1,(C8 ao U).e3 cT bs⟩) (ox body h1 a7 w0 a w aD)
theorem c8.step{st1:aC}(ans:List cd)(cT bs:List Nat)(obs:List Prop)(h:B6 P body st ans cT bs=some (.normal,st1,obs))(a7:cQ obs)(U:c8 P body st1 e bz):c8 P body st e bz:=
 .more (fX.K' h a7) U
theorem c8.done(ans:List cd)(cT bs:List Nat)(obs:List Prop)(he:e.p2≠.normal)(h:B6 P body st ans cT bs=some (e,bz,obs))(a7:cQ obs):c8 P body st e bz:=
 .last he (fX.K' h a7)
theorem cn(i:Nat):(hV.exit i).p2≠.normal:=fun h=>by cases h
theorem e5:hV.ret.p2≠.normal:=fun h=>by cases h
def vG:Code->List Code
 | .seq a b=>vG a++vG b
 | .cond _ a b=>vG a++vG b
 | .block _ b=>vG b
 | .loop b=>b::vG b
 | .scope b=>vG b
 | _=>[]
def ap(fn:Func)(i:Nat):Code:=(vG (oy fn)).getD i .skip
def vH:Code->List (Nat×Array Oper)
 | .region id ops true=>[(id,ops)]
 | .seq a b=>vH a++vH b
 | .cond _ a b=>vH a++vH b
 | .block _ b=>vH b
 | .loop b=>vH b
 | .scope b=>vH b
 | _=>[]
def c'(fn:Func)(id:Nat):Array Oper:=(((vH (oy fn)).find? fun x=>Nat.beq x.1 id).map (·.2)).getD #[]
def abJ(n:Nat)(l:List (Nat×aI)):List aI:=l.foldl (fun e x=>e.set x.1 x.2) (List.replicate n .cp)
abbrev I(n:Int):D:=.v (.int .i64 n)
abbrev B(b:Bool):D:=.v (.bool b)
abbrev aB6(s:ByteArray):D:=.v (.string s)
end Go.Sx
namespace Go.Sx
open Go.RowKit
inductive kx (P:Program):TypeId->List D->Prop
 | bool (t:TypeId) (b:Bool) (h:P.underlying t=some .bool):kx P t [.v (.bool b)]
 | int (t:TypeId) (k:IntKind) (n:Int) (h:P.underlying t=some (.int k)) (hw:(Lit.int k n).wf=true):kx P t [.v (.int k n)]
 | str (t:TypeId) (s:ByteArray) (h:P.underlying t=some .string) (ao:s.size<=maxLen):kx P t [.v (.string s)]
 | J (t e:TypeId) (es:List (List D)) (h:P.underlying t=some (.slice e)) (al:es.length<=maxLen) (he:∀ds∈es,kx P e ds):kx P t [.J (P.cellsOf e) es]
 | struct (t:TypeId) (eS:Array Field) (ds:List D) (h:P.underlying t=some (.struct eS)) (al:ds.length=P.cellsOf t) (bF:∀f∈eS.toList,kx P f.type ((ds.drop f.offset).take (P.cellsOf f.type))):kx P t ds
def wg(P:Program):Nat->List Field->Nat->Bool
 | o,[],n=>o==n
 | o,f::r,n=>f.offset==o&&wg P (o+P.cellsOf f.type) r n
def vI(P:Program):Nat->TypeId->Bool
 | 0,_=>false
 | m+1,t=>
  match P.underlying t with
  | some .bool | some (.int _) | some .string=>true
  | some (.slice e)=>decide (0<P.cellsOf e)&&vI P m e
  | some (.struct eS)=>eS.toList.all (fun f=>vI P m f.type)&&wg P 0 eS.toList (P.cellsOf t)
  | _=>false
def pY(w:World)(ds:List D)(cs:List Value):Prop:=ds.length=cs.length/\∀(i:Nat) (d:D),ds[i]?=some d->∃v,cs[i]?=some v/\my w d v
theorem pY.one{w:World}{d:D}{v:Value}(h:my w d v):pY w [d] [v]:=
 ⟨rfl,fun i dP aE=>by
  cases i with
  | zero=>simp at aE;subst aE;exact⟨v,rfl,h⟩
  | succ i=>simp at aE⟩
theorem pY.append{w:World}{a b:List D}{x y:List Value}(h:pY w a x)(k:pY w b y):pY w (a++b) (x++y):=by
 refine⟨by simp[h.1,k.1],fun i d aE=>?_⟩;rw[qE]at aE ⊢;rw[<-h.1];split at aE
 ·rename_i hi;rw[bn hi];exact h.2 i d aE
 rename_i hi;rw[bw hi];exact k.2 _ d aE
theorem Mp{P:Program}:∀{gD:List Field} {o n:Nat},wg P o gD n=true->o<=n/\∀f∈gD,o<=f.offset/\f.offset+P.cellsOf f.type<=n
 | [],o,n,h=>by simp[wg]at h;exact⟨by omega,fun f bF=>by cases bF⟩
 | f::r,o,n,h=>by
  simp only[wg,cw,ka]at h;obtain⟨h1,U⟩:=Mp h.2;refine⟨by omega,fun g ax=>?_⟩;rcases eH.1 ax with rfl | ax
  ·exact⟨by omega,by omega⟩
  have:=U g ax;exact⟨by omega,this.2⟩
theorem Zx{P:Program}{w:World}{cs:List Value}:∀{gD:List Field} {o:Nat},wg P o gD cs.length=true->
  (∀f∈gD,∃ds,kx P f.type ds/\pY w ds ((cs.drop f.offset).take (P.cellsOf f.type)))->
  ∃ds,pY w ds (cs.drop o)/\∀f∈gD,kx P f.type ((ds.drop (f.offset-o)).take (P.cellsOf f.type))
 | [],o,h,_=>by
  simp only[wg,ka]at h;subst h;exact⟨[],⟨by simp,fun i d aE=>by simp at aE⟩,fun f bF=>by cases bF⟩
 | f::r,o,h,bF=>by
  have hle:=Mp h;simp only[wg,cw,ka]at h;obtain⟨bO,h⟩:=h;obtain⟨ds,h1,U⟩:=Zx h fun g ax=>bF g (by simp[ax])
  obtain⟨d0,aA,aJ⟩:=bF f (by simp);have zc:d0.length=P.cellsOf f.type:=by
   rw[aJ.1];have:=(hle.2 f (by simp)).2;simp;omega
  refine⟨d0++ds,?_,?_⟩
  ·have:cs.drop o=(cs.drop f.offset).take (P.cellsOf f.type)++cs.drop (o+P.cellsOf f.type):=by
    rw[bO,<-List.drop_drop];exact (Ep _ _).symm
   rw[this];exact aJ.append h1
  intro g ax;rcases eH.1 ax with rfl | ax
  ·rw[bO,Nat.sub_self,yB,abk (by omega),yz (by omega)];exact aA
  have aC9:=U g ax;have:=(Mp h).2 g ax;rw[List.drop_append,List.drop_eq_nil_of_le (show d0.length<=g.offset-o by omega),List.nil_append,zc];rwa[show g.offset-o-P.cellsOf f.type=g.offset-(o+P.cellsOf f.type) by omega]
section
variable {H : Type} {enc : TypeId × Value -> H} {P : Program} {w : World} {base : Nat} {held : Bool}
theorem FM{a:Addr}{k:Nat}{cs:List Value}(h:w.cells? base a k=some cs):cs.length=k/\∀i,i<k->w.cell? (a.add i)=cs[i]?:=by
 unfold World.cells? at h;split at h
 ·exact⟨by simpa using mapM_some_length h,fun i hi=>mapM_some_get h i i (by simp[hi])⟩
 cases h
theorem Mq{a:Addr}{v:Value}(h:w.cell? a=some v):∃arr ty cZ,w.heap[a.block]?=some (.cells arr ty cZ)/\a.spot=none/\arr[a.off]?=some v:=by
 unfold World.cell? at h;split at h
 ·rename_i arr ty cZ e;split at h
  ·cases h
  rename_i ao;refine⟨arr,ty,cZ,e,?_,h⟩;cases Ke:a.spot with
  | none=>rfl
  | some x=>simp[Ke]at ao
 cases h
theorem Mr:∀(m:Nat) (t:TypeId) (hZ:Nat) (cs:List Value) (x:DataW H×List MemPlace),vI P m t=true->DataW.trod enc P w base (fun _=>true) held hZ t cs=some x->
  ∃ds,kx P t ds/\pY w ds cs
 | 0,_,_,_,_,h,_=>by cases h
 | m+1,t,hZ,cs,x,ao,h=>by
  unfold vI at ao;split at ao
  ·rename_i hu;obtain⟨b,rfl,_⟩:=DataW.trod_bool hu h;exact⟨_,.bool t b hu,.one (.v _ _ rfl)⟩
  ·rename_i k hu;obtain⟨n,rfl,_,hw⟩:=DataW.trod_int hu h;exact⟨_,.int t k n hu hw,.one (.v _ _ rfl)⟩
  ·rename_i hu;obtain⟨s,rfl,_,hw⟩:=DataW.trod_string hu h;exact⟨_,.str t s hu hw,.one (.v _ _ rfl)⟩
  ·rename_i e hu;simp only[cw,ck]at ao;obtain⟨og,RJ⟩:=ao;rcases DataW.trod_slice hu h with⟨rfl,_⟩ | ⟨a,len,cap,QX,rest,n,_,rfl,_,_,al,ak,hlen,y7,Ke,_⟩
   ·exact⟨_,.J t e [] hu (by simp) (fun ds fc=>by cases fc),.one (.nil _ _ _)⟩
   obtain⟨RH,Fg⟩:=Ke rfl;generalize hn:P.cellsOf e=k at*;have iY:∀i,i<cap->∃cs,w.cells? base (a.add (i*k)) k=some cs/\∃x,DataW.trod enc P w base (fun _=>true) held n e cs=some x:=by
    intro i hi;by_cases ki:i<len
    ·have:=y7 i ki;obtain⟨y,bD⟩:∃y,QX[i]?=some y:=⟨QX[i],iD (by omega)⟩
     rw[bD,nn]at this;obtain⟨cs,h1,U⟩:=this;exact⟨cs,h1,y,U⟩
    have:=Fg (i-len) (by omega);rw[show len+(i-len)=i by omega]at this;obtain⟨y,bD⟩:∃y,rest[i-len]?=some y:=⟨rest[i-len],iD (by omega)⟩
    rw[bD,nn]at this;obtain⟨cs,h1,U⟩:=this;exact⟨cs,h1,y,U⟩
   by_cases fZ:cap=0
   ·subst fZ;have:len=0:=by omega
    subst this;have:=kx.J (P:=P) t e [] hu (by simp) (fun ds fc=>by cases fc);exact⟨_,this,.one (.nil _ _ _)⟩
   have acn:∀i,∃ds,i<len->kx P e ds/\∃cs,w.cells? base (a.add (i*k)) k=some cs/\pY w ds cs:=by
    intro i;by_cases hi:i<len
    ·obtain⟨cs,h1,x,U⟩:=iY i (by omega);obtain⟨ds,aA,aJ⟩:=Mr m e n cs x RJ U;exact⟨ds,fun _=>⟨aA,cs,h1,aJ⟩⟩
    exact⟨[],fun h=>absurd h hi⟩
   obtain⟨f,bF⟩:=Classical.skolem.1 acn;obtain⟨cl,q5,_⟩:=iY (cap-1) (by omega);obtain⟨aCU,acd⟩:=FM q5;have vd:=acd (k-1) (by omega);obtain⟨aEd,Kj⟩:∃v,cl[k-1]?=some v:=⟨cl[k-1],iD (by omega)⟩
   rw[Kj]at vd;obtain⟨b,off,spot⟩:=a;have adw:spot=none:=by
    obtain⟨c5,ab7,_⟩:=iY 0 (by omega);obtain⟨aCS,ab8⟩:=FM ab7;have bO:=ab8 0 og;obtain⟨v0,Fm⟩:∃v,c5[0]?=some v:=⟨c5[0],iD (by omega)⟩
    rw[Fm]at bO;obtain⟨_,_,_,_,h1,_⟩:=Mq bO;simpa[Addr.add]using h1
   subst adw;obtain⟨arr,ty,cZ,aw,_,vd⟩:=Mq vd;simp only[rK]at aw vd;have dM:off+cap*k<=arr.size:=by
    have h1:=(kf.1 vd).1;have U:cap*k=(cap-1)*k+k:=by rw[<-Nat.succ_mul];congr 1;omega
    omega
   have E6:((List.range len).map f).length=len:=by simp
   have hJ:∀i j d,df ((List.range len).map f) i j=some d->i<len/\(f i)[j]?=some d:=by
    intro i j d aE;unfold df at aE;rw[dK]at aE;by_cases hi:i<len
    ·rw[List.getElem?_range hi]at aE;exact⟨hi,by simpa using aE⟩
    rw[List.getElem?_eq_none (by simpa using hi)]at aE;simp at aE
   have fw:∀i j d,df ((List.range len).map f) i j=some d->∃u,arr[off+i*k+j]?=some u/\my w d u:=by
    intro i j d aE;obtain⟨hi,bk⟩:=hJ i j d aE;obtain⟨_,cs,h1,U⟩:=bF i hi;obtain⟨acb,tD⟩:=FM h1;obtain⟨u,kl,aD⟩:=U.2 j d bk;have BD:j<k:=by rw[<-acb];exact (gk.1 kl).1
    have:=tD j BD;rw[kl]at this;obtain⟨k1,lf,wO,h2,_,af⟩:=Mq this;simp only[rK]at h2 af;rw[aw]at h2;cases h2;exact⟨u,af,aD⟩
   have Ff:b4 w (fun _=>.bM) Tag.free.R (.J k ((List.range len).map f)) (.slice (some ⟨b,off,none⟩) ((List.range len).map f).length cap):=by
    refine .row _ k _ b off cap arr ty cZ (fun i j=>arr.getD (off+i*k+j) undef) aw rfl (by omega) dM ?_ ?_ ?_
    ·intro e' he;obtain⟨i,hi,rfl⟩:=lh.1 he;obtain⟨_,cs,h1,U⟩:=bF i (by simpa using hi);rw[U.1];exact (FM h1).1
    ·intro i j d aE;obtain⟨u,h1,_⟩:=fw i j d aE;rw[h1];simp[e7,h1]
    intro i j d aE;obtain⟨u,h1,U⟩:=fw i j d aE;have:arr.getD (off+i*k+j) undef=u:=by simp[e7,h1]
    rw[this];exact U
   rw[E6]at Ff;have nA:=kx.J (P:=P) t e ((List.range len).map f) hu (by rw[E6];omega);rw[hn]at nA;refine⟨_,nA ?_,.one Ff⟩;intro ds fc;obtain⟨i,hi,rfl⟩:=lh.1 fc;exact (bF i (by simpa using hi)).1
  ·rename_i eS hu;simp only[cw,gA]at ao;obtain⟨mj,w3⟩:=ao;obtain⟨xs,n,_,_,al,gm,bF⟩:=DataW.trod_struct hu h;rw[<-al]at w3;obtain⟨ds,h1,U⟩:=Zx (w:=w) w3 fun f Rh=>by
    obtain⟨i,hi⟩:=pS.1 Rh;have:=bF i f (by simpa using hi);have qb:i<xs.length:=by rw[gm];have:=(gk.1 hi).1;simpa using this
    rw[iD qb]at this;exact Mr m f.type n _ _ (mj f Rh) this
   rw[yB]at h1;exact⟨ds,.struct t eS ds hu (by rw[h1.1,al]) (by simpa using U),h1⟩
  cases ao
end
end Go.Sx
namespace Go.Sx
open Go.ChangeShapes Go.WideShapes Go.ChangeAt Go.RowKit Go.Joins
def ti(P:Program)(t:TypeId):Bool:=match P.underlying t with | some (.struct _)=>true | _=>false
def EA(P:Program)(t:TypeId):cP->Prop
 | .one d=>kx P t [d]/\ti P t=false
 | .agg ds=>kx P t ds/\ti P t=true
def EB(P:Program):List TypeId->List cP->Prop
 | [],[]=>True
 | t::ts,a::as=>EA P t a/\EB P ts as
 | _,_=>False
section
variable {H : Type} {enc : TypeId × Value -> H} {P : Program} {w : World} {base b6 : Nat} {held : Bool} {r : Reach}
theorem ax7{t:TypeId}{v:Value}{d:DataW H}{cz:List MemPlace}(ao:vI P 20 t=true)(hy:Value.okWide P w r b6 t v)(h:DataW.Trod enc P w base (fun _=>true) held t v d cz):
  ∃cy,EA P t cy/\wy w cy v:=by
 obtain⟨hZ,bF⟩:=h;obtain⟨ds,h1,U⟩:=Mr 20 t hZ _ _ ao bF;have one:(∀cs,v≠.agg cs)->ti P t=false->∃cy,EA P t cy/\wy w cy v:=by
  intro bI ai;have ak:v.cells.toList=[v]:=by
   cases v<;>first | rfl | (exact absurd rfl (bI _))
  rw[ak]at U
  match ds,h1,U with
  | [d],h1,U=>
   obtain⟨u,hu,aD⟩:=U.2 0 d rfl;simp at hu;subst hu;exact⟨.one d,⟨h1,ai⟩,aD⟩
  | [],_,U=>simp[pY]at U
  | _::_::_,_,U=>simp[pY]at U
 rw[show (20:Nat)=19+1 from rfl]at ao;unfold vI at ao;unfold Value.okWide at hy;split at ao
 ·rename_i hu;rw[hu]at hy;refine one (fun cs e=>?_) (by simp[ti,hu]);subst e;simp[Cell.okWide,Cell.ok,hu]at hy
 ·rename_i hu;rw[hu]at hy;refine one (fun cs e=>?_) (by simp[ti,hu]);subst e;simp[Cell.okWide,Cell.ok,hu]at hy
 ·rename_i hu;rw[hu]at hy;refine one (fun cs e=>?_) (by simp[ti,hu]);subst e;simp[Cell.okWide,Cell.ok,hu]at hy
 ·rename_i hu;rw[hu]at hy;refine one (fun cs e=>?_) (by simp[ti,hu]);subst e;simp[Cell.okWide,Cell.ok,hu]at hy
 ·rename_i hu;rw[hu]at hy;obtain⟨cs,rfl,_,_⟩:=hy;refine⟨.agg ds,⟨h1,by simp[ti,hu]⟩,cs,rfl,by have:=U.1;simpa[Value.cells]using this.symm,fun i d aE=>?_⟩;obtain⟨u,kl,aD⟩:=U.2 i d aE;exact⟨u,by simpa[Value.cells]using kl,aD⟩
 cases ao
theorem TG:∀(ts:List TypeId) (vs:List Value) (ds:List (DataW H)) (cz:List MemPlace),ts.all (vI P 20)=true->(∀(j:Nat) t v,ts[j]?=some t->vs[j]?=some v->Value.okWide P w r b6 t v)->
  DataW.TrodAll enc P w base (fun _=>true) held ts vs ds cz->∃gR,EB P ts gR/\vs.length=gR.length/\∀(i:Nat) (cy:cP),gR[i]?=some cy->∃v,vs[i]?=some v/\wy w cy v
 | [],[],[],_,_,_,_=>⟨[],aa,rfl,fun i cy h=>by simp at h⟩
 | t::ts,v::vs,d::ds,cz,ao,hy,h=>by
  obtain⟨p,q,h1,U,_⟩:=h;simp only[List.all_cons,cw]at ao;obtain⟨cy,abX,Jz⟩:=ax7 ao.1 (hy 0 t v rfl rfl) h1;obtain⟨gR,aA,aJ,a'⟩:=TG ts vs ds q ao.2 (fun j t v bG bI=>hy (j+1) t v (by simpa using bG) (by simpa using bI)) U;refine⟨cy::gR,⟨abX,aA⟩,by simp[aJ],fun i oQ hi=>?_⟩;cases i with
  | zero=>simp at hi;subst hi;exact⟨v,rfl,Jz⟩
  | succ i=>simpa using a' i oQ (by simpa using hi)
 | [],_::_,_,_,_,_,h=>by simp[DataW.TrodAll]at h
 | [],[],_::_,_,_,_,h=>by simp[DataW.TrodAll]at h
 | _::_,[],_,_,_,_,h=>by simp[DataW.TrodAll]at h
 | _::_,_::_,[],_,_,_,h=>by simp[DataW.TrodAll]at h
theorem TH{H:Type}{enc:TypeId×Value->H}{P:Program}(al:laidOutB P=true){W AY:World}(aw:Below W.heap.size W AY):
  ∀(ts:List TypeId) (vs:List Value) (ds:List (DataW H)) (cz:List MemPlace),ts.all (fun t=>P.readableRec t&&decide (t<P.types.size))=true->
   DataW.TrodAll enc P W 0 (fun _=>true) true ts vs ds cz->(∀x∈cz,x.block<W.heap.size)->
   DataW.TrodAll enc P AY 0 (fun b=>decide (b<W.heap.size)) true ts vs ds cz
 | [],vs,ds,cz,_,h,_=>by
  obtain⟨rfl,rfl,rfl⟩:=trodAll_nil h;exact trodAll_mk0
 | t::ts,vs,ds,cz,bG,h,bS=>by
  obtain⟨v,aBF,d,tu,p,q,rfl,rfl,rfl,bO,aD⟩:=trodAll_cons h;simp only[List.all_cons,cw,ck]at bG;exact trodAll_cons_mk (Below.trod al bG.1.1 bG.1.2 bO aw (fun x af=>bS x (hD _ af)))
   (TH al aw ts aBF tu q bG.2 aD (fun x af=>bS x (iC _ af)))
theorem TI:∀(ts:List TypeId) (vs:List Value) (ds:List (DataW H)) (cz:List MemPlace),DataW.TrodAll enc P w base (fun _=>true) held ts vs ds cz->ds.length=ts.length
 | [],[],[],_,_=>rfl
 | t::ts,v::vs,d::ds,cz,h=>by
  obtain⟨p,q,_,U,_⟩:=h;simp[TI ts vs ds q U]
 | [],_::_,_,_,h=>by simp[DataW.TrodAll]at h
 | [],[],_::_,_,h=>by simp[DataW.TrodAll]at h
 | _::_,[],_,_,h=>by simp[DataW.TrodAll]at h
 | _::_,_::_,[],_,h=>by simp[DataW.TrodAll]at h
theorem ax8(al:laidOutB P=true){f:Func}{fno:Nat}{s:ChangeSpec}{tb:TypeId}(fl:f.resultTypes=#[tb])(aw:P.underlying tb=some .bool)
  (hp:f.params.toList.all (fun t=>P.readableRec t&&decide (t<P.types.size))=true) (fm:f.params.toList.all (vI P 20)=true) (RO:s.vars=[])
  {W:World} {args:Array Value} {ds gs:List (DataW H)} {before:List MemPlace} (hy:∀(j:Nat) t v,f.params[j]?=some t->args[j]?=some v->Value.okWide P W r b6 t v)
  (uZ:DataW.Whole enc P f.params.toList s.vars false W args.toList ds gs before)
  (ao:ds.length=f.params.size->(s.fn H ds).results=[.lit (.bool true)]/\(s.fn H ds).args=ds/\(s.fn H ds).vars=[])
  (tK:qN W) (acU:∀gR,EB P f.params.toList gR->iV P fno gR [.one (B true)]):
  Calls P fno args W fun e AY=>∃v,e=.returned v/\s.post enc P f false true false false W args v AY:=by
 have abW:=uZ;have bS:=uZ.lt;obtain⟨p,q,Bp,Q6,rfl,aC8,aDp⟩:=uZ;rw[RO]at Q6;obtain⟨rfl,rfl⟩:=trodVars_none Q6;obtain⟨h1,U,aA⟩:=ao (by have:=TI _ _ _ _ Bp;simpa using this);obtain⟨gR,adu,hlen,bW⟩:=TG _ _ _ _ fm (fun j t v bG bI=>hy j t v (by simpa using bG) (by simpa using bI)) Bp;refine (acU gR adu W args tK ⟨by simpa using hlen,fun i cy hi=>by simpa using bW i cy hi⟩).mono ?_;rintro e AY ⟨v,rfl,se,aD⟩;have bI:v=.bool true:=by
  obtain⟨ω,_,_,h⟩:=aD;simp only[nH,mW]at h;cases h;rfl
 subst bI;refine⟨_,rfl,ds,[],p++[],[],p,[],abW,?_,?_,?_,se.below.frame _,fun h=>by cases h⟩
 ·rw[io,h1,fl];exact trodAll_mk1 (shut_bool aw true)
 ·rw[io,U];exact TH al se.below _ _ _ _ hp Bp (fun x af=>bS x (by simpa using af))
 rw[io,aA,RO];rfl
end
