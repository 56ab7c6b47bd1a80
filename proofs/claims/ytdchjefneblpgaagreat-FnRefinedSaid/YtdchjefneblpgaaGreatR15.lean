import Derived.Test.YtdchjefneblpgaaGreatR13
import Derived.LoopN
import Derived.ChangeMaps5
import Derived.ChangeSame
import Derived.ChangeStays
import Derived.ProofKit
import Derived.Lib.SmallJoins
set_option linter.unusedVariables false
set_option linter.unusedSimpArgs false
namespace Go.Sx
open Go.RowKit
def hY.oa:hY->Exit
 | .normal=>.normal
 | .exit id=>.exit id
 | .ret=>.ret
def Qx(w0:eT)(e:hY)(st:aJ):Exit->Act->World->Prop:=fun e' a w=>e'=e.oa/\Rel w0 st a w
def fT(P:Program)(c:Code)(st:aJ)(e:hY)(bC:aJ):Prop:=∀w0 a w,Rel w0 st a w->c.wp P (Qx w0 e bC) a w
def c5(P:Program)(c:Code)(st:aJ)(e:hY)(bC:aJ):Prop:=∃n,∀w0 a w,Rel w0 st a w->Code.rounds P c (Qx w0 e bC) n a w
variable{P:Program}{st bC:aJ}
theorem c5.last{c:Code}{e:hY}(he:e.oa≠.normal)(h:fT P c st e bC):c5 P c st e bC:=
 ⟨1,fun w0 a w aA=>Code.wp_mono (fun e' cK aO ⟨h1,U⟩=>by
  subst h1;cases e with
  | normal=>exact absurd rfl he
  | exit id=>exact⟨rfl,U⟩
  | ret=>exact⟨rfl,U⟩) (h w0 a w aA)⟩
theorem c5.more{c:Code}{st1:aJ}{e:hY}(h:fT P c st .normal st1)(U:c5 P c st1 e bC):c5 P c st e bC:=by
 obtain⟨n,aX⟩:=U;refine⟨n+1,fun w0 a w aA=>Code.wp_mono (fun e' cK aO ⟨h1,ax⟩=>?_) (h w0 a w aA)⟩;subst h1;exact aX w0 cK aO ax
def vg(cT:List Nat):Nat->List aL->List aL
 | _,[]=>[]
 | i,p::r=>(if cT.contains i then p else .cA)::vg cT (i+1) r
theorem Up(cT:List Nat):∀(l:List aL) (i j:Nat),(vg cT i l)[j]?=(l[j]?).map fun p=>if cT.contains (i+j) then p else .cA
 | [],_,_=>by simp[vg]
 | p::r,i,0=>by simp[vg]
 | p::r,i,j+1=>by
  simp only[vg,oL,Up cT r (i+1) j];rw[show i+1+j=i+(j+1) by omega]
theorem Uq(cT:List Nat):∀(l:List aL) (i:Nat),(vg cT i l).length=l.length
 | [],_=>rfl
 | p::r,i=>by simp[vg,Uq cT r]
def xq(bs:List Nat):List (Nat×List aH)->List (Nat×List aH)
 | []=>[]
 | (i,ls)::r=>if bs.contains i then (i,ls)::xq bs r else xq bs r
theorem LH(bs:List Nat)(id:Nat):∀(l:List (Nat×List aH)) (ls:List aH),dM id (xq bs l)=some ls->dM id l=some ls
 | [],_,h=>by cases h
 | (i,ea)::r,ls,h=>by
  simp only[xq]at h;simp only[dM];split at h
  ·simp only[dM]at h;split at h
   ·rename_i hi;rw[bm hi];exact h
   rename_i hi;rw[bk hi];exact LH bs id r ls h
  rename_i aj;have:=LH bs id r ls h;split
  ·rename_i hi;subst hi;exfalso;have jt:∀(r:List (Nat×List aH)),dM i (xq bs r)=none:=by
    intro r;induction r with
    | nil=>rfl
    | cons x r ee=>
     obtain⟨hs,gS⟩:=x;simp only[xq];split
     ·rename_i ah;simp only[dM];rw[bk]
      ·exact ee
      intro e;subst e;exact aj ah
     exact ee
   rw[jt]at h;cases h
  exact this
def EH:aH->aH
 | .v (.bool b)=>.bg b
 | l=>l
variable{w:World}
theorem Ur{ω:Own}{τ:Nat->Nat×Value}(l:aH)(v:Value)(h:Sat w ω τ l v):Sat w ω τ (EH l) v:=by
 unfold EH;split
 ·exact h
 exact h
def aJ.fU(st:aJ)(cT bs:List Nat):aJ:=⟨(vg cT 0 st.env).map (aL.map EH),(xq bs st.boxes).map fun x=>(x.1,x.2.map EH)⟩
variable{w0:eT}{a:Act}
theorem Rel.fU(h:Rel w0 st a w)(cT bs:List Nat):Rel w0 (st.fU cT bs) a w:=by
 obtain⟨ω,τ,h⟩:=h;refine⟨ω,τ,h.defers,by simp[aJ.fU,Uq,h.size],h.below,h.owned,h.fixed,h.pinned,?_,?_⟩
 ·intro i p hp;simp only[aJ.fU]at hp;rw[dq,cc]at hp;obtain⟨h2,hp,rfl⟩:=hp;rw[Up,cc]at hp;obtain⟨si,hp,rfl⟩:=hp;obtain⟨v,h1,U⟩:=h.env i si hp;refine⟨v,h1,cW.map Ur ?_⟩;split
  ·exact U
  exact trivial
 intro id ls ap;simp only[aJ.fU]at ap;rw[tI,cc]at ap;obtain⟨j8,ap,rfl⟩:=ap;obtain⟨b,arr,ty,h1,U,ax,aF⟩:=h.boxes id j8 (LH bs id _ _ ap);exact⟨b,arr,ty,h1,U,ax,aF.map Ur⟩
def K7(st:aJ)(id j t k:Nat):Option aJ:=
 match dM id (st.j' t []).boxes with
 | some ls=>
  match ls[j]? with
  | some (.v (.slice none 0 0))=>if t<dn then some ⟨(st.j' t []).env,rv id (ls.set j (.J (.own t) k [])) (st.j' t []).boxes⟩ else none
  | _=>none
 | none=>none
def K8(st:aJ)(id j t:Nat):Option aJ:=
 match dM id st.boxes with
 | some j8=>
  match j8[j]? with
  | some (.J (.own ho) cw es)=>
   if t<dn then
    let st1:=st.map (aH.cu (lk ho t) fun _=>true)
    match dM id st1.boxes with
    | some ls=>some ⟨st1.env,rv id (ls.set j (.J (.own t) cw es)) st1.boxes⟩
    | none=>none
   else none
  | _=>none
 | none=>none
def vh(st:aJ):List (Nat×Nat×Nat)->Option aJ
 | []=>some st
 | (s,t,k)::r=>
  if 1000000<=s then
   (match K8 st (s / 1000000-1) (s % 1000000) t with
   | some st1=>some st1
   | none=>K7 st (s / 1000000-1) (s % 1000000) t k).bind fun st1=>vh st1 r else
  match (st.env.getD s .cA).leaf with
  | some (.v (.slice none 0 0))=>if t<dn then vh ⟨(st.j' t []).env.set s (.one (.J (.own t) k [])),(st.j' t []).boxes⟩ r else none
  | some (.J (.own ho) cw es)=>
   if t<dn then vh ⟨(st.map (aH.cu (lk ho t) fun _=>true)).env.set s (.one (.J (.own t) cw es)),(st.map (aH.cu (lk ho t) fun _=>true)).boxes⟩ r else none
  | _=>none
theorem cJ.QC{ω:Own}{τ:Nat->Nat×Value}(h:cJ w0 st a w ω τ){s:Nat}{l:aH}(ap:(st.env.getD s .cA).leaf=some l)(cC:l≠.cA):∃v,a.tmps[s]?=some v/\Sat w ω τ l v:=by
 rw[jB]at ap;cases e:st.env[s]? with
 | none=>rw[e]at ap;simp only[Option.getD_none,aL.leaf,aV]at ap;exact absurd ap.symm cC
 | some p=>
  rw[e]at ap;obtain⟨v,h1,U⟩:=h.env s p e;exact⟨v,h1,aL.dV ap U⟩
theorem Us{s:Nat}{v:Value}(h:a.tmps[s]?=some v):a.put (some s) v=a:=by
 simp only[Act.put];have:a.tmps.setIfInBounds s v=a.tmps:=by
  apply Array.ext
  ·simp
  intro i h1 U;rw[Array.getElem_setIfInBounds];split
  ·rename_i hi;subst hi;rw[ht U]at h;exact (eW h).symm
  rfl
 rw[this]
theorem aw0{id j t k:Nat}(h:K7 st id j t k=some bC)(aA:Rel w0 st a w):Rel w0 bC a w:=by
 obtain⟨ω,τ,aA⟩:=aA;unfold K7 at h;split at h
 ·rename_i ls av;split at h
  ·rename_i a1;split at h
   ·rename_i iU;simp only[aV]at h;subst h;obtain⟨bc,h1,U⟩:=aA.Kt t k iU;refine⟨bc,_,h1.defers,h1.size,h1.below,h1.owned,h1.fixed,h1.pinned,h1.env,fun hM fz ap=>?_⟩;by_cases gE:hM=id
    ·subst gE;rw[y6 av]at ap;cases ap;obtain⟨b,arr,ty,e1,e2,cg,eo⟩:=h1.boxes hM ls av;refine⟨b,arr,ty,e1,e2,cg,by rw[eo.1,fR],fun i l hi=>?_⟩;rw[k6]at hi;split at hi
     ·rename_i lf;subst lf;split at hi
      ·cases hi;obtain⟨u,f',eY⟩:=eo.2 j _ a1;have JD:u=.slice none 0 0:=eY;subst JD;exact⟨_,f',U⟩
      cases hi
     exact eo.2 i l hi
    rw[y7 gE]at ap;exact h1.boxes hM fz ap
   cases h
  cases h
 cases h
theorem aw1{id j t:Nat}(h:K8 st id j t=some bC)(aA:Rel w0 st a w):Rel w0 bC a w:=by
 obtain⟨ω,τ,aA⟩:=aA;unfold K8 at h;split at h
 case h_2=>cases h
 rename_i j8 iG;split at h
 case h_2=>cases h
 rename_i ho cw es a1;split at h
 case isFalse=>cases h
 rename_i iU;simp only at h;split at h
 case h_2=>cases h
 rename_i ls av;simp only[aV]at h;subst h;obtain⟨bX,uz,vW,aCq,aa7,aa8,aa9⟩:=aA.boxes id j8 iG;obtain⟨v,bp,ao⟩:=aa9.2 j _ a1;have h1:cJ w0 (st.map (aH.cu (lk ho t) fun _=>true)) a w (fun b=>kz ho t 0 (ω b)) (gX τ t cw v):=
  aA.dC _ (LX iU).sat aA.below (fun b av=>aA.owned b (LW av)) (fun id b av=>⟨vb.2 av,rfl⟩) (fun id b av=>vb.1 av)
   (fun di bT=>by simp only[gX];rw[bk (by omega)])
 have U:Sat w (fun b=>kz ho t 0 (ω b)) (gX τ t cw v) (.J (.own t) cw es) v:=⟨ao.1.frame fun b q _ aK=>⟨by
  simp only[Tag.R]at aK ⊢;rw[aK];cases q with
  | nil=>simp[kz]
  | cons x q=>obtain⟨i,j⟩:=x;simp[kz],rfl⟩,by simp[Tag.ev,gX]⟩
 refine⟨_,_,h1.defers,h1.size,h1.below,h1.owned,h1.fixed,h1.pinned,h1.env,fun hM fz ap=>?_⟩;by_cases gE:hM=id
 ·subst gE;rw[y6 av]at ap;cases ap;obtain⟨b,arr,ty,e1,e2,cg,eo⟩:=h1.boxes hM ls av;refine⟨b,arr,ty,e1,e2,cg,by rw[eo.1,fR],fun i l hi=>?_⟩;rw[k6]at hi;split at hi
  ·rename_i lf;subst lf;split at hi
   ·cases hi;have IY:b=bX:=by
     have h9:ω b=.box hM:=vb.1 e1;exact aa7 b h9
    subst IY;rw[aa8]at cg;cases cg;exact⟨v,bp,U⟩
   cases hi
  exact eo.2 i l hi
 rw[y7 gE]at ap;exact h1.boxes hM fz ap
theorem Ce:∀{ns:List (Nat×Nat×Nat)} {st bC:aJ},vh st ns=some bC->Rel w0 st a w->Rel w0 bC a w
 | [],st,bC,h,aA=>by simp only[vh,aV]at h;subst h;exact aA
 | (s,t,k)::r,st,bC,h,aA=>by
  simp only[vh]at h;split at h
  ·rw[ni]at h;obtain⟨st1,h1,h⟩:=h;refine Ce h ?_;split at h1
   ·rename_i st2 U;cases h1;exact aw1 U aA
   exact aw0 h1 aA
  split at h
  ·rename_i ap;obtain⟨ω,τ,aA⟩:=aA;obtain⟨v,bp,ao⟩:=aA.QC ap (by simp);have:v=.slice none 0 0:=ao;subst this;split at h
   case isFalse=>cases h
   rename_i iU;obtain⟨bc,h1,U⟩:=aA.Kt t k iU;have ax:=h1.put (d:=s) (p:=.one (.J (.own t) k [])) U;rw[Us bp]at ax;exact Ce h ⟨bc,_,ax⟩
  ·rename_i ho cw es ap;obtain⟨ω,τ,aA⟩:=aA;obtain⟨v,bp,ao⟩:=aA.QC ap (by simp);split at h
   case isFalse=>cases h
   rename_i iU;have h1:cJ w0 (st.map (aH.cu (lk ho t) fun _=>true)) a w (fun b=>kz ho t 0 (ω b)) (gX τ t cw v):=
    aA.dC _ (LX iU).sat aA.below (fun b av=>aA.owned b (LW av)) (fun id b av=>⟨vb.2 av,rfl⟩) (fun id b av=>vb.1 av)
     (fun di bT=>by simp only[gX];rw[bk (by omega)])
   have ax:=h1.put (d:=s) (p:=.one (.J (.own t) cw es)) (v:=v) ⟨ao.1.frame fun b q _ aK=>⟨by
    simp only[Tag.R]at aK ⊢;rw[aK];cases q with
    | nil=>simp[kz]
    | cons x q=>obtain⟨i,j⟩:=x;simp[kz],rfl⟩,by simp[Tag.ev,gX]⟩
   rw[Us bp]at ax;exact Ce h ⟨_,_,ax⟩
  cases h
abbrev aaT:=Option (hY×aJ×List cf×List Prop)
def run(P:Program):Code->aJ->List cf->aaT
 | .skip,st,ans=>some (.normal,st,ans,[])
 | .label _,st,ans=>some (.normal,st,ans,[])
 | .region _ ops draw,st,ans=>if draw then (LG P ops st ans).map fun r=>(.normal,r.1,r.2.1,r.2.2) else (xn P ops ops.toList st ans).map fun r=>(.normal,r.1,r.2.1,r.2.2)
 | .seq a b,st,ans=>
  match run P a st ans with
  | some (.normal,st1,fL,gC)=>(run P b st1 fL).map fun r=>(r.1,r.2.1,r.2.2.1,gC++r.2.2.2)
  | some (e,st1,fL,gC)=>some (e,st1,fL,gC)
  | none=>none
 | .cond c x y,st,ans=>
  match (st.br c).leaf,ans with
  | some (.v (.bool true)),ans=>run P x st ans
  | some (.v (.bool false)),ans=>run P y st ans
  | some (.bg c),.pN true::r=>(run P x st r).map fun r=>(r.1,r.2.1,r.2.2.1,(c=true)::r.2.2.2)
  | some (.bg c),.pN false::r=>(run P y st r).map fun r=>(r.1,r.2.1,r.2.2.1,(c=false)::r.2.2.2)
  | _,_=>none
 | .block id body,st,ans=>
  match run P body st ans with
  | some (.exit i,st1,fL,gC)=>some (if i=id then .normal else .exit i,st1,fL,gC)
  | r=>r
 | .loop body,st,ans=>
  match ans with
  | .loop EG cT bs e bC::r=>
   match e,vh st EG with
   | .normal,_=>none
   | e,some st1=>some (e,bC,r,[c5 P body (st1.fU cT bs) e bC])
   | _,none=>none
  | _=>none
 | .exit id,st,ans=>some (.exit id,st,ans,[])
 | .ret,st,ans=>some (.ret,st,ans,[])
 | _,_,_=>none
theorem oB:∀(c:Code) {st bC:aJ} {ans cq:List cf} {obs:List Prop} {e:hY},run P c st ans=some (e,bC,cq,obs)->cL obs->fT P c st e bC
 | .skip,st,bC,ans,cq,obs,e,h,ba=>by
  simp only[run,aV,bH]at h;obtain⟨rfl,rfl,_,_⟩:=h;exact fun w0 a w aA=>wp_skip ⟨rfl,aA⟩
 | .label l,st,bC,ans,cq,obs,e,h,ba=>by
  simp only[run,aV,bH]at h;obtain⟨rfl,rfl,_,_⟩:=h;exact fun w0 a w aA=>wp_label ⟨rfl,aA⟩
 | .region id ops draw,st,bC,ans,cq,obs,e,h,ba=>by
  simp only[run]at h;split at h
  ·rename_i aG;rw[cc]at h;obtain⟨⟨bF,bQ,cb⟩,h1,h⟩:=h;simp only[bH]at h;obtain⟨rfl,rfl,rfl,rfl⟩:=h;subst aG;exact fun w0 a w aA=>awZ h1 ba aA fun cK aO h=>⟨rfl,h⟩
  rename_i aG;rw[cc]at h;obtain⟨⟨bF,bQ,cb⟩,h1,h⟩:=h;simp only[bH]at h;obtain⟨rfl,rfl,rfl,rfl⟩:=h;have:draw=false:=by simpa using aG
  subst this;exact fun w0 a w aA=>wp_region_list (Lo _ h1 ba aA fun cK aO h=>⟨rfl,h⟩)
 | .seq x y,st,bC,ans,cq,obs,e,h,ba=>by
  simp only[run]at h;split at h
  ·rename_i st1 fL gC h1;rw[cc]at h;obtain⟨⟨bF,bQ,cb,eE⟩,U,h⟩:=h;simp only[bH]at h;obtain⟨rfl,rfl,rfl,rfl⟩:=h;obtain⟨ci,b6⟩:=ba.append;intro w0 a w aA;refine wp_seq (Code.wp_mono (fun e' cK aO hp=>?_) (oB x h1 ci w0 a w aA));obtain⟨rfl,ep⟩:=hp;exact oB y U b6 w0 cK aO ep
  ·rename_i e1 st1 fL gC cC h1;simp only[aV,bH]at h;obtain⟨rfl,rfl,rfl,rfl⟩:=h;intro w0 a w aA;refine wp_seq (Code.wp_mono (fun e' cK aO hp=>?_) (oB x h1 ba w0 a w aA));obtain⟨rfl,ep⟩:=hp;cases e1 with
   | normal=>first | exact (cC rfl).elim | exact (cC _ rfl).elim | exact (cC _ _ _ rfl).elim
   | exit i=>exact⟨rfl,ep⟩
   | ret=>exact⟨rfl,ep⟩
  cases h
 | .cond c x y,st,bC,ans,cq,obs,e,h,ba=>by
  intro w0 a w aA;have tr:=aA;obtain⟨ω,τ,ep⟩:=tr;have e3:=ep.br c;simp only[run]at h;split at h
  ·rename_i ap;have:a.eval c=.bool true:=aL.dV ap e3;exact wp_cond_true this (oB x h ba w0 a w aA)
  ·rename_i ap;have:a.eval c=.bool false:=aL.dV ap e3;exact wp_cond_false this (oB y h ba w0 a w aA)
  ·rename_i kJ r ap;rw[cc]at h;obtain⟨⟨bF,bQ,cb,eE⟩,U,h⟩:=h;simp only[bH]at h;obtain⟨rfl,rfl,rfl,rfl⟩:=h;have:a.eval c=.bool kJ:=aL.dV ap e3;have aj:kJ=true:=ba.1;exact wp_cond_true (by rw[this,aj]) (oB x U ba.2 w0 a w aA)
  ·rename_i kJ r ap;rw[cc]at h;obtain⟨⟨bF,bQ,cb,eE⟩,U,h⟩:=h;simp only[bH]at h;obtain⟨rfl,rfl,rfl,rfl⟩:=h;have:a.eval c=.bool kJ:=aL.dV ap e3;have aj:kJ=false:=ba.1;exact wp_cond_false (by rw[this,aj]) (oB y U ba.2 w0 a w aA)
  cases h
 | .block id body,st,bC,ans,cq,obs,e,h,ba=>by
  intro w0 a w aA;simp only[run]at h;split at h
  ·rename_i i st1 fL gC h1;simp only[aV,bH]at h;obtain⟨rfl,rfl,rfl,rfl⟩:=h;refine wp_block (Code.wp_mono (fun e' cK aO hp=>?_) (oB body h1 ba w0 a w aA));obtain⟨rfl,ep⟩:=hp;simp only[hY.oa,Exit.inBlock];split
   ·exact⟨rfl,ep⟩
   exact⟨rfl,ep⟩
  rename_i cC;refine wp_block (Code.wp_mono (fun e' cK aO hp=>?_) (oB body h ba w0 a w aA));obtain⟨rfl,ep⟩:=hp;cases e with
  | normal=>exact⟨rfl,ep⟩
  | exit i=>exact absurd h (cC _ _ _ _)
  | ret=>exact⟨rfl,ep⟩
 | .loop body,st,bC,ans,cq,obs,e,h,ba=>by
  intro w0 a w aA;simp only[run]at h;split at h
  ·rename_i EG cT bs bu gk r;split at h
   ·cases h
   ·rename_i e1 st1 cC aX;simp only[aV,bH]at h;obtain⟨rfl,rfl,rfl,rfl⟩:=h;obtain⟨n,ap⟩:=ba.1;exact wp_loop_rounds n (ap w0 a w ((Ce aX aA).fU cT bs))
   cases h
  cases h
 | .exit id,st,bC,ans,cq,obs,e,h,ba=>by
  simp only[run,aV,bH]at h;obtain⟨rfl,rfl,_,_⟩:=h;exact fun w0 a w aA=>wp_exit ⟨rfl,aA⟩
 | .ret,st,bC,ans,cq,obs,e,h,ba=>by
  simp only[run,aV,bH]at h;obtain⟨rfl,rfl,_,_⟩:=h;exact fun w0 a w aA=>wp_ret ⟨rfl,aA⟩
 | .rangeFunc ..,_,_,_,_,_,_,h,_=>by simp[run]at h
 | .scope _,_,_,_,_,_,_,h,_=>by simp[run]at h
 | .goto _,_,_,_,_,_,_,h,_=>by simp[run]at h
 | .refuse _,_,_,_,_,_,_,h,_=>by simp[run]at h
end Go.Sx
namespace Go.Sx
open Go.RowKit
def aH.z1:aH->D->Option (D×Option Nat)
 | .v x,hint=>
  match x,hint with
  | .slice none 0 0,.J k _=>some (.J k [],none)
  | x,_=>if x.oneCell' then some (.v x,none) else none
 | .bg c,_=>some (.v (.bool c),none)
 | .J (.own t) k es,_=>some (.J k es,some t)
 | _,_=>none
abbrev iR:=List (Nat×Nat)
def iR.at(t:Nat):iR->Option Nat
 | []=>none
 | (s,n)::r=>if s=t then some n else iR.at t r
def F1(n:Nat):Option Nat->iR
 | some t=>[(t,n)]
 | none=>[]
def rG(n:Nat):List aH->List D->Option (List D×iR)
 | [],[]=>some ([],[])
 | l::ls,d::ds=>
  match l.z1 d,rG (n+1) ls ds with
  | some (dP,t),some (ta,ts)=>some (dP::ta,F1 n t++ts)
  | _,_=>none
 | _,_=>none
def GQ(n:Nat):bn->cQ->Option (cQ×iR)
 | .one l,.one d=>(l.z1 d).map fun x=>(.one x.1,F1 n x.2)
 | .agg ls,.agg ds=>(rG n ls ds).map fun x=>(.agg x.1,x.2)
 | _,_=>none
def sM(r:Nat):List aL->List cQ->Option (List cQ×iR)
 | [],[]=>some ([],[])
 | .aI a::cr,d::ds=>
  match GQ (100*r) a d,sM (r+1) cr ds with
  | some (dP,t),some (ta,ts)=>some (dP::ta,t++ts)
  | _,_=>none
 | _,_=>none
def F2(ts:iR):Bool:=ts.all fun x=>match ts.at x.1 with | some n=>n==x.2 | none=>false
variable{ts:iR}{n:Nat}
theorem F3(h:F2 ts=true){t:Nat}(hm:(t,n)∈ts):ts.at t=some n:=by
 have:=gx.1 h _ hm;simp only at this;split at this
 ·rename_i adI e;rw[e];simp only[dE]at this;rw[this]
 cases this
def jx(ω:Own)(ts:iR):Own:=fun b=>
 match ω b with
 | .tok t q=>match ts.at t with | some n=>.tok n q | none=>.bI
 | _=>.bI
variable{w:World}{ω:Own}{τ:Nat->Nat×Value}
theorem aH.YN{l:aH}{h d:D}{t:Option Nat}{u:Value}(aG:l.z1 h=some (d,t))(ao:Sat w ω τ l u)
  (lg:∀s,t=some s->ts.at s=some n):b0 w (jx ω ts) (Tag.own n).R d u:=by
 cases l with
 | cA=>cases aG
 | v x=>
  have e:u=x:=ao;subst e;simp only[aH.z1]at aG;split at aG
  ·simp only[aV,bH]at aG;obtain⟨rfl,_⟩:=aG;exact .nil _ _ _
  split at aG
  ·simp only[aV,bH]at aG;obtain⟨rfl,_⟩:=aG;exact .v _ _ ‹_›
  cases aG
 | bg c=>
  have e:u=.bool c:=ao;subst e;simp only[aH.z1,aV,bH]at aG;obtain⟨rfl,_⟩:=aG;exact .v _ _ rfl
 | J g k es=>
  cases g with
  | free=>cases aG
  | ro s=>cases aG
  | own s=>
   simp only[aH.z1,aV,bH]at aG;obtain⟨rfl,rfl⟩:=aG;refine ao.1.frame fun b q _ aK=>⟨?_,rfl⟩
   simp only[Tag.R]at aK ⊢;simp only[jx,aK,lg s rfl]
 | ptr=>cases aG
 | cP=>cases aG
 | iK=>cases aG
 | fd=>cases aG
 | dw=>cases aG
 | hv=>cases aG
 | aQ=>cases aG
 | fN=>cases aG
theorem Ut{t:Option Nat}{s:Nat}(h:t=some s):(s,n)∈F1 n t:=by subst h;simp[F1]
theorem K9{w:World}{ω:Own}{τ:Nat->Nat×Value}(lg:∀t n,(t,n)∈ts->ts.at t=some n):∀{ls:List aH} {ao ds:List D} {n:Nat} {k4:iR},rG n ls ao=some (ds,k4)->(∀x∈k4,x∈ts)->
  ds.length=ls.length/\∀(j:Nat) (d:D),ds[j]?=some d->∃l,ls[j]?=some l/\∀u,Sat w ω τ l u->b0 w (jx ω ts) (Tag.own (n+j)).R d u
 | [],[],ds,n,k4,h,_=>by
  simp only[rG,aV,bH]at h;obtain⟨rfl,_⟩:=h;exact⟨rfl,fun j d aG=>by simp at aG⟩
 | l::ls,bG::ao,ds,n,k4,h,j5=>by
  simp only[rG]at h;split at h
  ·rename_i dP t ta ui e1 e2;simp only[aV,bH]at h;obtain⟨rfl,rfl⟩:=h;obtain⟨h1,U⟩:=K9 (w:=w) (ω:=ω) (τ:=τ) lg e2 (fun x ah=>j5 x (jU _ ah));refine⟨by simp[h1],fun j d aG=>?_⟩;cases j with
   | zero=>
    simp at aG;subst aG;exact⟨l,rfl,fun u hu=>aH.YN e1 hu fun s dz=>lg s n (j5 _ (ij _ (Ut dz)))⟩
   | succ j=>
    obtain⟨hz,ax,aF⟩:=U j d (by simpa using aG);refine⟨hz,by simpa using ax,fun u hu=>?_⟩;have:=aF u hu;rwa[show n+1+j=n+(j+1) by omega]at this
  cases h
 | [],_::_,_,_,_,h,_=>by simp[rG]at h
 | _::_,[],_,_,_,h,_=>by simp[rG]at h
theorem aw2(lg:∀t n,(t,n)∈ts->ts.at t=some n){a:bn}{h d:cQ}{r:Nat}{k4:iR}(aA:GQ (100*r) a h=some (d,k4))(j5:∀x∈k4,x∈ts)
  {y:Value} (ao:k8 (Sat w ω τ) a y):mR w (jx ω ts) r d y:=by
 cases a with
 | one l=>
  cases h with
  | agg dz=>cases aA
  | one bG=>
   simp only[GQ,cc]at aA;obtain⟨⟨dP,t⟩,h1,U⟩:=aA;simp only[bH]at U;obtain⟨rfl,rfl⟩:=U;exact aH.YN h1 ao fun s dz=>lg s _ (j5 _ (Ut dz))
 | agg ls=>
  cases h with
  | one bG=>cases aA
  | agg dz=>
   simp only[GQ,cc]at aA;obtain⟨⟨ds,t⟩,h1,U⟩:=aA;simp only[bH]at U;obtain⟨rfl,rfl⟩:=U;obtain⟨ax,aF⟩:=K9 (w:=w) (ω:=ω) (τ:=τ) lg h1 j5;obtain⟨vs,rfl,aX,bp⟩:=ao;refine⟨vs,rfl,by omega,fun j rX aG=>?_⟩;obtain⟨l,ap,c4⟩:=aF j rX aG;obtain⟨u,hu,eY⟩:=bp j l ap;exact⟨u,hu,c4 u eY⟩
theorem F4{w:World}{ω:Own}{τ:Nat->Nat×Value}{ts:iR}(lg:∀t n,(t,n)∈ts->ts.at t=some n):∀{cr:List aL} {ao ds:List cQ} {r:Nat} {k4:iR},sM r cr ao=some (ds,k4)->(∀x∈k4,x∈ts)->
  ds.length=cr.length/\∀(j:Nat) (d:cQ),ds[j]?=some d->∃p,cr[j]?=some p/\∀u,cW (Sat w ω τ) p u->mR w (jx ω ts) (r+j) d u
 | [],[],ds,r,k4,h,_=>by
  simp only[sM,aV,bH]at h;obtain⟨rfl,_⟩:=h;exact⟨rfl,fun j d aG=>by simp at aG⟩
 | .aI a::cr,bG::ao,ds,r,k4,h,j5=>by
  simp only[sM]at h;split at h
  ·rename_i dP t ta ui e1 e2;simp only[aV,bH]at h;obtain⟨rfl,rfl⟩:=h;obtain⟨h1,U⟩:=F4 (w:=w) (ω:=ω) (τ:=τ) lg e2 (fun x ah=>j5 x (jU _ ah));refine⟨by simp[h1],fun j d aG=>?_⟩;cases j with
   | zero=>
    simp at aG;subst aG;exact⟨.aI a,rfl,fun u hu=>aw2 lg e1 (fun x ah=>j5 x (ij _ ah)) hu⟩
   | succ j=>
    obtain⟨hz,ax,aF⟩:=U j d (by simpa using aG);refine⟨hz,by simpa using ax,fun u hu=>?_⟩;have:=aF u hu;rwa[show r+1+j=r+(j+1) by omega]at this
  cases h
 | [],_::_,_,_,_,h,_=>by simp[sM]at h
 | .aI _::_,[],_,_,_,h,_=>by simp[sM]at h
 | .gf _::_,_,_,_,_,h,_=>by simp[sM]at h
def cQ.arg:cQ->bn
 | .one d=>.one (d.leaf .free)
 | .agg ds=>.agg (ds.map (D.leaf .free))
def zi(args:List cQ)(ntmps:Nat):aJ:=⟨args.map (fun a=>.aI a.arg)++List.replicate (ntmps-args.length) .cA,[]⟩
theorem mq.leaf{d:D}{u:Value}(h:mq w d u):Sat w (fun _=>.bI) τ (d.leaf .free) u:=D.dV (p:=(0,0)) h
theorem aw3{args:List cQ}{vs:Array Value}(tu:pM w)(h:EM w args vs)(ntmps:Nat):
  Rel (eT.of w) (zi args ntmps) { tmps:=vs++Array.replicate (ntmps-vs.size) undef,defers:=[] } w:=by
 refine⟨fun _=>.bI,fun _=>(0,undef),rfl,by simp[zi,h.1],ha.refl _ tu (fun _ _ h=>h),fun b av=>absurd rfl av,fun _ _=>rfl,(fun _ _ _ h=>by cases h),?_,fun id ls ap=>by simp[zi,dM]at ap⟩;intro i p hp;simp only[zi]at hp;rw[l8,bl]at hp;split at hp
 ·rename_i hi;rw[dq,cc]at hp;obtain⟨cm,AX,rfl⟩:=hp;obtain⟨v,bp,cF⟩:=h.2 i cm AX;refine⟨v,?_,?_⟩
  ·rw[hW,bm (by rw[h.1];exact hi)];exact bp
  cases cm with
  | one d=>exact mq.leaf cF
  | agg ds=>
   obtain⟨us,rfl,aX,hu⟩:=cF;refine⟨us,rfl,by simpa using aX,fun j l ap=>?_⟩;rw[dq,cc]at ap;obtain⟨d,aG,rfl⟩:=ap;obtain⟨u,h1,U⟩:=hu j d aG;exact⟨u,h1,mq.leaf U⟩
 rename_i hi;rw[DB]at hp;split at hp
 ·rename_i bz;simp only[aV]at hp;subst hp;refine⟨undef,?_,aa⟩;rw[hW,bk (by rw[h.1];exact hi),Array.getElem?_replicate,bm (by rw[h.1];exact bz)]
 cases hp
def rB(P:Program)(st:aJ):ResultVar->Option aL
 | .tmp t=>some (st.br (.tmp t))
 | .cell a t=>
  match xc P t,P.info? t,(st.br (.tmp a)).leaf with
  | some agg,some i,some (.ptr id off)=>
   match dM id st.boxes with
   | some ls=>sl agg i.size ls off
   | none=>none
  | _,_,_=>none
def Cf(tmps:Array Value):ResultVar->Sem Value
 | .tmp t=>pure (tmps.getD t undef)
 | .cell x t=>do loadVar t (<-asAddr (tmps.getD x undef))
theorem K'(fn:Func)(tmps:Array Value):results fn tmps=(do
  let vs <-fn.results.mapM (Cf tmps)
  pure (if h:vs.size=1 then vs[0] else .tuple vs)):=by
 unfold results;have:(fun x=>match x with | .tmp t=>pure (tmps.getD t undef) | .cell a t=>do loadVar t (<-asAddr (tmps.getD a undef)):ResultVar->Sem Value)=Cf tmps:=by
  funext x;cases x<;>rfl
 rw[<-this];rfl
variable{P:Program}{st:aJ}
theorem aw4{w0:eT}{a:Act}(a8:cJ w0 st a w ω τ){r:ResultVar}{p:aL}(h:rB P st r=some p):
  ∃z,(Cf a.tmps r).run P w=.ok z w/\cW (Sat w ω τ) p z:=by
 cases r with
 | tmp t=>
  simp only[rB,aV]at h;subst h;exact⟨_,rfl,a8.br (.tmp t)⟩
 | cell x t=>
  simp only[rB]at h;split at h
  ·rename_i agg i id off e1 e2 cg;split at h
   ·rename_i ls cy;have ah:=aL.dV cg (a8.br (.tmp x));obtain⟨b,av,ah⟩:=ah;simp only[Act.eval]at ah;obtain⟨dc,arr,ty,dL,Bm,Jg,c',e3⟩:=a8.boxes id ls cy;have:=Bm b av;subst this;have:=y4 (P:=P) e1 e2 h Jg (base:=0) (by omega) (fun j l ap=>by simpa using e3 j l ap);simpa[Cf,ah,asAddr]using this
   cases h
  cases h
def GR(P:Program)(st:aJ)(kC:List ResultVar)(hint:List cQ):Option (List cQ):=
 match kC.mapM (rB P st) with
 | some cr=>
  match sM 0 cr hint with
  | some (ds,ts)=>if F2 ts then some ds else none
  | none=>none
 | none=>none
theorem F5{w0:eT}{a:Act}(a8:cJ w0 st a w ω τ):∀{kC:List ResultVar} {cr:List aL},kC.mapM (rB P st)=some cr->
  ∃zs:List Value,(kC.mapM (Cf a.tmps)).run P w=.ok zs w/\zs.length=cr.length/\∀(i:Nat) (p:aL),cr[i]?=some p->∃z,zs[i]?=some z/\cW (Sat w ω τ) p z
 | [],cr,h=>by simp at h;subst h;exact⟨[],rfl,rfl,fun i p hp=>by simp at hp⟩
 | r::kC,cr,h=>by
  rw[yb]at h;cases e:rB P st r with
  | none=>simp[e]at h
  | some h2=>
   cases e2:kC.mapM (rB P st) with
   | none=>simp[e,e2]at h
   | some aDo=>
    simp[e,e2]at h;subst h;obtain⟨z,h1,U⟩:=aw4 a8 e;obtain⟨zs,ax,aF,aZ⟩:=F5 a8 e2;refine⟨z::zs,?_,by simp[aF],fun i p hp=>?_⟩
    ·rw[yb,Sem.run_bind,h1,Result.andThen_ok,Sem.run_bind,ax];rfl
    cases i with
    | zero=>simp at hp;subst hp;exact⟨z,rfl,U⟩
    | succ i=>exact aZ i p (by simpa using hp)
theorem Uu{f:FuncId}{fn:Func}{c:Code}{args rs:List cQ}{ans cq:List cf}{obs:List Prop}{e:hY}(b2:P.funcs[f]?=some fn)(av:fn.body=some c)
  (fm:run P c (zi args fn.ntmps) ans=some (e,st,cq,obs)) (ba:cL obs) (he:e=.ret\/e=.normal) (fi:GR P st fn.results.toList rs=some rs):jn P f args rs:=by
 intro w vs tu nD;refine calls_of_wp b2 av (Code.wp_mono (fun e' cK aO hp=>?_) (oB c fm ba (eT.of w) _ w (aw3 tu nD fn.ntmps)));obtain⟨rfl,ω,τ,a8⟩:=hp;unfold GR at fi;split at fi
 ·rename_i cr tq;split at fi
  ·rename_i ds ts eR;split at fi
   ·rename_i cF;simp only[aV]at fi;subst fi;obtain⟨zs,h1,U,ax⟩:=F5 a8 tq;obtain⟨aF,aZ⟩:=F4 (w:=aO) (ω:=ω) (τ:=τ) (fun t n h=>F3 cF h) eR (fun x ah=>ah);have hm:=E0 (P:=P) _ fn.results aO _ h1;have fH:∀(j:Nat) (d:cQ),ds[j]?=some d->∃z,zs[j]?=some z/\mR aO (jx ω ts) j d z:=by
     intro j d aG;obtain⟨p,hp,tp⟩:=aZ j d aG;obtain⟨z,bi,sc⟩:=ax j p hp;exact⟨z,bi,by have:=tp z sc;rwa[dF]at this⟩
    have lh:zs.length=ds.length:=by omega
    have ab0:∀v,(if h:zs.toArray.size=1 then zs.toArray[0] else .tuple zs.toArray)=v->yd w aO ds v:=by
     intro v bp;refine⟨jx ω ts,fun b av=>?_,fun b av=>?_,?_⟩
     ·cases da:ω b with
      | bI=>simp[jx,da]
      | box id=>simp[jx,da]
      | tok t q=>
       rcases (a8.owned b (by simp[da])).1 with h | h
       ·exact absurd av (by have h:w.heap.size<=b:=h;omega)
       exact absurd h (fun h=>h)
     ·cases da:ω b with
      | bI=>simp[jx,da]at av
      | box id=>simp[jx,da]at av
      | tok t q=>
       refine⟨?_,(a8.owned b (by simp[da])).2⟩;simp only[jx,da]at av ⊢;cases lg:ts.at t with
       | none=>simp[lg]at av
       | some n=>exact⟨n,q,rfl⟩
     unfold nQ;split
     ·rename_i cm;obtain⟨z,bi,aj⟩:=fH 0 cm rfl;have h1:zs.length=1:=by rw[lh];rfl
      have p3:zs=[z]:=by
       match zs,h1,bi with
       | [z0],_,bi=>simp at bi;rw[bi]
      have Bp:v=z:=by
       rw[<-bp];simp[p3]
      rw[Bp];exact aj
     rename_i cC;have h1:¬zs.toArray.size=1:=by
      intro h;simp at h;rw[lh]at h;obtain⟨d,aG⟩:=List.length_eq_one_iff.1 h;exact cC d aG
     rw[dif_neg h1]at bp;exact⟨zs.toArray,bp.symm,by simpa using lh,fun r cm aA=>by obtain⟨z,bi,aj⟩:=fH r cm aA;exact⟨z,by simpa using bi,aj⟩⟩
    have ej:∃v,(results fn cK.tmps).run P aO=.ok v aO/\∃u,Ending.returned v=.returned u/\hb w.heap.size w aO/\yd w aO ds u:=by
     refine⟨_,?_,_,rfl,a8.below.below,ab0 _ rfl⟩;rw[K',Sem.run_bind,hm];rfl
    obtain⟨v,bB,bS⟩:=ej;rcases he with rfl | rfl
    ·exact⟨a8.defers,v,bB,bS⟩
    exact⟨a8.defers,v,bB,bS⟩
   cases fi
  cases fi
 cases fi
end Go.Sx
namespace Go.Sx
open Go.RowKit
def KA(P:Program)(c:Code)(ntmps:Nat)(kC:List ResultVar)(args hint:List cQ)(ans:List cf):Option (List cQ×List Prop):=
 match run P c (zi args ntmps) ans with
 | some (.ret,st,_,obs)=>(GR P st kC hint).map fun rs=>(rs,obs)
 | some (.normal,st,_,obs)=>(GR P st kC hint).map fun rs=>(rs,obs)
 | _=>none
def oC(fn:Func):Code:=fn.body.getD .skip
variable{P:Program}
theorem jn.of{f:FuncId}{fn:Func}{args rs:List cQ}(ans:List cf)(obs:List Prop)(b2:P.funcs[f]?=some fn)(av:fn.body.isSome=true)
  (h:KA P (oC fn) fn.ntmps fn.results.toList args rs ans=some (rs,obs)) (ba:cL obs):jn P f args rs:=by
 obtain⟨c,aj⟩:=qt.1 av;have AZ:oC fn=c:=by simp[oC,aj]
 unfold KA at h;rw[AZ]at h;split at h
 ·rename_i st a nO aA;rw[cc]at h;obtain⟨vS,h1,h⟩:=h;simp only[bH]at h;obtain⟨rfl,rfl⟩:=h;exact Uu b2 aj aA ba (.inl rfl) h1
 ·rename_i st a nO aA;rw[cc]at h;obtain⟨vS,h1,h⟩:=h;simp only[bH]at h;obtain⟨rfl,rfl⟩:=h;exact Uu b2 aj aA ba (.inr rfl) h1
 cases h
def BA(P:Program)(body:Code)(st:aJ)(ans:List cf)(cT bs:List Nat):Option (hY×aJ×List Prop):=
 (run P body st ans).map fun r=>(r.1,r.2.1.fU cT bs,r.2.2.2)
variable{body:Code}{st bC:aJ}{e:hY}
theorem fT.Kw{ans:List cf}{cT bs:List Nat}{obs:List Prop}(h:BA P body st ans cT bs=some (e,bC,obs))(ba:cL obs):fT P body st e bC:=by
 unfold BA at h;rw[cc]at h;obtain⟨⟨bF,bQ,cb,eE⟩,h1,h⟩:=h;simp only[bH]at h;obtain⟨rfl,rfl,rfl⟩:=h;intro w0 a w aA;exact Code.wp_mono (fun e' cK aO ⟨h1,U⟩=>⟨h1,U.fU cT bs⟩) (oB body h1 ba w0 a w aA)
def Kn(P:Program)(body:Code)(st:aJ)(ans:List cf)(ns:List (Nat×Nat×Nat))(cT bs:List Nat):Option (hY×aJ×List Prop):=
 (run P body st ans).bind fun r=>(vh r.2.1 ns).map fun s=>(r.1,s.fU cT bs,r.2.2.2)
theorem fT.adN{ans:List cf}{ns:List (Nat×Nat×Nat)}{cT bs:List Nat}{obs:List Prop}(h:Kn P body st ans ns cT bs=some (e,bC,obs))(ba:cL obs):fT P body st e bC:=by
 unfold Kn at h;rw[ni]at h;obtain⟨⟨bF,bQ,cb,eE⟩,h1,h⟩:=h;rw[cc]at h;obtain⟨s,ao,h⟩:=h;simp only[bH]at h;obtain⟨rfl,rfl,rfl⟩:=h;intro w0 a w aA;exact Code.wp_mono (fun e' cK aO ⟨h1,U⟩=>⟨h1,(Ce ao U).fU cT bs⟩) (oB body h1 ba w0 a w aA)
theorem c5.step{st1:aJ}(ans:List cf)(cT bs:List Nat)(obs:List Prop)(h:BA P body st ans cT bs=some (.normal,st1,obs))(ba:cL obs)(U:c5 P body st1 e bC):c5 P body st e bC:=
 .more (fT.Kw h ba) U
theorem c5.done(ans:List cf)(cT bs:List Nat)(obs:List Prop)(he:e.oa≠.normal)(h:BA P body st ans cT bs=some (e,bC,obs))(ba:cL obs):c5 P body st e bC:=
 .last he (fT.Kw h ba)
theorem cH(i:Nat):(hY.exit i).oa≠.normal:=fun h=>by cases h
theorem e0:hY.ret.oa≠.normal:=fun h=>by cases h
def vi:Code->List Code
 | .seq a b=>vi a++vi b
 | .cond _ a b=>vi a++vi b
 | .block _ b=>vi b
 | .loop b=>b::vi b
 | .scope b=>vi b
 | _=>[]
def ar(fn:Func)(i:Nat):Code:=(vi (oC fn)).getD i .skip
def vj:Code->List (Nat×Array Oper)
 | .region id ops true=>[(id,ops)]
 | .seq a b=>vj a++vj b
 | .cond _ a b=>vj a++vj b
 | .block _ b=>vj b
 | .loop b=>vj b
 | .scope b=>vj b
 | _=>[]
def cI(fn:Func)(id:Nat):Array Oper:=(((vj (oC fn)).find? fun x=>Nat.beq x.1 id).map (·.2)).getD #[]
def abg(n:Nat)(l:List (Nat×aL)):List aL:=l.foldl (fun e x=>e.set x.1 x.2) (List.replicate n .cA)
abbrev I(n:Int):D:=.v (.int .i64 n)
abbrev B(b:Bool):D:=.v (.bool b)
abbrev aB9(s:ByteArray):D:=.v (.string s)
end Go.Sx
namespace Go.Sx
open Go.RowKit
inductive kH (P:Program):TypeId->List D->Prop
 | bool (t:TypeId) (b:Bool) (h:P.underlying t=some .bool):kH P t [.v (.bool b)]
 | int (t:TypeId) (k:IntKind) (n:Int) (h:P.underlying t=some (.int k)) (hw:(Lit.int k n).wf=true):kH P t [.v (.int k n)]
 | str (t:TypeId) (s:ByteArray) (h:P.underlying t=some .string) (ao:s.size<=maxLen):kH P t [.v (.string s)]
 | J (t e:TypeId) (es:List (List D)) (h:P.underlying t=some (.slice e)) (ap:es.length<=maxLen) (he:∀ds∈es,kH P e ds):kH P t [.J (P.cellsOf e) es]
 | struct (t:TypeId) (eU:Array Field) (ds:List D) (h:P.underlying t=some (.struct eU)) (ap:ds.length=P.cellsOf t) (b2:∀f∈eU.toList,kH P f.type ((ds.drop f.offset).take (P.cellsOf f.type))):kH P t ds
def vV(P:Program):Nat->List Field->Nat->Bool
 | o,[],n=>o==n
 | o,f::r,n=>f.offset==o&&vV P (o+P.cellsOf f.type) r n
def vk(P:Program):Nat->TypeId->Bool
 | 0,_=>false
 | m+1,t=>
  match P.underlying t with
  | some .bool | some (.int _) | some .string=>true
  | some (.slice e)=>decide (0<P.cellsOf e)&&vk P m e
  | some (.struct eU)=>eU.toList.all (fun f=>vk P m f.type)&&vV P 0 eU.toList (P.cellsOf t)
  | _=>false
def pL(w:World)(ds:List D)(cs:List Value):Prop:=ds.length=cs.length/\∀(i:Nat) (d:D),ds[i]?=some d->∃v,cs[i]?=some v/\mq w d v
theorem pL.one{w:World}{d:D}{v:Value}(h:mq w d v):pL w [d] [v]:=
 ⟨rfl,fun i dP aG=>by
  cases i with
  | zero=>simp at aG;subst aG;exact⟨v,rfl,h⟩
  | succ i=>simp at aG⟩
theorem pL.append{w:World}{a b:List D}{x y:List Value}(h:pL w a x)(k:pL w b y):pL w (a++b) (x++y):=by
 refine⟨by simp[h.1,k.1],fun i d aG=>?_⟩;rw[l8]at aG ⊢;rw[<-h.1];split at aG
 ·rename_i hi;rw[bm hi];exact h.2 i d aG
 rename_i hi;rw[bk hi];exact k.2 _ d aG
theorem La{P:Program}:∀{fY:List Field} {o n:Nat},vV P o fY n=true->o<=n/\∀f∈fY,o<=f.offset/\f.offset+P.cellsOf f.type<=n
 | [],o,n,h=>by simp[vV]at h;exact⟨by omega,fun f b2=>by cases b2⟩
 | f::r,o,n,h=>by
  simp only[vV,cx,dE]at h;obtain⟨h1,U⟩:=La h.2;refine⟨by omega,fun g ay=>?_⟩;rcases eP.1 ay with rfl | ay
  ·exact⟨by omega,by omega⟩
  have:=U g ay;exact⟨by omega,this.2⟩
theorem YX{P:Program}{w:World}{cs:List Value}:∀{fY:List Field} {o:Nat},vV P o fY cs.length=true->
  (∀f∈fY,∃ds,kH P f.type ds/\pL w ds ((cs.drop f.offset).take (P.cellsOf f.type)))->
  ∃ds,pL w ds (cs.drop o)/\∀f∈fY,kH P f.type ((ds.drop (f.offset-o)).take (P.cellsOf f.type))
 | [],o,h,_=>by
  simp only[vV,dE]at h;subst h;exact⟨[],⟨by simp,fun i d aG=>by simp at aG⟩,fun f b2=>by cases b2⟩
 | f::r,o,h,b2=>by
  have hle:=La h;simp only[vV,cx,dE]at h;obtain⟨bG,h⟩:=h;obtain⟨ds,h1,U⟩:=YX h fun g ay=>b2 g (by simp[ay])
  obtain⟨d0,ax,aF⟩:=b2 f (by simp);have wI:d0.length=P.cellsOf f.type:=by
   rw[aF.1];have:=(hle.2 f (by simp)).2;simp;omega
  refine⟨d0++ds,?_,?_⟩
  ·have:cs.drop o=(cs.drop f.offset).take (P.cellsOf f.type)++cs.drop (o+P.cellsOf f.type):=by
    rw[bG,<-List.drop_drop];exact (Ak _ _).symm
   rw[this];exact aF.append h1
  intro g ay;rcases eP.1 ay with rfl | ay
  ·rw[bG,Nat.sub_self,uu,HT (by omega),sS (by omega)];exact ax
  have aCS:=U g ay;have:=(La h).2 g ay;rw[List.drop_append,List.drop_eq_nil_of_le (show d0.length<=g.offset-o by omega),List.nil_append,wI];rwa[show g.offset-o-P.cellsOf f.type=g.offset-(o+P.cellsOf f.type) by omega]
section
variable {H : Type} {enc : TypeId × Value -> H} {P : Program} {w : World} {base : Nat} {held : Bool}
theorem F6{a:Addr}{k:Nat}{cs:List Value}(h:w.cells? base a k=some cs):cs.length=k/\∀i,i<k->w.cell? (a.add i)=cs[i]?:=by
 unfold World.cells? at h;split at h
 ·exact⟨by simpa using mapM_some_length h,fun i hi=>mapM_some_get h i i (by simp[hi])⟩
 cases h
theorem Lb{a:Addr}{v:Value}(h:w.cell? a=some v):∃arr ty c3,w.heap[a.block]?=some (.cells arr ty c3)/\a.spot=none/\arr[a.off]?=some v:=by
 unfold World.cell? at h;split at h
 ·rename_i arr ty c3 e;split at h
  ·cases h
  rename_i ao;refine⟨arr,ty,c3,e,?_,h⟩;cases Jy:a.spot with
  | none=>rfl
  | some x=>simp[Jy]at ao
 cases h
theorem Lc:∀(m:Nat) (t:TypeId) (h':Nat) (cs:List Value) (x:DataW H×List MemPlace),vk P m t=true->DataW.trod enc P w base (fun _=>true) held h' t cs=some x->
  ∃ds,kH P t ds/\pL w ds cs
 | 0,_,_,_,_,h,_=>by cases h
 | m+1,t,h',cs,x,ao,h=>by
  unfold vk at ao;split at ao
  ·rename_i hu;obtain⟨b,rfl,_⟩:=DataW.trod_bool hu h;exact⟨_,.bool t b hu,.one (.v _ _ rfl)⟩
  ·rename_i k hu;obtain⟨n,rfl,_,hw⟩:=DataW.trod_int hu h;exact⟨_,.int t k n hu hw,.one (.v _ _ rfl)⟩
  ·rename_i hu;obtain⟨s,rfl,_,hw⟩:=DataW.trod_string hu h;exact⟨_,.str t s hu hw,.one (.v _ _ rfl)⟩
  ·rename_i e hu;simp only[cx,cV]at ao;obtain⟨mK,Ew⟩:=ao;rcases DataW.trod_slice hu h with⟨rfl,_⟩ | ⟨a,len,cap,QQ,rest,n,_,rfl,_,_,ap,aj,hlen,uR,Jy,_⟩
   ·exact⟨_,.J t e [] hu (by simp) (fun ds eR=>by cases eR),.one (.nil _ _ _)⟩
   obtain⟨RJ,RI⟩:=Jy rfl;generalize hy:P.cellsOf e=k at*;have iF:∀i,i<cap->∃cs,w.cells? base (a.add (i*k)) k=some cs/\∃x,DataW.trod enc P w base (fun _=>true) held n e cs=some x:=by
    intro i hi;by_cases kp:i<len
    ·have:=uR i kp;obtain⟨y,bf⟩:∃y,QQ[i]?=some y:=⟨QQ[i],fJ (by omega)⟩
     rw[bf,ni]at this;obtain⟨cs,h1,U⟩:=this;exact⟨cs,h1,y,U⟩
    have:=RI (i-len) (by omega);rw[show len+(i-len)=i by omega]at this;obtain⟨y,bf⟩:∃y,rest[i-len]?=some y:=⟨rest[i-len],fJ (by omega)⟩
    rw[bf,ni]at this;obtain⟨cs,h1,U⟩:=this;exact⟨cs,h1,y,U⟩
   by_cases gA:cap=0
   ·subst gA;have:len=0:=by omega
    subst this;have:=kH.J (P:=P) t e [] hu (by simp) (fun ds eR=>by cases eR);exact⟨_,this,.one (.nil _ _ _)⟩
   have abW:∀i,∃ds,i<len->kH P e ds/\∃cs,w.cells? base (a.add (i*k)) k=some cs/\pL w ds cs:=by
    intro i;by_cases hi:i<len
    ·obtain⟨cs,h1,x,U⟩:=iF i (by omega);obtain⟨ds,ax,aF⟩:=Lc m e n cs x Ew U;exact⟨ds,fun _=>⟨ax,cs,h1,aF⟩⟩
    exact⟨[],fun h=>absurd h hi⟩
   obtain⟨f,b2⟩:=Classical.skolem.1 abW;obtain⟨cl,nE,_⟩:=iF (cap-1) (by omega);obtain⟨aCK,abJ⟩:=F6 nE;have uW:=abJ (k-1) (by omega);obtain⟨aDz,JE⟩:∃v,cl[k-1]?=some v:=⟨cl[k-1],fJ (by omega)⟩
   rw[JE]at uW;obtain⟨b,off,spot⟩:=a;have ac4:spot=none:=by
    obtain⟨cO,abD,_⟩:=iF 0 (by omega);obtain⟨aCI,abE⟩:=F6 abD;have bG:=abE 0 mK;obtain⟨v0,Ey⟩:∃v,cO[0]?=some v:=⟨cO[0],fJ (by omega)⟩
    rw[Ey]at bG;obtain⟨_,_,_,_,h1,_⟩:=Lb bG;simpa[Addr.add]using h1
   subst ac4;obtain⟨arr,ty,c3,av,_,uW⟩:=Lb uW;simp only[rr]at av uW;have c':off+cap*k<=arr.size:=by
    have h1:=(iB.1 uW).1;have U:cap*k=(cap-1)*k+k:=by rw[<-Nat.succ_mul];congr 1;omega
    omega
   have Ej:((List.range len).map f).length=len:=by simp
   have hg:∀i j d,df ((List.range len).map f) i j=some d->i<len/\(f i)[j]?=some d:=by
    intro i j d aG;unfold df at aG;rw[dq]at aG;by_cases hi:i<len
    ·rw[List.getElem?_range hi]at aG;exact⟨hi,by simpa using aG⟩
    rw[List.getElem?_eq_none (by simpa using hi)]at aG;simp at aG
   have fH:∀i j d,df ((List.range len).map f) i j=some d->∃u,arr[off+i*k+j]?=some u/\mq w d u:=by
    intro i j d aG;obtain⟨hi,a1⟩:=hg i j d aG;obtain⟨_,cs,h1,U⟩:=b2 i hi;obtain⟨abI,th⟩:=F6 h1;obtain⟨u,kr,aA⟩:=U.2 j d a1;have A5:j<k:=by rw[<-abI];exact (ek.1 kr).1
    have:=th j A5;rw[kr]at this;obtain⟨iD,iM,IA,gK,_,ah⟩:=Lb this;simp only[rr]at gK ah;rw[av]at gK;cases gK;exact⟨u,ah,aA⟩
   have Et:b0 w (fun _=>.bI) Tag.free.R (.J k ((List.range len).map f)) (.slice (some ⟨b,off,none⟩) ((List.range len).map f).length cap):=by
    refine .row _ k _ b off cap arr ty c3 (fun i j=>arr.getD (off+i*k+j) undef) av rfl (by omega) c' ?_ ?_ ?_
    ·intro e' he;obtain⟨i,hi,rfl⟩:=lo.1 he;obtain⟨_,cs,h1,U⟩:=b2 i (by simpa using hi);rw[U.1];exact (F6 h1).1
    ·intro i j d aG;obtain⟨u,h1,_⟩:=fH i j d aG;rw[h1];simp[eG,h1]
    intro i j d aG;obtain⟨u,h1,U⟩:=fH i j d aG;have:arr.getD (off+i*k+j) undef=u:=by simp[eG,h1]
    rw[this];exact U
   rw[Ej]at Et;have p2:=kH.J (P:=P) t e ((List.range len).map f) hu (by rw[Ej];omega);rw[hy]at p2;refine⟨_,p2 ?_,.one Et⟩;intro ds eR;obtain⟨i,hi,rfl⟩:=lo.1 eR;exact (b2 i (by simpa using hi)).1
  ·rename_i eU hu;simp only[cx,gx]at ao;obtain⟨kq,uZ⟩:=ao;obtain⟨xs,n,_,_,ap,gi,b2⟩:=DataW.trod_struct hu h;rw[<-ap]at uZ;obtain⟨ds,h1,U⟩:=YX (w:=w) uZ fun f Re=>by
    obtain⟨i,hi⟩:=nj.1 Re;have:=b2 i f (by simpa using hi);have lb:i<xs.length:=by rw[gi];have:=(ek.1 hi).1;simpa using this
    rw[fJ lb]at this;exact Lc m f.type n _ _ (kq f Re) this
   rw[uu]at h1;exact⟨ds,.struct t eU ds hu (by rw[h1.1,ap]) (by simpa using U),h1⟩
  cases ao
end
end Go.Sx
namespace Go.Sx
open Go.ChangeShapes Go.WideShapes Go.ChangeAt Go.RowKit Go.Joins
def s0(P:Program)(t:TypeId):Bool:=match P.underlying t with | some (.struct _)=>true | _=>false
def DP(P:Program)(t:TypeId):cQ->Prop
 | .one d=>kH P t [d]/\s0 P t=false
 | .agg ds=>kH P t ds/\s0 P t=true
def DQ(P:Program):List TypeId->List cQ->Prop
 | [],[]=>True
 | t::ts,a::as=>DP P t a/\DQ P ts as
 | _,_=>False
section
variable {H : Type} {enc : TypeId × Value -> H} {P : Program} {w : World} {base bX : Nat} {held : Bool} {r : Reach}
theorem aw5{t:TypeId}{v:Value}{d:DataW H}{cr:List MemPlace}(ao:vk P 20 t=true)(hh:Value.okWide P w r bX t v)(h:DataW.Trod enc P w base (fun _=>true) held t v d cr):
  ∃cm,DP P t cm/\uv w cm v:=by
 obtain⟨h',b2⟩:=h;obtain⟨ds,h1,U⟩:=Lc 20 t h' _ _ ao b2;have one:(∀cs,v≠.agg cs)->s0 P t=false->∃cm,DP P t cm/\uv w cm v:=by
  intro bp ak;have aj:v.cells.toList=[v]:=by
   cases v<;>first | rfl | (exact absurd rfl (bp _))
  rw[aj]at U
  match ds,h1,U with
  | [d],h1,U=>
   obtain⟨u,hu,aA⟩:=U.2 0 d rfl;simp at hu;subst hu;exact⟨.one d,⟨h1,ak⟩,aA⟩
  | [],_,U=>simp[pL]at U
  | _::_::_,_,U=>simp[pL]at U
 rw[show (20:Nat)=19+1 from rfl]at ao;unfold vk at ao;unfold Value.okWide at hh;split at ao
 ·rename_i hu;rw[hu]at hh;refine one (fun cs e=>?_) (by simp[s0,hu]);subst e;simp[Cell.okWide,Cell.ok,hu]at hh
 ·rename_i hu;rw[hu]at hh;refine one (fun cs e=>?_) (by simp[s0,hu]);subst e;simp[Cell.okWide,Cell.ok,hu]at hh
 ·rename_i hu;rw[hu]at hh;refine one (fun cs e=>?_) (by simp[s0,hu]);subst e;simp[Cell.okWide,Cell.ok,hu]at hh
 ·rename_i hu;rw[hu]at hh;refine one (fun cs e=>?_) (by simp[s0,hu]);subst e;simp[Cell.okWide,Cell.ok,hu]at hh
 ·rename_i hu;rw[hu]at hh;obtain⟨cs,rfl,_,_⟩:=hh;refine⟨.agg ds,⟨h1,by simp[s0,hu]⟩,cs,rfl,by have:=U.1;simpa[Value.cells]using this.symm,fun i d aG=>?_⟩;obtain⟨u,kr,aA⟩:=U.2 i d aG;exact⟨u,by simpa[Value.cells]using kr,aA⟩
 cases ao
theorem Uv:∀(ts:List TypeId) (vs:List Value) (ds:List (DataW H)) (cr:List MemPlace),ts.all (vk P 20)=true->(∀(j:Nat) t v,ts[j]?=some t->vs[j]?=some v->Value.okWide P w r bX t v)->
  DataW.TrodAll enc P w base (fun _=>true) held ts vs ds cr->∃hc,DQ P ts hc/\vs.length=hc.length/\∀(i:Nat) (cm:cQ),hc[i]?=some cm->∃v,vs[i]?=some v/\uv w cm v
 | [],[],[],_,_,_,_=>⟨[],aa,rfl,fun i cm h=>by simp at h⟩
 | t::ts,v::vs,d::ds,cr,ao,hh,h=>by
  obtain⟨p,q,h1,U,_⟩:=h;simp only[List.all_cons,cx]at ao;obtain⟨cm,abv,IV⟩:=aw5 ao.1 (hh 0 t v rfl rfl) h1;obtain⟨hc,ax,aF,aZ⟩:=Uv ts vs ds q ao.2 (fun j t v bT bp=>hh (j+1) t v (by simpa using bT) (by simpa using bp)) U;refine⟨cm::hc,⟨abv,ax⟩,by simp[aF],fun i oS hi=>?_⟩;cases i with
  | zero=>simp at hi;subst hi;exact⟨v,rfl,IV⟩
  | succ i=>simpa using aZ i oS (by simpa using hi)
 | [],_::_,_,_,_,_,h=>by simp[DataW.TrodAll]at h
 | [],[],_::_,_,_,_,h=>by simp[DataW.TrodAll]at h
 | _::_,[],_,_,_,_,h=>by simp[DataW.TrodAll]at h
 | _::_,_::_,[],_,_,_,h=>by simp[DataW.TrodAll]at h
theorem Uw{H:Type}{enc:TypeId×Value->H}{P:Program}(ap:laidOutB P=true){W Av:World}(av:Below W.heap.size W Av):
  ∀(ts:List TypeId) (vs:List Value) (ds:List (DataW H)) (cr:List MemPlace),ts.all (fun t=>P.readableRec t&&decide (t<P.types.size))=true->
   DataW.TrodAll enc P W 0 (fun _=>true) true ts vs ds cr->(∀x∈cr,x.block<W.heap.size)->
   DataW.TrodAll enc P Av 0 (fun b=>decide (b<W.heap.size)) true ts vs ds cr
 | [],vs,ds,cr,_,h,_=>by
  obtain⟨rfl,rfl,rfl⟩:=trodAll_nil h;exact trodAll_mk0
 | t::ts,vs,ds,cr,bT,h,bz=>by
  obtain⟨v,aBL,d,ta,p,q,rfl,rfl,rfl,bG,aA⟩:=trodAll_cons h;simp only[List.all_cons,cx,cV]at bT;exact trodAll_cons_mk (Below.trod ap bT.1.1 bT.1.2 bG av (fun x ah=>bz x (ij _ ah)))
   (Uw ap av ts aBL ta q bT.2 aA (fun x ah=>bz x (jU _ ah)))
theorem Ux:∀(ts:List TypeId) (vs:List Value) (ds:List (DataW H)) (cr:List MemPlace),DataW.TrodAll enc P w base (fun _=>true) held ts vs ds cr->ds.length=ts.length
 | [],[],[],_,_=>rfl
 | t::ts,v::vs,d::ds,cr,h=>by
  obtain⟨p,q,_,U,_⟩:=h;simp[Ux ts vs ds q U]
 | [],_::_,_,_,h=>by simp[DataW.TrodAll]at h
 | [],[],_::_,_,h=>by simp[DataW.TrodAll]at h
 | _::_,[],_,_,h=>by simp[DataW.TrodAll]at h
 | _::_,_::_,[],_,h=>by simp[DataW.TrodAll]at h
theorem aw6(ap:laidOutB P=true){f:Func}{fno:Nat}{s:ChangeSpec}{tb:TypeId}(fi:f.resultTypes=#[tb])(av:P.underlying tb=some .bool)
  (hp:f.params.toList.all (fun t=>P.readableRec t&&decide (t<P.types.size))=true) (fb:f.params.toList.all (vk P 20)=true) (RQ:s.vars=[])
  {W:World} {args:Array Value} {ds gs:List (DataW H)} {before:List MemPlace} (hh:∀(j:Nat) t v,f.params[j]?=some t->args[j]?=some v->Value.okWide P W r bX t v)
  (uM:DataW.Whole enc P f.params.toList s.vars false W args.toList ds gs before)
  (ao:ds.length=f.params.size->(s.fn H ds).results=[.lit (.bool true)]/\(s.fn H ds).args=ds/\(s.fn H ds).vars=[])
  (tu:pM W) (acv:∀hc,DQ P f.params.toList hc->jn P fno hc [.one (B true)]):
  Calls P fno args W fun e Av=>∃v,e=.returned v/\s.post enc P f false true false false W args v Av:=by
 have abu:=uM;have bz:=uM.lt;obtain⟨p,q,AU,QZ,rfl,aCR,aC2⟩:=uM;rw[RQ]at QZ;obtain⟨rfl,rfl⟩:=trodVars_none QZ;obtain⟨h1,U,ax⟩:=ao (by have:=Ux _ _ _ _ AU;simpa using this);obtain⟨hc,ac2,hlen,cF⟩:=Uv _ _ _ _ fb (fun j t v bT bp=>hh j t v (by simpa using bT) (by simpa using bp)) AU;refine (acv hc ac2 W args tu ⟨by simpa using hlen,fun i cm hi=>by simpa using cF i cm hi⟩).mono ?_;rintro e Av ⟨v,rfl,o4,aA⟩;have bp:v=.bool true:=by
  obtain⟨ω,_,_,h⟩:=aA;simp only[nQ,mR]at h;cases h;rfl
 subst bp;refine⟨_,rfl,ds,[],p++[],[],p,[],abu,?_,?_,?_,o4.below.frame _,fun h=>by cases h⟩
 ·rw[kE,h1,fi];exact trodAll_mk1 (shut_bool av true)
 ·rw[kE,U];exact Uw ap o4.below _ _ _ _ hp AU (fun x ah=>bz x (by simpa using ah))
 rw[kE,ax,RQ];rfl
end
