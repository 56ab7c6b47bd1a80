import Derived.Test.YtdchjefneblpgaaGreatR13
import Derived.LoopN
import Derived.ChangeMaps5
import Derived.ChangeSame
import Derived.ChangeStays
import Derived.ProofKit
import Derived.Lib.SmallJoins
set_option linter.unusedVariables false
set_option linter.unusedSimpArgs false
namespace Go.Sx
open Go.RowKit
def hE.oa:hE->Exit
 | .normal=>.normal
 | .exit id=>.exit id
 | .ret=>.ret
def O'(w0:eK)(e:hE)(st:aF):Exit->Act->World->Prop:=fun e' a w=>e'=e.oa/\Rel w0 st a w
def gl(P:Program)(c:Code)(st:aF)(e:hE)(bE:aF):Prop:=∀w0 a w,Rel w0 st a w->c.wp P (O' w0 e bE) a w
def c'(P:Program)(c:Code)(st:aF)(e:hE)(bE:aF):Prop:=∃n,∀w0 a w,Rel w0 st a w->Code.rounds P c (O' w0 e bE) n a w
variable{P:Program}{st bE:aF}
theorem c'.last{c:Code}{e:hE}(he:e.oa≠.normal)(h:gl P c st e bE):c' P c st e bE:=
 ⟨1,fun w0 a w aA=>Code.wp_mono (fun e' cJ aS ⟨h1,U⟩=>by
  subst h1;cases e with
  | normal=>exact absurd rfl he
  | exit id=>exact⟨rfl,U⟩
  | ret=>exact⟨rfl,U⟩) (h w0 a w aA)⟩
theorem c'.more{c:Code}{st1:aF}{e:hE}(h:gl P c st .normal st1)(U:c' P c st1 e bE):c' P c st e bE:=by
 obtain⟨n,aR⟩:=U;refine⟨n+1,fun w0 a w aA=>Code.wp_mono (fun e' cJ aS ⟨h1,ax⟩=>?_) (h w0 a w aA)⟩;subst h1;exact aR w0 cJ aS ax
def uq(cT:List Nat):Nat->List aJ->List aJ
 | _,[]=>[]
 | i,p::r=>(if cT.contains i then p else .cq)::uq cT (i+1) r
theorem S7(cT:List Nat):∀(l:List aJ) (i j:Nat),(uq cT i l)[j]?=(l[j]?).map fun p=>if cT.contains (i+j) then p else .cq
 | [],_,_=>by simp[uq]
 | p::r,i,0=>by simp[uq]
 | p::r,i,j+1=>by
  simp only[uq,oY,S7 cT r (i+1) j];rw[show i+1+j=i+(j+1) by omega]
theorem S8(cT:List Nat):∀(l:List aJ) (i:Nat),(uq cT i l).length=l.length
 | [],_=>rfl
 | p::r,i=>by simp[uq,S8 cT r]
def wW(bs:List Nat):List (Nat×List aH)->List (Nat×List aH)
 | []=>[]
 | (i,ls)::r=>if bs.contains i then (i,ls)::wW bs r else wW bs r
theorem J9(bs:List Nat)(id:Nat):∀(l:List (Nat×List aH)) (ls:List aH),dF id (wW bs l)=some ls->dF id l=some ls
 | [],_,h=>by cases h
 | (i,gh)::r,ls,h=>by
  simp only[wW]at h;simp only[dF];split at h
  ·simp only[dF]at h;split at h
   ·rename_i hi;rw[bi hi];exact h
   rename_i hi;rw[ba hi];exact J9 bs id r ls h
  rename_i ak;have:=J9 bs id r ls h;split
  ·rename_i hi;subst hi;exfalso;have gS:∀(r:List (Nat×List aH)),dF i (wW bs r)=none:=by
    intro r;induction r with
    | nil=>rfl
    | cons x r dI=>
     obtain⟨lK,ho⟩:=x;simp only[wW];split
     ·rename_i aa;simp only[dF];rw[ba]
      ·exact dI
      intro e;subst e;exact ak aa
     exact dI
   rw[gS]at h;cases h
  exact this
def D6:aH->aH
 | .v (.bool b)=>.bc b
 | l=>l
variable{w:World}
theorem S9{ω:Own}{τ:Nat->Nat×Value}(l:aH)(v:Value)(h:Sat w ω τ l v):Sat w ω τ (D6 l) v:=by
 unfold D6;split
 ·exact h
 exact h
def aF.eN(st:aF)(cT bs:List Nat):aF:=⟨(uq cT 0 st.env).map (aJ.map D6),(wW bs st.boxes).map fun x=>(x.1,x.2.map D6)⟩
variable{w0:eK}{a:Act}
theorem Rel.eN(h:Rel w0 st a w)(cT bs:List Nat):Rel w0 (st.eN cT bs) a w:=by
 obtain⟨ω,τ,h⟩:=h;refine⟨ω,τ,h.defers,by simp[aF.eN,S8,h.size],h.below,h.owned,h.fixed,h.pinned,?_,?_⟩
 ·intro i p hp;simp only[aF.eN]at hp;rw[du,b8]at hp;obtain⟨iF,hp,rfl⟩:=hp;rw[S7,b8]at hp;obtain⟨yH,hp,rfl⟩:=hp;obtain⟨v,h1,U⟩:=h.env i yH hp;refine⟨v,h1,cU.map S9 ?_⟩;split
  ·exact U
  exact trivial
 intro id ls ag;simp only[aF.eN]at ag;rw[s6,b8]at ag;obtain⟨jq,ag,rfl⟩:=ag;obtain⟨b,arr,ty,h1,U,ax,aK⟩:=h.boxes id jq (J9 bs id _ _ ag);exact⟨b,arr,ty,h1,U,ax,aK.map S9⟩
def J'(st:aF)(id j t k:Nat):Option aF:=
 match dF id (st.jt t []).boxes with
 | some ls=>
  match ls[j]? with
  | some (.v (.slice none 0 0))=>if t<dj then some ⟨(st.jt t []).env,qI id (ls.set j (.J (.own t) k [])) (st.jt t []).boxes⟩ else none
  | _=>none
 | none=>none
def Ka(st:aF)(id j t:Nat):Option aF:=
 match dF id st.boxes with
 | some jq=>
  match jq[j]? with
  | some (.J (.own jR) cn es)=>
   if t<dj then
    let st1:=st.map (aH.cz (ks jR t) fun _=>true)
    match dF id st1.boxes with
    | some ls=>some ⟨st1.env,qI id (ls.set j (.J (.own t) cn es)) st1.boxes⟩
    | none=>none
   else none
  | _=>none
 | none=>none
def ur(st:aF):List (Nat×Nat×Nat)->Option aF
 | []=>some st
 | (s,t,k)::r=>
  if 1000000<=s then
   (match Ka st (s / 1000000-1) (s % 1000000) t with
   | some st1=>some st1
   | none=>J' st (s / 1000000-1) (s % 1000000) t k).bind fun st1=>ur st1 r else
  match (st.env.getD s .cq).leaf with
  | some (.v (.slice none 0 0))=>if t<dj then ur ⟨(st.jt t []).env.set s (.one (.J (.own t) k [])),(st.jt t []).boxes⟩ r else none
  | some (.J (.own jR) cn es)=>
   if t<dj then ur ⟨(st.map (aH.cz (ks jR t) fun _=>true)).env.set s (.one (.J (.own t) cn es)),(st.map (aH.cz (ks jR t) fun _=>true)).boxes⟩ r else none
  | _=>none
theorem cI.Pn{ω:Own}{τ:Nat->Nat×Value}(h:cI w0 st a w ω τ){s:Nat}{l:aH}(ag:(st.env.getD s .cq).leaf=some l)(ct:l≠.cq):∃v,a.tmps[s]?=some v/\Sat w ω τ l v:=by
 rw[iv]at ag;cases e:st.env[s]? with
 | none=>rw[e]at ag;simp only[Option.getD_none,aJ.leaf,aX]at ag;exact absurd ag.symm ct
 | some p=>
  rw[e]at ag;obtain⟨v,h1,U⟩:=h.env s p e;exact⟨v,h1,aJ.dN ag U⟩
theorem S'{s:Nat}{v:Value}(h:a.tmps[s]?=some v):a.put (some s) v=a:=by
 simp only[Act.put];have:a.tmps.setIfInBounds s v=a.tmps:=by
  apply Array.ext
  ·simp
  intro i h1 U;rw[Array.getElem_setIfInBounds];split
  ·rename_i hi;subst hi;rw[h3 U]at h;exact (eE h).symm
  rfl
 rw[this]
theorem atH{id j t k:Nat}(h:J' st id j t k=some bE)(aA:Rel w0 st a w):Rel w0 bE a w:=by
 obtain⟨ω,τ,aA⟩:=aA;unfold J' at h;split at h
 ·rename_i ls aj;split at h
  ·rename_i bd;split at h
   ·rename_i ia;simp only[aX]at h;subst h;obtain⟨a',h1,U⟩:=aA.Jy t k ia;refine⟨a',_,h1.defers,h1.size,h1.below,h1.owned,h1.fixed,h1.pinned,h1.env,fun gZ fl ag=>?_⟩;by_cases fT:gZ=id
    ·subst fT;rw[y0 aj]at ag;cases ag;obtain⟨b,arr,ty,e1,e2,ck,dX⟩:=h1.boxes gZ ls aj;refine⟨b,arr,ty,e1,e2,ck,by rw[dX.1,e8],fun i l hi=>?_⟩;rw[iT]at hi;split at hi
     ·rename_i nD;subst nD;split at hi
      ·cases hi;obtain⟨u,fV,fk⟩:=dX.2 j _ bd;have aca:u=.slice none 0 0:=fk;subst aca;exact⟨_,fV,U⟩
      cases hi
     exact dX.2 i l hi
    rw[y1 fT]at ag;exact h1.boxes gZ fl ag
   cases h
  cases h
 cases h
theorem atI{id j t:Nat}(h:Ka st id j t=some bE)(aA:Rel w0 st a w):Rel w0 bE a w:=by
 obtain⟨ω,τ,aA⟩:=aA;unfold Ka at h;split at h
 case h_2=>cases h
 rename_i jq iZ;split at h
 case h_2=>cases h
 rename_i jR cn es bd;split at h
 case isFalse=>cases h
 rename_i ia;simp only at h;split at h
 case h_2=>cases h
 rename_i ls aj;simp only[aX]at h;subst h;obtain⟨b9,tH,vq,ayX,Z2,Z3,Z4⟩:=aA.boxes id jq iZ;obtain⟨v,bF,ai⟩:=Z4.2 j _ bd;have h1:cI w0 (st.map (aH.cz (ks jR t) fun _=>true)) a w (fun b=>jK jR t 0 (ω b)) (gr τ t cn v):=
  aA.di _ (KY ia).sat aA.below (fun b aj=>aA.owned b (KX aj)) (fun id b aj=>⟨uG.2 aj,rfl⟩) (fun id b aj=>uG.1 aj)
   (fun dt bH=>by simp only[gr];rw[ba (by omega)])
 have U:Sat w (fun b=>jK jR t 0 (ω b)) (gr τ t cn v) (.J (.own t) cn es) v:=⟨ai.1.frame fun b q _ az=>⟨by
  simp only[Tag.R]at az ⊢;rw[az];cases q with
  | nil=>simp[jK]
  | cons x q=>obtain⟨i,j⟩:=x;simp[jK],rfl⟩,by simp[Tag.ee,gr]⟩
 refine⟨_,_,h1.defers,h1.size,h1.below,h1.owned,h1.fixed,h1.pinned,h1.env,fun gZ fl ag=>?_⟩;by_cases fT:gZ=id
 ·subst fT;rw[y0 aj]at ag;cases ag;obtain⟨b,arr,ty,e1,e2,ck,dX⟩:=h1.boxes gZ ls aj;refine⟨b,arr,ty,e1,e2,ck,by rw[dX.1,e8],fun i l hi=>?_⟩;rw[iT]at hi;split at hi
  ·rename_i nD;subst nD;split at hi
   ·cases hi;have sB:b=b9:=by
     have gB:ω b=.box gZ:=uG.1 e1;exact Z2 b gB
    subst sB;rw[Z3]at ck;cases ck;exact⟨v,bF,U⟩
   cases hi
  exact dX.2 i l hi
 rw[y1 fT]at ag;exact h1.boxes gZ fl ag
theorem Bx:∀{ns:List (Nat×Nat×Nat)} {st bE:aF},ur st ns=some bE->Rel w0 st a w->Rel w0 bE a w
 | [],st,bE,h,aA=>by simp only[ur,aX]at h;subst h;exact aA
 | (s,t,k)::r,st,bE,h,aA=>by
  simp only[ur]at h;split at h
  ·rw[mo]at h;obtain⟨st1,h1,h⟩:=h;refine Bx h ?_;split at h1
   ·rename_i st2 U;cases h1;exact atI U aA
   exact atH h1 aA
  split at h
  ·rename_i ag;obtain⟨ω,τ,aA⟩:=aA;obtain⟨v,bF,ai⟩:=aA.Pn ag (by simp);have:v=.slice none 0 0:=ai;subst this;split at h
   case isFalse=>cases h
   rename_i ia;obtain⟨a',h1,U⟩:=aA.Jy t k ia;have ax:=h1.put (d:=s) (p:=.one (.J (.own t) k [])) U;rw[S' bF]at ax;exact Bx h ⟨a',_,ax⟩
  ·rename_i jR cn es ag;obtain⟨ω,τ,aA⟩:=aA;obtain⟨v,bF,ai⟩:=aA.Pn ag (by simp);split at h
   case isFalse=>cases h
   rename_i ia;have h1:cI w0 (st.map (aH.cz (ks jR t) fun _=>true)) a w (fun b=>jK jR t 0 (ω b)) (gr τ t cn v):=
    aA.di _ (KY ia).sat aA.below (fun b aj=>aA.owned b (KX aj)) (fun id b aj=>⟨uG.2 aj,rfl⟩) (fun id b aj=>uG.1 aj)
     (fun dt bH=>by simp only[gr];rw[ba (by omega)])
   have ax:=h1.put (d:=s) (p:=.one (.J (.own t) cn es)) (v:=v) ⟨ai.1.frame fun b q _ az=>⟨by
    simp only[Tag.R]at az ⊢;rw[az];cases q with
    | nil=>simp[jK]
    | cons x q=>obtain⟨i,j⟩:=x;simp[jK],rfl⟩,by simp[Tag.ee,gr]⟩
   rw[S' bF]at ax;exact Bx h ⟨_,_,ax⟩
  cases h
abbrev ZG:=Option (hE×aF×List ci×List Prop)
def run(P:Program):Code->aF->List ci->ZG
 | .skip,st,ans=>some (.normal,st,ans,[])
 | .label _,st,ans=>some (.normal,st,ans,[])
 | .region _ ops draw,st,ans=>if draw then (J8 P ops st ans).map fun r=>(.normal,r.1,r.2.1,r.2.2) else (wT P ops ops.toList st ans).map fun r=>(.normal,r.1,r.2.1,r.2.2)
 | .seq a b,st,ans=>
  match run P a st ans with
  | some (.normal,st1,fr,fM)=>(run P b st1 fr).map fun r=>(r.1,r.2.1,r.2.2.1,fM++r.2.2.2)
  | some (e,st1,fr,fM)=>some (e,st1,fr,fM)
  | none=>none
 | .cond c x y,st,ans=>
  match (st.br c).leaf,ans with
  | some (.v (.bool true)),ans=>run P x st ans
  | some (.v (.bool false)),ans=>run P y st ans
  | some (.bc c),.o1 true::r=>(run P x st r).map fun r=>(r.1,r.2.1,r.2.2.1,(c=true)::r.2.2.2)
  | some (.bc c),.o1 false::r=>(run P y st r).map fun r=>(r.1,r.2.1,r.2.2.1,(c=false)::r.2.2.2)
  | _,_=>none
 | .block id body,st,ans=>
  match run P body st ans with
  | some (.exit i,st1,fr,fM)=>some (if i=id then .normal else .exit i,st1,fr,fM)
  | r=>r
 | .loop body,st,ans=>
  match ans with
  | .loop D5 cT bs e bE::r=>
   match e,ur st D5 with
   | .normal,_=>none
   | e,some st1=>some (e,bE,r,[c' P body (st1.eN cT bs) e bE])
   | _,none=>none
  | _=>none
 | .exit id,st,ans=>some (.exit id,st,ans,[])
 | .ret,st,ans=>some (.ret,st,ans,[])
 | _,_,_=>none
theorem nQ:∀(c:Code) {st bE:aF} {ans cu:List ci} {obs:List Prop} {e:hE},run P c st ans=some (e,bE,cu,obs)->cO obs->gl P c st e bE
 | .skip,st,bE,ans,cu,obs,e,h,aU=>by
  simp only[run,aX,bJ]at h;obtain⟨rfl,rfl,_,_⟩:=h;exact fun w0 a w aA=>wp_skip ⟨rfl,aA⟩
 | .label l,st,bE,ans,cu,obs,e,h,aU=>by
  simp only[run,aX,bJ]at h;obtain⟨rfl,rfl,_,_⟩:=h;exact fun w0 a w aA=>wp_label ⟨rfl,aA⟩
 | .region id ops draw,st,bE,ans,cu,obs,e,h,aU=>by
  simp only[run]at h;split at h
  ·rename_i aE;rw[b8]at h;obtain⟨⟨bI,b2,cj⟩,h1,h⟩:=h;simp only[bJ]at h;obtain⟨rfl,rfl,rfl,rfl⟩:=h;subst aE;exact fun w0 a w aA=>atG h1 aU aA fun cJ aS h=>⟨rfl,h⟩
  rename_i aE;rw[b8]at h;obtain⟨⟨bI,b2,cj⟩,h1,h⟩:=h;simp only[bJ]at h;obtain⟨rfl,rfl,rfl,rfl⟩:=h;have:draw=false:=by simpa using aE
  subst this;exact fun w0 a w aA=>wp_region_list (Kr _ h1 aU aA fun cJ aS h=>⟨rfl,h⟩)
 | .seq x y,st,bE,ans,cu,obs,e,h,aU=>by
  simp only[run]at h;split at h
  ·rename_i st1 fr fM h1;rw[b8]at h;obtain⟨⟨bI,b2,cj,dS⟩,U,h⟩:=h;simp only[bJ]at h;obtain⟨rfl,rfl,rfl,rfl⟩:=h;obtain⟨cv,ca⟩:=aU.append;intro w0 a w aA;refine wp_seq (Code.wp_mono (fun e' cJ aS hp=>?_) (nQ x h1 cv w0 a w aA));obtain⟨rfl,eo⟩:=hp;exact nQ y U ca w0 cJ aS eo
  ·rename_i e1 st1 fr fM ct h1;simp only[aX,bJ]at h;obtain⟨rfl,rfl,rfl,rfl⟩:=h;intro w0 a w aA;refine wp_seq (Code.wp_mono (fun e' cJ aS hp=>?_) (nQ x h1 aU w0 a w aA));obtain⟨rfl,eo⟩:=hp;cases e1 with
   | normal=>first | exact (ct rfl).elim | exact (ct _ rfl).elim | exact (ct _ _ _ rfl).elim
   | exit i=>exact⟨rfl,eo⟩
   | ret=>exact⟨rfl,eo⟩
  cases h
 | .cond c x y,st,bE,ans,cu,obs,e,h,aU=>by
  intro w0 a w aA;have qi:=aA;obtain⟨ω,τ,eo⟩:=qi;have eS:=eo.br c;simp only[run]at h;split at h
  ·rename_i ag;have:a.eval c=.bool true:=aJ.dN ag eS;exact wp_cond_true this (nQ x h aU w0 a w aA)
  ·rename_i ag;have:a.eval c=.bool false:=aJ.dN ag eS;exact wp_cond_false this (nQ y h aU w0 a w aA)
  ·rename_i j2 r ag;rw[b8]at h;obtain⟨⟨bI,b2,cj,dS⟩,U,h⟩:=h;simp only[bJ]at h;obtain⟨rfl,rfl,rfl,rfl⟩:=h;have:a.eval c=.bool j2:=aJ.dN ag eS;have ak:j2=true:=aU.1;exact wp_cond_true (by rw[this,ak]) (nQ x U aU.2 w0 a w aA)
  ·rename_i j2 r ag;rw[b8]at h;obtain⟨⟨bI,b2,cj,dS⟩,U,h⟩:=h;simp only[bJ]at h;obtain⟨rfl,rfl,rfl,rfl⟩:=h;have:a.eval c=.bool j2:=aJ.dN ag eS;have ak:j2=false:=aU.1;exact wp_cond_false (by rw[this,ak]) (nQ y U aU.2 w0 a w aA)
  cases h
 | .block id body,st,bE,ans,cu,obs,e,h,aU=>by
  intro w0 a w aA;simp only[run]at h;split at h
  ·rename_i i st1 fr fM h1;simp only[aX,bJ]at h;obtain⟨rfl,rfl,rfl,rfl⟩:=h;refine wp_block (Code.wp_mono (fun e' cJ aS hp=>?_) (nQ body h1 aU w0 a w aA));obtain⟨rfl,eo⟩:=hp;simp only[hE.oa,Exit.inBlock];split
   ·exact⟨rfl,eo⟩
   exact⟨rfl,eo⟩
  rename_i ct;refine wp_block (Code.wp_mono (fun e' cJ aS hp=>?_) (nQ body h aU w0 a w aA));obtain⟨rfl,eo⟩:=hp;cases e with
  | normal=>exact⟨rfl,eo⟩
  | exit i=>exact absurd h (ct _ _ _ _)
  | ret=>exact⟨rfl,eo⟩
 | .loop body,st,bE,ans,cu,obs,e,h,aU=>by
  intro w0 a w aA;simp only[run]at h;split at h
  ·rename_i D5 cT bs bM fE r;split at h
   ·cases h
   ·rename_i e1 st1 ct aR;simp only[aX,bJ]at h;obtain⟨rfl,rfl,rfl,rfl⟩:=h;obtain⟨n,ag⟩:=aU.1;exact wp_loop_rounds n (ag w0 a w ((Bx aR aA).eN cT bs))
   cases h
  cases h
 | .exit id,st,bE,ans,cu,obs,e,h,aU=>by
  simp only[run,aX,bJ]at h;obtain⟨rfl,rfl,_,_⟩:=h;exact fun w0 a w aA=>wp_exit ⟨rfl,aA⟩
 | .ret,st,bE,ans,cu,obs,e,h,aU=>by
  simp only[run,aX,bJ]at h;obtain⟨rfl,rfl,_,_⟩:=h;exact fun w0 a w aA=>wp_ret ⟨rfl,aA⟩
 | .rangeFunc ..,_,_,_,_,_,_,h,_=>by simp[run]at h
 | .scope _,_,_,_,_,_,_,h,_=>by simp[run]at h
 | .goto _,_,_,_,_,_,_,h,_=>by simp[run]at h
 | .refuse _,_,_,_,_,_,_,h,_=>by simp[run]at h
end Go.Sx
namespace Go.Sx
open Go.RowKit
def aH.zx:aH->D->Option (D×Option Nat)
 | .v x,hint=>
  match x,hint with
  | .slice none 0 0,.J k _=>some (.J k [],none)
  | x,_=>if x.oneCell' then some (.v x,none) else none
 | .bc c,_=>some (.v (.bool c),none)
 | .J (.own t) k es,_=>some (.J k es,some t)
 | _,_=>none
abbrev h6:=List (Nat×Nat)
def h6.at(t:Nat):h6->Option Nat
 | []=>none
 | (s,n)::r=>if s=t then some n else h6.at t r
def Ex(n:Nat):Option Nat->h6
 | some t=>[(t,n)]
 | none=>[]
def qQ(n:Nat):List aH->List D->Option (List D×h6)
 | [],[]=>some ([],[])
 | l::ls,d::ds=>
  match l.zx d,qQ (n+1) ls ds with
  | some (dE,t),some (sr,ts)=>some (dE::sr,Ex n t++ts)
  | _,_=>none
 | _,_=>none
def F'(n:Nat):bC->cQ->Option (cQ×h6)
 | .one l,.one d=>(l.zx d).map fun x=>(.one x.1,Ex n x.2)
 | .agg ls,.agg ds=>(qQ n ls ds).map fun x=>(.agg x.1,x.2)
 | _,_=>none
def r2(r:Nat):List aJ->List cQ->Option (List cQ×h6)
 | [],[]=>some ([],[])
 | .aI a::cF,d::ds=>
  match F' (100*r) a d,r2 (r+1) cF ds with
  | some (dE,t),some (sr,ts)=>some (dE::sr,t++ts)
  | _,_=>none
 | _,_=>none
def Ey(ts:h6):Bool:=ts.all fun x=>match ts.at x.1 with | some n=>n==x.2 | none=>false
variable{ts:h6}{n:Nat}
theorem Ez(h:Ey ts=true){t:Nat}(hm:(t,n)∈ts):ts.at t=some n:=by
 have:=fK.1 h _ hm;simp only at this;split at this
 ·rename_i acD e;rw[e];simp only[ed]at this;rw[this]
 cases this
def iI(ω:Own)(ts:h6):Own:=fun b=>
 match ω b with
 | .tok t q=>match ts.at t with | some n=>.tok n q | none=>.bO
 | _=>.bO
variable{w:World}{ω:Own}{τ:Nat->Nat×Value}
theorem aH.XK{l:aH}{h d:D}{t:Option Nat}{u:Value}(aE:l.zx h=some (d,t))(ai:Sat w ω τ l u)
  (ko:∀s,t=some s->ts.at s=some n):b7 w (iI ω ts) (Tag.own n).R d u:=by
 cases l with
 | cq=>cases aE
 | v x=>
  have e:u=x:=ai;subst e;simp only[aH.zx]at aE;split at aE
  ·simp only[aX,bJ]at aE;obtain⟨rfl,_⟩:=aE;exact .nil _ _ _
  split at aE
  ·simp only[aX,bJ]at aE;obtain⟨rfl,_⟩:=aE;exact .v _ _ ‹_›
  cases aE
 | bc c=>
  have e:u=.bool c:=ai;subst e;simp only[aH.zx,aX,bJ]at aE;obtain⟨rfl,_⟩:=aE;exact .v _ _ rfl
 | J g k es=>
  cases g with
  | free=>cases aE
  | ro s=>cases aE
  | own s=>
   simp only[aH.zx,aX,bJ]at aE;obtain⟨rfl,rfl⟩:=aE;refine ai.1.frame fun b q _ az=>⟨?_,rfl⟩
   simp only[Tag.R]at az ⊢;simp only[iI,az,ko s rfl]
 | ptr=>cases aE
 | ep=>cases aE
 | h0=>cases aE
 | fd=>cases aE
 | dx=>cases aE
 | gP=>cases aE
 | aO=>cases aE
 | ft=>cases aE
theorem Ta{t:Option Nat}{s:Nat}(h:t=some s):(s,n)∈Ex n t:=by subst h;simp[Ex]
theorem Kb{w:World}{ω:Own}{τ:Nat->Nat×Value}(ko:∀t n,(t,n)∈ts->ts.at t=some n):∀{ls:List aH} {ai ds:List D} {n:Nat} {ke:h6},qQ n ls ai=some (ds,ke)->(∀x∈ke,x∈ts)->
  ds.length=ls.length/\∀(j:Nat) (d:D),ds[j]?=some d->∃l,ls[j]?=some l/\∀u,Sat w ω τ l u->b7 w (iI ω ts) (Tag.own (n+j)).R d u
 | [],[],ds,n,ke,h,_=>by
  simp only[qQ,aX,bJ]at h;obtain⟨rfl,_⟩:=h;exact⟨rfl,fun j d aE=>by simp at aE⟩
 | l::ls,bg::ai,ds,n,ke,h,jo=>by
  simp only[qQ]at h;split at h
  ·rename_i dE t sr tt e1 e2;simp only[aX,bJ]at h;obtain⟨rfl,rfl⟩:=h;obtain⟨h1,U⟩:=Kb (w:=w) (ω:=ω) (τ:=τ) ko e2 (fun x aa=>jo x (hR _ aa));refine⟨by simp[h1],fun j d aE=>?_⟩;cases j with
   | zero=>
    simp at aE;subst aE;exact⟨l,rfl,fun u hu=>aH.XK e1 hu fun s dg=>ko s n (jo _ (gN _ (Ta dg)))⟩
   | succ j=>
    obtain⟨hg,ax,aK⟩:=U j d (by simpa using aE);refine⟨hg,by simpa using ax,fun u hu=>?_⟩;have:=aK u hu;rwa[show n+1+j=n+(j+1) by omega]at this
  cases h
 | [],_::_,_,_,_,h,_=>by simp[qQ]at h
 | _::_,[],_,_,_,h,_=>by simp[qQ]at h
theorem atJ(ko:∀t n,(t,n)∈ts->ts.at t=some n){a:bC}{h d:cQ}{r:Nat}{ke:h6}(aA:F' (100*r) a h=some (d,ke))(jo:∀x∈ke,x∈ts)
  {y:Value} (ai:kj (Sat w ω τ) a y):mi w (iI ω ts) r d y:=by
 cases a with
 | one l=>
  cases h with
  | agg dg=>cases aA
  | one bg=>
   simp only[F',b8]at aA;obtain⟨⟨dE,t⟩,h1,U⟩:=aA;simp only[bJ]at U;obtain⟨rfl,rfl⟩:=U;exact aH.XK h1 ai fun s dg=>ko s _ (jo _ (Ta dg))
 | agg ls=>
  cases h with
  | one bg=>cases aA
  | agg dg=>
   simp only[F',b8]at aA;obtain⟨⟨ds,t⟩,h1,U⟩:=aA;simp only[bJ]at U;obtain⟨rfl,rfl⟩:=U;obtain⟨ax,aK⟩:=Kb (w:=w) (ω:=ω) (τ:=τ) ko h1 jo;obtain⟨vs,rfl,aR,bF⟩:=ai;refine⟨vs,rfl,by omega,fun j q8 aE=>?_⟩;obtain⟨l,ag,dq⟩:=aK j q8 aE;obtain⟨u,hu,fk⟩:=bF j l ag;exact⟨u,hu,dq u fk⟩
theorem EA{w:World}{ω:Own}{τ:Nat->Nat×Value}{ts:h6}(ko:∀t n,(t,n)∈ts->ts.at t=some n):∀{cF:List aJ} {ai ds:List cQ} {r:Nat} {ke:h6},r2 r cF ai=some (ds,ke)->(∀x∈ke,x∈ts)->
  ds.length=cF.length/\∀(j:Nat) (d:cQ),ds[j]?=some d->∃p,cF[j]?=some p/\∀u,cU (Sat w ω τ) p u->mi w (iI ω ts) (r+j) d u
 | [],[],ds,r,ke,h,_=>by
  simp only[r2,aX,bJ]at h;obtain⟨rfl,_⟩:=h;exact⟨rfl,fun j d aE=>by simp at aE⟩
 | .aI a::cF,bg::ai,ds,r,ke,h,jo=>by
  simp only[r2]at h;split at h
  ·rename_i dE t sr tt e1 e2;simp only[aX,bJ]at h;obtain⟨rfl,rfl⟩:=h;obtain⟨h1,U⟩:=EA (w:=w) (ω:=ω) (τ:=τ) ko e2 (fun x aa=>jo x (hR _ aa));refine⟨by simp[h1],fun j d aE=>?_⟩;cases j with
   | zero=>
    simp at aE;subst aE;exact⟨.aI a,rfl,fun u hu=>atJ ko e1 (fun x aa=>jo x (gN _ aa)) hu⟩
   | succ j=>
    obtain⟨hg,ax,aK⟩:=U j d (by simpa using aE);refine⟨hg,by simpa using ax,fun u hu=>?_⟩;have:=aK u hu;rwa[show r+1+j=r+(j+1) by omega]at this
  cases h
 | [],_::_,_,_,_,h,_=>by simp[r2]at h
 | .aI _::_,[],_,_,_,h,_=>by simp[r2]at h
 | .ga _::_,_,_,_,_,h,_=>by simp[r2]at h
def cQ.arg:cQ->bC
 | .one d=>.one (d.leaf .free)
 | .agg ds=>.agg (ds.map (D.leaf .free))
def yQ(args:List cQ)(ntmps:Nat):aF:=⟨args.map (fun a=>.aI a.arg)++List.replicate (ntmps-args.length) .cq,[]⟩
theorem lD.leaf{d:D}{u:Value}(h:lD w d u):Sat w (fun _=>.bO) τ (d.leaf .free) u:=D.dN (p:=(0,0)) h
theorem atK{args:List cQ}{vs:Array Value}(sQ:pU w)(h:EZ w args vs)(ntmps:Nat):
  Rel (eK.of w) (yQ args ntmps) { tmps:=vs++Array.replicate (ntmps-vs.size) undef,defers:=[] } w:=by
 refine⟨fun _=>.bO,fun _=>(0,undef),rfl,by simp[yQ,h.1],hr.refl _ sQ (fun _ _ h=>h),fun b aj=>absurd rfl aj,fun _ _=>rfl,(fun _ _ _ h=>by cases h),?_,fun id ls ag=>by simp[yQ,dF]at ag⟩;intro i p hp;simp only[yQ]at hp;rw[lk,bA]at hp;split at hp
 ·rename_i hi;rw[du,b8]at hp;obtain⟨cB,aar,rfl⟩:=hp;obtain⟨v,bF,bP⟩:=h.2 i cB aar;refine⟨v,?_,?_⟩
  ·rw[kf,bi (by rw[h.1];exact hi)];exact bF
  cases cB with
  | one d=>exact lD.leaf bP
  | agg ds=>
   obtain⟨us,rfl,aR,hu⟩:=bP;refine⟨us,rfl,by simpa using aR,fun j l ag=>?_⟩;rw[du,b8]at ag;obtain⟨d,aE,rfl⟩:=ag;obtain⟨u,h1,U⟩:=hu j d aE;exact⟨u,h1,lD.leaf U⟩
 rename_i hi;rw[zS]at hp;split at hp
 ·rename_i bL;simp only[aX]at hp;subst hp;refine⟨undef,?_,ad⟩;rw[kf,ba (by rw[h.1];exact hi),Array.getElem?_replicate,bi (by rw[h.1];exact bL)]
 cases hp
def qM(P:Program)(st:aF):ResultVar->Option aJ
 | .tmp t=>some (st.br (.tmp t))
 | .cell a t=>
  match wI P t,P.info? t,(st.br (.tmp a)).leaf with
  | some agg,some i,some (.ptr id off)=>
   match dF id st.boxes with
   | some ls=>rF agg i.size ls off
   | none=>none
  | _,_,_=>none
def By(tmps:Array Value):ResultVar->Sem Value
 | .tmp t=>pure (tmps.getD t undef)
 | .cell x t=>do loadVar t (<-asAddr (tmps.getD x undef))
theorem LC(fn:Func)(tmps:Array Value):results fn tmps=(do
  let vs <-fn.results.mapM (By tmps)
  pure (if h:vs.size=1 then vs[0] else .tuple vs)):=by
 unfold results;have:(fun x=>match x with | .tmp t=>pure (tmps.getD t undef) | .cell a t=>do loadVar t (<-asAddr (tmps.getD a undef)):ResultVar->Sem Value)=By tmps:=by
  funext x;cases x<;>rfl
 rw[<-this];rfl
variable{P:Program}{st:aF}
theorem atL{w0:eK}{a:Act}(aZ:cI w0 st a w ω τ){r:ResultVar}{p:aJ}(h:qM P st r=some p):
  ∃z,(By a.tmps r).run P w=.ok z w/\cU (Sat w ω τ) p z:=by
 cases r with
 | tmp t=>
  simp only[qM,aX]at h;subst h;exact⟨_,rfl,aZ.br (.tmp t)⟩
 | cell x t=>
  simp only[qM]at h;split at h
  ·rename_i agg i id off e1 e2 ck;split at h
   ·rename_i ls cA;have aa:=aJ.dN ck (aZ.br (.tmp x));obtain⟨b,aj,aa⟩:=aa;simp only[Act.eval]at aa;obtain⟨da,arr,ty,dz,AK,Ib,eT,eS⟩:=aZ.boxes id ls cA;have:=AK b aj;subst this;have:=yY (P:=P) e1 e2 h Ib (base:=0) (by omega) (fun j l ag=>by simpa using eS j l ag);simpa[By,aa,asAddr]using this
   cases h
  cases h
def Ga(P:Program)(st:aF)(jQ:List ResultVar)(hint:List cQ):Option (List cQ):=
 match jQ.mapM (qM P st) with
 | some cF=>
  match r2 0 cF hint with
  | some (ds,ts)=>if Ey ts then some ds else none
  | none=>none
 | none=>none
theorem EB{w0:eK}{a:Act}(aZ:cI w0 st a w ω τ):∀{jQ:List ResultVar} {cF:List aJ},jQ.mapM (qM P st)=some cF->
  ∃zs:List Value,(jQ.mapM (By a.tmps)).run P w=.ok zs w/\zs.length=cF.length/\∀(i:Nat) (p:aJ),cF[i]?=some p->∃z,zs[i]?=some z/\cU (Sat w ω τ) p z
 | [],cF,h=>by simp at h;subst h;exact⟨[],rfl,rfl,fun i p hp=>by simp at hp⟩
 | r::jQ,cF,h=>by
  rw[xO]at h;cases e:qM P st r with
  | none=>simp[e]at h
  | some iF=>
   cases e2:jQ.mapM (qM P st) with
   | none=>simp[e,e2]at h
   | some azO=>
    simp[e,e2]at h;subst h;obtain⟨z,h1,U⟩:=atL aZ e;obtain⟨zs,ax,aK,a7⟩:=EB aZ e2;refine⟨z::zs,?_,by simp[aK],fun i p hp=>?_⟩
    ·rw[xO,Sem.run_bind,h1,Result.andThen_ok,Sem.run_bind,ax];rfl
    cases i with
    | zero=>simp at hp;subst hp;exact⟨z,rfl,U⟩
    | succ i=>exact a7 i p (by simpa using hp)
theorem Tb{f:FuncId}{fn:Func}{c:Code}{args rs:List cQ}{ans cu:List ci}{obs:List Prop}{e:hE}(bw:P.funcs[f]?=some fn)(aj:fn.body=some c)
  (fU:run P c (yQ args fn.ntmps) ans=some (e,st,cu,obs)) (aU:cO obs) (he:e=.ret\/e=.normal) (fe:Ga P st fn.results.toList rs=some rs):iX P f args rs:=by
 intro w vs sQ mw;refine calls_of_wp bw aj (Code.wp_mono (fun e' cJ aS hp=>?_) (nQ c fU aU (eK.of w) _ w (atK sQ mw fn.ntmps)));obtain⟨rfl,ω,τ,aZ⟩:=hp;unfold Ga at fe;split at fe
 ·rename_i cF sN;split at fe
  ·rename_i ds ts eI;split at fe
   ·rename_i bP;simp only[aX]at fe;subst fe;obtain⟨zs,h1,U,ax⟩:=EB aZ sN;obtain⟨aK,a7⟩:=EA (w:=aS) (ω:=ω) (τ:=τ) (fun t n h=>Ez bP h) eI (fun x aa=>aa);have hm:=Ed (P:=P) _ fn.results aS _ h1;have fa:∀(j:Nat) (d:cQ),ds[j]?=some d->∃z,zs[j]?=some z/\mi aS (iI ω ts) j d z:=by
     intro j d aE;obtain⟨p,hp,sM⟩:=a7 j d aE;obtain⟨z,a6,yA⟩:=ax j p hp;exact⟨z,a6,by have:=sM z yA;rwa[dG]at this⟩
    have l1:zs.length=ds.length:=by omega
    have aaU:∀v,(if h:zs.toArray.size=1 then zs.toArray[0] else .tuple zs.toArray)=v->x0 w aS ds v:=by
     intro v bF;refine⟨iI ω ts,fun b aj=>?_,fun b aj=>?_,?_⟩
     ·cases dr:ω b with
      | bO=>simp[iI,dr]
      | box id=>simp[iI,dr]
      | tok t q=>
       rcases (aZ.owned b (by simp[dr])).1 with h | h
       ·exact absurd aj (by have h:w.heap.size<=b:=h;omega)
       exact absurd h (fun h=>h)
     ·cases dr:ω b with
      | bO=>simp[iI,dr]at aj
      | box id=>simp[iI,dr]at aj
      | tok t q=>
       refine⟨?_,(aZ.owned b (by simp[dr])).2⟩;simp only[iI,dr]at aj ⊢;cases ko:ts.at t with
       | none=>simp[ko]at aj
       | some n=>exact⟨n,q,rfl⟩
     unfold nO;split
     ·rename_i cB;obtain⟨z,a6,ak⟩:=fa 0 cB rfl;have h1:zs.length=1:=by rw[l1];rfl
      have ph:zs=[z]:=by
       match zs,h1,a6 with
       | [z0],_,a6=>simp at a6;rw[a6]
      have AM:v=z:=by
       rw[<-bF];simp[ph]
      rw[AM];exact ak
     rename_i ct;have h1:¬zs.toArray.size=1:=by
      intro h;simp at h;rw[l1]at h;obtain⟨d,aE⟩:=List.length_eq_one_iff.1 h;exact ct d aE
     rw[dif_neg h1]at bF;exact⟨zs.toArray,bF.symm,by simpa using l1,fun r cB aA=>by obtain⟨z,a6,ak⟩:=fa r cB aA;exact⟨z,by simpa using a6,ak⟩⟩
    have dT:∃v,(results fn cJ.tmps).run P aS=.ok v aS/\∃u,Ending.returned v=.returned u/\gO w.heap.size w aS/\x0 w aS ds u:=by
     refine⟨_,?_,_,rfl,aZ.below.below,aaU _ rfl⟩;rw[LC,Sem.run_bind,hm];rfl
    obtain⟨v,bp,b6⟩:=dT;rcases he with rfl | rfl
    ·exact⟨aZ.defers,v,bp,b6⟩
    exact⟨aZ.defers,v,bp,b6⟩
   cases fe
  cases fe
 cases fe
end Go.Sx
namespace Go.Sx
open Go.RowKit
def JE(P:Program)(c:Code)(ntmps:Nat)(jQ:List ResultVar)(args hint:List cQ)(ans:List ci):Option (List cQ×List Prop):=
 match run P c (yQ args ntmps) ans with
 | some (.ret,st,_,obs)=>(Ga P st jQ hint).map fun rs=>(rs,obs)
 | some (.normal,st,_,obs)=>(Ga P st jQ hint).map fun rs=>(rs,obs)
 | _=>none
def oR(fn:Func):Code:=fn.body.getD .skip
variable{P:Program}
theorem iX.of{f:FuncId}{fn:Func}{args rs:List cQ}(ans:List ci)(obs:List Prop)(bw:P.funcs[f]?=some fn)(aj:fn.body.isSome=true)
  (h:JE P (oR fn) fn.ntmps fn.results.toList args rs ans=some (rs,obs)) (aU:cO obs):iX P f args rs:=by
 obtain⟨c,ak⟩:=pQ.1 aj;have Aq:oR fn=c:=by simp[oR,ak]
 unfold JE at h;rw[Aq]at h;split at h
 ·rename_i st a mK aA;rw[b8]at h;obtain⟨vk,h1,h⟩:=h;simp only[bJ]at h;obtain⟨rfl,rfl⟩:=h;exact Tb bw ak aA aU (.inl rfl) h1
 ·rename_i st a mK aA;rw[b8]at h;obtain⟨vk,h1,h⟩:=h;simp only[bJ]at h;obtain⟨rfl,rfl⟩:=h;exact Tb bw ak aA aU (.inr rfl) h1
 cases h
def AW(P:Program)(body:Code)(st:aF)(ans:List ci)(cT bs:List Nat):Option (hE×aF×List Prop):=
 (run P body st ans).map fun r=>(r.1,r.2.1.eN cT bs,r.2.2.2)
variable{body:Code}{st bE:aF}{e:hE}
theorem gl.JA{ans:List ci}{cT bs:List Nat}{obs:List Prop}(h:AW P body st ans cT bs=some (e,bE,obs))(aU:cO obs):gl P body st e bE:=by
 unfold AW at h;rw[b8]at h;obtain⟨⟨bI,b2,cj,dS⟩,h1,h⟩:=h;simp only[bJ]at h;obtain⟨rfl,rfl,rfl⟩:=h;intro w0 a w aA;exact Code.wp_mono (fun e' cJ aS ⟨h1,U⟩=>⟨h1,U.eN cT bs⟩) (nQ body h1 aU w0 a w aA)
def Js(P:Program)(body:Code)(st:aF)(ans:List ci)(ns:List (Nat×Nat×Nat))(cT bs:List Nat):Option (hE×aF×List Prop):=
 (run P body st ans).bind fun r=>(ur r.2.1 ns).map fun s=>(r.1,s.eN cT bs,r.2.2.2)
theorem gl.acF{ans:List ci}{ns:List (Nat×Nat×Nat)}{cT bs:List Nat}{obs:List Prop}(h:Js P body st ans ns cT bs=some (e,bE,obs))(aU:cO obs):gl P body st e bE:=by
 unfold Js at h;rw[mo]at h;obtain⟨⟨bI,b2,cj,dS⟩,h1,h⟩:=h;rw[b8]at h;obtain⟨s,ai,h⟩:=h;simp only[bJ]at h;obtain⟨rfl,rfl,rfl⟩:=h;intro w0 a w aA;exact Code.wp_mono (fun e' cJ aS ⟨h1,U⟩=>⟨h1,(Bx ai U).eN cT bs⟩) (nQ body h1 aU w0 a w aA)
theorem c'.step{st1:aF}(ans:List ci)(cT bs:List Nat)(obs:List Prop)(h:AW P body st ans cT bs=some (.normal,st1,obs))(aU:cO obs)(U:c' P body st1 e bE):c' P body st e bE:=
 .more (gl.JA h aU) U
theorem c'.done(ans:List ci)(cT bs:List Nat)(obs:List Prop)(he:e.oa≠.normal)(h:AW P body st ans cT bs=some (e,bE,obs))(aU:cO obs):c' P body st e bE:=
 .last he (gl.JA h aU)
theorem cC(i:Nat):(hE.exit i).oa≠.normal:=fun h=>by cases h
theorem dZ:hE.ret.oa≠.normal:=fun h=>by cases h
def uu:Code->List Code
 | .seq a b=>uu a++uu b
 | .cond _ a b=>uu a++uu b
 | .block _ b=>uu b
 | .loop b=>b::uu b
 | .scope b=>uu b
 | _=>[]
def aq(fn:Func)(i:Nat):Code:=(uu (oR fn)).getD i .skip
def uv:Code->List (Nat×Array Oper)
 | .region id ops true=>[(id,ops)]
 | .seq a b=>uv a++uv b
 | .cond _ a b=>uv a++uv b
 | .block _ b=>uv b
 | .loop b=>uv b
 | .scope b=>uv b
 | _=>[]
def cV(fn:Func)(id:Nat):Array Oper:=(((uv (oR fn)).find? fun x=>Nat.beq x.1 id).map (·.2)).getD #[]
def Z9(n:Nat)(l:List (Nat×aJ)):List aJ:=l.foldl (fun e x=>e.set x.1 x.2) (List.replicate n .cq)
abbrev I(n:Int):D:=.v (.int .i64 n)
abbrev B(b:Bool):D:=.v (.bool b)
abbrev ayG(s:ByteArray):D:=.v (.string s)
end Go.Sx
namespace Go.Sx
open Go.RowKit
inductive jZ (P:Program):TypeId->List D->Prop
 | bool (t:TypeId) (b:Bool) (h:P.underlying t=some .bool):jZ P t [.v (.bool b)]
 | int (t:TypeId) (k:IntKind) (n:Int) (h:P.underlying t=some (.int k)) (hw:(Lit.int k n).wf=true):jZ P t [.v (.int k n)]
 | str (t:TypeId) (s:ByteArray) (h:P.underlying t=some .string) (ai:s.size<=maxLen):jZ P t [.v (.string s)]
 | J (t e:TypeId) (es:List (List D)) (h:P.underlying t=some (.slice e)) (ag:es.length<=maxLen) (he:∀ds∈es,jZ P e ds):jZ P t [.J (P.cellsOf e) es]
 | struct (t:TypeId) (e3:Array Field) (ds:List D) (h:P.underlying t=some (.struct e3)) (ag:ds.length=P.cellsOf t) (bw:∀f∈e3.toList,jZ P f.type ((ds.drop f.offset).take (P.cellsOf f.type))):jZ P t ds
def vm(P:Program):Nat->List Field->Nat->Bool
 | o,[],n=>o==n
 | o,f::r,n=>f.offset==o&&vm P (o+P.cellsOf f.type) r n
def uw(P:Program):Nat->TypeId->Bool
 | 0,_=>false
 | m+1,t=>
  match P.underlying t with
  | some .bool | some (.int _) | some .string=>true
  | some (.slice e)=>decide (0<P.cellsOf e)&&uw P m e
  | some (.struct e3)=>e3.toList.all (fun f=>uw P m f.type)&&vm P 0 e3.toList (P.cellsOf t)
  | _=>false
def o0(w:World)(ds:List D)(cs:List Value):Prop:=ds.length=cs.length/\∀(i:Nat) (d:D),ds[i]?=some d->∃v,cs[i]?=some v/\lD w d v
theorem o0.one{w:World}{d:D}{v:Value}(h:lD w d v):o0 w [d] [v]:=
 ⟨rfl,fun i dE aE=>by
  cases i with
  | zero=>simp at aE;subst aE;exact⟨v,rfl,h⟩
  | succ i=>simp at aE⟩
theorem o0.append{w:World}{a b:List D}{x y:List Value}(h:o0 w a x)(k:o0 w b y):o0 w (a++b) (x++y):=by
 refine⟨by simp[h.1,k.1],fun i d aE=>?_⟩;rw[lk]at aE ⊢;rw[<-h.1];split at aE
 ·rename_i hi;rw[bi hi];exact h.2 i d aE
 rename_i hi;rw[ba hi];exact k.2 _ d aE
theorem LD{P:Program}:∀{j6:List Field} {o n:Nat},vm P o j6 n=true->o<=n/\∀f∈j6,o<=f.offset/\f.offset+P.cellsOf f.type<=n
 | [],o,n,h=>by simp[vm]at h;exact⟨by omega,fun f bw=>by cases bw⟩
 | f::r,o,n,h=>by
  simp only[vm,cm,ed]at h;obtain⟨h1,U⟩:=LD h.2;refine⟨by omega,fun g av=>?_⟩;rcases ez.1 av with rfl | av
  ·exact⟨by omega,by omega⟩
  have:=U g av;exact⟨by omega,this.2⟩
theorem XT{P:Program}{w:World}{cs:List Value}:∀{j6:List Field} {o:Nat},vm P o j6 cs.length=true->
  (∀f∈j6,∃ds,jZ P f.type ds/\o0 w ds ((cs.drop f.offset).take (P.cellsOf f.type)))->
  ∃ds,o0 w ds (cs.drop o)/\∀f∈j6,jZ P f.type ((ds.drop (f.offset-o)).take (P.cellsOf f.type))
 | [],o,h,_=>by
  simp only[vm,ed]at h;subst h;exact⟨[],⟨by simp,fun i d aE=>by simp at aE⟩,fun f bw=>by cases bw⟩
 | f::r,o,h,bw=>by
  have hle:=LD h;simp only[vm,cm,ed]at h;obtain⟨bg,h⟩:=h;obtain⟨ds,h1,U⟩:=XT h fun g av=>bw g (by simp[av])
  obtain⟨d0,ax,aK⟩:=bw f (by simp);have DI:d0.length=P.cellsOf f.type:=by
   rw[aK.1];have:=(hle.2 f (by simp)).2;simp;omega
  refine⟨d0++ds,?_,?_⟩
  ·have:cs.drop o=(cs.drop f.offset).take (P.cellsOf f.type)++cs.drop (o+P.cellsOf f.type):=by
    rw[bg,<-List.drop_drop];exact (O4 _ _).symm
   rw[this];exact aK.append h1
  intro g av;rcases ez.1 av with rfl | av
  ·rw[bg,Nat.sub_self,tz,O3 (by omega),zR (by omega)];exact ax
  have azj:=U g av;have:=(LD h).2 g av;rw[List.drop_append,List.drop_eq_nil_of_le (show d0.length<=g.offset-o by omega),List.nil_append,DI];rwa[show g.offset-o-P.cellsOf f.type=g.offset-(o+P.cellsOf f.type) by omega]
section
variable {H : Type} {enc : TypeId × Value -> H} {P : Program} {w : World} {base : Nat} {held : Bool}
theorem EC{a:Addr}{k:Nat}{cs:List Value}(h:w.cells? base a k=some cs):cs.length=k/\∀i,i<k->w.cell? (a.add i)=cs[i]?:=by
 unfold World.cells? at h;split at h
 ·exact⟨by simpa using mapM_some_length h,fun i hi=>mapM_some_get h i i (by simp[hi])⟩
 cases h
theorem LF{a:Addr}{v:Value}(h:w.cell? a=some v):∃arr ty c0,w.heap[a.block]?=some (.cells arr ty c0)/\a.spot=none/\arr[a.off]?=some v:=by
 unfold World.cell? at h;split at h
 ·rename_i arr ty c0 e;split at h
  ·cases h
  rename_i ai;refine⟨arr,ty,c0,e,?_,h⟩;cases IB:a.spot with
  | none=>rfl
  | some x=>simp[IB]at ai
 cases h
theorem LG:∀(m:Nat) (t:TypeId) (ht:Nat) (cs:List Value) (x:DataW H×List MemPlace),uw P m t=true->DataW.trod enc P w base (fun _=>true) held ht t cs=some x->
  ∃ds,jZ P t ds/\o0 w ds cs
 | 0,_,_,_,_,h,_=>by cases h
 | m+1,t,ht,cs,x,ai,h=>by
  unfold uw at ai;split at ai
  ·rename_i hu;obtain⟨b,rfl,_⟩:=DataW.trod_bool hu h;exact⟨_,.bool t b hu,.one (.v _ _ rfl)⟩
  ·rename_i k hu;obtain⟨n,rfl,_,hw⟩:=DataW.trod_int hu h;exact⟨_,.int t k n hu hw,.one (.v _ _ rfl)⟩
  ·rename_i hu;obtain⟨s,rfl,_,hw⟩:=DataW.trod_string hu h;exact⟨_,.str t s hu hw,.one (.v _ _ rfl)⟩
  ·rename_i e hu;simp only[cm,cr]at ai;obtain⟨nE,DV⟩:=ai;rcases DataW.trod_slice hu h with⟨rfl,_⟩ | ⟨a,len,cap,PA,rest,n,_,rfl,_,_,ag,ak,hlen,tW,IB,_⟩
   ·exact⟨_,.J t e [] hu (by simp) (fun ds eI=>by cases eI),.one (.nil _ _ _)⟩
   obtain⟨Qp,DS⟩:=IB rfl;generalize gq:P.cellsOf e=k at*;have hV:∀i,i<cap->∃cs,w.cells? base (a.add (i*k)) k=some cs/\∃x,DataW.trod enc P w base (fun _=>true) held n e cs=some x:=by
    intro i hi;by_cases jC:i<len
    ·have:=tW i jC;obtain⟨y,bu⟩:∃y,PA[i]?=some y:=⟨PA[i],h4 (by omega)⟩
     rw[bu,mo]at this;obtain⟨cs,h1,U⟩:=this;exact⟨cs,h1,y,U⟩
    have:=DS (i-len) (by omega);rw[show len+(i-len)=i by omega]at this;obtain⟨y,bu⟩:∃y,rest[i-len]?=some y:=⟨rest[i-len],h4 (by omega)⟩
    rw[bu,mo]at this;obtain⟨cs,h1,U⟩:=this;exact⟨cs,h1,y,U⟩
   by_cases gd:cap=0
   ·subst gd;have:len=0:=by omega
    subst this;have:=jZ.J (P:=P) t e [] hu (by simp) (fun ds eI=>by cases eI);exact⟨_,this,.one (.nil _ _ _)⟩
   have aaO:∀i,∃ds,i<len->jZ P e ds/\∃cs,w.cells? base (a.add (i*k)) k=some cs/\o0 w ds cs:=by
    intro i;by_cases hi:i<len
    ·obtain⟨cs,h1,x,U⟩:=hV i (by omega);obtain⟨ds,ax,aK⟩:=LG m e n cs x DV U;exact⟨ds,fun _=>⟨ax,cs,h1,aK⟩⟩
    exact⟨[],fun h=>absurd h hi⟩
   obtain⟨f,bw⟩:=Classical.skolem.1 aaO;obtain⟨cl,p',_⟩:=hV (cap-1) (by omega);obtain⟨azc,aaF⟩:=EC p';have ua:=aaF (k-1) (by omega);obtain⟨az4,acg⟩:∃v,cl[k-1]?=some v:=⟨cl[k-1],h4 (by omega)⟩
   rw[acg]at ua;obtain⟨b,off,spot⟩:=a;have ab2:spot=none:=by
    obtain⟨de,aaA,_⟩:=hV 0 (by omega);obtain⟨azb,aaB⟩:=EC aaA;have bg:=aaB 0 nE;obtain⟨v0,acd⟩:∃v,de[0]?=some v:=⟨de[0],h4 (by omega)⟩
    rw[acd]at bg;obtain⟨_,_,_,_,h1,_⟩:=LF bg;simpa[Addr.add]using h1
   subst ab2;obtain⟨arr,ty,c0,aj,_,ua⟩:=LF ua;simp only[qG]at aj ua;have eT:off+cap*k<=arr.size:=by
    have h1:=(jz.1 ua).1;have U:cap*k=(cap-1)*k+k:=by rw[<-Nat.succ_mul];congr 1;omega
    omega
   have DE:((List.range len).map f).length=len:=by simp
   have hW:∀i j d,c9 ((List.range len).map f) i j=some d->i<len/\(f i)[j]?=some d:=by
    intro i j d aE;unfold c9 at aE;rw[du]at aE;by_cases hi:i<len
    ·rw[List.getElem?_range hi]at aE;exact⟨hi,by simpa using aE⟩
    rw[List.getElem?_eq_none (by simpa using hi)]at aE;simp at aE
   have fa:∀i j d,c9 ((List.range len).map f) i j=some d->∃u,arr[off+i*k+j]?=some u/\lD w d u:=by
    intro i j d aE;obtain⟨hi,bd⟩:=hW i j d aE;obtain⟨_,cs,h1,U⟩:=bw i hi;obtain⟨aaE,sD⟩:=EC h1;obtain⟨u,jG,aA⟩:=U.2 j d bd;have Aw:j<k:=by rw[<-aaE];exact (eW.1 jG).1
    have:=sD j Aw;rw[jG]at this;obtain⟨ix,iR,HE,gp,_,aa⟩:=LF this;simp only[qG]at gp aa;rw[aj]at gp;cases gp;exact⟨u,aa,aA⟩
   have DR:b7 w (fun _=>.bO) Tag.free.R (.J k ((List.range len).map f)) (.slice (some ⟨b,off,none⟩) ((List.range len).map f).length cap):=by
    refine .row _ k _ b off cap arr ty c0 (fun i j=>arr.getD (off+i*k+j) undef) aj rfl (by omega) eT ?_ ?_ ?_
    ·intro e' he;obtain⟨i,hi,rfl⟩:=jX.1 he;obtain⟨_,cs,h1,U⟩:=bw i (by simpa using hi);rw[U.1];exact (EC h1).1
    ·intro i j d aE;obtain⟨u,h1,_⟩:=fa i j d aE;rw[h1];simp[ew,h1]
    intro i j d aE;obtain⟨u,h1,U⟩:=fa i j d aE;have:arr.getD (off+i*k+j) undef=u:=by simp[ew,h1]
    rw[this];exact U
   rw[DE]at DR;have mB:=jZ.J (P:=P) t e ((List.range len).map f) hu (by rw[DE];omega);rw[gq]at mB;refine⟨_,mB ?_,.one DR⟩;intro ds eI;obtain⟨i,hi,rfl⟩:=jX.1 eI;exact (bw i (by simpa using hi)).1
  ·rename_i e3 hu;simp only[cm,fK]at ai;obtain⟨ue,uf⟩:=ai;obtain⟨xs,n,_,_,ag,pg,bw⟩:=DataW.trod_struct hu h;rw[<-ag]at uf;obtain⟨ds,h1,U⟩:=XT (w:=w) uf fun f P0=>by
    obtain⟨i,hi⟩:=r8.1 P0;have:=bw i f (by simpa using hi);have lX:i<xs.length:=by rw[pg];have:=(eW.1 hi).1;simpa using this
    rw[h4 lX]at this;exact LG m f.type n _ _ (ue f P0) this
   rw[tz]at h1;exact⟨ds,.struct t e3 ds hu (by rw[h1.1,ag]) (by simpa using U),h1⟩
  cases ai
end
end Go.Sx
namespace Go.Sx
open Go.ChangeShapes Go.WideShapes Go.ChangeAt Go.RowKit Go.Joins
def sg(P:Program)(t:TypeId):Bool:=match P.underlying t with | some (.struct _)=>true | _=>false
def Dc(P:Program)(t:TypeId):cQ->Prop
 | .one d=>jZ P t [d]/\sg P t=false
 | .agg ds=>jZ P t ds/\sg P t=true
def Dd(P:Program):List TypeId->List cQ->Prop
 | [],[]=>True
 | t::ts,a::as=>Dc P t a/\Dd P ts as
 | _,_=>False
section
variable {H : Type} {enc : TypeId × Value -> H} {P : Program} {w : World} {base b9 : Nat} {held : Bool} {r : Reach}
theorem atM{t:TypeId}{v:Value}{d:DataW H}{cF:List MemPlace}(ai:uw P 20 t=true)(gC:Value.okWide P w r b9 t v)(h:DataW.Trod enc P w base (fun _=>true) held t v d cF):
  ∃cB,Dc P t cB/\vB w cB v:=by
 obtain⟨ht,bw⟩:=h;obtain⟨ds,h1,U⟩:=LG 20 t ht _ _ ai bw;have one:(∀cs,v≠.agg cs)->sg P t=false->∃cB,Dc P t cB/\vB w cB v:=by
  intro bF ae;have ak:v.cells.toList=[v]:=by
   cases v<;>first | rfl | (exact absurd rfl (bF _))
  rw[ak]at U
  match ds,h1,U with
  | [d],h1,U=>
   obtain⟨u,hu,aA⟩:=U.2 0 d rfl;simp at hu;subst hu;exact⟨.one d,⟨h1,ae⟩,aA⟩
  | [],_,U=>simp[o0]at U
  | _::_::_,_,U=>simp[o0]at U
 rw[show (20:Nat)=19+1 from rfl]at ai;unfold uw at ai;unfold Value.okWide at gC;split at ai
 ·rename_i hu;rw[hu]at gC;refine one (fun cs e=>?_) (by simp[sg,hu]);subst e;simp[Cell.okWide,Cell.ok,hu]at gC
 ·rename_i hu;rw[hu]at gC;refine one (fun cs e=>?_) (by simp[sg,hu]);subst e;simp[Cell.okWide,Cell.ok,hu]at gC
 ·rename_i hu;rw[hu]at gC;refine one (fun cs e=>?_) (by simp[sg,hu]);subst e;simp[Cell.okWide,Cell.ok,hu]at gC
 ·rename_i hu;rw[hu]at gC;refine one (fun cs e=>?_) (by simp[sg,hu]);subst e;simp[Cell.okWide,Cell.ok,hu]at gC
 ·rename_i hu;rw[hu]at gC;obtain⟨cs,rfl,_,_⟩:=gC;refine⟨.agg ds,⟨h1,by simp[sg,hu]⟩,cs,rfl,by have:=U.1;simpa[Value.cells]using this.symm,fun i d aE=>?_⟩;obtain⟨u,jG,aA⟩:=U.2 i d aE;exact⟨u,by simpa[Value.cells]using jG,aA⟩
 cases ai
theorem Tc:∀(ts:List TypeId) (vs:List Value) (ds:List (DataW H)) (cF:List MemPlace),ts.all (uw P 20)=true->(∀(j:Nat) t v,ts[j]?=some t->vs[j]?=some v->Value.okWide P w r b9 t v)->
  DataW.TrodAll enc P w base (fun _=>true) held ts vs ds cF->∃gz,Dd P ts gz/\vs.length=gz.length/\∀(i:Nat) (cB:cQ),gz[i]?=some cB->∃v,vs[i]?=some v/\vB w cB v
 | [],[],[],_,_,_,_=>⟨[],ad,rfl,fun i cB h=>by simp at h⟩
 | t::ts,v::vs,d::ds,cF,ai,gC,h=>by
  obtain⟨p,q,h1,U,_⟩:=h;simp only[List.all_cons,cm]at ai;obtain⟨cB,aaq,HV⟩:=atM ai.1 (gC 0 t v rfl rfl) h1;obtain⟨gz,ax,aK,a7⟩:=Tc ts vs ds q ai.2 (fun j t v bH bF=>gC (j+1) t v (by simpa using bH) (by simpa using bF)) U;refine⟨cB::gz,⟨aaq,ax⟩,by simp[aK],fun i n5 hi=>?_⟩;cases i with
  | zero=>simp at hi;subst hi;exact⟨v,rfl,HV⟩
  | succ i=>simpa using a7 i n5 (by simpa using hi)
 | [],_::_,_,_,_,_,h=>by simp[DataW.TrodAll]at h
 | [],[],_::_,_,_,_,h=>by simp[DataW.TrodAll]at h
 | _::_,[],_,_,_,_,h=>by simp[DataW.TrodAll]at h
 | _::_,_::_,[],_,_,_,h=>by simp[DataW.TrodAll]at h
theorem Td{H:Type}{enc:TypeId×Value->H}{P:Program}(ag:laidOutB P=true){W zY:World}(aj:Below W.heap.size W zY):
  ∀(ts:List TypeId) (vs:List Value) (ds:List (DataW H)) (cF:List MemPlace),ts.all (fun t=>P.readableRec t&&decide (t<P.types.size))=true->
   DataW.TrodAll enc P W 0 (fun _=>true) true ts vs ds cF->(∀x∈cF,x.block<W.heap.size)->
   DataW.TrodAll enc P zY 0 (fun b=>decide (b<W.heap.size)) true ts vs ds cF
 | [],vs,ds,cF,_,h,_=>by
  obtain⟨rfl,rfl,rfl⟩:=trodAll_nil h;exact trodAll_mk0
 | t::ts,vs,ds,cF,bH,h,bL=>by
  obtain⟨v,ayd,d,sr,p,q,rfl,rfl,rfl,bg,aA⟩:=trodAll_cons h;simp only[List.all_cons,cm,cr]at bH;exact trodAll_cons_mk (Below.trod ag bH.1.1 bH.1.2 bg aj (fun x aa=>bL x (gN _ aa)))
   (Td ag aj ts ayd sr q bH.2 aA (fun x aa=>bL x (hR _ aa)))
theorem Te:∀(ts:List TypeId) (vs:List Value) (ds:List (DataW H)) (cF:List MemPlace),DataW.TrodAll enc P w base (fun _=>true) held ts vs ds cF->ds.length=ts.length
 | [],[],[],_,_=>rfl
 | t::ts,v::vs,d::ds,cF,h=>by
  obtain⟨p,q,_,U,_⟩:=h;simp[Te ts vs ds q U]
 | [],_::_,_,_,h=>by simp[DataW.TrodAll]at h
 | [],[],_::_,_,h=>by simp[DataW.TrodAll]at h
 | _::_,[],_,_,h=>by simp[DataW.TrodAll]at h
 | _::_,_::_,[],_,h=>by simp[DataW.TrodAll]at h
theorem asX(ag:laidOutB P=true){f:Func}{fno:Nat}{s:ChangeSpec}{tb:TypeId}(fe:f.resultTypes=#[tb])(aj:P.underlying tb=some .bool)
  (hp:f.params.toList.all (fun t=>P.readableRec t&&decide (t<P.types.size))=true) (e5:f.params.toList.all (uw P 20)=true) (Qv:s.vars=[])
  {W:World} {args:Array Value} {ds gs:List (DataW H)} {before:List MemPlace} (gC:∀(j:Nat) t v,f.params[j]?=some t->args[j]?=some v->Value.okWide P W r b9 t v)
  (tS:DataW.Whole enc P f.params.toList s.vars false W args.toList ds gs before)
  (ai:ds.length=f.params.size->(s.fn H ds).results=[.lit (.bool true)]/\(s.fn H ds).args=ds/\(s.fn H ds).vars=[])
  (sQ:pU W) (abo:∀gz,Dd P f.params.toList gz->iX P fno gz [.one (B true)]):
  Calls P fno args W fun e zY=>∃v,e=.returned v/\s.post enc P f false true false false W args v zY:=by
 have aap:=tS;have bL:=tS.lt;obtain⟨p,q,HT,PJ,rfl,azi,azr⟩:=tS;rw[Qv]at PJ;obtain⟨rfl,rfl⟩:=trodVars_none PJ;obtain⟨h1,U,ax⟩:=ai (by have:=Te _ _ _ _ HT;simpa using this);obtain⟨gz,ab0,hlen,bP⟩:=Tc _ _ _ _ e5 (fun j t v bH bF=>gC j t v (by simpa using bH) (by simpa using bF)) HT;refine (abo gz ab0 W args sQ ⟨by simpa using hlen,fun i cB hi=>by simpa using bP i cB hi⟩).mono ?_;rintro e zY ⟨v,rfl,rb,aA⟩;have bF:v=.bool true:=by
  obtain⟨ω,_,_,h⟩:=aA;simp only[nO,mi]at h;cases h;rfl
 subst bF;refine⟨_,rfl,ds,[],p++[],[],p,[],aap,?_,?_,?_,rb.below.frame _,fun h=>by cases h⟩
 ·rw[lL,h1,fe];exact trodAll_mk1 (shut_bool aj true)
 ·rw[lL,U];exact Td ag rb.below _ _ _ _ hp HT (fun x aa=>bL x (by simpa using aa))
 rw[lL,ax,Qv];rfl
end
