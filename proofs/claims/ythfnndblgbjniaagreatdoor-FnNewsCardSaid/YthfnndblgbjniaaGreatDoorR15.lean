import Derived.Test.YthfnndblgbjniaaGreatDoorR13
import Derived.LoopN
import Derived.ChangeMaps5
import Derived.ChangeSame
import Derived.ChangeStays
import Derived.ProofKit
import Derived.Lib.SmallJoins
set_option linter.unusedVariables false
set_option linter.unusedSimpArgs false
namespace Go.Sx
open Go.RowKit
def gQ.pC:gQ->Exit
 | .normal=>.normal
 | .exit id=>.exit id
 | .ret=>.ret
def LO(w0:dY)(e:gQ)(st:aD):Exit->Act->World->Prop:=fun e' a w=>e'=e.pC/\Rel w0 st a w
def fJ(P:Program)(c:Code)(st:aD)(e:gQ)(bl:aD):Prop:=∀w0 a w,Rel w0 st a w->c.wp P (LO w0 e bl) a w
def c0(P:Program)(c:Code)(st:aD)(e:gQ)(bl:aD):Prop:=∃n,∀w0 a w,Rel w0 st a w->Code.rounds P c (LO w0 e bl) n a w
variable{P:Program}{st bl:aD}
theorem c0.last{c:Code}{e:gQ}(he:e.pC≠.normal)(h:fJ P c st e bl):c0 P c st e bl:=
 ⟨1,fun w0 a w aI=>Code.wp_mono (fun e' cC aP ⟨U,aa⟩=>by
  subst U;cases e with
  | normal=>exact absurd rfl he
  | exit id=>exact⟨rfl,aa⟩
  | ret=>exact⟨rfl,aa⟩) (h w0 a w aI)⟩
theorem c0.more{c:Code}{dx:aD}{e:gQ}(h:fJ P c st .normal dx)(aa:c0 P c dx e bl):c0 P c st e bl:=by
 obtain⟨n,a7⟩:=aa;refine⟨n+1,fun w0 a w aI=>Code.wp_mono (fun e' cC aP ⟨U,aA⟩=>?_) (h w0 a w aI)⟩;subst U;exact a7 w0 cC aP aA
def sG(cK:List Nat):Nat->List aE->List aE
 | _,[]=>[]
 | i,p::r=>(if cK.contains i then p else .cp)::sG cK (i+1) r
theorem Px(cK:List Nat):∀(l:List aE) (i j:Nat),(sG cK i l)[j]?=(l[j]?).map fun p=>if cK.contains (i+j) then p else .cp
 | [],_,_=>by simp[sG]
 | p::r,i,0=>by simp[sG]
 | p::r,i,j+1=>by
  simp only[sG,n7,Px cK r (i+1) j];rw[show i+1+j=i+(j+1) by omega]
theorem Py(cK:List Nat):∀(l:List aE) (i:Nat),(sG cK i l).length=l.length
 | [],_=>rfl
 | p::r,i=>by simp[sG,Py cK r]
def uS(bs:List Nat):List (Nat×List aC)->List (Nat×List aC)
 | []=>[]
 | (i,ls)::r=>if bs.contains i then (i,ls)::uS bs r else uS bs r
theorem H2(bs:List Nat)(id:Nat):∀(l:List (Nat×List aC)) (ls:List aC),dh id (uS bs l)=some ls->dh id l=some ls
 | [],_,h=>by cases h
 | (i,fk)::r,ls,h=>by
  simp only[uS]at h;simp only[dh];split at h
  ·simp only[dh]at h;split at h
   ·grind
   rename_i hi;rw[bE hi];exact H2 bs id r ls h
  rename_i ap;have:=H2 bs id r ls h;split
  ·rename_i hi;subst hi;exfalso;have kh:∀(r:List (Nat×List aC)),dh i (uS bs r)=none:=by
    intro r;induction r with
    | nil=>rfl
    | cons x r d'=>
     obtain⟨n4,j4⟩:=x;simp only[uS];split
     ·rename_i ao;simp only[dh];grind
     exact d'
   grind
  exact this
def Bt:aC->aC
 | .v (.bool b)=>.a1 b
 | l=>l
variable{w:World}
theorem Pz{ω:Own}{τ:Nat->Nat×Value}(l:aC)(v:Value)(h:Sat w ω τ l v):Sat w ω τ (Bt l) v:=by
 unfold Bt;split
 ·exact h
 exact h
def aD.fa(st:aD)(cK bs:List Nat):aD:=⟨(sG cK 0 st.env).map (aE.map Bt),(uS bs st.boxes).map fun x=>(x.1,x.2.map Bt)⟩
variable{w0:dY}{a:Act}
theorem Rel.fa(h:Rel w0 st a w)(cK bs:List Nat):Rel w0 (st.fa cK bs) a w:=by
 obtain⟨ω,τ,h⟩:=h;refine⟨ω,τ,h.defers,by simp[aD.fa,Py,h.size],h.below,h.owned,h.fixed,h.pinned,?_,?_⟩
 ·intro i p hp;simp only[aD.fa]at hp;rw[dk,b0]at hp;obtain⟨ki,hp,rfl⟩:=hp;rw[Px,b0]at hp;obtain⟨GU,hp,rfl⟩:=hp;obtain⟨v,U,aa⟩:=h.env i GU hp;refine⟨v,U,cH.map Pz ?_⟩;split
  ·exact aa
  exact trivial
 intro id ls au;simp only[aD.fa]at au;rw[re,b0]at au;obtain⟨h3,au,rfl⟩:=au;obtain⟨b,arr,ty,U,aa,aA,aO⟩:=h.boxes id h3 (H2 bs id _ _ au);exact⟨b,arr,ty,U,aa,aA,aO.map Pz⟩
def H3(st:aD)(id j t k:Nat):Option aD:=
 match dh id (st.h5 t []).boxes with
 | some ls=>
  match ls[j]? with
  | some (.v (.slice none 0 0))=>if t<cX then some ⟨(st.h5 t []).env,oV id (ls.set j (.J (.own t) k [])) (st.h5 t []).boxes⟩ else none
  | _=>none
 | none=>none
def H4(st:aD)(id j t:Nat):Option aD:=
 match dh id st.boxes with
 | some h3=>
  match h3[j]? with
  | some (.J (.own kR) cm es)=>
   if t<cX then
    let dx:=st.map (aC.cB (jg kR t) fun _=>true)
    match dh id dx.boxes with
    | some ls=>some ⟨dx.env,oV id (ls.set j (.J (.own t) cm es)) dx.boxes⟩
    | none=>none
   else none
  | _=>none
 | none=>none
def sH(st:aD):List (Nat×Nat×Nat)->Option aD
 | []=>some st
 | (s,t,k)::r=>
  if 1000000<=s then
   (match H4 st (s / 1000000-1) (s % 1000000) t with
   | some dx=>some dx
   | none=>H3 st (s / 1000000-1) (s % 1000000) t k).bind fun dx=>sH dx r else
  match (st.env.getD s .cp).leaf with
  | some (.v (.slice none 0 0))=>if t<cX then sH ⟨(st.h5 t []).env.set s (.one (.J (.own t) k [])),(st.h5 t []).boxes⟩ r else none
  | some (.J (.own kR) cm es)=>
   if t<cX then sH ⟨(st.map (aC.cB (jg kR t) fun _=>true)).env.set s (.one (.J (.own t) cm es)),(st.map (aC.cB (jg kR t) fun _=>true)).boxes⟩ r else none
  | _=>none
theorem cy.LS{ω:Own}{τ:Nat->Nat×Value}(h:cy w0 st a w ω τ){s:Nat}{l:aC}(au:(st.env.getD s .cp).leaf=some l)(c1:l≠.cp):∃v,a.tmps[s]?=some v/\Sat w ω τ l v:=by
 rw[jJ]at au;cases e:st.env[s]? with
 | none=>grind[aE.leaf,aT,absurd]
 | some p=>
  rw[e]at au;obtain⟨v,U,aa⟩:=h.env s p e;grind[aE.dt]
theorem PA{s:Nat}{v:Value}(h:a.tmps[s]?=some v):a.put (some s) v=a:=by
 simp only[Act.put];have:a.tmps.setIfInBounds s v=a.tmps:=by
  grind
 rw[this]
theorem aj7{id j t k:Nat}(h:H3 st id j t k=some bl)(aI:Rel w0 st a w):Rel w0 bl a w:=by
 obtain⟨ω,τ,aI⟩:=aI;unfold H3 at h;split at h
 ·rename_i ls aw;split at h
  ·rename_i bm;split at h
   ·rename_i hO;simp only[aT]at h;subst h;obtain⟨a',U,aa⟩:=aI.GJ t k hO;refine⟨a',_,U.defers,U.size,U.below,U.owned,U.fixed,U.pinned,U.env,fun hj eW au=>?_⟩;by_cases hid:hj=id
    ·subst hid;rw[v8 aw]at au;cases au;obtain⟨b,arr,ty,e1,e2,ch,dP⟩:=U.boxes hj ls aw;refine⟨b,arr,ty,e1,e2,ch,by rw[dP.1,gz],fun i l hi=>?_⟩;rw[l7]at hi;split at hi
     ·rename_i nz;subst nz;split at hi
      ·cases hi;obtain⟨u,gq,eV⟩:=dP.2 j _ bm;have atk:u=.slice none 0 0:=eV;grind
      cases hi
     exact dP.2 i l hi
    rw[v' hid]at au;exact U.boxes hj eW au
   cases h
  cases h
 cases h
theorem aj8{id j t:Nat}(h:H4 st id j t=some bl)(aI:Rel w0 st a w):Rel w0 bl a w:=by
 obtain⟨ω,τ,aI⟩:=aI;unfold H4 at h;split at h
 case h_2=>cases h
 rename_i h3 hX;split at h
 case h_2=>cases h
 rename_i kR cm es bm;split at h
 case isFalse=>cases h
 rename_i hO;simp only at h;split at h
 case h_2=>cases h
 rename_i ls aw;simp only[aT]at h;subst h;obtain⟨cj,r1,tc,ass,ast,asu,Vc⟩:=aI.boxes id h3 hX;obtain⟨v,br,aj⟩:=Vc.2 j _ bm;have U:cy w0 (st.map (aC.cB (jg kR t) fun _=>true)) a w (fun b=>iu kR t 0 (ω b)) (fx τ t cm v):=
  aI.eo _ (Ij hO).sat aI.below (fun b aw=>aI.owned b (Ii aw)) (fun id b aw=>⟨sC.2 aw,rfl⟩) (fun id b aw=>sC.1 aw)
   (fun di bZ=>by simp only[fx];grind)
 have aa:Sat w (fun b=>iu kR t 0 (ω b)) (fx τ t cm v) (.J (.own t) cm es) v:=⟨aj.1.frame fun b q _ aM=>⟨by
  simp only[Tag.R]at aM ⊢;rw[aM];cases q with
  | nil=>simp[iu]
  | cons x q=>grind[iu],rfl⟩,by simp[Tag.dG,fx]⟩
 refine⟨_,_,U.defers,U.size,U.below,U.owned,U.fixed,U.pinned,U.env,fun hj eW au=>?_⟩;by_cases hid:hj=id
 ·subst hid;rw[v8 aw]at au;cases au;obtain⟨b,arr,ty,e1,e2,ch,dP⟩:=U.boxes hj ls aw;refine⟨b,arr,ty,e1,e2,ch,by rw[dP.1,gz],fun i l hi=>?_⟩;rw[l7]at hi;split at hi
  ·rename_i nz;subst nz;split at hi
   ·cases hi;have Mh:b=cj:=by
     have gT:ω b=.box hj:=sC.1 e1;grind
    grind
   cases hi
  exact dP.2 i l hi
 rw[v' hid]at au;exact U.boxes hj eW au
theorem yS:∀{ns:List (Nat×Nat×Nat)} {st bl:aD},sH st ns=some bl->Rel w0 st a w->Rel w0 bl a w
 | [],st,bl,h,aI=>by grind[sH,aT]
 | (s,t,k)::r,st,bl,h,aI=>by
  simp only[sH]at h;split at h
  ·rw[kW]at h;obtain⟨dx,U,h⟩:=h;refine yS h ?_;split at U
   ·rename_i mU aa;cases U;exact aj8 aa aI
   exact aj7 U aI
  split at h
  ·rename_i au;obtain⟨ω,τ,aI⟩:=aI;obtain⟨v,br,aj⟩:=aI.LS au (by simp);have:v=.slice none 0 0:=aj;subst this;split at h
   case isFalse=>cases h
   rename_i hO;obtain⟨a',U,aa⟩:=aI.GJ t k hO;have aA:=U.put (d:=s) (p:=.one (.J (.own t) k [])) aa;rw[PA br]at aA;exact yS h ⟨a',_,aA⟩
  ·rename_i kR cm es au;obtain⟨ω,τ,aI⟩:=aI;obtain⟨v,br,aj⟩:=aI.LS au (by simp);split at h
   case isFalse=>cases h
   rename_i hO;have U:cy w0 (st.map (aC.cB (jg kR t) fun _=>true)) a w (fun b=>iu kR t 0 (ω b)) (fx τ t cm v):=
    aI.eo _ (Ij hO).sat aI.below (fun b aw=>aI.owned b (Ii aw)) (fun id b aw=>⟨sC.2 aw,rfl⟩) (fun id b aw=>sC.1 aw)
     (fun di bZ=>by simp only[fx];grind)
   have aA:=U.put (d:=s) (p:=.one (.J (.own t) cm es)) (v:=v) ⟨aj.1.frame fun b q _ aM=>⟨by
    simp only[Tag.R]at aM ⊢;rw[aM];cases q with
    | nil=>simp[iu]
    | cons x q=>grind[iu],rfl⟩,by simp[Tag.dG,fx]⟩
   rw[PA br]at aA;exact yS h ⟨_,_,aA⟩
  cases h
abbrev UX:=Option (gQ×aD×List b'×List Prop)
def run(P:Program):Code->aD->List b'->UX
 | .skip,st,ans=>some (.normal,st,ans,[])
 | .label _,st,ans=>some (.normal,st,ans,[])
 | .region _ ops draw,st,ans=>if draw then (H0 P ops st ans).map fun r=>(.normal,r.1,r.2.1,r.2.2) else (uP P ops ops.toList st ans).map fun r=>(.normal,r.1,r.2.1,r.2.2)
 | .seq a b,st,ans=>
  match run P a st ans with
  | some (.normal,dx,eQ,fm)=>(run P b dx eQ).map fun r=>(r.1,r.2.1,r.2.2.1,fm++r.2.2.2)
  | some (e,dx,eQ,fm)=>some (e,dx,eQ,fm)
  | none=>none
 | .cond c x y,st,ans=>
  match (st.bj c).leaf,ans with
  | some (.v (.bool true)),ans=>run P x st ans
  | some (.v (.bool false)),ans=>run P y st ans
  | some (.a1 c),.na true::r=>(run P x st r).map fun r=>(r.1,r.2.1,r.2.2.1,(c=true)::r.2.2.2)
  | some (.a1 c),.na false::r=>(run P y st r).map fun r=>(r.1,r.2.1,r.2.2.1,(c=false)::r.2.2.2)
  | _,_=>none
 | .block id body,st,ans=>
  match run P body st ans with
  | some (.exit i,dx,eQ,fm)=>some (if i=id then .normal else .exit i,dx,eQ,fm)
  | r=>r
 | .loop body,st,ans=>
  match ans with
  | .loop Br cK bs e bl::r=>
   match e,sH st Br with
   | .normal,_=>none
   | e,some dx=>some (e,bl,r,[c0 P body (dx.fa cK bs) e bl])
   | _,none=>none
  | _=>none
 | .exit id,st,ans=>some (.exit id,st,ans,[])
 | .ret,st,ans=>some (.ret,st,ans,[])
 | _,_,_=>none
theorem lX:∀(c:Code) {st bl:aD} {ans cf:List b'} {obs:List Prop} {e:gQ},run P c st ans=some (e,bl,cf,obs)->cv obs->fJ P c st e bl
 | .skip,st,bl,ans,cf,obs,e,h,a6=>by
  simp only[run,aT,bq]at h;obtain⟨rfl,rfl,_,_⟩:=h;exact fun w0 a w aI=>wp_skip ⟨rfl,aI⟩
 | .label l,st,bl,ans,cf,obs,e,h,a6=>by
  simp only[run,aT,bq]at h;obtain⟨rfl,rfl,_,_⟩:=h;exact fun w0 a w aI=>wp_label ⟨rfl,aI⟩
 | .region id ops draw,st,bl,ans,cf,obs,e,h,a6=>by
  simp only[run]at h;split at h
  ·rename_i aF;rw[b0]at h;obtain⟨⟨bF,bY,cg⟩,U,h⟩:=h;simp only[bq]at h;obtain⟨rfl,rfl,rfl,rfl⟩:=h;subst aF;exact fun w0 a w aI=>aj6 U a6 aI fun cC aP h=>⟨rfl,h⟩
  rename_i aF;rw[b0]at h;obtain⟨⟨bF,bY,cg⟩,U,h⟩:=h;simp only[bq]at h;obtain⟨rfl,rfl,rfl,rfl⟩:=h;have:draw=false:=by grind
  subst this;exact fun w0 a w aI=>wp_region_list (ID _ U a6 aI fun cC aP h=>⟨rfl,h⟩)
 | .seq x y,st,bl,ans,cf,obs,e,h,a6=>by
  simp only[run]at h;split at h
  ·rename_i dx eQ fm U;rw[b0]at h;obtain⟨⟨bF,bY,cg,dQ⟩,aa,h⟩:=h;simp only[bq]at h;obtain⟨rfl,rfl,rfl,rfl⟩:=h;obtain⟨cx,cd⟩:=a6.append;intro w0 a w aI;refine wp_seq (Code.wp_mono (fun e' cC aP hp=>?_) (lX x U cx w0 a w aI));obtain⟨rfl,eh⟩:=hp;exact lX y aa cd w0 cC aP eh
  ·rename_i e1 dx eQ fm c1 U;simp only[aT,bq]at h;obtain⟨rfl,rfl,rfl,rfl⟩:=h;intro w0 a w aI;refine wp_seq (Code.wp_mono (fun e' cC aP hp=>?_) (lX x U a6 w0 a w aI));obtain⟨rfl,eh⟩:=hp;cases e1 with
   | normal=>grind
   | exit i=>exact⟨rfl,eh⟩
   | ret=>exact⟨rfl,eh⟩
  cases h
 | .cond c x y,st,bl,ans,cf,obs,e,h,a6=>by
  intro w0 a w aI;have qX:=aI;obtain⟨ω,τ,eh⟩:=qX;have ec:=eh.bj c;simp only[run]at h;split at h
  ·rename_i au;have:a.eval c=.bool true:=aE.dt au ec;exact wp_cond_true this (lX x h a6 w0 a w aI)
  ·rename_i au;have:a.eval c=.bool false:=aE.dt au ec;exact wp_cond_false this (lX y h a6 w0 a w aI)
  ·rename_i iH r au;rw[b0]at h;obtain⟨⟨bF,bY,cg,dQ⟩,aa,h⟩:=h;simp only[bq]at h;obtain⟨rfl,rfl,rfl,rfl⟩:=h;have:a.eval c=.bool iH:=aE.dt au ec;have ap:iH=true:=a6.1;exact wp_cond_true (by rw[this,ap]) (lX x aa a6.2 w0 a w aI)
  ·rename_i iH r au;rw[b0]at h;obtain⟨⟨bF,bY,cg,dQ⟩,aa,h⟩:=h;simp only[bq]at h;obtain⟨rfl,rfl,rfl,rfl⟩:=h;have:a.eval c=.bool iH:=aE.dt au ec;have ap:iH=false:=a6.1;exact wp_cond_false (by rw[this,ap]) (lX y aa a6.2 w0 a w aI)
  cases h
 | .block id body,st,bl,ans,cf,obs,e,h,a6=>by
  intro w0 a w aI;simp only[run]at h;split at h
  ·rename_i i dx eQ fm U;simp only[aT,bq]at h;obtain⟨rfl,rfl,rfl,rfl⟩:=h;refine wp_block (Code.wp_mono (fun e' cC aP hp=>?_) (lX body U a6 w0 a w aI));obtain⟨rfl,eh⟩:=hp;simp only[gQ.pC,Exit.inBlock];split
   ·exact⟨rfl,eh⟩
   exact⟨rfl,eh⟩
  rename_i c1;refine wp_block (Code.wp_mono (fun e' cC aP hp=>?_) (lX body h a6 w0 a w aI));obtain⟨rfl,eh⟩:=hp;cases e with
  | normal=>exact⟨rfl,eh⟩
  | exit i=>grind
  | ret=>exact⟨rfl,eh⟩
 | .loop body,st,bl,ans,cf,obs,e,h,a6=>by
  intro w0 a w aI;simp only[run]at h;split at h
  ·rename_i Br cK bs bD fc r;split at h
   ·cases h
   ·rename_i e1 dx c1 a7;simp only[aT,bq]at h;obtain⟨rfl,rfl,rfl,rfl⟩:=h;obtain⟨n,au⟩:=a6.1;exact wp_loop_rounds n (au w0 a w ((yS a7 aI).fa cK bs))
   cases h
  cases h
 | .exit id,st,bl,ans,cf,obs,e,h,a6=>by
  simp only[run,aT,bq]at h;obtain⟨rfl,rfl,_,_⟩:=h;exact fun w0 a w aI=>wp_exit ⟨rfl,aI⟩
 | .ret,st,bl,ans,cf,obs,e,h,a6=>by
  simp only[run,aT,bq]at h;obtain⟨rfl,rfl,_,_⟩:=h;exact fun w0 a w aI=>wp_ret ⟨rfl,aI⟩
 | .rangeFunc ..,_,_,_,_,_,_,h,_=>by simp[run]at h
 | .scope _,_,_,_,_,_,_,h,_=>by simp[run]at h
 | .goto _,_,_,_,_,_,_,h,_=>by simp[run]at h
 | .refuse _,_,_,_,_,_,_,h,_=>by simp[run]at h
end Go.Sx
namespace Go.Sx
open Go.RowKit
def aC.wT:aC->D->Option (D×Option Nat)
 | .v x,hint=>
  match x,hint with
  | .slice none 0 0,.J k _=>some (.J k [],none)
  | x,_=>if x.oneCell' then some (.v x,none) else none
 | .a1 c,_=>some (.v (.bool c),none)
 | .J (.own t) k es,_=>some (.J k es,some t)
 | _,_=>none
abbrev hf:=List (Nat×Nat)
def hf.at(t:Nat):hf->Option Nat
 | []=>none
 | (s,n)::r=>if s=t then some n else hf.at t r
def CM(n:Nat):Option Nat->hf
 | some t=>[(t,n)]
 | none=>[]
def pe(n:Nat):List aC->List D->Option (List D×hf)
 | [],[]=>some ([],[])
 | l::ls,d::ds=>
  match l.wT d,pe (n+1) ls ds with
  | some (dn,t),some (qC,ts)=>some (dn::qC,CM n t++ts)
  | _,_=>none
 | _,_=>none
def Dg(n:Nat):bg->cE->Option (cE×hf)
 | .one l,.one d=>(l.wT d).map fun x=>(.one x.1,CM n x.2)
 | .agg ls,.agg ds=>(pe n ls ds).map fun x=>(.agg x.1,x.2)
 | _,_=>none
def qg(r:Nat):List aE->List cE->Option (List cE×hf)
 | [],[]=>some ([],[])
 | .az a::ct,d::ds=>
  match Dg (100*r) a d,qg (r+1) ct ds with
  | some (dn,t),some (qC,ts)=>some (dn::qC,t++ts)
  | _,_=>none
 | _,_=>none
def CN(ts:hf):Bool:=ts.all fun x=>match ts.at x.1 with | some n=>n==x.2 | none=>false
variable{ts:hf}{n:Nat}
theorem CO(h:CN ts=true){t:Nat}(hm:(t,n)∈ts):ts.at t=some n:=by
 have:=fp.1 h _ hm;simp only at this;split at this
 ·rename_i Xg e;rw[e];simp only[jl]at this;rw[this]
 cases this
def hz(ω:Own)(ts:hf):Own:=fun b=>
 match ω b with
 | .tok t q=>match ts.at t with | some n=>.tok n q | none=>.bz
 | _=>.bz
variable{w:World}{ω:Own}{τ:Nat->Nat×Value}
theorem aC.S1{l:aC}{h d:D}{t:Option Nat}{u:Value}(aF:l.wT h=some (d,t))(aj:Sat w ω τ l u)
  (jd:∀s,t=some s->ts.at s=some n):bS w (hz ω ts) (Tag.own n).R d u:=by
 cases l with
 | cp=>cases aF
 | v x=>
  have e:u=x:=aj;subst e;simp only[aC.wT]at aF;split at aF
  ·simp only[aT,bq]at aF;obtain⟨rfl,_⟩:=aF;exact .nil _ _ _
  split at aF
  ·simp only[aT,bq]at aF;obtain⟨rfl,_⟩:=aF;exact .v _ _ ‹_›
  cases aF
 | a1 c=>
  have e:u=.bool c:=aj;subst e;simp only[aC.wT,aT,bq]at aF;obtain⟨rfl,_⟩:=aF;exact .v _ _ rfl
 | J g k es=>
  cases g with
  | free=>cases aF
  | ro s=>cases aF
  | own s=>
   simp only[aC.wT,aT,bq]at aF;obtain⟨rfl,rfl⟩:=aF;refine aj.1.frame fun b q _ aM=>⟨?_,rfl⟩
   simp only[Tag.R]at aM ⊢;simp only[hz,aM,jd s rfl]
 | ptr=>cases aF
 | cU=>cases aF
 | gZ=>cases aF
 | fd=>cases aF
 | c9=>cases aF
 | fK=>cases aF
 | aL=>cases aF
 | eS=>cases aF
theorem PB{t:Option Nat}{s:Nat}(h:t=some s):(s,n)∈CM n t:=by subst h;simp[CM]
theorem H5{w:World}{ω:Own}{τ:Nat->Nat×Value}(jd:∀t n,(t,n)∈ts->ts.at t=some n):∀{ls:List aC} {aj ds:List D} {n:Nat} {jG:hf},pe n ls aj=some (ds,jG)->(∀x∈jG,x∈ts)->
  ds.length=ls.length/\∀(j:Nat) (d:D),ds[j]?=some d->∃l,ls[j]?=some l/\∀u,Sat w ω τ l u->bS w (hz ω ts) (Tag.own (n+j)).R d u
 | [],[],ds,n,jG,h,_=>by
  simp only[pe,aT,bq]at h;obtain⟨rfl,_⟩:=h;exact⟨rfl,fun j d aF=>by simp at aF⟩
 | l::ls,bV::aj,ds,n,jG,h,h1=>by
  simp only[pe]at h;split at h
  ·rename_i dn t qC rK e1 e2;simp only[aT,bq]at h;obtain⟨rfl,rfl⟩:=h;obtain⟨U,aa⟩:=H5 (w:=w) (ω:=ω) (τ:=τ) jd e2 (fun x ao=>h1 x (ig _ ao));refine⟨by simp[U],fun j d aF=>?_⟩;cases j with
   | zero=>
    simp at aF;subst aF;exact⟨l,rfl,fun u hu=>aC.S1 e1 hu fun s c5=>jd s n (h1 _ (hG _ (PB c5)))⟩
   | succ j=>
    obtain⟨gD,aA,aO⟩:=aa j d (by simpa using aF);refine⟨gD,by simpa using aA,fun u hu=>?_⟩;have:=aO u hu;rwa[show n+1+j=n+(j+1) by omega]at this
  cases h
 | [],_::_,_,_,_,h,_=>by simp[pe]at h
 | _::_,[],_,_,_,h,_=>by simp[pe]at h
theorem aj9(jd:∀t n,(t,n)∈ts->ts.at t=some n){a:bg}{h d:cE}{r:Nat}{jG:hf}(aI:Dg (100*r) a h=some (d,jG))(h1:∀x∈jG,x∈ts)
  {y:Value} (aj:iZ (Sat w ω τ) a y):kM w (hz ω ts) r d y:=by
 cases a with
 | one l=>
  cases h with
  | agg c5=>cases aI
  | one bV=>
   simp only[Dg,b0]at aI;obtain⟨⟨dn,t⟩,U,aa⟩:=aI;simp only[bq]at aa;obtain⟨rfl,rfl⟩:=aa;exact aC.S1 U aj fun s c5=>jd s _ (h1 _ (PB c5))
 | agg ls=>
  cases h with
  | one bV=>cases aI
  | agg c5=>
   simp only[Dg,b0]at aI;obtain⟨⟨ds,t⟩,U,aa⟩:=aI;simp only[bq]at aa;obtain⟨rfl,rfl⟩:=aa;obtain⟨aA,aO⟩:=H5 (w:=w) (ω:=ω) (τ:=τ) jd U h1;obtain⟨vs,rfl,a7,br⟩:=aj;refine⟨vs,rfl,by omega,fun j qB aF=>?_⟩;obtain⟨l,au,c2⟩:=aO j qB aF;obtain⟨u,hu,eV⟩:=br j l au;exact⟨u,hu,c2 u eV⟩
theorem CP{w:World}{ω:Own}{τ:Nat->Nat×Value}{ts:hf}(jd:∀t n,(t,n)∈ts->ts.at t=some n):∀{ct:List aE} {aj ds:List cE} {r:Nat} {jG:hf},qg r ct aj=some (ds,jG)->(∀x∈jG,x∈ts)->
  ds.length=ct.length/\∀(j:Nat) (d:cE),ds[j]?=some d->∃p,ct[j]?=some p/\∀u,cH (Sat w ω τ) p u->kM w (hz ω ts) (r+j) d u
 | [],[],ds,r,jG,h,_=>by
  simp only[qg,aT,bq]at h;obtain⟨rfl,_⟩:=h;exact⟨rfl,fun j d aF=>by simp at aF⟩
 | .az a::ct,bV::aj,ds,r,jG,h,h1=>by
  simp only[qg]at h;split at h
  ·rename_i dn t qC rK e1 e2;simp only[aT,bq]at h;obtain⟨rfl,rfl⟩:=h;obtain⟨U,aa⟩:=CP (w:=w) (ω:=ω) (τ:=τ) jd e2 (fun x ao=>h1 x (ig _ ao));refine⟨by simp[U],fun j d aF=>?_⟩;cases j with
   | zero=>
    simp at aF;subst aF;exact⟨.az a,rfl,fun u hu=>aj9 jd e1 (fun x ao=>h1 x (hG _ ao)) hu⟩
   | succ j=>
    obtain⟨gD,aA,aO⟩:=aa j d (by simpa using aF);refine⟨gD,by simpa using aA,fun u hu=>?_⟩;have:=aO u hu;rwa[show r+1+j=r+(j+1) by omega]at this
  cases h
 | [],_::_,_,_,_,h,_=>by simp[qg]at h
 | .az _::_,[],_,_,_,h,_=>by simp[qg]at h
 | .ek _::_,_,_,_,_,h,_=>by simp[qg]at h
def cE.arg:cE->bg
 | .one d=>.one (d.leaf .free)
 | .agg ds=>.agg (ds.map (D.leaf .free))
def wz(args:List cE)(ntmps:Nat):aD:=⟨args.map (fun a=>.az a.arg)++List.replicate (ntmps-args.length) .cp,[]⟩
theorem jX.leaf{d:D}{u:Value}(h:jX w d u):Sat w (fun _=>.bz) τ (d.leaf .free) u:=D.dt (p:=(0,0)) h
theorem aka{args:List cE}{vs:Array Value}(oF:me w)(h:BC w args vs)(ntmps:Nat):
  Rel (dY.of w) (wz args ntmps) { tmps:=vs++Array.replicate (ntmps-vs.size) undef,defers:=[] } w:=by
 refine⟨fun _=>.bz,fun _=>(0,undef),rfl,by simp[wz,h.1],fX.refl _ oF (fun _ _ h=>h),fun b aw=>absurd rfl aw,fun _ _=>rfl,(fun _ _ _ h=>by cases h),?_,fun id ls au=>by simp[wz,dh]at au⟩;intro i p hp;simp only[wz]at hp;rw[n5,cr]at hp;split at hp
 ·rename_i hi;rw[dk,b0]at hp;obtain⟨cl,E4,rfl⟩:=hp;obtain⟨v,br,cG⟩:=h.2 i cl E4;refine⟨v,?_,?_⟩
  ·rw[kU,bU (by rw[h.1];exact hi)];exact br
  cases cl with
  | one d=>exact jX.leaf cG
  | agg ds=>
   obtain⟨us,rfl,a7,hu⟩:=cG;refine⟨us,rfl,by simpa using a7,fun j l au=>?_⟩;rw[dk,b0]at au;obtain⟨d,aF,rfl⟩:=au;obtain⟨u,U,aa⟩:=hu j d aF;exact⟨u,U,jX.leaf aa⟩
 rename_i hi;rw[Ak]at hp;split at hp
 ·rename_i bM;simp only[aT]at hp;subst hp;refine⟨undef,?_,ad⟩;rw[kU,bE (by rw[h.1];exact hi),Array.getElem?_replicate,bU (by rw[h.1];exact bM)]
 cases hp
def oZ(P:Program)(st:aD):ResultVar->Option aE
 | .tmp t=>some (st.bj (.tmp t))
 | .cell a t=>
  match uE P t,P.info? t,(st.bj (.tmp a)).leaf with
  | some agg,some i,some (.ptr id off)=>
   match dh id st.boxes with
   | some ls=>p7 agg i.size ls off
   | none=>none
  | _,_,_=>none
def ym(tmps:Array Value):ResultVar->Sem Value
 | .tmp t=>pure (tmps.getD t undef)
 | .cell x t=>do loadVar t (<-asAddr (tmps.getD x undef))
theorem H6(fn:Func)(tmps:Array Value):results fn tmps=(do
  let vs <-fn.results.mapM (ym tmps)
  pure (if h:vs.size=1 then vs[0] else .tuple vs)):=by
 unfold results;have:(fun x=>match x with | .tmp t=>pure (tmps.getD t undef) | .cell a t=>do loadVar t (<-asAddr (tmps.getD a undef)):ResultVar->Sem Value)=ym tmps:=by
  funext x;cases x<;>rfl
 rw[<-this];rfl
variable{P:Program}{st:aD}
theorem akb{w0:dY}{a:Act}(aW:cy w0 st a w ω τ){r:ResultVar}{p:aE}(h:oZ P st r=some p):
  ∃z,(ym a.tmps r).run P w=.ok z w/\cH (Sat w ω τ) p z:=by
 cases r with
 | tmp t=>
  simp only[oZ,aT]at h;subst h;exact⟨_,rfl,aW.bj (.tmp t)⟩
 | cell x t=>
  simp only[oZ]at h;split at h
  ·rename_i agg i id off e1 e2 ch;split at h
   ·rename_i ls cZ;have ao:=aE.dt ch (aW.bj (.tmp x));obtain⟨b,aw,ao⟩:=ao;simp only[Act.eval]at ao;obtain⟨de,arr,ty,eE,Bj,Fl,eL,ec⟩:=aW.boxes id ls cZ;have:=Bj b aw;subst this;have:=v7 (P:=P) e1 e2 h Fl (base:=0) (by omega) (fun j l au=>by simpa using ec j l au);simpa[ym,ao,asAddr]using this
   cases h
  cases h
def Dh(P:Program)(st:aD)(iz:List ResultVar)(hint:List cE):Option (List cE):=
 match iz.mapM (oZ P st) with
 | some ct=>
  match qg 0 ct hint with
  | some (ds,ts)=>if CN ts then some ds else none
  | none=>none
 | none=>none
theorem CQ{w0:dY}{a:Act}(aW:cy w0 st a w ω τ):∀{iz:List ResultVar} {ct:List aE},iz.mapM (oZ P st)=some ct->
  ∃zs:List Value,(iz.mapM (ym a.tmps)).run P w=.ok zs w/\zs.length=ct.length/\∀(i:Nat) (p:aE),ct[i]?=some p->∃z,zs[i]?=some z/\cH (Sat w ω τ) p z
 | [],ct,h=>by simp at h;subst h;exact⟨[],rfl,rfl,fun i p hp=>by simp at hp⟩
 | r::iz,ct,h=>by
  rw[xa]at h;cases e:oZ P st r with
  | none=>simp[e]at h
  | some ki=>
   cases e2:iz.mapM (oZ P st) with
   | none=>simp[e,e2]at h
   | some atH=>
    simp[e,e2]at h;subst h;obtain⟨z,U,aa⟩:=akb aW e;obtain⟨zs,aA,aO,a8⟩:=CQ aW e2;refine⟨z::zs,?_,by simp[aO],fun i p hp=>?_⟩
    ·rw[xa,Sem.run_bind,U,Result.andThen_ok,Sem.run_bind,aA];rfl
    cases i with
    | zero=>simp at hp;subst hp;exact⟨z,rfl,aa⟩
    | succ i=>exact a8 i p (by simpa using hp)
theorem PC{f:FuncId}{fn:Func}{c:Code}{args rs:List cE}{ans cf:List b'}{obs:List Prop}{e:gQ}(b7:P.funcs[f]?=some fn)(aw:fn.body=some c)
  (fO:run P c (wz args fn.ntmps) ans=some (e,st,cf,obs)) (a6:cv obs) (he:e=.ret\/e=.normal) (eF:Dh P st fn.results.toList rs=some rs):hI P f args rs:=by
 intro w vs oF k4;refine calls_of_wp b7 aw (Code.wp_mono (fun e' cC aP hp=>?_) (lX c fO a6 (dY.of w) _ w (aka oF k4 fn.ntmps)));obtain⟨rfl,ω,τ,aW⟩:=hp;unfold Dh at eF;split at eF
 ·rename_i ct qW;split at eF
  ·rename_i ds ts er;split at eF
   ·rename_i cG;simp only[aT]at eF;subst eF;obtain⟨zs,U,aa,aA⟩:=CQ aW qW;obtain⟨aO,a8⟩:=CP (w:=aP) (ω:=ω) (τ:=τ) (fun t n h=>CO cG h) er (fun x ao=>ao);have hm:=BO (P:=P) _ fn.results aP _ U;have eI:∀(j:Nat) (d:cE),ds[j]?=some d->∃z,zs[j]?=some z/\kM aP (hz ω ts) j d z:=by
     intro j d aF;obtain⟨p,hp,qV⟩:=a8 j d aF;obtain⟨z,bk,q4⟩:=aA j p hp;exact⟨z,bk,by have:=qV z q4;rwa[dL]at this⟩
    have kH:zs.length=ds.length:=by omega
    have VR:∀v,(if h:zs.toArray.size=1 then zs.toArray[0] else .tuple zs.toArray)=v->tr w aP ds v:=by
     intro v br;refine⟨hz ω ts,fun b aw=>?_,fun b aw=>?_,?_⟩
     ·cases c8:ω b with
      | bz=>simp[hz,c8]
      | box id=>simp[hz,c8]
      | tok t q=>
       rcases (aW.owned b (by simp[c8])).1 with h | h
       ·exact absurd aw (by have h:w.heap.size<=b:=h;omega)
       exact absurd h (fun h=>h)
     ·cases c8:ω b with
      | bz=>simp[hz,c8]at aw
      | box id=>simp[hz,c8]at aw
      | tok t q=>
       refine⟨?_,(aW.owned b (by simp[c8])).2⟩;simp only[hz,c8]at aw ⊢;cases jd:ts.at t with
       | none=>simp[jd]at aw
       | some n=>exact⟨n,q,rfl⟩
     unfold lV;split
     ·rename_i cl;obtain⟨z,bk,ap⟩:=eI 0 cl rfl;have U:zs.length=1:=by rw[kH];rfl
      have pP:zs=[z]:=by
       match zs,U,bk with
       | [z0],_,bk=>simp at bk;rw[bk]
      have FR:v=z:=by
       rw[<-br];simp[pP]
      rw[FR];exact ap
     rename_i c1;have U:¬zs.toArray.size=1:=by
      intro h;simp at h;rw[kH]at h;obtain⟨d,aF⟩:=List.length_eq_one_iff.1 h;exact c1 d aF
     rw[dif_neg U]at br;exact⟨zs.toArray,br.symm,by simpa using kH,fun r cl aI=>by obtain⟨z,bk,ap⟩:=eI r cl aI;exact⟨z,by simpa using bk,ap⟩⟩
    have dz:∃v,(results fn cC.tmps).run P aP=.ok v aP/\∃u,Ending.returned v=.returned u/\fC w.heap.size w aP/\tr w aP ds u:=by
     refine⟨_,?_,_,rfl,aW.below.below,VR _ rfl⟩;rw[H6,Sem.run_bind,hm];rfl
    obtain⟨v,bG,b9⟩:=dz;rcases he with rfl | rfl
    ·exact⟨aW.defers,v,bG,b9⟩
    exact⟨aW.defers,v,bG,b9⟩
   cases eF
  cases eF
 cases eF
end Go.Sx
namespace Go.Sx
open Go.RowKit
def GQ(P:Program)(c:Code)(ntmps:Nat)(iz:List ResultVar)(args hint:List cE)(ans:List b'):Option (List cE×List Prop):=
 match run P c (wz args ntmps) ans with
 | some (.ret,st,_,obs)=>(Dh P st iz hint).map fun rs=>(rs,obs)
 | some (.normal,st,_,obs)=>(Dh P st iz hint).map fun rs=>(rs,obs)
 | _=>none
def mL(fn:Func):Code:=fn.body.getD .skip
variable{P:Program}
theorem hI.of{f:FuncId}{fn:Func}{args rs:List cE}(ans:List b')(obs:List Prop)(b7:P.funcs[f]?=some fn)(aw:fn.body.isSome=true)
  (h:GQ P (mL fn) fn.ntmps fn.results.toList args rs ans=some (rs,obs)) (a6:cv obs):hI P f args rs:=by
 obtain⟨c,ap⟩:=pq.1 aw;have xK:mL fn=c:=by simp[mL,ap]
 unfold GQ at h;rw[xK]at h;split at h
 ·rename_i st a ld aI;rw[b0]at h;obtain⟨s8,U,h⟩:=h;simp only[bq]at h;obtain⟨rfl,rfl⟩:=h;exact PC b7 ap aI a6 (.inl rfl) U
 ·rename_i st a ld aI;rw[b0]at h;obtain⟨s8,U,h⟩:=h;simp only[bq]at h;obtain⟨rfl,rfl⟩:=h;exact PC b7 ap aI a6 (.inr rfl) U
 cases h
def Bp(P:Program)(body:Code)(st:aD)(ans:List b')(cK bs:List Nat):Option (gQ×aD×List Prop):=
 (run P body st ans).map fun r=>(r.1,r.2.1.fa cK bs,r.2.2.2)
variable{body:Code}{st bl:aD}{e:gQ}
theorem fJ.Nl{ans:List b'}{cK bs:List Nat}{obs:List Prop}(h:Bp P body st ans cK bs=some (e,bl,obs))(a6:cv obs):fJ P body st e bl:=by
 unfold Bp at h;rw[b0]at h;obtain⟨⟨bF,bY,cg,dQ⟩,U,h⟩:=h;simp only[bq]at h;obtain⟨rfl,rfl,rfl⟩:=h;intro w0 a w aI;exact Code.wp_mono (fun e' cC aP ⟨U,aa⟩=>⟨U,aa.fa cK bs⟩) (lX body U a6 w0 a w aI)
def GD(P:Program)(body:Code)(st:aD)(ans:List b')(ns:List (Nat×Nat×Nat))(cK bs:List Nat):Option (gQ×aD×List Prop):=
 (run P body st ans).bind fun r=>(sH r.2.1 ns).map fun s=>(r.1,s.fa cK bs,r.2.2.2)
theorem fJ.Xk{ans:List b'}{ns:List (Nat×Nat×Nat)}{cK bs:List Nat}{obs:List Prop}(h:GD P body st ans ns cK bs=some (e,bl,obs))(a6:cv obs):fJ P body st e bl:=by
 unfold GD at h;rw[kW]at h;obtain⟨⟨bF,bY,cg,dQ⟩,U,h⟩:=h;rw[b0]at h;obtain⟨s,aj,h⟩:=h;simp only[bq]at h;obtain⟨rfl,rfl,rfl⟩:=h;intro w0 a w aI;exact Code.wp_mono (fun e' cC aP ⟨U,aa⟩=>⟨U,(yS aj aa).fa cK bs⟩) (lX body U a6 w0 a w aI)
theorem c0.step{dx:aD}(ans:List b')(cK bs:List Nat)(obs:List Prop)(h:Bp P body st ans cK bs=some (.normal,dx,obs))(a6:cv obs)(aa:c0 P body dx e bl):c0 P body st e bl:=
 .more (fJ.Nl h a6) aa
theorem cI(i:Nat):(gQ.exit i).pC≠.normal:=fun h=>by cases h
theorem eJ:gQ.ret.pC≠.normal:=fun h=>by cases h
def sI:Code->List Code
 | .seq a b=>sI a++sI b
 | .cond _ a b=>sI a++sI b
 | .block _ b=>sI b
 | .loop b=>b::sI b
 | .scope b=>sI b
 | _=>[]
def aq(fn:Func)(i:Nat):Code:=(sI (mL fn)).getD i .skip
def sJ:Code->List (Nat×Array Oper)
 | .region id ops true=>[(id,ops)]
 | .seq a b=>sJ a++sJ b
 | .cond _ a b=>sJ a++sJ b
 | .block _ b=>sJ b
 | .loop b=>sJ b
 | .scope b=>sJ b
 | _=>[]
def ci(fn:Func)(id:Nat):Array Oper:=(((sJ (mL fn)).find? fun x=>Nat.beq x.1 id).map (·.2)).getD #[]
def Vd(n:Nat)(l:List (Nat×aE)):List aE:=l.foldl (fun e x=>e.set x.1 x.2) (List.replicate n .cp)
abbrev I(n:Int):D:=.v (.int .i64 n)
abbrev B(b:Bool):D:=.v (.bool b)
abbrev gR(s:ByteArray):D:=.v (.string s)
end Go.Sx
namespace Go.Sx
open Go.RowKit
inductive iF (P:Program):TypeId->List D->Prop
 | bool (t:TypeId) (b:Bool) (h:P.underlying t=some .bool):iF P t [.v (.bool b)]
 | int (t:TypeId) (k:IntKind) (n:Int) (h:P.underlying t=some (.int k)) (hw:(Lit.int k n).wf=true):iF P t [.v (.int k n)]
 | str (t:TypeId) (s:ByteArray) (h:P.underlying t=some .string) (aj:s.size<=maxLen):iF P t [.v (.string s)]
 | J (t e:TypeId) (es:List (List D)) (h:P.underlying t=some (.slice e)) (au:es.length<=maxLen) (he:∀ds∈es,iF P e ds):iF P t [.J (P.cellsOf e) es]
 | struct (t:TypeId) (ey:Array Field) (ds:List D) (h:P.underlying t=some (.struct ey)) (au:ds.length=P.cellsOf t) (b7:∀f∈ey.toList,iF P f.type ((ds.drop f.offset).take (P.cellsOf f.type))):iF P t ds
def s'(P:Program):Nat->List Field->Nat->Bool
 | o,[],n=>o==n
 | o,f::r,n=>f.offset==o&&s' P (o+P.cellsOf f.type) r n
def sK(P:Program):Nat->TypeId->Bool
 | 0,_=>false
 | m+1,t=>
  match P.underlying t with
  | some .bool | some (.int _) | some .string=>true
  | some (.slice e)=>decide (0<P.cellsOf e)&&sK P m e
  | some (.struct ey)=>ey.toList.all (fun f=>sK P m f.type)&&s' P 0 ey.toList (P.cellsOf t)
  | _=>false
def m'(w:World)(ds:List D)(cs:List Value):Prop:=ds.length=cs.length/\∀(i:Nat) (d:D),ds[i]?=some d->∃v,cs[i]?=some v/\jX w d v
theorem m'.one{w:World}{d:D}{v:Value}(h:jX w d v):m' w [d] [v]:=
 ⟨rfl,fun i dn aF=>by
  cases i with
  | zero=>simp at aF;subst aF;exact⟨v,rfl,h⟩
  | succ i=>simp at aF⟩
theorem m'.append{w:World}{a b:List D}{x y:List Value}(h:m' w a x)(k:m' w b y):m' w (a++b) (x++y):=by
 refine⟨by simp[h.1,k.1],fun i d aF=>?_⟩;rw[n5]at aF ⊢;rw[<-h.1];split at aF
 ·rename_i hi;rw[bU hi];exact h.2 i d aF
 rename_i hi;rw[bE hi];exact k.2 _ d aF
theorem H7{P:Program}:∀{gU:List Field} {o n:Nat},s' P o gU n=true->o<=n/\∀f∈gU,o<=f.offset/\f.offset+P.cellsOf f.type<=n
 | [],o,n,h=>by simp[s']at h;exact⟨by omega,fun f b7=>by cases b7⟩
 | f::r,o,n,h=>by
  simp only[s',cJ,jl]at h;obtain⟨U,aa⟩:=H7 h.2;refine⟨by omega,fun g ay=>?_⟩;rcases ep.1 ay with rfl | ay
  ·exact⟨by omega,by omega⟩
  have:=aa g ay;exact⟨by omega,this.2⟩
theorem Tb{P:Program}{w:World}{cs:List Value}:∀{gU:List Field} {o:Nat},s' P o gU cs.length=true->
  (∀f∈gU,∃ds,iF P f.type ds/\m' w ds ((cs.drop f.offset).take (P.cellsOf f.type)))->
  ∃ds,m' w ds (cs.drop o)/\∀f∈gU,iF P f.type ((ds.drop (f.offset-o)).take (P.cellsOf f.type))
 | [],o,h,_=>by
  simp only[s',jl]at h;subst h;exact⟨[],⟨by simp,fun i d aF=>by simp at aF⟩,fun f b7=>by cases b7⟩
 | f::r,o,h,b7=>by
  have hle:=H7 h;simp only[s',cJ,jl]at h;obtain⟨bV,h⟩:=h;obtain⟨ds,U,aa⟩:=Tb h fun g ay=>b7 g (by simp[ay])
  obtain⟨d0,aA,aO⟩:=b7 f (by simp);have Fv:d0.length=P.cellsOf f.type:=by
   rw[aO.1];have:=(hle.2 f (by simp)).2;simp;omega
  refine⟨d0++ds,?_,?_⟩
  ·have:cs.drop o=(cs.drop f.offset).take (P.cellsOf f.type)++cs.drop (o+P.cellsOf f.type):=by
    rw[bV,<-List.drop_drop];exact (ar9 _ _).symm
   rw[this];exact aO.append U
  intro g ay;rcases ep.1 ay with rfl | ay
  ·rw[bV,Nat.sub_self,xb,UP (by omega),D6 (by omega)];exact aA
  have asY:=aa g ay;have:=(H7 h).2 g ay;rw[List.drop_append,List.drop_eq_nil_of_le (show d0.length<=g.offset-o by omega),List.nil_append,Fv];rwa[show g.offset-o-P.cellsOf f.type=g.offset-(o+P.cellsOf f.type) by omega]
section
variable {H : Type} {enc : TypeId × Value -> H} {P : Program} {w : World} {base : Nat} {held : Bool}
theorem CR{a:Addr}{k:Nat}{cs:List Value}(h:w.cells? base a k=some cs):cs.length=k/\∀i,i<k->w.cell? (a.add i)=cs[i]?:=by
 unfold World.cells? at h;split at h
 ·exact⟨by simpa using mapM_some_length h,fun i hi=>mapM_some_get h i i (by simp[hi])⟩
 cases h
theorem H8{a:Addr}{v:Value}(h:w.cell? a=some v):∃arr ty cF,w.heap[a.block]?=some (.cells arr ty cF)/\a.spot=none/\arr[a.off]?=some v:=by
 unfold World.cell? at h;split at h
 ·rename_i arr ty cF e;split at h
  ·cases h
  rename_i aj;refine⟨arr,ty,cF,e,?_,h⟩;cases FM:a.spot with
  | none=>rfl
  | some x=>simp[FM]at aj
 cases h
theorem H9:∀(m:Nat) (t:TypeId) (gl:Nat) (cs:List Value) (x:DataW H×List MemPlace),sK P m t=true->DataW.trod enc P w base (fun _=>true) held gl t cs=some x->
  ∃ds,iF P t ds/\m' w ds cs
 | 0,_,_,_,_,h,_=>by cases h
 | m+1,t,gl,cs,x,aj,h=>by
  unfold sK at aj;split at aj
  ·rename_i hu;obtain⟨b,rfl,_⟩:=DataW.trod_bool hu h;exact⟨_,.bool t b hu,.one (.v _ _ rfl)⟩
  ·rename_i k hu;obtain⟨n,rfl,_,hw⟩:=DataW.trod_int hu h;exact⟨_,.int t k n hu hw,.one (.v _ _ rfl)⟩
  ·rename_i hu;obtain⟨s,rfl,_,hw⟩:=DataW.trod_string hu h;exact⟨_,.str t s hu hw,.one (.v _ _ rfl)⟩
  ·rename_i e hu;simp only[cJ,cW]at aj;obtain⟨mq,MR⟩:=aj;rcases DataW.trod_slice hu h with⟨rfl,_⟩ | ⟨a,len,cap,L3,rest,n,_,rfl,_,_,au,ap,hlen,vH,FM,_⟩
   ·exact⟨_,.J t e [] hu (by simp) (fun ds er=>by cases er),.one (.nil _ _ _)⟩
   obtain⟨MP,MO⟩:=FM rfl;generalize gp:P.cellsOf e=k at*;have gV:∀i,i<cap->∃cs,w.cells? base (a.add (i*k)) k=some cs/\∃x,DataW.trod enc P w base (fun _=>true) held n e cs=some x:=by
    intro i hi;by_cases ij:i<len
    ·have:=vH i ij;obtain⟨y,bO⟩:∃y,L3[i]?=some y:=⟨L3[i],ih (by omega)⟩
     rw[bO,kW]at this;obtain⟨cs,U,aa⟩:=this;exact⟨cs,U,y,aa⟩
    have:=MO (i-len) (by omega);rw[show len+(i-len)=i by omega]at this;obtain⟨y,bO⟩:∃y,rest[i-len]?=some y:=⟨rest[i-len],ih (by omega)⟩
    rw[bO,kW]at this;obtain⟨cs,U,aa⟩:=this;exact⟨cs,U,y,aa⟩
   by_cases hZ:cap=0
   ·subst hZ;have:len=0:=by omega
    subst this;have:=iF.J (P:=P) t e [] hu (by simp) (fun ds er=>by cases er);exact⟨_,this,.one (.nil _ _ _)⟩
   have VO:∀i,∃ds,i<len->iF P e ds/\∃cs,w.cells? base (a.add (i*k)) k=some cs/\m' w ds cs:=by
    intro i;by_cases hi:i<len
    ·obtain⟨cs,U,x,aa⟩:=gV i (by omega);obtain⟨ds,aA,aO⟩:=H9 m e n cs x MR aa;exact⟨ds,fun _=>⟨aA,cs,U,aO⟩⟩
    exact⟨[],fun h=>absurd h hi⟩
   obtain⟨f,b7⟩:=Classical.skolem.1 VO;obtain⟨bI,qN,_⟩:=gV (cap-1) (by omega);obtain⟨asN,VG⟩:=CR qN;have si:=VG (k-1) (by omega);obtain⟨atT,WT⟩:∃v,bI[k-1]?=some v:=⟨bI[k-1],ih (by omega)⟩
   rw[WT]at si;obtain⟨b,off,spot⟩:=a;have WG:spot=none:=by
    obtain⟨df,AZ,_⟩:=gV 0 (by omega);obtain⟨asM,VB⟩:=CR AZ;have bV:=VB 0 mq;obtain⟨v0,WQ⟩:∃v,df[0]?=some v:=⟨df[0],ih (by omega)⟩
    rw[WQ]at bV;obtain⟨_,_,_,_,U,_⟩:=H8 bV;simpa[Addr.add]using U
   subst WG;obtain⟨arr,ty,cF,aw,_,si⟩:=H8 si;simp only[pb]at aw si;have eL:off+cap*k<=arr.size:=by
    have U:=(iV.1 si).1;have aa:cap*k=(cap-1)*k+k:=by rw[<-Nat.succ_mul];congr 1;omega
    omega
   have tL:((List.range len).map f).length=len:=by simp
   have hM:∀i j d,cN ((List.range len).map f) i j=some d->i<len/\(f i)[j]?=some d:=by
    intro i j d aF;unfold cN at aF;rw[dk]at aF;by_cases hi:i<len
    ·rw[List.getElem?_range hi]at aF;exact⟨hi,by simpa using aF⟩
    rw[List.getElem?_eq_none (by simpa using hi)]at aF;simp at aF
   have eI:∀i j d,cN ((List.range len).map f) i j=some d->∃u,arr[off+i*k+j]?=some u/\jX w d u:=by
    intro i j d aF;obtain⟨hi,bm⟩:=hM i j d aF;obtain⟨_,cs,U,aa⟩:=b7 i hi;obtain⟨VF,qM⟩:=CR U;obtain⟨u,il,aI⟩:=aa.2 j d bm;have xQ:j<k:=by rw[<-VF];exact (fA.1 il).1
    have:=qM j xQ;rw[il]at this;obtain⟨ja,jk,EL,gI,_,ao⟩:=H8 this;simp only[pb]at gI ao;rw[aw]at gI;cases gI;exact⟨u,ao,aI⟩
   have Be:bS w (fun _=>.bz) Tag.free.R (.J k ((List.range len).map f)) (.slice (some ⟨b,off,none⟩) ((List.range len).map f).length cap):=by
    refine .row _ k _ b off cap arr ty cF (fun i j=>arr.getD (off+i*k+j) undef) aw rfl (by omega) eL ?_ ?_ ?_
    ·intro e' he;obtain⟨i,hi,rfl⟩:=kX.1 he;obtain⟨_,cs,U,aa⟩:=b7 i (by simpa using hi);rw[aa.1];exact (CR U).1
    ·intro i j d aF;obtain⟨u,U,_⟩:=eI i j d aF;rw[U];simp[eg,U]
    intro i j d aF;obtain⟨u,U,aa⟩:=eI i j d aF;have:arr.getD (off+i*k+j) undef=u:=by simp[eg,U]
    rw[this];exact aa
   rw[tL]at Be;have nD:=iF.J (P:=P) t e ((List.range len).map f) hu (by rw[tL];omega);rw[gp]at nD;refine⟨_,nD ?_,.one Be⟩;intro ds er;obtain⟨i,hi,rfl⟩:=kX.1 er;exact (b7 i (by simpa using hi)).1
  ·rename_i ey hu;simp only[cJ,fp]at aj;obtain⟨qZ,tQ⟩:=aj;obtain⟨xs,n,_,_,au,k7,b7⟩:=DataW.trod_struct hu h;rw[<-au]at tQ;obtain⟨ds,U,aa⟩:=Tb (w:=w) tQ fun f Mq=>by
    obtain⟨i,hi⟩:=pr.1 Mq;have:=b7 i f (by simpa using hi);have kD:i<xs.length:=by rw[k7];have:=(fA.1 hi).1;simpa using this
    rw[ih kD]at this;exact H9 m f.type n _ _ (qZ f Mq) this
   rw[xb]at U;exact⟨ds,.struct t ey ds hu (by rw[U.1,au]) (by simpa using aa),U⟩
  cases aj
end
end Go.Sx
namespace Go.Sx
open Go.ChangeShapes Go.WideShapes Go.ChangeAt Go.RowKit Go.Joins
def qs(P:Program)(t:TypeId):Bool:=match P.underlying t with | some (.struct _)=>true | _=>false
def Ay(P:Program)(t:TypeId):cE->Prop
 | .one d=>iF P t [d]/\qs P t=false
 | .agg ds=>iF P t ds/\qs P t=true
def Az(P:Program):List TypeId->List cE->Prop
 | [],[]=>True
 | t::ts,a::as=>Ay P t a/\Az P ts as
 | _,_=>False
section
variable {H : Type} {enc : TypeId × Value -> H} {P : Program} {w : World} {base cj : Nat} {held : Bool} {r : Reach}
theorem ajm{t:TypeId}{v:Value}{d:DataW H}{ct:List MemPlace}(aj:sK P 20 t=true)(fY:Value.okWide P w r cj t v)(h:DataW.Trod enc P w base (fun _=>true) held t v d ct):
  ∃cl,Ay P t cl/\tn w cl v:=by
 obtain⟨gl,b7⟩:=h;obtain⟨ds,U,aa⟩:=H9 20 t gl _ _ aj b7;have one:(∀cs,v≠.agg cs)->qs P t=false->∃cl,Ay P t cl/\tn w cl v:=by
  intro br ai;have ap:v.cells.toList=[v]:=by
   cases v<;>first | rfl | (exact absurd rfl (br _))
  rw[ap]at aa
  match ds,U,aa with
  | [d],U,aa=>
   obtain⟨u,hu,aI⟩:=aa.2 0 d rfl;simp at hu;subst hu;exact⟨.one d,⟨U,ai⟩,aI⟩
  | [],_,aa=>simp[m']at aa
  | _::_::_,_,aa=>simp[m']at aa
 rw[show (20:Nat)=19+1 from rfl]at aj;unfold sK at aj;unfold Value.okWide at fY;split at aj
 ·rename_i hu;rw[hu]at fY;refine one (fun cs e=>?_) (by simp[qs,hu]);subst e;simp[Cell.okWide,Cell.ok,hu]at fY
 ·rename_i hu;rw[hu]at fY;refine one (fun cs e=>?_) (by simp[qs,hu]);subst e;simp[Cell.okWide,Cell.ok,hu]at fY
 ·rename_i hu;rw[hu]at fY;refine one (fun cs e=>?_) (by simp[qs,hu]);subst e;simp[Cell.okWide,Cell.ok,hu]at fY
 ·rename_i hu;rw[hu]at fY;refine one (fun cs e=>?_) (by simp[qs,hu]);subst e;simp[Cell.okWide,Cell.ok,hu]at fY
 ·rename_i hu;rw[hu]at fY;obtain⟨cs,rfl,_,_⟩:=fY;refine⟨.agg ds,⟨U,by simp[qs,hu]⟩,cs,rfl,by have:=aa.1;simpa[Value.cells]using this.symm,fun i d aF=>?_⟩;obtain⟨u,il,aI⟩:=aa.2 i d aF;exact⟨u,by simpa[Value.cells]using il,aI⟩
 cases aj
theorem PD:∀(ts:List TypeId) (vs:List Value) (ds:List (DataW H)) (ct:List MemPlace),ts.all (sK P 20)=true->(∀(j:Nat) t v,ts[j]?=some t->vs[j]?=some v->Value.okWide P w r cj t v)->
  DataW.TrodAll enc P w base (fun _=>true) held ts vs ds ct->∃fD,Az P ts fD/\vs.length=fD.length/\∀(i:Nat) (cl:cE),fD[i]?=some cl->∃v,vs[i]?=some v/\tn w cl v
 | [],[],[],_,_,_,_=>⟨[],ad,rfl,fun i cl h=>by simp at h⟩
 | t::ts,v::vs,d::ds,ct,aj,fY,h=>by
  obtain⟨p,q,U,aa,_⟩:=h;simp only[List.all_cons,cJ]at aj;obtain⟨cl,Vs,E3⟩:=ajm aj.1 (fY 0 t v rfl rfl) U;obtain⟨fD,aA,aO,a8⟩:=PD ts vs ds q aj.2 (fun j t v bZ br=>fY (j+1) t v (by simpa using bZ) (by simpa using br)) aa;refine⟨cl::fD,⟨Vs,aA⟩,by simp[aO],fun i mf hi=>?_⟩;cases i with
  | zero=>simp at hi;subst hi;exact⟨v,rfl,E3⟩
  | succ i=>simpa using a8 i mf (by simpa using hi)
 | [],_::_,_,_,_,_,h=>by simp[DataW.TrodAll]at h
 | [],[],_::_,_,_,_,h=>by simp[DataW.TrodAll]at h
 | _::_,[],_,_,_,_,h=>by simp[DataW.TrodAll]at h
 | _::_,_::_,[],_,_,_,h=>by simp[DataW.TrodAll]at h
theorem ON{H:Type}{enc:TypeId×Value->H}{P:Program}(au:laidOutB P=true){W xf:World}(aw:Below W.heap.size W xf):
  ∀(ts:List TypeId) (vs:List Value) (ds:List (DataW H)) (ct:List MemPlace),ts.all (fun t=>P.readableRec t&&decide (t<P.types.size))=true->
   DataW.TrodAll enc P W 0 (fun _=>true) true ts vs ds ct->(∀x∈ct,x.block<W.heap.size)->
   DataW.TrodAll enc P xf 0 (fun b=>decide (b<W.heap.size)) true ts vs ds ct
 | [],vs,ds,ct,_,h,_=>by
  obtain⟨rfl,rfl,rfl⟩:=trodAll_nil h;exact trodAll_mk0
 | t::ts,vs,ds,ct,bZ,h,bM=>by
  obtain⟨v,arH,d,qC,p,q,rfl,rfl,rfl,bV,aI⟩:=trodAll_cons h;simp only[List.all_cons,cJ,cW]at bZ;exact trodAll_cons_mk (Below.trod au bZ.1.1 bZ.1.2 bV aw (fun x ao=>bM x (hG _ ao)))
   (ON au aw ts arH qC q bZ.2 aI (fun x ao=>bM x (ig _ ao)))
theorem OO:∀(ts:List TypeId) (vs:List Value) (ds:List (DataW H)) (ct:List MemPlace),DataW.TrodAll enc P w base (fun _=>true) held ts vs ds ct->ds.length=ts.length
 | [],[],[],_,_=>rfl
 | t::ts,v::vs,d::ds,ct,h=>by
  obtain⟨p,q,_,aa,_⟩:=h;simp[OO ts vs ds q aa]
 | [],_::_,_,_,h=>by simp[DataW.TrodAll]at h
 | [],[],_::_,_,h=>by simp[DataW.TrodAll]at h
 | _::_,[],_,_,h=>by simp[DataW.TrodAll]at h
 | _::_,_::_,[],_,h=>by simp[DataW.TrodAll]at h
theorem ajn(au:laidOutB P=true){f:Func}{fno:Nat}{s:ChangeSpec}{tb:TypeId}(eF:f.resultTypes=#[tb])(aw:P.underlying tb=some .bool)
  (hp:f.params.toList.all (fun t=>P.readableRec t&&decide (t<P.types.size))=true) (e5:f.params.toList.all (sK P 20)=true) (MW:s.vars=[])
  {W:World} {args:Array Value} {ds gs:List (DataW H)} {before:List MemPlace} (fY:∀(j:Nat) t v,f.params[j]?=some t->args[j]?=some v->Value.okWide P W r cj t v)
  (r':DataW.Whole enc P f.params.toList s.vars false W args.toList ds gs before)
  (aj:ds.length=f.params.size->(s.fn H ds).results=[.lit (.bool true)]/\(s.fn H ds).args=ds/\(s.fn H ds).vars=[])
  (oF:me W) (We:∀fD,Az P f.params.toList fD->hI P fno fD [.one (B true)]):
  Calls P fno args W fun e xf=>∃v,e=.returned v/\s.post enc P f false true false false W args v xf:=by
 have Vr:=r';have bM:=r'.lt;obtain⟨p,q,E0,Mc,rfl,asX,ate⟩:=r';rw[MW]at Mc;obtain⟨rfl,rfl⟩:=trodVars_none Mc;obtain⟨U,aa,aA⟩:=aj (by have:=OO _ _ _ _ E0;simpa using this);obtain⟨fD,WD,hlen,cG⟩:=PD _ _ _ _ e5 (fun j t v bZ br=>fY j t v (by simpa using bZ) (by simpa using br)) E0;refine (We fD WD W args oF ⟨by simpa using hlen,fun i cl hi=>by simpa using cG i cl hi⟩).mono ?_;rintro e xf ⟨v,rfl,pG,aI⟩;have br:v=.bool true:=by
  obtain⟨ω,_,_,h⟩:=aI;simp only[lV,kM]at h;cases h;rfl
 subst br;refine⟨_,rfl,ds,[],p++[],[],p,[],Vr,?_,?_,?_,pG.below.frame _,fun h=>by cases h⟩
 ·rw[kt,U,eF];exact trodAll_mk1 (shut_bool aw true)
 ·rw[kt,aa];exact ON au pG.below _ _ _ _ hp E0 (fun x ao=>bM x (by simpa using ao))
 rw[kt,aA,MW];rfl
end
