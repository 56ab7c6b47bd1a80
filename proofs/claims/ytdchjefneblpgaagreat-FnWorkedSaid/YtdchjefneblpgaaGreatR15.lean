import Derived.Test.YtdchjefneblpgaaGreatR13
import Derived.LoopN
import Derived.ChangeMaps5
import Derived.ChangeSame
import Derived.ChangeStays
import Derived.ProofKit
import Derived.Lib.SmallJoins
set_option linter.unusedVariables false
set_option linter.unusedSimpArgs false
namespace Go.Sx
open Go.RowKit
def gR.pW:gR->Exit
 | .normal=>.normal
 | .exit id=>.exit id
 | .ret=>.ret
def Mj(w0:ee)(e:gR)(st:aD):Exit->Act->World->Prop:=fun e' a w=>e'=e.pW/\Rel w0 st a w
def gf(P:Program)(c:Code)(st:aD)(e:gR)(bn:aD):Prop:=∀w0 a w,Rel w0 st a w->c.wp P (Mj w0 e bn) a w
def cW(P:Program)(c:Code)(st:aD)(e:gR)(bn:aD):Prop:=∃n,∀w0 a w,Rel w0 st a w->Code.rounds P c (Mj w0 e bn) n a w
variable{P:Program}{st bn:aD}
theorem cW.last{c:Code}{e:gR}(he:e.pW≠.normal)(h:gf P c st e bn):cW P c st e bn:=
 ⟨1,fun w0 a w aH=>Code.wp_mono (fun e' cx aM ⟨h1,U⟩=>by
  subst h1;cases e with
  | normal=>exact absurd rfl he
  | exit id=>exact⟨rfl,U⟩
  | ret=>exact⟨rfl,U⟩) (h w0 a w aH)⟩
theorem cW.more{c:Code}{st1:aD}{e:gR}(h:gf P c st .normal st1)(U:cW P c st1 e bn):cW P c st e bn:=by
 obtain⟨n,a8⟩:=U;refine⟨n+1,fun w0 a w aH=>Code.wp_mono (fun e' cx aM ⟨h1,ax⟩=>?_) (h w0 a w aH)⟩;subst h1;exact a8 w0 cx aM ax
def s5(cG:List Nat):Nat->List aE->List aE
 | _,[]=>[]
 | i,p::r=>(if cG.contains i then p else .ck)::s5 cG (i+1) r
theorem P8(cG:List Nat):∀(l:List aE) (i j:Nat),(s5 cG i l)[j]?=(l[j]?).map fun p=>if cG.contains (i+j) then p else .ck
 | [],_,_=>by simp[s5]
 | p::r,i,0=>by simp[s5]
 | p::r,i,j+1=>by
  simp only[s5,nE,P8 cG r (i+1) j];rw[show i+1+j=i+(j+1) by omega]
theorem P9(cG:List Nat):∀(l:List aE) (i:Nat),(s5 cG i l).length=l.length
 | [],_=>rfl
 | p::r,i=>by simp[s5,P9 cG r]
def vk(bs:List Nat):List (Nat×List az)->List (Nat×List az)
 | []=>[]
 | (i,ls)::r=>if bs.contains i then (i,ls)::vk bs r else vk bs r
theorem Ix(bs:List Nat)(id:Nat):∀(l:List (Nat×List az)) (ls:List az),df id (vk bs l)=some ls->df id l=some ls
 | [],_,h=>by cases h
 | (i,fo)::r,ls,h=>by
  simp only[vk]at h;simp only[df];split at h
  ·simp only[df]at h;split at h
   ·grind
   rename_i hi;rw[bG hi];exact Ix bs id r ls h
  rename_i al;have:=Ix bs id r ls h;split
  ·rename_i hi;subst hi;exfalso;have kr:∀(r:List (Nat×List az)),df i (vk bs r)=none:=by
    intro r;induction r with
    | nil=>rfl
    | cons x r eH=>
     obtain⟨ov,kf⟩:=x;simp only[vk];split
     ·rename_i ak;simp only[df];grind
     exact eH
   grind
  exact this
def Cb:az->az
 | .v (.bool b)=>.a' b
 | l=>l
variable{w:World}
theorem P'{ω:Own}{τ:Nat->Nat×Value}(l:az)(v:Value)(h:Sat w ω τ l v):Sat w ω τ (Cb l) v:=by
 unfold Cb;split
 ·exact h
 exact h
def aD.fe(st:aD)(cG bs:List Nat):aD:=⟨(s5 cG 0 st.env).map (aE.map Cb),(vk bs st.boxes).map fun x=>(x.1,x.2.map Cb)⟩
variable{w0:ee}{a:Act}
theorem Rel.fe(h:Rel w0 st a w)(cG bs:List Nat):Rel w0 (st.fe cG bs) a w:=by
 obtain⟨ω,τ,h⟩:=h;refine⟨ω,τ,h.defers,by simp[aD.fe,P9,h.size],h.below,h.owned,h.fixed,h.pinned,?_,?_⟩
 ·intro i p hp;simp only[aD.fe]at hp;rw[dr,bX]at hp;obtain⟨j9,hp,rfl⟩:=hp;rw[P8,bX]at hp;obtain⟨Hp,hp,rfl⟩:=hp;obtain⟨v,h1,U⟩:=h.env i Hp hp;refine⟨v,h1,cE.map P' ?_⟩;split
  ·exact U
  exact trivial
 intro id ls ap;simp only[aD.fe]at ap;rw[rJ,bX]at ap;obtain⟨ij,ap,rfl⟩:=ap;obtain⟨b,arr,ty,h1,U,ax,aI⟩:=h.boxes id ij (Ix bs id _ _ ap);exact⟨b,arr,ty,h1,U,ax,aI.map P'⟩
def Iy(st:aD)(id j t k:Nat):Option aD:=
 match df id (st.il t []).boxes with
 | some ls=>
  match ls[j]? with
  | some (.v (.slice none 0 0))=>if t<cX then some ⟨(st.il t []).env,pu id (ls.set j (.J (.own t) k [])) (st.il t []).boxes⟩ else none
  | _=>none
 | none=>none
def Iz(st:aD)(id j t:Nat):Option aD:=
 match df id st.boxes with
 | some ij=>
  match ij[j]? with
  | some (.J (.own iU) ci es)=>
   if t<cX then
    let st1:=st.map (az.ct (jF iU t) fun _=>true)
    match df id st1.boxes with
    | some ls=>some ⟨st1.env,pu id (ls.set j (.J (.own t) ci es)) st1.boxes⟩
    | none=>none
   else none
  | _=>none
 | none=>none
def s6(st:aD):List (Nat×Nat×Nat)->Option aD
 | []=>some st
 | (s,t,k)::r=>
  if 1000000<=s then
   (match Iz st (s / 1000000-1) (s % 1000000) t with
   | some st1=>some st1
   | none=>Iy st (s / 1000000-1) (s % 1000000) t k).bind fun st1=>s6 st1 r else
  match (st.env.getD s .ck).leaf with
  | some (.v (.slice none 0 0))=>if t<cX then s6 ⟨(st.il t []).env.set s (.one (.J (.own t) k [])),(st.il t []).boxes⟩ r else none
  | some (.J (.own iU) ci es)=>
   if t<cX then s6 ⟨(st.map (az.ct (jF iU t) fun _=>true)).env.set s (.one (.J (.own t) ci es)),(st.map (az.ct (jF iU t) fun _=>true)).boxes⟩ r else none
  | _=>none
theorem cr.Mr{ω:Own}{τ:Nat->Nat×Value}(h:cr w0 st a w ω τ){s:Nat}{l:az}(ap:(st.env.getD s .ck).leaf=some l)(c3:l≠.ck):∃v,a.tmps[s]?=some v/\Sat w ω τ l v:=by
 rw[jZ]at ap;cases e:st.env[s]? with
 | none=>grind[aE.leaf,aS,absurd]
 | some p=>
  rw[e]at ap;obtain⟨v,h1,U⟩:=h.env s p e;grind[aE.du]
theorem Qa{s:Nat}{v:Value}(h:a.tmps[s]?=some v):a.put (some s) v=a:=by
 simp only[Act.put];have:a.tmps.setIfInBounds s v=a.tmps:=by
  grind
 rw[this]
theorem akS{id j t k:Nat}(h:Iy st id j t k=some bn)(aH:Rel w0 st a w):Rel w0 bn a w:=by
 obtain⟨ω,τ,aH⟩:=aH;unfold Iy at h;split at h
 ·rename_i ls aw;split at h
  ·rename_i bg;split at h
   ·rename_i hZ;simp only[aS]at h;subst h;obtain⟨a7,h1,U⟩:=aH.Hg t k hZ;refine⟨a7,_,h1.defers,h1.size,h1.below,h1.owned,h1.fixed,h1.pinned,h1.env,fun hq e6 ap=>?_⟩;by_cases gh:hq=id
    ·subst gh;rw[wy aw]at ap;cases ap;obtain⟨b,arr,ty,e1,e2,cb,d'⟩:=h1.boxes hq ls aw;refine⟨b,arr,ty,e1,e2,cb,by rw[d'.1,gp],fun i l hi=>?_⟩;rw[nD]at hi;split at hi
     ·rename_i uk;subst uk;split at hi
      ·cases hi;obtain⟨u,gv,fc⟩:=d'.2 j _ bg;have aui:u=.slice none 0 0:=fc;grind
      cases hi
     exact d'.2 i l hi
    rw[wz gh]at ap;exact h1.boxes hq e6 ap
   cases h
  cases h
 cases h
theorem akT{id j t:Nat}(h:Iz st id j t=some bn)(aH:Rel w0 st a w):Rel w0 bn a w:=by
 obtain⟨ω,τ,aH⟩:=aH;unfold Iz at h;split at h
 case h_2=>cases h
 rename_i ij ha;split at h
 case h_2=>cases h
 rename_i iU ci es bg;split at h
 case isFalse=>cases h
 rename_i hZ;simp only at h;split at h
 case h_2=>cases h
 rename_i ls aw;simp only[aS]at h;subst h;obtain⟨cc,sj,tC,atl,atm,atn,VO⟩:=aH.boxes id ij ha;obtain⟨v,bz,ai⟩:=VO.2 j _ bg;have h1:cr w0 (st.map (az.ct (jF iU t) fun _=>true)) a w (fun b=>iP iU t 0 (ω b)) (fE τ t ci v):=
  aH.dT _ (HE hZ).sat aH.below (fun b aw=>aH.owned b (HD aw)) (fun id b aw=>⟨sY.2 aw,rfl⟩) (fun id b aw=>sY.1 aw)
   (fun c5 bU=>by simp only[fE];grind)
 have U:Sat w (fun b=>iP iU t 0 (ω b)) (fE τ t ci v) (.J (.own t) ci es) v:=⟨ai.1.frame fun b q _ aK=>⟨by
  simp only[Tag.R]at aK ⊢;rw[aK];cases q with
  | nil=>simp[iP]
  | cons x q=>grind[iP],rfl⟩,by simp[Tag.dJ,fE]⟩
 refine⟨_,_,h1.defers,h1.size,h1.below,h1.owned,h1.fixed,h1.pinned,h1.env,fun hq e6 ap=>?_⟩;by_cases gh:hq=id
 ·subst gh;rw[wy aw]at ap;cases ap;obtain⟨b,arr,ty,e1,e2,cb,d'⟩:=h1.boxes hq ls aw;refine⟨b,arr,ty,e1,e2,cb,by rw[d'.1,gp],fun i l hi=>?_⟩;rw[nD]at hi;split at hi
  ·rename_i uk;subst uk;split at hi
   ·cases hi;have MP:b=cc:=by
     have g':ω b=.box hq:=sY.1 e1;grind
    grind
   cases hi
  exact d'.2 i l hi
 rw[wz gh]at ap;exact h1.boxes hq e6 ap
theorem yX:∀{ns:List (Nat×Nat×Nat)} {st bn:aD},s6 st ns=some bn->Rel w0 st a w->Rel w0 bn a w
 | [],st,bn,h,aH=>by grind[s6,aS]
 | (s,t,k)::r,st,bn,h,aH=>by
  simp only[s6]at h;split at h
  ·rw[lf]at h;obtain⟨st1,h1,h⟩:=h;refine yX h ?_;split at h1
   ·rename_i st2 U;cases h1;exact akT U aH
   exact akS h1 aH
  split at h
  ·rename_i ap;obtain⟨ω,τ,aH⟩:=aH;obtain⟨v,bz,ai⟩:=aH.Mr ap (by simp);have:v=.slice none 0 0:=ai;subst this;split at h
   case isFalse=>cases h
   rename_i hZ;obtain⟨a7,h1,U⟩:=aH.Hg t k hZ;have ax:=h1.put (d:=s) (p:=.one (.J (.own t) k [])) U;rw[Qa bz]at ax;exact yX h ⟨a7,_,ax⟩
  ·rename_i iU ci es ap;obtain⟨ω,τ,aH⟩:=aH;obtain⟨v,bz,ai⟩:=aH.Mr ap (by simp);split at h
   case isFalse=>cases h
   rename_i hZ;have h1:cr w0 (st.map (az.ct (jF iU t) fun _=>true)) a w (fun b=>iP iU t 0 (ω b)) (fE τ t ci v):=
    aH.dT _ (HE hZ).sat aH.below (fun b aw=>aH.owned b (HD aw)) (fun id b aw=>⟨sY.2 aw,rfl⟩) (fun id b aw=>sY.1 aw)
     (fun c5 bU=>by simp only[fE];grind)
   have ax:=h1.put (d:=s) (p:=.one (.J (.own t) ci es)) (v:=v) ⟨ai.1.frame fun b q _ aK=>⟨by
    simp only[Tag.R]at aK ⊢;rw[aK];cases q with
    | nil=>simp[iP]
    | cons x q=>grind[iP],rfl⟩,by simp[Tag.dJ,fE]⟩
   rw[Qa bz]at ax;exact yX h ⟨_,_,ax⟩
  cases h
abbrev Vs:=Option (gR×aD×List b4×List Prop)
def run(P:Program):Code->aD->List b4->Vs
 | .skip,st,ans=>some (.normal,st,ans,[])
 | .label _,st,ans=>some (.normal,st,ans,[])
 | .region _ ops draw,st,ans=>if draw then (Iw P ops st ans).map fun r=>(.normal,r.1,r.2.1,r.2.2) else (vh P ops ops.toList st ans).map fun r=>(.normal,r.1,r.2.1,r.2.2)
 | .seq a b,st,ans=>
  match run P a st ans with
  | some (.normal,st1,eT,fq)=>(run P b st1 eT).map fun r=>(r.1,r.2.1,r.2.2.1,fq++r.2.2.2)
  | some (e,st1,eT,fq)=>some (e,st1,eT,fq)
  | none=>none
 | .cond c x y,st,ans=>
  match (st.bh c).leaf,ans with
  | some (.v (.bool true)),ans=>run P x st ans
  | some (.v (.bool false)),ans=>run P y st ans
  | some (.a' c),.nJ true::r=>(run P x st r).map fun r=>(r.1,r.2.1,r.2.2.1,(c=true)::r.2.2.2)
  | some (.a' c),.nJ false::r=>(run P y st r).map fun r=>(r.1,r.2.1,r.2.2.1,(c=false)::r.2.2.2)
  | _,_=>none
 | .block id body,st,ans=>
  match run P body st ans with
  | some (.exit i,st1,eT,fq)=>some (if i=id then .normal else .exit i,st1,eT,fq)
  | r=>r
 | .loop body,st,ans=>
  match ans with
  | .loop B' cG bs e bn::r=>
   match e,s6 st B' with
   | .normal,_=>none
   | e,some st1=>some (e,bn,r,[cW P body (st1.fe cG bs) e bn])
   | _,none=>none
  | _=>none
 | .exit id,st,ans=>some (.exit id,st,ans,[])
 | .ret,st,ans=>some (.ret,st,ans,[])
 | _,_,_=>none
theorem mg:∀(c:Code) {st bn:aD} {ans b':List b4} {obs:List Prop} {e:gR},run P c st ans=some (e,bn,b',obs)->cA obs->gf P c st e bn
 | .skip,st,bn,ans,b',obs,e,h,aZ=>by
  simp only[run,aS,bq]at h;obtain⟨rfl,rfl,_,_⟩:=h;exact fun w0 a w aH=>wp_skip ⟨rfl,aH⟩
 | .label l,st,bn,ans,b',obs,e,h,aZ=>by
  simp only[run,aS,bq]at h;obtain⟨rfl,rfl,_,_⟩:=h;exact fun w0 a w aH=>wp_label ⟨rfl,aH⟩
 | .region id ops draw,st,bn,ans,b',obs,e,h,aZ=>by
  simp only[run]at h;split at h
  ·rename_i aG;rw[bX]at h;obtain⟨⟨bK,b2,cg⟩,h1,h⟩:=h;simp only[bq]at h;obtain⟨rfl,rfl,rfl,rfl⟩:=h;subst aG;exact fun w0 a w aH=>akR h1 aZ aH fun cx aM h=>⟨rfl,h⟩
  rename_i aG;rw[bX]at h;obtain⟨⟨bK,b2,cg⟩,h1,h⟩:=h;simp only[bq]at h;obtain⟨rfl,rfl,rfl,rfl⟩:=h;have:draw=false:=by grind
  subst this;exact fun w0 a w aH=>wp_region_list (I8 _ h1 aZ aH fun cx aM h=>⟨rfl,h⟩)
 | .seq x y,st,bn,ans,b',obs,e,h,aZ=>by
  simp only[run]at h;split at h
  ·rename_i st1 eT fq h1;rw[bX]at h;obtain⟨⟨bK,b2,cg,ed⟩,U,h⟩:=h;simp only[bq]at h;obtain⟨rfl,rfl,rfl,rfl⟩:=h;obtain⟨cy,ca⟩:=aZ.append;intro w0 a w aH;refine wp_seq (Code.wp_mono (fun e' cx aM hp=>?_) (mg x h1 cy w0 a w aH));obtain⟨rfl,er⟩:=hp;exact mg y U ca w0 cx aM er
  ·rename_i e1 st1 eT fq c3 h1;simp only[aS,bq]at h;obtain⟨rfl,rfl,rfl,rfl⟩:=h;intro w0 a w aH;refine wp_seq (Code.wp_mono (fun e' cx aM hp=>?_) (mg x h1 aZ w0 a w aH));obtain⟨rfl,er⟩:=hp;cases e1 with
   | normal=>grind
   | exit i=>exact⟨rfl,er⟩
   | ret=>exact⟨rfl,er⟩
  cases h
 | .cond c x y,st,bn,ans,b',obs,e,h,aZ=>by
  intro w0 a w aH;have rl:=aH;obtain⟨ω,τ,er⟩:=rl;have ei:=er.bh c;simp only[run]at h;split at h
  ·rename_i ap;have:a.eval c=.bool true:=aE.du ap ei;exact wp_cond_true this (mg x h aZ w0 a w aH)
  ·rename_i ap;have:a.eval c=.bool false:=aE.du ap ei;exact wp_cond_false this (mg y h aZ w0 a w aH)
  ·rename_i jc r ap;rw[bX]at h;obtain⟨⟨bK,b2,cg,ed⟩,U,h⟩:=h;simp only[bq]at h;obtain⟨rfl,rfl,rfl,rfl⟩:=h;have:a.eval c=.bool jc:=aE.du ap ei;have al:jc=true:=aZ.1;exact wp_cond_true (by rw[this,al]) (mg x U aZ.2 w0 a w aH)
  ·rename_i jc r ap;rw[bX]at h;obtain⟨⟨bK,b2,cg,ed⟩,U,h⟩:=h;simp only[bq]at h;obtain⟨rfl,rfl,rfl,rfl⟩:=h;have:a.eval c=.bool jc:=aE.du ap ei;have al:jc=false:=aZ.1;exact wp_cond_false (by rw[this,al]) (mg y U aZ.2 w0 a w aH)
  cases h
 | .block id body,st,bn,ans,b',obs,e,h,aZ=>by
  intro w0 a w aH;simp only[run]at h;split at h
  ·rename_i i st1 eT fq h1;simp only[aS,bq]at h;obtain⟨rfl,rfl,rfl,rfl⟩:=h;refine wp_block (Code.wp_mono (fun e' cx aM hp=>?_) (mg body h1 aZ w0 a w aH));obtain⟨rfl,er⟩:=hp;simp only[gR.pW,Exit.inBlock];split
   ·exact⟨rfl,er⟩
   exact⟨rfl,er⟩
  rename_i c3;refine wp_block (Code.wp_mono (fun e' cx aM hp=>?_) (mg body h aZ w0 a w aH));obtain⟨rfl,er⟩:=hp;cases e with
  | normal=>exact⟨rfl,er⟩
  | exit i=>grind
  | ret=>exact⟨rfl,er⟩
 | .loop body,st,bn,ans,b',obs,e,h,aZ=>by
  intro w0 a w aH;simp only[run]at h;split at h
  ·rename_i B' cG bs bB fh r;split at h
   ·cases h
   ·rename_i e1 st1 c3 a8;simp only[aS,bq]at h;obtain⟨rfl,rfl,rfl,rfl⟩:=h;obtain⟨n,ap⟩:=aZ.1;exact wp_loop_rounds n (ap w0 a w ((yX a8 aH).fe cG bs))
   cases h
  cases h
 | .exit id,st,bn,ans,b',obs,e,h,aZ=>by
  simp only[run,aS,bq]at h;obtain⟨rfl,rfl,_,_⟩:=h;exact fun w0 a w aH=>wp_exit ⟨rfl,aH⟩
 | .ret,st,bn,ans,b',obs,e,h,aZ=>by
  simp only[run,aS,bq]at h;obtain⟨rfl,rfl,_,_⟩:=h;exact fun w0 a w aH=>wp_ret ⟨rfl,aH⟩
 | .rangeFunc ..,_,_,_,_,_,_,h,_=>by simp[run]at h
 | .scope _,_,_,_,_,_,_,h,_=>by simp[run]at h
 | .goto _,_,_,_,_,_,_,h,_=>by simp[run]at h
 | .refuse _,_,_,_,_,_,_,h,_=>by simp[run]at h
end Go.Sx
namespace Go.Sx
open Go.RowKit
def az.xf:az->D->Option (D×Option Nat)
 | .v x,hint=>
  match x,hint with
  | .slice none 0 0,.J k _=>some (.J k [],none)
  | x,_=>if x.oneCell' then some (.v x,none) else none
 | .a' c,_=>some (.v (.bool c),none)
 | .J (.own t) k es,_=>some (.J k es,some t)
 | _,_=>none
abbrev hj:=List (Nat×Nat)
def hj.at(t:Nat):hj->Option Nat
 | []=>none
 | (s,n)::r=>if s=t then some n else hj.at t r
def Dr(n:Nat):Option Nat->hj
 | some t=>[(t,n)]
 | none=>[]
def pK(n:Nat):List az->List D->Option (List D×hj)
 | [],[]=>some ([],[])
 | l::ls,d::ds=>
  match l.xf d,pK (n+1) ls ds with
  | some (dn,t),some (q0,ts)=>some (dn::q0,Dr n t++ts)
  | _,_=>none
 | _,_=>none
def DS(n:Nat):bm->cz->Option (cz×hj)
 | .one l,.one d=>(l.xf d).map fun x=>(.one x.1,Dr n x.2)
 | .agg ls,.agg ds=>(pK n ls ds).map fun x=>(.agg x.1,x.2)
 | _,_=>none
def qF(r:Nat):List aE->List cz->Option (List cz×hj)
 | [],[]=>some ([],[])
 | .aF a::cn,d::ds=>
  match DS (100*r) a d,qF (r+1) cn ds with
  | some (dn,t),some (q0,ts)=>some (dn::q0,t++ts)
  | _,_=>none
 | _,_=>none
def Ds(ts:hj):Bool:=ts.all fun x=>match ts.at x.1 with | some n=>n==x.2 | none=>false
variable{ts:hj}{n:Nat}
theorem Dt(h:Ds ts=true){t:Nat}(hm:(t,n)∈ts):ts.at t=some n:=by
 have:=fx.1 h _ hm;simp only at this;split at this
 ·rename_i X7 e;rw[e];simp only[hP]at this;rw[this]
 cases this
def hG(ω:Own)(ts:hj):Own:=fun b=>
 match ω b with
 | .tok t q=>match ts.at t with | some n=>.tok n q | none=>.bt
 | _=>.bt
variable{w:World}{ω:Own}{τ:Nat->Nat×Value}
theorem az.TD{l:az}{h d:D}{t:Option Nat}{u:Value}(aG:l.xf h=some (d,t))(ai:Sat w ω τ l u)
  (jC:∀s,t=some s->ts.at s=some n):bQ w (hG ω ts) (Tag.own n).R d u:=by
 cases l with
 | ck=>cases aG
 | v x=>
  have e:u=x:=ai;subst e;simp only[az.xf]at aG;split at aG
  ·simp only[aS,bq]at aG;obtain⟨rfl,_⟩:=aG;exact .nil _ _ _
  split at aG
  ·simp only[aS,bq]at aG;obtain⟨rfl,_⟩:=aG;exact .v _ _ ‹_›
  cases aG
 | a' c=>
  have e:u=.bool c:=ai;subst e;simp only[az.xf,aS,bq]at aG;obtain⟨rfl,_⟩:=aG;exact .v _ _ rfl
 | J g k es=>
  cases g with
  | free=>cases aG
  | ro s=>cases aG
  | own s=>
   simp only[az.xf,aS,bq]at aG;obtain⟨rfl,rfl⟩:=aG;refine ai.1.frame fun b q _ aK=>⟨?_,rfl⟩
   simp only[Tag.R]at aK ⊢;simp only[hG,aK,jC s rfl]
 | ptr=>cases aG
 | cB=>cases aG
 | hc=>cases aG
 | fd=>cases aG
 | c'=>cases aG
 | fR=>cases aG
 | aO=>cases aG
 | eX=>cases aG
theorem Qb{t:Option Nat}{s:Nat}(h:t=some s):(s,n)∈Dr n t:=by subst h;simp[Dr]
theorem IA{w:World}{ω:Own}{τ:Nat->Nat×Value}(jC:∀t n,(t,n)∈ts->ts.at t=some n):∀{ls:List az} {ai ds:List D} {n:Nat} {jX:hj},pK n ls ai=some (ds,jX)->(∀x∈jX,x∈ts)->
  ds.length=ls.length/\∀(j:Nat) (d:D),ds[j]?=some d->∃l,ls[j]?=some l/\∀u,Sat w ω τ l u->bQ w (hG ω ts) (Tag.own (n+j)).R d u
 | [],[],ds,n,jX,h,_=>by
  simp only[pK,aS,bq]at h;obtain⟨rfl,_⟩:=h;exact⟨rfl,fun j d aG=>by simp at aG⟩
 | l::ls,b5::ai,ds,n,jX,h,ih=>by
  simp only[pK]at h;split at h
  ·rename_i dn t q0 r9 e1 e2;simp only[aS,bq]at h;obtain⟨rfl,rfl⟩:=h;obtain⟨h1,U⟩:=IA (w:=w) (ω:=ω) (τ:=τ) jC e2 (fun x ak=>ih x (iC _ ak));refine⟨by simp[h1],fun j d aG=>?_⟩;cases j with
   | zero=>
    simp at aG;subst aG;exact⟨l,rfl,fun u hu=>az.TD e1 hu fun s c6=>jC s n (ih _ (hQ _ (Qb c6)))⟩
   | succ j=>
    obtain⟨fU,ax,aI⟩:=U j d (by simpa using aG);refine⟨fU,by simpa using ax,fun u hu=>?_⟩;have:=aI u hu;rwa[show n+1+j=n+(j+1) by omega]at this
  cases h
 | [],_::_,_,_,_,h,_=>by simp[pK]at h
 | _::_,[],_,_,_,h,_=>by simp[pK]at h
theorem akU(jC:∀t n,(t,n)∈ts->ts.at t=some n){a:bm}{h d:cz}{r:Nat}{jX:hj}(aH:DS (100*r) a h=some (d,jX))(ih:∀x∈jX,x∈ts)
  {y:Value} (ai:jw (Sat w ω τ) a y):k2 w (hG ω ts) r d y:=by
 cases a with
 | one l=>
  cases h with
  | agg c6=>cases aH
  | one b5=>
   simp only[DS,bX]at aH;obtain⟨⟨dn,t⟩,h1,U⟩:=aH;simp only[bq]at U;obtain⟨rfl,rfl⟩:=U;exact az.TD h1 ai fun s c6=>jC s _ (ih _ (Qb c6))
 | agg ls=>
  cases h with
  | one b5=>cases aH
  | agg c6=>
   simp only[DS,bX]at aH;obtain⟨⟨ds,t⟩,h1,U⟩:=aH;simp only[bq]at U;obtain⟨rfl,rfl⟩:=U;obtain⟨ax,aI⟩:=IA (w:=w) (ω:=ω) (τ:=τ) jC h1 ih;obtain⟨vs,rfl,a8,bz⟩:=ai;refine⟨vs,rfl,by omega,fun j qZ aG=>?_⟩;obtain⟨l,ap,cR⟩:=aI j qZ aG;obtain⟨u,hu,fc⟩:=bz j l ap;exact⟨u,hu,cR u fc⟩
theorem Du{w:World}{ω:Own}{τ:Nat->Nat×Value}{ts:hj}(jC:∀t n,(t,n)∈ts->ts.at t=some n):∀{cn:List aE} {ai ds:List cz} {r:Nat} {jX:hj},qF r cn ai=some (ds,jX)->(∀x∈jX,x∈ts)->
  ds.length=cn.length/\∀(j:Nat) (d:cz),ds[j]?=some d->∃p,cn[j]?=some p/\∀u,cE (Sat w ω τ) p u->k2 w (hG ω ts) (r+j) d u
 | [],[],ds,r,jX,h,_=>by
  simp only[qF,aS,bq]at h;obtain⟨rfl,_⟩:=h;exact⟨rfl,fun j d aG=>by simp at aG⟩
 | .aF a::cn,b5::ai,ds,r,jX,h,ih=>by
  simp only[qF]at h;split at h
  ·rename_i dn t q0 r9 e1 e2;simp only[aS,bq]at h;obtain⟨rfl,rfl⟩:=h;obtain⟨h1,U⟩:=Du (w:=w) (ω:=ω) (τ:=τ) jC e2 (fun x ak=>ih x (iC _ ak));refine⟨by simp[h1],fun j d aG=>?_⟩;cases j with
   | zero=>
    simp at aG;subst aG;exact⟨.aF a,rfl,fun u hu=>akU jC e1 (fun x ak=>ih x (hQ _ ak)) hu⟩
   | succ j=>
    obtain⟨fU,ax,aI⟩:=U j d (by simpa using aG);refine⟨fU,by simpa using ax,fun u hu=>?_⟩;have:=aI u hu;rwa[show r+1+j=r+(j+1) by omega]at this
  cases h
 | [],_::_,_,_,_,h,_=>by simp[qF]at h
 | .aF _::_,[],_,_,_,h,_=>by simp[qF]at h
 | .fv _::_,_,_,_,_,h,_=>by simp[qF]at h
def cz.arg:cz->bm
 | .one d=>.one (d.leaf .free)
 | .agg ds=>.agg (ds.map (D.leaf .free))
def wV(args:List cz)(ntmps:Nat):aD:=⟨args.map (fun a=>.aF a.arg)++List.replicate (ntmps-args.length) .ck,[]⟩
theorem kv.leaf{d:D}{u:Value}(h:kv w d u):Sat w (fun _=>.bt) τ (d.leaf .free) u:=D.du (p:=(0,0)) h
theorem akV{args:List cz}{vs:Array Value}(rn:oE w)(h:Cn w args vs)(ntmps:Nat):
  Rel (ee.of w) (wV args ntmps) { tmps:=vs++Array.replicate (ntmps-vs.size) undef,defers:=[] } w:=by
 refine⟨fun _=>.bt,fun _=>(0,undef),rfl,by simp[wV,h.1],fO.refl _ rn (fun _ _ h=>h),fun b aw=>absurd rfl aw,fun _ _=>rfl,(fun _ _ _ h=>by cases h),?_,fun id ls ap=>by simp[wV,df]at ap⟩;intro i p hp;simp only[wV]at hp;rw[ow,cf]at hp;split at hp
 ·rename_i hi;rw[dr,bX]at hp;obtain⟨cj,V8,rfl⟩:=hp;obtain⟨v,bz,cJ⟩:=h.2 i cj V8;refine⟨v,?_,?_⟩
  ·rw[iD,bM (by rw[h.1];exact hi)];exact bz
  cases cj with
  | one d=>exact kv.leaf cJ
  | agg ds=>
   obtain⟨us,rfl,a8,hu⟩:=cJ;refine⟨us,rfl,by simpa using a8,fun j l ap=>?_⟩;rw[dr,bX]at ap;obtain⟨d,aG,rfl⟩:=ap;obtain⟨u,h1,U⟩:=hu j d aG;exact⟨u,h1,kv.leaf U⟩
 rename_i hi;rw[A1]at hp;split at hp
 ·rename_i bJ;simp only[aS]at hp;subst hp;refine⟨undef,?_,aa⟩;rw[iD,bG (by rw[h.1];exact hi),Array.getElem?_replicate,bM (by rw[h.1];exact bJ)]
 cases hp
def py(P:Program)(st:aD):ResultVar->Option aE
 | .tmp t=>some (st.bh (.tmp t))
 | .cell a t=>
  match u5 P t,P.info? t,(st.bh (.tmp a)).leaf with
  | some agg,some i,some (.ptr id off)=>
   match df id st.boxes with
   | some ls=>qq agg i.size ls off
   | none=>none
  | _,_,_=>none
def yY(tmps:Array Value):ResultVar->Sem Value
 | .tmp t=>pure (tmps.getD t undef)
 | .cell x t=>do loadVar t (<-asAddr (tmps.getD x undef))
theorem IB(fn:Func)(tmps:Array Value):results fn tmps=(do
  let vs <-fn.results.mapM (yY tmps)
  pure (if h:vs.size=1 then vs[0] else .tuple vs)):=by
 unfold results;have:(fun x=>match x with | .tmp t=>pure (tmps.getD t undef) | .cell a t=>do loadVar t (<-asAddr (tmps.getD a undef)):ResultVar->Sem Value)=yY tmps:=by
  funext x;cases x<;>rfl
 rw[<-this];rfl
variable{P:Program}{st:aD}
theorem akW{w0:ee}{a:Act}(aU:cr w0 st a w ω τ){r:ResultVar}{p:aE}(h:py P st r=some p):
  ∃z,(yY a.tmps r).run P w=.ok z w/\cE (Sat w ω τ) p z:=by
 cases r with
 | tmp t=>
  simp only[py,aS]at h;subst h;exact⟨_,rfl,aU.bh (.tmp t)⟩
 | cell x t=>
  simp only[py]at h;split at h
  ·rename_i agg i id off e1 e2 cb;split at h
   ·rename_i ls cY;have ak:=aE.du cb (aU.bh (.tmp x));obtain⟨b,aw,ak⟩:=ak;simp only[Act.eval]at ak;obtain⟨da,arr,ty,eh,B0,FT,dN,ei⟩:=aU.boxes id ls cY;have:=B0 b aw;subst this;have:=ww (P:=P) e1 e2 h FT (base:=0) (by omega) (fun j l ap=>by simpa using ei j l ap);simpa[yY,ak,asAddr]using this
   cases h
  cases h
def DT(P:Program)(st:aD)(iT:List ResultVar)(hint:List cz):Option (List cz):=
 match iT.mapM (py P st) with
 | some cn=>
  match qF 0 cn hint with
  | some (ds,ts)=>if Ds ts then some ds else none
  | none=>none
 | none=>none
theorem CF{w0:ee}{a:Act}(aU:cr w0 st a w ω τ):∀{iT:List ResultVar} {cn:List aE},iT.mapM (py P st)=some cn->
  ∃zs:List Value,(iT.mapM (yY a.tmps)).run P w=.ok zs w/\zs.length=cn.length/\∀(i:Nat) (p:aE),cn[i]?=some p->∃z,zs[i]?=some z/\cE (Sat w ω τ) p z
 | [],cn,h=>by simp at h;subst h;exact⟨[],rfl,rfl,fun i p hp=>by simp at hp⟩
 | r::iT,cn,h=>by
  rw[xx]at h;cases e:py P st r with
  | none=>simp[e]at h
  | some j9=>
   cases e2:iT.mapM (py P st) with
   | none=>simp[e,e2]at h
   | some auF=>
    simp[e,e2]at h;subst h;obtain⟨z,h1,U⟩:=akW aU e;obtain⟨zs,ax,aI,aX⟩:=CF aU e2;refine⟨z::zs,?_,by simp[aI],fun i p hp=>?_⟩
    ·rw[xx,Sem.run_bind,h1,Result.andThen_ok,Sem.run_bind,ax];rfl
    cases i with
    | zero=>simp at hp;subst hp;exact⟨z,rfl,U⟩
    | succ i=>exact aX i p (by simpa using hp)
theorem Qc{f:FuncId}{fn:Func}{c:Code}{args rs:List cz}{ans b':List b4}{obs:List Prop}{e:gR}(b0:P.funcs[f]?=some fn)(aw:fn.body=some c)
  (e5:run P c (wV args fn.ntmps) ans=some (e,st,b',obs)) (aZ:cA obs) (he:e=.ret\/e=.normal) (eG:DT P st fn.results.toList rs=some rs):hA P f args rs:=by
 intro w vs rn lo;refine calls_of_wp b0 aw (Code.wp_mono (fun e' cx aM hp=>?_) (mg c e5 aZ (ee.of w) _ w (akV rn lo fn.ntmps)));obtain⟨rfl,ω,τ,aU⟩:=hp;unfold DT at eG;split at eG
 ·rename_i cn rk;split at eG
  ·rename_i ds ts ey;split at eG
   ·rename_i cJ;simp only[aS]at eG;subst eG;obtain⟨zs,h1,U,ax⟩:=CF aU rk;obtain⟨aI,aX⟩:=Du (w:=aM) (ω:=ω) (τ:=τ) (fun t n h=>Dt cJ h) ey (fun x ak=>ak);have hm:=Cu (P:=P) _ fn.results aM _ h1;have eW:∀(j:Nat) (d:cz),ds[j]?=some d->∃z,zs[j]?=some z/\k2 aM (hG ω ts) j d z:=by
     intro j d aG;obtain⟨p,hp,rj⟩:=aX j d aG;obtain⟨z,bk,p'⟩:=ax j p hp;exact⟨z,bk,by have:=rj z p';rwa[dF]at this⟩
    have l6:zs.length=ds.length:=by omega
    have WD:∀v,(if h:zs.toArray.size=1 then zs.toArray[0] else .tuple zs.toArray)=v->vD w aM ds v:=by
     intro v bz;refine⟨hG ω ts,fun b aw=>?_,fun b aw=>?_,?_⟩
     ·cases c7:ω b with
      | bt=>simp[hG,c7]
      | box id=>simp[hG,c7]
      | tok t q=>
       rcases (aU.owned b (by simp[c7])).1 with h | h
       ·exact absurd aw (by have h:w.heap.size<=b:=h;omega)
       exact absurd h (fun h=>h)
     ·cases c7:ω b with
      | bt=>simp[hG,c7]at aw
      | box id=>simp[hG,c7]at aw
      | tok t q=>
       refine⟨?_,(aU.owned b (by simp[c7])).2⟩;simp only[hG,c7]at aw ⊢;cases jC:ts.at t with
       | none=>simp[jC]at aw
       | some n=>exact⟨n,q,rfl⟩
     unfold lE;split
     ·rename_i cj;obtain⟨z,bk,al⟩:=eW 0 cj rfl;have h1:zs.length=1:=by rw[l6];rfl
      have p9:zs=[z]:=by
       match zs,h1,bk with
       | [z0],_,bk=>simp at bk;rw[bk]
      have Gj:v=z:=by
       rw[<-bz];simp[p9]
      rw[Gj];exact al
     rename_i c3;have h1:¬zs.toArray.size=1:=by
      intro h;simp at h;rw[l6]at h;obtain⟨d,aG⟩:=List.length_eq_one_iff.1 h;exact c3 d aG
     rw[dif_neg h1]at bz;exact⟨zs.toArray,bz.symm,by simpa using l6,fun r cj aH=>by obtain⟨z,bk,al⟩:=eW r cj aH;exact⟨z,by simpa using bk,al⟩⟩
    have dG:∃v,(results fn cx.tmps).run P aM=.ok v aM/\∃u,Ending.returned v=.returned u/\fP w.heap.size w aM/\vD w aM ds u:=by
     refine⟨_,?_,_,rfl,aU.below.below,WD _ rfl⟩;rw[IB,Sem.run_bind,hm];rfl
    obtain⟨v,bx,bN⟩:=dG;rcases he with rfl | rfl
    ·exact⟨aU.defers,v,bx,bN⟩
    exact⟨aU.defers,v,bx,bN⟩
   cases eG
  cases eG
 cases eG
end Go.Sx
namespace Go.Sx
open Go.RowKit
def Hn(P:Program)(c:Code)(ntmps:Nat)(iT:List ResultVar)(args hint:List cz)(ans:List b4):Option (List cz×List Prop):=
 match run P c (wV args ntmps) ans with
 | some (.ret,st,_,obs)=>(DT P st iT hint).map fun rs=>(rs,obs)
 | some (.normal,st,_,obs)=>(DT P st iT hint).map fun rs=>(rs,obs)
 | _=>none
def mh(fn:Func):Code:=fn.body.getD .skip
variable{P:Program}
theorem hA.of{f:FuncId}{fn:Func}{args rs:List cz}(ans:List b4)(obs:List Prop)(b0:P.funcs[f]?=some fn)(aw:fn.body.isSome=true)
  (h:Hn P (mh fn) fn.ntmps fn.results.toList args rs ans=some (rs,obs)) (aZ:cA obs):hA P f args rs:=by
 obtain⟨c,al⟩:=pQ.1 aw;have yf:mh fn=c:=by simp[mh,al]
 unfold Hn at h;rw[yf]at h;split at h
 ·rename_i st a lx aH;rw[bX]at h;obtain⟨tw,h1,h⟩:=h;simp only[bq]at h;obtain⟨rfl,rfl⟩:=h;exact Qc b0 al aH aZ (.inl rfl) h1
 ·rename_i st a lx aH;rw[bX]at h;obtain⟨tw,h1,h⟩:=h;simp only[bq]at h;obtain⟨rfl,rfl⟩:=h;exact Qc b0 al aH aZ (.inr rfl) h1
 cases h
def B8(P:Program)(body:Code)(st:aD)(ans:List b4)(cG bs:List Nat):Option (gR×aD×List Prop):=
 (run P body st ans).map fun r=>(r.1,r.2.1.fe cG bs,r.2.2.2)
variable{body:Code}{st bn:aD}{e:gR}
theorem gf.NW{ans:List b4}{cG bs:List Nat}{obs:List Prop}(h:B8 P body st ans cG bs=some (e,bn,obs))(aZ:cA obs):gf P body st e bn:=by
 unfold B8 at h;rw[bX]at h;obtain⟨⟨bK,b2,cg,ed⟩,h1,h⟩:=h;simp only[bq]at h;obtain⟨rfl,rfl,rfl⟩:=h;intro w0 a w aH;exact Code.wp_mono (fun e' cx aM ⟨h1,U⟩=>⟨h1,U.fe cG bs⟩) (mg body h1 aZ w0 a w aH)
def Hb(P:Program)(body:Code)(st:aD)(ans:List b4)(ns:List (Nat×Nat×Nat))(cG bs:List Nat):Option (gR×aD×List Prop):=
 (run P body st ans).bind fun r=>(s6 r.2.1 ns).map fun s=>(r.1,s.fe cG bs,r.2.2.2)
theorem gf.Ya{ans:List b4}{ns:List (Nat×Nat×Nat)}{cG bs:List Nat}{obs:List Prop}(h:Hb P body st ans ns cG bs=some (e,bn,obs))(aZ:cA obs):gf P body st e bn:=by
 unfold Hb at h;rw[lf]at h;obtain⟨⟨bK,b2,cg,ed⟩,h1,h⟩:=h;rw[bX]at h;obtain⟨s,ai,h⟩:=h;simp only[bq]at h;obtain⟨rfl,rfl,rfl⟩:=h;intro w0 a w aH;exact Code.wp_mono (fun e' cx aM ⟨h1,U⟩=>⟨h1,(yX ai U).fe cG bs⟩) (mg body h1 aZ w0 a w aH)
theorem cW.step{st1:aD}(ans:List b4)(cG bs:List Nat)(obs:List Prop)(h:B8 P body st ans cG bs=some (.normal,st1,obs))(aZ:cA obs)(U:cW P body st1 e bn):cW P body st e bn:=
 .more (gf.NW h aZ) U
theorem cH(i:Nat):(gR.exit i).pW≠.normal:=fun h=>by cases h
theorem e7:gR.ret.pW≠.normal:=fun h=>by cases h
def s7:Code->List Code
 | .seq a b=>s7 a++s7 b
 | .cond _ a b=>s7 a++s7 b
 | .block _ b=>s7 b
 | .loop b=>b::s7 b
 | .scope b=>s7 b
 | _=>[]
def ao(fn:Func)(i:Nat):Code:=(s7 (mh fn)).getD i .skip
def s8:Code->List (Nat×Array Oper)
 | .region id ops true=>[(id,ops)]
 | .seq a b=>s8 a++s8 b
 | .cond _ a b=>s8 a++s8 b
 | .block _ b=>s8 b
 | .loop b=>s8 b
 | .scope b=>s8 b
 | _=>[]
def cN(fn:Func)(id:Nat):Array Oper:=(((s8 (mh fn)).find? fun x=>Nat.beq x.1 id).map (·.2)).getD #[]
def VS(n:Nat)(l:List (Nat×aE)):List aE:=l.foldl (fun e x=>e.set x.1 x.2) (List.replicate n .ck)
abbrev I(n:Int):D:=.v (.int .i64 n)
abbrev B(b:Bool):D:=.v (.bool b)
abbrev as5(s:ByteArray):D:=.v (.string s)
end Go.Sx
namespace Go.Sx
open Go.RowKit
inductive ja (P:Program):TypeId->List D->Prop
 | bool (t:TypeId) (b:Bool) (h:P.underlying t=some .bool):ja P t [.v (.bool b)]
 | int (t:TypeId) (k:IntKind) (n:Int) (h:P.underlying t=some (.int k)) (hw:(Lit.int k n).wf=true):ja P t [.v (.int k n)]
 | str (t:TypeId) (s:ByteArray) (h:P.underlying t=some .string) (ai:s.size<=maxLen):ja P t [.v (.string s)]
 | J (t e:TypeId) (es:List (List D)) (h:P.underlying t=some (.slice e)) (ap:es.length<=maxLen) (he:∀ds∈es,ja P e ds):ja P t [.J (P.cellsOf e) es]
 | struct (t:TypeId) (ew:Array Field) (ds:List D) (h:P.underlying t=some (.struct ew)) (ap:ds.length=P.cellsOf t) (b0:∀f∈ew.toList,ja P f.type ((ds.drop f.offset).take (P.cellsOf f.type))):ja P t ds
def tA(P:Program):Nat->List Field->Nat->Bool
 | o,[],n=>o==n
 | o,f::r,n=>f.offset==o&&tA P (o+P.cellsOf f.type) r n
def s9(P:Program):Nat->TypeId->Bool
 | 0,_=>false
 | m+1,t=>
  match P.underlying t with
  | some .bool | some (.int _) | some .string=>true
  | some (.slice e)=>decide (0<P.cellsOf e)&&s9 P m e
  | some (.struct ew)=>ew.toList.all (fun f=>s9 P m f.type)&&tA P 0 ew.toList (P.cellsOf t)
  | _=>false
def nI(w:World)(ds:List D)(cs:List Value):Prop:=ds.length=cs.length/\∀(i:Nat) (d:D),ds[i]?=some d->∃v,cs[i]?=some v/\kv w d v
theorem nI.one{w:World}{d:D}{v:Value}(h:kv w d v):nI w [d] [v]:=
 ⟨rfl,fun i dn aG=>by
  cases i with
  | zero=>simp at aG;subst aG;exact⟨v,rfl,h⟩
  | succ i=>simp at aG⟩
theorem nI.append{w:World}{a b:List D}{x y:List Value}(h:nI w a x)(k:nI w b y):nI w (a++b) (x++y):=by
 refine⟨by simp[h.1,k.1],fun i d aG=>?_⟩;rw[ow]at aG ⊢;rw[<-h.1];split at aG
 ·rename_i hi;rw[bM hi];exact h.2 i d aG
 rename_i hi;rw[bG hi];exact k.2 _ d aG
theorem IC{P:Program}:∀{fK:List Field} {o n:Nat},tA P o fK n=true->o<=n/\∀f∈fK,o<=f.offset/\f.offset+P.cellsOf f.type<=n
 | [],o,n,h=>by simp[tA]at h;exact⟨by omega,fun f b0=>by cases b0⟩
 | f::r,o,n,h=>by
  simp only[tA,cF,hP]at h;obtain⟨h1,U⟩:=IC h.2;refine⟨by omega,fun g av=>?_⟩;rcases ev.1 av with rfl | av
  ·exact⟨by omega,by omega⟩
  have:=U g av;exact⟨by omega,this.2⟩
theorem TO{P:Program}{w:World}{cs:List Value}:∀{fK:List Field} {o:Nat},tA P o fK cs.length=true->
  (∀f∈fK,∃ds,ja P f.type ds/\nI w ds ((cs.drop f.offset).take (P.cellsOf f.type)))->
  ∃ds,nI w ds (cs.drop o)/\∀f∈fK,ja P f.type ((ds.drop (f.offset-o)).take (P.cellsOf f.type))
 | [],o,h,_=>by
  simp only[tA,hP]at h;subst h;exact⟨[],⟨by simp,fun i d aG=>by simp at aG⟩,fun f b0=>by cases b0⟩
 | f::r,o,h,b0=>by
  have hle:=IC h;simp only[tA,cF,hP]at h;obtain⟨b5,h⟩:=h;obtain⟨ds,h1,U⟩:=TO h fun g av=>b0 g (by simp[av])
  obtain⟨d0,ax,aI⟩:=b0 f (by simp);have F0:d0.length=P.cellsOf f.type:=by
   rw[aI.1];have:=(hle.2 f (by simp)).2;simp;omega
  refine⟨d0++ds,?_,?_⟩
  ·have:cs.drop o=(cs.drop f.offset).take (P.cellsOf f.type)++cs.drop (o+P.cellsOf f.type):=by
    rw[b5,<-List.drop_drop];exact (Vn _ _).symm
   rw[this];exact aI.append h1
  intro g av;rcases ev.1 av with rfl | av
  ·rw[b5,Nat.sub_self,vB,Md (by omega),xr (by omega)];exact ax
  have atV:=U g av;have:=(IC h).2 g av;rw[List.drop_append,List.drop_eq_nil_of_le (show d0.length<=g.offset-o by omega),List.nil_append,F0];rwa[show g.offset-o-P.cellsOf f.type=g.offset-(o+P.cellsOf f.type) by omega]
section
variable {H : Type} {enc : TypeId × Value -> H} {P : Program} {w : World} {base : Nat} {held : Bool}
theorem CG{a:Addr}{k:Nat}{cs:List Value}(h:w.cells? base a k=some cs):cs.length=k/\∀i,i<k->w.cell? (a.add i)=cs[i]?:=by
 unfold World.cells? at h;split at h
 ·exact⟨by simpa using mapM_some_length h,fun i hi=>mapM_some_get h i i (by simp[hi])⟩
 cases h
theorem ID{a:Addr}{v:Value}(h:w.cell? a=some v):∃arr ty cL,w.heap[a.block]?=some (.cells arr ty cL)/\a.spot=none/\arr[a.off]?=some v:=by
 unfold World.cell? at h;split at h
 ·rename_i arr ty cL e;split at h
  ·cases h
  rename_i ai;refine⟨arr,ty,cL,e,?_,h⟩;cases Ge:a.spot with
  | none=>rfl
  | some x=>simp[Ge]at ai
 cases h
theorem IE:∀(m:Nat) (t:TypeId) (gG:Nat) (cs:List Value) (x:DataW H×List MemPlace),s9 P m t=true->DataW.trod enc P w base (fun _=>true) held gG t cs=some x->
  ∃ds,ja P t ds/\nI w ds cs
 | 0,_,_,_,_,h,_=>by cases h
 | m+1,t,gG,cs,x,ai,h=>by
  unfold s9 at ai;split at ai
  ·rename_i hu;obtain⟨b,rfl,_⟩:=DataW.trod_bool hu h;exact⟨_,.bool t b hu,.one (.v _ _ rfl)⟩
  ·rename_i k hu;obtain⟨n,rfl,_,hw⟩:=DataW.trod_int hu h;exact⟨_,.int t k n hu hw,.one (.v _ _ rfl)⟩
  ·rename_i hu;obtain⟨s,rfl,_,hw⟩:=DataW.trod_string hu h;exact⟨_,.str t s hu hw,.one (.v _ _ rfl)⟩
  ·rename_i e hu;simp only[cF,cU]at ai;obtain⟨l3,Nq⟩:=ai;rcases DataW.trod_slice hu h with⟨rfl,_⟩ | ⟨a,len,cap,MA,rest,n,_,rfl,_,_,ap,al,hlen,vY,Ge,_⟩
   ·exact⟨_,.J t e [] hu (by simp) (fun ds ey=>by cases ey),.one (.nil _ _ _)⟩
   obtain⟨No,Nn⟩:=Ge rfl;generalize gu:P.cellsOf e=k at*;have hD:∀i,i<cap->∃cs,w.cells? base (a.add (i*k)) k=some cs/\∃x,DataW.trod enc P w base (fun _=>true) held n e cs=some x:=by
    intro i hi;by_cases iK:i<len
    ·have:=vY i iK;obtain⟨y,bD⟩:∃y,MA[i]?=some y:=⟨MA[i],iZ (by omega)⟩
     rw[bD,lf]at this;obtain⟨cs,h1,U⟩:=this;exact⟨cs,h1,y,U⟩
    have:=Nn (i-len) (by omega);rw[show len+(i-len)=i by omega]at this;obtain⟨y,bD⟩:∃y,rest[i-len]?=some y:=⟨rest[i-len],iZ (by omega)⟩
    rw[bD,lf]at this;obtain⟨cs,h1,U⟩:=this;exact⟨cs,h1,y,U⟩
   by_cases fS:cap=0
   ·subst fS;have:len=0:=by omega
    subst this;have:=ja.J (P:=P) t e [] hu (by simp) (fun ds ey=>by cases ey);exact⟨_,this,.one (.nil _ _ _)⟩
   have WA:∀i,∃ds,i<len->ja P e ds/\∃cs,w.cells? base (a.add (i*k)) k=some cs/\nI w ds cs:=by
    intro i;by_cases hi:i<len
    ·obtain⟨cs,h1,x,U⟩:=hD i (by omega);obtain⟨ds,ax,aI⟩:=IE m e n cs x Nq U;exact⟨ds,fun _=>⟨ax,cs,h1,aI⟩⟩
    exact⟨[],fun h=>absurd h hi⟩
   obtain⟨f,b0⟩:=Classical.skolem.1 WA;obtain⟨cl,oU,_⟩:=hD (cap-1) (by omega);obtain⟨atI,Wn⟩:=CG oU;have sB:=Wn (k-1) (by omega);obtain⟨auP,Gi⟩:∃v,cl[k-1]?=some v:=⟨cl[k-1],iZ (by omega)⟩
   rw[Gi]at sB;obtain⟨b,off,spot⟩:=a;have XA:spot=none:=by
    obtain⟨dk,Wh,_⟩:=hD 0 (by omega);obtain⟨atG,Wi⟩:=CG Wh;have b5:=Wi 0 l3;obtain⟨v0,B1⟩:∃v,dk[0]?=some v:=⟨dk[0],iZ (by omega)⟩
    rw[B1]at b5;obtain⟨_,_,_,_,h1,_⟩:=ID b5;simpa[Addr.add]using h1
   subst XA;obtain⟨arr,ty,cL,aw,_,sB⟩:=ID sB;simp only[pr]at aw sB;have dN:off+cap*k<=arr.size:=by
    have h1:=(iE.1 sB).1;have U:cap*k=(cap-1)*k+k:=by rw[<-Nat.succ_mul];congr 1;omega
    omega
   have BK:((List.range len).map f).length=len:=by simp
   have hW:∀i j d,cQ ((List.range len).map f) i j=some d->i<len/\(f i)[j]?=some d:=by
    intro i j d aG;unfold cQ at aG;rw[dr]at aG;by_cases hi:i<len
    ·rw[List.getElem?_range hi]at aG;exact⟨hi,by simpa using aG⟩
    rw[List.getElem?_eq_none (by simpa using hi)]at aG;simp at aG
   have eW:∀i j d,cQ ((List.range len).map f) i j=some d->∃u,arr[off+i*k+j]?=some u/\kv w d u:=by
    intro i j d aG;obtain⟨hi,bg⟩:=hW i j d aG;obtain⟨_,cs,h1,U⟩:=b0 i hi;obtain⟨Wm,q'⟩:=CG h1;obtain⟨u,iL,aH⟩:=U.2 j d bg;have yl:j<k:=by rw[<-Wm];exact (fy.1 iL).1
    have:=q' j yl;rw[iL]at this;obtain⟨jz,jK,Fi,gI,_,ak⟩:=ID this;simp only[pr]at gI ak;rw[aw]at gI;cases gI;exact⟨u,ak,aH⟩
   have BV:bQ w (fun _=>.bt) Tag.free.R (.J k ((List.range len).map f)) (.slice (some ⟨b,off,none⟩) ((List.range len).map f).length cap):=by
    refine .row _ k _ b off cap arr ty cL (fun i j=>arr.getD (off+i*k+j) undef) aw rfl (by omega) dN ?_ ?_ ?_
    ·intro e' he;obtain⟨i,hi,rfl⟩:=kK.1 he;obtain⟨_,cs,h1,U⟩:=b0 i (by simpa using hi);rw[U.1];exact (CG h1).1
    ·intro i j d aG;obtain⟨u,h1,_⟩:=eW i j d aG;rw[h1];simp[ep,h1]
    intro i j d aG;obtain⟨u,h1,U⟩:=eW i j d aG;have:arr.getD (off+i*k+j) undef=u:=by simp[ep,h1]
    rw[this];exact U
   rw[BK]at BV;have n1:=ja.J (P:=P) t e ((List.range len).map f) hu (by rw[BK];omega);rw[gu]at n1;refine⟨_,n1 ?_,.one BV⟩;intro ds ey;obtain⟨i,hi,rfl⟩:=kK.1 ey;exact (b0 i (by simpa using hi)).1
  ·rename_i ew hu;simp only[cF,fx]at ai;obtain⟨mQ,uw⟩:=ai;obtain⟨xs,n,_,_,ap,fA,b0⟩:=DataW.trod_struct hu h;rw[<-ap]at uw;obtain⟨ds,h1,U⟩:=TO (w:=w) uw fun f MX=>by
    obtain⟨i,hi⟩:=ox.1 MX;have:=b0 i f (by simpa using hi);have nX:i<xs.length:=by rw[fA];have:=(fy.1 hi).1;simpa using this
    rw[iZ nX]at this;exact IE m f.type n _ _ (mQ f MX) this
   rw[vB]at h1;exact⟨ds,.struct t ew ds hu (by rw[h1.1,ap]) (by simpa using U),h1⟩
  cases ai
end
end Go.Sx
namespace Go.Sx
open Go.ChangeShapes Go.WideShapes Go.ChangeAt Go.RowKit Go.Joins
def qT(P:Program)(t:TypeId):Bool:=match P.underlying t with | some (.struct _)=>true | _=>false
def Bd(P:Program)(t:TypeId):cz->Prop
 | .one d=>ja P t [d]/\qT P t=false
 | .agg ds=>ja P t ds/\qT P t=true
def Be(P:Program):List TypeId->List cz->Prop
 | [],[]=>True
 | t::ts,a::as=>Bd P t a/\Be P ts as
 | _,_=>False
section
variable {H : Type} {enc : TypeId × Value -> H} {P : Program} {w : World} {base cc : Nat} {held : Bool} {r : Reach}
theorem akX{t:TypeId}{v:Value}{d:DataW H}{cn:List MemPlace}(ai:s9 P 20 t=true)(gi:Value.okWide P w r cc t v)(h:DataW.Trod enc P w base (fun _=>true) held t v d cn):
  ∃cj,Bd P t cj/\tM w cj v:=by
 obtain⟨gG,b0⟩:=h;obtain⟨ds,h1,U⟩:=IE 20 t gG _ _ ai b0;have one:(∀cs,v≠.agg cs)->qT P t=false->∃cj,Bd P t cj/\tM w cj v:=by
  intro bz ag;have al:v.cells.toList=[v]:=by
   cases v<;>first | rfl | (exact absurd rfl (bz _))
  rw[al]at U
  match ds,h1,U with
  | [d],h1,U=>
   obtain⟨u,hu,aH⟩:=U.2 0 d rfl;simp at hu;subst hu;exact⟨.one d,⟨h1,ag⟩,aH⟩
  | [],_,U=>simp[nI]at U
  | _::_::_,_,U=>simp[nI]at U
 rw[show (20:Nat)=19+1 from rfl]at ai;unfold s9 at ai;unfold Value.okWide at gi;split at ai
 ·rename_i hu;rw[hu]at gi;refine one (fun cs e=>?_) (by simp[qT,hu]);subst e;simp[Cell.okWide,Cell.ok,hu]at gi
 ·rename_i hu;rw[hu]at gi;refine one (fun cs e=>?_) (by simp[qT,hu]);subst e;simp[Cell.okWide,Cell.ok,hu]at gi
 ·rename_i hu;rw[hu]at gi;refine one (fun cs e=>?_) (by simp[qT,hu]);subst e;simp[Cell.okWide,Cell.ok,hu]at gi
 ·rename_i hu;rw[hu]at gi;refine one (fun cs e=>?_) (by simp[qT,hu]);subst e;simp[Cell.okWide,Cell.ok,hu]at gi
 ·rename_i hu;rw[hu]at gi;obtain⟨cs,rfl,_,_⟩:=gi;refine⟨.agg ds,⟨h1,by simp[qT,hu]⟩,cs,rfl,by have:=U.1;simpa[Value.cells]using this.symm,fun i d aG=>?_⟩;obtain⟨u,iL,aH⟩:=U.2 i d aG;exact⟨u,by simpa[Value.cells]using iL,aH⟩
 cases ai
theorem Qd:∀(ts:List TypeId) (vs:List Value) (ds:List (DataW H)) (cn:List MemPlace),ts.all (s9 P 20)=true->(∀(j:Nat) t v,ts[j]?=some t->vs[j]?=some v->Value.okWide P w r cc t v)->
  DataW.TrodAll enc P w base (fun _=>true) held ts vs ds cn->∃fH,Be P ts fH/\vs.length=fH.length/\∀(i:Nat) (cj:cz),fH[i]?=some cj->∃v,vs[i]?=some v/\tM w cj v
 | [],[],[],_,_,_,_=>⟨[],aa,rfl,fun i cj h=>by simp at h⟩
 | t::ts,v::vs,d::ds,cn,ai,gi,h=>by
  obtain⟨p,q,h1,U,_⟩:=h;simp only[List.all_cons,cF]at ai;obtain⟨cj,V7,Fz⟩:=akX ai.1 (gi 0 t v rfl rfl) h1;obtain⟨fH,ax,aI,aX⟩:=Qd ts vs ds q ai.2 (fun j t v bU bz=>gi (j+1) t v (by simpa using bU) (by simpa using bz)) U;refine⟨cj::fH,⟨V7,ax⟩,by simp[aI],fun i mA hi=>?_⟩;cases i with
  | zero=>simp at hi;subst hi;exact⟨v,rfl,Fz⟩
  | succ i=>simpa using aX i mA (by simpa using hi)
 | [],_::_,_,_,_,_,h=>by simp[DataW.TrodAll]at h
 | [],[],_::_,_,_,_,h=>by simp[DataW.TrodAll]at h
 | _::_,[],_,_,_,_,h=>by simp[DataW.TrodAll]at h
 | _::_,_::_,[],_,_,_,h=>by simp[DataW.TrodAll]at h
theorem Qe{H:Type}{enc:TypeId×Value->H}{P:Program}(ap:laidOutB P=true){W xK:World}(aw:Below W.heap.size W xK):
  ∀(ts:List TypeId) (vs:List Value) (ds:List (DataW H)) (cn:List MemPlace),ts.all (fun t=>P.readableRec t&&decide (t<P.types.size))=true->
   DataW.TrodAll enc P W 0 (fun _=>true) true ts vs ds cn->(∀x∈cn,x.block<W.heap.size)->
   DataW.TrodAll enc P xK 0 (fun b=>decide (b<W.heap.size)) true ts vs ds cn
 | [],vs,ds,cn,_,h,_=>by
  obtain⟨rfl,rfl,rfl⟩:=trodAll_nil h;exact trodAll_mk0
 | t::ts,vs,ds,cn,bU,h,bJ=>by
  obtain⟨v,asB,d,q0,p,q,rfl,rfl,rfl,b5,aH⟩:=trodAll_cons h;simp only[List.all_cons,cF,cU]at bU;exact trodAll_cons_mk (Below.trod ap bU.1.1 bU.1.2 b5 aw (fun x ak=>bJ x (hQ _ ak)))
   (Qe ap aw ts asB q0 q bU.2 aH (fun x ak=>bJ x (iC _ ak)))
theorem Qf:∀(ts:List TypeId) (vs:List Value) (ds:List (DataW H)) (cn:List MemPlace),DataW.TrodAll enc P w base (fun _=>true) held ts vs ds cn->ds.length=ts.length
 | [],[],[],_,_=>rfl
 | t::ts,v::vs,d::ds,cn,h=>by
  obtain⟨p,q,_,U,_⟩:=h;simp[Qf ts vs ds q U]
 | [],_::_,_,_,h=>by simp[DataW.TrodAll]at h
 | [],[],_::_,_,h=>by simp[DataW.TrodAll]at h
 | _::_,[],_,_,h=>by simp[DataW.TrodAll]at h
 | _::_,_::_,[],_,h=>by simp[DataW.TrodAll]at h
theorem akY(ap:laidOutB P=true){f:Func}{fno:Nat}{s:ChangeSpec}{tb:TypeId}(eG:f.resultTypes=#[tb])(aw:P.underlying tb=some .bool)
  (hp:f.params.toList.all (fun t=>P.readableRec t&&decide (t<P.types.size))=true) (eP:f.params.toList.all (s9 P 20)=true) (Nw:s.vars=[])
  {W:World} {args:Array Value} {ds gs:List (DataW H)} {before:List MemPlace} (gi:∀(j:Nat) t v,f.params[j]?=some t->args[j]?=some v->Value.okWide P W r cc t v)
  (su:DataW.Whole enc P f.params.toList s.vars false W args.toList ds gs before)
  (ai:ds.length=f.params.size->(s.fn H ds).results=[.lit (.bool true)]/\(s.fn H ds).args=ds/\(s.fn H ds).vars=[])
  (rn:oE W) (W5:∀fH,Be P f.params.toList fH->hA P fno fH [.one (B true)]):
  Calls P fno args W fun e xK=>∃v,e=.returned v/\s.post enc P f false true false false W args v xK:=by
 have V6:=su;have bJ:=su.lt;obtain⟨p,q,x9,MK,rfl,atU,aub⟩:=su;rw[Nw]at MK;obtain⟨rfl,rfl⟩:=trodVars_none MK;obtain⟨h1,U,ax⟩:=ai (by have:=Qf _ _ _ _ x9;simpa using this);obtain⟨fH,Xy,hlen,cJ⟩:=Qd _ _ _ _ eP (fun j t v bU bz=>gi j t v (by simpa using bU) (by simpa using bz)) x9;refine (W5 fH Xy W args rn ⟨by simpa using hlen,fun i cj hi=>by simpa using cJ i cj hi⟩).mono ?_;rintro e xK ⟨v,rfl,p0,aH⟩;have bz:v=.bool true:=by
  obtain⟨ω,_,_,h⟩:=aH;simp only[lE,k2]at h;cases h;rfl
 subst bz;refine⟨_,rfl,ds,[],p++[],[],p,[],V6,?_,?_,?_,p0.below.frame _,fun h=>by cases h⟩
 ·rw[lc,h1,eG];exact trodAll_mk1 (shut_bool aw true)
 ·rw[lc,U];exact Qe ap p0.below _ _ _ _ hp x9 (fun x ak=>bJ x (by simpa using ak))
 rw[lc,ax,Nw];rfl
end
