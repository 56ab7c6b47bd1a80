import Derived.Test.YtdchjefneblpgaaGreatR13
import Derived.LoopN
import Derived.ChangeMaps5
import Derived.ChangeSame
import Derived.ChangeStays
import Derived.ProofKit
import Derived.Lib.SmallJoins
set_option linter.unusedVariables false
set_option linter.unusedSimpArgs false
namespace Go.Sx
open Go.RowKit
def gQ.pW:gQ->Exit
 | .normal=>.normal
 | .exit id=>.exit id
 | .ret=>.ret
def Mh(w0:ee)(e:gQ)(st:aD):Exit->Act->World->Prop:=fun e' a w=>e'=e.pW/\Rel w0 st a w
def gf(P:Program)(c:Code)(st:aD)(e:gQ)(bn:aD):Prop:=∀w0 a w,Rel w0 st a w->c.wp P (Mh w0 e bn) a w
def cV(P:Program)(c:Code)(st:aD)(e:gQ)(bn:aD):Prop:=∃n,∀w0 a w,Rel w0 st a w->Code.rounds P c (Mh w0 e bn) n a w
variable{P:Program}{st bn:aD}
theorem cV.last{c:Code}{e:gQ}(he:e.pW≠.normal)(h:gf P c st e bn):cV P c st e bn:=
 ⟨1,fun w0 a w aH=>Code.wp_mono (fun e' cx aM ⟨h1,U⟩=>by
  subst h1;cases e with
  | normal=>exact absurd rfl he
  | exit id=>exact⟨rfl,U⟩
  | ret=>exact⟨rfl,U⟩) (h w0 a w aH)⟩
theorem cV.more{c:Code}{st1:aD}{e:gQ}(h:gf P c st .normal st1)(U:cV P c st1 e bn):cV P c st e bn:=by
 obtain⟨n,a8⟩:=U;refine⟨n+1,fun w0 a w aH=>Code.wp_mono (fun e' cx aM ⟨h1,ax⟩=>?_) (h w0 a w aH)⟩;subst h1;exact a8 w0 cx aM ax
def s4(cG:List Nat):Nat->List aE->List aE
 | _,[]=>[]
 | i,p::r=>(if cG.contains i then p else .cj)::s4 cG (i+1) r
theorem P6(cG:List Nat):∀(l:List aE) (i j:Nat),(s4 cG i l)[j]?=(l[j]?).map fun p=>if cG.contains (i+j) then p else .cj
 | [],_,_=>by simp[s4]
 | p::r,i,0=>by simp[s4]
 | p::r,i,j+1=>by
  simp only[s4,nD,P6 cG r (i+1) j];rw[show i+1+j=i+(j+1) by omega]
theorem P7(cG:List Nat):∀(l:List aE) (i:Nat),(s4 cG i l).length=l.length
 | [],_=>rfl
 | p::r,i=>by simp[s4,P7 cG r]
def vh(bs:List Nat):List (Nat×List az)->List (Nat×List az)
 | []=>[]
 | (i,ls)::r=>if bs.contains i then (i,ls)::vh bs r else vh bs r
theorem Iw(bs:List Nat)(id:Nat):∀(l:List (Nat×List az)) (ls:List az),df id (vh bs l)=some ls->df id l=some ls
 | [],_,h=>by cases h
 | (i,fo)::r,ls,h=>by
  simp only[vh]at h;simp only[df];split at h
  ·simp only[df]at h;split at h
   ·grind
   rename_i hi;rw[bG hi];exact Iw bs id r ls h
  rename_i al;have:=Iw bs id r ls h;split
  ·rename_i hi;subst hi;exfalso;have kr:∀(r:List (Nat×List az)),df i (vh bs r)=none:=by
    intro r;induction r with
    | nil=>rfl
    | cons x r eH=>
     obtain⟨ou,kf⟩:=x;simp only[vh];split
     ·rename_i ak;simp only[df];grind
     exact eH
   grind
  exact this
def B':az->az
 | .v (.bool b)=>.a' b
 | l=>l
variable{w:World}
theorem P8{ω:Own}{τ:Nat->Nat×Value}(l:az)(v:Value)(h:Sat w ω τ l v):Sat w ω τ (B' l) v:=by
 unfold B';split
 ·exact h
 exact h
def aD.fe(st:aD)(cG bs:List Nat):aD:=⟨(s4 cG 0 st.env).map (aE.map B'),(vh bs st.boxes).map fun x=>(x.1,x.2.map B')⟩
variable{w0:ee}{a:Act}
theorem Rel.fe(h:Rel w0 st a w)(cG bs:List Nat):Rel w0 (st.fe cG bs) a w:=by
 obtain⟨ω,τ,h⟩:=h;refine⟨ω,τ,h.defers,by simp[aD.fe,P7,h.size],h.below,h.owned,h.fixed,h.pinned,?_,?_⟩
 ·intro i p hp;simp only[aD.fe]at hp;rw[dr,bX]at hp;obtain⟨j9,hp,rfl⟩:=hp;rw[P6,bX]at hp;obtain⟨Ho,hp,rfl⟩:=hp;obtain⟨v,h1,U⟩:=h.env i Ho hp;refine⟨v,h1,cE.map P8 ?_⟩;split
  ·exact U
  exact trivial
 intro id ls ap;simp only[aD.fe]at ap;rw[rJ,bX]at ap;obtain⟨ij,ap,rfl⟩:=ap;obtain⟨b,arr,ty,h1,U,ax,aJ⟩:=h.boxes id ij (Iw bs id _ _ ap);exact⟨b,arr,ty,h1,U,ax,aJ.map P8⟩
def Ix(st:aD)(id j t k:Nat):Option aD:=
 match df id (st.il t []).boxes with
 | some ls=>
  match ls[j]? with
  | some (.v (.slice none 0 0))=>if t<cX then some ⟨(st.il t []).env,pu id (ls.set j (.J (.own t) k [])) (st.il t []).boxes⟩ else none
  | _=>none
 | none=>none
def Iy(st:aD)(id j t:Nat):Option aD:=
 match df id st.boxes with
 | some ij=>
  match ij[j]? with
  | some (.J (.own iU) ch es)=>
   if t<cX then
    let st1:=st.map (az.ct (jE iU t) fun _=>true)
    match df id st1.boxes with
    | some ls=>some ⟨st1.env,pu id (ls.set j (.J (.own t) ch es)) st1.boxes⟩
    | none=>none
   else none
  | _=>none
 | none=>none
def s5(st:aD):List (Nat×Nat×Nat)->Option aD
 | []=>some st
 | (s,t,k)::r=>
  if 1000000<=s then
   (match Iy st (s / 1000000-1) (s % 1000000) t with
   | some st1=>some st1
   | none=>Ix st (s / 1000000-1) (s % 1000000) t k).bind fun st1=>s5 st1 r else
  match (st.env.getD s .cj).leaf with
  | some (.v (.slice none 0 0))=>if t<cX then s5 ⟨(st.il t []).env.set s (.one (.J (.own t) k [])),(st.il t []).boxes⟩ r else none
  | some (.J (.own iU) ch es)=>
   if t<cX then s5 ⟨(st.map (az.ct (jE iU t) fun _=>true)).env.set s (.one (.J (.own t) ch es)),(st.map (az.ct (jE iU t) fun _=>true)).boxes⟩ r else none
  | _=>none
theorem cr.Mp{ω:Own}{τ:Nat->Nat×Value}(h:cr w0 st a w ω τ){s:Nat}{l:az}(ap:(st.env.getD s .cj).leaf=some l)(c3:l≠.cj):∃v,a.tmps[s]?=some v/\Sat w ω τ l v:=by
 rw[jY]at ap;cases e:st.env[s]? with
 | none=>grind[aE.leaf,aS,absurd]
 | some p=>
  rw[e]at ap;obtain⟨v,h1,U⟩:=h.env s p e;grind[aE.du]
theorem P9{s:Nat}{v:Value}(h:a.tmps[s]?=some v):a.put (some s) v=a:=by
 simp only[Act.put];have:a.tmps.setIfInBounds s v=a.tmps:=by
  grind
 rw[this]
theorem akO{id j t k:Nat}(h:Ix st id j t k=some bn)(aH:Rel w0 st a w):Rel w0 bn a w:=by
 obtain⟨ω,τ,aH⟩:=aH;unfold Ix at h;split at h
 ·rename_i ls aw;split at h
  ·rename_i bg;split at h
   ·rename_i hZ;simp only[aS]at h;subst h;obtain⟨a7,h1,U⟩:=aH.Hf t k hZ;refine⟨a7,_,h1.defers,h1.size,h1.below,h1.owned,h1.fixed,h1.pinned,h1.env,fun hn e6 ap=>?_⟩;by_cases gh:hn=id
    ·subst gh;rw[ww aw]at ap;cases ap;obtain⟨b,arr,ty,e1,e2,cb,d'⟩:=h1.boxes hn ls aw;refine⟨b,arr,ty,e1,e2,cb,by rw[d'.1,gp],fun i l hi=>?_⟩;rw[nC]at hi;split at hi
     ·rename_i ui;subst ui;split at hi
      ·cases hi;obtain⟨u,gv,fc⟩:=d'.2 j _ bg;have aui:u=.slice none 0 0:=fc;grind
      cases hi
     exact d'.2 i l hi
    rw[wx gh]at ap;exact h1.boxes hn e6 ap
   cases h
  cases h
 cases h
theorem akP{id j t:Nat}(h:Iy st id j t=some bn)(aH:Rel w0 st a w):Rel w0 bn a w:=by
 obtain⟨ω,τ,aH⟩:=aH;unfold Iy at h;split at h
 case h_2=>cases h
 rename_i ij gZ;split at h
 case h_2=>cases h
 rename_i iU ch es bg;split at h
 case isFalse=>cases h
 rename_i hZ;simp only at h;split at h
 case h_2=>cases h
 rename_i ls aw;simp only[aS]at h;subst h;obtain⟨cc,sj,tA,ati,atj,atk,VN⟩:=aH.boxes id ij gZ;obtain⟨v,bz,ai⟩:=VN.2 j _ bg;have h1:cr w0 (st.map (az.ct (jE iU t) fun _=>true)) a w (fun b=>iP iU t 0 (ω b)) (fE τ t ch v):=
  aH.dT _ (HD hZ).sat aH.below (fun b aw=>aH.owned b (HC aw)) (fun id b aw=>⟨sX.2 aw,rfl⟩) (fun id b aw=>sX.1 aw)
   (fun c5 bU=>by simp only[fE];grind)
 have U:Sat w (fun b=>iP iU t 0 (ω b)) (fE τ t ch v) (.J (.own t) ch es) v:=⟨ai.1.frame fun b q _ aK=>⟨by
  simp only[Tag.R]at aK ⊢;rw[aK];cases q with
  | nil=>simp[iP]
  | cons x q=>grind[iP],rfl⟩,by simp[Tag.dJ,fE]⟩
 refine⟨_,_,h1.defers,h1.size,h1.below,h1.owned,h1.fixed,h1.pinned,h1.env,fun hn e6 ap=>?_⟩;by_cases gh:hn=id
 ·subst gh;rw[ww aw]at ap;cases ap;obtain⟨b,arr,ty,e1,e2,cb,d'⟩:=h1.boxes hn ls aw;refine⟨b,arr,ty,e1,e2,cb,by rw[d'.1,gp],fun i l hi=>?_⟩;rw[nC]at hi;split at hi
  ·rename_i ui;subst ui;split at hi
   ·cases hi;have MN:b=cc:=by
     have gY:ω b=.box hn:=sX.1 e1;grind
    grind
   cases hi
  exact d'.2 i l hi
 rw[wx gh]at ap;exact h1.boxes hn e6 ap
theorem yV:∀{ns:List (Nat×Nat×Nat)} {st bn:aD},s5 st ns=some bn->Rel w0 st a w->Rel w0 bn a w
 | [],st,bn,h,aH=>by grind[s5,aS]
 | (s,t,k)::r,st,bn,h,aH=>by
  simp only[s5]at h;split at h
  ·rw[la]at h;obtain⟨st1,h1,h⟩:=h;refine yV h ?_;split at h1
   ·rename_i st2 U;cases h1;exact akP U aH
   exact akO h1 aH
  split at h
  ·rename_i ap;obtain⟨ω,τ,aH⟩:=aH;obtain⟨v,bz,ai⟩:=aH.Mp ap (by simp);have:v=.slice none 0 0:=ai;subst this;split at h
   case isFalse=>cases h
   rename_i hZ;obtain⟨a7,h1,U⟩:=aH.Hf t k hZ;have ax:=h1.put (d:=s) (p:=.one (.J (.own t) k [])) U;rw[P9 bz]at ax;exact yV h ⟨a7,_,ax⟩
  ·rename_i iU ch es ap;obtain⟨ω,τ,aH⟩:=aH;obtain⟨v,bz,ai⟩:=aH.Mp ap (by simp);split at h
   case isFalse=>cases h
   rename_i hZ;have h1:cr w0 (st.map (az.ct (jE iU t) fun _=>true)) a w (fun b=>iP iU t 0 (ω b)) (fE τ t ch v):=
    aH.dT _ (HD hZ).sat aH.below (fun b aw=>aH.owned b (HC aw)) (fun id b aw=>⟨sX.2 aw,rfl⟩) (fun id b aw=>sX.1 aw)
     (fun c5 bU=>by simp only[fE];grind)
   have ax:=h1.put (d:=s) (p:=.one (.J (.own t) ch es)) (v:=v) ⟨ai.1.frame fun b q _ aK=>⟨by
    simp only[Tag.R]at aK ⊢;rw[aK];cases q with
    | nil=>simp[iP]
    | cons x q=>grind[iP],rfl⟩,by simp[Tag.dJ,fE]⟩
   rw[P9 bz]at ax;exact yV h ⟨_,_,ax⟩
  cases h
abbrev Vr:=Option (gQ×aD×List b4×List Prop)
def run(P:Program):Code->aD->List b4->Vr
 | .skip,st,ans=>some (.normal,st,ans,[])
 | .label _,st,ans=>some (.normal,st,ans,[])
 | .region _ ops draw,st,ans=>if draw then (Iv P ops st ans).map fun r=>(.normal,r.1,r.2.1,r.2.2) else (ve P ops ops.toList st ans).map fun r=>(.normal,r.1,r.2.1,r.2.2)
 | .seq a b,st,ans=>
  match run P a st ans with
  | some (.normal,st1,eT,fq)=>(run P b st1 eT).map fun r=>(r.1,r.2.1,r.2.2.1,fq++r.2.2.2)
  | some (e,st1,eT,fq)=>some (e,st1,eT,fq)
  | none=>none
 | .cond c x y,st,ans=>
  match (st.bh c).leaf,ans with
  | some (.v (.bool true)),ans=>run P x st ans
  | some (.v (.bool false)),ans=>run P y st ans
  | some (.a' c),.nI true::r=>(run P x st r).map fun r=>(r.1,r.2.1,r.2.2.1,(c=true)::r.2.2.2)
  | some (.a' c),.nI false::r=>(run P y st r).map fun r=>(r.1,r.2.1,r.2.2.1,(c=false)::r.2.2.2)
  | _,_=>none
 | .block id body,st,ans=>
  match run P body st ans with
  | some (.exit i,st1,eT,fq)=>some (if i=id then .normal else .exit i,st1,eT,fq)
  | r=>r
 | .loop body,st,ans=>
  match ans with
  | .loop B8 cG bs e bn::r=>
   match e,s5 st B8 with
   | .normal,_=>none
   | e,some st1=>some (e,bn,r,[cV P body (st1.fe cG bs) e bn])
   | _,none=>none
  | _=>none
 | .exit id,st,ans=>some (.exit id,st,ans,[])
 | .ret,st,ans=>some (.ret,st,ans,[])
 | _,_,_=>none
theorem mc:∀(c:Code) {st bn:aD} {ans b':List b4} {obs:List Prop} {e:gQ},run P c st ans=some (e,bn,b',obs)->cA obs->gf P c st e bn
 | .skip,st,bn,ans,b',obs,e,h,aZ=>by
  simp only[run,aS,bq]at h;obtain⟨rfl,rfl,_,_⟩:=h;exact fun w0 a w aH=>wp_skip ⟨rfl,aH⟩
 | .label l,st,bn,ans,b',obs,e,h,aZ=>by
  simp only[run,aS,bq]at h;obtain⟨rfl,rfl,_,_⟩:=h;exact fun w0 a w aH=>wp_label ⟨rfl,aH⟩
 | .region id ops draw,st,bn,ans,b',obs,e,h,aZ=>by
  simp only[run]at h;split at h
  ·rename_i aG;rw[bX]at h;obtain⟨⟨bK,b2,cf⟩,h1,h⟩:=h;simp only[bq]at h;obtain⟨rfl,rfl,rfl,rfl⟩:=h;subst aG;exact fun w0 a w aH=>akN h1 aZ aH fun cx aM h=>⟨rfl,h⟩
  rename_i aG;rw[bX]at h;obtain⟨⟨bK,b2,cf⟩,h1,h⟩:=h;simp only[bq]at h;obtain⟨rfl,rfl,rfl,rfl⟩:=h;have:draw=false:=by grind
  subst this;exact fun w0 a w aH=>wp_region_list (I7 _ h1 aZ aH fun cx aM h=>⟨rfl,h⟩)
 | .seq x y,st,bn,ans,b',obs,e,h,aZ=>by
  simp only[run]at h;split at h
  ·rename_i st1 eT fq h1;rw[bX]at h;obtain⟨⟨bK,b2,cf,ed⟩,U,h⟩:=h;simp only[bq]at h;obtain⟨rfl,rfl,rfl,rfl⟩:=h;obtain⟨cy,ca⟩:=aZ.append;intro w0 a w aH;refine wp_seq (Code.wp_mono (fun e' cx aM hp=>?_) (mc x h1 cy w0 a w aH));obtain⟨rfl,et⟩:=hp;exact mc y U ca w0 cx aM et
  ·rename_i e1 st1 eT fq c3 h1;simp only[aS,bq]at h;obtain⟨rfl,rfl,rfl,rfl⟩:=h;intro w0 a w aH;refine wp_seq (Code.wp_mono (fun e' cx aM hp=>?_) (mc x h1 aZ w0 a w aH));obtain⟨rfl,et⟩:=hp;cases e1 with
   | normal=>grind
   | exit i=>exact⟨rfl,et⟩
   | ret=>exact⟨rfl,et⟩
  cases h
 | .cond c x y,st,bn,ans,b',obs,e,h,aZ=>by
  intro w0 a w aH;have rl:=aH;obtain⟨ω,τ,et⟩:=rl;have ei:=et.bh c;simp only[run]at h;split at h
  ·rename_i ap;have:a.eval c=.bool true:=aE.du ap ei;exact wp_cond_true this (mc x h aZ w0 a w aH)
  ·rename_i ap;have:a.eval c=.bool false:=aE.du ap ei;exact wp_cond_false this (mc y h aZ w0 a w aH)
  ·rename_i jc r ap;rw[bX]at h;obtain⟨⟨bK,b2,cf,ed⟩,U,h⟩:=h;simp only[bq]at h;obtain⟨rfl,rfl,rfl,rfl⟩:=h;have:a.eval c=.bool jc:=aE.du ap ei;have al:jc=true:=aZ.1;exact wp_cond_true (by rw[this,al]) (mc x U aZ.2 w0 a w aH)
  ·rename_i jc r ap;rw[bX]at h;obtain⟨⟨bK,b2,cf,ed⟩,U,h⟩:=h;simp only[bq]at h;obtain⟨rfl,rfl,rfl,rfl⟩:=h;have:a.eval c=.bool jc:=aE.du ap ei;have al:jc=false:=aZ.1;exact wp_cond_false (by rw[this,al]) (mc y U aZ.2 w0 a w aH)
  cases h
 | .block id body,st,bn,ans,b',obs,e,h,aZ=>by
  intro w0 a w aH;simp only[run]at h;split at h
  ·rename_i i st1 eT fq h1;simp only[aS,bq]at h;obtain⟨rfl,rfl,rfl,rfl⟩:=h;refine wp_block (Code.wp_mono (fun e' cx aM hp=>?_) (mc body h1 aZ w0 a w aH));obtain⟨rfl,et⟩:=hp;simp only[gQ.pW,Exit.inBlock];split
   ·exact⟨rfl,et⟩
   exact⟨rfl,et⟩
  rename_i c3;refine wp_block (Code.wp_mono (fun e' cx aM hp=>?_) (mc body h aZ w0 a w aH));obtain⟨rfl,et⟩:=hp;cases e with
  | normal=>exact⟨rfl,et⟩
  | exit i=>grind
  | ret=>exact⟨rfl,et⟩
 | .loop body,st,bn,ans,b',obs,e,h,aZ=>by
  intro w0 a w aH;simp only[run]at h;split at h
  ·rename_i B8 cG bs bB fh r;split at h
   ·cases h
   ·rename_i e1 st1 c3 a8;simp only[aS,bq]at h;obtain⟨rfl,rfl,rfl,rfl⟩:=h;obtain⟨n,ap⟩:=aZ.1;exact wp_loop_rounds n (ap w0 a w ((yV a8 aH).fe cG bs))
   cases h
  cases h
 | .exit id,st,bn,ans,b',obs,e,h,aZ=>by
  simp only[run,aS,bq]at h;obtain⟨rfl,rfl,_,_⟩:=h;exact fun w0 a w aH=>wp_exit ⟨rfl,aH⟩
 | .ret,st,bn,ans,b',obs,e,h,aZ=>by
  simp only[run,aS,bq]at h;obtain⟨rfl,rfl,_,_⟩:=h;exact fun w0 a w aH=>wp_ret ⟨rfl,aH⟩
 | .rangeFunc ..,_,_,_,_,_,_,h,_=>by simp[run]at h
 | .scope _,_,_,_,_,_,_,h,_=>by simp[run]at h
 | .goto _,_,_,_,_,_,_,h,_=>by simp[run]at h
 | .refuse _,_,_,_,_,_,_,h,_=>by simp[run]at h
end Go.Sx
namespace Go.Sx
open Go.RowKit
def az.xf:az->D->Option (D×Option Nat)
 | .v x,hint=>
  match x,hint with
  | .slice none 0 0,.J k _=>some (.J k [],none)
  | x,_=>if x.oneCell' then some (.v x,none) else none
 | .a' c,_=>some (.v (.bool c),none)
 | .J (.own t) k es,_=>some (.J k es,some t)
 | _,_=>none
abbrev hg:=List (Nat×Nat)
def hg.at(t:Nat):hg->Option Nat
 | []=>none
 | (s,n)::r=>if s=t then some n else hg.at t r
def Dp(n:Nat):Option Nat->hg
 | some t=>[(t,n)]
 | none=>[]
def pK(n:Nat):List az->List D->Option (List D×hg)
 | [],[]=>some ([],[])
 | l::ls,d::ds=>
  match l.xf d,pK (n+1) ls ds with
  | some (dn,t),some (q0,ts)=>some (dn::q0,Dp n t++ts)
  | _,_=>none
 | _,_=>none
def DQ(n:Nat):bm->cz->Option (cz×hg)
 | .one l,.one d=>(l.xf d).map fun x=>(.one x.1,Dp n x.2)
 | .agg ls,.agg ds=>(pK n ls ds).map fun x=>(.agg x.1,x.2)
 | _,_=>none
def qF(r:Nat):List aE->List cz->Option (List cz×hg)
 | [],[]=>some ([],[])
 | .aF a::cn,d::ds=>
  match DQ (100*r) a d,qF (r+1) cn ds with
  | some (dn,t),some (q0,ts)=>some (dn::q0,t++ts)
  | _,_=>none
 | _,_=>none
def Dq(ts:hg):Bool:=ts.all fun x=>match ts.at x.1 with | some n=>n==x.2 | none=>false
variable{ts:hg}{n:Nat}
theorem Dr(h:Dq ts=true){t:Nat}(hm:(t,n)∈ts):ts.at t=some n:=by
 have:=fx.1 h _ hm;simp only at this;split at this
 ·rename_i X3 e;rw[e];simp only[jL]at this;rw[this]
 cases this
def hG(ω:Own)(ts:hg):Own:=fun b=>
 match ω b with
 | .tok t q=>match ts.at t with | some n=>.tok n q | none=>.bt
 | _=>.bt
variable{w:World}{ω:Own}{τ:Nat->Nat×Value}
theorem az.TB{l:az}{h d:D}{t:Option Nat}{u:Value}(aG:l.xf h=some (d,t))(ai:Sat w ω τ l u)
  (jA:∀s,t=some s->ts.at s=some n):bQ w (hG ω ts) (Tag.own n).R d u:=by
 cases l with
 | cj=>cases aG
 | v x=>
  have e:u=x:=ai;subst e;simp only[az.xf]at aG;split at aG
  ·simp only[aS,bq]at aG;obtain⟨rfl,_⟩:=aG;exact .nil _ _ _
  split at aG
  ·simp only[aS,bq]at aG;obtain⟨rfl,_⟩:=aG;exact .v _ _ ‹_›
  cases aG
 | a' c=>
  have e:u=.bool c:=ai;subst e;simp only[az.xf,aS,bq]at aG;obtain⟨rfl,_⟩:=aG;exact .v _ _ rfl
 | J g k es=>
  cases g with
  | free=>cases aG
  | ro s=>cases aG
  | own s=>
   simp only[az.xf,aS,bq]at aG;obtain⟨rfl,rfl⟩:=aG;refine ai.1.frame fun b q _ aK=>⟨?_,rfl⟩
   simp only[Tag.R]at aK ⊢;simp only[hG,aK,jA s rfl]
 | ptr=>cases aG
 | cB=>cases aG
 | ha=>cases aG
 | fd=>cases aG
 | c'=>cases aG
 | fR=>cases aG
 | aO=>cases aG
 | eX=>cases aG
theorem P'{t:Option Nat}{s:Nat}(h:t=some s):(s,n)∈Dp n t:=by subst h;simp[Dp]
theorem Iz{w:World}{ω:Own}{τ:Nat->Nat×Value}(jA:∀t n,(t,n)∈ts->ts.at t=some n):∀{ls:List az} {ai ds:List D} {n:Nat} {jW:hg},pK n ls ai=some (ds,jW)->(∀x∈jW,x∈ts)->
  ds.length=ls.length/\∀(j:Nat) (d:D),ds[j]?=some d->∃l,ls[j]?=some l/\∀u,Sat w ω τ l u->bQ w (hG ω ts) (Tag.own (n+j)).R d u
 | [],[],ds,n,jW,h,_=>by
  simp only[pK,aS,bq]at h;obtain⟨rfl,_⟩:=h;exact⟨rfl,fun j d aG=>by simp at aG⟩
 | l::ls,b5::ai,ds,n,jW,h,ih=>by
  simp only[pK]at h;split at h
  ·rename_i dn t q0 r9 e1 e2;simp only[aS,bq]at h;obtain⟨rfl,rfl⟩:=h;obtain⟨h1,U⟩:=Iz (w:=w) (ω:=ω) (τ:=τ) jA e2 (fun x ak=>ih x (iC _ ak));refine⟨by simp[h1],fun j d aG=>?_⟩;cases j with
   | zero=>
    simp at aG;subst aG;exact⟨l,rfl,fun u hu=>az.TB e1 hu fun s c6=>jA s n (ih _ (hP _ (P' c6)))⟩
   | succ j=>
    obtain⟨fU,ax,aJ⟩:=U j d (by simpa using aG);refine⟨fU,by simpa using ax,fun u hu=>?_⟩;have:=aJ u hu;rwa[show n+1+j=n+(j+1) by omega]at this
  cases h
 | [],_::_,_,_,_,h,_=>by simp[pK]at h
 | _::_,[],_,_,_,h,_=>by simp[pK]at h
theorem akQ(jA:∀t n,(t,n)∈ts->ts.at t=some n){a:bm}{h d:cz}{r:Nat}{jW:hg}(aH:DQ (100*r) a h=some (d,jW))(ih:∀x∈jW,x∈ts)
  {y:Value} (ai:ju (Sat w ω τ) a y):kZ w (hG ω ts) r d y:=by
 cases a with
 | one l=>
  cases h with
  | agg c6=>cases aH
  | one b5=>
   simp only[DQ,bX]at aH;obtain⟨⟨dn,t⟩,h1,U⟩:=aH;simp only[bq]at U;obtain⟨rfl,rfl⟩:=U;exact az.TB h1 ai fun s c6=>jA s _ (ih _ (P' c6))
 | agg ls=>
  cases h with
  | one b5=>cases aH
  | agg c6=>
   simp only[DQ,bX]at aH;obtain⟨⟨ds,t⟩,h1,U⟩:=aH;simp only[bq]at U;obtain⟨rfl,rfl⟩:=U;obtain⟨ax,aJ⟩:=Iz (w:=w) (ω:=ω) (τ:=τ) jA h1 ih;obtain⟨vs,rfl,a8,bz⟩:=ai;refine⟨vs,rfl,by omega,fun j qZ aG=>?_⟩;obtain⟨l,ap,cR⟩:=aJ j qZ aG;obtain⟨u,hu,fc⟩:=bz j l ap;exact⟨u,hu,cR u fc⟩
theorem Ds{w:World}{ω:Own}{τ:Nat->Nat×Value}{ts:hg}(jA:∀t n,(t,n)∈ts->ts.at t=some n):∀{cn:List aE} {ai ds:List cz} {r:Nat} {jW:hg},qF r cn ai=some (ds,jW)->(∀x∈jW,x∈ts)->
  ds.length=cn.length/\∀(j:Nat) (d:cz),ds[j]?=some d->∃p,cn[j]?=some p/\∀u,cE (Sat w ω τ) p u->kZ w (hG ω ts) (r+j) d u
 | [],[],ds,r,jW,h,_=>by
  simp only[qF,aS,bq]at h;obtain⟨rfl,_⟩:=h;exact⟨rfl,fun j d aG=>by simp at aG⟩
 | .aF a::cn,b5::ai,ds,r,jW,h,ih=>by
  simp only[qF]at h;split at h
  ·rename_i dn t q0 r9 e1 e2;simp only[aS,bq]at h;obtain⟨rfl,rfl⟩:=h;obtain⟨h1,U⟩:=Ds (w:=w) (ω:=ω) (τ:=τ) jA e2 (fun x ak=>ih x (iC _ ak));refine⟨by simp[h1],fun j d aG=>?_⟩;cases j with
   | zero=>
    simp at aG;subst aG;exact⟨.aF a,rfl,fun u hu=>akQ jA e1 (fun x ak=>ih x (hP _ ak)) hu⟩
   | succ j=>
    obtain⟨fU,ax,aJ⟩:=U j d (by simpa using aG);refine⟨fU,by simpa using ax,fun u hu=>?_⟩;have:=aJ u hu;rwa[show r+1+j=r+(j+1) by omega]at this
  cases h
 | [],_::_,_,_,_,h,_=>by simp[qF]at h
 | .aF _::_,[],_,_,_,h,_=>by simp[qF]at h
 | .fv _::_,_,_,_,_,h,_=>by simp[qF]at h
def cz.arg:cz->bm
 | .one d=>.one (d.leaf .free)
 | .agg ds=>.agg (ds.map (D.leaf .free))
def wU(args:List cz)(ntmps:Nat):aD:=⟨args.map (fun a=>.aF a.arg)++List.replicate (ntmps-args.length) .cj,[]⟩
theorem kv.leaf{d:D}{u:Value}(h:kv w d u):Sat w (fun _=>.bt) τ (d.leaf .free) u:=D.du (p:=(0,0)) h
theorem akR{args:List cz}{vs:Array Value}(rn:oE w)(h:Cl w args vs)(ntmps:Nat):
  Rel (ee.of w) (wU args ntmps) { tmps:=vs++Array.replicate (ntmps-vs.size) undef,defers:=[] } w:=by
 refine⟨fun _=>.bt,fun _=>(0,undef),rfl,by simp[wU,h.1],fO.refl _ rn (fun _ _ h=>h),fun b aw=>absurd rfl aw,fun _ _=>rfl,(fun _ _ _ h=>by cases h),?_,fun id ls ap=>by simp[wU,df]at ap⟩;intro i p hp;simp only[wU]at hp;rw[ov,cm]at hp;split at hp
 ·rename_i hi;rw[dr,bX]at hp;obtain⟨ci,V4,rfl⟩:=hp;obtain⟨v,bz,cJ⟩:=h.2 i ci V4;refine⟨v,?_,?_⟩
  ·rw[iD,bM (by rw[h.1];exact hi)];exact bz
  cases ci with
  | one d=>exact kv.leaf cJ
  | agg ds=>
   obtain⟨us,rfl,a8,hu⟩:=cJ;refine⟨us,rfl,by simpa using a8,fun j l ap=>?_⟩;rw[dr,bX]at ap;obtain⟨d,aG,rfl⟩:=ap;obtain⟨u,h1,U⟩:=hu j d aG;exact⟨u,h1,kv.leaf U⟩
 rename_i hi;rw[AZ]at hp;split at hp
 ·rename_i bJ;simp only[aS]at hp;subst hp;refine⟨undef,?_,aa⟩;rw[iD,bG (by rw[h.1];exact hi),Array.getElem?_replicate,bM (by rw[h.1];exact bJ)]
 cases hp
def py(P:Program)(st:aD):ResultVar->Option aE
 | .tmp t=>some (st.bh (.tmp t))
 | .cell a t=>
  match u2 P t,P.info? t,(st.bh (.tmp a)).leaf with
  | some agg,some i,some (.ptr id off)=>
   match df id st.boxes with
   | some ls=>qq agg i.size ls off
   | none=>none
  | _,_,_=>none
def yW(tmps:Array Value):ResultVar->Sem Value
 | .tmp t=>pure (tmps.getD t undef)
 | .cell x t=>do loadVar t (<-asAddr (tmps.getD x undef))
theorem IA(fn:Func)(tmps:Array Value):results fn tmps=(do
  let vs <-fn.results.mapM (yW tmps)
  pure (if h:vs.size=1 then vs[0] else .tuple vs)):=by
 unfold results;have:(fun x=>match x with | .tmp t=>pure (tmps.getD t undef) | .cell a t=>do loadVar t (<-asAddr (tmps.getD a undef)):ResultVar->Sem Value)=yW tmps:=by
  funext x;cases x<;>rfl
 rw[<-this];rfl
variable{P:Program}{st:aD}
theorem akS{w0:ee}{a:Act}(aU:cr w0 st a w ω τ){r:ResultVar}{p:aE}(h:py P st r=some p):
  ∃z,(yW a.tmps r).run P w=.ok z w/\cE (Sat w ω τ) p z:=by
 cases r with
 | tmp t=>
  simp only[py,aS]at h;subst h;exact⟨_,rfl,aU.bh (.tmp t)⟩
 | cell x t=>
  simp only[py]at h;split at h
  ·rename_i agg i id off e1 e2 cb;split at h
   ·rename_i ls cY;have ak:=aE.du cb (aU.bh (.tmp x));obtain⟨b,aw,ak⟩:=ak;simp only[Act.eval]at ak;obtain⟨da,arr,ty,eh,BY,FR,dN,ei⟩:=aU.boxes id ls cY;have:=BY b aw;subst this;have:=wI (P:=P) e1 e2 h FR (base:=0) (by omega) (fun j l ap=>by simpa using ei j l ap);simpa[yW,ak,asAddr]using this
   cases h
  cases h
def DR(P:Program)(st:aD)(iT:List ResultVar)(hint:List cz):Option (List cz):=
 match iT.mapM (py P st) with
 | some cn=>
  match qF 0 cn hint with
  | some (ds,ts)=>if Dq ts then some ds else none
  | none=>none
 | none=>none
theorem CD{w0:ee}{a:Act}(aU:cr w0 st a w ω τ):∀{iT:List ResultVar} {cn:List aE},iT.mapM (py P st)=some cn->
  ∃zs:List Value,(iT.mapM (yW a.tmps)).run P w=.ok zs w/\zs.length=cn.length/\∀(i:Nat) (p:aE),cn[i]?=some p->∃z,zs[i]?=some z/\cE (Sat w ω τ) p z
 | [],cn,h=>by simp at h;subst h;exact⟨[],rfl,rfl,fun i p hp=>by simp at hp⟩
 | r::iT,cn,h=>by
  rw[xv]at h;cases e:py P st r with
  | none=>simp[e]at h
  | some j9=>
   cases e2:iT.mapM (py P st) with
   | none=>simp[e,e2]at h
   | some auF=>
    simp[e,e2]at h;subst h;obtain⟨z,h1,U⟩:=akS aU e;obtain⟨zs,ax,aJ,aY⟩:=CD aU e2;refine⟨z::zs,?_,by simp[aJ],fun i p hp=>?_⟩
    ·rw[xv,Sem.run_bind,h1,Result.andThen_ok,Sem.run_bind,ax];rfl
    cases i with
    | zero=>simp at hp;subst hp;exact⟨z,rfl,U⟩
    | succ i=>exact aY i p (by simpa using hp)
theorem Qa{f:FuncId}{fn:Func}{c:Code}{args rs:List cz}{ans b':List b4}{obs:List Prop}{e:gQ}(b0:P.funcs[f]?=some fn)(aw:fn.body=some c)
  (e5:run P c (wU args fn.ntmps) ans=some (e,st,b',obs)) (aZ:cA obs) (he:e=.ret\/e=.normal) (eG:DR P st fn.results.toList rs=some rs):hA P f args rs:=by
 intro w vs rn ll;refine calls_of_wp b0 aw (Code.wp_mono (fun e' cx aM hp=>?_) (mc c e5 aZ (ee.of w) _ w (akR rn ll fn.ntmps)));obtain⟨rfl,ω,τ,aU⟩:=hp;unfold DR at eG;split at eG
 ·rename_i cn rk;split at eG
  ·rename_i ds ts ey;split at eG
   ·rename_i cJ;simp only[aS]at eG;subst eG;obtain⟨zs,h1,U,ax⟩:=CD aU rk;obtain⟨aJ,aY⟩:=Ds (w:=aM) (ω:=ω) (τ:=τ) (fun t n h=>Dr cJ h) ey (fun x ak=>ak);have hm:=Cs (P:=P) _ fn.results aM _ h1;have eW:∀(j:Nat) (d:cz),ds[j]?=some d->∃z,zs[j]?=some z/\kZ aM (hG ω ts) j d z:=by
     intro j d aG;obtain⟨p,hp,rj⟩:=aY j d aG;obtain⟨z,bl,p'⟩:=ax j p hp;exact⟨z,bl,by have:=rj z p';rwa[dF]at this⟩
    have l3:zs.length=ds.length:=by omega
    have Wz:∀v,(if h:zs.toArray.size=1 then zs.toArray[0] else .tuple zs.toArray)=v->vB w aM ds v:=by
     intro v bz;refine⟨hG ω ts,fun b aw=>?_,fun b aw=>?_,?_⟩
     ·cases c7:ω b with
      | bt=>simp[hG,c7]
      | box id=>simp[hG,c7]
      | tok t q=>
       rcases (aU.owned b (by simp[c7])).1 with h | h
       ·exact absurd aw (by have h:w.heap.size<=b:=h;omega)
       exact absurd h (fun h=>h)
     ·cases c7:ω b with
      | bt=>simp[hG,c7]at aw
      | box id=>simp[hG,c7]at aw
      | tok t q=>
       refine⟨?_,(aU.owned b (by simp[c7])).2⟩;simp only[hG,c7]at aw ⊢;cases jA:ts.at t with
       | none=>simp[jA]at aw
       | some n=>exact⟨n,q,rfl⟩
     unfold lB;split
     ·rename_i ci;obtain⟨z,bl,al⟩:=eW 0 ci rfl;have h1:zs.length=1:=by rw[l3];rfl
      have p9:zs=[z]:=by
       match zs,h1,bl with
       | [z0],_,bl=>simp at bl;rw[bl]
      have Gi:v=z:=by
       rw[<-bz];simp[p9]
      rw[Gi];exact al
     rename_i c3;have h1:¬zs.toArray.size=1:=by
      intro h;simp at h;rw[l3]at h;obtain⟨d,aG⟩:=List.length_eq_one_iff.1 h;exact c3 d aG
     rw[dif_neg h1]at bz;exact⟨zs.toArray,bz.symm,by simpa using l3,fun r ci aH=>by obtain⟨z,bl,al⟩:=eW r ci aH;exact⟨z,by simpa using bl,al⟩⟩
    have dG:∃v,(results fn cx.tmps).run P aM=.ok v aM/\∃u,Ending.returned v=.returned u/\fP w.heap.size w aM/\vB w aM ds u:=by
     refine⟨_,?_,_,rfl,aU.below.below,Wz _ rfl⟩;rw[IA,Sem.run_bind,hm];rfl
    obtain⟨v,bx,bN⟩:=dG;rcases he with rfl | rfl
    ·exact⟨aU.defers,v,bx,bN⟩
    exact⟨aU.defers,v,bx,bN⟩
   cases eG
  cases eG
 cases eG
end Go.Sx
namespace Go.Sx
open Go.RowKit
def Hm(P:Program)(c:Code)(ntmps:Nat)(iT:List ResultVar)(args hint:List cz)(ans:List b4):Option (List cz×List Prop):=
 match run P c (wU args ntmps) ans with
 | some (.ret,st,_,obs)=>(DR P st iT hint).map fun rs=>(rs,obs)
 | some (.normal,st,_,obs)=>(DR P st iT hint).map fun rs=>(rs,obs)
 | _=>none
def me(fn:Func):Code:=fn.body.getD .skip
variable{P:Program}
theorem hA.of{f:FuncId}{fn:Func}{args rs:List cz}(ans:List b4)(obs:List Prop)(b0:P.funcs[f]?=some fn)(aw:fn.body.isSome=true)
  (h:Hm P (me fn) fn.ntmps fn.results.toList args rs ans=some (rs,obs)) (aZ:cA obs):hA P f args rs:=by
 obtain⟨c,al⟩:=pQ.1 aw;have yd:me fn=c:=by simp[me,al]
 unfold Hm at h;rw[yd]at h;split at h
 ·rename_i st a lr aH;rw[bX]at h;obtain⟨tu,h1,h⟩:=h;simp only[bq]at h;obtain⟨rfl,rfl⟩:=h;exact Qa b0 al aH aZ (.inl rfl) h1
 ·rename_i st a lr aH;rw[bX]at h;obtain⟨tu,h1,h⟩:=h;simp only[bq]at h;obtain⟨rfl,rfl⟩:=h;exact Qa b0 al aH aZ (.inr rfl) h1
 cases h
def B6(P:Program)(body:Code)(st:aD)(ans:List b4)(cG bs:List Nat):Option (gQ×aD×List Prop):=
 (run P body st ans).map fun r=>(r.1,r.2.1.fe cG bs,r.2.2.2)
variable{body:Code}{st bn:aD}{e:gQ}
theorem gf.NU{ans:List b4}{cG bs:List Nat}{obs:List Prop}(h:B6 P body st ans cG bs=some (e,bn,obs))(aZ:cA obs):gf P body st e bn:=by
 unfold B6 at h;rw[bX]at h;obtain⟨⟨bK,b2,cf,ed⟩,h1,h⟩:=h;simp only[bq]at h;obtain⟨rfl,rfl,rfl⟩:=h;intro w0 a w aH;exact Code.wp_mono (fun e' cx aM ⟨h1,U⟩=>⟨h1,U.fe cG bs⟩) (mc body h1 aZ w0 a w aH)
def Ha(P:Program)(body:Code)(st:aD)(ans:List b4)(ns:List (Nat×Nat×Nat))(cG bs:List Nat):Option (gQ×aD×List Prop):=
 (run P body st ans).bind fun r=>(s5 r.2.1 ns).map fun s=>(r.1,s.fe cG bs,r.2.2.2)
theorem gf.X7{ans:List b4}{ns:List (Nat×Nat×Nat)}{cG bs:List Nat}{obs:List Prop}(h:Ha P body st ans ns cG bs=some (e,bn,obs))(aZ:cA obs):gf P body st e bn:=by
 unfold Ha at h;rw[la]at h;obtain⟨⟨bK,b2,cf,ed⟩,h1,h⟩:=h;rw[bX]at h;obtain⟨s,ai,h⟩:=h;simp only[bq]at h;obtain⟨rfl,rfl,rfl⟩:=h;intro w0 a w aH;exact Code.wp_mono (fun e' cx aM ⟨h1,U⟩=>⟨h1,(yV ai U).fe cG bs⟩) (mc body h1 aZ w0 a w aH)
theorem cV.step{st1:aD}(ans:List b4)(cG bs:List Nat)(obs:List Prop)(h:B6 P body st ans cG bs=some (.normal,st1,obs))(aZ:cA obs)(U:cV P body st1 e bn):cV P body st e bn:=
 .more (gf.NU h aZ) U
theorem cH(i:Nat):(gQ.exit i).pW≠.normal:=fun h=>by cases h
theorem e7:gQ.ret.pW≠.normal:=fun h=>by cases h
def s6:Code->List Code
 | .seq a b=>s6 a++s6 b
 | .cond _ a b=>s6 a++s6 b
 | .block _ b=>s6 b
 | .loop b=>b::s6 b
 | .scope b=>s6 b
 | _=>[]
def ao(fn:Func)(i:Nat):Code:=(s6 (me fn)).getD i .skip
def s7:Code->List (Nat×Array Oper)
 | .region id ops true=>[(id,ops)]
 | .seq a b=>s7 a++s7 b
 | .cond _ a b=>s7 a++s7 b
 | .block _ b=>s7 b
 | .loop b=>s7 b
 | .scope b=>s7 b
 | _=>[]
def cN(fn:Func)(id:Nat):Array Oper:=(((s7 (me fn)).find? fun x=>Nat.beq x.1 id).map (·.2)).getD #[]
def VO(n:Nat)(l:List (Nat×aE)):List aE:=l.foldl (fun e x=>e.set x.1 x.2) (List.replicate n .cj)
abbrev I(n:Int):D:=.v (.int .i64 n)
abbrev B(b:Bool):D:=.v (.bool b)
abbrev as2(s:ByteArray):D:=.v (.string s)
end Go.Sx
namespace Go.Sx
open Go.RowKit
inductive ja (P:Program):TypeId->List D->Prop
 | bool (t:TypeId) (b:Bool) (h:P.underlying t=some .bool):ja P t [.v (.bool b)]
 | int (t:TypeId) (k:IntKind) (n:Int) (h:P.underlying t=some (.int k)) (hw:(Lit.int k n).wf=true):ja P t [.v (.int k n)]
 | str (t:TypeId) (s:ByteArray) (h:P.underlying t=some .string) (ai:s.size<=maxLen):ja P t [.v (.string s)]
 | J (t e:TypeId) (es:List (List D)) (h:P.underlying t=some (.slice e)) (ap:es.length<=maxLen) (he:∀ds∈es,ja P e ds):ja P t [.J (P.cellsOf e) es]
 | struct (t:TypeId) (ew:Array Field) (ds:List D) (h:P.underlying t=some (.struct ew)) (ap:ds.length=P.cellsOf t) (b0:∀f∈ew.toList,ja P f.type ((ds.drop f.offset).take (P.cellsOf f.type))):ja P t ds
def tx(P:Program):Nat->List Field->Nat->Bool
 | o,[],n=>o==n
 | o,f::r,n=>f.offset==o&&tx P (o+P.cellsOf f.type) r n
def s8(P:Program):Nat->TypeId->Bool
 | 0,_=>false
 | m+1,t=>
  match P.underlying t with
  | some .bool | some (.int _) | some .string=>true
  | some (.slice e)=>decide (0<P.cellsOf e)&&s8 P m e
  | some (.struct ew)=>ew.toList.all (fun f=>s8 P m f.type)&&tx P 0 ew.toList (P.cellsOf t)
  | _=>false
def nH(w:World)(ds:List D)(cs:List Value):Prop:=ds.length=cs.length/\∀(i:Nat) (d:D),ds[i]?=some d->∃v,cs[i]?=some v/\kv w d v
theorem nH.one{w:World}{d:D}{v:Value}(h:kv w d v):nH w [d] [v]:=
 ⟨rfl,fun i dn aG=>by
  cases i with
  | zero=>simp at aG;subst aG;exact⟨v,rfl,h⟩
  | succ i=>simp at aG⟩
theorem nH.append{w:World}{a b:List D}{x y:List Value}(h:nH w a x)(k:nH w b y):nH w (a++b) (x++y):=by
 refine⟨by simp[h.1,k.1],fun i d aG=>?_⟩;rw[ov]at aG ⊢;rw[<-h.1];split at aG
 ·rename_i hi;rw[bM hi];exact h.2 i d aG
 rename_i hi;rw[bG hi];exact k.2 _ d aG
theorem IB{P:Program}:∀{fK:List Field} {o n:Nat},tx P o fK n=true->o<=n/\∀f∈fK,o<=f.offset/\f.offset+P.cellsOf f.type<=n
 | [],o,n,h=>by simp[tx]at h;exact⟨by omega,fun f b0=>by cases b0⟩
 | f::r,o,n,h=>by
  simp only[tx,cF,jL]at h;obtain⟨h1,U⟩:=IB h.2;refine⟨by omega,fun g av=>?_⟩;rcases ep.1 av with rfl | av
  ·exact⟨by omega,by omega⟩
  have:=U g av;exact⟨by omega,this.2⟩
theorem TM{P:Program}{w:World}{cs:List Value}:∀{fK:List Field} {o:Nat},tx P o fK cs.length=true->
  (∀f∈fK,∃ds,ja P f.type ds/\nH w ds ((cs.drop f.offset).take (P.cellsOf f.type)))->
  ∃ds,nH w ds (cs.drop o)/\∀f∈fK,ja P f.type ((ds.drop (f.offset-o)).take (P.cellsOf f.type))
 | [],o,h,_=>by
  simp only[tx,jL]at h;subst h;exact⟨[],⟨by simp,fun i d aG=>by simp at aG⟩,fun f b0=>by cases b0⟩
 | f::r,o,h,b0=>by
  have hle:=IB h;simp only[tx,cF,jL]at h;obtain⟨b5,h⟩:=h;obtain⟨ds,h1,U⟩:=TM h fun g av=>b0 g (by simp[av])
  obtain⟨d0,ax,aJ⟩:=b0 f (by simp);have FZ:d0.length=P.cellsOf f.type:=by
   rw[aJ.1];have:=(hle.2 f (by simp)).2;simp;omega
  refine⟨d0++ds,?_,?_⟩
  ·have:cs.drop o=(cs.drop f.offset).take (P.cellsOf f.type)++cs.drop (o+P.cellsOf f.type):=by
    rw[b5,<-List.drop_drop];exact (Vm _ _).symm
   rw[this];exact aJ.append h1
  intro g av;rcases ep.1 av with rfl | av
  ·rw[b5,Nat.sub_self,vz,Vl (by omega),AY (by omega)];exact ax
  have atV:=U g av;have:=(IB h).2 g av;rw[List.drop_append,List.drop_eq_nil_of_le (show d0.length<=g.offset-o by omega),List.nil_append,FZ];rwa[show g.offset-o-P.cellsOf f.type=g.offset-(o+P.cellsOf f.type) by omega]
section
variable {H : Type} {enc : TypeId × Value -> H} {P : Program} {w : World} {base : Nat} {held : Bool}
theorem CE{a:Addr}{k:Nat}{cs:List Value}(h:w.cells? base a k=some cs):cs.length=k/\∀i,i<k->w.cell? (a.add i)=cs[i]?:=by
 unfold World.cells? at h;split at h
 ·exact⟨by simpa using mapM_some_length h,fun i hi=>mapM_some_get h i i (by simp[hi])⟩
 cases h
theorem IC{a:Addr}{v:Value}(h:w.cell? a=some v):∃arr ty cL,w.heap[a.block]?=some (.cells arr ty cL)/\a.spot=none/\arr[a.off]?=some v:=by
 unfold World.cell? at h;split at h
 ·rename_i arr ty cL e;split at h
  ·cases h
  rename_i ai;refine⟨arr,ty,cL,e,?_,h⟩;cases Gd:a.spot with
  | none=>rfl
  | some x=>simp[Gd]at ai
 cases h
theorem ID:∀(m:Nat) (t:TypeId) (gF:Nat) (cs:List Value) (x:DataW H×List MemPlace),s8 P m t=true->DataW.trod enc P w base (fun _=>true) held gF t cs=some x->
  ∃ds,ja P t ds/\nH w ds cs
 | 0,_,_,_,_,h,_=>by cases h
 | m+1,t,gF,cs,x,ai,h=>by
  unfold s8 at ai;split at ai
  ·rename_i hu;obtain⟨b,rfl,_⟩:=DataW.trod_bool hu h;exact⟨_,.bool t b hu,.one (.v _ _ rfl)⟩
  ·rename_i k hu;obtain⟨n,rfl,_,hw⟩:=DataW.trod_int hu h;exact⟨_,.int t k n hu hw,.one (.v _ _ rfl)⟩
  ·rename_i hu;obtain⟨s,rfl,_,hw⟩:=DataW.trod_string hu h;exact⟨_,.str t s hu hw,.one (.v _ _ rfl)⟩
  ·rename_i e hu;simp only[cF,cW]at ai;obtain⟨l0,No⟩:=ai;rcases DataW.trod_slice hu h with⟨rfl,_⟩ | ⟨a,len,cap,My,rest,n,_,rfl,_,_,ap,al,hlen,vW,Gd,_⟩
   ·exact⟨_,.J t e [] hu (by simp) (fun ds ey=>by cases ey),.one (.nil _ _ _)⟩
   obtain⟨Nl,Nk⟩:=Gd rfl;generalize gu:P.cellsOf e=k at*;have hD:∀i,i<cap->∃cs,w.cells? base (a.add (i*k)) k=some cs/\∃x,DataW.trod enc P w base (fun _=>true) held n e cs=some x:=by
    intro i hi;by_cases iK:i<len
    ·have:=vW i iK;obtain⟨y,bD⟩:∃y,My[i]?=some y:=⟨My[i],iZ (by omega)⟩
     rw[bD,la]at this;obtain⟨cs,h1,U⟩:=this;exact⟨cs,h1,y,U⟩
    have:=Nk (i-len) (by omega);rw[show len+(i-len)=i by omega]at this;obtain⟨y,bD⟩:∃y,rest[i-len]?=some y:=⟨rest[i-len],iZ (by omega)⟩
    rw[bD,la]at this;obtain⟨cs,h1,U⟩:=this;exact⟨cs,h1,y,U⟩
   by_cases fS:cap=0
   ·subst fS;have:len=0:=by omega
    subst this;have:=ja.J (P:=P) t e [] hu (by simp) (fun ds ey=>by cases ey);exact⟨_,this,.one (.nil _ _ _)⟩
   have Ww:∀i,∃ds,i<len->ja P e ds/\∃cs,w.cells? base (a.add (i*k)) k=some cs/\nH w ds cs:=by
    intro i;by_cases hi:i<len
    ·obtain⟨cs,h1,x,U⟩:=hD i (by omega);obtain⟨ds,ax,aJ⟩:=ID m e n cs x No U;exact⟨ds,fun _=>⟨ax,cs,h1,aJ⟩⟩
    exact⟨[],fun h=>absurd h hi⟩
   obtain⟨f,b0⟩:=Classical.skolem.1 Ww;obtain⟨cl,oU,_⟩:=hD (cap-1) (by omega);obtain⟨atI,Wj⟩:=CE oU;have sB:=Wj (k-1) (by omega);obtain⟨auP,Gh⟩:∃v,cl[k-1]?=some v:=⟨cl[k-1],iZ (by omega)⟩
   rw[Gh]at sB;obtain⟨b,off,spot⟩:=a;have Xw:spot=none:=by
    obtain⟨dk,Wd,_⟩:=hD 0 (by omega);obtain⟨atG,We⟩:=CE Wd;have b5:=We 0 l0;obtain⟨v0,BZ⟩:∃v,dk[0]?=some v:=⟨dk[0],iZ (by omega)⟩
    rw[BZ]at b5;obtain⟨_,_,_,_,h1,_⟩:=IC b5;simpa[Addr.add]using h1
   subst Xw;obtain⟨arr,ty,cL,aw,_,sB⟩:=IC sB;simp only[pr]at aw sB;have dN:off+cap*k<=arr.size:=by
    have h1:=(iE.1 sB).1;have U:cap*k=(cap-1)*k+k:=by rw[<-Nat.succ_mul];congr 1;omega
    omega
   have BI:((List.range len).map f).length=len:=by simp
   have hW:∀i j d,cQ ((List.range len).map f) i j=some d->i<len/\(f i)[j]?=some d:=by
    intro i j d aG;unfold cQ at aG;rw[dr]at aG;by_cases hi:i<len
    ·rw[List.getElem?_range hi]at aG;exact⟨hi,by simpa using aG⟩
    rw[List.getElem?_eq_none (by simpa using hi)]at aG;simp at aG
   have eW:∀i j d,cQ ((List.range len).map f) i j=some d->∃u,arr[off+i*k+j]?=some u/\kv w d u:=by
    intro i j d aG;obtain⟨hi,bg⟩:=hW i j d aG;obtain⟨_,cs,h1,U⟩:=b0 i hi;obtain⟨Wi,q'⟩:=CE h1;obtain⟨u,iL,aH⟩:=U.2 j d bg;have yj:j<k:=by rw[<-Wi];exact (fy.1 iL).1
    have:=q' j yj;rw[iL]at this;obtain⟨jx,jJ,Fh,gH,_,ak⟩:=IC this;simp only[pr]at gH ak;rw[aw]at gH;cases gH;exact⟨u,ak,aH⟩
   have BS:bQ w (fun _=>.bt) Tag.free.R (.J k ((List.range len).map f)) (.slice (some ⟨b,off,none⟩) ((List.range len).map f).length cap):=by
    refine .row _ k _ b off cap arr ty cL (fun i j=>arr.getD (off+i*k+j) undef) aw rfl (by omega) dN ?_ ?_ ?_
    ·intro e' he;obtain⟨i,hi,rfl⟩:=lJ.1 he;obtain⟨_,cs,h1,U⟩:=b0 i (by simpa using hi);rw[U.1];exact (CE h1).1
    ·intro i j d aG;obtain⟨u,h1,_⟩:=eW i j d aG;rw[h1];simp[er,h1]
    intro i j d aG;obtain⟨u,h1,U⟩:=eW i j d aG;have:arr.getD (off+i*k+j) undef=u:=by simp[er,h1]
    rw[this];exact U
   rw[BI]at BS;have n0:=ja.J (P:=P) t e ((List.range len).map f) hu (by rw[BI];omega);rw[gu]at n0;refine⟨_,n0 ?_,.one BS⟩;intro ds ey;obtain⟨i,hi,rfl⟩:=lJ.1 ey;exact (b0 i (by simpa using hi)).1
  ·rename_i ew hu;simp only[cF,fx]at ai;obtain⟨mP,uu⟩:=ai;obtain⟨xs,n,_,_,ap,fA,b0⟩:=DataW.trod_struct hu h;rw[<-ap]at uu;obtain⟨ds,h1,U⟩:=TM (w:=w) uu fun f MV=>by
    obtain⟨i,hi⟩:=ow.1 MV;have:=b0 i f (by simpa using hi);have nW:i<xs.length:=by rw[fA];have:=(fy.1 hi).1;simpa using this
    rw[iZ nW]at this;exact ID m f.type n _ _ (mP f MV) this
   rw[vz]at h1;exact⟨ds,.struct t ew ds hu (by rw[h1.1,ap]) (by simpa using U),h1⟩
  cases ai
end
end Go.Sx
namespace Go.Sx
open Go.ChangeShapes Go.WideShapes Go.ChangeAt Go.RowKit Go.Joins
def qT(P:Program)(t:TypeId):Bool:=match P.underlying t with | some (.struct _)=>true | _=>false
def Bb(P:Program)(t:TypeId):cz->Prop
 | .one d=>ja P t [d]/\qT P t=false
 | .agg ds=>ja P t ds/\qT P t=true
def Bc(P:Program):List TypeId->List cz->Prop
 | [],[]=>True
 | t::ts,a::as=>Bb P t a/\Bc P ts as
 | _,_=>False
section
variable {H : Type} {enc : TypeId × Value -> H} {P : Program} {w : World} {base cc : Nat} {held : Bool} {r : Reach}
theorem akT{t:TypeId}{v:Value}{d:DataW H}{cn:List MemPlace}(ai:s8 P 20 t=true)(gi:Value.okWide P w r cc t v)(h:DataW.Trod enc P w base (fun _=>true) held t v d cn):
  ∃ci,Bb P t ci/\tK w ci v:=by
 obtain⟨gF,b0⟩:=h;obtain⟨ds,h1,U⟩:=ID 20 t gF _ _ ai b0;have one:(∀cs,v≠.agg cs)->qT P t=false->∃ci,Bb P t ci/\tK w ci v:=by
  intro bz ah;have al:v.cells.toList=[v]:=by
   cases v<;>first | rfl | (exact absurd rfl (bz _))
  rw[al]at U
  match ds,h1,U with
  | [d],h1,U=>
   obtain⟨u,hu,aH⟩:=U.2 0 d rfl;simp at hu;subst hu;exact⟨.one d,⟨h1,ah⟩,aH⟩
  | [],_,U=>simp[nH]at U
  | _::_::_,_,U=>simp[nH]at U
 rw[show (20:Nat)=19+1 from rfl]at ai;unfold s8 at ai;unfold Value.okWide at gi;split at ai
 ·rename_i hu;rw[hu]at gi;refine one (fun cs e=>?_) (by simp[qT,hu]);subst e;simp[Cell.okWide,Cell.ok,hu]at gi
 ·rename_i hu;rw[hu]at gi;refine one (fun cs e=>?_) (by simp[qT,hu]);subst e;simp[Cell.okWide,Cell.ok,hu]at gi
 ·rename_i hu;rw[hu]at gi;refine one (fun cs e=>?_) (by simp[qT,hu]);subst e;simp[Cell.okWide,Cell.ok,hu]at gi
 ·rename_i hu;rw[hu]at gi;refine one (fun cs e=>?_) (by simp[qT,hu]);subst e;simp[Cell.okWide,Cell.ok,hu]at gi
 ·rename_i hu;rw[hu]at gi;obtain⟨cs,rfl,_,_⟩:=gi;refine⟨.agg ds,⟨h1,by simp[qT,hu]⟩,cs,rfl,by have:=U.1;simpa[Value.cells]using this.symm,fun i d aG=>?_⟩;obtain⟨u,iL,aH⟩:=U.2 i d aG;exact⟨u,by simpa[Value.cells]using iL,aH⟩
 cases ai
theorem Qb:∀(ts:List TypeId) (vs:List Value) (ds:List (DataW H)) (cn:List MemPlace),ts.all (s8 P 20)=true->(∀(j:Nat) t v,ts[j]?=some t->vs[j]?=some v->Value.okWide P w r cc t v)->
  DataW.TrodAll enc P w base (fun _=>true) held ts vs ds cn->∃fH,Bc P ts fH/\vs.length=fH.length/\∀(i:Nat) (ci:cz),fH[i]?=some ci->∃v,vs[i]?=some v/\tK w ci v
 | [],[],[],_,_,_,_=>⟨[],aa,rfl,fun i ci h=>by simp at h⟩
 | t::ts,v::vs,d::ds,cn,ai,gi,h=>by
  obtain⟨p,q,h1,U,_⟩:=h;simp only[List.all_cons,cF]at ai;obtain⟨ci,V3,Fy⟩:=akT ai.1 (gi 0 t v rfl rfl) h1;obtain⟨fH,ax,aJ,aY⟩:=Qb ts vs ds q ai.2 (fun j t v bU bz=>gi (j+1) t v (by simpa using bU) (by simpa using bz)) U;refine⟨ci::fH,⟨V3,ax⟩,by simp[aJ],fun i mz hi=>?_⟩;cases i with
  | zero=>simp at hi;subst hi;exact⟨v,rfl,Fy⟩
  | succ i=>simpa using aY i mz (by simpa using hi)
 | [],_::_,_,_,_,_,h=>by simp[DataW.TrodAll]at h
 | [],[],_::_,_,_,_,h=>by simp[DataW.TrodAll]at h
 | _::_,[],_,_,_,_,h=>by simp[DataW.TrodAll]at h
 | _::_,_::_,[],_,_,_,h=>by simp[DataW.TrodAll]at h
theorem Qc{H:Type}{enc:TypeId×Value->H}{P:Program}(ap:laidOutB P=true){W xI:World}(aw:Below W.heap.size W xI):
  ∀(ts:List TypeId) (vs:List Value) (ds:List (DataW H)) (cn:List MemPlace),ts.all (fun t=>P.readableRec t&&decide (t<P.types.size))=true->
   DataW.TrodAll enc P W 0 (fun _=>true) true ts vs ds cn->(∀x∈cn,x.block<W.heap.size)->
   DataW.TrodAll enc P xI 0 (fun b=>decide (b<W.heap.size)) true ts vs ds cn
 | [],vs,ds,cn,_,h,_=>by
  obtain⟨rfl,rfl,rfl⟩:=trodAll_nil h;exact trodAll_mk0
 | t::ts,vs,ds,cn,bU,h,bJ=>by
  obtain⟨v,asx,d,q0,p,q,rfl,rfl,rfl,b5,aH⟩:=trodAll_cons h;simp only[List.all_cons,cF,cW]at bU;exact trodAll_cons_mk (Below.trod ap bU.1.1 bU.1.2 b5 aw (fun x ak=>bJ x (hP _ ak)))
   (Qc ap aw ts asx q0 q bU.2 aH (fun x ak=>bJ x (iC _ ak)))
theorem Qd:∀(ts:List TypeId) (vs:List Value) (ds:List (DataW H)) (cn:List MemPlace),DataW.TrodAll enc P w base (fun _=>true) held ts vs ds cn->ds.length=ts.length
 | [],[],[],_,_=>rfl
 | t::ts,v::vs,d::ds,cn,h=>by
  obtain⟨p,q,_,U,_⟩:=h;simp[Qd ts vs ds q U]
 | [],_::_,_,_,h=>by simp[DataW.TrodAll]at h
 | [],[],_::_,_,h=>by simp[DataW.TrodAll]at h
 | _::_,[],_,_,h=>by simp[DataW.TrodAll]at h
 | _::_,_::_,[],_,h=>by simp[DataW.TrodAll]at h
theorem akU(ap:laidOutB P=true){f:Func}{fno:Nat}{s:ChangeSpec}{tb:TypeId}(eG:f.resultTypes=#[tb])(aw:P.underlying tb=some .bool)
  (hp:f.params.toList.all (fun t=>P.readableRec t&&decide (t<P.types.size))=true) (eP:f.params.toList.all (s8 P 20)=true) (Nu:s.vars=[])
  {W:World} {args:Array Value} {ds gs:List (DataW H)} {before:List MemPlace} (gi:∀(j:Nat) t v,f.params[j]?=some t->args[j]?=some v->Value.okWide P W r cc t v)
  (su:DataW.Whole enc P f.params.toList s.vars false W args.toList ds gs before)
  (ai:ds.length=f.params.size->(s.fn H ds).results=[.lit (.bool true)]/\(s.fn H ds).args=ds/\(s.fn H ds).vars=[])
  (rn:oE W) (W1:∀fH,Bc P f.params.toList fH->hA P fno fH [.one (B true)]):
  Calls P fno args W fun e xI=>∃v,e=.returned v/\s.post enc P f false true false false W args v xI:=by
 have V2:=su;have bJ:=su.lt;obtain⟨p,q,x7,MI,rfl,atU,aub⟩:=su;rw[Nu]at MI;obtain⟨rfl,rfl⟩:=trodVars_none MI;obtain⟨h1,U,ax⟩:=ai (by have:=Qd _ _ _ _ x7;simpa using this);obtain⟨fH,Xu,hlen,cJ⟩:=Qb _ _ _ _ eP (fun j t v bU bz=>gi j t v (by simpa using bU) (by simpa using bz)) x7;refine (W1 fH Xu W args rn ⟨by simpa using hlen,fun i ci hi=>by simpa using cJ i ci hi⟩).mono ?_;rintro e xI ⟨v,rfl,p0,aH⟩;have bz:v=.bool true:=by
  obtain⟨ω,_,_,h⟩:=aH;simp only[lB,kZ]at h;cases h;rfl
 subst bz;refine⟨_,rfl,ds,[],p++[],[],p,[],V2,?_,?_,?_,p0.below.frame _,fun h=>by cases h⟩
 ·rw[k',h1,eG];exact trodAll_mk1 (shut_bool aw true)
 ·rw[k',U];exact Qc ap p0.below _ _ _ _ hp x7 (fun x ak=>bJ x (by simpa using ak))
 rw[k',ax,Nu];rfl
end
