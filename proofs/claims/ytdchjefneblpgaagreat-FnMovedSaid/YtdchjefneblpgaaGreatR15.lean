import Derived.Test.YtdchjefneblpgaaGreatR13
import Derived.LoopN
import Derived.ChangeMaps5
import Derived.ChangeSame
import Derived.ChangeStays
import Derived.ProofKit
import Derived.Lib.SmallJoins
set_option linter.unusedVariables false
set_option linter.unusedSimpArgs false
namespace Go.Sx
open Go.RowKit
def hb.oi:hb->Exit
 | .normal=>.normal
 | .exit id=>.exit id
 | .ret=>.ret
def ME(w0:ej)(e:hb)(st:aH):Exit->Act->World->Prop:=fun e' a w=>e'=e.oi/\Rel w0 st a w
def fz(P:Program)(c:Code)(st:aH)(e:hb)(bp:aH):Prop:=∀w0 a w,Rel w0 st a w->c.wp P (ME w0 e bp) a w
def c0(P:Program)(c:Code)(st:aH)(e:hb)(bp:aH):Prop:=∃n,∀w0 a w,Rel w0 st a w->Code.rounds P c (ME w0 e bp) n a w
variable{P:Program}{st bp:aH}
theorem c0.last{c:Code}{e:hb}(he:e.oi≠.normal)(h:fz P c st e bp):c0 P c st e bp:=
 ⟨1,fun w0 a w aD=>Code.wp_mono (fun e' cx aN ⟨h1,U⟩=>by
  subst h1;cases e with
  | normal=>exact absurd rfl he
  | exit id=>exact⟨rfl,U⟩
  | ret=>exact⟨rfl,U⟩) (h w0 a w aD)⟩
theorem c0.more{c:Code}{st1:aH}{e:hb}(h:fz P c st .normal st1)(U:c0 P c st1 e bp):c0 P c st e bp:=by
 obtain⟨n,aT⟩:=U;refine⟨n+1,fun w0 a w aD=>Code.wp_mono (fun e' cx aN ⟨h1,ax⟩=>?_) (h w0 a w aD)⟩;subst h1;exact aT w0 cx aN ax
def tB(cH:List Nat):Nat->List aI->List aI
 | _,[]=>[]
 | i,p::r=>(if cH.contains i then p else .cp)::tB cH (i+1) r
theorem Qv(cH:List Nat):∀(l:List aI) (i j:Nat),(tB cH i l)[j]?=(l[j]?).map fun p=>if cH.contains (i+j) then p else .cp
 | [],_,_=>by simp[tB]
 | p::r,i,0=>by simp[tB]
 | p::r,i,j+1=>by
  simp only[tB,n1,Qv cH r (i+1) j];rw[show i+1+j=i+(j+1) by omega]
theorem Qw(cH:List Nat):∀(l:List aI) (i:Nat),(tB cH i l).length=l.length
 | [],_=>rfl
 | p::r,i=>by simp[tB,Qw cH r]
def vN(bs:List Nat):List (Nat×List aB)->List (Nat×List aB)
 | []=>[]
 | (i,ls)::r=>if bs.contains i then (i,ls)::vN bs r else vN bs r
theorem IW(bs:List Nat)(id:Nat):∀(l:List (Nat×List aB)) (ls:List aB),dn id (vN bs l)=some ls->dn id l=some ls
 | [],_,h=>by cases h
 | (i,eP)::r,ls,h=>by
  simp only[vN]at h;simp only[dn];split at h
  ·simp only[dn]at h;split at h
   ·rename_i hi;rw[br hi];exact h
   rename_i hi;rw[bg hi];exact IW bs id r ls h
  rename_i ah;have:=IW bs id r ls h;split
  ·rename_i hi;subst hi;exfalso;have h6:∀(r:List (Nat×List aB)),dn i (vN bs r)=none:=by
    intro r;induction r with
    | nil=>rfl
    | cons x r dE=>
     obtain⟨k0,ij⟩:=x;simp only[vN];split
     ·rename_i ag;simp only[dn];rw[bg]
      ·exact dE
      intro e;subst e;exact ah ag
     exact dE
   rw[h6]at h;cases h
  exact this
def Cu:aB->aB
 | .v (.bool b)=>.bc b
 | l=>l
variable{w:World}
theorem Qx{ω:Own}{τ:Nat->Nat×Value}(l:aB)(v:Value)(h:Sat w ω τ l v):Sat w ω τ (Cu l) v:=by
 unfold Cu;split
 ·exact h
 exact h
def aH.fh(st:aH)(cH bs:List Nat):aH:=⟨(tB cH 0 st.env).map (aI.map Cu),(vN bs st.boxes).map fun x=>(x.1,x.2.map Cu)⟩
variable{w0:ej}{a:Act}
theorem Rel.fh(h:Rel w0 st a w)(cH bs:List Nat):Rel w0 (st.fh cH bs) a w:=by
 obtain⟨ω,τ,h⟩:=h;refine⟨ω,τ,h.defers,by simp[aH.fh,Qw,h.size],h.below,h.owned,h.fixed,h.pinned,?_,?_⟩
 ·intro i p hp;simp only[aH.fh]at hp;rw[dd,b0]at hp;obtain⟨kP,hp,rfl⟩:=hp;rw[Qv,b0]at hp;obtain⟨r5,hp,rfl⟩:=hp;obtain⟨v,h1,U⟩:=h.env i r5 hp;refine⟨v,h1,cI.map Qx ?_⟩;split
  ·exact U
  exact trivial
 intro id ls ak;simp only[aH.fh]at ak;rw[r9,b0]at ak;obtain⟨iI,ak,rfl⟩:=ak;obtain⟨b,arr,ty,h1,U,ax,aK⟩:=h.boxes id iI (IW bs id _ _ ak);exact⟨b,arr,ty,h1,U,ax,aK.map Qx⟩
def IX(st:aH)(id j t k:Nat):Option aH:=
 match dn id (st.iK t []).boxes with
 | some ls=>
  match ls[j]? with
  | some (.v (.slice none 0 0))=>if t<c3 then some ⟨(st.iK t []).env,pX id (ls.set j (.J (.own t) k [])) (st.iK t []).boxes⟩ else none
  | _=>none
 | none=>none
def IY(st:aH)(id j t:Nat):Option aH:=
 match dn id st.boxes with
 | some iI=>
  match iI[j]? with
  | some (.J (.own hG) cm es)=>
   if t<c3 then
    let st1:=st.map (aB.ci (jV hG t) fun _=>true)
    match dn id st1.boxes with
    | some ls=>some ⟨st1.env,pX id (ls.set j (.J (.own t) cm es)) st1.boxes⟩
    | none=>none
   else none
  | _=>none
 | none=>none
def tC(st:aH):List (Nat×Nat×Nat)->Option aH
 | []=>some st
 | (s,t,k)::r=>
  if 1000000<=s then
   (match IY st (s / 1000000-1) (s % 1000000) t with
   | some st1=>some st1
   | none=>IX st (s / 1000000-1) (s % 1000000) t k).bind fun st1=>tC st1 r else
  match (st.env.getD s .cp).leaf with
  | some (.v (.slice none 0 0))=>if t<c3 then tC ⟨(st.iK t []).env.set s (.one (.J (.own t) k [])),(st.iK t []).boxes⟩ r else none
  | some (.J (.own hG) cm es)=>
   if t<c3 then tC ⟨(st.map (aB.ci (jV hG t) fun _=>true)).env.set s (.one (.J (.own t) cm es)),(st.map (aB.ci (jV hG t) fun _=>true)).boxes⟩ r else none
  | _=>none
theorem cw.MO{ω:Own}{τ:Nat->Nat×Value}(h:cw w0 st a w ω τ){s:Nat}{l:aB}(ak:(st.env.getD s .cp).leaf=some l)(cC:l≠.cp):∃v,a.tmps[s]?=some v/\Sat w ω τ l v:=by
 rw[ik]at ak;cases e:st.env[s]? with
 | none=>rw[e]at ak;simp only[Option.getD_none,aI.leaf,aQ]at ak;exact absurd ak.symm cC
 | some p=>
  rw[e]at ak;obtain⟨v,h1,U⟩:=h.env s p e;exact⟨v,h1,aI.dy ak U⟩
theorem PI{s:Nat}{v:Value}(h:a.tmps[s]?=some v):a.put (some s) v=a:=by
 simp only[Act.put];have:a.tmps.setIfInBounds s v=a.tmps:=by
  apply Array.ext
  ·simp
  intro i h1 U;rw[Array.getElem_setIfInBounds];split
  ·rename_i hi;subst hi;rw[hJ U]at h;exact (eL h).symm
  rfl
 rw[this]
theorem akl{id j t k:Nat}(h:IX st id j t k=some bp)(aD:Rel w0 st a w):Rel w0 bp a w:=by
 obtain⟨ω,τ,aD⟩:=aD;unfold IX at h;split at h
 ·rename_i ls aq;split at h
  ·rename_i a';split at h
   ·rename_i hQ;simp only[aQ]at h;subst h;obtain⟨aY,h1,U⟩:=aD.HG t k hQ;refine⟨aY,_,h1.defers,h1.size,h1.below,h1.owned,h1.fixed,h1.pinned,h1.env,fun gv eU ak=>?_⟩;by_cases fB:gv=id
    ·subst fB;rw[xl aq]at ak;cases ak;obtain⟨b,arr,ty,e1,e2,cc,ec⟩:=h1.boxes gv ls aq;refine⟨b,arr,ty,e1,e2,cc,by rw[ec.1,fb],fun i l hi=>?_⟩;rw[jK]at hi;split at hi
     ·rename_i qA;subst qA;split at hi
      ·cases hi;obtain⟨u,fN,eT⟩:=ec.2 j _ a';have X8:u=.slice none 0 0:=eT;subst X8;exact⟨_,fN,U⟩
      cases hi
     exact ec.2 i l hi
    rw[w7 fB]at ak;exact h1.boxes gv eU ak
   cases h
  cases h
 cases h
theorem akm{id j t:Nat}(h:IY st id j t=some bp)(aD:Rel w0 st a w):Rel w0 bp a w:=by
 obtain⟨ω,τ,aD⟩:=aD;unfold IY at h;split at h
 case h_2=>cases h
 rename_i iI iF;split at h
 case h_2=>cases h
 rename_i hG cm es a';split at h
 case isFalse=>cases h
 rename_i hQ;simp only at h;split at h
 case h_2=>cases h
 rename_i ls aq;simp only[aQ]at h;subst h;obtain⟨b4,sK,ua,atc,Wj,Wk,Wl⟩:=aD.boxes id iI iF;obtain⟨v,bA,ai⟩:=Wl.2 j _ a';have h1:cw w0 (st.map (aB.ci (jV hG t) fun _=>true)) a w (fun b=>iY hG t 0 (ω b)) (fP τ t cm v):=
  aD.dS _ (Jb hQ).sat aD.below (fun b aq=>aD.owned b (Ja aq)) (fun id b aq=>⟨tw.2 aq,rfl⟩) (fun id b aq=>tw.1 aq)
   (fun dc bR=>by simp only[fP];rw[bg (by omega)])
 have U:Sat w (fun b=>iY hG t 0 (ω b)) (fP τ t cm v) (.J (.own t) cm es) v:=⟨ai.1.frame fun b q _ aC=>⟨by
  simp only[Tag.R]at aC ⊢;rw[aC];cases q with
  | nil=>simp[iY]
  | cons x q=>obtain⟨i,j⟩:=x;simp[iY],rfl⟩,by simp[Tag.dN,fP]⟩
 refine⟨_,_,h1.defers,h1.size,h1.below,h1.owned,h1.fixed,h1.pinned,h1.env,fun gv eU ak=>?_⟩;by_cases fB:gv=id
 ·subst fB;rw[xl aq]at ak;cases ak;obtain⟨b,arr,ty,e1,e2,cc,ec⟩:=h1.boxes gv ls aq;refine⟨b,arr,ty,e1,e2,cc,by rw[ec.1,fb],fun i l hi=>?_⟩;rw[jK]at hi;split at hi
  ·rename_i qA;subst qA;split at hi
   ·cases hi;have F5:b=b4:=by
     have gQ:ω b=.box gv:=tw.1 e1;exact Wj b gQ
    subst F5;rw[Wk]at cc;cases cc;exact⟨v,bA,U⟩
   cases hi
  exact ec.2 i l hi
 rw[w7 fB]at ak;exact h1.boxes gv eU ak
theorem zz:∀{ns:List (Nat×Nat×Nat)} {st bp:aH},tC st ns=some bp->Rel w0 st a w->Rel w0 bp a w
 | [],st,bp,h,aD=>by simp only[tC,aQ]at h;subst h;exact aD
 | (s,t,k)::r,st,bp,h,aD=>by
  simp only[tC]at h;split at h
  ·rw[lv]at h;obtain⟨st1,h1,h⟩:=h;refine zz h ?_;split at h1
   ·rename_i st2 U;cases h1;exact akm U aD
   exact akl h1 aD
  split at h
  ·rename_i ak;obtain⟨ω,τ,aD⟩:=aD;obtain⟨v,bA,ai⟩:=aD.MO ak (by simp);have:v=.slice none 0 0:=ai;subst this;split at h
   case isFalse=>cases h
   rename_i hQ;obtain⟨aY,h1,U⟩:=aD.HG t k hQ;have ax:=h1.put (d:=s) (p:=.one (.J (.own t) k [])) U;rw[PI bA]at ax;exact zz h ⟨aY,_,ax⟩
  ·rename_i hG cm es ak;obtain⟨ω,τ,aD⟩:=aD;obtain⟨v,bA,ai⟩:=aD.MO ak (by simp);split at h
   case isFalse=>cases h
   rename_i hQ;have h1:cw w0 (st.map (aB.ci (jV hG t) fun _=>true)) a w (fun b=>iY hG t 0 (ω b)) (fP τ t cm v):=
    aD.dS _ (Jb hQ).sat aD.below (fun b aq=>aD.owned b (Ja aq)) (fun id b aq=>⟨tw.2 aq,rfl⟩) (fun id b aq=>tw.1 aq)
     (fun dc bR=>by simp only[fP];rw[bg (by omega)])
   have ax:=h1.put (d:=s) (p:=.one (.J (.own t) cm es)) (v:=v) ⟨ai.1.frame fun b q _ aC=>⟨by
    simp only[Tag.R]at aC ⊢;rw[aC];cases q with
    | nil=>simp[iY]
    | cons x q=>obtain⟨i,j⟩:=x;simp[iY],rfl⟩,by simp[Tag.dN,fP]⟩
   rw[PI bA]at ax;exact zz h ⟨_,_,ax⟩
  cases h
abbrev V5:=Option (hb×aH×List b7×List Prop)
def run(P:Program):Code->aH->List b7->V5
 | .skip,st,ans=>some (.normal,st,ans,[])
 | .label _,st,ans=>some (.normal,st,ans,[])
 | .region _ ops draw,st,ans=>if draw then (IV P ops st ans).map fun r=>(.normal,r.1,r.2.1,r.2.2) else (vK P ops ops.toList st ans).map fun r=>(.normal,r.1,r.2.1,r.2.2)
 | .seq a b,st,ans=>
  match run P a st ans with
  | some (.normal,st1,e3,fy)=>(run P b st1 e3).map fun r=>(r.1,r.2.1,r.2.2.1,fy++r.2.2.2)
  | some (e,st1,e3,fy)=>some (e,st1,e3,fy)
  | none=>none
 | .cond c x y,st,ans=>
  match (st.bh c).leaf,ans with
  | some (.v (.bool true)),ans=>run P x st ans
  | some (.v (.bool false)),ans=>run P y st ans
  | some (.bc c),.od true::r=>(run P x st r).map fun r=>(r.1,r.2.1,r.2.2.1,(c=true)::r.2.2.2)
  | some (.bc c),.od false::r=>(run P y st r).map fun r=>(r.1,r.2.1,r.2.2.1,(c=false)::r.2.2.2)
  | _,_=>none
 | .block id body,st,ans=>
  match run P body st ans with
  | some (.exit i,st1,e3,fy)=>some (if i=id then .normal else .exit i,st1,e3,fy)
  | r=>r
 | .loop body,st,ans=>
  match ans with
  | .loop Cs cH bs e bp::r=>
   match e,tC st Cs with
   | .normal,_=>none
   | e,some st1=>some (e,bp,r,[c0 P body (st1.fh cH bs) e bp])
   | _,none=>none
  | _=>none
 | .exit id,st,ans=>some (.exit id,st,ans,[])
 | .ret,st,ans=>some (.ret,st,ans,[])
 | _,_,_=>none
theorem mK:∀(c:Code) {st bp:aH} {ans cd:List b7} {obs:List Prop} {e:hb},run P c st ans=some (e,bp,cd,obs)->cE obs->fz P c st e bp
 | .skip,st,bp,ans,cd,obs,e,h,aX=>by
  simp only[run,aQ,bu]at h;obtain⟨rfl,rfl,_,_⟩:=h;exact fun w0 a w aD=>wp_skip ⟨rfl,aD⟩
 | .label l,st,bp,ans,cd,obs,e,h,aX=>by
  simp only[run,aQ,bu]at h;obtain⟨rfl,rfl,_,_⟩:=h;exact fun w0 a w aD=>wp_label ⟨rfl,aD⟩
 | .region id ops draw,st,bp,ans,cd,obs,e,h,aX=>by
  simp only[run]at h;split at h
  ·rename_i aE;rw[b0]at h;obtain⟨⟨bI,bZ,ch⟩,h1,h⟩:=h;simp only[bu]at h;obtain⟨rfl,rfl,rfl,rfl⟩:=h;subst aE;exact fun w0 a w aD=>akk h1 aX aD fun cx aN h=>⟨rfl,h⟩
  rename_i aE;rw[b0]at h;obtain⟨⟨bI,bZ,ch⟩,h1,h⟩:=h;simp only[bu]at h;obtain⟨rfl,rfl,rfl,rfl⟩:=h;have:draw=false:=by simpa using aE
  subst this;exact fun w0 a w aD=>wp_region_list (ID _ h1 aX aD fun cx aN h=>⟨rfl,h⟩)
 | .seq x y,st,bp,ans,cd,obs,e,h,aX=>by
  simp only[run]at h;split at h
  ·rename_i st1 e3 fy h1;rw[b0]at h;obtain⟨⟨bI,bZ,ch,ei⟩,U,h⟩:=h;simp only[bu]at h;obtain⟨rfl,rfl,rfl,rfl⟩:=h;obtain⟨cn,ca⟩:=aX.append;intro w0 a w aD;refine wp_seq (Code.wp_mono (fun e' cx aN hp=>?_) (mK x h1 cn w0 a w aD));obtain⟨rfl,dV⟩:=hp;exact mK y U ca w0 cx aN dV
  ·rename_i e1 st1 e3 fy cC h1;simp only[aQ,bu]at h;obtain⟨rfl,rfl,rfl,rfl⟩:=h;intro w0 a w aD;refine wp_seq (Code.wp_mono (fun e' cx aN hp=>?_) (mK x h1 aX w0 a w aD));obtain⟨rfl,dV⟩:=hp;cases e1 with
   | normal=>first | exact (cC rfl).elim | exact (cC _ rfl).elim | exact (cC _ _ _ rfl).elim
   | exit i=>exact⟨rfl,dV⟩
   | ret=>exact⟨rfl,dV⟩
  cases h
 | .cond c x y,st,bp,ans,cd,obs,e,h,aX=>by
  intro w0 a w aD;have rS:=aD;obtain⟨ω,τ,dV⟩:=rS;have ey:=dV.bh c;simp only[run]at h;split at h
  ·rename_i ak;have:a.eval c=.bool true:=aI.dy ak ey;exact wp_cond_true this (mK x h aX w0 a w aD)
  ·rename_i ak;have:a.eval c=.bool false:=aI.dy ak ey;exact wp_cond_false this (mK y h aX w0 a w aD)
  ·rename_i jk r ak;rw[b0]at h;obtain⟨⟨bI,bZ,ch,ei⟩,U,h⟩:=h;simp only[bu]at h;obtain⟨rfl,rfl,rfl,rfl⟩:=h;have:a.eval c=.bool jk:=aI.dy ak ey;have ah:jk=true:=aX.1;exact wp_cond_true (by rw[this,ah]) (mK x U aX.2 w0 a w aD)
  ·rename_i jk r ak;rw[b0]at h;obtain⟨⟨bI,bZ,ch,ei⟩,U,h⟩:=h;simp only[bu]at h;obtain⟨rfl,rfl,rfl,rfl⟩:=h;have:a.eval c=.bool jk:=aI.dy ak ey;have ah:jk=false:=aX.1;exact wp_cond_false (by rw[this,ah]) (mK y U aX.2 w0 a w aD)
  cases h
 | .block id body,st,bp,ans,cd,obs,e,h,aX=>by
  intro w0 a w aD;simp only[run]at h;split at h
  ·rename_i i st1 e3 fy h1;simp only[aQ,bu]at h;obtain⟨rfl,rfl,rfl,rfl⟩:=h;refine wp_block (Code.wp_mono (fun e' cx aN hp=>?_) (mK body h1 aX w0 a w aD));obtain⟨rfl,dV⟩:=hp;simp only[hb.oi,Exit.inBlock];split
   ·exact⟨rfl,dV⟩
   exact⟨rfl,dV⟩
  rename_i cC;refine wp_block (Code.wp_mono (fun e' cx aN hp=>?_) (mK body h aX w0 a w aD));obtain⟨rfl,dV⟩:=hp;cases e with
  | normal=>exact⟨rfl,dV⟩
  | exit i=>exact absurd h (cC _ _ _ _)
  | ret=>exact⟨rfl,dV⟩
 | .loop body,st,bp,ans,cd,obs,e,h,aX=>by
  intro w0 a w aD;simp only[run]at h;split at h
  ·rename_i Cs cH bs bz fm r;split at h
   ·cases h
   ·rename_i e1 st1 cC aT;simp only[aQ,bu]at h;obtain⟨rfl,rfl,rfl,rfl⟩:=h;obtain⟨n,ak⟩:=aX.1;exact wp_loop_rounds n (ak w0 a w ((zz aT aD).fh cH bs))
   cases h
  cases h
 | .exit id,st,bp,ans,cd,obs,e,h,aX=>by
  simp only[run,aQ,bu]at h;obtain⟨rfl,rfl,_,_⟩:=h;exact fun w0 a w aD=>wp_exit ⟨rfl,aD⟩
 | .ret,st,bp,ans,cd,obs,e,h,aX=>by
  simp only[run,aQ,bu]at h;obtain⟨rfl,rfl,_,_⟩:=h;exact fun w0 a w aD=>wp_ret ⟨rfl,aD⟩
 | .rangeFunc ..,_,_,_,_,_,_,h,_=>by simp[run]at h
 | .scope _,_,_,_,_,_,_,h,_=>by simp[run]at h
 | .goto _,_,_,_,_,_,_,h,_=>by simp[run]at h
 | .refuse _,_,_,_,_,_,_,h,_=>by simp[run]at h
end Go.Sx
namespace Go.Sx
open Go.RowKit
def aB.xW:aB->D->Option (D×Option Nat)
 | .v x,hint=>
  match x,hint with
  | .slice none 0 0,.J k _=>some (.J k [],none)
  | x,_=>if x.oneCell' then some (.v x,none) else none
 | .bc c,_=>some (.v (.bool c),none)
 | .J (.own t) k es,_=>some (.J k es,some t)
 | _,_=>none
abbrev hL:=List (Nat×Nat)
def hL.at(t:Nat):hL->Option Nat
 | []=>none
 | (s,n)::r=>if s=t then some n else hL.at t r
def CV(n:Nat):Option Nat->hL
 | some t=>[(t,n)]
 | none=>[]
def qc(n:Nat):List aB->List D->Option (List D×hL)
 | [],[]=>some ([],[])
 | l::ls,d::ds=>
  match l.xW d,qc (n+1) ls ds with
  | some (dq,t),some (rB,ts)=>some (dq::rB,CV n t++ts)
  | _,_=>none
 | _,_=>none
def Ej(n:Nat):bq->cF->Option (cF×hL)
 | .one l,.one d=>(l.xW d).map fun x=>(.one x.1,CV n x.2)
 | .agg ls,.agg ds=>(qc n ls ds).map fun x=>(.agg x.1,x.2)
 | _,_=>none
def q8(r:Nat):List aI->List cF->Option (List cF×hL)
 | [],[]=>some ([],[])
 | .aJ a::ct,d::ds=>
  match Ej (100*r) a d,q8 (r+1) ct ds with
  | some (dq,t),some (rB,ts)=>some (dq::rB,t++ts)
  | _,_=>none
 | _,_=>none
def CW(ts:hL):Bool:=ts.all fun x=>match ts.at x.1 with | some n=>n==x.2 | none=>false
variable{ts:hL}{n:Nat}
theorem CX(h:CW ts=true){t:Nat}(hm:(t,n)∈ts):ts.at t=some n:=by
 have:=fv.1 h _ hm;simp only at this;split at this
 ·rename_i Yy e;rw[e];simp only[dY]at this;rw[this]
 cases this
def h'(ω:Own)(ts:hL):Own:=fun b=>
 match ω b with
 | .tok t q=>match ts.at t with | some n=>.tok n q | none=>.bE
 | _=>.bE
variable{w:World}{ω:Own}{τ:Nat->Nat×Value}
theorem aB.Ug{l:aB}{h d:D}{t:Option Nat}{u:Value}(aE:l.xW h=some (d,t))(ai:Sat w ω τ l u)
  (jS:∀s,t=some s->ts.at s=some n):bW w (h' ω ts) (Tag.own n).R d u:=by
 cases l with
 | cp=>cases aE
 | v x=>
  have e:u=x:=ai;subst e;simp only[aB.xW]at aE;split at aE
  ·simp only[aQ,bu]at aE;obtain⟨rfl,_⟩:=aE;exact .nil _ _ _
  split at aE
  ·simp only[aQ,bu]at aE;obtain⟨rfl,_⟩:=aE;exact .v _ _ ‹_›
  cases aE
 | bc c=>
  have e:u=.bool c:=ai;subst e;simp only[aB.xW,aQ,bu]at aE;obtain⟨rfl,_⟩:=aE;exact .v _ _ rfl
 | J g k es=>
  cases g with
  | free=>cases aE
  | ro s=>cases aE
  | own s=>
   simp only[aB.xW,aQ,bu]at aE;obtain⟨rfl,rfl⟩:=aE;refine ai.1.frame fun b q _ aC=>⟨?_,rfl⟩
   simp only[Tag.R]at aC ⊢;simp only[h',aC,jS s rfl]
 | ptr=>cases aE
 | cX=>cases aE
 | hF=>cases aE
 | fd=>cases aE
 | dg=>cases aE
 | gg=>cases aE
 | aO=>cases aE
 | e5=>cases aE
theorem PJ{t:Option Nat}{s:Nat}(h:t=some s):(s,n)∈CV n t:=by subst h;simp[CV]
theorem IZ{w:World}{ω:Own}{τ:Nat->Nat×Value}(jS:∀t n,(t,n)∈ts->ts.at t=some n):∀{ls:List aB} {ai ds:List D} {n:Nat} {jH:hL},qc n ls ai=some (ds,jH)->(∀x∈jH,x∈ts)->
  ds.length=ls.length/\∀(j:Nat) (d:D),ds[j]?=some d->∃l,ls[j]?=some l/\∀u,Sat w ω τ l u->bW w (h' ω ts) (Tag.own (n+j)).R d u
 | [],[],ds,n,jH,h,_=>by
  simp only[qc,aQ,bu]at h;obtain⟨rfl,_⟩:=h;exact⟨rfl,fun j d aE=>by simp at aE⟩
 | l::ls,bJ::ai,ds,n,jH,h,iG=>by
  simp only[qc]at h;split at h
  ·rename_i dq t rB sA e1 e2;simp only[aQ,bu]at h;obtain⟨rfl,rfl⟩:=h;obtain⟨h1,U⟩:=IZ (w:=w) (ω:=ω) (τ:=τ) jS e2 (fun x ag=>iG x (iz _ ag));refine⟨by simp[h1],fun j d aE=>?_⟩;cases j with
   | zero=>
    simp at aE;subst aE;exact⟨l,rfl,fun u hu=>aB.Ug e1 hu fun s db=>jS s n (iG _ (hZ _ (PJ db)))⟩
   | succ j=>
    obtain⟨gU,ax,aK⟩:=U j d (by simpa using aE);refine⟨gU,by simpa using ax,fun u hu=>?_⟩;have:=aK u hu;rwa[show n+1+j=n+(j+1) by omega]at this
  cases h
 | [],_::_,_,_,_,h,_=>by simp[qc]at h
 | _::_,[],_,_,_,h,_=>by simp[qc]at h
theorem akn(jS:∀t n,(t,n)∈ts->ts.at t=some n){a:bq}{h d:cF}{r:Nat}{jH:hL}(aD:Ej (100*r) a h=some (d,jH))(iG:∀x∈jH,x∈ts)
  {y:Value} (ai:jO (Sat w ω τ) a y):lh w (h' ω ts) r d y:=by
 cases a with
 | one l=>
  cases h with
  | agg db=>cases aD
  | one bJ=>
   simp only[Ej,b0]at aD;obtain⟨⟨dq,t⟩,h1,U⟩:=aD;simp only[bu]at U;obtain⟨rfl,rfl⟩:=U;exact aB.Ug h1 ai fun s db=>jS s _ (iG _ (PJ db))
 | agg ls=>
  cases h with
  | one bJ=>cases aD
  | agg db=>
   simp only[Ej,b0]at aD;obtain⟨⟨ds,t⟩,h1,U⟩:=aD;simp only[bu]at U;obtain⟨rfl,rfl⟩:=U;obtain⟨ax,aK⟩:=IZ (w:=w) (ω:=ω) (τ:=τ) jS h1 iG;obtain⟨vs,rfl,aT,bA⟩:=ai;refine⟨vs,rfl,by omega,fun j lC aE=>?_⟩;obtain⟨l,ak,da⟩:=aK j lC aE;obtain⟨u,hu,eT⟩:=bA j l ak;exact⟨u,hu,da u eT⟩
theorem CY{w:World}{ω:Own}{τ:Nat->Nat×Value}{ts:hL}(jS:∀t n,(t,n)∈ts->ts.at t=some n):∀{ct:List aI} {ai ds:List cF} {r:Nat} {jH:hL},q8 r ct ai=some (ds,jH)->(∀x∈jH,x∈ts)->
  ds.length=ct.length/\∀(j:Nat) (d:cF),ds[j]?=some d->∃p,ct[j]?=some p/\∀u,cI (Sat w ω τ) p u->lh w (h' ω ts) (r+j) d u
 | [],[],ds,r,jH,h,_=>by
  simp only[q8,aQ,bu]at h;obtain⟨rfl,_⟩:=h;exact⟨rfl,fun j d aE=>by simp at aE⟩
 | .aJ a::ct,bJ::ai,ds,r,jH,h,iG=>by
  simp only[q8]at h;split at h
  ·rename_i dq t rB sA e1 e2;simp only[aQ,bu]at h;obtain⟨rfl,rfl⟩:=h;obtain⟨h1,U⟩:=CY (w:=w) (ω:=ω) (τ:=τ) jS e2 (fun x ag=>iG x (iz _ ag));refine⟨by simp[h1],fun j d aE=>?_⟩;cases j with
   | zero=>
    simp at aE;subst aE;exact⟨.aJ a,rfl,fun u hu=>akn jS e1 (fun x ag=>iG x (hZ _ ag)) hu⟩
   | succ j=>
    obtain⟨gU,ax,aK⟩:=U j d (by simpa using aE);refine⟨gU,by simpa using ax,fun u hu=>?_⟩;have:=aK u hu;rwa[show r+1+j=r+(j+1) by omega]at this
  cases h
 | [],_::_,_,_,_,h,_=>by simp[q8]at h
 | .aJ _::_,[],_,_,_,h,_=>by simp[q8]at h
 | .fE _::_,_,_,_,_,h,_=>by simp[q8]at h
def cF.arg:cF->bq
 | .one d=>.one (d.leaf .free)
 | .agg ds=>.agg (ds.map (D.leaf .free))
def xz(args:List cF)(ntmps:Nat):aH:=⟨args.map (fun a=>.aJ a.arg)++List.replicate (ntmps-args.length) .cp,[]⟩
theorem kR.leaf{d:D}{u:Value}(h:kR w d u):Sat w (fun _=>.bE) τ (d.leaf .free) u:=D.dy (p:=(0,0)) h
theorem ako{args:List cF}{vs:Array Value}(rV:pd w)(h:Dm w args vs)(ntmps:Nat):
  Rel (ej.of w) (xz args ntmps) { tmps:=vs++Array.replicate (ntmps-vs.size) undef,defers:=[] } w:=by
 refine⟨fun _=>.bE,fun _=>(0,undef),rfl,by simp[xz,h.1],gO.refl _ rV (fun _ _ h=>h),fun b aq=>absurd rfl aq,fun _ _=>rfl,(fun _ _ _ h=>by cases h),?_,fun id ls ak=>by simp[xz,dn]at ak⟩;intro i p hp;simp only[xz]at hp;rw[kB,bm]at hp;split at hp
 ·rename_i hi;rw[dd,b0]at hp;obtain⟨cj,WE,rfl⟩:=hp;obtain⟨v,bA,cG⟩:=h.2 i cj WE;refine⟨v,?_,?_⟩
  ·rw[jI,br (by rw[h.1];exact hi)];exact bA
  cases cj with
  | one d=>exact kR.leaf cG
  | agg ds=>
   obtain⟨us,rfl,aT,hu⟩:=cG;refine⟨us,rfl,by simpa using aT,fun j l ak=>?_⟩;rw[dd,b0]at ak;obtain⟨d,aE,rfl⟩:=ak;obtain⟨u,h1,U⟩:=hu j d aE;exact⟨u,h1,kR.leaf U⟩
 rename_i hi;rw[Bu]at hp;split at hp
 ·rename_i bC;simp only[aQ]at hp;subst hp;refine⟨undef,?_,aa⟩;rw[jI,bg (by rw[h.1];exact hi),Array.getElem?_replicate,br (by rw[h.1];exact bC)]
 cases hp
def p1(P:Program)(st:aH):ResultVar->Option aI
 | .tmp t=>some (st.bh (.tmp t))
 | .cell a t=>
  match vz P t,P.info? t,(st.bh (.tmp a)).leaf with
  | some agg,some i,some (.ptr id off)=>
   match dn id st.boxes with
   | some ls=>qV agg i.size ls off
   | none=>none
  | _,_,_=>none
def zA(tmps:Array Value):ResultVar->Sem Value
 | .tmp t=>pure (tmps.getD t undef)
 | .cell x t=>do loadVar t (<-asAddr (tmps.getD x undef))
theorem Io(fn:Func)(tmps:Array Value):results fn tmps=(do
  let vs <-fn.results.mapM (zA tmps)
  pure (if h:vs.size=1 then vs[0] else .tuple vs)):=by
 unfold results;have:(fun x=>match x with | .tmp t=>pure (tmps.getD t undef) | .cell a t=>do loadVar t (<-asAddr (tmps.getD a undef)):ResultVar->Sem Value)=zA tmps:=by
  funext x;cases x<;>rfl
 rw[<-this];rfl
variable{P:Program}{st:aH}
theorem akp{w0:ej}{a:Act}(aU:cw w0 st a w ω τ){r:ResultVar}{p:aI}(h:p1 P st r=some p):
  ∃z,(zA a.tmps r).run P w=.ok z w/\cI (Sat w ω τ) p z:=by
 cases r with
 | tmp t=>
  simp only[p1,aQ]at h;subst h;exact⟨_,rfl,aU.bh (.tmp t)⟩
 | cell x t=>
  simp only[p1]at h;split at h
  ·rename_i agg i id off e1 e2 cc;split at h
   ·rename_i ls ck;have ag:=aI.dy cc (aU.bh (.tmp x));obtain⟨b,aq,ag⟩:=ag;simp only[Act.eval]at ag;obtain⟨cU,arr,ty,dA,y7,Gk,ek,ey⟩:=aU.boxes id ls ck;have:=y7 b aq;subst this;have:=xj (P:=P) e1 e2 h Gk (base:=0) (by omega) (fun j l ak=>by simpa using ey j l ak);simpa[zA,ag,asAddr]using this
   cases h
  cases h
def Ek(P:Program)(st:aH)(jd:List ResultVar)(hint:List cF):Option (List cF):=
 match jd.mapM (p1 P st) with
 | some ct=>
  match q8 0 ct hint with
  | some (ds,ts)=>if CW ts then some ds else none
  | none=>none
 | none=>none
theorem CZ{w0:ej}{a:Act}(aU:cw w0 st a w ω τ):∀{jd:List ResultVar} {ct:List aI},jd.mapM (p1 P st)=some ct->
  ∃zs:List Value,(jd.mapM (zA a.tmps)).run P w=.ok zs w/\zs.length=ct.length/\∀(i:Nat) (p:aI),ct[i]?=some p->∃z,zs[i]?=some z/\cI (Sat w ω τ) p z
 | [],ct,h=>by simp at h;subst h;exact⟨[],rfl,rfl,fun i p hp=>by simp at hp⟩
 | r::jd,ct,h=>by
  rw[wi]at h;cases e:p1 P st r with
  | none=>simp[e]at h
  | some kP=>
   cases e2:jd.mapM (p1 P st) with
   | none=>simp[e,e2]at h
   | some at1=>
    simp[e,e2]at h;subst h;obtain⟨z,h1,U⟩:=akp aU e;obtain⟨zs,ax,aK,aV⟩:=CZ aU e2;refine⟨z::zs,?_,by simp[aK],fun i p hp=>?_⟩
    ·rw[wi,Sem.run_bind,h1,Result.andThen_ok,Sem.run_bind,ax];rfl
    cases i with
    | zero=>simp at hp;subst hp;exact⟨z,rfl,U⟩
    | succ i=>exact aV i p (by simpa using hp)
theorem PK{f:FuncId}{fn:Func}{c:Code}{args rs:List cF}{ans cd:List b7}{obs:List Prop}{e:hb}(bY:P.funcs[f]?=some fn)(aq:fn.body=some c)
  (fC:run P c (xz args fn.ntmps) ans=some (e,st,cd,obs)) (aX:cE obs) (he:e=.ret\/e=.normal) (eN:Ek P st fn.results.toList rs=some rs):im P f args rs:=by
 intro w vs rV lF;refine calls_of_wp bY aq (Code.wp_mono (fun e' cx aN hp=>?_) (mK c fC aX (ej.of w) _ w (ako rV lF fn.ntmps)));obtain⟨rfl,ω,τ,aU⟩:=hp;unfold Ek at eN;split at eN
 ·rename_i ct rR;split at eN
  ·rename_i ds ts eh;split at eN
   ·rename_i cG;simp only[aQ]at eN;subst eN;obtain⟨zs,h1,U,ax⟩:=CZ aU rR;obtain⟨aK,aV⟩:=CY (w:=aN) (ω:=ω) (τ:=τ) (fun t n h=>CX cG h) eh (fun x ag=>ag);have hm:=CC (P:=P) _ fn.results aN _ h1;have eW:∀(j:Nat) (d:cF),ds[j]?=some d->∃z,zs[j]?=some z/\lh aN (h' ω ts) j d z:=by
     intro j d aE;obtain⟨p,hp,rQ⟩:=aV j d aE;obtain⟨z,bd,wX⟩:=ax j p hp;exact⟨z,bd,by have:=rQ z wX;rwa[dx]at this⟩
    have lb:zs.length=ds.length:=by omega
    have W7:∀v,(if h:zs.toArray.size=1 then zs.toArray[0] else .tuple zs.toArray)=v->wk w aN ds v:=by
     intro v bA;refine⟨h' ω ts,fun b aq=>?_,fun b aq=>?_,?_⟩
     ·cases c9:ω b with
      | bE=>simp[h',c9]
      | box id=>simp[h',c9]
      | tok t q=>
       rcases (aU.owned b (by simp[c9])).1 with h | h
       ·exact absurd aq (by have h:w.heap.size<=b:=h;omega)
       exact absurd h (fun h=>h)
     ·cases c9:ω b with
      | bE=>simp[h',c9]at aq
      | box id=>simp[h',c9]at aq
      | tok t q=>
       refine⟨?_,(aU.owned b (by simp[c9])).2⟩;simp only[h',c9]at aq ⊢;cases jS:ts.at t with
       | none=>simp[jS]at aq
       | some n=>exact⟨n,q,rfl⟩
     unfold mI;split
     ·rename_i cj;obtain⟨z,bd,ah⟩:=eW 0 cj rfl;have h1:zs.length=1:=by rw[lb];rfl
      have oC:zs=[z]:=by
       match zs,h1,bd with
       | [z0],_,bd=>simp at bd;rw[bd]
      have za:v=z:=by
       rw[<-bA];simp[oC]
      rw[za];exact ah
     rename_i cC;have h1:¬zs.toArray.size=1:=by
      intro h;simp at h;rw[lb]at h;obtain⟨d,aE⟩:=List.length_eq_one_iff.1 h;exact cC d aE
     rw[dif_neg h1]at bA;exact⟨zs.toArray,bA.symm,by simpa using lb,fun r cj aD=>by obtain⟨z,bd,ah⟩:=eW r cj aD;exact⟨z,by simpa using bd,ah⟩⟩
    have dI:∃v,(results fn cx.tmps).run P aN=.ok v aN/\∃u,Ending.returned v=.returned u/\gd w.heap.size w aN/\wk w aN ds u:=by
     refine⟨_,?_,_,rfl,aU.below.below,W7 _ rfl⟩;rw[Io,Sem.run_bind,hm];rfl
    obtain⟨v,bw,bX⟩:=dI;rcases he with rfl | rfl
    ·exact⟨aU.defers,v,bw,bX⟩
    exact⟨aU.defers,v,bw,bX⟩
   cases eN
  cases eN
 cases eN
end Go.Sx
namespace Go.Sx
open Go.RowKit
def HL(P:Program)(c:Code)(ntmps:Nat)(jd:List ResultVar)(args hint:List cF)(ans:List b7):Option (List cF×List Prop):=
 match run P c (xz args ntmps) ans with
 | some (.ret,st,_,obs)=>(Ek P st jd hint).map fun rs=>(rs,obs)
 | some (.normal,st,_,obs)=>(Ek P st jd hint).map fun rs=>(rs,obs)
 | _=>none
def nQ(fn:Func):Code:=fn.body.getD .skip
variable{P:Program}
theorem im.of{f:FuncId}{fn:Func}{args rs:List cF}(ans:List b7)(obs:List Prop)(bY:P.funcs[f]?=some fn)(aq:fn.body.isSome=true)
  (h:HL P (nQ fn) fn.ntmps fn.results.toList args rs ans=some (rs,obs)) (aX:cE obs):im P f args rs:=by
 obtain⟨c,ah⟩:=o6.1 aq;have yJ:nQ fn=c:=by simp[nQ,ah]
 unfold HL at h;rw[yJ]at h;split at h
 ·rename_i st a lR aD;rw[b0]at h;obtain⟨tW,h1,h⟩:=h;simp only[bu]at h;obtain⟨rfl,rfl⟩:=h;exact PK bY ah aD aX (.inl rfl) h1
 ·rename_i st a lR aD;rw[b0]at h;obtain⟨tW,h1,h⟩:=h;simp only[bu]at h;obtain⟨rfl,rfl⟩:=h;exact PK bY ah aD aX (.inr rfl) h1
 cases h
def zn(P:Program)(body:Code)(st:aH)(ans:List b7)(cH bs:List Nat):Option (hb×aH×List Prop):=
 (run P body st ans).map fun r=>(r.1,r.2.1.fh cH bs,r.2.2.2)
variable{body:Code}{st bp:aH}{e:hb}
theorem fz.HI{ans:List b7}{cH bs:List Nat}{obs:List Prop}(h:zn P body st ans cH bs=some (e,bp,obs))(aX:cE obs):fz P body st e bp:=by
 unfold zn at h;rw[b0]at h;obtain⟨⟨bI,bZ,ch,ei⟩,h1,h⟩:=h;simp only[bu]at h;obtain⟨rfl,rfl,rfl⟩:=h;intro w0 a w aD;exact Code.wp_mono (fun e' cx aN ⟨h1,U⟩=>⟨h1,U.fh cH bs⟩) (mK body h1 aX w0 a w aD)
def HA(P:Program)(body:Code)(st:aH)(ans:List b7)(ns:List (Nat×Nat×Nat))(cH bs:List Nat):Option (hb×aH×List Prop):=
 (run P body st ans).bind fun r=>(tC r.2.1 ns).map fun s=>(r.1,s.fh cH bs,r.2.2.2)
theorem fz.YC{ans:List b7}{ns:List (Nat×Nat×Nat)}{cH bs:List Nat}{obs:List Prop}(h:HA P body st ans ns cH bs=some (e,bp,obs))(aX:cE obs):fz P body st e bp:=by
 unfold HA at h;rw[lv]at h;obtain⟨⟨bI,bZ,ch,ei⟩,h1,h⟩:=h;rw[b0]at h;obtain⟨s,ai,h⟩:=h;simp only[bu]at h;obtain⟨rfl,rfl,rfl⟩:=h;intro w0 a w aD;exact Code.wp_mono (fun e' cx aN ⟨h1,U⟩=>⟨h1,(zz ai U).fh cH bs⟩) (mK body h1 aX w0 a w aD)
theorem c0.step{st1:aH}(ans:List b7)(cH bs:List Nat)(obs:List Prop)(h:zn P body st ans cH bs=some (.normal,st1,obs))(aX:cE obs)(U:c0 P body st1 e bp):c0 P body st e bp:=
 .more (fz.HI h aX) U
theorem c0.done(ans:List b7)(cH bs:List Nat)(obs:List Prop)(he:e.oi≠.normal)(h:zn P body st ans cH bs=some (e,bp,obs))(aX:cE obs):c0 P body st e bp:=
 .last he (fz.HI h aX)
theorem cM(i:Nat):(hb.exit i).oi≠.normal:=fun h=>by cases h
theorem fi:hb.ret.oi≠.normal:=fun h=>by cases h
def tD:Code->List Code
 | .seq a b=>tD a++tD b
 | .cond _ a b=>tD a++tD b
 | .block _ b=>tD b
 | .loop b=>b::tD b
 | .scope b=>tD b
 | _=>[]
def ar(fn:Func)(i:Nat):Code:=(tD (nQ fn)).getD i .skip
def tE:Code->List (Nat×Array Oper)
 | .region id ops true=>[(id,ops)]
 | .seq a b=>tE a++tE b
 | .cond _ a b=>tE a++tE b
 | .block _ b=>tE b
 | .loop b=>tE b
 | .scope b=>tE b
 | _=>[]
def cO(fn:Func)(id:Nat):Array Oper:=(((tE (nQ fn)).find? fun x=>Nat.beq x.1 id).map (·.2)).getD #[]
def Wq(n:Nat)(l:List (Nat×aI)):List aI:=l.foldl (fun e x=>e.set x.1 x.2) (List.replicate n .cp)
abbrev I(n:Int):D:=.v (.int .i64 n)
abbrev B(b:Bool):D:=.v (.bool b)
abbrev asX(s:ByteArray):D:=.v (.string s)
end Go.Sx
namespace Go.Sx
open Go.RowKit
inductive ji (P:Program):TypeId->List D->Prop
 | bool (t:TypeId) (b:Bool) (h:P.underlying t=some .bool):ji P t [.v (.bool b)]
 | int (t:TypeId) (k:IntKind) (n:Int) (h:P.underlying t=some (.int k)) (hw:(Lit.int k n).wf=true):ji P t [.v (.int k n)]
 | str (t:TypeId) (s:ByteArray) (h:P.underlying t=some .string) (ai:s.size<=maxLen):ji P t [.v (.string s)]
 | J (t e:TypeId) (es:List (List D)) (h:P.underlying t=some (.slice e)) (ak:es.length<=maxLen) (he:∀ds∈es,ji P e ds):ji P t [.J (P.cellsOf e) es]
 | struct (t:TypeId) (ep:Array Field) (ds:List D) (h:P.underlying t=some (.struct ep)) (ak:ds.length=P.cellsOf t) (bY:∀f∈ep.toList,ji P f.type ((ds.drop f.offset).take (P.cellsOf f.type))):ji P t ds
def tZ(P:Program):Nat->List Field->Nat->Bool
 | o,[],n=>o==n
 | o,f::r,n=>f.offset==o&&tZ P (o+P.cellsOf f.type) r n
def tF(P:Program):Nat->TypeId->Bool
 | 0,_=>false
 | m+1,t=>
  match P.underlying t with
  | some .bool | some (.int _) | some .string=>true
  | some (.slice e)=>decide (0<P.cellsOf e)&&tF P m e
  | some (.struct ep)=>ep.toList.all (fun f=>tF P m f.type)&&tZ P 0 ep.toList (P.cellsOf t)
  | _=>false
def oc(w:World)(ds:List D)(cs:List Value):Prop:=ds.length=cs.length/\∀(i:Nat) (d:D),ds[i]?=some d->∃v,cs[i]?=some v/\kR w d v
theorem oc.one{w:World}{d:D}{v:Value}(h:kR w d v):oc w [d] [v]:=
 ⟨rfl,fun i dq aE=>by
  cases i with
  | zero=>simp at aE;subst aE;exact⟨v,rfl,h⟩
  | succ i=>simp at aE⟩
theorem oc.append{w:World}{a b:List D}{x y:List Value}(h:oc w a x)(k:oc w b y):oc w (a++b) (x++y):=by
 refine⟨by simp[h.1,k.1],fun i d aE=>?_⟩;rw[kB]at aE ⊢;rw[<-h.1];split at aE
 ·rename_i hi;rw[br hi];exact h.2 i d aE
 rename_i hi;rw[bg hi];exact k.2 _ d aE
theorem Ip{P:Program}:∀{jn:List Field} {o n:Nat},tZ P o jn n=true->o<=n/\∀f∈jn,o<=f.offset/\f.offset+P.cellsOf f.type<=n
 | [],o,n,h=>by simp[tZ]at h;exact⟨by omega,fun f bY=>by cases bY⟩
 | f::r,o,n,h=>by
  simp only[tZ,cq,dY]at h;obtain⟨h1,U⟩:=Ip h.2;refine⟨by omega,fun g au=>?_⟩;rcases et.1 au with rfl | au
  ·exact⟨by omega,by omega⟩
  have:=U g au;exact⟨by omega,this.2⟩
theorem Uo{P:Program}{w:World}{cs:List Value}:∀{jn:List Field} {o:Nat},tZ P o jn cs.length=true->
  (∀f∈jn,∃ds,ji P f.type ds/\oc w ds ((cs.drop f.offset).take (P.cellsOf f.type)))->
  ∃ds,oc w ds (cs.drop o)/\∀f∈jn,ji P f.type ((ds.drop (f.offset-o)).take (P.cellsOf f.type))
 | [],o,h,_=>by
  simp only[tZ,dY]at h;subst h;exact⟨[],⟨by simp,fun i d aE=>by simp at aE⟩,fun f bY=>by cases bY⟩
 | f::r,o,h,bY=>by
  have hle:=Ip h;simp only[tZ,cq,dY]at h;obtain⟨bJ,h⟩:=h;obtain⟨ds,h1,U⟩:=Uo h fun g au=>bY g (by simp[au])
  obtain⟨d0,ax,aK⟩:=bY f (by simp);have Cb:d0.length=P.cellsOf f.type:=by
   rw[aK.1];have:=(hle.2 f (by simp)).2;simp;omega
  refine⟨d0++ds,?_,?_⟩
  ·have:cs.drop o=(cs.drop f.offset).take (P.cellsOf f.type)++cs.drop (o+P.cellsOf f.type):=by
    rw[bJ,<-List.drop_drop];exact (Fi _ _).symm
   rw[this];exact aK.append h1
  intro g au;rcases et.1 au with rfl | au
  ·rw[bJ,Nat.sub_self,yc,Mv (by omega),ya (by omega)];exact ax
  have atw:=U g au;have:=(Ip h).2 g au;rw[List.drop_append,List.drop_eq_nil_of_le (show d0.length<=g.offset-o by omega),List.nil_append,Cb];rwa[show g.offset-o-P.cellsOf f.type=g.offset-(o+P.cellsOf f.type) by omega]
section
variable {H : Type} {enc : TypeId × Value -> H} {P : Program} {w : World} {base : Nat} {held : Bool}
theorem C0{a:Addr}{k:Nat}{cs:List Value}(h:w.cells? base a k=some cs):cs.length=k/\∀i,i<k->w.cell? (a.add i)=cs[i]?:=by
 unfold World.cells? at h;split at h
 ·exact⟨by simpa using mapM_some_length h,fun i hi=>mapM_some_get h i i (by simp[hi])⟩
 cases h
theorem Iq{a:Addr}{v:Value}(h:w.cell? a=some v):∃arr ty cN,w.heap[a.block]?=some (.cells arr ty cN)/\a.spot=none/\arr[a.off]?=some v:=by
 unfold World.cell? at h;split at h
 ·rename_i arr ty cN e;split at h
  ·cases h
  rename_i ai;refine⟨arr,ty,cN,e,?_,h⟩;cases GJ:a.spot with
  | none=>rfl
  | some x=>simp[GJ]at ai
 cases h
theorem Ir:∀(m:Nat) (t:TypeId) (gR:Nat) (cs:List Value) (x:DataW H×List MemPlace),tF P m t=true->DataW.trod enc P w base (fun _=>true) held gR t cs=some x->
  ∃ds,ji P t ds/\oc w ds cs
 | 0,_,_,_,_,h,_=>by cases h
 | m+1,t,gR,cs,x,ai,h=>by
  unfold tF at ai;split at ai
  ·rename_i hu;obtain⟨b,rfl,_⟩:=DataW.trod_bool hu h;exact⟨_,.bool t b hu,.one (.v _ _ rfl)⟩
  ·rename_i k hu;obtain⟨n,rfl,_,hw⟩:=DataW.trod_int hu h;exact⟨_,.int t k n hu hw,.one (.v _ _ rfl)⟩
  ·rename_i hu;obtain⟨s,rfl,_,hw⟩:=DataW.trod_string hu h;exact⟨_,.str t s hu hw,.one (.v _ _ rfl)⟩
  ·rename_i e hu;simp only[cq,cK]at ai;obtain⟨mC,Cl⟩:=ai;rcases DataW.trod_slice hu h with⟨rfl,_⟩ | ⟨a,len,cap,MX,rest,n,_,rfl,_,_,ak,ah,hlen,sW,GJ,_⟩
   ·exact⟨_,.J t e [] hu (by simp) (fun ds eh=>by cases eh),.one (.nil _ _ _)⟩
   obtain⟨NP,NO⟩:=GJ rfl;generalize gi:P.cellsOf e=k at*;have hA:∀i,i<cap->∃cs,w.cells? base (a.add (i*k)) k=some cs/\∃x,DataW.trod enc P w base (fun _=>true) held n e cs=some x:=by
    intro i hi;by_cases iR:i<len
    ·have:=sW i iR;obtain⟨y,bn⟩:∃y,MX[i]?=some y:=⟨MX[i],gp (by omega)⟩
     rw[bn,lv]at this;obtain⟨cs,h1,U⟩:=this;exact⟨cs,h1,y,U⟩
    have:=NO (i-len) (by omega);rw[show len+(i-len)=i by omega]at this;obtain⟨y,bn⟩:∃y,rest[i-len]?=some y:=⟨rest[i-len],gp (by omega)⟩
    rw[bn,lv]at this;obtain⟨cs,h1,U⟩:=this;exact⟨cs,h1,y,U⟩
   by_cases hB:cap=0
   ·subst hB;have:len=0:=by omega
    subst this;have:=ji.J (P:=P) t e [] hu (by simp) (fun ds eh=>by cases eh);exact⟨_,this,.one (.nil _ _ _)⟩
   have W3:∀i,∃ds,i<len->ji P e ds/\∃cs,w.cells? base (a.add (i*k)) k=some cs/\oc w ds cs:=by
    intro i;by_cases hi:i<len
    ·obtain⟨cs,h1,x,U⟩:=hA i (by omega);obtain⟨ds,ax,aK⟩:=Ir m e n cs x Cl U;exact⟨ds,fun _=>⟨ax,cs,h1,aK⟩⟩
    exact⟨[],fun h=>absurd h hi⟩
   obtain⟨f,bY⟩:=Classical.skolem.1 W3;obtain⟨cl,py,_⟩:=hA (cap-1) (by omega);obtain⟨atp,WT⟩:=C0 py;have sZ:=WT (k-1) (by omega);obtain⟨aud,Yc⟩:∃v,cl[k-1]?=some v:=⟨cl[k-1],gp (by omega)⟩
   rw[Yc]at sZ;obtain⟨b,off,spot⟩:=a;have X2:spot=none:=by
    obtain⟨cW,WM,_⟩:=hA 0 (by omega);obtain⟨ato,WN⟩:=C0 WM;have bJ:=WN 0 mC;obtain⟨v0,X'⟩:∃v,cW[0]?=some v:=⟨cW[0],gp (by omega)⟩
    rw[X']at bJ;obtain⟨_,_,_,_,h1,_⟩:=Iq bJ;simpa[Addr.add]using h1
   subst X2;obtain⟨arr,ty,cN,aq,_,sZ⟩:=Iq sZ;simp only[pV]at aq sZ;have ek:off+cap*k<=arr.size:=by
    have h1:=(iO.1 sZ).1;have U:cap*k=(cap-1)*k+k:=by rw[<-Nat.succ_mul];congr 1;omega
    omega
   have B':((List.range len).map f).length=len:=by simp
   have fW:∀i j d,cT ((List.range len).map f) i j=some d->i<len/\(f i)[j]?=some d:=by
    intro i j d aE;unfold cT at aE;rw[dd]at aE;by_cases hi:i<len
    ·rw[List.getElem?_range hi]at aE;exact⟨hi,by simpa using aE⟩
    rw[List.getElem?_eq_none (by simpa using hi)]at aE;simp at aE
   have eW:∀i j d,cT ((List.range len).map f) i j=some d->∃u,arr[off+i*k+j]?=some u/\kR w d u:=by
    intro i j d aE;obtain⟨hi,a'⟩:=fW i j d aE;obtain⟨_,cs,h1,U⟩:=bY i hi;obtain⟨WS,rI⟩:=C0 h1;obtain⟨u,iU,aD⟩:=U.2 j d a';have yP:j<k:=by rw[<-WS];exact (eu.1 iU).1
    have:=rI j yP;rw[iU]at this;obtain⟨h2,ii,FI,fM,_,ag⟩:=Iq this;simp only[pV]at fM ag;rw[aq]at fM;cases fM;exact⟨u,ag,aD⟩
   have Ci:bW w (fun _=>.bE) Tag.free.R (.J k ((List.range len).map f)) (.slice (some ⟨b,off,none⟩) ((List.range len).map f).length cap):=by
    refine .row _ k _ b off cap arr ty cN (fun i j=>arr.getD (off+i*k+j) undef) aq rfl (by omega) ek ?_ ?_ ?_
    ·intro e' he;obtain⟨i,hi,rfl⟩:=k2.1 he;obtain⟨_,cs,h1,U⟩:=bY i (by simpa using hi);rw[U.1];exact (C0 h1).1
    ·intro i j d aE;obtain⟨u,h1,_⟩:=eW i j d aE;rw[h1];simp[d',h1]
    intro i j d aE;obtain⟨u,h1,U⟩:=eW i j d aE;have:arr.getD (off+i*k+j) undef=u:=by simp[d',h1]
    rw[this];exact U
   rw[B']at Ci;have oA:=ji.J (P:=P) t e ((List.range len).map f) hu (by rw[B'];omega);rw[gi]at oA;refine⟨_,oA ?_,.one Ci⟩;intro ds eh;obtain⟨i,hi,rfl⟩:=k2.1 eh;exact (bY i (by simpa using hi)).1
  ·rename_i ep hu;simp only[cq,fv]at ai;obtain⟨wT,s5⟩:=ai;obtain⟨xs,n,_,_,ak,oB,bY⟩:=DataW.trod_struct hu h;rw[<-ak]at s5;obtain⟨ds,h1,U⟩:=Uo (w:=w) s5 fun f Nl=>by
    obtain⟨i,hi⟩:=o7.1 Nl;have:=bY i f (by simpa using hi);have k9:i<xs.length:=by rw[oB];have:=(eu.1 hi).1;simpa using this
    rw[gp k9]at this;exact Ir m f.type n _ _ (wT f Nl) this
   rw[yc]at h1;exact⟨ds,.struct t ep ds hu (by rw[h1.1,ak]) (by simpa using U),h1⟩
  cases ai
end
end Go.Sx
namespace Go.Sx
open Go.ChangeShapes Go.WideShapes Go.ChangeAt Go.RowKit Go.Joins
def rn(P:Program)(t:TypeId):Bool:=match P.underlying t with | some (.struct _)=>true | _=>false
def BF(P:Program)(t:TypeId):cF->Prop
 | .one d=>ji P t [d]/\rn P t=false
 | .agg ds=>ji P t ds/\rn P t=true
def BG(P:Program):List TypeId->List cF->Prop
 | [],[]=>True
 | t::ts,a::as=>BF P t a/\BG P ts as
 | _,_=>False
section
variable {H : Type} {enc : TypeId × Value -> H} {P : Program} {w : World} {base b4 : Nat} {held : Bool} {r : Reach}
theorem akq{t:TypeId}{v:Value}{d:DataW H}{ct:List MemPlace}(ai:tF P 20 t=true)(fX:Value.okWide P w r b4 t v)(h:DataW.Trod enc P w base (fun _=>true) held t v d ct):
  ∃cj,BF P t cj/\uq w cj v:=by
 obtain⟨gR,bY⟩:=h;obtain⟨ds,h1,U⟩:=Ir 20 t gR _ _ ai bY;have one:(∀cs,v≠.agg cs)->rn P t=false->∃cj,BF P t cj/\uq w cj v:=by
  intro bA aj;have ah:v.cells.toList=[v]:=by
   cases v<;>first | rfl | (exact absurd rfl (bA _))
  rw[ah]at U
  match ds,h1,U with
  | [d],h1,U=>
   obtain⟨u,hu,aD⟩:=U.2 0 d rfl;simp at hu;subst hu;exact⟨.one d,⟨h1,aj⟩,aD⟩
  | [],_,U=>simp[oc]at U
  | _::_::_,_,U=>simp[oc]at U
 rw[show (20:Nat)=19+1 from rfl]at ai;unfold tF at ai;unfold Value.okWide at fX;split at ai
 ·rename_i hu;rw[hu]at fX;refine one (fun cs e=>?_) (by simp[rn,hu]);subst e;simp[Cell.okWide,Cell.ok,hu]at fX
 ·rename_i hu;rw[hu]at fX;refine one (fun cs e=>?_) (by simp[rn,hu]);subst e;simp[Cell.okWide,Cell.ok,hu]at fX
 ·rename_i hu;rw[hu]at fX;refine one (fun cs e=>?_) (by simp[rn,hu]);subst e;simp[Cell.okWide,Cell.ok,hu]at fX
 ·rename_i hu;rw[hu]at fX;refine one (fun cs e=>?_) (by simp[rn,hu]);subst e;simp[Cell.okWide,Cell.ok,hu]at fX
 ·rename_i hu;rw[hu]at fX;obtain⟨cs,rfl,_,_⟩:=fX;refine⟨.agg ds,⟨h1,by simp[rn,hu]⟩,cs,rfl,by have:=U.1;simpa[Value.cells]using this.symm,fun i d aE=>?_⟩;obtain⟨u,iU,aD⟩:=U.2 i d aE;exact⟨u,by simpa[Value.cells]using iU,aD⟩
 cases ai
theorem PL:∀(ts:List TypeId) (vs:List Value) (ds:List (DataW H)) (ct:List MemPlace),ts.all (tF P 20)=true->(∀(j:Nat) t v,ts[j]?=some t->vs[j]?=some v->Value.okWide P w r b4 t v)->
  DataW.TrodAll enc P w base (fun _=>true) held ts vs ds ct->∃fU,BG P ts fU/\vs.length=fU.length/\∀(i:Nat) (cj:cF),fU[i]?=some cj->∃v,vs[i]?=some v/\uq w cj v
 | [],[],[],_,_,_,_=>⟨[],aa,rfl,fun i cj h=>by simp at h⟩
 | t::ts,v::vs,d::ds,ct,ai,fX,h=>by
  obtain⟨p,q,h1,U,_⟩:=h;simp only[List.all_cons,cq]at ai;obtain⟨cj,WD,F2⟩:=akq ai.1 (fX 0 t v rfl rfl) h1;obtain⟨fU,ax,aK,aV⟩:=PL ts vs ds q ai.2 (fun j t v bR bA=>fX (j+1) t v (by simpa using bR) (by simpa using bA)) U;refine⟨cj::fU,⟨WD,ax⟩,by simp[aK],fun i nc hi=>?_⟩;cases i with
  | zero=>simp at hi;subst hi;exact⟨v,rfl,F2⟩
  | succ i=>simpa using aV i nc (by simpa using hi)
 | [],_::_,_,_,_,_,h=>by simp[DataW.TrodAll]at h
 | [],[],_::_,_,_,_,h=>by simp[DataW.TrodAll]at h
 | _::_,[],_,_,_,_,h=>by simp[DataW.TrodAll]at h
 | _::_,_::_,[],_,_,_,h=>by simp[DataW.TrodAll]at h
theorem PM{H:Type}{enc:TypeId×Value->H}{P:Program}(ak:laidOutB P=true){W yg:World}(aq:Below W.heap.size W yg):
  ∀(ts:List TypeId) (vs:List Value) (ds:List (DataW H)) (ct:List MemPlace),ts.all (fun t=>P.readableRec t&&decide (t<P.types.size))=true->
   DataW.TrodAll enc P W 0 (fun _=>true) true ts vs ds ct->(∀x∈ct,x.block<W.heap.size)->
   DataW.TrodAll enc P yg 0 (fun b=>decide (b<W.heap.size)) true ts vs ds ct
 | [],vs,ds,ct,_,h,_=>by
  obtain⟨rfl,rfl,rfl⟩:=trodAll_nil h;exact trodAll_mk0
 | t::ts,vs,ds,ct,bR,h,bC=>by
  obtain⟨v,asw,d,rB,p,q,rfl,rfl,rfl,bJ,aD⟩:=trodAll_cons h;simp only[List.all_cons,cq,cK]at bR;exact trodAll_cons_mk (Below.trod ak bR.1.1 bR.1.2 bJ aq (fun x ag=>bC x (hZ _ ag)))
   (PM ak aq ts asw rB q bR.2 aD (fun x ag=>bC x (iz _ ag)))
theorem PN:∀(ts:List TypeId) (vs:List Value) (ds:List (DataW H)) (ct:List MemPlace),DataW.TrodAll enc P w base (fun _=>true) held ts vs ds ct->ds.length=ts.length
 | [],[],[],_,_=>rfl
 | t::ts,v::vs,d::ds,ct,h=>by
  obtain⟨p,q,_,U,_⟩:=h;simp[PN ts vs ds q U]
 | [],_::_,_,_,h=>by simp[DataW.TrodAll]at h
 | [],[],_::_,_,h=>by simp[DataW.TrodAll]at h
 | _::_,[],_,_,h=>by simp[DataW.TrodAll]at h
 | _::_,_::_,[],_,h=>by simp[DataW.TrodAll]at h
theorem akr(ak:laidOutB P=true){f:Func}{fno:Nat}{s:ChangeSpec}{tb:TypeId}(eN:f.resultTypes=#[tb])(aq:P.underlying tb=some .bool)
  (hp:f.params.toList.all (fun t=>P.readableRec t&&decide (t<P.types.size))=true) (eO:f.params.toList.all (tF P 20)=true) (NV:s.vars=[])
  {W:World} {args:Array Value} {ds gs:List (DataW H)} {before:List MemPlace} (fX:∀(j:Nat) t v,f.params[j]?=some t->args[j]?=some v->Value.okWide P W r b4 t v)
  (sU:DataW.Whole enc P f.params.toList s.vars false W args.toList ds gs before)
  (ai:ds.length=f.params.size->(s.fn H ds).results=[.lit (.bool true)]/\(s.fn H ds).args=ds/\(s.fn H ds).vars=[])
  (rV:pd W) (Xu:∀fU,BG P f.params.toList fU->im P fno fU [.one (B true)]):
  Calls P fno args W fun e yg=>∃v,e=.returned v/\s.post enc P f false true false false W args v yg:=by
 have WC:=sU;have bC:=sU.lt;obtain⟨p,q,FY,M5,rfl,atv,atG⟩:=sU;rw[NV]at M5;obtain⟨rfl,rfl⟩:=trodVars_none M5;obtain⟨h1,U,ax⟩:=ai (by have:=PN _ _ _ _ FY;simpa using this);obtain⟨fU,X0,hlen,cG⟩:=PL _ _ _ _ eO (fun j t v bR bA=>fX j t v (by simpa using bR) (by simpa using bA)) FY;refine (Xu fU X0 W args rV ⟨by simpa using hlen,fun i cj hi=>by simpa using cG i cj hi⟩).mono ?_;rintro e yg ⟨v,rfl,nt,aD⟩;have bA:v=.bool true:=by
  obtain⟨ω,_,_,h⟩:=aD;simp only[mI,lh]at h;cases h;rfl
 subst bA;refine⟨_,rfl,ds,[],p++[],[],p,[],WC,?_,?_,?_,nt.below.frame _,fun h=>by cases h⟩
 ·rw[lu,h1,eN];exact trodAll_mk1 (shut_bool aq true)
 ·rw[lu,U];exact PM ak nt.below _ _ _ _ hp FY (fun x ag=>bC x (by simpa using ag))
 rw[lu,ax,NV];rfl
end
