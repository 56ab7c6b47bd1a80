import Derived.Test.YtdchjefneblpgaaR13
import Derived.LoopN
import Derived.ChangeMaps5
import Derived.ChangeSame
import Derived.ChangeStays
import Derived.ProofKit
import Derived.Lib.SmallJoins
set_option linter.unusedVariables false
set_option linter.unusedSimpArgs false
namespace Go.Sx
open Go.RowKit
def fH.lQ:fH->Exit
 | .normal=>.normal
 | .exit id=>.exit id
 | .ret=>.ret
def GX(w0:dC)(e:fH)(st:aG):Exit->Act->World->Prop:=fun e' a w=>e'=e.lQ/\Rel w0 st a w
def eS(P:Program)(c:Code)(st:aG)(e:fH)(a6:aG):Prop:=∀w0 a w,Rel w0 st a w->c.wp P (GX w0 e a6) a w
def dk(P:Program)(c:Code)(st:aG)(e:fH)(a6:aG):Prop:=∃n,∀w0 a w,Rel w0 st a w->Code.rounds P c (GX w0 e a6) n a w
variable{P:Program}{st a6:aG}
theorem dk.last{c:Code}{e:fH}(he:e.lQ≠.normal)(h:eS P c st e a6):dk P c st e a6:=
 ⟨1,fun w0 a w ar=>Code.wp_mono (fun e' b4 aD ⟨J,U⟩=>by
  subst J;cases e with
  | normal=>exact absurd rfl he
  | exit id=>exact⟨rfl,U⟩
  | ret=>exact⟨rfl,U⟩) (h w0 a w ar)⟩
theorem dk.more{c:Code}{c0:aG}{e:fH}(h:eS P c st .normal c0)(U:dk P c c0 e a6):dk P c st e a6:=by
 obtain⟨n,aR⟩:=U;refine⟨n+1,fun w0 a w ar=>Code.wp_mono (fun e' b4 aD ⟨J,ax⟩=>?_) (h w0 a w ar)⟩;subst J;exact aR w0 b4 aD ax
def qX(cg:List Nat):Nat->List az->List az
 | _,[]=>[]
 | i,p::r=>(if cg.contains i then p else .b5)::qX cg (i+1) r
theorem KG(cg:List Nat):∀(l:List az) (i j:Nat),(qX cg i l)[j]?=(l[j]?).map fun p=>if cg.contains (i+j) then p else .b5
 | [],_,_=>by simp[qX]
 | p::r,i,0=>by simp[qX]
 | p::r,i,j+1=>by
  simp only[qX,lK,KG cg r (i+1) j];rw[show i+1+j=i+(j+1) by omega]
theorem KH(cg:List Nat):∀(l:List az) (i:Nat),(qX cg i l).length=l.length
 | [],_=>rfl
 | p::r,i=>by simp[qX,KH cg r]
def sH(bs:List Nat):List (Nat×List aq)->List (Nat×List aq)
 | []=>[]
 | (i,ls)::r=>if bs.contains i then (i,ls)::sH bs r else sH bs r
theorem D7(bs:List Nat)(id:Nat):∀(l:List (Nat×List aq)) (ls:List aq),cM id (sH bs l)=some ls->cM id l=some ls
 | [],_,h=>by cases h
 | (i,fO)::r,ls,h=>by
  simp only[sH]at h;simp only[cM];split at h
  ·simp only[cM]at h;split at h
   ·rename_i hi;rw[bb hi];exact h
   rename_i hi;rw[aZ hi];exact D7 bs id r ls h
  rename_i ai;have:=D7 bs id r ls h;split
  ·rename_i hi;subst hi;exfalso;have ih:∀(r:List (Nat×List aq)),cM i (sH bs r)=none:=by
    intro r;induction r with
    | nil=>rfl
    | cons x r dw=>
     obtain⟨jR,iu⟩:=x;simp only[sH];split
     ·rename_i ae;simp only[cM];rw[aZ]
      ·exact dw
      intro e;subst e;exact ai ae
     exact dw
   rw[ih]at h;cases h
  exact this
def yw:aq->aq
 | .v (.bool b)=>.bP b
 | l=>l
variable{w:World}
theorem KI{ω:Own}{τ:Nat->Nat×Value}(l:aq)(v:Value)(h:Sat w ω τ l v):Sat w ω τ (yw l) v:=by
 unfold yw;split
 ·exact h
 exact h
def aG.eF(st:aG)(cg bs:List Nat):aG:=⟨(qX cg 0 st.env).map (az.map yw),(sH bs st.boxes).map fun x=>(x.1,x.2.map yw)⟩
variable{w0:dC}{a:Act}
theorem Rel.eF(h:Rel w0 st a w)(cg bs:List Nat):Rel w0 (st.eF cg bs) a w:=by
 obtain⟨ω,τ,h⟩:=h;refine⟨ω,τ,h.defers,by simp[aG.eF,KH,h.size],h.below,h.owned,h.fixed,h.pinned,?_,?_⟩
 ·intro i p hp;simp only[aG.eF]at hp;rw[dG,bF]at hp;obtain⟨lq,hp,rfl⟩:=hp;rw[KG,bF]at hp;obtain⟨Rs,hp,rfl⟩:=hp;obtain⟨v,J,U⟩:=h.env i Rs hp;refine⟨v,J,cd.map KI ?_⟩;split
  ·exact U
  exact trivial
 intro id ls ak;simp only[aG.eF]at ak;rw[pR,bF]at ak;obtain⟨hn,ak,rfl⟩:=ak;obtain⟨b,arr,ty,J,U,ax,aJ⟩:=h.boxes id hn (D7 bs id _ _ ak);exact⟨b,arr,ty,J,U,ax,aJ.map KI⟩
def D8(st:aG)(id j t k:Nat):Option aG:=
 match cM id (st.ho t []).boxes with
 | some ls=>
  match ls[j]? with
  | some (.v (.slice none 0 0))=>if t<cy then some ⟨(st.ho t []).env,nF id (ls.set j (.aa (.own t) k [])) (st.ho t []).boxes⟩ else none
  | _=>none
 | none=>none
def D9(st:aG)(id j t:Nat):Option aG:=
 match cM id st.boxes with
 | some hn=>
  match hn[j]? with
  | some (.aa (.own kZ) bS es)=>
   if t<cy then
    let c0:=st.map (aq.b3 (ik kZ t) fun _=>true)
    match cM id c0.boxes with
    | some ls=>some ⟨c0.env,nF id (ls.set j (.aa (.own t) bS es)) c0.boxes⟩
    | none=>none
   else none
  | _=>none
 | none=>none
def qY(st:aG):List (Nat×Nat×Nat)->Option aG
 | []=>some st
 | (s,t,k)::r=>
  if 1000000<=s then
   (match D9 st (s / 1000000-1) (s % 1000000) t with
   | some c0=>some c0
   | none=>D8 st (s / 1000000-1) (s % 1000000) t k).bind fun c0=>qY c0 r else
  match (st.env.getD s .b5).leaf with
  | some (.v (.slice none 0 0))=>if t<cy then qY ⟨(st.ho t []).env.set s (.one (.aa (.own t) k [])),(st.ho t []).boxes⟩ r else none
  | some (.aa (.own kZ) bS es)=>
   if t<cy then qY ⟨(st.map (aq.b3 (ik kZ t) fun _=>true)).env.set s (.one (.aa (.own t) bS es)),(st.map (aq.b3 (ik kZ t) fun _=>true)).boxes⟩ r else none
  | _=>none
theorem b1.G2{ω:Own}{τ:Nat->Nat×Value}(h:b1 w0 st a w ω τ){s:Nat}{l:aq}(ak:(st.env.getD s .b5).leaf=some l)(cl:l≠.b5):∃v,a.tmps[s]?=some v/\Sat w ω τ l v:=by
 rw[jz]at ak;cases e:st.env[s]? with
 | none=>rw[e]at ak;simp only[Option.getD_none,az.leaf,aH]at ak;exact absurd ak.symm cl
 | some p=>
  rw[e]at ak;obtain⟨v,J,U⟩:=h.env s p e;exact⟨v,J,az.cW ak U⟩
theorem KJ{s:Nat}{v:Value}(h:a.tmps[s]?=some v):a.put (some s) v=a:=by
 simp only[Act.put];have:a.tmps.setIfInBounds s v=a.tmps:=by
  apply Array.ext
  ·simp
  intro i J U;rw[Array.getElem_setIfInBounds];split
  ·rename_i hi;subst hi;rw[i' U]at h;exact (e0 h).symm
  rfl
 rw[this]
theorem S7{id j t k:Nat}(h:D8 st id j t k=some a6)(ar:Rel w0 st a w):Rel w0 a6 a w:=by
 obtain⟨ω,τ,ar⟩:=ar;unfold D8 at h;split at h
 ·rename_i ls ah;split at h
  ·rename_i aU;split at h
   ·rename_i gU;simp only[aH]at h;subst h;obtain⟨aP,J,U⟩:=ar.CZ t k gU;refine⟨aP,_,J.defers,J.size,J.below,J.owned,J.fixed,J.pinned,J.env,fun gu ej ak=>?_⟩;by_cases fp:gu=id
    ·subst fp;rw[ua ah]at ak;cases ak;obtain⟨b,arr,ty,aK,aO,b2,eY⟩:=J.boxes gu ls ah;refine⟨b,arr,ty,aK,aO,b2,by rw[eY.1,kj],fun i l hi=>?_⟩;rw[iL]at hi;split at hi
     ·rename_i pt;subst pt;split at hi
      ·cases hi;obtain⟨u,fe,er⟩:=eY.2 j _ aU;have QQ:u=.slice none 0 0:=er;subst QQ;exact⟨_,fe,U⟩
      cases hi
     exact eY.2 i l hi
    rw[ub fp]at ak;exact J.boxes gu ej ak
   cases h
  cases h
 cases h
theorem S8{id j t:Nat}(h:D9 st id j t=some a6)(ar:Rel w0 st a w):Rel w0 a6 a w:=by
 obtain⟨ω,τ,ar⟩:=ar;unfold D9 at h;split at h
 case h_2=>cases h
 rename_i hn ga;split at h
 case h_2=>cases h
 rename_i kZ bS es aU;split at h
 case isFalse=>cases h
 rename_i gU;simp only at h;split at h
 case h_2=>cases h
 rename_i ls ah;simp only[aH]at h;subst h;obtain⟨cm,qe,rf,aeT,OY,OZ,O0⟩:=ar.boxes id hn ga;obtain⟨v,a8,ad⟩:=O0.2 j _ aU;have J:b1 w0 (st.map (aq.b3 (ik kZ t) fun _=>true)) a w (fun b=>hJ kZ t 0 (ω b)) (eZ τ t bS v):=
  ar.dE _ (Da gU).sat ar.below (fun b ah=>ar.owned b (C' ah)) (fun id b ah=>⟨qS.2 ah,rfl⟩) (fun id b ah=>qS.1 ah)
   (fun c3 bH=>by simp only[eZ];rw[aZ (by omega)])
 have U:Sat w (fun b=>hJ kZ t 0 (ω b)) (eZ τ t bS v) (.aa (.own t) bS es) v:=⟨ad.1.frame fun b q _ aw=>⟨by
  simp only[Tag.R]at aw ⊢;rw[aw];cases q with
  | nil=>simp[hJ]
  | cons x q=>obtain⟨i,j⟩:=x;simp[hJ],rfl⟩,by simp[Tag.de,eZ]⟩
 refine⟨_,_,J.defers,J.size,J.below,J.owned,J.fixed,J.pinned,J.env,fun gu ej ak=>?_⟩;by_cases fp:gu=id
 ·subst fp;rw[ua ah]at ak;cases ak;obtain⟨b,arr,ty,aK,aO,b2,eY⟩:=J.boxes gu ls ah;refine⟨b,arr,ty,aK,aO,b2,by rw[eY.1,kj],fun i l hi=>?_⟩;rw[iL]at hi;split at hi
  ·rename_i pt;subst pt;split at hi
   ·cases hi;have Bs:b=cm:=by
     have ks:ω b=.box gu:=qS.1 aK;exact OY b ks
    subst Bs;rw[OZ]at b2;cases b2;exact⟨v,a8,U⟩
   cases hi
  exact eY.2 i l hi
 rw[ub fp]at ak;exact J.boxes gu ej ak
theorem wD:∀{ns:List (Nat×Nat×Nat)} {st a6:aG},qY st ns=some a6->Rel w0 st a w->Rel w0 a6 a w
 | [],st,a6,h,ar=>by simp only[qY,aH]at h;subst h;exact ar
 | (s,t,k)::r,st,a6,h,ar=>by
  simp only[qY]at h;split at h
  ·rw[jT]at h;obtain⟨c0,J,h⟩:=h;refine wD h ?_;split at J
   ·rename_i lH U;cases J;exact S8 U ar
   exact S7 J ar
  split at h
  ·rename_i ak;obtain⟨ω,τ,ar⟩:=ar;obtain⟨v,a8,ad⟩:=ar.G2 ak (by simp);have:v=.slice none 0 0:=ad;subst this;split at h
   case isFalse=>cases h
   rename_i gU;obtain⟨aP,J,U⟩:=ar.CZ t k gU;have ax:=J.put (d:=s) (p:=.one (.aa (.own t) k [])) U;rw[KJ a8]at ax;exact wD h ⟨aP,_,ax⟩
  ·rename_i kZ bS es ak;obtain⟨ω,τ,ar⟩:=ar;obtain⟨v,a8,ad⟩:=ar.G2 ak (by simp);split at h
   case isFalse=>cases h
   rename_i gU;have J:b1 w0 (st.map (aq.b3 (ik kZ t) fun _=>true)) a w (fun b=>hJ kZ t 0 (ω b)) (eZ τ t bS v):=
    ar.dE _ (Da gU).sat ar.below (fun b ah=>ar.owned b (C' ah)) (fun id b ah=>⟨qS.2 ah,rfl⟩) (fun id b ah=>qS.1 ah)
     (fun c3 bH=>by simp only[eZ];rw[aZ (by omega)])
   have ax:=J.put (d:=s) (p:=.one (.aa (.own t) bS es)) (v:=v) ⟨ad.1.frame fun b q _ aw=>⟨by
    simp only[Tag.R]at aw ⊢;rw[aw];cases q with
    | nil=>simp[hJ]
    | cons x q=>obtain⟨i,j⟩:=x;simp[hJ],rfl⟩,by simp[Tag.de,eZ]⟩
   rw[KJ a8]at ax;exact wD h ⟨_,_,ax⟩
  cases h
abbrev OF:=Option (fH×aG×List bI×List Prop)
def run(P:Program):Code->aG->List bI->OF
 | .skip,st,ans=>some (.normal,st,ans,[])
 | .label _,st,ans=>some (.normal,st,ans,[])
 | .region _ ops draw,st,ans=>if draw then (D6 P ops st ans).map fun r=>(.normal,r.1,r.2.1,r.2.2) else (sE P ops ops.toList st ans).map fun r=>(.normal,r.1,r.2.1,r.2.2)
 | .seq a b,st,ans=>
  match run P a st ans with
  | some (.normal,c0,ea,eG)=>(run P b c0 ea).map fun r=>(r.1,r.2.1,r.2.2.1,eG++r.2.2.2)
  | some (e,c0,ea,eG)=>some (e,c0,ea,eG)
  | none=>none
 | .cond c x y,st,ans=>
  match (st.aW c).leaf,ans with
  | some (.v (.bool true)),ans=>run P x st ans
  | some (.v (.bool false)),ans=>run P y st ans
  | some (.bP c),.lP true::r=>(run P x st r).map fun r=>(r.1,r.2.1,r.2.2.1,(c=true)::r.2.2.2)
  | some (.bP c),.lP false::r=>(run P y st r).map fun r=>(r.1,r.2.1,r.2.2.1,(c=false)::r.2.2.2)
  | _,_=>none
 | .block id body,st,ans=>
  match run P body st ans with
  | some (.exit i,c0,ea,eG)=>some (if i=id then .normal else .exit i,c0,ea,eG)
  | r=>r
 | .loop body,st,ans=>
  match ans with
  | .loop yv cg bs e a6::r=>
   match e,qY st yv with
   | .normal,_=>none
   | e,some c0=>some (e,a6,r,[dk P body (c0.eF cg bs) e a6])
   | _,none=>none
  | _=>none
 | .exit id,st,ans=>some (.exit id,st,ans,[])
 | .ret,st,ans=>some (.ret,st,ans,[])
 | _,_,_=>none
theorem kW:∀(c:Code) {st a6:aG} {ans bN:List bI} {obs:List Prop} {e:fH},run P c st ans=some (e,a6,bN,obs)->cn obs->eS P c st e a6
 | .skip,st,a6,ans,bN,obs,e,h,aM=>by
  simp only[run,aH,a']at h;obtain⟨rfl,rfl,_,_⟩:=h;exact fun w0 a w ar=>wp_skip ⟨rfl,ar⟩
 | .label l,st,a6,ans,bN,obs,e,h,aM=>by
  simp only[run,aH,a']at h;obtain⟨rfl,rfl,_,_⟩:=h;exact fun w0 a w ar=>wp_label ⟨rfl,ar⟩
 | .region id ops draw,st,a6,ans,bN,obs,e,h,aM=>by
  simp only[run]at h;split at h
  ·rename_i ay;rw[bF]at h;obtain⟨⟨bO,b6,cC⟩,J,h⟩:=h;simp only[a']at h;obtain⟨rfl,rfl,rfl,rfl⟩:=h;subst ay;exact fun w0 a w ar=>S6 J aM ar fun b4 aD h=>⟨rfl,h⟩
  rename_i ay;rw[bF]at h;obtain⟨⟨bO,b6,cC⟩,J,h⟩:=h;simp only[a']at h;obtain⟨rfl,rfl,rfl,rfl⟩:=h;have:draw=false:=by simpa using ay
  subst this;exact fun w0 a w ar=>wp_region_list (EG _ J aM ar fun b4 aD h=>⟨rfl,h⟩)
 | .seq x y,st,a6,ans,bN,obs,e,h,aM=>by
  simp only[run]at h;split at h
  ·rename_i c0 ea eG J;rw[bF]at h;obtain⟨⟨bO,b6,cC,eo⟩,U,h⟩:=h;simp only[a']at h;obtain⟨rfl,rfl,rfl,rfl⟩:=h;obtain⟨cu,cc⟩:=aM.append;intro w0 a w ar;refine wp_seq (Code.wp_mono (fun e' b4 aD hp=>?_) (kW x J cu w0 a w ar));obtain⟨rfl,dA⟩:=hp;exact kW y U cc w0 b4 aD dA
  ·rename_i aK c0 ea eG cl J;simp only[aH,a']at h;obtain⟨rfl,rfl,rfl,rfl⟩:=h;intro w0 a w ar;refine wp_seq (Code.wp_mono (fun e' b4 aD hp=>?_) (kW x J aM w0 a w ar));obtain⟨rfl,dA⟩:=hp;cases aK with
   | normal=>first | exact (cl rfl).elim | exact (cl _ rfl).elim | exact (cl _ _ _ rfl).elim
   | exit i=>exact⟨rfl,dA⟩
   | ret=>exact⟨rfl,dA⟩
  cases h
 | .cond c x y,st,a6,ans,bN,obs,e,h,aM=>by
  intro w0 a w ar;have pz:=ar;obtain⟨ω,τ,dA⟩:=pz;have dJ:=dA.aW c;simp only[run]at h;split at h
  ·rename_i ak;have:a.eval c=.bool true:=az.cW ak dJ;exact wp_cond_true this (kW x h aM w0 a w ar)
  ·rename_i ak;have:a.eval c=.bool false:=az.cW ak dJ;exact wp_cond_false this (kW y h aM w0 a w ar)
  ·rename_i hV r ak;rw[bF]at h;obtain⟨⟨bO,b6,cC,eo⟩,U,h⟩:=h;simp only[a']at h;obtain⟨rfl,rfl,rfl,rfl⟩:=h;have:a.eval c=.bool hV:=az.cW ak dJ;have ai:hV=true:=aM.1;exact wp_cond_true (by rw[this,ai]) (kW x U aM.2 w0 a w ar)
  ·rename_i hV r ak;rw[bF]at h;obtain⟨⟨bO,b6,cC,eo⟩,U,h⟩:=h;simp only[a']at h;obtain⟨rfl,rfl,rfl,rfl⟩:=h;have:a.eval c=.bool hV:=az.cW ak dJ;have ai:hV=false:=aM.1;exact wp_cond_false (by rw[this,ai]) (kW y U aM.2 w0 a w ar)
  cases h
 | .block id body,st,a6,ans,bN,obs,e,h,aM=>by
  intro w0 a w ar;simp only[run]at h;split at h
  ·rename_i i c0 ea eG J;simp only[aH,a']at h;obtain⟨rfl,rfl,rfl,rfl⟩:=h;refine wp_block (Code.wp_mono (fun e' b4 aD hp=>?_) (kW body J aM w0 a w ar));obtain⟨rfl,dA⟩:=hp;simp only[fH.lQ,Exit.inBlock];split
   ·exact⟨rfl,dA⟩
   exact⟨rfl,dA⟩
  rename_i cl;refine wp_block (Code.wp_mono (fun e' b4 aD hp=>?_) (kW body h aM w0 a w ar));obtain⟨rfl,dA⟩:=hp;cases e with
  | normal=>exact⟨rfl,dA⟩
  | exit i=>exact absurd h (cl _ _ _ _)
  | ret=>exact⟨rfl,dA⟩
 | .loop body,st,a6,ans,bN,obs,e,h,aM=>by
  intro w0 a w ar;simp only[run]at h;split at h
  ·rename_i yv cg bs b8 ew r;split at h
   ·cases h
   ·rename_i aK c0 cl aR;simp only[aH,a']at h;obtain⟨rfl,rfl,rfl,rfl⟩:=h;obtain⟨n,ak⟩:=aM.1;exact wp_loop_rounds n (ak w0 a w ((wD aR ar).eF cg bs))
   cases h
  cases h
 | .exit id,st,a6,ans,bN,obs,e,h,aM=>by
  simp only[run,aH,a']at h;obtain⟨rfl,rfl,_,_⟩:=h;exact fun w0 a w ar=>wp_exit ⟨rfl,ar⟩
 | .ret,st,a6,ans,bN,obs,e,h,aM=>by
  simp only[run,aH,a']at h;obtain⟨rfl,rfl,_,_⟩:=h;exact fun w0 a w ar=>wp_ret ⟨rfl,ar⟩
 | .rangeFunc ..,_,_,_,_,_,_,h,_=>by simp[run]at h
 | .scope _,_,_,_,_,_,_,h,_=>by simp[run]at h
 | .goto _,_,_,_,_,_,_,h,_=>by simp[run]at h
 | .refuse _,_,_,_,_,_,_,h,_=>by simp[run]at h
end Go.Sx
namespace Go.Sx
open Go.RowKit
def aq.uA:aq->D->Option (D×Option Nat)
 | .v x,hint=>
  match x,hint with
  | .slice none 0 0,.aa k _=>some (.aa k [],none)
  | x,_=>if x.oneCell' then some (.v x,none) else none
 | .bP c,_=>some (.v (.bool c),none)
 | .aa (.own t) k es,_=>some (.aa k es,some t)
 | _,_=>none
abbrev gp:=List (Nat×Nat)
def gp.at(t:Nat):gp->Option Nat
 | []=>none
 | (s,n)::r=>if s=t then some n else gp.at t r
def yX(n:Nat):Option Nat->gp
 | some t=>[(t,n)]
 | none=>[]
def nV(n:Nat):List aq->List D->Option (List D×gp)
 | [],[]=>some ([],[])
 | l::ls,d::ds=>
  match l.uA d,nV (n+1) ls ds with
  | some (cN,t),some (pb,ts)=>some (cN::pb,yX n t++ts)
  | _,_=>none
 | _,_=>none
def zV(n:Nat):bi->b7->Option (b7×gp)
 | .one l,.one d=>(l.uA d).map fun x=>(.one x.1,yX n x.2)
 | .agg ls,.agg ds=>(nV n ls ds).map fun x=>(.agg x.1,x.2)
 | _,_=>none
def oP(r:Nat):List az->List b7->Option (List b7×gp)
 | [],[]=>some ([],[])
 | .aN a::b',d::ds=>
  match zV (100*r) a d,oP (r+1) b' ds with
  | some (cN,t),some (pb,ts)=>some (cN::pb,t++ts)
  | _,_=>none
 | _,_=>none
def yY(ts:gp):Bool:=ts.all fun x=>match ts.at x.1 with | some n=>n==x.2 | none=>false
variable{ts:gp}{n:Nat}
theorem yZ(h:yY ts=true){t:Nat}(hm:(t,n)∈ts):ts.at t=some n:=by
 have:=eP.1 h _ hm;simp only at this;split at this
 ·rename_i Ri e;rw[e];simp only[fR]at this;rw[this]
 cases this
def gL(ω:Own)(ts:gp):Own:=fun b=>
 match ω b with
 | .tok t q=>match ts.at t with | some n=>.tok n q | none=>.bc
 | _=>.bc
variable{w:World}{ω:Own}{τ:Nat->Nat×Value}
theorem aq.Ng{l:aq}{h d:D}{t:Option Nat}{u:Value}(ay:l.uA h=some (d,t))(ad:Sat w ω τ l u)
  (ii:∀s,t=some s->ts.at s=some n):bA w (gL ω ts) (Tag.own n).R d u:=by
 cases l with
 | b5=>cases ay
 | v x=>
  have e:u=x:=ad;subst e;simp only[aq.uA]at ay;split at ay
  ·simp only[aH,a']at ay;obtain⟨rfl,_⟩:=ay;exact .nil _ _ _
  split at ay
  ·simp only[aH,a']at ay;obtain⟨rfl,_⟩:=ay;exact .v _ _ ‹_›
  cases ay
 | bP c=>
  have e:u=.bool c:=ad;subst e;simp only[aq.uA,aH,a']at ay;obtain⟨rfl,_⟩:=ay;exact .v _ _ rfl
 | aa g k es=>
  cases g with
  | free=>cases ay
  | ro s=>cases ay
  | own s=>
   simp only[aq.uA,aH,a']at ay;obtain⟨rfl,rfl⟩:=ay;refine ad.1.frame fun b q _ aw=>⟨?_,rfl⟩
   simp only[Tag.R]at aw ⊢;simp only[gL,aw,ii s rfl]
 | ptr=>cases ay
 | ep=>cases ay
 | gZ=>cases ay
 | fd=>cases ay
 | dL=>cases ay
 | eL=>cases ay
 | bE=>cases ay
 | ef=>cases ay
theorem KK{t:Option Nat}{s:Nat}(h:t=some s):(s,n)∈yX n t:=by subst h;simp[yX]
theorem D'{w:World}{ω:Own}{τ:Nat->Nat×Value}(ii:∀t n,(t,n)∈ts->ts.at t=some n):∀{ls:List aq} {ad ds:List D} {n:Nat} {iK:gp},nV n ls ad=some (ds,iK)->(∀x∈iK,x∈ts)->
  ds.length=ls.length/\∀(j:Nat) (d:D),ds[j]?=some d->∃l,ls[j]?=some l/\∀u,Sat w ω τ l u->bA w (gL ω ts) (Tag.own (n+j)).R d u
 | [],[],ds,n,iK,h,_=>by
  simp only[nV,aH,a']at h;obtain⟨rfl,_⟩:=h;exact⟨rfl,fun j d ay=>by simp at ay⟩
 | l::ls,bX::ad,ds,n,iK,h,gb=>by
  simp only[nV]at h;split at h
  ·rename_i cN t pb p5 aK aO;simp only[aH,a']at h;obtain⟨rfl,rfl⟩:=h;obtain⟨J,U⟩:=D' (w:=w) (ω:=ω) (τ:=τ) ii aO (fun x ae=>gb x (gQ _ ae));refine⟨by simp[J],fun j d ay=>?_⟩;cases j with
   | zero=>
    simp at ay;subst ay;exact⟨l,rfl,fun u hu=>aq.Ng aK hu fun s cB=>ii s n (gb _ (gl _ (KK cB)))⟩
   | succ j=>
    obtain⟨ff,ax,aJ⟩:=U j d (by simpa using ay);refine⟨ff,by simpa using ax,fun u hu=>?_⟩;have:=aJ u hu;rwa[show n+1+j=n+(j+1) by omega]at this
  cases h
 | [],_::_,_,_,_,h,_=>by simp[nV]at h
 | _::_,[],_,_,_,h,_=>by simp[nV]at h
theorem Sg(ii:∀t n,(t,n)∈ts->ts.at t=some n){a:bi}{h d:b7}{r:Nat}{iK:gp}(ar:zV (100*r) a h=some (d,iK))(gb:∀x∈iK,x∈ts)
  {y:Value} (ad:h' (Sat w ω τ) a y):jP w (gL ω ts) r d y:=by
 cases a with
 | one l=>
  cases h with
  | agg cB=>cases ar
  | one bX=>
   simp only[zV,bF]at ar;obtain⟨⟨cN,t⟩,J,U⟩:=ar;simp only[a']at U;obtain⟨rfl,rfl⟩:=U;exact aq.Ng J ad fun s cB=>ii s _ (gb _ (KK cB))
 | agg ls=>
  cases h with
  | one bX=>cases ar
  | agg cB=>
   simp only[zV,bF]at ar;obtain⟨⟨ds,t⟩,J,U⟩:=ar;simp only[a']at U;obtain⟨rfl,rfl⟩:=U;obtain⟨ax,aJ⟩:=D' (w:=w) (ω:=ω) (τ:=τ) ii J gb;obtain⟨vs,rfl,aR,a8⟩:=ad;refine⟨vs,rfl,by omega,fun j pa ay=>?_⟩;obtain⟨l,ak,cr⟩:=aJ j pa ay;obtain⟨u,hu,er⟩:=a8 j l ak;exact⟨u,hu,cr u er⟩
theorem y0{w:World}{ω:Own}{τ:Nat->Nat×Value}{ts:gp}(ii:∀t n,(t,n)∈ts->ts.at t=some n):∀{b':List az} {ad ds:List b7} {r:Nat} {iK:gp},oP r b' ad=some (ds,iK)->(∀x∈iK,x∈ts)->
  ds.length=b'.length/\∀(j:Nat) (d:b7),ds[j]?=some d->∃p,b'[j]?=some p/\∀u,cd (Sat w ω τ) p u->jP w (gL ω ts) (r+j) d u
 | [],[],ds,r,iK,h,_=>by
  simp only[oP,aH,a']at h;obtain⟨rfl,_⟩:=h;exact⟨rfl,fun j d ay=>by simp at ay⟩
 | .aN a::b',bX::ad,ds,r,iK,h,gb=>by
  simp only[oP]at h;split at h
  ·rename_i cN t pb p5 aK aO;simp only[aH,a']at h;obtain⟨rfl,rfl⟩:=h;obtain⟨J,U⟩:=y0 (w:=w) (ω:=ω) (τ:=τ) ii aO (fun x ae=>gb x (gQ _ ae));refine⟨by simp[J],fun j d ay=>?_⟩;cases j with
   | zero=>
    simp at ay;subst ay;exact⟨.aN a,rfl,fun u hu=>Sg ii aK (fun x ae=>gb x (gl _ ae)) hu⟩
   | succ j=>
    obtain⟨ff,ax,aJ⟩:=U j d (by simpa using ay);refine⟨ff,by simpa using ax,fun u hu=>?_⟩;have:=aJ u hu;rwa[show r+1+j=r+(j+1) by omega]at this
  cases h
 | [],_::_,_,_,_,h,_=>by simp[oP]at h
 | .aN _::_,[],_,_,_,h,_=>by simp[oP]at h
 | .fD _::_,_,_,_,_,h,_=>by simp[oP]at h
def b7.arg:b7->bi
 | .one d=>.one (d.leaf .free)
 | .agg ds=>.agg (ds.map (D.leaf .free))
def ud(args:List b7)(ntmps:Nat):aG:=⟨args.map (fun a=>.aN a.arg)++List.replicate (ntmps-args.length) .b5,[]⟩
theorem jn.leaf{d:D}{u:Value}(h:jn w d u):Sat w (fun _=>.bc) τ (d.leaf .free) u:=D.cW (p:=(0,0)) h
theorem Sh{args:List b7}{vs:Array Value}(pA:mK w)(h:zo w args vs)(ntmps:Nat):
  Rel (dC.of w) (ud args ntmps) { tmps:=vs++Array.replicate (ntmps-vs.size) undef,defers:=[] } w:=by
 refine⟨fun _=>.bc,fun _=>(0,undef),rfl,by simp[ud,h.1],e8.refl _ pA (fun _ _ h=>h),fun b ah=>absurd rfl ah,fun _ _=>rfl,(fun _ _ _ h=>by cases h),?_,fun id ls ak=>by simp[ud,cM]at ak⟩;intro i p hp;simp only[ud]at hp;rw[kf,br]at hp;split at hp
 ·rename_i hi;rw[dG,bF]at hp;obtain⟨bT,Pk,rfl⟩:=hp;obtain⟨v,a8,cb⟩:=h.2 i bT Pk;refine⟨v,?_,?_⟩
  ·rw[hz,bb (by rw[h.1];exact hi)];exact a8
  cases bT with
  | one d=>exact jn.leaf cb
  | agg ds=>
   obtain⟨us,rfl,aR,hu⟩:=cb;refine⟨us,rfl,by simpa using aR,fun j l ak=>?_⟩;rw[dG,bF]at ak;obtain⟨d,ay,rfl⟩:=ak;obtain⟨u,J,U⟩:=hu j d ay;exact⟨u,J,jn.leaf U⟩
 rename_i hi;rw[xr]at hp;split at hp
 ·rename_i bk;simp only[aH]at hp;subst hp;refine⟨undef,?_,aj⟩;rw[hz,aZ (by rw[h.1];exact hi),Array.getElem?_replicate,bb (by rw[h.1];exact bk)]
 cases hp
def nJ(P:Program)(st:aG):ResultVar->Option az
 | .tmp t=>some (st.aW (.tmp t))
 | .cell a t=>
  match sr P t,P.info? t,(st.aW (.tmp a)).leaf with
  | some agg,some i,some (.ptr id off)=>
   match cM id st.boxes with
   | some ls=>ox agg i.size ls off
   | none=>none
  | _,_,_=>none
def wE(tmps:Array Value):ResultVar->Sem Value
 | .tmp t=>pure (tmps.getD t undef)
 | .cell x t=>do loadVar t (<-asAddr (tmps.getD x undef))
theorem Ea(fn:Func)(tmps:Array Value):results fn tmps=(do
  let vs <-fn.results.mapM (wE tmps)
  pure (if h:vs.size=1 then vs[0] else .tuple vs)):=by
 unfold results;have:(fun x=>match x with | .tmp t=>pure (tmps.getD t undef) | .cell a t=>do loadVar t (<-asAddr (tmps.getD a undef)):ResultVar->Sem Value)=wE tmps:=by
  funext x;cases x<;>rfl
 rw[<-this];rfl
variable{P:Program}{st:aG}
theorem Si{w0:dC}{a:Act}(aI:b1 w0 st a w ω τ){r:ResultVar}{p:az}(h:nJ P st r=some p):
  ∃z,(wE a.tmps r).run P w=.ok z w/\cd (Sat w ω τ) p z:=by
 cases r with
 | tmp t=>
  simp only[nJ,aH]at h;subst h;exact⟨_,rfl,aI.aW (.tmp t)⟩
 | cell x t=>
  simp only[nJ]at h;split at h
  ·rename_i agg i id off aK aO b2;split at h
   ·rename_i ls cA;have ae:=az.cW b2 (aI.aW (.tmp x));obtain⟨b,ah,ae⟩:=ae;simp only[Act.eval]at ae;obtain⟨cH,arr,ty,dv,yg,BL,dN,dJ⟩:=aI.boxes id ls cA;have:=yg b ah;subst this;have:=tZ (P:=P) aK aO h BL (base:=0) (by omega) (fun j l ak=>by simpa using dJ j l ak);simpa[wE,ae,asAddr]using this
   cases h
  cases h
def zW(P:Program)(st:aG)(hN:List ResultVar)(hint:List b7):Option (List b7):=
 match hN.mapM (nJ P st) with
 | some b'=>
  match oP 0 b' hint with
  | some (ds,ts)=>if yY ts then some ds else none
  | none=>none
 | none=>none
theorem y1{w0:dC}{a:Act}(aI:b1 w0 st a w ω τ):∀{hN:List ResultVar} {b':List az},hN.mapM (nJ P st)=some b'->
  ∃zs:List Value,(hN.mapM (wE a.tmps)).run P w=.ok zs w/\zs.length=b'.length/\∀(i:Nat) (p:az),b'[i]?=some p->∃z,zs[i]?=some z/\cd (Sat w ω τ) p z
 | [],b',h=>by simp at h;subst h;exact⟨[],rfl,rfl,fun i p hp=>by simp at hp⟩
 | r::hN,b',h=>by
  rw[uS]at h;cases e:nJ P st r with
  | none=>simp[e]at h
  | some lq=>
   cases aO:hN.mapM (nJ P st) with
   | none=>simp[e,aO]at h
   | some afZ=>
    simp[e,aO]at h;subst h;obtain⟨z,J,U⟩:=Si aI e;obtain⟨zs,ax,aJ,a1⟩:=y1 aI aO;refine⟨z::zs,?_,by simp[aJ],fun i p hp=>?_⟩
    ·rw[uS,Sem.run_bind,J,Result.andThen_ok,Sem.run_bind,ax];rfl
    cases i with
    | zero=>simp at hp;subst hp;exact⟨z,rfl,U⟩
    | succ i=>exact a1 i p (by simpa using hp)
theorem KL{f:FuncId}{fn:Func}{c:Code}{args rs:List b7}{ans bN:List bI}{obs:List Prop}{e:fH}(bn:P.funcs[f]?=some fn)(ah:fn.body=some c)
  (ei:run P c (ud args fn.ntmps) ans=some (e,st,bN,obs)) (aM:cn obs) (he:e=.ret\/e=.normal) (dS:zW P st fn.results.toList rs=some rs):gm P f args rs:=by
 intro w vs pA j1;refine calls_of_wp bn ah (Code.wp_mono (fun e' b4 aD hp=>?_) (kW c ei aM (dC.of w) _ w (Sh pA j1 fn.ntmps)));obtain⟨rfl,ω,τ,aI⟩:=hp;unfold zW at dS;split at dS
 ·rename_i b' py;split at dS
  ·rename_i ds ts dM;split at dS
   ·rename_i cb;simp only[aH]at dS;subst dS;obtain⟨zs,J,U,ax⟩:=y1 aI py;obtain⟨aJ,a1⟩:=y0 (w:=aD) (ω:=ω) (τ:=τ) (fun t n h=>yZ cb h) dM (fun x ae=>ae);have hm:=zf (P:=P) _ fn.results aD _ J;have ee:∀(j:Nat) (d:b7),ds[j]?=some d->∃z,zs[j]?=some z/\jP aD (gL ω ts) j d z:=by
     intro j d ay;obtain⟨p,hp,px⟩:=a1 j d ay;obtain⟨z,aL,l7⟩:=ax j p hp;exact⟨z,aL,by have:=px z l7;rwa[cP]at this⟩
    have kI:zs.length=ds.length:=by omega
    have PT:∀v,(if h:zs.toArray.size=1 then zs.toArray[0] else .tuple zs.toArray)=v->s4 w aD ds v:=by
     intro v a8;refine⟨gL ω ts,fun b ah=>?_,fun b ah=>?_,?_⟩
     ·cases cE:ω b with
      | bc=>simp[gL,cE]
      | box id=>simp[gL,cE]
      | tok t q=>
       rcases (aI.owned b (by simp[cE])).1 with h | h
       ·exact absurd ah (by have h:w.heap.size<=b:=h;omega)
       exact absurd h (fun h=>h)
     ·cases cE:ω b with
      | bc=>simp[gL,cE]at ah
      | box id=>simp[gL,cE]at ah
      | tok t q=>
       refine⟨?_,(aI.owned b (by simp[cE])).2⟩;simp only[gL,cE]at ah ⊢;cases ii:ts.at t with
       | none=>simp[ii]at ah
       | some n=>exact⟨n,q,rfl⟩
     unfold j7;split
     ·rename_i bT;obtain⟨z,aL,ai⟩:=ee 0 bT rfl;have J:zs.length=1:=by rw[kI];rfl
      have oh:zs=[z]:=by
       match zs,J,aL with
       | [z0],_,aL=>simp at aL;rw[aL]
      have Cd:v=z:=by
       rw[<-a8];simp[oh]
      rw[Cd];exact ai
     rename_i cl;have J:¬zs.toArray.size=1:=by
      intro h;simp at h;rw[kI]at h;obtain⟨d,ay⟩:=List.length_eq_one_iff.1 h;exact cl d ay
     rw[dif_neg J]at a8;exact⟨zs.toArray,a8.symm,by simpa using kI,fun r bT ar=>by obtain⟨z,aL,ai⟩:=ee r bT ar;exact⟨z,by simpa using aL,ai⟩⟩
    have c6:∃v,(results fn b4.tmps).run P aD=.ok v aD/\∃u,Ending.returned v=.returned u/\e9 w.heap.size w aD/\s4 w aD ds u:=by
     refine⟨_,?_,_,rfl,aI.below.below,PT _ rfl⟩;rw[Ea,Sem.run_bind,hm];rfl
    obtain⟨v,bt,bQ⟩:=c6;rcases he with rfl | rfl
    ·exact⟨aI.defers,v,bt,bQ⟩
    exact⟨aI.defers,v,bt,bQ⟩
   cases dS
  cases dS
 cases dS
end Go.Sx
namespace Go.Sx
open Go.RowKit
def C6(P:Program)(c:Code)(ntmps:Nat)(hN:List ResultVar)(args hint:List b7)(ans:List bI):Option (List b7×List Prop):=
 match run P c (ud args ntmps) ans with
 | some (.ret,st,_,obs)=>(zW P st hN hint).map fun rs=>(rs,obs)
 | some (.normal,st,_,obs)=>(zW P st hN hint).map fun rs=>(rs,obs)
 | _=>none
def kX(fn:Func):Code:=fn.body.getD .skip
variable{P:Program}
theorem gm.of{f:FuncId}{fn:Func}{args rs:List b7}(ans:List bI)(obs:List Prop)(bn:P.funcs[f]?=some fn)(ah:fn.body.isSome=true)
  (h:C6 P (kX fn) fn.ntmps fn.results.toList args rs ans=some (rs,obs)) (aM:cn obs):gm P f args rs:=by
 obtain⟨c,ai⟩:=nY.1 ah;have vq:kX fn=c:=by simp[kX,ai]
 unfold C6 at h;rw[vq]at h;split at h
 ·rename_i st a j5 ar;rw[bF]at h;obtain⟨rb,J,h⟩:=h;simp only[a']at h;obtain⟨rfl,rfl⟩:=h;exact KL bn ai ar aM (.inl rfl) J
 ·rename_i st a j5 ar;rw[bF]at h;obtain⟨rb,J,h⟩:=h;simp only[a']at h;obtain⟨rfl,rfl⟩:=h;exact KL bn ai ar aM (.inr rfl) J
 cases h
def yr(P:Program)(body:Code)(st:aG)(ans:List bI)(cg bs:List Nat):Option (fH×aG×List Prop):=
 (run P body st ans).map fun r=>(r.1,r.2.1.eF cg bs,r.2.2.2)
variable{body:Code}{st a6:aG}{e:fH}
theorem eS.IA{ans:List bI}{cg bs:List Nat}{obs:List Prop}(h:yr P body st ans cg bs=some (e,a6,obs))(aM:cn obs):eS P body st e a6:=by
 unfold yr at h;rw[bF]at h;obtain⟨⟨bO,b6,cC,eo⟩,J,h⟩:=h;simp only[a']at h;obtain⟨rfl,rfl,rfl⟩:=h;intro w0 a w ar;exact Code.wp_mono (fun e' b4 aD ⟨J,U⟩=>⟨J,U.eF cg bs⟩) (kW body J aM w0 a w ar)
def CV(P:Program)(body:Code)(st:aG)(ans:List bI)(ns:List (Nat×Nat×Nat))(cg bs:List Nat):Option (fH×aG×List Prop):=
 (run P body st ans).bind fun r=>(qY r.2.1 ns).map fun s=>(r.1,s.eF cg bs,r.2.2.2)
theorem eS.Rl{ans:List bI}{ns:List (Nat×Nat×Nat)}{cg bs:List Nat}{obs:List Prop}(h:CV P body st ans ns cg bs=some (e,a6,obs))(aM:cn obs):eS P body st e a6:=by
 unfold CV at h;rw[jT]at h;obtain⟨⟨bO,b6,cC,eo⟩,J,h⟩:=h;rw[bF]at h;obtain⟨s,ad,h⟩:=h;simp only[a']at h;obtain⟨rfl,rfl,rfl⟩:=h;intro w0 a w ar;exact Code.wp_mono (fun e' b4 aD ⟨J,U⟩=>⟨J,(wD ad U).eF cg bs⟩) (kW body J aM w0 a w ar)
theorem dk.step{c0:aG}(ans:List bI)(cg bs:List Nat)(obs:List Prop)(h:yr P body st ans cg bs=some (.normal,c0,obs))(aM:cn obs)(U:dk P body c0 e a6):dk P body st e a6:=
 .more (eS.IA h aM) U
theorem di(i:Nat):(fH.exit i).lQ≠.normal:=fun h=>by cases h
theorem jo:fH.ret.lQ≠.normal:=fun h=>by cases h
def qZ:Code->List Code
 | .seq a b=>qZ a++qZ b
 | .cond _ a b=>qZ a++qZ b
 | .block _ b=>qZ b
 | .loop b=>b::qZ b
 | .scope b=>qZ b
 | _=>[]
def aF(fn:Func)(i:Nat):Code:=(qZ (kX fn)).getD i .skip
def q0:Code->List (Nat×Array Oper)
 | .region id ops true=>[(id,ops)]
 | .seq a b=>q0 a++q0 b
 | .cond _ a b=>q0 a++q0 b
 | .block _ b=>q0 b
 | .loop b=>q0 b
 | .scope b=>q0 b
 | _=>[]
def ev(fn:Func)(id:Nat):Array Oper:=(((q0 (kX fn)).find? fun x=>Nat.beq x.1 id).map (·.2)).getD #[]
def O2(n:Nat)(l:List (Nat×az)):List az:=l.foldl (fun e x=>e.set x.1 x.2) (List.replicate n .b5)
abbrev I(n:Int):D:=.v (.int .i64 n)
abbrev B(b:Bool):D:=.v (.bool b)
abbrev aeD(s:ByteArray):D:=.v (.string s)
end Go.Sx
namespace Go.Sx
open Go.RowKit
inductive hT (P:Program):TypeId->List D->Prop
 | bool (t:TypeId) (b:Bool) (h:P.underlying t=some .bool):hT P t [.v (.bool b)]
 | int (t:TypeId) (k:IntKind) (n:Int) (h:P.underlying t=some (.int k)) (hw:(Lit.int k n).wf=true):hT P t [.v (.int k n)]
 | str (t:TypeId) (s:ByteArray) (h:P.underlying t=some .string) (ad:s.size<=maxLen):hT P t [.v (.string s)]
 | aa (t e:TypeId) (es:List (List D)) (h:P.underlying t=some (.slice e)) (ak:es.length<=maxLen) (he:∀ds∈es,hT P e ds):hT P t [.aa (P.cellsOf e) es]
 | struct (t:TypeId) (ec:Array Field) (ds:List D) (h:P.underlying t=some (.struct ec)) (ak:ds.length=P.cellsOf t) (bn:∀f∈ec.toList,hT P f.type ((ds.drop f.offset).take (P.cellsOf f.type))):hT P t ds
def re(P:Program):Nat->List Field->Nat->Bool
 | o,[],n=>o==n
 | o,f::r,n=>f.offset==o&&re P (o+P.cellsOf f.type) r n
def q2(P:Program):Nat->TypeId->Bool
 | 0,_=>false
 | m+1,t=>
  match P.underlying t with
  | some .bool | some (.int _) | some .string=>true
  | some (.slice e)=>decide (0<P.cellsOf e)&&q2 P m e
  | some (.struct ec)=>ec.toList.all (fun f=>q2 P m f.type)&&re P 0 ec.toList (P.cellsOf t)
  | _=>false
def lN(w:World)(ds:List D)(cs:List Value):Prop:=ds.length=cs.length/\∀(i:Nat) (d:D),ds[i]?=some d->∃v,cs[i]?=some v/\jn w d v
theorem lN.one{w:World}{d:D}{v:Value}(h:jn w d v):lN w [d] [v]:=
 ⟨rfl,fun i cN ay=>by
  cases i with
  | zero=>simp at ay;subst ay;exact⟨v,rfl,h⟩
  | succ i=>simp at ay⟩
theorem lN.append{w:World}{a b:List D}{x y:List Value}(h:lN w a x)(k:lN w b y):lN w (a++b) (x++y):=by
 refine⟨by simp[h.1,k.1],fun i d ay=>?_⟩;rw[kf]at ay ⊢;rw[<-h.1];split at ay
 ·rename_i hi;rw[bb hi];exact h.2 i d ay
 rename_i hi;rw[aZ hi];exact k.2 _ d ay
theorem Eb{P:Program}:∀{fK:List Field} {o n:Nat},re P o fK n=true->o<=n/\∀f∈fK,o<=f.offset/\f.offset+P.cellsOf f.type<=n
 | [],o,n,h=>by simp[re]at h;exact⟨by omega,fun f bn=>by cases bn⟩
 | f::r,o,n,h=>by
  simp only[re,b0,fR]at h;obtain⟨J,U⟩:=Eb h.2;refine⟨by omega,fun g ag=>?_⟩;rcases dj.1 ag with rfl | ag
  ·exact⟨by omega,by omega⟩
  have:=U g ag;exact⟨by omega,this.2⟩
theorem No{P:Program}{w:World}{cs:List Value}:∀{fK:List Field} {o:Nat},re P o fK cs.length=true->
  (∀f∈fK,∃ds,hT P f.type ds/\lN w ds ((cs.drop f.offset).take (P.cellsOf f.type)))->
  ∃ds,lN w ds (cs.drop o)/\∀f∈fK,hT P f.type ((ds.drop (f.offset-o)).take (P.cellsOf f.type))
 | [],o,h,_=>by
  simp only[re,fR]at h;subst h;exact⟨[],⟨by simp,fun i d ay=>by simp at ay⟩,fun f bn=>by cases bn⟩
 | f::r,o,h,bn=>by
  have hle:=Eb h;simp only[re,b0,fR]at h;obtain⟨bX,h⟩:=h;obtain⟨ds,J,U⟩:=No h fun g ag=>bn g (by simp[ag])
  obtain⟨d0,ax,aJ⟩:=bn f (by simp);have HH:d0.length=P.cellsOf f.type:=by
   rw[aJ.1];have:=(hle.2 f (by simp)).2;simp;omega
  refine⟨d0++ds,?_,?_⟩
  ·have:cs.drop o=(cs.drop f.offset).take (P.cellsOf f.type)++cs.drop (o+P.cellsOf f.type):=by
    rw[bX,<-List.drop_drop];exact (AD _ _).symm
   rw[this];exact aJ.append J
  intro g ag;rcases dj.1 ag with rfl | ag
  ·rw[bX,Nat.sub_self,rn,Oz (by omega),sY (by omega)];exact ax
  have afm:=U g ag;have:=(Eb h).2 g ag;rw[List.drop_append,List.drop_eq_nil_of_le (show d0.length<=g.offset-o by omega),List.nil_append,HH];rwa[show g.offset-o-P.cellsOf f.type=g.offset-(o+P.cellsOf f.type) by omega]
section
variable {H : Type} {enc : TypeId × Value -> H} {P : Program} {w : World} {base : Nat} {held : Bool}
theorem y2{a:Addr}{k:Nat}{cs:List Value}(h:w.cells? base a k=some cs):cs.length=k/\∀i,i<k->w.cell? (a.add i)=cs[i]?:=by
 unfold World.cells? at h;split at h
 ·exact⟨by simpa using mapM_some_length h,fun i hi=>mapM_some_get h i i (by simp[hi])⟩
 cases h
theorem Ec{a:Addr}{v:Value}(h:w.cell? a=some v):∃arr ty cj,w.heap[a.block]?=some (.cells arr ty cj)/\a.spot=none/\arr[a.off]?=some v:=by
 unfold World.cell? at h;split at h
 ·rename_i arr ty cj e;split at h
  ·cases h
  rename_i ad;refine⟨arr,ty,cj,e,?_,h⟩;cases B9:a.spot with
  | none=>rfl
  | some x=>simp[B9]at ad
 cases h
theorem Ed:∀(m:Nat) (t:TypeId) (fL:Nat) (cs:List Value) (x:DataW H×List MemPlace),q2 P m t=true->DataW.trod enc P w base (fun _=>true) held fL t cs=some x->
  ∃ds,hT P t ds/\lN w ds cs
 | 0,_,_,_,_,h,_=>by cases h
 | m+1,t,fL,cs,x,ad,h=>by
  unfold q2 at ad;split at ad
  ·rename_i hu;obtain⟨b,rfl,_⟩:=DataW.trod_bool hu h;exact⟨_,.bool t b hu,.one (.v _ _ rfl)⟩
  ·rename_i k hu;obtain⟨n,rfl,_,hw⟩:=DataW.trod_int hu h;exact⟨_,.int t k n hu hw,.one (.v _ _ rfl)⟩
  ·rename_i hu;obtain⟨s,rfl,_,hw⟩:=DataW.trod_string hu h;exact⟨_,.str t s hu hw,.one (.v _ _ rfl)⟩
  ·rename_i e hu;simp only[b0,cF]at ad;obtain⟨jL,vI⟩:=ad;rcases DataW.trod_slice hu h with⟨rfl,_⟩ | ⟨a,len,cap,Hb,rest,n,_,rfl,_,_,ak,ai,hlen,tr,B9,_⟩
   ·exact⟨_,.aa t e [] hu (by simp) (fun ds dM=>by cases dM),.one (.nil _ _ _)⟩
   obtain⟨HX,HW⟩:=B9 rfl;generalize fq:P.cellsOf e=k at*;have gI:∀i,i<cap->∃cs,w.cells? base (a.add (i*k)) k=some cs/\∃x,DataW.trod enc P w base (fun _=>true) held n e cs=some x:=by
    intro i hi;by_cases jK:i<len
    ·have:=tr i jK;obtain⟨y,a7⟩:∃y,Hb[i]?=some y:=⟨Hb[i],iM (by omega)⟩
     rw[a7,jT]at this;obtain⟨cs,J,U⟩:=this;exact⟨cs,J,y,U⟩
    have:=HW (i-len) (by omega);rw[show len+(i-len)=i by omega]at this;obtain⟨y,a7⟩:∃y,rest[i-len]?=some y:=⟨rest[i-len],iM (by omega)⟩
    rw[a7,jT]at this;obtain⟨cs,J,U⟩:=this;exact⟨cs,J,y,U⟩
   by_cases e4:cap=0
   ·subst e4;have:len=0:=by omega
    subst this;have:=hT.aa (P:=P) t e [] hu (by simp) (fun ds dM=>by cases dM);exact⟨_,this,.one (.nil _ _ _)⟩
   have PR:∀i,∃ds,i<len->hT P e ds/\∃cs,w.cells? base (a.add (i*k)) k=some cs/\lN w ds cs:=by
    intro i;by_cases hi:i<len
    ·obtain⟨cs,J,x,U⟩:=gI i (by omega);obtain⟨ds,ax,aJ⟩:=Ed m e n cs x vI U;exact⟨ds,fun _=>⟨ax,cs,J,aJ⟩⟩
    exact⟨[],fun h=>absurd h hi⟩
   obtain⟨f,bn⟩:=Classical.skolem.1 PR;obtain⟨da,vp,_⟩:=gI (cap-1) (by omega);obtain⟨afd,PC⟩:=y2 vp;have qv:=PC (k-1) (by omega);obtain⟨aga,Cc⟩:∃v,da[k-1]?=some v:=⟨da[k-1],iM (by omega)⟩
   rw[Cc]at qv;obtain⟨b,off,spot⟩:=a;have QJ:spot=none:=by
    obtain⟨dH,Pv,_⟩:=gI 0 (by omega);obtain⟨afb,Pw⟩:=y2 Pv;have bX:=Pw 0 jL;obtain⟨v0,yh⟩:∃v,dH[0]?=some v:=⟨dH[0],iM (by omega)⟩
    rw[yh]at bX;obtain⟨_,_,_,_,J,_⟩:=Ec bX;simpa[Addr.add]using J
   subst QJ;obtain⟨arr,ty,cj,ah,_,qv⟩:=Ec qv;simp only[nO]at ah qv;have dN:off+cap*k<=arr.size:=by
    have J:=(hB.1 qv).1;have U:cap*k=(cap-1)*k+k:=by rw[<-Nat.succ_mul];congr 1;omega
    omega
   have x3:((List.range len).map f).length=len:=by simp
   have gr:∀i j d,cq ((List.range len).map f) i j=some d->i<len/\(f i)[j]?=some d:=by
    intro i j d ay;unfold cq at ay;rw[dG]at ay;by_cases hi:i<len
    ·rw[List.getElem?_range hi]at ay;exact⟨hi,by simpa using ay⟩
    rw[List.getElem?_eq_none (by simpa using hi)]at ay;simp at ay
   have ee:∀i j d,cq ((List.range len).map f) i j=some d->∃u,arr[off+i*k+j]?=some u/\jn w d u:=by
    intro i j d ay;obtain⟨hi,aU⟩:=gr i j d ay;obtain⟨_,cs,J,U⟩:=bn i hi;obtain⟨PB,po⟩:=y2 J;obtain⟨u,hG,ar⟩:=U.2 j d aU;have vx:j<k:=by rw[<-PB];exact (eJ.1 hG).1
    have:=po j vx;rw[hG]at this;obtain⟨hD,hO,A7,dX,_,ae⟩:=Ec this;simp only[nO]at dX ae;rw[ah]at dX;cases dX;exact⟨u,ae,ar⟩
   have yb:bA w (fun _=>.bc) Tag.free.R (.aa k ((List.range len).map f)) (.slice (some ⟨b,off,none⟩) ((List.range len).map f).length cap):=by
    refine .row _ k _ b off cap arr ty cj (fun i j=>arr.getD (off+i*k+j) undef) ah rfl (by omega) dN ?_ ?_ ?_
    ·intro e' he;obtain⟨i,hi,rfl⟩:=eC.1 he;obtain⟨_,cs,J,U⟩:=bn i (by simpa using hi);rw[U.1];exact (y2 J).1
    ·intro i j d ay;obtain⟨u,J,_⟩:=ee i j d ay;rw[J];simp[dF,J]
    intro i j d ay;obtain⟨u,J,U⟩:=ee i j d ay;have:arr.getD (off+i*k+j) undef=u:=by simp[dF,J]
    rw[this];exact U
   rw[x3]at yb;have l6:=hT.aa (P:=P) t e ((List.range len).map f) hu (by rw[x3];omega);rw[fq]at l6;refine⟨_,l6 ?_,.one yb⟩;intro ds dM;obtain⟨i,hi,rfl⟩:=eC.1 dM;exact (bn i (by simpa using hi)).1
  ·rename_i ec hu;simp only[b0,eP]at ad;obtain⟨kH,qx⟩:=ad;obtain⟨xs,n,_,_,ak,eU,bn⟩:=DataW.trod_struct hu h;rw[<-ak]at qx;obtain⟨ds,J,U⟩:=No (w:=w) qx fun f Hz=>by
    obtain⟨i,hi⟩:=mA.1 Hz;have:=bn i f (by simpa using hi);have kD:i<xs.length:=by rw[eU];have:=(eJ.1 hi).1;simpa using this
    rw[iM kD]at this;exact Ed m f.type n _ _ (kH f Hz) this
   rw[rn]at J;exact⟨ds,.struct t ec ds hu (by rw[J.1,ak]) (by simpa using U),J⟩
  cases ad
end
end Go.Sx
namespace Go.Sx
open Go.ChangeShapes Go.WideShapes Go.ChangeAt Go.RowKit Go.Joins
def o3(P:Program)(t:TypeId):Bool:=match P.underlying t with | some (.struct _)=>true | _=>false
def xz(P:Program)(t:TypeId):b7->Prop
 | .one d=>hT P t [d]/\o3 P t=false
 | .agg ds=>hT P t ds/\o3 P t=true
def xA(P:Program):List TypeId->List b7->Prop
 | [],[]=>True
 | t::ts,a::as=>xz P t a/\xA P ts as
 | _,_=>False
section
variable {H : Type} {enc : TypeId × Value -> H} {P : Program} {w : World} {base cm : Nat} {held : Bool} {r : Reach}
theorem Sj{t:TypeId}{v:Value}{d:DataW H}{b':List MemPlace}(ad:q2 P 20 t=true)(fs:Value.okWide P w r cm t v)(h:DataW.Trod enc P w base (fun _=>true) held t v d b'):
  ∃bT,xz P t bT/\rr w bT v:=by
 obtain⟨fL,bn⟩:=h;obtain⟨ds,J,U⟩:=Ed 20 t fL _ _ ad bn;have one:(∀cs,v≠.agg cs)->o3 P t=false->∃bT,xz P t bT/\rr w bT v:=by
  intro a8 aC;have ai:v.cells.toList=[v]:=by
   cases v<;>first | rfl | (exact absurd rfl (a8 _))
  rw[ai]at U
  match ds,J,U with
  | [d],J,U=>
   obtain⟨u,hu,ar⟩:=U.2 0 d rfl;simp at hu;subst hu;exact⟨.one d,⟨J,aC⟩,ar⟩
  | [],_,U=>simp[lN]at U
  | _::_::_,_,U=>simp[lN]at U
 rw[show (20:Nat)=19+1 from rfl]at ad;unfold q2 at ad;unfold Value.okWide at fs;split at ad
 ·rename_i hu;rw[hu]at fs;refine one (fun cs e=>?_) (by simp[o3,hu]);subst e;simp[Cell.okWide,Cell.ok,hu]at fs
 ·rename_i hu;rw[hu]at fs;refine one (fun cs e=>?_) (by simp[o3,hu]);subst e;simp[Cell.okWide,Cell.ok,hu]at fs
 ·rename_i hu;rw[hu]at fs;refine one (fun cs e=>?_) (by simp[o3,hu]);subst e;simp[Cell.okWide,Cell.ok,hu]at fs
 ·rename_i hu;rw[hu]at fs;refine one (fun cs e=>?_) (by simp[o3,hu]);subst e;simp[Cell.okWide,Cell.ok,hu]at fs
 ·rename_i hu;rw[hu]at fs;obtain⟨cs,rfl,_,_⟩:=fs;refine⟨.agg ds,⟨J,by simp[o3,hu]⟩,cs,rfl,by have:=U.1;simpa[Value.cells]using this.symm,fun i d ay=>?_⟩;obtain⟨u,hG,ar⟩:=U.2 i d ay;exact⟨u,by simpa[Value.cells]using hG,ar⟩
 cases ad
theorem KM:∀(ts:List TypeId) (vs:List Value) (ds:List (DataW H)) (b':List MemPlace),ts.all (q2 P 20)=true->(∀(j:Nat) t v,ts[j]?=some t->vs[j]?=some v->Value.okWide P w r cm t v)->
  DataW.TrodAll enc P w base (fun _=>true) held ts vs ds b'->∃e1,xA P ts e1/\vs.length=e1.length/\∀(i:Nat) (bT:b7),e1[i]?=some bT->∃v,vs[i]?=some v/\rr w bT v
 | [],[],[],_,_,_,_=>⟨[],aj,rfl,fun i bT h=>by simp at h⟩
 | t::ts,v::vs,d::ds,b',ad,fs,h=>by
  obtain⟨p,q,J,U,_⟩:=h;simp only[List.all_cons,b0]at ad;obtain⟨bT,Pj,vm⟩:=Sj ad.1 (fs 0 t v rfl rfl) J;obtain⟨e1,ax,aJ,a1⟩:=KM ts vs ds q ad.2 (fun j t v bH a8=>fs (j+1) t v (by simpa using bH) (by simpa using a8)) U;refine⟨bT::e1,⟨Pj,ax⟩,by simp[aJ],fun i k6 hi=>?_⟩;cases i with
  | zero=>simp at hi;subst hi;exact⟨v,rfl,vm⟩
  | succ i=>simpa using a1 i k6 (by simpa using hi)
 | [],_::_,_,_,_,_,h=>by simp[DataW.TrodAll]at h
 | [],[],_::_,_,_,_,h=>by simp[DataW.TrodAll]at h
 | _::_,[],_,_,_,_,h=>by simp[DataW.TrodAll]at h
 | _::_,_::_,[],_,_,_,h=>by simp[DataW.TrodAll]at h
theorem JY{H:Type}{enc:TypeId×Value->H}{P:Program}(ak:laidOutB P=true){W uV:World}(ah:Below W.heap.size W uV):
  ∀(ts:List TypeId) (vs:List Value) (ds:List (DataW H)) (b':List MemPlace),ts.all (fun t=>P.readableRec t&&decide (t<P.types.size))=true->
   DataW.TrodAll enc P W 0 (fun _=>true) true ts vs ds b'->(∀x∈b',x.block<W.heap.size)->
   DataW.TrodAll enc P uV 0 (fun b=>decide (b<W.heap.size)) true ts vs ds b'
 | [],vs,ds,b',_,h,_=>by
  obtain⟨rfl,rfl,rfl⟩:=trodAll_nil h;exact trodAll_mk0
 | t::ts,vs,ds,b',bH,h,bk=>by
  obtain⟨v,ad9,d,pb,p,q,rfl,rfl,rfl,bX,ar⟩:=trodAll_cons h;simp only[List.all_cons,b0,cF]at bH;exact trodAll_cons_mk (Below.trod ak bH.1.1 bH.1.2 bX ah (fun x ae=>bk x (gl _ ae)))
   (JY ak ah ts ad9 pb q bH.2 ar (fun x ae=>bk x (gQ _ ae)))
theorem JZ:∀(ts:List TypeId) (vs:List Value) (ds:List (DataW H)) (b':List MemPlace),DataW.TrodAll enc P w base (fun _=>true) held ts vs ds b'->ds.length=ts.length
 | [],[],[],_,_=>rfl
 | t::ts,v::vs,d::ds,b',h=>by
  obtain⟨p,q,_,U,_⟩:=h;simp[JZ ts vs ds q U]
 | [],_::_,_,_,h=>by simp[DataW.TrodAll]at h
 | [],[],_::_,_,h=>by simp[DataW.TrodAll]at h
 | _::_,[],_,_,h=>by simp[DataW.TrodAll]at h
 | _::_,_::_,[],_,h=>by simp[DataW.TrodAll]at h
theorem Sk(ak:laidOutB P=true){f:Func}{fno:Nat}{s:ChangeSpec}{tb:TypeId}(dS:f.resultTypes=#[tb])(ah:P.underlying tb=some .bool)
  (hp:f.params.toList.all (fun t=>P.readableRec t&&decide (t<P.types.size))=true) (ek:f.params.toList.all (q2 P 20)=true) (H5:s.vars=[])
  {W:World} {args:Array Value} {ds gs:List (DataW H)} {before:List MemPlace} (fs:∀(j:Nat) t v,f.params[j]?=some t->args[j]?=some v->Value.okWide P W r cm t v)
  (vl:DataW.Whole enc P f.params.toList s.vars false W args.toList ds gs before)
  (ad:ds.length=f.params.size->(s.fn H ds).results=[.lit (.bool true)]/\(s.fn H ds).args=ds/\(s.fn H ds).vars=[])
  (pA:mK W) (Qe:∀e1,xA P f.params.toList e1->gm P fno e1 [.one (B true)]):
  Calls P fno args W fun e uV=>∃v,e=.returned v/\s.post enc P f false true false false W args v uV:=by
 have Ph:=vl;have bk:=vl.lt;obtain⟨p,q,vj,Hm,rfl,BJ,afy⟩:=vl;rw[H5]at Hm;obtain⟨rfl,rfl⟩:=trodVars_none Hm;obtain⟨J,U,ax⟩:=ad (by have:=JZ _ _ _ _ vj;simpa using this);obtain⟨e1,QH,hlen,cb⟩:=KM _ _ _ _ ek (fun j t v bH a8=>fs j t v (by simpa using bH) (by simpa using a8)) vj;refine (Qe e1 QH W args pA ⟨by simpa using hlen,fun i bT hi=>by simpa using cb i bT hi⟩).mono ?_;rintro e uV ⟨v,rfl,n9,ar⟩;have a8:v=.bool true:=by
  obtain⟨ω,_,_,h⟩:=ar;simp only[j7,jP]at h;cases h;rfl
 subst a8;refine⟨_,rfl,ds,[],p++[],[],p,[],Ph,?_,?_,?_,n9.below.frame _,fun h=>by cases h⟩
 ·rw[ja,J,dS];exact trodAll_mk1 (shut_bool ah true)
 ·rw[ja,U];exact JY ak n9.below _ _ _ _ hp vj (fun x ae=>bk x (by simpa using ae))
 rw[ja,ax,H5];rfl
end
