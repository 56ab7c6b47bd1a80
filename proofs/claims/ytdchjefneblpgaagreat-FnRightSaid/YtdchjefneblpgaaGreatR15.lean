import Derived.Test.YtdchjefneblpgaaGreatR13
import Derived.LoopN
import Derived.ChangeMaps5
import Derived.ChangeSame
import Derived.ChangeStays
import Derived.ProofKit
import Derived.Lib.SmallJoins
set_option linter.unusedVariables false
set_option linter.unusedSimpArgs false
namespace Go.Sx
open Go.RowKit
def hA.pe:hA->Exit
 | .normal=>.normal
 | .exit id=>.exit id
 | .ret=>.ret
def Rv(w0:eN)(e:hA)(st:aD):Exit->Act->World->Prop:=fun e' a w=>e'=e.pe/\Rel w0 st a w
def gi(P:Program)(c:Code)(st:aD)(e:hA)(bB:aD):Prop:=∀w0 a w,Rel w0 st a w->c.wp P (Rv w0 e bB) a w
def cN(P:Program)(c:Code)(st:aD)(e:hA)(bB:aD):Prop:=∃n,∀w0 a w,Rel w0 st a w->Code.rounds P c (Rv w0 e bB) n a w
variable{P:Program}{st bB:aD}
theorem cN.last{c:Code}{e:hA}(he:e.pe≠.normal)(h:gi P c st e bB):cN P c st e bB:=
 ⟨1,fun w0 a w aB=>Code.wp_mono (fun e' cJ aM ⟨h1,U⟩=>by
  subst h1;cases e with
  | normal=>exact absurd rfl he
  | exit id=>exact⟨rfl,U⟩
  | ret=>exact⟨rfl,U⟩) (h w0 a w aB)⟩
theorem cN.more{c:Code}{st1:aD}{e:hA}(h:gi P c st .normal st1)(U:cN P c st1 e bB):cN P c st e bB:=by
 obtain⟨n,aP⟩:=U;refine⟨n+1,fun w0 a w aB=>Code.wp_mono (fun e' cJ aM ⟨h1,aA⟩=>?_) (h w0 a w aB)⟩;subst h1;exact aP w0 cJ aM aA
def wy(cS:List Nat):Nat->List aH->List aH
 | _,[]=>[]
 | i,p::r=>(if cS.contains i then p else .cu)::wy cS (i+1) r
theorem Vk(cS:List Nat):∀(l:List aH) (i j:Nat),(wy cS i l)[j]?=(l[j]?).map fun p=>if cS.contains (i+j) then p else .cu
 | [],_,_=>by simp[wy]
 | p::r,i,0=>by simp[wy]
 | p::r,i,j+1=>by
  simp only[wy,p3,Vk cS r (i+1) j];rw[show i+1+j=i+(j+1) by omega]
theorem Vl(cS:List Nat):∀(l:List aH) (i:Nat),(wy cS i l).length=l.length
 | [],_=>rfl
 | p::r,i=>by simp[wy,Vl cS r]
def yu(bs:List Nat):List (Nat×List aG)->List (Nat×List aG)
 | []=>[]
 | (i,ls)::r=>if bs.contains i then (i,ls)::yu bs r else yu bs r
theorem Mu(bs:List Nat)(id:Nat):∀(l:List (Nat×List aG)) (ls:List aG),dI id (yu bs l)=some ls->dI id l=some ls
 | [],_,h=>by cases h
 | (i,fR)::r,ls,h=>by
  simp only[yu]at h;simp only[dI];split at h
  ·simp only[dI]at h;split at h
   ·grind
   rename_i hi;rw[bq hi];exact Mu bs id r ls h
  rename_i al;have:=Mu bs id r ls h;split
  ·rename_i hi;subst hi;exfalso;have iU:∀(r:List (Nat×List aG)),dI i (yu bs r)=none:=by
    intro r;induction r with
    | nil=>rfl
    | cons x r dL=>
     obtain⟨fM,gO⟩:=x;simp only[yu];split
     ·rename_i aa;simp only[dI];grind
     exact dL
   grind
  exact this
def Gq:aG->aG
 | .v (.bool b)=>.bR b
 | l=>l
variable{w:World}
theorem Vm{ω:Own}{τ:Nat->Nat×Value}(l:aG)(v:Value)(h:Sat w ω τ l v):Sat w ω τ (Gq l) v:=by
 unfold Gq;split
 ·exact h
 exact h
def aD.eU(st:aD)(cS bs:List Nat):aD:=⟨(wy cS 0 st.env).map (aH.map Gq),(yu bs st.boxes).map fun x=>(x.1,x.2.map Gq)⟩
variable{w0:eN}{a:Act}
theorem Rel.eU(h:Rel w0 st a w)(cS bs:List Nat):Rel w0 (st.eU cS bs) a w:=by
 obtain⟨ω,τ,h⟩:=h;refine⟨ω,τ,h.defers,by simp[aD.eU,Vl,h.size],h.below,h.owned,h.fixed,h.pinned,?_,?_⟩
 ·intro i p hp;simp only[aD.eU]at hp;rw[eg,b5]at hp;obtain⟨jm,hp,rfl⟩:=hp;rw[Vk,b5]at hp;obtain⟨ux,hp,rfl⟩:=hp;obtain⟨v,h1,U⟩:=h.env i ux hp;refine⟨v,h1,cT.map Vm ?_⟩;split
  ·exact U
  exact trivial
 intro id ls aj;simp only[aD.eU]at aj;rw[uM,b5]at aj;obtain⟨kh,aj,rfl⟩:=aj;obtain⟨b,arr,ty,h1,U,aA,aI⟩:=h.boxes id kh (Mu bs id _ _ aj);exact⟨b,arr,ty,h1,U,aA,aI.map Vm⟩
def Mv(st:aD)(id j t k:Nat):Option aD:=
 match dI id (st.ki t []).boxes with
 | some ls=>
  match ls[j]? with
  | some (.v (.slice none 0 0))=>if t<dj then some ⟨(st.ki t []).env,rR id (ls.set j (.J (.own t) k [])) (st.ki t []).boxes⟩ else none
  | _=>none
 | none=>none
def Mw(st:aD)(id j t:Nat):Option aD:=
 match dI id st.boxes with
 | some kh=>
  match kh[j]? with
  | some (.J (.own hj) cf es)=>
   if t<dj then
    let st1:=st.map (aG.cG (lz hj t) fun _=>true)
    match dI id st1.boxes with
    | some ls=>some ⟨st1.env,rR id (ls.set j (.J (.own t) cf es)) st1.boxes⟩
    | none=>none
   else none
  | _=>none
 | none=>none
def wz(st:aD):List (Nat×Nat×Nat)->Option aD
 | []=>some st
 | (s,t,k)::r=>
  if 1000000<=s then
   (match Mw st (s / 1000000-1) (s % 1000000) t with
   | some st1=>some st1
   | none=>Mv st (s / 1000000-1) (s % 1000000) t k).bind fun st1=>wz st1 r else
  match (st.env.getD s .cu).leaf with
  | some (.v (.slice none 0 0))=>if t<dj then wz ⟨(st.ki t []).env.set s (.one (.J (.own t) k [])),(st.ki t []).boxes⟩ r else none
  | some (.J (.own hj) cf es)=>
   if t<dj then wz ⟨(st.map (aG.cG (lz hj t) fun _=>true)).env.set s (.one (.J (.own t) cf es)),(st.map (aG.cG (lz hj t) fun _=>true)).boxes⟩ r else none
  | _=>none
theorem cD.RE{ω:Own}{τ:Nat->Nat×Value}(h:cD w0 st a w ω τ){s:Nat}{l:aG}(aj:(st.env.getD s .cu).leaf=some l)(cU:l≠.cu):∃v,a.tmps[s]?=some v/\Sat w ω τ l v:=by
 rw[lZ]at aj;cases e:st.env[s]? with
 | none=>grind[aH.leaf,aX,absurd]
 | some p=>
  rw[e]at aj;obtain⟨v,h1,U⟩:=h.env s p e;grind[aH.dX]
theorem Vn{s:Nat}{v:Value}(h:a.tmps[s]?=some v):a.put (some s) v=a:=by
 simp only[Act.put];have:a.tmps.setIfInBounds s v=a.tmps:=by
  grind
 rw[this]
theorem ax4{id j t k:Nat}(h:Mv st id j t k=some bB)(aB:Rel w0 st a w):Rel w0 bB a w:=by
 obtain⟨ω,τ,aB⟩:=aB;unfold Mv at h;split at h
 ·rename_i ls aq;split at h
  ·rename_i a8;split at h
   ·rename_i jM;simp only[aX]at h;subst h;obtain⟨bc,h1,U⟩:=aB.LS t k jM;refine⟨bc,_,h1.defers,h1.size,h1.below,h1.owned,h1.fixed,h1.pinned,h1.env,fun iV fJ aj=>?_⟩;by_cases hD:iV=id
    ·subst hD;rw[AF aq]at aj;cases aj;obtain⟨b,arr,ty,e1,e2,cx,eD⟩:=h1.boxes iV ls aq;refine⟨b,arr,ty,e1,e2,cx,by rw[eD.1,iN],fun i l hi=>?_⟩;rw[o3]at hi;split at hi
     ·rename_i oG;subst oG;split at hi
      ·cases hi;obtain⟨u,ha,fH⟩:=eD.2 j _ a8;have aDt:u=.slice none 0 0:=fH;grind
      cases hi
     exact eD.2 i l hi
    rw[AG hD]at aj;exact h1.boxes iV fJ aj
   cases h
  cases h
 cases h
theorem ax5{id j t:Nat}(h:Mw st id j t=some bB)(aB:Rel w0 st a w):Rel w0 bB a w:=by
 obtain⟨ω,τ,aB⟩:=aB;unfold Mw at h;split at h
 case h_2=>cases h
 rename_i kh iq;split at h
 case h_2=>cases h
 rename_i hj cf es a8;split at h
 case isFalse=>cases h
 rename_i jM;simp only at h;split at h
 case h_2=>cases h
 rename_i ls aq;simp only[aX]at h;subst h;obtain⟨ch,vf,wQ,aCn,aCo,aCp,acp⟩:=aB.boxes id kh iq;obtain⟨v,bD,ai⟩:=acp.2 j _ a8;have h1:cD w0 (st.map (aG.cG (lz hj t) fun _=>true)) a w (fun b=>kE hj t 0 (ω b)) (gU τ t cf v):=
  aB.dG _ (Nn jM).sat aB.below (fun b aq=>aB.owned b (Nl aq)) (fun id b aq=>⟨wu.2 aq,rfl⟩) (fun id b aq=>wu.1 aq)
   (fun du bG=>by simp only[gU];grind)
 have U:Sat w (fun b=>kE hj t 0 (ω b)) (gU τ t cf v) (.J (.own t) cf es) v:=⟨ai.1.frame fun b q _ aC=>⟨by
  simp only[Tag.R]at aC ⊢;rw[aC];cases q with
  | nil=>simp[kE]
  | cons x q=>grind[kE],rfl⟩,by simp[Tag.ev,gU]⟩
 refine⟨_,_,h1.defers,h1.size,h1.below,h1.owned,h1.fixed,h1.pinned,h1.env,fun iV fJ aj=>?_⟩;by_cases hD:iV=id
 ·subst hD;rw[AF aq]at aj;cases aj;obtain⟨b,arr,ty,e1,e2,cx,eD⟩:=h1.boxes iV ls aq;refine⟨b,arr,ty,e1,e2,cx,by rw[eD.1,iN],fun i l hi=>?_⟩;rw[o3]at hi;split at hi
  ·rename_i oG;subst oG;split at hi
   ·cases hi;have vw:b=ch:=by
     have iS:ω b=.box iV:=wu.1 e1;grind
    grind
   cases hi
  exact eD.2 i l hi
 rw[AG hD]at aj;exact h1.boxes iV fJ aj
theorem C9:∀{ns:List (Nat×Nat×Nat)} {st bB:aD},wz st ns=some bB->Rel w0 st a w->Rel w0 bB a w
 | [],st,bB,h,aB=>by grind[wz,aX]
 | (s,t,k)::r,st,bB,h,aB=>by
  simp only[wz]at h;split at h
  ·rw[nM]at h;obtain⟨st1,h1,h⟩:=h;refine C9 h ?_;split at h1
   ·rename_i st2 U;cases h1;exact ax5 U aB
   exact ax4 h1 aB
  split at h
  ·rename_i aj;obtain⟨ω,τ,aB⟩:=aB;obtain⟨v,bD,ai⟩:=aB.RE aj (by simp);have:v=.slice none 0 0:=ai;subst this;split at h
   case isFalse=>cases h
   rename_i jM;obtain⟨bc,h1,U⟩:=aB.LS t k jM;have aA:=h1.put (d:=s) (p:=.one (.J (.own t) k [])) U;rw[Vn bD]at aA;exact C9 h ⟨bc,_,aA⟩
  ·rename_i hj cf es aj;obtain⟨ω,τ,aB⟩:=aB;obtain⟨v,bD,ai⟩:=aB.RE aj (by simp);split at h
   case isFalse=>cases h
   rename_i jM;have h1:cD w0 (st.map (aG.cG (lz hj t) fun _=>true)) a w (fun b=>kE hj t 0 (ω b)) (gU τ t cf v):=
    aB.dG _ (Nn jM).sat aB.below (fun b aq=>aB.owned b (Nl aq)) (fun id b aq=>⟨wu.2 aq,rfl⟩) (fun id b aq=>wu.1 aq)
     (fun du bG=>by simp only[gU];grind)
   have aA:=h1.put (d:=s) (p:=.one (.J (.own t) cf es)) (v:=v) ⟨ai.1.frame fun b q _ aC=>⟨by
    simp only[Tag.R]at aC ⊢;rw[aC];cases q with
    | nil=>simp[kE]
    | cons x q=>grind[kE],rfl⟩,by simp[Tag.ev,gU]⟩
   rw[Vn bD]at aA;exact C9 h ⟨_,_,aA⟩
  cases h
abbrev ab5:=Option (hA×aD×List cb×List Prop)
def run(P:Program):Code->aD->List cb->ab5
 | .skip,st,ans=>some (.normal,st,ans,[])
 | .label _,st,ans=>some (.normal,st,ans,[])
 | .region _ ops draw,st,ans=>if draw then (Mt P ops st ans).map fun r=>(.normal,r.1,r.2.1,r.2.2) else (yq P ops ops.toList st ans).map fun r=>(.normal,r.1,r.2.1,r.2.2)
 | .seq a b,st,ans=>
  match run P a st ans with
  | some (.normal,st1,fy,gn)=>(run P b st1 fy).map fun r=>(r.1,r.2.1,r.2.2.1,gn++r.2.2.2)
  | some (e,st1,fy,gn)=>some (e,st1,fy,gn)
  | none=>none
 | .cond c x y,st,ans=>
  match (st.bp c).leaf,ans with
  | some (.v (.bool true)),ans=>run P x st ans
  | some (.v (.bool false)),ans=>run P y st ans
  | some (.bR c),.qa true::r=>(run P x st r).map fun r=>(r.1,r.2.1,r.2.2.1,(c=true)::r.2.2.2)
  | some (.bR c),.qa false::r=>(run P y st r).map fun r=>(r.1,r.2.1,r.2.2.1,(c=false)::r.2.2.2)
  | _,_=>none
 | .block id body,st,ans=>
  match run P body st ans with
  | some (.exit i,st1,fy,gn)=>some (if i=id then .normal else .exit i,st1,fy,gn)
  | r=>r
 | .loop body,st,ans=>
  match ans with
  | .loop Gp cS bs e bB::r=>
   match e,wz st Gp with
   | .normal,_=>none
   | e,some st1=>some (e,bB,r,[cN P body (st1.eU cS bs) e bB])
   | _,none=>none
  | _=>none
 | .exit id,st,ans=>some (.exit id,st,ans,[])
 | .ret,st,ans=>some (.ret,st,ans,[])
 | _,_,_=>none
theorem oQ:∀(c:Code) {st bB:aD} {ans cq:List cb} {obs:List Prop} {e:hA},run P c st ans=some (e,bB,cq,obs)->c8 obs->gi P c st e bB
 | .skip,st,bB,ans,cq,obs,e,h,aW=>by
  simp only[run,aX,bH]at h;obtain⟨rfl,rfl,_,_⟩:=h;exact fun w0 a w aB=>wp_skip ⟨rfl,aB⟩
 | .label l,st,bB,ans,cq,obs,e,h,aW=>by
  simp only[run,aX,bH]at h;obtain⟨rfl,rfl,_,_⟩:=h;exact fun w0 a w aB=>wp_label ⟨rfl,aB⟩
 | .region id ops draw,st,bB,ans,cq,obs,e,h,aW=>by
  simp only[run]at h;split at h
  ·rename_i aF;rw[b5]at h;obtain⟨⟨b4,cQ,dz⟩,h1,h⟩:=h;simp only[bH]at h;obtain⟨rfl,rfl,rfl,rfl⟩:=h;subst aF;exact fun w0 a w aB=>ax3 h1 aW aB fun cJ aM h=>⟨rfl,h⟩
  rename_i aF;rw[b5]at h;obtain⟨⟨b4,cQ,dz⟩,h1,h⟩:=h;simp only[bH]at h;obtain⟨rfl,rfl,rfl,rfl⟩:=h;have:draw=false:=by grind
  subst this;exact fun w0 a w aB=>wp_region_list (MO _ h1 aW aB fun cJ aM h=>⟨rfl,h⟩)
 | .seq x y,st,bB,ans,cq,obs,e,h,aW=>by
  simp only[run]at h;split at h
  ·rename_i st1 fy gn h1;rw[b5]at h;obtain⟨⟨b4,cQ,dz,gz⟩,U,h⟩:=h;simp only[bH]at h;obtain⟨rfl,rfl,rfl,rfl⟩:=h;obtain⟨dt,dm⟩:=aW.append;intro w0 a w aB;refine wp_seq (Code.wp_mono (fun e' cJ aM hp=>?_) (oQ x h1 dt w0 a w aB));obtain⟨rfl,eX⟩:=hp;exact oQ y U dm w0 cJ aM eX
  ·rename_i e1 st1 fy gn cU h1;simp only[aX,bH]at h;obtain⟨rfl,rfl,rfl,rfl⟩:=h;intro w0 a w aB;refine wp_seq (Code.wp_mono (fun e' cJ aM hp=>?_) (oQ x h1 aW w0 a w aB));obtain⟨rfl,eX⟩:=hp;cases e1 with
   | normal=>grind
   | exit i=>exact⟨rfl,eX⟩
   | ret=>exact⟨rfl,eX⟩
  cases h
 | .cond c x y,st,bB,ans,cq,obs,e,h,aW=>by
  intro w0 a w aB;have rC:=aB;obtain⟨ω,τ,eX⟩:=rC;have eT:=eX.bp c;simp only[run]at h;split at h
  ·rename_i aj;have:a.eval c=.bool true:=aH.dX aj eT;exact wp_cond_true this (oQ x h aW w0 a w aB)
  ·rename_i aj;have:a.eval c=.bool false:=aH.dX aj eT;exact wp_cond_false this (oQ y h aW w0 a w aB)
  ·rename_i kS r aj;rw[b5]at h;obtain⟨⟨b4,cQ,dz,gz⟩,U,h⟩:=h;simp only[bH]at h;obtain⟨rfl,rfl,rfl,rfl⟩:=h;have:a.eval c=.bool kS:=aH.dX aj eT;have al:kS=true:=aW.1;exact wp_cond_true (by rw[this,al]) (oQ x U aW.2 w0 a w aB)
  ·rename_i kS r aj;rw[b5]at h;obtain⟨⟨b4,cQ,dz,gz⟩,U,h⟩:=h;simp only[bH]at h;obtain⟨rfl,rfl,rfl,rfl⟩:=h;have:a.eval c=.bool kS:=aH.dX aj eT;have al:kS=false:=aW.1;exact wp_cond_false (by rw[this,al]) (oQ y U aW.2 w0 a w aB)
  cases h
 | .block id body,st,bB,ans,cq,obs,e,h,aW=>by
  intro w0 a w aB;simp only[run]at h;split at h
  ·rename_i i st1 fy gn h1;simp only[aX,bH]at h;obtain⟨rfl,rfl,rfl,rfl⟩:=h;refine wp_block (Code.wp_mono (fun e' cJ aM hp=>?_) (oQ body h1 aW w0 a w aB));obtain⟨rfl,eX⟩:=hp;simp only[hA.pe,Exit.inBlock];split
   ·exact⟨rfl,eX⟩
   exact⟨rfl,eX⟩
  rename_i cU;refine wp_block (Code.wp_mono (fun e' cJ aM hp=>?_) (oQ body h aW w0 a w aB));obtain⟨rfl,eX⟩:=hp;cases e with
  | normal=>exact⟨rfl,eX⟩
  | exit i=>grind
  | ret=>exact⟨rfl,eX⟩
 | .loop body,st,bB,ans,cq,obs,e,h,aW=>by
  intro w0 a w aB;simp only[run]at h;split at h
  ·rename_i Gp cS bs cd fY r;split at h
   ·cases h
   ·rename_i e1 st1 cU aP;simp only[aX,bH]at h;obtain⟨rfl,rfl,rfl,rfl⟩:=h;obtain⟨n,aj⟩:=aW.1;exact wp_loop_rounds n (aj w0 a w ((C9 aP aB).eU cS bs))
   cases h
  cases h
 | .exit id,st,bB,ans,cq,obs,e,h,aW=>by
  simp only[run,aX,bH]at h;obtain⟨rfl,rfl,_,_⟩:=h;exact fun w0 a w aB=>wp_exit ⟨rfl,aB⟩
 | .ret,st,bB,ans,cq,obs,e,h,aW=>by
  simp only[run,aX,bH]at h;obtain⟨rfl,rfl,_,_⟩:=h;exact fun w0 a w aB=>wp_ret ⟨rfl,aB⟩
 | .rangeFunc ..,_,_,_,_,_,_,h,_=>by simp[run]at h
 | .scope _,_,_,_,_,_,_,h,_=>by simp[run]at h
 | .goto _,_,_,_,_,_,_,h,_=>by simp[run]at h
 | .refuse _,_,_,_,_,_,_,h,_=>by simp[run]at h
end Go.Sx
namespace Go.Sx
open Go.RowKit
def aG.Bg:aG->D->Option (D×Option Nat)
 | .v x,hint=>
  match x,hint with
  | .slice none 0 0,.J k _=>some (.J k [],none)
  | x,_=>if x.oneCell' then some (.v x,none) else none
 | .bR c,_=>some (.v (.bool c),none)
 | .J (.own t) k es,_=>some (.J k es,some t)
 | _,_=>none
abbrev iQ:=List (Nat×Nat)
def iQ.at(t:Nat):iQ->Option Nat
 | []=>none
 | (s,n)::r=>if s=t then some n else iQ.at t r
def HR(n:Nat):Option Nat->iQ
 | some t=>[(t,n)]
 | none=>[]
def sb(n:Nat):List aG->List D->Option (List D×iQ)
 | [],[]=>some ([],[])
 | l::ls,d::ds=>
  match l.Bg d,sb (n+1) ls ds with
  | some (dR,t),some (tR,ts)=>some (dR::tR,HR n t++ts)
  | _,_=>none
 | _,_=>none
def IG(n:Nat):bm->cL->Option (cL×iQ)
 | .one l,.one d=>(l.Bg d).map fun x=>(.one x.1,HR n x.2)
 | .agg ls,.agg ds=>(sb n ls ds).map fun x=>(.agg x.1,x.2)
 | _,_=>none
def tt(r:Nat):List aH->List cL->Option (List cL×iQ)
 | [],[]=>some ([],[])
 | .aR a::ca,d::ds=>
  match IG (100*r) a d,tt (r+1) ca ds with
  | some (dR,t),some (tR,ts)=>some (dR::tR,t++ts)
  | _,_=>none
 | _,_=>none
def HS(ts:iQ):Bool:=ts.all fun x=>match ts.at x.1 with | some n=>n==x.2 | none=>false
variable{ts:iQ}{n:Nat}
theorem HT(h:HS ts=true){t:Nat}(hm:(t,n)∈ts):ts.at t=some n:=by
 have:=gP.1 h _ hm;simp only at this;split at this
 ·rename_i aeS e;rw[e];simp only[iL]at this;rw[this]
 cases this
def jo(ω:Own)(ts:iQ):Own:=fun b=>
 match ω b with
 | .tok t q=>match ts.at t with | some n=>.tok n q | none=>.bJ
 | _=>.bJ
variable{w:World}{ω:Own}{τ:Nat->Nat×Value}
theorem aG.ZV{l:aG}{h d:D}{t:Option Nat}{u:Value}(aF:l.Bg h=some (d,t))(ai:Sat w ω τ l u)
  (lu:∀s,t=some s->ts.at s=some n):bZ w (jo ω ts) (Tag.own n).R d u:=by
 cases l with
 | cu=>cases aF
 | v x=>
  have e:u=x:=ai;subst e;simp only[aG.Bg]at aF;split at aF
  ·simp only[aX,bH]at aF;obtain⟨rfl,_⟩:=aF;exact .nil _ _ _
  split at aF
  ·simp only[aX,bH]at aF;obtain⟨rfl,_⟩:=aF;exact .v _ _ ‹_›
  cases aF
 | bR c=>
  have e:u=.bool c:=ai;subst e;simp only[aG.Bg,aX,bH]at aF;obtain⟨rfl,_⟩:=aF;exact .v _ _ rfl
 | J g k es=>
  cases g with
  | free=>cases aF
  | ro s=>cases aF
  | own s=>
   simp only[aG.Bg,aX,bH]at aF;obtain⟨rfl,rfl⟩:=aF;refine ai.1.frame fun b q _ aC=>⟨?_,rfl⟩
   simp only[Tag.R]at aC ⊢;simp only[jo,aC,lu s rfl]
 | ptr=>cases aF
 | ep=>cases aF
 | jd=>cases aF
 | fd=>cases aF
 | e5=>cases aF
 | hr=>cases aF
 | aS=>cases aF
 | fr=>cases aF
theorem Vo{t:Option Nat}{s:Nat}(h:t=some s):(s,n)∈HR n t:=by subst h;simp[HR]
theorem Mx{w:World}{ω:Own}{τ:Nat->Nat×Value}(lu:∀t n,(t,n)∈ts->ts.at t=some n):∀{ls:List aG} {ai ds:List D} {n:Nat} {lX:iQ},sb n ls ai=some (ds,lX)->(∀x∈lX,x∈ts)->
  ds.length=ls.length/\∀(j:Nat) (d:D),ds[j]?=some d->∃l,ls[j]?=some l/\∀u,Sat w ω τ l u->bZ w (jo ω ts) (Tag.own (n+j)).R d u
 | [],[],ds,n,lX,h,_=>by
  simp only[sb,aX,bH]at h;obtain⟨rfl,_⟩:=h;exact⟨rfl,fun j d aF=>by simp at aF⟩
 | l::ls,bE::ai,ds,n,lX,h,iF=>by
  simp only[sb]at h;split at h
  ·rename_i dR t tR u1 e1 e2;simp only[aX,bH]at h;obtain⟨rfl,rfl⟩:=h;obtain⟨h1,U⟩:=Mx (w:=w) (ω:=ω) (τ:=τ) lu e2 (fun x aa=>iF x (hP _ aa));refine⟨by simp[h1],fun j d aF=>?_⟩;cases j with
   | zero=>
    simp at aF;subst aF;exact⟨l,rfl,fun u hu=>aG.ZV e1 hu fun s df=>lu s n (iF _ (gE _ (Vo df)))⟩
   | succ j=>
    obtain⟨hb,aA,aI⟩:=U j d (by simpa using aF);refine⟨hb,by simpa using aA,fun u hu=>?_⟩;have:=aI u hu;rwa[show n+1+j=n+(j+1) by omega]at this
  cases h
 | [],_::_,_,_,_,h,_=>by simp[sb]at h
 | _::_,[],_,_,_,h,_=>by simp[sb]at h
theorem ax6(lu:∀t n,(t,n)∈ts->ts.at t=some n){a:bm}{h d:cL}{r:Nat}{lX:iQ}(aB:IG (100*r) a h=some (d,lX))(iF:∀x∈lX,x∈ts)
  {y:Value} (ai:ll (Sat w ω τ) a y):nz w (jo ω ts) r d y:=by
 cases a with
 | one l=>
  cases h with
  | agg df=>cases aB
  | one bE=>
   simp only[IG,b5]at aB;obtain⟨⟨dR,t⟩,h1,U⟩:=aB;simp only[bH]at U;obtain⟨rfl,rfl⟩:=U;exact aG.ZV h1 ai fun s df=>lu s _ (iF _ (Vo df))
 | agg ls=>
  cases h with
  | one bE=>cases aB
  | agg df=>
   simp only[IG,b5]at aB;obtain⟨⟨ds,t⟩,h1,U⟩:=aB;simp only[bH]at U;obtain⟨rfl,rfl⟩:=U;obtain⟨aA,aI⟩:=Mx (w:=w) (ω:=ω) (τ:=τ) lu h1 iF;obtain⟨vs,rfl,aP,bD⟩:=ai;refine⟨vs,rfl,by omega,fun j tQ aF=>?_⟩;obtain⟨l,aj,c'⟩:=aI j tQ aF;obtain⟨u,hu,fH⟩:=bD j l aj;exact⟨u,hu,c' u fH⟩
theorem HU{w:World}{ω:Own}{τ:Nat->Nat×Value}{ts:iQ}(lu:∀t n,(t,n)∈ts->ts.at t=some n):∀{ca:List aH} {ai ds:List cL} {r:Nat} {lX:iQ},tt r ca ai=some (ds,lX)->(∀x∈lX,x∈ts)->
  ds.length=ca.length/\∀(j:Nat) (d:cL),ds[j]?=some d->∃p,ca[j]?=some p/\∀u,cT (Sat w ω τ) p u->nz w (jo ω ts) (r+j) d u
 | [],[],ds,r,lX,h,_=>by
  simp only[tt,aX,bH]at h;obtain⟨rfl,_⟩:=h;exact⟨rfl,fun j d aF=>by simp at aF⟩
 | .aR a::ca,bE::ai,ds,r,lX,h,iF=>by
  simp only[tt]at h;split at h
  ·rename_i dR t tR u1 e1 e2;simp only[aX,bH]at h;obtain⟨rfl,rfl⟩:=h;obtain⟨h1,U⟩:=HU (w:=w) (ω:=ω) (τ:=τ) lu e2 (fun x aa=>iF x (hP _ aa));refine⟨by simp[h1],fun j d aF=>?_⟩;cases j with
   | zero=>
    simp at aF;subst aF;exact⟨.aR a,rfl,fun u hu=>ax6 lu e1 (fun x aa=>iF x (gE _ aa)) hu⟩
   | succ j=>
    obtain⟨hb,aA,aI⟩:=U j d (by simpa using aF);refine⟨hb,by simpa using aA,fun u hu=>?_⟩;have:=aI u hu;rwa[show r+1+j=r+(j+1) by omega]at this
  cases h
 | [],_::_,_,_,_,h,_=>by simp[tt]at h
 | .aR _::_,[],_,_,_,h,_=>by simp[tt]at h
 | .gB _::_,_,_,_,_,h,_=>by simp[tt]at h
def cL.arg:cL->bm
 | .one d=>.one (d.leaf .free)
 | .agg ds=>.agg (ds.map (D.leaf .free))
def AS(args:List cL)(ntmps:Nat):aD:=⟨args.map (fun a=>.aR a.arg)++List.replicate (ntmps-args.length) .cu,[]⟩
theorem mJ.leaf{d:D}{u:Value}(h:mJ w d u):Sat w (fun _=>.bJ) τ (d.leaf .free) u:=D.dX (p:=(0,0)) h
theorem ax7{args:List cL}{vs:Array Value}(ug:q0 w)(h:GF w args vs)(ntmps:Nat):
  Rel (eN.of w) (AS args ntmps) { tmps:=vs++Array.replicate (ntmps-vs.size) undef,defers:=[] } w:=by
 refine⟨fun _=>.bJ,fun _=>(0,undef),rfl,by simp[AS,h.1],ho.refl _ ug (fun _ _ h=>h),fun b aq=>absurd rfl aq,fun _ _=>rfl,(fun _ _ _ h=>by cases h),?_,fun id ls aj=>by simp[AS,dI]at aj⟩;intro i p hp;simp only[AS]at hp;rw[qS,cp]at hp;split at hp
 ·rename_i hi;rw[eg,b5]at hp;obtain⟨ct,Kh,rfl⟩:=hp;obtain⟨v,bD,bI⟩:=h.2 i ct Kh;refine⟨v,?_,?_⟩
  ·rw[kr,bh (by rw[h.1];exact hi)];exact bD
  cases ct with
  | one d=>exact mJ.leaf bI
  | agg ds=>
   obtain⟨us,rfl,aP,hu⟩:=bI;refine⟨us,rfl,by simpa using aP,fun j l aj=>?_⟩;rw[eg,b5]at aj;obtain⟨d,aF,rfl⟩:=aj;obtain⟨u,h1,U⟩:=hu j d aF;exact⟨u,h1,mJ.leaf U⟩
 rename_i hi;rw[E0]at hp;split at hp
 ·rename_i bM;simp only[aX]at hp;subst hp;refine⟨undef,?_,ad⟩;rw[kr,bq (by rw[h.1];exact hi),Array.getElem?_replicate,bh (by rw[h.1];exact bM)]
 cases hp
def rW(P:Program)(st:aD):ResultVar->Option aH
 | .tmp t=>some (st.bp (.tmp t))
 | .cell a t=>
  match xG P t,P.info? t,(st.bp (.tmp a)).leaf with
  | some agg,some i,some (.ptr id off)=>
   match dI id st.boxes with
   | some ls=>tn agg i.size ls off
   | none=>none
  | _,_,_=>none
def C'(tmps:Array Value):ResultVar->Sem Value
 | .tmp t=>pure (tmps.getD t undef)
 | .cell x t=>do loadVar t (<-asAddr (tmps.getD x undef))
theorem My(fn:Func)(tmps:Array Value):results fn tmps=(do
  let vs <-fn.results.mapM (C' tmps)
  pure (if h:vs.size=1 then vs[0] else .tuple vs)):=by
 unfold results;have:(fun x=>match x with | .tmp t=>pure (tmps.getD t undef) | .cell a t=>do loadVar t (<-asAddr (tmps.getD a undef)):ResultVar->Sem Value)=C' tmps:=by
  funext x;cases x<;>rfl
 rw[<-this];rfl
variable{P:Program}{st:aD}
theorem ax8{w0:eN}{a:Act}(aZ:cD w0 st a w ω τ){r:ResultVar}{p:aH}(h:rW P st r=some p):
  ∃z,(C' a.tmps r).run P w=.ok z w/\cT (Sat w ω τ) p z:=by
 cases r with
 | tmp t=>
  simp only[rW,aX]at h;subst h;exact⟨_,rfl,aZ.bp (.tmp t)⟩
 | cell x t=>
  simp only[rW]at h;split at h
  ·rename_i agg i id off e1 e2 cx;split at h
   ·rename_i ls dk;have aa:=aH.dX cx (aZ.bp (.tmp x));obtain⟨b,aq,aa⟩:=aa;simp only[Act.eval]at aa;obtain⟨dA,arr,ty,er,F9,KF,dN,eT⟩:=aZ.boxes id ls dk;have:=F9 b aq;subst this;have:=AD (P:=P) e1 e2 h KF (base:=0) (by omega) (fun j l aj=>by simpa using eT j l aj);simpa[C',aa,asAddr]using this
   cases h
  cases h
def IH(P:Program)(st:aD)(kJ:List ResultVar)(hint:List cL):Option (List cL):=
 match kJ.mapM (rW P st) with
 | some ca=>
  match tt 0 ca hint with
  | some (ds,ts)=>if HS ts then some ds else none
  | none=>none
 | none=>none
theorem HV{w0:eN}{a:Act}(aZ:cD w0 st a w ω τ):∀{kJ:List ResultVar} {ca:List aH},kJ.mapM (rW P st)=some ca->
  ∃zs:List Value,(kJ.mapM (C' a.tmps)).run P w=.ok zs w/\zs.length=ca.length/\∀(i:Nat) (p:aH),ca[i]?=some p->∃z,zs[i]?=some z/\cT (Sat w ω τ) p z
 | [],ca,h=>by simp at h;subst h;exact⟨[],rfl,rfl,fun i p hp=>by simp at hp⟩
 | r::kJ,ca,h=>by
  rw[Bu]at h;cases e:rW P st r with
  | none=>simp[e]at h
  | some jm=>
   cases e2:kJ.mapM (rW P st) with
   | none=>simp[e,e2]at h
   | some aDO=>
    simp[e,e2]at h;subst h;obtain⟨z,h1,U⟩:=ax8 aZ e;obtain⟨zs,aA,aI,a'⟩:=HV aZ e2;refine⟨z::zs,?_,by simp[aI],fun i p hp=>?_⟩
    ·rw[Bu,Sem.run_bind,h1,Result.andThen_ok,Sem.run_bind,aA];rfl
    cases i with
    | zero=>simp at hp;subst hp;exact⟨z,rfl,U⟩
    | succ i=>exact a' i p (by simpa using hp)
theorem Vp{f:FuncId}{fn:Func}{c:Code}{args rs:List cL}{ans cq:List cb}{obs:List Prop}{e:hA}(br:P.funcs[f]?=some fn)(aq:fn.body=some c)
  (fG:run P c (AS args fn.ntmps) ans=some (e,st,cq,obs)) (aW:c8 obs) (he:e=.ret\/e=.normal) (fi:IH P st fn.results.toList rs=some rs):ji P f args rs:=by
 intro w vs ug nR;refine calls_of_wp br aq (Code.wp_mono (fun e' cJ aM hp=>?_) (oQ c fG aW (eN.of w) _ w (ax7 ug nR fn.ntmps)));obtain⟨rfl,ω,τ,aZ⟩:=hp;unfold IH at fi;split at fi
 ·rename_i ca uf;split at fi
  ·rename_i ds ts e6;split at fi
   ·rename_i bI;simp only[aX]at fi;subst fi;obtain⟨zs,h1,U,aA⟩:=HV aZ uf;obtain⟨aI,a'⟩:=HU (w:=aM) (ω:=ω) (τ:=τ) (fun t n h=>HT bI h) e6 (fun x aa=>aa);have hm:=GQ (P:=P) _ fn.results aM _ h1;have fq:∀(j:Nat) (d:cL),ds[j]?=some d->∃z,zs[j]?=some z/\nz aM (jo ω ts) j d z:=by
     intro j d aF;obtain⟨p,hp,ue⟩:=a' j d aF;obtain⟨z,aL,nV⟩:=aA j p hp;exact⟨z,aL,by have:=ue z nV;rwa[dV]at this⟩
    have np:zs.length=ds.length:=by omega
    have adh:∀v,(if h:zs.toArray.size=1 then zs.toArray[0] else .tuple zs.toArray)=v->y4 w aM ds v:=by
     intro v bD;refine⟨jo ω ts,fun b aq=>?_,fun b aq=>?_,?_⟩
     ·cases dr:ω b with
      | bJ=>simp[jo,dr]
      | box id=>simp[jo,dr]
      | tok t q=>
       rcases (aZ.owned b (by simp[dr])).1 with h | h
       ·exact absurd aq (by have h:w.heap.size<=b:=h;omega)
       exact absurd h (fun h=>h)
     ·cases dr:ω b with
      | bJ=>simp[jo,dr]at aq
      | box id=>simp[jo,dr]at aq
      | tok t q=>
       refine⟨?_,(aZ.owned b (by simp[dr])).2⟩;simp only[jo,dr]at aq ⊢;cases lu:ts.at t with
       | none=>simp[lu]at aq
       | some n=>exact⟨n,q,rfl⟩
     unfold n0;split
     ·rename_i ct;obtain⟨z,aL,al⟩:=fq 0 ct rfl;have h1:zs.length=1:=by rw[np];rfl
      have sN:zs=[z]:=by
       match zs,h1,aL with
       | [z0],_,aL=>simp at aL;rw[aL]
      have K7:v=z:=by
       rw[<-bD];simp[sN]
      rw[K7];exact al
     rename_i cU;have h1:¬zs.toArray.size=1:=by
      intro h;simp at h;rw[np]at h;obtain⟨d,aF⟩:=List.length_eq_one_iff.1 h;exact cU d aF
     rw[dif_neg h1]at bD;exact⟨zs.toArray,bD.symm,by simpa using np,fun r ct aB=>by obtain⟨z,aL,al⟩:=fq r ct aB;exact⟨z,by simpa using aL,al⟩⟩
    have ef:∃v,(results fn cJ.tmps).run P aM=.ok v aM/\∃u,Ending.returned v=.returned u/\hq w.heap.size w aM/\y4 w aM ds u:=by
     refine⟨_,?_,_,rfl,aZ.below.below,adh _ rfl⟩;rw[My,Sem.run_bind,hm];rfl
    obtain⟨v,bu,bU⟩:=ef;rcases he with rfl | rfl
    ·exact⟨aZ.defers,v,bu,bU⟩
    exact⟨aZ.defers,v,bu,bU⟩
   cases fi
  cases fi
 cases fi
end Go.Sx
namespace Go.Sx
open Go.RowKit
def L1(P:Program)(c:Code)(ntmps:Nat)(kJ:List ResultVar)(args hint:List cL)(ans:List cb):Option (List cL×List Prop):=
 match run P c (AS args ntmps) ans with
 | some (.ret,st,_,obs)=>(IH P st kJ hint).map fun rs=>(rs,obs)
 | some (.normal,st,_,obs)=>(IH P st kJ hint).map fun rs=>(rs,obs)
 | _=>none
def oR(fn:Func):Code:=fn.body.getD .skip
variable{P:Program}
theorem ji.of{f:FuncId}{fn:Func}{args rs:List cL}(ans:List cb)(obs:List Prop)(br:P.funcs[f]?=some fn)(aq:fn.body.isSome=true)
  (h:L1 P (oR fn) fn.ntmps fn.results.toList args rs ans=some (rs,obs)) (aW:c8 obs):ji P f args rs:=by
 obtain⟨c,al⟩:=sh.1 aq;have B9:oR fn=c:=by simp[oR,al]
 unfold L1 at h;rw[B9]at h;split at h
 ·rename_i st a nY aB;rw[b5]at h;obtain⟨wL,h1,h⟩:=h;simp only[bH]at h;obtain⟨rfl,rfl⟩:=h;exact Vp br al aB aW (.inl rfl) h1
 ·rename_i st a nY aB;rw[b5]at h;obtain⟨wL,h1,h⟩:=h;simp only[bH]at h;obtain⟨rfl,rfl⟩:=h;exact Vp br al aB aW (.inr rfl) h1
 cases h
def CF(P:Program)(body:Code)(st:aD)(ans:List cb)(cS bs:List Nat):Option (hA×aD×List Prop):=
 (run P body st ans).map fun r=>(r.1,r.2.1.eU cS bs,r.2.2.2)
variable{body:Code}{st bB:aD}{e:hA}
theorem gi.LX{ans:List cb}{cS bs:List Nat}{obs:List Prop}(h:CF P body st ans cS bs=some (e,bB,obs))(aW:c8 obs):gi P body st e bB:=by
 unfold CF at h;rw[b5]at h;obtain⟨⟨b4,cQ,dz,gz⟩,h1,h⟩:=h;simp only[bH]at h;obtain⟨rfl,rfl,rfl⟩:=h;intro w0 a w aB;exact Code.wp_mono (fun e' cJ aM ⟨h1,U⟩=>⟨h1,U.eU cS bs⟩) (oQ body h1 aW w0 a w aB)
def LO(P:Program)(body:Code)(st:aD)(ans:List cb)(ns:List (Nat×Nat×Nat))(cS bs:List Nat):Option (hA×aD×List Prop):=
 (run P body st ans).bind fun r=>(wz r.2.1 ns).map fun s=>(r.1,s.eU cS bs,r.2.2.2)
theorem gi.aeX{ans:List cb}{ns:List (Nat×Nat×Nat)}{cS bs:List Nat}{obs:List Prop}(h:LO P body st ans ns cS bs=some (e,bB,obs))(aW:c8 obs):gi P body st e bB:=by
 unfold LO at h;rw[nM]at h;obtain⟨⟨b4,cQ,dz,gz⟩,h1,h⟩:=h;rw[b5]at h;obtain⟨s,ai,h⟩:=h;simp only[bH]at h;obtain⟨rfl,rfl,rfl⟩:=h;intro w0 a w aB;exact Code.wp_mono (fun e' cJ aM ⟨h1,U⟩=>⟨h1,(C9 ai U).eU cS bs⟩) (oQ body h1 aW w0 a w aB)
theorem cN.step{st1:aD}(ans:List cb)(cS bs:List Nat)(obs:List Prop)(h:CF P body st ans cS bs=some (.normal,st1,obs))(aW:c8 obs)(U:cN P body st1 e bB):cN P body st e bB:=
 .more (gi.LX h aW) U
theorem cN.done(ans:List cb)(cS bs:List Nat)(obs:List Prop)(he:e.pe≠.normal)(h:CF P body st ans cS bs=some (e,bB,obs))(aW:c8 obs):cN P body st e bB:=
 .last he (gi.LX h aW)
theorem ci(i:Nat):(hA.exit i).pe≠.normal:=fun h=>by cases h
theorem eZ:hA.ret.pe≠.normal:=fun h=>by cases h
def wA:Code->List Code
 | .seq a b=>wA a++wA b
 | .cond _ a b=>wA a++wA b
 | .block _ b=>wA b
 | .loop b=>b::wA b
 | .scope b=>wA b
 | _=>[]
def ap(fn:Func)(i:Nat):Code:=(wA (oR fn)).getD i .skip
def wB:Code->List (Nat×Array Oper)
 | .region id ops true=>[(id,ops)]
 | .seq a b=>wB a++wB b
 | .cond _ a b=>wB a++wB b
 | .block _ b=>wB b
 | .loop b=>wB b
 | .scope b=>wB b
 | _=>[]
def fv(fn:Func)(id:Nat):Array Oper:=(((wB (oR fn)).find? fun x=>Nat.beq x.1 id).map (·.2)).getD #[]
def acq(n:Nat)(l:List (Nat×aH)):List aH:=l.foldl (fun e x=>e.set x.1 x.2) (List.replicate n .cu)
abbrev I(n:Int):D:=.v (.int .i64 n)
abbrev B(b:Bool):D:=.v (.bool b)
abbrev aB2(s:ByteArray):D:=.v (.string s)
end Go.Sx
namespace Go.Sx
open Go.RowKit
inductive kP (P:Program):TypeId->List D->Prop
 | bool (t:TypeId) (b:Bool) (h:P.underlying t=some .bool):kP P t [.v (.bool b)]
 | int (t:TypeId) (k:IntKind) (n:Int) (h:P.underlying t=some (.int k)) (hw:(Lit.int k n).wf=true):kP P t [.v (.int k n)]
 | str (t:TypeId) (s:ByteArray) (h:P.underlying t=some .string) (ai:s.size<=maxLen):kP P t [.v (.string s)]
 | J (t e:TypeId) (es:List (List D)) (h:P.underlying t=some (.slice e)) (aj:es.length<=maxLen) (he:∀ds∈es,kP P e ds):kP P t [.J (P.cellsOf e) es]
 | struct (t:TypeId) (eI:Array Field) (ds:List D) (h:P.underlying t=some (.struct eI)) (aj:ds.length=P.cellsOf t) (br:∀f∈eI.toList,kP P f.type ((ds.drop f.offset).take (P.cellsOf f.type))):kP P t ds
def wN(P:Program):Nat->List Field->Nat->Bool
 | o,[],n=>o==n
 | o,f::r,n=>f.offset==o&&wN P (o+P.cellsOf f.type) r n
def wC(P:Program):Nat->TypeId->Bool
 | 0,_=>false
 | m+1,t=>
  match P.underlying t with
  | some .bool | some (.int _) | some .string=>true
  | some (.slice e)=>decide (0<P.cellsOf e)&&wC P m e
  | some (.struct eI)=>eI.toList.all (fun f=>wC P m f.type)&&wN P 0 eI.toList (P.cellsOf t)
  | _=>false
def p'(w:World)(ds:List D)(cs:List Value):Prop:=ds.length=cs.length/\∀(i:Nat) (d:D),ds[i]?=some d->∃v,cs[i]?=some v/\mJ w d v
theorem p'.one{w:World}{d:D}{v:Value}(h:mJ w d v):p' w [d] [v]:=
 ⟨rfl,fun i dR aF=>by
  cases i with
  | zero=>simp at aF;subst aF;exact⟨v,rfl,h⟩
  | succ i=>simp at aF⟩
theorem p'.append{w:World}{a b:List D}{x y:List Value}(h:p' w a x)(k:p' w b y):p' w (a++b) (x++y):=by
 refine⟨by simp[h.1,k.1],fun i d aF=>?_⟩;rw[qS]at aF ⊢;rw[<-h.1];split at aF
 ·rename_i hi;rw[bh hi];exact h.2 i d aF
 rename_i hi;rw[bq hi];exact k.2 _ d aF
theorem Mz{P:Program}:∀{gI:List Field} {o n:Nat},wN P o gI n=true->o<=n/\∀f∈gI,o<=f.offset/\f.offset+P.cellsOf f.type<=n
 | [],o,n,h=>by simp[wN]at h;exact⟨by omega,fun f br=>by cases br⟩
 | f::r,o,n,h=>by
  simp only[wN,b9,iL]at h;obtain⟨h1,U⟩:=Mz h.2;refine⟨by omega,fun g ar=>?_⟩;rcases dQ.1 ar with rfl | ar
  ·exact⟨by omega,by omega⟩
  have:=U g ar;exact⟨by omega,this.2⟩
theorem Z4{P:Program}{w:World}{cs:List Value}:∀{gI:List Field} {o:Nat},wN P o gI cs.length=true->
  (∀f∈gI,∃ds,kP P f.type ds/\p' w ds ((cs.drop f.offset).take (P.cellsOf f.type)))->
  ∃ds,p' w ds (cs.drop o)/\∀f∈gI,kP P f.type ((ds.drop (f.offset-o)).take (P.cellsOf f.type))
 | [],o,h,_=>by
  simp only[wN,iL]at h;subst h;exact⟨[],⟨by simp,fun i d aF=>by simp at aF⟩,fun f br=>by cases br⟩
 | f::r,o,h,br=>by
  have hle:=Mz h;simp only[wN,b9,iL]at h;obtain⟨bE,h⟩:=h;obtain⟨ds,h1,U⟩:=Z4 h fun g ar=>br g (by simp[ar])
  obtain⟨d0,aA,aI⟩:=br f (by simp);have zy:d0.length=P.cellsOf f.type:=by
   rw[aI.1];have:=(hle.2 f (by simp)).2;simp;omega
  refine⟨d0++ds,?_,?_⟩
  ·have:cs.drop o=(cs.drop f.offset).take (P.cellsOf f.type)++cs.drop (o+P.cellsOf f.type):=by
    rw[bE,<-List.drop_drop];exact (E1 _ _).symm
   rw[this];exact aI.append h1
  intro g ar;rcases dQ.1 ar with rfl | ar
  ·rw[bE,Nat.sub_self,va,abY (by omega),wV (by omega)];exact aA
  have KB:=U g ar;have:=(Mz h).2 g ar;rw[List.drop_append,List.drop_eq_nil_of_le (show d0.length<=g.offset-o by omega),List.nil_append,zy];rwa[show g.offset-o-P.cellsOf f.type=g.offset-(o+P.cellsOf f.type) by omega]
section
variable {H : Type} {enc : TypeId × Value -> H} {P : Program} {w : World} {base : Nat} {held : Bool}
theorem HW{a:Addr}{k:Nat}{cs:List Value}(h:w.cells? base a k=some cs):cs.length=k/\∀i,i<k->w.cell? (a.add i)=cs[i]?:=by
 unfold World.cells? at h;split at h
 ·exact⟨by simpa using mapM_some_length h,fun i hi=>mapM_some_get h i i (by simp[hi])⟩
 cases h
theorem MA{a:Addr}{v:Value}(h:w.cell? a=some v):∃arr ty cM,w.heap[a.block]?=some (.cells arr ty cM)/\a.spot=none/\arr[a.off]?=some v:=by
 unfold World.cell? at h;split at h
 ·rename_i arr ty cM e;split at h
  ·cases h
  rename_i ai;refine⟨arr,ty,cM,e,?_,h⟩;cases K1:a.spot with
  | none=>rfl
  | some x=>simp[K1]at ai
 cases h
theorem MB:∀(m:Nat) (t:TypeId) (h':Nat) (cs:List Value) (x:DataW H×List MemPlace),wC P m t=true->DataW.trod enc P w base (fun _=>true) held h' t cs=some x->
  ∃ds,kP P t ds/\p' w ds cs
 | 0,_,_,_,_,h,_=>by cases h
 | m+1,t,h',cs,x,ai,h=>by
  unfold wC at ai;split at ai
  ·rename_i hu;obtain⟨b,rfl,_⟩:=DataW.trod_bool hu h;exact⟨_,.bool t b hu,.one (.v _ _ rfl)⟩
  ·rename_i k hu;obtain⟨n,rfl,_,hw⟩:=DataW.trod_int hu h;exact⟨_,.int t k n hu hw,.one (.v _ _ rfl)⟩
  ·rename_i hu;obtain⟨s,rfl,_,hw⟩:=DataW.trod_string hu h;exact⟨_,.str t s hu hw,.one (.v _ _ rfl)⟩
  ·rename_i e hu;simp only[b9,cc]at ai;obtain⟨oH,F7⟩:=ai;rcases DataW.trod_slice hu h with⟨rfl,_⟩ | ⟨a,len,cap,RQ,rest,n,_,rfl,_,_,aj,al,hlen,zt,K1,_⟩
   ·exact⟨_,.J t e [] hu (by simp) (fun ds e6=>by cases e6),.one (.nil _ _ _)⟩
   obtain⟨SA,F3⟩:=K1 rfl;generalize hv:P.cellsOf e=k at*;have jk:∀i,i<cap->∃cs,w.cells? base (a.add (i*k)) k=some cs/\∃x,DataW.trod enc P w base (fun _=>true) held n e cs=some x:=by
    intro i hi;by_cases lN:i<len
    ·have:=zt i lN;obtain⟨y,bk⟩:∃y,RQ[i]?=some y:=⟨RQ[i],jA (by omega)⟩
     rw[bk,nM]at this;obtain⟨cs,h1,U⟩:=this;exact⟨cs,h1,y,U⟩
    have:=F3 (i-len) (by omega);rw[show len+(i-len)=i by omega]at this;obtain⟨y,bk⟩:∃y,rest[i-len]?=some y:=⟨rest[i-len],jA (by omega)⟩
    rw[bk,nM]at this;obtain⟨cs,h1,U⟩:=this;exact⟨cs,h1,y,U⟩
   by_cases fP:cap=0
   ·subst fP;have:len=0:=by omega
    subst this;have:=kP.J (P:=P) t e [] hu (by simp) (fun ds e6=>by cases e6);exact⟨_,this,.one (.nil _ _ _)⟩
   have adb:∀i,∃ds,i<len->kP P e ds/\∃cs,w.cells? base (a.add (i*k)) k=some cs/\p' w ds cs:=by
    intro i;by_cases hi:i<len
    ·obtain⟨cs,h1,x,U⟩:=jk i (by omega);obtain⟨ds,aA,aI⟩:=MB m e n cs x F7 U;exact⟨ds,fun _=>⟨aA,cs,h1,aI⟩⟩
    exact⟨[],fun h=>absurd h hi⟩
   obtain⟨f,br⟩:=Classical.skolem.1 adb;obtain⟨cl,uc,_⟩:=jk (cap-1) (by omega);obtain⟨aCO,ac3⟩:=HW uc;have vD:=ac3 (k-1) (by omega);obtain⟨aD3,K6⟩:∃v,cl[k-1]?=some v:=⟨cl[k-1],jA (by omega)⟩
   rw[K6]at vD;obtain⟨b,off,spot⟩:=a;have aef:spot=none:=by
    obtain⟨de,acW,_⟩:=jk 0 (by omega);obtain⟨aCM,acX⟩:=HW acW;have bE:=acX 0 oH;obtain⟨v0,F'⟩:∃v,de[0]?=some v:=⟨de[0],jA (by omega)⟩
    rw[F']at bE;obtain⟨_,_,_,_,h1,_⟩:=MA bE;simpa[Addr.add]using h1
   subst aef;obtain⟨arr,ty,cM,aq,_,vD⟩:=MA vD;simp only[rO]at aq vD;have dN:off+cap*k<=arr.size:=by
    have h1:=(kt.1 vD).1;have U:cap*k=(cap-1)*k+k:=by rw[<-Nat.succ_mul];congr 1;omega
    omega
   have FO:((List.range len).map f).length=len:=by simp
   have jI:∀i j d,dd ((List.range len).map f) i j=some d->i<len/\(f i)[j]?=some d:=by
    intro i j d aF;unfold dd at aF;rw[eg]at aF;by_cases hi:i<len
    ·rw[List.getElem?_range hi]at aF;exact⟨hi,by simpa using aF⟩
    rw[List.getElem?_eq_none (by simpa using hi)]at aF;simp at aF
   have fq:∀i j d,dd ((List.range len).map f) i j=some d->∃u,arr[off+i*k+j]?=some u/\mJ w d u:=by
    intro i j d aF;obtain⟨hi,a8⟩:=jI i j d aF;obtain⟨_,cs,h1,U⟩:=br i hi;obtain⟨ac2,ua⟩:=HW h1;obtain⟨u,kA,aB⟩:=U.2 j d a8;have Ce:j<k:=by rw[<-ac2];exact (gh.1 kA).1
    have:=ua j Ce;rw[kA]at this;obtain⟨ln,lG,J2,gj,_,aa⟩:=MA this;simp only[rO]at gj aa;rw[aq]at gj;cases gj;exact⟨u,aa,aB⟩
   have F2:bZ w (fun _=>.bJ) Tag.free.R (.J k ((List.range len).map f)) (.slice (some ⟨b,off,none⟩) ((List.range len).map f).length cap):=by
    refine .row _ k _ b off cap arr ty cM (fun i j=>arr.getD (off+i*k+j) undef) aq rfl (by omega) dN ?_ ?_ ?_
    ·intro e' he;obtain⟨i,hi,rfl⟩:=fV.1 he;obtain⟨_,cs,h1,U⟩:=br i (by simpa using hi);rw[U.1];exact (HW h1).1
    ·intro i j d aF;obtain⟨u,h1,_⟩:=fq i j d aF;rw[h1];simp[eW,h1]
    intro i j d aF;obtain⟨u,h1,U⟩:=fq i j d aF;have:arr.getD (off+i*k+j) undef=u:=by simp[eW,h1]
    rw[this];exact U
   rw[FO]at F2;have mH:=kP.J (P:=P) t e ((List.range len).map f) hu (by rw[FO];omega);rw[hv]at mH;refine⟨_,mH ?_,.one F2⟩;intro ds e6;obtain⟨i,hi,rfl⟩:=fV.1 e6;exact (br i (by simpa using hi)).1
  ·rename_i eI hu;simp only[b9,gP]at ai;obtain⟨mG,xv⟩:=ai;obtain⟨xs,n,_,_,aj,gk,br⟩:=DataW.trod_struct hu h;rw[<-aj]at xv;obtain⟨ds,h1,U⟩:=Z4 (w:=w) xv fun f Sb=>by
    obtain⟨i,hi⟩:=p4.1 Sb;have:=br i f (by simpa using hi);have qo:i<xs.length:=by rw[gk];have:=(gh.1 hi).1;simpa using this
    rw[jA qo]at this;exact MB m f.type n _ _ (mG f Sb) this
   rw[va]at h1;exact⟨ds,.struct t eI ds hu (by rw[h1.1,aj]) (by simpa using U),h1⟩
  cases ai
end
end Go.Sx
namespace Go.Sx
open Go.ChangeShapes Go.WideShapes Go.ChangeAt Go.RowKit Go.Joins
def tG(P:Program)(t:TypeId):Bool:=match P.underlying t with | some (.struct _)=>true | _=>false
def Fe(P:Program)(t:TypeId):cL->Prop
 | .one d=>kP P t [d]/\tG P t=false
 | .agg ds=>kP P t ds/\tG P t=true
def Ff(P:Program):List TypeId->List cL->Prop
 | [],[]=>True
 | t::ts,a::as=>Fe P t a/\Ff P ts as
 | _,_=>False
section
variable {H : Type} {enc : TypeId × Value -> H} {P : Program} {w : World} {base ch : Nat} {held : Bool} {r : Reach}
theorem ax9{t:TypeId}{v:Value}{d:DataW H}{ca:List MemPlace}(ai:wC P 20 t=true)(hE:Value.okWide P w r ch t v)(h:DataW.Trod enc P w base (fun _=>true) held t v d ca):
  ∃ct,Fe P t ct/\w2 w ct v:=by
 obtain⟨h',br⟩:=h;obtain⟨ds,h1,U⟩:=MB 20 t h' _ _ ai br;have one:(∀cs,v≠.agg cs)->tG P t=false->∃ct,Fe P t ct/\w2 w ct v:=by
  intro bD ae;have al:v.cells.toList=[v]:=by
   cases v<;>first | rfl | (exact absurd rfl (bD _))
  rw[al]at U
  match ds,h1,U with
  | [d],h1,U=>
   obtain⟨u,hu,aB⟩:=U.2 0 d rfl;simp at hu;subst hu;exact⟨.one d,⟨h1,ae⟩,aB⟩
  | [],_,U=>simp[p']at U
  | _::_::_,_,U=>simp[p']at U
 rw[show (20:Nat)=19+1 from rfl]at ai;unfold wC at ai;unfold Value.okWide at hE;split at ai
 ·rename_i hu;rw[hu]at hE;refine one (fun cs e=>?_) (by simp[tG,hu]);subst e;simp[Cell.okWide,Cell.ok,hu]at hE
 ·rename_i hu;rw[hu]at hE;refine one (fun cs e=>?_) (by simp[tG,hu]);subst e;simp[Cell.okWide,Cell.ok,hu]at hE
 ·rename_i hu;rw[hu]at hE;refine one (fun cs e=>?_) (by simp[tG,hu]);subst e;simp[Cell.okWide,Cell.ok,hu]at hE
 ·rename_i hu;rw[hu]at hE;refine one (fun cs e=>?_) (by simp[tG,hu]);subst e;simp[Cell.okWide,Cell.ok,hu]at hE
 ·rename_i hu;rw[hu]at hE;obtain⟨cs,rfl,_,_⟩:=hE;refine⟨.agg ds,⟨h1,by simp[tG,hu]⟩,cs,rfl,by have:=U.1;simpa[Value.cells]using this.symm,fun i d aF=>?_⟩;obtain⟨u,kA,aB⟩:=U.2 i d aF;exact⟨u,by simpa[Value.cells]using kA,aB⟩
 cases ai
theorem Vq:∀(ts:List TypeId) (vs:List Value) (ds:List (DataW H)) (ca:List MemPlace),ts.all (wC P 20)=true->(∀(j:Nat) t v,ts[j]?=some t->vs[j]?=some v->Value.okWide P w r ch t v)->
  DataW.TrodAll enc P w base (fun _=>true) held ts vs ds ca->∃gZ,Ff P ts gZ/\vs.length=gZ.length/\∀(i:Nat) (ct:cL),gZ[i]?=some ct->∃v,vs[i]?=some v/\w2 w ct v
 | [],[],[],_,_,_,_=>⟨[],ad,rfl,fun i ct h=>by simp at h⟩
 | t::ts,v::vs,d::ds,ca,ai,hE,h=>by
  obtain⟨p,q,h1,U,_⟩:=h;simp only[List.all_cons,b9]at ai;obtain⟨ct,acM,B4⟩:=ax9 ai.1 (hE 0 t v rfl rfl) h1;obtain⟨gZ,aA,aI,a'⟩:=Vq ts vs ds q ai.2 (fun j t v bG bD=>hE (j+1) t v (by simpa using bG) (by simpa using bD)) U;refine⟨ct::gZ,⟨acM,aA⟩,by simp[aI],fun i o' hi=>?_⟩;cases i with
  | zero=>simp at hi;subst hi;exact⟨v,rfl,B4⟩
  | succ i=>simpa using a' i o' (by simpa using hi)
 | [],_::_,_,_,_,_,h=>by simp[DataW.TrodAll]at h
 | [],[],_::_,_,_,_,h=>by simp[DataW.TrodAll]at h
 | _::_,[],_,_,_,_,h=>by simp[DataW.TrodAll]at h
 | _::_,_::_,[],_,_,_,h=>by simp[DataW.TrodAll]at h
theorem Vr{H:Type}{enc:TypeId×Value->H}{P:Program}(aj:laidOutB P=true){W Bz:World}(aq:Below W.heap.size W Bz):
  ∀(ts:List TypeId) (vs:List Value) (ds:List (DataW H)) (ca:List MemPlace),ts.all (fun t=>P.readableRec t&&decide (t<P.types.size))=true->
   DataW.TrodAll enc P W 0 (fun _=>true) true ts vs ds ca->(∀x∈ca,x.block<W.heap.size)->
   DataW.TrodAll enc P Bz 0 (fun b=>decide (b<W.heap.size)) true ts vs ds ca
 | [],vs,ds,ca,_,h,_=>by
  obtain⟨rfl,rfl,rfl⟩:=trodAll_nil h;exact trodAll_mk0
 | t::ts,vs,ds,ca,bG,h,bM=>by
  obtain⟨v,aBA,d,tR,p,q,rfl,rfl,rfl,bE,aB⟩:=trodAll_cons h;simp only[List.all_cons,b9,cc]at bG;exact trodAll_cons_mk (Below.trod aj bG.1.1 bG.1.2 bE aq (fun x aa=>bM x (gE _ aa)))
   (Vr aj aq ts aBA tR q bG.2 aB (fun x aa=>bM x (hP _ aa)))
theorem Vs:∀(ts:List TypeId) (vs:List Value) (ds:List (DataW H)) (ca:List MemPlace),DataW.TrodAll enc P w base (fun _=>true) held ts vs ds ca->ds.length=ts.length
 | [],[],[],_,_=>rfl
 | t::ts,v::vs,d::ds,ca,h=>by
  obtain⟨p,q,_,U,_⟩:=h;simp[Vs ts vs ds q U]
 | [],_::_,_,_,h=>by simp[DataW.TrodAll]at h
 | [],[],_::_,_,h=>by simp[DataW.TrodAll]at h
 | _::_,[],_,_,h=>by simp[DataW.TrodAll]at h
 | _::_,_::_,[],_,h=>by simp[DataW.TrodAll]at h
theorem aya(aj:laidOutB P=true){f:Func}{fno:Nat}{s:ChangeSpec}{tb:TypeId}(fi:f.resultTypes=#[tb])(aq:P.underlying tb=some .bool)
  (hp:f.params.toList.all (fun t=>P.readableRec t&&decide (t<P.types.size))=true) (fQ:f.params.toList.all (wC P 20)=true) (SH:s.vars=[])
  {W:World} {args:Array Value} {ds gs:List (DataW H)} {before:List MemPlace} (hE:∀(j:Nat) t v,f.params[j]?=some t->args[j]?=some v->Value.okWide P W r ch t v)
  (vu:DataW.Whole enc P f.params.toList s.vars false W args.toList ds gs before)
  (ai:ds.length=f.params.size->(s.fn H ds).results=[.lit (.bool true)]/\(s.fn H ds).args=ds/\(s.fn H ds).vars=[])
  (ug:q0 W) (adI:∀gZ,Ff P f.params.toList gZ->ji P fno gZ [.one (B true)]):
  Calls P fno args W fun e Bz=>∃v,e=.returned v/\s.post enc P f false true false false W args v Bz:=by
 have acL:=vu;have bM:=vu.lt;obtain⟨p,q,BZ,R0,rfl,Kz,aDh⟩:=vu;rw[SH]at R0;obtain⟨rfl,rfl⟩:=trodVars_none R0;obtain⟨h1,U,aA⟩:=ai (by have:=Vs _ _ _ _ BZ;simpa using this);obtain⟨gZ,aed,hlen,bI⟩:=Vq _ _ _ _ fQ (fun j t v bG bD=>hE j t v (by simpa using bG) (by simpa using bD)) BZ;refine (adI gZ aed W args ug ⟨by simpa using hlen,fun i ct hi=>by simpa using bI i ct hi⟩).mono ?_;rintro e Bz ⟨v,rfl,sw,aB⟩;have bD:v=.bool true:=by
  obtain⟨ω,_,_,h⟩:=aB;simp only[n0,nz]at h;cases h;rfl
 subst bD;refine⟨_,rfl,ds,[],p++[],[],p,[],acL,?_,?_,?_,sw.below.frame _,fun h=>by cases h⟩
 ·rw[gR,h1,fi];exact trodAll_mk1 (shut_bool aq true)
 ·rw[gR,U];exact Vr aj sw.below _ _ _ _ hp BZ (fun x aa=>bM x (by simpa using aa))
 rw[gR,aA,SH];rfl
end
