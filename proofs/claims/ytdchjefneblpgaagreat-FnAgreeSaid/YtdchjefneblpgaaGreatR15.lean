import Derived.Test.YtdchjefneblpgaaGreatR13
import Derived.LoopN
import Derived.ChangeMaps5
import Derived.ChangeSame
import Derived.ChangeStays
import Derived.ProofKit
import Derived.Lib.SmallJoins
set_option linter.unusedVariables false
set_option linter.unusedSimpArgs false
namespace Go.Sx
open Go.RowKit
def h'.qH:h'->Exit
 | .normal=>.normal
 | .exit id=>.exit id
 | .ret=>.ret
def OD(w0:eN)(e:h')(st:aG):Exit->Act->World->Prop:=fun e' a w=>e'=e.qH/\Rel w0 st a w
def gA(P:Program)(c:Code)(st:aG)(e:h')(br:aG):Prop:=∀w0 a w,Rel w0 st a w->c.wp P (OD w0 e br) a w
def c6(P:Program)(c:Code)(st:aG)(e:h')(br:aG):Prop:=∃n,∀w0 a w,Rel w0 st a w->Code.rounds P c (OD w0 e br) n a w
variable{P:Program}{st br:aG}
theorem c6.last{c:Code}{e:h'}(he:e.qH≠.normal)(h:gA P c st e br):c6 P c st e br:=
 ⟨1,fun w0 a w az=>Code.wp_mono (fun e' cF aJ ⟨h1,U⟩=>by
  subst h1;cases e with
  | normal=>exact absurd rfl he
  | exit id=>exact⟨rfl,U⟩
  | ret=>exact⟨rfl,U⟩) (h w0 a w az)⟩
theorem c6.more{c:Code}{st1:aG}{e:h'}(h:gA P c st .normal st1)(U:c6 P c st1 e br):c6 P c st e br:=by
 obtain⟨n,aK⟩:=U;refine⟨n+1,fun w0 a w az=>Code.wp_mono (fun e' cF aJ ⟨h1,ax⟩=>?_) (h w0 a w az)⟩;subst h1;exact aK w0 cF aJ ax
def vo(cO:List Nat):Nat->List aI->List aI
 | _,[]=>[]
 | i,p::r=>(if cO.contains i then p else .cu)::vo cO (i+1) r
theorem Ss(cO:List Nat):∀(l:List aI) (i j:Nat),(vo cO i l)[j]?=(l[j]?).map fun p=>if cO.contains (i+j) then p else .cu
 | [],_,_=>by simp[vo]
 | p::r,i,0=>by simp[vo]
 | p::r,i,j+1=>by
  simp only[vo,oK,Ss cO r (i+1) j];rw[show i+1+j=i+(j+1) by omega]
theorem St(cO:List Nat):∀(l:List aI) (i:Nat),(vo cO i l).length=l.length
 | [],_=>rfl
 | p::r,i=>by simp[vo,St cO r]
def xh(bs:List Nat):List (Nat×List aD)->List (Nat×List aD)
 | []=>[]
 | (i,ls)::r=>if bs.contains i then (i,ls)::xh bs r else xh bs r
theorem K5(bs:List Nat)(id:Nat):∀(l:List (Nat×List aD)) (ls:List aD),dE id (xh bs l)=some ls->dE id l=some ls
 | [],_,h=>by cases h
 | (i,fS)::r,ls,h=>by
  simp only[xh]at h;simp only[dE];split at h
  ·simp only[dE]at h;split at h
   ·rename_i hi;rw[aZ hi];exact h
   rename_i hi;rw[a6 hi];exact K5 bs id r ls h
  rename_i af;have:=K5 bs id r ls h;split
  ·rename_i hi;subst hi;exfalso;have ht:∀(r:List (Nat×List aD)),dE i (xh bs r)=none:=by
    intro r;induction r with
    | nil=>rfl
    | cons x r dk=>
     obtain⟨hG,gd⟩:=x;simp only[xh];split
     ·rename_i aa;simp only[dE];rw[a6]
      ·exact dk
      intro e;subst e;exact af aa
     exact dk
   rw[ht]at h;cases h
  exact this
def EC:aD->aD
 | .v (.bool b)=>.cg b
 | l=>l
variable{w:World}
theorem Su{ω:Own}{τ:Nat->Nat×Value}(l:aD)(v:Value)(h:Sat w ω τ l v):Sat w ω τ (EC l) v:=by
 unfold EC;split
 ·exact h
 exact h
def aG.eW(st:aG)(cO bs:List Nat):aG:=⟨(vo cO 0 st.env).map (aI.map EC),(xh bs st.boxes).map fun x=>(x.1,x.2.map EC)⟩
variable{w0:eN}{a:Act}
theorem Rel.eW(h:Rel w0 st a w)(cO bs:List Nat):Rel w0 (st.eW cO bs) a w:=by
 obtain⟨ω,τ,h⟩:=h;refine⟨ω,τ,h.defers,by simp[aG.eW,St,h.size],h.below,h.owned,h.fixed,h.pinned,?_,?_⟩
 ·intro i p hp;simp only[aG.eW]at hp;rw[dG,b2]at hp;obtain⟨iz,hp,rfl⟩:=hp;rw[Ss,b2]at hp;obtain⟨tK,hp,rfl⟩:=hp;obtain⟨v,h1,U⟩:=h.env i tK hp;refine⟨v,h1,cP.map Su ?_⟩;split
  ·exact U
  exact trivial
 intro id ls aj;simp only[aG.eW]at aj;rw[tO,b2]at aj;obtain⟨kd,aj,rfl⟩:=aj;obtain⟨b,arr,ty,h1,U,ax,aF⟩:=h.boxes id kd (K5 bs id _ _ aj);exact⟨b,arr,ty,h1,U,ax,aF.map Su⟩
def K6(st:aG)(id j t k:Nat):Option aG:=
 match dE id (st.ke t []).boxes with
 | some ls=>
  match ls[j]? with
  | some (.v (.slice none 0 0))=>if t<df then some ⟨(st.ke t []).env,rA id (ls.set j (.J (.own t) k [])) (st.ke t []).boxes⟩ else none
  | _=>none
 | none=>none
def K7(st:aG)(id j t:Nat):Option aG:=
 match dE id st.boxes with
 | some kd=>
  match kd[j]? with
  | some (.J (.own hf) cb es)=>
   if t<df then
    let st1:=st.map (aD.cr (lm hf t) fun _=>true)
    match dE id st1.boxes with
    | some ls=>some ⟨st1.env,rA id (ls.set j (.J (.own t) cb es)) st1.boxes⟩
    | none=>none
   else none
  | _=>none
 | none=>none
def u5(st:aG):List (Nat×Nat×Nat)->Option aG
 | []=>some st
 | (s,t,k)::r=>
  if 1000000<=s then
   (match K7 st (s / 1000000-1) (s % 1000000) t with
   | some st1=>some st1
   | none=>K6 st (s / 1000000-1) (s % 1000000) t k).bind fun st1=>u5 st1 r else
  match (st.env.getD s .cu).leaf with
  | some (.v (.slice none 0 0))=>if t<df then u5 ⟨(st.ke t []).env.set s (.one (.J (.own t) k [])),(st.ke t []).boxes⟩ r else none
  | some (.J (.own hf) cb es)=>
   if t<df then u5 ⟨(st.map (aD.cr (lm hf t) fun _=>true)).env.set s (.one (.J (.own t) cb es)),(st.map (aD.cr (lm hf t) fun _=>true)).boxes⟩ r else none
  | _=>none
theorem cE.OM{ω:Own}{τ:Nat->Nat×Value}(h:cE w0 st a w ω τ){s:Nat}{l:aD}(aj:(st.env.getD s .cu).leaf=some l)(cf:l≠.cu):∃v,a.tmps[s]?=some v/\Sat w ω τ l v:=by
 rw[iF]at aj;cases e:st.env[s]? with
 | none=>rw[e]at aj;simp only[Option.getD_none,aI.leaf,aO]at aj;exact absurd aj.symm cf
 | some p=>
  rw[e]at aj;obtain⟨v,h1,U⟩:=h.env s p e;exact⟨v,h1,aI.dQ aj U⟩
theorem Sv{s:Nat}{v:Value}(h:a.tmps[s]?=some v):a.put (some s) v=a:=by
 simp only[Act.put];have:a.tmps.setIfInBounds s v=a.tmps:=by
  apply Array.ext
  ·simp
  intro i h1 U;rw[Array.getElem_setIfInBounds];split
  ·rename_i hi;subst hi;rw[hS U]at h;exact (eQ h).symm
  rfl
 rw[this]
theorem aoV{id j t k:Nat}(h:K6 st id j t k=some br)(az:Rel w0 st a w):Rel w0 br a w:=by
 obtain⟨ω,τ,az⟩:=az;unfold K6 at h;split at h
 ·rename_i ls ao;split at h
  ·rename_i aP;split at h
   ·rename_i iM;simp only[aO]at h;subst h;obtain⟨a1,h1,U⟩:=az.JU t k iM;refine⟨a1,_,h1.defers,h1.size,h1.below,h1.owned,h1.fixed,h1.pinned,h1.env,fun hB fr aj=>?_⟩;by_cases gq:hB=id
    ·subst gq;rw[zo ao]at aj;cases aj;obtain⟨b,arr,ty,e1,e2,cJ,e4⟩:=h1.boxes hB ls ao;refine⟨b,arr,ty,e1,e2,cJ,by rw[e4.1,fN],fun i l hi=>?_⟩;rw[jy]at hi;split at hi
     ·rename_i lh;subst lh;split at hi
      ·cases hi;obtain⟨u,fO,fb⟩:=e4.2 j _ aP;have aas:u=.slice none 0 0:=fb;subst aas;exact⟨_,fO,U⟩
      cases hi
     exact e4.2 i l hi
    rw[zp gq]at aj;exact h1.boxes hB fr aj
   cases h
  cases h
 cases h
theorem aoW{id j t:Nat}(h:K7 st id j t=some br)(az:Rel w0 st a w):Rel w0 br a w:=by
 obtain⟨ω,τ,az⟩:=az;unfold K7 at h;split at h
 case h_2=>cases h
 rename_i kd ic;split at h
 case h_2=>cases h
 rename_i hf cb es aP;split at h
 case isFalse=>cases h
 rename_i iM;simp only at h;split at h
 case h_2=>cases h
 rename_i ls ao;simp only[aO]at h;subst h;obtain⟨ck,ux,vR,awj,Yj,Yk,Yl⟩:=az.boxes id kd ic;obtain⟨v,bz,ai⟩:=Yl.2 j _ aP;have h1:cE w0 (st.map (aD.cr (lm hf t) fun _=>true)) a w (fun b=>kx hf t 0 (ω b)) (gQ τ t cb v):=
  az.dh _ (Lk iM).sat az.below (fun b ao=>az.owned b (Lj ao)) (fun id b ao=>⟨vk.2 ao,rfl⟩) (fun id b ao=>vk.1 ao)
   (fun dc bq=>by simp only[gQ];rw[a6 (by omega)])
 have U:Sat w (fun b=>kx hf t 0 (ω b)) (gQ τ t cb v) (.J (.own t) cb es) v:=⟨ai.1.frame fun b q _ aA=>⟨by
  simp only[Tag.R]at aA ⊢;rw[aA];cases q with
  | nil=>simp[kx]
  | cons x q=>obtain⟨i,j⟩:=x;simp[kx],rfl⟩,by simp[Tag.eg,gQ]⟩
 refine⟨_,_,h1.defers,h1.size,h1.below,h1.owned,h1.fixed,h1.pinned,h1.env,fun hB fr aj=>?_⟩;by_cases gq:hB=id
 ·subst gq;rw[zo ao]at aj;cases aj;obtain⟨b,arr,ty,e1,e2,cJ,e4⟩:=h1.boxes hB ls ao;refine⟨b,arr,ty,e1,e2,cJ,by rw[e4.1,fN],fun i l hi=>?_⟩;rw[jy]at hi;split at hi
  ·rename_i lh;subst lh;split at hi
   ·cases hi;have tj:b=ck:=by
     have ko:ω b=.box hB:=vk.1 e1;exact Yj b ko
    subst tj;rw[Yk]at cJ;cases cJ;exact⟨v,bz,U⟩
   cases hi
  exact e4.2 i l hi
 rw[zp gq]at aj;exact h1.boxes hB fr aj
theorem BU:∀{ns:List (Nat×Nat×Nat)} {st br:aG},u5 st ns=some br->Rel w0 st a w->Rel w0 br a w
 | [],st,br,h,az=>by simp only[u5,aO]at h;subst h;exact az
 | (s,t,k)::r,st,br,h,az=>by
  simp only[u5]at h;split at h
  ·rw[nf]at h;obtain⟨st1,h1,h⟩:=h;refine BU h ?_;split at h1
   ·rename_i st2 U;cases h1;exact aoW U az
   exact aoV h1 az
  split at h
  ·rename_i aj;obtain⟨ω,τ,az⟩:=az;obtain⟨v,bz,ai⟩:=az.OM aj (by simp);have:v=.slice none 0 0:=ai;subst this;split at h
   case isFalse=>cases h
   rename_i iM;obtain⟨a1,h1,U⟩:=az.JU t k iM;have ax:=h1.put (d:=s) (p:=.one (.J (.own t) k [])) U;rw[Sv bz]at ax;exact BU h ⟨a1,_,ax⟩
  ·rename_i hf cb es aj;obtain⟨ω,τ,az⟩:=az;obtain⟨v,bz,ai⟩:=az.OM aj (by simp);split at h
   case isFalse=>cases h
   rename_i iM;have h1:cE w0 (st.map (aD.cr (lm hf t) fun _=>true)) a w (fun b=>kx hf t 0 (ω b)) (gQ τ t cb v):=
    az.dh _ (Lk iM).sat az.below (fun b ao=>az.owned b (Lj ao)) (fun id b ao=>⟨vk.2 ao,rfl⟩) (fun id b ao=>vk.1 ao)
     (fun dc bq=>by simp only[gQ];rw[a6 (by omega)])
   have ax:=h1.put (d:=s) (p:=.one (.J (.own t) cb es)) (v:=v) ⟨ai.1.frame fun b q _ aA=>⟨by
    simp only[Tag.R]at aA ⊢;rw[aA];cases q with
    | nil=>simp[kx]
    | cons x q=>obtain⟨i,j⟩:=x;simp[kx],rfl⟩,by simp[Tag.eg,gQ]⟩
   rw[Sv bz]at ax;exact BU h ⟨_,_,ax⟩
  cases h
abbrev X6:=Option (h'×aG×List b6×List Prop)
def run(P:Program):Code->aG->List b6->X6
 | .skip,st,ans=>some (.normal,st,ans,[])
 | .label _,st,ans=>some (.normal,st,ans,[])
 | .region _ ops draw,st,ans=>if draw then (K4 P ops st ans).map fun r=>(.normal,r.1,r.2.1,r.2.2) else (xe P ops ops.toList st ans).map fun r=>(.normal,r.1,r.2.1,r.2.2)
 | .seq a b,st,ans=>
  match run P a st ans with
  | some (.normal,st1,fy,gm)=>(run P b st1 fy).map fun r=>(r.1,r.2.1,r.2.2.1,gm++r.2.2.2)
  | some (e,st1,fy,gm)=>some (e,st1,fy,gm)
  | none=>none
 | .cond c x y,st,ans=>
  match (st.bj c).leaf,ans with
  | some (.v (.bool true)),ans=>run P x st ans
  | some (.v (.bool false)),ans=>run P y st ans
  | some (.cg c),.pP true::r=>(run P x st r).map fun r=>(r.1,r.2.1,r.2.2.1,(c=true)::r.2.2.2)
  | some (.cg c),.pP false::r=>(run P y st r).map fun r=>(r.1,r.2.1,r.2.2.1,(c=false)::r.2.2.2)
  | _,_=>none
 | .block id body,st,ans=>
  match run P body st ans with
  | some (.exit i,st1,fy,gm)=>some (if i=id then .normal else .exit i,st1,fy,gm)
  | r=>r
 | .loop body,st,ans=>
  match ans with
  | .loop EA cO bs e br::r=>
   match e,u5 st EA with
   | .normal,_=>none
   | e,some st1=>some (e,br,r,[c6 P body (st1.eW cO bs) e br])
   | _,none=>none
  | _=>none
 | .exit id,st,ans=>some (.exit id,st,ans,[])
 | .ret,st,ans=>some (.ret,st,ans,[])
 | _,_,_=>none
theorem oz:∀(c:Code) {st br:aG} {ans cj:List b6} {obs:List Prop} {e:h'},run P c st ans=some (e,br,cj,obs)->c8 obs->gA P c st e br
 | .skip,st,br,ans,cj,obs,e,h,aN=>by
  simp only[run,aO,bx]at h;obtain⟨rfl,rfl,_,_⟩:=h;exact fun w0 a w az=>wp_skip ⟨rfl,az⟩
 | .label l,st,br,ans,cj,obs,e,h,aN=>by
  simp only[run,aO,bx]at h;obtain⟨rfl,rfl,_,_⟩:=h;exact fun w0 a w az=>wp_label ⟨rfl,az⟩
 | .region id ops draw,st,br,ans,cj,obs,e,h,aN=>by
  simp only[run]at h;split at h
  ·rename_i aB;rw[b2]at h;obtain⟨⟨cw,dt,eE⟩,h1,h⟩:=h;simp only[bx]at h;obtain⟨rfl,rfl,rfl,rfl⟩:=h;subst aB;exact fun w0 a w az=>aoU h1 aN az fun cF aJ h=>⟨rfl,h⟩
  rename_i aB;rw[b2]at h;obtain⟨⟨cw,dt,eE⟩,h1,h⟩:=h;simp only[bx]at h;obtain⟨rfl,rfl,rfl,rfl⟩:=h;have:draw=false:=by simpa using aB
  subst this;exact fun w0 a w az=>wp_region_list (KO _ h1 aN az fun cF aJ h=>⟨rfl,h⟩)
 | .seq x y,st,br,ans,cj,obs,e,h,aN=>by
  simp only[run]at h;split at h
  ·rename_i st1 fy gm h1;rw[b2]at h;obtain⟨⟨cw,dt,eE,js⟩,U,h⟩:=h;simp only[bx]at h;obtain⟨rfl,rfl,rfl,rfl⟩:=h;obtain⟨dR,dH⟩:=aN.append;intro w0 a w az;refine wp_seq (Code.wp_mono (fun e' cF aJ hp=>?_) (oz x h1 dR w0 a w az));obtain⟨rfl,ek⟩:=hp;exact oz y U dH w0 cF aJ ek
  ·rename_i e1 st1 fy gm cf h1;simp only[aO,bx]at h;obtain⟨rfl,rfl,rfl,rfl⟩:=h;intro w0 a w az;refine wp_seq (Code.wp_mono (fun e' cF aJ hp=>?_) (oz x h1 aN w0 a w az));obtain⟨rfl,ek⟩:=hp;cases e1 with
   | normal=>first | exact (cf rfl).elim | exact (cf _ rfl).elim | exact (cf _ _ _ rfl).elim
   | exit i=>exact⟨rfl,ek⟩
   | ret=>exact⟨rfl,ek⟩
  cases h
 | .cond c x y,st,br,ans,cj,obs,e,h,aN=>by
  intro w0 a w az;have q9:=az;obtain⟨ω,τ,ek⟩:=q9;have eV:=ek.bj c;simp only[run]at h;split at h
  ·rename_i aj;have:a.eval c=.bool true:=aI.dQ aj eV;exact wp_cond_true this (oz x h aN w0 a w az)
  ·rename_i aj;have:a.eval c=.bool false:=aI.dQ aj eV;exact wp_cond_false this (oz y h aN w0 a w az)
  ·rename_i kL r aj;rw[b2]at h;obtain⟨⟨cw,dt,eE,js⟩,U,h⟩:=h;simp only[bx]at h;obtain⟨rfl,rfl,rfl,rfl⟩:=h;have:a.eval c=.bool kL:=aI.dQ aj eV;have af:kL=true:=aN.1;exact wp_cond_true (by rw[this,af]) (oz x U aN.2 w0 a w az)
  ·rename_i kL r aj;rw[b2]at h;obtain⟨⟨cw,dt,eE,js⟩,U,h⟩:=h;simp only[bx]at h;obtain⟨rfl,rfl,rfl,rfl⟩:=h;have:a.eval c=.bool kL:=aI.dQ aj eV;have af:kL=false:=aN.1;exact wp_cond_false (by rw[this,af]) (oz y U aN.2 w0 a w az)
  cases h
 | .block id body,st,br,ans,cj,obs,e,h,aN=>by
  intro w0 a w az;simp only[run]at h;split at h
  ·rename_i i st1 fy gm h1;simp only[aO,bx]at h;obtain⟨rfl,rfl,rfl,rfl⟩:=h;refine wp_block (Code.wp_mono (fun e' cF aJ hp=>?_) (oz body h1 aN w0 a w az));obtain⟨rfl,ek⟩:=hp;simp only[h'.qH,Exit.inBlock];split
   ·exact⟨rfl,ek⟩
   exact⟨rfl,ek⟩
  rename_i cf;refine wp_block (Code.wp_mono (fun e' cF aJ hp=>?_) (oz body h aN w0 a w az));obtain⟨rfl,ek⟩:=hp;cases e with
  | normal=>exact⟨rfl,ek⟩
  | exit i=>exact absurd h (cf _ _ _ _)
  | ret=>exact⟨rfl,ek⟩
 | .loop body,st,br,ans,cj,obs,e,h,aN=>by
  intro w0 a w az;simp only[run]at h;split at h
  ·rename_i EA cO bs cc fV r;split at h
   ·cases h
   ·rename_i e1 st1 cf aK;simp only[aO,bx]at h;obtain⟨rfl,rfl,rfl,rfl⟩:=h;obtain⟨n,aj⟩:=aN.1;exact wp_loop_rounds n (aj w0 a w ((BU aK az).eW cO bs))
   cases h
  cases h
 | .exit id,st,br,ans,cj,obs,e,h,aN=>by
  simp only[run,aO,bx]at h;obtain⟨rfl,rfl,_,_⟩:=h;exact fun w0 a w az=>wp_exit ⟨rfl,az⟩
 | .ret,st,br,ans,cj,obs,e,h,aN=>by
  simp only[run,aO,bx]at h;obtain⟨rfl,rfl,_,_⟩:=h;exact fun w0 a w az=>wp_ret ⟨rfl,az⟩
 | .rangeFunc ..,_,_,_,_,_,_,h,_=>by simp[run]at h
 | .scope _,_,_,_,_,_,_,h,_=>by simp[run]at h
 | .goto _,_,_,_,_,_,_,h,_=>by simp[run]at h
 | .refuse _,_,_,_,_,_,_,h,_=>by simp[run]at h
end Go.Sx
namespace Go.Sx
open Go.RowKit
def aD.Aa:aD->D->Option (D×Option Nat)
 | .v x,hint=>
  match x,hint with
  | .slice none 0 0,.J k _=>some (.J k [],none)
  | x,_=>if x.oneCell' then some (.v x,none) else none
 | .cg c,_=>some (.v (.bool c),none)
 | .J (.own t) k es,_=>some (.J k es,some t)
 | _,_=>none
abbrev iH:=List (Nat×Nat)
def iH.at(t:Nat):iH->Option Nat
 | []=>none
 | (s,n)::r=>if s=t then some n else iH.at t r
def FY(n:Nat):Option Nat->iH
 | some t=>[(t,n)]
 | none=>[]
def rH(n:Nat):List aD->List D->Option (List D×iH)
 | [],[]=>some ([],[])
 | l::ls,d::ds=>
  match l.Aa d,rH (n+1) ls ds with
  | some (dK,t),some (ta,ts)=>some (dK::ta,FY n t++ts)
  | _,_=>none
 | _,_=>none
def GI(n:Nat):bS->cK->Option (cK×iH)
 | .one l,.one d=>(l.Aa d).map fun x=>(.one x.1,FY n x.2)
 | .agg ls,.agg ds=>(rH n ls ds).map fun x=>(.agg x.1,x.2)
 | _,_=>none
def sL(r:Nat):List aI->List cK->Option (List cK×iH)
 | [],[]=>some ([],[])
 | .bd a::cx,d::ds=>
  match GI (100*r) a d,sL (r+1) cx ds with
  | some (dK,t),some (ta,ts)=>some (dK::ta,t++ts)
  | _,_=>none
 | _,_=>none
def FZ(ts:iH):Bool:=ts.all fun x=>match ts.at x.1 with | some n=>n==x.2 | none=>false
variable{ts:iH}{n:Nat}
theorem F0(h:FZ ts=true){t:Nat}(hm:(t,n)∈ts):ts.at t=some n:=by
 have:=fW.1 h _ hm;simp only at this;split at this
 ·rename_i aaY e;rw[e];simp only[dp]at this;rw[this]
 cases this
def jk(ω:Own)(ts:iH):Own:=fun b=>
 match ω b with
 | .tok t q=>match ts.at t with | some n=>.tok n q | none=>.bB
 | _=>.bB
variable{w:World}{ω:Own}{τ:Nat->Nat×Value}
theorem aD.V7{l:aD}{h d:D}{t:Option Nat}{u:Value}(aB:l.Aa h=some (d,t))(ai:Sat w ω τ l u)
  (lk:∀s,t=some s->ts.at s=some n):bX w (jk ω ts) (Tag.own n).R d u:=by
 cases l with
 | cu=>cases aB
 | v x=>
  have e:u=x:=ai;subst e;simp only[aD.Aa]at aB;split at aB
  ·simp only[aO,bx]at aB;obtain⟨rfl,_⟩:=aB;exact .nil _ _ _
  split at aB
  ·simp only[aO,bx]at aB;obtain⟨rfl,_⟩:=aB;exact .v _ _ ‹_›
  cases aB
 | cg c=>
  have e:u=.bool c:=ai;subst e;simp only[aD.Aa,aO,bx]at aB;obtain⟨rfl,_⟩:=aB;exact .v _ _ rfl
 | J g k es=>
  cases g with
  | free=>cases aB
  | ro s=>cases aB
  | own s=>
   simp only[aD.Aa,aO,bx]at aB;obtain⟨rfl,rfl⟩:=aB;refine ai.1.frame fun b q _ aA=>⟨?_,rfl⟩
   simp only[Tag.R]at aA ⊢;simp only[jk,aA,lk s rfl]
 | ptr=>cases aB
 | ep=>cases aB
 | iC=>cases aB
 | fd=>cases aB
 | gb=>cases aB
 | hq=>cases aB
 | a8=>cases aB
 | fB=>cases aB
theorem Sw{t:Option Nat}{s:Nat}(h:t=some s):(s,n)∈FY n t:=by subst h;simp[FY]
theorem K8{w:World}{ω:Own}{τ:Nat->Nat×Value}(lk:∀t n,(t,n)∈ts->ts.at t=some n):∀{ls:List aD} {ai ds:List D} {n:Nat} {k3:iH},rH n ls ai=some (ds,k3)->(∀x∈k3,x∈ts)->
  ds.length=ls.length/\∀(j:Nat) (d:D),ds[j]?=some d->∃l,ls[j]?=some l/\∀u,Sat w ω τ l u->bX w (jk ω ts) (Tag.own (n+j)).R d u
 | [],[],ds,n,k3,h,_=>by
  simp only[rH,aO,bx]at h;obtain⟨rfl,_⟩:=h;exact⟨rfl,fun j d aB=>by simp at aB⟩
 | l::ls,bl::ai,ds,n,k3,h,j'=>by
  simp only[rH]at h;split at h
  ·rename_i dK t ta uk e1 e2;simp only[aO,bx]at h;obtain⟨rfl,rfl⟩:=h;obtain⟨h1,U⟩:=K8 (w:=w) (ω:=ω) (τ:=τ) lk e2 (fun x aa=>j' x (io _ aa));refine⟨by simp[h1],fun j d aB=>?_⟩;cases j with
   | zero=>
    simp at aB;subst aB;exact⟨l,rfl,fun u hu=>aD.V7 e1 hu fun s c'=>lk s n (j' _ (hl _ (Sw c')))⟩
   | succ j=>
    obtain⟨g',ax,aF⟩:=U j d (by simpa using aB);refine⟨g',by simpa using ax,fun u hu=>?_⟩;have:=aF u hu;rwa[show n+1+j=n+(j+1) by omega]at this
  cases h
 | [],_::_,_,_,_,h,_=>by simp[rH]at h
 | _::_,[],_,_,_,h,_=>by simp[rH]at h
theorem aoX(lk:∀t n,(t,n)∈ts->ts.at t=some n){a:bS}{h d:cK}{r:Nat}{k3:iH}(az:GI (100*r) a h=some (d,k3))(j':∀x∈k3,x∈ts)
  {y:Value} (ai:la (Sat w ω τ) a y):mT w (jk ω ts) r d y:=by
 cases a with
 | one l=>
  cases h with
  | agg c'=>cases az
  | one bl=>
   simp only[GI,b2]at az;obtain⟨⟨dK,t⟩,h1,U⟩:=az;simp only[bx]at U;obtain⟨rfl,rfl⟩:=U;exact aD.V7 h1 ai fun s c'=>lk s _ (j' _ (Sw c'))
 | agg ls=>
  cases h with
  | one bl=>cases az
  | agg c'=>
   simp only[GI,b2]at az;obtain⟨⟨ds,t⟩,h1,U⟩:=az;simp only[bx]at U;obtain⟨rfl,rfl⟩:=U;obtain⟨ax,aF⟩:=K8 (w:=w) (ω:=ω) (τ:=τ) lk h1 j';obtain⟨vs,rfl,aK,bz⟩:=ai;refine⟨vs,rfl,by omega,fun j rW aB=>?_⟩;obtain⟨l,aj,cV⟩:=aF j rW aB;obtain⟨u,hu,fb⟩:=bz j l aj;exact⟨u,hu,cV u fb⟩
theorem F1{w:World}{ω:Own}{τ:Nat->Nat×Value}{ts:iH}(lk:∀t n,(t,n)∈ts->ts.at t=some n):∀{cx:List aI} {ai ds:List cK} {r:Nat} {k3:iH},sL r cx ai=some (ds,k3)->(∀x∈k3,x∈ts)->
  ds.length=cx.length/\∀(j:Nat) (d:cK),ds[j]?=some d->∃p,cx[j]?=some p/\∀u,cP (Sat w ω τ) p u->mT w (jk ω ts) (r+j) d u
 | [],[],ds,r,k3,h,_=>by
  simp only[sL,aO,bx]at h;obtain⟨rfl,_⟩:=h;exact⟨rfl,fun j d aB=>by simp at aB⟩
 | .bd a::cx,bl::ai,ds,r,k3,h,j'=>by
  simp only[sL]at h;split at h
  ·rename_i dK t ta uk e1 e2;simp only[aO,bx]at h;obtain⟨rfl,rfl⟩:=h;obtain⟨h1,U⟩:=F1 (w:=w) (ω:=ω) (τ:=τ) lk e2 (fun x aa=>j' x (io _ aa));refine⟨by simp[h1],fun j d aB=>?_⟩;cases j with
   | zero=>
    simp at aB;subst aB;exact⟨.bd a,rfl,fun u hu=>aoX lk e1 (fun x aa=>j' x (hl _ aa)) hu⟩
   | succ j=>
    obtain⟨g',ax,aF⟩:=U j d (by simpa using aB);refine⟨g',by simpa using ax,fun u hu=>?_⟩;have:=aF u hu;rwa[show r+1+j=r+(j+1) by omega]at this
  cases h
 | [],_::_,_,_,_,h,_=>by simp[sL]at h
 | .bd _::_,[],_,_,_,h,_=>by simp[sL]at h
 | .gv _::_,_,_,_,_,h,_=>by simp[sL]at h
def cK.arg:cK->bS
 | .one d=>.one (d.leaf .free)
 | .agg ds=>.agg (ds.map (D.leaf .free))
def zC(args:List cK)(ntmps:Nat):aG:=⟨args.map (fun a=>.bd a.arg)++List.replicate (ntmps-args.length) .cu,[]⟩
theorem mu.leaf{d:D}{u:Value}(h:mu w d u):Sat w (fun _=>.bB) τ (d.leaf .free) u:=D.dQ (p:=(0,0)) h
theorem aoY{args:List cK}{vs:Array Value}(tz:qx w)(h:E6 w args vs)(ntmps:Nat):
  Rel (eN.of w) (zC args ntmps) { tmps:=vs++Array.replicate (ntmps-vs.size) undef,defers:=[] } w:=by
 refine⟨fun _=>.bB,fun _=>(0,undef),rfl,by simp[zC,h.1],hn.refl _ tz (fun _ _ h=>h),fun b ao=>absurd rfl ao,fun _ _=>rfl,(fun _ _ _ h=>by cases h),?_,fun id ls aj=>by simp[zC,dE]at aj⟩;intro i p hp;simp only[zC]at hp;rw[l7,bk]at hp;split at hp
 ·rename_i hi;rw[dG,b2]at hp;obtain⟨cn,Io,rfl⟩:=hp;obtain⟨v,bz,bD⟩:=h.2 i cn Io;refine⟨v,?_,?_⟩
  ·rw[iq,aZ (by rw[h.1];exact hi)];exact bz
  cases cn with
  | one d=>exact mu.leaf bD
  | agg ds=>
   obtain⟨us,rfl,aK,hu⟩:=bD;refine⟨us,rfl,by simpa using aK,fun j l aj=>?_⟩;rw[dG,b2]at aj;obtain⟨d,aB,rfl⟩:=aj;obtain⟨u,h1,U⟩:=hu j d aB;exact⟨u,h1,mu.leaf U⟩
 rename_i hi;rw[Am]at hp;split at hp
 ·rename_i bu;simp only[aO]at hp;subst hp;refine⟨undef,?_,ae⟩;rw[iq,a6 (by rw[h.1];exact hi),Array.getElem?_replicate,aZ (by rw[h.1];exact bu)]
 cases hp
def rm(P:Program)(st:aG):ResultVar->Option aI
 | .tmp t=>some (st.bj (.tmp t))
 | .cell a t=>
  match xw P t,P.info? t,(st.bj (.tmp a)).leaf with
  | some agg,some i,some (.ptr id off)=>
   match dE id st.boxes with
   | some ls=>sk agg i.size ls off
   | none=>none
  | _,_,_=>none
def BV(tmps:Array Value):ResultVar->Sem Value
 | .tmp t=>pure (tmps.getD t undef)
 | .cell x t=>do loadVar t (<-asAddr (tmps.getD x undef))
theorem K9(fn:Func)(tmps:Array Value):results fn tmps=(do
  let vs <-fn.results.mapM (BV tmps)
  pure (if h:vs.size=1 then vs[0] else .tuple vs)):=by
 unfold results;have:(fun x=>match x with | .tmp t=>pure (tmps.getD t undef) | .cell a t=>do loadVar t (<-asAddr (tmps.getD a undef)):ResultVar->Sem Value)=BV tmps:=by
  funext x;cases x<;>rfl
 rw[<-this];rfl
variable{P:Program}{st:aG}
theorem aoZ{w0:eN}{a:Act}(aT:cE w0 st a w ω τ){r:ResultVar}{p:aI}(h:rm P st r=some p):
  ∃z,(BV a.tmps r).run P w=.ok z w/\cP (Sat w ω τ) p z:=by
 cases r with
 | tmp t=>
  simp only[rm,aO]at h;subst h;exact⟨_,rfl,aT.bj (.tmp t)⟩
 | cell x t=>
  simp only[rm]at h;split at h
  ·rename_i agg i id off e1 e2 cJ;split at h
   ·rename_i ls cv;have aa:=aI.dQ cJ (aT.bj (.tmp x));obtain⟨b,ao,aa⟩:=aa;simp only[Act.eval]at aa;obtain⟨c3,arr,ty,di,Bc,IG,c7,eV⟩:=aT.boxes id ls cv;have:=Bc b ao;subst this;have:=zm (P:=P) e1 e2 h IG (base:=0) (by omega) (fun j l aj=>by simpa using eV j l aj);simpa[BV,aa,asAddr]using this
   cases h
  cases h
def GJ(P:Program)(st:aG)(kC:List ResultVar)(hint:List cK):Option (List cK):=
 match kC.mapM (rm P st) with
 | some cx=>
  match sL 0 cx hint with
  | some (ds,ts)=>if FZ ts then some ds else none
  | none=>none
 | none=>none
theorem F2{w0:eN}{a:Act}(aT:cE w0 st a w ω τ):∀{kC:List ResultVar} {cx:List aI},kC.mapM (rm P st)=some cx->
  ∃zs:List Value,(kC.mapM (BV a.tmps)).run P w=.ok zs w/\zs.length=cx.length/\∀(i:Nat) (p:aI),cx[i]?=some p->∃z,zs[i]?=some z/\cP (Sat w ω τ) p z
 | [],cx,h=>by simp at h;subst h;exact⟨[],rfl,rfl,fun i p hp=>by simp at hp⟩
 | r::kC,cx,h=>by
  rw[yb]at h;cases e:rm P st r with
  | none=>simp[e]at h
  | some iz=>
   cases e2:kC.mapM (rm P st) with
   | none=>simp[e,e2]at h
   | some axf=>
    simp[e,e2]at h;subst h;obtain⟨z,h1,U⟩:=aoZ aT e;obtain⟨zs,ax,aF,aQ⟩:=F2 aT e2;refine⟨z::zs,?_,by simp[aF],fun i p hp=>?_⟩
    ·rw[yb,Sem.run_bind,h1,Result.andThen_ok,Sem.run_bind,ax];rfl
    cases i with
    | zero=>simp at hp;subst hp;exact⟨z,rfl,U⟩
    | succ i=>exact aQ i p (by simpa using hp)
theorem Sy{f:FuncId}{fn:Func}{c:Code}{args rs:List cK}{ans cj:List b6}{obs:List Prop}{e:h'}(bg:P.funcs[f]?=some fn)(ao:fn.body=some c)
  (fj:run P c (zC args fn.ntmps) ans=some (e,st,cj,obs)) (aN:c8 obs) (he:e=.ret\/e=.normal) (fi:GJ P st fn.results.toList rs=some rs):ja P f args rs:=by
 intro w vs tz nx;refine calls_of_wp bg ao (Code.wp_mono (fun e' cF aJ hp=>?_) (oz c fj aN (eN.of w) _ w (aoY tz nx fn.ntmps)));obtain⟨rfl,ω,τ,aT⟩:=hp;unfold GJ at fi;split at fi
 ·rename_i cx tw;split at fi
  ·rename_i ds ts eI;split at fi
   ·rename_i bD;simp only[aO]at fi;subst fi;obtain⟨zs,h1,U,ax⟩:=F2 aT tw;obtain⟨aF,aQ⟩:=F1 (w:=aJ) (ω:=ω) (τ:=τ) (fun t n h=>F0 bD h) eI (fun x aa=>aa);have hm:=EW (P:=P) _ fn.results aJ _ h1;have fa:∀(j:Nat) (d:cK),ds[j]?=some d->∃z,zs[j]?=some z/\mT aJ (jk ω ts) j d z:=by
     intro j d aB;obtain⟨p,hp,tv⟩:=aQ j d aB;obtain⟨z,aW,se⟩:=ax j p hp;exact⟨z,aW,by have:=tv z se;rwa[dq]at this⟩
    have lY:zs.length=ds.length:=by omega
    have Ze:∀v,(if h:zs.toArray.size=1 then zs.toArray[0] else .tuple zs.toArray)=v->yi w aJ ds v:=by
     intro v bz;refine⟨jk ω ts,fun b ao=>?_,fun b ao=>?_,?_⟩
     ·cases da:ω b with
      | bB=>simp[jk,da]
      | box id=>simp[jk,da]
      | tok t q=>
       rcases (aT.owned b (by simp[da])).1 with h | h
       ·exact absurd ao (by have h:w.heap.size<=b:=h;omega)
       exact absurd h (fun h=>h)
     ·cases da:ω b with
      | bB=>simp[jk,da]at ao
      | box id=>simp[jk,da]at ao
      | tok t q=>
       refine⟨?_,(aT.owned b (by simp[da])).2⟩;simp only[jk,da]at ao ⊢;cases lk:ts.at t with
       | none=>simp[lk]at ao
       | some n=>exact⟨n,q,rfl⟩
     unfold nL;split
     ·rename_i cn;obtain⟨z,aW,af⟩:=fa 0 cn rfl;have h1:zs.length=1:=by rw[lY];rfl
      have p1:zs=[z]:=by
       match zs,h1,aW with
       | [z0],_,aW=>simp at aW;rw[aW]
      have Be:v=z:=by
       rw[<-bz];simp[p1]
      rw[Be];exact af
     rename_i cf;have h1:¬zs.toArray.size=1:=by
      intro h;simp at h;rw[lY]at h;obtain⟨d,aB⟩:=List.length_eq_one_iff.1 h;exact cf d aB
     rw[dif_neg h1]at bz;exact⟨zs.toArray,bz.symm,by simpa using lY,fun r cn az=>by obtain⟨z,aW,af⟩:=fa r cn az;exact⟨z,by simpa using aW,af⟩⟩
    have ed:∃v,(results fn cF.tmps).run P aJ=.ok v aJ/\∃u,Ending.returned v=.returned u/\ho w.heap.size w aJ/\yi w aJ ds u:=by
     refine⟨_,?_,_,rfl,aT.below.below,Ze _ rfl⟩;rw[K9,Sem.run_bind,hm];rfl
    obtain⟨v,bb,bN⟩:=ed;rcases he with rfl | rfl
    ·exact⟨aT.defers,v,bb,bN⟩
    exact⟨aT.defers,v,bb,bN⟩
   cases fi
  cases fi
 cases fi
end Go.Sx
namespace Go.Sx
open Go.RowKit
def J2(P:Program)(c:Code)(ntmps:Nat)(kC:List ResultVar)(args hint:List cK)(ans:List b6):Option (List cK×List Prop):=
 match run P c (zC args ntmps) ans with
 | some (.ret,st,_,obs)=>(GJ P st kC hint).map fun rs=>(rs,obs)
 | some (.normal,st,_,obs)=>(GJ P st kC hint).map fun rs=>(rs,obs)
 | _=>none
def oA(fn:Func):Code:=fn.body.getD .skip
variable{P:Program}
theorem ja.of{f:FuncId}{fn:Func}{args rs:List cK}(ans:List b6)(obs:List Prop)(bg:P.funcs[f]?=some fn)(ao:fn.body.isSome=true)
  (h:J2 P (oA fn) fn.ntmps fn.results.toList args rs ans=some (rs,obs)) (aN:c8 obs):ja P f args rs:=by
 obtain⟨c,af⟩:=qo.1 ao;have AV:oA fn=c:=by simp[oA,af]
 unfold J2 at h;rw[AV]at h;split at h
 ·rename_i st a nJ az;rw[b2]at h;obtain⟨vN,h1,h⟩:=h;simp only[bx]at h;obtain⟨rfl,rfl⟩:=h;exact Sy bg af az aN (.inl rfl) h1
 ·rename_i st a nJ az;rw[b2]at h;obtain⟨vN,h1,h⟩:=h;simp only[bx]at h;obtain⟨rfl,rfl⟩:=h;exact Sy bg af az aN (.inr rfl) h1
 cases h
def Bo(P:Program)(body:Code)(st:aG)(ans:List b6)(cO bs:List Nat):Option (h'×aG×List Prop):=
 (run P body st ans).map fun r=>(r.1,r.2.1.eW cO bs,r.2.2.2)
variable{body:Code}{st br:aG}{e:h'}
theorem gA.JY{ans:List b6}{cO bs:List Nat}{obs:List Prop}(h:Bo P body st ans cO bs=some (e,br,obs))(aN:c8 obs):gA P body st e br:=by
 unfold Bo at h;rw[b2]at h;obtain⟨⟨cw,dt,eE,js⟩,h1,h⟩:=h;simp only[bx]at h;obtain⟨rfl,rfl,rfl⟩:=h;intro w0 a w az;exact Code.wp_mono (fun e' cF aJ ⟨h1,U⟩=>⟨h1,U.eW cO bs⟩) (oz body h1 aN w0 a w az)
def JQ(P:Program)(body:Code)(st:aG)(ans:List b6)(ns:List (Nat×Nat×Nat))(cO bs:List Nat):Option (h'×aG×List Prop):=
 (run P body st ans).bind fun r=>(u5 r.2.1 ns).map fun s=>(r.1,s.eW cO bs,r.2.2.2)
theorem gA.aa2{ans:List b6}{ns:List (Nat×Nat×Nat)}{cO bs:List Nat}{obs:List Prop}(h:JQ P body st ans ns cO bs=some (e,br,obs))(aN:c8 obs):gA P body st e br:=by
 unfold JQ at h;rw[nf]at h;obtain⟨⟨cw,dt,eE,js⟩,h1,h⟩:=h;rw[b2]at h;obtain⟨s,ai,h⟩:=h;simp only[bx]at h;obtain⟨rfl,rfl,rfl⟩:=h;intro w0 a w az;exact Code.wp_mono (fun e' cF aJ ⟨h1,U⟩=>⟨h1,(BU ai U).eW cO bs⟩) (oz body h1 aN w0 a w az)
theorem c6.step{st1:aG}(ans:List b6)(cO bs:List Nat)(obs:List Prop)(h:Bo P body st ans cO bs=some (.normal,st1,obs))(aN:c8 obs)(U:c6 P body st1 e br):c6 P body st e br:=
 .more (gA.JY h aN) U
theorem c6.done(ans:List b6)(cO bs:List Nat)(obs:List Prop)(he:e.qH≠.normal)(h:Bo P body st ans cO bs=some (e,br,obs))(aN:c8 obs):c6 P body st e br:=
 .last he (gA.JY h aN)
theorem cL(i:Nat):(h'.exit i).qH≠.normal:=fun h=>by cases h
theorem fl:h'.ret.qH≠.normal:=fun h=>by cases h
def u6:Code->List Code
 | .seq a b=>u6 a++u6 b
 | .cond _ a b=>u6 a++u6 b
 | .block _ b=>u6 b
 | .loop b=>b::u6 b
 | .scope b=>u6 b
 | _=>[]
def av(fn:Func)(i:Nat):Code:=(u6 (oA fn)).getD i .skip
def u7:Code->List (Nat×Array Oper)
 | .region id ops true=>[(id,ops)]
 | .seq a b=>u7 a++u7 b
 | .cond _ a b=>u7 a++u7 b
 | .block _ b=>u7 b
 | .loop b=>u7 b
 | .scope b=>u7 b
 | _=>[]
def kk(fn:Func)(id:Nat):Array Oper:=(((u7 (oA fn)).find? fun x=>Nat.beq x.1 id).map (·.2)).getD #[]
def Yq(n:Nat)(l:List (Nat×aI)):List aI:=l.foldl (fun e x=>e.set x.1 x.2) (List.replicate n .cu)
abbrev I(n:Int):D:=.v (.int .i64 n)
abbrev B(b:Bool):D:=.v (.bool b)
abbrev av0(s:ByteArray):D:=.v (.string s)
end Go.Sx
namespace Go.Sx
open Go.RowKit
inductive kJ (P:Program):TypeId->List D->Prop
 | bool (t:TypeId) (b:Bool) (h:P.underlying t=some .bool):kJ P t [.v (.bool b)]
 | int (t:TypeId) (k:IntKind) (n:Int) (h:P.underlying t=some (.int k)) (hw:(Lit.int k n).wf=true):kJ P t [.v (.int k n)]
 | str (t:TypeId) (s:ByteArray) (h:P.underlying t=some .string) (ai:s.size<=maxLen):kJ P t [.v (.string s)]
 | J (t e:TypeId) (es:List (List D)) (h:P.underlying t=some (.slice e)) (aj:es.length<=maxLen) (he:∀ds∈es,kJ P e ds):kJ P t [.J (P.cellsOf e) es]
 | struct (t:TypeId) (fg:Array Field) (ds:List D) (h:P.underlying t=some (.struct fg)) (aj:ds.length=P.cellsOf t) (bg:∀f∈fg.toList,kJ P f.type ((ds.drop f.offset).take (P.cellsOf f.type))):kJ P t ds
def vP(P:Program):Nat->List Field->Nat->Bool
 | o,[],n=>o==n
 | o,f::r,n=>f.offset==o&&vP P (o+P.cellsOf f.type) r n
def u9(P:Program):Nat->TypeId->Bool
 | 0,_=>false
 | m+1,t=>
  match P.underlying t with
  | some .bool | some (.int _) | some .string=>true
  | some (.slice e)=>decide (0<P.cellsOf e)&&u9 P m e
  | some (.struct fg)=>fg.toList.all (fun f=>u9 P m f.type)&&vP P 0 fg.toList (P.cellsOf t)
  | _=>false
def pO(w:World)(ds:List D)(cs:List Value):Prop:=ds.length=cs.length/\∀(i:Nat) (d:D),ds[i]?=some d->∃v,cs[i]?=some v/\mu w d v
theorem pO.one{w:World}{d:D}{v:Value}(h:mu w d v):pO w [d] [v]:=
 ⟨rfl,fun i dK aB=>by
  cases i with
  | zero=>simp at aB;subst aB;exact⟨v,rfl,h⟩
  | succ i=>simp at aB⟩
theorem pO.append{w:World}{a b:List D}{x y:List Value}(h:pO w a x)(k:pO w b y):pO w (a++b) (x++y):=by
 refine⟨by simp[h.1,k.1],fun i d aB=>?_⟩;rw[l7]at aB ⊢;rw[<-h.1];split at aB
 ·rename_i hi;rw[aZ hi];exact h.2 i d aB
 rename_i hi;rw[a6 hi];exact k.2 _ d aB
theorem K'{P:Program}:∀{gB:List Field} {o n:Nat},vP P o gB n=true->o<=n/\∀f∈gB,o<=f.offset/\f.offset+P.cellsOf f.type<=n
 | [],o,n,h=>by simp[vP]at h;exact⟨by omega,fun f bg=>by cases bg⟩
 | f::r,o,n,h=>by
  simp only[vP,b8,dp]at h;obtain⟨h1,U⟩:=K' h.2;refine⟨by omega,fun g ar=>?_⟩;rcases et.1 ar with rfl | ar
  ·exact⟨by omega,by omega⟩
  have:=U g ar;exact⟨by omega,this.2⟩
theorem We{P:Program}{w:World}{cs:List Value}:∀{gB:List Field} {o:Nat},vP P o gB cs.length=true->
  (∀f∈gB,∃ds,kJ P f.type ds/\pO w ds ((cs.drop f.offset).take (P.cellsOf f.type)))->
  ∃ds,pO w ds (cs.drop o)/\∀f∈gB,kJ P f.type ((ds.drop (f.offset-o)).take (P.cellsOf f.type))
 | [],o,h,_=>by
  simp only[vP,dp]at h;subst h;exact⟨[],⟨by simp,fun i d aB=>by simp at aB⟩,fun f bg=>by cases bg⟩
 | f::r,o,h,bg=>by
  have hle:=K' h;simp only[vP,b8,dp]at h;obtain⟨bl,h⟩:=h;obtain⟨ds,h1,U⟩:=We h fun g ar=>bg g (by simp[ar])
  obtain⟨d0,ax,aF⟩:=bg f (by simp);have wz:d0.length=P.cellsOf f.type:=by
   rw[aF.1];have:=(hle.2 f (by simp)).2;simp;omega
  refine⟨d0++ds,?_,?_⟩
  ·have:cs.drop o=(cs.drop f.offset).take (P.cellsOf f.type)++cs.drop (o+P.cellsOf f.type):=by
    rw[bl,<-List.drop_drop];exact (OA _ _).symm
   rw[this];exact aF.append h1
  intro g ar;rcases et.1 ar with rfl | ar
  ·rw[bl,Nat.sub_self,sV,Hv (by omega),vU (by omega)];exact ax
  have awL:=U g ar;have:=(K' h).2 g ar;rw[List.drop_append,List.drop_eq_nil_of_le (show d0.length<=g.offset-o by omega),List.nil_append,wz];rwa[show g.offset-o-P.cellsOf f.type=g.offset-(o+P.cellsOf f.type) by omega]
section
variable {H : Type} {enc : TypeId × Value -> H} {P : Program} {w : World} {base : Nat} {held : Bool}
theorem F3{a:Addr}{k:Nat}{cs:List Value}(h:w.cells? base a k=some cs):cs.length=k/\∀i,i<k->w.cell? (a.add i)=cs[i]?:=by
 unfold World.cells? at h;split at h
 ·exact⟨by simpa using mapM_some_length h,fun i hi=>mapM_some_get h i i (by simp[hi])⟩
 cases h
theorem La{a:Addr}{v:Value}(h:w.cell? a=some v):∃arr ty cR,w.heap[a.block]?=some (.cells arr ty cR)/\a.spot=none/\arr[a.off]?=some v:=by
 unfold World.cell? at h;split at h
 ·rename_i arr ty cR e;split at h
  ·cases h
  rename_i ai;refine⟨arr,ty,cR,e,?_,h⟩;cases I3:a.spot with
  | none=>rfl
  | some x=>simp[I3]at ai
 cases h
theorem Lb:∀(m:Nat) (t:TypeId) (hW:Nat) (cs:List Value) (x:DataW H×List MemPlace),u9 P m t=true->DataW.trod enc P w base (fun _=>true) held hW t cs=some x->
  ∃ds,kJ P t ds/\pO w ds cs
 | 0,_,_,_,_,h,_=>by cases h
 | m+1,t,hW,cs,x,ai,h=>by
  unfold u9 at ai;split at ai
  ·rename_i hu;obtain⟨b,rfl,_⟩:=DataW.trod_bool hu h;exact⟨_,.bool t b hu,.one (.v _ _ rfl)⟩
  ·rename_i k hu;obtain⟨n,rfl,_,hw⟩:=DataW.trod_int hu h;exact⟨_,.int t k n hu hw,.one (.v _ _ rfl)⟩
  ·rename_i hu;obtain⟨s,rfl,_,hw⟩:=DataW.trod_string hu h;exact⟨_,.str t s hu hw,.one (.v _ _ rfl)⟩
  ·rename_i e hu;simp only[b8,b']at ai;obtain⟨mL,En⟩:=ai;rcases DataW.trod_slice hu h with⟨rfl,_⟩ | ⟨a,len,cap,O0,rest,n,_,rfl,_,_,aj,af,hlen,uP,I3,_⟩
   ·exact⟨_,.J t e [] hu (by simp) (fun ds eI=>by cases eI),.one (.nil _ _ _)⟩
   obtain⟨PQ,Ek⟩:=I3 rfl;generalize gP:P.cellsOf e=k at*;have hY:∀i,i<cap->∃cs,w.cells? base (a.add (i*k)) k=some cs/\∃x,DataW.trod enc P w base (fun _=>true) held n e cs=some x:=by
    intro i hi;by_cases lB:i<len
    ·have:=uP i lB;obtain⟨y,bn⟩:∃y,O0[i]?=some y:=⟨O0[i],gz (by omega)⟩
     rw[bn,nf]at this;obtain⟨cs,h1,U⟩:=this;exact⟨cs,h1,y,U⟩
    have:=Ek (i-len) (by omega);rw[show len+(i-len)=i by omega]at this;obtain⟨y,bn⟩:∃y,rest[i-len]?=some y:=⟨rest[i-len],gz (by omega)⟩
    rw[bn,nf]at this;obtain⟨cs,h1,U⟩:=this;exact⟨cs,h1,y,U⟩
   by_cases f':cap=0
   ·subst f';have:len=0:=by omega
    subst this;have:=kJ.J (P:=P) t e [] hu (by simp) (fun ds eI=>by cases eI);exact⟨_,this,.one (.nil _ _ _)⟩
   have Y9:∀i,∃ds,i<len->kJ P e ds/\∃cs,w.cells? base (a.add (i*k)) k=some cs/\pO w ds cs:=by
    intro i;by_cases hi:i<len
    ·obtain⟨cs,h1,x,U⟩:=hY i (by omega);obtain⟨ds,ax,aF⟩:=Lb m e n cs x En U;exact⟨ds,fun _=>⟨ax,cs,h1,aF⟩⟩
    exact⟨[],fun h=>absurd h hi⟩
   obtain⟨f,bg⟩:=Classical.skolem.1 Y9;obtain⟨cl,qU,_⟩:=hY (cap-1) (by omega);obtain⟨awF,YW⟩:=F3 qU;have uS:=YW (k-1) (by omega);obtain⟨axr,I9⟩:∃v,cl[k-1]?=some v:=⟨cl[k-1],gz (by omega)⟩
   rw[I9]at uS;obtain⟨b,off,spot⟩:=a;have aah:spot=none:=by
    obtain⟨dT,YR,_⟩:=hY 0 (by omega);obtain⟨awD,YS⟩:=F3 YR;have bl:=YS 0 mL;obtain⟨v0,Ep⟩:∃v,dT[0]?=some v:=⟨dT[0],gz (by omega)⟩
    rw[Ep]at bl;obtain⟨_,_,_,_,h1,_⟩:=La bl;simpa[Addr.add]using h1
   subst aah;obtain⟨arr,ty,cR,ao,_,uS⟩:=La uS;simp only[ry]at ao uS;have c7:off+cap*k<=arr.size:=by
    have h1:=(jz.1 uS).1;have U:cap*k=(cap-1)*k+k:=by rw[<-Nat.succ_mul];congr 1;omega
    omega
   have D9:((List.range len).map f).length=len:=by simp
   have ix:∀i j d,c5 ((List.range len).map f) i j=some d->i<len/\(f i)[j]?=some d:=by
    intro i j d aB;unfold c5 at aB;rw[dG]at aB;by_cases hi:i<len
    ·rw[List.getElem?_range hi]at aB;exact⟨hi,by simpa using aB⟩
    rw[List.getElem?_eq_none (by simpa using hi)]at aB;simp at aB
   have fa:∀i j d,c5 ((List.range len).map f) i j=some d->∃u,arr[off+i*k+j]?=some u/\mu w d u:=by
    intro i j d aB;obtain⟨hi,aP⟩:=ix i j d aB;obtain⟨_,cs,h1,U⟩:=bg i hi;obtain⟨YV,tm⟩:=F3 h1;obtain⟨u,ks,az⟩:=U.2 j d aP;have A0:j<k:=by rw[<-YV];exact (ey.1 ks).1
    have:=tm j A0;rw[ks]at this;obtain⟨jb,jv,H3,gC,_,aa⟩:=La this;simp only[ry]at gC aa;rw[ao]at gC;cases gC;exact⟨u,aa,az⟩
   have Ej:bX w (fun _=>.bB) Tag.free.R (.J k ((List.range len).map f)) (.slice (some ⟨b,off,none⟩) ((List.range len).map f).length cap):=by
    refine .row _ k _ b off cap arr ty cR (fun i j=>arr.getD (off+i*k+j) undef) ao rfl (by omega) c7 ?_ ?_ ?_
    ·intro e' he;obtain⟨i,hi,rfl⟩:=jZ.1 he;obtain⟨_,cs,h1,U⟩:=bg i (by simpa using hi);rw[U.1];exact (F3 h1).1
    ·intro i j d aB;obtain⟨u,h1,_⟩:=fa i j d aB;rw[h1];simp[eu,h1]
    intro i j d aB;obtain⟨u,h1,U⟩:=fa i j d aB;have:arr.getD (off+i*k+j) undef=u:=by simp[eu,h1]
    rw[this];exact U
   rw[D9]at Ej;have nC:=kJ.J (P:=P) t e ((List.range len).map f) hu (by rw[D9];omega);rw[gP]at nC;refine⟨_,nC ?_,.one Ej⟩;intro ds eI;obtain⟨i,hi,rfl⟩:=jZ.1 eI;exact (bg i (by simpa using hi)).1
  ·rename_i fg hu;simp only[b8,fW]at ai;obtain⟨lj,uW⟩:=ai;obtain⟨xs,n,_,_,aj,gk,bg⟩:=DataW.trod_struct hu h;rw[<-aj]at uW;obtain⟨ds,h1,U⟩:=We (w:=w) uW fun f Pn=>by
    obtain⟨i,hi⟩:=pJ.1 Pn;have:=bg i f (by simpa using hi);have lV:i<xs.length:=by rw[gk];have:=(ey.1 hi).1;simpa using this
    rw[gz lV]at this;exact Lb m f.type n _ _ (lj f Pn) this
   rw[sV]at h1;exact⟨ds,.struct t fg ds hu (by rw[h1.1,aj]) (by simpa using U),h1⟩
  cases ai
end
end Go.Sx
namespace Go.Sx
open Go.ChangeShapes Go.WideShapes Go.ChangeAt Go.RowKit Go.Joins
def sZ(P:Program)(t:TypeId):Bool:=match P.underlying t with | some (.struct _)=>true | _=>false
def DG(P:Program)(t:TypeId):cK->Prop
 | .one d=>kJ P t [d]/\sZ P t=false
 | .agg ds=>kJ P t ds/\sZ P t=true
def DH(P:Program):List TypeId->List cK->Prop
 | [],[]=>True
 | t::ts,a::as=>DG P t a/\DH P ts as
 | _,_=>False
section
variable {H : Type} {enc : TypeId × Value -> H} {P : Program} {w : World} {base ck : Nat} {held : Bool} {r : Reach}
theorem ao0{t:TypeId}{v:Value}{d:DataW H}{cx:List MemPlace}(ai:u9 P 20 t=true)(gZ:Value.okWide P w r ck t v)(h:DataW.Trod enc P w base (fun _=>true) held t v d cx):
  ∃cn,DG P t cn/\v7 w cn v:=by
 obtain⟨hW,bg⟩:=h;obtain⟨ds,h1,U⟩:=Lb 20 t hW _ _ ai bg;have one:(∀cs,v≠.agg cs)->sZ P t=false->∃cn,DG P t cn/\v7 w cn v:=by
  intro bz ad;have af:v.cells.toList=[v]:=by
   cases v<;>first | rfl | (exact absurd rfl (bz _))
  rw[af]at U
  match ds,h1,U with
  | [d],h1,U=>
   obtain⟨u,hu,az⟩:=U.2 0 d rfl;simp at hu;subst hu;exact⟨.one d,⟨h1,ad⟩,az⟩
  | [],_,U=>simp[pO]at U
  | _::_::_,_,U=>simp[pO]at U
 rw[show (20:Nat)=19+1 from rfl]at ai;unfold u9 at ai;unfold Value.okWide at gZ;split at ai
 ·rename_i hu;rw[hu]at gZ;refine one (fun cs e=>?_) (by simp[sZ,hu]);subst e;simp[Cell.okWide,Cell.ok,hu]at gZ
 ·rename_i hu;rw[hu]at gZ;refine one (fun cs e=>?_) (by simp[sZ,hu]);subst e;simp[Cell.okWide,Cell.ok,hu]at gZ
 ·rename_i hu;rw[hu]at gZ;refine one (fun cs e=>?_) (by simp[sZ,hu]);subst e;simp[Cell.okWide,Cell.ok,hu]at gZ
 ·rename_i hu;rw[hu]at gZ;refine one (fun cs e=>?_) (by simp[sZ,hu]);subst e;simp[Cell.okWide,Cell.ok,hu]at gZ
 ·rename_i hu;rw[hu]at gZ;obtain⟨cs,rfl,_,_⟩:=gZ;refine⟨.agg ds,⟨h1,by simp[sZ,hu]⟩,cs,rfl,by have:=U.1;simpa[Value.cells]using this.symm,fun i d aB=>?_⟩;obtain⟨u,ks,az⟩:=U.2 i d aB;exact⟨u,by simpa[Value.cells]using ks,az⟩
 cases ai
theorem Sz:∀(ts:List TypeId) (vs:List Value) (ds:List (DataW H)) (cx:List MemPlace),ts.all (u9 P 20)=true->(∀(j:Nat) t v,ts[j]?=some t->vs[j]?=some v->Value.okWide P w r ck t v)->
  DataW.TrodAll enc P w base (fun _=>true) held ts vs ds cx->∃gW,DH P ts gW/\vs.length=gW.length/\∀(i:Nat) (cn:cK),gW[i]?=some cn->∃v,vs[i]?=some v/\v7 w cn v
 | [],[],[],_,_,_,_=>⟨[],ae,rfl,fun i cn h=>by simp at h⟩
 | t::ts,v::vs,d::ds,cx,ai,gZ,h=>by
  obtain⟨p,q,h1,U,_⟩:=h;simp only[List.all_cons,b8]at ai;obtain⟨cn,YH,Im⟩:=ao0 ai.1 (gZ 0 t v rfl rfl) h1;obtain⟨gW,ax,aF,aQ⟩:=Sz ts vs ds q ai.2 (fun j t v bq bz=>gZ (j+1) t v (by simpa using bq) (by simpa using bz)) U;refine⟨cn::gW,⟨YH,ax⟩,by simp[aF],fun i oR hi=>?_⟩;cases i with
  | zero=>simp at hi;subst hi;exact⟨v,rfl,Im⟩
  | succ i=>simpa using aQ i oR (by simpa using hi)
 | [],_::_,_,_,_,_,h=>by simp[DataW.TrodAll]at h
 | [],[],_::_,_,_,_,h=>by simp[DataW.TrodAll]at h
 | _::_,[],_,_,_,_,h=>by simp[DataW.TrodAll]at h
 | _::_,_::_,[],_,_,_,h=>by simp[DataW.TrodAll]at h
theorem SA{H:Type}{enc:TypeId×Value->H}{P:Program}(aj:laidOutB P=true){W As:World}(ao:Below W.heap.size W As):
  ∀(ts:List TypeId) (vs:List Value) (ds:List (DataW H)) (cx:List MemPlace),ts.all (fun t=>P.readableRec t&&decide (t<P.types.size))=true->
   DataW.TrodAll enc P W 0 (fun _=>true) true ts vs ds cx->(∀x∈cx,x.block<W.heap.size)->
   DataW.TrodAll enc P As 0 (fun b=>decide (b<W.heap.size)) true ts vs ds cx
 | [],vs,ds,cx,_,h,_=>by
  obtain⟨rfl,rfl,rfl⟩:=trodAll_nil h;exact trodAll_mk0
 | t::ts,vs,ds,cx,bq,h,bu=>by
  obtain⟨v,avx,d,ta,p,q,rfl,rfl,rfl,bl,az⟩:=trodAll_cons h;simp only[List.all_cons,b8,b']at bq;exact trodAll_cons_mk (Below.trod aj bq.1.1 bq.1.2 bl ao (fun x aa=>bu x (hl _ aa)))
   (SA aj ao ts avx ta q bq.2 az (fun x aa=>bu x (io _ aa)))
theorem SB:∀(ts:List TypeId) (vs:List Value) (ds:List (DataW H)) (cx:List MemPlace),DataW.TrodAll enc P w base (fun _=>true) held ts vs ds cx->ds.length=ts.length
 | [],[],[],_,_=>rfl
 | t::ts,v::vs,d::ds,cx,h=>by
  obtain⟨p,q,_,U,_⟩:=h;simp[SB ts vs ds q U]
 | [],_::_,_,_,h=>by simp[DataW.TrodAll]at h
 | [],[],_::_,_,h=>by simp[DataW.TrodAll]at h
 | _::_,[],_,_,h=>by simp[DataW.TrodAll]at h
 | _::_,_::_,[],_,h=>by simp[DataW.TrodAll]at h
theorem ao1(aj:laidOutB P=true){f:Func}{fno:Nat}{s:ChangeSpec}{tb:TypeId}(fi:f.resultTypes=#[tb])(ao:P.underlying tb=some .bool)
  (hp:f.params.toList.all (fun t=>P.readableRec t&&decide (t<P.types.size))=true) (fk:f.params.toList.all (u9 P 20)=true) (PX:s.vars=[])
  {W:World} {args:Array Value} {ds gs:List (DataW H)} {before:List MemPlace} (gZ:∀(j:Nat) t v,f.params[j]?=some t->args[j]?=some v->Value.okWide P W r ck t v)
  (uK:DataW.Whole enc P f.params.toList s.vars false W args.toList ds gs before)
  (ai:ds.length=f.params.size->(s.fn H ds).results=[.lit (.bool true)]/\(s.fn H ds).args=ds/\(s.fn H ds).vars=[])
  (tz:qx W) (ZF:∀gW,DH P f.params.toList gW->ja P fno gW [.one (B true)]):
  Calls P fno args W fun e As=>∃v,e=.returned v/\s.post enc P f false true false false W args v As:=by
 have YG:=uK;have bu:=uK.lt;obtain⟨p,q,AQ,O9,rfl,awK,awU⟩:=uK;rw[PX]at O9;obtain⟨rfl,rfl⟩:=trodVars_none O9;obtain⟨h1,U,ax⟩:=ai (by have:=SB _ _ _ _ AQ;simpa using this);obtain⟨gW,aaf,hlen,bD⟩:=Sz _ _ _ _ fk (fun j t v bq bz=>gZ j t v (by simpa using bq) (by simpa using bz)) AQ;refine (ZF gW aaf W args tz ⟨by simpa using hlen,fun i cn hi=>by simpa using bD i cn hi⟩).mono ?_;rintro e As ⟨v,rfl,r0,az⟩;have bz:v=.bool true:=by
  obtain⟨ω,_,_,h⟩:=az;simp only[nL,mT]at h;cases h;rfl
 subst bz;refine⟨_,rfl,ds,[],p++[],[],p,[],YG,?_,?_,?_,r0.below.frame _,fun h=>by cases h⟩
 ·rw[jX,h1,fi];exact trodAll_mk1 (shut_bool ao true)
 ·rw[jX,U];exact SA aj r0.below _ _ _ _ hp AQ (fun x aa=>bu x (by simpa using aa))
 rw[jX,ax,PX];rfl
end
