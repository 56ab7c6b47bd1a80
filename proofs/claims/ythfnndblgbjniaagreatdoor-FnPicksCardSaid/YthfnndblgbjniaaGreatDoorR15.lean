import Derived.Test.YthfnndblgbjniaaGreatDoorR13
import Derived.LoopN
import Derived.ChangeMaps5
import Derived.ChangeSame
import Derived.ChangeStays
import Derived.ProofKit
import Derived.Lib.SmallJoins
set_option linter.unusedVariables false
set_option linter.unusedSimpArgs false
namespace Go.Sx
open Go.RowKit
def hD.qV:hD->Exit
 | .normal=>.normal
 | .exit id=>.exit id
 | .ret=>.ret
def NK(w0:eE)(e:hD)(st:aF):Exit->Act->World->Prop:=fun e' a w=>e'=e.qV/\Rel w0 st a w
def gP(P:Program)(c:Code)(st:aF)(e:hD)(bu:aF):Prop:=∀w0 a w,Rel w0 st a w->c.wp P (NK w0 e bu) a w
def c6(P:Program)(c:Code)(st:aF)(e:hD)(bu:aF):Prop:=∃n,∀w0 a w,Rel w0 st a w->Code.rounds P c (NK w0 e bu) n a w
variable{P:Program}{st bu:aF}
theorem c6.last{c:Code}{e:hD}(he:e.qV≠.normal)(h:gP P c st e bu):c6 P c st e bu:=
 ⟨1,fun w0 a w aH=>Code.wp_mono (fun e' cI aN ⟨U,aa⟩=>by
  subst U;cases e with
  | normal=>exact absurd rfl he
  | exit id=>exact⟨rfl,aa⟩
  | ret=>exact⟨rfl,aa⟩) (h w0 a w aH)⟩
theorem c6.more{c:Code}{dR:aF}{e:hD}(h:gP P c st .normal dR)(aa:c6 P c dR e bu):c6 P c st e bu:=by
 obtain⟨n,a'⟩:=aa;refine⟨n+1,fun w0 a w aH=>Code.wp_mono (fun e' cI aN ⟨U,aB⟩=>?_) (h w0 a w aH)⟩;subst U;exact a' w0 cI aN aB
def uk(cQ:List Nat):Nat->List aG->List aG
 | _,[]=>[]
 | i,p::r=>(if cQ.contains i then p else .cw)::uk cQ (i+1) r
theorem P6(cQ:List Nat):∀(l:List aG) (i j:Nat),(uk cQ i l)[j]?=(l[j]?).map fun p=>if cQ.contains (i+j) then p else .cw
 | [],_,_=>by simp[uk]
 | p::r,i,0=>by simp[uk]
 | p::r,i,j+1=>by
  simp only[uk,mL,P6 cQ r (i+1) j];rw[show i+1+j=i+(j+1) by omega]
theorem P7(cQ:List Nat):∀(l:List aG) (i:Nat),(uk cQ i l).length=l.length
 | [],_=>rfl
 | p::r,i=>by simp[uk,P7 cQ r]
def vI(bs:List Nat):List (Nat×List aE)->List (Nat×List aE)
 | []=>[]
 | (i,ls)::r=>if bs.contains i then (i,ls)::vI bs r else vI bs r
theorem KL(bs:List Nat)(id:Nat):∀(l:List (Nat×List aE)) (ls:List aE),dD id (vI bs l)=some ls->dD id l=some ls
 | [],_,h=>by cases h
 | (i,eW)::r,ls,h=>by
  simp only[vI]at h;simp only[dD];split at h
  ·simp only[dD]at h;split at h
   ·grind
   rename_i hi;rw[bH hi];exact KL bs id r ls h
  rename_i ao;have:=KL bs id r ls h;split
  ·rename_i hi;subst hi;exfalso;have lr:∀(r:List (Nat×List aE)),dD i (vI bs r)=none:=by
    intro r;induction r with
    | nil=>rfl
    | cons x r eO=>
     obtain⟨ix,jB⟩:=x;simp only[vI];split
     ·rename_i aq;simp only[dD];grind
     exact eO
   grind
  exact this
def Dn:aE->aE
 | .v (.bool b)=>.bg b
 | l=>l
variable{w:World}
theorem P8{ω:Own}{τ:Nat->Nat×Value}(l:aE)(v:Value)(h:Sat w ω τ l v):Sat w ω τ (Dn l) v:=by
 unfold Dn;split
 ·exact h
 exact h
def aF.fF(st:aF)(cQ bs:List Nat):aF:=⟨(uk cQ 0 st.env).map (aG.map Dn),(vI bs st.boxes).map fun x=>(x.1,x.2.map Dn)⟩
variable{w0:eE}{a:Act}
theorem Rel.fF(h:Rel w0 st a w)(cQ bs:List Nat):Rel w0 (st.fF cQ bs) a w:=by
 obtain⟨ω,τ,h⟩:=h;refine⟨ω,τ,h.defers,by simp[aF.fF,P7,h.size],h.below,h.owned,h.fixed,h.pinned,?_,?_⟩
 ·intro i p hp;simp only[aF.fF]at hp;rw[dP,ca]at hp;obtain⟨jr,hp,rfl⟩:=hp;rw[P6,ca]at hp;obtain⟨IU,hp,rfl⟩:=hp;obtain⟨v,U,aa⟩:=h.env i IU hp;refine⟨v,U,cO.map P8 ?_⟩;split
  ·exact aa
  exact trivial
 intro id ls ar;simp only[aF.fF]at ar;rw[sQ,ca]at ar;obtain⟨jm,ar,rfl⟩:=ar;obtain⟨b,arr,ty,U,aa,aB,aJ⟩:=h.boxes id jm (KL bs id _ _ ar);exact⟨b,arr,ty,U,aa,aB,aJ.map P8⟩
def KM(st:aF)(id j t k:Nat):Option aF:=
 match dD id (st.jo t []).boxes with
 | some ls=>
  match ls[j]? with
  | some (.v (.slice none 0 0))=>if t<da then some ⟨(st.jo t []).env,qo id (ls.set j (.J (.own t) k [])) (st.jo t []).boxes⟩ else none
  | _=>none
 | none=>none
def KN(st:aF)(id j t:Nat):Option aF:=
 match dD id st.boxes with
 | some jm=>
  match jm[j]? with
  | some (.J (.own gu) cu es)=>
   if t<da then
    let dR:=st.map (aE.cF (kC gu t) fun _=>true)
    match dD id dR.boxes with
    | some ls=>some ⟨dR.env,qo id (ls.set j (.J (.own t) cu es)) dR.boxes⟩
    | none=>none
   else none
  | _=>none
 | none=>none
def um(st:aF):List (Nat×Nat×Nat)->Option aF
 | []=>some st
 | (s,t,k)::r=>
  if 1000000<=s then
   (match KN st (s / 1000000-1) (s % 1000000) t with
   | some dR=>some dR
   | none=>KM st (s / 1000000-1) (s % 1000000) t k).bind fun dR=>um dR r else
  match (st.env.getD s .cw).leaf with
  | some (.v (.slice none 0 0))=>if t<da then um ⟨(st.jo t []).env.set s (.one (.J (.own t) k [])),(st.jo t []).boxes⟩ r else none
  | some (.J (.own gu) cu es)=>
   if t<da then um ⟨(st.map (aE.cF (kC gu t) fun _=>true)).env.set s (.one (.J (.own t) cu es)),(st.map (aE.cF (kC gu t) fun _=>true)).boxes⟩ r else none
  | _=>none
theorem cD.NR{ω:Own}{τ:Nat->Nat×Value}(h:cD w0 st a w ω τ){s:Nat}{l:aE}(ar:(st.env.getD s .cw).leaf=some l)(db:l≠.cw):∃v,a.tmps[s]?=some v/\Sat w ω τ l v:=by
 rw[kY]at ar;cases e:st.env[s]? with
 | none=>grind[aG.leaf,aW,absurd]
 | some p=>
  rw[e]at ar;obtain⟨v,U,aa⟩:=h.env s p e;grind[aG.dN]
theorem P9{s:Nat}{v:Value}(h:a.tmps[s]?=some v):a.put (some s) v=a:=by
 simp only[Act.put];have:a.tmps.setIfInBounds s v=a.tmps:=by
  grind
 rw[this]
theorem apE{id j t k:Nat}(h:KM st id j t k=some bu)(aH:Rel w0 st a w):Rel w0 bu a w:=by
 obtain⟨ω,τ,aH⟩:=aH;unfold KM at h;split at h
 ·rename_i ls ay;split at h
  ·rename_i bm;split at h
   ·rename_i iL;simp only[aW]at h;subst h;obtain⟨bd,U,aa⟩:=aH.IK t k iL;refine⟨bd,_,U.defers,U.size,U.below,U.owned,U.fixed,U.pinned,U.env,fun h1 fx ar=>?_⟩;by_cases hid:h1=id
    ·subst hid;rw[x5 ay]at ar;cases ar;obtain⟨b,arr,ty,e1,e2,cn,ed⟩:=U.boxes h1 ls ay;refine⟨b,arr,ty,e1,e2,cn,by rw[ed.1,hr],fun i l hi=>?_⟩;rw[oM]at hi;split at hi
     ·rename_i o9;subst o9;split at hi
      ·cases hi;obtain⟨u,gG,fw⟩:=ed.2 j _ bm;have ayq:u=.slice none 0 0:=fw;grind
      cases hi
     exact ed.2 i l hi
    rw[x6 hid]at ar;exact U.boxes h1 fx ar
   cases h
  cases h
 cases h
theorem apF{id j t:Nat}(h:KN st id j t=some bu)(aH:Rel w0 st a w):Rel w0 bu a w:=by
 obtain⟨ω,τ,aH⟩:=aH;unfold KN at h;split at h
 case h_2=>cases h
 rename_i jm hR;split at h
 case h_2=>cases h
 rename_i gu cu es bm;split at h
 case isFalse=>cases h
 rename_i iL;simp only at h;split at h
 case h_2=>cases h
 rename_i ls ay;simp only[aW]at h;subst h;obtain⟨b6,tn,uQ,axs,axt,axu,XV⟩:=aH.boxes id jm hR;obtain⟨v,bx,ak⟩:=XV.2 j _ bm;have U:cD w0 (st.map (aE.cF (kC gu t) fun _=>true)) a w (fun b=>jS gu t 0 (ω b)) (gh τ t cu v):=
  aH.ei _ (Js iL).sat aH.below (fun b ay=>aH.owned b (Jr ay)) (fun id b ay=>⟨ug.2 ay,rfl⟩) (fun id b ay=>ug.1 ay)
   (fun dn bZ=>by simp only[gh];grind)
 have aa:Sat w (fun b=>jS gu t 0 (ω b)) (gh τ t cu v) (.J (.own t) cu es) v:=⟨ak.1.frame fun b q _ aL=>⟨by
  simp only[Tag.R]at aL ⊢;rw[aL];cases q with
  | nil=>simp[jS]
  | cons x q=>grind[jS],rfl⟩,by simp[Tag.eb,gh]⟩
 refine⟨_,_,U.defers,U.size,U.below,U.owned,U.fixed,U.pinned,U.env,fun h1 fx ar=>?_⟩;by_cases hid:h1=id
 ·subst hid;rw[x5 ay]at ar;cases ar;obtain⟨b,arr,ty,e1,e2,cn,ed⟩:=U.boxes h1 ls ay;refine⟨b,arr,ty,e1,e2,cn,by rw[ed.1,hr],fun i l hi=>?_⟩;rw[oM]at hi;split at hi
  ·rename_i o9;subst o9;split at hi
   ·cases hi;have Oh:b=b6:=by
     have hP:ω b=.box h1:=ug.1 e1;grind
    grind
   cases hi
  exact ed.2 i l hi
 rw[x6 hid]at ar;exact U.boxes h1 fx ar
theorem AW:∀{ns:List (Nat×Nat×Nat)} {st bu:aF},um st ns=some bu->Rel w0 st a w->Rel w0 bu a w
 | [],st,bu,h,aH=>by grind[um,aW]
 | (s,t,k)::r,st,bu,h,aH=>by
  simp only[um]at h;split at h
  ·rw[mf]at h;obtain⟨dR,U,h⟩:=h;refine AW h ?_;split at U
   ·rename_i oI aa;cases U;exact apF aa aH
   exact apE U aH
  split at h
  ·rename_i ar;obtain⟨ω,τ,aH⟩:=aH;obtain⟨v,bx,ak⟩:=aH.NR ar (by simp);have:v=.slice none 0 0:=ak;subst this;split at h
   case isFalse=>cases h
   rename_i iL;obtain⟨bd,U,aa⟩:=aH.IK t k iL;have aB:=U.put (d:=s) (p:=.one (.J (.own t) k [])) aa;rw[P9 bx]at aB;exact AW h ⟨bd,_,aB⟩
  ·rename_i gu cu es ar;obtain⟨ω,τ,aH⟩:=aH;obtain⟨v,bx,ak⟩:=aH.NR ar (by simp);split at h
   case isFalse=>cases h
   rename_i iL;have U:cD w0 (st.map (aE.cF (kC gu t) fun _=>true)) a w (fun b=>jS gu t 0 (ω b)) (gh τ t cu v):=
    aH.ei _ (Js iL).sat aH.below (fun b ay=>aH.owned b (Jr ay)) (fun id b ay=>⟨ug.2 ay,rfl⟩) (fun id b ay=>ug.1 ay)
     (fun dn bZ=>by simp only[gh];grind)
   have aB:=U.put (d:=s) (p:=.one (.J (.own t) cu es)) (v:=v) ⟨ak.1.frame fun b q _ aL=>⟨by
    simp only[Tag.R]at aL ⊢;rw[aL];cases q with
    | nil=>simp[jS]
    | cons x q=>grind[jS],rfl⟩,by simp[Tag.eb,gh]⟩
   rw[P9 bx]at aB;exact AW h ⟨_,_,aB⟩
  cases h
abbrev XH:=Option (hD×aF×List cd×List Prop)
def run(P:Program):Code->aF->List cd->XH
 | .skip,st,ans=>some (.normal,st,ans,[])
 | .label _,st,ans=>some (.normal,st,ans,[])
 | .region _ ops draw,st,ans=>if draw then (KK P ops st ans).map fun r=>(.normal,r.1,r.2.1,r.2.2) else (wx P ops ops.toList st ans).map fun r=>(.normal,r.1,r.2.1,r.2.2)
 | .seq a b,st,ans=>
  match run P a st ans with
  | some (.normal,dR,fl,fT)=>(run P b dR fl).map fun r=>(r.1,r.2.1,r.2.2.1,fT++r.2.2.2)
  | some (e,dR,fl,fT)=>some (e,dR,fl,fT)
  | none=>none
 | .cond c x y,st,ans=>
  match (st.bn c).leaf,ans with
  | some (.v (.bool true)),ans=>run P x st ans
  | some (.v (.bool false)),ans=>run P y st ans
  | some (.bg c),.oT true::r=>(run P x st r).map fun r=>(r.1,r.2.1,r.2.2.1,(c=true)::r.2.2.2)
  | some (.bg c),.oT false::r=>(run P y st r).map fun r=>(r.1,r.2.1,r.2.2.1,(c=false)::r.2.2.2)
  | _,_=>none
 | .block id body,st,ans=>
  match run P body st ans with
  | some (.exit i,dR,fl,fT)=>some (if i=id then .normal else .exit i,dR,fl,fT)
  | r=>r
 | .loop body,st,ans=>
  match ans with
  | .loop Dm cQ bs e bu::r=>
   match e,um st Dm with
   | .normal,_=>none
   | e,some dR=>some (e,bu,r,[c6 P body (dR.fF cQ bs) e bu])
   | _,none=>none
  | _=>none
 | .exit id,st,ans=>some (.exit id,st,ans,[])
 | .ret,st,ans=>some (.ret,st,ans,[])
 | _,_,_=>none
theorem nz:∀(c:Code) {st bu:aF} {ans cm:List cd} {obs:List Prop} {e:hD},run P c st ans=some (e,bu,cm,obs)->cK obs->gP P c st e bu
 | .skip,st,bu,ans,cm,obs,e,h,bc=>by
  simp only[run,aW,bA]at h;obtain⟨rfl,rfl,_,_⟩:=h;exact fun w0 a w aH=>wp_skip ⟨rfl,aH⟩
 | .label l,st,bu,ans,cm,obs,e,h,bc=>by
  simp only[run,aW,bA]at h;obtain⟨rfl,rfl,_,_⟩:=h;exact fun w0 a w aH=>wp_label ⟨rfl,aH⟩
 | .region id ops draw,st,bu,ans,cm,obs,e,h,bc=>by
  simp only[run]at h;split at h
  ·rename_i aI;rw[ca]at h;obtain⟨⟨bE,b0,ch⟩,U,h⟩:=h;simp only[bA]at h;obtain⟨rfl,rfl,rfl,rfl⟩:=h;subst aI;exact fun w0 a w aH=>apD U bc aH fun cI aN h=>⟨rfl,h⟩
  rename_i aI;rw[ca]at h;obtain⟨⟨bE,b0,ch⟩,U,h⟩:=h;simp only[bA]at h;obtain⟨rfl,rfl,rfl,rfl⟩:=h;have:draw=false:=by grind
  subst this;exact fun w0 a w aH=>wp_region_list (Ku _ U bc aH fun cI aN h=>⟨rfl,h⟩)
 | .seq x y,st,bu,ans,cm,obs,e,h,bc=>by
  simp only[run]at h;split at h
  ·rename_i dR fl fT U;rw[ca]at h;obtain⟨⟨bE,b0,ch,eB⟩,aa,h⟩:=h;simp only[bA]at h;obtain⟨rfl,rfl,rfl,rfl⟩:=h;obtain⟨cC,cg⟩:=bc.append;intro w0 a w aH;refine wp_seq (Code.wp_mono (fun e' cI aN hp=>?_) (nz x U cC w0 a w aH));obtain⟨rfl,eS⟩:=hp;exact nz y aa cg w0 cI aN eS
  ·rename_i e1 dR fl fT db U;simp only[aW,bA]at h;obtain⟨rfl,rfl,rfl,rfl⟩:=h;intro w0 a w aH;refine wp_seq (Code.wp_mono (fun e' cI aN hp=>?_) (nz x U bc w0 a w aH));obtain⟨rfl,eS⟩:=hp;cases e1 with
   | normal=>grind
   | exit i=>exact⟨rfl,eS⟩
   | ret=>exact⟨rfl,eS⟩
  cases h
 | .cond c x y,st,bu,ans,cm,obs,e,h,bc=>by
  intro w0 a w aH;have so:=aH;obtain⟨ω,τ,eS⟩:=so;have eN:=eS.bn c;simp only[run]at h;split at h
  ·rename_i ar;have:a.eval c=.bool true:=aG.dN ar eN;exact wp_cond_true this (nz x h bc w0 a w aH)
  ·rename_i ar;have:a.eval c=.bool false:=aG.dN ar eN;exact wp_cond_false this (nz y h bc w0 a w aH)
  ·rename_i j5 r ar;rw[ca]at h;obtain⟨⟨bE,b0,ch,eB⟩,aa,h⟩:=h;simp only[bA]at h;obtain⟨rfl,rfl,rfl,rfl⟩:=h;have:a.eval c=.bool j5:=aG.dN ar eN;have ao:j5=true:=bc.1;exact wp_cond_true (by rw[this,ao]) (nz x aa bc.2 w0 a w aH)
  ·rename_i j5 r ar;rw[ca]at h;obtain⟨⟨bE,b0,ch,eB⟩,aa,h⟩:=h;simp only[bA]at h;obtain⟨rfl,rfl,rfl,rfl⟩:=h;have:a.eval c=.bool j5:=aG.dN ar eN;have ao:j5=false:=bc.1;exact wp_cond_false (by rw[this,ao]) (nz y aa bc.2 w0 a w aH)
  cases h
 | .block id body,st,bu,ans,cm,obs,e,h,bc=>by
  intro w0 a w aH;simp only[run]at h;split at h
  ·rename_i i dR fl fT U;simp only[aW,bA]at h;obtain⟨rfl,rfl,rfl,rfl⟩:=h;refine wp_block (Code.wp_mono (fun e' cI aN hp=>?_) (nz body U bc w0 a w aH));obtain⟨rfl,eS⟩:=hp;simp only[hD.qV,Exit.inBlock];split
   ·exact⟨rfl,eS⟩
   exact⟨rfl,eS⟩
  rename_i db;refine wp_block (Code.wp_mono (fun e' cI aN hp=>?_) (nz body h bc w0 a w aH));obtain⟨rfl,eS⟩:=hp;cases e with
  | normal=>exact⟨rfl,eS⟩
  | exit i=>grind
  | ret=>exact⟨rfl,eS⟩
 | .loop body,st,bu,ans,cm,obs,e,h,bc=>by
  intro w0 a w aH;simp only[run]at h;split at h
  ·rename_i Dm cQ bs bz fH r;split at h
   ·cases h
   ·rename_i e1 dR db a';simp only[aW,bA]at h;obtain⟨rfl,rfl,rfl,rfl⟩:=h;obtain⟨n,ar⟩:=bc.1;exact wp_loop_rounds n (ar w0 a w ((AW a' aH).fF cQ bs))
   cases h
  cases h
 | .exit id,st,bu,ans,cm,obs,e,h,bc=>by
  simp only[run,aW,bA]at h;obtain⟨rfl,rfl,_,_⟩:=h;exact fun w0 a w aH=>wp_exit ⟨rfl,aH⟩
 | .ret,st,bu,ans,cm,obs,e,h,bc=>by
  simp only[run,aW,bA]at h;obtain⟨rfl,rfl,_,_⟩:=h;exact fun w0 a w aH=>wp_ret ⟨rfl,aH⟩
 | .rangeFunc ..,_,_,_,_,_,_,h,_=>by simp[run]at h
 | .scope _,_,_,_,_,_,_,h,_=>by simp[run]at h
 | .goto _,_,_,_,_,_,_,h,_=>by simp[run]at h
 | .refuse _,_,_,_,_,_,_,h,_=>by simp[run]at h
end Go.Sx
namespace Go.Sx
open Go.RowKit
def aE.yq:aE->D->Option (D×Option Nat)
 | .v x,hint=>
  match x,hint with
  | .slice none 0 0,.J k _=>some (.J k [],none)
  | x,_=>if x.oneCell' then some (.v x,none) else none
 | .bg c,_=>some (.v (.bool c),none)
 | .J (.own t) k es,_=>some (.J k es,some t)
 | _,_=>none
abbrev hY:=List (Nat×Nat)
def hY.at(t:Nat):hY->Option Nat
 | []=>none
 | (s,n)::r=>if s=t then some n else hY.at t r
def Dv(n:Nat):Option Nat->hY
 | some t=>[(t,n)]
 | none=>[]
def qI(n:Nat):List aE->List D->Option (List D×hY)
 | [],[]=>some ([],[])
 | l::ls,d::ds=>
  match l.yq d,qI (n+1) ls ds with
  | some (dK,t),some (r9,ts)=>some (dK::r9,Dv n t++ts)
  | _,_=>none
 | _,_=>none
def Fk(n:Nat):bl->cJ->Option (cJ×hY)
 | .one l,.one d=>(l.yq d).map fun x=>(.one x.1,Dv n x.2)
 | .agg ls,.agg ds=>(qI n ls ds).map fun x=>(.agg x.1,x.2)
 | _,_=>none
def rK(r:Nat):List aG->List cJ->Option (List cJ×hY)
 | [],[]=>some ([],[])
 | .aC a::b7,d::ds=>
  match Fk (100*r) a d,rK (r+1) b7 ds with
  | some (dK,t),some (r9,ts)=>some (dK::r9,t++ts)
  | _,_=>none
 | _,_=>none
def Dw(ts:hY):Bool:=ts.all fun x=>match ts.at x.1 with | some n=>n==x.2 | none=>false
variable{ts:hY}{n:Nat}
theorem Dx(h:Dw ts=true){t:Nat}(hm:(t,n)∈ts):ts.at t=some n:=by
 have:=fU.1 h _ hm;simp only at this;split at this
 ·rename_i Z7 e;rw[e];simp only[kE]at this;rw[this]
 cases this
def ij(ω:Own)(ts:hY):Own:=fun b=>
 match ω b with
 | .tok t q=>match ts.at t with | some n=>.tok n q | none=>.bG
 | _=>.bG
variable{w:World}{ω:Own}{τ:Nat->Nat×Value}
theorem aE.VB{l:aE}{h d:D}{t:Option Nat}{u:Value}(aI:l.yq h=some (d,t))(ak:Sat w ω τ l u)
  (kr:∀s,t=some s->ts.at s=some n):b1 w (ij ω ts) (Tag.own n).R d u:=by
 cases l with
 | cw=>cases aI
 | v x=>
  have e:u=x:=ak;subst e;simp only[aE.yq]at aI;split at aI
  ·simp only[aW,bA]at aI;obtain⟨rfl,_⟩:=aI;exact .nil _ _ _
  split at aI
  ·simp only[aW,bA]at aI;obtain⟨rfl,_⟩:=aI;exact .v _ _ ‹_›
  cases aI
 | bg c=>
  have e:u=.bool c:=ak;subst e;simp only[aE.yq,aW,bA]at aI;obtain⟨rfl,_⟩:=aI;exact .v _ _ rfl
 | J g k es=>
  cases g with
  | free=>cases aI
  | ro s=>cases aI
  | own s=>
   simp only[aE.yq,aW,bA]at aI;obtain⟨rfl,rfl⟩:=aI;refine ak.1.frame fun b q _ aL=>⟨?_,rfl⟩
   simp only[Tag.R]at aL ⊢;simp only[ij,aL,kr s rfl]
 | ptr=>cases aI
 | cL=>cases aI
 | hU=>cases aI
 | fd=>cases aI
 | dt=>cases aI
 | gC=>cases aI
 | aP=>cases aI
 | fp=>cases aI
theorem P'{t:Option Nat}{s:Nat}(h:t=some s):(s,n)∈Dv n t:=by subst h;simp[Dv]
theorem KO{w:World}{ω:Own}{τ:Nat->Nat×Value}(kr:∀t n,(t,n)∈ts->ts.at t=some n):∀{ls:List aE} {ak ds:List D} {n:Nat} {kV:hY},qI n ls ak=some (ds,kV)->(∀x∈kV,x∈ts)->
  ds.length=ls.length/\∀(j:Nat) (d:D),ds[j]?=some d->∃l,ls[j]?=some l/\∀u,Sat w ω τ l u->b1 w (ij ω ts) (Tag.own (n+j)).R d u
 | [],[],ds,n,kV,h,_=>by
  simp only[qI,aW,bA]at h;obtain⟨rfl,_⟩:=h;exact⟨rfl,fun j d aI=>by simp at aI⟩
 | l::ls,b4::ak,ds,n,kV,h,jj=>by
  simp only[qI]at h;split at h
  ·rename_i dK t r9 tc e1 e2;simp only[aW,bA]at h;obtain⟨rfl,rfl⟩:=h;obtain⟨U,aa⟩:=KO (w:=w) (ω:=ω) (τ:=τ) kr e2 (fun x aq=>jj x (jD _ aq));refine⟨by simp[U],fun j d aI=>?_⟩;cases j with
   | zero=>
    simp at aI;subst aI;exact⟨l,rfl,fun u hu=>aE.VB e1 hu fun s dq=>kr s n (jj _ (iy _ (P' dq)))⟩
   | succ j=>
    obtain⟨gH,aB,aJ⟩:=aa j d (by simpa using aI);refine⟨gH,by simpa using aB,fun u hu=>?_⟩;have:=aJ u hu;rwa[show n+1+j=n+(j+1) by omega]at this
  cases h
 | [],_::_,_,_,_,h,_=>by simp[qI]at h
 | _::_,[],_,_,_,h,_=>by simp[qI]at h
theorem apG(kr:∀t n,(t,n)∈ts->ts.at t=some n){a:bl}{h d:cJ}{r:Nat}{kV:hY}(aH:Fk (100*r) a h=some (d,kV))(jj:∀x∈kV,x∈ts)
  {y:Value} (ak:km (Sat w ω τ) a y):l6 w (ij ω ts) r d y:=by
 cases a with
 | one l=>
  cases h with
  | agg dq=>cases aH
  | one b4=>
   simp only[Fk,ca]at aH;obtain⟨⟨dK,t⟩,U,aa⟩:=aH;simp only[bA]at aa;obtain⟨rfl,rfl⟩:=aa;exact aE.VB U ak fun s dq=>kr s _ (jj _ (P' dq))
 | agg ls=>
  cases h with
  | one b4=>cases aH
  | agg dq=>
   simp only[Fk,ca]at aH;obtain⟨⟨ds,t⟩,U,aa⟩:=aH;simp only[bA]at aa;obtain⟨rfl,rfl⟩:=aa;obtain⟨aB,aJ⟩:=KO (w:=w) (ω:=ω) (τ:=τ) kr U jj;obtain⟨vs,rfl,a',bx⟩:=ak;refine⟨vs,rfl,by omega,fun j r8 aI=>?_⟩;obtain⟨l,ar,c1⟩:=aJ j r8 aI;obtain⟨u,hu,fw⟩:=bx j l ar;exact⟨u,hu,c1 u fw⟩
theorem Dy{w:World}{ω:Own}{τ:Nat->Nat×Value}{ts:hY}(kr:∀t n,(t,n)∈ts->ts.at t=some n):∀{b7:List aG} {ak ds:List cJ} {r:Nat} {kV:hY},rK r b7 ak=some (ds,kV)->(∀x∈kV,x∈ts)->
  ds.length=b7.length/\∀(j:Nat) (d:cJ),ds[j]?=some d->∃p,b7[j]?=some p/\∀u,cO (Sat w ω τ) p u->l6 w (ij ω ts) (r+j) d u
 | [],[],ds,r,kV,h,_=>by
  simp only[rK,aW,bA]at h;obtain⟨rfl,_⟩:=h;exact⟨rfl,fun j d aI=>by simp at aI⟩
 | .aC a::b7,b4::ak,ds,r,kV,h,jj=>by
  simp only[rK]at h;split at h
  ·rename_i dK t r9 tc e1 e2;simp only[aW,bA]at h;obtain⟨rfl,rfl⟩:=h;obtain⟨U,aa⟩:=Dy (w:=w) (ω:=ω) (τ:=τ) kr e2 (fun x aq=>jj x (jD _ aq));refine⟨by simp[U],fun j d aI=>?_⟩;cases j with
   | zero=>
    simp at aI;subst aI;exact⟨.aC a,rfl,fun u hu=>apG kr e1 (fun x aq=>jj x (iy _ aq)) hu⟩
   | succ j=>
    obtain⟨gH,aB,aJ⟩:=aa j d (by simpa using aI);refine⟨gH,by simpa using aB,fun u hu=>?_⟩;have:=aJ u hu;rwa[show r+1+j=r+(j+1) by omega]at this
  cases h
 | [],_::_,_,_,_,h,_=>by simp[rK]at h
 | .aC _::_,[],_,_,_,h,_=>by simp[rK]at h
 | .fN _::_,_,_,_,_,h,_=>by simp[rK]at h
def cJ.arg:cJ->bl
 | .one d=>.one (d.leaf .free)
 | .agg ds=>.agg (ds.map (D.leaf .free))
def yh(args:List cJ)(ntmps:Nat):aF:=⟨args.map (fun a=>.aC a.arg)++List.replicate (ntmps-args.length) .cw,[]⟩
theorem lA.leaf{d:D}{u:Value}(h:lA w d u):Sat w (fun _=>.bG) τ (d.leaf .free) u:=D.dN (p:=(0,0)) h
theorem apH{args:List cJ}{vs:Array Value}(p':nU w)(h:DI w args vs)(ntmps:Nat):
  Rel (eE.of w) (yh args ntmps) { tmps:=vs++Array.replicate (ntmps-vs.size) undef,defers:=[] } w:=by
 refine⟨fun _=>.bG,fun _=>(0,undef),rfl,by simp[yh,h.1],gz.refl _ p' (fun _ _ h=>h),fun b ay=>absurd rfl ay,fun _ _=>rfl,(fun _ _ _ h=>by cases h),?_,fun id ls ar=>by simp[yh,dD]at ar⟩;intro i p hp;simp only[yh]at hp;rw[pz,cr]at hp;split at hp
 ·rename_i hi;rw[dP,ca]at hp;obtain⟨cq,G',rfl⟩:=hp;obtain⟨v,bx,cN⟩:=h.2 i cq G';refine⟨v,?_,?_⟩
  ·rw[jE,bL (by rw[h.1];exact hi)];exact bx
  cases cq with
  | one d=>exact lA.leaf cN
  | agg ds=>
   obtain⟨us,rfl,a',hu⟩:=cN;refine⟨us,rfl,by simpa using a',fun j l ar=>?_⟩;rw[dP,ca]at ar;obtain⟨d,aI,rfl⟩:=ar;obtain⟨u,U,aa⟩:=hu j d aI;exact⟨u,U,lA.leaf aa⟩
 rename_i hi;rw[B9]at hp;split at hp
 ·rename_i bO;simp only[aW]at hp;subst hp;refine⟨undef,?_,ad⟩;rw[jE,bH (by rw[h.1];exact hi),Array.getElem?_replicate,bL (by rw[h.1];exact bO)]
 cases hp
def qu(P:Program)(st:aF):ResultVar->Option aG
 | .tmp t=>some (st.bn (.tmp t))
 | .cell a t=>
  match wh P t,P.info? t,(st.bn (.tmp a)).leaf with
  | some agg,some i,some (.ptr id off)=>
   match dD id st.boxes with
   | some ls=>rj agg i.size ls off
   | none=>none
  | _,_,_=>none
def AX(tmps:Array Value):ResultVar->Sem Value
 | .tmp t=>pure (tmps.getD t undef)
 | .cell x t=>do loadVar t (<-asAddr (tmps.getD x undef))
theorem KP(fn:Func)(tmps:Array Value):results fn tmps=(do
  let vs <-fn.results.mapM (AX tmps)
  pure (if h:vs.size=1 then vs[0] else .tuple vs)):=by
 unfold results;have:(fun x=>match x with | .tmp t=>pure (tmps.getD t undef) | .cell a t=>do loadVar t (<-asAddr (tmps.getD a undef)):ResultVar->Sem Value)=AX tmps:=by
  funext x;cases x<;>rfl
 rw[<-this];rfl
variable{P:Program}{st:aF}
theorem apI{w0:eE}{a:Act}(aZ:cD w0 st a w ω τ){r:ResultVar}{p:aG}(h:qu P st r=some p):
  ∃z,(AX a.tmps r).run P w=.ok z w/\cO (Sat w ω τ) p z:=by
 cases r with
 | tmp t=>
  simp only[qu,aW]at h;subst h;exact⟨_,rfl,aZ.bn (.tmp t)⟩
 | cell x t=>
  simp only[qu]at h;split at h
  ·rename_i agg i id off e1 e2 cn;split at h
   ·rename_i ls df;have aq:=aG.dN cn (aZ.bn (.tmp x));obtain⟨b,ay,aq⟩:=aq;simp only[Act.eval]at aq;obtain⟨dw,arr,ty,eM,Da,Ht,dI,eN⟩:=aZ.boxes id ls df;have:=Da b ay;subst this;have:=x4 (P:=P) e1 e2 h Ht (base:=0) (by omega) (fun j l ar=>by simpa using eN j l ar);simpa[AX,aq,asAddr]using this
   cases h
  cases h
def Fl(P:Program)(st:aF)(jW:List ResultVar)(hint:List cJ):Option (List cJ):=
 match jW.mapM (qu P st) with
 | some b7=>
  match rK 0 b7 hint with
  | some (ds,ts)=>if Dw ts then some ds else none
  | none=>none
 | none=>none
theorem Dz{w0:eE}{a:Act}(aZ:cD w0 st a w ω τ):∀{jW:List ResultVar} {b7:List aG},jW.mapM (qu P st)=some b7->
  ∃zs:List Value,(jW.mapM (AX a.tmps)).run P w=.ok zs w/\zs.length=b7.length/\∀(i:Nat) (p:aG),b7[i]?=some p->∃z,zs[i]?=some z/\cO (Sat w ω τ) p z
 | [],b7,h=>by simp at h;subst h;exact⟨[],rfl,rfl,fun i p hp=>by simp at hp⟩
 | r::jW,b7,h=>by
  rw[yF]at h;cases e:qu P st r with
  | none=>simp[e]at h
  | some jr=>
   cases e2:jW.mapM (qu P st) with
   | none=>simp[e,e2]at h
   | some ayK=>
    simp[e,e2]at h;subst h;obtain⟨z,U,aa⟩:=apI aZ e;obtain⟨zs,aB,aJ,a6⟩:=Dz aZ e2;refine⟨z::zs,?_,by simp[aJ],fun i p hp=>?_⟩
    ·rw[yF,Sem.run_bind,U,Result.andThen_ok,Sem.run_bind,aB];rfl
    cases i with
    | zero=>simp at hp;subst hp;exact⟨z,rfl,aa⟩
    | succ i=>exact a6 i p (by simpa using hp)
theorem Rz{f:FuncId}{fn:Func}{c:Code}{args rs:List cJ}{ans cm:List cd}{obs:List Prop}{e:hD}(b8:P.funcs[f]?=some fn)(ay:fn.body=some c)
  (fv:run P c (yh args fn.ntmps) ans=some (e,st,cm,obs)) (bc:cK obs) (he:e=.ret\/e=.normal) (e4:Fl P st fn.results.toList rs=some rs):ie P f args rs:=by
 intro w vs p' mu;refine calls_of_wp b8 ay (Code.wp_mono (fun e' cI aN hp=>?_) (nz c fv bc (eE.of w) _ w (apH p' mu fn.ntmps)));obtain⟨rfl,ω,τ,aZ⟩:=hp;unfold Fl at e4;split at e4
 ·rename_i b7 sn;split at e4
  ·rename_i ds ts eU;split at e4
   ·rename_i cN;simp only[aW]at e4;subst e4;obtain⟨zs,U,aa,aB⟩:=Dz aZ sn;obtain⟨aJ,a6⟩:=Dy (w:=aN) (ω:=ω) (τ:=τ) (fun t n h=>Dx cN h) eU (fun x aq=>aq);have hm:=D8 (P:=P) _ fn.results aN _ U;have fo:∀(j:Nat) (d:cJ),ds[j]?=some d->∃z,zs[j]?=some z/\l6 aN (ij ω ts) j d z:=by
     intro j d aI;obtain⟨p,hp,sl⟩:=a6 j d aI;obtain⟨z,bp,rb⟩:=aB j p hp;exact⟨z,bp,by have:=sl z rb;rwa[dW]at this⟩
    have lZ:zs.length=ds.length:=by omega
    have YD:∀v,(if h:zs.toArray.size=1 then zs.toArray[0] else .tuple zs.toArray)=v->wP w aN ds v:=by
     intro v bx;refine⟨ij ω ts,fun b ay=>?_,fun b ay=>?_,?_⟩
     ·cases dj:ω b with
      | bG=>simp[ij,dj]
      | box id=>simp[ij,dj]
      | tok t q=>
       rcases (aZ.owned b (by simp[dj])).1 with h | h
       ·exact absurd ay (by have h:w.heap.size<=b:=h;omega)
       exact absurd h (fun h=>h)
     ·cases dj:ω b with
      | bG=>simp[ij,dj]at ay
      | box id=>simp[ij,dj]at ay
      | tok t q=>
       refine⟨?_,(aZ.owned b (by simp[dj])).2⟩;simp only[ij,dj]at ay ⊢;cases kr:ts.at t with
       | none=>simp[kr]at ay
       | some n=>exact⟨n,q,rfl⟩
     unfold mB;split
     ·rename_i cq;obtain⟨z,bp,ao⟩:=fo 0 cq rfl;have U:zs.length=1:=by rw[lZ];rfl
      have ra:zs=[z]:=by
       match zs,U,bp with
       | [z0],_,bp=>simp at bp;rw[bp]
      have HU:v=z:=by
       rw[<-bx];simp[ra]
      rw[HU];exact ao
     rename_i db;have U:¬zs.toArray.size=1:=by
      intro h;simp at h;rw[lZ]at h;obtain⟨d,aI⟩:=List.length_eq_one_iff.1 h;exact db d aI
     rw[dif_neg U]at bx;exact⟨zs.toArray,bx.symm,by simpa using lZ,fun r cq aH=>by obtain⟨z,bp,ao⟩:=fo r cq aH;exact⟨z,by simpa using bp,ao⟩⟩
    have dY:∃v,(results fn cI.tmps).run P aN=.ok v aN/\∃u,Ending.returned v=.returned u/\gA w.heap.size w aN/\wP w aN ds u:=by
     refine⟨_,?_,_,rfl,aZ.below.below,YD _ rfl⟩;rw[KP,Sem.run_bind,hm];rfl
    obtain⟨v,bF,bY⟩:=dY;rcases he with rfl | rfl
    ·exact⟨aZ.defers,v,bF,bY⟩
    exact⟨aZ.defers,v,bF,bY⟩
   cases e4
  cases e4
 cases e4
end Go.Sx
namespace Go.Sx
open Go.RowKit
def IS(P:Program)(c:Code)(ntmps:Nat)(jW:List ResultVar)(args hint:List cJ)(ans:List cd):Option (List cJ×List Prop):=
 match run P c (yh args ntmps) ans with
 | some (.ret,st,_,obs)=>(Fl P st jW hint).map fun rs=>(rs,obs)
 | some (.normal,st,_,obs)=>(Fl P st jW hint).map fun rs=>(rs,obs)
 | _=>none
def nA(fn:Func):Code:=fn.body.getD .skip
variable{P:Program}
theorem ie.of{f:FuncId}{fn:Func}{args rs:List cJ}(ans:List cd)(obs:List Prop)(b8:P.funcs[f]?=some fn)(ay:fn.body.isSome=true)
  (h:IS P (nA fn) fn.ntmps fn.results.toList args rs ans=some (rs,obs)) (bc:cK obs):ie P f args rs:=by
 obtain⟨c,ao⟩:=qO.1 ay;have zh:nA fn=c:=by simp[nA,ao]
 unfold IS at h;rw[zh]at h;split at h
 ·rename_i st a mz aH;rw[ca]at h;obtain⟨uN,U,h⟩:=h;simp only[bA]at h;obtain⟨rfl,rfl⟩:=h;exact Rz b8 ao aH bc (.inl rfl) U
 ·rename_i st a mz aH;rw[ca]at h;obtain⟨uN,U,h⟩:=h;simp only[bA]at h;obtain⟨rfl,rfl⟩:=h;exact Rz b8 ao aH bc (.inr rfl) U
 cases h
def Dk(P:Program)(body:Code)(st:aF)(ans:List cd)(cQ bs:List Nat):Option (hD×aF×List Prop):=
 (run P body st ans).map fun r=>(r.1,r.2.1.fF cQ bs,r.2.2.2)
variable{body:Code}{st bu:aF}{e:hD}
theorem gP.Po{ans:List cd}{cQ bs:List Nat}{obs:List Prop}(h:Dk P body st ans cQ bs=some (e,bu,obs))(bc:cK obs):gP P body st e bu:=by
 unfold Dk at h;rw[ca]at h;obtain⟨⟨bE,b0,ch,eB⟩,U,h⟩:=h;simp only[bA]at h;obtain⟨rfl,rfl,rfl⟩:=h;intro w0 a w aH;exact Code.wp_mono (fun e' cI aN ⟨U,aa⟩=>⟨U,aa.fF cQ bs⟩) (nz body U bc w0 a w aH)
def IG(P:Program)(body:Code)(st:aF)(ans:List cd)(ns:List (Nat×Nat×Nat))(cQ bs:List Nat):Option (hD×aF×List Prop):=
 (run P body st ans).bind fun r=>(um r.2.1 ns).map fun s=>(r.1,s.fF cQ bs,r.2.2.2)
theorem gP.aac{ans:List cd}{ns:List (Nat×Nat×Nat)}{cQ bs:List Nat}{obs:List Prop}(h:IG P body st ans ns cQ bs=some (e,bu,obs))(bc:cK obs):gP P body st e bu:=by
 unfold IG at h;rw[mf]at h;obtain⟨⟨bE,b0,ch,eB⟩,U,h⟩:=h;rw[ca]at h;obtain⟨s,ak,h⟩:=h;simp only[bA]at h;obtain⟨rfl,rfl,rfl⟩:=h;intro w0 a w aH;exact Code.wp_mono (fun e' cI aN ⟨U,aa⟩=>⟨U,(AW ak aa).fF cQ bs⟩) (nz body U bc w0 a w aH)
theorem c6.step{dR:aF}(ans:List cd)(cQ bs:List Nat)(obs:List Prop)(h:Dk P body st ans cQ bs=some (.normal,dR,obs))(bc:cK obs)(aa:c6 P body dR e bu):c6 P body st e bu:=
 .more (gP.Po h bc) aa
theorem cy(i:Nat):(hD.exit i).qV≠.normal:=fun h=>by cases h
theorem ff:hD.ret.qV≠.normal:=fun h=>by cases h
def uo:Code->List Code
 | .seq a b=>uo a++uo b
 | .cond _ a b=>uo a++uo b
 | .block _ b=>uo b
 | .loop b=>b::uo b
 | .scope b=>uo b
 | _=>[]
def ap(fn:Func)(i:Nat):Code:=(uo (nA fn)).getD i .skip
def uq:Code->List (Nat×Array Oper)
 | .region id ops true=>[(id,ops)]
 | .seq a b=>uq a++uq b
 | .cond _ a b=>uq a++uq b
 | .block _ b=>uq b
 | .loop b=>uq b
 | .scope b=>uq b
 | _=>[]
def cU(fn:Func)(id:Nat):Array Oper:=(((uq (nA fn)).find? fun x=>Nat.beq x.1 id).map (·.2)).getD #[]
def XW(n:Nat)(l:List (Nat×aG)):List aG:=l.foldl (fun e x=>e.set x.1 x.2) (List.replicate n .cw)
abbrev I(n:Int):D:=.v (.int .i64 n)
abbrev B(b:Bool):D:=.v (.bool b)
abbrev c0(s:ByteArray):D:=.v (.string s)
end Go.Sx
namespace Go.Sx
open Go.RowKit
inductive j3 (P:Program):TypeId->List D->Prop
 | bool (t:TypeId) (b:Bool) (h:P.underlying t=some .bool):j3 P t [.v (.bool b)]
 | int (t:TypeId) (k:IntKind) (n:Int) (h:P.underlying t=some (.int k)) (hw:(Lit.int k n).wf=true):j3 P t [.v (.int k n)]
 | str (t:TypeId) (s:ByteArray) (h:P.underlying t=some .string) (ak:s.size<=maxLen):j3 P t [.v (.string s)]
 | J (t e:TypeId) (es:List (List D)) (h:P.underlying t=some (.slice e)) (ar:es.length<=maxLen) (he:∀ds∈es,j3 P e ds):j3 P t [.J (P.cellsOf e) es]
 | struct (t:TypeId) (eG:Array Field) (ds:List D) (h:P.underlying t=some (.struct eG)) (ar:ds.length=P.cellsOf t) (b8:∀f∈eG.toList,j3 P f.type ((ds.drop f.offset).take (P.cellsOf f.type))):j3 P t ds
def uP(P:Program):Nat->List Field->Nat->Bool
 | o,[],n=>o==n
 | o,f::r,n=>f.offset==o&&uP P (o+P.cellsOf f.type) r n
def ur(P:Program):Nat->TypeId->Bool
 | 0,_=>false
 | m+1,t=>
  match P.underlying t with
  | some .bool | some (.int _) | some .string=>true
  | some (.slice e)=>decide (0<P.cellsOf e)&&ur P m e
  | some (.struct eG)=>eG.toList.all (fun f=>ur P m f.type)&&uP P 0 eG.toList (P.cellsOf t)
  | _=>false
def oR(w:World)(ds:List D)(cs:List Value):Prop:=ds.length=cs.length/\∀(i:Nat) (d:D),ds[i]?=some d->∃v,cs[i]?=some v/\lA w d v
theorem oR.one{w:World}{d:D}{v:Value}(h:lA w d v):oR w [d] [v]:=
 ⟨rfl,fun i dK aI=>by
  cases i with
  | zero=>simp at aI;subst aI;exact⟨v,rfl,h⟩
  | succ i=>simp at aI⟩
theorem oR.append{w:World}{a b:List D}{x y:List Value}(h:oR w a x)(k:oR w b y):oR w (a++b) (x++y):=by
 refine⟨by simp[h.1,k.1],fun i d aI=>?_⟩;rw[pz]at aI ⊢;rw[<-h.1];split at aI
 ·rename_i hi;rw[bL hi];exact h.2 i d aI
 rename_i hi;rw[bH hi];exact k.2 _ d aI
theorem KQ{P:Program}:∀{gn:List Field} {o n:Nat},uP P o gn n=true->o<=n/\∀f∈gn,o<=f.offset/\f.offset+P.cellsOf f.type<=n
 | [],o,n,h=>by simp[uP]at h;exact⟨by omega,fun f b8=>by cases b8⟩
 | f::r,o,n,h=>by
  simp only[uP,cH,kE]at h;obtain⟨U,aa⟩:=KQ h.2;refine⟨by omega,fun g ax=>?_⟩;rcases eK.1 ax with rfl | ax
  ·exact⟨by omega,by omega⟩
  have:=aa g ax;exact⟨by omega,this.2⟩
theorem VP{P:Program}{w:World}{cs:List Value}:∀{gn:List Field} {o:Nat},uP P o gn cs.length=true->
  (∀f∈gn,∃ds,j3 P f.type ds/\oR w ds ((cs.drop f.offset).take (P.cellsOf f.type)))->
  ∃ds,oR w ds (cs.drop o)/\∀f∈gn,j3 P f.type ((ds.drop (f.offset-o)).take (P.cellsOf f.type))
 | [],o,h,_=>by
  simp only[uP,kE]at h;subst h;exact⟨[],⟨by simp,fun i d aI=>by simp at aI⟩,fun f b8=>by cases b8⟩
 | f::r,o,h,b8=>by
  have hle:=KQ h;simp only[uP,cH,kE]at h;obtain⟨b4,h⟩:=h;obtain⟨ds,U,aa⟩:=VP h fun g ax=>b8 g (by simp[ax])
  obtain⟨d0,aB,aJ⟩:=b8 f (by simp);have xg:d0.length=P.cellsOf f.type:=by
   rw[aJ.1];have:=(hle.2 f (by simp)).2;simp;omega
  refine⟨d0++ds,?_,?_⟩
  ·have:cs.drop o=(cs.drop f.offset).take (P.cellsOf f.type)++cs.drop (o+P.cellsOf f.type):=by
    rw[b4,<-List.drop_drop];exact (XB _ _).symm
   rw[this];exact aJ.append U
  intro g ax;rcases eK.1 ax with rfl | ax
  ·rw[b4,Nat.sub_self,wN,XA (by omega),B8 (by omega)];exact aB
  have ax4:=aa g ax;have:=(KQ h).2 g ax;rw[List.drop_append,List.drop_eq_nil_of_le (show d0.length<=g.offset-o by omega),List.nil_append,xg];rwa[show g.offset-o-P.cellsOf f.type=g.offset-(o+P.cellsOf f.type) by omega]
section
variable {H : Type} {enc : TypeId × Value -> H} {P : Program} {w : World} {base : Nat} {held : Bool}
theorem DA{a:Addr}{k:Nat}{cs:List Value}(h:w.cells? base a k=some cs):cs.length=k/\∀i,i<k->w.cell? (a.add i)=cs[i]?:=by
 unfold World.cells? at h;split at h
 ·exact⟨by simpa using mapM_some_length h,fun i hi=>mapM_some_get h i i (by simp[hi])⟩
 cases h
theorem J2{a:Addr}{v:Value}(h:w.cell? a=some v):∃arr ty cT,w.heap[a.block]?=some (.cells arr ty cT)/\a.spot=none/\arr[a.off]?=some v:=by
 unfold World.cell? at h;split at h
 ·rename_i arr ty cT e;split at h
  ·cases h
  rename_i ak;refine⟨arr,ty,cT,e,?_,h⟩;cases HO:a.spot with
  | none=>rfl
  | some x=>simp[HO]at ak
 cases h
theorem J3:∀(m:Nat) (t:TypeId) (gZ:Nat) (cs:List Value) (x:DataW H×List MemPlace),ur P m t=true->DataW.trod enc P w base (fun _=>true) held gZ t cs=some x->
  ∃ds,j3 P t ds/\oR w ds cs
 | 0,_,_,_,_,h,_=>by cases h
 | m+1,t,gZ,cs,x,ak,h=>by
  unfold ur at ak;split at ak
  ·rename_i hu;obtain⟨b,rfl,_⟩:=DataW.trod_bool hu h;exact⟨_,.bool t b hu,.one (.v _ _ rfl)⟩
  ·rename_i k hu;obtain⟨n,rfl,_,hw⟩:=DataW.trod_int hu h;exact⟨_,.int t k n hu hw,.one (.v _ _ rfl)⟩
  ·rename_i hu;obtain⟨s,rfl,_,hw⟩:=DataW.trod_string hu h;exact⟨_,.str t s hu hw,.one (.v _ _ rfl)⟩
  ·rename_i e hu;simp only[cH,c3]at ak;obtain⟨nj,OR⟩:=ak;rcases DataW.trod_slice hu h with⟨rfl,_⟩ | ⟨a,len,cap,N4,rest,n,_,rfl,_,_,ar,ao,hlen,xc,HO,_⟩
   ·exact⟨_,.J t e [] hu (by simp) (fun ds eU=>by cases eU),.one (.nil _ _ _)⟩
   obtain⟨OP,OO⟩:=HO rfl;generalize hc:P.cellsOf e=k at*;have hQ:∀i,i<cap->∃cs,w.cells? base (a.add (i*k)) k=some cs/\∃x,DataW.trod enc P w base (fun _=>true) held n e cs=some x:=by
    intro i hi;by_cases jL:i<len
    ·have:=xc i jL;obtain⟨y,bM⟩:∃y,N4[i]?=some y:=⟨N4[i],iB (by omega)⟩
     rw[bM,mf]at this;obtain⟨cs,U,aa⟩:=this;exact⟨cs,U,y,aa⟩
    have:=OO (i-len) (by omega);rw[show len+(i-len)=i by omega]at this;obtain⟨y,bM⟩:∃y,rest[i-len]?=some y:=⟨rest[i-len],iB (by omega)⟩
    rw[bM,mf]at this;obtain⟨cs,U,aa⟩:=this;exact⟨cs,U,y,aa⟩
   by_cases gE:cap=0
   ·subst gE;have:len=0:=by omega
    subst this;have:=j3.J (P:=P) t e [] hu (by simp) (fun ds eU=>by cases eU);exact⟨_,this,.one (.nil _ _ _)⟩
   have YA:∀i,∃ds,i<len->j3 P e ds/\∃cs,w.cells? base (a.add (i*k)) k=some cs/\oR w ds cs:=by
    intro i;by_cases hi:i<len
    ·obtain⟨cs,U,x,aa⟩:=hQ i (by omega);obtain⟨ds,aB,aJ⟩:=J3 m e n cs x OR aa;exact⟨ds,fun _=>⟨aB,cs,U,aJ⟩⟩
    exact⟨[],fun h=>absurd h hi⟩
   obtain⟨f,b8⟩:=Classical.skolem.1 YA;obtain⟨a8,pW,_⟩:=hQ (cap-1) (by omega);obtain⟨axT,Yo⟩:=DA pW;have tK:=Yo (k-1) (by omega);obtain⟨ayU,HT⟩:∃v,a8[k-1]?=some v:=⟨a8[k-1],iB (by omega)⟩
   rw[HT]at tK;obtain⟨b,off,spot⟩:=a;have Zv:spot=none:=by
    obtain⟨cS,Yi,_⟩:=hQ 0 (by omega);obtain⟨axR,Yj⟩:=DA Yi;have b4:=Yj 0 nj;obtain⟨v0,Db⟩:∃v,cS[0]?=some v:=⟨cS[0],iB (by omega)⟩
    rw[Db]at b4;obtain⟨_,_,_,_,U,_⟩:=J2 b4;simpa[Addr.add]using U
   subst Zv;obtain⟨arr,ty,cT,ay,_,tK⟩:=J2 tK;simp only[ql]at ay tK;have dI:off+cap*k<=arr.size:=by
    have U:=(jF.1 tK).1;have aa:cap*k=(cap-1)*k+k:=by rw[<-Nat.succ_mul];congr 1;omega
    omega
   have CT:((List.range len).map f).length=len:=by simp
   have iH:∀i j d,c5 ((List.range len).map f) i j=some d->i<len/\(f i)[j]?=some d:=by
    intro i j d aI;unfold c5 at aI;rw[dP]at aI;by_cases hi:i<len
    ·rw[List.getElem?_range hi]at aI;exact⟨hi,by simpa using aI⟩
    rw[List.getElem?_eq_none (by simpa using hi)]at aI;simp at aI
   have fo:∀i j d,c5 ((List.range len).map f) i j=some d->∃u,arr[off+i*k+j]?=some u/\lA w d u:=by
    intro i j d aI;obtain⟨hi,bm⟩:=iH i j d aI;obtain⟨_,cs,U,aa⟩:=b8 i hi;obtain⟨Yn,sg⟩:=DA U;obtain⟨u,jN,aH⟩:=aa.2 j d bm;have zo:j<k:=by rw[<-Yn];exact (fP.1 jN).1
    have:=sg j zo;rw[jN]at this;obtain⟨ko,kD,GR,hx,_,aq⟩:=J2 this;simp only[ql]at hx aq;rw[ay]at hx;cases hx;exact⟨u,aq,aH⟩
   have C6:b1 w (fun _=>.bG) Tag.free.R (.J k ((List.range len).map f)) (.slice (some ⟨b,off,none⟩) ((List.range len).map f).length cap):=by
    refine .row _ k _ b off cap arr ty cT (fun i j=>arr.getD (off+i*k+j) undef) ay rfl (by omega) dI ?_ ?_ ?_
    ·intro e' he;obtain⟨i,hi,rfl⟩:=mO.1 he;obtain⟨_,cs,U,aa⟩:=b8 i (by simpa using hi);rw[aa.1];exact (DA U).1
    ·intro i j d aI;obtain⟨u,U,_⟩:=fo i j d aI;rw[U];simp[eR,U]
    intro i j d aI;obtain⟨u,U,aa⟩:=fo i j d aI;have:arr.getD (off+i*k+j) undef=u:=by simp[eR,U]
    rw[this];exact aa
   rw[CT]at C6;have pa:=j3.J (P:=P) t e ((List.range len).map f) hu (by rw[CT];omega);rw[hc]at pa;refine⟨_,pa ?_,.one C6⟩;intro ds eU;obtain⟨i,hi,rfl⟩:=mO.1 eU;exact (b8 i (by simpa using hi)).1
  ·rename_i eG hu;simp only[cH,fU]at ak;obtain⟨lx,vp⟩:=ak;obtain⟨xs,n,_,_,ar,fR,b8⟩:=DataW.trod_struct hu h;rw[<-ar]at vp;obtain⟨ds,U,aa⟩:=VP (w:=w) vp fun f Oo=>by
    obtain⟨i,hi⟩:=oN.1 Oo;have:=b8 i f (by simpa using hi);have nh:i<xs.length:=by rw[fR];have:=(fP.1 hi).1;simpa using this
    rw[iB nh]at this;exact J3 m f.type n _ _ (lx f Oo) this
   rw[wN]at U;exact⟨ds,.struct t eG ds hu (by rw[U.1,ar]) (by simpa using aa),U⟩
  cases ak
end
end Go.Sx
namespace Go.Sx
open Go.ChangeShapes Go.WideShapes Go.ChangeAt Go.RowKit Go.Joins
def r0(P:Program)(t:TypeId):Bool:=match P.underlying t with | some (.struct _)=>true | _=>false
def Cm(P:Program)(t:TypeId):cJ->Prop
 | .one d=>j3 P t [d]/\r0 P t=false
 | .agg ds=>j3 P t ds/\r0 P t=true
def Cn(P:Program):List TypeId->List cJ->Prop
 | [],[]=>True
 | t::ts,a::as=>Cm P t a/\Cn P ts as
 | _,_=>False
section
variable {H : Type} {enc : TypeId × Value -> H} {P : Program} {w : World} {base b6 : Nat} {held : Bool} {r : Reach}
theorem apJ{t:TypeId}{v:Value}{d:DataW H}{b7:List MemPlace}(ak:ur P 20 t=true)(gR:Value.okWide P w r b6 t v)(h:DataW.Trod enc P w base (fun _=>true) held t v d b7):
  ∃cq,Cm P t cq/\uX w cq v:=by
 obtain⟨gZ,b8⟩:=h;obtain⟨ds,U,aa⟩:=J3 20 t gZ _ _ ak b8;have one:(∀cs,v≠.agg cs)->r0 P t=false->∃cq,Cm P t cq/\uX w cq v:=by
  intro bx aj;have ao:v.cells.toList=[v]:=by
   cases v<;>first | rfl | (exact absurd rfl (bx _))
  rw[ao]at aa
  match ds,U,aa with
  | [d],U,aa=>
   obtain⟨u,hu,aH⟩:=aa.2 0 d rfl;simp at hu;subst hu;exact⟨.one d,⟨U,aj⟩,aH⟩
  | [],_,aa=>simp[oR]at aa
  | _::_::_,_,aa=>simp[oR]at aa
 rw[show (20:Nat)=19+1 from rfl]at ak;unfold ur at ak;unfold Value.okWide at gR;split at ak
 ·rename_i hu;rw[hu]at gR;refine one (fun cs e=>?_) (by simp[r0,hu]);subst e;simp[Cell.okWide,Cell.ok,hu]at gR
 ·rename_i hu;rw[hu]at gR;refine one (fun cs e=>?_) (by simp[r0,hu]);subst e;simp[Cell.okWide,Cell.ok,hu]at gR
 ·rename_i hu;rw[hu]at gR;refine one (fun cs e=>?_) (by simp[r0,hu]);subst e;simp[Cell.okWide,Cell.ok,hu]at gR
 ·rename_i hu;rw[hu]at gR;refine one (fun cs e=>?_) (by simp[r0,hu]);subst e;simp[Cell.okWide,Cell.ok,hu]at gR
 ·rename_i hu;rw[hu]at gR;obtain⟨cs,rfl,_,_⟩:=gR;refine⟨.agg ds,⟨U,by simp[r0,hu]⟩,cs,rfl,by have:=aa.1;simpa[Value.cells]using this.symm,fun i d aI=>?_⟩;obtain⟨u,jN,aH⟩:=aa.2 i d aI;exact⟨u,by simpa[Value.cells]using jN,aH⟩
 cases ak
theorem RA:∀(ts:List TypeId) (vs:List Value) (ds:List (DataW H)) (b7:List MemPlace),ts.all (ur P 20)=true->(∀(j:Nat) t v,ts[j]?=some t->vs[j]?=some v->Value.okWide P w r b6 t v)->
  DataW.TrodAll enc P w base (fun _=>true) held ts vs ds b7->∃gk,Cn P ts gk/\vs.length=gk.length/\∀(i:Nat) (cq:cJ),gk[i]?=some cq->∃v,vs[i]?=some v/\uX w cq v
 | [],[],[],_,_,_,_=>⟨[],ad,rfl,fun i cq h=>by simp at h⟩
 | t::ts,v::vs,d::ds,b7,ak,gR,h=>by
  obtain⟨p,q,U,aa,_⟩:=h;simp only[List.all_cons,cH]at ak;obtain⟨cq,X9,G9⟩:=apJ ak.1 (gR 0 t v rfl rfl) U;obtain⟨gk,aB,aJ,a6⟩:=RA ts vs ds q ak.2 (fun j t v bZ bx=>gR (j+1) t v (by simpa using bZ) (by simpa using bx)) aa;refine⟨cq::gk,⟨X9,aB⟩,by simp[aJ],fun i nX hi=>?_⟩;cases i with
  | zero=>simp at hi;subst hi;exact⟨v,rfl,G9⟩
  | succ i=>simpa using a6 i nX (by simpa using hi)
 | [],_::_,_,_,_,_,h=>by simp[DataW.TrodAll]at h
 | [],[],_::_,_,_,_,h=>by simp[DataW.TrodAll]at h
 | _::_,[],_,_,_,_,h=>by simp[DataW.TrodAll]at h
 | _::_,_::_,[],_,_,_,h=>by simp[DataW.TrodAll]at h
theorem RB{H:Type}{enc:TypeId×Value->H}{P:Program}(ar:laidOutB P=true){W yL:World}(ay:Below W.heap.size W yL):
  ∀(ts:List TypeId) (vs:List Value) (ds:List (DataW H)) (b7:List MemPlace),ts.all (fun t=>P.readableRec t&&decide (t<P.types.size))=true->
   DataW.TrodAll enc P W 0 (fun _=>true) true ts vs ds b7->(∀x∈b7,x.block<W.heap.size)->
   DataW.TrodAll enc P yL 0 (fun b=>decide (b<W.heap.size)) true ts vs ds b7
 | [],vs,ds,b7,_,h,_=>by
  obtain⟨rfl,rfl,rfl⟩:=trodAll_nil h;exact trodAll_mk0
 | t::ts,vs,ds,b7,bZ,h,bO=>by
  obtain⟨v,awN,d,r9,p,q,rfl,rfl,rfl,b4,aH⟩:=trodAll_cons h;simp only[List.all_cons,cH,c3]at bZ;exact trodAll_cons_mk (Below.trod ar bZ.1.1 bZ.1.2 b4 ay (fun x aq=>bO x (iy _ aq)))
   (RB ar ay ts awN r9 q bZ.2 aH (fun x aq=>bO x (jD _ aq)))
theorem RC:∀(ts:List TypeId) (vs:List Value) (ds:List (DataW H)) (b7:List MemPlace),DataW.TrodAll enc P w base (fun _=>true) held ts vs ds b7->ds.length=ts.length
 | [],[],[],_,_=>rfl
 | t::ts,v::vs,d::ds,b7,h=>by
  obtain⟨p,q,_,aa,_⟩:=h;simp[RC ts vs ds q aa]
 | [],_::_,_,_,h=>by simp[DataW.TrodAll]at h
 | [],[],_::_,_,h=>by simp[DataW.TrodAll]at h
 | _::_,[],_,_,h=>by simp[DataW.TrodAll]at h
 | _::_,_::_,[],_,h=>by simp[DataW.TrodAll]at h
theorem apK(ar:laidOutB P=true){f:Func}{fno:Nat}{s:ChangeSpec}{tb:TypeId}(e4:f.resultTypes=#[tb])(ay:P.underlying tb=some .bool)
  (hp:f.params.toList.all (fun t=>P.readableRec t&&decide (t<P.types.size))=true) (fc:f.params.toList.all (ur P 20)=true) (OX:s.vars=[])
  {W:World} {args:Array Value} {ds gs:List (DataW H)} {before:List MemPlace} (gR:∀(j:Nat) t v,f.params[j]?=some t->args[j]?=some v->Value.okWide P W r b6 t v)
  (tC:DataW.Whole enc P f.params.toList s.vars false W args.toList ds gs before)
  (ak:ds.length=f.params.size->(s.fn H ds).results=[.lit (.bool true)]/\(s.fn H ds).args=ds/\(s.fn H ds).vars=[])
  (p':nU W) (Y3:∀gk,Cn P f.params.toList gk->ie P fno gk [.one (B true)]):
  Calls P fno args W fun e yL=>∃v,e=.returned v/\s.post enc P f false true false false W args v yL:=by
 have X8:=tC;have bO:=tC.lt;obtain⟨p,q,za,Od,rfl,ax3,ayk⟩:=tC;rw[OX]at Od;obtain⟨rfl,rfl⟩:=trodVars_none Od;obtain⟨U,aa,aB⟩:=ak (by have:=RC _ _ _ _ za;simpa using this);obtain⟨gk,Zt,hlen,cN⟩:=RA _ _ _ _ fc (fun j t v bZ bx=>gR j t v (by simpa using bZ) (by simpa using bx)) za;refine (Y3 gk Zt W args p' ⟨by simpa using hlen,fun i cq hi=>by simpa using cN i cq hi⟩).mono ?_;rintro e yL ⟨v,rfl,qZ,aH⟩;have bx:v=.bool true:=by
  obtain⟨ω,_,_,h⟩:=aH;simp only[mB,l6]at h;cases h;rfl
 subst bx;refine⟨_,rfl,ds,[],p++[],[],p,[],X8,?_,?_,?_,qZ.below.frame _,fun h=>by cases h⟩
 ·rw[iz,U,e4];exact trodAll_mk1 (shut_bool ay true)
 ·rw[iz,aa];exact RB ar qZ.below _ _ _ _ hp za (fun x aq=>bO x (by simpa using aq))
 rw[iz,aB,OX];rfl
end
