import Derived.Test.YtdchjefneblpgaaGreatR13
import Derived.LoopN
import Derived.ChangeMaps5
import Derived.ChangeSame
import Derived.ChangeStays
import Derived.ProofKit
import Derived.Lib.SmallJoins
set_option linter.unusedVariables false
set_option linter.unusedSimpArgs false
namespace Go.Sx
open Go.RowKit
def gO.nt:gO->Exit
 | .normal=>.normal
 | .exit id=>.exit id
 | .ret=>.ret
def MH(w0:ev)(e:gO)(st:aE):Exit->Act->World->Prop:=fun e' a w=>e'=e.nt/\Rel w0 st a w
def fP(P:Program)(c:Code)(st:aE)(e:gO)(bn:aE):Prop:=∀w0 a w,Rel w0 st a w->c.wp P (MH w0 e bn) a w
def dd(P:Program)(c:Code)(st:aE)(e:gO)(bn:aE):Prop:=∃n,∀w0 a w,Rel w0 st a w->Code.rounds P c (MH w0 e bn) n a w
variable{P:Program}{st bn:aE}
theorem dd.last{c:Code}{e:gO}(he:e.nt≠.normal)(h:fP P c st e bn):dd P c st e bn:=
 ⟨1,fun w0 a w ar=>Code.wp_mono (fun e' cy aG ⟨h1,U⟩=>by
  subst h1;cases e with
  | normal=>exact absurd rfl he
  | exit id=>exact⟨rfl,U⟩
  | ret=>exact⟨rfl,U⟩) (h w0 a w ar)⟩
theorem dd.more{c:Code}{st1:aE}{e:gO}(h:fP P c st .normal st1)(U:dd P c st1 e bn):dd P c st e bn:=by
 obtain⟨n,aL⟩:=U;refine⟨n+1,fun w0 a w ar=>Code.wp_mono (fun e' cy aG ⟨h1,au⟩=>?_) (h w0 a w ar)⟩;subst h1;exact aL w0 cy aG au
def uv(cK:List Nat):Nat->List aB->List aB
 | _,[]=>[]
 | i,p::r=>(if cK.contains i then p else .cc)::uv cK (i+1) r
theorem QC(cK:List Nat):∀(l:List aB) (i j:Nat),(uv cK i l)[j]?=(l[j]?).map fun p=>if cK.contains (i+j) then p else .cc
 | [],_,_=>by simp[uv]
 | p::r,i,0=>by simp[uv]
 | p::r,i,j+1=>by
  simp only[uv,nY,QC cK r (i+1) j];rw[show i+1+j=i+(j+1) by omega]
theorem PN(cK:List Nat):∀(l:List aB) (i:Nat),(uv cK i l).length=l.length
 | [],_=>rfl
 | p::r,i=>by simp[uv,PN cK r]
def wm(bs:List Nat):List (Nat×List aC)->List (Nat×List aC)
 | []=>[]
 | (i,ls)::r=>if bs.contains i then (i,ls)::wm bs r else wm bs r
theorem I'(bs:List Nat)(id:Nat):∀(l:List (Nat×List aC)) (ls:List aC),dj id (wm bs l)=some ls->dj id l=some ls
 | [],_,h=>by cases h
 | (i,ej)::r,ls,h=>by
  simp only[wm]at h;simp only[dj];split at h
  ·simp only[dj]at h;split at h
   ·rename_i hi;rw[a6 hi];exact h
   rename_i hi;rw[aX hi];exact I' bs id r ls h
  rename_i ad;have:=I' bs id r ls h;split
  ·rename_i hi;subst hi;exfalso;have gi:∀(r:List (Nat×List aC)),dj i (wm bs r)=none:=by
    intro r;induction r with
    | nil=>rfl
    | cons x r dt=>
     obtain⟨kp,gM⟩:=x;simp only[wm];split
     ·rename_i aa;simp only[dj];rw[aX]
      ·exact dt
      intro e;subst e;exact ad aa
     exact dt
   rw[gi]at h;cases h
  exact this
def Dp:aC->aC
 | .v (.bool b)=>.bg b
 | l=>l
variable{w:World}
theorem PO{ω:Own}{τ:Nat->Nat×Value}(l:aC)(v:Value)(h:Sat w ω τ l v):Sat w ω τ (Dp l) v:=by
 unfold Dp;split
 ·exact h
 exact h
def aE.ey(st:aE)(cK bs:List Nat):aE:=⟨(uv cK 0 st.env).map (aB.map Dp),(wm bs st.boxes).map fun x=>(x.1,x.2.map Dp)⟩
variable{w0:ev}{a:Act}
theorem Rel.ey(h:Rel w0 st a w)(cK bs:List Nat):Rel w0 (st.ey cK bs) a w:=by
 obtain⟨ω,τ,h⟩:=h;refine⟨ω,τ,h.defers,by simp[aE.ey,PN,h.size],h.below,h.owned,h.fixed,h.pinned,?_,?_⟩
 ·intro i p hp;simp only[aE.ey]at hp;rw[c9,bX]at hp;obtain⟨iI,hp,rfl⟩:=hp;rw[QC,bX]at hp;obtain⟨x1,hp,rfl⟩:=hp;obtain⟨v,h1,U⟩:=h.env i x1 hp;refine⟨v,h1,cM.map PO ?_⟩;split
  ·exact U
  exact trivial
 intro id ls af;simp only[aE.ey]at af;rw[s8,bX]at af;obtain⟨jr,af,rfl⟩:=af;obtain⟨b,arr,ty,h1,U,au,aH⟩:=h.boxes id jr (I' bs id _ _ af);exact⟨b,arr,ty,h1,U,au,aH.map PO⟩
def Ja(st:aE)(id j t k:Nat):Option aE:=
 match dj id (st.jt t []).boxes with
 | some ls=>
  match ls[j]? with
  | some (.v (.slice none 0 0))=>if t<c5 then some ⟨(st.jt t []).env,qs id (ls.set j (.J (.own t) k [])) (st.jt t []).boxes⟩ else none
  | _=>none
 | none=>none
def Jb(st:aE)(id j t:Nat):Option aE:=
 match dj id st.boxes with
 | some jr=>
  match jr[j]? with
  | some (.J (.own jK) b8 es)=>
   if t<c5 then
    let st1:=st.map (aC.cm (kj jK t) fun _=>true)
    match dj id st1.boxes with
    | some ls=>some ⟨st1.env,qs id (ls.set j (.J (.own t) b8 es)) st1.boxes⟩
    | none=>none
   else none
  | _=>none
 | none=>none
def uw(st:aE):List (Nat×Nat×Nat)->Option aE
 | []=>some st
 | (s,t,k)::r=>
  if 1000000<=s then
   (match Jb st (s / 1000000-1) (s % 1000000) t with
   | some st1=>some st1
   | none=>Ja st (s / 1000000-1) (s % 1000000) t k).bind fun st1=>uw st1 r else
  match (st.env.getD s .cc).leaf with
  | some (.v (.slice none 0 0))=>if t<c5 then uw ⟨(st.jt t []).env.set s (.one (.J (.own t) k [])),(st.jt t []).boxes⟩ r else none
  | some (.J (.own jK) b8 es)=>
   if t<c5 then uw ⟨(st.map (aC.cm (kj jK t) fun _=>true)).env.set s (.one (.J (.own t) b8 es)),(st.map (aC.cm (kj jK t) fun _=>true)).boxes⟩ r else none
  | _=>none
theorem cx.MN{ω:Own}{τ:Nat->Nat×Value}(h:cx w0 st a w ω τ){s:Nat}{l:aC}(af:(st.env.getD s .cc).leaf=some l)(b5:l≠.cc):∃v,a.tmps[s]?=some v/\Sat w ω τ l v:=by
 rw[iw]at af;cases e:st.env[s]? with
 | none=>rw[e]at af;simp only[Option.getD_none,aB.leaf,aQ]at af;exact absurd af.symm b5
 | some p=>
  rw[e]at af;obtain⟨v,h1,U⟩:=h.env s p e;exact⟨v,h1,aB.dw af U⟩
theorem PQ{s:Nat}{v:Value}(h:a.tmps[s]?=some v):a.put (some s) v=a:=by
 simp only[Act.put];have:a.tmps.setIfInBounds s v=a.tmps:=by
  apply Array.ext
  ·simp
  intro i h1 U;rw[Array.getElem_setIfInBounds];split
  ·rename_i hi;subst hi;rw[gN U]at h;exact (ei h).symm
  rfl
 rw[this]
theorem ak7{id j t k:Nat}(h:Ja st id j t k=some bn)(ar:Rel w0 st a w):Rel w0 bn a w:=by
 obtain⟨ω,τ,ar⟩:=ar;unfold Ja at h;split at h
 ·rename_i ls ah;split at h
  ·rename_i aM;split at h
   ·rename_i ih;simp only[aQ]at h;subst h;obtain⟨aY,h1,U⟩:=ar.HU t k ih;refine⟨aY,_,h1.defers,h1.size,h1.below,h1.owned,h1.fixed,h1.pinned,h1.env,fun hb e6 af=>?_⟩;by_cases fX:hb=id
    ·subst fX;rw[yI ah]at af;cases af;obtain⟨b,arr,ty,e1,e2,b2,dB⟩:=h1.boxes hb ls ah;refine⟨b,arr,ty,e1,e2,b2,by rw[dB.1,eQ],fun i l hi=>?_⟩;rw[iS]at hi;split at hi
     ·rename_i lV;subst lV;split at hi
      ·cases hi;obtain⟨u,fJ,eG⟩:=dB.2 j _ aM;have z6:u=.slice none 0 0:=eG;subst z6;exact⟨_,fJ,U⟩
      cases hi
     exact dB.2 i l hi
    rw[yJ fX]at af;exact h1.boxes hb e6 af
   cases h
  cases h
 cases h
theorem ak8{id j t:Nat}(h:Jb st id j t=some bn)(ar:Rel w0 st a w):Rel w0 bn a w:=by
 obtain⟨ω,τ,ar⟩:=ar;unfold Jb at h;split at h
 case h_2=>cases h
 rename_i jr hS;split at h
 case h_2=>cases h
 rename_i jK b8 es aM;split at h
 case isFalse=>cases h
 rename_i ih;simp only at h;split at h
 case h_2=>cases h
 rename_i ls ah;simp only[aQ]at h;subst h;obtain⟨cf,tv,uV,arb,Wy,Wz,WA⟩:=ar.boxes id jr hS;obtain⟨v,bj,ae⟩:=WA.2 j _ aM;have h1:cx w0 (st.map (aC.cm (kj jK t) fun _=>true)) a w (fun b=>jG jK t 0 (ω b)) (gv τ t b8 v):=
  ar.cD _ (Ia ih).sat ar.below (fun b ah=>ar.owned b (H' ah)) (fun id b ah=>⟨um.2 ah,rfl⟩) (fun id b ah=>um.1 ah)
   (fun c4 bt=>by simp only[gv];rw[aX (by omega)])
 have U:Sat w (fun b=>jG jK t 0 (ω b)) (gv τ t b8 v) (.J (.own t) b8 es) v:=⟨ae.1.frame fun b q _ av=>⟨by
  simp only[Tag.R]at av ⊢;rw[av];cases q with
  | nil=>simp[jG]
  | cons x q=>obtain⟨i,j⟩:=x;simp[jG],rfl⟩,by simp[Tag.dS,gv]⟩
 refine⟨_,_,h1.defers,h1.size,h1.below,h1.owned,h1.fixed,h1.pinned,h1.env,fun hb e6 af=>?_⟩;by_cases fX:hb=id
 ·subst fX;rw[yI ah]at af;cases af;obtain⟨b,arr,ty,e1,e2,b2,dB⟩:=h1.boxes hb ls ah;refine⟨b,arr,ty,e1,e2,b2,by rw[dB.1,eQ],fun i l hi=>?_⟩;rw[iS]at hi;split at hi
  ·rename_i lV;subst lV;split at hi
   ·cases hi;have sm:b=cf:=by
     have gD:ω b=.box hb:=um.1 e1;exact Wy b gD
    subst sm;rw[Wz]at b2;cases b2;exact⟨v,bj,U⟩
   cases hi
  exact dB.2 i l hi
 rw[yJ fX]at af;exact h1.boxes hb e6 af
theorem AQ:∀{ns:List (Nat×Nat×Nat)} {st bn:aE},uw st ns=some bn->Rel w0 st a w->Rel w0 bn a w
 | [],st,bn,h,ar=>by simp only[uw,aQ]at h;subst h;exact ar
 | (s,t,k)::r,st,bn,h,ar=>by
  simp only[uw]at h;split at h
  ·rw[mj]at h;obtain⟨st1,h1,h⟩:=h;refine AQ h ?_;split at h1
   ·rename_i st2 U;cases h1;exact ak8 U ar
   exact ak7 h1 ar
  split at h
  ·rename_i af;obtain⟨ω,τ,ar⟩:=ar;obtain⟨v,bj,ae⟩:=ar.MN af (by simp);have:v=.slice none 0 0:=ae;subst this;split at h
   case isFalse=>cases h
   rename_i ih;obtain⟨aY,h1,U⟩:=ar.HU t k ih;have au:=h1.put (d:=s) (p:=.one (.J (.own t) k [])) U;rw[PQ bj]at au;exact AQ h ⟨aY,_,au⟩
  ·rename_i jK b8 es af;obtain⟨ω,τ,ar⟩:=ar;obtain⟨v,bj,ae⟩:=ar.MN af (by simp);split at h
   case isFalse=>cases h
   rename_i ih;have h1:cx w0 (st.map (aC.cm (kj jK t) fun _=>true)) a w (fun b=>jG jK t 0 (ω b)) (gv τ t b8 v):=
    ar.cD _ (Ia ih).sat ar.below (fun b ah=>ar.owned b (H' ah)) (fun id b ah=>⟨um.2 ah,rfl⟩) (fun id b ah=>um.1 ah)
     (fun c4 bt=>by simp only[gv];rw[aX (by omega)])
   have au:=h1.put (d:=s) (p:=.one (.J (.own t) b8 es)) (v:=v) ⟨ae.1.frame fun b q _ av=>⟨by
    simp only[Tag.R]at av ⊢;rw[av];cases q with
    | nil=>simp[jG]
    | cons x q=>obtain⟨i,j⟩:=x;simp[jG],rfl⟩,by simp[Tag.dS,gv]⟩
   rw[PQ bj]at au;exact AQ h ⟨_,_,au⟩
  cases h
abbrev Wc:=Option (gO×aE×List b4×List Prop)
def run(P:Program):Code->aE->List b4->Wc
 | .skip,st,ans=>some (.normal,st,ans,[])
 | .label _,st,ans=>some (.normal,st,ans,[])
 | .region _ ops draw,st,ans=>if draw then (I9 P ops st ans).map fun r=>(.normal,r.1,r.2.1,r.2.2) else (wj P ops ops.toList st ans).map fun r=>(.normal,r.1,r.2.1,r.2.2)
 | .seq a b,st,ans=>
  match run P a st ans with
  | some (.normal,st1,fg,fS)=>(run P b st1 fg).map fun r=>(r.1,r.2.1,r.2.2.1,fS++r.2.2.2)
  | some (e,st1,fg,fS)=>some (e,st1,fg,fS)
  | none=>none
 | .cond c x y,st,ans=>
  match (st.bk c).leaf,ans with
  | some (.v (.bool true)),ans=>run P x st ans
  | some (.v (.bool false)),ans=>run P y st ans
  | some (.bg c),.o1 true::r=>(run P x st r).map fun r=>(r.1,r.2.1,r.2.2.1,(c=true)::r.2.2.2)
  | some (.bg c),.o1 false::r=>(run P y st r).map fun r=>(r.1,r.2.1,r.2.2.1,(c=false)::r.2.2.2)
  | _,_=>none
 | .block id body,st,ans=>
  match run P body st ans with
  | some (.exit i,st1,fg,fS)=>some (if i=id then .normal else .exit i,st1,fg,fS)
  | r=>r
 | .loop body,st,ans=>
  match ans with
  | .loop Dn cK bs e bn::r=>
   match e,uw st Dn with
   | .normal,_=>none
   | e,some st1=>some (e,bn,r,[dd P body (st1.ey cK bs) e bn])
   | _,none=>none
  | _=>none
 | .exit id,st,ans=>some (.exit id,st,ans,[])
 | .ret,st,ans=>some (.ret,st,ans,[])
 | _,_,_=>none
theorem nO:∀(c:Code) {st bn:aE} {ans ch:List b4} {obs:List Prop} {e:gO},run P c st ans=some (e,bn,ch,obs)->cB obs->fP P c st e bn
 | .skip,st,bn,ans,ch,obs,e,h,aN=>by
  simp only[run,aQ,bw]at h;obtain⟨rfl,rfl,_,_⟩:=h;exact fun w0 a w ar=>wp_skip ⟨rfl,ar⟩
 | .label l,st,bn,ans,ch,obs,e,h,aN=>by
  simp only[run,aQ,bw]at h;obtain⟨rfl,rfl,_,_⟩:=h;exact fun w0 a w ar=>wp_label ⟨rfl,ar⟩
 | .region id ops draw,st,bn,ans,ch,obs,e,h,aN=>by
  simp only[run]at h;split at h
  ·rename_i ax;rw[bX]at h;obtain⟨⟨bB,bV,cb⟩,h1,h⟩:=h;simp only[bw]at h;obtain⟨rfl,rfl,rfl,rfl⟩:=h;subst ax;exact fun w0 a w ar=>ak6 h1 aN ar fun cy aG h=>⟨rfl,h⟩
  rename_i ax;rw[bX]at h;obtain⟨⟨bB,bV,cb⟩,h1,h⟩:=h;simp only[bw]at h;obtain⟨rfl,rfl,rfl,rfl⟩:=h;have:draw=false:=by simpa using ax
  subst this;exact fun w0 a w ar=>wp_region_list (JI _ h1 aN ar fun cy aG h=>⟨rfl,h⟩)
 | .seq x y,st,bn,ans,ch,obs,e,h,aN=>by
  simp only[run]at h;split at h
  ·rename_i st1 fg fS h1;rw[bX]at h;obtain⟨⟨bB,bV,cb,et⟩,U,h⟩:=h;simp only[bw]at h;obtain⟨rfl,rfl,rfl,rfl⟩:=h;obtain⟨cd,bY⟩:=aN.append;intro w0 a w ar;refine wp_seq (Code.wp_mono (fun e' cy aG hp=>?_) (nO x h1 cd w0 a w ar));obtain⟨rfl,dy⟩:=hp;exact nO y U bY w0 cy aG dy
  ·rename_i e1 st1 fg fS b5 h1;simp only[aQ,bw]at h;obtain⟨rfl,rfl,rfl,rfl⟩:=h;intro w0 a w ar;refine wp_seq (Code.wp_mono (fun e' cy aG hp=>?_) (nO x h1 aN w0 a w ar));obtain⟨rfl,dy⟩:=hp;cases e1 with
   | normal=>first | exact (b5 rfl).elim | exact (b5 _ rfl).elim | exact (b5 _ _ _ rfl).elim
   | exit i=>exact⟨rfl,dy⟩
   | ret=>exact⟨rfl,dy⟩
  cases h
 | .cond c x y,st,bn,ans,ch,obs,e,h,aN=>by
  intro w0 a w ar;have p7:=ar;obtain⟨ω,τ,dy⟩:=p7;have eB:=dy.bk c;simp only[run]at h;split at h
  ·rename_i af;have:a.eval c=.bool true:=aB.dw af eB;exact wp_cond_true this (nO x h aN w0 a w ar)
  ·rename_i af;have:a.eval c=.bool false:=aB.dw af eB;exact wp_cond_false this (nO y h aN w0 a w ar)
  ·rename_i jS r af;rw[bX]at h;obtain⟨⟨bB,bV,cb,et⟩,U,h⟩:=h;simp only[bw]at h;obtain⟨rfl,rfl,rfl,rfl⟩:=h;have:a.eval c=.bool jS:=aB.dw af eB;have ad:jS=true:=aN.1;exact wp_cond_true (by rw[this,ad]) (nO x U aN.2 w0 a w ar)
  ·rename_i jS r af;rw[bX]at h;obtain⟨⟨bB,bV,cb,et⟩,U,h⟩:=h;simp only[bw]at h;obtain⟨rfl,rfl,rfl,rfl⟩:=h;have:a.eval c=.bool jS:=aB.dw af eB;have ad:jS=false:=aN.1;exact wp_cond_false (by rw[this,ad]) (nO y U aN.2 w0 a w ar)
  cases h
 | .block id body,st,bn,ans,ch,obs,e,h,aN=>by
  intro w0 a w ar;simp only[run]at h;split at h
  ·rename_i i st1 fg fS h1;simp only[aQ,bw]at h;obtain⟨rfl,rfl,rfl,rfl⟩:=h;refine wp_block (Code.wp_mono (fun e' cy aG hp=>?_) (nO body h1 aN w0 a w ar));obtain⟨rfl,dy⟩:=hp;simp only[gO.nt,Exit.inBlock];split
   ·exact⟨rfl,dy⟩
   exact⟨rfl,dy⟩
  rename_i b5;refine wp_block (Code.wp_mono (fun e' cy aG hp=>?_) (nO body h aN w0 a w ar));obtain⟨rfl,dy⟩:=hp;cases e with
  | normal=>exact⟨rfl,dy⟩
  | exit i=>exact absurd h (b5 _ _ _ _)
  | ret=>exact⟨rfl,dy⟩
 | .loop body,st,bn,ans,ch,obs,e,h,aN=>by
  intro w0 a w ar;simp only[run]at h;split at h
  ·rename_i Dn cK bs bE fG r;split at h
   ·cases h
   ·rename_i e1 st1 b5 aL;simp only[aQ,bw]at h;obtain⟨rfl,rfl,rfl,rfl⟩:=h;obtain⟨n,af⟩:=aN.1;exact wp_loop_rounds n (af w0 a w ((AQ aL ar).ey cK bs))
   cases h
  cases h
 | .exit id,st,bn,ans,ch,obs,e,h,aN=>by
  simp only[run,aQ,bw]at h;obtain⟨rfl,rfl,_,_⟩:=h;exact fun w0 a w ar=>wp_exit ⟨rfl,ar⟩
 | .ret,st,bn,ans,ch,obs,e,h,aN=>by
  simp only[run,aQ,bw]at h;obtain⟨rfl,rfl,_,_⟩:=h;exact fun w0 a w ar=>wp_ret ⟨rfl,ar⟩
 | .rangeFunc ..,_,_,_,_,_,_,h,_=>by simp[run]at h
 | .scope _,_,_,_,_,_,_,h,_=>by simp[run]at h
 | .goto _,_,_,_,_,_,_,h,_=>by simp[run]at h
 | .refuse _,_,_,_,_,_,_,h,_=>by simp[run]at h
end Go.Sx
namespace Go.Sx
open Go.RowKit
def aC.y1:aC->D->Option (D×Option Nat)
 | .v x,hint=>
  match x,hint with
  | .slice none 0 0,.J k _=>some (.J k [],none)
  | x,_=>if x.oneCell' then some (.v x,none) else none
 | .bg c,_=>some (.v (.bool c),none)
 | .J (.own t) k es,_=>some (.J k es,some t)
 | _,_=>none
abbrev ib:=List (Nat×Nat)
def ib.at(t:Nat):ib->Option Nat
 | []=>none
 | (s,n)::r=>if s=t then some n else ib.at t r
def EH(n:Nat):Option Nat->ib
 | some t=>[(t,n)]
 | none=>[]
def qE(n:Nat):List aC->List D->Option (List D×ib)
 | [],[]=>some ([],[])
 | l::ls,d::ds=>
  match l.y1 d,qE (n+1) ls ds with
  | some (dr,t),some (sf,ts)=>some (dr::sf,EH n t++ts)
  | _,_=>none
 | _,_=>none
def Ff(n:Nat):bd->cH->Option (cH×ib)
 | .one l,.one d=>(l.y1 d).map fun x=>(.one x.1,EH n x.2)
 | .agg ls,.agg ds=>(qE n ls ds).map fun x=>(.agg x.1,x.2)
 | _,_=>none
def rU(r:Nat):List aB->List cH->Option (List cH×ib)
 | [],[]=>some ([],[])
 | .aD a::cw,d::ds=>
  match Ff (100*r) a d,rU (r+1) cw ds with
  | some (dr,t),some (sf,ts)=>some (dr::sf,t++ts)
  | _,_=>none
 | _,_=>none
def EI(ts:ib):Bool:=ts.all fun x=>match ts.at x.1 with | some n=>n==x.2 | none=>false
variable{ts:ib}{n:Nat}
theorem EJ(h:EI ts=true){t:Nat}(hm:(t,n)∈ts):ts.at t=some n:=by
 have:=fN.1 h _ hm;simp only at this;split at this
 ·rename_i Ze e;rw[e];simp only[eu]at this;rw[this]
 cases this
def iM(ω:Own)(ts:ib):Own:=fun b=>
 match ω b with
 | .tok t q=>match ts.at t with | some n=>.tok n q | none=>.bx
 | _=>.bx
variable{w:World}{ω:Own}{τ:Nat->Nat×Value}
theorem aC.U2{l:aC}{h d:D}{t:Option Nat}{u:Value}(ax:l.y1 h=some (d,t))(ae:Sat w ω τ l u)
  (kd:∀s,t=some s->ts.at s=some n):bR w (iM ω ts) (Tag.own n).R d u:=by
 cases l with
 | cc=>cases ax
 | v x=>
  have e:u=x:=ae;subst e;simp only[aC.y1]at ax;split at ax
  ·simp only[aQ,bw]at ax;obtain⟨rfl,_⟩:=ax;exact .nil _ _ _
  split at ax
  ·simp only[aQ,bw]at ax;obtain⟨rfl,_⟩:=ax;exact .v _ _ ‹_›
  cases ax
 | bg c=>
  have e:u=.bool c:=ae;subst e;simp only[aC.y1,aQ,bw]at ax;obtain⟨rfl,_⟩:=ax;exact .v _ _ rfl
 | J g k es=>
  cases g with
  | free=>cases ax
  | ro s=>cases ax
  | own s=>
   simp only[aC.y1,aQ,bw]at ax;obtain⟨rfl,rfl⟩:=ax;refine ae.1.frame fun b q _ av=>⟨?_,rfl⟩
   simp only[Tag.R]at av ⊢;simp only[iM,av,kd s rfl]
 | ptr=>cases ax
 | ep=>cases ax
 | h8=>cases ax
 | fd=>cases ax
 | db=>cases ax
 | gP=>cases ax
 | aO=>cases ax
 | fk=>cases ax
theorem PR{t:Option Nat}{s:Nat}(h:t=some s):(s,n)∈EH n t:=by subst h;simp[EH]
theorem Jc{w:World}{ω:Own}{τ:Nat->Nat×Value}(kd:∀t n,(t,n)∈ts->ts.at t=some n):∀{ls:List aC} {ae ds:List D} {n:Nat} {j3:ib},qE n ls ae=some (ds,j3)->(∀x∈j3,x∈ts)->
  ds.length=ls.length/\∀(j:Nat) (d:D),ds[j]?=some d->∃l,ls[j]?=some l/\∀u,Sat w ω τ l u->bR w (iM ω ts) (Tag.own (n+j)).R d u
 | [],[],ds,n,j3,h,_=>by
  simp only[qE,aQ,bw]at h;obtain⟨rfl,_⟩:=h;exact⟨rfl,fun j d ax=>by simp at ax⟩
 | l::ls,bm::ae,ds,n,j3,h,jq=>by
  simp only[qE]at h;split at h
  ·rename_i dr t sf tj e1 e2;simp only[aQ,bw]at h;obtain⟨rfl,rfl⟩:=h;obtain⟨h1,U⟩:=Jc (w:=w) (ω:=ω) (τ:=τ) kd e2 (fun x aa=>jq x (hZ _ aa));refine⟨by simp[h1],fun j d ax=>?_⟩;cases j with
   | zero=>
    simp at ax;subst ax;exact⟨l,rfl,fun u hu=>aC.U2 e1 hu fun s c3=>kd s n (jq _ (gm _ (PR c3)))⟩
   | succ j=>
    obtain⟨ht,au,aH⟩:=U j d (by simpa using ax);refine⟨ht,by simpa using au,fun u hu=>?_⟩;have:=aH u hu;rwa[show n+1+j=n+(j+1) by omega]at this
  cases h
 | [],_::_,_,_,_,h,_=>by simp[qE]at h
 | _::_,[],_,_,_,h,_=>by simp[qE]at h
theorem ak9(kd:∀t n,(t,n)∈ts->ts.at t=some n){a:bd}{h d:cH}{r:Nat}{j3:ib}(ar:Ff (100*r) a h=some (d,j3))(jq:∀x∈j3,x∈ts)
  {y:Value} (ae:j6 (Sat w ω τ) a y):l4 w (iM ω ts) r d y:=by
 cases a with
 | one l=>
  cases h with
  | agg c3=>cases ar
  | one bm=>
   simp only[Ff,bX]at ar;obtain⟨⟨dr,t⟩,h1,U⟩:=ar;simp only[bw]at U;obtain⟨rfl,rfl⟩:=U;exact aC.U2 h1 ae fun s c3=>kd s _ (jq _ (PR c3))
 | agg ls=>
  cases h with
  | one bm=>cases ar
  | agg c3=>
   simp only[Ff,bX]at ar;obtain⟨⟨ds,t⟩,h1,U⟩:=ar;simp only[bw]at U;obtain⟨rfl,rfl⟩:=U;obtain⟨au,aH⟩:=Jc (w:=w) (ω:=ω) (τ:=τ) kd h1 jq;obtain⟨vs,rfl,aL,bj⟩:=ae;refine⟨vs,rfl,by omega,fun j o4 ax=>?_⟩;obtain⟨l,af,cU⟩:=aH j o4 ax;obtain⟨u,hu,eG⟩:=bj j l af;exact⟨u,hu,cU u eG⟩
theorem EK{w:World}{ω:Own}{τ:Nat->Nat×Value}{ts:ib}(kd:∀t n,(t,n)∈ts->ts.at t=some n):∀{cw:List aB} {ae ds:List cH} {r:Nat} {j3:ib},rU r cw ae=some (ds,j3)->(∀x∈j3,x∈ts)->
  ds.length=cw.length/\∀(j:Nat) (d:cH),ds[j]?=some d->∃p,cw[j]?=some p/\∀u,cM (Sat w ω τ) p u->l4 w (iM ω ts) (r+j) d u
 | [],[],ds,r,j3,h,_=>by
  simp only[rU,aQ,bw]at h;obtain⟨rfl,_⟩:=h;exact⟨rfl,fun j d ax=>by simp at ax⟩
 | .aD a::cw,bm::ae,ds,r,j3,h,jq=>by
  simp only[rU]at h;split at h
  ·rename_i dr t sf tj e1 e2;simp only[aQ,bw]at h;obtain⟨rfl,rfl⟩:=h;obtain⟨h1,U⟩:=EK (w:=w) (ω:=ω) (τ:=τ) kd e2 (fun x aa=>jq x (hZ _ aa));refine⟨by simp[h1],fun j d ax=>?_⟩;cases j with
   | zero=>
    simp at ax;subst ax;exact⟨.aD a,rfl,fun u hu=>ak9 kd e1 (fun x aa=>jq x (gm _ aa)) hu⟩
   | succ j=>
    obtain⟨ht,au,aH⟩:=U j d (by simpa using ax);refine⟨ht,by simpa using au,fun u hu=>?_⟩;have:=aH u hu;rwa[show r+1+j=r+(j+1) by omega]at this
  cases h
 | [],_::_,_,_,_,h,_=>by simp[rU]at h
 | .aD _::_,[],_,_,_,h,_=>by simp[rU]at h
 | .fM _::_,_,_,_,_,h,_=>by simp[rU]at h
def cH.arg:cH->bd
 | .one d=>.one (d.leaf .free)
 | .agg ds=>.agg (ds.map (D.leaf .free))
def ym(args:List cH)(ntmps:Nat):aE:=⟨args.map (fun a=>.aD a.arg)++List.replicate (ntmps-args.length) .cc,[]⟩
theorem ly.leaf{d:D}{u:Value}(h:ly w d u):Sat w (fun _=>.bx) τ (d.leaf .free) u:=D.dw (p:=(0,0)) h
theorem ala{args:List cH}{vs:Array Value}(sE:n5 w)(h:DS w args vs)(ntmps:Nat):
  Rel (ev.of w) (ym args ntmps) { tmps:=vs++Array.replicate (ntmps-vs.size) undef,defers:=[] } w:=by
 refine⟨fun _=>.bx,fun _=>(0,undef),rfl,by simp[ym,h.1],gn.refl _ sE (fun _ _ h=>h),fun b ah=>absurd rfl ah,fun _ _=>rfl,(fun _ _ _ h=>by cases h),?_,fun id ls af=>by simp[ym,dj]at af⟩;intro i p hp;simp only[ym]at hp;rw[lc,bp]at hp;split at hp
 ·rename_i hi;rw[c9,bX]at hp;obtain⟨cj,WZ,rfl⟩:=hp;obtain⟨v,bj,bH⟩:=h.2 i cj WZ;refine⟨v,?_,?_⟩
  ·rw[hj,a6 (by rw[h.1];exact hi)];exact bj
  cases cj with
  | one d=>exact ly.leaf bH
  | agg ds=>
   obtain⟨us,rfl,aL,hu⟩:=bH;refine⟨us,rfl,by simpa using aL,fun j l af=>?_⟩;rw[c9,bX]at af;obtain⟨d,ax,rfl⟩:=af;obtain⟨u,h1,U⟩:=hu j d ax;exact⟨u,h1,ly.leaf U⟩
 rename_i hi;rw[zd]at hp;split at hp
 ·rename_i bq;simp only[aQ]at hp;subst hp;refine⟨undef,?_,aj⟩;rw[hj,aX (by rw[h.1];exact hi),Array.getElem?_replicate,a6 (by rw[h.1];exact bq)]
 cases hp
def qw(P:Program)(st:aE):ResultVar->Option aB
 | .tmp t=>some (st.bk (.tmp t))
 | .cell a t=>
  match wJ P t,P.info? t,(st.bk (.tmp a)).leaf with
  | some agg,some i,some (.ptr id off)=>
   match dj id st.boxes with
   | some ls=>rn agg i.size ls off
   | none=>none
  | _,_,_=>none
def AR(tmps:Array Value):ResultVar->Sem Value
 | .tmp t=>pure (tmps.getD t undef)
 | .cell x t=>do loadVar t (<-asAddr (tmps.getD x undef))
theorem Jd(fn:Func)(tmps:Array Value):results fn tmps=(do
  let vs <-fn.results.mapM (AR tmps)
  pure (if h:vs.size=1 then vs[0] else .tuple vs)):=by
 unfold results;have:(fun x=>match x with | .tmp t=>pure (tmps.getD t undef) | .cell a t=>do loadVar t (<-asAddr (tmps.getD a undef)):ResultVar->Sem Value)=AR tmps:=by
  funext x;cases x<;>rfl
 rw[<-this];rfl
variable{P:Program}{st:aE}
theorem alb{w0:ev}{a:Act}(aV:cx w0 st a w ω τ){r:ResultVar}{p:aB}(h:qw P st r=some p):
  ∃z,(AR a.tmps r).run P w=.ok z w/\cM (Sat w ω τ) p z:=by
 cases r with
 | tmp t=>
  simp only[qw,aQ]at h;subst h;exact⟨_,rfl,aV.bk (.tmp t)⟩
 | cell x t=>
  simp only[qw]at h;split at h
  ·rename_i agg i id off e1 e2 b2;split at h
   ·rename_i ls cq;have aa:=aB.dw b2 (aV.bk (.tmp x));obtain⟨b,ah,aa⟩:=aa;simp only[Act.eval]at aa;obtain⟨cT,arr,ty,c7,z7,G0,di,eB⟩:=aV.boxes id ls cq;have:=z7 b ah;subst this;have:=yG (P:=P) e1 e2 h G0 (base:=0) (by omega) (fun j l af=>by simpa using eB j l af);simpa[AR,aa,asAddr]using this
   cases h
  cases h
def Fg(P:Program)(st:aE)(jJ:List ResultVar)(hint:List cH):Option (List cH):=
 match jJ.mapM (qw P st) with
 | some cw=>
  match rU 0 cw hint with
  | some (ds,ts)=>if EI ts then some ds else none
  | none=>none
 | none=>none
theorem EL{w0:ev}{a:Act}(aV:cx w0 st a w ω τ):∀{jJ:List ResultVar} {cw:List aB},jJ.mapM (qw P st)=some cw->
  ∃zs:List Value,(jJ.mapM (AR a.tmps)).run P w=.ok zs w/\zs.length=cw.length/\∀(i:Nat) (p:aB),cw[i]?=some p->∃z,zs[i]?=some z/\cM (Sat w ω τ) p z
 | [],cw,h=>by simp at h;subst h;exact⟨[],rfl,rfl,fun i p hp=>by simp at hp⟩
 | r::jJ,cw,h=>by
  rw[xh]at h;cases e:qw P st r with
  | none=>simp[e]at h
  | some iI=>
   cases e2:jJ.mapM (qw P st) with
   | none=>simp[e,e2]at h
   | some asn=>
    simp[e,e2]at h;subst h;obtain⟨z,h1,U⟩:=alb aV e;obtain⟨zs,au,aH,ba⟩:=EL aV e2;refine⟨z::zs,?_,by simp[aH],fun i p hp=>?_⟩
    ·rw[xh,Sem.run_bind,h1,Result.andThen_ok,Sem.run_bind,au];rfl
    cases i with
    | zero=>simp at hp;subst hp;exact⟨z,rfl,U⟩
    | succ i=>exact ba i p (by simpa using hp)
theorem PS{f:FuncId}{fn:Func}{c:Code}{args rs:List cH}{ans ch:List b4}{obs:List Prop}{e:gO}(bl:P.funcs[f]?=some fn)(ah:fn.body=some c)
  (eZ:run P c (ym args fn.ntmps) ans=some (e,st,ch,obs)) (aN:cB obs) (he:e=.ret\/e=.normal) (eA:Fg P st fn.results.toList rs=some rs):iW P f args rs:=by
 intro w vs sE mA;refine calls_of_wp bl ah (Code.wp_mono (fun e' cy aG hp=>?_) (nO c eZ aN (ev.of w) _ w (ala sE mA fn.ntmps)));obtain⟨rfl,ω,τ,aV⟩:=hp;unfold Fg at eA;split at eA
 ·rename_i cw sB;split at eA
  ·rename_i ds ts eo;split at eA
   ·rename_i bH;simp only[aQ]at eA;subst eA;obtain⟨zs,h1,U,au⟩:=EL aV sB;obtain⟨aH,ba⟩:=EK (w:=aG) (ω:=ω) (τ:=τ) (fun t n h=>EJ bH h) eo (fun x aa=>aa);have hm:=DJ (P:=P) _ fn.results aG _ h1;have eU:∀(j:Nat) (d:cH),ds[j]?=some d->∃z,zs[j]?=some z/\l4 aG (iM ω ts) j d z:=by
     intro j d ax;obtain⟨p,hp,sy⟩:=ba j d ax;obtain⟨z,aR,p'⟩:=au j p hp;exact⟨z,aR,by have:=sy z p';rwa[c']at this⟩
    have l0:zs.length=ds.length:=by omega
    have Xv:∀v,(if h:zs.toArray.size=1 then zs.toArray[0] else .tuple zs.toArray)=v->xn w aG ds v:=by
     intro v bj;refine⟨iM ω ts,fun b ah=>?_,fun b ah=>?_,?_⟩
     ·cases cQ:ω b with
      | bx=>simp[iM,cQ]
      | box id=>simp[iM,cQ]
      | tok t q=>
       rcases (aV.owned b (by simp[cQ])).1 with h | h
       ·exact absurd ah (by have h:w.heap.size<=b:=h;omega)
       exact absurd h (fun h=>h)
     ·cases cQ:ω b with
      | bx=>simp[iM,cQ]at ah
      | box id=>simp[iM,cQ]at ah
      | tok t q=>
       refine⟨?_,(aV.owned b (by simp[cQ])).2⟩;simp only[iM,cQ]at ah ⊢;cases kd:ts.at t with
       | none=>simp[kd]at ah
       | some n=>exact⟨n,q,rfl⟩
     unfold mY;split
     ·rename_i cj;obtain⟨z,aR,ad⟩:=eU 0 cj rfl;have h1:zs.length=1:=by rw[l0];rfl
      have pb:zs=[z]:=by
       match zs,h1,aR with
       | [z0],_,aR=>simp at aR;rw[aR]
      have z':v=z:=by
       rw[<-bj];simp[pb]
      rw[z'];exact ad
     rename_i b5;have h1:¬zs.toArray.size=1:=by
      intro h;simp at h;rw[l0]at h;obtain⟨d,ax⟩:=List.length_eq_one_iff.1 h;exact b5 d ax
     rw[dif_neg h1]at bj;exact⟨zs.toArray,bj.symm,by simpa using l0,fun r cj ar=>by obtain⟨z,aR,ad⟩:=eU r cj ar;exact⟨z,by simpa using aR,ad⟩⟩
    have dI:∃v,(results fn cy.tmps).run P aG=.ok v aG/\∃u,Ending.returned v=.returned u/\gA w.heap.size w aG/\xn w aG ds u:=by
     refine⟨_,?_,_,rfl,aV.below.below,Xv _ rfl⟩;rw[Jd,Sem.run_bind,hm];rfl
    obtain⟨v,br,b7⟩:=dI;rcases he with rfl | rfl
    ·exact⟨aV.defers,v,br,b7⟩
    exact⟨aV.defers,v,br,b7⟩
   cases eA
  cases eA
 cases eA
end Go.Sx
namespace Go.Sx
open Go.RowKit
def H0(P:Program)(c:Code)(ntmps:Nat)(jJ:List ResultVar)(args hint:List cH)(ans:List b4):Option (List cH×List Prop):=
 match run P c (ym args ntmps) ans with
 | some (.ret,st,_,obs)=>(Fg P st jJ hint).map fun rs=>(rs,obs)
 | some (.normal,st,_,obs)=>(Fg P st jJ hint).map fun rs=>(rs,obs)
 | _=>none
def oL(fn:Func):Code:=fn.body.getD .skip
variable{P:Program}
theorem iW.of{f:FuncId}{fn:Func}{args rs:List cH}(ans:List b4)(obs:List Prop)(bl:P.funcs[f]?=some fn)(ah:fn.body.isSome=true)
  (h:H0 P (oL fn) fn.ntmps fn.results.toList args rs ans=some (rs,obs)) (aN:cB obs):iW P f args rs:=by
 obtain⟨c,ad⟩:=pL.1 ah;have zF:oL fn=c:=by simp[oL,ad]
 unfold H0 at h;rw[zF]at h;split at h
 ·rename_i st a mR ar;rw[bX]at h;obtain⟨uQ,h1,h⟩:=h;simp only[bw]at h;obtain⟨rfl,rfl⟩:=h;exact PS bl ad ar aN (.inl rfl) h1
 ·rename_i st a mR ar;rw[bX]at h;obtain⟨uQ,h1,h⟩:=h;simp only[bw]at h;obtain⟨rfl,rfl⟩:=h;exact PS bl ad ar aN (.inr rfl) h1
 cases h
def Al(P:Program)(body:Code)(st:aE)(ans:List b4)(cK bs:List Nat):Option (gO×aE×List Prop):=
 (run P body st ans).map fun r=>(r.1,r.2.1.ey cK bs,r.2.2.2)
variable{body:Code}{st bn:aE}{e:gO}
theorem fP.HW{ans:List b4}{cK bs:List Nat}{obs:List Prop}(h:Al P body st ans cK bs=some (e,bn,obs))(aN:cB obs):fP P body st e bn:=by
 unfold Al at h;rw[bX]at h;obtain⟨⟨bB,bV,cb,et⟩,h1,h⟩:=h;simp only[bw]at h;obtain⟨rfl,rfl,rfl⟩:=h;intro w0 a w ar;exact Code.wp_mono (fun e' cy aG ⟨h1,U⟩=>⟨h1,U.ey cK bs⟩) (nO body h1 aN w0 a w ar)
def HO(P:Program)(body:Code)(st:aE)(ans:List b4)(ns:List (Nat×Nat×Nat))(cK bs:List Nat):Option (gO×aE×List Prop):=
 (run P body st ans).bind fun r=>(uw r.2.1 ns).map fun s=>(r.1,s.ey cK bs,r.2.2.2)
theorem fP.Zm{ans:List b4}{ns:List (Nat×Nat×Nat)}{cK bs:List Nat}{obs:List Prop}(h:HO P body st ans ns cK bs=some (e,bn,obs))(aN:cB obs):fP P body st e bn:=by
 unfold HO at h;rw[mj]at h;obtain⟨⟨bB,bV,cb,et⟩,h1,h⟩:=h;rw[bX]at h;obtain⟨s,ae,h⟩:=h;simp only[bw]at h;obtain⟨rfl,rfl,rfl⟩:=h;intro w0 a w ar;exact Code.wp_mono (fun e' cy aG ⟨h1,U⟩=>⟨h1,(AQ ae U).ey cK bs⟩) (nO body h1 aN w0 a w ar)
theorem dd.step{st1:aE}(ans:List b4)(cK bs:List Nat)(obs:List Prop)(h:Al P body st ans cK bs=some (.normal,st1,obs))(aN:cB obs)(U:dd P body st1 e bn):dd P body st e bn:=
 .more (fP.HW h aN) U
theorem dd.done(ans:List b4)(cK bs:List Nat)(obs:List Prop)(he:e.nt≠.normal)(h:Al P body st ans cK bs=some (e,bn,obs))(aN:cB obs):dd P body st e bn:=
 .last he (fP.HW h aN)
theorem cL(i:Nat):(gO.exit i).nt≠.normal:=fun h=>by cases h
theorem hd:gO.ret.nt≠.normal:=fun h=>by cases h
def tY:Code->List Code
 | .seq a b=>tY a++tY b
 | .cond _ a b=>tY a++tY b
 | .block _ b=>tY b
 | .loop b=>b::tY b
 | .scope b=>tY b
 | _=>[]
def az(fn:Func)(i:Nat):Code:=(tY (oL fn)).getD i .skip
def tZ:Code->List (Nat×Array Oper)
 | .region id ops true=>[(id,ops)]
 | .seq a b=>tZ a++tZ b
 | .cond _ a b=>tZ a++tZ b
 | .block _ b=>tZ b
 | .loop b=>tZ b
 | .scope b=>tZ b
 | _=>[]
def cG(fn:Func)(id:Nat):Array Oper:=(((tZ (oL fn)).find? fun x=>Nat.beq x.1 id).map (·.2)).getD #[]
def WG(n:Nat)(l:List (Nat×aB)):List aB:=l.foldl (fun e x=>e.set x.1 x.2) (List.replicate n .cc)
abbrev I(n:Int):D:=.v (.int .i64 n)
abbrev B(b:Bool):D:=.v (.bool b)
abbrev aqS(s:ByteArray):D:=.v (.string s)
end Go.Sx
namespace Go.Sx
open Go.RowKit
inductive jQ (P:Program):TypeId->List D->Prop
 | bool (t:TypeId) (b:Bool) (h:P.underlying t=some .bool):jQ P t [.v (.bool b)]
 | int (t:TypeId) (k:IntKind) (n:Int) (h:P.underlying t=some (.int k)) (hw:(Lit.int k n).wf=true):jQ P t [.v (.int k n)]
 | str (t:TypeId) (s:ByteArray) (h:P.underlying t=some .string) (ae:s.size<=maxLen):jQ P t [.v (.string s)]
 | J (t e:TypeId) (es:List (List D)) (h:P.underlying t=some (.slice e)) (af:es.length<=maxLen) (he:∀ds∈es,jQ P e ds):jQ P t [.J (P.cellsOf e) es]
 | struct (t:TypeId) (eT:Array Field) (ds:List D) (h:P.underlying t=some (.struct eT)) (af:ds.length=P.cellsOf t) (bl:∀f∈eT.toList,jQ P f.type ((ds.drop f.offset).take (P.cellsOf f.type))):jQ P t ds
def uS(P:Program):Nat->List Field->Nat->Bool
 | o,[],n=>o==n
 | o,f::r,n=>f.offset==o&&uS P (o+P.cellsOf f.type) r n
def t'(P:Program):Nat->TypeId->Bool
 | 0,_=>false
 | m+1,t=>
  match P.underlying t with
  | some .bool | some (.int _) | some .string=>true
  | some (.slice e)=>decide (0<P.cellsOf e)&&t' P m e
  | some (.struct eT)=>eT.toList.all (fun f=>t' P m f.type)&&uS P 0 eT.toList (P.cellsOf t)
  | _=>false
def o0(w:World)(ds:List D)(cs:List Value):Prop:=ds.length=cs.length/\∀(i:Nat) (d:D),ds[i]?=some d->∃v,cs[i]?=some v/\ly w d v
theorem o0.one{w:World}{d:D}{v:Value}(h:ly w d v):o0 w [d] [v]:=
 ⟨rfl,fun i dr ax=>by
  cases i with
  | zero=>simp at ax;subst ax;exact⟨v,rfl,h⟩
  | succ i=>simp at ax⟩
theorem o0.append{w:World}{a b:List D}{x y:List Value}(h:o0 w a x)(k:o0 w b y):o0 w (a++b) (x++y):=by
 refine⟨by simp[h.1,k.1],fun i d ax=>?_⟩;rw[lc]at ax ⊢;rw[<-h.1];split at ax
 ·rename_i hi;rw[a6 hi];exact h.2 i d ax
 rename_i hi;rw[aX hi];exact k.2 _ d ax
theorem Je{P:Program}:∀{fE:List Field} {o n:Nat},uS P o fE n=true->o<=n/\∀f∈fE,o<=f.offset/\f.offset+P.cellsOf f.type<=n
 | [],o,n,h=>by simp[uS]at h;exact⟨by omega,fun f bl=>by cases bl⟩
 | f::r,o,n,h=>by
  simp only[uS,ca,eu]at h;obtain⟨h1,U⟩:=Je h.2;refine⟨by omega,fun g ao=>?_⟩;rcases dG.1 ao with rfl | ao
  ·exact⟨by omega,by omega⟩
  have:=U g ao;exact⟨by omega,this.2⟩
theorem Vc{P:Program}{w:World}{cs:List Value}:∀{fE:List Field} {o:Nat},uS P o fE cs.length=true->
  (∀f∈fE,∃ds,jQ P f.type ds/\o0 w ds ((cs.drop f.offset).take (P.cellsOf f.type)))->
  ∃ds,o0 w ds (cs.drop o)/\∀f∈fE,jQ P f.type ((ds.drop (f.offset-o)).take (P.cellsOf f.type))
 | [],o,h,_=>by
  simp only[uS,eu]at h;subst h;exact⟨[],⟨by simp,fun i d ax=>by simp at ax⟩,fun f bl=>by cases bl⟩
 | f::r,o,h,bl=>by
  have hle:=Je h;simp only[uS,ca,eu]at h;obtain⟨bm,h⟩:=h;obtain⟨ds,h1,U⟩:=Vc h fun g ao=>bl g (by simp[ao])
  obtain⟨d0,au,aH⟩:=bl f (by simp);have C0:d0.length=P.cellsOf f.type:=by
   rw[aH.1];have:=(hle.2 f (by simp)).2;simp;omega
  refine⟨d0++ds,?_,?_⟩
  ·have:cs.drop o=(cs.drop f.offset).take (P.cellsOf f.type)++cs.drop (o+P.cellsOf f.type):=by
    rw[bm,<-List.drop_drop];exact (zf _ _).symm
   rw[this];exact aH.append h1
  intro g ao;rcases dG.1 ao with rfl | ao
  ·rw[bm,Nat.sub_self,oX,ME (by omega),tp (by omega)];exact au
  have arI:=U g ao;have:=(Je h).2 g ao;rw[List.drop_append,List.drop_eq_nil_of_le (show d0.length<=g.offset-o by omega),List.nil_append,C0];rwa[show g.offset-o-P.cellsOf f.type=g.offset-(o+P.cellsOf f.type) by omega]
section
variable {H : Type} {enc : TypeId × Value -> H} {P : Program} {w : World} {base : Nat} {held : Bool}
theorem EM{a:Addr}{k:Nat}{cs:List Value}(h:w.cells? base a k=some cs):cs.length=k/\∀i,i<k->w.cell? (a.add i)=cs[i]?:=by
 unfold World.cells? at h;split at h
 ·exact⟨by simpa using mapM_some_length h,fun i hi=>mapM_some_get h i i (by simp[hi])⟩
 cases h
theorem Jf{a:Addr}{v:Value}(h:w.cell? a=some v):∃arr ty cO,w.heap[a.block]?=some (.cells arr ty cO)/\a.spot=none/\arr[a.off]?=some v:=by
 unfold World.cell? at h;split at h
 ·rename_i arr ty cO e;split at h
  ·cases h
  rename_i ae;refine⟨arr,ty,cO,e,?_,h⟩;cases Hl:a.spot with
  | none=>rfl
  | some x=>simp[Hl]at ae
 cases h
theorem Jg:∀(m:Nat) (t:TypeId) (hE:Nat) (cs:List Value) (x:DataW H×List MemPlace),t' P m t=true->DataW.trod enc P w base (fun _=>true) held hE t cs=some x->
  ∃ds,jQ P t ds/\o0 w ds cs
 | 0,_,_,_,_,h,_=>by cases h
 | m+1,t,hE,cs,x,ae,h=>by
  unfold t' at ae;split at ae
  ·rename_i hu;obtain⟨b,rfl,_⟩:=DataW.trod_bool hu h;exact⟨_,.bool t b hu,.one (.v _ _ rfl)⟩
  ·rename_i k hu;obtain⟨n,rfl,_,hw⟩:=DataW.trod_int hu h;exact⟨_,.int t k n hu hw,.one (.v _ _ rfl)⟩
  ·rename_i hu;obtain⟨s,rfl,_,hw⟩:=DataW.trod_string hu h;exact⟨_,.str t s hu hw,.one (.v _ _ rfl)⟩
  ·rename_i e hu;simp only[ca,ci]at ae;obtain⟨oj,Db⟩:=ae;rcases DataW.trod_slice hu h with⟨rfl,_⟩ | ⟨a,len,cap,MW,rest,n,_,rfl,_,_,af,ad,hlen,tM,Hl,_⟩
   ·exact⟨_,.J t e [] hu (by simp) (fun ds eo=>by cases eo),.one (.nil _ _ _)⟩
   obtain⟨NT,C9⟩:=Hl rfl;generalize gu:P.cellsOf e=k at*;have h3:∀i,i<cap->∃cs,w.cells? base (a.add (i*k)) k=some cs/\∃x,DataW.trod enc P w base (fun _=>true) held n e cs=some x:=by
    intro i hi;by_cases jz:i<len
    ·have:=tM i jz;obtain⟨y,a1⟩:∃y,MW[i]?=some y:=⟨MW[i],fC (by omega)⟩
     rw[a1,mj]at this;obtain⟨cs,h1,U⟩:=this;exact⟨cs,h1,y,U⟩
    have:=C9 (i-len) (by omega);rw[show len+(i-len)=i by omega]at this;obtain⟨y,a1⟩:∃y,rest[i-len]?=some y:=⟨rest[i-len],fC (by omega)⟩
    rw[a1,mj]at this;obtain⟨cs,h1,U⟩:=this;exact⟨cs,h1,y,U⟩
   by_cases eY:cap=0
   ·subst eY;have:len=0:=by omega
    subst this;have:=jQ.J (P:=P) t e [] hu (by simp) (fun ds eo=>by cases eo);exact⟨_,this,.one (.nil _ _ _)⟩
   have Xp:∀i,∃ds,i<len->jQ P e ds/\∃cs,w.cells? base (a.add (i*k)) k=some cs/\o0 w ds cs:=by
    intro i;by_cases hi:i<len
    ·obtain⟨cs,h1,x,U⟩:=h3 i (by omega);obtain⟨ds,au,aH⟩:=Jg m e n cs x Db U;exact⟨ds,fun _=>⟨au,cs,h1,aH⟩⟩
    exact⟨[],fun h=>absurd h hi⟩
   obtain⟨f,bl⟩:=Classical.skolem.1 Xp;obtain⟨cl,mB,_⟩:=h3 (cap-1) (by omega);obtain⟨arA,Xc⟩:=EM mB;have tO:=Xc (k-1) (by omega);obtain⟨asB,Hr⟩:∃v,cl[k-1]?=some v:=⟨cl[k-1],fC (by omega)⟩
   rw[Hr]at tO;obtain⟨b,off,spot⟩:=a;have YF:spot=none:=by
    obtain⟨dg,W8,_⟩:=h3 0 (by omega);obtain⟨ary,W9⟩:=EM W8;have bm:=W9 0 oj;obtain⟨v0,Dd⟩:∃v,dg[0]?=some v:=⟨dg[0],fC (by omega)⟩
    rw[Dd]at bm;obtain⟨_,_,_,_,h1,_⟩:=Jf bm;simpa[Addr.add]using h1
   subst YF;obtain⟨arr,ty,cO,ah,_,tO⟩:=Jf tO;simp only[qp]at ah tO;have di:off+cap*k<=arr.size:=by
    have h1:=(hA.1 tO).1;have U:cap*k=(cap-1)*k+k:=by rw[<-Nat.succ_mul];congr 1;omega
    omega
   have CX:((List.range len).map f).length=len:=by simp
   have gE:∀i j d,cX ((List.range len).map f) i j=some d->i<len/\(f i)[j]?=some d:=by
    intro i j d ax;unfold cX at ax;rw[c9]at ax;by_cases hi:i<len
    ·rw[List.getElem?_range hi]at ax;exact⟨hi,by simpa using ax⟩
    rw[List.getElem?_eq_none (by simpa using hi)]at ax;simp at ax
   have eU:∀i j d,cX ((List.range len).map f) i j=some d->∃u,arr[off+i*k+j]?=some u/\ly w d u:=by
    intro i j d ax;obtain⟨hi,aM⟩:=gE i j d ax;obtain⟨_,cs,h1,U⟩:=bl i hi;obtain⟨Xb,sn⟩:=EM h1;obtain⟨u,jD,ar⟩:=U.2 j d aM;have zK:j<k:=by rw[<-Xb];exact (dK.1 jD).1
    have:=sn j zK;rw[jD]at this;obtain⟨hB,hL,Gq,gg,_,aa⟩:=Jf this;simp only[qp]at gg aa;rw[ah]at gg;cases gg;exact⟨u,aa,ar⟩
   have C8:bR w (fun _=>.bx) Tag.free.R (.J k ((List.range len).map f)) (.slice (some ⟨b,off,none⟩) ((List.range len).map f).length cap):=by
    refine .row _ k _ b off cap arr ty cO (fun i j=>arr.getD (off+i*k+j) undef) ah rfl (by omega) di ?_ ?_ ?_
    ·intro e' he;obtain⟨i,hi,rfl⟩:=h'.1 he;obtain⟨_,cs,h1,U⟩:=bl i (by simpa using hi);rw[U.1];exact (EM h1).1
    ·intro i j d ax;obtain⟨u,h1,_⟩:=eU i j d ax;rw[h1];simp[ea,h1]
    intro i j d ax;obtain⟨u,h1,U⟩:=eU i j d ax;have:arr.getD (off+i*k+j) undef=u:=by simp[ea,h1]
    rw[this];exact U
   rw[CX]at C8;have mI:=jQ.J (P:=P) t e ((List.range len).map f) hu (by rw[CX];omega);rw[gu]at mI;refine⟨_,mI ?_,.one C8⟩;intro ds eo;obtain⟨i,hi,rfl⟩:=h'.1 eo;exact (bl i (by simpa using hi)).1
  ·rename_i eT hu;simp only[ca,fN]at ae;obtain⟨lY,tS⟩:=ae;obtain⟨xs,n,_,_,af,gk,bl⟩:=DataW.trod_struct hu h;rw[<-af]at tS;obtain⟨ds,h1,U⟩:=Vc (w:=w) tS fun f No=>by
    obtain⟨i,hi⟩:=ng.1 No;have:=bl i f (by simpa using hi);have ka:i<xs.length:=by rw[gk];have:=(dK.1 hi).1;simpa using this
    rw[fC ka]at this;exact Jg m f.type n _ _ (lY f No) this
   rw[oX]at h1;exact⟨ds,.struct t eT ds hu (by rw[h1.1,af]) (by simpa using U),h1⟩
  cases ae
end
end Go.Sx
namespace Go.Sx
open Go.ChangeShapes Go.WideShapes Go.ChangeAt Go.RowKit Go.Joins
def r7(P:Program)(t:TypeId):Bool:=match P.underlying t with | some (.struct _)=>true | _=>false
def Cr(P:Program)(t:TypeId):cH->Prop
 | .one d=>jQ P t [d]/\r7 P t=false
 | .agg ds=>jQ P t ds/\r7 P t=true
def Cs(P:Program):List TypeId->List cH->Prop
 | [],[]=>True
 | t::ts,a::as=>Cr P t a/\Cs P ts as
 | _,_=>False
section
variable {H : Type} {enc : TypeId × Value -> H} {P : Program} {w : World} {base cf : Nat} {held : Bool} {r : Reach}
theorem alc{t:TypeId}{v:Value}{d:DataW H}{cw:List MemPlace}(ae:t' P 20 t=true)(gF:Value.okWide P w r cf t v)(h:DataW.Trod enc P w base (fun _=>true) held t v d cw):
  ∃cj,Cr P t cj/\r3 w cj v:=by
 obtain⟨hE,bl⟩:=h;obtain⟨ds,h1,U⟩:=Jg 20 t hE _ _ ae bl;have one:(∀cs,v≠.agg cs)->r7 P t=false->∃cj,Cr P t cj/\r3 w cj v:=by
  intro bj ag;have ad:v.cells.toList=[v]:=by
   cases v<;>first | rfl | (exact absurd rfl (bj _))
  rw[ad]at U
  match ds,h1,U with
  | [d],h1,U=>
   obtain⟨u,hu,ar⟩:=U.2 0 d rfl;simp at hu;subst hu;exact⟨.one d,⟨h1,ag⟩,ar⟩
  | [],_,U=>simp[o0]at U
  | _::_::_,_,U=>simp[o0]at U
 rw[show (20:Nat)=19+1 from rfl]at ae;unfold t' at ae;unfold Value.okWide at gF;split at ae
 ·rename_i hu;rw[hu]at gF;refine one (fun cs e=>?_) (by simp[r7,hu]);subst e;simp[Cell.okWide,Cell.ok,hu]at gF
 ·rename_i hu;rw[hu]at gF;refine one (fun cs e=>?_) (by simp[r7,hu]);subst e;simp[Cell.okWide,Cell.ok,hu]at gF
 ·rename_i hu;rw[hu]at gF;refine one (fun cs e=>?_) (by simp[r7,hu]);subst e;simp[Cell.okWide,Cell.ok,hu]at gF
 ·rename_i hu;rw[hu]at gF;refine one (fun cs e=>?_) (by simp[r7,hu]);subst e;simp[Cell.okWide,Cell.ok,hu]at gF
 ·rename_i hu;rw[hu]at gF;obtain⟨cs,rfl,_,_⟩:=gF;refine⟨.agg ds,⟨h1,by simp[r7,hu]⟩,cs,rfl,by have:=U.1;simpa[Value.cells]using this.symm,fun i d ax=>?_⟩;obtain⟨u,jD,ar⟩:=U.2 i d ax;exact⟨u,by simpa[Value.cells]using jD,ar⟩
 cases ae
theorem PT:∀(ts:List TypeId) (vs:List Value) (ds:List (DataW H)) (cw:List MemPlace),ts.all (t' P 20)=true->(∀(j:Nat) t v,ts[j]?=some t->vs[j]?=some v->Value.okWide P w r cf t v)->
  DataW.TrodAll enc P w base (fun _=>true) held ts vs ds cw->∃gB,Cs P ts gB/\vs.length=gB.length/\∀(i:Nat) (cj:cH),gB[i]?=some cj->∃v,vs[i]?=some v/\r3 w cj v
 | [],[],[],_,_,_,_=>⟨[],aj,rfl,fun i cj h=>by simp at h⟩
 | t::ts,v::vs,d::ds,cw,ae,gF,h=>by
  obtain⟨p,q,h1,U,_⟩:=h;simp only[List.all_cons,ca]at ae;obtain⟨cj,WY,Gy⟩:=alc ae.1 (gF 0 t v rfl rfl) h1;obtain⟨gB,au,aH,ba⟩:=PT ts vs ds q ae.2 (fun j t v bt bj=>gF (j+1) t v (by simpa using bt) (by simpa using bj)) U;refine⟨cj::gB,⟨WY,au⟩,by simp[aH],fun i n9 hi=>?_⟩;cases i with
  | zero=>simp at hi;subst hi;exact⟨v,rfl,Gy⟩
  | succ i=>simpa using ba i n9 (by simpa using hi)
 | [],_::_,_,_,_,_,h=>by simp[DataW.TrodAll]at h
 | [],[],_::_,_,_,_,h=>by simp[DataW.TrodAll]at h
 | _::_,[],_,_,_,_,h=>by simp[DataW.TrodAll]at h
 | _::_,_::_,[],_,_,_,h=>by simp[DataW.TrodAll]at h
theorem PU{H:Type}{enc:TypeId×Value->H}{P:Program}(af:laidOutB P=true){W zk:World}(ah:Below W.heap.size W zk):
  ∀(ts:List TypeId) (vs:List Value) (ds:List (DataW H)) (cw:List MemPlace),ts.all (fun t=>P.readableRec t&&decide (t<P.types.size))=true->
   DataW.TrodAll enc P W 0 (fun _=>true) true ts vs ds cw->(∀x∈cw,x.block<W.heap.size)->
   DataW.TrodAll enc P zk 0 (fun b=>decide (b<W.heap.size)) true ts vs ds cw
 | [],vs,ds,cw,_,h,_=>by
  obtain⟨rfl,rfl,rfl⟩:=trodAll_nil h;exact trodAll_mk0
 | t::ts,vs,ds,cw,bt,h,bq=>by
  obtain⟨v,aqK,d,sf,p,q,rfl,rfl,rfl,bm,ar⟩:=trodAll_cons h;simp only[List.all_cons,ca,ci]at bt;exact trodAll_cons_mk (Below.trod af bt.1.1 bt.1.2 bm ah (fun x aa=>bq x (gm _ aa)))
   (PU af ah ts aqK sf q bt.2 ar (fun x aa=>bq x (hZ _ aa)))
theorem PV:∀(ts:List TypeId) (vs:List Value) (ds:List (DataW H)) (cw:List MemPlace),DataW.TrodAll enc P w base (fun _=>true) held ts vs ds cw->ds.length=ts.length
 | [],[],[],_,_=>rfl
 | t::ts,v::vs,d::ds,cw,h=>by
  obtain⟨p,q,_,U,_⟩:=h;simp[PV ts vs ds q U]
 | [],_::_,_,_,h=>by simp[DataW.TrodAll]at h
 | [],[],_::_,_,h=>by simp[DataW.TrodAll]at h
 | _::_,[],_,_,h=>by simp[DataW.TrodAll]at h
 | _::_,_::_,[],_,h=>by simp[DataW.TrodAll]at h
theorem akn(af:laidOutB P=true){f:Func}{fno:Nat}{s:ChangeSpec}{tb:TypeId}(eA:f.resultTypes=#[tb])(ah:P.underlying tb=some .bool)
  (hp:f.params.toList.all (fun t=>P.readableRec t&&decide (t<P.types.size))=true) (ew:f.params.toList.all (t' P 20)=true) (N2:s.vars=[])
  {W:World} {args:Array Value} {ds gs:List (DataW H)} {before:List MemPlace} (gF:∀(j:Nat) t v,f.params[j]?=some t->args[j]?=some v->Value.okWide P W r cf t v)
  (tH:DataW.Whole enc P f.params.toList s.vars false W args.toList ds gs before)
  (ae:ds.length=f.params.size->(s.fn H ds).results=[.lit (.bool true)]/\(s.fn H ds).args=ds/\(s.fn H ds).vars=[])
  (sE:n5 W) (X0:∀gB,Cs P f.params.toList gB->iW P fno gB [.one (B true)]):
  Calls P fno args W fun e zk=>∃v,e=.returned v/\s.post enc P f false true false false W args v zk:=by
 have WX:=tH;have bq:=tH.lt;obtain⟨p,q,zB,M8,rfl,arH,arU⟩:=tH;rw[N2]at M8;obtain⟨rfl,rfl⟩:=trodVars_none M8;obtain⟨h1,U,au⟩:=ae (by have:=PV _ _ _ _ zB;simpa using this);obtain⟨gB,YD,hlen,bH⟩:=PT _ _ _ _ ew (fun j t v bt bj=>gF j t v (by simpa using bt) (by simpa using bj)) zB;refine (X0 gB YD W args sE ⟨by simpa using hlen,fun i cj hi=>by simpa using bH i cj hi⟩).mono ?_;rintro e zk ⟨v,rfl,oe,ar⟩;have bj:v=.bool true:=by
  obtain⟨ω,_,_,h⟩:=ar;simp only[mY,l4]at h;cases h;rfl
 subst bj;refine⟨_,rfl,ds,[],p++[],[],p,[],WX,?_,?_,?_,oe.below.frame _,fun h=>by cases h⟩
 ·rw[ix,h1,eA];exact trodAll_mk1 (shut_bool ah true)
 ·rw[ix,U];exact PU af oe.below _ _ _ _ hp zB (fun x aa=>bq x (by simpa using aa))
 rw[ix,au,N2];rfl
end
