import Derived.Test.YtdchjefneblpgaaGreatR6
set_option linter.unusedVariables false
set_option linter.unusedSimpArgs false
namespace Go.Sx
open Go.RowKit
def wN(t:Nat)(ms:hR)(k:Nat)(cp:List (List D)):aC->aC
 | .J (.own s) b8 es=>if s=t then .J (.own t) k cp else if (ms.at s).isSome then .cc else .J (.own s) b8 es
 | .ep (.own s) b8 es i j=>if s=t then .ep (.own t) k cp i j else if (ms.at s).isSome then .cc else .ep (.own s) b8 es i j
 | .J (.ro s) b8 es=>if s=t then .cc else if (ms.at s).isSome then .cc else .J (.ro s) b8 es
 | .ep (.ro s) b8 es i j=>if s=t then .cc else if (ms.at s).isSome then .cc else .ep (.ro s) b8 es i j
 | .aO s a b dp dx m=>if s=t then .cc else if (ms.at s).isSome then .cc else .aO s a b dp dx m
 | .fk _ _=>.cc
 | l=>l
def mX(t:Nat)(ms:hR):cS->cS
 | .tok s q=>if s=t then .tok s q else match ms.at s with | some p=>.tok t (p::q) | none=>.tok s q
 | o=>o
variable{t:Nat}{ms:hR}
theorem DQ{o:cS}{id:Nat}:mX t ms o=.box id<->o=.box id:=by
 cases o with
 | bx=>simp[mX]
 | box i=>simp[mX]
 | tok s q=>
  simp only[mX];split
  ·simp
  ·split<;>simp
theorem ajY{o:cS}:mX t ms o=.bx<->o=.bx:=by
 cases o with
 | bx=>simp[mX]
 | box i=>simp[mX]
 | tok s q=>
  simp only[mX];split
  ·simp
  ·split<;>simp
variable{i j:Nat}{ds:List D}
theorem Iz{es:List (List D)}{x:Nat}(hi:i<es.length):cX (es.set i ds) x j=if x=i then ds[j]? else cX es x j:=by
 unfold cX;rw[iS];by_cases h:i=x
 ·subst h;rw[a6 rfl,a6 hi,a6 rfl];rfl
 rw[aX h,aX (Ne.symm h)]
def kP(ds:List D)(off:Nat)(xs:List D):List D:=ds.take off++(xs++ds.drop (off+xs.length))
theorem Py{xs:List D}{off:Nat}(h:off+xs.length<=ds.length):(kP ds off xs)[i]?=if off<=i/\i<off+xs.length then xs[i-off]? else ds[i]?:=by
 unfold kP;rw[lc,lJ,Nat.min_eq_left (by omega)];by_cases h1:i<off
 ·rw[a6 h1,aX (by omega),gX,a6 h1]
 rw[aX h1,lc];by_cases U:i-off<xs.length
 ·rw[a6 U,a6 (by omega)]
 rw[aX U,aX (by omega),gV]
 congr 1
 omega
theorem Pz{xs:List D}{off:Nat}(h:off+xs.length<=ds.length):(kP ds off xs).length=ds.length:=by
 simp[kP];omega
def IA(t:Nat)(ms:hR):Bool:=ms.all fun x=>x.1≠t&&(match ms.at x.1 with | some p=>p.1==x.2.1&&p.2==x.2.2 | none=>false)
theorem ajZ(h:IA t ms=true){s:Nat}{p:Nat×Nat}(hm:(s,p)∈ms):s≠t/\ms.at s=some p:=by
 have h1:=fN.1 h _ hm;simp only[ca,ci]at h1;refine⟨h1.1,?_⟩;have U:=h1.2;split at U
 ·rename_i q e;simp only[ca,eu]at U;rw[e,aQ];exact Prod.ext U.1 U.2
 cases U
theorem IB(i:Nat):∀(xs:List aC) (j:Nat),k3 i j xs=(k3 0 j xs).map fun x=>(x.1,(i,x.2.2))
 | [],_=>rfl
 | l::ls,j=>by
  simp only[k3];split
  ·simp only[iT,r0,true_and];exact IB i ls (j+1)
  exact IB i ls (j+1)
theorem PA(i s:Nat):∀ms:hR,hR.at s (ms.map fun x=>(x.1,(i,x.2.2)))=(hR.at s ms).map fun p=>(i,p.2)
 | []=>rfl
 | (a,p)::r=>by
  simp only[iT,hR.at];split
  ·rfl
  exact PA i s r
theorem IC(i0:Nat):∀(xs:List aC) (j s:Nat) (p:Nat×Nat),(s,p)∈k3 i0 j xs->p.1=i0
 | [],_,_,_,h=>by simp[k3]at h
 | l::ls,j,s,p,h=>by
  simp only[k3]at h;split at h
  ·rcases dG.1 h with h | h
   ·simp only[bw]at h;rw[h.2]
   exact IC i0 ls (j+1) s p h
  exact IC i0 ls (j+1) s p h
theorem PB{xs:List aC}(h:IA t (k3 0 j xs)=true){s:Nat}{p:Nat×Nat}(hm:(s,p)∈k3 i j xs):s≠t/\(k3 i j xs).at s=some p:=by
 have hp:=IC i xs j s p hm;rw[IB]at hm ⊢;obtain⟨⟨tg,qh⟩,h1,U⟩:=h'.1 hm;simp only[bw]at U;obtain⟨rfl,U⟩:=U;obtain⟨au,aH⟩:=ajZ h h1;refine⟨au,?_⟩;rw[PA,aH,<-U];rfl
def u9.flat:u9->Bool
 | .at_ _ _=>false
 | _=>true
def uj(t:Nat):Nat->List aC->Option (List D×List Nat)
 | _,[]=>some ([],[])
 | j,.aO s a b k es m::ls=>if s=t/\b=j/\m.flat=true then (uj t (j+1) ls).map fun r=>(.J k es::r.1,a::r.2) else none
 | j,l::ls=>
  match l.iR,uj t (j+1) ls with
  | some d,some r=>some (d::r.1,r.2)
  | _,_=>none
theorem PC:∀{xs:List aC} {j:Nat} {ys:List D} {is:List Nat},uj t j xs=some (ys,is)->ys.length=xs.length/\
  ∀(y:Nat) (d:D),ys[y]?=some d->∃l,xs[y]?=some l/\(l.iR=some d\/∃a k es m,l=.aO t a (j+y) k es m/\m.flat=true/\a∈is/\d=.J k es)
 | [],j,ys,is,h=>by
  simp only[uj,aQ,bw]at h;obtain⟨rfl,rfl⟩:=h;exact⟨rfl,fun y d ax=>by simp at ax⟩
 | l::ls,j,ys,is,h=>by
  have fin:∀d0 FN HG Di,ys=d0::FN->is=Di->(∀a∈HG,a∈Di)->uj t (j+1) ls=some (FN,HG)->(l.iR=some d0\/∃a k es m,l=.aO t a j k es m/\m.flat=true/\a∈Di/\d0=.J k es)->ys.length=(l::ls).length/\
    ∀(y:Nat) (d:D),ys[y]?=some d->∃x,(l::ls)[y]?=some x/\(x.iR=some d\/∃a k es m,x=.aO t a (j+y) k es m/\m.flat=true/\a∈is/\d=.J k es):=by
   rintro d0 FN HG Di rfl rfl jq ar bm;obtain⟨h1,U⟩:=PC ar;refine⟨by simp[h1],fun y d ax=>?_⟩;cases y with
   | zero=>
    simp only[iy,aQ]at ax;subst ax;exact⟨l,rfl,bm⟩
   | succ y=>
    obtain⟨x,aa,au⟩:=U y d (by simpa using ax);refine⟨x,by simpa using aa,?_⟩;rcases au with au | ⟨a,k,es,m,aH,ba,br,b7⟩
    ·exact .inl au
    exact .inr ⟨a,k,es,m,by rw[aH,show j+1+y=j+(y+1) by omega],ba,jq a br,b7⟩
  have plain:(match l.iR,uj t (j+1) ls with | some d,some r=>some (d::r.1,r.2) | _,_=>none)=some (ys,is)->ys.length=(l::ls).length/\
    ∀(y:Nat) (d:D),ys[y]?=some d->∃x,(l::ls)[y]?=some x/\(x.iR=some d\/∃a k es m,x=.aO t a (j+y) k es m/\m.flat=true/\a∈is/\d=.J k es):=by
   intro h;split at h
   ·rename_i d r e1 e2;simp only[aQ,bw]at h;exact fin d r.1 r.2 r.2 h.1.symm h.2.symm (fun _ h=>h) e2 (.inl e1)
   cases h
  cases l with
  | aO s a b k es m=>
   simp only[uj]at h;split at h
   ·rename_i ad;obtain⟨rfl,rfl,hm⟩:=ad;rw[bX]at h;obtain⟨⟨bB,bV⟩,e2,h⟩:=h;simp only[bw]at h;exact fin _ bB bV (a::bV) h.1.symm h.2.symm (fun _ h=>fc _ h) e2 (.inr ⟨a,k,es,m,rfl,hm,eF,rfl⟩)
   cases h
  | _=>exact plain h
theorem DR:∀{l:List Nat},cB (l.map fun a=>a=i)->∀a∈l,a=i
 | [],_,a,h=>by cases h
 | x::l,aN,a,h=>by
  rcases dG.1 h with rfl | h
  ·exact aN.1
  exact DR aN.2 a h
def ID(P:Program)(st:aE)(ty:TypeId)(t k:Nat)(es:List (List D))(i j:Nat)(q:aB)(ans:List b4):Stepped:=
 match q.leaves,P.info? ty,ans with
 | some xs,some inf,.el ds::r=>
  match uj t j xs with
  | some (ys,is)=>
   if xs.length=inf.size/\ds.length=k/\j+ys.length<=k/\IA t (k3 0 j xs)=true then
    some (st.map (wN t (k3 i j xs) k (es.set i (kP ds j ys))),r,(es[i]?=some ds)::is.map fun a=>a=i)
   else none
  | none=>none
 | _,_,_=>none
theorem cx.aqv{P:Program}{w0:ev}{st bn:aE}{a:Act}{w:World}{ω:Own}{τ:Nat->Nat×Value}{ty:TypeId}{k:Nat}{es:List (List D)}{q:aB}{v y:Value}{ans ch:List b4}{obs:List Prop}
  (aV:cx w0 st a w ω τ) (hp:Sat w ω τ (.ep (.own t) k es i j) y) (av:cM (Sat w ω τ) q v) (h:ID P st ty t k es i j q ans=some (bn,ch,obs)) (aN:cB obs):
  ∃aG,(Instr.storeAt ty y v).run P w=.ok () aG/\Rel w0 bn a aG:=by
 unfold ID at h;split at h
 ·rename_i xs inf ds r e1 e2;split at h
  ·rename_i ys is b2;split at h
   ·rename_i ad;obtain⟨kQ,kC,kR,xC⟩:=ad;simp only[aQ,bw]at h;obtain⟨rfl,_,rfl⟩:=h;have eo:es[i]?=some ds:=aN.1;obtain⟨ae,lp⟩:=aB.xW e1 av;obtain⟨N9,Hz⟩:=PC b2;have XR:=DR aN.2;obtain⟨b,off,cap,rfl,jz,ar,bI⟩:=hp;simp only[Tag.dS]at bI;cases ar with
    | nil=>simp at jz
    | row R k es b off cap arr hM cO us ah dI eY di gu hu ax=>
     have ic:ω b=.tok t []:=dI;obtain⟨vK,tv,uV,hS⟩:=aV.owned b (by rw[ic];simp);rw[ah]at hS;simp only[aQ,Obj.cells.injEq]at hS;obtain⟨rfl,rfl,rfl⟩:=hS;have vu:b<w.heap.size:=(hA.1 ah).1;have hmul:(i+1)*k<=cap*k:=gW _ (by omega);rw[fB]at hmul;have oo:v.cells.size=xs.length:=ae.1;have dD:off+i*k+j+v.cells.toList.length<=arr.size:=by simp;omega
     have ew:=run_storeCells_at P b (off+i*k+j) hM v.cells.toList 0 arr w ah (by simpa using dD) lp;simp only[mq]at ew;generalize nx:(arr.toList.take (off+i*k+j)++v.cells.toList++arr.toList.drop (off+i*k+j+v.cells.toList.length)).toArray=b3 at ew;have gE:∀x:Nat,b3[x]?=if off+i*k+j<=x/\x<off+i*k+j+xs.length then v.cells[x-(off+i*k+j)]? else arr[x]?:=by
      intro x;rw[<-nx,nf,A' (by simpa using dD)];simp[oo]
     have xO:b3.size=arr.size:=by rw[<-nx];simp;simp at dD;omega
     have jy:=setRow_heap w b arr b3 hM (0,0) ah
     let ms:=k3 i j xs
     let aY:Own:=fun c=>mX t ms (ω c)
     have arS:ms.at t=none:=by
      cases e:ms.at t with
      | none=>rfl
      | some p=>
       have mF:∀(ms:hR) (p:Nat×Nat),ms.at t=some p->(t,p)∈ms:=by
        intro ms;induction ms with
        | nil=>intro p h;cases h
        | cons x ms dt=>
         intro p h;obtain⟨s,qh⟩:=x;simp only[hR.at]at h;split at h
         ·rename_i zW;subst zW;rw[ei h];exact eF
         exact fc _ (dt p h)
       exact absurd rfl (PB xC (mF ms p e)).1
     have cQ:∀c q,c<w.heap.size->ω c=.tok t q->aY c=.tok t q:=fun c q _ h=>by simp[aY,h,mX]
     have lW:∀c p q,c<w.heap.size->ω c=.tok t (p::q)->aY c=.tok t (p::q)/\(w.setRow b b3).heap[c]?=w.heap[c]?:=by
      intro c p q ad dT;exact⟨cQ c _ ad dT,setRow_other w b c b3 fun e=>by rw[e,ic]at dT;cases dT⟩
     have ha:∀(g:Tag) c q,g≠.own t->g≠.ro t->(∀s,g=.own s\/g=.ro s->ms.at s=none)->g.R q (ω c)->g.R q (aY c)/\(w.setRow b b3).heap[c]?=w.heap[c]?:=by
      intro g c q h1 U au dT;have ft:c≠b:=fun e=>by
       rw[e,ic]at dT;cases g with
       | free=>cases dT
       | own s=>simp only[Tag.R,cS.tok.injEq]at dT;exact h1 (by rw[dT.1])
       | ro s=>
        rcases dT with h | ⟨dh,h⟩
        ·cases h
        simp only[cS.tok.injEq]at h;exact U (by rw[h.1])
      refine⟨?_,setRow_other w b c b3 ft⟩;cases g with
      | free=>simp only[Tag.R]at dT ⊢;simp[aY,dT,mX]
      | own s=>
       simp only[Tag.R]at dT ⊢;simp only[aY,dT,mX];split
       ·rfl
       rw[au s (.inl rfl)]
      | ro s=>
       simp only[Tag.R]at dT ⊢;rcases dT with h | ⟨dh,h⟩
       ·left;simp[aY,h,mX]
       right;refine⟨dh,?_⟩;simp only[aY,h,mX];split
       ·rfl
       rw[au s (.inr rfl)]
     have NJ:bR (w.setRow b b3) aY (Tag.own t).R (.J k (es.set i (kP ds j ys))) (.slice (some ⟨b,off,none⟩) es.length cap):=by
      have hlen:(es.set i (kP ds j ys)).length=es.length:=eQ;have zL:ds.length=k:=kC;have eU:∀x y d,cX (es.set i (kP ds j ys)) x y=some d->∃u,b3[off+x*k+y]?=some u/\bR (w.setRow b b3) aY (fun q=>(Tag.own t).R ((x,y)::q)) d u:=by
       intro x y d dP;rw[Iz jz]at dP;by_cases aa:x=i
       ·subst aa;rw[a6 rfl,Py (by omega)]at dP;split at dP
        ·rename_i a1;obtain⟨l,jB,cU⟩:=Hz _ _ dP;obtain⟨u,fJ,eG⟩:=ae.2 _ _ jB;rcases cU with cU | ⟨a,b6,bN,m,rfl,hm,W1,rfl⟩
         case inr=>
          have GD:=XR a W1;subst GD;obtain⟨hX,q',p7,_⟩:=eG;have bE:u=hX:=by
           cases m with
           | at_ x y=>cases hm
           | here=>exact q'
           | lS=>exact q'
          subst bE;refine⟨u,?_,p7.frame fun c q ad dT=>?_⟩
          ·rw[gE,a6 (by omega),<-fJ]
           congr 1;omega
          rw[show j+(y-j)=y by omega]at dT;exact lW c _ _ ad dT
         refine⟨u,?_,?_⟩
         ·rw[gE,a6 (by omega),<-fJ]
          congr 1;omega
         have mF:∀s,l.tok=some s->ms.at s=some (x,y)/\s≠t:=by
          intro s c3;have:=Iw x xs j (y-j) l s jB c3;rw[show j+(y-j)=y by omega]at this;obtain⟨h1,U⟩:=PB xC this;exact⟨U,h1⟩
         cases l with
         | cc=>cases cU
         | v z=>
          simp only[aC.iR]at cU;split at cU
          ·simp only[aQ]at cU;subst cU;have:u=z:=eG;subst this;exact .v _ _ ‹_›
          cases cU
         | bg c=>
          simp only[aC.iR,aQ]at cU;subst cU;have:u=.bool c:=eG;subst this;exact .v _ _ rfl
         | ptr=>cases cU
         | ep=>cases cU
         | h8=>cases cU
         | fd=>cases cU
         | db=>cases cU
         | gP=>cases cU
         | aO=>cases cU
         | fk=>cases cU
         | J g b6 bN=>
          cases g with
          | free=>cases cU
          | ro s=>cases cU
          | own s=>
           simp only[aC.iR,aQ]at cU;subst cU;obtain⟨h1,U⟩:=mF s rfl;refine eG.1.frame fun c q ad dT=>?_
           simp only[Tag.R]at dT ⊢;refine⟨?_,setRow_other w b c b3 fun e=>?_⟩
           ·simp only[aY,dT,mX];rw[aX U,h1]
           rw[e,ic]at dT;simp only[cS.tok.injEq]at dT;exact U dT.1.symm
        rename_i a1;have pZ:cX es x y=some d:=by simp[cX,eo,dP]
        refine⟨us x y,?_,(ax x y d pZ).frame fun c q ad dT=>lW c _ _ ad dT⟩;rw[gE,aX (by omega),hu x y d pZ]
       rw[aX aa]at dP;obtain⟨gk,YY⟩:=s9 gu dP;refine⟨us x y,?_,(ax x y d dP).frame fun c q ad dT=>lW c _ _ ad dT⟩;rw[gE,aX ?_,hu x y d dP];rcases Nat.lt_or_gt_of_ne aa with h | h
       ·have:(x+1)*k<=i*k:=gW _ h;rw[fB]at this;omega
       have:(i+1)*k<=x*k:=gW _ h;rw[fB]at this;omega
      have p8:∀e∈es.set i (kP ds j ys),e.length=k:=by
       intro e he;rcases hn he with h | rfl
       ·exact gu e h
       rw[Pz (by omega)];exact zL
      have:=bR.row (w:=w.setRow b b3) (ω:=aY) (Tag.own t).R k (es.set i (kP ds j ys)) b off cap b3 hM (0,0) (fun x y=>b3.getD (off+x*k+y) undef) jy (cQ b [] vu ic) (by omega) (by omega) p8
       (fun x y d dC=>by obtain⟨u,h1,_⟩:=eU x y d dC;rw[h1];simp[ea,h1])
       (fun x y d dC=>by obtain⟨u,h1,U⟩:=eU x y d dC;have:b3.getD (off+x*k+y) undef=u:=(by simp[ea,h1]);rw[this];exact U)
      rw[hlen]at this;exact this
     have eB:∀l v,Sat w ω τ l v->Sat (w.setRow b b3) aY τ (wN t ms k (es.set i (kP ds j ys)) l) v:=by
      intro l v c3;have vF:∀s,¬(ms.at s).isSome=true->ms.at s=none:=fun s h=>by
       cases e:ms.at s with
       | none=>rfl
       | some p=>simp[e]at h
      cases l with
      | cc=>exact trivial
      | v x=>exact c3
      | bg c=>exact c3
      | ptr id o=>
       obtain⟨c,ad,e⟩:=c3;exact⟨c,DQ.2 ad,e⟩
      | aO s a fH dp dx m=>
       simp only[wN];split
       ·exact trivial
       rename_i h1;split
       ·exact trivial
       rename_i U;obtain⟨u,hu,lq,hm⟩:=c3;have jX:∀c q,ω c=.tok s q->aY c=.tok s q/\(w.setRow b b3).heap[c]?=w.heap[c]?:=fun c q dT=>
        ha (.own s) c q (by simpa using h1) (by simp) (fun tg h=>by
         rcases h with h | h
         ·simp only[Tag.own.injEq]at h;subst h;exact vF _ U
         cases h) dT
       refine⟨u,hu,lq.frame fun c q _ dT=>jX c _ dT,fun oh=>?_⟩;obtain⟨kT,c,qe,Zb,pP,hB,hL,Gq,ff,a2,a3,a4⟩:=hm oh;obtain⟨e1,e2⟩:=jX c [] a2;exact⟨kT,c,qe,Zb,pP,hB,hL,Gq,ff,e1,e2.trans a3,a4⟩
      | fk=>exact trivial
      | gP f ids=>
       obtain⟨bs,e,aL,hi⟩:=c3;refine⟨bs,e,aL,fun i id fX=>?_⟩;obtain⟨b,h1,U⟩:=hi i id fX;exact⟨b,h1,DQ.2 U⟩
      | h8 sf o=>
       obtain⟨c,e,dy⟩:=c3;exact⟨c,e,dy.frame fun c q _ dT=>ha .free c q (by simp) (by simp) (fun s h=>by rcases h with h | h<;>cases h) dT⟩
      | fd d=>
       exact bR.frame c3 fun c q _ dT=>ha .free c q (by simp) (by simp) (fun s h=>by rcases h with h | h<;>cases h) dT
      | db t2 b6 bN=>exact⟨c3.1.frame fun c q _ dT=>ha .free c q (by simp) (by simp) (fun s h=>by rcases h with h | h<;>cases h) dT,c3.2⟩
      | J g b6 bN=>
       cases g with
       | free=>exact⟨c3.1.frame fun c q _ dT=>ha .free c q (by simp) (by simp) (fun s h=>by rcases h with h | h<;>cases h) dT,aj⟩
       | own s=>
        simp only[wN];split
        ·rename_i zW;subst zW;have U:=c3.2;simp only[Tag.dS]at U;rw[bI]at U;simp only[bw]at U;rw[<-U.2];exact⟨NJ,bI⟩
        split
        ·exact trivial
        rename_i h1 U;exact⟨c3.1.frame fun c q _ dT=>ha (.own s) c q (by simpa using h1) (by simp) (fun tg h=>by
         rcases h with h | h
         ·simp only[Tag.own.injEq]at h;subst h;exact vF _ U
         cases h) dT,c3.2⟩
       | ro s=>
        simp only[wN];split
        ·exact trivial
        split
        ·exact trivial
        rename_i h1 U;exact⟨c3.1.frame fun c q _ dT=>ha (.ro s) c q (by simp) (by simpa using h1) (fun tg h=>by
         rcases h with h | h
         ·cases h
         simp only[Tag.ro.injEq]at h;subst h;exact vF _ U) dT,aj⟩
      | ep g b6 bN i2 ou=>
       obtain⟨fH,qe,pP,e,kc,lq,oh⟩:=c3;cases g with
       | free=>exact⟨fH,qe,pP,e,kc,lq.frame fun c q _ dT=>ha .free c q (by simp) (by simp) (fun s h=>by rcases h with h | h<;>cases h) dT,aj⟩
       | own s=>
        simp only[wN];split
        ·rename_i zW;subst zW;simp only[Tag.dS]at oh;rw[bI]at oh;simp only[bw,Value.slice.injEq,aQ,Addr.mk.injEq]at oh;obtain⟨rfl,⟨rfl,rfl,_⟩,cU,rfl⟩:=oh;refine⟨b,off,cap,e,by simp;omega,?_,?_⟩
         ·rw[eQ];exact NJ
         rw[eQ];exact bI
        split
        ·exact trivial
        rename_i h1 U;exact⟨fH,qe,pP,e,kc,lq.frame fun c q _ dT=>ha (.own s) c q (by simpa using h1) (by simp) (fun tg h=>by
         rcases h with h | h
         ·simp only[Tag.own.injEq]at h;subst h;exact vF _ U
         cases h) dT,oh⟩
       | ro s=>
        simp only[wN];split
        ·exact trivial
        split
        ·exact trivial
        rename_i h1 U;exact⟨fH,qe,pP,e,kc,lq.frame fun c q _ dT=>ha (.ro s) c q (by simp) (by simpa using h1) (fun tg h=>by
         rcases h with h | h
         ·cases h
         simp only[Tag.ro.injEq]at h;subst h;exact vF _ U) dT,aj⟩
     refine⟨w.setRow b b3,?_,aY,τ,aV.cD _ eB ?_ ?_ ?_ ?_⟩
     ·simp only[Instr.storeAt,Instr.sureAddr,Sem.run_bind,Sem.run_pure,Result.andThen_ok,storeVar,sizeOf,typeInfo,run_program,e2];have Ho:¬(v.cells.size≠inf.size):=by simp;omega
      rw[aX Ho];exact ew
     ·exact aV.below.setRow vK b3
     ·intro c ft;have:ω c≠.bx:=fun e=>ft (ajY.2 e)
      obtain⟨au,hB,hL,aH⟩:=aV.owned c this;by_cases pY:c=b
      ·subst pY;exact⟨au,b3,hM,jy⟩
      exact⟨au,hB,hL,(setRow_other w b c b3 pY).trans aH⟩
     ·intro id c ft;exact⟨DQ.2 ft,setRow_other w b c b3 fun e=>by rw[e,ic]at ft;cases ft⟩
     intro id c ft;exact DQ.1 ft
   cases h
  cases h
 cases h
end Go.Sx
namespace Go.Sx
open Go.RowKit
def ly(w:World)(d:D)(y:Value):Prop:=bR w (fun _=>.bx) Tag.free.R d y
def r3(w:World):cH->Value->Prop
 | .one d,y=>ly w d y
 | .agg ds,y=>∃vs:Array Value,y=.agg vs/\vs.size=ds.length/\∀(i:Nat) (d:D),ds[i]?=some d->∃u,vs[i]?=some u/\ly w d u
def DS(w:World)(gB:List cH)(vs:Array Value):Prop:=vs.size=gB.length/\∀(i:Nat) (cj:cH),gB[i]?=some cj->∃v,vs[i]?=some v/\r3 w cj v
def l4(w:World)(ω:Own)(r:Nat):cH->Value->Prop
 | .one d,y=>bR w ω (Tag.own (100*r)).R d y
 | .agg ds,y=>∃vs:Array Value,y=.agg vs/\vs.size=ds.length/\∀(j:Nat) (d:D),ds[j]?=some d->∃u,vs[j]?=some u/\bR w ω (Tag.own (100*r+j)).R d u
def mY(w:World)(ω:Own)(rs:List cH)(v:Value):Prop:=
 match rs with
 | [cj]=>l4 w ω 0 cj v
 | rs=>∃vs:Array Value,v=.tuple vs/\vs.size=rs.length/\∀(r:Nat) (cj:cH),rs[r]?=some cj->∃y,vs[r]?=some y/\l4 w ω r cj y
def xn(w0 w:World)(rs:List cH)(v:Value):Prop:=
 ∃ω:Own,(∀b,b<w0.heap.size->ω b=.bx)/\(∀b,ω b≠.bx->(∃t q,ω b=.tok t q)/\∃arr ty,w.heap[b]?=some (.cells arr ty (0,0)))/\mY w ω rs v
def iW(P:Program)(f:FuncId)(args rs:List cH):Prop:=
 ∀(w:World) (vs:Array Value),n5 w->DS w args vs->Calls P f vs w fun e aG=>∃v,e=.returned v/\gA w.heap.size w aG/\xn w aG rs v
def aC.gC:aC->Option D
 | .v x=>if x.oneCell' then some (.v x) else none
 | .bg c=>some (.v (.bool c))
 | .J _ k es=>some (.J k es)
 | .h8 ds off=>if off=0 then some (.ptr ds) else none
 | .fd d=>some d
 | .db _ k es=>some (.J k es)
 | .aO _ _ _ k es .here=>some (.J k es)
 | .aO _ _ _ k es .lS=>some (.J k es)
 | _=>none
abbrev lP:=List (Nat×List aC)
def xr(bs:lP)(id:Nat):Option D:=(dj id bs).bind fun ls=>(ls.mapM aC.gC).map .ptr
def aC.jR(bs:lP):aC->Option D
 | .ptr id off=>if off=0 then xr bs id else none
 | .gP g ids=>(ids.mapM (xr bs)).map (.cl g)
 | l=>l.gC
def bd.jR(bs:lP):bd->Option cH
 | .one l=>(l.jR bs).map .one
 | .agg ls=>(ls.mapM (aC.jR bs)).map .agg
def aB.jR(bs:lP):aB->Option cH
 | .aD a=>a.jR bs
 | _=>none
variable{w:World}{ω:Own}{d:D}{y:Value}
theorem bR.free{R:List (Nat×Nat)->cS->Prop}(h:bR w ω R d y):ly w d y:=
 h.frame fun _ _ _ _=>⟨rfl,rfl⟩
variable{τ:Nat->Nat×Value}
theorem aC.MK{l:aC}(h:l.gC=some d)(ae:Sat w ω τ l y):ly w d y:=by
 cases l with
 | cc=>cases h
 | v x=>
  simp only[aC.gC]at h;split at h
  ·simp only[aQ]at h;subst h;have:y=x:=ae;subst this;exact .v _ _ ‹_›
  cases h
 | bg c=>
  simp only[aC.gC,aQ]at h;subst h;have:y=.bool c:=ae;subst this;exact .v _ _ rfl
 | J t k es=>simp only[aC.gC,aQ]at h;subst h;exact ae.1.free
 | ptr=>cases h
 | ep=>cases h
 | gP=>cases h
 | fk=>cases h
 | h8 ds off=>
  simp only[aC.gC]at h;split at h
  ·rename_i aN;subst aN;simp only[aQ]at h;subst h;obtain⟨b,rfl,ar⟩:=ae;exact ar.free
  cases h
 | fd dr=>simp only[aC.gC,aQ]at h;subst h;exact bR.free ae
 | db t k es=>simp only[aC.gC,aQ]at h;subst h;exact bR.free ae.1
 | aO t i j k es m=>
  obtain⟨u,hu,ar,_⟩:=ae;cases m with
  | at_ x z=>cases h
  | here=>simp only[aC.gC,aQ]at h;subst h;have:y=u:=hu;subst this;exact ar.free
  | lS=>simp only[aC.gC,aQ]at h;subst h;have:y=u:=hu;subst this;exact ar.free
def wO(w:World)(ω:Own)(τ:Nat->Nat×Value)(bs:lP):Prop:=∀id ls,dj id bs=some ls->tt w ω τ id ls
variable{bs:lP}
theorem OM(ah:wO w ω τ bs){id b:Nat}(h:xr bs id=some d)(aN:ω b=.box id):ly w d (ptrTo b):=by
 unfold xr at h;cases e:dj id bs with
 | none=>simp[e]at h
 | some ls=>
  simp only[e,nh,bX]at h;obtain⟨ds,h1,rfl⟩:=h;obtain⟨cT,arr,ty,c7,hu,bI,ae⟩:=ah id ls e;have:=hu b aN;subst this;obtain⟨U,au⟩:=nL h1;have cell:∀j d,ds[j]?=some d->arr[j]?=some (arr.getD j undef)/\ly w d (arr.getD j undef):=by
   intro j d ax;obtain⟨l,af,cU⟩:=au j d ax;obtain⟨u,fJ,eG⟩:=ae.2 j l af;have e2:arr.getD j undef=u:=by simp[ea,fJ]
   rw[e2];exact⟨fJ,aC.MK cU eG⟩
  exact bR.ptr _ ds b arr ty (0,0) (fun j=>arr.getD j undef) bI rfl (by have:=ae.1;omega) (fun j d ax=>(cell j d ax).1) (fun j d ax=>(cell j d ax).2.frame fun _ _ _ _=>⟨rfl,rfl⟩)
theorem aC.xp(ah:wO w ω τ bs){l:aC}(h:l.jR bs=some d)(ae:Sat w ω τ l y):ly w d y:=by
 unfold aC.jR at h;split at h
 ·rename_i id off;split at h
  ·rename_i aN;subst aN;obtain⟨b,h1,rfl⟩:=ae;exact OM ah h h1
  cases h
 ·rename_i g ids;rw[bX]at h;obtain⟨ds,h1,rfl⟩:=h;obtain⟨oa,rfl,aL,hi⟩:=ae;obtain⟨U,au⟩:=nL h1;have cell:∀j d,ds[j]?=some d->(oa.map ptrTo).toArray[j]?=some ((oa.map ptrTo).toArray.getD j undef)/\ly w d ((oa.map ptrTo).toArray.getD j undef):=by
   intro j d ax;obtain⟨id,fX,GM⟩:=au j d ax;obtain⟨b,gr,gg⟩:=hi j id fX;have e1:(oa.map ptrTo).toArray[j]?=some (ptrTo b):=by simp[gr]
   have e2:(oa.map ptrTo).toArray.getD j undef=ptrTo b:=by rw[ea,e1];rfl
   rw[e2];exact⟨e1,OM ah GM gg⟩
  exact bR.cl _ g ds _ (fun j=>(oa.map ptrTo).toArray.getD j undef) (by simp;omega) (fun j d ax=>(cell j d ax).1) (fun j d ax=>(cell j d ax).2.frame fun _ _ _ _=>⟨rfl,rfl⟩)
 exact aC.MK h ae
theorem aB.xp(ah:wO w ω τ bs){p:aB}{cj:cH}(h:p.jR bs=some cj)(ae:cM (Sat w ω τ) p y):r3 w cj y:=by
 cases p with
 | fM as=>cases h
 | aD a=>
  cases a with
  | one l=>
   simp only[aB.jR,bd.jR,bX]at h;obtain⟨d,h1,rfl⟩:=h;exact aC.xp ah h1 ae
  | agg ls=>
   simp only[aB.jR,bd.jR,bX]at h;obtain⟨ds,h1,rfl⟩:=h;obtain⟨U,au⟩:=nL h1;obtain⟨vs,rfl,aL,bj⟩:=ae;refine⟨vs,rfl,by omega,fun i d ax=>?_⟩;obtain⟨l,af,cU⟩:=au i d ax;obtain⟨u,hu,eG⟩:=bj i l af;exact⟨u,hu,aC.xp ah cU eG⟩
def k4(P:Program)(g:FuncId):Bool:=
 match P.funcs[g]? with
 | some fn => !(fn.name == "runtime.NumGoroutine") && !fn.body.isNone
 | none=>false
def D.pE(t:Nat):D->aC
 | .v (.bool c)=>.bg c
 | .v x=>.v x
 | .J k es=>.J (.own t) k es
 | .ptr _=>.cc
 | .cl _ _=>.cc
def nM(t:Nat):Nat->List D->List aC
 | _,[]=>[]
 | j,d::ds=>d.pE (t+j)::nM t (j+1) ds
theorem Bc(t:Nat):∀(ds:List D) (j i:Nat),(nM t j ds)[i]?=(ds[i]?).map (D.pE (t+(j+i)))
 | [],_,_=>by simp[nM]
 | d::ds,j,0=>by simp[nM]
 | d::ds,j,i+1=>by
  simp only[nM,nY,Bc t ds (j+1) i];rw[show j+1+i=j+(i+1) by omega]
theorem yL(t:Nat):∀(ds:List D) (j:Nat),(nM t j ds).length=ds.length
 | [],_=>rfl
 | d::ds,j=>by simp[nM,yL t ds (j+1)]
def cH.res(t:Nat):cH->bd
 | .one d=>.one (d.pE t)
 | .agg ds=>.agg (nM t 0 ds)
def qt(t:Nat):Nat->List cH->List bd
 | _,[]=>[]
 | r,a::as=>a.res (t+100*r)::qt t (r+1) as
theorem DT(t:Nat):∀(as:List cH) (r i:Nat),(qt t r as)[i]?=(as[i]?).map (cH.res (t+100*(r+i)))
 | [],_,_=>by simp[qt]
 | d::ds,j,0=>by simp[qt]
 | d::ds,j,i+1=>by
  simp only[qt,nY,DT t ds (j+1) i];rw[show j+1+i=j+(i+1) by omega]
theorem DU(t:Nat):∀(as:List cH) (r:Nat),(qt t r as).length=as.length
 | [],_=>rfl
 | d::ds,j=>by simp[qt,DU t ds (j+1)]
def te(t:Nat):List cH->aB
 | [a]=>.aD (a.res t)
 | as=>.fM (qt t 0 as)
def uk(rs:List cH):Bool:=rs.length<100&&rs.all fun | .one _=>true | .agg ds=>ds.length<100
def gH(t:Nat):Tag->Option Tag
 | .free=>some .free
 | .own s=>if t<=s/\s<t+10000 then some .free else some (.own s)
 | .ro s=>if t<=s/\s<t+10000 then some .free else some (.ro s)
def oG(t:Nat):cS->cS
 | .tok s q=>if t<=s/\s<t+10000 then .bx else .tok s q
 | o=>o
def ON(t:Nat):cS->cS
 | .tok s q=>.tok (t+s) q
 | _=>.bx
def cH.cell(j:Nat):cH->Option D
 | .one d=>if j=0 then some d else none
 | .agg ds=>ds[j]?
def p1(rs:List cH)(n:Nat):Nat:=
 match (rs[n / 100]?).bind (cH.cell (n % 100)) with
 | some (.J k _)=>k
 | _=>0
def nA(rs:List cH)(v:Value)(n:Nat):Value:=
 match rs with
 | [_]=>v.cells.getD (n % 100) undef
 | _=>match v with
  | .tuple vs=>(vs.getD (n / 100) undef).cells.getD (n % 100) undef
  | _=>undef
def aE.vf(st:aE)(t:Nat):aE:=st.map (aC.cm (gH t) fun _=>true)
theorem cx.called{w0:ev}{st:aE}{a:Act}{aG:World}(aV:cx w0 st a w ω τ)(t:Nat){rs:List cH}{v:Value}
  (dD:uk rs=true) (ih:t+10000<=c5) (ah:gA w.heap.size w aG) (eA:xn w aG rs v):
  ∃aY cN,cx w0 (st.vf t) a aG aY cN/\cM (Sat aG aY cN) (te t rs) v:=by
 obtain⟨fe,kQ,kC,kR⟩:=eA
 let aY:Own:=fun b=>if b<w.heap.size then oG t (ω b) else ON t (fe b)
 let cN:Nat->Nat×Value:=fun s=>if t<=s/\s<t+10000 then (p1 rs (s-t),nA rs v (s-t)) else τ s
 have hold:∀b,b<w.heap.size->aY b=oG t (ω b):=fun b ah=>by simp only[aY];rw[a6 ah]
 have gh:∀b,¬b<w.heap.size->aY b=ON t (fe b):=fun b ah=>by simp only[aY];rw[aX ah]
 have bk:lQ w ω τ aG aY cN (gH t) (fun _=>true):=by
  refine⟨?_,?_,?_,rfl,fun s ae=>by simp only[cN];rw[aX (by omega)]⟩
  ·intro g ec b q ao bq av;refine⟨?_,ah.block b bq⟩;rw[hold b bq];cases g with
   | free=>simp only[gH,aQ]at ao;subst ao;simp only[Tag.R]at av ⊢;rw[av];rfl
   | own s=>
    simp only[Tag.R]at av;simp only[gH]at ao;rw[av];simp only[oG];split at ao
    ·simp only[aQ]at ao;subst ao;rw[a6 ‹_›];rfl
    simp only[aQ]at ao;subst ao;rw[aX ‹_›];rfl
   | ro s=>
    simp only[Tag.R]at av;simp only[gH]at ao;split at ao
    ·simp only[aQ]at ao;subst ao;rcases av with h | ⟨dh,h⟩
     ·rw[h];rfl
     rw[h];simp only[oG];rw[a6 ‹_›];rfl
    simp only[aQ]at ao;subst ao;rcases av with h | ⟨dh,h⟩
    ·rw[h];exact .inl rfl
    rw[h];simp only[oG];rw[aX ‹_›];exact .inr ⟨dh,rfl⟩
  ·intro g ec y ao a1;cases g with
   | free=>simp only[gH,aQ]at ao;subst ao;exact trivial
   | own s=>
    simp only[gH]at ao;split at ao
    ·simp only[aQ]at ao;subst ao;exact trivial
    simp only[aQ]at ao;subst ao;simp only[Tag.dS,cN]at a1 ⊢;rw[aX ‹_›];exact a1
   | ro s=>
    simp only[gH]at ao;split at ao
    ·simp only[aQ]at ao;subst ao;exact trivial
    simp only[aQ]at ao;subst ao;exact trivial
  intro id b _ cq;have bq:=aV.owned.lt (b:=b) (by simp[cq]);rw[hold b bq,cq];rfl
 have cell:∀(n:Nat) (d:D) (u:Value),n<10000->nA rs v n=u->(∀k es,d=.J k es->p1 rs n=k)->bR aG fe (Tag.own n).R d u->Sat aG aY cN (d.pE (t+n)) u:=by
  intro n d u aL bj hk ar;cases d with
  | v x=>
   have e:u=x:=by cases ar;rfl
   subst e;unfold D.pE;split
   ·rename_i h;cases h;exact rfl
   ·rename_i h;cases h;exact rfl
   ·rename_i h;cases h
   ·exact trivial
   exact trivial
  | ptr ds=>exact trivial
  | cl g bA=>exact trivial
  | J k es=>
   refine⟨ar.frame fun b q bq av=>⟨?_,rfl⟩,?_⟩
   ·simp only[Tag.R]at av ⊢;have:¬b<w.heap.size:=fun h=>by have:=kQ b h;rw[this]at av;cases av
    rw[gh b this,av];rfl
   simp only[Tag.dS,cN];rw[a6 (by omega),show t+n-t=n by omega,bj,hk k es rfl]
 have tz:∀(r:Nat) (cj:cH) (y:Value),r<100->(∀ds,cj=.agg ds->ds.length<100)->rs[r]?=some cj->(∀j,j<100->nA rs v (100*r+j)=y.cells.getD j undef)->l4 aG fe r cj y->j6 (Sat aG aY cN) (cj.res (t+100*r)) y:=by
  intro r cj y ar eo zT bj nz;have gu:∀j,j<100->p1 rs (100*r+j)=(match cH.cell j cj with | some (.J k _)=>k | _=>0):=by
   intro j aM;unfold p1;rw[show (100*r+j) / 100=r by omega,show (100*r+j) % 100=j by omega,zT];rfl
  cases cj with
  | one d=>
   have h1:=nz.pj;have U:=bj 0 (by omega);rw[A9 h1]at U;have:=cell (100*r) d y (by omega) (by simpa using U) (fun k es e=>by
    have:=gu 0 (by omega);rw[mq]at this;rw[this,e];rfl) nz
   exact this
  | agg ds=>
   obtain⟨vs,rfl,aL,aM⟩:=nz;refine⟨vs,rfl,by rw[yL];exact aL,fun j l af=>?_⟩;rw[Bc,bX]at af;obtain⟨d,ax,rfl⟩:=af;obtain⟨u,hu,zU⟩:=aM j d ax;have h4:j<100:=by
    have:=(dK.1 ax).1;have:=eo ds rfl;omega
   refine⟨u,hu,?_⟩;have:=cell (100*r+j) d u (by omega) (by rw[bj j h4];simp[Value.cells,ea,hu]) (fun k es e=>by
    rw[gu j h4];simp only[cH.cell,ax,e]) zU
   rw[show t+100*r+(0+j)=t+(100*r+j) by omega];exact this
 simp only[uk,ca,ci]at dD;have eo:∀(r:Nat) (cj:cH),rs[r]?=some cj->∀ds,cj=.agg ds->ds.length<100:=by
  intro r cj ar ds e;have:=fN.1 dD.2 cj (e4 ar);subst e;simpa using this
 refine⟨aY,cN,aV.cD _ bk.sat (aV.below.next ah) ?_ ?_ ?_ (fun s ae=>by simp only[cN];rw[aX (by omega)]),?_⟩
 ·intro b fW;by_cases bq:b<w.heap.size
  ·rw[hold b bq]at fW;have U:ω b≠.bx:=fun e=>by rw[e]at fW;exact fW rfl
   obtain⟨au,arr,ty,aH⟩:=aV.owned b U;exact⟨au,arr,ty,(ah.block b bq).trans aH⟩
  rw[gh b bq]at fW;have U:fe b≠.bx:=fun e=>by rw[e]at fW;exact fW rfl
  obtain⟨_,arr,ty,aH⟩:=kC b U;exact⟨.inl (by have:=aV.below.size;omega),arr,ty,aH⟩
 ·intro id b cq;have bq:=aV.owned.lt (b:=b) (by simp[cq]);exact⟨bk.box id b rfl cq,ah.block b bq⟩
 ·intro id b cq;by_cases bq:b<w.heap.size
  ·rw[hold b bq]at cq;cases e:ω b with
   | bx=>rw[e]at cq;cases cq
   | box i=>rw[e]at cq;exact cq
   | tok s q=>rw[e]at cq;simp only[oG]at cq;split at cq<;>cases cq
  ·rw[gh b bq]at cq;cases e:fe b<;>(rw[e]at cq;cases cq)
 cases rs with
 | nil=>
  obtain⟨vs,rfl,aL,_⟩:=kR;exact⟨vs,rfl,aL,fun i a ag=>by simp[qt]at ag⟩
 | cons cj rest=>
  cases rest with
  | nil=>
   have:=tz 0 cj v (by omega) (eo 0 cj rfl) rfl (fun j aM=>by
    unfold nA;simp only[Nat.mul_zero,c'];rw[zi aM]) kR
   exact this
  | cons MJ rest=>
   obtain⟨vs,rfl,aL,bj⟩:=kR;refine⟨vs,rfl,by rw[DU];exact aL,fun i a ag=>?_⟩;rw[DT,bX]at ag;obtain⟨n9,h1,rfl⟩:=ag;obtain⟨y,a1,zG⟩:=bj i n9 h1;have jz:i<100:=by
    have:=(dK.1 h1).1;omega
   refine⟨y,a1,?_⟩;have:=tz i n9 y jz (eo i n9 h1) h1 (fun j aM=>by
    unfold nA;simp only;rw[show (100*i+j) / 100=i by omega,show (100*i+j) % 100=j by omega];simp[ea,a1]) zG
   rw[c'];exact this
end Go.Sx
namespace Go.Sx
open Go.RowKit
inductive eR where
 | ro (d:D)
 | eM (k:Nat) (es:List (List D)) (post:Option (List (List D)))
inductive GA where
 | one (c:eR)
 | agg (cs:List eR)
def eL(i j:Nat):Nat:=c5+(100*i+j)
def GA.cell(j:Nat):GA->Option eR
 | .one c=>if j=0 then some c else none
 | .agg cs=>cs[j]?
def cellOf(v:Value)(j:Nat):Value:=v.cells.getD j undef
def u5(w:World)(ω:Own)(t:Nat):eR->Value->Prop
 | .ro d,y=>bR w ω Tag.free.R d y
 | .eM k es _,y=>bR w ω (Tag.own t).R (.J k es) y
def MG(w:World)(ω:Own)(i:Nat):GA->Value->Prop
 | .one c,y=>u5 w ω (eL i 0) c y
 | .agg cs,y=>∃vs:Array Value,y=.agg vs/\vs.size=cs.length/\∀(j:Nat) (c:eR),cs[j]?=some c->∃u,vs[j]?=some u/\u5 w ω (eL i j) c u
def FW(w:World)(ω:Own):Prop:=∀b,ω b≠.bx->(∃t q,ω b=.tok t q/\c5<=t)/\∃arr ty,w.heap[b]?=some (.cells arr ty (0,0))
def FV(w:World)(ω:Own)(args:List GA)(vs:Array Value):Prop:=FW w ω/\vs.size=args.length/\∀(i:Nat) (ed:GA),args[i]?=some ed->∃v,vs[i]?=some v/\MG w ω i ed v
def Kept(w:World)(ω:Own)(args:List GA)(vs:Array Value):Prop:=
 ∀(i j:Nat) (ed:GA) (k:Nat) (es cp:List (List D)),args[i]?=some ed->ed.cell j=some (.eM k es (some cp))->bR w ω (Tag.own (eL i j)).R (.J k cp) (cellOf (vs.getD i undef) j)
def nm(P:Program)(f:FuncId)(args:List GA)(rs:List cH):Prop:=
 ∀(w:World) (vs:Array Value) (ω:Own),FV w ω args vs->Tidy w ω->Calls P f vs w fun e aG=>∃v,e=.returned v/\gn ⟨w,fun b=>ω b≠.bx,fun _=>(0,undef)⟩ aG/\
  ∃aY:Own,(∀b,b<w.heap.size->ω b=.bx->aY b=.bx)/\(∀b,aY b≠.bx->(∃t q,aY b=.tok t q)/\∃arr ty,aG.heap[b]?=some (.cells arr ty (0,0)))/\Kept aG aY args vs/\mY aG aY rs v
structure da where
 i:Nat
 j:Nat
 t:Nat
 p:Option (Nat×Nat)
 k:Nat
 es:List (List D)
 post:Option (List (List D))
abbrev pN:=Option (Option (List (List D)))
def xu(bs:lP)(i j:Nat):pN->aC->Option (eR×List da×List aC)
 | none,l=>(l.jR bs).map fun d=>(.ro d,[],[l])
 | some post,.J (.own t) k es=>some (.eM k es post,[⟨i,j,t,none,k,es,post⟩],[])
 | some post,.aO t a b k es .here=>some (.eM k es post,[⟨i,j,t,some (a,b),k,es,post⟩],[])
 | _,_=>none
def ps(bs:lP)(i:Nat):Nat->List pN->List aC->Option (List eR×List da×List aC)
 | _,[],[]=>some ([],[],[])
 | j,m::ms,l::ls=>
  match xu bs i j m l,ps bs i (j+1) ms ls with
  | some (c,h,r),some (cs,ae,rs)=>some (c::cs,h++ae,r++rs)
  | _,_=>none
 | _,_,_=>none
def zn(bs:lP)(i:Nat)(ms:List pN):aB->Option (GA×List da×List aC)
 | .aD (.one l)=>match ms with | [m]=>(xu bs i 0 m l).map fun r=>(.one r.1,r.2) | _=>none
 | .aD (.agg ls)=>(ps bs i 0 ms ls).map fun r=>(.agg r.1,r.2)
 | _=>none
def vd(bs:lP):Nat->List (List pN)->List aB->Option (List GA×List da×List aC)
 | _,[],[]=>some ([],[],[])
 | i,ms::HP,p::cw=>
  match zn bs i ms p,vd bs (i+1) HP cw with
  | some (a,h,r),some (as,ae,rs)=>some (a::as,h++ae,r++rs)
  | _,_=>none
 | _,_,_=>none
def rV(ae:List da)(t:Nat):Bool:=ae.any fun h=>h.t==t
def Tag.nH(ae:List da):Tag->Bool
 | .free=>false
 | .own t=>rV ae t
 | .ro t=>rV ae t
def aC.pd(ae:List da):aC->Bool
 | .J t _ _=>t.nH ae
 | .ep t _ _ _ _=>t.nH ae
 | .aO t _ _ _ _ _=>rV ae t
 | .fk _ _=>true
 | _=>false
def aC.nH(bs:lP)(ae:List da):aC->Bool
 | .ptr id _=>match dj id bs with | some ls=>ls.any (aC.pd ae) | none=>true
 | .gP _ ids=>ids.any fun id=>match dj id bs with | some ls=>ls.any (aC.pd ae) | none=>true
 | l=>l.pd ae
def da.apart(h y:da):Bool:=
 (h.i != y.i||h.j != y.j)&&(h.t != y.t||match h.p,y.p with | some p,some q=>p.2 != q.2 | _,_=>false)
def oH:List da->Bool
 | []=>true
 | h::r=>decide (h.j<100)&&(r.all (da.apart h)&&oH r)
theorem OO:∀{ae:List da},oH ae=true->∀h∈ae,∀y∈ae,h=y\/(da.apart h y=true\/da.apart y h=true)
 | [],_,h,bI,_,_=>by cases bI
 | x::r,hk,h,bI,y,a1=>by
  simp only[oH,ca,fN]at hk;rcases dG.1 bI with e1 | Nu
  ·rcases dG.1 a1 with e2 | Hv
   ·exact .inl (e1.trans e2.symm)
   rw[e1];exact .inr (.inl (hk.2.1 y Hv))
  rcases dG.1 a1 with e2 | Hv
  ·rw[e2];exact .inr (.inr (hk.2.1 h Nu))
  exact OO hk.2.2 h Nu y Hv
theorem OP:∀{ae:List da},oH ae=true->∀h∈ae,h.j<100
 | [],_,h,bI=>by cases bI
 | x::r,hk,h,bI=>by
  simp only[oH,ca,ci]at hk;rcases dG.1 bI with rfl | bI
  ·exact hk.1
  exact OP hk.2.2 h bI
def da.fit(h:da)(t:Nat)(q:List (Nat×Nat)):Option (List (Nat×Nat)):=
 if h.t=t then
  match h.p,q with
  | none,q=>some q
  | some p,x::dh=>if x=p then some dh else none
  | some _,[]=>none
 else none
def nu(t:Nat)(q:List (Nat×Nat)):List da->Option (Nat×List (Nat×Nat))
 | []=>none
 | h::r=>match h.fit t q with | some dh=>some (eL h.i h.j,dh) | none=>nu t q r
variable{h:da}{t:Nat}{q:List (Nat×Nat)}
theorem aj0{y:da}{q1 k1:List (Nat×Nat)}(h1:h.fit t q=some q1)(U:y.fit t q=some k1):da.apart h y=false:=by
 unfold da.fit at h1 U;split at h1
 ·rename_i e1;split at U
  ·rename_i e2;have b2:(h.t != y.t)=false:=by simp[e1,e2]
   simp only[da.apart,b2,ml,Bool.and_eq_false_imp];intro _;split at h1
   ·rename_i hp;rw[hp]
   ·rename_i p x dh hp;split at h1
    ·rename_i aa;split at U
     ·rename_i sy;rw[hp,sy]
     ·rename_i Ox gM aso sy heq;split at U
      ·rename_i jE;rw[hp,sy];simp only[r0]at heq;obtain⟨rfl,_⟩:=heq;subst aa;subst jE;simp
      cases U
     cases U
    cases h1
   cases h1
  cases U
 cases h1
theorem IE{t:Nat}{q dh:List (Nat×Nat)}:∀{ae:List da},oH ae=true->∀{h:da},h∈ae->h.fit t q=some dh->nu t q ae=some (eL h.i h.j,dh)
 | [],_,h,bI,_=>by cases bI
 | x::r,hk,h,bI,bl=>by
  have iY:=hk;simp only[oH,ca,fN]at hk;simp only[nu];rcases dG.1 bI with rfl | bI
  ·rw[bl]
  cases e:x.fit t q with
  | none=>exact IE hk.2.2 bI bl
  | some k1=>
   have:=aj0 e bl;rw[hk.2.1 h bI]at this;cases this
theorem Bd{g:Nat}{dh:List (Nat×Nat)}:∀{ae:List da},nu t q ae=some (g,dh)->∃h∈ae,h.fit t q=some dh/\g=eL h.i h.j
 | [],h=>by cases h
 | x::r,h=>by
  simp only[nu]at h;split at h
  ·rename_i k1 e;simp only[aQ,bw]at h;obtain⟨rfl,rfl⟩:=h;exact⟨x,eF,e,rfl⟩
  obtain⟨y,a1,U⟩:=Bd h;exact⟨y,fc _ a1,U⟩
theorem OQ{dh:List (Nat×Nat)}(e:h.fit t q=some dh):h.t=t/\q=h.p.toList++dh:=by
 unfold da.fit at e;split at e
 ·rename_i e1;refine⟨e1,?_⟩;split at e
  ·rename_i hp;simp only[aQ]at e;rw[hp,e];rfl
  ·rename_i p x k1 hp;split at e
   ·rename_i aa;simp only[aQ]at e;rw[hp,aa,e];rfl
   cases e
  cases e
 cases e
theorem OR(h:da)(q:List (Nat×Nat)):h.fit h.t (h.p.toList++q)=some q:=by
 unfold da.fit;rw[a6 rfl];cases h.p with
 | none=>rfl
 | some p=>simp
def fK(ae:List da)(ω:Own):Own:=fun b=>
 match ω b with
 | .tok t q=>match nu t q ae with | some (g,dh)=>.tok g dh | none=>.bx
 | _=>.bx
def Cw(g:Nat):List da->Option da
 | []=>none
 | h::r=>if eL h.i h.j=g then some h else Cw g r
theorem OS:∀{ae:List da},oH ae=true->∀{h:da},h∈ae->Cw (eL h.i h.j) ae=some h
 | [],_,h,bI=>by cases bI
 | x::r,hk,h,bI=>by
  have aM:=OP hk;have iY:=hk;simp only[oH,ca,fN]at hk;simp only[Cw];rcases dG.1 bI with rfl | sw
  ·rw[a6 rfl]
  rw[aX]
  ·exact OS hk.2.2 sw
  intro e;have h1:=aM x eF;have U:=aM h (fc _ sw);have au:=hk.2.1 h sw;simp only[da.apart,ca,lL,bne_iff_ne,ho]at au;simp only[eL]at e;omega
def Be(ae:List da)(t0:Nat):cS->cS
 | .tok s q=>if c5<=s then (match Cw s ae with | some h=>.tok h.t (h.p.toList++q) | none=>.bx) else .tok (t0+s) q
 | _=>.bx
def wc(t:Nat):List da->Option da
 | []=>none
 | h::r=>if h.t=t then some h else wc t r
theorem OT:∀{ae:List da},wc t ae=none->rV ae t=false
 | [],_=>rfl
 | h::r,e=>by
  simp only[wc]at e;split at e
  ·cases e
  rename_i b5;have:=OT e;simp only[rV,u2,gz]at this ⊢;exact⟨by simpa using b5,this⟩
theorem OU:∀{ae:List da},wc t ae=some h->h∈ae/\h.t=t
 | [],e=>by cases e
 | x::r,e=>by
  simp only[wc]at e;split at e
  ·simp only[aQ]at e;subst e;exact⟨eF,‹_›⟩
  obtain⟨h1,U⟩:=OU e;exact⟨fc _ h1,U⟩
def mZ:List da->List D->List D
 | [],ds=>ds
 | h::r,ds=>match h.p,h.post with
  | some p,some es=>mZ r (ds.set p.2 (.J h.k es))
  | _,_=>mZ r ds
def rq(ae:List da)(t0 hW oy:Nat)(pR:List (List D)):aC->aC
 | .J (.own t) k es=>
  match wc t ae with
  | some h=>match h.p,h.post with
   | none,some cp=>.J (.own t) h.k cp
   | none,none=>.cc
   | some _,_=>if t=hW then .J (.own t) oy pR else .cc
  | none=>aC.cm (gH t0) (fun _=>true) (.J (.own t) k es)
 | l=>if l.pd ae then .cc else l.cm (gH t0) fun _=>true
end Go.Sx
namespace Go.Sx
open Go.RowKit
variable{ae:List da}
theorem aj1{t:Nat}(h:rV ae t=false):∀y∈ae,y.t≠t:=by
 intro y a1 e;simp only[rV,eW,eu]at h;exact h y a1 e
theorem IF{t:Nat}(h:rV ae t=false)(q:List (Nat×Nat)):nu t q ae=none:=by
 cases e:nu t q ae with
 | none=>rfl
 | some x=>
  obtain⟨g,dh⟩:=x;obtain⟨y,a1,bl,_⟩:=Bd e;exact absurd (OQ bl).1 (aj1 h y a1)
structure Co (w:World) (ω:Own) (τ:Nat->Nat×Value) (h:da) (u:Value):Prop where
 rep:bR w ω (fun q o=>o=.tok h.t (h.p.toList++q)) (.J h.k h.es) u
 root:h.p=none->τ h.t=(h.k,u)
 cell:∀a b,h.p=some (a,b)->∃(kT cf off len cap:Nat) (arr:Array Value) (ty:TypeId) (cO:Nat×Nat),τ h.t=(kT,.slice (some ⟨cf,off,none⟩) len cap)/\ω cf=.tok h.t []/\w.heap[cf]?=some (.cells arr ty cO)/\arr[off+a*kT+b]?=some u
structure MI (w:World) (ω:Own) (τ:Nat->Nat×Value) (ae:List da) (hW oy:Nat) (pR:List (List D)):Prop where
 ex:∀h∈ae,∀p,h.p=some p->h.t=hW->∃(dx:List (List D)) (y:Value) (ds:List D) (a:Nat),Sat w ω τ (.J (.own hW) oy dx) y/\dx[a]?=some ds/\ds.length=oy/\pR=dx.set a (mZ ae ds)/\
  ∀x∈ae,∀q,x.p=some q->x.t=hW/\q.1=a/\∃cp,x.post=some cp
theorem Bf:∀(ae:List da) (ds:List D),(mZ ae ds).length=ds.length
 | [],_=>rfl
 | h::r,ds=>by
  simp only[mZ];split
  ·rw[Bf r,eQ]
  exact Bf r ds
theorem IG{y:Nat}{d:D}:∀{ae:List da} {ds:List D},(mZ ae ds)[y]?=some d->(∃h∈ae,∃a cp,h.p=some (a,y)/\h.post=some cp/\d=.J h.k cp)\/ds[y]?=some d/\∀h∈ae,∀a cp,h.p=some (a,y)->h.post=some cp->False
 | [],ds,h=>.inr ⟨h,fun _ bI=>by cases bI⟩
 | h::r,ds,ax=>by
  simp only[mZ]at ax;split at ax
  ·rename_i p cp e1 e2;rcases IG ax with⟨x,aa,a,bN,h1,U,au⟩ | ⟨h1,U⟩
   ·exact .inl ⟨x,fc _ aa,a,bN,h1,U,au⟩
   rw[iS]at h1;split at h1
   ·rename_i hp;split at h1
    ·simp only[aQ]at h1;exact .inl ⟨h,eF,p.1,cp,by rw[e1,<-hp],e2,h1.symm⟩
    cases h1
   rename_i hp;refine .inr ⟨h1,fun x aa a bN au aH=>?_⟩;rcases dG.1 aa with rfl | aa
   ·rw[e1]at au;simp only[aQ]at au;rw[au]at hp;exact hp rfl
   exact U x aa a bN au aH
  rename_i b5;rcases IG ax with⟨x,aa,a,bN,h1,U,au⟩ | ⟨h1,U⟩
  ·exact .inl ⟨x,fc _ aa,a,bN,h1,U,au⟩
  refine .inr ⟨h1,fun x aa a bN au aH=>?_⟩;rcases dG.1 aa with rfl | aa
  ·exact b5 _ _ au aH
  exact U x aa a bN au aH
theorem cx.Wq{w0:ev}{st:aE}{a:Act}{w aG:World}{ω:Own}{τ:Nat->Nat×Value}(aV:cx w0 st a w ω τ)(t0:Nat){rs:List cH}{v:Value}{H:Nat->Nat×Value}
  (bH:oH ae=true) (dD:uk rs=true) (ih:t0+10000<=c5) (NS:∀h∈ae,¬(t0<=h.t/\h.t<t0+10000)) (ah:gn ⟨w,fun b=>fK ae ω b≠.bx,H⟩ aG) (fe:Own)
  (kQ:∀b,b<w.heap.size->fK ae ω b=.bx->fe b=.bx) (kC:∀b,fe b≠.bx->(∃t q,fe b=.tok t q)/\∃arr ty,aG.heap[b]?=some (.cells arr ty (0,0))) (kR:mY aG fe rs v)
  (vals:da->Value) (G5:∀h∈ae,∀cp,h.post=some cp->bR aG fe (Tag.own (eL h.i h.j)).R (.J h.k cp) (vals h)) (gF:∀h∈ae,Co w ω τ h (vals h))
  {hW oy:Nat} {pR:List (List D)} (jq:MI w ω τ ae hW oy pR):
  ∃aY cN,cx w0 (st.map (rq ae t0 hW oy pR)) a aG aY cN/\cM (Sat aG aY cN) (te t0 rs) v:=by
 classical
 let aY:Own:=fun b=>if b<w.heap.size/\fK ae ω b=.bx then oG t0 (ω b) else Be ae t0 (fe b)
 let cN:Nat->Nat×Value:=fun s=>if t0<=s/\s<t0+10000 then (p1 rs (s-t0),nA rs v (s-t0)) else τ s
 have hold:∀b,b<w.heap.size->fK ae ω b=.bx->aY b=oG t0 (ω b):=fun b ah h=>by simp only[aY];rw[a6 ⟨ah,h⟩]
 have gh:∀b,fe b≠.bx->aY b=Be ae t0 (fe b):=fun b ah=>by
  simp only[aY];rw[aX];rintro⟨h1,U⟩;exact ah (kQ b h1 U)
 have hblk:∀b,b<w.heap.size->fK ae ω b=.bx->aG.heap[b]?=w.heap[b]?:=fun b bq h=>ah.block b bq (fun aL=>aL h)
 have p2:∀b,ω b=.bx->fK ae ω b=.bx:=fun b h=>by simp only[fK,h]
 have W5:∀b id,ω b=.box id->fK ae ω b=.bx:=fun b id h=>by simp only[fK,h]
 have jY:∀b s q,ω b=.tok s q->nu s q ae=none->fK ae ω b=.bx:=fun b s q h U=>by simp only[fK,h,U]
 have sK:∀h∈ae,cN h.t=τ h.t:=fun h bI=>by simp only[cN];rw[aX (NS h bI)]
 have ey:∀(g ec:Tag) (b:Nat) (q:List (Nat×Nat)),g.nH ae=false->gH t0 g=some ec->b<w.heap.size->g.R q (ω b)->ec.R q (aY b)/\aG.heap[b]?=w.heap[b]?:=by
  intro g ec b q hm ao bq av;have hi:fK ae ω b=.bx:=by
   cases g with
   | free=>exact p2 b av
   | own s=>exact jY b s q av (IF hm q)
   | ro s=>
    rcases av with h | ⟨dh,h⟩
    ·exact p2 b h
    exact jY b s dh h (IF hm dh)
  refine⟨?_,hblk b bq hi⟩;rw[hold b bq hi];cases g with
  | free=>simp only[gH,aQ]at ao;subst ao;simp only[Tag.R]at av ⊢;rw[av];rfl
  | own s=>
   simp only[Tag.R]at av;simp only[gH]at ao;rw[av];simp only[oG];split at ao
   ·simp only[aQ]at ao;subst ao;rw[a6 ‹_›];rfl
   simp only[aQ]at ao;subst ao;rw[aX ‹_›];rfl
  | ro s=>
   simp only[Tag.R]at av;simp only[gH]at ao;split at ao
   ·simp only[aQ]at ao;subst ao;rcases av with h | ⟨dh,h⟩
    ·rw[h];rfl
    rw[h];simp only[oG];rw[a6 ‹_›];rfl
   simp only[aQ]at ao;subst ao;rcases av with h | ⟨dh,h⟩
   ·rw[h];exact .inl rfl
   rw[h];simp only[oG];rw[aX ‹_›];exact .inr ⟨dh,rfl⟩
 have HJ:∀(g ec:Tag) (y:Nat×Value),gH t0 g=some ec->g.dS τ y->ec.dS cN y:=by
  intro g ec y ao a1;cases g with
  | free=>simp only[gH,aQ]at ao;subst ao;exact trivial
  | own s=>
   simp only[gH]at ao;split at ao
   ·simp only[aQ]at ao;subst ao;exact trivial
   simp only[aQ]at ao;subst ao;simp only[Tag.dS,cN]at a1 ⊢;rw[aX ‹_›];exact a1
  | ro s=>
   simp only[gH]at ao;split at ao
   ·simp only[aQ]at ao;subst ao;exact trivial
   simp only[aQ]at ao;subst ao;exact trivial
 have xS:∀id b,ω b=.box id->aY b=.box id/\aG.heap[b]?=w.heap[b]?:=by
  intro id b cq;have bq:=aV.owned.lt (b:=b) (by simp[cq]);have hi:=W5 b id cq;exact⟨by rw[hold b bq hi,cq];rfl,hblk b bq hi⟩
 have Oe:∀h∈ae,∀cp,h.post=some cp->bR aG aY (fun q o=>o=.tok h.t (h.p.toList++q)) (.J h.k cp) (vals h):=by
  intro h bI cp he;refine (G5 h bI cp he).frame fun b q _ av=>⟨?_,rfl⟩
  simp only[Tag.R]at av;rw[gh b (by rw[av];simp),av];simp only[Be];rw[a6 (by simp[eL]),OS bH bI]
 have eB:∀l y,Sat w ω τ l y->Sat aG aY cN (rq ae t0 hW oy pR l) y:=by
  intro l y c3;have plain:∀g k es,g.nH ae=false->Sat w ω τ (.J g k es) y->Sat aG aY cN (aC.cm (gH t0) (fun _=>true) (.J g k es)) y:=by
   intro g k es hm mI;simp only[aC.cm];cases ao:gH t0 g with
   | none=>exact trivial
   | some ec=>exact⟨mI.1.frame fun b q bq av=>ey g ec b q hm ao bq av,HJ g ec _ ao mI.2⟩
  cases l with
  | cc=>exact trivial
  | v x=>exact c3
  | bg c=>exact c3
  | ptr id off=>
   obtain⟨b,h1,U⟩:=c3;exact⟨b,(xS id b h1).1,U⟩
  | gP f ids=>
   obtain⟨bs,e,aL,hi⟩:=c3;simp only[rq,aC.pd,mm,j4,aC.cm];split
   ·refine⟨bs,e,aL,fun i id fX=>?_⟩;obtain⟨b,h1,U⟩:=hi i id fX;exact⟨b,h1,(xS id b U).1⟩
   exact trivial
  | h8 ds off=>
   obtain⟨b,e,ar⟩:=c3;exact⟨b,e,ar.frame fun b q bq av=>ey .free .free b q rfl rfl bq av⟩
  | fd d=>exact bR.frame c3 fun b q bq av=>ey .free .free b q rfl rfl bq av
  | db t k es=>exact⟨bR.frame c3.1 fun b q bq av=>ey .free .free b q rfl rfl bq av,fun bt=>(show cN t=τ t by simp only[cN];rw[aX (by omega)]).trans (c3.2 bt)⟩
  | aO t i j k es m=>
   simp only[rq];by_cases hm:aC.pd ae (.aO t i j k es m)=true
   ·rw[a6 hm];exact trivial
   rw[aX hm];simp only[tq]at hm;replace hm:rV ae t=false:=hm;simp only[aC.cm];split
   ·rename_i c4 ao;split
    ·rename_i bt;subst bt;obtain⟨hX,q',h1,Yc⟩:=c3;refine⟨hX,q',h1.frame fun c q ad av=>ey (.own c4) _ c _ hm ao ad av,fun XH=>?_⟩;obtain⟨kT,b,off,len,cap,arr,ty,cO,U,ba,au,aH⟩:=Yc XH;have bq:b<w.heap.size:=(hA.1 au).1;have hk:=ey (.own c4) _ b [] hm ao bq ba;exact⟨kT,b,off,len,cap,arr,ty,cO,HJ _ _ _ ao U,hk.1,hk.2.trans au,aH⟩
    exact trivial
   exact trivial
  | fk t vs=>
   simp only[rq,aC.pd,fO];exact trivial
  | ep g k es i j=>
   simp only[rq];by_cases hm:aC.pd ae (.ep g k es i j)=true
   ·rw[a6 hm];exact trivial
   rw[aX hm];simp only[tq]at hm;replace hm:g.nH ae=false:=hm;obtain⟨b,off,cap,e,hi,ar,bI⟩:=c3;simp only[aC.cm];cases ao:gH t0 g with
   | none=>exact trivial
   | some ec=>exact⟨b,off,cap,e,hi,ar.frame fun b q bq av=>ey g ec b q hm ao bq av,HJ g ec _ ao bI⟩
  | J g k es=>
   cases g with
   | free=>exact plain .free k es rfl c3
   | ro s=>
    simp only[rq];by_cases hm:aC.pd ae (.J (.ro s) k es)=true
    ·rw[a6 hm];exact trivial
    rw[aX hm];simp only[tq]at hm;exact plain (.ro s) k es hm c3
   | own s=>
    simp only[rq];cases bl:wc s ae with
    | none=>exact plain (.own s) k es (OT bl) c3
    | some h=>
     obtain⟨bI,rfl⟩:=OU bl;simp only;have bj:=gF h bI;have dS:τ h.t=(k,y):=c3.2;split
     ·
      rename_i cp hp he;have e1:=bj.root hp;rw[dS]at e1;simp only[bw]at e1;obtain⟨rfl,e2⟩:=e1;have ar:=Oe h bI cp he;rw[hp,<-e2]at ar;exact⟨ar,by simp only[Tag.dS];rw[sK h bI,dS]⟩
     ·exact trivial
     -- parts of it
     rename_i p hp;split
     ·rename_i tT;obtain⟨dx,Fs,ds,a0,xN,eo,su,rfl,h3⟩:=jq.ex h bI p hp tT;have GO:τ hW=(oy,Fs):=xN.2;rw[<-tT,dS]at GO;simp only[bw]at GO;obtain⟨rfl,rfl⟩:=GO;obtain⟨p7,_⟩:=xN;have hlen:(dx.set a0 (mZ ae ds)).length=dx.length:=eQ;have M9:a0<dx.length:=(dK.1 eo).1;refine⟨?_,by simp only[Tag.dS];rw[sK h bI,dS]⟩;generalize a1:y=MD at p7;cases p7 with
      | nil=>simp at M9
      | row R k dx cf off cap arr ty cO us xB dI Xe di hk hu ax=>
       subst a1;have CP:ω cf=.tok h.t []:=by rw[tT];exact dI
       have NL:∀x∈ae,x.fit hW []=none:=by
        intro x aa;unfold da.fit;split
        ·rename_i ext;cases Df:x.p with
         | some q=>simp
         | none=>
          exfalso;have b5:da.apart h x=true\/da.apart x h=true\/h=x:=by
           rcases OO bH h bI x aa with e | e | e
           ·exact .inr (.inr e)
           ·exact .inl e
           exact .inr (.inl e)
          have xA:∀y z:da,y.t=z.t->(y.p=none\/z.p=none)->da.apart y z=true->False:=by
           intro y z e1 e2 b2;simp only[da.apart,e1,ca,lL,bne_self_eq_false,mm,false_or]at b2;rcases e2 with e2 | e2
           ·simp[e2]at b2
           ·rw[e2]at b2;cases hyp:y.p<;>simp[hyp]at b2
          rcases b5 with e | e | e
          ·exact xA h x (by rw[ext,tT]) (.inr Df) e
          ·exact xA x h (by rw[ext,tT]) (.inl Df) e
          rw[<-e,hp]at Df;cases Df
        rfl
       have j':nu hW [] ae=none:=by
        cases e:nu hW [] ae with
        | none=>rfl
        | some z=>
         obtain⟨g,dh⟩:=z;obtain⟨x,aa,N7,_⟩:=Bd e;rw[NL x aa]at N7;cases N7
       have W2:cf<w.heap.size:=(hA.1 xB).1;have arw:fK ae ω cf=.bx:=jY cf hW [] dI j';have Ys:¬(t0<=hW/\hW<t0+10000):=by rw[<-tT];exact NS h bI
       have NO:∀b q,b<w.heap.size->ω b=.tok hW q->nu hW q ae=none->aY b=.tok hW q/\aG.heap[b]?=w.heap[b]?:=by
        intro b q bq av aL;have hi:=jY b hW q av aL;refine⟨?_,hblk b bq hi⟩;rw[hold b bq hi,av];simp only[oG];rw[aX Ys]
       have NN:∀x y d,cX dx x y=some d->(∀z∈ae,z.p≠some (x,y))->bR aG aY (fun q=>(Tag.own hW).R ((x,y)::q)) d (us x y):=by
        intro x y d ad aR;refine (ax x y d ad).frame fun b q bq av=>?_
        refine NO b _ bq av ?_;cases e:nu hW ((x,y)::q) ae with
        | none=>rfl
        | some r=>
         obtain⟨g,dh⟩:=r;obtain⟨z,Ae,Y2,_⟩:=Bd e;obtain⟨e1,e2⟩:=OQ Y2;exfalso;cases rb:z.p with
         | none=>
          have:=NL z Ae;unfold da.fit at this;rw[a6 e1,rb]at this;simp at this
         | some r=>
          rw[rb]at e2;simp only[xj,List.cons_append,List.nil_append,r0]at e2;exact aR z Ae (by rw[rb,<-e2.1])
       have key:∀x y d,cX (dx.set a0 (mZ ae ds)) x y=some d->bR aG aY (fun q=>(Tag.own hW).R ((x,y)::q)) d (us x y):=by
        intro x y d ad;by_cases aa:x=a0
        ·subst aa;have kC:(mZ ae ds)[y]?=some d:=by
          simpa[cX,iS,M9]using ad
         rcases IG kC with⟨z,aR,ff,cp,h1,U,rfl⟩ | ⟨h1,U⟩
         ·obtain⟨e1,e2,_⟩:=h3 z aR _ h1;have e2:ff=x:=e2;subst e2;obtain⟨kT,fQ,ase,ar7,aq3,aqZ,asz,ark,g1,g2,g3,g4⟩:=(gF z aR).cell _ _ h1;rw[e1,<-tT,dS]at g1;simp only[bw,Value.slice.injEq,aQ,Addr.mk.injEq]at g1;obtain⟨rfl,⟨rfl,rfl,_⟩,_,_⟩:=g1;rw[xB]at g3;simp only[aQ,Obj.cells.injEq]at g3;obtain⟨rfl,_,_⟩:=g3;have YX:y<ds.length:=by
           have:=(dK.1 kC).1;rwa[Bf]at this
          have eU:cX dx ff y=some ds[y]:=by simp[cX,eo,YX]
          have YR:us ff y=vals z:=by
           have:=hu ff y _ eU;rw[g4]at this;exact (ei this).symm
          rw[YR];have ar:=Oe z aR cp U;rw[h1,e1]at ar;exact ar
         have eU:cX dx x y=some d:=by simp[cX,eo,h1]
         refine NN x y d eU fun z aR rb=>?_
         obtain⟨_,_,cp,he⟩:=h3 z aR _ rb;exact U z aR x cp rb he
        have eU:cX dx x y=some d:=by
         simp only[cX,iS]at ad;rw[aX (by omega)]at ad;exact ad
        refine NN x y d eU fun z aR rb=>?_
        obtain⟨_,e2,_⟩:=h3 z aR _ rb;exact aa e2
       have gr:=NO cf [] W2 dI j';have:=bR.row (w:=aG) (ω:=aY) (Tag.own hW).R k (dx.set a0 (mZ ae ds)) cf off cap arr ty cO us (gr.2.trans xB) gr.1 (by rw[hlen];exact Xe) di
        (fun e he=>by
         rcases hn he with e5 | rfl
         ·exact hk e e5
         rw[Bf];exact su)
        (fun x y d ad=>by
         have gk:x<dx.length/\y<k:=by
          have iY:∀e∈dx.set a0 (mZ ae ds),e.length=k:=fun e he=>by
           rcases hn he with e5 | rfl
           ·exact hk e e5
           rw[Bf];exact su
          have e5:x<(dx.set a0 (mZ ae ds)).length/\y<k:=by
           unfold cX at ad;cases tB:(dx.set a0 (mZ ae ds))[x]? with
           | none=>simp[tB]at ad
           | some row=>
            simp only[tB,nh]at ad;have hm:=iY row (e4 tB);exact⟨(dK.1 tB).1,by rw[<-hm];exact (dK.1 ad).1⟩
          rw[hlen]at e5;exact e5
         have tR:(dx[x]'gk.1).length=k:=hk _ (rZ gk.1);exact hu x y ((dx[x]'gk.1)[y]'(by omega)) (by simp[cX,gk.1,tR,gk.2]))
        key
       rw[hlen]at this;rw[tT];exact this
     exact trivial
 have cell:∀(n:Nat) (d:D) (u:Value),n<10000->nA rs v n=u->(∀k es,d=.J k es->p1 rs n=k)->bR aG fe (Tag.own n).R d u->Sat aG aY cN (d.pE (t0+n)) u:=by
  intro n d u aL bj hk ar;cases d with
  | v x=>
   have e:u=x:=by cases ar;rfl
   subst e;unfold D.pE;split
   ·rename_i h;cases h;exact rfl
   ·rename_i h;cases h;exact rfl
   ·rename_i h;cases h
   ·exact trivial
   exact trivial
  | ptr ds=>exact trivial
  | cl g bA=>exact trivial
  | J k es=>
   refine⟨ar.frame fun b q bq av=>⟨?_,rfl⟩,?_⟩
   ·simp only[Tag.R]at av ⊢;rw[gh b (by rw[av];simp),av];simp only[Be];rw[aX (by simp only[c5];omega)]
   simp only[Tag.dS,cN];rw[a6 (by omega),show t0+n-t0=n by omega,bj,hk k es rfl]
 have tz:∀(r:Nat) (cj:cH) (y:Value),r<100->(∀ds,cj=.agg ds->ds.length<100)->rs[r]?=some cj->(∀j,j<100->nA rs v (100*r+j)=y.cells.getD j undef)->l4 aG fe r cj y->j6 (Sat aG aY cN) (cj.res (t0+100*r)) y:=by
  intro r cj y ar eo zT bj nz;have gu:∀j,j<100->p1 rs (100*r+j)=(match cH.cell j cj with | some (.J k _)=>k | _=>0):=by
   intro j aM;unfold p1;rw[show (100*r+j) / 100=r by omega,show (100*r+j) % 100=j by omega,zT];rfl
  cases cj with
  | one d=>
   have h1:=nz.pj;have U:=bj 0 (by omega);rw[A9 h1]at U;have:=cell (100*r) d y (by omega) (by simpa using U) (fun k es e=>by
    have:=gu 0 (by omega);rw[mq]at this;rw[this,e];rfl) nz
   exact this
  | agg ds=>
   obtain⟨vs,rfl,aL,aM⟩:=nz;refine⟨vs,rfl,by rw[yL];exact aL,fun j l af=>?_⟩;rw[Bc,bX]at af;obtain⟨d,ax,rfl⟩:=af;obtain⟨u,hu,zU⟩:=aM j d ax;have h4:j<100:=by
    have:=(dK.1 ax).1;have:=eo ds rfl;omega
   refine⟨u,hu,?_⟩;have:=cell (100*r+j) d u (by omega) (by rw[bj j h4];simp[Value.cells,ea,hu]) (fun k es e=>by
    rw[gu j h4];simp only[cH.cell,ax,e]) zU
   rw[show t0+100*r+(0+j)=t0+(100*r+j) by omega];exact this
 simp only[uk,ca,ci]at dD;have eo:∀(r:Nat) (cj:cH),rs[r]?=some cj->∀ds,cj=.agg ds->ds.length<100:=by
  intro r cj ar ds e;have:=fN.1 dD.2 cj (e4 ar);subst e;simpa using this
 have NH:∀b,ω b≠.bx->w0.Dm b:=fun b h=>(aV.owned b h).1
 have Ns:∀b,fK ae ω b≠.bx->ω b≠.bx:=fun b h e=>h (p2 b e)
 refine⟨aY,cN,aV.cD _ eB ?_ ?_ (fun id b cq=>xS id b cq) ?_ (fun s ae=>by simp only[cN];rw[aX (by omega)]),?_⟩
 ·refine⟨ah.os.trans aV.below.os,ah.tape.trans aV.below.tape,ah.output.trans aV.below.output,ni aV.below.size ah.size,fun k hk ao=>?_,fun ae=>ni (aV.below.drawn ae) (ah.drawn ae),ah.laid,aV.below.free⟩;have q7:k<w.heap.size:=ze hk aV.below.size;have hi:fK ae ω k=.bx:=by
   cases e:fK ae ω k with
   | bx=>rfl
   | _=>
    have:=NH k (Ns k (by rw[e];simp));rcases this with h | h
    ·omega
    exact absurd h ao
  exact (hblk k q7 hi).trans (aV.below.block k hk ao)
 ·intro b fW;by_cases ad:b<w.heap.size/\fK ae ω b=.bx
  ·rw[hold b ad.1 ad.2]at fW;have U:ω b≠.bx:=fun e=>by rw[e]at fW;exact fW rfl
   obtain⟨au,arr,ty,aH⟩:=aV.owned b U;exact⟨au,arr,ty,(hblk b ad.1 ad.2).trans aH⟩
  have U:fe b≠.bx:=fun e=>by
   simp only[aY]at fW;rw[aX ad,e]at fW;exact fW rfl
  obtain⟨_,arr,ty,aH⟩:=kC b U;refine⟨?_,arr,ty,aH⟩;rcases lN b w.heap.size with bq | mD
  ·exact NH b (Ns b fun e=>ad ⟨bq,e⟩)
  exact .inl (by have:=aV.below.size;omega)
 ·intro id b cq;by_cases ad:b<w.heap.size/\fK ae ω b=.bx
  ·rw[hold b ad.1 ad.2]at cq;cases e:ω b with
   | bx=>rw[e]at cq;cases cq
   | box i=>rw[e]at cq;exact cq
   | tok s q=>rw[e]at cq;simp only[oG]at cq;split at cq<;>cases cq
  simp only[aY]at cq;rw[aX ad]at cq;cases e:fe b with
  | bx=>rw[e]at cq;cases cq
  | box i=>rw[e]at cq;cases cq
  | tok s q=>
   rw[e]at cq;simp only[Be]at cq;split at cq
   ·split at cq<;>cases cq
   cases cq
 cases rs with
 | nil=>
  obtain⟨vs,rfl,aL,_⟩:=kR;exact⟨vs,rfl,aL,fun i a ag=>by simp[qt]at ag⟩
 | cons cj rest=>
  cases rest with
  | nil=>
   have:=tz 0 cj v (by omega) (eo 0 cj rfl) rfl (fun j aM=>by
    unfold nA;simp only[Nat.mul_zero,c'];rw[zi aM]) kR
   exact this
  | cons MJ rest=>
   obtain⟨vs,rfl,aL,bj⟩:=kR;refine⟨vs,rfl,by rw[DU];exact aL,fun i a ag=>?_⟩;rw[DT,bX]at ag;obtain⟨n9,h1,rfl⟩:=ag;obtain⟨y,a1,zG⟩:=bj i n9 h1;have jz:i<100:=by
    have:=(dK.1 h1).1;omega
   refine⟨y,a1,?_⟩;have:=tz i n9 y jz (eo i n9 h1) h1 (fun j aM=>by
    unfold nA;simp only;rw[show (100*i+j) / 100=i by omega,show (100*i+j) % 100=j by omega];simp[ea,a1]) zG
   rw[c'];exact this
end Go.Sx
namespace Go.Sx
open Go.RowKit
variable{w:World}{ω:Own}{τ:Nat->Nat×Value}{ae:List da}{l:aC}{d:D}{y:Value}
theorem OV(h:l.gC=some d)(hm:l.pd ae=false)(c3:Sat w ω τ l y):bR w (fK ae ω) Tag.free.R d y:=by
 have p2:∀b,ω b=.bx->fK ae ω b=.bx:=fun b h=>by simp only[fK,h]
 have jY:∀b s q,ω b=.tok s q->rV ae s=false->fK ae ω b=.bx:=fun b s q h U=>by simp only[fK,h,IF U]
 have tag:∀(g:Tag) (b:Nat) (q:List (Nat×Nat)),g.nH ae=false->g.R q (ω b)->fK ae ω b=.bx:=by
  intro g b q ao av;cases g with
  | free=>exact p2 b av
  | own s=>exact jY b s q av ao
  | ro s=>
   rcases av with h | ⟨dh,h⟩
   ·exact p2 b h
   exact jY b s dh h ao
 cases l with
 | cc=>cases h
 | v x=>
  simp only[aC.gC]at h;split at h
  ·simp only[aQ]at h;subst h;have:y=x:=c3;subst this;exact .v _ _ ‹_›
  cases h
 | bg c=>
  simp only[aC.gC,aQ]at h;subst h;have:y=.bool c:=c3;subst this;exact .v _ _ rfl
 | J t k es=>simp only[aC.gC,aQ]at h;subst h;exact c3.1.frame fun b q _ av=>⟨tag t b q hm av,rfl⟩
 | ptr=>cases h
 | ep=>cases h
 | gP=>cases h
 | fk=>cases h
 | h8 ds off=>
  simp only[aC.gC]at h;split at h
  ·rename_i aN;subst aN;simp only[aQ]at h;subst h;obtain⟨b,rfl,ar⟩:=c3;exact ar.frame fun b q _ av=>⟨p2 b av,rfl⟩
  cases h
 | fd dr=>simp only[aC.gC,aQ]at h;subst h;exact bR.frame c3 fun b q _ av=>⟨p2 b av,rfl⟩
 | db t k es=>simp only[aC.gC,aQ]at h;subst h;exact bR.frame c3.1 fun b q _ av=>⟨p2 b av,rfl⟩
 | aO t i j k es m=>
  obtain⟨u,hu,ar,_⟩:=c3;cases m with
  | at_ x z=>cases h
  | here=>simp only[aC.gC,aQ]at h;subst h;have:y=u:=hu;subst this;exact ar.frame fun b q _ av=>⟨jY b t _ av hm,rfl⟩
  | lS=>simp only[aC.gC,aQ]at h;subst h;have:y=u:=hu;subst this;exact ar.frame fun b q _ av=>⟨jY b t _ av hm,rfl⟩
variable{bs:lP}
theorem OW(ah:wO w ω τ bs){id b:Nat}(h:xr bs id=some d)(hm:(match dj id bs with | some ls=>ls.any (aC.pd ae) | none=>true)=false)(aN:ω b=.box id):
  bR w (fK ae ω) Tag.free.R d (ptrTo b):=by
 unfold xr at h;cases e:dj id bs with
 | none=>simp[e]at h
 | some ls=>
  rw[e]at hm;simp only[eW,tq]at hm;simp only[e,nh,bX]at h;obtain⟨ds,h1,rfl⟩:=h;obtain⟨cT,arr,ty,c7,hu,bI,c3⟩:=ah id ls e;have:=hu b aN;subst this;obtain⟨U,au⟩:=nL h1;have cell:∀j d,ds[j]?=some d->arr[j]?=some (arr.getD j undef)/\bR w (fK ae ω) Tag.free.R d (arr.getD j undef):=by
   intro j d ax;obtain⟨l,af,cU⟩:=au j d ax;obtain⟨u,fJ,eG⟩:=c3.2 j l af;have e2:arr.getD j undef=u:=by simp[ea,fJ]
   rw[e2];exact⟨fJ,OV cU (hm l (e4 af)) eG⟩
  exact bR.ptr _ ds b arr ty (0,0) (fun j=>arr.getD j undef) bI (by show fK ae ω b=.bx;simp only[fK,aN]) (by have:=c3.1;omega) (fun j d ax=>(cell j d ax).1) (fun j d ax=>(cell j d ax).2.frame fun _ _ _ h=>⟨h,rfl⟩)
theorem aj2(ah:wO w ω τ bs)(h:l.jR bs=some d)(hm:l.nH bs ae=false)(c3:Sat w ω τ l y):
  bR w (fK ae ω) Tag.free.R d y:=by
 unfold aC.jR at h;split at h
 ·rename_i id off;split at h
  ·rename_i aN;subst aN;obtain⟨b,h1,rfl⟩:=c3;exact OW ah h hm h1
  cases h
 ·rename_i g ids;rw[bX]at h;obtain⟨ds,h1,rfl⟩:=h;obtain⟨oa,rfl,aL,hi⟩:=c3;obtain⟨U,au⟩:=nL h1;simp only[aC.nH,eW,tq]at hm;have cell:∀j d,ds[j]?=some d->(oa.map ptrTo).toArray[j]?=some ((oa.map ptrTo).toArray.getD j undef)/\bR w (fK ae ω) Tag.free.R d ((oa.map ptrTo).toArray.getD j undef):=by
   intro j d ax;obtain⟨id,fX,GM⟩:=au j d ax;obtain⟨b,gr,gg⟩:=hi j id fX;have e1:(oa.map ptrTo).toArray[j]?=some (ptrTo b):=by simp[gr]
   have e2:(oa.map ptrTo).toArray.getD j undef=ptrTo b:=by rw[ea,e1];rfl
   rw[e2];exact⟨e1,OW ah GM (hm id (e4 fX)) gg⟩
  exact bR.cl _ g ds _ (fun j=>(oa.map ptrTo).toArray.getD j undef) (by simp;omega) (fun j d ax=>(cell j d ax).1) (fun j d ax=>(cell j d ax).2.frame fun _ _ _ h=>⟨h,rfl⟩)
 rename_i vH Yd;have vD:l.pd ae=false:=by
  unfold aC.nH at hm;split at hm
  ·exact absurd rfl (vH _ _)
  ·exact absurd rfl (Yd _ _)
  exact hm
 exact OV h vD c3
structure V' (w:World) (ω:Own) (τ:Nat->Nat×Value) (ae:List da) (i j:Nat) (c:eR) (aa:List da) (y:Value):Prop where
 gc:u5 w (fK ae ω) (eL i j) c y
 at_:∀h∈aa,h.i=i/\h.j=j/\Co w ω τ h y/\c=.eM h.k h.es h.post
 one:y.oneCell'=true
variable{i:Nat}
theorem IH(bH:oH ae=true)(ah:wO w ω τ bs){j:Nat}{m:pN}{c:eR}{aa:List da}{rx:List aC}
  (h:xu bs i j m l=some (c,aa,rx)) (jq:∀x∈aa,x∈ae) (xM:∀x∈rx,x.nH bs ae=false) (c3:Sat w ω τ l y):V' w ω τ ae i j c aa y:=by
 unfold xu at h;split at h
 ·rw[bX]at h;obtain⟨d,h1,h⟩:=h;simp only[bw]at h;obtain⟨rfl,rfl,rfl⟩:=h;have:=aj2 ah h1 (xM _ (by simp)) c3;exact⟨this,fun x aa=>by simp at aa,this.pj⟩
 ·rename_i post t k es;simp only[aQ,bw]at h;obtain⟨rfl,rfl,rfl⟩:=h;have mF:=jq _ (eF);refine⟨c3.1.frame fun b q _ av=>⟨?_,rfl⟩,fun x aa=>?_,c3.1.pj⟩
  ·simp only[Tag.R]at av ⊢;simp only[fK,av];have:=IE (t:=t) (q:=q) (dh:=q) bH mF (OR ⟨i,j,t,none,k,es,post⟩ q);simp only[this]
  simp only[List.mem_singleton]at aa;subst aa;exact⟨rfl,rfl,⟨c3.1.frame fun b q _ av=>⟨av,rfl⟩,fun _=>c3.2,fun a b e=>by cases e⟩,rfl⟩
 ·rename_i post t a b k es;simp only[aQ,bw]at h;obtain⟨rfl,rfl,rfl⟩:=h;have mF:=jq _ (eF);obtain⟨hX,q',c3⟩:=c3;have:y=hX:=q';subst this;refine⟨c3.1.frame fun c q _ av=>⟨?_,rfl⟩,fun x aa=>?_,c3.1.pj⟩
  ·simp only[Tag.R]at av ⊢;simp only[fK,av];have:=IE (t:=t) (q:=(a,b)::q) (dh:=q) bH mF (OR ⟨i,j,t,some (a,b),k,es,post⟩ q);simp only[this]
  simp only[List.mem_singleton]at aa;subst aa;refine⟨rfl,rfl,⟨c3.1.frame fun b q _ av=>⟨av,rfl⟩,fun e=>(by cases e),fun cy cT e=>?_⟩,rfl⟩;simp only[aQ,bw]at e;obtain⟨rfl,rfl⟩:=e;exact c3.2 rfl
 cases h
theorem OX:∀{ms:List pN} {ls:List aC} {j:Nat} {cs:List eR} {aa:List da} {rx:List aC},ps bs i j ms ls=some (cs,aa,rx)->cs.length=ls.length
 | [],[],j,cs,aa,rx,h=>by simp only[ps,aQ,bw]at h;obtain⟨rfl,_,_⟩:=h;rfl
 | m::ms,l::ls,j,cs,aa,rx,h=>by
  simp only[ps]at h;split at h
  ·rename_i c h1 bB MV lY y2 e1 e2;simp only[aQ,bw]at h;obtain⟨rfl,_,_⟩:=h;simp[OX e2]
  cases h
 | [],_::_,j,cs,aa,rx,h=>by simp[ps]at h
 | _::_,[],j,cs,aa,rx,h=>by simp[ps]at h
theorem OY:∀{ms:List pN} {ls:List aC} {j:Nat} {cs:List eR} {aa:List da} {rx:List aC},ps bs i j ms ls=some (cs,aa,rx)->
  (∀(x:Nat) (c:eR),cs[x]?=some c->∃l m h1 bB,ls[x]?=some l/\xu bs i (j+x) m l=some (c,h1,bB)/\(∀z∈h1,z∈aa)/\(∀z∈bB,z∈rx))/\
  (∀h∈aa,∃(x:Nat) (c:eR) (l:aC) (m:pN) (h1:List da) (bB:List aC),cs[x]?=some c/\ls[x]?=some l/\xu bs i (j+x) m l=some (c,h1,bB)/\h∈h1/\(∀z∈h1,z∈aa)/\(∀z∈bB,z∈rx))
 | [],[],j,cs,aa,rx,h=>by
  simp only[ps,aQ,bw]at h;obtain⟨rfl,rfl,rfl⟩:=h;exact⟨fun x c ad=>by simp at ad,fun h bI=>by simp at bI⟩
 | m::ms,l::ls,j,cs,aa,rx,h=>by
  simp only[ps]at h;split at h
  ·rename_i c h1 bB MV lY y2 e1 e2;simp only[aQ,bw]at h;obtain⟨rfl,rfl,rfl⟩:=h;obtain⟨cC,b6⟩:=OY e2;refine⟨fun x jS ad=>?_,fun z aR=>?_⟩
   ·cases x with
    | zero=>
     simp only[iy,aQ]at ad;subst ad;exact⟨l,m,h1,bB,rfl,e1,fun z aR=>gm _ aR,fun z aR=>gm _ aR⟩
    | succ x=>
     obtain⟨ht,js,U,bV,g1,g2,g3,g4⟩:=cC x jS (by simpa using ad);exact⟨ht,js,U,bV,by simpa using g1,by rw[show j+(x+1)=j+1+x by omega];exact g2,fun z aR=>hZ _ (g3 z aR),fun z aR=>hZ _ (g4 z aR)⟩
   rcases gY.1 aR with aR | aR
   ·exact⟨0,c,l,m,h1,bB,rfl,rfl,e1,aR,fun z aR=>gm _ aR,fun z aR=>gm _ aR⟩
   obtain⟨x,jS,ht,js,U,bV,g0,g1,g2,g5,g3,g4⟩:=b6 z aR;exact⟨x+1,jS,ht,js,U,bV,by simpa using g0,by simpa using g1,by rw[show j+(x+1)=j+1+x by omega];exact g2,g5,fun z aR=>hZ _ (g3 z aR),fun z aR=>hZ _ (g4 z aR)⟩
  cases h
 | [],_::_,j,cs,aa,rx,h=>by simp[ps]at h
 | _::_,[],j,cs,aa,rx,h=>by simp[ps]at h
structure V9 (w:World) (ω:Own) (τ:Nat->Nat×Value) (ae:List da) (i:Nat) (ed:GA) (aa:List da) (y:Value):Prop where
 WM:MG w (fK ae ω) i ed y
 at_:∀h∈aa,h.i=i/\Co w ω τ h (cellOf y h.j)/\ed.cell h.j=some (.eM h.k h.es h.post)
theorem OZ(bH:oH ae=true)(ah:wO w ω τ bs){ms:List pN}{p:aB}{ed:GA}{aa:List da}{rx:List aC}
  (h:zn bs i ms p=some (ed,aa,rx)) (jq:∀x∈aa,x∈ae) (xM:∀x∈rx,x.nH bs ae=false) (c3:cM (Sat w ω τ) p y):V9 w ω τ ae i ed aa y:=by
 unfold zn at h;split at h
 ·rename_i l;split at h
  ·rename_i m;rw[bX]at h;obtain⟨⟨c,h1,bB⟩,e,h⟩:=h;simp only[bw]at h;obtain⟨rfl,rfl,rfl⟩:=h;have:=IH bH ah e jq xM c3;refine⟨this.gc,fun x aa=>?_⟩;obtain⟨e1,e2,b2,dB⟩:=this.at_ x aa;have WH:cellOf y x.j=y:=by rw[e2,cellOf,A9 this.one];rfl
   rw[WH];exact⟨e1,b2,by simp[GA.cell,e2,dB]⟩
  cases h
 ·rename_i ls;rw[bX]at h;obtain⟨⟨cs,h1,bB⟩,e,h⟩:=h;simp only[bw]at h;obtain⟨rfl,rfl,rfl⟩:=h;obtain⟨us,rfl,aL,hu⟩:=c3;obtain⟨cC,b6⟩:=OY e;refine⟨⟨us,rfl,by rw[OX e];exact aL,fun x c ad=>?_⟩,fun z aR=>?_⟩
  ·obtain⟨l,m,U,bV,g1,g2,g3,g4⟩:=cC x c ad;obtain⟨u,fJ,eG⟩:=hu x l g1;rw[c']at g2;exact⟨u,fJ,(IH bH ah g2 (fun z aR=>jq z (g3 z aR)) (fun z aR=>xM z (g4 z aR)) eG).gc⟩
  obtain⟨x,c,l,m,U,bV,g0,g1,g2,g5,g3,g4⟩:=b6 z aR;obtain⟨u,fJ,eG⟩:=hu x l g1;rw[c']at g2;obtain⟨e1,e2,b2,dB⟩:=(IH bH ah g2 (fun z aR=>jq z (g3 z aR)) (fun z aR=>xM z (g4 z aR)) eG).at_ z g5;refine⟨e1,?_,by simp only[GA.cell,e2,g0,dB]⟩;have:cellOf (.agg us) z.j=u:=by simp[cellOf,Value.cells,e2,ea,fJ]
  rw[this];exact b2
 cases h
theorem O0:∀{HP:List (List pN)} {cw:List aB} {i:Nat} {gs:List GA} {aa:List da} {rx:List aC},vd bs i HP cw=some (gs,aa,rx)->gs.length=cw.length/\
  (∀(x:Nat) (ed:GA),gs[x]?=some ed->∃p ms h1 bB,cw[x]?=some p/\zn bs (i+x) ms p=some (ed,h1,bB)/\(∀z∈h1,z∈aa)/\(∀z∈bB,z∈rx))/\
  (∀h∈aa,∃(x:Nat) (ed:GA) (p:aB) (ms:List pN) (h1:List da) (bB:List aC),gs[x]?=some ed/\cw[x]?=some p/\zn bs (i+x) ms p=some (ed,h1,bB)/\h∈h1/\(∀z∈h1,z∈aa)/\(∀z∈bB,z∈rx))
 | [],[],i,gs,aa,rx,h=>by
  simp only[vd,aQ,bw]at h;obtain⟨rfl,rfl,rfl⟩:=h;exact⟨rfl,fun x c ad=>by simp at ad,fun h bI=>by simp at bI⟩
 | m::ms,l::ls,i,gs,aa,rx,h=>by
  simp only[vd]at h;split at h
  ·rename_i c h1 bB MV lY y2 e1 e2;simp only[aQ,bw]at h;obtain⟨rfl,rfl,rfl⟩:=h;obtain⟨dp,cC,b6⟩:=O0 e2;refine⟨by simp[dp],fun x jS ad=>?_,fun z aR=>?_⟩
   ·cases x with
    | zero=>
     simp only[iy,aQ]at ad;subst ad;exact⟨l,m,h1,bB,rfl,e1,fun z aR=>gm _ aR,fun z aR=>gm _ aR⟩
    | succ x=>
     obtain⟨ht,js,U,bV,g1,g2,g3,g4⟩:=cC x jS (by simpa using ad);exact⟨ht,js,U,bV,by simpa using g1,by rw[show i+(x+1)=i+1+x by omega];exact g2,fun z aR=>hZ _ (g3 z aR),fun z aR=>hZ _ (g4 z aR)⟩
   rcases gY.1 aR with aR | aR
   ·exact⟨0,c,l,m,h1,bB,rfl,rfl,e1,aR,fun z aR=>gm _ aR,fun z aR=>gm _ aR⟩
   obtain⟨x,jS,ht,js,U,bV,g0,g1,g2,g5,g3,g4⟩:=b6 z aR;exact⟨x+1,jS,ht,js,U,bV,by simpa using g0,by simpa using g1,by rw[show i+(x+1)=i+1+x by omega];exact g2,g5,fun z aR=>hZ _ (g3 z aR),fun z aR=>hZ _ (g4 z aR)⟩
  cases h
 | [],_::_,i,gs,aa,rx,h=>by simp[vd]at h
 | _::_,[],i,gs,aa,rx,h=>by simp[vd]at h
def DV:List da->Option (Nat×Nat)
 | []=>none
 | h::r=>match h.p with | some p=>some (h.t,p.1) | none=>DV r
theorem O1:∀{ae:List da},DV ae=none->∀h∈ae,h.p=none
 | [],_,h,bI=>by cases bI
 | x::r,e,h,bI=>by
  simp only[DV]at e;split at e
  ·cases e
  rename_i hp;rcases dG.1 bI with rfl | bI
  ·exact hp
  exact O1 e h bI
def Bg(a:Nat):List da->List Prop
 | []=>[]
 | h::r=>match h.p with | some p=>(p.1=a)::Bg a r | none=>Bg a r
theorem II{a:Nat}:∀{ae:List da},cB (Bg a ae)->∀h∈ae,∀p,h.p=some p->p.1=a
 | [],_,h,bI,_,_=>by cases bI
 | x::r,aN,h,bI,p,hp=>by
  simp only[Bg]at aN;split at aN
  ·rename_i q av;rcases dG.1 bI with rfl | bI
   ·rw[hp]at av;rw[ei av];exact aN.1
   exact II aN.2 h bI p hp
  rename_i av;rcases dG.1 bI with rfl | bI
  ·rw[hp]at av;cases av
  exact II aN h bI p hp
def H7(st:aE)(ae:List da)(src:Nat)(ds:List D):Option (Nat×Nat×List (List D)×List Prop):=
 match DV ae with
 | none=>some (0,0,[],[])
 | some (t,a)=>
  match (st.env.getD src .cc).leaf with
  | some (.J (.own s) k es)=>
   if s=t/\ds.length=k/\ae.all (fun h=>match h.p with | some _=>h.t==t&&h.post.isSome | none=>true)=true then
    some (t,k,es.set a (mZ ae ds),(es[a]?=some ds)::Bg a ae)
   else none
  | _=>none
theorem aj3{w0:ev}{st:aE}{a:Act}(aV:cx w0 st a w ω τ){src:Nat}{ds:List D}{t k:Nat}{es:List (List D)}{obs:List Prop}
  (h:H7 st ae src ds=some (t,k,es,obs)) (aN:cB obs):MI w ω τ ae t k es:=by
 unfold H7 at h;split at h
 ·rename_i aL;exact⟨fun x aa p hp _=>by rw[O1 aL x aa]at hp;cases hp⟩
 rename_i c4 cy bl;split at h
 ·rename_i s b8 cp af;split at h
  ·rename_i ad;obtain⟨rfl,su,h3⟩:=ad;simp only[aQ,bw]at h;obtain⟨rfl,rfl,rfl,rfl⟩:=h;rw[fN]at h3;refine⟨fun x aa p hp _=>?_⟩;have mI:∃y,Sat w ω τ (.J (.own s) b8 cp) y:=by
    rw[iw]at af;cases e:st.env[src]? with
    | none=>rw[e]at af;simp[aB.leaf]at af
    | some p=>
     rw[e]at af;obtain⟨v,_,U⟩:=aV.env src p e;exact⟨v,aB.dw af U⟩
   obtain⟨y,a1⟩:=mI;refine⟨cp,y,ds,cy,a1,aN.1,su,rfl,fun z aR q av=>?_⟩;have h1:=h3 z aR;simp only[av,ca,eu,pL]at h1;exact⟨h1.1,II aN.2 z aR q av,h1.2⟩
  cases h
 cases h
def H8(P:Program)(st:aE)(d:Option Nat)(f:FuncId)(args:List Operand)(ans:List b4):Option (aE×List b4×List Prop):=
 match ans with
 | .rT vS src ds rs::r=>
  match vd st.boxes 0 vS (args.map st.bk) with
  | some (gs,ae,pF)=>
   match H7 st ae src ds with
   | some (hW,oy,pR,obs)=>
    let t0:=10000*(d.getD 0+1)
    if k4 P f=true/\uk rs=true/\t0+10000<=c5/\oH ae=true/\pF.all (fun l=>!(l.nH st.boxes ae))=true/\ae.all (fun h=>!(decide (t0<=h.t)&&decide (h.t<t0+10000)))=true then
     let bn:=st.map (rq ae t0 hW oy pR)
     match d with
     | some d=>some (⟨bn.env.set d (te t0 rs),bn.boxes⟩,r,nm P f gs rs::obs)
     | none=>some (bn,r,nm P f gs rs::obs)
    else none
   | none=>none
  | none=>none
 | _=>none
theorem aj4{P:Program}{w0:ev}{st bn:aE}{a:Act}{dst:Option Nat}{f:FuncId}{args:Array Operand}{ts:Array TypeId}{type:TypeId}{pos:String}{after:Array Edge}{guard:Option (Nat×Bool)}{ans ch:List b4}{obs:List Prop}
  (aV:cx w0 st a w ω τ) (h:H8 P st dst f args.toList ans=some (bn,ch,obs)) (aN:cB obs) {K:Act->World->Prop} {Q:Exit->Act->World->Prop} (gR:∀cy aG,Rel w0 bn cy aG->K cy aG):
  Oper.wp P ⟨dst,.call ⟨.value (.func f),args,ts⟩,type,pos,after,guard⟩ a w K Q:=by
 unfold H8 at h;split at h
 ·rename_i vS src ds rs r;split at h
  ·rename_i gs ae pF mA;split at h
   ·rename_i hW oy pR fS jq;simp only at h;split at h
    ·rename_i ad;obtain⟨hF,dD,ih,bH,zR,xL⟩:=ad;rw[fN]at zR xL;have zS:∀l∈pF,l.nH st.boxes ae=false:=fun l af=>by simpa using zR l af
     have Yw:∀h∈ae,¬(10000*(dst.getD 0+1)<=h.t/\h.t<10000*(dst.getD 0+1)+10000):=fun h bI=>by
      have:=xL h bI;simp only[fr,Bool.and_eq_false_iff,jO]at this;omega
     obtain⟨hlen,cC,b6⟩:=O0 mA;have gF:∀(x:Nat) (p:aB),(args.toList.map st.bk)[x]?=some p->∃v,(args.map a.eval)[x]?=some v/\cM (Sat w ω τ) p v:=by
      intro x p hp;rw[c9,bX]at hp;obtain⟨o,h1,rfl⟩:=hp;refine⟨a.eval o,?_,aV.bk o⟩;rw[zh];rw[jg]at h1;rw[h1];rfl
     have XB:FV w (fK ae ω) gs (args.map a.eval):=by
      refine⟨fun b ah=>?_,by simp[hlen],fun x ed aa=>?_⟩
      ·have cQ:ω b≠.bx:=fun e=>ah (by simp only[fK,e])
       obtain⟨_,arr,ty,aH⟩:=aV.owned b cQ;refine⟨?_,arr,ty,aH⟩;simp only[fK]at ah ⊢;cases e:ω b with
       | bx=>simp[e]at ah
       | box id=>simp[e]at ah
       | tok t q=>
        simp only[e]at ah ⊢;cases e2:nu t q ae with
        | none=>simp[e2]at ah
        | some z=>
         obtain⟨g,dh⟩:=z;obtain⟨y,_,_,rfl⟩:=Bd e2;exact⟨_,dh,rfl,by simp[eL]⟩
      obtain⟨p,ms,h1,bB,g1,g2,g3,g4⟩:=cC x ed aa;obtain⟨v,bj,tS⟩:=gF x p g1;rw[c']at g2;exact⟨v,bj,(OZ bH aV.boxes g2 g3 (fun z aR=>zS z (g4 z aR)) tS).WM⟩
     have ny:∀h∈ae,Co w ω τ h (cellOf ((args.map a.eval).getD h.i undef) h.j)/\∃ed,gs[h.i]?=some ed/\ed.cell h.j=some (.eM h.k h.es h.post):=by
      intro h bI;obtain⟨x,ed,p,ms,h1,bB,g0,g1,g2,g5,g3,g4⟩:=b6 h bI;obtain⟨v,bj,tS⟩:=gF x p g1;rw[c']at g2;obtain⟨e1,e2,b2⟩:=(OZ bH aV.boxes g2 g3 (fun z aR=>zS z (g4 z aR)) tS).at_ h g5;have bk:(args.map a.eval).getD h.i undef=v:=by rw[e1,ea,bj];rfl
      rw[bk];exact⟨e2,ed,by rw[e1];exact g0,b2⟩
     have eZ:(execOp a.eval ⟨dst,.call ⟨.value (.func f),args,ts⟩,type,pos,after,guard⟩).run P w=.ok (.enter f (args.map a.eval)) w:=by
      unfold k4 at hF;split at hF
      ·rename_i fn j';simp only[ca,fr,uZ,ho]at hF;have pX:fn.body≠none:=by intro e;rw[e]at hF;simp at hF
       simp[execOp,resolve,Act.eval,Deferred.ofValue,invoke,callFunc,j',hF.1,pX]
      cases hF
     have key:nm P f gs rs->cB fS->(∀v aG aY cN,cx w0 (st.map (rq ae (10000*(dst.getD 0+1)) hW oy pR)) a aG aY cN->cM (Sat aG aY cN) (te (10000*(dst.getD 0+1)) rs) v->K (a.put dst v) aG)->
       Oper.wp P ⟨dst,.call ⟨.value (.func f),args,ts⟩,type,pos,after,guard⟩ a w K Q:=by
      intro Hi G' Gv;unfold Oper.wp;rw[eZ];simp only[Oper.upon];refine (Hi w _ _ XB (aV.tidy fun b ah=>by simp only[fK,ah])).mono ?_;rintro e aG ⟨v,rfl,kB,fe,c1,c2,eb,fR⟩;obtain⟨aY,cN,h1,U⟩:=aV.Wq (10000*(dst.getD 0+1)) bH dD ih Yw kB fe c1 c2 fR (fun h=>cellOf ((args.map a.eval).getD h.i undef) h.j)
       (fun h bI cp he=>by
        obtain⟨_,ed,g1,g2⟩:=ny h bI;rw[he]at g2;exact eb h.i h.j ed h.k h.es cp g1 g2)
       (fun h bI=>(ny h bI).1) (aj3 aV jq G')
      exact Gv v aG aY cN h1 U
     cases dst with
     | none=>
      simp only[aQ,bw]at h;obtain⟨rfl,_,rfl⟩:=h;exact key aN.1 aN.2 fun v aG aY cN h1 _=>gR _ _ ⟨aY,cN,h1⟩
     | some d=>
      simp only[aQ,bw]at h;obtain⟨rfl,_,rfl⟩:=h;exact key aN.1 aN.2 fun v aG aY cN h1 U=>gR _ _ ⟨aY,cN,h1.put U⟩
    cases h
   cases h
  cases h
 cases h
