import Derived.Test.YtdchjefneblpgaaGreatR6
set_option linter.unusedVariables false
set_option linter.unusedSimpArgs false
namespace Go.Sx
open Go.RowKit
def vy(t:Nat)(ms:hn)(k:Nat)(cr:List (List D)):aB->aB
 | .J (.own s) cp es=>if s=t then .J (.own t) k cr else if (ms.at s).isSome then .cq else .J (.own s) cp es
 | .cE (.own s) cp es i j=>if s=t then .cE (.own t) k cr i j else if (ms.at s).isSome then .cq else .cE (.own s) cp es i j
 | .J (.ro s) cp es=>if s=t then .cq else if (ms.at s).isSome then .cq else .J (.ro s) cp es
 | .cE (.ro s) cp es i j=>if s=t then .cq else if (ms.at s).isSome then .cq else .cE (.ro s) cp es i j
 | .aO s a b da dE m=>if s=t then .cq else if (ms.at s).isSome then .cq else .aO s a b da dE m
 | .fa _ _=>.cq
 | l=>l
def l2(t:Nat)(ms:hn):cV->cV
 | .tok s q=>if s=t then .tok s q else match ms.at s with | some p=>.tok t (p::q) | none=>.tok s q
 | o=>o
variable{t:Nat}{ms:hn}
theorem CL{o:cV}{id:Nat}:l2 t ms o=.box id<->o=.box id:=by
 cases o with
 | bB=>simp[l2]
 | box i=>simp[l2]
 | tok s q=>
  simp only[l2];split
  ·simp
  ·split<;>simp
theorem ako{o:cV}:l2 t ms o=.bB<->o=.bB:=by
 cases o with
 | bB=>simp[l2]
 | box i=>simp[l2]
 | tok s q=>
  simp only[l2];split
  ·simp
  ·split<;>simp
variable{i j:Nat}{ds:List D}
theorem Iu{es:List (List D)}{x:Nat}(hi:i<es.length):cY (es.set i ds) x j=if x=i then ds[j]? else cY es x j:=by
 unfold cY;rw[jR];by_cases h:i=x
 ·subst h;rw[br rfl,br hi,br rfl];rfl
 rw[bh h,bh (Ne.symm h)]
def kn(ds:List D)(off:Nat)(xs:List D):List D:=ds.take off++(xs++ds.drop (off+xs.length))
theorem Px{xs:List D}{off:Nat}(h:off+xs.length<=ds.length):(kn ds off xs)[i]?=if off<=i/\i<off+xs.length then xs[i-off]? else ds[i]?:=by
 unfold kn;rw[kD,oV,Nat.min_eq_left (by omega)];by_cases h1:i<off
 ·rw[br h1,bh (by omega),hh,br h1]
 rw[bh h1,kD];by_cases U:i-off<xs.length
 ·rw[br U,br (by omega)]
 rw[bh U,bh (by omega),gQ]
 congr 1
 omega
theorem Py{xs:List D}{off:Nat}(h:off+xs.length<=ds.length):(kn ds off xs).length=ds.length:=by
 simp[kn];omega
def Iv(t:Nat)(ms:hn):Bool:=ms.all fun x=>x.1≠t&&(match ms.at x.1 with | some p=>p.1==x.2.1&&p.2==x.2.2 | none=>false)
theorem akp(h:Iv t ms=true){s:Nat}{p:Nat×Nat}(hm:(s,p)∈ms):s≠t/\ms.at s=some p:=by
 have h1:=fA.1 h _ hm;simp only[cx,cU]at h1;refine⟨h1.1,?_⟩;have U:=h1.2;split at U
 ·rename_i q e;simp only[cx,eD]at U;rw[e,aR];exact Prod.ext U.1 U.2
 cases U
theorem Iw(i:Nat):∀(xs:List aB) (j:Nat),kB i j xs=(kB 0 j xs).map fun x=>(x.1,(i,x.2.2))
 | [],_=>rfl
 | l::ls,j=>by
  simp only[kB];split
  ·simp only[k4,q4,true_and];exact Iw i ls (j+1)
  exact Iw i ls (j+1)
theorem Pz(i s:Nat):∀ms:hn,hn.at s (ms.map fun x=>(x.1,(i,x.2.2)))=(hn.at s ms).map fun p=>(i,p.2)
 | []=>rfl
 | (a,p)::r=>by
  simp only[k4,hn.at];split
  ·rfl
  exact Pz i s r
theorem HU(i0:Nat):∀(xs:List aB) (j s:Nat) (p:Nat×Nat),(s,p)∈kB i0 j xs->p.1=i0
 | [],_,_,_,h=>by simp[kB]at h
 | l::ls,j,s,p,h=>by
  simp only[kB]at h;split at h
  ·rcases eu.1 h with h | h
   ·simp only[bx]at h;rw[h.2]
   exact HU i0 ls (j+1) s p h
  exact HU i0 ls (j+1) s p h
theorem PA{xs:List aB}(h:Iv t (kB 0 j xs)=true){s:Nat}{p:Nat×Nat}(hm:(s,p)∈kB i j xs):s≠t/\(kB i j xs).at s=some p:=by
 have hp:=HU i xs j s p hm;rw[Iw]at hm ⊢;obtain⟨⟨sl,pJ⟩,h1,U⟩:=k5.1 hm;simp only[bx]at U;obtain⟨rfl,U⟩:=U;obtain⟨aw,aH⟩:=akp h h1;refine⟨aw,?_⟩;rw[Pz,aH,<-U];rfl
def um.flat:um->Bool
 | .at_ _ _=>false
 | _=>true
def th(t:Nat):Nat->List aB->Option (List D×List Nat)
 | _,[]=>some ([],[])
 | j,.aO s a b k es m::ls=>if s=t/\b=j/\m.flat=true then (th t (j+1) ls).map fun r=>(.J k es::r.1,a::r.2) else none
 | j,l::ls=>
  match l.ig,th t (j+1) ls with
  | some d,some r=>some (d::r.1,r.2)
  | _,_=>none
theorem PB:∀{xs:List aB} {j:Nat} {ys:List D} {is:List Nat},th t j xs=some (ys,is)->ys.length=xs.length/\
  ∀(y:Nat) (d:D),ys[y]?=some d->∃l,xs[y]?=some l/\(l.ig=some d\/∃a k es m,l=.aO t a (j+y) k es m/\m.flat=true/\a∈is/\d=.J k es)
 | [],j,ys,is,h=>by
  simp only[th,aR,bx]at h;obtain⟨rfl,rfl⟩:=h;exact⟨rfl,fun y d aD=>by simp at aD⟩
 | l::ls,j,ys,is,h=>by
  have fin:∀d0 E8 Hp Cu,ys=d0::E8->is=Cu->(∀a∈Hp,a∈Cu)->th t (j+1) ls=some (E8,Hp)->(l.ig=some d0\/∃a k es m,l=.aO t a j k es m/\m.flat=true/\a∈Cu/\d0=.J k es)->ys.length=(l::ls).length/\
    ∀(y:Nat) (d:D),ys[y]?=some d->∃x,(l::ls)[y]?=some x/\(x.ig=some d\/∃a k es m,x=.aO t a (j+y) k es m/\m.flat=true/\a∈is/\d=.J k es):=by
   rintro d0 E8 Hp Cu rfl rfl iJ aA bN;obtain⟨h1,U⟩:=PB aA;refine⟨by simp[h1],fun y d aD=>?_⟩;cases y with
   | zero=>
    simp only[jS,aR]at aD;subst aD;exact⟨l,rfl,bN⟩
   | succ y=>
    obtain⟨x,ag,aw⟩:=U y d (by simpa using aD);refine⟨x,by simpa using ag,?_⟩;rcases aw with aw | ⟨a,k,es,m,aH,aU,bA,bP⟩
    ·exact .inl aw
    exact .inr ⟨a,k,es,m,by rw[aH,show j+1+y=j+(y+1) by omega],aU,iJ a bA,bP⟩
  have plain:(match l.ig,th t (j+1) ls with | some d,some r=>some (d::r.1,r.2) | _,_=>none)=some (ys,is)->ys.length=(l::ls).length/\
    ∀(y:Nat) (d:D),ys[y]?=some d->∃x,(l::ls)[y]?=some x/\(x.ig=some d\/∃a k es m,x=.aO t a (j+y) k es m/\m.flat=true/\a∈is/\d=.J k es):=by
   intro h;split at h
   ·rename_i d r e1 e2;simp only[aR,bx]at h;exact fin d r.1 r.2 r.2 h.1.symm h.2.symm (fun _ h=>h) e2 (.inl e1)
   cases h
  cases l with
  | aO s a b k es m=>
   simp only[th]at h;split at h
   ·rename_i ai;obtain⟨rfl,rfl,hm⟩:=ai;rw[b1]at h;obtain⟨⟨bM,b2⟩,e2,h⟩:=h;simp only[bx]at h;exact fin _ bM b2 (a::b2) h.1.symm h.2.symm (fun _ h=>hy _ h) e2 (.inr ⟨a,k,es,m,rfl,hm,gT,rfl⟩)
   cases h
  | _=>exact plain h
theorem CM:∀{l:List Nat},cG (l.map fun a=>a=i)->∀a∈l,a=i
 | [],_,a,h=>by cases h
 | x::l,aZ,a,h=>by
  rcases eu.1 h with rfl | h
  ·exact aZ.1
  exact CM aZ.2 a h
def HV(P:Program)(st:aI)(ty:TypeId)(t k:Nat)(es:List (List D))(i j:Nat)(q:aJ)(ans:List b9):Stepped:=
 match q.leaves,P.info? ty,ans with
 | some xs,some inf,.el ds::r=>
  match th t j xs with
  | some (ys,is)=>
   if xs.length=inf.size/\ds.length=k/\j+ys.length<=k/\Iv t (kB 0 j xs)=true then
    some (st.map (vy t (kB i j xs) k (es.set i (kn ds j ys))),r,(es[i]?=some ds)::is.map fun a=>a=i)
   else none
  | none=>none
 | _,_,_=>none
theorem cy.asT{P:Program}{w0:er}{st bp:aI}{a:Act}{w:World}{ω:Own}{τ:Nat->Nat×Value}{ty:TypeId}{k:Nat}{es:List (List D)}{q:aJ}{v y:Value}{ans cd:List b9}{obs:List Prop}
  (aV:cy w0 st a w ω τ) (hp:Sat w ω τ (.cE (.own t) k es i j) y) (aE:cL (Sat w ω τ) q v) (h:HV P st ty t k es i j q ans=some (bp,cd,obs)) (aZ:cG obs):
  ∃aN,(Instr.storeAt ty y v).run P w=.ok () aN/\Rel w0 bp a aN:=by
 unfold HV at h;split at h
 ·rename_i xs inf ds r e1 e2;split at h
  ·rename_i ys is cb;split at h
   ·rename_i ai;obtain⟨kp,kf,kq,wB⟩:=ai;simp only[aR,bx]at h;obtain⟨rfl,_,rfl⟩:=h;have ek:es[i]?=some ds:=aZ.1;obtain⟨aj,pu⟩:=aJ.wS e1 aE;obtain⟨N7,Hj⟩:=PB cb;have Xs:=CM aZ.2;obtain⟨b,off,cap,rfl,jd,aA,bJ⟩:=hp;simp only[Tag.dT]at bJ;cases aA with
    | nil=>simp at jd
    | row R k es b off cap arr hf cO us ar dM fE di gr hu aD=>
     have hM:ω b=.tok t []:=dM;obtain⟨uR,sD,tV,hB⟩:=aV.owned b (by rw[hM];simp);rw[ar]at hB;simp only[aR,Obj.cells.injEq]at hB;obtain⟨rfl,rfl,rfl⟩:=hB;have uF:b<w.heap.size:=(ik.1 ar).1;have hmul:(i+1)*k<=cap*k:=gR _ (by omega);rw[fu]at hmul;have rJ:v.cells.size=xs.length:=aj.1;have dO:off+i*k+j+v.cells.toList.length<=arr.size:=by simp;omega
     have eE:=run_storeCells_at P b (off+i*k+j) hf v.cells.toList 0 arr w ar (by simpa using dO) pu;simp only[lC]at eE;generalize mr:(arr.toList.take (off+i*k+j)++v.cells.toList++arr.toList.drop (off+i*k+j+v.cells.toList.length)).toArray=b7 at eE;have hD:∀x:Nat,b7[x]?=if off+i*k+j<=x/\x<off+i*k+j+xs.length then v.cells[x-(off+i*k+j)]? else arr[x]?:=by
      intro x;rw[<-mr,l8,zz (by simpa using dO)];simp[rJ]
     have wM:b7.size=arr.size:=by rw[<-mr];simp;simp at dO;omega
     have jc:=setRow_heap w b arr b7 hf (0,0) ar
     let ms:=kB i j xs
     let a1:Own:=fun c=>l2 t ms (ω c)
     have auo:ms.at t=none:=by
      cases e:ms.at t with
      | none=>rfl
      | some p=>
       have pq:∀(ms:hn) (p:Nat×Nat),ms.at t=some p->(t,p)∈ms:=by
        intro ms;induction ms with
        | nil=>intro p h;cases h
        | cons x ms dP=>
         intro p h;obtain⟨s,pJ⟩:=x;simp only[hn.at]at h;split at h
         ·rename_i yW;subst yW;rw[eN h];exact gT
         exact hy _ (dP p h)
       exact absurd rfl (PA wB (pq ms p e)).1
     have c8:∀c q,c<w.heap.size->ω c=.tok t q->a1 c=.tok t q:=fun c q _ h=>by simp[a1,h,l2]
     have lf:∀c p q,c<w.heap.size->ω c=.tok t (p::q)->a1 c=.tok t (p::q)/\(w.setRow b b7).heap[c]?=w.heap[c]?:=by
      intro c p q ai dU;exact⟨c8 c _ ai dU,setRow_other w b c b7 fun e=>by rw[e,hM]at dU;cases dU⟩
     have gD:∀(g:Tag) c q,g≠.own t->g≠.ro t->(∀s,g=.own s\/g=.ro s->ms.at s=none)->g.R q (ω c)->g.R q (a1 c)/\(w.setRow b b7).heap[c]?=w.heap[c]?:=by
      intro g c q h1 U aw dU;have fM:c≠b:=fun e=>by
       rw[e,hM]at dU;cases g with
       | free=>cases dU
       | own s=>simp only[Tag.R,cV.tok.injEq]at dU;exact h1 (by rw[dU.1])
       | ro s=>
        rcases dU with h | ⟨dm,h⟩
        ·cases h
        simp only[cV.tok.injEq]at h;exact U (by rw[h.1])
      refine⟨?_,setRow_other w b c b7 fM⟩;cases g with
      | free=>simp only[Tag.R]at dU ⊢;simp[a1,dU,l2]
      | own s=>
       simp only[Tag.R]at dU ⊢;simp only[a1,dU,l2];split
       ·rfl
       rw[aw s (.inl rfl)]
      | ro s=>
       simp only[Tag.R]at dU ⊢;rcases dU with h | ⟨dm,h⟩
       ·left;simp[a1,h,l2]
       right;refine⟨dm,?_⟩;simp only[a1,h,l2];split
       ·rfl
       rw[aw s (.inr rfl)]
     have NF:bV (w.setRow b b7) a1 (Tag.own t).R (.J k (es.set i (kn ds j ys))) (.slice (some ⟨b,off,none⟩) es.length cap):=by
      have hlen:(es.set i (kn ds j ys)).length=es.length:=e5;have yI:ds.length=k:=kf;have e3:∀x y d,cY (es.set i (kn ds j ys)) x y=some d->∃u,b7[off+x*k+y]?=some u/\bV (w.setRow b b7) a1 (fun q=>(Tag.own t).R ((x,y)::q)) d u:=by
       intro x y d dR;rw[Iu jd]at dR;by_cases ag:x=i
       ·subst ag;rw[br rfl,Px (by omega)]at dR;split at dR
        ·rename_i bl;obtain⟨l,jE,cZ⟩:=Hj _ _ dR;obtain⟨u,fG,eV⟩:=aj.2 _ _ jE;rcases cZ with cZ | ⟨a,b5,bO,m,rfl,hm,WD,rfl⟩
         case inr=>
          have WE:=Xs a WD;subst WE;obtain⟨hX,qn,rE,_⟩:=eV;have bE:u=hX:=by
           cases m with
           | at_ x y=>cases hm
           | here=>exact qn
           | k8=>exact qn
          subst bE;refine⟨u,?_,rE.frame fun c q ai dU=>?_⟩
          ·rw[hD,br (by omega),<-fG]
           congr 1;omega
          rw[show j+(y-j)=y by omega]at dU;exact lf c _ _ ai dU
         refine⟨u,?_,?_⟩
         ·rw[hD,br (by omega),<-fG]
          congr 1;omega
         have pq:∀s,l.tok=some s->ms.at s=some (x,y)/\s≠t:=by
          intro s db;have:=Ir x xs j (y-j) l s jE db;rw[show j+(y-j)=y by omega]at this;obtain⟨h1,U⟩:=PA wB this;exact⟨U,h1⟩
         cases l with
         | cq=>cases cZ
         | v z=>
          simp only[aB.ig]at cZ;split at cZ
          ·simp only[aR]at cZ;subst cZ;have:u=z:=eV;subst this;exact .v _ _ ‹_›
          cases cZ
         | ba c=>
          simp only[aB.ig,aR]at cZ;subst cZ;have:u=.bool c:=eV;subst this;exact .v _ _ rfl
         | ptr=>cases cZ
         | cE=>cases cZ
         | hF=>cases cZ
         | fd=>cases cZ
         | de=>cases cZ
         | gn=>cases cZ
         | aO=>cases cZ
         | fa=>cases cZ
         | J g b5 bO=>
          cases g with
          | free=>cases cZ
          | ro s=>cases cZ
          | own s=>
           simp only[aB.ig,aR]at cZ;subst cZ;obtain⟨h1,U⟩:=pq s rfl;refine eV.1.frame fun c q ai dU=>?_
           simp only[Tag.R]at dU ⊢;refine⟨?_,setRow_other w b c b7 fun e=>?_⟩
           ·simp only[a1,dU,l2];rw[bh U,h1]
           rw[e,hM]at dU;simp only[cV.tok.injEq]at dU;exact U dU.1.symm
        rename_i bl;have pg:cY es x y=some d:=by simp[cY,ek,dR]
        refine⟨us x y,?_,(aD x y d pg).frame fun c q ai dU=>lf c _ _ ai dU⟩;rw[hD,bh (by omega),hu x y d pg]
       rw[bh ag]at dR;obtain⟨fP,Yq⟩:=r0 gr dR;refine⟨us x y,?_,(aD x y d dR).frame fun c q ai dU=>lf c _ _ ai dU⟩;rw[hD,bh ?_,hu x y d dR];rcases Nat.lt_or_gt_of_ne ag with h | h
       ·have:(x+1)*k<=i*k:=gR _ h;rw[fu]at this;omega
       have:(i+1)*k<=x*k:=gR _ h;rw[fu]at this;omega
      have py:∀e∈es.set i (kn ds j ys),e.length=k:=by
       intro e he;rcases n2 he with h | rfl
       ·exact gr e h
       rw[Py (by omega)];exact yI
      have:=bV.row (w:=w.setRow b b7) (ω:=a1) (Tag.own t).R k (es.set i (kn ds j ys)) b off cap b7 hf (0,0) (fun x y=>b7.getD (off+x*k+y) undef) jc (c8 b [] uF hM) (by omega) (by omega) py
       (fun x y d dJ=>by obtain⟨u,h1,_⟩:=e3 x y d dJ;rw[h1];simp[d',h1])
       (fun x y d dJ=>by obtain⟨u,h1,U⟩:=e3 x y d dJ;have:b7.getD (off+x*k+y) undef=u:=(by simp[d',h1]);rw[this];exact U)
      rw[hlen]at this;exact this
     have ey:∀l v,Sat w ω τ l v->Sat (w.setRow b b7) a1 τ (vy t ms k (es.set i (kn ds j ys)) l) v:=by
      intro l v db;have yM:∀s,¬(ms.at s).isSome=true->ms.at s=none:=fun s h=>by
       cases e:ms.at s with
       | none=>rfl
       | some p=>simp[e]at h
      cases l with
      | cq=>exact trivial
      | v x=>exact db
      | ba c=>exact db
      | ptr id o=>
       obtain⟨c,ai,e⟩:=db;exact⟨c,CL.2 ai,e⟩
      | aO s a gm da dE m=>
       simp only[vy];split
       ·exact trivial
       rename_i h1;split
       ·exact trivial
       rename_i U;obtain⟨u,hu,kN,hm⟩:=db;have jG:∀c q,ω c=.tok s q->a1 c=.tok s q/\(w.setRow b b7).heap[c]?=w.heap[c]?:=fun c q dU=>
        gD (.own s) c q (by simpa using h1) (by simp) (fun sl h=>by
         rcases h with h | h
         ·simp only[Tag.own.injEq]at h;subst h;exact yM _ U
         cases h) dU
       refine⟨u,hu,kN.frame fun c q _ dU=>jG c _ dU,fun nq=>?_⟩;obtain⟨kT,c,pH,YD,o3,h3,ih,FG,eO,a2,a3,a4⟩:=hm nq;obtain⟨e1,e2⟩:=jG c [] a2;exact⟨kT,c,pH,YD,o3,h3,ih,FG,eO,e1,e2.trans a3,a4⟩
      | fa=>exact trivial
      | gn f ids=>
       obtain⟨bs,e,aW,hi⟩:=db;refine⟨bs,e,aW,fun i id fF=>?_⟩;obtain⟨b,h1,U⟩:=hi i id fF;exact⟨b,h1,CL.2 U⟩
      | hF rh o=>
       obtain⟨c,e,dX⟩:=db;exact⟨c,e,dX.frame fun c q _ dU=>gD .free c q (by simp) (by simp) (fun s h=>by rcases h with h | h<;>cases h) dU⟩
      | fd d=>
       exact bV.frame db fun c q _ dU=>gD .free c q (by simp) (by simp) (fun s h=>by rcases h with h | h<;>cases h) dU
      | de t2 b5 bO=>exact⟨db.1.frame fun c q _ dU=>gD .free c q (by simp) (by simp) (fun s h=>by rcases h with h | h<;>cases h) dU,db.2⟩
      | J g b5 bO=>
       cases g with
       | free=>exact⟨db.1.frame fun c q _ dU=>gD .free c q (by simp) (by simp) (fun s h=>by rcases h with h | h<;>cases h) dU,aa⟩
       | own s=>
        simp only[vy];split
        ·rename_i yW;subst yW;have U:=db.2;simp only[Tag.dT]at U;rw[bJ]at U;simp only[bx]at U;rw[<-U.2];exact⟨NF,bJ⟩
        split
        ·exact trivial
        rename_i h1 U;exact⟨db.1.frame fun c q _ dU=>gD (.own s) c q (by simpa using h1) (by simp) (fun sl h=>by
         rcases h with h | h
         ·simp only[Tag.own.injEq]at h;subst h;exact yM _ U
         cases h) dU,db.2⟩
       | ro s=>
        simp only[vy];split
        ·exact trivial
        split
        ·exact trivial
        rename_i h1 U;exact⟨db.1.frame fun c q _ dU=>gD (.ro s) c q (by simp) (by simpa using h1) (fun sl h=>by
         rcases h with h | h
         ·cases h
         simp only[Tag.ro.injEq]at h;subst h;exact yM _ U) dU,aa⟩
      | cE g b5 bO i2 sZ=>
       obtain⟨gm,pH,o3,e,jZ,kN,nq⟩:=db;cases g with
       | free=>exact⟨gm,pH,o3,e,jZ,kN.frame fun c q _ dU=>gD .free c q (by simp) (by simp) (fun s h=>by rcases h with h | h<;>cases h) dU,aa⟩
       | own s=>
        simp only[vy];split
        ·rename_i yW;subst yW;simp only[Tag.dT]at nq;rw[bJ]at nq;simp only[bx,Value.slice.injEq,aR,Addr.mk.injEq]at nq;obtain⟨rfl,⟨rfl,rfl,_⟩,cZ,rfl⟩:=nq;refine⟨b,off,cap,e,by simp;omega,?_,?_⟩
         ·rw[e5];exact NF
         rw[e5];exact bJ
        split
        ·exact trivial
        rename_i h1 U;exact⟨gm,pH,o3,e,jZ,kN.frame fun c q _ dU=>gD (.own s) c q (by simpa using h1) (by simp) (fun sl h=>by
         rcases h with h | h
         ·simp only[Tag.own.injEq]at h;subst h;exact yM _ U
         cases h) dU,nq⟩
       | ro s=>
        simp only[vy];split
        ·exact trivial
        split
        ·exact trivial
        rename_i h1 U;exact⟨gm,pH,o3,e,jZ,kN.frame fun c q _ dU=>gD (.ro s) c q (by simp) (by simpa using h1) (fun sl h=>by
         rcases h with h | h
         ·cases h
         simp only[Tag.ro.injEq]at h;subst h;exact yM _ U) dU,aa⟩
     refine⟨w.setRow b b7,?_,a1,τ,aV.ec _ ey ?_ ?_ ?_ ?_⟩
     ·simp only[Instr.storeAt,Instr.sureAddr,Sem.run_bind,Sem.run_pure,Result.andThen_ok,storeVar,sizeOf,typeInfo,run_program,e2];have GI:¬(v.cells.size≠inf.size):=by simp;omega
      rw[bh GI];exact eE
     ·exact aV.below.setRow uR b7
     ·intro c fM;have:ω c≠.bB:=fun e=>fM (ako.2 e)
      obtain⟨aw,h3,ih,aH⟩:=aV.owned c this;by_cases pf:c=b
      ·subst pf;exact⟨aw,b7,hf,jc⟩
      exact⟨aw,h3,ih,(setRow_other w b c b7 pf).trans aH⟩
     ·intro id c fM;exact⟨CL.2 fM,setRow_other w b c b7 fun e=>by rw[e,hM]at fM;cases fM⟩
     intro id c fM;exact CL.1 fM
   cases h
  cases h
 cases h
end Go.Sx
namespace Go.Sx
open Go.RowKit
def kR(w:World)(d:D)(y:Value):Prop:=bV w (fun _=>.bB) Tag.free.R d y
def uf(w:World):cF->Value->Prop
 | .one d,y=>kR w d y
 | .agg ds,y=>∃vs:Array Value,y=.agg vs/\vs.size=ds.length/\∀(i:Nat) (d:D),ds[i]?=some d->∃u,vs[i]?=some u/\kR w d u
def Dr(w:World)(fZ:List cF)(vs:Array Value):Prop:=vs.size=fZ.length/\∀(i:Nat) (ck:cF),fZ[i]?=some ck->∃v,vs[i]?=some v/\uf w ck v
def lo(w:World)(ω:Own)(r:Nat):cF->Value->Prop
 | .one d,y=>bV w ω (Tag.own (100*r)).R d y
 | .agg ds,y=>∃vs:Array Value,y=.agg vs/\vs.size=ds.length/\∀(j:Nat) (d:D),ds[j]?=some d->∃u,vs[j]?=some u/\bV w ω (Tag.own (100*r+j)).R d u
def l3(w:World)(ω:Own)(rs:List cF)(v:Value):Prop:=
 match rs with
 | [ck]=>lo w ω 0 ck v
 | rs=>∃vs:Array Value,v=.tuple vs/\vs.size=rs.length/\∀(r:Nat) (ck:cF),rs[r]?=some ck->∃y,vs[r]?=some y/\lo w ω r ck y
def wb(w0 w:World)(rs:List cF)(v:Value):Prop:=
 ∃ω:Own,(∀b,b<w0.heap.size->ω b=.bB)/\(∀b,ω b≠.bB->(∃t q,ω b=.tok t q)/\∃arr ty,w.heap[b]?=some (.cells arr ty (0,0)))/\l3 w ω rs v
def h2(P:Program)(f:FuncId)(args rs:List cF):Prop:=
 ∀(w:World) (vs:Array Value),o0 w->Dr w args vs->Calls P f vs w fun e aN=>∃v,e=.returned v/\gk w.heap.size w aN/\wb w aN rs v
def aB.f':aB->Option D
 | .v x=>if x.oneCell' then some (.v x) else none
 | .ba c=>some (.v (.bool c))
 | .J _ k es=>some (.J k es)
 | .hF ds off=>if off=0 then some (.ptr ds) else none
 | .fd d=>some d
 | .de _ k es=>some (.J k es)
 | .aO _ _ _ k es .here=>some (.J k es)
 | .aO _ _ _ k es .k8=>some (.J k es)
 | _=>none
abbrev k6:=List (Nat×List aB)
def wg(bs:k6)(id:Nat):Option D:=(dp id bs).bind fun ls=>(ls.mapM aB.f').map .ptr
def aB.jz(bs:k6):aB->Option D
 | .ptr id off=>if off=0 then wg bs id else none
 | .gn g ids=>(ids.mapM (wg bs)).map (.cl g)
 | l=>l.f'
def bu.jz(bs:k6):bu->Option cF
 | .one l=>(l.jz bs).map .one
 | .agg ls=>(ls.mapM (aB.jz bs)).map .agg
def aJ.jz(bs:k6):aJ->Option cF
 | .aK a=>a.jz bs
 | _=>none
variable{w:World}{ω:Own}{d:D}{y:Value}
theorem bV.free{R:List (Nat×Nat)->cV->Prop}(h:bV w ω R d y):kR w d y:=
 h.frame fun _ _ _ _=>⟨rfl,rfl⟩
variable{τ:Nat->Nat×Value}
theorem aB.MR{l:aB}(h:l.f'=some d)(aj:Sat w ω τ l y):kR w d y:=by
 cases l with
 | cq=>cases h
 | v x=>
  simp only[aB.f']at h;split at h
  ·simp only[aR]at h;subst h;have:y=x:=aj;subst this;exact .v _ _ ‹_›
  cases h
 | ba c=>
  simp only[aB.f',aR]at h;subst h;have:y=.bool c:=aj;subst this;exact .v _ _ rfl
 | J t k es=>simp only[aB.f',aR]at h;subst h;exact aj.1.free
 | ptr=>cases h
 | cE=>cases h
 | gn=>cases h
 | fa=>cases h
 | hF ds off=>
  simp only[aB.f']at h;split at h
  ·rename_i aZ;subst aZ;simp only[aR]at h;subst h;obtain⟨b,rfl,aA⟩:=aj;exact aA.free
  cases h
 | fd dt=>simp only[aB.f',aR]at h;subst h;exact bV.free aj
 | de t k es=>simp only[aB.f',aR]at h;subst h;exact bV.free aj.1
 | aO t i j k es m=>
  obtain⟨u,hu,aA,_⟩:=aj;cases m with
  | at_ x z=>cases h
  | here=>simp only[aB.f',aR]at h;subst h;have:y=u:=hu;subst this;exact aA.free
  | k8=>simp only[aB.f',aR]at h;subst h;have:y=u:=hu;subst this;exact aA.free
def vz(w:World)(ω:Own)(τ:Nat->Nat×Value)(bs:k6):Prop:=∀id ls,dp id bs=some ls->sw w ω τ id ls
variable{bs:k6}
theorem PC(ar:vz w ω τ bs){id b:Nat}(h:wg bs id=some d)(aZ:ω b=.box id):kR w d (ptrTo b):=by
 unfold wg at h;cases e:dp id bs with
 | none=>simp[e]at h
 | some ls=>
  simp only[e,l9,b1]at h;obtain⟨ds,h1,rfl⟩:=h;obtain⟨cW,arr,ty,dn,hu,bJ,aj⟩:=ar id ls e;have:=hu b aZ;subst this;obtain⟨U,aw⟩:=mE h1;have cell:∀j d,ds[j]?=some d->arr[j]?=some (arr.getD j undef)/\kR w d (arr.getD j undef):=by
   intro j d aD;obtain⟨l,al,cZ⟩:=aw j d aD;obtain⟨u,fG,eV⟩:=aj.2 j l al;have e2:arr.getD j undef=u:=by simp[d',fG]
   rw[e2];exact⟨fG,aB.MR cZ eV⟩
  exact bV.ptr _ ds b arr ty (0,0) (fun j=>arr.getD j undef) bJ rfl (by have:=aj.1;omega) (fun j d aD=>(cell j d aD).1) (fun j d aD=>(cell j d aD).2.frame fun _ _ _ _=>⟨rfl,rfl⟩)
theorem aB.we(ar:vz w ω τ bs){l:aB}(h:l.jz bs=some d)(aj:Sat w ω τ l y):kR w d y:=by
 unfold aB.jz at h;split at h
 ·rename_i id off;split at h
  ·rename_i aZ;subst aZ;obtain⟨b,h1,rfl⟩:=aj;exact PC ar h h1
  cases h
 ·rename_i g ids;rw[b1]at h;obtain⟨ds,h1,rfl⟩:=h;obtain⟨na,rfl,aW,hi⟩:=aj;obtain⟨U,aw⟩:=mE h1;have cell:∀j d,ds[j]?=some d->(na.map ptrTo).toArray[j]?=some ((na.map ptrTo).toArray.getD j undef)/\kR w d ((na.map ptrTo).toArray.getD j undef):=by
   intro j d aD;obtain⟨id,fF,F8⟩:=aw j d aD;obtain⟨b,fU,fL⟩:=hi j id fF;have e1:(na.map ptrTo).toArray[j]?=some (ptrTo b):=by simp[fU]
   have e2:(na.map ptrTo).toArray.getD j undef=ptrTo b:=by rw[d',e1];rfl
   rw[e2];exact⟨e1,PC ar F8 fL⟩
  exact bV.cl _ g ds _ (fun j=>(na.map ptrTo).toArray.getD j undef) (by simp;omega) (fun j d aD=>(cell j d aD).1) (fun j d aD=>(cell j d aD).2.frame fun _ _ _ _=>⟨rfl,rfl⟩)
 exact aB.MR h aj
theorem aJ.we(ar:vz w ω τ bs){p:aJ}{ck:cF}(h:p.jz bs=some ck)(aj:cL (Sat w ω τ) p y):uf w ck y:=by
 cases p with
 | fJ as=>cases h
 | aK a=>
  cases a with
  | one l=>
   simp only[aJ.jz,bu.jz,b1]at h;obtain⟨d,h1,rfl⟩:=h;exact aB.we ar h1 aj
  | agg ls=>
   simp only[aJ.jz,bu.jz,b1]at h;obtain⟨ds,h1,rfl⟩:=h;obtain⟨U,aw⟩:=mE h1;obtain⟨vs,rfl,aW,bt⟩:=aj;refine⟨vs,rfl,by omega,fun i d aD=>?_⟩;obtain⟨l,al,cZ⟩:=aw i d aD;obtain⟨u,hu,eV⟩:=bt i l al;exact⟨u,hu,aB.we ar cZ eV⟩
def iQ(P:Program)(g:FuncId):Bool:=
 match P.funcs[g]? with
 | some fn => !(fn.name == "runtime.NumGoroutine") && !fn.body.isNone
 | none=>false
def D.oK(t:Nat):D->aB
 | .v (.bool c)=>.ba c
 | .v x=>.v x
 | .J k es=>.J (.own t) k es
 | .ptr _=>.cq
 | .cl _ _=>.cq
def mF(t:Nat):Nat->List D->List aB
 | _,[]=>[]
 | j,d::ds=>d.oK (t+j)::mF t (j+1) ds
theorem zC(t:Nat):∀(ds:List D) (j i:Nat),(mF t j ds)[i]?=(ds[i]?).map (D.oK (t+(j+i)))
 | [],_,_=>by simp[mF]
 | d::ds,j,0=>by simp[mF]
 | d::ds,j,i+1=>by
  simp only[mF,mR,zC t ds (j+1) i];rw[show j+1+i=j+(i+1) by omega]
theorem w6(t:Nat):∀(ds:List D) (j:Nat),(mF t j ds).length=ds.length
 | [],_=>rfl
 | d::ds,j=>by simp[mF,w6 t ds (j+1)]
def cF.res(t:Nat):cF->bu
 | .one d=>.one (d.oK t)
 | .agg ds=>.agg (mF t 0 ds)
def pO(t:Nat):Nat->List cF->List bu
 | _,[]=>[]
 | r,a::as=>a.res (t+100*r)::pO t (r+1) as
theorem Ds(t:Nat):∀(as:List cF) (r i:Nat),(pO t r as)[i]?=(as[i]?).map (cF.res (t+100*(r+i)))
 | [],_,_=>by simp[pO]
 | d::ds,j,0=>by simp[pO]
 | d::ds,j,i+1=>by
  simp only[pO,mR,Ds t ds (j+1) i];rw[show j+1+i=j+(i+1) by omega]
theorem Dt(t:Nat):∀(as:List cF) (r:Nat),(pO t r as).length=as.length
 | [],_=>rfl
 | d::ds,j=>by simp[pO,Dt t ds (j+1)]
def sj(t:Nat):List cF->aJ
 | [a]=>.aK (a.res t)
 | as=>.fJ (pO t 0 as)
def ti(rs:List cF):Bool:=rs.length<100&&rs.all fun | .one _=>true | .agg ds=>ds.length<100
def gf(t:Nat):Tag->Option Tag
 | .free=>some .free
 | .own s=>if t<=s/\s<t+10000 then some .free else some (.own s)
 | .ro s=>if t<=s/\s<t+10000 then some .free else some (.ro s)
def nM(t:Nat):cV->cV
 | .tok s q=>if t<=s/\s<t+10000 then .bB else .tok s q
 | o=>o
def PD(t:Nat):cV->cV
 | .tok s q=>.tok (t+s) q
 | _=>.bB
def cF.cell(j:Nat):cF->Option D
 | .one d=>if j=0 then some d else none
 | .agg ds=>ds[j]?
def ph(rs:List cF)(n:Nat):Nat:=
 match (rs[n / 100]?).bind (cF.cell (n % 100)) with
 | some (.J k _)=>k
 | _=>0
def mu(rs:List cF)(v:Value)(n:Nat):Value:=
 match rs with
 | [_]=>v.cells.getD (n % 100) undef
 | _=>match v with
  | .tuple vs=>(vs.getD (n / 100) undef).cells.getD (n % 100) undef
  | _=>undef
def aI.uw(st:aI)(t:Nat):aI:=st.map (aB.ci (gf t) fun _=>true)
theorem cy.called{w0:er}{st:aI}{a:Act}{aN:World}(aV:cy w0 st a w ω τ)(t:Nat){rs:List cF}{v:Value}
  (dO:ti rs=true) (hN:t+10000<=c7) (ar:gk w.heap.size w aN) (eP:wb w aN rs v):
  ∃a1 cN,cy w0 (st.uw t) a aN a1 cN/\cL (Sat aN a1 cN) (sj t rs) v:=by
 obtain⟨e6,kp,kf,kq⟩:=eP
 let a1:Own:=fun b=>if b<w.heap.size then nM t (ω b) else PD t (e6 b)
 let cN:Nat->Nat×Value:=fun s=>if t<=s/\s<t+10000 then (ph rs (s-t),mu rs v (s-t)) else τ s
 have hold:∀b,b<w.heap.size->a1 b=nM t (ω b):=fun b ar=>by simp only[a1];rw[br ar]
 have fN:∀b,¬b<w.heap.size->a1 b=PD t (e6 b):=fun b ar=>by simp only[a1];rw[bh ar]
 have bi:k7 w ω τ aN a1 cN (gf t) (fun _=>true):=by
  refine⟨?_,?_,?_,rfl,fun s aj=>by simp only[cN];rw[bh (by omega)]⟩
  ·intro g ea b q au bz aE;refine⟨?_,ar.block b bz⟩;rw[hold b bz];cases g with
   | free=>simp only[gf,aR]at au;subst au;simp only[Tag.R]at aE ⊢;rw[aE];rfl
   | own s=>
    simp only[Tag.R]at aE;simp only[gf]at au;rw[aE];simp only[nM];split at au
    ·simp only[aR]at au;subst au;rw[br ‹_›];rfl
    simp only[aR]at au;subst au;rw[bh ‹_›];rfl
   | ro s=>
    simp only[Tag.R]at aE;simp only[gf]at au;split at au
    ·simp only[aR]at au;subst au;rcases aE with h | ⟨dm,h⟩
     ·rw[h];rfl
     rw[h];simp only[nM];rw[br ‹_›];rfl
    simp only[aR]at au;subst au;rcases aE with h | ⟨dm,h⟩
    ·rw[h];exact .inl rfl
    rw[h];simp only[nM];rw[bh ‹_›];exact .inr ⟨dm,rfl⟩
  ·intro g ea y au bl;cases g with
   | free=>simp only[gf,aR]at au;subst au;exact trivial
   | own s=>
    simp only[gf]at au;split at au
    ·simp only[aR]at au;subst au;exact trivial
    simp only[aR]at au;subst au;simp only[Tag.dT,cN]at bl ⊢;rw[bh ‹_›];exact bl
   | ro s=>
    simp only[gf]at au;split at au
    ·simp only[aR]at au;subst au;exact trivial
    simp only[aR]at au;subst au;exact trivial
  intro id b _ cn;have bz:=aV.owned.lt (b:=b) (by simp[cn]);rw[hold b bz,cn];rfl
 have cell:∀(n:Nat) (d:D) (u:Value),n<10000->mu rs v n=u->(∀k es,d=.J k es->ph rs n=k)->bV aN e6 (Tag.own n).R d u->Sat aN a1 cN (d.oK (t+n)) u:=by
  intro n d u aW bt hk aA;cases d with
  | v x=>
   have e:u=x:=by cases aA;rfl
   subst e;unfold D.oK;split
   ·rename_i h;cases h;exact rfl
   ·rename_i h;cases h;exact rfl
   ·rename_i h;cases h
   ·exact trivial
   exact trivial
  | ptr ds=>exact trivial
  | cl g bC=>exact trivial
  | J k es=>
   refine⟨aA.frame fun b q bz aE=>⟨?_,rfl⟩,?_⟩
   ·simp only[Tag.R]at aE ⊢;have:¬b<w.heap.size:=fun h=>by have:=kp b h;rw[this]at aE;cases aE
    rw[fN b this,aE];rfl
   simp only[Tag.dT,cN];rw[br (by omega),show t+n-t=n by omega,bt,hk k es rfl]
 have sF:∀(r:Nat) (ck:cF) (y:Value),r<100->(∀ds,ck=.agg ds->ds.length<100)->rs[r]?=some ck->(∀j,j<100->mu rs v (100*r+j)=y.cells.getD j undef)->lo aN e6 r ck y->jV (Sat aN a1 cN) (ck.res (t+100*r)) y:=by
  intro r ck y aA ek yU bt oh;have gr:∀j,j<100->ph rs (100*r+j)=(match cF.cell j ck with | some (.J k _)=>k | _=>0):=by
   intro j a6;unfold ph;rw[show (100*r+j) / 100=r by omega,show (100*r+j) % 100=j by omega,yU];rfl
  cases ck with
  | one d=>
   have h1:=oh.oB;have U:=bt 0 (by omega);rw[zy h1]at U;have:=cell (100*r) d y (by omega) (by simpa using U) (fun k es e=>by
    have:=gr 0 (by omega);rw[lC]at this;rw[this,e];rfl) oh
   exact this
  | agg ds=>
   obtain⟨vs,rfl,aW,a6⟩:=oh;refine⟨vs,rfl,by rw[w6];exact aW,fun j l al=>?_⟩;rw[zC,b1]at al;obtain⟨d,aD,rfl⟩:=al;obtain⟨u,hu,yV⟩:=a6 j d aD;have jD:j<100:=by
    have:=(eh.1 aD).1;have:=ek ds rfl;omega
   refine⟨u,hu,?_⟩;have:=cell (100*r+j) d u (by omega) (by rw[bt j jD];simp[Value.cells,d',hu]) (fun k es e=>by
    rw[gr j jD];simp only[cF.cell,aD,e]) yV
   rw[show t+100*r+(0+j)=t+(100*r+j) by omega];exact this
 simp only[ti,cx,cU]at dO;have ek:∀(r:Nat) (ck:cF),rs[r]?=some ck->∀ds,ck=.agg ds->ds.length<100:=by
  intro r ck aA ds e;have:=fA.1 dO.2 ck (fl aA);subst e;simpa using this
 refine⟨a1,cN,aV.ec _ bi.sat (aV.below.next ar) ?_ ?_ ?_ (fun s aj=>by simp only[cN];rw[bh (by omega)]),?_⟩
 ·intro b fD;by_cases bz:b<w.heap.size
  ·rw[hold b bz]at fD;have U:ω b≠.bB:=fun e=>by rw[e]at fD;exact fD rfl
   obtain⟨aw,arr,ty,aH⟩:=aV.owned b U;exact⟨aw,arr,ty,(ar.block b bz).trans aH⟩
  rw[fN b bz]at fD;have U:e6 b≠.bB:=fun e=>by rw[e]at fD;exact fD rfl
  obtain⟨_,arr,ty,aH⟩:=kf b U;exact⟨.inl (by have:=aV.below.size;omega),arr,ty,aH⟩
 ·intro id b cn;have bz:=aV.owned.lt (b:=b) (by simp[cn]);exact⟨bi.box id b rfl cn,ar.block b bz⟩
 ·intro id b cn;by_cases bz:b<w.heap.size
  ·rw[hold b bz]at cn;cases e:ω b with
   | bB=>rw[e]at cn;cases cn
   | box i=>rw[e]at cn;exact cn
   | tok s q=>rw[e]at cn;simp only[nM]at cn;split at cn<;>cases cn
  ·rw[fN b bz]at cn;cases e:e6 b<;>(rw[e]at cn;cases cn)
 cases rs with
 | nil=>
  obtain⟨vs,rfl,aW,_⟩:=kq;exact⟨vs,rfl,aW,fun i a ah=>by simp[pO]at ah⟩
 | cons ck rest=>
  cases rest with
  | nil=>
   have:=sF 0 ck v (by omega) (ek 0 ck rfl) rfl (fun j a6=>by
    unfold mu;simp only[Nat.mul_zero,dg];rw[Bu a6]) kq
   exact this
  | cons MQ rest=>
   obtain⟨vs,rfl,aW,bt⟩:=kq;refine⟨vs,rfl,by rw[Dt];exact aW,fun i a ah=>?_⟩;rw[Ds,b1]at ah;obtain⟨mZ,h1,rfl⟩:=ah;obtain⟨y,bl,yC⟩:=bt i mZ h1;have jd:i<100:=by
    have:=(eh.1 h1).1;omega
   refine⟨y,bl,?_⟩;have:=sF i mZ y jd (ek i mZ h1) h1 (fun j a6=>by
    unfold mu;simp only;rw[show (100*i+j) / 100=i by omega,show (100*i+j) % 100=j by omega];simp[d',bl]) yC
   rw[dg];exact this
end Go.Sx
namespace Go.Sx
open Go.RowKit
inductive eK where
 | ro (d:D)
 | e9 (k:Nat) (es:List (List D)) (post:Option (List (List D)))
inductive GA where
 | one (c:eK)
 | agg (cs:List eK)
def ff(i j:Nat):Nat:=c7+(100*i+j)
def GA.cell(j:Nat):GA->Option eK
 | .one c=>if j=0 then some c else none
 | .agg cs=>cs[j]?
def cellOf(v:Value)(j:Nat):Value:=v.cells.getD j undef
def uh(w:World)(ω:Own)(t:Nat):eK->Value->Prop
 | .ro d,y=>bV w ω Tag.free.R d y
 | .e9 k es _,y=>bV w ω (Tag.own t).R (.J k es) y
def MI(w:World)(ω:Own)(i:Nat):GA->Value->Prop
 | .one c,y=>uh w ω (ff i 0) c y
 | .agg cs,y=>∃vs:Array Value,y=.agg vs/\vs.size=cs.length/\∀(j:Nat) (c:eK),cs[j]?=some c->∃u,vs[j]?=some u/\uh w ω (ff i j) c u
def Fg(w:World)(ω:Own):Prop:=∀b,ω b≠.bB->(∃t q,ω b=.tok t q/\c7<=t)/\∃arr ty,w.heap[b]?=some (.cells arr ty (0,0))
def Ff(w:World)(ω:Own)(args:List GA)(vs:Array Value):Prop:=Fg w ω/\vs.size=args.length/\∀(i:Nat) (et:GA),args[i]?=some et->∃v,vs[i]?=some v/\MI w ω i et v
def Kept(w:World)(ω:Own)(args:List GA)(vs:Array Value):Prop:=
 ∀(i j:Nat) (et:GA) (k:Nat) (es cr:List (List D)),args[i]?=some et->et.cell j=some (.e9 k es (some cr))->bV w ω (Tag.own (ff i j)).R (.J k cr) (cellOf (vs.getD i undef) j)
def kI(P:Program)(f:FuncId)(args:List GA)(rs:List cF):Prop:=
 ∀(w:World) (vs:Array Value) (ω:Own),Ff w ω args vs->Tidy w ω->Calls P f vs w fun e aN=>∃v,e=.returned v/\gj ⟨w,fun b=>ω b≠.bB,fun _=>(0,undef)⟩ aN/\
  ∃a1:Own,(∀b,b<w.heap.size->ω b=.bB->a1 b=.bB)/\(∀b,a1 b≠.bB->(∃t q,a1 b=.tok t q)/\∃arr ty,aN.heap[b]?=some (.cells arr ty (0,0)))/\Kept aN a1 args vs/\l3 aN a1 rs v
structure dc where
 i:Nat
 j:Nat
 t:Nat
 p:Option (Nat×Nat)
 k:Nat
 es:List (List D)
 post:Option (List (List D))
abbrev oZ:=Option (Option (List (List D)))
def wi(bs:k6)(i j:Nat):oZ->aB->Option (eK×List dc×List aB)
 | none,l=>(l.jz bs).map fun d=>(.ro d,[],[l])
 | some post,.J (.own t) k es=>some (.e9 k es post,[⟨i,j,t,none,k,es,post⟩],[])
 | some post,.aO t a b k es .here=>some (.e9 k es post,[⟨i,j,t,some (a,b),k,es,post⟩],[])
 | _,_=>none
def oH(bs:k6)(i:Nat):Nat->List oZ->List aB->Option (List eK×List dc×List aB)
 | _,[],[]=>some ([],[],[])
 | j,m::ms,l::ls=>
  match wi bs i j m l,oH bs i (j+1) ms ls with
  | some (c,h,r),some (cs,aj,rs)=>some (c::cs,h++aj,r++rs)
  | _,_=>none
 | _,_,_=>none
def yb(bs:k6)(i:Nat)(ms:List oZ):aJ->Option (GA×List dc×List aB)
 | .aK (.one l)=>match ms with | [m]=>(wi bs i 0 m l).map fun r=>(.one r.1,r.2) | _=>none
 | .aK (.agg ls)=>(oH bs i 0 ms ls).map fun r=>(.agg r.1,r.2)
 | _=>none
def uu(bs:k6):Nat->List (List oZ)->List aJ->Option (List GA×List dc×List aB)
 | _,[],[]=>some ([],[],[])
 | i,ms::Hz,p::ct=>
  match yb bs i ms p,uu bs (i+1) Hz ct with
  | some (a,h,r),some (as,aj,rs)=>some (a::as,h++aj,r++rs)
  | _,_=>none
 | _,_,_=>none
def qX(aj:List dc)(t:Nat):Bool:=aj.any fun h=>h.t==t
def Tag.mA(aj:List dc):Tag->Bool
 | .free=>false
 | .own t=>qX aj t
 | .ro t=>qX aj t
def aB.ow(aj:List dc):aB->Bool
 | .J t _ _=>t.mA aj
 | .cE t _ _ _ _=>t.mA aj
 | .aO t _ _ _ _ _=>qX aj t
 | .fa _ _=>true
 | _=>false
def aB.mA(bs:k6)(aj:List dc):aB->Bool
 | .ptr id _=>match dp id bs with | some ls=>ls.any (aB.ow aj) | none=>true
 | .gn _ ids=>ids.any fun id=>match dp id bs with | some ls=>ls.any (aB.ow aj) | none=>true
 | l=>l.ow aj
def dc.apart(h y:dc):Bool:=
 (h.i != y.i||h.j != y.j)&&(h.t != y.t||match h.p,y.p with | some p,some q=>p.2 != q.2 | _,_=>false)
def nN:List dc->Bool
 | []=>true
 | h::r=>decide (h.j<100)&&(r.all (dc.apart h)&&nN r)
theorem PE:∀{aj:List dc},nN aj=true->∀h∈aj,∀y∈aj,h=y\/(dc.apart h y=true\/dc.apart y h=true)
 | [],_,h,bJ,_,_=>by cases bJ
 | x::r,hk,h,bJ,y,bl=>by
  simp only[nN,cx,fA]at hk;rcases eu.1 bJ with e1 | Nv
  ·rcases eu.1 bl with e2 | GM
   ·exact .inl (e1.trans e2.symm)
   rw[e1];exact .inr (.inl (hk.2.1 y GM))
  rcases eu.1 bl with e2 | GM
  ·rw[e2];exact .inr (.inr (hk.2.1 h Nv))
  exact PE hk.2.2 h Nv y GM
theorem PF:∀{aj:List dc},nN aj=true->∀h∈aj,h.j<100
 | [],_,h,bJ=>by cases bJ
 | x::r,hk,h,bJ=>by
  simp only[nN,cx,cU]at hk;rcases eu.1 bJ with rfl | bJ
  ·exact hk.1
  exact PF hk.2.2 h bJ
def dc.fit(h:dc)(t:Nat)(q:List (Nat×Nat)):Option (List (Nat×Nat)):=
 if h.t=t then
  match h.p,q with
  | none,q=>some q
  | some p,x::dm=>if x=p then some dm else none
  | some _,[]=>none
 else none
def mj(t:Nat)(q:List (Nat×Nat)):List dc->Option (Nat×List (Nat×Nat))
 | []=>none
 | h::r=>match h.fit t q with | some dm=>some (ff h.i h.j,dm) | none=>mj t q r
variable{h:dc}{t:Nat}{q:List (Nat×Nat)}
theorem akq{y:dc}{q1 lm:List (Nat×Nat)}(h1:h.fit t q=some q1)(U:y.fit t q=some lm):dc.apart h y=false:=by
 unfold dc.fit at h1 U;split at h1
 ·rename_i e1;split at U
  ·rename_i e2;have cb:(h.t != y.t)=false:=by simp[e1,e2]
   simp only[dc.apart,cb,jT,Bool.and_eq_false_imp];intro _;split at h1
   ·rename_i hp;rw[hp]
   ·rename_i p x dm hp;split at h1
    ·rename_i ag;split at U
     ·rename_i rC;rw[hp,rC]
     ·rename_i Ov jv auM rC heq;split at U
      ·rename_i jf;rw[hp,rC];simp only[q4]at heq;obtain⟨rfl,_⟩:=heq;subst ag;subst jf;simp
      cases U
     cases U
    cases h1
   cases h1
  cases U
 cases h1
theorem HW{t:Nat}{q dm:List (Nat×Nat)}:∀{aj:List dc},nN aj=true->∀{h:dc},h∈aj->h.fit t q=some dm->mj t q aj=some (ff h.i h.j,dm)
 | [],_,h,bJ,_=>by cases bJ
 | x::r,hk,h,bJ,bT=>by
  have Gl:=hk;simp only[nN,cx,fA]at hk;simp only[mj];rcases eu.1 bJ with rfl | bJ
  ·rw[bT]
  cases e:x.fit t q with
  | none=>exact HW hk.2.2 bJ bT
  | some lm=>
   have:=akq e bT;rw[hk.2.1 h bJ]at this;cases this
theorem zD{g:Nat}{dm:List (Nat×Nat)}:∀{aj:List dc},mj t q aj=some (g,dm)->∃h∈aj,h.fit t q=some dm/\g=ff h.i h.j
 | [],h=>by cases h
 | x::r,h=>by
  simp only[mj]at h;split at h
  ·rename_i lm e;simp only[aR,bx]at h;obtain⟨rfl,rfl⟩:=h;exact⟨x,gT,e,rfl⟩
  obtain⟨y,bl,U⟩:=zD h;exact⟨y,hy _ bl,U⟩
theorem PG{dm:List (Nat×Nat)}(e:h.fit t q=some dm):h.t=t/\q=h.p.toList++dm:=by
 unfold dc.fit at e;split at e
 ·rename_i e1;refine⟨e1,?_⟩;split at e
  ·rename_i hp;simp only[aR]at e;rw[hp,e];rfl
  ·rename_i p x lm hp;split at e
   ·rename_i ag;simp only[aR]at e;rw[hp,ag,e];rfl
   cases e
  cases e
 cases e
theorem PH(h:dc)(q:List (Nat×Nat)):h.fit h.t (h.p.toList++q)=some q:=by
 unfold dc.fit;rw[br rfl];cases h.p with
 | none=>rfl
 | some p=>simp
def fy(aj:List dc)(ω:Own):Own:=fun b=>
 match ω b with
 | .tok t q=>match mj t q aj with | some (g,dm)=>.tok g dm | none=>.bB
 | _=>.bB
def BL(g:Nat):List dc->Option dc
 | []=>none
 | h::r=>if ff h.i h.j=g then some h else BL g r
theorem OR:∀{aj:List dc},nN aj=true->∀{h:dc},h∈aj->BL (ff h.i h.j) aj=some h
 | [],_,h,bJ=>by cases bJ
 | x::r,hk,h,bJ=>by
  have a6:=PF hk;have Gl:=hk;simp only[nN,cx,fA]at hk;simp only[BL];rcases eu.1 bJ with rfl | rz
  ·rw[br rfl]
  rw[bh]
  ·exact OR hk.2.2 rz
  intro e;have h1:=a6 x gT;have U:=a6 h (hy _ rz);have aw:=hk.2.1 h rz;simp only[dc.apart,cx,n3,bne_iff_ne,hZ]at aw;simp only[ff]at e;omega
def zE(aj:List dc)(t0:Nat):cV->cV
 | .tok s q=>if c7<=s then (match BL s aj with | some h=>.tok h.t (h.p.toList++q) | none=>.bB) else .tok (t0+s) q
 | _=>.bB
def vA(t:Nat):List dc->Option dc
 | []=>none
 | h::r=>if h.t=t then some h else vA t r
theorem OS:∀{aj:List dc},vA t aj=none->qX aj t=false
 | [],_=>rfl
 | h::r,e=>by
  simp only[vA]at e;split at e
  ·cases e
  rename_i cB;have:=OS e;simp only[qX,ud,gz]at this ⊢;exact⟨by simpa using cB,this⟩
theorem OT:∀{aj:List dc},vA t aj=some h->h∈aj/\h.t=t
 | [],e=>by cases e
 | x::r,e=>by
  simp only[vA]at e;split at e
  ·simp only[aR]at e;subst e;exact⟨gT,‹_›⟩
  obtain⟨h1,U⟩:=OT e;exact⟨hy _ h1,U⟩
def l4:List dc->List D->List D
 | [],ds=>ds
 | h::r,ds=>match h.p,h.post with
  | some p,some es=>l4 r (ds.set p.2 (.J h.k es))
  | _,_=>l4 r ds
def qJ(aj:List dc)(t0 hs nB:Nat)(o6:List (List D)):aB->aB
 | .J (.own t) k es=>
  match vA t aj with
  | some h=>match h.p,h.post with
   | none,some cr=>.J (.own t) h.k cr
   | none,none=>.cq
   | some _,_=>if t=hs then .J (.own t) nB o6 else .cq
  | none=>aB.ci (gf t0) (fun _=>true) (.J (.own t) k es)
 | l=>if l.ow aj then .cq else l.ci (gf t0) fun _=>true
end Go.Sx
namespace Go.Sx
open Go.RowKit
variable{aj:List dc}
theorem akr{t:Nat}(h:qX aj t=false):∀y∈aj,y.t≠t:=by
 intro y bl e;simp only[qX,hj,eD]at h;exact h y bl e
theorem HX{t:Nat}(h:qX aj t=false)(q:List (Nat×Nat)):mj t q aj=none:=by
 cases e:mj t q aj with
 | none=>rfl
 | some x=>
  obtain⟨g,dm⟩:=x;obtain⟨y,bl,bT,_⟩:=zD e;exact absurd (PG bT).1 (akr h y bl)
structure Bz (w:World) (ω:Own) (τ:Nat->Nat×Value) (h:dc) (u:Value):Prop where
 rep:bV w ω (fun q o=>o=.tok h.t (h.p.toList++q)) (.J h.k h.es) u
 root:h.p=none->τ h.t=(h.k,u)
 cell:∀a b,h.p=some (a,b)->∃(kT cg off len cap:Nat) (arr:Array Value) (ty:TypeId) (cO:Nat×Nat),τ h.t=(kT,.slice (some ⟨cg,off,none⟩) len cap)/\ω cg=.tok h.t []/\w.heap[cg]?=some (.cells arr ty cO)/\arr[off+a*kT+b]?=some u
structure ML (w:World) (ω:Own) (τ:Nat->Nat×Value) (aj:List dc) (hs nB:Nat) (o6:List (List D)):Prop where
 ex:∀h∈aj,∀p,h.p=some p->h.t=hs->∃(dE:List (List D)) (y:Value) (ds:List D) (a:Nat),Sat w ω τ (.J (.own hs) nB dE) y/\dE[a]?=some ds/\ds.length=nB/\o6=dE.set a (l4 aj ds)/\
  ∀x∈aj,∀q,x.p=some q->x.t=hs/\q.1=a/\∃cr,x.post=some cr
theorem zF:∀(aj:List dc) (ds:List D),(l4 aj ds).length=ds.length
 | [],_=>rfl
 | h::r,ds=>by
  simp only[l4];split
  ·rw[zF r,e5]
  exact zF r ds
theorem HY{y:Nat}{d:D}:∀{aj:List dc} {ds:List D},(l4 aj ds)[y]?=some d->(∃h∈aj,∃a cr,h.p=some (a,y)/\h.post=some cr/\d=.J h.k cr)\/ds[y]?=some d/\∀h∈aj,∀a cr,h.p=some (a,y)->h.post=some cr->False
 | [],ds,h=>.inr ⟨h,fun _ bJ=>by cases bJ⟩
 | h::r,ds,aD=>by
  simp only[l4]at aD;split at aD
  ·rename_i p cr e1 e2;rcases HY aD with⟨x,ag,a,bO,h1,U,aw⟩ | ⟨h1,U⟩
   ·exact .inl ⟨x,hy _ ag,a,bO,h1,U,aw⟩
   rw[jR]at h1;split at h1
   ·rename_i hp;split at h1
    ·simp only[aR]at h1;exact .inl ⟨h,gT,p.1,cr,by rw[e1,<-hp],e2,h1.symm⟩
    cases h1
   rename_i hp;refine .inr ⟨h1,fun x ag a bO aw aH=>?_⟩;rcases eu.1 ag with rfl | ag
   ·rw[e1]at aw;simp only[aR]at aw;rw[aw]at hp;exact hp rfl
   exact U x ag a bO aw aH
  rename_i cB;rcases HY aD with⟨x,ag,a,bO,h1,U,aw⟩ | ⟨h1,U⟩
  ·exact .inl ⟨x,hy _ ag,a,bO,h1,U,aw⟩
  refine .inr ⟨h1,fun x ag a bO aw aH=>?_⟩;rcases eu.1 ag with rfl | ag
  ·exact cB _ _ aw aH
  exact U x ag a bO aw aH
theorem cy.V'{w0:er}{st:aI}{a:Act}{w aN:World}{ω:Own}{τ:Nat->Nat×Value}(aV:cy w0 st a w ω τ)(t0:Nat){rs:List cF}{v:Value}{H:Nat->Nat×Value}
  (cJ:nN aj=true) (dO:ti rs=true) (hN:t0+10000<=c7) (NP:∀h∈aj,¬(t0<=h.t/\h.t<t0+10000)) (ar:gj ⟨w,fun b=>fy aj ω b≠.bB,H⟩ aN) (e6:Own)
  (kp:∀b,b<w.heap.size->fy aj ω b=.bB->e6 b=.bB) (kf:∀b,e6 b≠.bB->(∃t q,e6 b=.tok t q)/\∃arr ty,aN.heap[b]?=some (.cells arr ty (0,0))) (kq:l3 aN e6 rs v)
  (vals:dc->Value) (Gn:∀h∈aj,∀cr,h.post=some cr->bV aN e6 (Tag.own (ff h.i h.j)).R (.J h.k cr) (vals h)) (gd:∀h∈aj,Bz w ω τ h (vals h))
  {hs nB:Nat} {o6:List (List D)} (iJ:ML w ω τ aj hs nB o6):
  ∃a1 cN,cy w0 (st.map (qJ aj t0 hs nB o6)) a aN a1 cN/\cL (Sat aN a1 cN) (sj t0 rs) v:=by
 classical
 let a1:Own:=fun b=>if b<w.heap.size/\fy aj ω b=.bB then nM t0 (ω b) else zE aj t0 (e6 b)
 let cN:Nat->Nat×Value:=fun s=>if t0<=s/\s<t0+10000 then (ph rs (s-t0),mu rs v (s-t0)) else τ s
 have hold:∀b,b<w.heap.size->fy aj ω b=.bB->a1 b=nM t0 (ω b):=fun b ar h=>by simp only[a1];rw[br ⟨ar,h⟩]
 have fN:∀b,e6 b≠.bB->a1 b=zE aj t0 (e6 b):=fun b ar=>by
  simp only[a1];rw[bh];rintro⟨h1,U⟩;exact ar (kp b h1 U)
 have hblk:∀b,b<w.heap.size->fy aj ω b=.bB->aN.heap[b]?=w.heap[b]?:=fun b bz h=>ar.block b bz (fun aW=>aW h)
 have pj:∀b,ω b=.bB->fy aj ω b=.bB:=fun b h=>by simp only[fy,h]
 have WI:∀b id,ω b=.box id->fy aj ω b=.bB:=fun b id h=>by simp only[fy,h]
 have jH:∀b s q,ω b=.tok s q->mj s q aj=none->fy aj ω b=.bB:=fun b s q h U=>by simp only[fy,h,U]
 have rN:∀h∈aj,cN h.t=τ h.t:=fun h bJ=>by simp only[cN];rw[bh (NP h bJ)]
 have fo:∀(g ea:Tag) (b:Nat) (q:List (Nat×Nat)),g.mA aj=false->gf t0 g=some ea->b<w.heap.size->g.R q (ω b)->ea.R q (a1 b)/\aN.heap[b]?=w.heap[b]?:=by
  intro g ea b q hm au bz aE;have hi:fy aj ω b=.bB:=by
   cases g with
   | free=>exact pj b aE
   | own s=>exact jH b s q aE (HX hm q)
   | ro s=>
    rcases aE with h | ⟨dm,h⟩
    ·exact pj b h
    exact jH b s dm h (HX hm dm)
  refine⟨?_,hblk b bz hi⟩;rw[hold b bz hi];cases g with
  | free=>simp only[gf,aR]at au;subst au;simp only[Tag.R]at aE ⊢;rw[aE];rfl
  | own s=>
   simp only[Tag.R]at aE;simp only[gf]at au;rw[aE];simp only[nM];split at au
   ·simp only[aR]at au;subst au;rw[br ‹_›];rfl
   simp only[aR]at au;subst au;rw[bh ‹_›];rfl
  | ro s=>
   simp only[Tag.R]at aE;simp only[gf]at au;split at au
   ·simp only[aR]at au;subst au;rcases aE with h | ⟨dm,h⟩
    ·rw[h];rfl
    rw[h];simp only[nM];rw[br ‹_›];rfl
   simp only[aR]at au;subst au;rcases aE with h | ⟨dm,h⟩
   ·rw[h];exact .inl rfl
   rw[h];simp only[nM];rw[bh ‹_›];exact .inr ⟨dm,rfl⟩
 have Hs:∀(g ea:Tag) (y:Nat×Value),gf t0 g=some ea->g.dT τ y->ea.dT cN y:=by
  intro g ea y au bl;cases g with
  | free=>simp only[gf,aR]at au;subst au;exact trivial
  | own s=>
   simp only[gf]at au;split at au
   ·simp only[aR]at au;subst au;exact trivial
   simp only[aR]at au;subst au;simp only[Tag.dT,cN]at bl ⊢;rw[bh ‹_›];exact bl
  | ro s=>
   simp only[gf]at au;split at au
   ·simp only[aR]at au;subst au;exact trivial
   simp only[aR]at au;subst au;exact trivial
 have wR:∀id b,ω b=.box id->a1 b=.box id/\aN.heap[b]?=w.heap[b]?:=by
  intro id b cn;have bz:=aV.owned.lt (b:=b) (by simp[cn]);have hi:=WI b id cn;exact⟨by rw[hold b bz hi,cn];rfl,hblk b bz hi⟩
 have Od:∀h∈aj,∀cr,h.post=some cr->bV aN a1 (fun q o=>o=.tok h.t (h.p.toList++q)) (.J h.k cr) (vals h):=by
  intro h bJ cr he;refine (Gn h bJ cr he).frame fun b q _ aE=>⟨?_,rfl⟩
  simp only[Tag.R]at aE;rw[fN b (by rw[aE];simp),aE];simp only[zE];rw[br (by simp[ff]),OR cJ bJ]
 have ey:∀l y,Sat w ω τ l y->Sat aN a1 cN (qJ aj t0 hs nB o6 l) y:=by
  intro l y db;have plain:∀g k es,g.mA aj=false->Sat w ω τ (.J g k es) y->Sat aN a1 cN (aB.ci (gf t0) (fun _=>true) (.J g k es)) y:=by
   intro g k es hm oq;simp only[aB.ci];cases au:gf t0 g with
   | none=>exact trivial
   | some ea=>exact⟨oq.1.frame fun b q bz aE=>fo g ea b q hm au bz aE,Hs g ea _ au oq.2⟩
  cases l with
  | cq=>exact trivial
  | v x=>exact db
  | ba c=>exact db
  | ptr id off=>
   obtain⟨b,h1,U⟩:=db;exact⟨b,(wR id b h1).1,U⟩
  | gn f ids=>
   obtain⟨bs,e,aW,hi⟩:=db;simp only[qJ,aB.ow,oU,lD,aB.ci];split
   ·refine⟨bs,e,aW,fun i id fF=>?_⟩;obtain⟨b,h1,U⟩:=hi i id fF;exact⟨b,h1,(wR id b U).1⟩
   exact trivial
  | hF ds off=>
   obtain⟨b,e,aA⟩:=db;exact⟨b,e,aA.frame fun b q bz aE=>fo .free .free b q rfl rfl bz aE⟩
  | fd d=>exact bV.frame db fun b q bz aE=>fo .free .free b q rfl rfl bz aE
  | de t k es=>exact⟨bV.frame db.1 fun b q bz aE=>fo .free .free b q rfl rfl bz aE,fun bQ=>(show cN t=τ t by simp only[cN];rw[bh (by omega)]).trans (db.2 bQ)⟩
  | aO t i j k es m=>
   simp only[qJ];by_cases hm:aB.ow aj (.aO t i j k es m)=true
   ·rw[br hm];exact trivial
   rw[bh hm];simp only[ub]at hm;replace hm:qX aj t=false:=hm;simp only[aB.ci];split
   ·rename_i c6 au;split
    ·rename_i bQ;subst bQ;obtain⟨hX,qn,h1,XM⟩:=db;refine⟨hX,qn,h1.frame fun c q ai aE=>fo (.own c6) _ c _ hm au ai aE,fun Xj=>?_⟩;obtain⟨kT,b,off,len,cap,arr,ty,cO,U,aU,aw,aH⟩:=XM Xj;have bz:b<w.heap.size:=(ik.1 aw).1;have hk:=fo (.own c6) _ b [] hm au bz aU;exact⟨kT,b,off,len,cap,arr,ty,cO,Hs _ _ _ au U,hk.1,hk.2.trans aw,aH⟩
    exact trivial
   exact trivial
  | fa t vs=>
   simp only[qJ,aB.ow,gy];exact trivial
  | cE g k es i j=>
   simp only[qJ];by_cases hm:aB.ow aj (.cE g k es i j)=true
   ·rw[br hm];exact trivial
   rw[bh hm];simp only[ub]at hm;replace hm:g.mA aj=false:=hm;obtain⟨b,off,cap,e,hi,aA,bJ⟩:=db;simp only[aB.ci];cases au:gf t0 g with
   | none=>exact trivial
   | some ea=>exact⟨b,off,cap,e,hi,aA.frame fun b q bz aE=>fo g ea b q hm au bz aE,Hs g ea _ au bJ⟩
  | J g k es=>
   cases g with
   | free=>exact plain .free k es rfl db
   | ro s=>
    simp only[qJ];by_cases hm:aB.ow aj (.J (.ro s) k es)=true
    ·rw[br hm];exact trivial
    rw[bh hm];simp only[ub]at hm;exact plain (.ro s) k es hm db
   | own s=>
    simp only[qJ];cases bT:vA s aj with
    | none=>exact plain (.own s) k es (OS bT) db
    | some h=>
     obtain⟨bJ,rfl⟩:=OT bT;simp only;have bt:=gd h bJ;have dT:τ h.t=(k,y):=db.2;split
     ·-- Uf whole tree,and it asO there still
      rename_i cr hp he;have e1:=bt.root hp;rw[dT]at e1;simp only[bx]at e1;obtain⟨rfl,e2⟩:=e1;have aA:=Od h bJ cr he;rw[hp,<-e2]at aA;exact⟨aA,by simp only[Tag.dT];rw[rN h bJ,dT]⟩
     ·exact trivial
     -- parts of it
     rename_i p hp;split
     ·rename_i sV;obtain⟨dE,Eu,ds,a0,wL,ek,rv,rfl,hA⟩:=iJ.ex h bJ p hp sV;have F':τ hs=(nB,Eu):=wL.2;rw[<-sV,dT]at F';simp only[bx]at F';obtain⟨rfl,rfl⟩:=F';obtain⟨rE,_⟩:=wL;have hlen:(dE.set a0 (l4 aj ds)).length=dE.length:=e5;have Nb:a0<dE.length:=(eh.1 ek).1;refine⟨?_,by simp only[Tag.dT];rw[rN h bJ,dT]⟩;generalize bl:y=ME at rE;cases rE with
      | nil=>simp at Nb
      | row R k dE cg off cap arr ty cO us F2 dM WU di hk hu aD=>
       subst bl;have B4:ω cg=.tok h.t []:=by rw[sV];exact dM
       have NI:∀x∈aj,x.fit hs []=none:=by
        intro x ag;unfold dc.fit;split
        ·rename_i ext;cases Cr:x.p with
         | some q=>simp
         | none=>
          exfalso;have cB:dc.apart h x=true\/dc.apart x h=true\/h=x:=by
           rcases PE cJ h bJ x ag with e | e | e
           ·exact .inr (.inr e)
           ·exact .inl e
           exact .inr (.inl e)
          have wA:∀y z:dc,y.t=z.t->(y.p=none\/z.p=none)->dc.apart y z=true->False:=by
           intro y z e1 e2 cb;simp only[dc.apart,e1,cx,n3,bne_self_eq_false,oU,false_or]at cb;rcases e2 with e2 | e2
           ·simp[e2]at cb
           ·rw[e2]at cb;cases hyp:y.p<;>simp[hyp]at cb
          rcases cB with e | e | e
          ·exact wA h x (by rw[ext,sV]) (.inr Cr) e
          ·exact wA x h (by rw[ext,sV]) (.inl Cr) e
          rw[<-e,hp]at Cr;cases Cr
        rfl
       have kr:mj hs [] aj=none:=by
        cases e:mj hs [] aj with
        | none=>rfl
        | some z=>
         obtain⟨g,dm⟩:=z;obtain⟨x,ag,N4,_⟩:=zD e;rw[NI x ag]at N4;cases N4
       have WG:cg<w.heap.size:=(ik.1 F2).1;have at4:fy aj ω cg=.bB:=jH cg hs [] dM kr;have XY:¬(t0<=hs/\hs<t0+10000):=by rw[<-sV];exact NP h bJ
       have NL:∀b q,b<w.heap.size->ω b=.tok hs q->mj hs q aj=none->a1 b=.tok hs q/\aN.heap[b]?=w.heap[b]?:=by
        intro b q bz aE aW;have hi:=jH b hs q aE aW;refine⟨?_,hblk b bz hi⟩;rw[hold b bz hi,aE];simp only[nM];rw[bh XY]
       have NK:∀x y d,cY dE x y=some d->(∀z∈aj,z.p≠some (x,y))->bV aN a1 (fun q=>(Tag.own hs).R ((x,y)::q)) d (us x y):=by
        intro x y d ai bf;refine (aD x y d ai).frame fun b q bz aE=>?_
        refine NL b _ bz aE ?_;cases e:mj hs ((x,y)::q) aj with
        | none=>rfl
        | some r=>
         obtain⟨g,dm⟩:=r;obtain⟨z,y8,Yt,_⟩:=zD e;obtain⟨e1,e2⟩:=PG Yt;exfalso;cases qp:z.p with
         | none=>
          have:=NI z y8;unfold dc.fit at this;rw[br e1,qp]at this;simp at this
         | some r=>
          rw[qp]at e2;simp only[Fb,List.cons_append,List.nil_append,q4]at e2;exact bf z y8 (by rw[qp,<-e2.1])
       have key:∀x y d,cY (dE.set a0 (l4 aj ds)) x y=some d->bV aN a1 (fun q=>(Tag.own hs).R ((x,y)::q)) d (us x y):=by
        intro x y d ai;by_cases ag:x=a0
        ·subst ag;have kf:(l4 aj ds)[y]?=some d:=by
          simpa[cY,jR,Nb]using ai
         rcases HY kf with⟨z,bf,eO,cr,h1,U,rfl⟩ | ⟨h1,U⟩
         ·obtain⟨e1,e2,_⟩:=hA z bf _ h1;have e2:eO=x:=e2;subst e2;obtain⟨kT,gV,auF,auz,atH,atD,auU,atW,g1,g2,g3,g4⟩:=(gd z bf).cell _ _ h1;rw[e1,<-sV,dT]at g1;simp only[bx,Value.slice.injEq,aR,Addr.mk.injEq]at g1;obtain⟨rfl,⟨rfl,rfl,_⟩,_,_⟩:=g1;rw[F2]at g3;simp only[aR,Obj.cells.injEq]at g3;obtain⟨rfl,_,_⟩:=g3;have Yp:y<ds.length:=by
           have:=(eh.1 kf).1;rwa[zF]at this
          have e3:cY dE eO y=some ds[y]:=by simp[cY,ek,Yp]
          have Yj:us eO y=vals z:=by
           have:=hu eO y _ e3;rw[g4]at this;exact (eN this).symm
          rw[Yj];have aA:=Od z bf cr U;rw[h1,e1]at aA;exact aA
         have e3:cY dE x y=some d:=by simp[cY,ek,h1]
         refine NK x y d e3 fun z bf qp=>?_
         obtain⟨_,_,cr,he⟩:=hA z bf _ qp;exact U z bf x cr qp he
        have e3:cY dE x y=some d:=by
         simp only[cY,jR]at ai;rw[bh (by omega)]at ai;exact ai
        refine NK x y d e3 fun z bf qp=>?_
        obtain⟨_,e2,_⟩:=hA z bf _ qp;exact ag e2
       have fU:=NL cg [] WG dM kr;have:=bV.row (w:=aN) (ω:=a1) (Tag.own hs).R k (dE.set a0 (l4 aj ds)) cg off cap arr ty cO us (fU.2.trans F2) fU.1 (by rw[hlen];exact WU) di
        (fun e he=>by
         rcases n2 he with dS | rfl
         ·exact hk e dS
         rw[zF];exact rv)
        (fun x y d ai=>by
         have fP:x<dE.length/\y<k:=by
          have Gl:∀e∈dE.set a0 (l4 aj ds),e.length=k:=fun e he=>by
           rcases n2 he with dS | rfl
           ·exact hk e dS
           rw[zF];exact rv
          have dS:x<(dE.set a0 (l4 aj ds)).length/\y<k:=by
           unfold cY at ai;cases sI:(dE.set a0 (l4 aj ds))[x]? with
           | none=>simp[sI]at ai
           | some row=>
            simp only[sI,l9]at ai;have hm:=Gl row (fl sI);exact⟨(eh.1 sI).1,by rw[<-hm];exact (eh.1 ai).1⟩
          rw[hlen]at dS;exact dS
         have sT:(dE[x]'fP.1).length=k:=hk _ (q3 fP.1);exact hu x y ((dE[x]'fP.1)[y]'(by omega)) (by simp[cY,fP.1,sT,fP.2]))
        key
       rw[hlen]at this;rw[sV];exact this
     exact trivial
 have cell:∀(n:Nat) (d:D) (u:Value),n<10000->mu rs v n=u->(∀k es,d=.J k es->ph rs n=k)->bV aN e6 (Tag.own n).R d u->Sat aN a1 cN (d.oK (t0+n)) u:=by
  intro n d u aW bt hk aA;cases d with
  | v x=>
   have e:u=x:=by cases aA;rfl
   subst e;unfold D.oK;split
   ·rename_i h;cases h;exact rfl
   ·rename_i h;cases h;exact rfl
   ·rename_i h;cases h
   ·exact trivial
   exact trivial
  | ptr ds=>exact trivial
  | cl g bC=>exact trivial
  | J k es=>
   refine⟨aA.frame fun b q bz aE=>⟨?_,rfl⟩,?_⟩
   ·simp only[Tag.R]at aE ⊢;rw[fN b (by rw[aE];simp),aE];simp only[zE];rw[bh (by simp only[c7];omega)]
   simp only[Tag.dT,cN];rw[br (by omega),show t0+n-t0=n by omega,bt,hk k es rfl]
 have sF:∀(r:Nat) (ck:cF) (y:Value),r<100->(∀ds,ck=.agg ds->ds.length<100)->rs[r]?=some ck->(∀j,j<100->mu rs v (100*r+j)=y.cells.getD j undef)->lo aN e6 r ck y->jV (Sat aN a1 cN) (ck.res (t0+100*r)) y:=by
  intro r ck y aA ek yU bt oh;have gr:∀j,j<100->ph rs (100*r+j)=(match cF.cell j ck with | some (.J k _)=>k | _=>0):=by
   intro j a6;unfold ph;rw[show (100*r+j) / 100=r by omega,show (100*r+j) % 100=j by omega,yU];rfl
  cases ck with
  | one d=>
   have h1:=oh.oB;have U:=bt 0 (by omega);rw[zy h1]at U;have:=cell (100*r) d y (by omega) (by simpa using U) (fun k es e=>by
    have:=gr 0 (by omega);rw[lC]at this;rw[this,e];rfl) oh
   exact this
  | agg ds=>
   obtain⟨vs,rfl,aW,a6⟩:=oh;refine⟨vs,rfl,by rw[w6];exact aW,fun j l al=>?_⟩;rw[zC,b1]at al;obtain⟨d,aD,rfl⟩:=al;obtain⟨u,hu,yV⟩:=a6 j d aD;have jD:j<100:=by
    have:=(eh.1 aD).1;have:=ek ds rfl;omega
   refine⟨u,hu,?_⟩;have:=cell (100*r+j) d u (by omega) (by rw[bt j jD];simp[Value.cells,d',hu]) (fun k es e=>by
    rw[gr j jD];simp only[cF.cell,aD,e]) yV
   rw[show t0+100*r+(0+j)=t0+(100*r+j) by omega];exact this
 simp only[ti,cx,cU]at dO;have ek:∀(r:Nat) (ck:cF),rs[r]?=some ck->∀ds,ck=.agg ds->ds.length<100:=by
  intro r ck aA ds e;have:=fA.1 dO.2 ck (fl aA);subst e;simpa using this
 have ND:∀b,ω b≠.bB->w0.Cx b:=fun b h=>(aV.owned b h).1
 have Nu:∀b,fy aj ω b≠.bB->ω b≠.bB:=fun b h e=>h (pj b e)
 refine⟨a1,cN,aV.ec _ ey ?_ ?_ (fun id b cn=>wR id b cn) ?_ (fun s aj=>by simp only[cN];rw[bh (by omega)]),?_⟩
 ·refine⟨ar.os.trans aV.below.os,ar.tape.trans aV.below.tape,ar.output.trans aV.below.output,sv aV.below.size ar.size,fun k hk au=>?_,fun aj=>sv (aV.below.drawn aj) (ar.drawn aj),ar.laid,aV.below.free⟩;have pk:k<w.heap.size:=xW hk aV.below.size;have hi:fy aj ω k=.bB:=by
   cases e:fy aj ω k with
   | bB=>rfl
   | _=>
    have:=ND k (Nu k (by rw[e];simp));rcases this with h | h
    ·omega
    exact absurd h au
  exact (hblk k pk hi).trans (aV.below.block k hk au)
 ·intro b fD;by_cases ai:b<w.heap.size/\fy aj ω b=.bB
  ·rw[hold b ai.1 ai.2]at fD;have U:ω b≠.bB:=fun e=>by rw[e]at fD;exact fD rfl
   obtain⟨aw,arr,ty,aH⟩:=aV.owned b U;exact⟨aw,arr,ty,(hblk b ai.1 ai.2).trans aH⟩
  have U:e6 b≠.bB:=fun e=>by
   simp only[a1]at fD;rw[bh ai,e]at fD;exact fD rfl
  obtain⟨_,arr,ty,aH⟩:=kf b U;refine⟨?_,arr,ty,aH⟩;rcases n4 b w.heap.size with bz | lN
  ·exact ND b (Nu b fun e=>ai ⟨bz,e⟩)
  exact .inl (by have:=aV.below.size;omega)
 ·intro id b cn;by_cases ai:b<w.heap.size/\fy aj ω b=.bB
  ·rw[hold b ai.1 ai.2]at cn;cases e:ω b with
   | bB=>rw[e]at cn;cases cn
   | box i=>rw[e]at cn;exact cn
   | tok s q=>rw[e]at cn;simp only[nM]at cn;split at cn<;>cases cn
  simp only[a1]at cn;rw[bh ai]at cn;cases e:e6 b with
  | bB=>rw[e]at cn;cases cn
  | box i=>rw[e]at cn;cases cn
  | tok s q=>
   rw[e]at cn;simp only[zE]at cn;split at cn
   ·split at cn<;>cases cn
   cases cn
 cases rs with
 | nil=>
  obtain⟨vs,rfl,aW,_⟩:=kq;exact⟨vs,rfl,aW,fun i a ah=>by simp[pO]at ah⟩
 | cons ck rest=>
  cases rest with
  | nil=>
   have:=sF 0 ck v (by omega) (ek 0 ck rfl) rfl (fun j a6=>by
    unfold mu;simp only[Nat.mul_zero,dg];rw[Bu a6]) kq
   exact this
  | cons MQ rest=>
   obtain⟨vs,rfl,aW,bt⟩:=kq;refine⟨vs,rfl,by rw[Dt];exact aW,fun i a ah=>?_⟩;rw[Ds,b1]at ah;obtain⟨mZ,h1,rfl⟩:=ah;obtain⟨y,bl,yC⟩:=bt i mZ h1;have jd:i<100:=by
    have:=(eh.1 h1).1;omega
   refine⟨y,bl,?_⟩;have:=sF i mZ y jd (ek i mZ h1) h1 (fun j a6=>by
    unfold mu;simp only;rw[show (100*i+j) / 100=i by omega,show (100*i+j) % 100=j by omega];simp[d',bl]) yC
   rw[dg];exact this
end Go.Sx
namespace Go.Sx
open Go.RowKit
variable{w:World}{ω:Own}{τ:Nat->Nat×Value}{aj:List dc}{l:aB}{d:D}{y:Value}
theorem OU(h:l.f'=some d)(hm:l.ow aj=false)(db:Sat w ω τ l y):bV w (fy aj ω) Tag.free.R d y:=by
 have pj:∀b,ω b=.bB->fy aj ω b=.bB:=fun b h=>by simp only[fy,h]
 have jH:∀b s q,ω b=.tok s q->qX aj s=false->fy aj ω b=.bB:=fun b s q h U=>by simp only[fy,h,HX U]
 have tag:∀(g:Tag) (b:Nat) (q:List (Nat×Nat)),g.mA aj=false->g.R q (ω b)->fy aj ω b=.bB:=by
  intro g b q au aE;cases g with
  | free=>exact pj b aE
  | own s=>exact jH b s q aE au
  | ro s=>
   rcases aE with h | ⟨dm,h⟩
   ·exact pj b h
   exact jH b s dm h au
 cases l with
 | cq=>cases h
 | v x=>
  simp only[aB.f']at h;split at h
  ·simp only[aR]at h;subst h;have:y=x:=db;subst this;exact .v _ _ ‹_›
  cases h
 | ba c=>
  simp only[aB.f',aR]at h;subst h;have:y=.bool c:=db;subst this;exact .v _ _ rfl
 | J t k es=>simp only[aB.f',aR]at h;subst h;exact db.1.frame fun b q _ aE=>⟨tag t b q hm aE,rfl⟩
 | ptr=>cases h
 | cE=>cases h
 | gn=>cases h
 | fa=>cases h
 | hF ds off=>
  simp only[aB.f']at h;split at h
  ·rename_i aZ;subst aZ;simp only[aR]at h;subst h;obtain⟨b,rfl,aA⟩:=db;exact aA.frame fun b q _ aE=>⟨pj b aE,rfl⟩
  cases h
 | fd dt=>simp only[aB.f',aR]at h;subst h;exact bV.frame db fun b q _ aE=>⟨pj b aE,rfl⟩
 | de t k es=>simp only[aB.f',aR]at h;subst h;exact bV.frame db.1 fun b q _ aE=>⟨pj b aE,rfl⟩
 | aO t i j k es m=>
  obtain⟨u,hu,aA,_⟩:=db;cases m with
  | at_ x z=>cases h
  | here=>simp only[aB.f',aR]at h;subst h;have:y=u:=hu;subst this;exact aA.frame fun b q _ aE=>⟨jH b t _ aE hm,rfl⟩
  | k8=>simp only[aB.f',aR]at h;subst h;have:y=u:=hu;subst this;exact aA.frame fun b q _ aE=>⟨jH b t _ aE hm,rfl⟩
variable{bs:k6}
theorem OV(ar:vz w ω τ bs){id b:Nat}(h:wg bs id=some d)(hm:(match dp id bs with | some ls=>ls.any (aB.ow aj) | none=>true)=false)(aZ:ω b=.box id):
  bV w (fy aj ω) Tag.free.R d (ptrTo b):=by
 unfold wg at h;cases e:dp id bs with
 | none=>simp[e]at h
 | some ls=>
  rw[e]at hm;simp only[hj,ub]at hm;simp only[e,l9,b1]at h;obtain⟨ds,h1,rfl⟩:=h;obtain⟨cW,arr,ty,dn,hu,bJ,db⟩:=ar id ls e;have:=hu b aZ;subst this;obtain⟨U,aw⟩:=mE h1;have cell:∀j d,ds[j]?=some d->arr[j]?=some (arr.getD j undef)/\bV w (fy aj ω) Tag.free.R d (arr.getD j undef):=by
   intro j d aD;obtain⟨l,al,cZ⟩:=aw j d aD;obtain⟨u,fG,eV⟩:=db.2 j l al;have e2:arr.getD j undef=u:=by simp[d',fG]
   rw[e2];exact⟨fG,OU cZ (hm l (fl al)) eV⟩
  exact bV.ptr _ ds b arr ty (0,0) (fun j=>arr.getD j undef) bJ (by show fy aj ω b=.bB;simp only[fy,aZ]) (by have:=db.1;omega) (fun j d aD=>(cell j d aD).1) (fun j d aD=>(cell j d aD).2.frame fun _ _ _ h=>⟨h,rfl⟩)
theorem ajS(ar:vz w ω τ bs)(h:l.jz bs=some d)(hm:l.mA bs aj=false)(db:Sat w ω τ l y):
  bV w (fy aj ω) Tag.free.R d y:=by
 unfold aB.jz at h;split at h
 ·rename_i id off;split at h
  ·rename_i aZ;subst aZ;obtain⟨b,h1,rfl⟩:=db;exact OV ar h hm h1
  cases h
 ·rename_i g ids;rw[b1]at h;obtain⟨ds,h1,rfl⟩:=h;obtain⟨na,rfl,aW,hi⟩:=db;obtain⟨U,aw⟩:=mE h1;simp only[aB.mA,hj,ub]at hm;have cell:∀j d,ds[j]?=some d->(na.map ptrTo).toArray[j]?=some ((na.map ptrTo).toArray.getD j undef)/\bV w (fy aj ω) Tag.free.R d ((na.map ptrTo).toArray.getD j undef):=by
   intro j d aD;obtain⟨id,fF,F8⟩:=aw j d aD;obtain⟨b,fU,fL⟩:=hi j id fF;have e1:(na.map ptrTo).toArray[j]?=some (ptrTo b):=by simp[fU]
   have e2:(na.map ptrTo).toArray.getD j undef=ptrTo b:=by rw[d',e1];rfl
   rw[e2];exact⟨e1,OV ar F8 (hm id (fl fF)) fL⟩
  exact bV.cl _ g ds _ (fun j=>(na.map ptrTo).toArray.getD j undef) (by simp;omega) (fun j d aD=>(cell j d aD).1) (fun j d aD=>(cell j d aD).2.frame fun _ _ _ h=>⟨h,rfl⟩)
 rename_i XN XO;have uN:l.ow aj=false:=by
  unfold aB.mA at hm;split at hm
  ·exact absurd rfl (XN _ _)
  ·exact absurd rfl (XO _ _)
  exact hm
 exact OU h uN db
structure VR (w:World) (ω:Own) (τ:Nat->Nat×Value) (aj:List dc) (i j:Nat) (c:eK) (ag:List dc) (y:Value):Prop where
 gc:uh w (fy aj ω) (ff i j) c y
 at_:∀h∈ag,h.i=i/\h.j=j/\Bz w ω τ h y/\c=.e9 h.k h.es h.post
 one:y.oneCell'=true
variable{i:Nat}
theorem HZ(cJ:nN aj=true)(ar:vz w ω τ bs){j:Nat}{m:oZ}{c:eK}{ag:List dc}{rx:List aB}
  (h:wi bs i j m l=some (c,ag,rx)) (iJ:∀x∈ag,x∈aj) (wK:∀x∈rx,x.mA bs aj=false) (db:Sat w ω τ l y):VR w ω τ aj i j c ag y:=by
 unfold wi at h;split at h
 ·rw[b1]at h;obtain⟨d,h1,h⟩:=h;simp only[bx]at h;obtain⟨rfl,rfl,rfl⟩:=h;have:=ajS ar h1 (wK _ (by simp)) db;exact⟨this,fun x ag=>by simp at ag,this.oB⟩
 ·rename_i post t k es;simp only[aR,bx]at h;obtain⟨rfl,rfl,rfl⟩:=h;have pq:=iJ _ (gT);refine⟨db.1.frame fun b q _ aE=>⟨?_,rfl⟩,fun x ag=>?_,db.1.oB⟩
  ·simp only[Tag.R]at aE ⊢;simp only[fy,aE];have:=HW (t:=t) (q:=q) (dm:=q) cJ pq (PH ⟨i,j,t,none,k,es,post⟩ q);simp only[this]
  simp only[List.mem_singleton]at ag;subst ag;exact⟨rfl,rfl,⟨db.1.frame fun b q _ aE=>⟨aE,rfl⟩,fun _=>db.2,fun a b e=>by cases e⟩,rfl⟩
 ·rename_i post t a b k es;simp only[aR,bx]at h;obtain⟨rfl,rfl,rfl⟩:=h;have pq:=iJ _ (gT);obtain⟨hX,qn,db⟩:=db;have:y=hX:=qn;subst this;refine⟨db.1.frame fun c q _ aE=>⟨?_,rfl⟩,fun x ag=>?_,db.1.oB⟩
  ·simp only[Tag.R]at aE ⊢;simp only[fy,aE];have:=HW (t:=t) (q:=(a,b)::q) (dm:=q) cJ pq (PH ⟨i,j,t,some (a,b),k,es,post⟩ q);simp only[this]
  simp only[List.mem_singleton]at ag;subst ag;refine⟨rfl,rfl,⟨db.1.frame fun b q _ aE=>⟨aE,rfl⟩,fun e=>(by cases e),fun cz cW e=>?_⟩,rfl⟩;simp only[aR,bx]at e;obtain⟨rfl,rfl⟩:=e;exact db.2 rfl
 cases h
theorem OW:∀{ms:List oZ} {ls:List aB} {j:Nat} {cs:List eK} {ag:List dc} {rx:List aB},oH bs i j ms ls=some (cs,ag,rx)->cs.length=ls.length
 | [],[],j,cs,ag,rx,h=>by simp only[oH,aR,bx]at h;obtain⟨rfl,_,_⟩:=h;rfl
 | m::ms,l::ls,j,cs,ag,rx,h=>by
  simp only[oH]at h;split at h
  ·rename_i c h1 bM MZ my xJ e1 e2;simp only[aR,bx]at h;obtain⟨rfl,_,_⟩:=h;simp[OW e2]
  cases h
 | [],_::_,j,cs,ag,rx,h=>by simp[oH]at h
 | _::_,[],j,cs,ag,rx,h=>by simp[oH]at h
theorem OX:∀{ms:List oZ} {ls:List aB} {j:Nat} {cs:List eK} {ag:List dc} {rx:List aB},oH bs i j ms ls=some (cs,ag,rx)->
  (∀(x:Nat) (c:eK),cs[x]?=some c->∃l m h1 bM,ls[x]?=some l/\wi bs i (j+x) m l=some (c,h1,bM)/\(∀z∈h1,z∈ag)/\(∀z∈bM,z∈rx))/\
  (∀h∈ag,∃(x:Nat) (c:eK) (l:aB) (m:oZ) (h1:List dc) (bM:List aB),cs[x]?=some c/\ls[x]?=some l/\wi bs i (j+x) m l=some (c,h1,bM)/\h∈h1/\(∀z∈h1,z∈ag)/\(∀z∈bM,z∈rx))
 | [],[],j,cs,ag,rx,h=>by
  simp only[oH,aR,bx]at h;obtain⟨rfl,rfl,rfl⟩:=h;exact⟨fun x c ai=>by simp at ai,fun h bJ=>by simp at bJ⟩
 | m::ms,l::ls,j,cs,ag,rx,h=>by
  simp only[oH]at h;split at h
  ·rename_i c h1 bM MZ my xJ e1 e2;simp only[aR,bx]at h;obtain⟨rfl,rfl,rfl⟩:=h;obtain⟨cT,b5⟩:=OX e2;refine⟨fun x jA ai=>?_,fun z bf=>?_⟩
   ·cases x with
    | zero=>
     simp only[jS,aR]at ai;subst ai;exact⟨l,m,h1,bM,rfl,e1,fun z bf=>hY _ bf,fun z bf=>hY _ bf⟩
    | succ x=>
     obtain⟨gu,iL,U,b2,g1,g2,g3,g4⟩:=cT x jA (by simpa using ai);exact⟨gu,iL,U,b2,by simpa using g1,by rw[show j+(x+1)=j+1+x by omega];exact g2,fun z bf=>iD _ (g3 z bf),fun z bf=>iD _ (g4 z bf)⟩
   rcases lB.1 bf with bf | bf
   ·exact⟨0,c,l,m,h1,bM,rfl,rfl,e1,bf,fun z bf=>hY _ bf,fun z bf=>hY _ bf⟩
   obtain⟨x,jA,gu,iL,U,b2,g0,g1,g2,g5,g3,g4⟩:=b5 z bf;exact⟨x+1,jA,gu,iL,U,b2,by simpa using g0,by simpa using g1,by rw[show j+(x+1)=j+1+x by omega];exact g2,g5,fun z bf=>iD _ (g3 z bf),fun z bf=>iD _ (g4 z bf)⟩
  cases h
 | [],_::_,j,cs,ag,rx,h=>by simp[oH]at h
 | _::_,[],j,cs,ag,rx,h=>by simp[oH]at h
structure VQ (w:World) (ω:Own) (τ:Nat->Nat×Value) (aj:List dc) (i:Nat) (et:GA) (ag:List dc) (y:Value):Prop where
 Wt:MI w (fy aj ω) i et y
 at_:∀h∈ag,h.i=i/\Bz w ω τ h (cellOf y h.j)/\et.cell h.j=some (.e9 h.k h.es h.post)
theorem OY(cJ:nN aj=true)(ar:vz w ω τ bs){ms:List oZ}{p:aJ}{et:GA}{ag:List dc}{rx:List aB}
  (h:yb bs i ms p=some (et,ag,rx)) (iJ:∀x∈ag,x∈aj) (wK:∀x∈rx,x.mA bs aj=false) (db:cL (Sat w ω τ) p y):VQ w ω τ aj i et ag y:=by
 unfold yb at h;split at h
 ·rename_i l;split at h
  ·rename_i m;rw[b1]at h;obtain⟨⟨c,h1,bM⟩,e,h⟩:=h;simp only[bx]at h;obtain⟨rfl,rfl,rfl⟩:=h;have:=HZ cJ ar e iJ wK db;refine⟨this.gc,fun x ag=>?_⟩;obtain⟨e1,e2,cb,ef⟩:=this.at_ x ag;have Wn:cellOf y x.j=y:=by rw[e2,cellOf,zy this.one];rfl
   rw[Wn];exact⟨e1,cb,by simp[GA.cell,e2,ef]⟩
  cases h
 ·rename_i ls;rw[b1]at h;obtain⟨⟨cs,h1,bM⟩,e,h⟩:=h;simp only[bx]at h;obtain⟨rfl,rfl,rfl⟩:=h;obtain⟨us,rfl,aW,hu⟩:=db;obtain⟨cT,b5⟩:=OX e;refine⟨⟨us,rfl,by rw[OW e];exact aW,fun x c ai=>?_⟩,fun z bf=>?_⟩
  ·obtain⟨l,m,U,b2,g1,g2,g3,g4⟩:=cT x c ai;obtain⟨u,fG,eV⟩:=hu x l g1;rw[dg]at g2;exact⟨u,fG,(HZ cJ ar g2 (fun z bf=>iJ z (g3 z bf)) (fun z bf=>wK z (g4 z bf)) eV).gc⟩
  obtain⟨x,c,l,m,U,b2,g0,g1,g2,g5,g3,g4⟩:=b5 z bf;obtain⟨u,fG,eV⟩:=hu x l g1;rw[dg]at g2;obtain⟨e1,e2,cb,ef⟩:=(HZ cJ ar g2 (fun z bf=>iJ z (g3 z bf)) (fun z bf=>wK z (g4 z bf)) eV).at_ z g5;refine⟨e1,?_,by simp only[GA.cell,e2,g0,ef]⟩;have:cellOf (.agg us) z.j=u:=by simp[cellOf,Value.cells,e2,d',fG]
  rw[this];exact cb
 cases h
theorem OZ:∀{Hz:List (List oZ)} {ct:List aJ} {i:Nat} {gs:List GA} {ag:List dc} {rx:List aB},uu bs i Hz ct=some (gs,ag,rx)->gs.length=ct.length/\
  (∀(x:Nat) (et:GA),gs[x]?=some et->∃p ms h1 bM,ct[x]?=some p/\yb bs (i+x) ms p=some (et,h1,bM)/\(∀z∈h1,z∈ag)/\(∀z∈bM,z∈rx))/\
  (∀h∈ag,∃(x:Nat) (et:GA) (p:aJ) (ms:List oZ) (h1:List dc) (bM:List aB),gs[x]?=some et/\ct[x]?=some p/\yb bs (i+x) ms p=some (et,h1,bM)/\h∈h1/\(∀z∈h1,z∈ag)/\(∀z∈bM,z∈rx))
 | [],[],i,gs,ag,rx,h=>by
  simp only[uu,aR,bx]at h;obtain⟨rfl,rfl,rfl⟩:=h;exact⟨rfl,fun x c ai=>by simp at ai,fun h bJ=>by simp at bJ⟩
 | m::ms,l::ls,i,gs,ag,rx,h=>by
  simp only[uu]at h;split at h
  ·rename_i c h1 bM MZ my xJ e1 e2;simp only[aR,bx]at h;obtain⟨rfl,rfl,rfl⟩:=h;obtain⟨da,cT,b5⟩:=OZ e2;refine⟨by simp[da],fun x jA ai=>?_,fun z bf=>?_⟩
   ·cases x with
    | zero=>
     simp only[jS,aR]at ai;subst ai;exact⟨l,m,h1,bM,rfl,e1,fun z bf=>hY _ bf,fun z bf=>hY _ bf⟩
    | succ x=>
     obtain⟨gu,iL,U,b2,g1,g2,g3,g4⟩:=cT x jA (by simpa using ai);exact⟨gu,iL,U,b2,by simpa using g1,by rw[show i+(x+1)=i+1+x by omega];exact g2,fun z bf=>iD _ (g3 z bf),fun z bf=>iD _ (g4 z bf)⟩
   rcases lB.1 bf with bf | bf
   ·exact⟨0,c,l,m,h1,bM,rfl,rfl,e1,bf,fun z bf=>hY _ bf,fun z bf=>hY _ bf⟩
   obtain⟨x,jA,gu,iL,U,b2,g0,g1,g2,g5,g3,g4⟩:=b5 z bf;exact⟨x+1,jA,gu,iL,U,b2,by simpa using g0,by simpa using g1,by rw[show i+(x+1)=i+1+x by omega];exact g2,g5,fun z bf=>iD _ (g3 z bf),fun z bf=>iD _ (g4 z bf)⟩
  cases h
 | [],_::_,i,gs,ag,rx,h=>by simp[uu]at h
 | _::_,[],i,gs,ag,rx,h=>by simp[uu]at h
def Du:List dc->Option (Nat×Nat)
 | []=>none
 | h::r=>match h.p with | some p=>some (h.t,p.1) | none=>Du r
theorem O0:∀{aj:List dc},Du aj=none->∀h∈aj,h.p=none
 | [],_,h,bJ=>by cases bJ
 | x::r,e,h,bJ=>by
  simp only[Du]at e;split at e
  ·cases e
  rename_i hp;rcases eu.1 bJ with rfl | bJ
  ·exact hp
  exact O0 e h bJ
def zG(a:Nat):List dc->List Prop
 | []=>[]
 | h::r=>match h.p with | some p=>(p.1=a)::zG a r | none=>zG a r
theorem H0{a:Nat}:∀{aj:List dc},cG (zG a aj)->∀h∈aj,∀p,h.p=some p->p.1=a
 | [],_,h,bJ,_,_=>by cases bJ
 | x::r,aZ,h,bJ,p,hp=>by
  simp only[zG]at aZ;split at aZ
  ·rename_i q aE;rcases eu.1 bJ with rfl | bJ
   ·rw[hp]at aE;rw[eN aE];exact aZ.1
   exact H0 aZ.2 h bJ p hp
  rename_i aE;rcases eu.1 bJ with rfl | bJ
  ·rw[hp]at aE;cases aE
  exact H0 aZ h bJ p hp
def H2(st:aI)(aj:List dc)(src:Nat)(ds:List D):Option (Nat×Nat×List (List D)×List Prop):=
 match Du aj with
 | none=>some (0,0,[],[])
 | some (t,a)=>
  match (st.env.getD src .cq).leaf with
  | some (.J (.own s) k es)=>
   if s=t/\ds.length=k/\aj.all (fun h=>match h.p with | some _=>h.t==t&&h.post.isSome | none=>true)=true then
    some (t,k,es.set a (l4 aj ds),(es[a]?=some ds)::zG a aj)
   else none
  | _=>none
theorem ajT{w0:er}{st:aI}{a:Act}(aV:cy w0 st a w ω τ){src:Nat}{ds:List D}{t k:Nat}{es:List (List D)}{obs:List Prop}
  (h:H2 st aj src ds=some (t,k,es,obs)) (aZ:cG obs):ML w ω τ aj t k es:=by
 unfold H2 at h;split at h
 ·rename_i aW;exact⟨fun x ag p hp _=>by rw[O0 aW x ag]at hp;cases hp⟩
 rename_i c6 cz bT;split at h
 ·rename_i s cp cr al;split at h
  ·rename_i ai;obtain⟨rfl,rv,hA⟩:=ai;simp only[aR,bx]at h;obtain⟨rfl,rfl,rfl,rfl⟩:=h;rw[fA]at hA;refine⟨fun x ag p hp _=>?_⟩;have oq:∃y,Sat w ω τ (.J (.own s) cp cr) y:=by
    rw[ii]at al;cases e:st.env[src]? with
    | none=>rw[e]at al;simp[aJ.leaf]at al
    | some p=>
     rw[e]at al;obtain⟨v,_,U⟩:=aV.env src p e;exact⟨v,aJ.dB al U⟩
   obtain⟨y,bl⟩:=oq;refine⟨cr,y,ds,cz,bl,aZ.1,rv,rfl,fun z bf q aE=>?_⟩;have h1:=hA z bf;simp only[aE,cx,eD,oS]at h1;exact⟨h1.1,H0 aZ.2 z bf q aE,h1.2⟩
  cases h
 cases h
def H3(P:Program)(st:aI)(d:Option Nat)(f:FuncId)(args:List Operand)(ans:List b9):Option (aI×List b9×List Prop):=
 match ans with
 | .qV u1 src ds rs::r=>
  match uu st.boxes 0 u1 (args.map st.bi) with
  | some (gs,aj,oL)=>
   match H2 st aj src ds with
   | some (hs,nB,o6,obs)=>
    let t0:=10000*(d.getD 0+1)
    if iQ P f=true/\ti rs=true/\t0+10000<=c7/\nN aj=true/\oL.all (fun l=>!(l.mA st.boxes aj))=true/\aj.all (fun h=>!(decide (t0<=h.t)&&decide (h.t<t0+10000)))=true then
     let bp:=st.map (qJ aj t0 hs nB o6)
     match d with
     | some d=>some (⟨bp.env.set d (sj t0 rs),bp.boxes⟩,r,kI P f gs rs::obs)
     | none=>some (bp,r,kI P f gs rs::obs)
    else none
   | none=>none
  | none=>none
 | _=>none
theorem ajU{P:Program}{w0:er}{st bp:aI}{a:Act}{dst:Option Nat}{f:FuncId}{args:Array Operand}{ts:Array TypeId}{type:TypeId}{pos:String}{after:Array Edge}{guard:Option (Nat×Bool)}{ans cd:List b9}{obs:List Prop}
  (aV:cy w0 st a w ω τ) (h:H3 P st dst f args.toList ans=some (bp,cd,obs)) (aZ:cG obs) {K:Act->World->Prop} {Q:Exit->Act->World->Prop} (gp:∀cz aN,Rel w0 bp cz aN->K cz aN):
  Oper.wp P ⟨dst,.call ⟨.value (.func f),args,ts⟩,type,pos,after,guard⟩ a w K Q:=by
 unfold H3 at h;split at h
 ·rename_i u1 src ds rs r;split at h
  ·rename_i gs aj oL lM;split at h
   ·rename_i hs nB o6 fC iJ;simp only at h;split at h
    ·rename_i ai;obtain⟨g',dO,hN,cJ,yR,wJ⟩:=ai;rw[fA]at yR wJ;have yS:∀l∈oL,l.mA st.boxes aj=false:=fun l al=>by simpa using yR l al
     have X1:∀h∈aj,¬(10000*(dst.getD 0+1)<=h.t/\h.t<10000*(dst.getD 0+1)+10000):=fun h bJ=>by
      have:=wJ h bJ;simp only[hv,Bool.and_eq_false_iff,mU]at this;omega
     obtain⟨hlen,cT,b5⟩:=OZ lM;have gd:∀(x:Nat) (p:aJ),(args.toList.map st.bi)[x]?=some p->∃v,(args.map a.eval)[x]?=some v/\cL (Sat w ω τ) p v:=by
      intro x p hp;rw[dj,b1]at hp;obtain⟨o,h1,rfl⟩:=hp;refine⟨a.eval o,?_,aV.bi o⟩;rw[xX];rw[iC]at h1;rw[h1];rfl
     have Xe:Ff w (fy aj ω) gs (args.map a.eval):=by
      refine⟨fun b ar=>?_,by simp[hlen],fun x et ag=>?_⟩
      ·have c8:ω b≠.bB:=fun e=>ar (by simp only[fy,e])
       obtain⟨_,arr,ty,aH⟩:=aV.owned b c8;refine⟨?_,arr,ty,aH⟩;simp only[fy]at ar ⊢;cases e:ω b with
       | bB=>simp[e]at ar
       | box id=>simp[e]at ar
       | tok t q=>
        simp only[e]at ar ⊢;cases e2:mj t q aj with
        | none=>simp[e2]at ar
        | some z=>
         obtain⟨g,dm⟩:=z;obtain⟨y,_,_,rfl⟩:=zD e2;exact⟨_,dm,rfl,by simp[ff]⟩
      obtain⟨p,ms,h1,bM,g1,g2,g3,g4⟩:=cT x et ag;obtain⟨v,bt,sU⟩:=gd x p g1;rw[dg]at g2;exact⟨v,bt,(OY cJ aV.boxes g2 g3 (fun z bf=>yS z (g4 z bf)) sU).Wt⟩
     have qe:∀h∈aj,Bz w ω τ h (cellOf ((args.map a.eval).getD h.i undef) h.j)/\∃et,gs[h.i]?=some et/\et.cell h.j=some (.e9 h.k h.es h.post):=by
      intro h bJ;obtain⟨x,et,p,ms,h1,bM,g0,g1,g2,g5,g3,g4⟩:=b5 h bJ;obtain⟨v,bt,sU⟩:=gd x p g1;rw[dg]at g2;obtain⟨e1,e2,cb⟩:=(OY cJ aV.boxes g2 g3 (fun z bf=>yS z (g4 z bf)) sU).at_ h g5;have bi:(args.map a.eval).getD h.i undef=v:=by rw[e1,d',bt];rfl
      rw[bi];exact⟨e2,et,by rw[e1];exact g0,cb⟩
     have eQ:(execOp a.eval ⟨dst,.call ⟨.value (.func f),args,ts⟩,type,pos,after,guard⟩).run P w=.ok (.enter f (args.map a.eval)) w:=by
      unfold iQ at g';split at g'
      ·rename_i fn kr;simp only[cx,hv,ua,hZ]at g';have rn:fn.body≠none:=by intro e;rw[e]at g';simp at g'
       simp[execOp,resolve,Act.eval,Deferred.ofValue,invoke,callFunc,kr,g'.1,rn]
      cases g'
     have key:kI P f gs rs->cG fC->(∀v aN a1 cN,cy w0 (st.map (qJ aj (10000*(dst.getD 0+1)) hs nB o6)) a aN a1 cN->cL (Sat aN a1 cN) (sj (10000*(dst.getD 0+1)) rs) v->K (a.put dst v) aN)->
       Oper.wp P ⟨dst,.call ⟨.value (.func f),args,ts⟩,type,pos,after,guard⟩ a w K Q:=by
      intro Gy Gq FX;unfold Oper.wp;rw[eQ];simp only[Oper.upon];refine (Gy w _ _ Xe (aV.tidy fun b ar=>by simp only[fy,ar])).mono ?_;rintro e aN ⟨v,rfl,ke,e6,c1,c2,cA,ed⟩;obtain⟨a1,cN,h1,U⟩:=aV.V' (10000*(dst.getD 0+1)) cJ dO hN X1 ke e6 c1 c2 ed (fun h=>cellOf ((args.map a.eval).getD h.i undef) h.j)
       (fun h bJ cr he=>by
        obtain⟨_,et,g1,g2⟩:=qe h bJ;rw[he]at g2;exact cA h.i h.j et h.k h.es cr g1 g2)
       (fun h bJ=>(qe h bJ).1) (ajT aV iJ Gq)
      exact FX v aN a1 cN h1 U
     cases dst with
     | none=>
      simp only[aR,bx]at h;obtain⟨rfl,_,rfl⟩:=h;exact key aZ.1 aZ.2 fun v aN a1 cN h1 _=>gp _ _ ⟨a1,cN,h1⟩
     | some d=>
      simp only[aR,bx]at h;obtain⟨rfl,_,rfl⟩:=h;exact key aZ.1 aZ.2 fun v aN a1 cN h1 U=>gp _ _ ⟨a1,cN,h1.put U⟩
    cases h
   cases h
  cases h
 cases h
