import Derived.Test.YtdchjefneblpgaaGreatR6
set_option linter.unusedVariables false
set_option linter.unusedSimpArgs false
namespace Go.Sx
open Go.RowKit
def wM(t:Nat)(ms:hF)(k:Nat)(cH:List (List D)):aH->aH
 | .J (.own s) cn es=>if s=t then .J (.own t) k cH else if (ms.at s).isSome then .cq else .J (.own s) cn es
 | .ep (.own s) cn es i j=>if s=t then .ep (.own t) k cH i j else if (ms.at s).isSome then .cq else .ep (.own s) cn es i j
 | .J (.ro s) cn es=>if s=t then .cq else if (ms.at s).isSome then .cq else .J (.ro s) cn es
 | .ep (.ro s) cn es i j=>if s=t then .cq else if (ms.at s).isSome then .cq else .ep (.ro s) cn es i j
 | .aO s a b dC dO m=>if s=t then .cq else if (ms.at s).isSome then .cq else .aO s a b dC dO m
 | .ft _ _=>.cq
 | l=>l
def mL(t:Nat)(ms:hF):c8->c8
 | .tok s q=>if s=t then .tok s q else match ms.at s with | some p=>.tok t (p::q) | none=>.tok s q
 | o=>o
variable{t:Nat}{ms:hF}
theorem EX{o:c8}{id:Nat}:mL t ms o=.box id<->o=.box id:=by
 cases o with
 | bO=>simp[mL]
 | box i=>simp[mL]
 | tok s q=>
  simp only[mL];split
  ·simp
  ·split<;>simp
theorem asx{o:c8}:mL t ms o=.bO<->o=.bO:=by
 cases o with
 | bO=>simp[mL]
 | box i=>simp[mL]
 | tok s q=>
  simp only[mL];split
  ·simp
  ·split<;>simp
variable{i j:Nat}{ds:List D}
theorem KK{es:List (List D)}{x:Nat}(hi:i<es.length):c9 (es.set i ds) x j=if x=i then ds[j]? else c9 es x j:=by
 unfold c9;rw[iT];by_cases h:i=x
 ·subst h;rw[bi rfl,bi hi,bi rfl];rfl
 rw[ba h,ba (Ne.symm h)]
def k0(ds:List D)(off:Nat)(xs:List D):List D:=ds.take off++(xs++ds.drop (off+xs.length))
theorem Rb{xs:List D}{off:Nat}(h:off+xs.length<=ds.length):(k0 ds off xs)[i]?=if off<=i/\i<off+xs.length then xs[i-off]? else ds[i]?:=by
 unfold k0;rw[lk,qW,Nat.min_eq_left (by omega)];by_cases h1:i<off
 ·rw[bi h1,ba (by omega),kX,bi h1]
 rw[ba h1,lk];by_cases U:i-off<xs.length
 ·rw[bi U,bi (by omega)]
 rw[ba U,ba (by omega),ky]
 congr 1
 omega
theorem R0{xs:List D}{off:Nat}(h:off+xs.length<=ds.length):(k0 ds off xs).length=ds.length:=by
 simp[k0];omega
def KL(t:Nat)(ms:hF):Bool:=ms.all fun x=>x.1≠t&&(match ms.at x.1 with | some p=>p.1==x.2.1&&p.2==x.2.2 | none=>false)
theorem asy(h:KL t ms=true){s:Nat}{p:Nat×Nat}(hm:(s,p)∈ms):s≠t/\ms.at s=some p:=by
 have h1:=fK.1 h _ hm;simp only[cm,cr]at h1;refine⟨h1.1,?_⟩;have U:=h1.2;split at U
 ·rename_i q e;simp only[cm,ed]at U;rw[e,aX];exact Prod.ext U.1 U.2
 cases U
theorem KM(i:Nat):∀(xs:List aH) (j:Nat),k' i j xs=(k' 0 j xs).map fun x=>(x.1,(i,x.2.2))
 | [],_=>rfl
 | l::ls,j=>by
  simp only[k'];split
  ·simp only[jW,sb,true_and];exact KM i ls (j+1)
  exact KM i ls (j+1)
theorem R1(i s:Nat):∀ms:hF,hF.at s (ms.map fun x=>(x.1,(i,x.2.2)))=(hF.at s ms).map fun p=>(i,p.2)
 | []=>rfl
 | (a,p)::r=>by
  simp only[jW,hF.at];split
  ·rfl
  exact R1 i s r
theorem KN(i0:Nat):∀(xs:List aH) (j s:Nat) (p:Nat×Nat),(s,p)∈k' i0 j xs->p.1=i0
 | [],_,_,_,h=>by simp[k']at h
 | l::ls,j,s,p,h=>by
  simp only[k']at h;split at h
  ·rcases ez.1 h with h | h
   ·simp only[bJ]at h;rw[h.2]
   exact KN i0 ls (j+1) s p h
  exact KN i0 ls (j+1) s p h
theorem R2{xs:List aH}(h:KL t (k' 0 j xs)=true){s:Nat}{p:Nat×Nat}(hm:(s,p)∈k' i j xs):s≠t/\(k' i j xs).at s=some p:=by
 have hp:=KN i xs j s p hm;rw[KM]at hm ⊢;obtain⟨⟨tp,qu⟩,h1,U⟩:=jX.1 hm;simp only[bJ]at U;obtain⟨rfl,U⟩:=U;obtain⟨ax,aK⟩:=asy h h1;refine⟨ax,?_⟩;rw[R1,aK,<-U];rfl
def vH.flat:vH->Bool
 | .at_ _ _=>false
 | _=>true
def uE(t:Nat):Nat->List aH->Option (List D×List Nat)
 | _,[]=>some ([],[])
 | j,.aO s a b k es m::ls=>if s=t/\b=j/\m.flat=true then (uE t (j+1) ls).map fun r=>(.J k es::r.1,a::r.2) else none
 | j,l::ls=>
  match l.iQ,uE t (j+1) ls with
  | some d,some r=>some (d::r.1,r.2)
  | _,_=>none
theorem R3:∀{xs:List aH} {j:Nat} {ys:List D} {is:List Nat},uE t j xs=some (ys,is)->ys.length=xs.length/\
  ∀(y:Nat) (d:D),ys[y]?=some d->∃l,xs[y]?=some l/\(l.iQ=some d\/∃a k es m,l=.aO t a (j+y) k es m/\m.flat=true/\a∈is/\d=.J k es)
 | [],j,ys,is,h=>by
  simp only[uE,aX,bJ]at h;obtain⟨rfl,rfl⟩:=h;exact⟨rfl,fun y d aE=>by simp at aE⟩
 | l::ls,j,ys,is,h=>by
  have fin:∀d0 G6 Jl DZ,ys=d0::G6->is=DZ->(∀a∈Jl,a∈DZ)->uE t (j+1) ls=some (G6,Jl)->(l.iQ=some d0\/∃a k es m,l=.aO t a j k es m/\m.flat=true/\a∈DZ/\d0=.J k es)->ys.length=(l::ls).length/\
    ∀(y:Nat) (d:D),ys[y]?=some d->∃x,(l::ls)[y]?=some x/\(x.iQ=some d\/∃a k es m,x=.aO t a (j+y) k es m/\m.flat=true/\a∈is/\d=.J k es):=by
   rintro d0 G6 Jl DZ rfl rfl jo aA bg;obtain⟨h1,U⟩:=R3 aA;refine⟨by simp[h1],fun y d aE=>?_⟩;cases y with
   | zero=>
    simp only[kg,aX]at aE;subst aE;exact⟨l,rfl,bg⟩
   | succ y=>
    obtain⟨x,aa,ax⟩:=U y d (by simpa using aE);refine⟨x,by simpa using aa,?_⟩;rcases ax with ax | ⟨a,k,es,m,aK,a7,bp,b6⟩
    ·exact .inl ax
    exact .inr ⟨a,k,es,m,by rw[aK,show j+1+y=j+(y+1) by omega],a7,jo a bp,b6⟩
  have plain:(match l.iQ,uE t (j+1) ls with | some d,some r=>some (d::r.1,r.2) | _,_=>none)=some (ys,is)->ys.length=(l::ls).length/\
    ∀(y:Nat) (d:D),ys[y]?=some d->∃x,(l::ls)[y]?=some x/\(x.iQ=some d\/∃a k es m,x=.aO t a (j+y) k es m/\m.flat=true/\a∈is/\d=.J k es):=by
   intro h;split at h
   ·rename_i d r e1 e2;simp only[aX,bJ]at h;exact fin d r.1 r.2 r.2 h.1.symm h.2.symm (fun _ h=>h) e2 (.inl e1)
   cases h
  cases l with
  | aO s a b k es m=>
   simp only[uE]at h;split at h
   ·rename_i ak;obtain⟨rfl,rfl,hm⟩:=ak;rw[b8]at h;obtain⟨⟨bI,b2⟩,e2,h⟩:=h;simp only[bJ]at h;exact fin _ bI b2 (a::b2) h.1.symm h.2.symm (fun _ h=>fi _ h) e2 (.inr ⟨a,k,es,m,rfl,hm,eO,rfl⟩)
   cases h
  | _=>exact plain h
theorem EY:∀{l:List Nat},cO (l.map fun a=>a=i)->∀a∈l,a=i
 | [],_,a,h=>by cases h
 | x::l,aU,a,h=>by
  rcases ez.1 h with rfl | h
  ·exact aU.1
  exact EY aU.2 a h
def KO(P:Program)(st:aF)(ty:TypeId)(t k:Nat)(es:List (List D))(i j:Nat)(q:aJ)(ans:List ci):Stepped:=
 match q.leaves,P.info? ty,ans with
 | some xs,some inf,.el ds::r=>
  match uE t j xs with
  | some (ys,is)=>
   if xs.length=inf.size/\ds.length=k/\j+ys.length<=k/\KL t (k' 0 j xs)=true then
    some (st.map (wM t (k' i j xs) k (es.set i (k0 ds j ys))),r,(es[i]?=some ds)::is.map fun a=>a=i)
   else none
  | none=>none
 | _,_,_=>none
theorem cI.axY{P:Program}{w0:eK}{st bE:aF}{a:Act}{w:World}{ω:Own}{τ:Nat->Nat×Value}{ty:TypeId}{k:Nat}{es:List (List D)}{q:aJ}{v y:Value}{ans cu:List ci}{obs:List Prop}
  (aZ:cI w0 st a w ω τ) (hp:Sat w ω τ (.ep (.own t) k es i j) y) (az:cU (Sat w ω τ) q v) (h:KO P st ty t k es i j q ans=some (bE,cu,obs)) (aU:cO obs):
  ∃aS,(Instr.storeAt ty y v).run P w=.ok () aS/\Rel w0 bE a aS:=by
 unfold KO at h;split at h
 ·rename_i xs inf ds r e1 e2;split at h
  ·rename_i ys is ck;split at h
   ·rename_i ak;obtain⟨k1,kI,k2,yj⟩:=ak;simp only[aX,bJ]at h;obtain⟨rfl,_,rfl⟩:=h;have eI:es[i]?=some ds:=aU.1;obtain⟨ai,qf⟩:=aJ.yE e1 az;obtain⟨QC,Jf⟩:=R3 ck;have abf:=EY aU.2;obtain⟨b,off,cap,rfl,jC,aA,bQ⟩:=hp;simp only[Tag.ee]at bQ;cases aA with
    | nil=>simp at jC
    | row R k es b off cap arr hB c0 us aj dT gd eT gq hu aE=>
     have h9:ω b=.tok t []:=dT;obtain⟨wh,tH,vq,iZ⟩:=aZ.owned b (by rw[h9];simp);rw[aj]at iZ;simp only[aX,Obj.cells.injEq]at iZ;obtain⟨rfl,rfl,rfl⟩:=iZ;have vS:b<w.heap.size:=(jz.1 aj).1;have hmul:(i+1)*k<=cap*k:=hq _ (by omega);rw[fA]at hmul;have wk:v.cells.size=xs.length:=ai.1;have eQ:off+i*k+j+v.cells.toList.length<=arr.size:=by simp;omega
     have e5:=run_storeCells_at P b (off+i*k+j) hB v.cells.toList 0 arr w aj (by simpa using eQ) qf;simp only[m']at e5;generalize ny:(arr.toList.take (off+i*k+j)++v.cells.toList++arr.toList.drop (off+i*k+j+v.cells.toList.length)).toArray=cf at e5;have hW:∀x:Nat,cf[x]?=if off+i*k+j<=x/\x<off+i*k+j+xs.length then v.cells[x-(off+i*k+j)]? else arr[x]?:=by
      intro x;rw[<-ny,pP,Bg (by simpa using eQ)];simp[wk]
     have yv:cf.size=arr.size:=by rw[<-ny];simp;simp at eQ;omega
     have jB:=setRow_heap w b arr cf hB (0,0) aj
     let ms:=k' i j xs
     let a':Own:=fun c=>mL t ms (ω c)
     have azq:ms.at t=none:=by
      cases e:ms.at t with
      | none=>rfl
      | some p=>
       have qe:∀(ms:hF) (p:Nat×Nat),ms.at t=some p->(t,p)∈ms:=by
        intro ms;induction ms with
        | nil=>intro p h;cases h
        | cons x ms dI=>
         intro p h;obtain⟨s,qu⟩:=x;simp only[hF.at]at h;split at h
         ·rename_i AG;subst AG;rw[eE h];exact eO
         exact fi _ (dI p h)
       exact absurd rfl (R2 yj (qe ms p e)).1
     have dr:∀c q,c<w.heap.size->ω c=.tok t q->a' c=.tok t q:=fun c q _ h=>by simp[a',h,mL]
     have lY:∀c p q,c<w.heap.size->ω c=.tok t (p::q)->a' c=.tok t (p::q)/\(w.setRow b cf).heap[c]?=w.heap[c]?:=by
      intro c p q ak eg;exact⟨dr c _ ak eg,setRow_other w b c cf fun e=>by rw[e,h9]at eg;cases eg⟩
     have gY:∀(g:Tag) c q,g≠.own t->g≠.ro t->(∀s,g=.own s\/g=.ro s->ms.at s=none)->g.R q (ω c)->g.R q (a' c)/\(w.setRow b cf).heap[c]?=w.heap[c]?:=by
      intro g c q h1 U ax eg;have gf:c≠b:=fun e=>by
       rw[e,h9]at eg;cases g with
       | free=>cases eg
       | own s=>simp only[Tag.R,c8.tok.injEq]at eg;exact h1 (by rw[eg.1])
       | ro s=>
        rcases eg with h | ⟨dD,h⟩
        ·cases h
        simp only[c8.tok.injEq]at h;exact U (by rw[h.1])
      refine⟨?_,setRow_other w b c cf gf⟩;cases g with
      | free=>simp only[Tag.R]at eg ⊢;simp[a',eg,mL]
      | own s=>
       simp only[Tag.R]at eg ⊢;simp only[a',eg,mL];split
       ·rfl
       rw[ax s (.inl rfl)]
      | ro s=>
       simp only[Tag.R]at eg ⊢;rcases eg with h | ⟨dD,h⟩
       ·left;simp[a',h,mL]
       right;refine⟨dD,?_⟩;simp only[a',h,mL];split
       ·rfl
       rw[ax s (.inr rfl)]
     have Qg:b7 (w.setRow b cf) a' (Tag.own t).R (.J k (es.set i (k0 ds j ys))) (.slice (some ⟨b,off,none⟩) es.length cap):=by
      have hlen:(es.set i (k0 ds j ys)).length=es.length:=e8;have Ax:ds.length=k:=kI;have fa:∀x y d,c9 (es.set i (k0 ds j ys)) x y=some d->∃u,cf[off+x*k+y]?=some u/\b7 (w.setRow b cf) a' (fun q=>(Tag.own t).R ((x,y)::q)) d u:=by
       intro x y d eb;rw[KK jC]at eb;by_cases aa:x=i
       ·subst aa;rw[bi rfl,Rb (by omega)]at eb;split at eb
        ·rename_i bu;obtain⟨l,sL,dq⟩:=Jf _ _ eb;obtain⟨u,fV,fk⟩:=ai.2 _ _ sL;rcases dq with dq | ⟨a,cg,bX,m,rfl,hm,aat,rfl⟩
         case inr=>
          have aau:=abf a aat;subst aau;obtain⟨hQ,rm,qi,_⟩:=fk;have bM:u=hQ:=by
           cases m with
           | at_ x y=>cases hm
           | here=>exact rm
           | lU=>exact rm
          subst bM;refine⟨u,?_,qi.frame fun c q ak eg=>?_⟩
          ·rw[hW,bi (by omega),<-fV]
           congr 1;omega
          rw[show j+(y-j)=y by omega]at eg;exact lY c _ _ ak eg
         refine⟨u,?_,?_⟩
         ·rw[hW,bi (by omega),<-fV]
          congr 1;omega
         have qe:∀s,l.tok=some s->ms.at s=some (x,y)/\s≠t:=by
          intro s dg;have:=KI x xs j (y-j) l s sL dg;rw[show j+(y-j)=y by omega]at this;obtain⟨h1,U⟩:=R2 yj this;exact⟨U,h1⟩
         cases l with
         | cq=>cases dq
         | v z=>
          simp only[aH.iQ]at dq;split at dq
          ·simp only[aX]at dq;subst dq;have:u=z:=fk;subst this;exact .v _ _ ‹_›
          cases dq
         | bc c=>
          simp only[aH.iQ,aX]at dq;subst dq;have:u=.bool c:=fk;subst this;exact .v _ _ rfl
         | ptr=>cases dq
         | ep=>cases dq
         | h0=>cases dq
         | fd=>cases dq
         | dx=>cases dq
         | gP=>cases dq
         | aO=>cases dq
         | ft=>cases dq
         | J g cg bX=>
          cases g with
          | free=>cases dq
          | ro s=>cases dq
          | own s=>
           simp only[aH.iQ,aX]at dq;subst dq;obtain⟨h1,U⟩:=qe s rfl;refine fk.1.frame fun c q ak eg=>?_
           simp only[Tag.R]at eg ⊢;refine⟨?_,setRow_other w b c cf fun e=>?_⟩
           ·simp only[a',eg,mL];rw[ba U,h1]
           rw[e,h9]at eg;simp only[c8.tok.injEq]at eg;exact U eg.1.symm
        rename_i bu;have p9:c9 es x y=some d:=by simp[c9,eI,eb]
        refine⟨us x y,?_,(aE x y d p9).frame fun c q ak eg=>lY c _ _ ak eg⟩;rw[hW,ba (by omega),hu x y d p9]
       rw[ba aa]at eb;obtain⟨pg,acm⟩:=s7 gq eb;refine⟨us x y,?_,(aE x y d eb).frame fun c q ak eg=>lY c _ _ ak eg⟩;rw[hW,ba ?_,hu x y d eb];rcases Nat.lt_or_gt_of_ne aa with h | h
       ·have:(x+1)*k<=i*k:=hq _ h;rw[fA]at this;omega
       have:(i+1)*k<=x*k:=hq _ h;rw[fA]at this;omega
      have qj:∀e∈es.set i (k0 ds j ys),e.length=k:=by
       intro e he;rcases hb he with h | rfl
       ·exact gq e h
       rw[R0 (by omega)];exact Ax
      have:=b7.row (w:=w.setRow b cf) (ω:=a') (Tag.own t).R k (es.set i (k0 ds j ys)) b off cap cf hB (0,0) (fun x y=>cf.getD (off+x*k+y) undef) jB (dr b [] vS h9) (by omega) (by omega) qj
       (fun x y d dP=>by obtain⟨u,h1,_⟩:=fa x y d dP;rw[h1];simp[ew,h1])
       (fun x y d dP=>by obtain⟨u,h1,U⟩:=fa x y d dP;have:cf.getD (off+x*k+y) undef=u:=(by simp[ew,h1]);rw[this];exact U)
      rw[hlen]at this;exact this
     have eS:∀l v,Sat w ω τ l v->Sat (w.setRow b cf) a' τ (wM t ms k (es.set i (k0 ds j ys)) l) v:=by
      intro l v dg;have v8:∀s,¬(ms.at s).isSome=true->ms.at s=none:=fun s h=>by
       cases e:ms.at s with
       | none=>rfl
       | some p=>simp[e]at h
      cases l with
      | cq=>exact trivial
      | v x=>exact dg
      | bc c=>exact dg
      | ptr id o=>
       obtain⟨c,ak,e⟩:=dg;exact⟨c,EX.2 ak,e⟩
      | aO s a eX dC dO m=>
       simp only[wM];split
       ·exact trivial
       rename_i h1;split
       ·exact trivial
       rename_i U;obtain⟨u,hu,lx,hm⟩:=dg;have j9:∀c q,ω c=.tok s q->a' c=.tok s q/\(w.setRow b cf).heap[c]?=w.heap[c]?:=fun c q eg=>
        gY (.own s) c q (by simpa using h1) (by simp) (fun tp h=>by
         rcases h with h | h
         ·simp only[Tag.own.injEq]at h;subst h;exact v8 _ U
         cases h) eg
       refine⟨u,hu,lx.frame fun c q _ eg=>j9 c _ eg,fun oj=>?_⟩;obtain⟨kT,c,qs,D2,pW,ix,iR,HE,ej,a2,a3,a4⟩:=hm oj;obtain⟨e1,e2⟩:=j9 c [] a2;exact⟨kT,c,qs,D2,pW,ix,iR,HE,ej,e1,e2.trans a3,a4⟩
      | ft=>exact trivial
      | gP f ids=>
       obtain⟨bs,e,aR,hi⟩:=dg;refine⟨bs,e,aR,fun i id fT=>?_⟩;obtain⟨b,h1,U⟩:=hi i id fT;exact⟨b,h1,EX.2 U⟩
      | h0 sr o=>
       obtain⟨c,e,eo⟩:=dg;exact⟨c,e,eo.frame fun c q _ eg=>gY .free c q (by simp) (by simp) (fun s h=>by rcases h with h | h<;>cases h) eg⟩
      | fd d=>
       exact b7.frame dg fun c q _ eg=>gY .free c q (by simp) (by simp) (fun s h=>by rcases h with h | h<;>cases h) eg
      | dx t2 cg bX=>exact⟨dg.1.frame fun c q _ eg=>gY .free c q (by simp) (by simp) (fun s h=>by rcases h with h | h<;>cases h) eg,dg.2⟩
      | J g cg bX=>
       cases g with
       | free=>exact⟨dg.1.frame fun c q _ eg=>gY .free c q (by simp) (by simp) (fun s h=>by rcases h with h | h<;>cases h) eg,ad⟩
       | own s=>
        simp only[wM];split
        ·rename_i AG;subst AG;have U:=dg.2;simp only[Tag.ee]at U;rw[bQ]at U;simp only[bJ]at U;rw[<-U.2];exact⟨Qg,bQ⟩
        split
        ·exact trivial
        rename_i h1 U;exact⟨dg.1.frame fun c q _ eg=>gY (.own s) c q (by simpa using h1) (by simp) (fun tp h=>by
         rcases h with h | h
         ·simp only[Tag.own.injEq]at h;subst h;exact v8 _ U
         cases h) eg,dg.2⟩
       | ro s=>
        simp only[wM];split
        ·exact trivial
        split
        ·exact trivial
        rename_i h1 U;exact⟨dg.1.frame fun c q _ eg=>gY (.ro s) c q (by simp) (by simpa using h1) (fun tp h=>by
         rcases h with h | h
         ·cases h
         simp only[Tag.ro.injEq]at h;subst h;exact v8 _ U) eg,ad⟩
      | ep g cg bX i2 lB=>
       obtain⟨eX,qs,pW,e,kn,lx,oj⟩:=dg;cases g with
       | free=>exact⟨eX,qs,pW,e,kn,lx.frame fun c q _ eg=>gY .free c q (by simp) (by simp) (fun s h=>by rcases h with h | h<;>cases h) eg,ad⟩
       | own s=>
        simp only[wM];split
        ·rename_i AG;subst AG;simp only[Tag.ee]at oj;rw[bQ]at oj;simp only[bJ,Value.slice.injEq,aX,Addr.mk.injEq]at oj;obtain⟨rfl,⟨rfl,rfl,_⟩,dq,rfl⟩:=oj;refine⟨b,off,cap,e,by simp;omega,?_,?_⟩
         ·rw[e8];exact Qg
         rw[e8];exact bQ
        split
        ·exact trivial
        rename_i h1 U;exact⟨eX,qs,pW,e,kn,lx.frame fun c q _ eg=>gY (.own s) c q (by simpa using h1) (by simp) (fun tp h=>by
         rcases h with h | h
         ·simp only[Tag.own.injEq]at h;subst h;exact v8 _ U
         cases h) eg,oj⟩
       | ro s=>
        simp only[wM];split
        ·exact trivial
        split
        ·exact trivial
        rename_i h1 U;exact⟨eX,qs,pW,e,kn,lx.frame fun c q _ eg=>gY (.ro s) c q (by simp) (by simpa using h1) (fun tp h=>by
         rcases h with h | h
         ·cases h
         simp only[Tag.ro.injEq]at h;subst h;exact v8 _ U) eg,ad⟩
     refine⟨w.setRow b cf,?_,a',τ,aZ.di _ eS ?_ ?_ ?_ ?_⟩
     ·simp only[Instr.storeAt,Instr.sureAddr,Sem.run_bind,Sem.run_pure,Result.andThen_ok,storeVar,sizeOf,typeInfo,run_program,e2];have IE:¬(v.cells.size≠inf.size):=by simp;omega
      rw[ba IE];exact e5
     ·exact aZ.below.setRow wh cf
     ·intro c gf;have:ω c≠.bO:=fun e=>gf (asx.2 e)
      obtain⟨ax,ix,iR,aK⟩:=aZ.owned c this;by_cases p8:c=b
      ·subst p8;exact⟨ax,cf,hB,jB⟩
      exact⟨ax,ix,iR,(setRow_other w b c cf p8).trans aK⟩
     ·intro id c gf;exact⟨EX.2 gf,setRow_other w b c cf fun e=>by rw[e,h9]at gf;cases gf⟩
     intro id c gf;exact EX.1 gf
   cases h
  cases h
 cases h
end Go.Sx
namespace Go.Sx
open Go.RowKit
def lD(w:World)(d:D)(y:Value):Prop:=b7 w (fun _=>.bO) Tag.free.R d y
def vB(w:World):cQ->Value->Prop
 | .one d,y=>lD w d y
 | .agg ds,y=>∃vs:Array Value,y=.agg vs/\vs.size=ds.length/\∀(i:Nat) (d:D),ds[i]?=some d->∃u,vs[i]?=some u/\lD w d u
def EZ(w:World)(gz:List cQ)(vs:Array Value):Prop:=vs.size=gz.length/\∀(i:Nat) (cB:cQ),gz[i]?=some cB->∃v,vs[i]?=some v/\vB w cB v
def mi(w:World)(ω:Own)(r:Nat):cQ->Value->Prop
 | .one d,y=>b7 w ω (Tag.own (100*r)).R d y
 | .agg ds,y=>∃vs:Array Value,y=.agg vs/\vs.size=ds.length/\∀(j:Nat) (d:D),ds[j]?=some d->∃u,vs[j]?=some u/\b7 w ω (Tag.own (100*r+j)).R d u
def nO(w:World)(ω:Own)(rs:List cQ)(v:Value):Prop:=
 match rs with
 | [cB]=>mi w ω 0 cB v
 | rs=>∃vs:Array Value,v=.tuple vs/\vs.size=rs.length/\∀(r:Nat) (cB:cQ),rs[r]?=some cB->∃y,vs[r]?=some y/\mi w ω r cB y
def x0(w0 w:World)(rs:List cQ)(v:Value):Prop:=
 ∃ω:Own,(∀b,b<w0.heap.size->ω b=.bO)/\(∀b,ω b≠.bO->(∃t q,ω b=.tok t q)/\∃arr ty,w.heap[b]?=some (.cells arr ty (0,0)))/\nO w ω rs v
def iX(P:Program)(f:FuncId)(args rs:List cQ):Prop:=
 ∀(w:World) (vs:Array Value),pU w->EZ w args vs->Calls P f vs w fun e aS=>∃v,e=.returned v/\gO w.heap.size w aS/\x0 w aS rs v
def aH.gA:aH->Option D
 | .v x=>if x.oneCell' then some (.v x) else none
 | .bc c=>some (.v (.bool c))
 | .J _ k es=>some (.J k es)
 | .h0 ds off=>if off=0 then some (.ptr ds) else none
 | .fd d=>some d
 | .dx _ k es=>some (.J k es)
 | .aO _ _ _ k es .here=>some (.J k es)
 | .aO _ _ _ k es .lU=>some (.J k es)
 | _=>none
abbrev lO:=List (Nat×List aH)
def x4(bs:lO)(id:Nat):Option D:=(dF id bs).bind fun ls=>(ls.mapM aH.gA).map .ptr
def aH.j1(bs:lO):aH->Option D
 | .ptr id off=>if off=0 then x4 bs id else none
 | .gP g ids=>(ids.mapM (x4 bs)).map (.cl g)
 | l=>l.gA
def bC.j1(bs:lO):bC->Option cQ
 | .one l=>(l.j1 bs).map .one
 | .agg ls=>(ls.mapM (aH.j1 bs)).map .agg
def aJ.j1(bs:lO):aJ->Option cQ
 | .aI a=>a.j1 bs
 | _=>none
variable{w:World}{ω:Own}{d:D}{y:Value}
theorem b7.free{R:List (Nat×Nat)->c8->Prop}(h:b7 w ω R d y):lD w d y:=
 h.frame fun _ _ _ _=>⟨rfl,rfl⟩
variable{τ:Nat->Nat×Value}
theorem aH.Pl{l:aH}(h:l.gA=some d)(ai:Sat w ω τ l y):lD w d y:=by
 cases l with
 | cq=>cases h
 | v x=>
  simp only[aH.gA]at h;split at h
  ·simp only[aX]at h;subst h;have:y=x:=ai;subst this;exact .v _ _ ‹_›
  cases h
 | bc c=>
  simp only[aH.gA,aX]at h;subst h;have:y=.bool c:=ai;subst this;exact .v _ _ rfl
 | J t k es=>simp only[aH.gA,aX]at h;subst h;exact ai.1.free
 | ptr=>cases h
 | ep=>cases h
 | gP=>cases h
 | ft=>cases h
 | h0 ds off=>
  simp only[aH.gA]at h;split at h
  ·rename_i aU;subst aU;simp only[aX]at h;subst h;obtain⟨b,rfl,aA⟩:=ai;exact aA.free
  cases h
 | fd dE=>simp only[aH.gA,aX]at h;subst h;exact b7.free ai
 | dx t k es=>simp only[aH.gA,aX]at h;subst h;exact b7.free ai.1
 | aO t i j k es m=>
  obtain⟨u,hu,aA,_⟩:=ai;cases m with
  | at_ x z=>cases h
  | here=>simp only[aH.gA,aX]at h;subst h;have:y=u:=hu;subst this;exact aA.free
  | lU=>simp only[aH.gA,aX]at h;subst h;have:y=u:=hu;subst this;exact aA.free
def wN(w:World)(ω:Own)(τ:Nat->Nat×Value)(bs:lO):Prop:=∀id ls,dF id bs=some ls->tC w ω τ id ls
variable{bs:lO}
theorem R4(aj:wN w ω τ bs){id b:Nat}(h:x4 bs id=some d)(aU:ω b=.box id):lD w d (ptrTo b):=by
 unfold x4 at h;cases e:dF id bs with
 | none=>simp[e]at h
 | some ls=>
  simp only[e,mZ,b8]at h;obtain⟨ds,h1,rfl⟩:=h;obtain⟨da,arr,ty,dz,hu,bQ,ai⟩:=aj id ls e;have:=hu b aU;subst this;obtain⟨U,ax⟩:=nN h1;have cell:∀j d,ds[j]?=some d->arr[j]?=some (arr.getD j undef)/\lD w d (arr.getD j undef):=by
   intro j d aE;obtain⟨l,ag,dq⟩:=ax j d aE;obtain⟨u,fV,fk⟩:=ai.2 j l ag;have e2:arr.getD j undef=u:=by simp[ew,fV]
   rw[e2];exact⟨fV,aH.Pl dq fk⟩
  exact b7.ptr _ ds b arr ty (0,0) (fun j=>arr.getD j undef) bQ rfl (by have:=ai.1;omega) (fun j d aE=>(cell j d aE).1) (fun j d aE=>(cell j d aE).2.frame fun _ _ _ _=>⟨rfl,rfl⟩)
theorem aH.x2(aj:wN w ω τ bs){l:aH}(h:l.j1 bs=some d)(ai:Sat w ω τ l y):lD w d y:=by
 unfold aH.j1 at h;split at h
 ·rename_i id off;split at h
  ·rename_i aU;subst aU;obtain⟨b,h1,rfl⟩:=ai;exact R4 aj h h1
  cases h
 ·rename_i g ids;rw[b8]at h;obtain⟨ds,h1,rfl⟩:=h;obtain⟨n9,rfl,aR,hi⟩:=ai;obtain⟨U,ax⟩:=nN h1;have cell:∀j d,ds[j]?=some d->(n9.map ptrTo).toArray[j]?=some ((n9.map ptrTo).toArray.getD j undef)/\lD w d ((n9.map ptrTo).toArray.getD j undef):=by
   intro j d aE;obtain⟨id,fT,H4⟩:=ax j d aE;obtain⟨b,hJ,gp⟩:=hi j id fT;have e1:(n9.map ptrTo).toArray[j]?=some (ptrTo b):=by simp[hJ]
   have e2:(n9.map ptrTo).toArray.getD j undef=ptrTo b:=by rw[ew,e1];rfl
   rw[e2];exact⟨e1,R4 aj H4 gp⟩
  exact b7.cl _ g ds _ (fun j=>(n9.map ptrTo).toArray.getD j undef) (by simp;omega) (fun j d aE=>(cell j d aE).1) (fun j d aE=>(cell j d aE).2.frame fun _ _ _ _=>⟨rfl,rfl⟩)
 exact aH.Pl h ai
theorem aJ.x2(aj:wN w ω τ bs){p:aJ}{cB:cQ}(h:p.j1 bs=some cB)(ai:cU (Sat w ω τ) p y):vB w cB y:=by
 cases p with
 | ga as=>cases h
 | aI a=>
  cases a with
  | one l=>
   simp only[aJ.j1,bC.j1,b8]at h;obtain⟨d,h1,rfl⟩:=h;exact aH.x2 aj h1 ai
  | agg ls=>
   simp only[aJ.j1,bC.j1,b8]at h;obtain⟨ds,h1,rfl⟩:=h;obtain⟨U,ax⟩:=nN h1;obtain⟨vs,rfl,aR,bF⟩:=ai;refine⟨vs,rfl,by omega,fun i d aE=>?_⟩;obtain⟨l,ag,dq⟩:=ax i d aE;obtain⟨u,hu,fk⟩:=bF i l ag;exact⟨u,hu,aH.x2 aj dq fk⟩
def jJ(P:Program)(g:FuncId):Bool:=
 match P.funcs[g]? with
 | some fn => !(fn.name == "runtime.NumGoroutine") && !fn.body.isNone
 | none=>false
def D.pK(t:Nat):D->aH
 | .v (.bool c)=>.bc c
 | .v x=>.v x
 | .J k es=>.J (.own t) k es
 | .ptr _=>.cq
 | .cl _ _=>.cq
def nP(t:Nat):Nat->List D->List aH
 | _,[]=>[]
 | j,d::ds=>d.pK (t+j)::nP t (j+1) ds
theorem Bj(t:Nat):∀(ds:List D) (j i:Nat),(nP t j ds)[i]?=(ds[i]?).map (D.pK (t+(j+i)))
 | [],_,_=>by simp[nP]
 | d::ds,j,0=>by simp[nP]
 | d::ds,j,i+1=>by
  simp only[nP,oY,Bj t ds (j+1) i];rw[show j+1+i=j+(i+1) by omega]
theorem y3(t:Nat):∀(ds:List D) (j:Nat),(nP t j ds).length=ds.length
 | [],_=>rfl
 | d::ds,j=>by simp[nP,y3 t ds (j+1)]
def cQ.res(t:Nat):cQ->bC
 | .one d=>.one (d.pK t)
 | .agg ds=>.agg (nP t 0 ds)
def qJ(t:Nat):Nat->List cQ->List bC
 | _,[]=>[]
 | r,a::as=>a.res (t+100*r)::qJ t (r+1) as
theorem E0(t:Nat):∀(as:List cQ) (r i:Nat),(qJ t r as)[i]?=(as[i]?).map (cQ.res (t+100*(r+i)))
 | [],_,_=>by simp[qJ]
 | d::ds,j,0=>by simp[qJ]
 | d::ds,j,i+1=>by
  simp only[qJ,oY,E0 t ds (j+1) i];rw[show j+1+i=j+(i+1) by omega]
theorem E1(t:Nat):∀(as:List cQ) (r:Nat),(qJ t r as).length=as.length
 | [],_=>rfl
 | d::ds,j=>by simp[qJ,E1 t ds (j+1)]
def tm(t:Nat):List cQ->aJ
 | [a]=>.aI (a.res t)
 | as=>.ga (qJ t 0 as)
def uF(rs:List cQ):Bool:=rs.length<100&&rs.all fun | .one _=>true | .agg ds=>ds.length<100
def gF(t:Nat):Tag->Option Tag
 | .free=>some .free
 | .own s=>if t<=s/\s<t+10000 then some .free else some (.own s)
 | .ro s=>if t<=s/\s<t+10000 then some .free else some (.ro s)
def oM(t:Nat):c8->c8
 | .tok s q=>if t<=s/\s<t+10000 then .bO else .tok s q
 | o=>o
def R5(t:Nat):c8->c8
 | .tok s q=>.tok (t+s) q
 | _=>.bO
def cQ.cell(j:Nat):cQ->Option D
 | .one d=>if j=0 then some d else none
 | .agg ds=>ds[j]?
def qa(rs:List cQ)(n:Nat):Nat:=
 match (rs[n / 100]?).bind (cQ.cell (n % 100)) with
 | some (.J k _)=>k
 | _=>0
def nA(rs:List cQ)(v:Value)(n:Nat):Value:=
 match rs with
 | [_]=>v.cells.getD (n % 100) undef
 | _=>match v with
  | .tuple vs=>(vs.getD (n / 100) undef).cells.getD (n % 100) undef
  | _=>undef
def aF.vM(st:aF)(t:Nat):aF:=st.map (aH.cz (gF t) fun _=>true)
theorem cI.called{w0:eK}{st:aF}{a:Act}{aS:World}(aZ:cI w0 st a w ω τ)(t:Nat){rs:List cQ}{v:Value}
  (eQ:uF rs=true) (ia:t+10000<=dj) (aj:gO w.heap.size w aS) (fe:x0 w aS rs v):
  ∃a' cW,cI w0 (st.vM t) a aS a' cW/\cU (Sat aS a' cW) (tm t rs) v:=by
 obtain⟨fq,k1,kI,k2⟩:=fe
 let a':Own:=fun b=>if b<w.heap.size then oM t (ω b) else R5 t (fq b)
 let cW:Nat->Nat×Value:=fun s=>if t<=s/\s<t+10000 then (qa rs (s-t),nA rs v (s-t)) else τ s
 have hold:∀b,b<w.heap.size->a' b=oM t (ω b):=fun b aj=>by simp only[a'];rw[bi aj]
 have gg:∀b,¬b<w.heap.size->a' b=R5 t (fq b):=fun b aj=>by simp only[a'];rw[ba aj]
 have br:lQ w ω τ aS a' cW (gF t) (fun _=>true):=by
  refine⟨?_,?_,?_,rfl,fun s ai=>by simp only[cW];rw[ba (by omega)]⟩
  ·intro g ey b q av bL az;refine⟨?_,aj.block b bL⟩;rw[hold b bL];cases g with
   | free=>simp only[gF,aX]at av;subst av;simp only[Tag.R]at az ⊢;rw[az];rfl
   | own s=>
    simp only[Tag.R]at az;simp only[gF]at av;rw[az];simp only[oM];split at av
    ·simp only[aX]at av;subst av;rw[bi ‹_›];rfl
    simp only[aX]at av;subst av;rw[ba ‹_›];rfl
   | ro s=>
    simp only[Tag.R]at az;simp only[gF]at av;split at av
    ·simp only[aX]at av;subst av;rcases az with h | ⟨dD,h⟩
     ·rw[h];rfl
     rw[h];simp only[oM];rw[bi ‹_›];rfl
    simp only[aX]at av;subst av;rcases az with h | ⟨dD,h⟩
    ·rw[h];exact .inl rfl
    rw[h];simp only[oM];rw[ba ‹_›];exact .inr ⟨dD,rfl⟩
  ·intro g ey y av bu;cases g with
   | free=>simp only[gF,aX]at av;subst av;exact trivial
   | own s=>
    simp only[gF]at av;split at av
    ·simp only[aX]at av;subst av;exact trivial
    simp only[aX]at av;subst av;simp only[Tag.ee,cW]at bu ⊢;rw[ba ‹_›];exact bu
   | ro s=>
    simp only[gF]at av;split at av
    ·simp only[aX]at av;subst av;exact trivial
    simp only[aX]at av;subst av;exact trivial
  intro id b _ cA;have bL:=aZ.owned.lt (b:=b) (by simp[cA]);rw[hold b bL,cA];rfl
 have cell:∀(n:Nat) (d:D) (u:Value),n<10000->nA rs v n=u->(∀k es,d=.J k es->qa rs n=k)->b7 aS fq (Tag.own n).R d u->Sat aS a' cW (d.pK (t+n)) u:=by
  intro n d u aR bF hk aA;cases d with
  | v x=>
   have e:u=x:=by cases aA;rfl
   subst e;unfold D.pK;split
   ·rename_i h;cases h;exact rfl
   ·rename_i h;cases h;exact rfl
   ·rename_i h;cases h
   ·exact trivial
   exact trivial
  | ptr ds=>exact trivial
  | cl g bB=>exact trivial
  | J k es=>
   refine⟨aA.frame fun b q bL az=>⟨?_,rfl⟩,?_⟩
   ·simp only[Tag.R]at az ⊢;have:¬b<w.heap.size:=fun h=>by have:=k1 b h;rw[this]at az;cases az
    rw[gg b this,az];rfl
   simp only[Tag.ee,cW];rw[bi (by omega),show t+n-t=n by omega,bF,hk k es rfl]
 have tK:∀(r:Nat) (cB:cQ) (y:Value),r<100->(∀ds,cB=.agg ds->ds.length<100)->rs[r]?=some cB->(∀j,j<100->nA rs v (100*r+j)=y.cells.getD j undef)->mi aS fq r cB y->kj (Sat aS a' cW) (cB.res (t+100*r)) y:=by
  intro r cB y aA eI AE bF nz;have gq:∀j,j<100->qa rs (100*r+j)=(match cQ.cell j cB with | some (.J k _)=>k | _=>0):=by
   intro j bd;unfold qa;rw[show (100*r+j) / 100=r by omega,show (100*r+j) % 100=j by omega,AE];rfl
  cases cB with
  | one d=>
   have h1:=nz.pt;have U:=bF 0 (by omega);rw[Bf h1]at U;have:=cell (100*r) d y (by omega) (by simpa using U) (fun k es e=>by
    have:=gq 0 (by omega);rw[m']at this;rw[this,e];rfl) nz
   exact this
  | agg ds=>
   obtain⟨vs,rfl,aR,bd⟩:=nz;refine⟨vs,rfl,by rw[y3];exact aR,fun j l ag=>?_⟩;rw[Bj,b8]at ag;obtain⟨d,aE,rfl⟩:=ag;obtain⟨u,hu,AF⟩:=bd j d aE;have lv:j<100:=by
    have:=(eW.1 aE).1;have:=eI ds rfl;omega
   refine⟨u,hu,?_⟩;have:=cell (100*r+j) d u (by omega) (by rw[bF j lv];simp[Value.cells,ew,hu]) (fun k es e=>by
    rw[gq j lv];simp only[cQ.cell,aE,e]) AF
   rw[show t+100*r+(0+j)=t+(100*r+j) by omega];exact this
 simp only[uF,cm,cr]at eQ;have eI:∀(r:Nat) (cB:cQ),rs[r]?=some cB->∀ds,cB=.agg ds->ds.length<100:=by
  intro r cB aA ds e;have:=fK.1 eQ.2 cB (fF aA);subst e;simpa using this
 refine⟨a',cW,aZ.di _ br.sat (aZ.below.next aj) ?_ ?_ ?_ (fun s ai=>by simp only[cW];rw[ba (by omega)]),?_⟩
 ·intro b fS;by_cases bL:b<w.heap.size
  ·rw[hold b bL]at fS;have U:ω b≠.bO:=fun e=>by rw[e]at fS;exact fS rfl
   obtain⟨ax,arr,ty,aK⟩:=aZ.owned b U;exact⟨ax,arr,ty,(aj.block b bL).trans aK⟩
  rw[gg b bL]at fS;have U:fq b≠.bO:=fun e=>by rw[e]at fS;exact fS rfl
  obtain⟨_,arr,ty,aK⟩:=kI b U;exact⟨.inl (by have:=aZ.below.size;omega),arr,ty,aK⟩
 ·intro id b cA;have bL:=aZ.owned.lt (b:=b) (by simp[cA]);exact⟨br.box id b rfl cA,aj.block b bL⟩
 ·intro id b cA;by_cases bL:b<w.heap.size
  ·rw[hold b bL]at cA;cases e:ω b with
   | bO=>rw[e]at cA;cases cA
   | box i=>rw[e]at cA;exact cA
   | tok s q=>rw[e]at cA;simp only[oM]at cA;split at cA<;>cases cA
  ·rw[gg b bL]at cA;cases e:fq b<;>(rw[e]at cA;cases cA)
 cases rs with
 | nil=>
  obtain⟨vs,rfl,aR,_⟩:=k2;exact⟨vs,rfl,aR,fun i a ae=>by simp[qJ]at ae⟩
 | cons cB rest=>
  cases rest with
  | nil=>
   have:=tK 0 cB v (by omega) (eI 0 cB rfl) rfl (fun j bd=>by
    unfold nA;simp only[Nat.mul_zero,dG];rw[C4 bd]) k2
   exact this
  | cons Pk rest=>
   obtain⟨vs,rfl,aR,bF⟩:=k2;refine⟨vs,rfl,by rw[E1];exact aR,fun i a ae=>?_⟩;rw[E0,b8]at ae;obtain⟨n5,h1,rfl⟩:=ae;obtain⟨y,bu,Ar⟩:=bF i n5 h1;have jC:i<100:=by
    have:=(eW.1 h1).1;omega
   refine⟨y,bu,?_⟩;have:=tK i n5 y jC (eI i n5 h1) h1 (fun j bd=>by
    unfold nA;simp only;rw[show (100*i+j) / 100=i by omega,show (100*i+j) % 100=j by omega];simp[ew,bu]) Ar
   rw[dG];exact this
end Go.Sx
namespace Go.Sx
open Go.RowKit
inductive gb where
 | ro (d:D)
 | hI (k:Nat) (es:List (List D)) (post:Option (List (List D)))
inductive GA where
 | one (c:gb)
 | agg (cs:List gb)
def fx(i j:Nat):Nat:=dj+(100*i+j)
def GA.cell(j:Nat):GA->Option gb
 | .one c=>if j=0 then some c else none
 | .agg cs=>cs[j]?
def cellOf(v:Value)(j:Nat):Value:=v.cells.getD j undef
def vD(w:World)(ω:Own)(t:Nat):gb->Value->Prop
 | .ro d,y=>b7 w ω Tag.free.R d y
 | .hI k es _,y=>b7 w ω (Tag.own t).R (.J k es) y
def O8(w:World)(ω:Own)(i:Nat):GA->Value->Prop
 | .one c,y=>vD w ω (fx i 0) c y
 | .agg cs,y=>∃vs:Array Value,y=.agg vs/\vs.size=cs.length/\∀(j:Nat) (c:gb),cs[j]?=some c->∃u,vs[j]?=some u/\vD w ω (fx i j) c u
def He(w:World)(ω:Own):Prop:=∀b,ω b≠.bO->(∃t q,ω b=.tok t q/\dj<=t)/\∃arr ty,w.heap[b]?=some (.cells arr ty (0,0))
def Hd(w:World)(ω:Own)(args:List GA)(vs:Array Value):Prop:=He w ω/\vs.size=args.length/\∀(i:Nat) (fc:GA),args[i]?=some fc->∃v,vs[i]?=some v/\O8 w ω i fc v
def Kept(w:World)(ω:Own)(args:List GA)(vs:Array Value):Prop:=
 ∀(i j:Nat) (fc:GA) (k:Nat) (es cH:List (List D)),args[i]?=some fc->fc.cell j=some (.hI k es (some cH))->b7 w ω (Tag.own (fx i j)).R (.J k cH) (cellOf (vs.getD i undef) j)
def vG(P:Program)(f:FuncId)(args:List GA)(rs:List cQ):Prop:=
 ∀(w:World) (vs:Array Value) (ω:Own),Hd w ω args vs->Tidy w ω->Calls P f vs w fun e aS=>∃v,e=.returned v/\hr ⟨w,fun b=>ω b≠.bO,fun _=>(0,undef)⟩ aS/\
  ∃a':Own,(∀b,b<w.heap.size->ω b=.bO->a' b=.bO)/\(∀b,a' b≠.bO->(∃t q,a' b=.tok t q)/\∃arr ty,aS.heap[b]?=some (.cells arr ty (0,0)))/\Kept aS a' args vs/\nO aS a' rs v
structure dw where
 i:Nat
 j:Nat
 t:Nat
 p:Option (Nat×Nat)
 k:Nat
 es:List (List D)
 post:Option (List (List D))
abbrev pT:=Option (Option (List (List D)))
def x6(bs:lO)(i j:Nat):pT->aH->Option (gb×List dw×List aH)
 | none,l=>(l.j1 bs).map fun d=>(.ro d,[],[l])
 | some post,.J (.own t) k es=>some (.hI k es post,[⟨i,j,t,none,k,es,post⟩],[])
 | some post,.aO t a b k es .here=>some (.hI k es post,[⟨i,j,t,some (a,b),k,es,post⟩],[])
 | _,_=>none
def pB(bs:lO)(i:Nat):Nat->List pT->List aH->Option (List gb×List dw×List aH)
 | _,[],[]=>some ([],[],[])
 | j,m::ms,l::ls=>
  match x6 bs i j m l,pB bs i (j+1) ms ls with
  | some (c,h,r),some (cs,ai,rs)=>some (c::cs,h++ai,r++rs)
  | _,_=>none
 | _,_,_=>none
def z6(bs:lO)(i:Nat)(ms:List pT):aJ->Option (GA×List dw×List aH)
 | .aI (.one l)=>match ms with | [m]=>(x6 bs i 0 m l).map fun r=>(.one r.1,r.2) | _=>none
 | .aI (.agg ls)=>(pB bs i 0 ms ls).map fun r=>(.agg r.1,r.2)
 | _=>none
def vL(bs:lO):Nat->List (List pT)->List aJ->Option (List GA×List dw×List aH)
 | _,[],[]=>some ([],[],[])
 | i,ms::Jt,p::cF=>
  match z6 bs i ms p,vL bs (i+1) Jt cF with
  | some (a,h,r),some (as,ai,rs)=>some (a::as,h++ai,r++rs)
  | _,_=>none
 | _,_,_=>none
def r3(ai:List dw)(t:Nat):Bool:=ai.any fun h=>h.t==t
def Tag.nH(ai:List dw):Tag->Bool
 | .free=>false
 | .own t=>r3 ai t
 | .ro t=>r3 ai t
def aH.po(ai:List dw):aH->Bool
 | .J t _ _=>t.nH ai
 | .ep t _ _ _ _=>t.nH ai
 | .aO t _ _ _ _ _=>r3 ai t
 | .ft _ _=>true
 | _=>false
def aH.nH(bs:lO)(ai:List dw):aH->Bool
 | .ptr id _=>match dF id bs with | some ls=>ls.any (aH.po ai) | none=>true
 | .gP _ ids=>ids.any fun id=>match dF id bs with | some ls=>ls.any (aH.po ai) | none=>true
 | l=>l.po ai
def dw.apart(h y:dw):Bool:=
 (h.i != y.i||h.j != y.j)&&(h.t != y.t||match h.p,y.p with | some p,some q=>p.2 != q.2 | _,_=>false)
def oN:List dw->Bool
 | []=>true
 | h::r=>decide (h.j<100)&&(r.all (dw.apart h)&&oN r)
theorem R6:∀{ai:List dw},oN ai=true->∀h∈ai,∀y∈ai,h=y\/(dw.apart h y=true\/dw.apart y h=true)
 | [],_,h,bQ,_,_=>by cases bQ
 | x::r,hk,h,bQ,y,bu=>by
  simp only[oN,cm,fK]at hk;rcases ez.1 bQ with e1 | P5
  ·rcases ez.1 bu with e2 | IJ
   ·exact .inl (e1.trans e2.symm)
   rw[e1];exact .inr (.inl (hk.2.1 y IJ))
  rcases ez.1 bu with e2 | IJ
  ·rw[e2];exact .inr (.inr (hk.2.1 h P5))
  exact R6 hk.2.2 h P5 y IJ
theorem R7:∀{ai:List dw},oN ai=true->∀h∈ai,h.j<100
 | [],_,h,bQ=>by cases bQ
 | x::r,hk,h,bQ=>by
  simp only[oN,cm,cr]at hk;rcases ez.1 bQ with rfl | bQ
  ·exact hk.1
  exact R7 hk.2.2 h bQ
def dw.fit(h:dw)(t:Nat)(q:List (Nat×Nat)):Option (List (Nat×Nat)):=
 if h.t=t then
  match h.p,q with
  | none,q=>some q
  | some p,x::dD=>if x=p then some dD else none
  | some _,[]=>none
 else none
def nq(t:Nat)(q:List (Nat×Nat)):List dw->Option (Nat×List (Nat×Nat))
 | []=>none
 | h::r=>match h.fit t q with | some dD=>some (fx h.i h.j,dD) | none=>nq t q r
variable{h:dw}{t:Nat}{q:List (Nat×Nat)}
theorem asz{y:dw}{q1 k9:List (Nat×Nat)}(h1:h.fit t q=some q1)(U:y.fit t q=some k9):dw.apart h y=false:=by
 unfold dw.fit at h1 U;split at h1
 ·rename_i e1;split at U
  ·rename_i e2;have ck:(h.t != y.t)=false:=by simp[e1,e2]
   simp only[dw.apart,ck,iU,Bool.and_eq_false_imp];intro _;split at h1
   ·rename_i hp;rw[hp]
   ·rename_i p x dD hp;split at h1
    ·rename_i aa;split at U
     ·rename_i sM;rw[hp,sM]
     ·rename_i QY ho azP sM heq;split at U
      ·rename_i ka;rw[hp,sM];simp only[sb]at heq;obtain⟨rfl,_⟩:=heq;subst aa;subst ka;simp
      cases U
     cases U
    cases h1
   cases h1
  cases U
 cases h1
theorem KP{t:Nat}{q dD:List (Nat×Nat)}:∀{ai:List dw},oN ai=true->∀{h:dw},h∈ai->h.fit t q=some dD->nq t q ai=some (fx h.i h.j,dD)
 | [],_,h,bQ,_=>by cases bQ
 | x::r,hk,h,bQ,bw=>by
  have ja:=hk;simp only[oN,cm,fK]at hk;simp only[nq];rcases ez.1 bQ with rfl | bQ
  ·rw[bw]
  cases e:x.fit t q with
  | none=>exact KP hk.2.2 bQ bw
  | some k9=>
   have:=asz e bw;rw[hk.2.1 h bQ]at this;cases this
theorem Bk{g:Nat}{dD:List (Nat×Nat)}:∀{ai:List dw},nq t q ai=some (g,dD)->∃h∈ai,h.fit t q=some dD/\g=fx h.i h.j
 | [],h=>by cases h
 | x::r,h=>by
  simp only[nq]at h;split at h
  ·rename_i k9 e;simp only[aX,bJ]at h;obtain⟨rfl,rfl⟩:=h;exact⟨x,eO,e,rfl⟩
  obtain⟨y,bu,U⟩:=Bk h;exact⟨y,fi _ bu,U⟩
theorem R8{dD:List (Nat×Nat)}(e:h.fit t q=some dD):h.t=t/\q=h.p.toList++dD:=by
 unfold dw.fit at e;split at e
 ·rename_i e1;refine⟨e1,?_⟩;split at e
  ·rename_i hp;simp only[aX]at e;rw[hp,e];rfl
  ·rename_i p x k9 hp;split at e
   ·rename_i aa;simp only[aX]at e;rw[hp,aa,e];rfl
   cases e
  cases e
 cases e
theorem R9(h:dw)(q:List (Nat×Nat)):h.fit h.t (h.p.toList++q)=some q:=by
 unfold dw.fit;rw[bi rfl];cases h.p with
 | none=>rfl
 | some p=>simp
def fJ(ai:List dw)(ω:Own):Own:=fun b=>
 match ω b with
 | .tok t q=>match nq t q ai with | some (g,dD)=>.tok g dD | none=>.bO
 | _=>.bO
def Dh(g:Nat):List dw->Option dw
 | []=>none
 | h::r=>if fx h.i h.j=g then some h else Dh g r
theorem R':∀{ai:List dw},oN ai=true->∀{h:dw},h∈ai->Dh (fx h.i h.j) ai=some h
 | [],_,h,bQ=>by cases bQ
 | x::r,hk,h,bQ=>by
  have bd:=R7 hk;have ja:=hk;simp only[oN,cm,fK]at hk;simp only[Dh];rcases ez.1 bQ with rfl | sK
  ·rw[bi rfl]
  rw[ba]
  ·exact R' hk.2.2 sK
  intro e;have h1:=bd x eO;have U:=bd h (fi _ sK);have ax:=hk.2.1 h sK;simp only[dw.apart,cm,lM,bne_iff_ne,hc]at ax;simp only[fx]at e;omega
def Bl(ai:List dw)(t0:Nat):c8->c8
 | .tok s q=>if dj<=s then (match Dh s ai with | some h=>.tok h.t (h.p.toList++q) | none=>.bO) else .tok (t0+s) q
 | _=>.bO
def wO(t:Nat):List dw->Option dw
 | []=>none
 | h::r=>if h.t=t then some h else wO t r
theorem Sa:∀{ai:List dw},wO t ai=none->r3 ai t=false
 | [],_=>rfl
 | h::r,e=>by
  simp only[wO]at e;split at e
  ·cases e
  rename_i ct;have:=Sa e;simp only[r3,vz,fB]at this ⊢;exact⟨by simpa using ct,this⟩
theorem Sb:∀{ai:List dw},wO t ai=some h->h∈ai/\h.t=t
 | [],e=>by cases e
 | x::r,e=>by
  simp only[wO]at e;split at e
  ·simp only[aX]at e;subst e;exact⟨eO,‹_›⟩
  obtain⟨h1,U⟩:=Sb e;exact⟨fi _ h1,U⟩
def mM:List dw->List D->List D
 | [],ds=>ds
 | h::r,ds=>match h.p,h.post with
  | some p,some es=>mM r (ds.set p.2 (.J h.k es))
  | _,_=>mM r ds
def rH(ai:List dw)(t0 hP ow:Nat)(pY:List (List D)):aH->aH
 | .J (.own t) k es=>
  match wO t ai with
  | some h=>match h.p,h.post with
   | none,some cH=>.J (.own t) h.k cH
   | none,none=>.cq
   | some _,_=>if t=hP then .J (.own t) ow pY else .cq
  | none=>aH.cz (gF t0) (fun _=>true) (.J (.own t) k es)
 | l=>if l.po ai then .cq else l.cz (gF t0) fun _=>true
end Go.Sx
namespace Go.Sx
open Go.RowKit
variable{ai:List dw}
theorem asA{t:Nat}(h:r3 ai t=false):∀y∈ai,y.t≠t:=by
 intro y bu e;simp only[r3,fh,ed]at h;exact h y bu e
theorem KQ{t:Nat}(h:r3 ai t=false)(q:List (Nat×Nat)):nq t q ai=none:=by
 cases e:nq t q ai with
 | none=>rfl
 | some x=>
  obtain⟨g,dD⟩:=x;obtain⟨y,bu,bw,_⟩:=Bk e;exact absurd (R8 bw).1 (asA h y bu)
structure C9 (w:World) (ω:Own) (τ:Nat->Nat×Value) (h:dw) (u:Value):Prop where
 rep:b7 w ω (fun q o=>o=.tok h.t (h.p.toList++q)) (.J h.k h.es) u
 root:h.p=none->τ h.t=(h.k,u)
 cell:∀a b,h.p=some (a,b)->∃(kT b9 off len cap:Nat) (arr:Array Value) (ty:TypeId) (c0:Nat×Nat),τ h.t=(kT,.slice (some ⟨b9,off,none⟩) len cap)/\ω b9=.tok h.t []/\w.heap[b9]?=some (.cells arr ty c0)/\arr[off+a*kT+b]?=some u
structure Pc (w:World) (ω:Own) (τ:Nat->Nat×Value) (ai:List dw) (hP ow:Nat) (pY:List (List D)):Prop where
 ex:∀h∈ai,∀p,h.p=some p->h.t=hP->∃(dO:List (List D)) (y:Value) (ds:List D) (a:Nat),Sat w ω τ (.J (.own hP) ow dO) y/\dO[a]?=some ds/\ds.length=ow/\pY=dO.set a (mM ai ds)/\
  ∀x∈ai,∀q,x.p=some q->x.t=hP/\q.1=a/\∃cH,x.post=some cH
theorem Bm:∀(ai:List dw) (ds:List D),(mM ai ds).length=ds.length
 | [],_=>rfl
 | h::r,ds=>by
  simp only[mM];split
  ·rw[Bm r,e8]
  exact Bm r ds
theorem KR{y:Nat}{d:D}:∀{ai:List dw} {ds:List D},(mM ai ds)[y]?=some d->(∃h∈ai,∃a cH,h.p=some (a,y)/\h.post=some cH/\d=.J h.k cH)\/ds[y]?=some d/\∀h∈ai,∀a cH,h.p=some (a,y)->h.post=some cH->False
 | [],ds,h=>.inr ⟨h,fun _ bQ=>by cases bQ⟩
 | h::r,ds,aE=>by
  simp only[mM]at aE;split at aE
  ·rename_i p cH e1 e2;rcases KR aE with⟨x,aa,a,bX,h1,U,ax⟩ | ⟨h1,U⟩
   ·exact .inl ⟨x,fi _ aa,a,bX,h1,U,ax⟩
   rw[iT]at h1;split at h1
   ·rename_i hp;split at h1
    ·simp only[aX]at h1;exact .inl ⟨h,eO,p.1,cH,by rw[e1,<-hp],e2,h1.symm⟩
    cases h1
   rename_i hp;refine .inr ⟨h1,fun x aa a bX ax aK=>?_⟩;rcases ez.1 aa with rfl | aa
   ·rw[e1]at ax;simp only[aX]at ax;rw[ax]at hp;exact hp rfl
   exact U x aa a bX ax aK
  rename_i ct;rcases KR aE with⟨x,aa,a,bX,h1,U,ax⟩ | ⟨h1,U⟩
  ·exact .inl ⟨x,fi _ aa,a,bX,h1,U,ax⟩
  refine .inr ⟨h1,fun x aa a bX ax aK=>?_⟩;rcases ez.1 aa with rfl | aa
  ·exact ct _ _ ax aK
  exact U x aa a bX ax aK
theorem cI.ZY{w0:eK}{st:aF}{a:Act}{w aS:World}{ω:Own}{τ:Nat->Nat×Value}(aZ:cI w0 st a w ω τ)(t0:Nat){rs:List cQ}{v:Value}{H:Nat->Nat×Value}
  (bP:oN ai=true) (eQ:uF rs=true) (ia:t0+10000<=dj) (Qo:∀h∈ai,¬(t0<=h.t/\h.t<t0+10000)) (aj:hr ⟨w,fun b=>fJ ai ω b≠.bO,H⟩ aS) (fq:Own)
  (k1:∀b,b<w.heap.size->fJ ai ω b=.bO->fq b=.bO) (kI:∀b,fq b≠.bO->(∃t q,fq b=.tok t q)/\∃arr ty,aS.heap[b]?=some (.cells arr ty (0,0))) (k2:nO aS fq rs v)
  (vals:dw->Value) (Ii:∀h∈ai,∀cH,h.post=some cH->b7 aS fq (Tag.own (fx h.i h.j)).R (.J h.k cH) (vals h)) (gC:∀h∈ai,C9 w ω τ h (vals h))
  {hP ow:Nat} {pY:List (List D)} (jo:Pc w ω τ ai hP ow pY):
  ∃a' cW,cI w0 (st.map (rH ai t0 hP ow pY)) a aS a' cW/\cU (Sat aS a' cW) (tm t0 rs) v:=by
 classical
 let a':Own:=fun b=>if b<w.heap.size/\fJ ai ω b=.bO then oM t0 (ω b) else Bl ai t0 (fq b)
 let cW:Nat->Nat×Value:=fun s=>if t0<=s/\s<t0+10000 then (qa rs (s-t0),nA rs v (s-t0)) else τ s
 have hold:∀b,b<w.heap.size->fJ ai ω b=.bO->a' b=oM t0 (ω b):=fun b aj h=>by simp only[a'];rw[bi ⟨aj,h⟩]
 have gg:∀b,fq b≠.bO->a' b=Bl ai t0 (fq b):=fun b aj=>by
  simp only[a'];rw[ba];rintro⟨h1,U⟩;exact aj (k1 b h1 U)
 have hblk:∀b,b<w.heap.size->fJ ai ω b=.bO->aS.heap[b]?=w.heap[b]?:=fun b bL h=>aj.block b bL (fun aR=>aR h)
 have qc:∀b,ω b=.bO->fJ ai ω b=.bO:=fun b h=>by simp only[fJ,h]
 have aax:∀b id,ω b=.box id->fJ ai ω b=.bO:=fun b id h=>by simp only[fJ,h]
 have j':∀b s q,ω b=.tok s q->nq s q ai=none->fJ ai ω b=.bO:=fun b s q h U=>by simp only[fJ,h,U]
 have sV:∀h∈ai,cW h.t=τ h.t:=fun h bQ=>by simp only[cW];rw[ba (Qo h bQ)]
 have eN:∀(g ey:Tag) (b:Nat) (q:List (Nat×Nat)),g.nH ai=false->gF t0 g=some ey->b<w.heap.size->g.R q (ω b)->ey.R q (a' b)/\aS.heap[b]?=w.heap[b]?:=by
  intro g ey b q hm av bL az;have hi:fJ ai ω b=.bO:=by
   cases g with
   | free=>exact qc b az
   | own s=>exact j' b s q az (KQ hm q)
   | ro s=>
    rcases az with h | ⟨dD,h⟩
    ·exact qc b h
    exact j' b s dD h (KQ hm dD)
  refine⟨?_,hblk b bL hi⟩;rw[hold b bL hi];cases g with
  | free=>simp only[gF,aX]at av;subst av;simp only[Tag.R]at az ⊢;rw[az];rfl
  | own s=>
   simp only[Tag.R]at az;simp only[gF]at av;rw[az];simp only[oM];split at av
   ·simp only[aX]at av;subst av;rw[bi ‹_›];rfl
   simp only[aX]at av;subst av;rw[ba ‹_›];rfl
  | ro s=>
   simp only[Tag.R]at az;simp only[gF]at av;split at av
   ·simp only[aX]at av;subst av;rcases az with h | ⟨dD,h⟩
    ·rw[h];rfl
    rw[h];simp only[oM];rw[bi ‹_›];rfl
   simp only[aX]at av;subst av;rcases az with h | ⟨dD,h⟩
   ·rw[h];exact .inl rfl
   rw[h];simp only[oM];rw[ba ‹_›];exact .inr ⟨dD,rfl⟩
 have Jo:∀(g ey:Tag) (y:Nat×Value),gF t0 g=some ey->g.ee τ y->ey.ee cW y:=by
  intro g ey y av bu;cases g with
  | free=>simp only[gF,aX]at av;subst av;exact trivial
  | own s=>
   simp only[gF]at av;split at av
   ·simp only[aX]at av;subst av;exact trivial
   simp only[aX]at av;subst av;simp only[Tag.ee,cW]at bu ⊢;rw[ba ‹_›];exact bu
  | ro s=>
   simp only[gF]at av;split at av
   ·simp only[aX]at av;subst av;exact trivial
   simp only[aX]at av;subst av;exact trivial
 have yD:∀id b,ω b=.box id->a' b=.box id/\aS.heap[b]?=w.heap[b]?:=by
  intro id b cA;have bL:=aZ.owned.lt (b:=b) (by simp[cA]);have hi:=aax b id cA;exact⟨by rw[hold b bL hi,cA];rfl,hblk b bL hi⟩
 have QI:∀h∈ai,∀cH,h.post=some cH->b7 aS a' (fun q o=>o=.tok h.t (h.p.toList++q)) (.J h.k cH) (vals h):=by
  intro h bQ cH he;refine (Ii h bQ cH he).frame fun b q _ az=>⟨?_,rfl⟩
  simp only[Tag.R]at az;rw[gg b (by rw[az];simp),az];simp only[Bl];rw[bi (by simp[fx]),R' bP bQ]
 have eS:∀l y,Sat w ω τ l y->Sat aS a' cW (rH ai t0 hP ow pY l) y:=by
  intro l y dg;have plain:∀g k es,g.nH ai=false->Sat w ω τ (.J g k es) y->Sat aS a' cW (aH.cz (gF t0) (fun _=>true) (.J g k es)) y:=by
   intro g k es hm mB;simp only[aH.cz];cases av:gF t0 g with
   | none=>exact trivial
   | some ey=>exact⟨mB.1.frame fun b q bL az=>eN g ey b q hm av bL az,Jo g ey _ av mB.2⟩
  cases l with
  | cq=>exact trivial
  | v x=>exact dg
  | bc c=>exact dg
  | ptr id off=>
   obtain⟨b,h1,U⟩:=dg;exact⟨b,(yD id b h1).1,U⟩
  | gP f ids=>
   obtain⟨bs,e,aR,hi⟩:=dg;simp only[rH,aH.po,oZ,ll,aH.cz];split
   ·refine⟨bs,e,aR,fun i id fT=>?_⟩;obtain⟨b,h1,U⟩:=hi i id fT;exact⟨b,h1,(yD id b U).1⟩
   exact trivial
  | h0 ds off=>
   obtain⟨b,e,aA⟩:=dg;exact⟨b,e,aA.frame fun b q bL az=>eN .free .free b q rfl rfl bL az⟩
  | fd d=>exact b7.frame dg fun b q bL az=>eN .free .free b q rfl rfl bL az
  | dx t k es=>exact⟨b7.frame dg.1 fun b q bL az=>eN .free .free b q rfl rfl bL az,fun bH=>(show cW t=τ t by simp only[cW];rw[ba (by omega)]).trans (dg.2 bH)⟩
  | aO t i j k es m=>
   simp only[rH];by_cases hm:aH.po ai (.aO t i j k es m)=true
   ·rw[bi hm];exact trivial
   rw[ba hm];simp only[vx]at hm;replace hm:r3 ai t=false:=hm;simp only[aH.cz];split
   ·rename_i dt av;split
    ·rename_i bH;subst bH;obtain⟨hQ,rm,h1,abC⟩:=dg;refine⟨hQ,rm,h1.frame fun c q ak az=>eN (.own dt) _ c _ hm av ak az,fun aa6=>?_⟩;obtain⟨kT,b,off,len,cap,arr,ty,c0,U,a7,ax,aK⟩:=abC aa6;have bL:b<w.heap.size:=(jz.1 ax).1;have hk:=eN (.own dt) _ b [] hm av bL a7;exact⟨kT,b,off,len,cap,arr,ty,c0,Jo _ _ _ av U,hk.1,hk.2.trans ax,aK⟩
    exact trivial
   exact trivial
  | ft t vs=>
   simp only[rH,aH.po,fQ];exact trivial
  | ep g k es i j=>
   simp only[rH];by_cases hm:aH.po ai (.ep g k es i j)=true
   ·rw[bi hm];exact trivial
   rw[ba hm];simp only[vx]at hm;replace hm:g.nH ai=false:=hm;obtain⟨b,off,cap,e,hi,aA,bQ⟩:=dg;simp only[aH.cz];cases av:gF t0 g with
   | none=>exact trivial
   | some ey=>exact⟨b,off,cap,e,hi,aA.frame fun b q bL az=>eN g ey b q hm av bL az,Jo g ey _ av bQ⟩
  | J g k es=>
   cases g with
   | free=>exact plain .free k es rfl dg
   | ro s=>
    simp only[rH];by_cases hm:aH.po ai (.J (.ro s) k es)=true
    ·rw[bi hm];exact trivial
    rw[ba hm];simp only[vx]at hm;exact plain (.ro s) k es hm dg
   | own s=>
    simp only[rH];cases bw:wO s ai with
    | none=>exact plain (.own s) k es (Sa bw) dg
    | some h=>
     obtain⟨bQ,rfl⟩:=Sb bw;simp only;have bF:=gC h bQ;have ee:τ h.t=(k,y):=dg.2;split
     ·
      rename_i cH hp he;have e1:=bF.root hp;rw[ee]at e1;simp only[bJ]at e1;obtain⟨rfl,e2⟩:=e1;have aA:=QI h bQ cH he;rw[hp,<-e2]at aA;exact⟨aA,by simp only[Tag.ee];rw[sV h bQ,ee]⟩
     ·exact trivial
     -- parts of it
     rename_i p hp;split
     ·rename_i ug;obtain⟨dO,Gk,ds,a0,yu,eI,sI,rfl,hV⟩:=jo.ex h bQ p hp ug;have H6:τ hP=(ow,Gk):=yu.2;rw[<-ug,ee]at H6;simp only[bJ]at H6;obtain⟨rfl,rfl⟩:=H6;obtain⟨qi,_⟩:=yu;have hlen:(dO.set a0 (mM ai ds)).length=dO.length:=e8;have PK:a0<dO.length:=(eW.1 eI).1;refine⟨?_,by simp only[Tag.ee];rw[sV h bQ,ee]⟩;generalize bu:y=O1 at qi;cases qi with
      | nil=>simp at PK
      | row R k dO b9 off cap arr ty c0 us yi dT aaH eT hk hu aE=>
       subst bu;have DA:ω b9=.tok h.t []:=by rw[ug];exact dT
       have Qi:∀x∈ai,x.fit hP []=none:=by
        intro x aa;unfold dw.fit;split
        ·rename_i ext;cases DX:x.p with
         | some q=>simp
         | none=>
          exfalso;have ct:dw.apart h x=true\/dw.apart x h=true\/h=x:=by
           rcases R6 bP h bQ x aa with e | e | e
           ·exact .inr (.inr e)
           ·exact .inl e
           exact .inr (.inl e)
          have yg:∀y z:dw,y.t=z.t->(y.p=none\/z.p=none)->dw.apart y z=true->False:=by
           intro y z e1 e2 ck;simp only[dw.apart,e1,cm,lM,bne_self_eq_false,oZ,false_or]at ck;rcases e2 with e2 | e2
           ·simp[e2]at ck
           ·rw[e2]at ck;cases hyp:y.p<;>simp[hyp]at ck
          rcases ct with e | e | e
          ·exact yg h x (by rw[ext,ug]) (.inr DX) e
          ·exact yg x h (by rw[ext,ug]) (.inl DX) e
          rw[<-e,hp]at DX;cases DX
        rfl
       have k4:nq hP [] ai=none:=by
        cases e:nq hP [] ai with
        | none=>rfl
        | some z=>
         obtain⟨g,dD⟩:=z;obtain⟨x,aa,Qz,_⟩:=Bk e;rw[Qi x aa]at Qz;cases Qz
       have aav:b9<w.heap.size:=(jz.1 yi).1;have aza:fJ ai ω b9=.bO:=j' b9 hP [] dT k4;have abR:¬(t0<=hP/\hP<t0+10000):=by rw[<-ug];exact Qo h bQ
       have Ql:∀b q,b<w.heap.size->ω b=.tok hP q->nq hP q ai=none->a' b=.tok hP q/\aS.heap[b]?=w.heap[b]?:=by
        intro b q bL az aR;have hi:=j' b hP q az aR;refine⟨?_,hblk b bL hi⟩;rw[hold b bL hi,az];simp only[oM];rw[ba abR]
       have Qk:∀x y d,c9 dO x y=some d->(∀z∈ai,z.p≠some (x,y))->b7 aS a' (fun q=>(Tag.own hP).R ((x,y)::q)) d (us x y):=by
        intro x y d ak a6;refine (aE x y d ak).frame fun b q bL az=>?_
        refine Ql b _ bL az ?_;cases e:nq hP ((x,y)::q) ai with
        | none=>rfl
        | some r=>
         obtain⟨g,dD⟩:=r;obtain⟨z,AQ,aco,_⟩:=Bk e;obtain⟨e1,e2⟩:=R8 aco;exfalso;cases rn:z.p with
         | none=>
          have:=Qi z AQ;unfold dw.fit at this;rw[bi e1,rn]at this;simp at this
         | some r=>
          rw[rn]at e2;simp only[zV,List.cons_append,List.nil_append,sb]at e2;exact a6 z AQ (by rw[rn,<-e2.1])
       have key:∀x y d,c9 (dO.set a0 (mM ai ds)) x y=some d->b7 aS a' (fun q=>(Tag.own hP).R ((x,y)::q)) d (us x y):=by
        intro x y d ak;by_cases aa:x=a0
        ·subst aa;have kI:(mM ai ds)[y]?=some d:=by
          simpa[c9,iT,PK]using ak
         rcases KR kI with⟨z,a6,ej,cH,h1,U,rfl⟩ | ⟨h1,U⟩
         ·obtain⟨e1,e2,_⟩:=hV z a6 _ h1;have e2:ej=x:=e2;subst e2;obtain⟨kT,eP,azI,azC,ayQ,ayM,az2,ay4,g1,g2,g3,g4⟩:=(gC z a6).cell _ _ h1;rw[e1,<-ug,ee]at g1;simp only[bJ,Value.slice.injEq,aX,Addr.mk.injEq]at g1;obtain⟨rfl,⟨rfl,rfl,_⟩,_,_⟩:=g1;rw[yi]at g3;simp only[aX,Obj.cells.injEq]at g3;obtain⟨rfl,_,_⟩:=g3;have ack:y<ds.length:=by
           have:=(eW.1 kI).1;rwa[Bm]at this
          have fa:c9 dO ej y=some ds[y]:=by simp[c9,eI,ack]
          have acf:us ej y=vals z:=by
           have:=hu ej y _ fa;rw[g4]at this;exact (eE this).symm
          rw[acf];have aA:=QI z a6 cH U;rw[h1,e1]at aA;exact aA
         have fa:c9 dO x y=some d:=by simp[c9,eI,h1]
         refine Qk x y d fa fun z a6 rn=>?_
         obtain⟨_,_,cH,he⟩:=hV z a6 _ rn;exact U z a6 x cH rn he
        have fa:c9 dO x y=some d:=by
         simp only[c9,iT]at ak;rw[ba (by omega)]at ak;exact ak
        refine Qk x y d fa fun z a6 rn=>?_
        obtain⟨_,e2,_⟩:=hV z a6 _ rn;exact aa e2
       have hJ:=Ql b9 [] aav dT k4;have:=b7.row (w:=aS) (ω:=a') (Tag.own hP).R k (dO.set a0 (mM ai ds)) b9 off cap arr ty c0 us (hJ.2.trans yi) hJ.1 (by rw[hlen];exact aaH) eT
        (fun e he=>by
         rcases hb he with eF | rfl
         ·exact hk e eF
         rw[Bm];exact sI)
        (fun x y d ak=>by
         have pg:x<dO.length/\y<k:=by
          have ja:∀e∈dO.set a0 (mM ai ds),e.length=k:=fun e he=>by
           rcases hb he with eF | rfl
           ·exact hk e eF
           rw[Bm];exact sI
          have eF:x<(dO.set a0 (mM ai ds)).length/\y<k:=by
           unfold c9 at ak;cases tM:(dO.set a0 (mM ai ds))[x]? with
           | none=>simp[tM]at ak
           | some row=>
            simp only[tM,mZ]at ak;have hm:=ja row (fF tM);exact⟨(eW.1 tM).1,by rw[<-hm];exact (eW.1 ak).1⟩
          rw[hlen]at eF;exact eF
         have ud:(dO[x]'pg.1).length=k:=hk _ (zP pg.1);exact hu x y ((dO[x]'pg.1)[y]'(by omega)) (by simp[c9,pg.1,ud,pg.2]))
        key
       rw[hlen]at this;rw[ug];exact this
     exact trivial
 have cell:∀(n:Nat) (d:D) (u:Value),n<10000->nA rs v n=u->(∀k es,d=.J k es->qa rs n=k)->b7 aS fq (Tag.own n).R d u->Sat aS a' cW (d.pK (t0+n)) u:=by
  intro n d u aR bF hk aA;cases d with
  | v x=>
   have e:u=x:=by cases aA;rfl
   subst e;unfold D.pK;split
   ·rename_i h;cases h;exact rfl
   ·rename_i h;cases h;exact rfl
   ·rename_i h;cases h
   ·exact trivial
   exact trivial
  | ptr ds=>exact trivial
  | cl g bB=>exact trivial
  | J k es=>
   refine⟨aA.frame fun b q bL az=>⟨?_,rfl⟩,?_⟩
   ·simp only[Tag.R]at az ⊢;rw[gg b (by rw[az];simp),az];simp only[Bl];rw[ba (by simp only[dj];omega)]
   simp only[Tag.ee,cW];rw[bi (by omega),show t0+n-t0=n by omega,bF,hk k es rfl]
 have tK:∀(r:Nat) (cB:cQ) (y:Value),r<100->(∀ds,cB=.agg ds->ds.length<100)->rs[r]?=some cB->(∀j,j<100->nA rs v (100*r+j)=y.cells.getD j undef)->mi aS fq r cB y->kj (Sat aS a' cW) (cB.res (t0+100*r)) y:=by
  intro r cB y aA eI AE bF nz;have gq:∀j,j<100->qa rs (100*r+j)=(match cQ.cell j cB with | some (.J k _)=>k | _=>0):=by
   intro j bd;unfold qa;rw[show (100*r+j) / 100=r by omega,show (100*r+j) % 100=j by omega,AE];rfl
  cases cB with
  | one d=>
   have h1:=nz.pt;have U:=bF 0 (by omega);rw[Bf h1]at U;have:=cell (100*r) d y (by omega) (by simpa using U) (fun k es e=>by
    have:=gq 0 (by omega);rw[m']at this;rw[this,e];rfl) nz
   exact this
  | agg ds=>
   obtain⟨vs,rfl,aR,bd⟩:=nz;refine⟨vs,rfl,by rw[y3];exact aR,fun j l ag=>?_⟩;rw[Bj,b8]at ag;obtain⟨d,aE,rfl⟩:=ag;obtain⟨u,hu,AF⟩:=bd j d aE;have lv:j<100:=by
    have:=(eW.1 aE).1;have:=eI ds rfl;omega
   refine⟨u,hu,?_⟩;have:=cell (100*r+j) d u (by omega) (by rw[bF j lv];simp[Value.cells,ew,hu]) (fun k es e=>by
    rw[gq j lv];simp only[cQ.cell,aE,e]) AF
   rw[show t0+100*r+(0+j)=t0+(100*r+j) by omega];exact this
 simp only[uF,cm,cr]at eQ;have eI:∀(r:Nat) (cB:cQ),rs[r]?=some cB->∀ds,cB=.agg ds->ds.length<100:=by
  intro r cB aA ds e;have:=fK.1 eQ.2 cB (fF aA);subst e;simpa using this
 have Qc:∀b,ω b≠.bO->w0.D4 b:=fun b h=>(aZ.owned b h).1
 have P4:∀b,fJ ai ω b≠.bO->ω b≠.bO:=fun b h e=>h (qc b e)
 refine⟨a',cW,aZ.di _ eS ?_ ?_ (fun id b cA=>yD id b cA) ?_ (fun s ai=>by simp only[cW];rw[ba (by omega)]),?_⟩
 ·refine⟨aj.os.trans aZ.below.os,aj.tape.trans aZ.below.tape,aj.output.trans aZ.below.output,nc aZ.below.size aj.size,fun k hk av=>?_,fun ai=>nc (aZ.below.drawn ai) (aj.drawn ai),aj.laid,aZ.below.free⟩;have rk:k<w.heap.size:=zT hk aZ.below.size;have hi:fJ ai ω k=.bO:=by
   cases e:fJ ai ω k with
   | bO=>rfl
   | _=>
    have:=Qc k (P4 k (by rw[e];simp));rcases this with h | h
    ·omega
    exact absurd h av
  exact (hblk k rk hi).trans (aZ.below.block k hk av)
 ·intro b fS;by_cases ak:b<w.heap.size/\fJ ai ω b=.bO
  ·rw[hold b ak.1 ak.2]at fS;have U:ω b≠.bO:=fun e=>by rw[e]at fS;exact fS rfl
   obtain⟨ax,arr,ty,aK⟩:=aZ.owned b U;exact⟨ax,arr,ty,(hblk b ak.1 ak.2).trans aK⟩
  have U:fq b≠.bO:=fun e=>by
   simp only[a']at fS;rw[ba ak,e]at fS;exact fS rfl
  obtain⟨_,arr,ty,aK⟩:=kI b U;refine⟨?_,arr,ty,aK⟩;rcases sa b w.heap.size with bL | nC
  ·exact Qc b (P4 b fun e=>ak ⟨bL,e⟩)
  exact .inl (by have:=aZ.below.size;omega)
 ·intro id b cA;by_cases ak:b<w.heap.size/\fJ ai ω b=.bO
  ·rw[hold b ak.1 ak.2]at cA;cases e:ω b with
   | bO=>rw[e]at cA;cases cA
   | box i=>rw[e]at cA;exact cA
   | tok s q=>rw[e]at cA;simp only[oM]at cA;split at cA<;>cases cA
  simp only[a']at cA;rw[ba ak]at cA;cases e:fq b with
  | bO=>rw[e]at cA;cases cA
  | box i=>rw[e]at cA;cases cA
  | tok s q=>
   rw[e]at cA;simp only[Bl]at cA;split at cA
   ·split at cA<;>cases cA
   cases cA
 cases rs with
 | nil=>
  obtain⟨vs,rfl,aR,_⟩:=k2;exact⟨vs,rfl,aR,fun i a ae=>by simp[qJ]at ae⟩
 | cons cB rest=>
  cases rest with
  | nil=>
   have:=tK 0 cB v (by omega) (eI 0 cB rfl) rfl (fun j bd=>by
    unfold nA;simp only[Nat.mul_zero,dG];rw[C4 bd]) k2
   exact this
  | cons Pk rest=>
   obtain⟨vs,rfl,aR,bF⟩:=k2;refine⟨vs,rfl,by rw[E1];exact aR,fun i a ae=>?_⟩;rw[E0,b8]at ae;obtain⟨n5,h1,rfl⟩:=ae;obtain⟨y,bu,Ar⟩:=bF i n5 h1;have jC:i<100:=by
    have:=(eW.1 h1).1;omega
   refine⟨y,bu,?_⟩;have:=tK i n5 y jC (eI i n5 h1) h1 (fun j bd=>by
    unfold nA;simp only;rw[show (100*i+j) / 100=i by omega,show (100*i+j) % 100=j by omega];simp[ew,bu]) Ar
   rw[dG];exact this
end Go.Sx
namespace Go.Sx
open Go.RowKit
variable{w:World}{ω:Own}{τ:Nat->Nat×Value}{ai:List dw}{l:aH}{d:D}{y:Value}
theorem Sc(h:l.gA=some d)(hm:l.po ai=false)(dg:Sat w ω τ l y):b7 w (fJ ai ω) Tag.free.R d y:=by
 have qc:∀b,ω b=.bO->fJ ai ω b=.bO:=fun b h=>by simp only[fJ,h]
 have j':∀b s q,ω b=.tok s q->r3 ai s=false->fJ ai ω b=.bO:=fun b s q h U=>by simp only[fJ,h,KQ U]
 have tag:∀(g:Tag) (b:Nat) (q:List (Nat×Nat)),g.nH ai=false->g.R q (ω b)->fJ ai ω b=.bO:=by
  intro g b q av az;cases g with
  | free=>exact qc b az
  | own s=>exact j' b s q az av
  | ro s=>
   rcases az with h | ⟨dD,h⟩
   ·exact qc b h
   exact j' b s dD h av
 cases l with
 | cq=>cases h
 | v x=>
  simp only[aH.gA]at h;split at h
  ·simp only[aX]at h;subst h;have:y=x:=dg;subst this;exact .v _ _ ‹_›
  cases h
 | bc c=>
  simp only[aH.gA,aX]at h;subst h;have:y=.bool c:=dg;subst this;exact .v _ _ rfl
 | J t k es=>simp only[aH.gA,aX]at h;subst h;exact dg.1.frame fun b q _ az=>⟨tag t b q hm az,rfl⟩
 | ptr=>cases h
 | ep=>cases h
 | gP=>cases h
 | ft=>cases h
 | h0 ds off=>
  simp only[aH.gA]at h;split at h
  ·rename_i aU;subst aU;simp only[aX]at h;subst h;obtain⟨b,rfl,aA⟩:=dg;exact aA.frame fun b q _ az=>⟨qc b az,rfl⟩
  cases h
 | fd dE=>simp only[aH.gA,aX]at h;subst h;exact b7.frame dg fun b q _ az=>⟨qc b az,rfl⟩
 | dx t k es=>simp only[aH.gA,aX]at h;subst h;exact b7.frame dg.1 fun b q _ az=>⟨qc b az,rfl⟩
 | aO t i j k es m=>
  obtain⟨u,hu,aA,_⟩:=dg;cases m with
  | at_ x z=>cases h
  | here=>simp only[aH.gA,aX]at h;subst h;have:y=u:=hu;subst this;exact aA.frame fun b q _ az=>⟨j' b t _ az hm,rfl⟩
  | lU=>simp only[aH.gA,aX]at h;subst h;have:y=u:=hu;subst this;exact aA.frame fun b q _ az=>⟨j' b t _ az hm,rfl⟩
variable{bs:lO}
theorem Sd(aj:wN w ω τ bs){id b:Nat}(h:x4 bs id=some d)(hm:(match dF id bs with | some ls=>ls.any (aH.po ai) | none=>true)=false)(aU:ω b=.box id):
  b7 w (fJ ai ω) Tag.free.R d (ptrTo b):=by
 unfold x4 at h;cases e:dF id bs with
 | none=>simp[e]at h
 | some ls=>
  rw[e]at hm;simp only[fh,vx]at hm;simp only[e,mZ,b8]at h;obtain⟨ds,h1,rfl⟩:=h;obtain⟨da,arr,ty,dz,hu,bQ,dg⟩:=aj id ls e;have:=hu b aU;subst this;obtain⟨U,ax⟩:=nN h1;have cell:∀j d,ds[j]?=some d->arr[j]?=some (arr.getD j undef)/\b7 w (fJ ai ω) Tag.free.R d (arr.getD j undef):=by
   intro j d aE;obtain⟨l,ag,dq⟩:=ax j d aE;obtain⟨u,fV,fk⟩:=dg.2 j l ag;have e2:arr.getD j undef=u:=by simp[ew,fV]
   rw[e2];exact⟨fV,Sc dq (hm l (fF ag)) fk⟩
  exact b7.ptr _ ds b arr ty (0,0) (fun j=>arr.getD j undef) bQ (by show fJ ai ω b=.bO;simp only[fJ,aU]) (by have:=dg.1;omega) (fun j d aE=>(cell j d aE).1) (fun j d aE=>(cell j d aE).2.frame fun _ _ _ h=>⟨h,rfl⟩)
theorem asB(aj:wN w ω τ bs)(h:l.j1 bs=some d)(hm:l.nH bs ai=false)(dg:Sat w ω τ l y):
  b7 w (fJ ai ω) Tag.free.R d y:=by
 unfold aH.j1 at h;split at h
 ·rename_i id off;split at h
  ·rename_i aU;subst aU;obtain⟨b,h1,rfl⟩:=dg;exact Sd aj h hm h1
  cases h
 ·rename_i g ids;rw[b8]at h;obtain⟨ds,h1,rfl⟩:=h;obtain⟨n9,rfl,aR,hi⟩:=dg;obtain⟨U,ax⟩:=nN h1;simp only[aH.nH,fh,vx]at hm;have cell:∀j d,ds[j]?=some d->(n9.map ptrTo).toArray[j]?=some ((n9.map ptrTo).toArray.getD j undef)/\b7 w (fJ ai ω) Tag.free.R d ((n9.map ptrTo).toArray.getD j undef):=by
   intro j d aE;obtain⟨id,fT,H4⟩:=ax j d aE;obtain⟨b,hJ,gp⟩:=hi j id fT;have e1:(n9.map ptrTo).toArray[j]?=some (ptrTo b):=by simp[hJ]
   have e2:(n9.map ptrTo).toArray.getD j undef=ptrTo b:=by rw[ew,e1];rfl
   rw[e2];exact⟨e1,Sd aj H4 (hm id (fF fT)) gp⟩
  exact b7.cl _ g ds _ (fun j=>(n9.map ptrTo).toArray.getD j undef) (by simp;omega) (fun j d aE=>(cell j d aE).1) (fun j d aE=>(cell j d aE).2.frame fun _ _ _ h=>⟨h,rfl⟩)
 rename_i wa abD;have v7:l.po ai=false:=by
  unfold aH.nH at hm;split at hm
  ·exact absurd rfl (wa _ _)
  ·exact absurd rfl (abD _ _)
  exact hm
 exact Sc h v7 dg
structure ZD (w:World) (ω:Own) (τ:Nat->Nat×Value) (ai:List dw) (i j:Nat) (c:gb) (aa:List dw) (y:Value):Prop where
 gc:vD w (fJ ai ω) (fx i j) c y
 at_:∀h∈aa,h.i=i/\h.j=j/\C9 w ω τ h y/\c=.hI h.k h.es h.post
 one:y.oneCell'=true
variable{i:Nat}
theorem KS(bP:oN ai=true)(aj:wN w ω τ bs){j:Nat}{m:pT}{c:gb}{aa:List dw}{rx:List aH}
  (h:x6 bs i j m l=some (c,aa,rx)) (jo:∀x∈aa,x∈ai) (yt:∀x∈rx,x.nH bs ai=false) (dg:Sat w ω τ l y):ZD w ω τ ai i j c aa y:=by
 unfold x6 at h;split at h
 ·rw[b8]at h;obtain⟨d,h1,h⟩:=h;simp only[bJ]at h;obtain⟨rfl,rfl,rfl⟩:=h;have:=asB aj h1 (yt _ (by simp)) dg;exact⟨this,fun x aa=>by simp at aa,this.pt⟩
 ·rename_i post t k es;simp only[aX,bJ]at h;obtain⟨rfl,rfl,rfl⟩:=h;have qe:=jo _ (eO);refine⟨dg.1.frame fun b q _ az=>⟨?_,rfl⟩,fun x aa=>?_,dg.1.pt⟩
  ·simp only[Tag.R]at az ⊢;simp only[fJ,az];have:=KP (t:=t) (q:=q) (dD:=q) bP qe (R9 ⟨i,j,t,none,k,es,post⟩ q);simp only[this]
  simp only[List.mem_singleton]at aa;subst aa;exact⟨rfl,rfl,⟨dg.1.frame fun b q _ az=>⟨az,rfl⟩,fun _=>dg.2,fun a b e=>by cases e⟩,rfl⟩
 ·rename_i post t a b k es;simp only[aX,bJ]at h;obtain⟨rfl,rfl,rfl⟩:=h;have qe:=jo _ (eO);obtain⟨hQ,rm,dg⟩:=dg;have:y=hQ:=rm;subst this;refine⟨dg.1.frame fun c q _ az=>⟨?_,rfl⟩,fun x aa=>?_,dg.1.pt⟩
  ·simp only[Tag.R]at az ⊢;simp only[fJ,az];have:=KP (t:=t) (q:=(a,b)::q) (dD:=q) bP qe (R9 ⟨i,j,t,some (a,b),k,es,post⟩ q);simp only[this]
  simp only[List.mem_singleton]at aa;subst aa;refine⟨rfl,rfl,⟨dg.1.frame fun b q _ az=>⟨az,rfl⟩,fun e=>(by cases e),fun cJ da e=>?_⟩,rfl⟩;simp only[aX,bJ]at e;obtain⟨rfl,rfl⟩:=e;exact dg.2 rfl
 cases h
theorem Se:∀{ms:List pT} {ls:List aH} {j:Nat} {cs:List gb} {aa:List dw} {rx:List aH},pB bs i j ms ls=some (cs,aa,rx)->cs.length=ls.length
 | [],[],j,cs,aa,rx,h=>by simp only[pB,aX,bJ]at h;obtain⟨rfl,_,_⟩:=h;rfl
 | m::ms,l::ls,j,cs,aa,rx,h=>by
  simp only[pB]at h;split at h
  ·rename_i c h1 bI Pu ue zy e1 e2;simp only[aX,bJ]at h;obtain⟨rfl,_,_⟩:=h;simp[Se e2]
  cases h
 | [],_::_,j,cs,aa,rx,h=>by simp[pB]at h
 | _::_,[],j,cs,aa,rx,h=>by simp[pB]at h
theorem Sf:∀{ms:List pT} {ls:List aH} {j:Nat} {cs:List gb} {aa:List dw} {rx:List aH},pB bs i j ms ls=some (cs,aa,rx)->
  (∀(x:Nat) (c:gb),cs[x]?=some c->∃l m h1 bI,ls[x]?=some l/\x6 bs i (j+x) m l=some (c,h1,bI)/\(∀z∈h1,z∈aa)/\(∀z∈bI,z∈rx))/\
  (∀h∈aa,∃(x:Nat) (c:gb) (l:aH) (m:pT) (h1:List dw) (bI:List aH),cs[x]?=some c/\ls[x]?=some l/\x6 bs i (j+x) m l=some (c,h1,bI)/\h∈h1/\(∀z∈h1,z∈aa)/\(∀z∈bI,z∈rx))
 | [],[],j,cs,aa,rx,h=>by
  simp only[pB,aX,bJ]at h;obtain⟨rfl,rfl,rfl⟩:=h;exact⟨fun x c ak=>by simp at ak,fun h bQ=>by simp at bQ⟩
 | m::ms,l::ls,j,cs,aa,rx,h=>by
  simp only[pB]at h;split at h
  ·rename_i c h1 bI Pu ue zy e1 e2;simp only[aX,bJ]at h;obtain⟨rfl,rfl,rfl⟩:=h;obtain⟨cG,cg⟩:=Sf e2;refine⟨fun x j2 ak=>?_,fun z a6=>?_⟩
   ·cases x with
    | zero=>
     simp only[kg,aX]at ak;subst ak;exact⟨l,m,h1,bI,rfl,e1,fun z a6=>gN _ a6,fun z a6=>gN _ a6⟩
    | succ x=>
     obtain⟨hg,jr,U,b2,g1,g2,g3,g4⟩:=cG x j2 (by simpa using ak);exact⟨hg,jr,U,b2,by simpa using g1,by rw[show j+(x+1)=j+1+x by omega];exact g2,fun z a6=>hR _ (g3 z a6),fun z a6=>hR _ (g4 z a6)⟩
   rcases hD.1 a6 with a6 | a6
   ·exact⟨0,c,l,m,h1,bI,rfl,rfl,e1,a6,fun z a6=>gN _ a6,fun z a6=>gN _ a6⟩
   obtain⟨x,j2,hg,jr,U,b2,g0,g1,g2,g5,g3,g4⟩:=cg z a6;exact⟨x+1,j2,hg,jr,U,b2,by simpa using g0,by simpa using g1,by rw[show j+(x+1)=j+1+x by omega];exact g2,g5,fun z a6=>hR _ (g3 z a6),fun z a6=>hR _ (g4 z a6)⟩
  cases h
 | [],_::_,j,cs,aa,rx,h=>by simp[pB]at h
 | _::_,[],j,cs,aa,rx,h=>by simp[pB]at h
structure ZC (w:World) (ω:Own) (τ:Nat->Nat×Value) (ai:List dw) (i:Nat) (fc:GA) (aa:List dw) (y:Value):Prop where
 aaf:O8 w (fJ ai ω) i fc y
 at_:∀h∈aa,h.i=i/\C9 w ω τ h (cellOf y h.j)/\fc.cell h.j=some (.hI h.k h.es h.post)
theorem Sg(bP:oN ai=true)(aj:wN w ω τ bs){ms:List pT}{p:aJ}{fc:GA}{aa:List dw}{rx:List aH}
  (h:z6 bs i ms p=some (fc,aa,rx)) (jo:∀x∈aa,x∈ai) (yt:∀x∈rx,x.nH bs ai=false) (dg:cU (Sat w ω τ) p y):ZC w ω τ ai i fc aa y:=by
 unfold z6 at h;split at h
 ·rename_i l;split at h
  ·rename_i m;rw[b8]at h;obtain⟨⟨c,h1,bI⟩,e,h⟩:=h;simp only[bJ]at h;obtain⟨rfl,rfl,rfl⟩:=h;have:=KS bP aj e jo yt dg;refine⟨this.gc,fun x aa=>?_⟩;obtain⟨e1,e2,ck,dX⟩:=this.at_ x aa;have Z':cellOf y x.j=y:=by rw[e2,cellOf,Bf this.one];rfl
   rw[Z'];exact⟨e1,ck,by simp[GA.cell,e2,dX]⟩
  cases h
 ·rename_i ls;rw[b8]at h;obtain⟨⟨cs,h1,bI⟩,e,h⟩:=h;simp only[bJ]at h;obtain⟨rfl,rfl,rfl⟩:=h;obtain⟨us,rfl,aR,hu⟩:=dg;obtain⟨cG,cg⟩:=Sf e;refine⟨⟨us,rfl,by rw[Se e];exact aR,fun x c ak=>?_⟩,fun z a6=>?_⟩
  ·obtain⟨l,m,U,b2,g1,g2,g3,g4⟩:=cG x c ak;obtain⟨u,fV,fk⟩:=hu x l g1;rw[dG]at g2;exact⟨u,fV,(KS bP aj g2 (fun z a6=>jo z (g3 z a6)) (fun z a6=>yt z (g4 z a6)) fk).gc⟩
  obtain⟨x,c,l,m,U,b2,g0,g1,g2,g5,g3,g4⟩:=cg z a6;obtain⟨u,fV,fk⟩:=hu x l g1;rw[dG]at g2;obtain⟨e1,e2,ck,dX⟩:=(KS bP aj g2 (fun z a6=>jo z (g3 z a6)) (fun z a6=>yt z (g4 z a6)) fk).at_ z g5;refine⟨e1,?_,by simp only[GA.cell,e2,g0,dX]⟩;have:cellOf (.agg us) z.j=u:=by simp[cellOf,Value.cells,e2,ew,fV]
  rw[this];exact ck
 cases h
theorem Sh:∀{Jt:List (List pT)} {cF:List aJ} {i:Nat} {gs:List GA} {aa:List dw} {rx:List aH},vL bs i Jt cF=some (gs,aa,rx)->gs.length=cF.length/\
  (∀(x:Nat) (fc:GA),gs[x]?=some fc->∃p ms h1 bI,cF[x]?=some p/\z6 bs (i+x) ms p=some (fc,h1,bI)/\(∀z∈h1,z∈aa)/\(∀z∈bI,z∈rx))/\
  (∀h∈aa,∃(x:Nat) (fc:GA) (p:aJ) (ms:List pT) (h1:List dw) (bI:List aH),gs[x]?=some fc/\cF[x]?=some p/\z6 bs (i+x) ms p=some (fc,h1,bI)/\h∈h1/\(∀z∈h1,z∈aa)/\(∀z∈bI,z∈rx))
 | [],[],i,gs,aa,rx,h=>by
  simp only[vL,aX,bJ]at h;obtain⟨rfl,rfl,rfl⟩:=h;exact⟨rfl,fun x c ak=>by simp at ak,fun h bQ=>by simp at bQ⟩
 | m::ms,l::ls,i,gs,aa,rx,h=>by
  simp only[vL]at h;split at h
  ·rename_i c h1 bI Pu ue zy e1 e2;simp only[aX,bJ]at h;obtain⟨rfl,rfl,rfl⟩:=h;obtain⟨dC,cG,cg⟩:=Sh e2;refine⟨by simp[dC],fun x j2 ak=>?_,fun z a6=>?_⟩
   ·cases x with
    | zero=>
     simp only[kg,aX]at ak;subst ak;exact⟨l,m,h1,bI,rfl,e1,fun z a6=>gN _ a6,fun z a6=>gN _ a6⟩
    | succ x=>
     obtain⟨hg,jr,U,b2,g1,g2,g3,g4⟩:=cG x j2 (by simpa using ak);exact⟨hg,jr,U,b2,by simpa using g1,by rw[show i+(x+1)=i+1+x by omega];exact g2,fun z a6=>hR _ (g3 z a6),fun z a6=>hR _ (g4 z a6)⟩
   rcases hD.1 a6 with a6 | a6
   ·exact⟨0,c,l,m,h1,bI,rfl,rfl,e1,a6,fun z a6=>gN _ a6,fun z a6=>gN _ a6⟩
   obtain⟨x,j2,hg,jr,U,b2,g0,g1,g2,g5,g3,g4⟩:=cg z a6;exact⟨x+1,j2,hg,jr,U,b2,by simpa using g0,by simpa using g1,by rw[show i+(x+1)=i+1+x by omega];exact g2,g5,fun z a6=>hR _ (g3 z a6),fun z a6=>hR _ (g4 z a6)⟩
  cases h
 | [],_::_,i,gs,aa,rx,h=>by simp[vL]at h
 | _::_,[],i,gs,aa,rx,h=>by simp[vL]at h
def E2:List dw->Option (Nat×Nat)
 | []=>none
 | h::r=>match h.p with | some p=>some (h.t,p.1) | none=>E2 r
theorem Si:∀{ai:List dw},E2 ai=none->∀h∈ai,h.p=none
 | [],_,h,bQ=>by cases bQ
 | x::r,e,h,bQ=>by
  simp only[E2]at e;split at e
  ·cases e
  rename_i hp;rcases ez.1 bQ with rfl | bQ
  ·exact hp
  exact Si e h bQ
def Bn(a:Nat):List dw->List Prop
 | []=>[]
 | h::r=>match h.p with | some p=>(p.1=a)::Bn a r | none=>Bn a r
theorem KT{a:Nat}:∀{ai:List dw},cO (Bn a ai)->∀h∈ai,∀p,h.p=some p->p.1=a
 | [],_,h,bQ,_,_=>by cases bQ
 | x::r,aU,h,bQ,p,hp=>by
  simp only[Bn]at aU;split at aU
  ·rename_i q az;rcases ez.1 bQ with rfl | bQ
   ·rw[hp]at az;rw[eE az];exact aU.1
   exact KT aU.2 h bQ p hp
  rename_i az;rcases ez.1 bQ with rfl | bQ
  ·rw[hp]at az;cases az
  exact KT aU h bQ p hp
def KU(st:aF)(ai:List dw)(src:Nat)(ds:List D):Option (Nat×Nat×List (List D)×List Prop):=
 match E2 ai with
 | none=>some (0,0,[],[])
 | some (t,a)=>
  match (st.env.getD src .cq).leaf with
  | some (.J (.own s) k es)=>
   if s=t/\ds.length=k/\ai.all (fun h=>match h.p with | some _=>h.t==t&&h.post.isSome | none=>true)=true then
    some (t,k,es.set a (mM ai ds),(es[a]?=some ds)::Bn a ai)
   else none
  | _=>none
theorem asC{w0:eK}{st:aF}{a:Act}(aZ:cI w0 st a w ω τ){src:Nat}{ds:List D}{t k:Nat}{es:List (List D)}{obs:List Prop}
  (h:KU st ai src ds=some (t,k,es,obs)) (aU:cO obs):Pc w ω τ ai t k es:=by
 unfold KU at h;split at h
 ·rename_i aR;exact⟨fun x aa p hp _=>by rw[Si aR x aa]at hp;cases hp⟩
 rename_i dt cJ bw;split at h
 ·rename_i s cn cH ag;split at h
  ·rename_i ak;obtain⟨rfl,sI,hV⟩:=ak;simp only[aX,bJ]at h;obtain⟨rfl,rfl,rfl,rfl⟩:=h;rw[fK]at hV;refine⟨fun x aa p hp _=>?_⟩;have mB:∃y,Sat w ω τ (.J (.own s) cn cH) y:=by
    rw[iv]at ag;cases e:st.env[src]? with
    | none=>rw[e]at ag;simp[aJ.leaf]at ag
    | some p=>
     rw[e]at ag;obtain⟨v,_,U⟩:=aZ.env src p e;exact⟨v,aJ.dN ag U⟩
   obtain⟨y,bu⟩:=mB;refine⟨cH,y,ds,cJ,bu,aU.1,sI,rfl,fun z a6 q az=>?_⟩;have h1:=hV z a6;simp only[az,cm,ed,pQ]at h1;exact⟨h1.1,KT aU.2 z a6 q az,h1.2⟩
  cases h
 cases h
def KV(P:Program)(st:aF)(d:Option Nat)(f:FuncId)(args:List Operand)(ans:List ci):Option (aF×List ci×List Prop):=
 match ans with
 | .xH ww src ds rs::r=>
  match vL st.boxes 0 ww (args.map st.br) with
  | some (gs,ai,pL)=>
   match KU st ai src ds with
   | some (hP,ow,pY,obs)=>
    let t0:=10000*(d.getD 0+1)
    if jJ P f=true/\uF rs=true/\t0+10000<=dj/\oN ai=true/\pL.all (fun l=>!(l.nH st.boxes ai))=true/\ai.all (fun h=>!(decide (t0<=h.t)&&decide (h.t<t0+10000)))=true then
     let bE:=st.map (rH ai t0 hP ow pY)
     match d with
     | some d=>some (⟨bE.env.set d (tm t0 rs),bE.boxes⟩,r,vG P f gs rs::obs)
     | none=>some (bE,r,vG P f gs rs::obs)
    else none
   | none=>none
  | none=>none
 | _=>none
theorem asD{P:Program}{w0:eK}{st bE:aF}{a:Act}{dst:Option Nat}{f:FuncId}{args:Array Operand}{ts:Array TypeId}{type:TypeId}{pos:String}{after:Array Edge}{guard:Option (Nat×Bool)}{ans cu:List ci}{obs:List Prop}
  (aZ:cI w0 st a w ω τ) (h:KV P st dst f args.toList ans=some (bE,cu,obs)) (aU:cO obs) {K:Act->World->Prop} {Q:Exit->Act->World->Prop} (h8:∀cJ aS,Rel w0 bE cJ aS->K cJ aS):
  Oper.wp P ⟨dst,.call ⟨.value (.func f),args,ts⟩,type,pos,after,guard⟩ a w K Q:=by
 unfold KV at h;split at h
 ·rename_i ww src ds rs r;split at h
  ·rename_i gs ai pL mw;split at h
   ·rename_i hP ow pY fM jo;simp only at h;split at h
    ·rename_i ak;obtain⟨hv,eQ,ia,bP,AB,yr⟩:=ak;rw[fK]at AB yr;have AD:∀l∈pL,l.nH st.boxes ai=false:=fun l ag=>by simpa using AB l ag
     have abU:∀h∈ai,¬(10000*(dst.getD 0+1)<=h.t/\h.t<10000*(dst.getD 0+1)+10000):=fun h bQ=>by
      have:=yr h bQ;simp only[fP,Bool.and_eq_false_iff,kA]at this;omega
     obtain⟨hlen,cG,cg⟩:=Sh mw;have gC:∀(x:Nat) (p:aJ),(args.toList.map st.br)[x]?=some p->∃v,(args.map a.eval)[x]?=some v/\cU (Sat w ω τ) p v:=by
      intro x p hp;rw[du,b8]at hp;obtain⟨o,h1,rfl⟩:=hp;refine⟨a.eval o,?_,aZ.br o⟩;rw[zU];rw[nY]at h1;rw[h1];rfl
     have aa0:Hd w (fJ ai ω) gs (args.map a.eval):=by
      refine⟨fun b aj=>?_,by simp[hlen],fun x fc aa=>?_⟩
      ·have dr:ω b≠.bO:=fun e=>aj (by simp only[fJ,e])
       obtain⟨_,arr,ty,aK⟩:=aZ.owned b dr;refine⟨?_,arr,ty,aK⟩;simp only[fJ]at aj ⊢;cases e:ω b with
       | bO=>simp[e]at aj
       | box id=>simp[e]at aj
       | tok t q=>
        simp only[e]at aj ⊢;cases e2:nq t q ai with
        | none=>simp[e2]at aj
        | some z=>
         obtain⟨g,dD⟩:=z;obtain⟨y,_,_,rfl⟩:=Bk e2;exact⟨_,dD,rfl,by simp[fx]⟩
      obtain⟨p,ms,h1,bI,g1,g2,g3,g4⟩:=cG x fc aa;obtain⟨v,bF,uf⟩:=gC x p g1;rw[dG]at g2;exact⟨v,bF,(Sg bP aZ.boxes g2 g3 (fun z a6=>AD z (g4 z a6)) uf).aaf⟩
     have ra:∀h∈ai,C9 w ω τ h (cellOf ((args.map a.eval).getD h.i undef) h.j)/\∃fc,gs[h.i]?=some fc/\fc.cell h.j=some (.hI h.k h.es h.post):=by
      intro h bQ;obtain⟨x,fc,p,ms,h1,bI,g0,g1,g2,g5,g3,g4⟩:=cg h bQ;obtain⟨v,bF,uf⟩:=gC x p g1;rw[dG]at g2;obtain⟨e1,e2,ck⟩:=(Sg bP aZ.boxes g2 g3 (fun z a6=>AD z (g4 z a6)) uf).at_ h g5;have br:(args.map a.eval).getD h.i undef=v:=by rw[e1,ew,bF];rfl
      rw[br];exact⟨e2,fc,by rw[e1];exact g0,ck⟩
     have fU:(execOp a.eval ⟨dst,.call ⟨.value (.func f),args,ts⟩,type,pos,after,guard⟩).run P w=.ok (.enter f (args.map a.eval)) w:=by
      unfold jJ at hv;split at hv
      ·rename_i fn k4;simp only[cm,fP,xM,hc]at hv;have sC:fn.body≠none:=by intro e;rw[e]at hv;simp at hv
       simp[execOp,resolve,Act.eval,Deferred.ofValue,invoke,callFunc,k4,hv.1,sC]
      cases hv
     have key:vG P f gs rs->cO fM->(∀v aS a' cW,cI w0 (st.map (rH ai (10000*(dst.getD 0+1)) hP ow pY)) a aS a' cW->cU (Sat aS a' cW) (tm (10000*(dst.getD 0+1)) rs) v->K (a.put dst v) aS)->
       Oper.wp P ⟨dst,.call ⟨.value (.func f),args,ts⟩,type,pos,after,guard⟩ a w K Q:=by
      intro Ix Io HU;unfold Oper.wp;rw[fU];simp only[Oper.upon];refine (Ix w _ _ aa0 (aZ.tidy fun b aj=>by simp only[fJ,aj])).mono ?_;rintro e aS ⟨v,rfl,kH,fq,c1,c2,c6,eG⟩;obtain⟨a',cW,h1,U⟩:=aZ.ZY (10000*(dst.getD 0+1)) bP eQ ia abU kH fq c1 c2 eG (fun h=>cellOf ((args.map a.eval).getD h.i undef) h.j)
       (fun h bQ cH he=>by
        obtain⟨_,fc,g1,g2⟩:=ra h bQ;rw[he]at g2;exact c6 h.i h.j fc h.k h.es cH g1 g2)
       (fun h bQ=>(ra h bQ).1) (asC aZ jo Io)
      exact HU v aS a' cW h1 U
     cases dst with
     | none=>
      simp only[aX,bJ]at h;obtain⟨rfl,_,rfl⟩:=h;exact key aU.1 aU.2 fun v aS a' cW h1 _=>h8 _ _ ⟨a',cW,h1⟩
     | some d=>
      simp only[aX,bJ]at h;obtain⟨rfl,_,rfl⟩:=h;exact key aU.1 aU.2 fun v aS a' cW h1 U=>h8 _ _ ⟨a',cW,h1.put U⟩
    cases h
   cases h
  cases h
 cases h
