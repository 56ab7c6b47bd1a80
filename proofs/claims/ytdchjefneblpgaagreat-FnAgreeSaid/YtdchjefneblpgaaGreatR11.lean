import Derived.Test.YtdchjefneblpgaaGreatR6
set_option linter.unusedVariables false
set_option linter.unusedSimpArgs false
namespace Go.Sx
open Go.RowKit
def w8(t:Nat)(ms:ia)(k:Nat)(cB:List (List D)):aD->aD
 | .J (.own s) cb es=>if s=t then .J (.own t) k cB else if (ms.at s).isSome then .cu else .J (.own s) cb es
 | .ep (.own s) cb es i j=>if s=t then .ep (.own t) k cB i j else if (ms.at s).isSome then .cu else .ep (.own s) cb es i j
 | .J (.ro s) cb es=>if s=t then .cu else if (ms.at s).isSome then .cu else .J (.ro s) cb es
 | .ep (.ro s) cb es i j=>if s=t then .cu else if (ms.at s).isSome then .cu else .ep (.ro s) cb es i j
 | .a8 s a b dw dP m=>if s=t then .cu else if (ms.at s).isSome then .cu else .a8 s a b dw dP m
 | .fB _ _=>.cu
 | l=>l
def nK(t:Nat)(ms:ia):c0->c0
 | .tok s q=>if s=t then .tok s q else match ms.at s with | some p=>.tok t (p::q) | none=>.tok s q
 | o=>o
variable{t:Nat}{ms:ia}
theorem E4{o:c0}{id:Nat}:nK t ms o=.box id<->o=.box id:=by
 cases o with
 | bB=>simp[nK]
 | box i=>simp[nK]
 | tok s q=>
  simp only[nK];split
  ·simp
  ·split<;>simp
theorem anO{o:c0}:nK t ms o=.bB<->o=.bB:=by
 cases o with
 | bB=>simp[nK]
 | box i=>simp[nK]
 | tok s q=>
  simp only[nK];split
  ·simp
  ·split<;>simp
variable{i j:Nat}{ds:List D}
theorem Kb{es:List (List D)}{x:Nat}(hi:i<es.length):c5 (es.set i ds) x j=if x=i then ds[j]? else c5 es x j:=by
 unfold c5;rw[jy];by_cases h:i=x
 ·subst h;rw[aZ rfl,aZ hi,aZ rfl];rfl
 rw[a6 h,a6 (Ne.symm h)]
def lQ(ds:List D)(off:Nat)(xs:List D):List D:=ds.take off++(xs++ds.drop (off+xs.length))
theorem Rn{xs:List D}{off:Nat}(h:off+xs.length<=ds.length):(lQ ds off xs)[i]?=if off<=i/\i<off+xs.length then xs[i-off]? else ds[i]?:=by
 unfold lQ;rw[l7,qs,Nat.min_eq_left (by omega)];by_cases h1:i<off
 ·rw[aZ h1,a6 (by omega),hj,aZ h1]
 rw[a6 h1,l7];by_cases U:i-off<xs.length
 ·rw[aZ U,aZ (by omega)]
 rw[a6 U,a6 (by omega),gU]
 congr 1
 omega
theorem Ro{xs:List D}{off:Nat}(h:off+xs.length<=ds.length):(lQ ds off xs).length=ds.length:=by
 simp[lQ];omega
def Kc(t:Nat)(ms:ia):Bool:=ms.all fun x=>x.1≠t&&(match ms.at x.1 with | some p=>p.1==x.2.1&&p.2==x.2.2 | none=>false)
theorem anP(h:Kc t ms=true){s:Nat}{p:Nat×Nat}(hm:(s,p)∈ms):s≠t/\ms.at s=some p:=by
 have h1:=fW.1 h _ hm;simp only[b8,b']at h1;refine⟨h1.1,?_⟩;have U:=h1.2;split at U
 ·rename_i q e;simp only[b8,dp]at U;rw[e,aO];exact Prod.ext U.1 U.2
 cases U
theorem Kd(i:Nat):∀(xs:List aD) (j:Nat),l1 i j xs=(l1 0 j xs).map fun x=>(x.1,(i,x.2.2))
 | [],_=>rfl
 | l::ls,j=>by
  simp only[l1];split
  ·simp only[k8,sT,true_and];exact Kd i ls (j+1)
  exact Kd i ls (j+1)
theorem Rp(i s:Nat):∀ms:ia,ia.at s (ms.map fun x=>(x.1,(i,x.2.2)))=(ia.at s ms).map fun p=>(i,p.2)
 | []=>rfl
 | (a,p)::r=>by
  simp only[k8,ia.at];split
  ·rfl
  exact Rp i s r
theorem Ke(i0:Nat):∀(xs:List aD) (j s:Nat) (p:Nat×Nat),(s,p)∈l1 i0 j xs->p.1=i0
 | [],_,_,_,h=>by simp[l1]at h
 | l::ls,j,s,p,h=>by
  simp only[l1]at h;split at h
  ·rcases et.1 h with h | h
   ·simp only[bx]at h;rw[h.2]
   exact Ke i0 ls (j+1) s p h
  exact Ke i0 ls (j+1) s p h
theorem Rq{xs:List aD}(h:Kc t (l1 0 j xs)=true){s:Nat}{p:Nat×Nat}(hm:(s,p)∈l1 i j xs):s≠t/\(l1 i j xs).at s=some p:=by
 have hp:=Ke i xs j s p hm;rw[Kd]at hm ⊢;obtain⟨⟨uh,ri⟩,h1,U⟩:=jZ.1 hm;simp only[bx]at U;obtain⟨rfl,U⟩:=U;obtain⟨ax,aF⟩:=anP h h1;refine⟨ax,?_⟩;rw[Rp,aF,<-U];rfl
def wb.flat:wb->Bool
 | .at_ _ _=>false
 | _=>true
def vi(t:Nat):Nat->List aD->Option (List D×List Nat)
 | _,[]=>some ([],[])
 | j,.a8 s a b k es m::ls=>if s=t/\b=j/\m.flat=true then (vi t (j+1) ls).map fun r=>(.J k es::r.1,a::r.2) else none
 | j,l::ls=>
  match l.ju,vi t (j+1) ls with
  | some d,some r=>some (d::r.1,r.2)
  | _,_=>none
theorem Rr:∀{xs:List aD} {j:Nat} {ys:List D} {is:List Nat},vi t j xs=some (ys,is)->ys.length=xs.length/\
  ∀(y:Nat) (d:D),ys[y]?=some d->∃l,xs[y]?=some l/\(l.ju=some d\/∃a k es m,l=.a8 t a (j+y) k es m/\m.flat=true/\a∈is/\d=.J k es)
 | [],j,ys,is,h=>by
  simp only[vi,aO,bx]at h;obtain⟨rfl,rfl⟩:=h;exact⟨rfl,fun y d aB=>by simp at aB⟩
 | l::ls,j,ys,is,h=>by
  have fin:∀d0 Hu JK Ew,ys=d0::Hu->is=Ew->(∀a∈JK,a∈Ew)->vi t (j+1) ls=some (Hu,JK)->(l.ju=some d0\/∃a k es m,l=.a8 t a j k es m/\m.flat=true/\a∈Ew/\d0=.J k es)->ys.length=(l::ls).length/\
    ∀(y:Nat) (d:D),ys[y]?=some d->∃x,(l::ls)[y]?=some x/\(x.ju=some d\/∃a k es m,x=.a8 t a (j+y) k es m/\m.flat=true/\a∈is/\d=.J k es):=by
   rintro d0 Hu JK Ew rfl rfl j' az bl;obtain⟨h1,U⟩:=Rr az;refine⟨by simp[h1],fun y d aB=>?_⟩;cases y with
   | zero=>
    simp only[kE,aO]at aB;subst aB;exact⟨l,rfl,bl⟩
   | succ y=>
    obtain⟨x,aa,ax⟩:=U y d (by simpa using aB);refine⟨x,by simpa using aa,?_⟩;rcases ax with ax | ⟨a,k,es,m,aF,aQ,bb,bN⟩
    ·exact .inl ax
    exact .inr ⟨a,k,es,m,by rw[aF,show j+1+y=j+(y+1) by omega],aQ,j' a bb,bN⟩
  have plain:(match l.ju,vi t (j+1) ls with | some d,some r=>some (d::r.1,r.2) | _,_=>none)=some (ys,is)->ys.length=(l::ls).length/\
    ∀(y:Nat) (d:D),ys[y]?=some d->∃x,(l::ls)[y]?=some x/\(x.ju=some d\/∃a k es m,x=.a8 t a (j+y) k es m/\m.flat=true/\a∈is/\d=.J k es):=by
   intro h;split at h
   ·rename_i d r e1 e2;simp only[aO,bx]at h;exact fin d r.1 r.2 r.2 h.1.symm h.2.symm (fun _ h=>h) e2 (.inl e1)
   cases h
  cases l with
  | a8 s a b k es m=>
   simp only[vi]at h;split at h
   ·rename_i af;obtain⟨rfl,rfl,hm⟩:=af;rw[b2]at h;obtain⟨⟨cw,dt⟩,e2,h⟩:=h;simp only[bx]at h;exact fin _ cw dt (a::dt) h.1.symm h.2.symm (fun _ h=>fw _ h) e2 (.inr ⟨a,k,es,m,rfl,hm,eY,rfl⟩)
   cases h
  | _=>exact plain h
theorem E5:∀{l:List Nat},c8 (l.map fun a=>a=i)->∀a∈l,a=i
 | [],_,a,h=>by cases h
 | x::l,aN,a,h=>by
  rcases et.1 h with rfl | h
  ·exact aN.1
  exact E5 aN.2 a h
def Kf(P:Program)(st:aG)(ty:TypeId)(t k:Nat)(es:List (List D))(i j:Nat)(q:aI)(ans:List b6):Stepped:=
 match q.leaves,P.info? ty,ans with
 | some xs,some inf,.el ds::r=>
  match vi t j xs with
  | some (ys,is)=>
   if xs.length=inf.size/\ds.length=k/\j+ys.length<=k/\Kc t (l1 0 j xs)=true then
    some (st.map (w8 t (l1 i j xs) k (es.set i (lQ ds j ys))),r,(es[i]?=some ds)::is.map fun a=>a=i)
   else none
  | none=>none
 | _,_,_=>none
theorem cE.avj{P:Program}{w0:eN}{st br:aG}{a:Act}{w:World}{ω:Own}{τ:Nat->Nat×Value}{ty:TypeId}{k:Nat}{es:List (List D)}{q:aI}{v y:Value}{ans cj:List b6}{obs:List Prop}
  (aT:cE w0 st a w ω τ) (hp:Sat w ω τ (.ep (.own t) k es i j) y) (aA:cP (Sat w ω τ) q v) (h:Kf P st ty t k es i j q ans=some (br,cj,obs)) (aN:c8 obs):
  ∃aJ,(Instr.storeAt ty y v).run P w=.ok () aJ/\Rel w0 br a aJ:=by
 unfold Kf at h;split at h
 ·rename_i xs inf ds r e1 e2;split at h
  ·rename_i ys is cJ;split at h
   ·rename_i af;obtain⟨lS,lA,lT,uN⟩:=af;simp only[aO,bx]at h;obtain⟨rfl,_,rfl⟩:=h;have eI:es[i]?=some ds:=aN.1;obtain⟨ai,q6⟩:=aI.yZ e1 aA;obtain⟨aaB,JH⟩:=Rr cJ;have Zw:=E5 aN.2;obtain⟨b,off,cap,rfl,lB,az,bC⟩:=hp;simp only[Tag.eg]at bC;cases az with
    | nil=>simp at lB
    | row R k es b off cap arr h6 cR us ao ed f' c7 gP hu aB=>
     have iK:ω b=.tok t []:=ed;obtain⟨wI,ux,vR,ic⟩:=aT.owned b (by rw[iK];simp);rw[ao]at ic;simp only[aO,Obj.cells.injEq]at ic;obtain⟨rfl,rfl,rfl⟩:=ic;have wu:b<w.heap.size:=(jz.1 ao).1;have hmul:(i+1)*k<=cap*k:=hR _ (by omega);rw[fX]at hmul;have rb:v.cells.size=xs.length:=ai.1;have dV:off+i*k+j+v.cells.toList.length<=arr.size:=by simp;omega
     have fk:=run_storeCells_at P b (off+i*k+j) h6 v.cells.toList 0 arr w ao (by simpa using dV) q6;simp only[nj]at fk;generalize oh:(arr.toList.take (off+i*k+j)++v.cells.toList++arr.toList.drop (off+i*k+j+v.cells.toList.length)).toArray=b5 at fk;have ix:∀x:Nat,b5[x]?=if off+i*k+j<=x/\x<off+i*k+j+xs.length then v.cells[x-(off+i*k+j)]? else arr[x]?:=by
      intro x;rw[<-oh,nY,B' (by simpa using dV)];simp[rb]
     have yR:b5.size=arr.size:=by rw[<-oh];simp;simp at dV;omega
     have kq:=setRow_heap w b arr b5 h6 (0,0) ao
     let ms:=l1 i j xs
     let a1:Own:=fun c=>nK t ms (ω c)
     have awS:ms.at t=none:=by
      cases e:ms.at t with
      | none=>rfl
      | some p=>
       have q3:∀(ms:ia) (p:Nat×Nat),ms.at t=some p->(t,p)∈ms:=by
        intro ms;induction ms with
        | nil=>intro p h;cases h
        | cons x ms dk=>
         intro p h;obtain⟨s,ri⟩:=x;simp only[ia.at]at h;split at h
         ·rename_i A9;subst A9;rw[eQ h];exact eY
         exact fw _ (dk p h)
       exact absurd rfl (Rq uN (q3 ms p e)).1
     have da:∀c q,c<w.heap.size->ω c=.tok t q->a1 c=.tok t q:=fun c q _ h=>by simp[a1,h,nK]
     have mM:∀c p q,c<w.heap.size->ω c=.tok t (p::q)->a1 c=.tok t (p::q)/\(w.setRow b b5).heap[c]?=w.heap[c]?:=by
      intro c p q af eh;exact⟨da c _ af eh,setRow_other w b c b5 fun e=>by rw[e,iK]at eh;cases eh⟩
     have hA:∀(g:Tag) c q,g≠.own t->g≠.ro t->(∀s,g=.own s\/g=.ro s->ms.at s=none)->g.R q (ω c)->g.R q (a1 c)/\(w.setRow b b5).heap[c]?=w.heap[c]?:=by
      intro g c q h1 U ax eh;have gD:c≠b:=fun e=>by
       rw[e,iK]at eh;cases g with
       | free=>cases eh
       | own s=>simp only[Tag.R,c0.tok.injEq]at eh;exact h1 (by rw[eh.1])
       | ro s=>
        rcases eh with h | ⟨dB,h⟩
        ·cases h
        simp only[c0.tok.injEq]at h;exact U (by rw[h.1])
      refine⟨?_,setRow_other w b c b5 gD⟩;cases g with
      | free=>simp only[Tag.R]at eh ⊢;simp[a1,eh,nK]
      | own s=>
       simp only[Tag.R]at eh ⊢;simp only[a1,eh,nK];split
       ·rfl
       rw[ax s (.inl rfl)]
      | ro s=>
       simp only[Tag.R]at eh ⊢;rcases eh with h | ⟨dB,h⟩
       ·left;simp[a1,h,nK]
       right;refine⟨dB,?_⟩;simp only[a1,h,nK];split
       ·rfl
       rw[ax s (.inr rfl)]
     have PE:bX (w.setRow b b5) a1 (Tag.own t).R (.J k (es.set i (lQ ds j ys))) (.slice (some ⟨b,off,none⟩) es.length cap):=by
      have hlen:(es.set i (lQ ds j ys)).length=es.length:=fN;have A1:ds.length=k:=lA;have fa:∀x y d,c5 (es.set i (lQ ds j ys)) x y=some d->∃u,b5[off+x*k+y]?=some u/\bX (w.setRow b b5) a1 (fun q=>(Tag.own t).R ((x,y)::q)) d u:=by
       intro x y d ef;rw[Kb lB]at ef;by_cases aa:x=i
       ·subst aa;rw[aZ rfl,Rn (by omega)]at ef;split at ef
        ·rename_i bn;obtain⟨l,jE,cV⟩:=JH _ _ ef;obtain⟨u,fO,fb⟩:=ai.2 _ _ jE;rcases cV with cV | ⟨a,bw,bR,m,rfl,hm,YJ,rfl⟩
         case inr=>
          have YK:=Zw a YJ;subst YK;obtain⟨fv,sd,q9,_⟩:=fb;have cc:u=fv:=by
           cases m with
           | at_ x y=>cases hm
           | here=>exact sd
           | mD=>exact sd
          subst cc;refine⟨u,?_,q9.frame fun c q af eh=>?_⟩
          ·rw[ix,aZ (by omega),<-fO]
           congr 1;omega
          rw[show j+(y-j)=y by omega]at eh;exact mM c _ _ af eh
         refine⟨u,?_,?_⟩
         ·rw[ix,aZ (by omega),<-fO]
          congr 1;omega
         have q3:∀s,l.tok=some s->ms.at s=some (x,y)/\s≠t:=by
          intro s c';have:=J' x xs j (y-j) l s jE c';rw[show j+(y-j)=y by omega]at this;obtain⟨h1,U⟩:=Rq uN this;exact⟨U,h1⟩
         cases l with
         | cu=>cases cV
         | v z=>
          simp only[aD.ju]at cV;split at cV
          ·simp only[aO]at cV;subst cV;have:u=z:=fb;subst this;exact .v _ _ ‹_›
          cases cV
         | cg c=>
          simp only[aD.ju,aO]at cV;subst cV;have:u=.bool c:=fb;subst this;exact .v _ _ rfl
         | ptr=>cases cV
         | ep=>cases cV
         | iC=>cases cV
         | fd=>cases cV
         | gb=>cases cV
         | hq=>cases cV
         | a8=>cases cV
         | fB=>cases cV
         | J g bw bR=>
          cases g with
          | free=>cases cV
          | ro s=>cases cV
          | own s=>
           simp only[aD.ju,aO]at cV;subst cV;obtain⟨h1,U⟩:=q3 s rfl;refine fb.1.frame fun c q af eh=>?_
           simp only[Tag.R]at eh ⊢;refine⟨?_,setRow_other w b c b5 fun e=>?_⟩
           ·simp only[a1,eh,nK];rw[a6 U,h1]
           rw[e,iK]at eh;simp only[c0.tok.injEq]at eh;exact U eh.1.symm
        rename_i bn;have qT:c5 es x y=some d:=by simp[c5,eI,ef]
        refine⟨us x y,?_,(aB x y d qT).frame fun c q af eh=>mM c _ _ af eh⟩;rw[ix,a6 (by omega),hu x y d qT]
       rw[a6 aa]at ef;obtain⟨gk,aaC⟩:=tP gP ef;refine⟨us x y,?_,(aB x y d ef).frame fun c q af eh=>mM c _ _ af eh⟩;rw[ix,a6 ?_,hu x y d ef];rcases Nat.lt_or_gt_of_ne aa with h | h
       ·have:(x+1)*k<=i*k:=hR _ h;rw[fX]at this;omega
       have:(i+1)*k<=x*k:=hR _ h;rw[fX]at this;omega
      have q':∀e∈es.set i (lQ ds j ys),e.length=k:=by
       intro e he;rcases h8 he with h | rfl
       ·exact gP e h
       rw[Ro (by omega)];exact A1
      have:=bX.row (w:=w.setRow b b5) (ω:=a1) (Tag.own t).R k (es.set i (lQ ds j ys)) b off cap b5 h6 (0,0) (fun x y=>b5.getD (off+x*k+y) undef) kq (da b [] wu iK) (by omega) (by omega) q'
       (fun x y d d'=>by obtain⟨u,h1,_⟩:=fa x y d d';rw[h1];simp[eu,h1])
       (fun x y d d'=>by obtain⟨u,h1,U⟩:=fa x y d d';have:b5.getD (off+x*k+y) undef=u:=(by simp[eu,h1]);rw[this];exact U)
      rw[hlen]at this;exact this
     have eV:∀l v,Sat w ω τ l v->Sat (w.setRow b b5) a1 τ (w8 t ms k (es.set i (lQ ds j ys)) l) v:=by
      intro l v c';have wD:∀s,¬(ms.at s).isSome=true->ms.at s=none:=fun s h=>by
       cases e:ms.at s with
       | none=>rfl
       | some p=>simp[e]at h
      cases l with
      | cu=>exact trivial
      | v x=>exact c'
      | cg c=>exact c'
      | ptr id o=>
       obtain⟨c,af,e⟩:=c';exact⟨c,E4.2 af,e⟩
      | a8 s a fH dw dP m=>
       simp only[w8];split
       ·exact trivial
       rename_i h1;split
       ·exact trivial
       rename_i U;obtain⟨u,hu,mj,hm⟩:=c';have kQ:∀c q,ω c=.tok s q->a1 c=.tok s q/\(w.setRow b b5).heap[c]?=w.heap[c]?:=fun c q eh=>
        hA (.own s) c q (by simpa using h1) (by simp) (fun uh h=>by
         rcases h with h | h
         ·simp only[Tag.own.injEq]at h;subst h;exact wD _ U
         cases h) eh
       refine⟨u,hu,mj.frame fun c q _ eh=>kQ c _ eh,fun o2=>?_⟩;obtain⟨kT,c,rf,aaU,qA,jb,jv,H3,eZ,a2,a3,a4⟩:=hm o2;obtain⟨e1,e2⟩:=kQ c [] a2;exact⟨kT,c,rf,aaU,qA,jb,jv,H3,eZ,e1,e2.trans a3,a4⟩
      | fB=>exact trivial
      | hq f ids=>
       obtain⟨bs,e,aK,hi⟩:=c';refine⟨bs,e,aK,fun i id gq=>?_⟩;obtain⟨b,h1,U⟩:=hi i id gq;exact⟨b,h1,E4.2 U⟩
      | iC ta o=>
       obtain⟨c,e,ek⟩:=c';exact⟨c,e,ek.frame fun c q _ eh=>hA .free c q (by simp) (by simp) (fun s h=>by rcases h with h | h<;>cases h) eh⟩
      | fd d=>
       exact bX.frame c' fun c q _ eh=>hA .free c q (by simp) (by simp) (fun s h=>by rcases h with h | h<;>cases h) eh
      | gb t2 bw bR=>exact⟨c'.1.frame fun c q _ eh=>hA .free c q (by simp) (by simp) (fun s h=>by rcases h with h | h<;>cases h) eh,c'.2⟩
      | J g bw bR=>
       cases g with
       | free=>exact⟨c'.1.frame fun c q _ eh=>hA .free c q (by simp) (by simp) (fun s h=>by rcases h with h | h<;>cases h) eh,ae⟩
       | own s=>
        simp only[w8];split
        ·rename_i A9;subst A9;have U:=c'.2;simp only[Tag.eg]at U;rw[bC]at U;simp only[bx]at U;rw[<-U.2];exact⟨PE,bC⟩
        split
        ·exact trivial
        rename_i h1 U;exact⟨c'.1.frame fun c q _ eh=>hA (.own s) c q (by simpa using h1) (by simp) (fun uh h=>by
         rcases h with h | h
         ·simp only[Tag.own.injEq]at h;subst h;exact wD _ U
         cases h) eh,c'.2⟩
       | ro s=>
        simp only[w8];split
        ·exact trivial
        split
        ·exact trivial
        rename_i h1 U;exact⟨c'.1.frame fun c q _ eh=>hA (.ro s) c q (by simp) (by simpa using h1) (fun uh h=>by
         rcases h with h | h
         ·cases h
         simp only[Tag.ro.injEq]at h;subst h;exact wD _ U) eh,ae⟩
      | ep g bw bR i2 nG=>
       obtain⟨fH,rf,qA,e,lg,mj,o2⟩:=c';cases g with
       | free=>exact⟨fH,rf,qA,e,lg,mj.frame fun c q _ eh=>hA .free c q (by simp) (by simp) (fun s h=>by rcases h with h | h<;>cases h) eh,ae⟩
       | own s=>
        simp only[w8];split
        ·rename_i A9;subst A9;simp only[Tag.eg]at o2;rw[bC]at o2;simp only[bx,Value.slice.injEq,aO,Addr.mk.injEq]at o2;obtain⟨rfl,⟨rfl,rfl,_⟩,cV,rfl⟩:=o2;refine⟨b,off,cap,e,by simp;omega,?_,?_⟩
         ·rw[fN];exact PE
         rw[fN];exact bC
        split
        ·exact trivial
        rename_i h1 U;exact⟨fH,rf,qA,e,lg,mj.frame fun c q _ eh=>hA (.own s) c q (by simpa using h1) (by simp) (fun uh h=>by
         rcases h with h | h
         ·simp only[Tag.own.injEq]at h;subst h;exact wD _ U
         cases h) eh,o2⟩
       | ro s=>
        simp only[w8];split
        ·exact trivial
        split
        ·exact trivial
        rename_i h1 U;exact⟨fH,rf,qA,e,lg,mj.frame fun c q _ eh=>hA (.ro s) c q (by simp) (by simpa using h1) (fun uh h=>by
         rcases h with h | h
         ·cases h
         simp only[Tag.ro.injEq]at h;subst h;exact wD _ U) eh,ae⟩
     refine⟨w.setRow b b5,?_,a1,τ,aT.dh _ eV ?_ ?_ ?_ ?_⟩
     ·simp only[Instr.storeAt,Instr.sureAddr,Sem.run_bind,Sem.run_pure,Result.andThen_ok,storeVar,sizeOf,typeInfo,run_program,e2];have I6:¬(v.cells.size≠inf.size):=by simp;omega
      rw[a6 I6];exact fk
     ·exact aT.below.setRow wI b5
     ·intro c gD;have:ω c≠.bB:=fun e=>gD (anO.2 e)
      obtain⟨ax,jb,jv,aF⟩:=aT.owned c this;by_cases qS:c=b
      ·subst qS;exact⟨ax,b5,h6,kq⟩
      exact⟨ax,jb,jv,(setRow_other w b c b5 qS).trans aF⟩
     ·intro id c gD;exact⟨E4.2 gD,setRow_other w b c b5 fun e=>by rw[e,iK]at gD;cases gD⟩
     intro id c gD;exact E4.1 gD
   cases h
  cases h
 cases h
end Go.Sx
namespace Go.Sx
open Go.RowKit
def mu(w:World)(d:D)(y:Value):Prop:=bX w (fun _=>.bB) Tag.free.R d y
def v7(w:World):cK->Value->Prop
 | .one d,y=>mu w d y
 | .agg ds,y=>∃vs:Array Value,y=.agg vs/\vs.size=ds.length/\∀(i:Nat) (d:D),ds[i]?=some d->∃u,vs[i]?=some u/\mu w d u
def E6(w:World)(gW:List cK)(vs:Array Value):Prop:=vs.size=gW.length/\∀(i:Nat) (cn:cK),gW[i]?=some cn->∃v,vs[i]?=some v/\v7 w cn v
def mT(w:World)(ω:Own)(r:Nat):cK->Value->Prop
 | .one d,y=>bX w ω (Tag.own (100*r)).R d y
 | .agg ds,y=>∃vs:Array Value,y=.agg vs/\vs.size=ds.length/\∀(j:Nat) (d:D),ds[j]?=some d->∃u,vs[j]?=some u/\bX w ω (Tag.own (100*r+j)).R d u
def nL(w:World)(ω:Own)(rs:List cK)(v:Value):Prop:=
 match rs with
 | [cn]=>mT w ω 0 cn v
 | rs=>∃vs:Array Value,v=.tuple vs/\vs.size=rs.length/\∀(r:Nat) (cn:cK),rs[r]?=some cn->∃y,vs[r]?=some y/\mT w ω r cn y
def yi(w0 w:World)(rs:List cK)(v:Value):Prop:=
 ∃ω:Own,(∀b,b<w0.heap.size->ω b=.bB)/\(∀b,ω b≠.bB->(∃t q,ω b=.tok t q)/\∃arr ty,w.heap[b]?=some (.cells arr ty (0,0)))/\nL w ω rs v
def ja(P:Program)(f:FuncId)(args rs:List cK):Prop:=
 ∀(w:World) (vs:Array Value),qx w->E6 w args vs->Calls P f vs w fun e aJ=>∃v,e=.returned v/\ho w.heap.size w aJ/\yi w aJ rs v
def aD.gX:aD->Option D
 | .v x=>if x.oneCell' then some (.v x) else none
 | .cg c=>some (.v (.bool c))
 | .J _ k es=>some (.J k es)
 | .iC ds off=>if off=0 then some (.ptr ds) else none
 | .fd d=>some d
 | .gb _ k es=>some (.J k es)
 | .a8 _ _ _ k es .here=>some (.J k es)
 | .a8 _ _ _ k es .mD=>some (.J k es)
 | _=>none
abbrev mB:=List (Nat×List aD)
def ym(bs:mB)(id:Nat):Option D:=(dE id bs).bind fun ls=>(ls.mapM aD.gX).map .ptr
def aD.kK(bs:mB):aD->Option D
 | .ptr id off=>if off=0 then ym bs id else none
 | .hq g ids=>(ids.mapM (ym bs)).map (.cl g)
 | l=>l.gX
def bS.kK(bs:mB):bS->Option cK
 | .one l=>(l.kK bs).map .one
 | .agg ls=>(ls.mapM (aD.kK bs)).map .agg
def aI.kK(bs:mB):aI->Option cK
 | .bd a=>a.kK bs
 | _=>none
variable{w:World}{ω:Own}{d:D}{y:Value}
theorem bX.free{R:List (Nat×Nat)->c0->Prop}(h:bX w ω R d y):mu w d y:=
 h.frame fun _ _ _ _=>⟨rfl,rfl⟩
variable{τ:Nat->Nat×Value}
theorem aD.OK{l:aD}(h:l.gX=some d)(ai:Sat w ω τ l y):mu w d y:=by
 cases l with
 | cu=>cases h
 | v x=>
  simp only[aD.gX]at h;split at h
  ·simp only[aO]at h;subst h;have:y=x:=ai;subst this;exact .v _ _ ‹_›
  cases h
 | cg c=>
  simp only[aD.gX,aO]at h;subst h;have:y=.bool c:=ai;subst this;exact .v _ _ rfl
 | J t k es=>simp only[aD.gX,aO]at h;subst h;exact ai.1.free
 | ptr=>cases h
 | ep=>cases h
 | hq=>cases h
 | fB=>cases h
 | iC ds off=>
  simp only[aD.gX]at h;split at h
  ·rename_i aN;subst aN;simp only[aO]at h;subst h;obtain⟨b,rfl,az⟩:=ai;exact az.free
  cases h
 | fd dK=>simp only[aD.gX,aO]at h;subst h;exact bX.free ai
 | gb t k es=>simp only[aD.gX,aO]at h;subst h;exact bX.free ai.1
 | a8 t i j k es m=>
  obtain⟨u,hu,az,_⟩:=ai;cases m with
  | at_ x z=>cases h
  | here=>simp only[aD.gX,aO]at h;subst h;have:y=u:=hu;subst this;exact az.free
  | mD=>simp only[aD.gX,aO]at h;subst h;have:y=u:=hu;subst this;exact az.free
def w9(w:World)(ω:Own)(τ:Nat->Nat×Value)(bs:mB):Prop:=∀id ls,dE id bs=some ls->uv w ω τ id ls
variable{bs:mB}
theorem Rs(ao:w9 w ω τ bs){id b:Nat}(h:ym bs id=some d)(aN:ω b=.box id):mu w d (ptrTo b):=by
 unfold ym at h;cases e:dE id bs with
 | none=>simp[e]at h
 | some ls=>
  simp only[e,nZ,b2]at h;obtain⟨ds,h1,rfl⟩:=h;obtain⟨c3,arr,ty,di,hu,bC,ai⟩:=ao id ls e;have:=hu b aN;subst this;obtain⟨U,ax⟩:=ox h1;have cell:∀j d,ds[j]?=some d->arr[j]?=some (arr.getD j undef)/\mu w d (arr.getD j undef):=by
   intro j d aB;obtain⟨l,aj,cV⟩:=ax j d aB;obtain⟨u,fO,fb⟩:=ai.2 j l aj;have e2:arr.getD j undef=u:=by simp[eu,fO]
   rw[e2];exact⟨fO,aD.OK cV fb⟩
  exact bX.ptr _ ds b arr ty (0,0) (fun j=>arr.getD j undef) bC rfl (by have:=ai.1;omega) (fun j d aB=>(cell j d aB).1) (fun j d aB=>(cell j d aB).2.frame fun _ _ _ _=>⟨rfl,rfl⟩)
theorem aD.yl(ao:w9 w ω τ bs){l:aD}(h:l.kK bs=some d)(ai:Sat w ω τ l y):mu w d y:=by
 unfold aD.kK at h;split at h
 ·rename_i id off;split at h
  ·rename_i aN;subst aN;obtain⟨b,h1,rfl⟩:=ai;exact Rs ao h h1
  cases h
 ·rename_i g ids;rw[b2]at h;obtain⟨ds,h1,rfl⟩:=h;obtain⟨oT,rfl,aK,hi⟩:=ai;obtain⟨U,ax⟩:=ox h1;have cell:∀j d,ds[j]?=some d->(oT.map ptrTo).toArray[j]?=some ((oT.map ptrTo).toArray.getD j undef)/\mu w d ((oT.map ptrTo).toArray.getD j undef):=by
   intro j d aB;obtain⟨id,gq,Iw⟩:=ax j d aB;obtain⟨b,gj,gC⟩:=hi j id gq;have e1:(oT.map ptrTo).toArray[j]?=some (ptrTo b):=by simp[gj]
   have e2:(oT.map ptrTo).toArray.getD j undef=ptrTo b:=by rw[eu,e1];rfl
   rw[e2];exact⟨e1,Rs ao Iw gC⟩
  exact bX.cl _ g ds _ (fun j=>(oT.map ptrTo).toArray.getD j undef) (by simp;omega) (fun j d aB=>(cell j d aB).1) (fun j d aB=>(cell j d aB).2.frame fun _ _ _ _=>⟨rfl,rfl⟩)
 exact aD.OK h ai
theorem aI.yl(ao:w9 w ω τ bs){p:aI}{cn:cK}(h:p.kK bs=some cn)(ai:cP (Sat w ω τ) p y):v7 w cn y:=by
 cases p with
 | gv as=>cases h
 | bd a=>
  cases a with
  | one l=>
   simp only[aI.kK,bS.kK,b2]at h;obtain⟨d,h1,rfl⟩:=h;exact aD.yl ao h1 ai
  | agg ls=>
   simp only[aI.kK,bS.kK,b2]at h;obtain⟨ds,h1,rfl⟩:=h;obtain⟨U,ax⟩:=ox h1;obtain⟨vs,rfl,aK,bz⟩:=ai;refine⟨vs,rfl,by omega,fun i d aB=>?_⟩;obtain⟨l,aj,cV⟩:=ax i d aB;obtain⟨u,hu,fb⟩:=bz i l aj;exact⟨u,hu,aD.yl ao cV fb⟩
def hL(P:Program)(g:FuncId):Bool:=
 match P.funcs[g]? with
 | some fn => !(fn.name == "runtime.NumGoroutine") && !fn.body.isNone
 | none=>false
def D.qk(t:Nat):D->aD
 | .v (.bool c)=>.cg c
 | .v x=>.v x
 | .J k es=>.J (.own t) k es
 | .ptr _=>.cu
 | .cl _ _=>.cu
def oy(t:Nat):Nat->List D->List aD
 | _,[]=>[]
 | j,d::ds=>d.qk (t+j)::oy t (j+1) ds
theorem Cc(t:Nat):∀(ds:List D) (j i:Nat),(oy t j ds)[i]?=(ds[i]?).map (D.qk (t+(j+i)))
 | [],_,_=>by simp[oy]
 | d::ds,j,0=>by simp[oy]
 | d::ds,j,i+1=>by
  simp only[oy,oK,Cc t ds (j+1) i];rw[show j+1+i=j+(i+1) by omega]
theorem zr(t:Nat):∀(ds:List D) (j:Nat),(oy t j ds).length=ds.length
 | [],_=>rfl
 | d::ds,j=>by simp[oy,zr t ds (j+1)]
def cK.res(t:Nat):cK->bS
 | .one d=>.one (d.qk t)
 | .agg ds=>.agg (oy t 0 ds)
def rB(t:Nat):Nat->List cK->List bS
 | _,[]=>[]
 | r,a::as=>a.res (t+100*r)::rB t (r+1) as
theorem EH(t:Nat):∀(as:List cK) (r i:Nat),(rB t r as)[i]?=(as[i]?).map (cK.res (t+100*(r+i)))
 | [],_,_=>by simp[rB]
 | d::ds,j,0=>by simp[rB]
 | d::ds,j,i+1=>by
  simp only[rB,oK,EH t ds (j+1) i];rw[show j+1+i=j+(i+1) by omega]
theorem EI(t:Nat):∀(as:List cK) (r:Nat),(rB t r as).length=as.length
 | [],_=>rfl
 | d::ds,j=>by simp[rB,EI t ds (j+1)]
def uf(t:Nat):List cK->aI
 | [a]=>.bd (a.res t)
 | as=>.gv (rB t 0 as)
def vj(rs:List cK):Bool:=rs.length<100&&rs.all fun | .one _=>true | .agg ds=>ds.length<100
def hc(t:Nat):Tag->Option Tag
 | .free=>some .free
 | .own s=>if t<=s/\s<t+10000 then some .free else some (.own s)
 | .ro s=>if t<=s/\s<t+10000 then some .free else some (.ro s)
def pD(t:Nat):c0->c0
 | .tok s q=>if t<=s/\s<t+10000 then .bB else .tok s q
 | o=>o
def Rt(t:Nat):c0->c0
 | .tok s q=>.tok (t+s) q
 | _=>.bB
def cK.cell(j:Nat):cK->Option D
 | .one d=>if j=0 then some d else none
 | .agg ds=>ds[j]?
def qX(rs:List cK)(n:Nat):Nat:=
 match (rs[n / 100]?).bind (cK.cell (n % 100)) with
 | some (.J k _)=>k
 | _=>0
def oj(rs:List cK)(v:Value)(n:Nat):Value:=
 match rs with
 | [_]=>v.cells.getD (n % 100) undef
 | _=>match v with
  | .tuple vs=>(vs.getD (n / 100) undef).cells.getD (n % 100) undef
  | _=>undef
def aG.wi(st:aG)(t:Nat):aG:=st.map (aD.cr (hc t) fun _=>true)
theorem cE.called{w0:eN}{st:aG}{a:Act}{aJ:World}(aT:cE w0 st a w ω τ)(t:Nat){rs:List cK}{v:Value}
  (dV:vj rs=true) (iM:t+10000<=df) (ao:ho w.heap.size w aJ) (fi:yi w aJ rs v):
  ∃a1 cT,cE w0 (st.wi t) a aJ a1 cT/\cP (Sat aJ a1 cT) (uf t rs) v:=by
 obtain⟨fx,lS,lA,lT⟩:=fi
 let a1:Own:=fun b=>if b<w.heap.size then pD t (ω b) else Rt t (fx b)
 let cT:Nat->Nat×Value:=fun s=>if t<=s/\s<t+10000 then (qX rs (s-t),oj rs v (s-t)) else τ s
 have hold:∀b,b<w.heap.size->a1 b=pD t (ω b):=fun b ao=>by simp only[a1];rw[aZ ao]
 have gE:∀b,¬b<w.heap.size->a1 b=Rt t (fx b):=fun b ao=>by simp only[a1];rw[a6 ao]
 have bj:mC w ω τ aJ a1 cT (hc t) (fun _=>true):=by
  refine⟨?_,?_,?_,rfl,fun s ai=>by simp only[cT];rw[a6 (by omega)]⟩
  ·intro g ev b q ar bu aA;refine⟨?_,ao.block b bu⟩;rw[hold b bu];cases g with
   | free=>simp only[hc,aO]at ar;subst ar;simp only[Tag.R]at aA ⊢;rw[aA];rfl
   | own s=>
    simp only[Tag.R]at aA;simp only[hc]at ar;rw[aA];simp only[pD];split at ar
    ·simp only[aO]at ar;subst ar;rw[aZ ‹_›];rfl
    simp only[aO]at ar;subst ar;rw[a6 ‹_›];rfl
   | ro s=>
    simp only[Tag.R]at aA;simp only[hc]at ar;split at ar
    ·simp only[aO]at ar;subst ar;rcases aA with h | ⟨dB,h⟩
     ·rw[h];rfl
     rw[h];simp only[pD];rw[aZ ‹_›];rfl
    simp only[aO]at ar;subst ar;rcases aA with h | ⟨dB,h⟩
    ·rw[h];exact .inl rfl
    rw[h];simp only[pD];rw[a6 ‹_›];exact .inr ⟨dB,rfl⟩
  ·intro g ev y ar bn;cases g with
   | free=>simp only[hc,aO]at ar;subst ar;exact trivial
   | own s=>
    simp only[hc]at ar;split at ar
    ·simp only[aO]at ar;subst ar;exact trivial
    simp only[aO]at ar;subst ar;simp only[Tag.eg,cT]at bn ⊢;rw[a6 ‹_›];exact bn
   | ro s=>
    simp only[hc]at ar;split at ar
    ·simp only[aO]at ar;subst ar;exact trivial
    simp only[aO]at ar;subst ar;exact trivial
  intro id b _ cv;have bu:=aT.owned.lt (b:=b) (by simp[cv]);rw[hold b bu,cv];rfl
 have cell:∀(n:Nat) (d:D) (u:Value),n<10000->oj rs v n=u->(∀k es,d=.J k es->qX rs n=k)->bX aJ fx (Tag.own n).R d u->Sat aJ a1 cT (d.qk (t+n)) u:=by
  intro n d u aK bz hk az;cases d with
  | v x=>
   have e:u=x:=by cases az;rfl
   subst e;unfold D.qk;split
   ·rename_i h;cases h;exact rfl
   ·rename_i h;cases h;exact rfl
   ·rename_i h;cases h
   ·exact trivial
   exact trivial
  | ptr ds=>exact trivial
  | cl g bm=>exact trivial
  | J k es=>
   refine⟨az.frame fun b q bu aA=>⟨?_,rfl⟩,?_⟩
   ·simp only[Tag.R]at aA ⊢;have:¬b<w.heap.size:=fun h=>by have:=lS b h;rw[this]at aA;cases aA
    rw[gE b this,aA];rfl
   simp only[Tag.eg,cT];rw[aZ (by omega),show t+n-t=n by omega,bz,hk k es rfl]
 have uA:∀(r:Nat) (cn:cK) (y:Value),r<100->(∀ds,cn=.agg ds->ds.length<100)->rs[r]?=some cn->(∀j,j<100->oj rs v (100*r+j)=y.cells.getD j undef)->mT aJ fx r cn y->la (Sat aJ a1 cT) (cn.res (t+100*r)) y:=by
  intro r cn y az eI A7 bz oi;have gP:∀j,j<100->qX rs (100*r+j)=(match cK.cell j cn with | some (.J k _)=>k | _=>0):=by
   intro j aP;unfold qX;rw[show (100*r+j) / 100=r by omega,show (100*r+j) % 100=j by omega,A7];rfl
  cases cn with
  | one d=>
   have h1:=oi.p9;have U:=bz 0 (by omega);rw[B9 h1]at U;have:=cell (100*r) d y (by omega) (by simpa using U) (fun k es e=>by
    have:=gP 0 (by omega);rw[nj]at this;rw[this,e];rfl) oi
   exact this
  | agg ds=>
   obtain⟨vs,rfl,aK,aP⟩:=oi;refine⟨vs,rfl,by rw[zr];exact aK,fun j l aj=>?_⟩;rw[Cc,b2]at aj;obtain⟨d,aB,rfl⟩:=aj;obtain⟨u,hu,A8⟩:=aP j d aB;have j9:j<100:=by
    have:=(ey.1 aB).1;have:=eI ds rfl;omega
   refine⟨u,hu,?_⟩;have:=cell (100*r+j) d u (by omega) (by rw[bz j j9];simp[Value.cells,eu,hu]) (fun k es e=>by
    rw[gP j j9];simp only[cK.cell,aB,e]) A8
   rw[show t+100*r+(0+j)=t+(100*r+j) by omega];exact this
 simp only[vj,b8,b']at dV;have eI:∀(r:Nat) (cn:cK),rs[r]?=some cn->∀ds,cn=.agg ds->ds.length<100:=by
  intro r cn az ds e;have:=fW.1 dV.2 cn (fE az);subst e;simpa using this
 refine⟨a1,cT,aT.dh _ bj.sat (aT.below.next ao) ?_ ?_ ?_ (fun s ai=>by simp only[cT];rw[a6 (by omega)]),?_⟩
 ·intro b gp;by_cases bu:b<w.heap.size
  ·rw[hold b bu]at gp;have U:ω b≠.bB:=fun e=>by rw[e]at gp;exact gp rfl
   obtain⟨ax,arr,ty,aF⟩:=aT.owned b U;exact⟨ax,arr,ty,(ao.block b bu).trans aF⟩
  rw[gE b bu]at gp;have U:fx b≠.bB:=fun e=>by rw[e]at gp;exact gp rfl
  obtain⟨_,arr,ty,aF⟩:=lA b U;exact⟨.inl (by have:=aT.below.size;omega),arr,ty,aF⟩
 ·intro id b cv;have bu:=aT.owned.lt (b:=b) (by simp[cv]);exact⟨bj.box id b rfl cv,ao.block b bu⟩
 ·intro id b cv;by_cases bu:b<w.heap.size
  ·rw[hold b bu]at cv;cases e:ω b with
   | bB=>rw[e]at cv;cases cv
   | box i=>rw[e]at cv;exact cv
   | tok s q=>rw[e]at cv;simp only[pD]at cv;split at cv<;>cases cv
  ·rw[gE b bu]at cv;cases e:fx b<;>(rw[e]at cv;cases cv)
 cases rs with
 | nil=>
  obtain⟨vs,rfl,aK,_⟩:=lT;exact⟨vs,rfl,aK,fun i a ad=>by simp[rB]at ad⟩
 | cons cn rest=>
  cases rest with
  | nil=>
   have:=uA 0 cn v (by omega) (eI 0 cn rfl) rfl (fun j aP=>by
    unfold oj;simp only[Nat.mul_zero,dq];rw[Ds aP]) lT
   exact this
  | cons OJ rest=>
   obtain⟨vs,rfl,aK,bz⟩:=lT;refine⟨vs,rfl,by rw[EI];exact aK,fun i a ad=>?_⟩;rw[EH,b2]at ad;obtain⟨oR,h1,rfl⟩:=ad;obtain⟨y,bn,AW⟩:=bz i oR h1;have lB:i<100:=by
    have:=(ey.1 h1).1;omega
   refine⟨y,bn,?_⟩;have:=uA i oR y lB (eI i oR h1) h1 (fun j aP=>by
    unfold oj;simp only;rw[show (100*i+j) / 100=i by omega,show (100*i+j) % 100=j by omega];simp[eu,bn]) AW
   rw[dq];exact this
end Go.Sx
namespace Go.Sx
open Go.RowKit
inductive eT where
 | ro (d:D)
 | fh (k:Nat) (es:List (List D)) (post:Option (List (List D)))
inductive GA where
 | one (c:eT)
 | agg (cs:List eT)
def fI(i j:Nat):Nat:=df+(100*i+j)
def GA.cell(j:Nat):GA->Option eT
 | .one c=>if j=0 then some c else none
 | .agg cs=>cs[j]?
def cellOf(v:Value)(j:Nat):Value:=v.cells.getD j undef
def v'(w:World)(ω:Own)(t:Nat):eT->Value->Prop
 | .ro d,y=>bX w ω Tag.free.R d y
 | .fh k es _,y=>bX w ω (Tag.own t).R (.J k es) y
def OC(w:World)(ω:Own)(i:Nat):GA->Value->Prop
 | .one c,y=>v' w ω (fI i 0) c y
 | .agg cs,y=>∃vs:Array Value,y=.agg vs/\vs.size=cs.length/\∀(j:Nat) (c:eT),cs[j]?=some c->∃u,vs[j]?=some u/\v' w ω (fI i j) c u
def HC(w:World)(ω:Own):Prop:=∀b,ω b≠.bB->(∃t q,ω b=.tok t q/\df<=t)/\∃arr ty,w.heap[b]?=some (.cells arr ty (0,0))
def HB(w:World)(ω:Own)(args:List GA)(vs:Array Value):Prop:=HC w ω/\vs.size=args.length/\∀(i:Nat) (eG:GA),args[i]?=some eG->∃v,vs[i]?=some v/\OC w ω i eG v
def Kept(w:World)(ω:Own)(args:List GA)(vs:Array Value):Prop:=
 ∀(i j:Nat) (eG:GA) (k:Nat) (es cB:List (List D)),args[i]?=some eG->eG.cell j=some (.fh k es (some cB))->bX w ω (Tag.own (fI i j)).R (.J k cB) (cellOf (vs.getD i undef) j)
def k'(P:Program)(f:FuncId)(args:List GA)(rs:List cK):Prop:=
 ∀(w:World) (vs:Array Value) (ω:Own),HB w ω args vs->Tidy w ω->Calls P f vs w fun e aJ=>∃v,e=.returned v/\hn ⟨w,fun b=>ω b≠.bB,fun _=>(0,undef)⟩ aJ/\
  ∃a1:Own,(∀b,b<w.heap.size->ω b=.bB->a1 b=.bB)/\(∀b,a1 b≠.bB->(∃t q,a1 b=.tok t q)/\∃arr ty,aJ.heap[b]?=some (.cells arr ty (0,0)))/\Kept aJ a1 args vs/\nL aJ a1 rs v
structure dv where
 i:Nat
 j:Nat
 t:Nat
 p:Option (Nat×Nat)
 k:Nat
 es:List (List D)
 post:Option (List (List D))
abbrev qv:=Option (Option (List (List D)))
def yo(bs:mB)(i j:Nat):qv->aD->Option (eT×List dv×List aD)
 | none,l=>(l.kK bs).map fun d=>(.ro d,[],[l])
 | some post,.J (.own t) k es=>some (.fh k es post,[⟨i,j,t,none,k,es,post⟩],[])
 | some post,.a8 t a b k es .here=>some (.fh k es post,[⟨i,j,t,some (a,b),k,es,post⟩],[])
 | _,_=>none
def qf(bs:mB)(i:Nat):Nat->List qv->List aD->Option (List eT×List dv×List aD)
 | _,[],[]=>some ([],[],[])
 | j,m::ms,l::ls=>
  match yo bs i j m l,qf bs i (j+1) ms ls with
  | some (c,h,r),some (cs,ai,rs)=>some (c::cs,h++ai,r++rs)
  | _,_=>none
 | _,_,_=>none
def Aw(bs:mB)(i:Nat)(ms:List qv):aI->Option (GA×List dv×List aD)
 | .bd (.one l)=>match ms with | [m]=>(yo bs i 0 m l).map fun r=>(.one r.1,r.2) | _=>none
 | .bd (.agg ls)=>(qf bs i 0 ms ls).map fun r=>(.agg r.1,r.2)
 | _=>none
def wh(bs:mB):Nat->List (List qv)->List aI->Option (List GA×List dv×List aD)
 | _,[],[]=>some ([],[],[])
 | i,ms::JR,p::cx=>
  match Aw bs i ms p,wh bs (i+1) JR cx with
  | some (a,h,r),some (as,ai,rs)=>some (a::as,h++ai,r++rs)
  | _,_=>none
 | _,_,_=>none
def sN(ai:List dv)(t:Nat):Bool:=ai.any fun h=>h.t==t
def Tag.oq(ai:List dv):Tag->Bool
 | .free=>false
 | .own t=>sN ai t
 | .ro t=>sN ai t
def aD.p4(ai:List dv):aD->Bool
 | .J t _ _=>t.oq ai
 | .ep t _ _ _ _=>t.oq ai
 | .a8 t _ _ _ _ _=>sN ai t
 | .fB _ _=>true
 | _=>false
def aD.oq(bs:mB)(ai:List dv):aD->Bool
 | .ptr id _=>match dE id bs with | some ls=>ls.any (aD.p4 ai) | none=>true
 | .hq _ ids=>ids.any fun id=>match dE id bs with | some ls=>ls.any (aD.p4 ai) | none=>true
 | l=>l.p4 ai
def dv.apart(h y:dv):Bool:=
 (h.i != y.i||h.j != y.j)&&(h.t != y.t||match h.p,y.p with | some p,some q=>p.2 != q.2 | _,_=>false)
def pE:List dv->Bool
 | []=>true
 | h::r=>decide (h.j<100)&&(r.all (dv.apart h)&&pE r)
theorem Ru:∀{ai:List dv},pE ai=true->∀h∈ai,∀y∈ai,h=y\/(dv.apart h y=true\/dv.apart y h=true)
 | [],_,h,bC,_,_=>by cases bC
 | x::r,hk,h,bC,y,bn=>by
  simp only[pE,b8,fW]at hk;rcases et.1 bC with e1 | Ps
  ·rcases et.1 bn with e2 | Jd
   ·exact .inl (e1.trans e2.symm)
   rw[e1];exact .inr (.inl (hk.2.1 y Jd))
  rcases et.1 bn with e2 | Jd
  ·rw[e2];exact .inr (.inr (hk.2.1 h Ps))
  exact Ru hk.2.2 h Ps y Jd
theorem Rv:∀{ai:List dv},pE ai=true->∀h∈ai,h.j<100
 | [],_,h,bC=>by cases bC
 | x::r,hk,h,bC=>by
  simp only[pE,b8,b']at hk;rcases et.1 bC with rfl | bC
  ·exact hk.1
  exact Rv hk.2.2 h bC
def dv.fit(h:dv)(t:Nat)(q:List (Nat×Nat)):Option (List (Nat×Nat)):=
 if h.t=t then
  match h.p,q with
  | none,q=>some q
  | some p,x::dB=>if x=p then some dB else none
  | some _,[]=>none
 else none
def n'(t:Nat)(q:List (Nat×Nat)):List dv->Option (Nat×List (Nat×Nat))
 | []=>none
 | h::r=>match h.fit t q with | some dB=>some (fI h.i h.j,dB) | none=>n' t q r
variable{h:dv}{t:Nat}{q:List (Nat×Nat)}
theorem anQ{y:dv}{q1 jK:List (Nat×Nat)}(h1:h.fit t q=some q1)(U:y.fit t q=some jK):dv.apart h y=false:=by
 unfold dv.fit at h1 U;split at h1
 ·rename_i e1;split at U
  ·rename_i e2;have cJ:(h.t != y.t)=false:=by simp[e1,e2]
   simp only[dv.apart,cJ,jY,Bool.and_eq_false_imp];intro _;split at h1
   ·rename_i hp;rw[hp]
   ·rename_i p x dB hp;split at h1
    ·rename_i aa;split at U
     ·rename_i tv;rw[hp,tv]
     ·rename_i EE gd axg tv heq;split at U
      ·rename_i ka;rw[hp,tv];simp only[sT]at heq;obtain⟨rfl,_⟩:=heq;subst aa;subst ka;simp
      cases U
     cases U
    cases h1
   cases h1
  cases U
 cases h1
theorem Kg{t:Nat}{q dB:List (Nat×Nat)}:∀{ai:List dv},pE ai=true->∀{h:dv},h∈ai->h.fit t q=some dB->n' t q ai=some (fI h.i h.j,dB)
 | [],_,h,bC,_=>by cases bC
 | x::r,hk,h,bC,bg=>by
  have jD:=hk;simp only[pE,b8,fW]at hk;simp only[n'];rcases et.1 bC with rfl | bC
  ·rw[bg]
  cases e:x.fit t q with
  | none=>exact Kg hk.2.2 bC bg
  | some jK=>
   have:=anQ e bg;rw[hk.2.1 h bC]at this;cases this
theorem BG{g:Nat}{dB:List (Nat×Nat)}:∀{ai:List dv},n' t q ai=some (g,dB)->∃h∈ai,h.fit t q=some dB/\g=fI h.i h.j
 | [],h=>by cases h
 | x::r,h=>by
  simp only[n']at h;split at h
  ·rename_i jK e;simp only[aO,bx]at h;obtain⟨rfl,rfl⟩:=h;exact⟨x,eY,e,rfl⟩
  obtain⟨y,bn,U⟩:=BG h;exact⟨y,fw _ bn,U⟩
theorem Rw{dB:List (Nat×Nat)}(e:h.fit t q=some dB):h.t=t/\q=h.p.toList++dB:=by
 unfold dv.fit at e;split at e
 ·rename_i e1;refine⟨e1,?_⟩;split at e
  ·rename_i hp;simp only[aO]at e;rw[hp,e];rfl
  ·rename_i p x jK hp;split at e
   ·rename_i aa;simp only[aO]at e;rw[hp,aa,e];rfl
   cases e
  cases e
 cases e
theorem Rx(h:dv)(q:List (Nat×Nat)):h.fit h.t (h.p.toList++q)=some q:=by
 unfold dv.fit;rw[aZ rfl];cases h.p with
 | none=>rfl
 | some p=>simp
def ga(ai:List dv)(ω:Own):Own:=fun b=>
 match ω b with
 | .tok t q=>match n' t q ai with | some (g,dB)=>.tok g dB | none=>.bB
 | _=>.bB
def DL(g:Nat):List dv->Option dv
 | []=>none
 | h::r=>if fI h.i h.j=g then some h else DL g r
theorem Ry:∀{ai:List dv},pE ai=true->∀{h:dv},h∈ai->DL (fI h.i h.j) ai=some h
 | [],_,h,bC=>by cases bC
 | x::r,hk,h,bC=>by
  have aP:=Rv hk;have jD:=hk;simp only[pE,b8,fW]at hk;simp only[DL];rcases et.1 bC with rfl | r7
  ·rw[aZ rfl]
  rw[a6]
  ·exact Ry hk.2.2 r7
  intro e;have h1:=aP x eY;have U:=aP h (fw _ r7);have ax:=hk.2.1 h r7;simp only[dv.apart,b8,ni,bne_iff_ne,fM]at ax;simp only[fI]at e;omega
def BH(ai:List dv)(t0:Nat):c0->c0
 | .tok s q=>if df<=s then (match DL s ai with | some h=>.tok h.t (h.p.toList++q) | none=>.bB) else .tok (t0+s) q
 | _=>.bB
def w'(t:Nat):List dv->Option dv
 | []=>none
 | h::r=>if h.t=t then some h else w' t r
theorem Rz:∀{ai:List dv},w' t ai=none->sN ai t=false
 | [],_=>rfl
 | h::r,e=>by
  simp only[w']at e;split at e
  ·cases e
  rename_i cf;have:=Rz e;simp only[sN,vY,fR]at this ⊢;exact⟨by simpa using cf,this⟩
theorem RA:∀{ai:List dv},w' t ai=some h->h∈ai/\h.t=t
 | [],e=>by cases e
 | x::r,e=>by
  simp only[w']at e;split at e
  ·simp only[aO]at e;subst e;exact⟨eY,‹_›⟩
  obtain⟨h1,U⟩:=RA e;exact⟨fw _ h1,U⟩
def nM:List dv->List D->List D
 | [],ds=>ds
 | h::r,ds=>match h.p,h.post with
  | some p,some es=>nM r (ds.set p.2 (.J h.k es))
  | _,_=>nM r ds
def sm(ai:List dv)(t0 im pc:Nat)(qG:List (List D)):aD->aD
 | .J (.own t) k es=>
  match w' t ai with
  | some h=>match h.p,h.post with
   | none,some cB=>.J (.own t) h.k cB
   | none,none=>.cu
   | some _,_=>if t=im then .J (.own t) pc qG else .cu
  | none=>aD.cr (hc t0) (fun _=>true) (.J (.own t) k es)
 | l=>if l.p4 ai then .cu else l.cr (hc t0) fun _=>true
end Go.Sx
namespace Go.Sx
open Go.RowKit
variable{ai:List dv}
theorem anR{t:Nat}(h:sN ai t=false):∀y∈ai,y.t≠t:=by
 intro y bn e;simp only[sN,ff,dp]at h;exact h y bn e
theorem Lc{t:Nat}(h:sN ai t=false)(q:List (Nat×Nat)):n' t q ai=none:=by
 cases e:n' t q ai with
 | none=>rfl
 | some x=>
  obtain⟨g,dB⟩:=x;obtain⟨y,bn,bg,_⟩:=BG e;exact absurd (Rw bg).1 (anR h y bn)
structure Dx (w:World) (ω:Own) (τ:Nat->Nat×Value) (h:dv) (u:Value):Prop where
 rep:bX w ω (fun q o=>o=.tok h.t (h.p.toList++q)) (.J h.k h.es) u
 root:h.p=none->τ h.t=(h.k,u)
 cell:∀a b,h.p=some (a,b)->∃(kT ck off len cap:Nat) (arr:Array Value) (ty:TypeId) (cR:Nat×Nat),τ h.t=(kT,.slice (some ⟨ck,off,none⟩) len cap)/\ω ck=.tok h.t []/\w.heap[ck]?=some (.cells arr ty cR)/\arr[off+a*kT+b]?=some u
structure OF (w:World) (ω:Own) (τ:Nat->Nat×Value) (ai:List dv) (im pc:Nat) (qG:List (List D)):Prop where
 ex:∀h∈ai,∀p,h.p=some p->h.t=im->∃(dP:List (List D)) (y:Value) (ds:List D) (a:Nat),Sat w ω τ (.J (.own im) pc dP) y/\dP[a]?=some ds/\ds.length=pc/\qG=dP.set a (nM ai ds)/\
  ∀x∈ai,∀q,x.p=some q->x.t=im/\q.1=a/\∃cB,x.post=some cB
theorem BI:∀(ai:List dv) (ds:List D),(nM ai ds).length=ds.length
 | [],_=>rfl
 | h::r,ds=>by
  simp only[nM];split
  ·rw[BI r,fN]
  exact BI r ds
theorem Ld{y:Nat}{d:D}:∀{ai:List dv} {ds:List D},(nM ai ds)[y]?=some d->(∃h∈ai,∃a cB,h.p=some (a,y)/\h.post=some cB/\d=.J h.k cB)\/ds[y]?=some d/\∀h∈ai,∀a cB,h.p=some (a,y)->h.post=some cB->False
 | [],ds,h=>.inr ⟨h,fun _ bC=>by cases bC⟩
 | h::r,ds,aB=>by
  simp only[nM]at aB;split at aB
  ·rename_i p cB e1 e2;rcases Ld aB with⟨x,aa,a,bR,h1,U,ax⟩ | ⟨h1,U⟩
   ·exact .inl ⟨x,fw _ aa,a,bR,h1,U,ax⟩
   rw[jy]at h1;split at h1
   ·rename_i hp;split at h1
    ·simp only[aO]at h1;exact .inl ⟨h,eY,p.1,cB,by rw[e1,<-hp],e2,h1.symm⟩
    cases h1
   rename_i hp;refine .inr ⟨h1,fun x aa a bR ax aF=>?_⟩;rcases et.1 aa with rfl | aa
   ·rw[e1]at ax;simp only[aO]at ax;rw[ax]at hp;exact hp rfl
   exact U x aa a bR ax aF
  rename_i cf;rcases Ld aB with⟨x,aa,a,bR,h1,U,ax⟩ | ⟨h1,U⟩
  ·exact .inl ⟨x,fw _ aa,a,bR,h1,U,ax⟩
  refine .inr ⟨h1,fun x aa a bR ax aF=>?_⟩;rcases et.1 aa with rfl | aa
  ·exact cf _ _ ax aF
  exact U x aa a bR ax aF
theorem cE.Ye{w0:eN}{st:aG}{a:Act}{w aJ:World}{ω:Own}{τ:Nat->Nat×Value}(aT:cE w0 st a w ω τ)(t0:Nat){rs:List cK}{v:Value}{H:Nat->Nat×Value}
  (bD:pE ai=true) (dV:vj rs=true) (iM:t0+10000<=df) (PO:∀h∈ai,¬(t0<=h.t/\h.t<t0+10000)) (ao:hn ⟨w,fun b=>ga ai ω b≠.bB,H⟩ aJ) (fx:Own)
  (lS:∀b,b<w.heap.size->ga ai ω b=.bB->fx b=.bB) (lA:∀b,fx b≠.bB->(∃t q,fx b=.tok t q)/\∃arr ty,aJ.heap[b]?=some (.cells arr ty (0,0))) (lT:nL aJ fx rs v)
  (vals:dv->Value) (IL:∀h∈ai,∀cB,h.post=some cB->bX aJ fx (Tag.own (fI h.i h.j)).R (.J h.k cB) (vals h)) (gZ:∀h∈ai,Dx w ω τ h (vals h))
  {im pc:Nat} {qG:List (List D)} (j':OF w ω τ ai im pc qG):
  ∃a1 cT,cE w0 (st.map (sm ai t0 im pc qG)) a aJ a1 cT/\cP (Sat aJ a1 cT) (uf t0 rs) v:=by
 classical
 let a1:Own:=fun b=>if b<w.heap.size/\ga ai ω b=.bB then pD t0 (ω b) else BH ai t0 (fx b)
 let cT:Nat->Nat×Value:=fun s=>if t0<=s/\s<t0+10000 then (qX rs (s-t0),oj rs v (s-t0)) else τ s
 have hold:∀b,b<w.heap.size->ga ai ω b=.bB->a1 b=pD t0 (ω b):=fun b ao h=>by simp only[a1];rw[aZ ⟨ao,h⟩]
 have gE:∀b,fx b≠.bB->a1 b=BH ai t0 (fx b):=fun b ao=>by
  simp only[a1];rw[a6];rintro⟨h1,U⟩;exact ao (lS b h1 U)
 have hblk:∀b,b<w.heap.size->ga ai ω b=.bB->aJ.heap[b]?=w.heap[b]?:=fun b bu h=>ao.block b bu (fun aK=>aK h)
 have q0:∀b,ω b=.bB->ga ai ω b=.bB:=fun b h=>by simp only[ga,h]
 have YO:∀b id,ω b=.box id->ga ai ω b=.bB:=fun b id h=>by simp only[ga,h]
 have kR:∀b s q,ω b=.tok s q->n' s q ai=none->ga ai ω b=.bB:=fun b s q h U=>by simp only[ga,h,U]
 have tF:∀h∈ai,cT h.t=τ h.t:=fun h bC=>by simp only[cT];rw[a6 (PO h bC)]
 have eW:∀(g ev:Tag) (b:Nat) (q:List (Nat×Nat)),g.oq ai=false->hc t0 g=some ev->b<w.heap.size->g.R q (ω b)->ev.R q (a1 b)/\aJ.heap[b]?=w.heap[b]?:=by
  intro g ev b q hm ar bu aA;have hi:ga ai ω b=.bB:=by
   cases g with
   | free=>exact q0 b aA
   | own s=>exact kR b s q aA (Lc hm q)
   | ro s=>
    rcases aA with h | ⟨dB,h⟩
    ·exact q0 b h
    exact kR b s dB h (Lc hm dB)
  refine⟨?_,hblk b bu hi⟩;rw[hold b bu hi];cases g with
  | free=>simp only[hc,aO]at ar;subst ar;simp only[Tag.R]at aA ⊢;rw[aA];rfl
  | own s=>
   simp only[Tag.R]at aA;simp only[hc]at ar;rw[aA];simp only[pD];split at ar
   ·simp only[aO]at ar;subst ar;rw[aZ ‹_›];rfl
   simp only[aO]at ar;subst ar;rw[a6 ‹_›];rfl
  | ro s=>
   simp only[Tag.R]at aA;simp only[hc]at ar;split at ar
   ·simp only[aO]at ar;subst ar;rcases aA with h | ⟨dB,h⟩
    ·rw[h];rfl
    rw[h];simp only[pD];rw[aZ ‹_›];rfl
   simp only[aO]at ar;subst ar;rcases aA with h | ⟨dB,h⟩
   ·rw[h];exact .inl rfl
   rw[h];simp only[pD];rw[a6 ‹_›];exact .inr ⟨dB,rfl⟩
 have JM:∀(g ev:Tag) (y:Nat×Value),hc t0 g=some ev->g.eg τ y->ev.eg cT y:=by
  intro g ev y ar bn;cases g with
  | free=>simp only[hc,aO]at ar;subst ar;exact trivial
  | own s=>
   simp only[hc]at ar;split at ar
   ·simp only[aO]at ar;subst ar;exact trivial
   simp only[aO]at ar;subst ar;simp only[Tag.eg,cT]at bn ⊢;rw[a6 ‹_›];exact bn
  | ro s=>
   simp only[hc]at ar;split at ar
   ·simp only[aO]at ar;subst ar;exact trivial
   simp only[aO]at ar;subst ar;exact trivial
 have yY:∀id b,ω b=.box id->a1 b=.box id/\aJ.heap[b]?=w.heap[b]?:=by
  intro id b cv;have bu:=aT.owned.lt (b:=b) (by simp[cv]);have hi:=YO b id cv;exact⟨by rw[hold b bu hi,cv];rfl,hblk b bu hi⟩
 have P':∀h∈ai,∀cB,h.post=some cB->bX aJ a1 (fun q o=>o=.tok h.t (h.p.toList++q)) (.J h.k cB) (vals h):=by
  intro h bC cB he;refine (IL h bC cB he).frame fun b q _ aA=>⟨?_,rfl⟩
  simp only[Tag.R]at aA;rw[gE b (by rw[aA];simp),aA];simp only[BH];rw[aZ (by simp[fI]),Ry bD bC]
 have eV:∀l y,Sat w ω τ l y->Sat aJ a1 cT (sm ai t0 im pc qG l) y:=by
  intro l y c';have plain:∀g k es,g.oq ai=false->Sat w ω τ (.J g k es) y->Sat aJ a1 cT (aD.cr (hc t0) (fun _=>true) (.J g k es)) y:=by
   intro g k es hm nC;simp only[aD.cr];cases ar:hc t0 g with
   | none=>exact trivial
   | some ev=>exact⟨nC.1.frame fun b q bu aA=>eW g ev b q hm ar bu aA,JM g ev _ ar nC.2⟩
  cases l with
  | cu=>exact trivial
  | v x=>exact c'
  | cg c=>exact c'
  | ptr id off=>
   obtain⟨b,h1,U⟩:=c';exact⟨b,(yY id b h1).1,U⟩
  | hq f ids=>
   obtain⟨bs,e,aK,hi⟩:=c';simp only[sm,aD.p4,ng,k9,aD.cr];split
   ·refine⟨bs,e,aK,fun i id gq=>?_⟩;obtain⟨b,h1,U⟩:=hi i id gq;exact⟨b,h1,(yY id b U).1⟩
   exact trivial
  | iC ds off=>
   obtain⟨b,e,az⟩:=c';exact⟨b,e,az.frame fun b q bu aA=>eW .free .free b q rfl rfl bu aA⟩
  | fd d=>exact bX.frame c' fun b q bu aA=>eW .free .free b q rfl rfl bu aA
  | gb t k es=>exact⟨bX.frame c'.1 fun b q bu aA=>eW .free .free b q rfl rfl bu aA,fun bq=>(show cT t=τ t by simp only[cT];rw[a6 (by omega)]).trans (c'.2 bq)⟩
  | a8 t i j k es m=>
   simp only[sm];by_cases hm:aD.p4 ai (.a8 t i j k es m)=true
   ·rw[aZ hm];exact trivial
   rw[a6 hm];simp only[vW]at hm;replace hm:sN ai t=false:=hm;simp only[aD.cr];split
   ·rename_i dc ar;split
    ·rename_i bq;subst bq;obtain⟨fv,sd,h1,ZQ⟩:=c';refine⟨fv,sd,h1.frame fun c q af aA=>eW (.own dc) _ c _ hm ar af aA,fun Zl=>?_⟩;obtain⟨kT,b,off,len,cap,arr,ty,cR,U,aQ,ax,aF⟩:=ZQ Zl;have bu:b<w.heap.size:=(jz.1 ax).1;have hk:=eW (.own dc) _ b [] hm ar bu aQ;exact⟨kT,b,off,len,cap,arr,ty,cR,JM _ _ _ ar U,hk.1,hk.2.trans ax,aF⟩
    exact trivial
   exact trivial
  | fB t vs=>
   simp only[sm,aD.p4,fL];exact trivial
  | ep g k es i j=>
   simp only[sm];by_cases hm:aD.p4 ai (.ep g k es i j)=true
   ·rw[aZ hm];exact trivial
   rw[a6 hm];simp only[vW]at hm;replace hm:g.oq ai=false:=hm;obtain⟨b,off,cap,e,hi,az,bC⟩:=c';simp only[aD.cr];cases ar:hc t0 g with
   | none=>exact trivial
   | some ev=>exact⟨b,off,cap,e,hi,az.frame fun b q bu aA=>eW g ev b q hm ar bu aA,JM g ev _ ar bC⟩
  | J g k es=>
   cases g with
   | free=>exact plain .free k es rfl c'
   | ro s=>
    simp only[sm];by_cases hm:aD.p4 ai (.J (.ro s) k es)=true
    ·rw[aZ hm];exact trivial
    rw[a6 hm];simp only[vW]at hm;exact plain (.ro s) k es hm c'
   | own s=>
    simp only[sm];cases bg:w' s ai with
    | none=>exact plain (.own s) k es (Rz bg) c'
    | some h=>
     obtain⟨bC,rfl⟩:=RA bg;simp only;have bz:=gZ h bC;have eg:τ h.t=(k,y):=c'.2;split
     ·
      rename_i cB hp he;have e1:=bz.root hp;rw[eg]at e1;simp only[bx]at e1;obtain⟨rfl,e2⟩:=e1;have az:=P' h bC cB he;rw[hp,<-e2]at az;exact⟨az,by simp only[Tag.eg];rw[tF h bC,eg]⟩
     ·exact trivial
     -- parts of it
     rename_i p hp;split
     ·rename_i uX;obtain⟨dP,mA,ds,a0,yQ,eI,qW,rfl,hY⟩:=j'.ex h bC p hp uX;have Iy:τ im=(pc,mA):=yQ.2;rw[<-uX,eg]at Iy;simp only[bx]at Iy;obtain⟨rfl,rfl⟩:=Iy;obtain⟨q9,_⟩:=yQ;have hlen:(dP.set a0 (nM ai ds)).length=dP.length:=fN;have O':a0<dP.length:=(ey.1 eI).1;refine⟨?_,by simp only[Tag.eg];rw[tF h bC,eg]⟩;generalize bn:y=Oz at q9;cases q9 with
      | nil=>simp at O'
      | row R k dP ck off cap arr ty cR us yF ed YY c7 hk hu aB=>
       subst bn;have D1:ω ck=.tok h.t []:=by rw[uX];exact ed
       have PG:∀x∈ai,x.fit im []=none:=by
        intro x aa;unfold dv.fit;split
        ·rename_i ext;cases Es:x.p with
         | some q=>simp
         | none=>
          exfalso;have cf:dv.apart h x=true\/dv.apart x h=true\/h=x:=by
           rcases Ru bD h bC x aa with e | e | e
           ·exact .inr (.inr e)
           ·exact .inl e
           exact .inr (.inl e)
          have uL:∀y z:dv,y.t=z.t->(y.p=none\/z.p=none)->dv.apart y z=true->False:=by
           intro y z e1 e2 cJ;simp only[dv.apart,e1,b8,ni,bne_self_eq_false,ng,false_or]at cJ;rcases e2 with e2 | e2
           ·simp[e2]at cJ
           ·rw[e2]at cJ;cases hyp:y.p<;>simp[hyp]at cJ
          rcases cf with e | e | e
          ·exact uL h x (by rw[ext,uX]) (.inr Es) e
          ·exact uL x h (by rw[ext,uX]) (.inl Es) e
          rw[<-e,hp]at Es;cases Es
        rfl
       have lU:n' im [] ai=none:=by
        cases e:n' im [] ai with
        | none=>rfl
        | some z=>
         obtain⟨g,dB⟩:=z;obtain⟨x,aa,P2,_⟩:=BG e;rw[PG x aa]at P2;cases P2
       have YL:ck<w.heap.size:=(jz.1 yF).1;have awB:ga ai ω ck=.bB:=kR ck im [] ed lU;have Z5:¬(t0<=im/\im<t0+10000):=by rw[<-uX];exact PO h bC
       have PJ:∀b q,b<w.heap.size->ω b=.tok im q->n' im q ai=none->a1 b=.tok im q/\aJ.heap[b]?=w.heap[b]?:=by
        intro b q bu aA aK;have hi:=kR b im q aA aK;refine⟨?_,hblk b bu hi⟩;rw[hold b bu hi,aA];simp only[pD];rw[a6 Z5]
       have PI:∀x y d,c5 dP x y=some d->(∀z∈ai,z.p≠some (x,y))->bX aJ a1 (fun q=>(Tag.own im).R ((x,y)::q)) d (us x y):=by
        intro x y d af aW;refine (aB x y d af).frame fun b q bu aA=>?_
        refine PJ b _ bu aA ?_;cases e:n' im ((x,y)::q) ai with
        | none=>rfl
        | some r=>
         obtain⟨g,dB⟩:=r;obtain⟨z,Bi,aaG,_⟩:=BG e;obtain⟨e1,e2⟩:=Rw aaG;exfalso;cases sf:z.p with
         | none=>
          have:=PG z Bi;unfold dv.fit at this;rw[aZ e1,sf]at this;simp at this
         | some r=>
          rw[sf]at e2;simp only[yc,List.cons_append,List.nil_append,sT]at e2;exact aW z Bi (by rw[sf,<-e2.1])
       have key:∀x y d,c5 (dP.set a0 (nM ai ds)) x y=some d->bX aJ a1 (fun q=>(Tag.own im).R ((x,y)::q)) d (us x y):=by
        intro x y d af;by_cases aa:x=a0
        ·subst aa;have lA:(nM ai ds)[y]?=some d:=by
          simpa[c5,jy,O']using af
         rcases Ld lA with⟨z,aW,eZ,cB,h1,U,rfl⟩ | ⟨h1,U⟩
         ·obtain⟨e1,e2,_⟩:=hY z aW _ h1;have e2:eZ=x:=e2;subst e2;obtain⟨kT,eU,aw9,aw4,awb,av7,axp,awq,g1,g2,g3,g4⟩:=(gZ z aW).cell _ _ h1;rw[e1,<-uX,eg]at g1;simp only[bx,Value.slice.injEq,aO,Addr.mk.injEq]at g1;obtain⟨rfl,⟨rfl,rfl,_⟩,_,_⟩:=g1;rw[yF]at g3;simp only[aO,Obj.cells.injEq]at g3;obtain⟨rfl,_,_⟩:=g3;have aaA:y<ds.length:=by
           have:=(ey.1 lA).1;rwa[BI]at this
          have fa:c5 dP eZ y=some ds[y]:=by simp[c5,eI,aaA]
          have aav:us eZ y=vals z:=by
           have:=hu eZ y _ fa;rw[g4]at this;exact (eQ this).symm
          rw[aav];have az:=P' z aW cB U;rw[h1,e1]at az;exact az
         have fa:c5 dP x y=some d:=by simp[c5,eI,h1]
         refine PI x y d fa fun z aW sf=>?_
         obtain⟨_,_,cB,he⟩:=hY z aW _ sf;exact U z aW x cB sf he
        have fa:c5 dP x y=some d:=by
         simp only[c5,jy]at af;rw[a6 (by omega)]at af;exact af
        refine PI x y d fa fun z aW sf=>?_
        obtain⟨_,e2,_⟩:=hY z aW _ sf;exact aa e2
       have gj:=PJ ck [] YL ed lU;have:=bX.row (w:=aJ) (ω:=a1) (Tag.own im).R k (dP.set a0 (nM ai ds)) ck off cap arr ty cR us (gj.2.trans yF) gj.1 (by rw[hlen];exact YY) c7
        (fun e he=>by
         rcases h8 he with ej | rfl
         ·exact hk e ej
         rw[BI];exact qW)
        (fun x y d af=>by
         have gk:x<dP.length/\y<k:=by
          have jD:∀e∈dP.set a0 (nM ai ds),e.length=k:=fun e he=>by
           rcases h8 he with ej | rfl
           ·exact hk e ej
           rw[BI];exact qW
          have ej:x<(dP.set a0 (nM ai ds)).length/\y<k:=by
           unfold c5 at af;cases uC:(dP.set a0 (nM ai ds))[x]? with
           | none=>simp[uC]at af
           | some row=>
            simp only[uC,nZ]at af;have hm:=jD row (fE uC);exact⟨(ey.1 uC).1,by rw[<-hm];exact (ey.1 af).1⟩
          rw[hlen]at ej;exact ej
         have uV:(dP[x]'gk.1).length=k:=hk _ (pK gk.1);exact hu x y ((dP[x]'gk.1)[y]'(by omega)) (by simp[c5,gk.1,uV,gk.2]))
        key
       rw[hlen]at this;rw[uX];exact this
     exact trivial
 have cell:∀(n:Nat) (d:D) (u:Value),n<10000->oj rs v n=u->(∀k es,d=.J k es->qX rs n=k)->bX aJ fx (Tag.own n).R d u->Sat aJ a1 cT (d.qk (t0+n)) u:=by
  intro n d u aK bz hk az;cases d with
  | v x=>
   have e:u=x:=by cases az;rfl
   subst e;unfold D.qk;split
   ·rename_i h;cases h;exact rfl
   ·rename_i h;cases h;exact rfl
   ·rename_i h;cases h
   ·exact trivial
   exact trivial
  | ptr ds=>exact trivial
  | cl g bm=>exact trivial
  | J k es=>
   refine⟨az.frame fun b q bu aA=>⟨?_,rfl⟩,?_⟩
   ·simp only[Tag.R]at aA ⊢;rw[gE b (by rw[aA];simp),aA];simp only[BH];rw[a6 (by simp only[df];omega)]
   simp only[Tag.eg,cT];rw[aZ (by omega),show t0+n-t0=n by omega,bz,hk k es rfl]
 have uA:∀(r:Nat) (cn:cK) (y:Value),r<100->(∀ds,cn=.agg ds->ds.length<100)->rs[r]?=some cn->(∀j,j<100->oj rs v (100*r+j)=y.cells.getD j undef)->mT aJ fx r cn y->la (Sat aJ a1 cT) (cn.res (t0+100*r)) y:=by
  intro r cn y az eI A7 bz oi;have gP:∀j,j<100->qX rs (100*r+j)=(match cK.cell j cn with | some (.J k _)=>k | _=>0):=by
   intro j aP;unfold qX;rw[show (100*r+j) / 100=r by omega,show (100*r+j) % 100=j by omega,A7];rfl
  cases cn with
  | one d=>
   have h1:=oi.p9;have U:=bz 0 (by omega);rw[B9 h1]at U;have:=cell (100*r) d y (by omega) (by simpa using U) (fun k es e=>by
    have:=gP 0 (by omega);rw[nj]at this;rw[this,e];rfl) oi
   exact this
  | agg ds=>
   obtain⟨vs,rfl,aK,aP⟩:=oi;refine⟨vs,rfl,by rw[zr];exact aK,fun j l aj=>?_⟩;rw[Cc,b2]at aj;obtain⟨d,aB,rfl⟩:=aj;obtain⟨u,hu,A8⟩:=aP j d aB;have j9:j<100:=by
    have:=(ey.1 aB).1;have:=eI ds rfl;omega
   refine⟨u,hu,?_⟩;have:=cell (100*r+j) d u (by omega) (by rw[bz j j9];simp[Value.cells,eu,hu]) (fun k es e=>by
    rw[gP j j9];simp only[cK.cell,aB,e]) A8
   rw[show t0+100*r+(0+j)=t0+(100*r+j) by omega];exact this
 simp only[vj,b8,b']at dV;have eI:∀(r:Nat) (cn:cK),rs[r]?=some cn->∀ds,cn=.agg ds->ds.length<100:=by
  intro r cn az ds e;have:=fW.1 dV.2 cn (fE az);subst e;simpa using this
 have PC:∀b,ω b≠.bB->w0.Ez b:=fun b h=>(aT.owned b h).1
 have Pr:∀b,ga ai ω b≠.bB->ω b≠.bB:=fun b h e=>h (q0 b e)
 refine⟨a1,cT,aT.dh _ eV ?_ ?_ (fun id b cv=>yY id b cv) ?_ (fun s ai=>by simp only[cT];rw[a6 (by omega)]),?_⟩
 ·refine⟨ao.os.trans aT.below.os,ao.tape.trans aT.below.tape,ao.output.trans aT.below.output,n1 aT.below.size ao.size,fun k hk ar=>?_,fun ai=>n1 (aT.below.drawn ai) (ao.drawn ai),ao.laid,aT.below.free⟩;have q2:k<w.heap.size:=An hk aT.below.size;have hi:ga ai ω k=.bB:=by
   cases e:ga ai ω k with
   | bB=>rfl
   | _=>
    have:=PC k (Pr k (by rw[e];simp));rcases this with h | h
    ·omega
    exact absurd h ar
  exact (hblk k q2 hi).trans (aT.below.block k hk ar)
 ·intro b gp;by_cases af:b<w.heap.size/\ga ai ω b=.bB
  ·rw[hold b af.1 af.2]at gp;have U:ω b≠.bB:=fun e=>by rw[e]at gp;exact gp rfl
   obtain⟨ax,arr,ty,aF⟩:=aT.owned b U;exact⟨ax,arr,ty,(hblk b af.1 af.2).trans aF⟩
  have U:fx b≠.bB:=fun e=>by
   simp only[a1]at gp;rw[a6 af,e]at gp;exact gp rfl
  obtain⟨_,arr,ty,aF⟩:=lA b U;refine⟨?_,arr,ty,aF⟩;rcases pM b w.heap.size with bu | nz
  ·exact PC b (Pr b fun e=>af ⟨bu,e⟩)
  exact .inl (by have:=aT.below.size;omega)
 ·intro id b cv;by_cases af:b<w.heap.size/\ga ai ω b=.bB
  ·rw[hold b af.1 af.2]at cv;cases e:ω b with
   | bB=>rw[e]at cv;cases cv
   | box i=>rw[e]at cv;exact cv
   | tok s q=>rw[e]at cv;simp only[pD]at cv;split at cv<;>cases cv
  simp only[a1]at cv;rw[a6 af]at cv;cases e:fx b with
  | bB=>rw[e]at cv;cases cv
  | box i=>rw[e]at cv;cases cv
  | tok s q=>
   rw[e]at cv;simp only[BH]at cv;split at cv
   ·split at cv<;>cases cv
   cases cv
 cases rs with
 | nil=>
  obtain⟨vs,rfl,aK,_⟩:=lT;exact⟨vs,rfl,aK,fun i a ad=>by simp[rB]at ad⟩
 | cons cn rest=>
  cases rest with
  | nil=>
   have:=uA 0 cn v (by omega) (eI 0 cn rfl) rfl (fun j aP=>by
    unfold oj;simp only[Nat.mul_zero,dq];rw[Ds aP]) lT
   exact this
  | cons OJ rest=>
   obtain⟨vs,rfl,aK,bz⟩:=lT;refine⟨vs,rfl,by rw[EI];exact aK,fun i a ad=>?_⟩;rw[EH,b2]at ad;obtain⟨oR,h1,rfl⟩:=ad;obtain⟨y,bn,AW⟩:=bz i oR h1;have lB:i<100:=by
    have:=(ey.1 h1).1;omega
   refine⟨y,bn,?_⟩;have:=uA i oR y lB (eI i oR h1) h1 (fun j aP=>by
    unfold oj;simp only;rw[show (100*i+j) / 100=i by omega,show (100*i+j) % 100=j by omega];simp[eu,bn]) AW
   rw[dq];exact this
end Go.Sx
namespace Go.Sx
open Go.RowKit
variable{w:World}{ω:Own}{τ:Nat->Nat×Value}{ai:List dv}{l:aD}{d:D}{y:Value}
theorem RB(h:l.gX=some d)(hm:l.p4 ai=false)(c':Sat w ω τ l y):bX w (ga ai ω) Tag.free.R d y:=by
 have q0:∀b,ω b=.bB->ga ai ω b=.bB:=fun b h=>by simp only[ga,h]
 have kR:∀b s q,ω b=.tok s q->sN ai s=false->ga ai ω b=.bB:=fun b s q h U=>by simp only[ga,h,Lc U]
 have tag:∀(g:Tag) (b:Nat) (q:List (Nat×Nat)),g.oq ai=false->g.R q (ω b)->ga ai ω b=.bB:=by
  intro g b q ar aA;cases g with
  | free=>exact q0 b aA
  | own s=>exact kR b s q aA ar
  | ro s=>
   rcases aA with h | ⟨dB,h⟩
   ·exact q0 b h
   exact kR b s dB h ar
 cases l with
 | cu=>cases h
 | v x=>
  simp only[aD.gX]at h;split at h
  ·simp only[aO]at h;subst h;have:y=x:=c';subst this;exact .v _ _ ‹_›
  cases h
 | cg c=>
  simp only[aD.gX,aO]at h;subst h;have:y=.bool c:=c';subst this;exact .v _ _ rfl
 | J t k es=>simp only[aD.gX,aO]at h;subst h;exact c'.1.frame fun b q _ aA=>⟨tag t b q hm aA,rfl⟩
 | ptr=>cases h
 | ep=>cases h
 | hq=>cases h
 | fB=>cases h
 | iC ds off=>
  simp only[aD.gX]at h;split at h
  ·rename_i aN;subst aN;simp only[aO]at h;subst h;obtain⟨b,rfl,az⟩:=c';exact az.frame fun b q _ aA=>⟨q0 b aA,rfl⟩
  cases h
 | fd dK=>simp only[aD.gX,aO]at h;subst h;exact bX.frame c' fun b q _ aA=>⟨q0 b aA,rfl⟩
 | gb t k es=>simp only[aD.gX,aO]at h;subst h;exact bX.frame c'.1 fun b q _ aA=>⟨q0 b aA,rfl⟩
 | a8 t i j k es m=>
  obtain⟨u,hu,az,_⟩:=c';cases m with
  | at_ x z=>cases h
  | here=>simp only[aD.gX,aO]at h;subst h;have:y=u:=hu;subst this;exact az.frame fun b q _ aA=>⟨kR b t _ aA hm,rfl⟩
  | mD=>simp only[aD.gX,aO]at h;subst h;have:y=u:=hu;subst this;exact az.frame fun b q _ aA=>⟨kR b t _ aA hm,rfl⟩
variable{bs:mB}
theorem RC(ao:w9 w ω τ bs){id b:Nat}(h:ym bs id=some d)(hm:(match dE id bs with | some ls=>ls.any (aD.p4 ai) | none=>true)=false)(aN:ω b=.box id):
  bX w (ga ai ω) Tag.free.R d (ptrTo b):=by
 unfold ym at h;cases e:dE id bs with
 | none=>simp[e]at h
 | some ls=>
  rw[e]at hm;simp only[ff,vW]at hm;simp only[e,nZ,b2]at h;obtain⟨ds,h1,rfl⟩:=h;obtain⟨c3,arr,ty,di,hu,bC,c'⟩:=ao id ls e;have:=hu b aN;subst this;obtain⟨U,ax⟩:=ox h1;have cell:∀j d,ds[j]?=some d->arr[j]?=some (arr.getD j undef)/\bX w (ga ai ω) Tag.free.R d (arr.getD j undef):=by
   intro j d aB;obtain⟨l,aj,cV⟩:=ax j d aB;obtain⟨u,fO,fb⟩:=c'.2 j l aj;have e2:arr.getD j undef=u:=by simp[eu,fO]
   rw[e2];exact⟨fO,RB cV (hm l (fE aj)) fb⟩
  exact bX.ptr _ ds b arr ty (0,0) (fun j=>arr.getD j undef) bC (by show ga ai ω b=.bB;simp only[ga,aN]) (by have:=c'.1;omega) (fun j d aB=>(cell j d aB).1) (fun j d aB=>(cell j d aB).2.frame fun _ _ _ h=>⟨h,rfl⟩)
theorem anS(ao:w9 w ω τ bs)(h:l.kK bs=some d)(hm:l.oq bs ai=false)(c':Sat w ω τ l y):
  bX w (ga ai ω) Tag.free.R d y:=by
 unfold aD.kK at h;split at h
 ·rename_i id off;split at h
  ·rename_i aN;subst aN;obtain⟨b,h1,rfl⟩:=c';exact RC ao h hm h1
  cases h
 ·rename_i g ids;rw[b2]at h;obtain⟨ds,h1,rfl⟩:=h;obtain⟨oT,rfl,aK,hi⟩:=c';obtain⟨U,ax⟩:=ox h1;simp only[aD.oq,ff,vW]at hm;have cell:∀j d,ds[j]?=some d->(oT.map ptrTo).toArray[j]?=some ((oT.map ptrTo).toArray.getD j undef)/\bX w (ga ai ω) Tag.free.R d ((oT.map ptrTo).toArray.getD j undef):=by
   intro j d aB;obtain⟨id,gq,Iw⟩:=ax j d aB;obtain⟨b,gj,gC⟩:=hi j id gq;have e1:(oT.map ptrTo).toArray[j]?=some (ptrTo b):=by simp[gj]
   have e2:(oT.map ptrTo).toArray.getD j undef=ptrTo b:=by rw[eu,e1];rfl
   rw[e2];exact⟨e1,RC ao Iw (hm id (fE gq)) gC⟩
  exact bX.cl _ g ds _ (fun j=>(oT.map ptrTo).toArray.getD j undef) (by simp;omega) (fun j d aB=>(cell j d aB).1) (fun j d aB=>(cell j d aB).2.frame fun _ _ _ h=>⟨h,rfl⟩)
 rename_i sa ZR;have wB:l.p4 ai=false:=by
  unfold aD.oq at hm;split at hm
  ·exact absurd rfl (sa _ _)
  ·exact absurd rfl (ZR _ _)
  exact hm
 exact RB h wB c'
structure X2 (w:World) (ω:Own) (τ:Nat->Nat×Value) (ai:List dv) (i j:Nat) (c:eT) (aa:List dv) (y:Value):Prop where
 gc:v' w (ga ai ω) (fI i j) c y
 at_:∀h∈aa,h.i=i/\h.j=j/\Dx w ω τ h y/\c=.fh h.k h.es h.post
 one:y.oneCell'=true
variable{i:Nat}
theorem Le(bD:pE ai=true)(ao:w9 w ω τ bs){j:Nat}{m:qv}{c:eT}{aa:List dv}{rx:List aD}
  (h:yo bs i j m l=some (c,aa,rx)) (j':∀x∈aa,x∈ai) (yP:∀x∈rx,x.oq bs ai=false) (c':Sat w ω τ l y):X2 w ω τ ai i j c aa y:=by
 unfold yo at h;split at h
 ·rw[b2]at h;obtain⟨d,h1,h⟩:=h;simp only[bx]at h;obtain⟨rfl,rfl,rfl⟩:=h;have:=anS ao h1 (yP _ (by simp)) c';exact⟨this,fun x aa=>by simp at aa,this.p9⟩
 ·rename_i post t k es;simp only[aO,bx]at h;obtain⟨rfl,rfl,rfl⟩:=h;have q3:=j' _ (eY);refine⟨c'.1.frame fun b q _ aA=>⟨?_,rfl⟩,fun x aa=>?_,c'.1.p9⟩
  ·simp only[Tag.R]at aA ⊢;simp only[ga,aA];have:=Kg (t:=t) (q:=q) (dB:=q) bD q3 (Rx ⟨i,j,t,none,k,es,post⟩ q);simp only[this]
  simp only[List.mem_singleton]at aa;subst aa;exact⟨rfl,rfl,⟨c'.1.frame fun b q _ aA=>⟨aA,rfl⟩,fun _=>c'.2,fun a b e=>by cases e⟩,rfl⟩
 ·rename_i post t a b k es;simp only[aO,bx]at h;obtain⟨rfl,rfl,rfl⟩:=h;have q3:=j' _ (eY);obtain⟨fv,sd,c'⟩:=c';have:y=fv:=sd;subst this;refine⟨c'.1.frame fun c q _ aA=>⟨?_,rfl⟩,fun x aa=>?_,c'.1.p9⟩
  ·simp only[Tag.R]at aA ⊢;simp only[ga,aA];have:=Kg (t:=t) (q:=(a,b)::q) (dB:=q) bD q3 (Rx ⟨i,j,t,some (a,b),k,es,post⟩ q);simp only[this]
  simp only[List.mem_singleton]at aa;subst aa;refine⟨rfl,rfl,⟨c'.1.frame fun b q _ aA=>⟨aA,rfl⟩,fun e=>(by cases e),fun cF c3 e=>?_⟩,rfl⟩;simp only[aO,bx]at e;obtain⟨rfl,rfl⟩:=e;exact c'.2 rfl
 cases h
theorem RD:∀{ms:List qv} {ls:List aD} {j:Nat} {cs:List eT} {aa:List dv} {rx:List aD},qf bs i j ms ls=some (cs,aa,rx)->cs.length=ls.length
 | [],[],j,cs,aa,rx,h=>by simp only[qf,aO,bx]at h;obtain⟨rfl,_,_⟩:=h;rfl
 | m::ms,l::ls,j,cs,aa,rx,h=>by
  simp only[qf]at h;split at h
  ·rename_i c h1 cw OW lj Ab e1 e2;simp only[aO,bx]at h;obtain⟨rfl,_,_⟩:=h;simp[RD e2]
  cases h
 | [],_::_,j,cs,aa,rx,h=>by simp[qf]at h
 | _::_,[],j,cs,aa,rx,h=>by simp[qf]at h
theorem RE:∀{ms:List qv} {ls:List aD} {j:Nat} {cs:List eT} {aa:List dv} {rx:List aD},qf bs i j ms ls=some (cs,aa,rx)->
  (∀(x:Nat) (c:eT),cs[x]?=some c->∃l m h1 cw,ls[x]?=some l/\yo bs i (j+x) m l=some (c,h1,cw)/\(∀z∈h1,z∈aa)/\(∀z∈cw,z∈rx))/\
  (∀h∈aa,∃(x:Nat) (c:eT) (l:aD) (m:qv) (h1:List dv) (cw:List aD),cs[x]?=some c/\ls[x]?=some l/\yo bs i (j+x) m l=some (c,h1,cw)/\h∈h1/\(∀z∈h1,z∈aa)/\(∀z∈cw,z∈rx))
 | [],[],j,cs,aa,rx,h=>by
  simp only[qf,aO,bx]at h;obtain⟨rfl,rfl,rfl⟩:=h;exact⟨fun x c af=>by simp at af,fun h bC=>by simp at bC⟩
 | m::ms,l::ls,j,cs,aa,rx,h=>by
  simp only[qf]at h;split at h
  ·rename_i c h1 cw OW lj Ab e1 e2;simp only[aO,bx]at h;obtain⟨rfl,rfl,rfl⟩:=h;obtain⟨cy,bw⟩:=RE e2;refine⟨fun x kL af=>?_,fun z aW=>?_⟩
   ·cases x with
    | zero=>
     simp only[kE,aO]at af;subst af;exact⟨l,m,h1,cw,rfl,e1,fun z aW=>hl _ aW,fun z aW=>hl _ aW⟩
    | succ x=>
     obtain⟨g',wO,U,dt,g1,g2,g3,g4⟩:=cy x kL (by simpa using af);exact⟨g',wO,U,dt,by simpa using g1,by rw[show j+(x+1)=j+1+x by omega];exact g2,fun z aW=>io _ (g3 z aW),fun z aW=>io _ (g4 z aW)⟩
   rcases gV.1 aW with aW | aW
   ·exact⟨0,c,l,m,h1,cw,rfl,rfl,e1,aW,fun z aW=>hl _ aW,fun z aW=>hl _ aW⟩
   obtain⟨x,kL,g',wO,U,dt,g0,g1,g2,g5,g3,g4⟩:=bw z aW;exact⟨x+1,kL,g',wO,U,dt,by simpa using g0,by simpa using g1,by rw[show j+(x+1)=j+1+x by omega];exact g2,g5,fun z aW=>io _ (g3 z aW),fun z aW=>io _ (g4 z aW)⟩
  cases h
 | [],_::_,j,cs,aa,rx,h=>by simp[qf]at h
 | _::_,[],j,cs,aa,rx,h=>by simp[qf]at h
structure X1 (w:World) (ω:Own) (τ:Nat->Nat×Value) (ai:List dv) (i:Nat) (eG:GA) (aa:List dv) (y:Value):Prop where
 Yv:OC w (ga ai ω) i eG y
 at_:∀h∈aa,h.i=i/\Dx w ω τ h (cellOf y h.j)/\eG.cell h.j=some (.fh h.k h.es h.post)
theorem RF(bD:pE ai=true)(ao:w9 w ω τ bs){ms:List qv}{p:aI}{eG:GA}{aa:List dv}{rx:List aD}
  (h:Aw bs i ms p=some (eG,aa,rx)) (j':∀x∈aa,x∈ai) (yP:∀x∈rx,x.oq bs ai=false) (c':cP (Sat w ω τ) p y):X1 w ω τ ai i eG aa y:=by
 unfold Aw at h;split at h
 ·rename_i l;split at h
  ·rename_i m;rw[b2]at h;obtain⟨⟨c,h1,cw⟩,e,h⟩:=h;simp only[bx]at h;obtain⟨rfl,rfl,rfl⟩:=h;have:=Le bD ao e j' yP c';refine⟨this.gc,fun x aa=>?_⟩;obtain⟨e1,e2,cJ,e4⟩:=this.at_ x aa;have Yr:cellOf y x.j=y:=by rw[e2,cellOf,B9 this.one];rfl
   rw[Yr];exact⟨e1,cJ,by simp[GA.cell,e2,e4]⟩
  cases h
 ·rename_i ls;rw[b2]at h;obtain⟨⟨cs,h1,cw⟩,e,h⟩:=h;simp only[bx]at h;obtain⟨rfl,rfl,rfl⟩:=h;obtain⟨us,rfl,aK,hu⟩:=c';obtain⟨cy,bw⟩:=RE e;refine⟨⟨us,rfl,by rw[RD e];exact aK,fun x c af=>?_⟩,fun z aW=>?_⟩
  ·obtain⟨l,m,U,dt,g1,g2,g3,g4⟩:=cy x c af;obtain⟨u,fO,fb⟩:=hu x l g1;rw[dq]at g2;exact⟨u,fO,(Le bD ao g2 (fun z aW=>j' z (g3 z aW)) (fun z aW=>yP z (g4 z aW)) fb).gc⟩
  obtain⟨x,c,l,m,U,dt,g0,g1,g2,g5,g3,g4⟩:=bw z aW;obtain⟨u,fO,fb⟩:=hu x l g1;rw[dq]at g2;obtain⟨e1,e2,cJ,e4⟩:=(Le bD ao g2 (fun z aW=>j' z (g3 z aW)) (fun z aW=>yP z (g4 z aW)) fb).at_ z g5;refine⟨e1,?_,by simp only[GA.cell,e2,g0,e4]⟩;have:cellOf (.agg us) z.j=u:=by simp[cellOf,Value.cells,e2,eu,fO]
  rw[this];exact cJ
 cases h
theorem RG:∀{JR:List (List qv)} {cx:List aI} {i:Nat} {gs:List GA} {aa:List dv} {rx:List aD},wh bs i JR cx=some (gs,aa,rx)->gs.length=cx.length/\
  (∀(x:Nat) (eG:GA),gs[x]?=some eG->∃p ms h1 cw,cx[x]?=some p/\Aw bs (i+x) ms p=some (eG,h1,cw)/\(∀z∈h1,z∈aa)/\(∀z∈cw,z∈rx))/\
  (∀h∈aa,∃(x:Nat) (eG:GA) (p:aI) (ms:List qv) (h1:List dv) (cw:List aD),gs[x]?=some eG/\cx[x]?=some p/\Aw bs (i+x) ms p=some (eG,h1,cw)/\h∈h1/\(∀z∈h1,z∈aa)/\(∀z∈cw,z∈rx))
 | [],[],i,gs,aa,rx,h=>by
  simp only[wh,aO,bx]at h;obtain⟨rfl,rfl,rfl⟩:=h;exact⟨rfl,fun x c af=>by simp at af,fun h bC=>by simp at bC⟩
 | m::ms,l::ls,i,gs,aa,rx,h=>by
  simp only[wh]at h;split at h
  ·rename_i c h1 cw OW lj Ab e1 e2;simp only[aO,bx]at h;obtain⟨rfl,rfl,rfl⟩:=h;obtain⟨dw,cy,bw⟩:=RG e2;refine⟨by simp[dw],fun x kL af=>?_,fun z aW=>?_⟩
   ·cases x with
    | zero=>
     simp only[kE,aO]at af;subst af;exact⟨l,m,h1,cw,rfl,e1,fun z aW=>hl _ aW,fun z aW=>hl _ aW⟩
    | succ x=>
     obtain⟨g',wO,U,dt,g1,g2,g3,g4⟩:=cy x kL (by simpa using af);exact⟨g',wO,U,dt,by simpa using g1,by rw[show i+(x+1)=i+1+x by omega];exact g2,fun z aW=>io _ (g3 z aW),fun z aW=>io _ (g4 z aW)⟩
   rcases gV.1 aW with aW | aW
   ·exact⟨0,c,l,m,h1,cw,rfl,rfl,e1,aW,fun z aW=>hl _ aW,fun z aW=>hl _ aW⟩
   obtain⟨x,kL,g',wO,U,dt,g0,g1,g2,g5,g3,g4⟩:=bw z aW;exact⟨x+1,kL,g',wO,U,dt,by simpa using g0,by simpa using g1,by rw[show i+(x+1)=i+1+x by omega];exact g2,g5,fun z aW=>io _ (g3 z aW),fun z aW=>io _ (g4 z aW)⟩
  cases h
 | [],_::_,i,gs,aa,rx,h=>by simp[wh]at h
 | _::_,[],i,gs,aa,rx,h=>by simp[wh]at h
def EJ:List dv->Option (Nat×Nat)
 | []=>none
 | h::r=>match h.p with | some p=>some (h.t,p.1) | none=>EJ r
theorem RH:∀{ai:List dv},EJ ai=none->∀h∈ai,h.p=none
 | [],_,h,bC=>by cases bC
 | x::r,e,h,bC=>by
  simp only[EJ]at e;split at e
  ·cases e
  rename_i hp;rcases et.1 bC with rfl | bC
  ·exact hp
  exact RH e h bC
def BJ(a:Nat):List dv->List Prop
 | []=>[]
 | h::r=>match h.p with | some p=>(p.1=a)::BJ a r | none=>BJ a r
theorem Lf{a:Nat}:∀{ai:List dv},c8 (BJ a ai)->∀h∈ai,∀p,h.p=some p->p.1=a
 | [],_,h,bC,_,_=>by cases bC
 | x::r,aN,h,bC,p,hp=>by
  simp only[BJ]at aN;split at aN
  ·rename_i q aA;rcases et.1 bC with rfl | bC
   ·rw[hp]at aA;rw[eQ aA];exact aN.1
   exact Lf aN.2 h bC p hp
  rename_i aA;rcases et.1 bC with rfl | bC
  ·rw[hp]at aA;cases aA
  exact Lf aN h bC p hp
def Lg(st:aG)(ai:List dv)(src:Nat)(ds:List D):Option (Nat×Nat×List (List D)×List Prop):=
 match EJ ai with
 | none=>some (0,0,[],[])
 | some (t,a)=>
  match (st.env.getD src .cu).leaf with
  | some (.J (.own s) k es)=>
   if s=t/\ds.length=k/\ai.all (fun h=>match h.p with | some _=>h.t==t&&h.post.isSome | none=>true)=true then
    some (t,k,es.set a (nM ai ds),(es[a]?=some ds)::BJ a ai)
   else none
  | _=>none
theorem anT{w0:eN}{st:aG}{a:Act}(aT:cE w0 st a w ω τ){src:Nat}{ds:List D}{t k:Nat}{es:List (List D)}{obs:List Prop}
  (h:Lg st ai src ds=some (t,k,es,obs)) (aN:c8 obs):OF w ω τ ai t k es:=by
 unfold Lg at h;split at h
 ·rename_i aK;exact⟨fun x aa p hp _=>by rw[RH aK x aa]at hp;cases hp⟩
 rename_i dc cF bg;split at h
 ·rename_i s cb cB aj;split at h
  ·rename_i af;obtain⟨rfl,qW,hY⟩:=af;simp only[aO,bx]at h;obtain⟨rfl,rfl,rfl,rfl⟩:=h;rw[fW]at hY;refine⟨fun x aa p hp _=>?_⟩;have nC:∃y,Sat w ω τ (.J (.own s) cb cB) y:=by
    rw[iF]at aj;cases e:st.env[src]? with
    | none=>rw[e]at aj;simp[aI.leaf]at aj
    | some p=>
     rw[e]at aj;obtain⟨v,_,U⟩:=aT.env src p e;exact⟨v,aI.dQ aj U⟩
   obtain⟨y,bn⟩:=nC;refine⟨cB,y,ds,cF,bn,aN.1,qW,rfl,fun z aW q aA=>?_⟩;have h1:=hY z aW;simp only[aA,b8,dp,qo]at h1;exact⟨h1.1,Lf aN.2 z aW q aA,h1.2⟩
  cases h
 cases h
def Lh(P:Program)(st:aG)(d:Option Nat)(f:FuncId)(args:List Operand)(ans:List b6):Option (aG×List b6×List Prop):=
 match ans with
 | .rG wR src ds rs::r=>
  match wh st.boxes 0 wR (args.map st.bj) with
  | some (gs,ai,ql)=>
   match Lg st ai src ds with
   | some (im,pc,qG,obs)=>
    let t0:=10000*(d.getD 0+1)
    if hL P f=true/\vj rs=true/\t0+10000<=df/\pE ai=true/\ql.all (fun l=>!(l.oq st.boxes ai))=true/\ai.all (fun h=>!(decide (t0<=h.t)&&decide (h.t<t0+10000)))=true then
     let br:=st.map (sm ai t0 im pc qG)
     match d with
     | some d=>some (⟨br.env.set d (uf t0 rs),br.boxes⟩,r,k' P f gs rs::obs)
     | none=>some (br,r,k' P f gs rs::obs)
    else none
   | none=>none
  | none=>none
 | _=>none
theorem anU{P:Program}{w0:eN}{st br:aG}{a:Act}{dst:Option Nat}{f:FuncId}{args:Array Operand}{ts:Array TypeId}{type:TypeId}{pos:String}{after:Array Edge}{guard:Option (Nat×Bool)}{ans cj:List b6}{obs:List Prop}
  (aT:cE w0 st a w ω τ) (h:Lh P st dst f args.toList ans=some (br,cj,obs)) (aN:c8 obs) {K:Act->World->Prop} {Q:Exit->Act->World->Prop} (gN:∀cF aJ,Rel w0 br cF aJ->K cF aJ):
  Oper.wp P ⟨dst,.call ⟨.value (.func f),args,ts⟩,type,pos,after,guard⟩ a w K Q:=by
 unfold Lh at h;split at h
 ·rename_i wR src ds rs r;split at h
  ·rename_i gs ai ql nx;split at h
   ·rename_i im pc qG gm j';simp only at h;split at h
    ·rename_i af;obtain⟨hZ,dV,iM,bD,A5,yO⟩:=af;rw[fW]at A5 yO;have A6:∀l∈ql,l.oq st.boxes ai=false:=fun l aj=>by simpa using A5 l aj
     have Z8:∀h∈ai,¬(10000*(dst.getD 0+1)<=h.t/\h.t<10000*(dst.getD 0+1)+10000):=fun h bC=>by
      have:=yO h bC;simp only[gy,Bool.and_eq_false_iff,lr]at this;omega
     obtain⟨hlen,cy,bw⟩:=RG nx;have gZ:∀(x:Nat) (p:aI),(args.toList.map st.bj)[x]?=some p->∃v,(args.map a.eval)[x]?=some v/\cP (Sat w ω τ) p v:=by
      intro x p hp;rw[dG,b2]at hp;obtain⟨o,h1,rfl⟩:=hp;refine⟨a.eval o,?_,aT.bj o⟩;rw[Ap];rw[iX]at h1;rw[h1];rfl
     have Zj:HB w (ga ai ω) gs (args.map a.eval):=by
      refine⟨fun b ao=>?_,by simp[hlen],fun x eG aa=>?_⟩
      ·have da:ω b≠.bB:=fun e=>ao (by simp only[ga,e])
       obtain⟨_,arr,ty,aF⟩:=aT.owned b da;refine⟨?_,arr,ty,aF⟩;simp only[ga]at ao ⊢;cases e:ω b with
       | bB=>simp[e]at ao
       | box id=>simp[e]at ao
       | tok t q=>
        simp only[e]at ao ⊢;cases e2:n' t q ai with
        | none=>simp[e2]at ao
        | some z=>
         obtain⟨g,dB⟩:=z;obtain⟨y,_,_,rfl⟩:=BG e2;exact⟨_,dB,rfl,by simp[fI]⟩
      obtain⟨p,ms,h1,cw,g1,g2,g3,g4⟩:=cy x eG aa;obtain⟨v,bz,uW⟩:=gZ x p g1;rw[dq]at g2;exact⟨v,bz,(RF bD aT.boxes g2 g3 (fun z aW=>A6 z (g4 z aW)) uW).Yv⟩
     have rZ:∀h∈ai,Dx w ω τ h (cellOf ((args.map a.eval).getD h.i undef) h.j)/\∃eG,gs[h.i]?=some eG/\eG.cell h.j=some (.fh h.k h.es h.post):=by
      intro h bC;obtain⟨x,eG,p,ms,h1,cw,g0,g1,g2,g5,g3,g4⟩:=bw h bC;obtain⟨v,bz,uW⟩:=gZ x p g1;rw[dq]at g2;obtain⟨e1,e2,cJ⟩:=(RF bD aT.boxes g2 g3 (fun z aW=>A6 z (g4 z aW)) uW).at_ h g5;have bj:(args.map a.eval).getD h.i undef=v:=by rw[e1,eu,bz];rfl
      rw[bj];exact⟨e2,eG,by rw[e1];exact g0,cJ⟩
     have fj:(execOp a.eval ⟨dst,.call ⟨.value (.func f),args,ts⟩,type,pos,after,guard⟩).run P w=.ok (.enter f (args.map a.eval)) w:=by
      unfold hL at hZ;split at hZ
      ·rename_i fn lU;simp only[b8,gy,vV,fM]at hZ;have tk:fn.body≠none:=by intro e;rw[e]at hZ;simp at hZ
       simp[execOp,resolve,Act.eval,Deferred.ofValue,invoke,callFunc,lU,hZ.1,tk]
      cases hZ
     have key:k' P f gs rs->c8 gm->(∀v aJ a1 cT,cE w0 (st.map (sm ai (10000*(dst.getD 0+1)) im pc qG)) a aJ a1 cT->cP (Sat aJ a1 cT) (uf (10000*(dst.getD 0+1)) rs) v->K (a.put dst v) aJ)->
       Oper.wp P ⟨dst,.call ⟨.value (.func f),args,ts⟩,type,pos,after,guard⟩ a w K Q:=by
      intro IZ IP Ik;unfold Oper.wp;rw[fj];simp only[Oper.upon];refine (IZ w _ _ Zj (aT.tidy fun b ao=>by simp only[ga,ao])).mono ?_;rintro e aJ ⟨v,rfl,lz,fx,c1,c2,cH,ez⟩;obtain⟨a1,cT,h1,U⟩:=aT.Ye (10000*(dst.getD 0+1)) bD dV iM Z8 lz fx c1 c2 ez (fun h=>cellOf ((args.map a.eval).getD h.i undef) h.j)
       (fun h bC cB he=>by
        obtain⟨_,eG,g1,g2⟩:=rZ h bC;rw[he]at g2;exact cH h.i h.j eG h.k h.es cB g1 g2)
       (fun h bC=>(rZ h bC).1) (anT aT j' IP)
      exact Ik v aJ a1 cT h1 U
     cases dst with
     | none=>
      simp only[aO,bx]at h;obtain⟨rfl,_,rfl⟩:=h;exact key aN.1 aN.2 fun v aJ a1 cT h1 _=>gN _ _ ⟨a1,cT,h1⟩
     | some d=>
      simp only[aO,bx]at h;obtain⟨rfl,_,rfl⟩:=h;exact key aN.1 aN.2 fun v aJ a1 cT h1 U=>gN _ _ ⟨a1,cT,h1.put U⟩
    cases h
   cases h
  cases h
 cases h
