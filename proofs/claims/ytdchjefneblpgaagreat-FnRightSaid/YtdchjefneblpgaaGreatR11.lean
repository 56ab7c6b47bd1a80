import Derived.Test.YtdchjefneblpgaaGreatR6
set_option linter.unusedVariables false
set_option linter.unusedSimpArgs false
namespace Go.Sx
open Go.RowKit
def xK(t:Nat)(ms:ij)(k:Nat)(cy:List (List D)):aG->aG
 | .J (.own s) cf es=>if s=t then .J (.own t) k cy else if (ms.at s).isSome then .cu else .J (.own s) cf es
 | .ep (.own s) cf es i j=>if s=t then .ep (.own t) k cy i j else if (ms.at s).isSome then .cu else .ep (.own s) cf es i j
 | .J (.ro s) cf es=>if s=t then .cu else if (ms.at s).isSome then .cu else .J (.ro s) cf es
 | .ep (.ro s) cf es i j=>if s=t then .cu else if (ms.at s).isSome then .cu else .ep (.ro s) cf es i j
 | .aS s a b eb dW m=>if s=t then .cu else if (ms.at s).isSome then .cu else .aS s a b eb dW m
 | .fr _ _=>.cu
 | l=>l
def nZ(t:Nat)(ms:ij):dp->dp
 | .tok s q=>if s=t then .tok s q else match ms.at s with | some p=>.tok t (p::q) | none=>.tok s q
 | o=>o
variable{t:Nat}{ms:ij}
theorem GC{o:dp}{id:Nat}:nZ t ms o=.box id<->o=.box id:=by
 cases o with
 | bJ=>simp[nZ]
 | box i=>simp[nZ]
 | tok s q=>
  grind[nZ]
theorem awV{o:dp}:nZ t ms o=.bJ<->o=.bJ:=by
 cases o with
 | bJ=>simp[nZ]
 | box i=>simp[nZ]
 | tok s q=>
  grind[nZ]
variable{i j:Nat}{ds:List D}
theorem M8{es:List (List D)}{x:Nat}(hi:i<es.length):dd (es.set i ds) x j=if x=i then ds[j]? else dd es x j:=by
 unfold dd;grind
def l8(ds:List D)(off:Nat)(xs:List D):List D:=ds.take off++(xs++ds.drop (off+xs.length))
theorem Tt{xs:List D}{off:Nat}(h:off+xs.length<=ds.length):(l8 ds off xs)[i]?=if off<=i/\i<off+xs.length then xs[i-off]? else ds[i]?:=by
 unfold l8;grind
theorem Tu{xs:List D}{off:Nat}(h:off+xs.length<=ds.length):(l8 ds off xs).length=ds.length:=by
 grind[l8]
def M9(t:Nat)(ms:ij):Bool:=ms.all fun x=>x.1≠t&&(match ms.at x.1 with | some p=>p.1==x.2.1&&p.2==x.2.2 | none=>false)
theorem awW(h:M9 t ms=true){s:Nat}{p:Nat×Nat}(hm:(s,p)∈ms):s≠t/\ms.at s=some p:=by
 have h1:=gP.1 h _ hm;grind
theorem M'(i:Nat):∀(xs:List aG) (j:Nat),mo i j xs=(mo 0 j xs).map fun x=>(x.1,(i,x.2.2))
 | [],_=>rfl
 | l::ls,j=>by
  simp only[mo];split
  ·simp only[iM,tC,true_and];exact M' i ls (j+1)
  exact M' i ls (j+1)
theorem Uh(i s:Nat):∀ms:ij,ij.at s (ms.map fun x=>(x.1,(i,x.2.2)))=(ij.at s ms).map fun p=>(i,p.2)
 | []=>rfl
 | (a,p)::r=>by
  simp only[iM,ij.at];split
  ·rfl
  simp_all[Uh]
theorem Na(i0:Nat):∀(xs:List aG) (j s:Nat) (p:Nat×Nat),(s,p)∈mo i0 j xs->p.1=i0
 | [],_,_,_,h=>by grind[mo]
 | l::ls,j,s,p,h=>by
  simp only[mo]at h;split at h
  ·rcases dQ.1 h with h | h
   ·simp only[bH]at h;rw[h.2]
   exact Na i0 ls (j+1) s p h
  exact Na i0 ls (j+1) s p h
theorem Ui{xs:List aG}(h:M9 t (mo 0 j xs)=true){s:Nat}{p:Nat×Nat}(hm:(s,p)∈mo i j xs):s≠t/\(mo i j xs).at s=some p:=by
 have hp:=Na i xs j s p hm;rw[M']at hm ⊢;obtain⟨⟨uX,rM⟩,h1,U⟩:=fV.1 hm;simp only[bH]at U;obtain⟨rfl,U⟩:=U;obtain⟨aA,aI⟩:=awW h h1;simp_all[Uh]
def w6.flat:w6->Bool
 | .at_ _ _=>false
 | _=>true
def wo(t:Nat):Nat->List aG->Option (List D×List Nat)
 | _,[]=>some ([],[])
 | j,.aS s a b k es m::ls=>if s=t/\b=j/\m.flat=true then (wo t (j+1) ls).map fun r=>(.J k es::r.1,a::r.2) else none
 | j,l::ls=>
  match l.jx,wo t (j+1) ls with
  | some d,some r=>some (d::r.1,r.2)
  | _,_=>none
theorem Uj:∀{xs:List aG} {j:Nat} {ys:List D} {is:List Nat},wo t j xs=some (ys,is)->ys.length=xs.length/\
  ∀(y:Nat) (d:D),ys[y]?=some d->∃l,xs[y]?=some l/\(l.jx=some d\/∃a k es m,l=.aS t a (j+y) k es m/\m.flat=true/\a∈is/\d=.J k es)
 | [],j,ys,is,h=>by
  grind[wo,aX,bH]
 | l::ls,j,ys,is,h=>by
  have fin:∀d0 Jt LI Gi,ys=d0::Jt->is=Gi->(∀a∈LI,a∈Gi)->wo t (j+1) ls=some (Jt,LI)->(l.jx=some d0\/∃a k es m,l=.aS t a j k es m/\m.flat=true/\a∈Gi/\d0=.J k es)->ys.length=(l::ls).length/\
    ∀(y:Nat) (d:D),ys[y]?=some d->∃x,(l::ls)[y]?=some x/\(x.jx=some d\/∃a k es m,x=.aS t a (j+y) k es m/\m.flat=true/\a∈is/\d=.J k es):=by
   rintro d0 Jt LI Gi rfl rfl iF aB bE;obtain⟨h1,U⟩:=Uj aB;refine⟨by simp[h1],fun y d aF=>?_⟩;cases y with
   | zero=>
    simp only[mV,aX]at aF;subst aF;exact⟨l,rfl,bE⟩
   | succ y=>
    obtain⟨x,aa,aA⟩:=U y d (by simpa using aF);refine⟨x,by simpa using aa,?_⟩;rcases aA with aA | ⟨a,k,es,m,aI,a',bu,bU⟩
    ·exact .inl aA
    exact .inr ⟨a,k,es,m,by rw[aI,show j+1+y=j+(y+1) by omega],a',iF a bu,bU⟩
  have plain:(match l.jx,wo t (j+1) ls with | some d,some r=>some (d::r.1,r.2) | _,_=>none)=some (ys,is)->ys.length=(l::ls).length/\
    ∀(y:Nat) (d:D),ys[y]?=some d->∃x,(l::ls)[y]?=some x/\(x.jx=some d\/∃a k es m,x=.aS t a (j+y) k es m/\m.flat=true/\a∈is/\d=.J k es):=by
   grind
  cases l with
  | aS s a b k es m=>
   simp only[wo]at h;split at h
   ·rename_i al;obtain⟨rfl,rfl,hm⟩:=al;rw[b5]at h;grind
   cases h
  | _=>exact plain h
theorem GD:∀{l:List Nat},c8 (l.map fun a=>a=i)->∀a∈l,a=i
 | [],_,a,h=>by cases h
 | x::l,aW,a,h=>by
  rcases dQ.1 h with rfl | h
  ·exact aW.1
  exact GD aW.2 a h
def Nb(P:Program)(st:aD)(ty:TypeId)(t k:Nat)(es:List (List D))(i j:Nat)(q:aH)(ans:List cb):Stepped:=
 match q.leaves,P.info? ty,ans with
 | some xs,some inf,.el ds::r=>
  match wo t j xs with
  | some (ys,is)=>
   if xs.length=inf.size/\ds.length=k/\j+ys.length<=k/\M9 t (mo 0 j xs)=true then
    some (st.map (xK t (mo i j xs) k (es.set i (l8 ds j ys))),r,(es[i]?=some ds)::is.map fun a=>a=i)
   else none
  | none=>none
 | _,_,_=>none
theorem cD.aBp{P:Program}{w0:eN}{st bB:aD}{a:Act}{w:World}{ω:Own}{τ:Nat->Nat×Value}{ty:TypeId}{k:Nat}{es:List (List D)}{q:aH}{v y:Value}{ans cq:List cb}{obs:List Prop}
  (aZ:cD w0 st a w ω τ) (hp:Sat w ω τ (.ep (.own t) k es i j) y) (aC:cT (Sat w ω τ) q v) (h:Nb P st ty t k es i j q ans=some (bB,cq,obs)) (aW:c8 obs):
  ∃aM,(Instr.storeAt ty y v).run P w=.ok () aM/\Rel w0 bB a aM:=by
 unfold Nb at h;split at h
 ·rename_i xs inf ds r e1 e2;split at h
  ·rename_i ys is cx;split at h
   ·rename_i al;obtain⟨lp,lL,ma,zp⟩:=al;simp only[aX,bH]at h;obtain⟨rfl,_,rfl⟩:=h;have e6:es[i]?=some ds:=aW.1;obtain⟨ai,rz⟩:=aH.zM e1 aC;obtain⟨SO,LF⟩:=Uj cx;have adz:=GD aW.2;obtain⟨b,off,cap,rfl,lN,aB,bK⟩:=hp;simp only[Tag.ev]at bK;cases aB with
    | nil=>simp at lN
    | row R k es b off cap arr jy cM us aq ef fP dN hv hu aF=>
     have l9:ω b=.tok t []:=ef;obtain⟨xq,vf,wQ,iq⟩:=aZ.owned b (by grind);rw[aq]at iq;simp only[aX,Obj.cells.injEq]at iq;obtain⟨rfl,rfl,rfl⟩:=iq;have xi:b<w.heap.size:=(kt.1 aq).1;have hmul:(i+1)*k<=cap*k:=iA _ (by omega);rw[hQ]at hmul;have sJ:v.cells.size=xs.length:=ai.1;have eh:off+i*k+j+v.cells.toList.length<=arr.size:=by simp;omega
     have fQ:=run_storeCells_at P b (off+i*k+j) jy v.cells.toList 0 arr w aq (by grind) rz;simp only[o7]at fQ;generalize qj:(arr.toList.take (off+i*k+j)++v.cells.toList++arr.toList.drop (off+i*k+j+v.cells.toList.length)).toArray=cg at fQ;have jI:∀x:Nat,cg[x]?=if off+i*k+j<=x/\x<off+i*k+j+xs.length then v.cells[x-(off+i*k+j)]? else arr[x]?:=by
      intro x;rw[<-qj,p1,Dq (by grind)];simp[sJ]
     have zG:cg.size=arr.size:=by rw[<-qj];simp;grind
     have me:=setRow_heap w b arr cg jy (0,0) aq
     let ms:=mo i j xs
     let bc:Own:=fun c=>nZ t ms (ω c)
     have aDg:ms.at t=none:=by
      cases e:ms.at t with
      | none=>rfl
      | some p=>
       have qs:∀(ms:ij) (p:Nat×Nat),ms.at t=some p->(t,p)∈ms:=by
        intro ms;induction ms with
        | nil=>intro p h;cases h
        | cons x ms dL=>
         intro p h;obtain⟨s,rM⟩:=x;simp only[ij.at]at h;split at h
         ·grind
         grind
       grind[absurd,Ui]
     have dr:∀c q,c<w.heap.size->ω c=.tok t q->bc c=.tok t q:=fun c q _ h=>by grind[nZ]
     have oJ:∀c p q,c<w.heap.size->ω c=.tok t (p::q)->bc c=.tok t (p::q)/\(w.setRow b cg).heap[c]?=w.heap[c]?:=by
      grind[setRow_other]
     have jK:∀(g:Tag) c q,g≠.own t->g≠.ro t->(∀s,g=.own s\/g=.ro s->ms.at s=none)->g.R q (ω c)->g.R q (bc c)/\(w.setRow b cg).heap[c]?=w.heap[c]?:=by
      intro g c q h1 U aA e7;have kc:c≠b:=fun e=>by
       rw[e,l9]at e7;cases g with
       | free=>cases e7
       | own s=>grind[Tag.R,dp.tok.injEq]
       | ro s=>
        rcases e7 with h | ⟨ee,h⟩
        ·cases h
        grind
      refine⟨?_,setRow_other w b c cg kc⟩;cases g with
      | free=>grind[Tag.R,nZ]
      | own s=>
       simp only[Tag.R]at e7 ⊢;simp only[bc,e7,nZ];split
       ·rfl
       grind
      | ro s=>
       simp only[Tag.R]at e7 ⊢;rcases e7 with h | ⟨ee,h⟩
       ·grind[nZ]
       right;refine⟨ee,?_⟩;simp only[bc,h,nZ];split
       ·rfl
       grind
     have adT:bZ (w.setRow b cg) bc (Tag.own t).R (.J k (es.set i (l8 ds j ys))) (.slice (some ⟨b,off,none⟩) es.length cap):=by
      have hlen:(es.set i (l8 ds j ys)).length=es.length:=iN;have FR:ds.length=k:=lL;have fq:∀x y d,dd (es.set i (l8 ds j ys)) x y=some d->∃u,cg[off+x*k+y]?=some u/\bZ (w.setRow b cg) bc (fun q=>(Tag.own t).R ((x,y)::q)) d u:=by
       intro x y d ew;rw[M8 lN]at ew;by_cases aa:x=i
       ·subst aa;rw[bh rfl,Tt (by omega)]at ew;split at ew
        ·rename_i bk;obtain⟨l,jJ,c'⟩:=LF _ _ ew;obtain⟨u,ha,fH⟩:=ai.2 _ _ jJ;rcases c' with c' | ⟨a,bt,bS,m,rfl,hm,acO,rfl⟩
         case inr=>
          have acQ:=adz a acO;subst acQ;obtain⟨fC,sI,rC,_⟩:=fH;have cd:u=fC:=by
           cases m with
           | at_ x y=>cases hm
           | here=>exact sI
           | mZ=>exact sI
          subst cd;refine⟨u,?_,rC.frame fun c q al e7=>?_⟩
          ·rw[jI,bh (by omega),<-ha]
           congr 1;omega
          rw[show j+(y-j)=y by omega]at e7;exact oJ c _ _ al e7
         refine⟨u,?_,?_⟩
         ·rw[jI,bh (by omega),<-ha]
          congr 1;omega
         have qs:∀s,l.tok=some s->ms.at s=some (x,y)/\s≠t:=by
          intro s df;have:=M6 x xs j (y-j) l s jJ df;rw[show j+(y-j)=y by omega]at this;grind[Ui]
         cases l with
         | cu=>cases c'
         | v z=>
          simp only[aG.jx]at c';split at c'
          ·simp only[aX]at c';subst c';have:u=z:=fH;subst this;exact .v _ _ ‹_›
          cases c'
         | bR c=>
          simp only[aG.jx,aX]at c';subst c';have:u=.bool c:=fH;subst this;exact .v _ _ rfl
         | ptr=>cases c'
         | ep=>cases c'
         | jd=>cases c'
         | fd=>cases c'
         | e5=>cases c'
         | hr=>cases c'
         | aS=>cases c'
         | fr=>cases c'
         | J g bt bS=>
          cases g with
          | free=>cases c'
          | ro s=>cases c'
          | own s=>
           simp only[aG.jx,aX]at c';subst c';obtain⟨h1,U⟩:=qs s rfl;refine fH.1.frame fun c q al e7=>?_
           simp only[Tag.R]at e7 ⊢;refine⟨?_,setRow_other w b c cg fun e=>?_⟩
           ·simp only[bc,e7,nZ];grind
           grind
        rename_i bk;have rl:dd es x y=some d:=by grind[dd]
        refine⟨us x y,?_,(aF x y d rl).frame fun c q al e7=>oJ c _ _ al e7⟩;rw[jI,bq (by omega),hu x y d rl]
       rw[bq aa]at ew;obtain⟨gk,aez⟩:=uN hv ew;refine⟨us x y,?_,(aF x y d ew).frame fun c q al e7=>oJ c _ _ al e7⟩;rw[jI,bq ?_,hu x y d ew];rcases Nat.lt_or_gt_of_ne aa with h | h
       ·have:(x+1)*k<=i*k:=iA _ h;grind
       have:(i+1)*k<=x*k:=iA _ h;grind
      have rE:∀e∈es.set i (l8 ds j ys),e.length=k:=by
       grind[iB,Tu]
      have:=bZ.row (w:=w.setRow b cg) (ω:=bc) (Tag.own t).R k (es.set i (l8 ds j ys)) b off cap cg jy (0,0) (fun x y=>cg.getD (off+x*k+y) undef) me (dr b [] xi l9) (by omega) (by omega) rE
       (fun x y d eK=>by obtain⟨u,h1,_⟩:=fq x y d eK;rw[h1];simp[eW,h1])
       (fun x y d eK=>by obtain⟨u,h1,U⟩:=fq x y d eK;have:cg.getD (off+x*k+y) undef=u:=(by simp[eW,h1]);grind)
      grind
     have eT:∀l v,Sat w ω τ l v->Sat (w.setRow b cg) bc τ (xK t ms k (es.set i (l8 ds j ys)) l) v:=by
      intro l v df;have adQ:∀s,¬(ms.at s).isSome=true->ms.at s=none:=fun s h=>by
       cases e:ms.at s with
       | none=>rfl
       | some p=>simp[e]at h
      cases l with
      | cu=>exact trivial
      | v x=>exact df
      | bR c=>exact df
      | ptr id o=>
       obtain⟨c,al,e⟩:=df;exact⟨c,GC.2 al,e⟩
      | aS s a fo eb dW m=>
       simp only[xK];split
       ·exact trivial
       rename_i h1;split
       ·exact trivial
       rename_i U;obtain⟨u,hu,oK,hm⟩:=df;have k0:∀c q,ω c=.tok s q->bc c=.tok s q/\(w.setRow b cg).heap[c]?=w.heap[c]?:=fun c q e7=>
        jK (.own s) c q (by grind) (by simp) (fun uX h=>by
         grind) e7
       refine⟨u,hu,oK.frame fun c q _ e7=>k0 c _ e7,fun pr=>?_⟩;obtain⟨kT,c,rK,aeP,q4,ln,lG,J2,eB,a2,a3,a4⟩:=hm pr;obtain⟨e1,e2⟩:=k0 c [] a2;exact⟨kT,c,rK,aeP,q4,ln,lG,J2,eB,e1,e2.trans a3,a4⟩
      | fr=>exact trivial
      | hr f ids=>
       obtain⟨bs,e,aP,hi⟩:=df;refine⟨bs,e,aP,fun i id hD=>?_⟩;obtain⟨b,h1,U⟩:=hi i id hD;exact⟨b,h1,GC.2 U⟩
      | jd tR o=>
       obtain⟨c,e,eX⟩:=df;exact⟨c,e,eX.frame fun c q _ e7=>jK .free c q (by simp) (by simp) (fun s h=>by grind) e7⟩
      | fd d=>
       exact bZ.frame df fun c q _ e7=>jK .free c q (by simp) (by simp) (fun s h=>by grind) e7
      | e5 t2 bt bS=>exact⟨df.1.frame fun c q _ e7=>jK .free c q (by simp) (by simp) (fun s h=>by grind) e7,df.2⟩
      | J g bt bS=>
       cases g with
       | free=>exact⟨df.1.frame fun c q _ e7=>jK .free c q (by simp) (by simp) (fun s h=>by grind) e7,ad⟩
       | own s=>
        simp only[xK];split
        ·rename_i K2;subst K2;have U:=df.2;simp only[Tag.ev]at U;rw[bK]at U;simp only[bH]at U;rw[<-U.2];exact⟨adT,bK⟩
        split
        ·exact trivial
        rename_i h1 U;exact⟨df.1.frame fun c q _ e7=>jK (.own s) c q (by grind) (by simp) (fun uX h=>by
         grind) e7,df.2⟩
       | ro s=>
        simp only[xK];split
        ·exact trivial
        split
        ·exact trivial
        rename_i h1 U;exact⟨df.1.frame fun c q _ e7=>jK (.ro s) c q (by simp) (by grind) (fun uX h=>by
         grind) e7,ad⟩
      | ep g bt bS i2 py=>
       obtain⟨fo,rK,q4,e,oF,oK,pr⟩:=df;cases g with
       | free=>exact⟨fo,rK,q4,e,oF,oK.frame fun c q _ e7=>jK .free c q (by simp) (by simp) (fun s h=>by grind) e7,ad⟩
       | own s=>
        simp only[xK];split
        ·rename_i K2;subst K2;simp only[Tag.ev]at pr;rw[bK]at pr;simp only[bH,Value.slice.injEq,aX,Addr.mk.injEq]at pr;obtain⟨rfl,⟨rfl,rfl,_⟩,c',rfl⟩:=pr;refine⟨b,off,cap,e,by simp;omega,?_,?_⟩
         ·grind
         rw[iN];exact bK
        split
        ·exact trivial
        rename_i h1 U;exact⟨fo,rK,q4,e,oF,oK.frame fun c q _ e7=>jK (.own s) c q (by grind) (by simp) (fun uX h=>by
         grind) e7,pr⟩
       | ro s=>
        simp only[xK];split
        ·exact trivial
        split
        ·exact trivial
        rename_i h1 U;exact⟨fo,rK,q4,e,oF,oK.frame fun c q _ e7=>jK (.ro s) c q (by simp) (by grind) (fun uX h=>by
         grind) e7,ad⟩
     refine⟨w.setRow b cg,?_,bc,τ,aZ.dG _ eT ?_ ?_ ?_ ?_⟩
     ·simp only[Instr.storeAt,Instr.sureAddr,Sem.run_bind,Sem.run_pure,Result.andThen_ok,storeVar,sizeOf,typeInfo,run_program,e2];grind
     ·exact aZ.below.setRow xq cg
     ·intro c kc;have:ω c≠.bJ:=fun e=>kc (awV.2 e)
      obtain⟨aA,ln,lG,aI⟩:=aZ.owned c this;grind[setRow_other]
     ·intro id c kc;exact⟨GC.2 kc,setRow_other w b c cg fun e=>by grind⟩
     intro id c kc;exact GC.1 kc
   cases h
  cases h
 cases h
end Go.Sx
namespace Go.Sx
open Go.RowKit
def mJ(w:World)(d:D)(y:Value):Prop:=bZ w (fun _=>.bJ) Tag.free.R d y
def w2(w:World):cL->Value->Prop
 | .one d,y=>mJ w d y
 | .agg ds,y=>∃vs:Array Value,y=.agg vs/\vs.size=ds.length/\∀(i:Nat) (d:D),ds[i]?=some d->∃u,vs[i]?=some u/\mJ w d u
def GF(w:World)(gZ:List cL)(vs:Array Value):Prop:=vs.size=gZ.length/\∀(i:Nat) (ct:cL),gZ[i]?=some ct->∃v,vs[i]?=some v/\w2 w ct v
def nz(w:World)(ω:Own)(r:Nat):cL->Value->Prop
 | .one d,y=>bZ w ω (Tag.own (100*r)).R d y
 | .agg ds,y=>∃vs:Array Value,y=.agg vs/\vs.size=ds.length/\∀(j:Nat) (d:D),ds[j]?=some d->∃u,vs[j]?=some u/\bZ w ω (Tag.own (100*r+j)).R d u
def n0(w:World)(ω:Own)(rs:List cL)(v:Value):Prop:=
 match rs with
 | [ct]=>nz w ω 0 ct v
 | rs=>∃vs:Array Value,v=.tuple vs/\vs.size=rs.length/\∀(r:Nat) (ct:cL),rs[r]?=some ct->∃y,vs[r]?=some y/\nz w ω r ct y
def y4(w0 w:World)(rs:List cL)(v:Value):Prop:=
 ∃ω:Own,(∀b,b<w0.heap.size->ω b=.bJ)/\(∀b,ω b≠.bJ->(∃t q,ω b=.tok t q)/\∃arr ty,w.heap[b]?=some (.cells arr ty (0,0)))/\n0 w ω rs v
def ji(P:Program)(f:FuncId)(args rs:List cL):Prop:=
 ∀(w:World) (vs:Array Value),q0 w->GF w args vs->Calls P f vs w fun e aM=>∃v,e=.returned v/\hq w.heap.size w aM/\y4 w aM rs v
def aG.g':aG->Option D
 | .v x=>if x.oneCell' then some (.v x) else none
 | .bR c=>some (.v (.bool c))
 | .J _ k es=>some (.J k es)
 | .jd ds off=>if off=0 then some (.ptr ds) else none
 | .fd d=>some d
 | .e5 _ k es=>some (.J k es)
 | .aS _ _ _ k es .here=>some (.J k es)
 | .aS _ _ _ k es .mZ=>some (.J k es)
 | _=>none
abbrev mX:=List (Nat×List aG)
def y8(bs:mX)(id:Nat):Option D:=(dI id bs).bind fun ls=>(ls.mapM aG.g').map .ptr
def aG.kQ(bs:mX):aG->Option D
 | .ptr id off=>if off=0 then y8 bs id else none
 | .hr g ids=>(ids.mapM (y8 bs)).map (.cl g)
 | l=>l.g'
def bm.kQ(bs:mX):bm->Option cL
 | .one l=>(l.kQ bs).map .one
 | .agg ls=>(ls.mapM (aG.kQ bs)).map .agg
def aH.kQ(bs:mX):aH->Option cL
 | .aR a=>a.kQ bs
 | _=>none
variable{w:World}{ω:Own}{d:D}{y:Value}
theorem bZ.free{R:List (Nat×Nat)->dp->Prop}(h:bZ w ω R d y):mJ w d y:=
 h.frame fun _ _ _ _=>⟨rfl,rfl⟩
variable{τ:Nat->Nat×Value}
theorem aG.RC{l:aG}(h:l.g'=some d)(ai:Sat w ω τ l y):mJ w d y:=by
 cases l with
 | cu=>cases h
 | v x=>
  simp only[aG.g']at h;split at h
  ·simp only[aX]at h;subst h;have:y=x:=ai;subst this;exact .v _ _ ‹_›
  cases h
 | bR c=>
  simp only[aG.g',aX]at h;subst h;have:y=.bool c:=ai;subst this;exact .v _ _ rfl
 | J t k es=>simp only[aG.g',aX]at h;subst h;exact ai.1.free
 | ptr=>cases h
 | ep=>cases h
 | hr=>cases h
 | fr=>cases h
 | jd ds off=>
  simp only[aG.g']at h;split at h
  ·rename_i aW;subst aW;simp only[aX]at h;subst h;obtain⟨b,rfl,aB⟩:=ai;exact aB.free
  cases h
 | fd dR=>simp only[aG.g',aX]at h;subst h;exact bZ.free ai
 | e5 t k es=>simp only[aG.g',aX]at h;subst h;exact bZ.free ai.1
 | aS t i j k es m=>
  obtain⟨u,hu,aB,_⟩:=ai;cases m with
  | at_ x z=>cases h
  | here=>simp only[aG.g',aX]at h;subst h;have:y=u:=hu;subst this;exact aB.free
  | mZ=>simp only[aG.g',aX]at h;subst h;have:y=u:=hu;subst this;exact aB.free
def xL(w:World)(ω:Own)(τ:Nat->Nat×Value)(bs:mX):Prop:=∀id ls,dI id bs=some ls->vb w ω τ id ls
variable{bs:mX}
theorem Uk(aq:xL w ω τ bs){id b:Nat}(h:y8 bs id=some d)(aW:ω b=.box id):mJ w d (ptrTo b):=by
 unfold y8 at h;cases e:dI id bs with
 | none=>simp[e]at h
 | some ls=>
  simp only[e,qU,b5]at h;obtain⟨ds,h1,rfl⟩:=h;obtain⟨dA,arr,ty,er,hu,bK,ai⟩:=aq id ls e;have:=hu b aW;subst this;obtain⟨U,aA⟩:=oO h1;have cell:∀j d,ds[j]?=some d->arr[j]?=some (arr.getD j undef)/\mJ w d (arr.getD j undef):=by
   intro j d aF;obtain⟨l,aj,c'⟩:=aA j d aF;obtain⟨u,ha,fH⟩:=ai.2 j l aj;have e2:arr.getD j undef=u:=by simp[eW,ha]
   rw[e2];exact⟨ha,aG.RC c' fH⟩
  exact bZ.ptr _ ds b arr ty (0,0) (fun j=>arr.getD j undef) bK rfl (by have:=ai.1;omega) (fun j d aF=>(cell j d aF).1) (fun j d aF=>(cell j d aF).2.frame fun _ _ _ _=>⟨rfl,rfl⟩)
theorem aG.y7(aq:xL w ω τ bs){l:aG}(h:l.kQ bs=some d)(ai:Sat w ω τ l y):mJ w d y:=by
 unfold aG.kQ at h;split at h
 ·rename_i id off;split at h
  ·rename_i aW;subst aW;obtain⟨b,h1,rfl⟩:=ai;exact Uk aq h h1
  cases h
 ·rename_i g ids;rw[b5]at h;obtain⟨ds,h1,rfl⟩:=h;obtain⟨pb,rfl,aP,hi⟩:=ai;obtain⟨U,aA⟩:=oO h1;have cell:∀j d,ds[j]?=some d->(pb.map ptrTo).toArray[j]?=some ((pb.map ptrTo).toArray.getD j undef)/\mJ w d ((pb.map ptrTo).toArray.getD j undef):=by
   intro j d aF;obtain⟨id,hD,Kq⟩:=aA j d aF;obtain⟨b,ht,gj⟩:=hi j id hD;have e1:(pb.map ptrTo).toArray[j]?=some (ptrTo b):=by simp[ht]
   have e2:(pb.map ptrTo).toArray.getD j undef=ptrTo b:=by rw[eW,e1];rfl
   rw[e2];exact⟨e1,Uk aq Kq gj⟩
  exact bZ.cl _ g ds _ (fun j=>(pb.map ptrTo).toArray.getD j undef) (by simp;omega) (fun j d aF=>(cell j d aF).1) (fun j d aF=>(cell j d aF).2.frame fun _ _ _ _=>⟨rfl,rfl⟩)
 exact aG.RC h ai
theorem aH.y7(aq:xL w ω τ bs){p:aH}{ct:cL}(h:p.kQ bs=some ct)(ai:cT (Sat w ω τ) p y):w2 w ct y:=by
 cases p with
 | gB as=>cases h
 | aR a=>
  cases a with
  | one l=>
   simp only[aH.kQ,bm.kQ,b5]at h;obtain⟨d,h1,rfl⟩:=h;exact aG.y7 aq h1 ai
  | agg ls=>
   simp only[aH.kQ,bm.kQ,b5]at h;obtain⟨ds,h1,rfl⟩:=h;obtain⟨U,aA⟩:=oO h1;obtain⟨vs,rfl,aP,bD⟩:=ai;refine⟨vs,rfl,by omega,fun i d aF=>?_⟩;obtain⟨l,aj,c'⟩:=aA i d aF;obtain⟨u,hu,fH⟩:=bD i l aj;exact⟨u,hu,aG.y7 aq c' fH⟩
def hV(P:Program)(g:FuncId):Bool:=
 match P.funcs[g]? with
 | some fn => !(fn.name == "runtime.NumGoroutine") && !fn.body.isNone
 | none=>false
def D.qO(t:Nat):D->aG
 | .v (.bool c)=>.bR c
 | .v x=>.v x
 | .J k es=>.J (.own t) k es
 | .ptr _=>.cu
 | .cl _ _=>.cu
def oP(t:Nat):Nat->List D->List aG
 | _,[]=>[]
 | j,d::ds=>d.qO (t+j)::oP t (j+1) ds
theorem Dt(t:Nat):∀(ds:List D) (j i:Nat),(oP t j ds)[i]?=(ds[i]?).map (D.qO (t+(j+i)))
 | [],_,_=>by simp[oP]
 | d::ds,j,0=>by simp[oP]
 | d::ds,j,i+1=>by
  simp only[oP,p3,Dt t ds (j+1) i];rw[show j+1+i=j+(i+1) by omega]
theorem AI(t:Nat):∀(ds:List D) (j:Nat),(oP t j ds).length=ds.length
 | [],_=>rfl
 | d::ds,j=>by simp[oP,AI t ds (j+1)]
def cL.res(t:Nat):cL->bm
 | .one d=>.one (d.qO t)
 | .agg ds=>.agg (oP t 0 ds)
def rS(t:Nat):Nat->List cL->List bm
 | _,[]=>[]
 | r,a::as=>a.res (t+100*r)::rS t (r+1) as
theorem GG(t:Nat):∀(as:List cL) (r i:Nat),(rS t r as)[i]?=(as[i]?).map (cL.res (t+100*(r+i)))
 | [],_,_=>by simp[rS]
 | d::ds,j,0=>by simp[rS]
 | d::ds,j,i+1=>by
  simp only[rS,p3,GG t ds (j+1) i];rw[show j+1+i=j+(i+1) by omega]
theorem GH(t:Nat):∀(as:List cL) (r:Nat),(rS t r as).length=as.length
 | [],_=>rfl
 | d::ds,j=>by simp[rS,GH t ds (j+1)]
def uV(t:Nat):List cL->aH
 | [a]=>.aR (a.res t)
 | as=>.gB (rS t 0 as)
def wq(rs:List cL):Bool:=rs.length<100&&rs.all fun | .one _=>true | .agg ds=>ds.length<100
def hd(t:Nat):Tag->Option Tag
 | .free=>some .free
 | .own s=>if t<=s/\s<t+10000 then some .free else some (.own s)
 | .ro s=>if t<=s/\s<t+10000 then some .free else some (.ro s)
def pH(t:Nat):dp->dp
 | .tok s q=>if t<=s/\s<t+10000 then .bJ else .tok s q
 | o=>o
def Ul(t:Nat):dp->dp
 | .tok s q=>.tok (t+s) q
 | _=>.bJ
def cL.cell(j:Nat):cL->Option D
 | .one d=>if j=0 then some d else none
 | .agg ds=>ds[j]?
def rp(rs:List cL)(n:Nat):Nat:=
 match (rs[n / 100]?).bind (cL.cell (n % 100)) with
 | some (.J k _)=>k
 | _=>0
def oE(rs:List cL)(v:Value)(n:Nat):Value:=
 match rs with
 | [_]=>v.cells.getD (n % 100) undef
 | _=>match v with
  | .tuple vs=>(vs.getD (n / 100) undef).cells.getD (n % 100) undef
  | _=>undef
def aD.xb(st:aD)(t:Nat):aD:=st.map (aG.cG (hd t) fun _=>true)
theorem cD.called{w0:eN}{st:aD}{a:Act}{aM:World}(aZ:cD w0 st a w ω τ)(t:Nat){rs:List cL}{v:Value}
  (eh:wq rs=true) (jM:t+10000<=dj) (aq:hq w.heap.size w aM) (fi:y4 w aM rs v):
  ∃bc cZ,cD w0 (st.xb t) a aM bc cZ/\cT (Sat aM bc cZ) (uV t rs) v:=by
 obtain⟨fx,lp,lL,ma⟩:=fi
 let bc:Own:=fun b=>if b<w.heap.size then pH t (ω b) else Ul t (fx b)
 let cZ:Nat->Nat×Value:=fun s=>if t<=s/\s<t+10000 then (rp rs (s-t),oE rs v (s-t)) else τ s
 have hold:∀b,b<w.heap.size->bc b=pH t (ω b):=fun b aq=>by simp only[bc];rw[bh aq]
 have hx:∀b,¬b<w.heap.size->bc b=Ul t (fx b):=fun b aq=>by simp only[bc];rw[bq aq]
 have bp:mY w ω τ aM bc cZ (hd t) (fun _=>true):=by
  refine⟨?_,?_,?_,rfl,fun s ai=>by simp only[cZ];rw[bq (by omega)]⟩
  ·intro g ek b q ar bM aC;refine⟨?_,aq.block b bM⟩;rw[hold b bM];cases g with
   | free=>simp only[hd,aX]at ar;subst ar;simp only[Tag.R]at aC ⊢;rw[aC];rfl
   | own s=>
    simp only[Tag.R]at aC;simp only[hd]at ar;rw[aC];simp only[pH];split at ar
    ·simp only[aX]at ar;subst ar;rw[bh ‹_›];rfl
    simp only[aX]at ar;subst ar;rw[bq ‹_›];rfl
   | ro s=>
    simp only[Tag.R]at aC;simp only[hd]at ar;split at ar
    ·simp only[aX]at ar;subst ar;rcases aC with h | ⟨ee,h⟩
     ·rw[h];rfl
     rw[h];simp only[pH];rw[bh ‹_›];rfl
    simp only[aX]at ar;subst ar;rcases aC with h | ⟨ee,h⟩
    ·rw[h];exact .inl rfl
    rw[h];simp only[pH];rw[bq ‹_›];exact .inr ⟨ee,rfl⟩
  ·intro g ek y ar bk;cases g with
   | free=>simp only[hd,aX]at ar;subst ar;exact trivial
   | own s=>
    simp only[hd]at ar;split at ar
    ·simp only[aX]at ar;subst ar;exact trivial
    simp only[aX]at ar;subst ar;simp only[Tag.ev,cZ]at bk ⊢;rw[bq ‹_›];exact bk
   | ro s=>
    simp only[hd]at ar;split at ar
    ·simp only[aX]at ar;subst ar;exact trivial
    simp only[aX]at ar;subst ar;exact trivial
  intro id b _ dk;have bM:=aZ.owned.lt (b:=b) (by simp[dk]);rw[hold b bM,dk];rfl
 have cell:∀(n:Nat) (d:D) (u:Value),n<10000->oE rs v n=u->(∀k es,d=.J k es->rp rs n=k)->bZ aM fx (Tag.own n).R d u->Sat aM bc cZ (d.qO (t+n)) u:=by
  intro n d u aP bD hk aB;cases d with
  | v x=>
   have e:u=x:=by cases aB;rfl
   subst e;unfold D.qO;split
   ·rename_i h;cases h;exact rfl
   ·rename_i h;cases h;exact rfl
   ·rename_i h;cases h
   ·exact trivial
   exact trivial
  | ptr ds=>exact trivial
  | cl g bl=>exact trivial
  | J k es=>
   refine⟨aB.frame fun b q bM aC=>⟨?_,rfl⟩,?_⟩
   ·simp only[Tag.R]at aC ⊢;have:¬b<w.heap.size:=fun h=>by have:=lp b h;rw[this]at aC;cases aC
    rw[hx b this,aC];rfl
   simp only[Tag.ev,cZ];rw[bh (by omega),show t+n-t=n by omega,bD,hk k es rfl]
 have vj:∀(r:Nat) (ct:cL) (y:Value),r<100->(∀ds,ct=.agg ds->ds.length<100)->rs[r]?=some ct->(∀j,j<100->oE rs v (100*r+j)=y.cells.getD j undef)->nz aM fx r ct y->ll (Sat aM bc cZ) (ct.res (t+100*r)) y:=by
  intro r ct y aB e6 Cn bD nS;have hv:∀j,j<100->rp rs (100*r+j)=(match cL.cell j ct with | some (.J k _)=>k | _=>0):=by
   intro j a8;unfold rp;rw[show (100*r+j) / 100=r by omega,show (100*r+j) % 100=j by omega,Cn];rfl
  cases ct with
  | one d=>
   have h1:=nS.qD;have U:=bD 0 (by omega);rw[Dp h1]at U;have:=cell (100*r) d y (by omega) (by simpa using U) (fun k es e=>by
    have:=hv 0 (by omega);rw[o7]at this;rw[this,e];rfl) nS
   exact this
  | agg ds=>
   obtain⟨vs,rfl,aP,a8⟩:=nS;refine⟨vs,rfl,by rw[AI];exact aP,fun j l aj=>?_⟩;rw[Dt,b5]at aj;obtain⟨d,aF,rfl⟩:=aj;obtain⟨u,hu,Co⟩:=a8 j d aF;have kY:j<100:=by
    have:=(gh.1 aF).1;have:=e6 ds rfl;omega
   refine⟨u,hu,?_⟩;have:=cell (100*r+j) d u (by omega) (by rw[bD j kY];simp[Value.cells,eW,hu]) (fun k es e=>by
    rw[hv j kY];simp only[cL.cell,aF,e]) Co
   rw[show t+100*r+(0+j)=t+(100*r+j) by omega];exact this
 simp only[wq,b9,cc]at eh;have e6:∀(r:Nat) (ct:cL),rs[r]?=some ct->∀ds,ct=.agg ds->ds.length<100:=by
  intro r ct aB ds e;have:=gP.1 eh.2 ct (f' aB);subst e;simpa using this
 refine⟨bc,cZ,aZ.dG _ bp.sat (aZ.below.next aq) ?_ ?_ ?_ (fun s ai=>by simp only[cZ];rw[bq (by omega)]),?_⟩
 ·intro b gu;by_cases bM:b<w.heap.size
  ·rw[hold b bM]at gu;have U:ω b≠.bJ:=fun e=>by rw[e]at gu;exact gu rfl
   obtain⟨aA,arr,ty,aI⟩:=aZ.owned b U;exact⟨aA,arr,ty,(aq.block b bM).trans aI⟩
  rw[hx b bM]at gu;have U:fx b≠.bJ:=fun e=>by rw[e]at gu;exact gu rfl
  obtain⟨_,arr,ty,aI⟩:=lL b U;exact⟨.inl (by have:=aZ.below.size;omega),arr,ty,aI⟩
 ·intro id b dk;have bM:=aZ.owned.lt (b:=b) (by simp[dk]);exact⟨bp.box id b rfl dk,aq.block b bM⟩
 ·intro id b dk;by_cases bM:b<w.heap.size
  ·rw[hold b bM]at dk;cases e:ω b with
   | bJ=>rw[e]at dk;cases dk
   | box i=>rw[e]at dk;exact dk
   | tok s q=>rw[e]at dk;simp only[pH]at dk;split at dk<;>cases dk
  ·rw[hx b bM]at dk;cases e:fx b<;>(rw[e]at dk;cases dk)
 cases rs with
 | nil=>
  obtain⟨vs,rfl,aP,_⟩:=ma;exact⟨vs,rfl,aP,fun i a ae=>by simp[rS]at ae⟩
 | cons ct rest=>
  cases rest with
  | nil=>
   have:=vj 0 ct v (by omega) (e6 0 ct rfl) rfl (fun j a8=>by
    unfold oE;simp only[Nat.mul_zero,dV];rw[Jy a8]) ma
   exact this
  | cons RB rest=>
   obtain⟨vs,rfl,aP,bD⟩:=ma;refine⟨vs,rfl,by rw[GH];exact aP,fun i a ae=>?_⟩;rw[GG,b5]at ae;obtain⟨o',h1,rfl⟩:=ae;obtain⟨y,bk,B'⟩:=bD i o' h1;have lN:i<100:=by
    have:=(gh.1 h1).1;omega
   refine⟨y,bk,?_⟩;have:=vj i o' y lN (e6 i o' h1) h1 (fun j a8=>by
    unfold oE;simp only;rw[show (100*i+j) / 100=i by omega,show (100*i+j) % 100=j by omega];simp[eW,bk]) B'
   rw[dV];exact this
end Go.Sx
namespace Go.Sx
open Go.RowKit
inductive eR where
 | ro (d:D)
 | fh (k:Nat) (es:List (List D)) (post:Option (List (List D)))
inductive GA where
 | one (c:eR)
 | agg (cs:List eR)
def fF(i j:Nat):Nat:=dj+(100*i+j)
def GA.cell(j:Nat):GA->Option eR
 | .one c=>if j=0 then some c else none
 | .agg cs=>cs[j]?
def cellOf(v:Value)(j:Nat):Value:=v.cells.getD j undef
def w4(w:World)(ω:Own)(t:Nat):eR->Value->Prop
 | .ro d,y=>bZ w ω Tag.free.R d y
 | .fh k es _,y=>bZ w ω (Tag.own t).R (.J k es) y
def Rq(w:World)(ω:Own)(i:Nat):GA->Value->Prop
 | .one c,y=>w4 w ω (fF i 0) c y
 | .agg cs,y=>∃vs:Array Value,y=.agg vs/\vs.size=cs.length/\∀(j:Nat) (c:eR),cs[j]?=some c->∃u,vs[j]?=some u/\w4 w ω (fF i j) c u
def JE(w:World)(ω:Own):Prop:=∀b,ω b≠.bJ->(∃t q,ω b=.tok t q/\dj<=t)/\∃arr ty,w.heap[b]?=some (.cells arr ty (0,0))
def JD(w:World)(ω:Own)(args:List GA)(vs:Array Value):Prop:=JE w ω/\vs.size=args.length/\∀(i:Nat) (fc:GA),args[i]?=some fc->∃v,vs[i]?=some v/\Rq w ω i fc v
def Kept(w:World)(ω:Own)(args:List GA)(vs:Array Value):Prop:=
 ∀(i j:Nat) (fc:GA) (k:Nat) (es cy:List (List D)),args[i]?=some fc->fc.cell j=some (.fh k es (some cy))->bZ w ω (Tag.own (fF i j)).R (.J k cy) (cellOf (vs.getD i undef) j)
def lk(P:Program)(f:FuncId)(args:List GA)(rs:List cL):Prop:=
 ∀(w:World) (vs:Array Value) (ω:Own),JD w ω args vs->Tidy w ω->Calls P f vs w fun e aM=>∃v,e=.returned v/\ho ⟨w,fun b=>ω b≠.bJ,fun _=>(0,undef)⟩ aM/\
  ∃bc:Own,(∀b,b<w.heap.size->ω b=.bJ->bc b=.bJ)/\(∀b,bc b≠.bJ->(∃t q,bc b=.tok t q)/\∃arr ty,aM.heap[b]?=some (.cells arr ty (0,0)))/\Kept aM bc args vs/\n0 aM bc rs v
structure dx where
 i:Nat
 j:Nat
 t:Nat
 p:Option (Nat×Nat)
 k:Nat
 es:List (List D)
 post:Option (List (List D))
abbrev qY:=Option (Option (List (List D)))
def y'(bs:mX)(i j:Nat):qY->aG->Option (eR×List dx×List aG)
 | none,l=>(l.kQ bs).map fun d=>(.ro d,[],[l])
 | some post,.J (.own t) k es=>some (.fh k es post,[⟨i,j,t,none,k,es,post⟩],[])
 | some post,.aS t a b k es .here=>some (.fh k es post,[⟨i,j,t,some (a,b),k,es,post⟩],[])
 | _,_=>none
def qG(bs:mX)(i:Nat):Nat->List qY->List aG->Option (List eR×List dx×List aG)
 | _,[],[]=>some ([],[],[])
 | j,m::ms,l::ls=>
  match y' bs i j m l,qG bs i (j+1) ms ls with
  | some (c,h,r),some (cs,ai,rs)=>some (c::cs,h++ai,r++rs)
  | _,_=>none
 | _,_,_=>none
def BC(bs:mX)(i:Nat)(ms:List qY):aH->Option (GA×List dx×List aG)
 | .aR (.one l)=>match ms with | [m]=>(y' bs i 0 m l).map fun r=>(.one r.1,r.2) | _=>none
 | .aR (.agg ls)=>(qG bs i 0 ms ls).map fun r=>(.agg r.1,r.2)
 | _=>none
def w'(bs:mX):Nat->List (List qY)->List aH->Option (List GA×List dx×List aG)
 | _,[],[]=>some ([],[],[])
 | i,ms::LP,p::ca=>
  match BC bs i ms p,w' bs (i+1) LP ca with
  | some (a,h,r),some (as,ai,rs)=>some (a::as,h++ai,r++rs)
  | _,_=>none
 | _,_,_=>none
def tw(ai:List dx)(t:Nat):Bool:=ai.any fun h=>h.t==t
def Tag.oM(ai:List dx):Tag->Bool
 | .free=>false
 | .own t=>tw ai t
 | .ro t=>tw ai t
def aG.qA(ai:List dx):aG->Bool
 | .J t _ _=>t.oM ai
 | .ep t _ _ _ _=>t.oM ai
 | .aS t _ _ _ _ _=>tw ai t
 | .fr _ _=>true
 | _=>false
def aG.oM(bs:mX)(ai:List dx):aG->Bool
 | .ptr id _=>match dI id bs with | some ls=>ls.any (aG.qA ai) | none=>true
 | .hr _ ids=>ids.any fun id=>match dI id bs with | some ls=>ls.any (aG.qA ai) | none=>true
 | l=>l.qA ai
def dx.apart(h y:dx):Bool:=
 (h.i != y.i||h.j != y.j)&&(h.t != y.t||match h.p,y.p with | some p,some q=>p.2 != q.2 | _,_=>false)
def pI:List dx->Bool
 | []=>true
 | h::r=>decide (h.j<100)&&(r.all (dx.apart h)&&pI r)
theorem Um:∀{ai:List dx},pI ai=true->∀h∈ai,∀y∈ai,h=y\/(dx.apart h y=true\/dx.apart y h=true)
 | [],_,h,bK,_,_=>by cases bK
 | x::r,hk,h,bK,y,bk=>by
  simp only[pI,b9,gP]at hk;rcases dQ.1 bK with e1 | Sg
  ·rcases dQ.1 bk with e2 | K'
   ·exact .inl (e1.trans e2.symm)
   rw[e1];exact .inr (.inl (hk.2.1 y K'))
  rcases dQ.1 bk with e2 | K'
  ·rw[e2];exact .inr (.inr (hk.2.1 h Sg))
  exact Um hk.2.2 h Sg y K'
theorem Un:∀{ai:List dx},pI ai=true->∀h∈ai,h.j<100
 | [],_,h,bK=>by cases bK
 | x::r,hk,h,bK=>by
  simp only[pI,b9,cc]at hk;rcases dQ.1 bK with rfl | bK
  ·exact hk.1
  exact Un hk.2.2 h bK
def dx.fit(h:dx)(t:Nat)(q:List (Nat×Nat)):Option (List (Nat×Nat)):=
 if h.t=t then
  match h.p,q with
  | none,q=>some q
  | some p,x::ee=>if x=p then some ee else none
  | some _,[]=>none
 else none
def ow(t:Nat)(q:List (Nat×Nat)):List dx->Option (Nat×List (Nat×Nat))
 | []=>none
 | h::r=>match h.fit t q with | some ee=>some (fF h.i h.j,ee) | none=>ow t q r
variable{h:dx}{t:Nat}{q:List (Nat×Nat)}
theorem awX{y:dx}{q1 eP:List (Nat×Nat)}(h1:h.fit t q=some q1)(U:y.fit t q=some eP):dx.apart h y=false:=by
 unfold dx.fit at h1 U;split at h1
 ·rename_i e1;split at U
  ·rename_i e2;have cx:(h.t != y.t)=false:=by simp[e1,e2]
   simp only[dx.apart,cx,jz,Bool.and_eq_false_imp];intro _;split at h1
   ·rename_i hp;rw[hp]
   ·rename_i p x ee hp;split at h1
    ·rename_i aa;split at U
     ·rename_i ue;rw[hp,ue]
     ·rename_i Gs gO aDP ue heq;split at U
      ·rename_i kB;rw[hp,ue];simp only[tC]at heq;obtain⟨rfl,_⟩:=heq;subst aa;subst kB;simp
      cases U
     cases U
    cases h1
   cases h1
  cases U
 cases h1
theorem Nc{t:Nat}{q ee:List (Nat×Nat)}:∀{ai:List dx},pI ai=true->∀{h:dx},h∈ai->h.fit t q=some ee->ow t q ai=some (fF h.i h.j,ee)
 | [],_,h,bK,_=>by cases bK
 | x::r,hk,h,bK,br=>by
  have kd:=hk;simp only[pI,b9,gP]at hk;simp only[ow];rcases dQ.1 bK with rfl | bK
  ·rw[br]
  cases e:x.fit t q with
  | none=>exact Nc hk.2.2 bK br
  | some eP=>
   have:=awX e br;rw[hk.2.1 h bK]at this;cases this
theorem Du{g:Nat}{ee:List (Nat×Nat)}:∀{ai:List dx},ow t q ai=some (g,ee)->∃h∈ai,h.fit t q=some ee/\g=fF h.i h.j
 | [],h=>by cases h
 | x::r,h=>by
  simp only[ow]at h;split at h
  ·rename_i eP e;simp only[aX,bH]at h;obtain⟨rfl,rfl⟩:=h;exact⟨x,fN,e,rfl⟩
  obtain⟨y,bk,U⟩:=Du h;exact⟨y,ff _ bk,U⟩
theorem Uo{ee:List (Nat×Nat)}(e:h.fit t q=some ee):h.t=t/\q=h.p.toList++ee:=by
 unfold dx.fit at e;split at e
 ·rename_i e1;refine⟨e1,?_⟩;split at e
  ·rename_i hp;simp only[aX]at e;rw[hp,e];rfl
  ·rename_i p x eP hp;split at e
   ·rename_i aa;simp only[aX]at e;rw[hp,aa,e];rfl
   cases e
  cases e
 cases e
theorem Up(h:dx)(q:List (Nat×Nat)):h.fit h.t (h.p.toList++q)=some q:=by
 unfold dx.fit;rw[bh rfl];cases h.p with
 | none=>rfl
 | some p=>simp
def gd(ai:List dx)(ω:Own):Own:=fun b=>
 match ω b with
 | .tok t q=>match ow t q ai with | some (g,ee)=>.tok g ee | none=>.bJ
 | _=>.bJ
def Fk(g:Nat):List dx->Option dx
 | []=>none
 | h::r=>if fF h.i h.j=g then some h else Fk g r
theorem Uq:∀{ai:List dx},pI ai=true->∀{h:dx},h∈ai->Fk (fF h.i h.j) ai=some h
 | [],_,h,bK=>by cases bK
 | x::r,hk,h,bK=>by
  have a8:=Un hk;have kd:=hk;simp only[pI,b9,gP]at hk;simp only[Fk];rcases dQ.1 bK with rfl | sB
  ·rw[bh rfl]
  rw[bq]
  ·exact Uq hk.2.2 sB
  intro e;have h1:=a8 x fN;have U:=a8 h (ff _ sB);have aA:=hk.2.1 h sB;simp only[dx.apart,b9,oi,bne_iff_ne,lc]at aA;simp only[fF]at e;omega
def Dv(ai:List dx)(t0:Nat):dp->dp
 | .tok s q=>if dj<=s then (match Fk s ai with | some h=>.tok h.t (h.p.toList++q) | none=>.bJ) else .tok (t0+s) q
 | _=>.bJ
def yl(t:Nat):List dx->Option dx
 | []=>none
 | h::r=>if h.t=t then some h else yl t r
theorem Ur:∀{ai:List dx},yl t ai=none->tw ai t=false
 | [],_=>rfl
 | h::r,e=>by
  simp only[yl]at e;split at e
  ·cases e
  rename_i cU;have:=Ur e;simp only[tw,E2,fw]at this ⊢;exact⟨by simpa using cU,this⟩
theorem Us:∀{ai:List dx},yl t ai=some h->h∈ai/\h.t=t
 | [],e=>by cases e
 | x::r,e=>by
  simp only[yl]at e;split at e
  ·simp only[aX]at e;subst e;exact⟨fN,‹_›⟩
  obtain⟨h1,U⟩:=Us e;exact⟨ff _ h1,U⟩
def n1:List dx->List D->List D
 | [],ds=>ds
 | h::r,ds=>match h.p,h.post with
  | some p,some es=>n1 r (ds.set p.2 (.J h.k es))
  | _,_=>n1 r ds
def tq(ai:List dx)(t0 iz pz:Nat)(q9:List (List D)):aG->aG
 | .J (.own t) k es=>
  match yl t ai with
  | some h=>match h.p,h.post with
   | none,some cy=>.J (.own t) h.k cy
   | none,none=>.cu
   | some _,_=>if t=iz then .J (.own t) pz q9 else .cu
  | none=>aG.cG (hd t0) (fun _=>true) (.J (.own t) k es)
 | l=>if l.qA ai then .cu else l.cG (hd t0) fun _=>true
end Go.Sx
namespace Go.Sx
open Go.RowKit
variable{ai:List dx}
theorem awY{t:Nat}(h:tw ai t=false):∀y∈ai,y.t≠t:=by
 intro y bk e;simp only[tw,fm,iL]at h;exact h y bk e
theorem Nd{t:Nat}(h:tw ai t=false)(q:List (Nat×Nat)):ow t q ai=none:=by
 cases e:ow t q ai with
 | none=>rfl
 | some x=>
  obtain⟨g,ee⟩:=x;obtain⟨y,bk,br,_⟩:=Du e;exact absurd (Uo br).1 (awY h y bk)
structure E7 (w:World) (ω:Own) (τ:Nat->Nat×Value) (h:dx) (u:Value):Prop where
 rep:bZ w ω (fun q o=>o=.tok h.t (h.p.toList++q)) (.J h.k h.es) u
 root:h.p=none->τ h.t=(h.k,u)
 cell:∀a b,h.p=some (a,b)->∃(kT ch off len cap:Nat) (arr:Array Value) (ty:TypeId) (cM:Nat×Nat),τ h.t=(kT,.slice (some ⟨ch,off,none⟩) len cap)/\ω ch=.tok h.t []/\w.heap[ch]?=some (.cells arr ty cM)/\arr[off+a*kT+b]?=some u
structure Rx (w:World) (ω:Own) (τ:Nat->Nat×Value) (ai:List dx) (iz pz:Nat) (q9:List (List D)):Prop where
 ex:∀h∈ai,∀p,h.p=some p->h.t=iz->∃(dW:List (List D)) (y:Value) (ds:List D) (a:Nat),Sat w ω τ (.J (.own iz) pz dW) y/\dW[a]?=some ds/\ds.length=pz/\q9=dW.set a (n1 ai ds)/\
  ∀x∈ai,∀q,x.p=some q->x.t=iz/\q.1=a/\∃cy,x.post=some cy
theorem CX:∀(ai:List dx) (ds:List D),(n1 ai ds).length=ds.length
 | [],_=>rfl
 | h::r,ds=>by
  simp only[n1];split
  ·rw[CX r,iN]
  exact CX r ds
theorem Nf{y:Nat}{d:D}:∀{ai:List dx} {ds:List D},(n1 ai ds)[y]?=some d->(∃h∈ai,∃a cy,h.p=some (a,y)/\h.post=some cy/\d=.J h.k cy)\/ds[y]?=some d/\∀h∈ai,∀a cy,h.p=some (a,y)->h.post=some cy->False
 | [],ds,h=>.inr ⟨h,fun _ bK=>by cases bK⟩
 | h::r,ds,aF=>by
  simp only[n1]at aF;split at aF
  ·rename_i p cy e1 e2;rcases Nf aF with⟨x,aa,a,bS,h1,U,aA⟩ | ⟨h1,U⟩
   ·exact .inl ⟨x,ff _ aa,a,bS,h1,U,aA⟩
   rw[o3]at h1;split at h1
   ·rename_i hp;split at h1
    ·simp only[aX]at h1;exact .inl ⟨h,fN,p.1,cy,by rw[e1,<-hp],e2,h1.symm⟩
    cases h1
   rename_i hp;refine .inr ⟨h1,fun x aa a bS aA aI=>?_⟩;rcases dQ.1 aa with rfl | aa
   ·rw[e1]at aA;simp only[aX]at aA;rw[aA]at hp;exact hp rfl
   exact U x aa a bS aA aI
  rename_i cU;rcases Nf aF with⟨x,aa,a,bS,h1,U,aA⟩ | ⟨h1,U⟩
  ·exact .inl ⟨x,ff _ aa,a,bS,h1,U,aA⟩
  refine .inr ⟨h1,fun x aa a bS aA aI=>?_⟩;rcases dQ.1 aa with rfl | aa
  ·exact cU _ _ aA aI
  exact U x aa a bS aA aI
theorem cD.acg{w0:eN}{st:aD}{a:Act}{w aM:World}{ω:Own}{τ:Nat->Nat×Value}(aZ:cD w0 st a w ω τ)(t0:Nat){rs:List cL}{v:Value}{H:Nat->Nat×Value}
  (bI:pI ai=true) (eh:wq rs=true) (jM:t0+10000<=dj) (Sz:∀h∈ai,¬(t0<=h.t/\h.t<t0+10000)) (aq:ho ⟨w,fun b=>gd ai ω b≠.bJ,H⟩ aM) (fx:Own)
  (lp:∀b,b<w.heap.size->gd ai ω b=.bJ->fx b=.bJ) (lL:∀b,fx b≠.bJ->(∃t q,fx b=.tok t q)/\∃arr ty,aM.heap[b]?=some (.cells arr ty (0,0))) (ma:n0 aM fx rs v)
  (vals:dx->Value) (KI:∀h∈ai,∀cy,h.post=some cy->bZ aM fx (Tag.own (fF h.i h.j)).R (.J h.k cy) (vals h)) (hE:∀h∈ai,E7 w ω τ h (vals h))
  {iz pz:Nat} {q9:List (List D)} (iF:Rx w ω τ ai iz pz q9):
  ∃bc cZ,cD w0 (st.map (tq ai t0 iz pz q9)) a aM bc cZ/\cT (Sat aM bc cZ) (uV t0 rs) v:=by
 classical
 let bc:Own:=fun b=>if b<w.heap.size/\gd ai ω b=.bJ then pH t0 (ω b) else Dv ai t0 (fx b)
 let cZ:Nat->Nat×Value:=fun s=>if t0<=s/\s<t0+10000 then (rp rs (s-t0),oE rs v (s-t0)) else τ s
 have hold:∀b,b<w.heap.size->gd ai ω b=.bJ->bc b=pH t0 (ω b):=fun b aq h=>by simp only[bc];rw[bh ⟨aq,h⟩]
 have hx:∀b,fx b≠.bJ->bc b=Dv ai t0 (fx b):=fun b aq=>by
  simp only[bc];rw[bq];rintro⟨h1,U⟩;exact aq (lp b h1 U)
 have hblk:∀b,b<w.heap.size->gd ai ω b=.bJ->aM.heap[b]?=w.heap[b]?:=fun b bM h=>aq.block b bM (fun aP=>aP h)
 have rr:∀b,ω b=.bJ->gd ai ω b=.bJ:=fun b h=>by simp only[gd,h]
 have acT:∀b id,ω b=.box id->gd ai ω b=.bJ:=fun b id h=>by simp only[gd,h]
 have k1:∀b s q,ω b=.tok s q->ow s q ai=none->gd ai ω b=.bJ:=fun b s q h U=>by simp only[gd,h,U]
 have um:∀h∈ai,cZ h.t=τ h.t:=fun h bK=>by simp only[cZ];rw[bq (Sz h bK)]
 have eU:∀(g ek:Tag) (b:Nat) (q:List (Nat×Nat)),g.oM ai=false->hd t0 g=some ek->b<w.heap.size->g.R q (ω b)->ek.R q (bc b)/\aM.heap[b]?=w.heap[b]?:=by
  intro g ek b q hm ar bM aC;have hi:gd ai ω b=.bJ:=by
   cases g with
   | free=>exact rr b aC
   | own s=>exact k1 b s q aC (Nd hm q)
   | ro s=>
    rcases aC with h | ⟨ee,h⟩
    ·exact rr b h
    exact k1 b s ee h (Nd hm ee)
  refine⟨?_,hblk b bM hi⟩;rw[hold b bM hi];cases g with
  | free=>simp only[hd,aX]at ar;subst ar;simp only[Tag.R]at aC ⊢;rw[aC];rfl
  | own s=>
   simp only[Tag.R]at aC;simp only[hd]at ar;rw[aC];simp only[pH];split at ar
   ·simp only[aX]at ar;subst ar;rw[bh ‹_›];rfl
   simp only[aX]at ar;subst ar;rw[bq ‹_›];rfl
  | ro s=>
   simp only[Tag.R]at aC;simp only[hd]at ar;split at ar
   ·simp only[aX]at ar;subst ar;rcases aC with h | ⟨ee,h⟩
    ·rw[h];rfl
    rw[h];simp only[pH];rw[bh ‹_›];rfl
   simp only[aX]at ar;subst ar;rcases aC with h | ⟨ee,h⟩
   ·rw[h];exact .inl rfl
   rw[h];simp only[pH];rw[bq ‹_›];exact .inr ⟨ee,rfl⟩
 have LK:∀(g ek:Tag) (y:Nat×Value),hd t0 g=some ek->g.ev τ y->ek.ev cZ y:=by
  intro g ek y ar bk;cases g with
  | free=>simp only[hd,aX]at ar;subst ar;exact trivial
  | own s=>
   simp only[hd]at ar;split at ar
   ·simp only[aX]at ar;subst ar;exact trivial
   simp only[aX]at ar;subst ar;simp only[Tag.ev,cZ]at bk ⊢;rw[bq ‹_›];exact bk
  | ro s=>
   simp only[hd]at ar;split at ar
   ·simp only[aX]at ar;subst ar;exact trivial
   simp only[aX]at ar;subst ar;exact trivial
 have zK:∀id b,ω b=.box id->bc b=.box id/\aM.heap[b]?=w.heap[b]?:=by
  intro id b dk;have bM:=aZ.owned.lt (b:=b) (by simp[dk]);have hi:=acT b id dk;exact⟨by rw[hold b bM hi,dk];rfl,hblk b bM hi⟩
 have SY:∀h∈ai,∀cy,h.post=some cy->bZ aM bc (fun q o=>o=.tok h.t (h.p.toList++q)) (.J h.k cy) (vals h):=by
  intro h bK cy he;refine (KI h bK cy he).frame fun b q _ aC=>⟨?_,rfl⟩
  simp only[Tag.R]at aC;rw[hx b (by rw[aC];simp),aC];simp only[Dv];rw[bh (by simp[fF]),Uq bI bK]
 have eT:∀l y,Sat w ω τ l y->Sat aM bc cZ (tq ai t0 iz pz q9 l) y:=by
  intro l y df;have plain:∀g k es,g.oM ai=false->Sat w ω τ (.J g k es) y->Sat aM bc cZ (aG.cG (hd t0) (fun _=>true) (.J g k es)) y:=by
   intro g k es hm mH;simp only[aG.cG];cases ar:hd t0 g with
   | none=>exact trivial
   | some ek=>exact⟨mH.1.frame fun b q bM aC=>eU g ek b q hm ar bM aC,LK g ek _ ar mH.2⟩
  cases l with
  | cu=>exact trivial
  | v x=>exact df
  | bR c=>exact df
  | ptr id off=>
   obtain⟨b,h1,U⟩:=df;exact⟨b,(zK id b h1).1,U⟩
  | hr f ids=>
   obtain⟨bs,e,aP,hi⟩:=df;simp only[tq,aG.qA,oh,mr,aG.cG];split
   ·refine⟨bs,e,aP,fun i id hD=>?_⟩;obtain⟨b,h1,U⟩:=hi i id hD;exact⟨b,h1,(zK id b U).1⟩
   exact trivial
  | jd ds off=>
   obtain⟨b,e,aB⟩:=df;exact⟨b,e,aB.frame fun b q bM aC=>eU .free .free b q rfl rfl bM aC⟩
  | fd d=>exact bZ.frame df fun b q bM aC=>eU .free .free b q rfl rfl bM aC
  | e5 t k es=>exact⟨bZ.frame df.1 fun b q bM aC=>eU .free .free b q rfl rfl bM aC,fun bG=>(show cZ t=τ t by simp only[cZ];rw[bq (by omega)]).trans (df.2 bG)⟩
  | aS t i j k es m=>
   simp only[tq];by_cases hm:aG.qA ai (.aS t i j k es m)=true
   ·rw[bh hm];exact trivial
   rw[bq hm];simp only[wX]at hm;replace hm:tw ai t=false:=hm;simp only[aG.cG];split
   ·rename_i du ar;split
    ·rename_i bG;subst bG;obtain⟨fC,sI,h1,KL⟩:=df;refine⟨fC,sI,h1.frame fun c q al aC=>eU (.own du) _ c _ hm ar al aC,fun ado=>?_⟩;obtain⟨kT,b,off,len,cap,arr,ty,cM,U,a',aA,aI⟩:=KL ado;have bM:b<w.heap.size:=(kt.1 aA).1;have hk:=eU (.own du) _ b [] hm ar bM a';exact⟨kT,b,off,len,cap,arr,ty,cM,LK _ _ _ ar U,hk.1,hk.2.trans aA,aI⟩
    exact trivial
   exact trivial
  | fr t vs=>
   simp only[tq,aG.qA,fU];exact trivial
  | ep g k es i j=>
   simp only[tq];by_cases hm:aG.qA ai (.ep g k es i j)=true
   ·rw[bh hm];exact trivial
   rw[bq hm];simp only[wX]at hm;replace hm:g.oM ai=false:=hm;obtain⟨b,off,cap,e,hi,aB,bK⟩:=df;simp only[aG.cG];cases ar:hd t0 g with
   | none=>exact trivial
   | some ek=>exact⟨b,off,cap,e,hi,aB.frame fun b q bM aC=>eU g ek b q hm ar bM aC,LK g ek _ ar bK⟩
  | J g k es=>
   cases g with
   | free=>exact plain .free k es rfl df
   | ro s=>
    simp only[tq];by_cases hm:aG.qA ai (.J (.ro s) k es)=true
    ·rw[bh hm];exact trivial
    rw[bq hm];simp only[wX]at hm;exact plain (.ro s) k es hm df
   | own s=>
    simp only[tq];cases br:yl s ai with
    | none=>exact plain (.own s) k es (Ur br) df
    | some h=>
     obtain⟨bK,rfl⟩:=Us br;simp only;have bD:=hE h bK;have ev:τ h.t=(k,y):=df.2;split
     ·
      rename_i cy hp he;have e1:=bD.root hp;rw[ev]at e1;simp only[bH]at e1;obtain⟨rfl,e2⟩:=e1;have aB:=SY h bK cy he;rw[hp,<-e2]at aB;exact⟨aB,by simp only[Tag.ev];rw[um h bK,ev]⟩
     ·exact trivial
     -- parts of it
     rename_i p hp;split
     ·rename_i vE;obtain⟨dW,mS,ds,a0,zF,e6,rn,rfl,jk⟩:=iF.ex h bK p hp vE;have Ks:τ iz=(pz,mS):=zF.2;rw[<-vE,ev]at Ks;simp only[bH]at Ks;obtain⟨rfl,rfl⟩:=Ks;obtain⟨rC,_⟩:=zF;have hlen:(dW.set a0 (n1 ai ds)).length=dW.length:=iN;have R1:a0<dW.length:=(gh.1 e6).1;refine⟨?_,by simp only[Tag.ev];rw[um h bK,ev]⟩;generalize bk:y=Rn at rC;cases rC with
      | nil=>simp at R1
      | row R k dW ch off cap arr ty cM us Kj ef Ko dN hk hu aF=>
       subst bk;have FH:ω ch=.tok h.t []:=by rw[vE];exact ef
       have Ss:∀x∈ai,x.fit iz []=none:=by
        intro x aa;unfold dx.fit;split
        ·rename_i ext;cases Gb:x.p with
         | some q=>simp
         | none=>
          exfalso;have cU:dx.apart h x=true\/dx.apart x h=true\/h=x:=by
           rcases Um bI h bK x aa with e | e | e
           ·exact .inr (.inr e)
           ·exact .inl e
           exact .inr (.inl e)
          have vv:∀y z:dx,y.t=z.t->(y.p=none\/z.p=none)->dx.apart y z=true->False:=by
           intro y z e1 e2 cx;simp only[dx.apart,e1,b9,oi,bne_self_eq_false,oh,false_or]at cx;rcases e2 with e2 | e2
           ·simp[e2]at cx
           ·rw[e2]at cx;cases hyp:y.p<;>simp[hyp]at cx
          rcases cU with e | e | e
          ·exact vv h x (by rw[ext,vE]) (.inr Gb) e
          ·exact vv x h (by rw[ext,vE]) (.inl Gb) e
          rw[<-e,hp]at Gb;cases Gb
        rfl
       have mC:ow iz [] ai=none:=by
        cases e:ow iz [] ai with
        | none=>rfl
        | some z=>
         obtain⟨g,ee⟩:=z;obtain⟨x,aa,SL,_⟩:=Du e;rw[Ss x aa]at SL;cases SL
       have acR:ch<w.heap.size:=(kt.1 Kj).1;have aCJ:gd ai ω ch=.bJ:=k1 ch iz [] ef mC;have ad5:¬(t0<=iz/\iz<t0+10000):=by rw[<-vE];exact Sz h bK
       have Su:∀b q,b<w.heap.size->ω b=.tok iz q->ow iz q ai=none->bc b=.tok iz q/\aM.heap[b]?=w.heap[b]?:=by
        intro b q bM aC aP;have hi:=k1 b iz q aC aP;refine⟨?_,hblk b bM hi⟩;rw[hold b bM hi,aC];simp only[pH];rw[bq ad5]
       have St:∀x y d,dd dW x y=some d->(∀z∈ai,z.p≠some (x,y))->bZ aM bc (fun q=>(Tag.own iz).R ((x,y)::q)) d (us x y):=by
        intro x y d al aL;refine (aF x y d al).frame fun b q bM aC=>?_
        refine Su b _ bM aC ?_;cases e:ow iz ((x,y)::q) ai with
        | none=>rfl
        | some r=>
         obtain⟨g,ee⟩:=r;obtain⟨z,Cx,Cy,_⟩:=Du e;obtain⟨e1,e2⟩:=Uo Cy;exfalso;cases sO:z.p with
         | none=>
          have:=Ss z Cx;unfold dx.fit at this;rw[bh e1,sO]at this;simp at this
         | some r=>
          rw[sO]at e2;simp only[yY,List.cons_append,List.nil_append,tC]at e2;exact aL z Cx (by rw[sO,<-e2.1])
       have key:∀x y d,dd (dW.set a0 (n1 ai ds)) x y=some d->bZ aM bc (fun q=>(Tag.own iz).R ((x,y)::q)) d (us x y):=by
        intro x y d al;by_cases aa:x=a0
        ·subst aa;have lL:(n1 ai ds)[y]?=some d:=by
          simpa[dd,o3,R1]using al
         rcases Nf lL with⟨z,aL,eB,cy,h1,U,rfl⟩ | ⟨h1,U⟩
         ·obtain⟨e1,e2,_⟩:=jk z aL _ h1;have e2:eB=x:=e2;subst e2;obtain⟨kT,eO,aDG,aDB,aCd,aB9,aD0,aCx,g1,g2,g3,g4⟩:=(hE z aL).cell _ _ h1;rw[e1,<-vE,ev]at g1;simp only[bH,Value.slice.injEq,aX,Addr.mk.injEq]at g1;obtain⟨rfl,⟨rfl,rfl,_⟩,_,_⟩:=g1;rw[Kj]at g3;simp only[aX,Obj.cells.injEq]at g3;obtain⟨rfl,_,_⟩:=g3;have aey:y<ds.length:=by
           have:=(gh.1 lL).1;rwa[CX]at this
          have fq:dd dW eB y=some ds[y]:=by simp[dd,e6,aey]
          have aer:us eB y=vals z:=by
           have:=hu eB y _ fq;rw[g4]at this;exact (gX this).symm
          rw[aer];have aB:=SY z aL cy U;rw[h1,e1]at aB;exact aB
         have fq:dd dW x y=some d:=by simp[dd,e6,h1]
         refine St x y d fq fun z aL sO=>?_
         obtain⟨_,_,cy,he⟩:=jk z aL _ sO;exact U z aL x cy sO he
        have fq:dd dW x y=some d:=by
         simp only[dd,o3]at al;rw[bq (by omega)]at al;exact al
        refine St x y d fq fun z aL sO=>?_
        obtain⟨_,e2,_⟩:=jk z aL _ sO;exact aa e2
       have ht:=Su ch [] acR ef mC;have:=bZ.row (w:=aM) (ω:=bc) (Tag.own iz).R k (dW.set a0 (n1 ai ds)) ch off cap arr ty cM us (ht.2.trans Kj) ht.1 (by rw[hlen];exact Ko) dN
        (fun e he=>by
         rcases iB he with eu | rfl
         ·exact hk e eu
         rw[CX];exact rn)
        (fun x y d al=>by
         have gk:x<dW.length/\y<k:=by
          have kd:∀e∈dW.set a0 (n1 ai ds),e.length=k:=fun e he=>by
           rcases iB he with eu | rfl
           ·exact hk e eu
           rw[CX];exact rn
          have eu:x<(dW.set a0 (n1 ai ds)).length/\y<k:=by
           unfold dd at al;cases BD:(dW.set a0 (n1 ai ds))[x]? with
           | none=>simp[BD]at al
           | some row=>
            simp only[BD,qU]at al;have hm:=kd row (f' BD);exact⟨(gh.1 BD).1,by rw[<-hm];exact (gh.1 al).1⟩
          rw[hlen]at eu;exact eu
         have xt:(dW[x]'gk.1).length=k:=hk _ (p5 gk.1);exact hu x y ((dW[x]'gk.1)[y]'(by omega)) (by simp[dd,gk.1,xt,gk.2]))
        key
       rw[hlen]at this;rw[vE];exact this
     exact trivial
 have cell:∀(n:Nat) (d:D) (u:Value),n<10000->oE rs v n=u->(∀k es,d=.J k es->rp rs n=k)->bZ aM fx (Tag.own n).R d u->Sat aM bc cZ (d.qO (t0+n)) u:=by
  intro n d u aP bD hk aB;cases d with
  | v x=>
   have e:u=x:=by cases aB;rfl
   subst e;unfold D.qO;split
   ·rename_i h;cases h;exact rfl
   ·rename_i h;cases h;exact rfl
   ·rename_i h;cases h
   ·exact trivial
   exact trivial
  | ptr ds=>exact trivial
  | cl g bl=>exact trivial
  | J k es=>
   refine⟨aB.frame fun b q bM aC=>⟨?_,rfl⟩,?_⟩
   ·simp only[Tag.R]at aC ⊢;rw[hx b (by rw[aC];simp),aC];simp only[Dv];rw[bq (by simp only[dj];omega)]
   simp only[Tag.ev,cZ];rw[bh (by omega),show t0+n-t0=n by omega,bD,hk k es rfl]
 have vj:∀(r:Nat) (ct:cL) (y:Value),r<100->(∀ds,ct=.agg ds->ds.length<100)->rs[r]?=some ct->(∀j,j<100->oE rs v (100*r+j)=y.cells.getD j undef)->nz aM fx r ct y->ll (Sat aM bc cZ) (ct.res (t0+100*r)) y:=by
  intro r ct y aB e6 Cn bD nS;have hv:∀j,j<100->rp rs (100*r+j)=(match cL.cell j ct with | some (.J k _)=>k | _=>0):=by
   intro j a8;unfold rp;rw[show (100*r+j) / 100=r by omega,show (100*r+j) % 100=j by omega,Cn];rfl
  cases ct with
  | one d=>
   have h1:=nS.qD;have U:=bD 0 (by omega);rw[Dp h1]at U;have:=cell (100*r) d y (by omega) (by simpa using U) (fun k es e=>by
    have:=hv 0 (by omega);rw[o7]at this;rw[this,e];rfl) nS
   exact this
  | agg ds=>
   obtain⟨vs,rfl,aP,a8⟩:=nS;refine⟨vs,rfl,by rw[AI];exact aP,fun j l aj=>?_⟩;rw[Dt,b5]at aj;obtain⟨d,aF,rfl⟩:=aj;obtain⟨u,hu,Co⟩:=a8 j d aF;have kY:j<100:=by
    have:=(gh.1 aF).1;have:=e6 ds rfl;omega
   refine⟨u,hu,?_⟩;have:=cell (100*r+j) d u (by omega) (by rw[bD j kY];simp[Value.cells,eW,hu]) (fun k es e=>by
    rw[hv j kY];simp only[cL.cell,aF,e]) Co
   rw[show t0+100*r+(0+j)=t0+(100*r+j) by omega];exact this
 simp only[wq,b9,cc]at eh;have e6:∀(r:Nat) (ct:cL),rs[r]?=some ct->∀ds,ct=.agg ds->ds.length<100:=by
  intro r ct aB ds e;have:=gP.1 eh.2 ct (f' aB);subst e;simpa using this
 have Sn:∀b,ω b≠.bJ->w0.Gn b:=fun b h=>(aZ.owned b h).1
 have Sf:∀b,gd ai ω b≠.bJ->ω b≠.bJ:=fun b h e=>h (rr b e)
 refine⟨bc,cZ,aZ.dG _ eT ?_ ?_ (fun id b dk=>zK id b dk) ?_ (fun s ai=>by simp only[cZ];rw[bq (by omega)]),?_⟩
 ·refine⟨aq.os.trans aZ.below.os,aq.tape.trans aZ.below.tape,aq.output.trans aZ.below.output,mW aZ.below.size aq.size,fun k hk ar=>?_,fun ai=>mW (aZ.below.drawn ai) (aq.drawn ai),aq.laid,aZ.below.free⟩;have ru:k<w.heap.size:=Bt hk aZ.below.size;have hi:gd ai ω k=.bJ:=by
   cases e:gd ai ω k with
   | bJ=>rfl
   | _=>
    have:=Sn k (Sf k (by rw[e];simp));rcases this with h | h
    ·omega
    exact absurd h ar
  exact (hblk k ru hi).trans (aZ.below.block k hk ar)
 ·intro b gu;by_cases al:b<w.heap.size/\gd ai ω b=.bJ
  ·rw[hold b al.1 al.2]at gu;have U:ω b≠.bJ:=fun e=>by rw[e]at gu;exact gu rfl
   obtain⟨aA,arr,ty,aI⟩:=aZ.owned b U;exact⟨aA,arr,ty,(hblk b al.1 al.2).trans aI⟩
  have U:fx b≠.bJ:=fun e=>by
   simp only[bc]at gu;rw[bq al,e]at gu;exact gu rfl
  obtain⟨_,arr,ty,aI⟩:=lL b U;refine⟨?_,arr,ty,aI⟩;rcases qV b w.heap.size with bM | qn
  ·exact Sn b (Sf b fun e=>al ⟨bM,e⟩)
  exact .inl (by have:=aZ.below.size;omega)
 ·intro id b dk;by_cases al:b<w.heap.size/\gd ai ω b=.bJ
  ·rw[hold b al.1 al.2]at dk;cases e:ω b with
   | bJ=>rw[e]at dk;cases dk
   | box i=>rw[e]at dk;exact dk
   | tok s q=>rw[e]at dk;simp only[pH]at dk;split at dk<;>cases dk
  simp only[bc]at dk;rw[bq al]at dk;cases e:fx b with
  | bJ=>rw[e]at dk;cases dk
  | box i=>rw[e]at dk;cases dk
  | tok s q=>
   rw[e]at dk;simp only[Dv]at dk;split at dk
   ·split at dk<;>cases dk
   cases dk
 cases rs with
 | nil=>
  obtain⟨vs,rfl,aP,_⟩:=ma;exact⟨vs,rfl,aP,fun i a ae=>by simp[rS]at ae⟩
 | cons ct rest=>
  cases rest with
  | nil=>
   have:=vj 0 ct v (by omega) (e6 0 ct rfl) rfl (fun j a8=>by
    unfold oE;simp only[Nat.mul_zero,dV];rw[Jy a8]) ma
   exact this
  | cons RB rest=>
   obtain⟨vs,rfl,aP,bD⟩:=ma;refine⟨vs,rfl,by rw[GH];exact aP,fun i a ae=>?_⟩;rw[GG,b5]at ae;obtain⟨o',h1,rfl⟩:=ae;obtain⟨y,bk,B'⟩:=bD i o' h1;have lN:i<100:=by
    have:=(gh.1 h1).1;omega
   refine⟨y,bk,?_⟩;have:=vj i o' y lN (e6 i o' h1) h1 (fun j a8=>by
    unfold oE;simp only;rw[show (100*i+j) / 100=i by omega,show (100*i+j) % 100=j by omega];simp[eW,bk]) B'
   rw[dV];exact this
end Go.Sx
namespace Go.Sx
open Go.RowKit
variable{w:World}{ω:Own}{τ:Nat->Nat×Value}{ai:List dx}{l:aG}{d:D}{y:Value}
theorem Ut(h:l.g'=some d)(hm:l.qA ai=false)(df:Sat w ω τ l y):bZ w (gd ai ω) Tag.free.R d y:=by
 have rr:∀b,ω b=.bJ->gd ai ω b=.bJ:=fun b h=>by simp only[gd,h]
 have k1:∀b s q,ω b=.tok s q->tw ai s=false->gd ai ω b=.bJ:=fun b s q h U=>by simp only[gd,h,Nd U]
 have tag:∀(g:Tag) (b:Nat) (q:List (Nat×Nat)),g.oM ai=false->g.R q (ω b)->gd ai ω b=.bJ:=by
  intro g b q ar aC;cases g with
  | free=>exact rr b aC
  | own s=>exact k1 b s q aC ar
  | ro s=>
   rcases aC with h | ⟨ee,h⟩
   ·exact rr b h
   exact k1 b s ee h ar
 cases l with
 | cu=>cases h
 | v x=>
  simp only[aG.g']at h;split at h
  ·simp only[aX]at h;subst h;have:y=x:=df;subst this;exact .v _ _ ‹_›
  cases h
 | bR c=>
  simp only[aG.g',aX]at h;subst h;have:y=.bool c:=df;subst this;exact .v _ _ rfl
 | J t k es=>simp only[aG.g',aX]at h;subst h;exact df.1.frame fun b q _ aC=>⟨tag t b q hm aC,rfl⟩
 | ptr=>cases h
 | ep=>cases h
 | hr=>cases h
 | fr=>cases h
 | jd ds off=>
  simp only[aG.g']at h;split at h
  ·rename_i aW;subst aW;simp only[aX]at h;subst h;obtain⟨b,rfl,aB⟩:=df;exact aB.frame fun b q _ aC=>⟨rr b aC,rfl⟩
  cases h
 | fd dR=>simp only[aG.g',aX]at h;subst h;exact bZ.frame df fun b q _ aC=>⟨rr b aC,rfl⟩
 | e5 t k es=>simp only[aG.g',aX]at h;subst h;exact bZ.frame df.1 fun b q _ aC=>⟨rr b aC,rfl⟩
 | aS t i j k es m=>
  obtain⟨u,hu,aB,_⟩:=df;cases m with
  | at_ x z=>cases h
  | here=>simp only[aG.g',aX]at h;subst h;have:y=u:=hu;subst this;exact aB.frame fun b q _ aC=>⟨k1 b t _ aC hm,rfl⟩
  | mZ=>simp only[aG.g',aX]at h;subst h;have:y=u:=hu;subst this;exact aB.frame fun b q _ aC=>⟨k1 b t _ aC hm,rfl⟩
variable{bs:mX}
theorem Uu(aq:xL w ω τ bs){id b:Nat}(h:y8 bs id=some d)(hm:(match dI id bs with | some ls=>ls.any (aG.qA ai) | none=>true)=false)(aW:ω b=.box id):
  bZ w (gd ai ω) Tag.free.R d (ptrTo b):=by
 unfold y8 at h;cases e:dI id bs with
 | none=>simp[e]at h
 | some ls=>
  rw[e]at hm;simp only[fm,wX]at hm;simp only[e,qU,b5]at h;obtain⟨ds,h1,rfl⟩:=h;obtain⟨dA,arr,ty,er,hu,bK,df⟩:=aq id ls e;have:=hu b aW;subst this;obtain⟨U,aA⟩:=oO h1;have cell:∀j d,ds[j]?=some d->arr[j]?=some (arr.getD j undef)/\bZ w (gd ai ω) Tag.free.R d (arr.getD j undef):=by
   intro j d aF;obtain⟨l,aj,c'⟩:=aA j d aF;obtain⟨u,ha,fH⟩:=df.2 j l aj;have e2:arr.getD j undef=u:=by simp[eW,ha]
   rw[e2];exact⟨ha,Ut c' (hm l (f' aj)) fH⟩
  exact bZ.ptr _ ds b arr ty (0,0) (fun j=>arr.getD j undef) bK (by show gd ai ω b=.bJ;simp only[gd,aW]) (by have:=df.1;omega) (fun j d aF=>(cell j d aF).1) (fun j d aF=>(cell j d aF).2.frame fun _ _ _ h=>⟨h,rfl⟩)
theorem awZ(aq:xL w ω τ bs)(h:l.kQ bs=some d)(hm:l.oM bs ai=false)(df:Sat w ω τ l y):
  bZ w (gd ai ω) Tag.free.R d y:=by
 unfold aG.kQ at h;split at h
 ·rename_i id off;split at h
  ·rename_i aW;subst aW;obtain⟨b,h1,rfl⟩:=df;exact Uu aq h hm h1
  cases h
 ·rename_i g ids;rw[b5]at h;obtain⟨ds,h1,rfl⟩:=h;obtain⟨pb,rfl,aP,hi⟩:=df;obtain⟨U,aA⟩:=oO h1;simp only[aG.oM,fm,wX]at hm;have cell:∀j d,ds[j]?=some d->(pb.map ptrTo).toArray[j]?=some ((pb.map ptrTo).toArray.getD j undef)/\bZ w (gd ai ω) Tag.free.R d ((pb.map ptrTo).toArray.getD j undef):=by
   intro j d aF;obtain⟨id,hD,Kq⟩:=aA j d aF;obtain⟨b,ht,gj⟩:=hi j id hD;have e1:(pb.map ptrTo).toArray[j]?=some (ptrTo b):=by simp[ht]
   have e2:(pb.map ptrTo).toArray.getD j undef=ptrTo b:=by rw[eW,e1];rfl
   rw[e2];exact⟨e1,Uu aq Kq (hm id (f' hD)) gj⟩
  exact bZ.cl _ g ds _ (fun j=>(pb.map ptrTo).toArray.getD j undef) (by simp;omega) (fun j d aF=>(cell j d aF).1) (fun j d aF=>(cell j d aF).2.frame fun _ _ _ h=>⟨h,rfl⟩)
 rename_i sF adR;have Cf:l.qA ai=false:=by
  unfold aG.oM at hm;split at hm
  ·exact absurd rfl (sF _ _)
  ·exact absurd rfl (adR _ _)
  exact hm
 exact Ut h Cf df
structure ab0 (w:World) (ω:Own) (τ:Nat->Nat×Value) (ai:List dx) (i j:Nat) (c:eR) (aa:List dx) (y:Value):Prop where
 gc:w4 w (gd ai ω) (fF i j) c y
 at_:∀h∈aa,h.i=i/\h.j=j/\E7 w ω τ h y/\c=.fh h.k h.es h.post
 one:y.oneCell'=true
variable{i:Nat}
theorem Ng(bI:pI ai=true)(aq:xL w ω τ bs){j:Nat}{m:qY}{c:eR}{aa:List dx}{rx:List aG}
  (h:y' bs i j m l=some (c,aa,rx)) (iF:∀x∈aa,x∈ai) (zE:∀x∈rx,x.oM bs ai=false) (df:Sat w ω τ l y):ab0 w ω τ ai i j c aa y:=by
 unfold y' at h;split at h
 ·rw[b5]at h;obtain⟨d,h1,h⟩:=h;simp only[bH]at h;obtain⟨rfl,rfl,rfl⟩:=h;have:=awZ aq h1 (zE _ (by simp)) df;exact⟨this,fun x aa=>by simp at aa,this.qD⟩
 ·rename_i post t k es;simp only[aX,bH]at h;obtain⟨rfl,rfl,rfl⟩:=h;have qs:=iF _ (fN);refine⟨df.1.frame fun b q _ aC=>⟨?_,rfl⟩,fun x aa=>?_,df.1.qD⟩
  ·simp only[Tag.R]at aC ⊢;simp only[gd,aC];have:=Nc (t:=t) (q:=q) (ee:=q) bI qs (Up ⟨i,j,t,none,k,es,post⟩ q);simp only[this]
  simp only[List.mem_singleton]at aa;subst aa;exact⟨rfl,rfl,⟨df.1.frame fun b q _ aC=>⟨aC,rfl⟩,fun _=>df.2,fun a b e=>by cases e⟩,rfl⟩
 ·rename_i post t a b k es;simp only[aX,bH]at h;obtain⟨rfl,rfl,rfl⟩:=h;have qs:=iF _ (fN);obtain⟨fC,sI,df⟩:=df;have:y=fC:=sI;subst this;refine⟨df.1.frame fun c q _ aC=>⟨?_,rfl⟩,fun x aa=>?_,df.1.qD⟩
  ·simp only[Tag.R]at aC ⊢;simp only[gd,aC];have:=Nc (t:=t) (q:=(a,b)::q) (ee:=q) bI qs (Up ⟨i,j,t,some (a,b),k,es,post⟩ q);simp only[this]
  simp only[List.mem_singleton]at aa;subst aa;refine⟨rfl,rfl,⟨df.1.frame fun b q _ aC=>⟨aC,rfl⟩,fun e=>(by cases e),fun cJ dA e=>?_⟩,rfl⟩;simp only[aX,bH]at e;obtain⟨rfl,rfl⟩:=e;exact df.2 rfl
 cases h
theorem Uv:∀{ms:List qY} {ls:List aG} {j:Nat} {cs:List eR} {aa:List dx} {rx:List aG},qG bs i j ms ls=some (cs,aa,rx)->cs.length=ls.length
 | [],[],j,cs,aa,rx,h=>by simp only[qG,aX,bH]at h;obtain⟨rfl,_,_⟩:=h;rfl
 | m::ms,l::ls,j,cs,aa,rx,h=>by
  simp only[qG]at h;split at h
  ·rename_i c h1 b4 RN mG Bh e1 e2;simp only[aX,bH]at h;obtain⟨rfl,_,_⟩:=h;simp[Uv e2]
  cases h
 | [],_::_,j,cs,aa,rx,h=>by simp[qG]at h
 | _::_,[],j,cs,aa,rx,h=>by simp[qG]at h
theorem Uw:∀{ms:List qY} {ls:List aG} {j:Nat} {cs:List eR} {aa:List dx} {rx:List aG},qG bs i j ms ls=some (cs,aa,rx)->
  (∀(x:Nat) (c:eR),cs[x]?=some c->∃l m h1 b4,ls[x]?=some l/\y' bs i (j+x) m l=some (c,h1,b4)/\(∀z∈h1,z∈aa)/\(∀z∈b4,z∈rx))/\
  (∀h∈aa,∃(x:Nat) (c:eR) (l:aG) (m:qY) (h1:List dx) (b4:List aG),cs[x]?=some c/\ls[x]?=some l/\y' bs i (j+x) m l=some (c,h1,b4)/\h∈h1/\(∀z∈h1,z∈aa)/\(∀z∈b4,z∈rx))
 | [],[],j,cs,aa,rx,h=>by
  simp only[qG,aX,bH]at h;obtain⟨rfl,rfl,rfl⟩:=h;exact⟨fun x c al=>by simp at al,fun h bK=>by simp at bK⟩
 | m::ms,l::ls,j,cs,aa,rx,h=>by
  simp only[qG]at h;split at h
  ·rename_i c h1 b4 RN mG Bh e1 e2;simp only[aX,bH]at h;obtain⟨rfl,rfl,rfl⟩:=h;obtain⟨b8,bt⟩:=Uw e2;refine⟨fun x kS al=>?_,fun z aL=>?_⟩
   ·cases x with
    | zero=>
     simp only[mV,aX]at al;subst al;exact⟨l,m,h1,b4,rfl,e1,fun z aL=>gE _ aL,fun z aL=>gE _ aL⟩
    | succ x=>
     obtain⟨hb,xz,U,cQ,g1,g2,g3,g4⟩:=b8 x kS (by simpa using al);exact⟨hb,xz,U,cQ,by simpa using g1,by rw[show j+(x+1)=j+1+x by omega];exact g2,fun z aL=>hP _ (g3 z aL),fun z aL=>hP _ (g4 z aL)⟩
   rcases gg.1 aL with aL | aL
   ·exact⟨0,c,l,m,h1,b4,rfl,rfl,e1,aL,fun z aL=>gE _ aL,fun z aL=>gE _ aL⟩
   obtain⟨x,kS,hb,xz,U,cQ,g0,g1,g2,g5,g3,g4⟩:=bt z aL;exact⟨x+1,kS,hb,xz,U,cQ,by simpa using g0,by simpa using g1,by rw[show j+(x+1)=j+1+x by omega];exact g2,g5,fun z aL=>hP _ (g3 z aL),fun z aL=>hP _ (g4 z aL)⟩
  cases h
 | [],_::_,j,cs,aa,rx,h=>by simp[qG]at h
 | _::_,[],j,cs,aa,rx,h=>by simp[qG]at h
structure abZ (w:World) (ω:Own) (τ:Nat->Nat×Value) (ai:List dx) (i:Nat) (fc:GA) (aa:List dx) (y:Value):Prop where
 acy:Rq w (gd ai ω) i fc y
 at_:∀h∈aa,h.i=i/\E7 w ω τ h (cellOf y h.j)/\fc.cell h.j=some (.fh h.k h.es h.post)
theorem Ux(bI:pI ai=true)(aq:xL w ω τ bs){ms:List qY}{p:aH}{fc:GA}{aa:List dx}{rx:List aG}
  (h:BC bs i ms p=some (fc,aa,rx)) (iF:∀x∈aa,x∈ai) (zE:∀x∈rx,x.oM bs ai=false) (df:cT (Sat w ω τ) p y):abZ w ω τ ai i fc aa y:=by
 unfold BC at h;split at h
 ·rename_i l;split at h
  ·rename_i m;rw[b5]at h;obtain⟨⟨c,h1,b4⟩,e,h⟩:=h;simp only[bH]at h;obtain⟨rfl,rfl,rfl⟩:=h;have:=Ng bI aq e iF zE df;refine⟨this.gc,fun x aa=>?_⟩;obtain⟨e1,e2,cx,eD⟩:=this.at_ x aa;have acr:cellOf y x.j=y:=by rw[e2,cellOf,Dp this.one];rfl
   rw[acr];exact⟨e1,cx,by simp[GA.cell,e2,eD]⟩
  cases h
 ·rename_i ls;rw[b5]at h;obtain⟨⟨cs,h1,b4⟩,e,h⟩:=h;simp only[bH]at h;obtain⟨rfl,rfl,rfl⟩:=h;obtain⟨us,rfl,aP,hu⟩:=df;obtain⟨b8,bt⟩:=Uw e;refine⟨⟨us,rfl,by rw[Uv e];exact aP,fun x c al=>?_⟩,fun z aL=>?_⟩
  ·obtain⟨l,m,U,cQ,g1,g2,g3,g4⟩:=b8 x c al;obtain⟨u,ha,fH⟩:=hu x l g1;rw[dV]at g2;exact⟨u,ha,(Ng bI aq g2 (fun z aL=>iF z (g3 z aL)) (fun z aL=>zE z (g4 z aL)) fH).gc⟩
  obtain⟨x,c,l,m,U,cQ,g0,g1,g2,g5,g3,g4⟩:=bt z aL;obtain⟨u,ha,fH⟩:=hu x l g1;rw[dV]at g2;obtain⟨e1,e2,cx,eD⟩:=(Ng bI aq g2 (fun z aL=>iF z (g3 z aL)) (fun z aL=>zE z (g4 z aL)) fH).at_ z g5;refine⟨e1,?_,by simp only[GA.cell,e2,g0,eD]⟩;have:cellOf (.agg us) z.j=u:=by simp[cellOf,Value.cells,e2,eW,ha]
  rw[this];exact cx
 cases h
theorem Uy:∀{LP:List (List qY)} {ca:List aH} {i:Nat} {gs:List GA} {aa:List dx} {rx:List aG},w' bs i LP ca=some (gs,aa,rx)->gs.length=ca.length/\
  (∀(x:Nat) (fc:GA),gs[x]?=some fc->∃p ms h1 b4,ca[x]?=some p/\BC bs (i+x) ms p=some (fc,h1,b4)/\(∀z∈h1,z∈aa)/\(∀z∈b4,z∈rx))/\
  (∀h∈aa,∃(x:Nat) (fc:GA) (p:aH) (ms:List qY) (h1:List dx) (b4:List aG),gs[x]?=some fc/\ca[x]?=some p/\BC bs (i+x) ms p=some (fc,h1,b4)/\h∈h1/\(∀z∈h1,z∈aa)/\(∀z∈b4,z∈rx))
 | [],[],i,gs,aa,rx,h=>by
  simp only[w',aX,bH]at h;obtain⟨rfl,rfl,rfl⟩:=h;exact⟨rfl,fun x c al=>by simp at al,fun h bK=>by simp at bK⟩
 | m::ms,l::ls,i,gs,aa,rx,h=>by
  simp only[w']at h;split at h
  ·rename_i c h1 b4 RN mG Bh e1 e2;simp only[aX,bH]at h;obtain⟨rfl,rfl,rfl⟩:=h;obtain⟨eb,b8,bt⟩:=Uy e2;refine⟨by simp[eb],fun x kS al=>?_,fun z aL=>?_⟩
   ·cases x with
    | zero=>
     simp only[mV,aX]at al;subst al;exact⟨l,m,h1,b4,rfl,e1,fun z aL=>gE _ aL,fun z aL=>gE _ aL⟩
    | succ x=>
     obtain⟨hb,xz,U,cQ,g1,g2,g3,g4⟩:=b8 x kS (by simpa using al);exact⟨hb,xz,U,cQ,by simpa using g1,by rw[show i+(x+1)=i+1+x by omega];exact g2,fun z aL=>hP _ (g3 z aL),fun z aL=>hP _ (g4 z aL)⟩
   rcases gg.1 aL with aL | aL
   ·exact⟨0,c,l,m,h1,b4,rfl,rfl,e1,aL,fun z aL=>gE _ aL,fun z aL=>gE _ aL⟩
   obtain⟨x,kS,hb,xz,U,cQ,g0,g1,g2,g5,g3,g4⟩:=bt z aL;exact⟨x+1,kS,hb,xz,U,cQ,by simpa using g0,by simpa using g1,by rw[show i+(x+1)=i+1+x by omega];exact g2,g5,fun z aL=>hP _ (g3 z aL),fun z aL=>hP _ (g4 z aL)⟩
  cases h
 | [],_::_,i,gs,aa,rx,h=>by simp[w']at h
 | _::_,[],i,gs,aa,rx,h=>by simp[w']at h
def GI:List dx->Option (Nat×Nat)
 | []=>none
 | h::r=>match h.p with | some p=>some (h.t,p.1) | none=>GI r
theorem Uz:∀{ai:List dx},GI ai=none->∀h∈ai,h.p=none
 | [],_,h,bK=>by cases bK
 | x::r,e,h,bK=>by
  simp only[GI]at e;split at e
  ·cases e
  rename_i hp;rcases dQ.1 bK with rfl | bK
  ·exact hp
  exact Uz e h bK
def CY(a:Nat):List dx->List Prop
 | []=>[]
 | h::r=>match h.p with | some p=>(p.1=a)::CY a r | none=>CY a r
theorem Nh{a:Nat}:∀{ai:List dx},c8 (CY a ai)->∀h∈ai,∀p,h.p=some p->p.1=a
 | [],_,h,bK,_,_=>by cases bK
 | x::r,aW,h,bK,p,hp=>by
  simp only[CY]at aW;split at aW
  ·rename_i q aC;rcases dQ.1 bK with rfl | bK
   ·rw[hp]at aC;rw[gX aC];exact aW.1
   exact Nh aW.2 h bK p hp
  rename_i aC;rcases dQ.1 bK with rfl | bK
  ·rw[hp]at aC;cases aC
  exact Nh aW h bK p hp
def Ni(st:aD)(ai:List dx)(src:Nat)(ds:List D):Option (Nat×Nat×List (List D)×List Prop):=
 match GI ai with
 | none=>some (0,0,[],[])
 | some (t,a)=>
  match (st.env.getD src .cu).leaf with
  | some (.J (.own s) k es)=>
   if s=t/\ds.length=k/\ai.all (fun h=>match h.p with | some _=>h.t==t&&h.post.isSome | none=>true)=true then
    some (t,k,es.set a (n1 ai ds),(es[a]?=some ds)::CY a ai)
   else none
  | _=>none
theorem aw0{w0:eN}{st:aD}{a:Act}(aZ:cD w0 st a w ω τ){src:Nat}{ds:List D}{t k:Nat}{es:List (List D)}{obs:List Prop}
  (h:Ni st ai src ds=some (t,k,es,obs)) (aW:c8 obs):Rx w ω τ ai t k es:=by
 unfold Ni at h;split at h
 ·rename_i aP;exact⟨fun x aa p hp _=>by rw[Uz aP x aa]at hp;cases hp⟩
 rename_i du cJ br;split at h
 ·rename_i s cf cy aj;split at h
  ·rename_i al;obtain⟨rfl,rn,jk⟩:=al;simp only[aX,bH]at h;obtain⟨rfl,rfl,rfl,rfl⟩:=h;rw[gP]at jk;refine⟨fun x aa p hp _=>?_⟩;have mH:∃y,Sat w ω τ (.J (.own s) cf cy) y:=by
    rw[lZ]at aj;cases e:st.env[src]? with
    | none=>rw[e]at aj;simp[aH.leaf]at aj
    | some p=>
     rw[e]at aj;obtain⟨v,_,U⟩:=aZ.env src p e;exact⟨v,aH.dX aj U⟩
   obtain⟨y,bk⟩:=mH;refine⟨cy,y,ds,cJ,bk,aW.1,rn,rfl,fun z aL q aC=>?_⟩;have h1:=jk z aL;simp only[aC,b9,iL,sh]at h1;exact⟨h1.1,Nh aW.2 z aL q aC,h1.2⟩
  cases h
 cases h
def Nj(P:Program)(st:aD)(d:Option Nat)(f:FuncId)(args:List Operand)(ans:List cb):Option (aD×List cb×List Prop):=
 match ans with
 | .sa xD src ds rs::r=>
  match w' st.boxes 0 xD (args.map st.bp) with
  | some (gs,ai,qP)=>
   match Ni st ai src ds with
   | some (iz,pz,q9,obs)=>
    let t0:=10000*(d.getD 0+1)
    if hV P f=true/\wq rs=true/\t0+10000<=dj/\pI ai=true/\qP.all (fun l=>!(l.oM st.boxes ai))=true/\ai.all (fun h=>!(decide (t0<=h.t)&&decide (h.t<t0+10000)))=true then
     let bB:=st.map (tq ai t0 iz pz q9)
     match d with
     | some d=>some (⟨bB.env.set d (uV t0 rs),bB.boxes⟩,r,lk P f gs rs::obs)
     | none=>some (bB,r,lk P f gs rs::obs)
    else none
   | none=>none
  | none=>none
 | _=>none
theorem aw1{P:Program}{w0:eN}{st bB:aD}{a:Act}{dst:Option Nat}{f:FuncId}{args:Array Operand}{ts:Array TypeId}{type:TypeId}{pos:String}{after:Array Edge}{guard:Option (Nat×Bool)}{ans cq:List cb}{obs:List Prop}
  (aZ:cD w0 st a w ω τ) (h:Nj P st dst f args.toList ans=some (bB,cq,obs)) (aW:c8 obs) {K:Act->World->Prop} {Q:Exit->Act->World->Prop} (im:∀cJ aM,Rel w0 bB cJ aM->K cJ aM):
  Oper.wp P ⟨dst,.call ⟨.value (.func f),args,ts⟩,type,pos,after,guard⟩ a w K Q:=by
 unfold Nj at h;split at h
 ·rename_i xD src ds rs r;split at h
  ·rename_i gs ai qP nR;split at h
   ·rename_i iz pz q9 gn iF;simp only at h;split at h
    ·rename_i al;obtain⟨kb,eh,jM,bI,F4,zD⟩:=al;rw[gP]at F4 zD;have Cm:∀l∈qP,l.oM st.boxes ai=false:=fun l aj=>by simpa using F4 l aj
     have ad7:∀h∈ai,¬(10000*(dst.getD 0+1)<=h.t/\h.t<10000*(dst.getD 0+1)+10000):=fun h bK=>by
      have:=zD h bK;simp only[gQ,Bool.and_eq_false_iff,l4]at this;omega
     obtain⟨hlen,b8,bt⟩:=Uy nR;have hE:∀(x:Nat) (p:aH),(args.toList.map st.bp)[x]?=some p->∃v,(args.map a.eval)[x]?=some v/\cT (Sat w ω τ) p v:=by
      intro x p hp;rw[eg,b5]at hp;obtain⟨o,h1,rfl⟩:=hp;refine⟨a.eval o,?_,aZ.bp o⟩;rw[aB0];rw[mT]at h1;rw[h1];rfl
     have adl:JD w (gd ai ω) gs (args.map a.eval):=by
      refine⟨fun b aq=>?_,by simp[hlen],fun x fc aa=>?_⟩
      ·have dr:ω b≠.bJ:=fun e=>aq (by simp only[gd,e])
       obtain⟨_,arr,ty,aI⟩:=aZ.owned b dr;refine⟨?_,arr,ty,aI⟩;simp only[gd]at aq ⊢;cases e:ω b with
       | bJ=>simp[e]at aq
       | box id=>simp[e]at aq
       | tok t q=>
        simp only[e]at aq ⊢;cases e2:ow t q ai with
        | none=>simp[e2]at aq
        | some z=>
         obtain⟨g,ee⟩:=z;obtain⟨y,_,_,rfl⟩:=Du e2;exact⟨_,ee,rfl,by simp[fF]⟩
      obtain⟨p,ms,h1,b4,g1,g2,g3,g4⟩:=b8 x fc aa;obtain⟨v,bD,xv⟩:=hE x p g1;rw[dV]at g2;exact⟨v,bD,(Ux bI aZ.boxes g2 g3 (fun z aL=>Cm z (g4 z aL)) xv).acy⟩
     have sv:∀h∈ai,E7 w ω τ h (cellOf ((args.map a.eval).getD h.i undef) h.j)/\∃fc,gs[h.i]?=some fc/\fc.cell h.j=some (.fh h.k h.es h.post):=by
      intro h bK;obtain⟨x,fc,p,ms,h1,b4,g0,g1,g2,g5,g3,g4⟩:=bt h bK;obtain⟨v,bD,xv⟩:=hE x p g1;rw[dV]at g2;obtain⟨e1,e2,cx⟩:=(Ux bI aZ.boxes g2 g3 (fun z aL=>Cm z (g4 z aL)) xv).at_ h g5;have bp:(args.map a.eval).getD h.i undef=v:=by rw[e1,eW,bD];rfl
      rw[bp];exact⟨e2,fc,by rw[e1];exact g0,cx⟩
     have fG:(execOp a.eval ⟨dst,.call ⟨.value (.func f),args,ts⟩,type,pos,after,guard⟩).run P w=.ok (.enter f (args.map a.eval)) w:=by
      unfold hV at kb;split at kb
      ·rename_i fn mC;simp only[b9,gQ,Bs,lc]at kb;have t':fn.body≠none:=by intro e;rw[e]at kb;simp at kb
       simp[execOp,resolve,Act.eval,Deferred.ofValue,invoke,callFunc,mC,kb.1,t']
      cases kb
     have key:lk P f gs rs->c8 gn->(∀v aM bc cZ,cD w0 (st.map (tq ai (10000*(dst.getD 0+1)) iz pz q9)) a aM bc cZ->cT (Sat aM bc cZ) (uV (10000*(dst.getD 0+1)) rs) v->K (a.put dst v) aM)->
       Oper.wp P ⟨dst,.call ⟨.value (.func f),args,ts⟩,type,pos,after,guard⟩ a w K Q:=by
      intro KW KN RY;unfold Oper.wp;rw[fG];simp only[Oper.upon];refine (KW w _ _ adl (aZ.tidy fun b aq=>by simp only[gd,aq])).mono ?_;rintro e aM ⟨v,rfl,l',fx,c1,c2,cw,et⟩;obtain⟨bc,cZ,h1,U⟩:=aZ.acg (10000*(dst.getD 0+1)) bI eh jM ad7 l' fx c1 c2 et (fun h=>cellOf ((args.map a.eval).getD h.i undef) h.j)
       (fun h bK cy he=>by
        obtain⟨_,fc,g1,g2⟩:=sv h bK;rw[he]at g2;exact cw h.i h.j fc h.k h.es cy g1 g2)
       (fun h bK=>(sv h bK).1) (aw0 aZ iF KN)
      exact RY v aM bc cZ h1 U
     cases dst with
     | none=>
      simp only[aX,bH]at h;obtain⟨rfl,_,rfl⟩:=h;exact key aW.1 aW.2 fun v aM bc cZ h1 _=>im _ _ ⟨bc,cZ,h1⟩
     | some d=>
      simp only[aX,bH]at h;obtain⟨rfl,_,rfl⟩:=h;exact key aW.1 aW.2 fun v aM bc cZ h1 U=>im _ _ ⟨bc,cZ,h1.put U⟩
    cases h
   cases h
  cases h
 cases h
