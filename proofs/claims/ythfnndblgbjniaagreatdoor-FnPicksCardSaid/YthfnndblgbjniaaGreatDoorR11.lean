import Derived.Test.YthfnndblgbjniaaGreatDoorR6
set_option linter.unusedVariables false
set_option linter.unusedSimpArgs false
namespace Go.Sx
open Go.RowKit
def wl(t:Nat)(ms:hE)(k:Nat)(cv:List (List D)):aE->aE
 | .J (.own s) cu es=>if s=t then .J (.own t) k cv else if (ms.at s).isSome then .cw else .J (.own s) cu es
 | .cL (.own s) cu es i j=>if s=t then .cL (.own t) k cv i j else if (ms.at s).isSome then .cw else .cL (.own s) cu es i j
 | .J (.ro s) cu es=>if s=t then .cw else if (ms.at s).isSome then .cw else .J (.ro s) cu es
 | .cL (.ro s) cu es i j=>if s=t then .cw else if (ms.at s).isSome then .cw else .cL (.ro s) cu es i j
 | .aP s a b dk dM m=>if s=t then .cw else if (ms.at s).isSome then .cw else .aP s a b dk dM m
 | .fp _ _=>.cw
 | l=>l
def mA(t:Nat)(ms:hE):di->di
 | .tok s q=>if s=t then .tok s q else match ms.at s with | some p=>.tok t (p::q) | none=>.tok s q
 | o=>o
variable{t:Nat}{ms:hE}
theorem DG{o:di}{id:Nat}:mA t ms o=.box id<->o=.box id:=by
 cases o with
 | bG=>simp[mA]
 | box i=>simp[mA]
 | tok s q=>
  grind[mA]
theorem apV{o:di}:mA t ms o=.bG<->o=.bG:=by
 cases o with
 | bG=>simp[mA]
 | box i=>simp[mA]
 | tok s q=>
  grind[mA]
variable{i j:Nat}{ds:List D}
theorem Je{es:List (List D)}{x:Nat}(hi:i<es.length):c5 (es.set i ds) x j=if x=i then ds[j]? else c5 es x j:=by
 unfold c5;grind
def k0(ds:List D)(off:Nat)(xs:List D):List D:=ds.take off++(xs++ds.drop (off+xs.length))
theorem Pv{xs:List D}{off:Nat}(h:off+xs.length<=ds.length):(k0 ds off xs)[i]?=if off<=i/\i<off+xs.length then xs[i-off]? else ds[i]?:=by
 unfold k0;grind
theorem Pw{xs:List D}{off:Nat}(h:off+xs.length<=ds.length):(k0 ds off xs).length=ds.length:=by
 grind[k0]
def Jf(t:Nat)(ms:hE):Bool:=ms.all fun x=>x.1≠t&&(match ms.at x.1 with | some p=>p.1==x.2.1&&p.2==x.2.2 | none=>false)
theorem apW(h:Jf t ms=true){s:Nat}{p:Nat×Nat}(hm:(s,p)∈ms):s≠t/\ms.at s=some p:=by
 have U:=fU.1 h _ hm;grind
theorem Jg(i:Nat):∀(xs:List aE) (j:Nat),k7 i j xs=(k7 0 j xs).map fun x=>(x.1,(i,x.2.2))
 | [],_=>rfl
 | l::ls,j=>by
  simp only[k7];split
  ·simp only[mM,rS,true_and];exact Jg i ls (j+1)
  exact Jg i ls (j+1)
theorem Px(i s:Nat):∀ms:hE,hE.at s (ms.map fun x=>(x.1,(i,x.2.2)))=(hE.at s ms).map fun p=>(i,p.2)
 | []=>rfl
 | (a,p)::r=>by
  simp only[mM,hE.at];split
  ·rfl
  simp_all[Px]
theorem Jh(i0:Nat):∀(xs:List aE) (j s:Nat) (p:Nat×Nat),(s,p)∈k7 i0 j xs->p.1=i0
 | [],_,_,_,h=>by grind[k7]
 | l::ls,j,s,p,h=>by
  simp only[k7]at h;split at h
  ·rcases eK.1 h with h | h
   ·simp only[bA]at h;rw[h.2]
   exact Jh i0 ls (j+1) s p h
  exact Jh i0 ls (j+1) s p h
theorem Py{xs:List aE}(h:Jf t (k7 0 j xs)=true){s:Nat}{p:Nat×Nat}(hm:(s,p)∈k7 i j xs):s≠t/\(k7 i j xs).at s=some p:=by
 have hp:=Jh i xs j s p hm;rw[Jg]at hm ⊢;obtain⟨⟨s9,qi⟩,U,aa⟩:=mO.1 hm;simp only[bA]at aa;obtain⟨rfl,aa⟩:=aa;obtain⟨aB,aJ⟩:=apW h U;simp_all[Px]
def u0.flat:u0->Bool
 | .at_ _ _=>false
 | _=>true
def ue(t:Nat):Nat->List aE->Option (List D×List Nat)
 | _,[]=>some ([],[])
 | j,.aP s a b k es m::ls=>if s=t/\b=j/\m.flat=true then (ue t (j+1) ls).map fun r=>(.J k es::r.1,a::r.2) else none
 | j,l::ls=>
  match l.iv,ue t (j+1) ls with
  | some d,some r=>some (d::r.1,r.2)
  | _,_=>none
theorem Pz:∀{xs:List aE} {j:Nat} {ys:List D} {is:List Nat},ue t j xs=some (ys,is)->ys.length=xs.length/\
  ∀(y:Nat) (d:D),ys[y]?=some d->∃l,xs[y]?=some l/\(l.iv=some d\/∃a k es m,l=.aP t a (j+y) k es m/\m.flat=true/\a∈is/\d=.J k es)
 | [],j,ys,is,h=>by
  grind[ue,aW,bA]
 | l::ls,j,ys,is,h=>by
  have fin:∀d0 Ge Iy Dg,ys=d0::Ge->is=Dg->(∀a∈Iy,a∈Dg)->ue t (j+1) ls=some (Ge,Iy)->(l.iv=some d0\/∃a k es m,l=.aP t a j k es m/\m.flat=true/\a∈Dg/\d0=.J k es)->ys.length=(l::ls).length/\
    ∀(y:Nat) (d:D),ys[y]?=some d->∃x,(l::ls)[y]?=some x/\(x.iv=some d\/∃a k es m,x=.aP t a (j+y) k es m/\m.flat=true/\a∈is/\d=.J k es):=by
   rintro d0 Ge Iy Dg rfl rfl jj aH b4;obtain⟨U,aa⟩:=Pz aH;refine⟨by simp[U],fun y d aI=>?_⟩;cases y with
   | zero=>
    simp only[lg,aW]at aI;subst aI;exact⟨l,rfl,b4⟩
   | succ y=>
    obtain⟨x,aq,aB⟩:=aa y d (by simpa using aI);refine⟨x,by simpa using aq,?_⟩;rcases aB with aB | ⟨a,k,es,m,aJ,a6,bF,bY⟩
    ·exact .inl aB
    exact .inr ⟨a,k,es,m,by rw[aJ,show j+1+y=j+(y+1) by omega],a6,jj a bF,bY⟩
  have plain:(match l.iv,ue t (j+1) ls with | some d,some r=>some (d::r.1,r.2) | _,_=>none)=some (ys,is)->ys.length=(l::ls).length/\
    ∀(y:Nat) (d:D),ys[y]?=some d->∃x,(l::ls)[y]?=some x/\(x.iv=some d\/∃a k es m,x=.aP t a (j+y) k es m/\m.flat=true/\a∈is/\d=.J k es):=by
   grind
  cases l with
  | aP s a b k es m=>
   simp only[ue]at h;split at h
   ·rename_i ao;obtain⟨rfl,rfl,hm⟩:=ao;rw[ca]at h;grind
   cases h
  | _=>exact plain h
theorem DH:∀{l:List Nat},cK (l.map fun a=>a=i)->∀a∈l,a=i
 | [],_,a,h=>by cases h
 | x::l,bc,a,h=>by
  rcases eK.1 h with rfl | h
  ·exact bc.1
  exact DH bc.2 a h
def Ji(P:Program)(st:aF)(ty:TypeId)(t k:Nat)(es:List (List D))(i j:Nat)(q:aG)(ans:List cd):Stepped:=
 match q.leaves,P.info? ty,ans with
 | some xs,some inf,.el ds::r=>
  match ue t j xs with
  | some (ys,is)=>
   if xs.length=inf.size/\ds.length=k/\j+ys.length<=k/\Jf t (k7 0 j xs)=true then
    some (st.map (wl t (k7 i j xs) k (es.set i (k0 ds j ys))),r,(es[i]?=some ds)::is.map fun a=>a=i)
   else none
  | none=>none
 | _,_,_=>none
theorem cD.awC{P:Program}{w0:eE}{st bu:aF}{a:Act}{w:World}{ω:Own}{τ:Nat->Nat×Value}{ty:TypeId}{k:Nat}{es:List (List D)}{q:aG}{v y:Value}{ans cm:List cd}{obs:List Prop}
  (aZ:cD w0 st a w ω τ) (hp:Sat w ω τ (.cL (.own t) k es i j) y) (aL:cO (Sat w ω τ) q v) (h:Ji P st ty t k es i j q ans=some (bu,cm,obs)) (bc:cK obs):
  ∃aN,(Instr.storeAt ty y v).run P w=.ok () aN/\Rel w0 bu a aN:=by
 unfold Ji at h;split at h
 ·rename_i xs inf ds r e1 e2;split at h
  ·rename_i ys is cn;split at h
   ·rename_i ao;obtain⟨lW,lp,k3,xa⟩:=ao;simp only[aW,bA]at h;obtain⟨rfl,_,rfl⟩:=h;have eU:es[i]?=some ds:=bc.1;obtain⟨ak,p4⟩:=aG.xv e1 aL;obtain⟨O3,Iu⟩:=Pz cn;have YW:=DH bc.2;obtain⟨b,off,cap,rfl,jL,aH,bD⟩:=hp;simp only[Tag.eb]at bD;cases aH with
    | nil=>simp at jL
    | row R k es b off cap arr iw cT us ay dY gE dI hc hu aI=>
     have k1:ω b=.tok t []:=dY;obtain⟨vl,tn,uQ,hR⟩:=aZ.owned b (by grind);rw[ay]at hR;simp only[aW,Obj.cells.injEq]at hR;obtain⟨rfl,rfl,rfl⟩:=hR;have vf:b<w.heap.size:=(jF.1 ay).1;have hmul:(i+1)*k<=cap*k:=hN _ (by omega);rw[hq]at hmul;have pb:v.cells.size=xs.length:=ak.1;have ee:off+i*k+j+v.cells.toList.length<=arr.size:=by simp;omega
     have fc:=run_storeCells_at P b (off+i*k+j) iw v.cells.toList 0 arr w ay (by grind) p4;simp only[nO]at fc;generalize o3:(arr.toList.take (off+i*k+j)++v.cells.toList++arr.toList.drop (off+i*k+j+v.cells.toList.length)).toArray=ci at fc;have iH:∀x:Nat,ci[x]?=if off+i*k+j<=x/\x<off+i*k+j+xs.length then v.cells[x-(off+i*k+j)]? else arr[x]?:=by
      intro x;rw[<-o3,oK,zZ (by grind)];simp[pb]
     have xn:ci.size=arr.size:=by rw[<-o3];simp;grind
     have k4:=setRow_heap w b arr ci iw (0,0) ay
     let ms:=k7 i j xs
     let bd:Own:=fun c=>mA t ms (ω c)
     have ayi:ms.at t=none:=by
      cases e:ms.at t with
      | none=>rfl
      | some p=>
       have q6:∀(ms:hE) (p:Nat×Nat),ms.at t=some p->(t,p)∈ms:=by
        intro ms;induction ms with
        | nil=>intro p h;cases h
        | cons x ms eO=>
         intro p h;obtain⟨s,qi⟩:=x;simp only[hE.at]at h;split at h
         ·grind
         grind
       grind[absurd,Py]
     have dj:∀c q,c<w.heap.size->ω c=.tok t q->bd c=.tok t q:=fun c q _ h=>by grind[mA]
     have nm:∀c p q,c<w.heap.size->ω c=.tok t (p::q)->bd c=.tok t (p::q)/\(w.setRow b ci).heap[c]?=w.heap[c]?:=by
      grind[setRow_other]
     have iJ:∀(g:Tag) c q,g≠.own t->g≠.ro t->(∀s,g=.own s\/g=.ro s->ms.at s=none)->g.R q (ω c)->g.R q (bd c)/\(w.setRow b ci).heap[c]?=w.heap[c]?:=by
      intro g c q U aa aB eV;have ji:c≠b:=fun e=>by
       rw[e,k1]at eV;cases g with
       | free=>cases eV
       | own s=>grind[Tag.R,di.tok.injEq]
       | ro s=>
        rcases eV with h | ⟨dU,h⟩
        ·cases h
        grind
      refine⟨?_,setRow_other w b c ci ji⟩;cases g with
      | free=>grind[Tag.R,mA]
      | own s=>
       simp only[Tag.R]at eV ⊢;simp only[bd,eV,mA];split
       ·rfl
       grind
      | ro s=>
       simp only[Tag.R]at eV ⊢;rcases eV with h | ⟨dU,h⟩
       ·grind[mA]
       right;refine⟨dU,?_⟩;simp only[bd,h,mA];split
       ·rfl
       grind
     have Ze:b1 (w.setRow b ci) bd (Tag.own t).R (.J k (es.set i (k0 ds j ys))) (.slice (some ⟨b,off,none⟩) es.length cap):=by
      have hlen:(es.set i (k0 ds j ys)).length=es.length:=hr;have CV:ds.length=k:=lp;have fo:∀x y d,c5 (es.set i (k0 ds j ys)) x y=some d->∃u,ci[off+x*k+y]?=some u/\b1 (w.setRow b ci) bd (fun q=>(Tag.own t).R ((x,y)::q)) d u:=by
       intro x y d ec;rw[Je jL]at ec;by_cases aq:x=i
       ·subst aq;rw[bL rfl,Pv (by omega)]at ec;split at ec
        ·rename_i bM;obtain⟨l,iI,c1⟩:=Iu _ _ ec;obtain⟨u,gG,fw⟩:=ak.2 _ _ iI;rcases c1 with c1 | ⟨a,bQ,bS,m,rfl,hm,Ya,rfl⟩
         case inr=>
          have Yc:=YW a Ya;subst Yc;obtain⟨fy,q9,so,_⟩:=fw;have bz:u=fy:=by
           cases m with
           | at_ x y=>cases hm
           | here=>exact q9
           | lQ=>exact q9
          subst bz;refine⟨u,?_,so.frame fun c q ao eV=>?_⟩
          ·rw[iH,bL (by omega),<-gG]
           congr 1;omega
          rw[show j+(y-j)=y by omega]at eV;exact nm c _ _ ao eV
         refine⟨u,?_,?_⟩
         ·rw[iH,bL (by omega),<-gG]
          congr 1;omega
         have q6:∀s,l.tok=some s->ms.at s=some (x,y)/\s≠t:=by
          intro s dq;have:=Jc x xs j (y-j) l s iI dq;rw[show j+(y-j)=y by omega]at this;grind[Py]
         cases l with
         | cw=>cases c1
         | v z=>
          simp only[aE.iv]at c1;split at c1
          ·simp only[aW]at c1;subst c1;have:u=z:=fw;subst this;exact .v _ _ ‹_›
          cases c1
         | bg c=>
          simp only[aE.iv,aW]at c1;subst c1;have:u=.bool c:=fw;subst this;exact .v _ _ rfl
         | ptr=>cases c1
         | cL=>cases c1
         | hU=>cases c1
         | fd=>cases c1
         | dt=>cases c1
         | gC=>cases c1
         | aP=>cases c1
         | fp=>cases c1
         | J g bQ bS=>
          cases g with
          | free=>cases c1
          | ro s=>cases c1
          | own s=>
           simp only[aE.iv,aW]at c1;subst c1;obtain⟨U,aa⟩:=q6 s rfl;refine fw.1.frame fun c q ao eV=>?_
           simp only[Tag.R]at eV ⊢;refine⟨?_,setRow_other w b c ci fun e=>?_⟩
           ·simp only[bd,eV,mA];grind
           grind
        rename_i bM;have pV:c5 es x y=some d:=by grind[c5]
        refine⟨us x y,?_,(aI x y d pV).frame fun c q ao eV=>nm c _ _ ao eV⟩;rw[iH,bH (by omega),hu x y d pV]
       rw[bH aq]at ec;obtain⟨fR,ZO⟩:=sS hc ec;refine⟨us x y,?_,(aI x y d ec).frame fun c q ao eV=>nm c _ _ ao eV⟩;rw[iH,bH ?_,hu x y d ec];rcases Nat.lt_or_gt_of_ne aq with h | h
       ·have:(x+1)*k<=i*k:=hN _ h;grind
       have:(i+1)*k<=x*k:=hN _ h;grind
      have p8:∀e∈es.set i (k0 ds j ys),e.length=k:=by
       grind[qP,Pw]
      have:=b1.row (w:=w.setRow b ci) (ω:=bd) (Tag.own t).R k (es.set i (k0 ds j ys)) b off cap ci iw (0,0) (fun x y=>ci.getD (off+x*k+y) undef) k4 (dj b [] vf k1) (by omega) (by omega) p8
       (fun x y d ez=>by obtain⟨u,U,_⟩:=fo x y d ez;rw[U];simp[eR,U])
       (fun x y d ez=>by obtain⟨u,U,aa⟩:=fo x y d ez;have:ci.getD (off+x*k+y) undef=u:=(by simp[eR,U]);grind)
      grind
     have eN:∀l v,Sat w ω τ l v->Sat (w.setRow b ci) bd τ (wl t ms k (es.set i (k0 ds j ys)) l) v:=by
      intro l v dq;have ayh:∀s,¬(ms.at s).isSome=true->ms.at s=none:=fun s h=>by
       cases e:ms.at s with
       | none=>rfl
       | some p=>simp[e]at h
      cases l with
      | cw=>exact trivial
      | v x=>exact dq
      | bg c=>exact dq
      | ptr id o=>
       obtain⟨c,ao,e⟩:=dq;exact⟨c,DG.2 ao,e⟩
      | aP s a fQ dk dM m=>
       simp only[wl];split
       ·exact trivial
       rename_i U;split
       ·exact trivial
       rename_i aa;obtain⟨u,hu,np,hm⟩:=dq;have j8:∀c q,ω c=.tok s q->bd c=.tok s q/\(w.setRow b ci).heap[c]?=w.heap[c]?:=fun c q eV=>
        iJ (.own s) c q (by grind) (by simp) (fun s9 h=>by
         grind) eV
       refine⟨u,hu,np.frame fun c q _ eV=>j8 c _ eV,fun n7=>?_⟩;obtain⟨kT,c,qg,Z4,pJ,ko,kD,GR,ef,a2,a3,a4⟩:=hm n7;obtain⟨e1,e2⟩:=j8 c [] a2;exact⟨kT,c,qg,Z4,pJ,ko,kD,GR,ef,e1,e2.trans a3,a4⟩
      | fp=>exact trivial
      | gC f ids=>
       obtain⟨bs,e,a',hi⟩:=dq;refine⟨bs,e,a',fun i id hid=>?_⟩;obtain⟨b,U,aa⟩:=hi i id hid;exact⟨b,U,DG.2 aa⟩
      | hU r9 o=>
       obtain⟨c,e,eS⟩:=dq;exact⟨c,e,eS.frame fun c q _ eV=>iJ .free c q (by simp) (by simp) (fun s h=>by grind) eV⟩
      | fd d=>
       exact b1.frame dq fun c q _ eV=>iJ .free c q (by simp) (by simp) (fun s h=>by grind) eV
      | dt t2 bQ bS=>exact⟨dq.1.frame fun c q _ eV=>iJ .free c q (by simp) (by simp) (fun s h=>by grind) eV,dq.2⟩
      | J g bQ bS=>
       cases g with
       | free=>exact⟨dq.1.frame fun c q _ eV=>iJ .free c q (by simp) (by simp) (fun s h=>by grind) eV,ad⟩
       | own s=>
        simp only[wl];split
        ·rename_i HQ;subst HQ;have aa:=dq.2;simp only[Tag.eb]at aa;rw[bD]at aa;simp only[bA]at aa;rw[<-aa.2];exact⟨Ze,bD⟩
        split
        ·exact trivial
        rename_i U aa;exact⟨dq.1.frame fun c q _ eV=>iJ (.own s) c q (by grind) (by simp) (fun s9 h=>by
         grind) eV,dq.2⟩
       | ro s=>
        simp only[wl];split
        ·exact trivial
        split
        ·exact trivial
        rename_i U aa;exact⟨dq.1.frame fun c q _ eV=>iJ (.ro s) c q (by simp) (by grind) (fun s9 h=>by
         grind) eV,ad⟩
      | cL g bQ bS i2 sv=>
       obtain⟨fQ,qg,pJ,e,ni,np,n7⟩:=dq;cases g with
       | free=>exact⟨fQ,qg,pJ,e,ni,np.frame fun c q _ eV=>iJ .free c q (by simp) (by simp) (fun s h=>by grind) eV,ad⟩
       | own s=>
        simp only[wl];split
        ·rename_i HQ;subst HQ;simp only[Tag.eb]at n7;rw[bD]at n7;simp only[bA,Value.slice.injEq,aW,Addr.mk.injEq]at n7;obtain⟨rfl,⟨rfl,rfl,_⟩,c1,rfl⟩:=n7;refine⟨b,off,cap,e,by simp;omega,?_,?_⟩
         ·grind
         rw[hr];exact bD
        split
        ·exact trivial
        rename_i U aa;exact⟨fQ,qg,pJ,e,ni,np.frame fun c q _ eV=>iJ (.own s) c q (by grind) (by simp) (fun s9 h=>by
         grind) eV,n7⟩
       | ro s=>
        simp only[wl];split
        ·exact trivial
        split
        ·exact trivial
        rename_i U aa;exact⟨fQ,qg,pJ,e,ni,np.frame fun c q _ eV=>iJ (.ro s) c q (by simp) (by grind) (fun s9 h=>by
         grind) eV,ad⟩
     refine⟨w.setRow b ci,?_,bd,τ,aZ.ei _ eN ?_ ?_ ?_ ?_⟩
     ·simp only[Instr.storeAt,Instr.sureAddr,Sem.run_bind,Sem.run_pure,Result.andThen_ok,storeVar,sizeOf,typeInfo,run_program,e2];grind
     ·exact aZ.below.setRow vl ci
     ·intro c ji;have:ω c≠.bG:=fun e=>ji (apV.2 e)
      obtain⟨aB,ko,kD,aJ⟩:=aZ.owned c this;grind[setRow_other]
     ·intro id c ji;exact⟨DG.2 ji,setRow_other w b c ci fun e=>by grind⟩
     intro id c ji;exact DG.1 ji
   cases h
  cases h
 cases h
end Go.Sx
namespace Go.Sx
open Go.RowKit
def lA(w:World)(d:D)(y:Value):Prop:=b1 w (fun _=>.bG) Tag.free.R d y
def uX(w:World):cJ->Value->Prop
 | .one d,y=>lA w d y
 | .agg ds,y=>∃vs:Array Value,y=.agg vs/\vs.size=ds.length/\∀(i:Nat) (d:D),ds[i]?=some d->∃u,vs[i]?=some u/\lA w d u
def DI(w:World)(gk:List cJ)(vs:Array Value):Prop:=vs.size=gk.length/\∀(i:Nat) (cq:cJ),gk[i]?=some cq->∃v,vs[i]?=some v/\uX w cq v
def l6(w:World)(ω:Own)(r:Nat):cJ->Value->Prop
 | .one d,y=>b1 w ω (Tag.own (100*r)).R d y
 | .agg ds,y=>∃vs:Array Value,y=.agg vs/\vs.size=ds.length/\∀(j:Nat) (d:D),ds[j]?=some d->∃u,vs[j]?=some u/\b1 w ω (Tag.own (100*r+j)).R d u
def mB(w:World)(ω:Own)(rs:List cJ)(v:Value):Prop:=
 match rs with
 | [cq]=>l6 w ω 0 cq v
 | rs=>∃vs:Array Value,v=.tuple vs/\vs.size=rs.length/\∀(r:Nat) (cq:cJ),rs[r]?=some cq->∃y,vs[r]?=some y/\l6 w ω r cq y
def wP(w0 w:World)(rs:List cJ)(v:Value):Prop:=
 ∃ω:Own,(∀b,b<w0.heap.size->ω b=.bG)/\(∀b,ω b≠.bG->(∃t q,ω b=.tok t q)/\∃arr ty,w.heap[b]?=some (.cells arr ty (0,0)))/\mB w ω rs v
def ie(P:Program)(f:FuncId)(args rs:List cJ):Prop:=
 ∀(w:World) (vs:Array Value),nU w->DI w args vs->Calls P f vs w fun e aN=>∃v,e=.returned v/\gA w.heap.size w aN/\wP w aN rs v
def aE.gl:aE->Option D
 | .v x=>if x.oneCell' then some (.v x) else none
 | .bg c=>some (.v (.bool c))
 | .J _ k es=>some (.J k es)
 | .hU ds off=>if off=0 then some (.ptr ds) else none
 | .fd d=>some d
 | .dt _ k es=>some (.J k es)
 | .aP _ _ _ k es .here=>some (.J k es)
 | .aP _ _ _ k es .lQ=>some (.J k es)
 | _=>none
abbrev lO:=List (Nat×List aE)
def wT(bs:lO)(id:Nat):Option D:=(dD id bs).bind fun ls=>(ls.mapM aE.gl).map .ptr
def aE.j4(bs:lO):aE->Option D
 | .ptr id off=>if off=0 then wT bs id else none
 | .gC g ids=>(ids.mapM (wT bs)).map (.a8 g)
 | l=>l.gl
def bl.j4(bs:lO):bl->Option cJ
 | .one l=>(l.j4 bs).map .one
 | .agg ls=>(ls.mapM (aE.j4 bs)).map .agg
def aG.j4(bs:lO):aG->Option cJ
 | .aC a=>a.j4 bs
 | _=>none
variable{w:World}{ω:Own}{d:D}{y:Value}
theorem b1.free{R:List (Nat×Nat)->di->Prop}(h:b1 w ω R d y):lA w d y:=
 h.frame fun _ _ _ _=>⟨rfl,rfl⟩
variable{τ:Nat->Nat×Value}
theorem aE.NP{l:aE}(h:l.gl=some d)(ak:Sat w ω τ l y):lA w d y:=by
 cases l with
 | cw=>cases h
 | v x=>
  simp only[aE.gl]at h;split at h
  ·simp only[aW]at h;subst h;have:y=x:=ak;subst this;exact .v _ _ ‹_›
  cases h
 | bg c=>
  simp only[aE.gl,aW]at h;subst h;have:y=.bool c:=ak;subst this;exact .v _ _ rfl
 | J t k es=>simp only[aE.gl,aW]at h;subst h;exact ak.1.free
 | ptr=>cases h
 | cL=>cases h
 | gC=>cases h
 | fp=>cases h
 | hU ds off=>
  simp only[aE.gl]at h;split at h
  ·rename_i bc;subst bc;simp only[aW]at h;subst h;obtain⟨b,rfl,aH⟩:=ak;exact aH.free
  cases h
 | fd dK=>simp only[aE.gl,aW]at h;subst h;exact b1.free ak
 | dt t k es=>simp only[aE.gl,aW]at h;subst h;exact b1.free ak.1
 | aP t i j k es m=>
  obtain⟨u,hu,aH,_⟩:=ak;cases m with
  | at_ x z=>cases h
  | here=>simp only[aE.gl,aW]at h;subst h;have:y=u:=hu;subst this;exact aH.free
  | lQ=>simp only[aE.gl,aW]at h;subst h;have:y=u:=hu;subst this;exact aH.free
def wm(w:World)(ω:Own)(τ:Nat->Nat×Value)(bs:lO):Prop:=∀id ls,dD id bs=some ls->tk w ω τ id ls
variable{bs:lO}
theorem PA(ay:wm w ω τ bs){id b:Nat}(h:wT bs id=some d)(bc:ω b=.box id):lA w d (ptrTo b):=by
 unfold wT at h;cases e:dD id bs with
 | none=>simp[e]at h
 | some ls=>
  simp only[e,nL,ca]at h;obtain⟨ds,U,rfl⟩:=h;obtain⟨dw,arr,ty,eM,hu,bD,ak⟩:=ay id ls e;have:=hu b bc;subst this;obtain⟨aa,aB⟩:=nx U;have cell:∀j d,ds[j]?=some d->arr[j]?=some (arr.getD j undef)/\lA w d (arr.getD j undef):=by
   intro j d aI;obtain⟨l,ar,c1⟩:=aB j d aI;obtain⟨u,gG,fw⟩:=ak.2 j l ar;have e2:arr.getD j undef=u:=by simp[eR,gG]
   rw[e2];exact⟨gG,aE.NP c1 fw⟩
  exact b1.ptr _ ds b arr ty (0,0) (fun j=>arr.getD j undef) bD rfl (by have:=ak.1;omega) (fun j d aI=>(cell j d aI).1) (fun j d aI=>(cell j d aI).2.frame fun _ _ _ _=>⟨rfl,rfl⟩)
theorem aE.wR(ay:wm w ω τ bs){l:aE}(h:l.j4 bs=some d)(ak:Sat w ω τ l y):lA w d y:=by
 unfold aE.j4 at h;split at h
 ·rename_i id off;split at h
  ·rename_i bc;subst bc;obtain⟨b,U,rfl⟩:=ak;exact PA ay h U
  cases h
 ·rename_i g ids;rw[ca]at h;obtain⟨ds,U,rfl⟩:=h;obtain⟨nZ,rfl,a',hi⟩:=ak;obtain⟨aa,aB⟩:=nx U;have cell:∀j d,ds[j]?=some d->(nZ.map ptrTo).toArray[j]?=some ((nZ.map ptrTo).toArray.getD j undef)/\lA w d ((nZ.map ptrTo).toArray.getD j undef):=by
   intro j d aI;obtain⟨id,hid,Hh⟩:=aB j d aI;obtain⟨b,gD,hx⟩:=hi j id hid;have e1:(nZ.map ptrTo).toArray[j]?=some (ptrTo b):=by simp[gD]
   have e2:(nZ.map ptrTo).toArray.getD j undef=ptrTo b:=by rw[eR,e1];rfl
   rw[e2];exact⟨e1,PA ay Hh hx⟩
  exact b1.a8 _ g ds _ (fun j=>(nZ.map ptrTo).toArray.getD j undef) (by simp;omega) (fun j d aI=>(cell j d aI).1) (fun j d aI=>(cell j d aI).2.frame fun _ _ _ _=>⟨rfl,rfl⟩)
 exact aE.NP h ak
theorem aG.wR(ay:wm w ω τ bs){p:aG}{cq:cJ}(h:p.j4 bs=some cq)(ak:cO (Sat w ω τ) p y):uX w cq y:=by
 cases p with
 | fN as=>cases h
 | aC a=>
  cases a with
  | one l=>
   simp only[aG.j4,bl.j4,ca]at h;obtain⟨d,U,rfl⟩:=h;exact aE.wR ay U ak
  | agg ls=>
   simp only[aG.j4,bl.j4,ca]at h;obtain⟨ds,U,rfl⟩:=h;obtain⟨aa,aB⟩:=nx U;obtain⟨vs,rfl,a',bx⟩:=ak;refine⟨vs,rfl,by omega,fun i d aI=>?_⟩;obtain⟨l,ar,c1⟩:=aB i d aI;obtain⟨u,hu,fw⟩:=bx i l ar;exact⟨u,hu,aE.wR ay c1 fw⟩
def hj(P:Program)(g:FuncId):Bool:=
 match P.funcs[g]? with
 | some fn => !(fn.name == "runtime.NumGoroutine") && !fn.body.isNone
 | none=>false
def D.pw(t:Nat):D->aE
 | .v (.bool c)=>.bg c
 | .v x=>.v x
 | .J k es=>.J (.own t) k es
 | .ptr _=>.cw
 | .a8 _ _=>.cw
def ny(t:Nat):Nat->List D->List aE
 | _,[]=>[]
 | j,d::ds=>d.pw (t+j)::ny t (j+1) ds
theorem AH(t:Nat):∀(ds:List D) (j i:Nat),(ny t j ds)[i]?=(ds[i]?).map (D.pw (t+(j+i)))
 | [],_,_=>by simp[ny]
 | d::ds,j,0=>by simp[ny]
 | d::ds,j,i+1=>by
  simp only[ny,mL,AH t ds (j+1) i];rw[show j+1+i=j+(i+1) by omega]
theorem x8(t:Nat):∀(ds:List D) (j:Nat),(ny t j ds).length=ds.length
 | [],_=>rfl
 | d::ds,j=>by simp[ny,x8 t ds (j+1)]
def cJ.res(t:Nat):cJ->bl
 | .one d=>.one (d.pw t)
 | .agg ds=>.agg (ny t 0 ds)
def qp(t:Nat):Nat->List cJ->List bl
 | _,[]=>[]
 | r,a::as=>a.res (t+100*r)::qp t (r+1) as
theorem DJ(t:Nat):∀(as:List cJ) (r i:Nat),(qp t r as)[i]?=(as[i]?).map (cJ.res (t+100*(r+i)))
 | [],_,_=>by simp[qp]
 | d::ds,j,0=>by simp[qp]
 | d::ds,j,i+1=>by
  simp only[qp,mL,DJ t ds (j+1) i];rw[show j+1+i=j+(i+1) by omega]
theorem DK(t:Nat):∀(as:List cJ) (r:Nat),(qp t r as).length=as.length
 | [],_=>rfl
 | d::ds,j=>by simp[qp,DK t ds (j+1)]
def s7(t:Nat):List cJ->aG
 | [a]=>.aC (a.res t)
 | as=>.fN (qp t 0 as)
def uf(rs:List cJ):Bool:=rs.length<100&&rs.all fun | .one _=>true | .agg ds=>ds.length<100
def gp(t:Nat):Tag->Option Tag
 | .free=>some .free
 | .own s=>if t<=s/\s<t+10000 then some .free else some (.own s)
 | .ro s=>if t<=s/\s<t+10000 then some .free else some (.ro s)
def ou(t:Nat):di->di
 | .tok s q=>if t<=s/\s<t+10000 then .bG else .tok s q
 | o=>o
def PB(t:Nat):di->di
 | .tok s q=>.tok (t+s) q
 | _=>.bG
def cJ.cell(j:Nat):cJ->Option D
 | .one d=>if j=0 then some d else none
 | .agg ds=>ds[j]?
def pY(rs:List cJ)(n:Nat):Nat:=
 match (rs[n / 100]?).bind (cJ.cell (n % 100)) with
 | some (.J k _)=>k
 | _=>0
def ng(rs:List cJ)(v:Value)(n:Nat):Value:=
 match rs with
 | [_]=>v.cells.getD (n % 100) undef
 | _=>match v with
  | .tuple vs=>(vs.getD (n / 100) undef).cells.getD (n % 100) undef
  | _=>undef
def aF.u5(st:aF)(t:Nat):aF:=st.map (aE.cF (gp t) fun _=>true)
theorem cD.called{w0:eE}{st:aF}{a:Act}{aN:World}(aZ:cD w0 st a w ω τ)(t:Nat){rs:List cJ}{v:Value}
  (ee:uf rs=true) (iL:t+10000<=da) (ay:gA w.heap.size w aN) (e4:wP w aN rs v):
  ∃bd cR,cD w0 (st.u5 t) a aN bd cR/\cO (Sat aN bd cR) (s7 t rs) v:=by
 obtain⟨fh,lW,lp,k3⟩:=e4
 let bd:Own:=fun b=>if b<w.heap.size then ou t (ω b) else PB t (fh b)
 let cR:Nat->Nat×Value:=fun s=>if t<=s/\s<t+10000 then (pY rs (s-t),ng rs v (s-t)) else τ s
 have hold:∀b,b<w.heap.size->bd b=ou t (ω b):=fun b ay=>by simp only[bd];rw[bL ay]
 have gF:∀b,¬b<w.heap.size->bd b=PB t (fh b):=fun b ay=>by simp only[bd];rw[bH ay]
 have bn:lP w ω τ aN bd cR (gp t) (fun _=>true):=by
  refine⟨?_,?_,?_,rfl,fun s ak=>by simp only[cR];rw[bH (by omega)]⟩
  ·intro g eu b q ax bO aL;refine⟨?_,ay.block b bO⟩;rw[hold b bO];cases g with
   | free=>simp only[gp,aW]at ax;subst ax;simp only[Tag.R]at aL ⊢;rw[aL];rfl
   | own s=>
    simp only[Tag.R]at aL;simp only[gp]at ax;rw[aL];simp only[ou];split at ax
    ·simp only[aW]at ax;subst ax;rw[bL ‹_›];rfl
    simp only[aW]at ax;subst ax;rw[bH ‹_›];rfl
   | ro s=>
    simp only[Tag.R]at aL;simp only[gp]at ax;split at ax
    ·simp only[aW]at ax;subst ax;rcases aL with h | ⟨dU,h⟩
     ·rw[h];rfl
     rw[h];simp only[ou];rw[bL ‹_›];rfl
    simp only[aW]at ax;subst ax;rcases aL with h | ⟨dU,h⟩
    ·rw[h];exact .inl rfl
    rw[h];simp only[ou];rw[bH ‹_›];exact .inr ⟨dU,rfl⟩
  ·intro g eu y ax bM;cases g with
   | free=>simp only[gp,aW]at ax;subst ax;exact trivial
   | own s=>
    simp only[gp]at ax;split at ax
    ·simp only[aW]at ax;subst ax;exact trivial
    simp only[aW]at ax;subst ax;simp only[Tag.eb,cR]at bM ⊢;rw[bH ‹_›];exact bM
   | ro s=>
    simp only[gp]at ax;split at ax
    ·simp only[aW]at ax;subst ax;exact trivial
    simp only[aW]at ax;subst ax;exact trivial
  intro id b _ df;have bO:=aZ.owned.lt (b:=b) (by simp[df]);rw[hold b bO,df];rfl
 have cell:∀(n:Nat) (d:D) (u:Value),n<10000->ng rs v n=u->(∀k es,d=.J k es->pY rs n=k)->b1 aN fh (Tag.own n).R d u->Sat aN bd cR (d.pw (t+n)) u:=by
  intro n d u a' bx ba aH;cases d with
  | v x=>
   have e:u=x:=by cases aH;rfl
   subst e;unfold D.pw;split
   ·rename_i h;cases h;exact rfl
   ·rename_i h;cases h;exact rfl
   ·rename_i h;cases h
   ·exact trivial
   exact trivial
  | ptr ds=>exact trivial
  | a8 g bt=>exact trivial
  | J k es=>
   refine⟨aH.frame fun b q bO aL=>⟨?_,rfl⟩,?_⟩
   ·simp only[Tag.R]at aL ⊢;have:¬b<w.heap.size:=fun h=>by have:=lW b h;rw[this]at aL;cases aL
    rw[gF b this,aL];rfl
   simp only[Tag.eb,cR];rw[bL (by omega),show t+n-t=n by omega,bx,ba k es rfl]
 have tr:∀(r:Nat) (cq:cJ) (y:Value),r<100->(∀ds,cq=.agg ds->ds.length<100)->rs[r]?=some cq->(∀j,j<100->ng rs v (100*r+j)=y.cells.getD j undef)->l6 aN fh r cq y->km (Sat aN bd cR) (cq.res (t+100*r)) y:=by
  intro r cq y aH eU zy bx o4;have hc:∀j,j<100->pY rs (100*r+j)=(match cJ.cell j cq with | some (.J k _)=>k | _=>0):=by
   intro j bm;unfold pY;rw[show (100*r+j) / 100=r by omega,show (100*r+j) % 100=j by omega,zy];rfl
  cases cq with
  | one d=>
   have U:=o4.pk;have aa:=bx 0 (by omega);rw[zY U]at aa;have:=cell (100*r) d y (by omega) (by simpa using aa) (fun k es e=>by
    have:=hc 0 (by omega);rw[nO]at this;rw[this,e];rfl) o4
   exact this
  | agg ds=>
   obtain⟨vs,rfl,a',bm⟩:=o4;refine⟨vs,rfl,by rw[x8];exact a',fun j l ar=>?_⟩;rw[AH,ca]at ar;obtain⟨d,aI,rfl⟩:=ar;obtain⟨u,hu,zz⟩:=bm j d aI;have kM:j<100:=by
    have:=(fP.1 aI).1;have:=eU ds rfl;omega
   refine⟨u,hu,?_⟩;have:=cell (100*r+j) d u (by omega) (by rw[bx j kM];simp[Value.cells,eR,hu]) (fun k es e=>by
    rw[hc j kM];simp only[cJ.cell,aI,e]) zz
   rw[show t+100*r+(0+j)=t+(100*r+j) by omega];exact this
 simp only[uf,cH,c3]at ee;have eU:∀(r:Nat) (cq:cJ),rs[r]?=some cq->∀ds,cq=.agg ds->ds.length<100:=by
  intro r cq aH ds e;have:=fU.1 ee.2 cq (fI aH);subst e;simpa using this
 refine⟨bd,cR,aZ.ei _ bn.sat (aZ.below.next ay) ?_ ?_ ?_ (fun s ak=>by simp only[cR];rw[bH (by omega)]),?_⟩
 ·intro b fV;by_cases bO:b<w.heap.size
  ·rw[hold b bO]at fV;have aa:ω b≠.bG:=fun e=>by rw[e]at fV;exact fV rfl
   obtain⟨aB,arr,ty,aJ⟩:=aZ.owned b aa;exact⟨aB,arr,ty,(ay.block b bO).trans aJ⟩
  rw[gF b bO]at fV;have aa:fh b≠.bG:=fun e=>by rw[e]at fV;exact fV rfl
  obtain⟨_,arr,ty,aJ⟩:=lp b aa;exact⟨.inl (by have:=aZ.below.size;omega),arr,ty,aJ⟩
 ·intro id b df;have bO:=aZ.owned.lt (b:=b) (by simp[df]);exact⟨bn.box id b rfl df,ay.block b bO⟩
 ·intro id b df;by_cases bO:b<w.heap.size
  ·rw[hold b bO]at df;cases e:ω b with
   | bG=>rw[e]at df;cases df
   | box i=>rw[e]at df;exact df
   | tok s q=>rw[e]at df;simp only[ou]at df;split at df<;>cases df
  ·rw[gF b bO]at df;cases e:fh b<;>(rw[e]at df;cases df)
 cases rs with
 | nil=>
  obtain⟨vs,rfl,a',_⟩:=k3;exact⟨vs,rfl,a',fun i a aj=>by simp[qp]at aj⟩
 | cons cq rest=>
  cases rest with
  | nil=>
   have:=tr 0 cq v (by omega) (eU 0 cq rfl) rfl (fun j bm=>by
    unfold ng;simp only[Nat.mul_zero,dW];rw[Ca bm]) k3
   exact this
  | cons NO rest=>
   obtain⟨vs,rfl,a',bx⟩:=k3;refine⟨vs,rfl,by rw[DK];exact a',fun i a aj=>?_⟩;rw[DJ,ca]at aj;obtain⟨nX,U,rfl⟩:=aj;obtain⟨y,bM,zi⟩:=bx i nX U;have jL:i<100:=by
    have:=(fP.1 U).1;omega
   refine⟨y,bM,?_⟩;have:=tr i nX y jL (eU i nX U) U (fun j bm=>by
    unfold ng;simp only;rw[show (100*i+j) / 100=i by omega,show (100*i+j) % 100=j by omega];simp[eR,bM]) zi
   rw[dW];exact this
end Go.Sx
namespace Go.Sx
open Go.RowKit
inductive eL where
 | ro (d:D)
 | e3 (k:Nat) (es:List (List D)) (post:Option (List (List D)))
inductive GA where
 | one (c:eL)
 | agg (cs:List eL)
def fu(i j:Nat):Nat:=da+(100*i+j)
def GA.cell(j:Nat):GA->Option eL
 | .one c=>if j=0 then some c else none
 | .agg cs=>cs[j]?
def cellOf(v:Value)(j:Nat):Value:=v.cells.getD j undef
def uZ(w:World)(ω:Own)(t:Nat):eL->Value->Prop
 | .ro d,y=>b1 w ω Tag.free.R d y
 | .e3 k es _,y=>b1 w ω (Tag.own t).R (.J k es) y
def NJ(w:World)(ω:Own)(i:Nat):GA->Value->Prop
 | .one c,y=>uZ w ω (fu i 0) c y
 | .agg cs,y=>∃vs:Array Value,y=.agg vs/\vs.size=cs.length/\∀(j:Nat) (c:eL),cs[j]?=some c->∃u,vs[j]?=some u/\uZ w ω (fu i j) c u
def Gr(w:World)(ω:Own):Prop:=∀b,ω b≠.bG->(∃t q,ω b=.tok t q/\da<=t)/\∃arr ty,w.heap[b]?=some (.cells arr ty (0,0))
def Gq(w:World)(ω:Own)(args:List GA)(vs:Array Value):Prop:=Gr w ω/\vs.size=args.length/\∀(i:Nat) (eY:GA),args[i]?=some eY->∃v,vs[i]?=some v/\NJ w ω i eY v
def Kept(w:World)(ω:Own)(args:List GA)(vs:Array Value):Prop:=
 ∀(i j:Nat) (eY:GA) (k:Nat) (es cv:List (List D)),args[i]?=some eY->eY.cell j=some (.e3 k es (some cv))->b1 w ω (Tag.own (fu i j)).R (.J k cv) (cellOf (vs.getD i undef) j)
def kl(P:Program)(f:FuncId)(args:List GA)(rs:List cJ):Prop:=
 ∀(w:World) (vs:Array Value) (ω:Own),Gq w ω args vs->Tidy w ω->Calls P f vs w fun e aN=>∃v,e=.returned v/\gz ⟨w,fun b=>ω b≠.bG,fun _=>(0,undef)⟩ aN/\
  ∃bd:Own,(∀b,b<w.heap.size->ω b=.bG->bd b=.bG)/\(∀b,bd b≠.bG->(∃t q,bd b=.tok t q)/\∃arr ty,aN.heap[b]?=some (.cells arr ty (0,0)))/\Kept aN bd args vs/\mB aN bd rs v
structure dr where
 i:Nat
 j:Nat
 t:Nat
 p:Option (Nat×Nat)
 k:Nat
 es:List (List D)
 post:Option (List (List D))
abbrev pG:=Option (Option (List (List D)))
def wV(bs:lO)(i j:Nat):pG->aE->Option (eL×List dr×List aE)
 | none,l=>(l.j4 bs).map fun d=>(.ro d,[],[l])
 | some post,.J (.own t) k es=>some (.e3 k es post,[⟨i,j,t,none,k,es,post⟩],[])
 | some post,.aP t a b k es .here=>some (.e3 k es post,[⟨i,j,t,some (a,b),k,es,post⟩],[])
 | _,_=>none
def pr(bs:lO)(i:Nat):Nat->List pG->List aE->Option (List eL×List dr×List aE)
 | _,[],[]=>some ([],[],[])
 | j,m::ms,l::ls=>
  match wV bs i j m l,pr bs i (j+1) ms ls with
  | some (c,h,r),some (cs,ak,rs)=>some (c::cs,h++ak,r++rs)
  | _,_=>none
 | _,_,_=>none
def yO(bs:lO)(i:Nat)(ms:List pG):aG->Option (GA×List dr×List aE)
 | .aC (.one l)=>match ms with | [m]=>(wV bs i 0 m l).map fun r=>(.one r.1,r.2) | _=>none
 | .aC (.agg ls)=>(pr bs i 0 ms ls).map fun r=>(.agg r.1,r.2)
 | _=>none
def u4(bs:lO):Nat->List (List pG)->List aG->Option (List GA×List dr×List aE)
 | _,[],[]=>some ([],[],[])
 | i,ms::IH,p::b7=>
  match yO bs i ms p,u4 bs (i+1) IH b7 with
  | some (a,h,r),some (as,ak,rs)=>some (a::as,h++ak,r++rs)
  | _,_=>none
 | _,_,_=>none
def rN(ak:List dr)(t:Nat):Bool:=ak.any fun h=>h.t==t
def Tag.nr(ak:List dr):Tag->Bool
 | .free=>false
 | .own t=>rN ak t
 | .ro t=>rN ak t
def aE.pg(ak:List dr):aE->Bool
 | .J t _ _=>t.nr ak
 | .cL t _ _ _ _=>t.nr ak
 | .aP t _ _ _ _ _=>rN ak t
 | .fp _ _=>true
 | _=>false
def aE.nr(bs:lO)(ak:List dr):aE->Bool
 | .ptr id _=>match dD id bs with | some ls=>ls.any (aE.pg ak) | none=>true
 | .gC _ ids=>ids.any fun id=>match dD id bs with | some ls=>ls.any (aE.pg ak) | none=>true
 | l=>l.pg ak
def dr.apart(h y:dr):Bool:=
 (h.i != y.i||h.j != y.j)&&(h.t != y.t||match h.p,y.p with | some p,some q=>p.2 != q.2 | _,_=>false)
def ov:List dr->Bool
 | []=>true
 | h::r=>decide (h.j<100)&&(r.all (dr.apart h)&&ov r)
theorem PC:∀{ak:List dr},ov ak=true->∀h∈ak,∀y∈ak,h=y\/(dr.apart h y=true\/dr.apart y h=true)
 | [],_,h,bD,_,_=>by cases bD
 | x::r,ba,h,bD,y,bM=>by
  simp only[ov,cH,fU]at ba;rcases eK.1 bD with e1 | Ow
  ·rcases eK.1 bM with e2 | HX
   ·exact .inl (e1.trans e2.symm)
   rw[e1];exact .inr (.inl (ba.2.1 y HX))
  rcases eK.1 bM with e2 | HX
  ·rw[e2];exact .inr (.inr (ba.2.1 h Ow))
  exact PC ba.2.2 h Ow y HX
theorem PD:∀{ak:List dr},ov ak=true->∀h∈ak,h.j<100
 | [],_,h,bD=>by cases bD
 | x::r,ba,h,bD=>by
  simp only[ov,cH,c3]at ba;rcases eK.1 bD with rfl | bD
  ·exact ba.1
  exact PD ba.2.2 h bD
def dr.fit(h:dr)(t:Nat)(q:List (Nat×Nat)):Option (List (Nat×Nat)):=
 if h.t=t then
  match h.p,q with
  | none,q=>some q
  | some p,x::dU=>if x=p then some dU else none
  | some _,[]=>none
 else none
def mW(t:Nat)(q:List (Nat×Nat)):List dr->Option (Nat×List (Nat×Nat))
 | []=>none
 | h::r=>match h.fit t q with | some dU=>some (fu h.i h.j,dU) | none=>mW t q r
variable{h:dr}{t:Nat}{q:List (Nat×Nat)}
theorem apX{y:dr}{q1 iR:List (Nat×Nat)}(U:h.fit t q=some q1)(aa:y.fit t q=some iR):dr.apart h y=false:=by
 unfold dr.fit at U aa;split at U
 ·rename_i e1;split at aa
  ·rename_i e2;have cn:(h.t != y.t)=false:=by simp[e1,e2]
   simp only[dr.apart,cn,j1,Bool.and_eq_false_imp];intro _;split at U
   ·rename_i hp;rw[hp]
   ·rename_i p x dU hp;split at U
    ·rename_i aq;split at aa
     ·rename_i sl;rw[hp,sl]
     ·rename_i aaj jB ayL sl heq;split at aa
      ·rename_i jO;rw[hp,sl];simp only[rS]at heq;obtain⟨rfl,_⟩:=heq;subst aq;subst jO;simp
      cases aa
     cases aa
    cases U
   cases U
  cases aa
 cases U
theorem Jj{t:Nat}{q dU:List (Nat×Nat)}:∀{ak:List dr},ov ak=true->∀{h:dr},h∈ak->h.fit t q=some dU->mW t q ak=some (fu h.i h.j,dU)
 | [],_,h,bD,_=>by cases bD
 | x::r,ba,h,bD,b8=>by
  have Hw:=ba;simp only[ov,cH,fU]at ba;simp only[mW];rcases eK.1 bD with rfl | bD
  ·rw[b8]
  cases e:x.fit t q with
  | none=>exact Jj ba.2.2 bD b8
  | some iR=>
   have:=apX e b8;rw[ba.2.1 h bD]at this;cases this
theorem AI{g:Nat}{dU:List (Nat×Nat)}:∀{ak:List dr},mW t q ak=some (g,dU)->∃h∈ak,h.fit t q=some dU/\g=fu h.i h.j
 | [],h=>by cases h
 | x::r,h=>by
  simp only[mW]at h;split at h
  ·rename_i iR e;simp only[aW,bA]at h;obtain⟨rfl,rfl⟩:=h;exact⟨x,kG,e,rfl⟩
  obtain⟨y,bM,aa⟩:=AI h;exact⟨y,iA _ bM,aa⟩
theorem PE{dU:List (Nat×Nat)}(e:h.fit t q=some dU):h.t=t/\q=h.p.toList++dU:=by
 unfold dr.fit at e;split at e
 ·rename_i e1;refine⟨e1,?_⟩;split at e
  ·rename_i hp;simp only[aW]at e;rw[hp,e];rfl
  ·rename_i p x iR hp;split at e
   ·rename_i aq;simp only[aW]at e;rw[hp,aq,e];rfl
   cases e
  cases e
 cases e
theorem QA(h:dr)(q:List (Nat×Nat)):h.fit h.t (h.p.toList++q)=some q:=by
 unfold dr.fit;rw[bL rfl];cases h.p with
 | none=>rfl
 | some p=>simp
def fL(ak:List dr)(ω:Own):Own:=fun b=>
 match ω b with
 | .tok t q=>match mW t q ak with | some (g,dU)=>.tok g dU | none=>.bG
 | _=>.bG
def Cq(g:Nat):List dr->Option dr
 | []=>none
 | h::r=>if fu h.i h.j=g then some h else Cq g r
theorem QB:∀{ak:List dr},ov ak=true->∀{h:dr},h∈ak->Cq (fu h.i h.j) ak=some h
 | [],_,h,bD=>by cases bD
 | x::r,ba,h,bD=>by
  have bm:=PD ba;have Hw:=ba;simp only[ov,cH,fU]at ba;simp only[Cq];rcases eK.1 bD with rfl | q4
  ·rw[bL rfl]
  rw[bH]
  ·exact QB ba.2.2 q4
  intro e;have U:=bm x kG;have aa:=bm h (iA _ q4);have aB:=ba.2.1 h q4;simp only[dr.apart,cH,qQ,bne_iff_ne,nQ]at aB;simp only[fu]at e;omega
def AJ(ak:List dr)(t0:Nat):di->di
 | .tok s q=>if da<=s then (match Cq s ak with | some h=>.tok h.t (h.p.toList++q) | none=>.bG) else .tok (t0+s) q
 | _=>.bG
def wo(t:Nat):List dr->Option dr
 | []=>none
 | h::r=>if h.t=t then some h else wo t r
theorem QC:∀{ak:List dr},wo t ak=none->rN ak t=false
 | [],_=>rfl
 | h::r,e=>by
  simp only[wo]at e;split at e
  ·cases e
  rename_i db;have:=QC e;simp only[rN,B',gX]at this ⊢;exact⟨by simpa using db,this⟩
theorem QD:∀{ak:List dr},wo t ak=some h->h∈ak/\h.t=t
 | [],e=>by cases e
 | x::r,e=>by
  simp only[wo]at e;split at e
  ·simp only[aW]at e;subst e;exact⟨kG,‹_›⟩
  obtain⟨U,aa⟩:=QD e;exact⟨iA _ U,aa⟩
def mC:List dr->List D->List D
 | [],ds=>ds
 | h::r,ds=>match h.p,h.post with
  | some p,some es=>mC r (ds.set p.2 (.J h.k es))
  | _,_=>mC r ds
def rl(ak:List dr)(t0 hM oe:Nat)(pL:List (List D)):aE->aE
 | .J (.own t) k es=>
  match wo t ak with
  | some h=>match h.p,h.post with
   | none,some cv=>.J (.own t) h.k cv
   | none,none=>.cw
   | some _,_=>if t=hM then .J (.own t) oe pL else .cw
  | none=>aE.cF (gp t0) (fun _=>true) (.J (.own t) k es)
 | l=>if l.pg ak then .cw else l.cF (gp t0) fun _=>true
end Go.Sx
namespace Go.Sx
open Go.RowKit
variable{ak:List dr}
theorem apY{t:Nat}(h:rN ak t=false):∀y∈ak,y.t≠t:=by
 intro y bM e;simp only[rN,hW,kE]at h;exact h y bM e
theorem Jk{t:Nat}(h:rN ak t=false)(q:List (Nat×Nat)):mW t q ak=none:=by
 cases e:mW t q ak with
 | none=>rfl
 | some x=>
  obtain⟨g,dU⟩:=x;obtain⟨y,bM,b8,_⟩:=AI e;exact absurd (PE b8).1 (apY h y bM)
structure Ce (w:World) (ω:Own) (τ:Nat->Nat×Value) (h:dr) (u:Value):Prop where
 rep:b1 w ω (fun q o=>o=.tok h.t (h.p.toList++q)) (.J h.k h.es) u
 root:h.p=none->τ h.t=(h.k,u)
 cell:∀a b,h.p=some (a,b)->∃(kT b6 off len cap:Nat) (arr:Array Value) (ty:TypeId) (cT:Nat×Nat),τ h.t=(kT,.slice (some ⟨b6,off,none⟩) len cap)/\ω b6=.tok h.t []/\w.heap[b6]?=some (.cells arr ty cT)/\arr[off+a*kT+b]?=some u
structure NM (w:World) (ω:Own) (τ:Nat->Nat×Value) (ak:List dr) (hM oe:Nat) (pL:List (List D)):Prop where
 ex:∀h∈ak,∀p,h.p=some p->h.t=hM->∃(dM:List (List D)) (y:Value) (ds:List D) (a:Nat),Sat w ω τ (.J (.own hM) oe dM) y/\dM[a]?=some ds/\ds.length=oe/\pL=dM.set a (mC ak ds)/\
  ∀x∈ak,∀q,x.p=some q->x.t=hM/\q.1=a/\∃cv,x.post=some cv
theorem AK:∀(ak:List dr) (ds:List D),(mC ak ds).length=ds.length
 | [],_=>rfl
 | h::r,ds=>by
  simp only[mC];split
  ·rw[AK r,hr]
  exact AK r ds
theorem Jl{y:Nat}{d:D}:∀{ak:List dr} {ds:List D},(mC ak ds)[y]?=some d->(∃h∈ak,∃a cv,h.p=some (a,y)/\h.post=some cv/\d=.J h.k cv)\/ds[y]?=some d/\∀h∈ak,∀a cv,h.p=some (a,y)->h.post=some cv->False
 | [],ds,h=>.inr ⟨h,fun _ bD=>by cases bD⟩
 | h::r,ds,aI=>by
  simp only[mC]at aI;split at aI
  ·rename_i p cv e1 e2;rcases Jl aI with⟨x,aq,a,bS,U,aa,aB⟩ | ⟨U,aa⟩
   ·exact .inl ⟨x,iA _ aq,a,bS,U,aa,aB⟩
   rw[oM]at U;split at U
   ·rename_i hp;split at U
    ·simp only[aW]at U;exact .inl ⟨h,kG,p.1,cv,by rw[e1,<-hp],e2,U.symm⟩
    cases U
   rename_i hp;refine .inr ⟨U,fun x aq a bS aB aJ=>?_⟩;rcases eK.1 aq with rfl | aq
   ·rw[e1]at aB;simp only[aW]at aB;rw[aB]at hp;exact hp rfl
   exact aa x aq a bS aB aJ
  rename_i db;rcases Jl aI with⟨x,aq,a,bS,U,aa,aB⟩ | ⟨U,aa⟩
  ·exact .inl ⟨x,iA _ aq,a,bS,U,aa,aB⟩
  refine .inr ⟨U,fun x aq a bS aB aJ=>?_⟩;rcases eK.1 aq with rfl | aq
  ·exact db _ _ aB aJ
  exact aa x aq a bS aB aJ
theorem cD.XR{w0:eE}{st:aF}{a:Act}{w aN:World}{ω:Own}{τ:Nat->Nat×Value}(aZ:cD w0 st a w ω τ)(t0:Nat){rs:List cJ}{v:Value}{H:Nat->Nat×Value}
  (cN:ov ak=true) (ee:uf rs=true) (iL:t0+10000<=da) (ON:∀h∈ak,¬(t0<=h.t/\h.t<t0+10000)) (ay:gz ⟨w,fun b=>fL ak ω b≠.bG,H⟩ aN) (fh:Own)
  (lW:∀b,b<w.heap.size->fL ak ω b=.bG->fh b=.bG) (lp:∀b,fh b≠.bG->(∃t q,fh b=.tok t q)/\∃arr ty,aN.heap[b]?=some (.cells arr ty (0,0))) (k3:mB aN fh rs v)
  (vals:dr->Value) (Hz:∀h∈ak,∀cv,h.post=some cv->b1 aN fh (Tag.own (fu h.i h.j)).R (.J h.k cv) (vals h)) (gR:∀h∈ak,Ce w ω τ h (vals h))
  {hM oe:Nat} {pL:List (List D)} (jj:NM w ω τ ak hM oe pL):
  ∃bd cR,cD w0 (st.map (rl ak t0 hM oe pL)) a aN bd cR/\cO (Sat aN bd cR) (s7 t0 rs) v:=by
 classical
 let bd:Own:=fun b=>if b<w.heap.size/\fL ak ω b=.bG then ou t0 (ω b) else AJ ak t0 (fh b)
 let cR:Nat->Nat×Value:=fun s=>if t0<=s/\s<t0+10000 then (pY rs (s-t0),ng rs v (s-t0)) else τ s
 have hold:∀b,b<w.heap.size->fL ak ω b=.bG->bd b=ou t0 (ω b):=fun b ay h=>by simp only[bd];rw[bL ⟨ay,h⟩]
 have gF:∀b,fh b≠.bG->bd b=AJ ak t0 (fh b):=fun b ay=>by
  simp only[bd];rw[bH];rintro⟨U,aa⟩;exact ay (lW b U aa)
 have nd:∀b,b<w.heap.size->fL ak ω b=.bG->aN.heap[b]?=w.heap[b]?:=fun b bO h=>ay.block b bO (fun a'=>a' h)
 have p0:∀b,ω b=.bG->fL ak ω b=.bG:=fun b h=>by simp only[fL,h]
 have Yf:∀b id,ω b=.box id->fL ak ω b=.bG:=fun b id h=>by simp only[fL,h]
 have j9:∀b s q,ω b=.tok s q->mW s q ak=none->fL ak ω b=.bG:=fun b s q h aa=>by simp only[fL,h,aa]
 have su:∀h∈ak,cR h.t=τ h.t:=fun h bD=>by simp only[cR];rw[bH (ON h bD)]
 have fF:∀(g eu:Tag) (b:Nat) (q:List (Nat×Nat)),g.nr ak=false->gp t0 g=some eu->b<w.heap.size->g.R q (ω b)->eu.R q (bd b)/\aN.heap[b]?=w.heap[b]?:=by
  intro g eu b q hm ax bO aL;have hi:fL ak ω b=.bG:=by
   cases g with
   | free=>exact p0 b aL
   | own s=>exact j9 b s q aL (Jk hm q)
   | ro s=>
    rcases aL with h | ⟨dU,h⟩
    ·exact p0 b h
    exact j9 b s dU h (Jk hm dU)
  refine⟨?_,nd b bO hi⟩;rw[hold b bO hi];cases g with
  | free=>simp only[gp,aW]at ax;subst ax;simp only[Tag.R]at aL ⊢;rw[aL];rfl
  | own s=>
   simp only[Tag.R]at aL;simp only[gp]at ax;rw[aL];simp only[ou];split at ax
   ·simp only[aW]at ax;subst ax;rw[bL ‹_›];rfl
   simp only[aW]at ax;subst ax;rw[bH ‹_›];rfl
  | ro s=>
   simp only[Tag.R]at aL;simp only[gp]at ax;split at ax
   ·simp only[aW]at ax;subst ax;rcases aL with h | ⟨dU,h⟩
    ·rw[h];rfl
    rw[h];simp only[ou];rw[bL ‹_›];rfl
   simp only[aW]at ax;subst ax;rcases aL with h | ⟨dU,h⟩
   ·rw[h];exact .inl rfl
   rw[h];simp only[ou];rw[bH ‹_›];exact .inr ⟨dU,rfl⟩
 have IB:∀(g eu:Tag) (y:Nat×Value),gp t0 g=some eu->g.eb τ y->eu.eb cR y:=by
  intro g eu y ax bM;cases g with
  | free=>simp only[gp,aW]at ax;subst ax;exact trivial
  | own s=>
   simp only[gp]at ax;split at ax
   ·simp only[aW]at ax;subst ax;exact trivial
   simp only[aW]at ax;subst ax;simp only[Tag.eb,cR]at bM ⊢;rw[bH ‹_›];exact bM
  | ro s=>
   simp only[gp]at ax;split at ax
   ·simp only[aW]at ax;subst ax;exact trivial
   simp only[aW]at ax;subst ax;exact trivial
 have xu:∀id b,ω b=.box id->bd b=.box id/\aN.heap[b]?=w.heap[b]?:=by
  intro id b df;have bO:=aZ.owned.lt (b:=b) (by simp[df]);have hi:=Yf b id df;exact⟨by rw[hold b bO hi,df];rfl,nd b bO hi⟩
 have O':∀h∈ak,∀cv,h.post=some cv->b1 aN bd (fun q o=>o=.tok h.t (h.p.toList++q)) (.J h.k cv) (vals h):=by
  intro h bD cv he;refine (Hz h bD cv he).frame fun b q _ aL=>⟨?_,rfl⟩
  simp only[Tag.R]at aL;rw[gF b (by rw[aL];simp),aL];simp only[AJ];rw[bL (by simp[fu]),QB cN bD]
 have eN:∀l y,Sat w ω τ l y->Sat aN bd cR (rl ak t0 hM oe pL l) y:=by
  intro l y dq;have plain:∀g k es,g.nr ak=false->Sat w ω τ (.J g k es) y->Sat aN bd cR (aE.cF (gp t0) (fun _=>true) (.J g k es)) y:=by
   intro g k es hm pa;simp only[aE.cF];cases ax:gp t0 g with
   | none=>exact trivial
   | some eu=>exact⟨pa.1.frame fun b q bO aL=>fF g eu b q hm ax bO aL,IB g eu _ ax pa.2⟩
  cases l with
  | cw=>exact trivial
  | v x=>exact dq
  | bg c=>exact dq
  | ptr id off=>
   obtain⟨b,U,aa⟩:=dq;exact⟨b,(xu id b U).1,aa⟩
  | gC f ids=>
   obtain⟨bs,e,a',hi⟩:=dq;simp only[rl,aE.pg,nM,lN,aE.cF];split
   ·refine⟨bs,e,a',fun i id hid=>?_⟩;obtain⟨b,U,aa⟩:=hi i id hid;exact⟨b,U,(xu id b aa).1⟩
   exact trivial
  | hU ds off=>
   obtain⟨b,e,aH⟩:=dq;exact⟨b,e,aH.frame fun b q bO aL=>fF .free .free b q rfl rfl bO aL⟩
  | fd d=>exact b1.frame dq fun b q bO aL=>fF .free .free b q rfl rfl bO aL
  | dt t k es=>exact⟨b1.frame dq.1 fun b q bO aL=>fF .free .free b q rfl rfl bO aL,fun bZ=>(show cR t=τ t by simp only[cR];rw[bH (by omega)]).trans (dq.2 bZ)⟩
  | aP t i j k es m=>
   simp only[rl];by_cases hm:aE.pg ak (.aP t i j k es m)=true
   ·rw[bL hm];exact trivial
   rw[bH hm];simp only[uV]at hm;replace hm:rN ak t=false:=hm;simp only[aE.cF];split
   ·rename_i dn ax;split
    ·rename_i bZ;subst bZ;obtain⟨fy,q9,U,Zb⟩:=dq;refine⟨fy,q9,U.frame fun c q ao aL=>fF (.own dn) _ c _ hm ax ao aL,fun YN=>?_⟩;obtain⟨kT,b,off,len,cap,arr,ty,cT,aa,a6,aB,aJ⟩:=Zb YN;have bO:b<w.heap.size:=(jF.1 aB).1;have ba:=fF (.own dn) _ b [] hm ax bO a6;exact⟨kT,b,off,len,cap,arr,ty,cT,IB _ _ _ ax aa,ba.1,ba.2.trans aB,aJ⟩
    exact trivial
   exact trivial
  | fp t vs=>
   simp only[rl,aE.pg,gy];exact trivial
  | cL g k es i j=>
   simp only[rl];by_cases hm:aE.pg ak (.cL g k es i j)=true
   ·rw[bL hm];exact trivial
   rw[bH hm];simp only[uV]at hm;replace hm:g.nr ak=false:=hm;obtain⟨b,off,cap,e,hi,aH,bD⟩:=dq;simp only[aE.cF];cases ax:gp t0 g with
   | none=>exact trivial
   | some eu=>exact⟨b,off,cap,e,hi,aH.frame fun b q bO aL=>fF g eu b q hm ax bO aL,IB g eu _ ax bD⟩
  | J g k es=>
   cases g with
   | free=>exact plain .free k es rfl dq
   | ro s=>
    simp only[rl];by_cases hm:aE.pg ak (.J (.ro s) k es)=true
    ·rw[bL hm];exact trivial
    rw[bH hm];simp only[uV]at hm;exact plain (.ro s) k es hm dq
   | own s=>
    simp only[rl];cases b8:wo s ak with
    | none=>exact plain (.own s) k es (QC b8) dq
    | some h=>
     obtain⟨bD,rfl⟩:=QD b8;simp only;have bx:=gR h bD;have eb:τ h.t=(k,y):=dq.2;split
     ·
      rename_i cv hp he;have e1:=bx.root hp;rw[eb]at e1;simp only[bA]at e1;obtain⟨rfl,e2⟩:=e1;have aH:=O' h bD cv he;rw[hp,<-e2]at aH;exact⟨aH,by simp only[Tag.eb];rw[su h bD,eb]⟩
     ·exact trivial
     -- parts of it
     rename_i p hp;split
     ·rename_i tL;obtain⟨dM,lH,ds,a0,xm,eU,pX,rfl,hQ⟩:=jj.ex h bD p hp tL;have Hj:τ hM=(oe,lH):=xm.2;rw[<-tL,eb]at Hj;simp only[bA]at Hj;obtain⟨rfl,rfl⟩:=Hj;obtain⟨so,_⟩:=xm;have hlen:(dM.set a0 (mC ak ds)).length=dM.length:=hr;have Oe:a0<dM.length:=(fP.1 eU).1;refine⟨?_,by simp only[Tag.eb];rw[su h bD,eb]⟩;generalize bM:y=NF at so;cases so with
      | nil=>simp at Oe
      | row R k dM b6 off cap arr ty cT us Hb dY Yp dI ba hu aI=>
       subst bM;have CI:ω b6=.tok h.t []:=by rw[tL];exact dY
       have OE:∀x∈ak,x.fit hM []=none:=by
        intro x aq;unfold dr.fit;split
        ·rename_i ext;cases Dc:x.p with
         | some q=>simp
         | none=>
          exfalso;have db:dr.apart h x=true\/dr.apart x h=true\/h=x:=by
           rcases PC cN h bD x aq with e | e | e
           ·exact .inr (.inr e)
           ·exact .inl e
           exact .inr (.inl e)
          have tD:∀y z:dr,y.t=z.t->(y.p=none\/z.p=none)->dr.apart y z=true->False:=by
           intro y z e1 e2 cn;simp only[dr.apart,e1,cH,qQ,bne_self_eq_false,nM,false_or]at cn;rcases e2 with e2 | e2
           ·simp[e2]at cn
           ·rw[e2]at cn;cases hyp:y.p<;>simp[hyp]at cn
          rcases db with e | e | e
          ·exact tD h x (by rw[ext,tL]) (.inr Dc) e
          ·exact tD x h (by rw[ext,tL]) (.inl Dc) e
          rw[<-e,hp]at Dc;cases Dc
        rfl
       have kL:mW hM [] ak=none:=by
        cases e:mW hM [] ak with
        | none=>rfl
        | some z=>
         obtain⟨g,dU⟩:=z;obtain⟨x,aq,O0,_⟩:=AI e;rw[OE x aq]at O0;cases O0
       have Yd:b6<w.heap.size:=(jF.1 Hb).1;have axP:fL ak ω b6=.bG:=j9 b6 hM [] dY kL;have Zl:¬(t0<=hM/\hM<t0+10000):=by rw[<-tL];exact ON h bD
       have OH:∀b q,b<w.heap.size->ω b=.tok hM q->mW hM q ak=none->bd b=.tok hM q/\aN.heap[b]?=w.heap[b]?:=by
        intro b q bO aL a';have hi:=j9 b hM q aL a';refine⟨?_,nd b bO hi⟩;rw[hold b bO hi,aL];simp only[ou];rw[bH Zl]
       have OG:∀x y d,c5 dM x y=some d->(∀z∈ak,z.p≠some (x,y))->b1 aN bd (fun q=>(Tag.own hM).R ((x,y)::q)) d (us x y):=by
        intro x y d ao bp;refine (aI x y d ao).frame fun b q bO aL=>?_
        refine OH b _ bO aL ?_;cases e:mW hM ((x,y)::q) ak with
        | none=>rfl
        | some r=>
         obtain⟨g,dU⟩:=r;obtain⟨z,zJ,ZR,_⟩:=AI e;obtain⟨e1,e2⟩:=PE ZR;exfalso;cases rc:z.p with
         | none=>
          have:=OE z zJ;unfold dr.fit at this;rw[bL e1,rc]at this;simp at this
         | some r=>
          rw[rc]at e2;simp only[Gj,List.cons_append,List.nil_append,rS]at e2;exact bp z zJ (by rw[rc,<-e2.1])
       have key:∀x y d,c5 (dM.set a0 (mC ak ds)) x y=some d->b1 aN bd (fun q=>(Tag.own hM).R ((x,y)::q)) d (us x y):=by
        intro x y d ao;by_cases aq:x=a0
        ·subst aq;have lp:(mC ak ds)[y]?=some d:=by
          simpa[c5,oM,Oe]using ao
         rcases Jl lp with⟨z,bp,ef,cv,U,aa,rfl⟩ | ⟨U,aa⟩
         ·obtain⟨e1,e2,_⟩:=hQ z bp _ U;have e2:ef=x:=e2;subst e2;obtain⟨kT,e0,ayD,ayx,axk,axg,ayT,axE,g1,g2,g3,g4⟩:=(gR z bp).cell _ _ U;rw[e1,<-tL,eb]at g1;simp only[bA,Value.slice.injEq,aW,Addr.mk.injEq]at g1;obtain⟨rfl,⟨rfl,rfl,_⟩,_,_⟩:=g1;rw[Hb]at g3;simp only[aW,Obj.cells.injEq]at g3;obtain⟨rfl,_,_⟩:=g3;have ZN:y<ds.length:=by
           have:=(fP.1 lp).1;rwa[AK]at this
          have fo:c5 dM ef y=some ds[y]:=by simp[c5,eU,ZN]
          have ZG:us ef y=vals z:=by
           have:=hu ef y _ fo;rw[g4]at this;exact (gd this).symm
          rw[ZG];have aH:=O' z bp cv aa;rw[U,e1]at aH;exact aH
         have fo:c5 dM x y=some d:=by simp[c5,eU,U]
         refine OG x y d fo fun z bp rc=>?_
         obtain⟨_,_,cv,he⟩:=hQ z bp _ rc;exact aa z bp x cv rc he
        have fo:c5 dM x y=some d:=by
         simp only[c5,oM]at ao;rw[bH (by omega)]at ao;exact ao
        refine OG x y d fo fun z bp rc=>?_
        obtain⟨_,e2,_⟩:=hQ z bp _ rc;exact aq e2
       have gD:=OH b6 [] Yd dY kL;have:=b1.row (w:=aN) (ω:=bd) (Tag.own hM).R k (dM.set a0 (mC ak ds)) b6 off cap arr ty cT us (gD.2.trans Hb) gD.1 (by rw[hlen];exact Yp) dI
        (fun e he=>by
         rcases qP he with eg | rfl
         ·exact ba e eg
         rw[AK];exact pX)
        (fun x y d ao=>by
         have fR:x<dM.length/\y<k:=by
          have Hw:∀e∈dM.set a0 (mC ak ds),e.length=k:=fun e he=>by
           rcases qP he with eg | rfl
           ·exact ba e eg
           rw[AK];exact pX
          have eg:x<(dM.set a0 (mC ak ds)).length/\y<k:=by
           unfold c5 at ao;cases yP:(dM.set a0 (mC ak ds))[x]? with
           | none=>simp[yP]at ao
           | some row=>
            simp only[yP,nL]at ao;have hm:=Hw row (fI yP);exact⟨(fP.1 yP).1,by rw[<-hm];exact (fP.1 ao).1⟩
          rw[hlen]at eg;exact eg
         have vn:(dM[x]'fR.1).length=k:=ba _ (oP fR.1);exact hu x y ((dM[x]'fR.1)[y]'(by omega)) (by simp[c5,fR.1,vn,fR.2]))
        key
       rw[hlen]at this;rw[tL];exact this
     exact trivial
 have cell:∀(n:Nat) (d:D) (u:Value),n<10000->ng rs v n=u->(∀k es,d=.J k es->pY rs n=k)->b1 aN fh (Tag.own n).R d u->Sat aN bd cR (d.pw (t0+n)) u:=by
  intro n d u a' bx ba aH;cases d with
  | v x=>
   have e:u=x:=by cases aH;rfl
   subst e;unfold D.pw;split
   ·rename_i h;cases h;exact rfl
   ·rename_i h;cases h;exact rfl
   ·rename_i h;cases h
   ·exact trivial
   exact trivial
  | ptr ds=>exact trivial
  | a8 g bt=>exact trivial
  | J k es=>
   refine⟨aH.frame fun b q bO aL=>⟨?_,rfl⟩,?_⟩
   ·simp only[Tag.R]at aL ⊢;rw[gF b (by rw[aL];simp),aL];simp only[AJ];rw[bH (by simp only[da];omega)]
   simp only[Tag.eb,cR];rw[bL (by omega),show t0+n-t0=n by omega,bx,ba k es rfl]
 have tr:∀(r:Nat) (cq:cJ) (y:Value),r<100->(∀ds,cq=.agg ds->ds.length<100)->rs[r]?=some cq->(∀j,j<100->ng rs v (100*r+j)=y.cells.getD j undef)->l6 aN fh r cq y->km (Sat aN bd cR) (cq.res (t0+100*r)) y:=by
  intro r cq y aH eU zy bx o4;have hc:∀j,j<100->pY rs (100*r+j)=(match cJ.cell j cq with | some (.J k _)=>k | _=>0):=by
   intro j bm;unfold pY;rw[show (100*r+j) / 100=r by omega,show (100*r+j) % 100=j by omega,zy];rfl
  cases cq with
  | one d=>
   have U:=o4.pk;have aa:=bx 0 (by omega);rw[zY U]at aa;have:=cell (100*r) d y (by omega) (by simpa using aa) (fun k es e=>by
    have:=hc 0 (by omega);rw[nO]at this;rw[this,e];rfl) o4
   exact this
  | agg ds=>
   obtain⟨vs,rfl,a',bm⟩:=o4;refine⟨vs,rfl,by rw[x8];exact a',fun j l ar=>?_⟩;rw[AH,ca]at ar;obtain⟨d,aI,rfl⟩:=ar;obtain⟨u,hu,zz⟩:=bm j d aI;have kM:j<100:=by
    have:=(fP.1 aI).1;have:=eU ds rfl;omega
   refine⟨u,hu,?_⟩;have:=cell (100*r+j) d u (by omega) (by rw[bx j kM];simp[Value.cells,eR,hu]) (fun k es e=>by
    rw[hc j kM];simp only[cJ.cell,aI,e]) zz
   rw[show t0+100*r+(0+j)=t0+(100*r+j) by omega];exact this
 simp only[uf,cH,c3]at ee;have eU:∀(r:Nat) (cq:cJ),rs[r]?=some cq->∀ds,cq=.agg ds->ds.length<100:=by
  intro r cq aH ds e;have:=fU.1 ee.2 cq (fI aH);subst e;simpa using this
 have OB:∀b,ω b≠.bG->w0.Dl b:=fun b h=>(aZ.owned b h).1
 have Ov:∀b,fL ak ω b≠.bG->ω b≠.bG:=fun b h e=>h (p0 b e)
 refine⟨bd,cR,aZ.ei _ eN ?_ ?_ (fun id b df=>xu id b df) ?_ (fun s ak=>by simp only[cR];rw[bH (by omega)]),?_⟩
 ·refine⟨ay.os.trans aZ.below.os,ay.tape.trans aZ.below.tape,ay.output.trans aZ.below.output,tj aZ.below.size ay.size,fun k ba ax=>?_,fun ak=>tj (aZ.below.drawn ak) (ay.drawn ak),ay.laid,aZ.below.free⟩;have sj:k<w.heap.size:=yE ba aZ.below.size;have hi:fL ak ω k=.bG:=by
   cases e:fL ak ω k with
   | bG=>rfl
   | _=>
    have:=OB k (Ov k (by rw[e];simp));rcases this with h | h
    ·omega
    exact absurd h ax
  exact (nd k sj hi).trans (aZ.below.block k ba ax)
 ·intro b fV;by_cases ao:b<w.heap.size/\fL ak ω b=.bG
  ·rw[hold b ao.1 ao.2]at fV;have aa:ω b≠.bG:=fun e=>by rw[e]at fV;exact fV rfl
   obtain⟨aB,arr,ty,aJ⟩:=aZ.owned b aa;exact⟨aB,arr,ty,(nd b ao.1 ao.2).trans aJ⟩
  have aa:fh b≠.bG:=fun e=>by
   simp only[bd]at fV;rw[bH ao,e]at fV;exact fV rfl
  obtain⟨_,arr,ty,aJ⟩:=lp b aa;refine⟨?_,arr,ty,aJ⟩;rcases pE b w.heap.size with bO | o6
  ·exact OB b (Ov b fun e=>ao ⟨bO,e⟩)
  exact .inl (by have:=aZ.below.size;omega)
 ·intro id b df;by_cases ao:b<w.heap.size/\fL ak ω b=.bG
  ·rw[hold b ao.1 ao.2]at df;cases e:ω b with
   | bG=>rw[e]at df;cases df
   | box i=>rw[e]at df;exact df
   | tok s q=>rw[e]at df;simp only[ou]at df;split at df<;>cases df
  simp only[bd]at df;rw[bH ao]at df;cases e:fh b with
  | bG=>rw[e]at df;cases df
  | box i=>rw[e]at df;cases df
  | tok s q=>
   rw[e]at df;simp only[AJ]at df;split at df
   ·split at df<;>cases df
   cases df
 cases rs with
 | nil=>
  obtain⟨vs,rfl,a',_⟩:=k3;exact⟨vs,rfl,a',fun i a aj=>by simp[qp]at aj⟩
 | cons cq rest=>
  cases rest with
  | nil=>
   have:=tr 0 cq v (by omega) (eU 0 cq rfl) rfl (fun j bm=>by
    unfold ng;simp only[Nat.mul_zero,dW];rw[Ca bm]) k3
   exact this
  | cons NO rest=>
   obtain⟨vs,rfl,a',bx⟩:=k3;refine⟨vs,rfl,by rw[DK];exact a',fun i a aj=>?_⟩;rw[DJ,ca]at aj;obtain⟨nX,U,rfl⟩:=aj;obtain⟨y,bM,zi⟩:=bx i nX U;have jL:i<100:=by
    have:=(fP.1 U).1;omega
   refine⟨y,bM,?_⟩;have:=tr i nX y jL (eU i nX U) U (fun j bm=>by
    unfold ng;simp only;rw[show (100*i+j) / 100=i by omega,show (100*i+j) % 100=j by omega];simp[eR,bM]) zi
   rw[dW];exact this
end Go.Sx
namespace Go.Sx
open Go.RowKit
variable{w:World}{ω:Own}{τ:Nat->Nat×Value}{ak:List dr}{l:aE}{d:D}{y:Value}
theorem QE(h:l.gl=some d)(hm:l.pg ak=false)(dq:Sat w ω τ l y):b1 w (fL ak ω) Tag.free.R d y:=by
 have p0:∀b,ω b=.bG->fL ak ω b=.bG:=fun b h=>by simp only[fL,h]
 have j9:∀b s q,ω b=.tok s q->rN ak s=false->fL ak ω b=.bG:=fun b s q h aa=>by simp only[fL,h,Jk aa]
 have tag:∀(g:Tag) (b:Nat) (q:List (Nat×Nat)),g.nr ak=false->g.R q (ω b)->fL ak ω b=.bG:=by
  intro g b q ax aL;cases g with
  | free=>exact p0 b aL
  | own s=>exact j9 b s q aL ax
  | ro s=>
   rcases aL with h | ⟨dU,h⟩
   ·exact p0 b h
   exact j9 b s dU h ax
 cases l with
 | cw=>cases h
 | v x=>
  simp only[aE.gl]at h;split at h
  ·simp only[aW]at h;subst h;have:y=x:=dq;subst this;exact .v _ _ ‹_›
  cases h
 | bg c=>
  simp only[aE.gl,aW]at h;subst h;have:y=.bool c:=dq;subst this;exact .v _ _ rfl
 | J t k es=>simp only[aE.gl,aW]at h;subst h;exact dq.1.frame fun b q _ aL=>⟨tag t b q hm aL,rfl⟩
 | ptr=>cases h
 | cL=>cases h
 | gC=>cases h
 | fp=>cases h
 | hU ds off=>
  simp only[aE.gl]at h;split at h
  ·rename_i bc;subst bc;simp only[aW]at h;subst h;obtain⟨b,rfl,aH⟩:=dq;exact aH.frame fun b q _ aL=>⟨p0 b aL,rfl⟩
  cases h
 | fd dK=>simp only[aE.gl,aW]at h;subst h;exact b1.frame dq fun b q _ aL=>⟨p0 b aL,rfl⟩
 | dt t k es=>simp only[aE.gl,aW]at h;subst h;exact b1.frame dq.1 fun b q _ aL=>⟨p0 b aL,rfl⟩
 | aP t i j k es m=>
  obtain⟨u,hu,aH,_⟩:=dq;cases m with
  | at_ x z=>cases h
  | here=>simp only[aE.gl,aW]at h;subst h;have:y=u:=hu;subst this;exact aH.frame fun b q _ aL=>⟨j9 b t _ aL hm,rfl⟩
  | lQ=>simp only[aE.gl,aW]at h;subst h;have:y=u:=hu;subst this;exact aH.frame fun b q _ aL=>⟨j9 b t _ aL hm,rfl⟩
variable{bs:lO}
theorem QF(ay:wm w ω τ bs){id b:Nat}(h:wT bs id=some d)(hm:(match dD id bs with | some ls=>ls.any (aE.pg ak) | none=>true)=false)(bc:ω b=.box id):
  b1 w (fL ak ω) Tag.free.R d (ptrTo b):=by
 unfold wT at h;cases e:dD id bs with
 | none=>simp[e]at h
 | some ls=>
  rw[e]at hm;simp only[hW,uV]at hm;simp only[e,nL,ca]at h;obtain⟨ds,U,rfl⟩:=h;obtain⟨dw,arr,ty,eM,hu,bD,dq⟩:=ay id ls e;have:=hu b bc;subst this;obtain⟨aa,aB⟩:=nx U;have cell:∀j d,ds[j]?=some d->arr[j]?=some (arr.getD j undef)/\b1 w (fL ak ω) Tag.free.R d (arr.getD j undef):=by
   intro j d aI;obtain⟨l,ar,c1⟩:=aB j d aI;obtain⟨u,gG,fw⟩:=dq.2 j l ar;have e2:arr.getD j undef=u:=by simp[eR,gG]
   rw[e2];exact⟨gG,QE c1 (hm l (fI ar)) fw⟩
  exact b1.ptr _ ds b arr ty (0,0) (fun j=>arr.getD j undef) bD (by show fL ak ω b=.bG;simp only[fL,bc]) (by have:=dq.1;omega) (fun j d aI=>(cell j d aI).1) (fun j d aI=>(cell j d aI).2.frame fun _ _ _ h=>⟨h,rfl⟩)
theorem apZ(ay:wm w ω τ bs)(h:l.j4 bs=some d)(hm:l.nr bs ak=false)(dq:Sat w ω τ l y):
  b1 w (fL ak ω) Tag.free.R d y:=by
 unfold aE.j4 at h;split at h
 ·rename_i id off;split at h
  ·rename_i bc;subst bc;obtain⟨b,U,rfl⟩:=dq;exact QF ay h hm U
  cases h
 ·rename_i g ids;rw[ca]at h;obtain⟨ds,U,rfl⟩:=h;obtain⟨nZ,rfl,a',hi⟩:=dq;obtain⟨aa,aB⟩:=nx U;simp only[aE.nr,hW,uV]at hm;have cell:∀j d,ds[j]?=some d->(nZ.map ptrTo).toArray[j]?=some ((nZ.map ptrTo).toArray.getD j undef)/\b1 w (fL ak ω) Tag.free.R d ((nZ.map ptrTo).toArray.getD j undef):=by
   intro j d aI;obtain⟨id,hid,Hh⟩:=aB j d aI;obtain⟨b,gD,hx⟩:=hi j id hid;have e1:(nZ.map ptrTo).toArray[j]?=some (ptrTo b):=by simp[gD]
   have e2:(nZ.map ptrTo).toArray.getD j undef=ptrTo b:=by rw[eR,e1];rfl
   rw[e2];exact⟨e1,QF ay Hh (hm id (fI hid)) hx⟩
  exact b1.a8 _ g ds _ (fun j=>(nZ.map ptrTo).toArray.getD j undef) (by simp;omega) (fun j d aI=>(cell j d aI).1) (fun j d aI=>(cell j d aI).2.frame fun _ _ _ h=>⟨h,rfl⟩)
 rename_i CZ Zc;have zq:l.pg ak=false:=by
  unfold aE.nr at hm;split at hm
  ·exact absurd rfl (CZ _ _)
  ·exact absurd rfl (Zc _ _)
  exact hm
 exact QE h zq dq
structure XD (w:World) (ω:Own) (τ:Nat->Nat×Value) (ak:List dr) (i j:Nat) (c:eL) (aq:List dr) (y:Value):Prop where
 gc:uZ w (fL ak ω) (fu i j) c y
 at_:∀h∈aq,h.i=i/\h.j=j/\Ce w ω τ h y/\c=.e3 h.k h.es h.post
 one:y.oneCell'=true
variable{i:Nat}
theorem Jm(cN:ov ak=true)(ay:wm w ω τ bs){j:Nat}{m:pG}{c:eL}{aq:List dr}{rx:List aE}
  (h:wV bs i j m l=some (c,aq,rx)) (jj:∀x∈aq,x∈ak) (xl:∀x∈rx,x.nr bs ak=false) (dq:Sat w ω τ l y):XD w ω τ ak i j c aq y:=by
 unfold wV at h;split at h
 ·rw[ca]at h;obtain⟨d,U,h⟩:=h;simp only[bA]at h;obtain⟨rfl,rfl,rfl⟩:=h;have:=apZ ay U (xl _ (by simp)) dq;exact⟨this,fun x aq=>by simp at aq,this.pk⟩
 ·rename_i post t k es;simp only[aW,bA]at h;obtain⟨rfl,rfl,rfl⟩:=h;have q6:=jj _ (kG);refine⟨dq.1.frame fun b q _ aL=>⟨?_,rfl⟩,fun x aq=>?_,dq.1.pk⟩
  ·simp only[Tag.R]at aL ⊢;simp only[fL,aL];have:=Jj (t:=t) (q:=q) (dU:=q) cN q6 (QA ⟨i,j,t,none,k,es,post⟩ q);simp only[this]
  simp only[List.mem_singleton]at aq;subst aq;exact⟨rfl,rfl,⟨dq.1.frame fun b q _ aL=>⟨aL,rfl⟩,fun _=>dq.2,fun a b e=>by cases e⟩,rfl⟩
 ·rename_i post t a b k es;simp only[aW,bA]at h;obtain⟨rfl,rfl,rfl⟩:=h;have q6:=jj _ (kG);obtain⟨fy,q9,dq⟩:=dq;have:y=fy:=q9;subst this;refine⟨dq.1.frame fun c q _ aL=>⟨?_,rfl⟩,fun x aq=>?_,dq.1.pk⟩
  ·simp only[Tag.R]at aL ⊢;simp only[fL,aL];have:=Jj (t:=t) (q:=(a,b)::q) (dU:=q) cN q6 (QA ⟨i,j,t,some (a,b),k,es,post⟩ q);simp only[this]
  simp only[List.mem_singleton]at aq;subst aq;refine⟨rfl,rfl,⟨dq.1.frame fun b q _ aL=>⟨aL,rfl⟩,fun e=>(by cases e),fun cI dw e=>?_⟩,rfl⟩;simp only[aW,bA]at e;obtain⟨rfl,rfl⟩:=e;exact dq.2 rfl
 cases h
theorem QG:∀{ms:List pG} {ls:List aE} {j:Nat} {cs:List eL} {aq:List dr} {rx:List aE},pr bs i j ms ls=some (cs,aq,rx)->cs.length=ls.length
 | [],[],j,cs,aq,rx,h=>by simp only[pr,aW,bA]at h;obtain⟨rfl,_,_⟩:=h;rfl
 | m::ms,l::ls,j,cs,aq,rx,h=>by
  simp only[pr]at h;split at h
  ·rename_i c U bE N1 lx yr e1 e2;simp only[aW,bA]at h;obtain⟨rfl,_,_⟩:=h;simp[QG e2]
  cases h
 | [],_::_,j,cs,aq,rx,h=>by simp[pr]at h
 | _::_,[],j,cs,aq,rx,h=>by simp[pr]at h
theorem QH:∀{ms:List pG} {ls:List aE} {j:Nat} {cs:List eL} {aq:List dr} {rx:List aE},pr bs i j ms ls=some (cs,aq,rx)->
  (∀(x:Nat) (c:eL),cs[x]?=some c->∃l m U bE,ls[x]?=some l/\wV bs i (j+x) m l=some (c,U,bE)/\(∀z∈U,z∈aq)/\(∀z∈bE,z∈rx))/\
  (∀h∈aq,∃(x:Nat) (c:eL) (l:aE) (m:pG) (U:List dr) (bE:List aE),cs[x]?=some c/\ls[x]?=some l/\wV bs i (j+x) m l=some (c,U,bE)/\h∈U/\(∀z∈U,z∈aq)/\(∀z∈bE,z∈rx))
 | [],[],j,cs,aq,rx,h=>by
  simp only[pr,aW,bA]at h;obtain⟨rfl,rfl,rfl⟩:=h;exact⟨fun x c ao=>by simp at ao,fun h bD=>by simp at bD⟩
 | m::ms,l::ls,j,cs,aq,rx,h=>by
  simp only[pr]at h;split at h
  ·rename_i c U bE N1 lx yr e1 e2;simp only[aW,bA]at h;obtain⟨rfl,rfl,rfl⟩:=h;obtain⟨c7,bQ⟩:=QH e2;refine⟨fun x j5 ao=>?_,fun z bp=>?_⟩
   ·cases x with
    | zero=>
     simp only[lg,aW]at ao;subst ao;exact⟨l,m,U,bE,rfl,e1,fun z bp=>iy _ bp,fun z bp=>iy _ bp⟩
    | succ x=>
     obtain⟨gH,jn,aa,b0,g1,g2,g3,g4⟩:=c7 x j5 (by simpa using ao);exact⟨gH,jn,aa,b0,by simpa using g1,by rw[show j+(x+1)=j+1+x by omega];exact g2,fun z bp=>jD _ (g3 z bp),fun z bp=>jD _ (g4 z bp)⟩
   rcases lM.1 bp with bp | bp
   ·exact⟨0,c,l,m,U,bE,rfl,rfl,e1,bp,fun z bp=>iy _ bp,fun z bp=>iy _ bp⟩
   obtain⟨x,j5,gH,jn,aa,b0,g0,g1,g2,g5,g3,g4⟩:=bQ z bp;exact⟨x+1,j5,gH,jn,aa,b0,by simpa using g0,by simpa using g1,by rw[show j+(x+1)=j+1+x by omega];exact g2,g5,fun z bp=>jD _ (g3 z bp),fun z bp=>jD _ (g4 z bp)⟩
  cases h
 | [],_::_,j,cs,aq,rx,h=>by simp[pr]at h
 | _::_,[],j,cs,aq,rx,h=>by simp[pr]at h
structure XC (w:World) (ω:Own) (τ:Nat->Nat×Value) (ak:List dr) (i:Nat) (eY:GA) (aq:List dr) (y:Value):Prop where
 X2:NJ w (fL ak ω) i eY y
 at_:∀h∈aq,h.i=i/\Ce w ω τ h (cellOf y h.j)/\eY.cell h.j=some (.e3 h.k h.es h.post)
theorem QI(cN:ov ak=true)(ay:wm w ω τ bs){ms:List pG}{p:aG}{eY:GA}{aq:List dr}{rx:List aE}
  (h:yO bs i ms p=some (eY,aq,rx)) (jj:∀x∈aq,x∈ak) (xl:∀x∈rx,x.nr bs ak=false) (dq:cO (Sat w ω τ) p y):XC w ω τ ak i eY aq y:=by
 unfold yO at h;split at h
 ·rename_i l;split at h
  ·rename_i m;rw[ca]at h;obtain⟨⟨c,U,bE⟩,e,h⟩:=h;simp only[bA]at h;obtain⟨rfl,rfl,rfl⟩:=h;have:=Jm cN ay e jj xl dq;refine⟨this.gc,fun x aq=>?_⟩;obtain⟨e1,e2,cn,ed⟩:=this.at_ x aq;have XX:cellOf y x.j=y:=by rw[e2,cellOf,zY this.one];rfl
   rw[XX];exact⟨e1,cn,by simp[GA.cell,e2,ed]⟩
  cases h
 ·rename_i ls;rw[ca]at h;obtain⟨⟨cs,U,bE⟩,e,h⟩:=h;simp only[bA]at h;obtain⟨rfl,rfl,rfl⟩:=h;obtain⟨us,rfl,a',hu⟩:=dq;obtain⟨c7,bQ⟩:=QH e;refine⟨⟨us,rfl,by rw[QG e];exact a',fun x c ao=>?_⟩,fun z bp=>?_⟩
  ·obtain⟨l,m,aa,b0,g1,g2,g3,g4⟩:=c7 x c ao;obtain⟨u,gG,fw⟩:=hu x l g1;rw[dW]at g2;exact⟨u,gG,(Jm cN ay g2 (fun z bp=>jj z (g3 z bp)) (fun z bp=>xl z (g4 z bp)) fw).gc⟩
  obtain⟨x,c,l,m,aa,b0,g0,g1,g2,g5,g3,g4⟩:=bQ z bp;obtain⟨u,gG,fw⟩:=hu x l g1;rw[dW]at g2;obtain⟨e1,e2,cn,ed⟩:=(Jm cN ay g2 (fun z bp=>jj z (g3 z bp)) (fun z bp=>xl z (g4 z bp)) fw).at_ z g5;refine⟨e1,?_,by simp only[GA.cell,e2,g0,ed]⟩;have:cellOf (.agg us) z.j=u:=by simp[cellOf,Value.cells,e2,eR,gG]
  rw[this];exact cn
 cases h
theorem QJ:∀{IH:List (List pG)} {b7:List aG} {i:Nat} {gs:List GA} {aq:List dr} {rx:List aE},u4 bs i IH b7=some (gs,aq,rx)->gs.length=b7.length/\
  (∀(x:Nat) (eY:GA),gs[x]?=some eY->∃p ms U bE,b7[x]?=some p/\yO bs (i+x) ms p=some (eY,U,bE)/\(∀z∈U,z∈aq)/\(∀z∈bE,z∈rx))/\
  (∀h∈aq,∃(x:Nat) (eY:GA) (p:aG) (ms:List pG) (U:List dr) (bE:List aE),gs[x]?=some eY/\b7[x]?=some p/\yO bs (i+x) ms p=some (eY,U,bE)/\h∈U/\(∀z∈U,z∈aq)/\(∀z∈bE,z∈rx))
 | [],[],i,gs,aq,rx,h=>by
  simp only[u4,aW,bA]at h;obtain⟨rfl,rfl,rfl⟩:=h;exact⟨rfl,fun x c ao=>by simp at ao,fun h bD=>by simp at bD⟩
 | m::ms,l::ls,i,gs,aq,rx,h=>by
  simp only[u4]at h;split at h
  ·rename_i c U bE N1 lx yr e1 e2;simp only[aW,bA]at h;obtain⟨rfl,rfl,rfl⟩:=h;obtain⟨dk,c7,bQ⟩:=QJ e2;refine⟨by simp[dk],fun x j5 ao=>?_,fun z bp=>?_⟩
   ·cases x with
    | zero=>
     simp only[lg,aW]at ao;subst ao;exact⟨l,m,U,bE,rfl,e1,fun z bp=>iy _ bp,fun z bp=>iy _ bp⟩
    | succ x=>
     obtain⟨gH,jn,aa,b0,g1,g2,g3,g4⟩:=c7 x j5 (by simpa using ao);exact⟨gH,jn,aa,b0,by simpa using g1,by rw[show i+(x+1)=i+1+x by omega];exact g2,fun z bp=>jD _ (g3 z bp),fun z bp=>jD _ (g4 z bp)⟩
   rcases lM.1 bp with bp | bp
   ·exact⟨0,c,l,m,U,bE,rfl,rfl,e1,bp,fun z bp=>iy _ bp,fun z bp=>iy _ bp⟩
   obtain⟨x,j5,gH,jn,aa,b0,g0,g1,g2,g5,g3,g4⟩:=bQ z bp;exact⟨x+1,j5,gH,jn,aa,b0,by simpa using g0,by simpa using g1,by rw[show i+(x+1)=i+1+x by omega];exact g2,g5,fun z bp=>jD _ (g3 z bp),fun z bp=>jD _ (g4 z bp)⟩
  cases h
 | [],_::_,i,gs,aq,rx,h=>by simp[u4]at h
 | _::_,[],i,gs,aq,rx,h=>by simp[u4]at h
def DL:List dr->Option (Nat×Nat)
 | []=>none
 | h::r=>match h.p with | some p=>some (h.t,p.1) | none=>DL r
theorem QK:∀{ak:List dr},DL ak=none->∀h∈ak,h.p=none
 | [],_,h,bD=>by cases bD
 | x::r,e,h,bD=>by
  simp only[DL]at e;split at e
  ·cases e
  rename_i hp;rcases eK.1 bD with rfl | bD
  ·exact hp
  exact QK e h bD
def AL(a:Nat):List dr->List Prop
 | []=>[]
 | h::r=>match h.p with | some p=>(p.1=a)::AL a r | none=>AL a r
theorem Jn{a:Nat}:∀{ak:List dr},cK (AL a ak)->∀h∈ak,∀p,h.p=some p->p.1=a
 | [],_,h,bD,_,_=>by cases bD
 | x::r,bc,h,bD,p,hp=>by
  simp only[AL]at bc;split at bc
  ·rename_i q aL;rcases eK.1 bD with rfl | bD
   ·rw[hp]at aL;rw[gd aL];exact bc.1
   exact Jn bc.2 h bD p hp
  rename_i aL;rcases eK.1 bD with rfl | bD
  ·rw[hp]at aL;cases aL
  exact Jn bc h bD p hp
def Jo(st:aF)(ak:List dr)(src:Nat)(ds:List D):Option (Nat×Nat×List (List D)×List Prop):=
 match DL ak with
 | none=>some (0,0,[],[])
 | some (t,a)=>
  match (st.env.getD src .cw).leaf with
  | some (.J (.own s) k es)=>
   if s=t/\ds.length=k/\ak.all (fun h=>match h.p with | some _=>h.t==t&&h.post.isSome | none=>true)=true then
    some (t,k,es.set a (mC ak ds),(es[a]?=some ds)::AL a ak)
   else none
  | _=>none
theorem ap0{w0:eE}{st:aF}{a:Act}(aZ:cD w0 st a w ω τ){src:Nat}{ds:List D}{t k:Nat}{es:List (List D)}{obs:List Prop}
  (h:Jo st ak src ds=some (t,k,es,obs)) (bc:cK obs):NM w ω τ ak t k es:=by
 unfold Jo at h;split at h
 ·rename_i a';exact⟨fun x aq p hp _=>by rw[QK a' x aq]at hp;cases hp⟩
 rename_i dn cI b8;split at h
 ·rename_i s cu cv ar;split at h
  ·rename_i ao;obtain⟨rfl,pX,hQ⟩:=ao;simp only[aW,bA]at h;obtain⟨rfl,rfl,rfl,rfl⟩:=h;rw[fU]at hQ;refine⟨fun x aq p hp _=>?_⟩;have pa:∃y,Sat w ω τ (.J (.own s) cu cv) y:=by
    rw[kY]at ar;cases e:st.env[src]? with
    | none=>rw[e]at ar;simp[aG.leaf]at ar
    | some p=>
     rw[e]at ar;obtain⟨v,_,aa⟩:=aZ.env src p e;exact⟨v,aG.dN ar aa⟩
   obtain⟨y,bM⟩:=pa;refine⟨cv,y,ds,cI,bM,bc.1,pX,rfl,fun z bp q aL=>?_⟩;have U:=hQ z bp;simp only[aL,cH,kE,qO]at U;exact⟨U.1,Jn bc.2 z bp q aL,U.2⟩
  cases h
 cases h
def Jp(P:Program)(st:aF)(d:Option Nat)(f:FuncId)(args:List Operand)(ans:List cd):Option (aF×List cd×List Prop):=
 match ans with
 | .qH vv src ds rs::r=>
  match u4 st.boxes 0 vv (args.map st.bn) with
  | some (gs,ak,px)=>
   match Jo st ak src ds with
   | some (hM,oe,pL,obs)=>
    let t0:=10000*(d.getD 0+1)
    if hj P f=true/\uf rs=true/\t0+10000<=da/\ov ak=true/\px.all (fun l=>!(l.nr st.boxes ak))=true/\ak.all (fun h=>!(decide (t0<=h.t)&&decide (h.t<t0+10000)))=true then
     let bu:=st.map (rl ak t0 hM oe pL)
     match d with
     | some d=>some (⟨bu.env.set d (s7 t0 rs),bu.boxes⟩,r,kl P f gs rs::obs)
     | none=>some (bu,r,kl P f gs rs::obs)
    else none
   | none=>none
  | none=>none
 | _=>none
theorem ap1{P:Program}{w0:eE}{st bu:aF}{a:Act}{dst:Option Nat}{f:FuncId}{args:Array Operand}{ts:Array TypeId}{type:TypeId}{pos:String}{after:Array Edge}{guard:Option (Nat×Bool)}{ans cm:List cd}{obs:List Prop}
  (aZ:cD w0 st a w ω τ) (h:Jp P st dst f args.toList ans=some (bu,cm,obs)) (bc:cK obs) {K:Act->World->Prop} {Q:Exit->Act->World->Prop} (hH:∀cI aN,Rel w0 bu cI aN->K cI aN):
  Oper.wp P ⟨dst,.call ⟨.value (.func f),args,ts⟩,type,pos,after,guard⟩ a w K Q:=by
 unfold Jp at h;split at h
 ·rename_i vv src ds rs r;split at h
  ·rename_i gs ak px mu;split at h
   ·rename_i hM oe pL fT jj;simp only at h;split at h
    ·rename_i ao;obtain⟨jh,ee,iL,cN,C7,xk⟩:=ao;rw[fU]at C7 xk;have zx:∀l∈px,l.nr st.boxes ak=false:=fun l ar=>by simpa using C7 l ar
     have Zn:∀h∈ak,¬(10000*(dst.getD 0+1)<=h.t/\h.t<10000*(dst.getD 0+1)+10000):=fun h bD=>by
      have:=xk h bD;simp only[i',Bool.and_eq_false_iff,nR]at this;omega
     obtain⟨hlen,c7,bQ⟩:=QJ mu;have gR:∀(x:Nat) (p:aG),(args.toList.map st.bn)[x]?=some p->∃v,(args.map a.eval)[x]?=some v/\cO (Sat w ω τ) p v:=by
      intro x p hp;rw[dP,ca]at hp;obtain⟨o,U,rfl⟩:=hp;refine⟨a.eval o,?_,aZ.bn o⟩;rw[axa];rw[lJ]at U;rw[U];rfl
     have YJ:Gq w (fL ak ω) gs (args.map a.eval):=by
      refine⟨fun b ay=>?_,by simp[hlen],fun x eY aq=>?_⟩
      ·have dj:ω b≠.bG:=fun e=>ay (by simp only[fL,e])
       obtain⟨_,arr,ty,aJ⟩:=aZ.owned b dj;refine⟨?_,arr,ty,aJ⟩;simp only[fL]at ay ⊢;cases e:ω b with
       | bG=>simp[e]at ay
       | box id=>simp[e]at ay
       | tok t q=>
        simp only[e]at ay ⊢;cases e2:mW t q ak with
        | none=>simp[e2]at ay
        | some z=>
         obtain⟨g,dU⟩:=z;obtain⟨y,_,_,rfl⟩:=AI e2;exact⟨_,dU,rfl,by simp[fu]⟩
      obtain⟨p,ms,U,bE,g1,g2,g3,g4⟩:=c7 x eY aq;obtain⟨v,bx,vp⟩:=gR x p g1;rw[dW]at g2;exact⟨v,bx,(QI cN aZ.boxes g2 g3 (fun z bp=>zx z (g4 z bp)) vp).X2⟩
     have qY:∀h∈ak,Ce w ω τ h (cellOf ((args.map a.eval).getD h.i undef) h.j)/\∃eY,gs[h.i]?=some eY/\eY.cell h.j=some (.e3 h.k h.es h.post):=by
      intro h bD;obtain⟨x,eY,p,ms,U,bE,g0,g1,g2,g5,g3,g4⟩:=bQ h bD;obtain⟨v,bx,vp⟩:=gR x p g1;rw[dW]at g2;obtain⟨e1,e2,cn⟩:=(QI cN aZ.boxes g2 g3 (fun z bp=>zx z (g4 z bp)) vp).at_ h g5;have bn:(args.map a.eval).getD h.i undef=v:=by rw[e1,eR,bx];rfl
      rw[bn];exact⟨e2,eY,by rw[e1];exact g0,cn⟩
     have fv:(execOp a.eval ⟨dst,.call ⟨.value (.func f),args,ts⟩,type,pos,after,guard⟩).run P w=.ok (.enter f (args.map a.eval)) w:=by
      unfold hj at jh;split at jh
      ·rename_i fn kL;simp only[cH,i',yC,nQ]at jh;have sf:fn.body≠none:=by intro e;rw[e]at jh;simp at jh
       simp[execOp,resolve,Act.eval,Deferred.ofValue,invoke,callFunc,kL,jh.1,sf]
      cases jh
     have key:kl P f gs rs->cK fT->(∀v aN bd cR,cD w0 (st.map (rl ak (10000*(dst.getD 0+1)) hM oe pL)) a aN bd cR->cO (Sat aN bd cR) (s7 (10000*(dst.getD 0+1)) rs) v->K (a.put dst v) aN)->
       Oper.wp P ⟨dst,.call ⟨.value (.func f),args,ts⟩,type,pos,after,guard⟩ a w K Q:=by
      intro HK HD Ob;unfold Oper.wp;rw[fv];simp only[Oper.upon];refine (HK w _ _ YJ (aZ.tidy fun b ay=>by simp only[fL,ay])).mono ?_;rintro e aN ⟨v,rfl,k2,fh,bK,ct,cG,eo⟩;obtain⟨bd,cR,U,aa⟩:=aZ.XR (10000*(dst.getD 0+1)) cN ee iL Zn k2 fh bK ct eo (fun h=>cellOf ((args.map a.eval).getD h.i undef) h.j)
       (fun h bD cv he=>by
        obtain⟨_,eY,g1,g2⟩:=qY h bD;rw[he]at g2;exact cG h.i h.j eY h.k h.es cv g1 g2)
       (fun h bD=>(qY h bD).1) (ap0 aZ jj HD)
      exact Ob v aN bd cR U aa
     cases dst with
     | none=>
      simp only[aW,bA]at h;obtain⟨rfl,_,rfl⟩:=h;exact key bc.1 bc.2 fun v aN bd cR U _=>hH _ _ ⟨bd,cR,U⟩
     | some d=>
      simp only[aW,bA]at h;obtain⟨rfl,_,rfl⟩:=h;exact key bc.1 bc.2 fun v aN bd cR U aa=>hH _ _ ⟨bd,cR,U.put aa⟩
    cases h
   cases h
  cases h
 cases h
