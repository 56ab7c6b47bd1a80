import Derived.Test.YtdchjefneblpgaaGreatR6
set_option linter.unusedVariables false
set_option linter.unusedSimpArgs false
namespace Go.Sx
open Go.RowKit
def xq(t:Nat)(ms:ic)(k:Nat)(cD:List (List D)):aF->aF
 | .J (.own s) ch es=>if s=t then .J (.own t) k cD else if (ms.at s).isSome then .cp else .J (.own s) ch es
 | .ep (.own s) ch es i j=>if s=t then .ep (.own t) k cD i j else if (ms.at s).isSome then .cp else .ep (.own s) ch es i j
 | .J (.ro s) ch es=>if s=t then .cp else if (ms.at s).isSome then .cp else .J (.ro s) ch es
 | .ep (.ro s) ch es i j=>if s=t then .cp else if (ms.at s).isSome then .cp else .ep (.ro s) ch es i j
 | .aN s a b dm dR m=>if s=t then .cp else if (ms.at s).isSome then .cp else .aN s a b dm dR m
 | .fD _ _=>.cp
 | l=>l
def nG(t:Nat)(ms:ic):dr->dr
 | .tok s q=>if s=t then .tok s q else match ms.at s with | some p=>.tok t (p::q) | none=>.tok s q
 | o=>o
variable{t:Nat}{ms:ic}
theorem FR{o:dr}{id:Nat}:nG t ms o=.box id<->o=.box id:=by
 cases o with
 | bM=>simp[nG]
 | box i=>simp[nG]
 | tok s q=>
  grind[nG]
theorem awN{o:dr}:nG t ms o=.bM<->o=.bM:=by
 cases o with
 | bM=>simp[nG]
 | box i=>simp[nG]
 | tok s q=>
  grind[nG]
variable{i j:Nat}{ds:List D}
theorem LO{es:List (List D)}{x:Nat}(hi:i<es.length):df (es.set i ds) x j=if x=i then ds[j]? else df es x j:=by
 unfold df;grind
def lS(ds:List D)(off:Nat)(xs:List D):List D:=ds.take off++(xs++ds.drop (off+xs.length))
theorem SE{xs:List D}{off:Nat}(h:off+xs.length<=ds.length):(lS ds off xs)[i]?=if off<=i/\i<off+xs.length then xs[i-off]? else ds[i]?:=by
 unfold lS;grind
theorem SF{xs:List D}{off:Nat}(h:off+xs.length<=ds.length):(lS ds off xs).length=ds.length:=by
 grind[lS]
def LP(t:Nat)(ms:ic):Bool:=ms.all fun x=>x.1≠t&&(match ms.at x.1 with | some p=>p.1==x.2.1&&p.2==x.2.2 | none=>false)
theorem awO(h:LP t ms=true){s:Nat}{p:Nat×Nat}(hm:(s,p)∈ms):s≠t/\ms.at s=some p:=by
 have h1:=gA.1 h _ hm;grind
theorem LQ(i:Nat):∀(xs:List aF) (j:Nat),l0 i j xs=(l0 0 j xs).map fun x=>(x.1,(i,x.2.2))
 | [],_=>rfl
 | l::ls,j=>by
  simp only[l0];split
  ·simp only[lN,te,true_and];exact LQ i ls (j+1)
  exact LQ i ls (j+1)
theorem SG(i s:Nat):∀ms:ic,ic.at s (ms.map fun x=>(x.1,(i,x.2.2)))=(ic.at s ms).map fun p=>(i,p.2)
 | []=>rfl
 | (a,p)::r=>by
  simp only[lN,ic.at];split
  ·rfl
  simp_all[SG]
theorem LR(i0:Nat):∀(xs:List aF) (j s:Nat) (p:Nat×Nat),(s,p)∈l0 i0 j xs->p.1=i0
 | [],_,_,_,h=>by grind[l0]
 | l::ls,j,s,p,h=>by
  simp only[l0]at h;split at h
  ·rcases eH.1 h with h | h
   ·simp only[bK]at h;rw[h.2]
   exact LR i0 ls (j+1) s p h
  exact LR i0 ls (j+1) s p h
theorem SH{xs:List aF}(h:LP t (l0 0 j xs)=true){s:Nat}{p:Nat×Nat}(hm:(s,p)∈l0 i j xs):s≠t/\(l0 i j xs).at s=some p:=by
 have hp:=LR i xs j s p hm;rw[LQ]at hm ⊢;obtain⟨⟨uz,ry⟩,h1,U⟩:=lh.1 hm;simp only[bK]at U;obtain⟨rfl,U⟩:=U;obtain⟨aA,aJ⟩:=awO h h1;simp_all[SG]
def wG.flat:wG->Bool
 | .at_ _ _=>false
 | _=>true
def vo(t:Nat):Nat->List aF->Option (List D×List Nat)
 | _,[]=>some ([],[])
 | j,.aN s a b k es m::ls=>if s=t/\b=j/\m.flat=true then (vo t (j+1) ls).map fun r=>(.J k es::r.1,a::r.2) else none
 | j,l::ls=>
  match l.jn,vo t (j+1) ls with
  | some d,some r=>some (d::r.1,r.2)
  | _,_=>none
theorem SI:∀{xs:List aF} {j:Nat} {ys:List D} {is:List Nat},vo t j xs=some (ys,is)->ys.length=xs.length/\
  ∀(y:Nat) (d:D),ys[y]?=some d->∃l,xs[y]?=some l/\(l.jn=some d\/∃a k es m,l=.aN t a (j+y) k es m/\m.flat=true/\a∈is/\d=.J k es)
 | [],j,ys,is,h=>by
  grind[vo,aX,bK]
 | l::ls,j,ys,is,h=>by
  have fin:∀d0 IL KW Ft,ys=d0::IL->is=Ft->(∀a∈KW,a∈Ft)->vo t (j+1) ls=some (IL,KW)->(l.jn=some d0\/∃a k es m,l=.aN t a j k es m/\m.flat=true/\a∈Ft/\d0=.J k es)->ys.length=(l::ls).length/\
    ∀(y:Nat) (d:D),ys[y]?=some d->∃x,(l::ls)[y]?=some x/\(x.jn=some d\/∃a k es m,x=.aN t a (j+y) k es m/\m.flat=true/\a∈is/\d=.J k es):=by
   rintro d0 IL KW Ft rfl rfl jV aD bO;obtain⟨h1,U⟩:=SI aD;refine⟨by simp[h1],fun y d aE=>?_⟩;cases y with
   | zero=>
    simp only[mE,aX]at aE;subst aE;exact⟨l,rfl,bO⟩
   | succ y=>
    obtain⟨x,af,aA⟩:=U y d (by simpa using aE);refine⟨x,by simpa using af,?_⟩;rcases aA with aA | ⟨a,k,es,m,aJ,a',bu,b1⟩
    ·exact .inl aA
    exact .inr ⟨a,k,es,m,by rw[aJ,show j+1+y=j+(y+1) by omega],a',jV a bu,b1⟩
  have plain:(match l.jn,vo t (j+1) ls with | some d,some r=>some (d::r.1,r.2) | _,_=>none)=some (ys,is)->ys.length=(l::ls).length/\
    ∀(y:Nat) (d:D),ys[y]?=some d->∃x,(l::ls)[y]?=some x/\(x.jn=some d\/∃a k es m,x=.aN t a (j+y) k es m/\m.flat=true/\a∈is/\d=.J k es):=by
   grind
  cases l with
  | aN s a b k es m=>
   simp only[vo]at h;split at h
   ·rename_i ak;obtain⟨rfl,rfl,hm⟩:=ak;rw[b9]at h;grind
   cases h
  | _=>exact plain h
theorem FT:∀{l:List Nat},cQ (l.map fun a=>a=i)->∀a∈l,a=i
 | [],_,a,h=>by cases h
 | x::l,a7,a,h=>by
  rcases eH.1 h with rfl | h
  ·exact a7.1
  exact FT a7.2 a h
def LS(P:Program)(st:aC)(ty:TypeId)(t k:Nat)(es:List (List D))(i j:Nat)(q:aI)(ans:List cd):Stepped:=
 match q.leaves,P.info? ty,ans with
 | some xs,some inf,.el ds::r=>
  match vo t j xs with
  | some (ys,is)=>
   if xs.length=inf.size/\ds.length=k/\j+ys.length<=k/\LP t (l0 0 j xs)=true then
    some (st.map (xq t (l0 i j xs) k (es.set i (lS ds j ys))),r,(es[i]?=some ds)::is.map fun a=>a=i)
   else none
  | none=>none
 | _,_,_=>none
theorem cK.aBt{P:Program}{w0:eR}{st bz:aC}{a:Act}{w:World}{ω:Own}{τ:Nat->Nat×Value}{ty:TypeId}{k:Nat}{es:List (List D)}{q:aI}{v y:Value}{ans cu:List cd}{obs:List Prop}
  (a6:cK w0 st a w ω τ) (hp:Sat w ω τ (.ep (.own t) k es i j) y) (aH:cV (Sat w ω τ) q v) (h:LS P st ty t k es i j q ans=some (bz,cu,obs)) (a7:cQ obs):
  ∃aP,(Instr.storeAt ty y v).run P w=.ok () aP/\Rel w0 bz a aP:=by
 unfold LS at h;split at h
 ·rename_i xs inf ds r e1 e2;split at h
  ·rename_i ys is cj;split at h
   ·rename_i ak;obtain⟨mP,me,lV,y5⟩:=ak;simp only[aX,bK]at h;obtain⟨rfl,_,rfl⟩:=h;have fc:es[i]?=some ds:=a7.1;obtain⟨ao,rc⟩:=aI.zt e1 aH;obtain⟨RV,KS⟩:=SI cj;have acL:=FT a7.2;obtain⟨b,off,cap,rfl,ki,aD,bN⟩:=hp;simp only[Tag.ei]at bN;cases aD with
    | nil=>simp at ki
    | row R k es b off cap arr jo cZ us aw ed fZ dM hn hu aE=>
     have lT:ω b=.tok t []:=ed;obtain⟨wX,uM,wi,ih⟩:=a6.owned b (by grind);rw[aw]at ih;simp only[aX,Obj.cells.injEq]at ih;obtain⟨rfl,rfl,rfl⟩:=ih;have wT:b<w.heap.size:=(kf.1 aw).1;have hmul:(i+1)*k<=cap*k:=im _ (by omega);rw[hT]at hmul;have ss:v.cells.size=xs.length:=ao.1;have er:off+i*k+j+v.cells.toList.length<=arr.size:=by simp;omega
     have fm:=run_storeCells_at P b (off+i*k+j) jo v.cells.toList 0 arr w aw (by grind) rc;simp only[oI]at fm;generalize p9:(arr.toList.take (off+i*k+j)++v.cells.toList++arr.toList.drop (off+i*k+j+v.cells.toList.length)).toArray=cm at fm;have hJ:∀x:Nat,cm[x]?=if off+i*k+j<=x/\x<off+i*k+j+xs.length then v.cells[x-(off+i*k+j)]? else arr[x]?:=by
      intro x;rw[<-p9,pO,Cr (by grind)];simp[ss]
     have zk:cm.size=arr.size:=by rw[<-p9];simp;grind
     have lX:=setRow_heap w b arr cm jo (0,0) aw
     let ms:=l0 i j xs
     let bf:Own:=fun c=>nG t ms (ω c)
     have aDo:ms.at t=none:=by
      cases e:ms.at t with
      | none=>rfl
      | some p=>
       have sl:∀(ms:ic) (p:Nat×Nat),ms.at t=some p->(t,p)∈ms:=by
        intro ms;induction ms with
        | nil=>intro p h;cases h
        | cons x ms eg=>
         intro p h;obtain⟨s,ry⟩:=x;simp only[ic.at]at h;split at h
         ·grind
         grind
       grind[absurd,SH]
     have dt:∀c q,c<w.heap.size->ω c=.tok t q->bf c=.tok t q:=fun c q _ h=>by grind[nG]
     have oh:∀c p q,c<w.heap.size->ω c=.tok t (p::q)->bf c=.tok t (p::q)/\(w.setRow b cm).heap[c]?=w.heap[c]?:=by
      grind[setRow_other]
     have ju:∀(g:Tag) c q,g≠.own t->g≠.ro t->(∀s,g=.own s\/g=.ro s->ms.at s=none)->g.R q (ω c)->g.R q (bf c)/\(w.setRow b cm).heap[c]?=w.heap[c]?:=by
      intro g c q h1 U aA fe;have jS:c≠b:=fun e=>by
       rw[e,lT]at fe;cases g with
       | free=>cases fe
       | own s=>grind[Tag.R,dr.tok.injEq]
       | ro s=>
        rcases fe with h | ⟨ec,h⟩
        ·cases h
        grind
      refine⟨?_,setRow_other w b c cm jS⟩;cases g with
      | free=>grind[Tag.R,nG]
      | own s=>
       simp only[Tag.R]at fe ⊢;simp only[bf,fe,nG];split
       ·rfl
       grind
      | ro s=>
       simp only[Tag.R]at fe ⊢;rcases fe with h | ⟨ec,h⟩
       ·grind[nG]
       right;refine⟨ec,?_⟩;simp only[bf,h,nG];split
       ·rfl
       grind
     have ac7:b4 (w.setRow b cm) bf (Tag.own t).R (.J k (es.set i (lS ds j ys))) (.slice (some ⟨b,off,none⟩) es.length cap):=by
      have hlen:(es.set i (lS ds j ys)).length=es.length:=hc;have E8:ds.length=k:=me;have fw:∀x y d,df (es.set i (lS ds j ys)) x y=some d->∃u,cm[off+x*k+y]?=some u/\b4 (w.setRow b cm) bf (fun q=>(Tag.own t).R ((x,y)::q)) d u:=by
       intro x y d ej;rw[LO ki]at ej;by_cases af:x=i
       ·subst af;rw[bn rfl,SE (by omega)]at ej;split at ej
        ·rename_i bD;obtain⟨l,iZ,c3⟩:=KS _ _ ej;obtain⟨u,gU,fO⟩:=ao.2 _ _ iZ;rcases c3 with c3 | ⟨a,bt,bX,m,rfl,hm,abZ,rfl⟩
         case inr=>
          have ab1:=acL a abZ;subst ab1;obtain⟨fH,sr,rh,_⟩:=fO;have bE:u=fH:=by
           cases m with
           | at_ x y=>cases hm
           | here=>exact sr
           | mJ=>exact sr
          subst bE;refine⟨u,?_,rh.frame fun c q ak fe=>?_⟩
          ·rw[hJ,bn (by omega),<-gU]
           congr 1;omega
          rw[show j+(y-j)=y by omega]at fe;exact oh c _ _ ak fe
         refine⟨u,?_,?_⟩
         ·rw[hJ,bn (by omega),<-gU]
          congr 1;omega
         have sl:∀s,l.tok=some s->ms.at s=some (x,y)/\s≠t:=by
          intro s dp;have:=LM x xs j (y-j) l s iZ dp;rw[show j+(y-j)=y by omega]at this;grind[SH]
         cases l with
         | cp=>cases c3
         | v z=>
          simp only[aF.jn]at c3;split at c3
          ·simp only[aX]at c3;subst c3;have:u=z:=fO;subst this;exact .v _ _ ‹_›
          cases c3
         | bg c=>
          simp only[aF.jn,aX]at c3;subst c3;have:u=.bool c:=fO;subst this;exact .v _ _ rfl
         | ptr=>cases c3
         | ep=>cases c3
         | hQ=>cases c3
         | fd=>cases c3
         | dA=>cases c3
         | hg=>cases c3
         | aN=>cases c3
         | fD=>cases c3
         | J g bt bX=>
          cases g with
          | free=>cases c3
          | ro s=>cases c3
          | own s=>
           simp only[aF.jn,aX]at c3;subst c3;obtain⟨h1,U⟩:=sl s rfl;refine fO.1.frame fun c q ak fe=>?_
           simp only[Tag.R]at fe ⊢;refine⟨?_,setRow_other w b c cm fun e=>?_⟩
           ·simp only[bf,fe,nG];grind
           grind
        rename_i bD;have q4:df es x y=some d:=by grind[df]
        refine⟨us x y,?_,(aE x y d q4).frame fun c q ak fe=>oh c _ _ ak fe⟩;rw[hJ,bw (by omega),hu x y d q4]
       rw[bw af]at ej;obtain⟨gm,adP⟩:=t' hn ej;refine⟨us x y,?_,(aE x y d ej).frame fun c q ak fe=>oh c _ _ ak fe⟩;rw[hJ,bw ?_,hu x y d ej];rcases Nat.lt_or_gt_of_ne af with h | h
       ·have:(x+1)*k<=i*k:=im _ h;grind
       have:(i+1)*k<=x*k:=im _ h;grind
      have rj:∀e∈es.set i (lS ds j ys),e.length=k:=by
       grind[iq,SF]
      have:=b4.row (w:=w.setRow b cm) (ω:=bf) (Tag.own t).R k (es.set i (lS ds j ys)) b off cap cm jo (0,0) (fun x y=>cm.getD (off+x*k+y) undef) lX (dt b [] wT lT) (by omega) (by omega) rj
       (fun x y d eN=>by obtain⟨u,h1,_⟩:=fw x y d eN;rw[h1];simp[e7,h1])
       (fun x y d eN=>by obtain⟨u,h1,U⟩:=fw x y d eN;have:cm.getD (off+x*k+y) undef=u:=(by simp[e7,h1]);grind)
      grind
     have e0:∀l v,Sat w ω τ l v->Sat (w.setRow b cm) bf τ (xq t ms k (es.set i (lS ds j ys)) l) v:=by
      intro l v dp;have ac3:∀s,¬(ms.at s).isSome=true->ms.at s=none:=fun s h=>by
       cases e:ms.at s with
       | none=>rfl
       | some p=>simp[e]at h
      cases l with
      | cp=>exact trivial
      | v x=>exact dp
      | bg c=>exact dp
      | ptr id o=>
       obtain⟨c,ak,e⟩:=dp;exact⟨c,FR.2 ak,e⟩
      | aN s a fY dm dR m=>
       simp only[xq];split
       ·exact trivial
       rename_i h1;split
       ·exact trivial
       rename_i U;obtain⟨u,hu,oi,hm⟩:=dp;have kF:∀c q,ω c=.tok s q->bf c=.tok s q/\(w.setRow b cm).heap[c]?=w.heap[c]?:=fun c q fe=>
        ju (.own s) c q (by grind) (by simp) (fun uz h=>by
         grind) fe
       refine⟨u,hu,oi.frame fun c q _ fe=>kF c _ fe,fun o2=>?_⟩;obtain⟨kT,c,ru,ad4,qQ,k1,lf,wO,eC,a2,a3,a4⟩:=hm o2;obtain⟨e1,e2⟩:=kF c [] a2;exact⟨kT,c,ru,ad4,qQ,k1,lf,wO,eC,e1,e2.trans a3,a4⟩
      | fD=>exact trivial
      | hg f ids=>
       obtain⟨bs,e,aZ,hi⟩:=dp;refine⟨bs,e,aZ,fun i id hx=>?_⟩;obtain⟨b,h1,U⟩:=hi i id hx;exact⟨b,h1,FR.2 U⟩
      | hQ tu o=>
       obtain⟨c,e,e8⟩:=dp;exact⟨c,e,e8.frame fun c q _ fe=>ju .free c q (by simp) (by simp) (fun s h=>by grind) fe⟩
      | fd d=>
       exact b4.frame dp fun c q _ fe=>ju .free c q (by simp) (by simp) (fun s h=>by grind) fe
      | dA t2 bt bX=>exact⟨dp.1.frame fun c q _ fe=>ju .free c q (by simp) (by simp) (fun s h=>by grind) fe,dp.2⟩
      | J g bt bX=>
       cases g with
       | free=>exact⟨dp.1.frame fun c q _ fe=>ju .free c q (by simp) (by simp) (fun s h=>by grind) fe,aa⟩
       | own s=>
        simp only[xq];split
        ·rename_i Kg;subst Kg;have U:=dp.2;simp only[Tag.ei]at U;rw[bN]at U;simp only[bK]at U;rw[<-U.2];exact⟨ac7,bN⟩
        split
        ·exact trivial
        rename_i h1 U;exact⟨dp.1.frame fun c q _ fe=>ju (.own s) c q (by grind) (by simp) (fun uz h=>by
         grind) fe,dp.2⟩
       | ro s=>
        simp only[xq];split
        ·exact trivial
        split
        ·exact trivial
        rename_i h1 U;exact⟨dp.1.frame fun c q _ fe=>ju (.ro s) c q (by simp) (by grind) (fun uz h=>by
         grind) fe,aa⟩
      | ep g bt bX i2 o'=>
       obtain⟨fY,ru,qQ,e,od,oi,o2⟩:=dp;cases g with
       | free=>exact⟨fY,ru,qQ,e,od,oi.frame fun c q _ fe=>ju .free c q (by simp) (by simp) (fun s h=>by grind) fe,aa⟩
       | own s=>
        simp only[xq];split
        ·rename_i Kg;subst Kg;simp only[Tag.ei]at o2;rw[bN]at o2;simp only[bK,Value.slice.injEq,aX,Addr.mk.injEq]at o2;obtain⟨rfl,⟨rfl,rfl,_⟩,c3,rfl⟩:=o2;refine⟨b,off,cap,e,by simp;omega,?_,?_⟩
         ·grind
         rw[hc];exact bN
        split
        ·exact trivial
        rename_i h1 U;exact⟨fY,ru,qQ,e,od,oi.frame fun c q _ fe=>ju (.own s) c q (by grind) (by simp) (fun uz h=>by
         grind) fe,o2⟩
       | ro s=>
        simp only[xq];split
        ·exact trivial
        split
        ·exact trivial
        rename_i h1 U;exact⟨fY,ru,qQ,e,od,oi.frame fun c q _ fe=>ju (.ro s) c q (by simp) (by grind) (fun uz h=>by
         grind) fe,aa⟩
     refine⟨w.setRow b cm,?_,bf,τ,a6.dg _ e0 ?_ ?_ ?_ ?_⟩
     ·simp only[Instr.storeAt,Instr.sureAddr,Sem.run_bind,Sem.run_pure,Result.andThen_ok,storeVar,sizeOf,typeInfo,run_program,e2];grind
     ·exact a6.below.setRow wX cm
     ·intro c jS;have:ω c≠.bM:=fun e=>jS (awN.2 e)
      obtain⟨aA,k1,lf,aJ⟩:=a6.owned c this;grind[setRow_other]
     ·intro id c jS;exact⟨FR.2 jS,setRow_other w b c cm fun e=>by grind⟩
     intro id c jS;exact FR.1 jS
   cases h
  cases h
 cases h
end Go.Sx
namespace Go.Sx
open Go.RowKit
def my(w:World)(d:D)(y:Value):Prop:=b4 w (fun _=>.bM) Tag.free.R d y
def wy(w:World):cP->Value->Prop
 | .one d,y=>my w d y
 | .agg ds,y=>∃vs:Array Value,y=.agg vs/\vs.size=ds.length/\∀(i:Nat) (d:D),ds[i]?=some d->∃u,vs[i]?=some u/\my w d u
def FU(w:World)(gR:List cP)(vs:Array Value):Prop:=vs.size=gR.length/\∀(i:Nat) (cy:cP),gR[i]?=some cy->∃v,vs[i]?=some v/\wy w cy v
def mW(w:World)(ω:Own)(r:Nat):cP->Value->Prop
 | .one d,y=>b4 w ω (Tag.own (100*r)).R d y
 | .agg ds,y=>∃vs:Array Value,y=.agg vs/\vs.size=ds.length/\∀(j:Nat) (d:D),ds[j]?=some d->∃u,vs[j]?=some u/\b4 w ω (Tag.own (100*r+j)).R d u
def nH(w:World)(ω:Own)(rs:List cP)(v:Value):Prop:=
 match rs with
 | [cy]=>mW w ω 0 cy v
 | rs=>∃vs:Array Value,v=.tuple vs/\vs.size=rs.length/\∀(r:Nat) (cy:cP),rs[r]?=some cy->∃y,vs[r]?=some y/\mW w ω r cy y
def yK(w0 w:World)(rs:List cP)(v:Value):Prop:=
 ∃ω:Own,(∀b,b<w0.heap.size->ω b=.bM)/\(∀b,ω b≠.bM->(∃t q,ω b=.tok t q)/\∃arr ty,w.heap[b]?=some (.cells arr ty (0,0)))/\nH w ω rs v
def iV(P:Program)(f:FuncId)(args rs:List cP):Prop:=
 ∀(w:World) (vs:Array Value),qN w->FU w args vs->Calls P f vs w fun e aP=>∃v,e=.returned v/\hf w.heap.size w aP/\yK w aP rs v
def aF.gS:aF->Option D
 | .v x=>if x.oneCell' then some (.v x) else none
 | .bg c=>some (.v (.bool c))
 | .J _ k es=>some (.J k es)
 | .hQ ds off=>if off=0 then some (.ptr ds) else none
 | .fd d=>some d
 | .dA _ k es=>some (.J k es)
 | .aN _ _ _ k es .here=>some (.J k es)
 | .aN _ _ _ k es .mJ=>some (.J k es)
 | _=>none
abbrev mH:=List (Nat×List aF)
def yN(bs:mH)(id:Nat):Option D:=(dI id bs).bind fun ls=>(ls.mapM aF.gS).map .ptr
def aF.ky(bs:mH):aF->Option D
 | .ptr id off=>if off=0 then yN bs id else none
 | .hg g ids=>(ids.mapM (yN bs)).map (.cl g)
 | l=>l.gS
def bl.ky(bs:mH):bl->Option cP
 | .one l=>(l.ky bs).map .one
 | .agg ls=>(ls.mapM (aF.ky bs)).map .agg
def aI.ky(bs:mH):aI->Option cP
 | .aG a=>a.ky bs
 | _=>none
variable{w:World}{ω:Own}{d:D}{y:Value}
theorem b4.free{R:List (Nat×Nat)->dr->Prop}(h:b4 w ω R d y):my w d y:=
 h.frame fun _ _ _ _=>⟨rfl,rfl⟩
variable{τ:Nat->Nat×Value}
theorem aF.QI{l:aF}(h:l.gS=some d)(ao:Sat w ω τ l y):my w d y:=by
 cases l with
 | cp=>cases h
 | v x=>
  simp only[aF.gS]at h;split at h
  ·simp only[aX]at h;subst h;have:y=x:=ao;subst this;exact .v _ _ ‹_›
  cases h
 | bg c=>
  simp only[aF.gS,aX]at h;subst h;have:y=.bool c:=ao;subst this;exact .v _ _ rfl
 | J t k es=>simp only[aF.gS,aX]at h;subst h;exact ao.1.free
 | ptr=>cases h
 | ep=>cases h
 | hg=>cases h
 | fD=>cases h
 | hQ ds off=>
  simp only[aF.gS]at h;split at h
  ·rename_i a7;subst a7;simp only[aX]at h;subst h;obtain⟨b,rfl,aD⟩:=ao;exact aD.free
  cases h
 | fd dP=>simp only[aF.gS,aX]at h;subst h;exact b4.free ao
 | dA t k es=>simp only[aF.gS,aX]at h;subst h;exact b4.free ao.1
 | aN t i j k es m=>
  obtain⟨u,hu,aD,_⟩:=ao;cases m with
  | at_ x z=>cases h
  | here=>simp only[aF.gS,aX]at h;subst h;have:y=u:=hu;subst this;exact aD.free
  | mJ=>simp only[aF.gS,aX]at h;subst h;have:y=u:=hu;subst this;exact aD.free
def xr(w:World)(ω:Own)(τ:Nat->Nat×Value)(bs:mH):Prop:=∀id ls,dI id bs=some ls->uJ w ω τ id ls
variable{bs:mH}
theorem SJ(aw:xr w ω τ bs){id b:Nat}(h:yN bs id=some d)(a7:ω b=.box id):my w d (ptrTo b):=by
 unfold yN at h;cases e:dI id bs with
 | none=>simp[e]at h
 | some ls=>
  simp only[e,qG,b9]at h;obtain⟨ds,h1,rfl⟩:=h;obtain⟨dD,arr,ty,ey,hu,bN,ao⟩:=aw id ls e;have:=hu b a7;subst this;obtain⟨U,aA⟩:=ov h1;have cell:∀j d,ds[j]?=some d->arr[j]?=some (arr.getD j undef)/\my w d (arr.getD j undef):=by
   intro j d aE;obtain⟨l,al,c3⟩:=aA j d aE;obtain⟨u,gU,fO⟩:=ao.2 j l al;have e2:arr.getD j undef=u:=by simp[e7,gU]
   rw[e2];exact⟨gU,aF.QI c3 fO⟩
  exact b4.ptr _ ds b arr ty (0,0) (fun j=>arr.getD j undef) bN rfl (by have:=ao.1;omega) (fun j d aE=>(cell j d aE).1) (fun j d aE=>(cell j d aE).2.frame fun _ _ _ _=>⟨rfl,rfl⟩)
theorem aF.yM(aw:xr w ω τ bs){l:aF}(h:l.ky bs=some d)(ao:Sat w ω τ l y):my w d y:=by
 unfold aF.ky at h;split at h
 ·rename_i id off;split at h
  ·rename_i a7;subst a7;obtain⟨b,h1,rfl⟩:=ao;exact SJ aw h h1
  cases h
 ·rename_i g ids;rw[b9]at h;obtain⟨ds,h1,rfl⟩:=h;obtain⟨oS,rfl,aZ,hi⟩:=ao;obtain⟨U,aA⟩:=ov h1;have cell:∀j d,ds[j]?=some d->(oS.map ptrTo).toArray[j]?=some ((oS.map ptrTo).toArray.getD j undef)/\my w d ((oS.map ptrTo).toArray.getD j undef):=by
   intro j d aE;obtain⟨id,hx,JJ⟩:=aA j d aE;obtain⟨b,hl,h2⟩:=hi j id hx;have e1:(oS.map ptrTo).toArray[j]?=some (ptrTo b):=by simp[hl]
   have e2:(oS.map ptrTo).toArray.getD j undef=ptrTo b:=by rw[e7,e1];rfl
   rw[e2];exact⟨e1,SJ aw JJ h2⟩
  exact b4.cl _ g ds _ (fun j=>(oS.map ptrTo).toArray.getD j undef) (by simp;omega) (fun j d aE=>(cell j d aE).1) (fun j d aE=>(cell j d aE).2.frame fun _ _ _ _=>⟨rfl,rfl⟩)
 exact aF.QI h ao
theorem aI.yM(aw:xr w ω τ bs){p:aI}{cy:cP}(h:p.ky bs=some cy)(ao:cV (Sat w ω τ) p y):wy w cy y:=by
 cases p with
 | gx as=>cases h
 | aG a=>
  cases a with
  | one l=>
   simp only[aI.ky,bl.ky,b9]at h;obtain⟨d,h1,rfl⟩:=h;exact aF.yM aw h1 ao
  | agg ls=>
   simp only[aI.ky,bl.ky,b9]at h;obtain⟨ds,h1,rfl⟩:=h;obtain⟨U,aA⟩:=ov h1;obtain⟨vs,rfl,aZ,bI⟩:=ao;refine⟨vs,rfl,by omega,fun i d aE=>?_⟩;obtain⟨l,al,c3⟩:=aA i d aE;obtain⟨u,hu,fO⟩:=bI i l al;exact⟨u,hu,aF.yM aw c3 fO⟩
def gM(P:Program)(g:FuncId):Bool:=
 match P.funcs[g]? with
 | some fn => !(fn.name == "runtime.NumGoroutine") && !fn.body.isNone
 | none=>false
def D.qz(t:Nat):D->aF
 | .v (.bool c)=>.bg c
 | .v x=>.v x
 | .J k es=>.J (.own t) k es
 | .ptr _=>.cp
 | .cl _ _=>.cp
def ow(t:Nat):Nat->List D->List aF
 | _,[]=>[]
 | j,d::ds=>d.qz (t+j)::ow t (j+1) ds
theorem Ce(t:Nat):∀(ds:List D) (j i:Nat),(ow t j ds)[i]?=(ds[i]?).map (D.qz (t+(j+i)))
 | [],_,_=>by simp[ow]
 | d::ds,j,0=>by simp[ow]
 | d::ds,j,i+1=>by
  simp only[ow,pR,Ce t ds (j+1) i];rw[show j+1+i=j+(i+1) by omega]
theorem zA(t:Nat):∀(ds:List D) (j:Nat),(ow t j ds).length=ds.length
 | [],_=>rfl
 | d::ds,j=>by simp[ow,zA t ds (j+1)]
def cP.res(t:Nat):cP->bl
 | .one d=>.one (d.qz t)
 | .agg ds=>.agg (ow t 0 ds)
def rD(t:Nat):Nat->List cP->List bl
 | _,[]=>[]
 | r,a::as=>a.res (t+100*r)::rD t (r+1) as
theorem FV(t:Nat):∀(as:List cP) (r i:Nat),(rD t r as)[i]?=(as[i]?).map (cP.res (t+100*(r+i)))
 | [],_,_=>by simp[rD]
 | d::ds,j,0=>by simp[rD]
 | d::ds,j,i+1=>by
  simp only[rD,pR,FV t ds (j+1) i];rw[show j+1+i=j+(i+1) by omega]
theorem FW(t:Nat):∀(as:List cP) (r:Nat),(rD t r as).length=as.length
 | [],_=>rfl
 | d::ds,j=>by simp[rD,FW t ds (j+1)]
def ux(t:Nat):List cP->aI
 | [a]=>.aG (a.res t)
 | as=>.gx (rD t 0 as)
def vp(rs:List cP):Bool:=rs.length<100&&rs.all fun | .one _=>true | .agg ds=>ds.length<100
def gX(t:Nat):Tag->Option Tag
 | .free=>some .free
 | .own s=>if t<=s/\s<t+10000 then some .free else some (.own s)
 | .ro s=>if t<=s/\s<t+10000 then some .free else some (.ro s)
def pG(t:Nat):dr->dr
 | .tok s q=>if t<=s/\s<t+10000 then .bM else .tok s q
 | o=>o
def SK(t:Nat):dr->dr
 | .tok s q=>.tok (t+s) q
 | _=>.bM
def cP.cell(j:Nat):cP->Option D
 | .one d=>if j=0 then some d else none
 | .agg ds=>ds[j]?
def q8(rs:List cP)(n:Nat):Nat:=
 match (rs[n / 100]?).bind (cP.cell (n % 100)) with
 | some (.J k _)=>k
 | _=>0
def oc(rs:List cP)(v:Value)(n:Nat):Value:=
 match rs with
 | [_]=>v.cells.getD (n % 100) undef
 | _=>match v with
  | .tuple vs=>(vs.getD (n / 100) undef).cells.getD (n % 100) undef
  | _=>undef
def aC.wL(st:aC)(t:Nat):aC:=st.map (aF.cM (gX t) fun _=>true)
theorem cK.called{w0:eR}{st:aC}{a:Act}{aP:World}(a6:cK w0 st a w ω τ)(t:Nat){rs:List cP}{v:Value}
  (er:vp rs=true) (jw:t+10000<=dj) (aw:hf w.heap.size w aP) (fl:yK w aP rs v):
  ∃bf c0,cK w0 (st.wL t) a aP bf c0/\cV (Sat aP bf c0) (ux t rs) v:=by
 obtain⟨fA,mP,me,lV⟩:=fl
 let bf:Own:=fun b=>if b<w.heap.size then pG t (ω b) else SK t (fA b)
 let c0:Nat->Nat×Value:=fun s=>if t<=s/\s<t+10000 then (q8 rs (s-t),oc rs v (s-t)) else τ s
 have hold:∀b,b<w.heap.size->bf b=pG t (ω b):=fun b aw=>by simp only[bf];rw[bn aw]
 have ho:∀b,¬b<w.heap.size->bf b=SK t (fA b):=fun b aw=>by simp only[bf];rw[bw aw]
 have bq:mI w ω τ aP bf c0 (gX t) (fun _=>true):=by
  refine⟨?_,?_,?_,rfl,fun s ao=>by simp only[c0];rw[bw (by omega)]⟩
  ·intro g eI b q ax bS aH;refine⟨?_,aw.block b bS⟩;rw[hold b bS];cases g with
   | free=>simp only[gX,aX]at ax;subst ax;simp only[Tag.R]at aH ⊢;rw[aH];rfl
   | own s=>
    simp only[Tag.R]at aH;simp only[gX]at ax;rw[aH];simp only[pG];split at ax
    ·simp only[aX]at ax;subst ax;rw[bn ‹_›];rfl
    simp only[aX]at ax;subst ax;rw[bw ‹_›];rfl
   | ro s=>
    simp only[Tag.R]at aH;simp only[gX]at ax;split at ax
    ·simp only[aX]at ax;subst ax;rcases aH with h | ⟨ec,h⟩
     ·rw[h];rfl
     rw[h];simp only[pG];rw[bn ‹_›];rfl
    simp only[aX]at ax;subst ax;rcases aH with h | ⟨ec,h⟩
    ·rw[h];exact .inl rfl
    rw[h];simp only[pG];rw[bw ‹_›];exact .inr ⟨ec,rfl⟩
  ·intro g eI y ax bD;cases g with
   | free=>simp only[gX,aX]at ax;subst ax;exact trivial
   | own s=>
    simp only[gX]at ax;split at ax
    ·simp only[aX]at ax;subst ax;exact trivial
    simp only[aX]at ax;subst ax;simp only[Tag.ei,c0]at bD ⊢;rw[bw ‹_›];exact bD
   | ro s=>
    simp only[gX]at ax;split at ax
    ·simp only[aX]at ax;subst ax;exact trivial
    simp only[aX]at ax;subst ax;exact trivial
  intro id b _ dk;have bS:=a6.owned.lt (b:=b) (by simp[dk]);rw[hold b bS,dk];rfl
 have cell:∀(n:Nat) (d:D) (u:Value),n<10000->oc rs v n=u->(∀k es,d=.J k es->q8 rs n=k)->b4 aP fA (Tag.own n).R d u->Sat aP bf c0 (d.qz (t+n)) u:=by
  intro n d u aZ bI hk aD;cases d with
  | v x=>
   have e:u=x:=by cases aD;rfl
   subst e;unfold D.qz;split
   ·rename_i h;cases h;exact rfl
   ·rename_i h;cases h;exact rfl
   ·rename_i h;cases h
   ·exact trivial
   exact trivial
  | ptr ds=>exact trivial
  | cl g bj=>exact trivial
  | J k es=>
   refine⟨aD.frame fun b q bS aH=>⟨?_,rfl⟩,?_⟩
   ·simp only[Tag.R]at aH ⊢;have:¬b<w.heap.size:=fun h=>by have:=mP b h;rw[this]at aH;cases aH
    rw[ho b this,aH];rfl
   simp only[Tag.ei,c0];rw[bn (by omega),show t+n-t=n by omega,bI,hk k es rfl]
 have uP:∀(r:Nat) (cy:cP) (y:Value),r<100->(∀ds,cy=.agg ds->ds.length<100)->rs[r]?=some cy->(∀j,j<100->oc rs v (100*r+j)=y.cells.getD j undef)->mW aP fA r cy y->kZ (Sat aP bf c0) (cy.res (t+100*r)) y:=by
  intro r cy y aD fc BN bI o0;have hn:∀j,j<100->q8 rs (100*r+j)=(match cP.cell j cy with | some (.J k _)=>k | _=>0):=by
   intro j bk;unfold q8;rw[show (100*r+j) / 100=r by omega,show (100*r+j) % 100=j by omega,BN];rfl
  cases cy with
  | one d=>
   have h1:=o0.qo;have U:=bI 0 (by omega);rw[Cq h1]at U;have:=cell (100*r) d y (by omega) (by simpa using U) (fun k es e=>by
    have:=hn 0 (by omega);rw[oI]at this;rw[this,e];rfl) o0
   exact this
  | agg ds=>
   obtain⟨vs,rfl,aZ,bk⟩:=o0;refine⟨vs,rfl,by rw[zA];exact aZ,fun j l al=>?_⟩;rw[Ce,b9]at al;obtain⟨d,aE,rfl⟩:=al;obtain⟨u,hu,BO⟩:=bk j d aE;have kD:j<100:=by
    have:=(gk.1 aE).1;have:=fc ds rfl;omega
   refine⟨u,hu,?_⟩;have:=cell (100*r+j) d u (by omega) (by rw[bI j kD];simp[Value.cells,e7,hu]) (fun k es e=>by
    rw[hn j kD];simp only[cP.cell,aE,e]) BO
   rw[show t+100*r+(0+j)=t+(100*r+j) by omega];exact this
 simp only[vp,cw,ck]at er;have fc:∀(r:Nat) (cy:cP),rs[r]?=some cy->∀ds,cy=.agg ds->ds.length<100:=by
  intro r cy aD ds e;have:=gA.1 er.2 cy (gb aD);subst e;simpa using this
 refine⟨bf,c0,a6.dg _ bq.sat (a6.below.next aw) ?_ ?_ ?_ (fun s ao=>by simp only[c0];rw[bw (by omega)]),?_⟩
 ·intro b gu;by_cases bS:b<w.heap.size
  ·rw[hold b bS]at gu;have U:ω b≠.bM:=fun e=>by rw[e]at gu;exact gu rfl
   obtain⟨aA,arr,ty,aJ⟩:=a6.owned b U;exact⟨aA,arr,ty,(aw.block b bS).trans aJ⟩
  rw[ho b bS]at gu;have U:fA b≠.bM:=fun e=>by rw[e]at gu;exact gu rfl
  obtain⟨_,arr,ty,aJ⟩:=me b U;exact⟨.inl (by have:=a6.below.size;omega),arr,ty,aJ⟩
 ·intro id b dk;have bS:=a6.owned.lt (b:=b) (by simp[dk]);exact⟨bq.box id b rfl dk,aw.block b bS⟩
 ·intro id b dk;by_cases bS:b<w.heap.size
  ·rw[hold b bS]at dk;cases e:ω b with
   | bM=>rw[e]at dk;cases dk
   | box i=>rw[e]at dk;exact dk
   | tok s q=>rw[e]at dk;simp only[pG]at dk;split at dk<;>cases dk
  ·rw[ho b bS]at dk;cases e:fA b<;>(rw[e]at dk;cases dk)
 cases rs with
 | nil=>
  obtain⟨vs,rfl,aZ,_⟩:=lV;exact⟨vs,rfl,aZ,fun i a ai=>by simp[rD]at ai⟩
 | cons cy rest=>
  cases rest with
  | nil=>
   have:=uP 0 cy v (by omega) (fc 0 cy rfl) rfl (fun j bk=>by
    unfold oc;simp only[Nat.mul_zero,dV];rw[IS bk]) lV
   exact this
  | cons QH rest=>
   obtain⟨vs,rfl,aZ,bI⟩:=lV;refine⟨vs,rfl,by rw[FW];exact aZ,fun i a ai=>?_⟩;rw[FV,b9]at ai;obtain⟨oQ,h1,rfl⟩:=ai;obtain⟨y,bD,Bx⟩:=bI i oQ h1;have ki:i<100:=by
    have:=(gk.1 h1).1;omega
   refine⟨y,bD,?_⟩;have:=uP i oQ y ki (fc i oQ h1) h1 (fun j bk=>by
    unfold oc;simp only;rw[show (100*i+j) / 100=i by omega,show (100*i+j) % 100=j by omega];simp[e7,bD]) Bx
   rw[dV];exact this
end Go.Sx
namespace Go.Sx
open Go.RowKit
inductive eZ where
 | ro (d:D)
 | fk (k:Nat) (es:List (List D)) (post:Option (List (List D)))
inductive GA where
 | one (c:eZ)
 | agg (cs:List eZ)
def fM(i j:Nat):Nat:=dj+(100*i+j)
def GA.cell(j:Nat):GA->Option eZ
 | .one c=>if j=0 then some c else none
 | .agg cs=>cs[j]?
def cellOf(v:Value)(j:Nat):Value:=v.cells.getD j undef
def wA(w:World)(ω:Own)(t:Nat):eZ->Value->Prop
 | .ro d,y=>b4 w ω Tag.free.R d y
 | .fk k es _,y=>b4 w ω (Tag.own t).R (.J k es) y
def QD(w:World)(ω:Own)(i:Nat):GA->Value->Prop
 | .one c,y=>wA w ω (fM i 0) c y
 | .agg cs,y=>∃vs:Array Value,y=.agg vs/\vs.size=cs.length/\∀(j:Nat) (c:eZ),cs[j]?=some c->∃u,vs[j]?=some u/\wA w ω (fM i j) c u
def IY(w:World)(ω:Own):Prop:=∀b,ω b≠.bM->(∃t q,ω b=.tok t q/\dj<=t)/\∃arr ty,w.heap[b]?=some (.cells arr ty (0,0))
def IX(w:World)(ω:Own)(args:List GA)(vs:Array Value):Prop:=IY w ω/\vs.size=args.length/\∀(i:Nat) (fi:GA),args[i]?=some fi->∃v,vs[i]?=some v/\QD w ω i fi v
def Kept(w:World)(ω:Own)(args:List GA)(vs:Array Value):Prop:=
 ∀(i j:Nat) (fi:GA) (k:Nat) (es cD:List (List D)),args[i]?=some fi->fi.cell j=some (.fk k es (some cD))->b4 w ω (Tag.own (fM i j)).R (.J k cD) (cellOf (vs.getD i undef) j)
def kY(P:Program)(f:FuncId)(args:List GA)(rs:List cP):Prop:=
 ∀(w:World) (vs:Array Value) (ω:Own),IX w ω args vs->Tidy w ω->Calls P f vs w fun e aP=>∃v,e=.returned v/\hd ⟨w,fun b=>ω b≠.bM,fun _=>(0,undef)⟩ aP/\
  ∃bf:Own,(∀b,b<w.heap.size->ω b=.bM->bf b=.bM)/\(∀b,bf b≠.bM->(∃t q,bf b=.tok t q)/\∃arr ty,aP.heap[b]?=some (.cells arr ty (0,0)))/\Kept aP bf args vs/\nH aP bf rs v
structure dx where
 i:Nat
 j:Nat
 t:Nat
 p:Option (Nat×Nat)
 k:Nat
 es:List (List D)
 post:Option (List (List D))
abbrev qL:=Option (Option (List (List D)))
def yP(bs:mH)(i j:Nat):qL->aF->Option (eZ×List dx×List aF)
 | none,l=>(l.ky bs).map fun d=>(.ro d,[],[l])
 | some post,.J (.own t) k es=>some (.fk k es post,[⟨i,j,t,none,k,es,post⟩],[])
 | some post,.aN t a b k es .here=>some (.fk k es post,[⟨i,j,t,some (a,b),k,es,post⟩],[])
 | _,_=>none
def qt(bs:mH)(i:Nat):Nat->List qL->List aF->Option (List eZ×List dx×List aF)
 | _,[],[]=>some ([],[],[])
 | j,m::ms,l::ls=>
  match yP bs i j m l,qt bs i (j+1) ms ls with
  | some (c,h,r),some (cs,ao,rs)=>some (c::cs,h++ao,r++rs)
  | _,_=>none
 | _,_,_=>none
def A4(bs:mH)(i:Nat)(ms:List qL):aI->Option (GA×List dx×List aF)
 | .aG (.one l)=>match ms with | [m]=>(yP bs i 0 m l).map fun r=>(.one r.1,r.2) | _=>none
 | .aG (.agg ls)=>(qt bs i 0 ms ls).map fun r=>(.agg r.1,r.2)
 | _=>none
def wK(bs:mH):Nat->List (List qL)->List aI->Option (List GA×List dx×List aF)
 | _,[],[]=>some ([],[],[])
 | i,ms::K4,p::cz=>
  match A4 bs i ms p,wK bs (i+1) K4 cz with
  | some (a,h,r),some (as,ao,rs)=>some (a::as,h++ao,r++rs)
  | _,_=>none
 | _,_,_=>none
def s7(ao:List dx)(t:Nat):Bool:=ao.any fun h=>h.t==t
def Tag.om(ao:List dx):Tag->Bool
 | .free=>false
 | .own t=>s7 ao t
 | .ro t=>s7 ao t
def aF.ql(ao:List dx):aF->Bool
 | .J t _ _=>t.om ao
 | .ep t _ _ _ _=>t.om ao
 | .aN t _ _ _ _ _=>s7 ao t
 | .fD _ _=>true
 | _=>false
def aF.om(bs:mH)(ao:List dx):aF->Bool
 | .ptr id _=>match dI id bs with | some ls=>ls.any (aF.ql ao) | none=>true
 | .hg _ ids=>ids.any fun id=>match dI id bs with | some ls=>ls.any (aF.ql ao) | none=>true
 | l=>l.ql ao
def dx.apart(h y:dx):Bool:=
 (h.i != y.i||h.j != y.j)&&(h.t != y.t||match h.p,y.p with | some p,some q=>p.2 != q.2 | _,_=>false)
def pH:List dx->Bool
 | []=>true
 | h::r=>decide (h.j<100)&&(r.all (dx.apart h)&&pH r)
theorem SL:∀{ao:List dx},pH ao=true->∀h∈ao,∀y∈ao,h=y\/(dx.apart h y=true\/dx.apart y h=true)
 | [],_,h,bN,_,_=>by cases bN
 | x::r,hk,h,bN,y,bD=>by
  simp only[pH,cw,gA]at hk;rcases eH.1 bN with e1 | Rm
  ·rcases eH.1 bD with e2 | Ko
   ·exact .inl (e1.trans e2.symm)
   rw[e1];exact .inr (.inl (hk.2.1 y Ko))
  rcases eH.1 bD with e2 | Ko
  ·rw[e2];exact .inr (.inr (hk.2.1 h Rm))
  exact SL hk.2.2 h Rm y Ko
theorem SM:∀{ao:List dx},pH ao=true->∀h∈ao,h.j<100
 | [],_,h,bN=>by cases bN
 | x::r,hk,h,bN=>by
  simp only[pH,cw,ck]at hk;rcases eH.1 bN with rfl | bN
  ·exact hk.1
  exact SM hk.2.2 h bN
def dx.fit(h:dx)(t:Nat)(q:List (Nat×Nat)):Option (List (Nat×Nat)):=
 if h.t=t then
  match h.p,q with
  | none,q=>some q
  | some p,x::ec=>if x=p then some ec else none
  | some _,[]=>none
 else none
def n1(t:Nat)(q:List (Nat×Nat)):List dx->Option (Nat×List (Nat×Nat))
 | []=>none
 | h::r=>match h.fit t q with | some ec=>some (fM h.i h.j,ec) | none=>n1 t q r
variable{h:dx}{t:Nat}{q:List (Nat×Nat)}
theorem awP{y:dx}{q1 jb:List (Nat×Nat)}(h1:h.fit t q=some q1)(U:y.fit t q=some jb):dx.apart h y=false:=by
 unfold dx.fit at h1 U;split at h1
 ·rename_i e1;split at U
  ·rename_i e2;have cj:(h.t != y.t)=false:=by simp[e1,e2]
   simp only[dx.apart,cj,ke,Bool.and_eq_false_imp];intro _;split at h1
   ·rename_i hp;rw[hp]
   ·rename_i p x ec hp;split at h1
    ·rename_i af;split at U
     ·rename_i tI;rw[hp,tI]
     ·rename_i Le gz aDZ tI heq;split at U
      ·rename_i km;rw[hp,tI];simp only[te]at heq;obtain⟨rfl,_⟩:=heq;subst af;subst km;simp
      cases U
     cases U
    cases h1
   cases h1
  cases U
 cases h1
theorem LU{t:Nat}{q ec:List (Nat×Nat)}:∀{ao:List dx},pH ao=true->∀{h:dx},h∈ao->h.fit t q=some ec->n1 t q ao=some (fM h.i h.j,ec)
 | [],_,h,bN,_=>by cases bN
 | x::r,hk,h,bN,bF=>by
  have jT:=hk;simp only[pH,cw,gA]at hk;simp only[n1];rcases eH.1 bN with rfl | bN
  ·rw[bF]
  cases e:x.fit t q with
  | none=>exact LU hk.2.2 bN bF
  | some jb=>
   have:=awP e bF;rw[hk.2.1 h bN]at this;cases this
theorem Cf{g:Nat}{ec:List (Nat×Nat)}:∀{ao:List dx},n1 t q ao=some (g,ec)->∃h∈ao,h.fit t q=some ec/\g=fM h.i h.j
 | [],h=>by cases h
 | x::r,h=>by
  simp only[n1]at h;split at h
  ·rename_i jb e;simp only[aX,bK]at h;obtain⟨rfl,rfl⟩:=h;exact⟨x,hU,e,rfl⟩
  obtain⟨y,bD,U⟩:=Cf h;exact⟨y,gI _ bD,U⟩
theorem SN{ec:List (Nat×Nat)}(e:h.fit t q=some ec):h.t=t/\q=h.p.toList++ec:=by
 unfold dx.fit at e;split at e
 ·rename_i e1;refine⟨e1,?_⟩;split at e
  ·rename_i hp;simp only[aX]at e;rw[hp,e];rfl
  ·rename_i p x jb hp;split at e
   ·rename_i af;simp only[aX]at e;rw[hp,af,e];rfl
   cases e
  cases e
 cases e
theorem SO(h:dx)(q:List (Nat×Nat)):h.fit h.t (h.p.toList++q)=some q:=by
 unfold dx.fit;rw[bn rfl];cases h.p with
 | none=>rfl
 | some p=>simp
def gf(ao:List dx)(ω:Own):Own:=fun b=>
 match ω b with
 | .tok t q=>match n1 t q ao with | some (g,ec)=>.tok g ec | none=>.bM
 | _=>.bM
def EF(g:Nat):List dx->Option dx
 | []=>none
 | h::r=>if fM h.i h.j=g then some h else EF g r
theorem SP:∀{ao:List dx},pH ao=true->∀{h:dx},h∈ao->EF (fM h.i h.j) ao=some h
 | [],_,h,bN=>by cases bN
 | x::r,hk,h,bN=>by
  have bk:=SM hk;have jT:=hk;simp only[pH,cw,gA]at hk;simp only[EF];rcases eH.1 bN with rfl | si
  ·rw[bn rfl]
  rw[bw]
  ·exact SP hk.2.2 si
  intro e;have h1:=bk x hU;have U:=bk h (gI _ si);have aA:=hk.2.1 h si;simp only[dx.apart,cw,pV,bne_iff_ne,l6]at aA;simp only[fM]at e;omega
def Cg(ao:List dx)(t0:Nat):dr->dr
 | .tok s q=>if dj<=s then (match EF s ao with | some h=>.tok h.t (h.p.toList++q) | none=>.bM) else .tok (t0+s) q
 | _=>.bM
def xt(t:Nat):List dx->Option dx
 | []=>none
 | h::r=>if h.t=t then some h else xt t r
theorem SQ:∀{ao:List dx},xt t ao=none->s7 ao t=false
 | [],_=>rfl
 | h::r,e=>by
  simp only[xt]at e;split at e
  ·cases e
  rename_i cX;have:=SQ e;simp only[s7,Er,gl]at this ⊢;exact⟨by simpa using cX,this⟩
theorem SR:∀{ao:List dx},xt t ao=some h->h∈ao/\h.t=t
 | [],e=>by cases e
 | x::r,e=>by
  simp only[xt]at e;split at e
  ·simp only[aX]at e;subst e;exact⟨hU,‹_›⟩
  obtain⟨h1,U⟩:=SR e;exact⟨gI _ h1,U⟩
def nI:List dx->List D->List D
 | [],ds=>ds
 | h::r,ds=>match h.p,h.post with
  | some p,some es=>nI r (ds.set p.2 (.J h.k es))
  | _,_=>nI r ds
def sN(ao:List dx)(t0 il pc:Nat)(qR:List (List D)):aF->aF
 | .J (.own t) k es=>
  match xt t ao with
  | some h=>match h.p,h.post with
   | none,some cD=>.J (.own t) h.k cD
   | none,none=>.cp
   | some _,_=>if t=il then .J (.own t) pc qR else .cp
  | none=>aF.cM (gX t0) (fun _=>true) (.J (.own t) k es)
 | l=>if l.ql ao then .cp else l.cM (gX t0) fun _=>true
end Go.Sx
namespace Go.Sx
open Go.RowKit
variable{ao:List dx}
theorem awQ{t:Nat}(h:s7 ao t=false):∀y∈ao,y.t≠t:=by
 intro y bD e;simp only[s7,ft,ka]at h;exact h y bD e
theorem LV{t:Nat}(h:s7 ao t=false)(q:List (Nat×Nat)):n1 t q ao=none:=by
 cases e:n1 t q ao with
 | none=>rfl
 | some x=>
  obtain⟨g,ec⟩:=x;obtain⟨y,bD,bF,_⟩:=Cf e;exact absurd (SN bF).1 (awQ h y bD)
structure Ev (w:World) (ω:Own) (τ:Nat->Nat×Value) (h:dx) (u:Value):Prop where
 rep:b4 w ω (fun q o=>o=.tok h.t (h.p.toList++q)) (.J h.k h.es) u
 root:h.p=none->τ h.t=(h.k,u)
 cell:∀a b,h.p=some (a,b)->∃(kT b6 off len cap:Nat) (arr:Array Value) (ty:TypeId) (cZ:Nat×Nat),τ h.t=(kT,.slice (some ⟨b6,off,none⟩) len cap)/\ω b6=.tok h.t []/\w.heap[b6]?=some (.cells arr ty cZ)/\arr[off+a*kT+b]?=some u
structure QG (w:World) (ω:Own) (τ:Nat->Nat×Value) (ao:List dx) (il pc:Nat) (qR:List (List D)):Prop where
 ex:∀h∈ao,∀p,h.p=some p->h.t=il->∃(dR:List (List D)) (y:Value) (ds:List D) (a:Nat),Sat w ω τ (.J (.own il) pc dR) y/\dR[a]?=some ds/\ds.length=pc/\qR=dR.set a (nI ao ds)/\
  ∀x∈ao,∀q,x.p=some q->x.t=il/\q.1=a/\∃cD,x.post=some cD
theorem Ch:∀(ao:List dx) (ds:List D),(nI ao ds).length=ds.length
 | [],_=>rfl
 | h::r,ds=>by
  simp only[nI];split
  ·rw[Ch r,hc]
  exact Ch r ds
theorem Lj{y:Nat}{d:D}:∀{ao:List dx} {ds:List D},(nI ao ds)[y]?=some d->(∃h∈ao,∃a cD,h.p=some (a,y)/\h.post=some cD/\d=.J h.k cD)\/ds[y]?=some d/\∀h∈ao,∀a cD,h.p=some (a,y)->h.post=some cD->False
 | [],ds,h=>.inr ⟨h,fun _ bN=>by cases bN⟩
 | h::r,ds,aE=>by
  simp only[nI]at aE;split at aE
  ·rename_i p cD e1 e2;rcases Lj aE with⟨x,af,a,bX,h1,U,aA⟩ | ⟨h1,U⟩
   ·exact .inl ⟨x,gI _ af,a,bX,h1,U,aA⟩
   rw[pQ]at h1;split at h1
   ·rename_i hp;split at h1
    ·simp only[aX]at h1;exact .inl ⟨h,hU,p.1,cD,by rw[e1,<-hp],e2,h1.symm⟩
    cases h1
   rename_i hp;refine .inr ⟨h1,fun x af a bX aA aJ=>?_⟩;rcases eH.1 af with rfl | af
   ·rw[e1]at aA;simp only[aX]at aA;rw[aA]at hp;exact hp rfl
   exact U x af a bX aA aJ
  rename_i cX;rcases Lj aE with⟨x,af,a,bX,h1,U,aA⟩ | ⟨h1,U⟩
  ·exact .inl ⟨x,gI _ af,a,bX,h1,U,aA⟩
  refine .inr ⟨h1,fun x af a bX aA aJ=>?_⟩;rcases eH.1 af with rfl | af
  ·exact cX _ _ aA aJ
  exact U x af a bX aA aJ
theorem cK.abA{w0:eR}{st:aC}{a:Act}{w aP:World}{ω:Own}{τ:Nat->Nat×Value}(a6:cK w0 st a w ω τ)(t0:Nat){rs:List cP}{v:Value}{H:Nat->Nat×Value}
  (bW:pH ao=true) (er:vp rs=true) (jw:t0+10000<=dj) (RG:∀h∈ao,¬(t0<=h.t/\h.t<t0+10000)) (aw:hd ⟨w,fun b=>gf ao ω b≠.bM,H⟩ aP) (fA:Own)
  (mP:∀b,b<w.heap.size->gf ao ω b=.bM->fA b=.bM) (me:∀b,fA b≠.bM->(∃t q,fA b=.tok t q)/\∃arr ty,aP.heap[b]?=some (.cells arr ty (0,0))) (lV:nH aP fA rs v)
  (vals:dx->Value) (JZ:∀h∈ao,∀cD,h.post=some cD->b4 aP fA (Tag.own (fM h.i h.j)).R (.J h.k cD) (vals h)) (hy:∀h∈ao,Ev w ω τ h (vals h))
  {il pc:Nat} {qR:List (List D)} (jV:QG w ω τ ao il pc qR):
  ∃bf c0,cK w0 (st.map (sN ao t0 il pc qR)) a aP bf c0/\cV (Sat aP bf c0) (ux t0 rs) v:=by
 classical
 let bf:Own:=fun b=>if b<w.heap.size/\gf ao ω b=.bM then pG t0 (ω b) else Cg ao t0 (fA b)
 let c0:Nat->Nat×Value:=fun s=>if t0<=s/\s<t0+10000 then (q8 rs (s-t0),oc rs v (s-t0)) else τ s
 have hold:∀b,b<w.heap.size->gf ao ω b=.bM->bf b=pG t0 (ω b):=fun b aw h=>by simp only[bf];rw[bn ⟨aw,h⟩]
 have ho:∀b,fA b≠.bM->bf b=Cg ao t0 (fA b):=fun b aw=>by
  simp only[bf];rw[bw];rintro⟨h1,U⟩;exact aw (mP b h1 U)
 have hblk:∀b,b<w.heap.size->gf ao ω b=.bM->aP.heap[b]?=w.heap[b]?:=fun b bS h=>aw.block b bS (fun aZ=>aZ h)
 have q':∀b,ω b=.bM->gf ao ω b=.bM:=fun b h=>by simp only[gf,h]
 have ab4:∀b id,ω b=.box id->gf ao ω b=.bM:=fun b id h=>by simp only[gf,h]
 have kG:∀b s q,ω b=.tok s q->n1 s q ao=none->gf ao ω b=.bM:=fun b s q h U=>by simp only[gf,h,U]
 have tP:∀h∈ao,c0 h.t=τ h.t:=fun h bN=>by simp only[c0];rw[bw (RG h bN)]
 have e3:∀(g eI:Tag) (b:Nat) (q:List (Nat×Nat)),g.om ao=false->gX t0 g=some eI->b<w.heap.size->g.R q (ω b)->eI.R q (bf b)/\aP.heap[b]?=w.heap[b]?:=by
  intro g eI b q hm ax bS aH;have hi:gf ao ω b=.bM:=by
   cases g with
   | free=>exact q' b aH
   | own s=>exact kG b s q aH (LV hm q)
   | ro s=>
    rcases aH with h | ⟨ec,h⟩
    ·exact q' b h
    exact kG b s ec h (LV hm ec)
  refine⟨?_,hblk b bS hi⟩;rw[hold b bS hi];cases g with
  | free=>simp only[gX,aX]at ax;subst ax;simp only[Tag.R]at aH ⊢;rw[aH];rfl
  | own s=>
   simp only[Tag.R]at aH;simp only[gX]at ax;rw[aH];simp only[pG];split at ax
   ·simp only[aX]at ax;subst ax;rw[bn ‹_›];rfl
   simp only[aX]at ax;subst ax;rw[bw ‹_›];rfl
  | ro s=>
   simp only[Tag.R]at aH;simp only[gX]at ax;split at ax
   ·simp only[aX]at ax;subst ax;rcases aH with h | ⟨ec,h⟩
    ·rw[h];rfl
    rw[h];simp only[pG];rw[bn ‹_›];rfl
   simp only[aX]at ax;subst ax;rcases aH with h | ⟨ec,h⟩
   ·rw[h];exact .inl rfl
   rw[h];simp only[pG];rw[bw ‹_›];exact .inr ⟨ec,rfl⟩
 have KZ:∀(g eI:Tag) (y:Nat×Value),gX t0 g=some eI->g.ei τ y->eI.ei c0 y:=by
  intro g eI y ax bD;cases g with
  | free=>simp only[gX,aX]at ax;subst ax;exact trivial
  | own s=>
   simp only[gX]at ax;split at ax
   ·simp only[aX]at ax;subst ax;exact trivial
   simp only[aX]at ax;subst ax;simp only[Tag.ei,c0]at bD ⊢;rw[bw ‹_›];exact bD
  | ro s=>
   simp only[gX]at ax;split at ax
   ·simp only[aX]at ax;subst ax;exact trivial
   simp only[aX]at ax;subst ax;exact trivial
 have zr:∀id b,ω b=.box id->bf b=.box id/\aP.heap[b]?=w.heap[b]?:=by
  intro id b dk;have bS:=a6.owned.lt (b:=b) (by simp[dk]);have hi:=ab4 b id dk;exact⟨by rw[hold b bS hi,dk];rfl,hblk b bS hi⟩
 have R3:∀h∈ao,∀cD,h.post=some cD->b4 aP bf (fun q o=>o=.tok h.t (h.p.toList++q)) (.J h.k cD) (vals h):=by
  intro h bN cD he;refine (JZ h bN cD he).frame fun b q _ aH=>⟨?_,rfl⟩
  simp only[Tag.R]at aH;rw[ho b (by rw[aH];simp),aH];simp only[Cg];rw[bn (by simp[fM]),SP bW bN]
 have e0:∀l y,Sat w ω τ l y->Sat aP bf c0 (sN ao t0 il pc qR l) y:=by
  intro l y dp;have plain:∀g k es,g.om ao=false->Sat w ω τ (.J g k es) y->Sat aP bf c0 (aF.cM (gX t0) (fun _=>true) (.J g k es)) y:=by
   intro g k es hm nA;simp only[aF.cM];cases ax:gX t0 g with
   | none=>exact trivial
   | some eI=>exact⟨nA.1.frame fun b q bS aH=>e3 g eI b q hm ax bS aH,KZ g eI _ ax nA.2⟩
  cases l with
  | cp=>exact trivial
  | v x=>exact dp
  | bg c=>exact dp
  | ptr id off=>
   obtain⟨b,h1,U⟩:=dp;exact⟨b,(zr id b h1).1,U⟩
  | hg f ids=>
   obtain⟨bs,e,aZ,hi⟩:=dp;simp only[sN,aF.ql,nR,l7,aF.cM];split
   ·refine⟨bs,e,aZ,fun i id hx=>?_⟩;obtain⟨b,h1,U⟩:=hi i id hx;exact⟨b,h1,(zr id b U).1⟩
   exact trivial
  | hQ ds off=>
   obtain⟨b,e,aD⟩:=dp;exact⟨b,e,aD.frame fun b q bS aH=>e3 .free .free b q rfl rfl bS aH⟩
  | fd d=>exact b4.frame dp fun b q bS aH=>e3 .free .free b q rfl rfl bS aH
  | dA t k es=>exact⟨b4.frame dp.1 fun b q bS aH=>e3 .free .free b q rfl rfl bS aH,fun bG=>(show c0 t=τ t by simp only[c0];rw[bw (by omega)]).trans (dp.2 bG)⟩
  | aN t i j k es m=>
   simp only[sN];by_cases hm:aF.ql ao (.aN t i j k es m)=true
   ·rw[bn hm];exact trivial
   rw[bw hm];simp only[wu]at hm;replace hm:s7 ao t=false:=hm;simp only[aF.cM];split
   ·rename_i du ax;split
    ·rename_i bG;subst bG;obtain⟨fH,sr,h1,ac2⟩:=dp;refine⟨fH,sr,h1.frame fun c q ak aH=>e3 (.own du) _ c _ hm ax ak aH,fun acB=>?_⟩;obtain⟨kT,b,off,len,cap,arr,ty,cZ,U,a',aA,aJ⟩:=ac2 acB;have bS:b<w.heap.size:=(kf.1 aA).1;have hk:=e3 (.own du) _ b [] hm ax bS a';exact⟨kT,b,off,len,cap,arr,ty,cZ,KZ _ _ _ ax U,hk.1,hk.2.trans aA,aJ⟩
    exact trivial
   exact trivial
  | fD t vs=>
   simp only[sN,aF.ql,gj];exact trivial
  | ep g k es i j=>
   simp only[sN];by_cases hm:aF.ql ao (.ep g k es i j)=true
   ·rw[bn hm];exact trivial
   rw[bw hm];simp only[wu]at hm;replace hm:g.om ao=false:=hm;obtain⟨b,off,cap,e,hi,aD,bN⟩:=dp;simp only[aF.cM];cases ax:gX t0 g with
   | none=>exact trivial
   | some eI=>exact⟨b,off,cap,e,hi,aD.frame fun b q bS aH=>e3 g eI b q hm ax bS aH,KZ g eI _ ax bN⟩
  | J g k es=>
   cases g with
   | free=>exact plain .free k es rfl dp
   | ro s=>
    simp only[sN];by_cases hm:aF.ql ao (.J (.ro s) k es)=true
    ·rw[bn hm];exact trivial
    rw[bw hm];simp only[wu]at hm;exact plain (.ro s) k es hm dp
   | own s=>
    simp only[sN];cases bF:xt s ao with
    | none=>exact plain (.own s) k es (SQ bF) dp
    | some h=>
     obtain⟨bN,rfl⟩:=SR bF;simp only;have bI:=hy h bN;have ei:τ h.t=(k,y):=dp.2;split
     ·
      rename_i cD hp he;have e1:=bI.root hp;rw[ei]at e1;simp only[bK]at e1;obtain⟨rfl,e2⟩:=e1;have aD:=R3 h bN cD he;rw[hp,<-e2]at aD;exact⟨aD,by simp only[Tag.ei];rw[tP h bN,ei]⟩
     ·exact trivial
     -- parts of it
     rename_i p hp;split
     ·rename_i vf;obtain⟨dR,mC,ds,a0,zj,fc,q7,rfl,iY⟩:=jV.ex h bN p hp vf;have JL:τ il=(pc,mC):=zj.2;rw[<-vf,ei]at JL;simp only[bK]at JL;obtain⟨rfl,rfl⟩:=JL;obtain⟨rh,_⟩:=zj;have hlen:(dR.set a0 (nI ao ds)).length=dR.length:=hc;have Q7:a0<dR.length:=(gk.1 fc).1;refine⟨?_,by simp only[Tag.ei];rw[tP h bN,ei]⟩;generalize bD:y=QA at rh;cases rh with
      | nil=>simp at Q7
      | row R k dR b6 off cap arr ty cZ us JC ed ace dM hk hu aE=>
       subst bD;have EW:ω b6=.tok h.t []:=by rw[vf];exact ed
       have Rx:∀x∈ao,x.fit il []=none:=by
        intro x af;unfold dx.fit;split
        ·rename_i ext;cases Fo:x.p with
         | some q=>simp
         | none=>
          exfalso;have cX:dx.apart h x=true\/dx.apart x h=true\/h=x:=by
           rcases SL bW h bN x af with e | e | e
           ·exact .inr (.inr e)
           ·exact .inl e
           exact .inr (.inl e)
          have u0:∀y z:dx,y.t=z.t->(y.p=none\/z.p=none)->dx.apart y z=true->False:=by
           intro y z e1 e2 cj;simp only[dx.apart,e1,cw,pV,bne_self_eq_false,nR,false_or]at cj;rcases e2 with e2 | e2
           ·simp[e2]at cj
           ·rw[e2]at cj;cases hyp:y.p<;>simp[hyp]at cj
          rcases cX with e | e | e
          ·exact u0 h x (by rw[ext,vf]) (.inr Fo) e
          ·exact u0 x h (by rw[ext,vf]) (.inl Fo) e
          rw[<-e,hp]at Fo;cases Fo
        rfl
       have mg:n1 il [] ao=none:=by
        cases e:n1 il [] ao with
        | none=>rfl
        | some z=>
         obtain⟨g,ec⟩:=z;obtain⟨x,af,RS,_⟩:=Cf e;rw[Rx x af]at RS;cases RS
       have ab2:b6<w.heap.size:=(kf.1 JC).1;have aCP:gf ao ω b6=.bM:=kG b6 il [] ed mg;have adl:¬(t0<=il/\il<t0+10000):=by rw[<-vf];exact RG h bN
       have RA:∀b q,b<w.heap.size->ω b=.tok il q->n1 il q ao=none->bf b=.tok il q/\aP.heap[b]?=w.heap[b]?:=by
        intro b q bS aH aZ;have hi:=kG b il q aH aZ;refine⟨?_,hblk b bS hi⟩;rw[hold b bS hi,aH];simp only[pG];rw[bw adl]
       have Rz:∀x y d,df dR x y=some d->(∀z∈ao,z.p≠some (x,y))->b4 aP bf (fun q=>(Tag.own il).R ((x,y)::q)) d (us x y):=by
        intro x y d ak bd;refine (aE x y d ak).frame fun b q bS aH=>?_
        refine RA b _ bS aH ?_;cases e:n1 il ((x,y)::q) ao with
        | none=>rfl
        | some r=>
         obtain⟨g,ec⟩:=r;obtain⟨z,BY,adS,_⟩:=Cf e;obtain⟨e1,e2⟩:=SN adS;exfalso;cases sx:z.p with
         | none=>
          have:=Rx z BY;unfold dx.fit at this;rw[bn e1,sx]at this;simp at this
         | some r=>
          rw[sx]at e2;simp only[yD,List.cons_append,List.nil_append,te]at e2;exact bd z BY (by rw[sx,<-e2.1])
       have key:∀x y d,df (dR.set a0 (nI ao ds)) x y=some d->b4 aP bf (fun q=>(Tag.own il).R ((x,y)::q)) d (us x y):=by
        intro x y d ak;by_cases af:x=a0
        ·subst af;have me:(nI ao ds)[y]?=some d:=by
          simpa[df,pQ,Q7]using ak
         rcases Lj me with⟨z,bd,eC,cD,h1,U,rfl⟩ | ⟨h1,U⟩
         ·obtain⟨e1,e2,_⟩:=iY z bd _ h1;have e2:eC=x:=e2;subst e2;obtain⟨kT,fb,aDQ,aDK,aCh,aCd,aEa,ET,g1,g2,g3,g4⟩:=(hy z bd).cell _ _ h1;rw[e1,<-vf,ei]at g1;simp only[bK,Value.slice.injEq,aX,Addr.mk.injEq]at g1;obtain⟨rfl,⟨rfl,rfl,_⟩,_,_⟩:=g1;rw[JC]at g3;simp only[aX,Obj.cells.injEq]at g3;obtain⟨rfl,_,_⟩:=g3;have adO:y<ds.length:=by
           have:=(gk.1 me).1;rwa[Ch]at this
          have fw:df dR eC y=some ds[y]:=by simp[df,fc,adO]
          have adI:us eC y=vals z:=by
           have:=hu eC y _ fw;rw[g4]at this;exact (gJ this).symm
          rw[adI];have aD:=R3 z bd cD U;rw[h1,e1]at aD;exact aD
         have fw:df dR x y=some d:=by simp[df,fc,h1]
         refine Rz x y d fw fun z bd sx=>?_
         obtain⟨_,_,cD,he⟩:=iY z bd _ sx;exact U z bd x cD sx he
        have fw:df dR x y=some d:=by
         simp only[df,pQ]at ak;rw[bw (by omega)]at ak;exact ak
        refine Rz x y d fw fun z bd sx=>?_
        obtain⟨_,e2,_⟩:=iY z bd _ sx;exact af e2
       have hl:=RA b6 [] ab2 ed mg;have:=b4.row (w:=aP) (ω:=bf) (Tag.own il).R k (dR.set a0 (nI ao ds)) b6 off cap arr ty cZ us (hl.2.trans JC) hl.1 (by rw[hlen];exact ace) dM
        (fun e he=>by
         rcases iq he with eu | rfl
         ·exact hk e eu
         rw[Ch];exact q7)
        (fun x y d ak=>by
         have gm:x<dR.length/\y<k:=by
          have jT:∀e∈dR.set a0 (nI ao ds),e.length=k:=fun e he=>by
           rcases iq he with eu | rfl
           ·exact hk e eu
           rw[Ch];exact q7
          have eu:x<(dR.set a0 (nI ao ds)).length/\y<k:=by
           unfold df at ak;cases A5:(dR.set a0 (nI ao ds))[x]? with
           | none=>simp[A5]at ak
           | some row=>
            simp only[A5,qG]at ak;have hm:=jT row (gb A5);exact⟨(gk.1 A5).1,by rw[<-hm];exact (gk.1 ak).1⟩
          rw[hlen]at eu;exact eu
         have wZ:(dR[x]'gm.1).length=k:=hk _ (pU gm.1);exact hu x y ((dR[x]'gm.1)[y]'(by omega)) (by simp[df,gm.1,wZ,gm.2]))
        key
       rw[hlen]at this;rw[vf];exact this
     exact trivial
 have cell:∀(n:Nat) (d:D) (u:Value),n<10000->oc rs v n=u->(∀k es,d=.J k es->q8 rs n=k)->b4 aP fA (Tag.own n).R d u->Sat aP bf c0 (d.qz (t0+n)) u:=by
  intro n d u aZ bI hk aD;cases d with
  | v x=>
   have e:u=x:=by cases aD;rfl
   subst e;unfold D.qz;split
   ·rename_i h;cases h;exact rfl
   ·rename_i h;cases h;exact rfl
   ·rename_i h;cases h
   ·exact trivial
   exact trivial
  | ptr ds=>exact trivial
  | cl g bj=>exact trivial
  | J k es=>
   refine⟨aD.frame fun b q bS aH=>⟨?_,rfl⟩,?_⟩
   ·simp only[Tag.R]at aH ⊢;rw[ho b (by rw[aH];simp),aH];simp only[Cg];rw[bw (by simp only[dj];omega)]
   simp only[Tag.ei,c0];rw[bn (by omega),show t0+n-t0=n by omega,bI,hk k es rfl]
 have uP:∀(r:Nat) (cy:cP) (y:Value),r<100->(∀ds,cy=.agg ds->ds.length<100)->rs[r]?=some cy->(∀j,j<100->oc rs v (100*r+j)=y.cells.getD j undef)->mW aP fA r cy y->kZ (Sat aP bf c0) (cy.res (t0+100*r)) y:=by
  intro r cy y aD fc BN bI o0;have hn:∀j,j<100->q8 rs (100*r+j)=(match cP.cell j cy with | some (.J k _)=>k | _=>0):=by
   intro j bk;unfold q8;rw[show (100*r+j) / 100=r by omega,show (100*r+j) % 100=j by omega,BN];rfl
  cases cy with
  | one d=>
   have h1:=o0.qo;have U:=bI 0 (by omega);rw[Cq h1]at U;have:=cell (100*r) d y (by omega) (by simpa using U) (fun k es e=>by
    have:=hn 0 (by omega);rw[oI]at this;rw[this,e];rfl) o0
   exact this
  | agg ds=>
   obtain⟨vs,rfl,aZ,bk⟩:=o0;refine⟨vs,rfl,by rw[zA];exact aZ,fun j l al=>?_⟩;rw[Ce,b9]at al;obtain⟨d,aE,rfl⟩:=al;obtain⟨u,hu,BO⟩:=bk j d aE;have kD:j<100:=by
    have:=(gk.1 aE).1;have:=fc ds rfl;omega
   refine⟨u,hu,?_⟩;have:=cell (100*r+j) d u (by omega) (by rw[bI j kD];simp[Value.cells,e7,hu]) (fun k es e=>by
    rw[hn j kD];simp only[cP.cell,aE,e]) BO
   rw[show t0+100*r+(0+j)=t0+(100*r+j) by omega];exact this
 simp only[vp,cw,ck]at er;have fc:∀(r:Nat) (cy:cP),rs[r]?=some cy->∀ds,cy=.agg ds->ds.length<100:=by
  intro r cy aD ds e;have:=gA.1 er.2 cy (gb aD);subst e;simpa using this
 have Ru:∀b,ω b≠.bM->w0.Fw b:=fun b h=>(a6.owned b h).1
 have Rl:∀b,gf ao ω b≠.bM->ω b≠.bM:=fun b h e=>h (q' b e)
 refine⟨bf,c0,a6.dg _ e0 ?_ ?_ (fun id b dk=>zr id b dk) ?_ (fun s ao=>by simp only[c0];rw[bw (by omega)]),?_⟩
 ·refine⟨aw.os.trans a6.below.os,aw.tape.trans a6.below.tape,aw.output.trans a6.below.output,mF a6.below.size aw.size,fun k hk ax=>?_,fun ao=>mF (a6.below.drawn ao) (aw.drawn ao),aw.laid,a6.below.free⟩;have tH:k<w.heap.size:=AT hk a6.below.size;have hi:gf ao ω k=.bM:=by
   cases e:gf ao ω k with
   | bM=>rfl
   | _=>
    have:=Ru k (Rl k (by rw[e];simp));rcases this with h | h
    ·omega
    exact absurd h ax
  exact (hblk k tH hi).trans (a6.below.block k hk ax)
 ·intro b gu;by_cases ak:b<w.heap.size/\gf ao ω b=.bM
  ·rw[hold b ak.1 ak.2]at gu;have U:ω b≠.bM:=fun e=>by rw[e]at gu;exact gu rfl
   obtain⟨aA,arr,ty,aJ⟩:=a6.owned b U;exact⟨aA,arr,ty,(hblk b ak.1 ak.2).trans aJ⟩
  have U:fA b≠.bM:=fun e=>by
   simp only[bf]at gu;rw[bw ak,e]at gu;exact gu rfl
  obtain⟨_,arr,ty,aJ⟩:=me b U;refine⟨?_,arr,ty,aJ⟩;rcases qI b w.heap.size with bS | qa
  ·exact Ru b (Rl b fun e=>ak ⟨bS,e⟩)
  exact .inl (by have:=a6.below.size;omega)
 ·intro id b dk;by_cases ak:b<w.heap.size/\gf ao ω b=.bM
  ·rw[hold b ak.1 ak.2]at dk;cases e:ω b with
   | bM=>rw[e]at dk;cases dk
   | box i=>rw[e]at dk;exact dk
   | tok s q=>rw[e]at dk;simp only[pG]at dk;split at dk<;>cases dk
  simp only[bf]at dk;rw[bw ak]at dk;cases e:fA b with
  | bM=>rw[e]at dk;cases dk
  | box i=>rw[e]at dk;cases dk
  | tok s q=>
   rw[e]at dk;simp only[Cg]at dk;split at dk
   ·split at dk<;>cases dk
   cases dk
 cases rs with
 | nil=>
  obtain⟨vs,rfl,aZ,_⟩:=lV;exact⟨vs,rfl,aZ,fun i a ai=>by simp[rD]at ai⟩
 | cons cy rest=>
  cases rest with
  | nil=>
   have:=uP 0 cy v (by omega) (fc 0 cy rfl) rfl (fun j bk=>by
    unfold oc;simp only[Nat.mul_zero,dV];rw[IS bk]) lV
   exact this
  | cons QH rest=>
   obtain⟨vs,rfl,aZ,bI⟩:=lV;refine⟨vs,rfl,by rw[FW];exact aZ,fun i a ai=>?_⟩;rw[FV,b9]at ai;obtain⟨oQ,h1,rfl⟩:=ai;obtain⟨y,bD,Bx⟩:=bI i oQ h1;have ki:i<100:=by
    have:=(gk.1 h1).1;omega
   refine⟨y,bD,?_⟩;have:=uP i oQ y ki (fc i oQ h1) h1 (fun j bk=>by
    unfold oc;simp only;rw[show (100*i+j) / 100=i by omega,show (100*i+j) % 100=j by omega];simp[e7,bD]) Bx
   rw[dV];exact this
end Go.Sx
namespace Go.Sx
open Go.RowKit
variable{w:World}{ω:Own}{τ:Nat->Nat×Value}{ao:List dx}{l:aF}{d:D}{y:Value}
theorem SS(h:l.gS=some d)(hm:l.ql ao=false)(dp:Sat w ω τ l y):b4 w (gf ao ω) Tag.free.R d y:=by
 have q':∀b,ω b=.bM->gf ao ω b=.bM:=fun b h=>by simp only[gf,h]
 have kG:∀b s q,ω b=.tok s q->s7 ao s=false->gf ao ω b=.bM:=fun b s q h U=>by simp only[gf,h,LV U]
 have tag:∀(g:Tag) (b:Nat) (q:List (Nat×Nat)),g.om ao=false->g.R q (ω b)->gf ao ω b=.bM:=by
  intro g b q ax aH;cases g with
  | free=>exact q' b aH
  | own s=>exact kG b s q aH ax
  | ro s=>
   rcases aH with h | ⟨ec,h⟩
   ·exact q' b h
   exact kG b s ec h ax
 cases l with
 | cp=>cases h
 | v x=>
  simp only[aF.gS]at h;split at h
  ·simp only[aX]at h;subst h;have:y=x:=dp;subst this;exact .v _ _ ‹_›
  cases h
 | bg c=>
  simp only[aF.gS,aX]at h;subst h;have:y=.bool c:=dp;subst this;exact .v _ _ rfl
 | J t k es=>simp only[aF.gS,aX]at h;subst h;exact dp.1.frame fun b q _ aH=>⟨tag t b q hm aH,rfl⟩
 | ptr=>cases h
 | ep=>cases h
 | hg=>cases h
 | fD=>cases h
 | hQ ds off=>
  simp only[aF.gS]at h;split at h
  ·rename_i a7;subst a7;simp only[aX]at h;subst h;obtain⟨b,rfl,aD⟩:=dp;exact aD.frame fun b q _ aH=>⟨q' b aH,rfl⟩
  cases h
 | fd dP=>simp only[aF.gS,aX]at h;subst h;exact b4.frame dp fun b q _ aH=>⟨q' b aH,rfl⟩
 | dA t k es=>simp only[aF.gS,aX]at h;subst h;exact b4.frame dp.1 fun b q _ aH=>⟨q' b aH,rfl⟩
 | aN t i j k es m=>
  obtain⟨u,hu,aD,_⟩:=dp;cases m with
  | at_ x z=>cases h
  | here=>simp only[aF.gS,aX]at h;subst h;have:y=u:=hu;subst this;exact aD.frame fun b q _ aH=>⟨kG b t _ aH hm,rfl⟩
  | mJ=>simp only[aF.gS,aX]at h;subst h;have:y=u:=hu;subst this;exact aD.frame fun b q _ aH=>⟨kG b t _ aH hm,rfl⟩
variable{bs:mH}
theorem SU(aw:xr w ω τ bs){id b:Nat}(h:yN bs id=some d)(hm:(match dI id bs with | some ls=>ls.any (aF.ql ao) | none=>true)=false)(a7:ω b=.box id):
  b4 w (gf ao ω) Tag.free.R d (ptrTo b):=by
 unfold yN at h;cases e:dI id bs with
 | none=>simp[e]at h
 | some ls=>
  rw[e]at hm;simp only[ft,wu]at hm;simp only[e,qG,b9]at h;obtain⟨ds,h1,rfl⟩:=h;obtain⟨dD,arr,ty,ey,hu,bN,dp⟩:=aw id ls e;have:=hu b a7;subst this;obtain⟨U,aA⟩:=ov h1;have cell:∀j d,ds[j]?=some d->arr[j]?=some (arr.getD j undef)/\b4 w (gf ao ω) Tag.free.R d (arr.getD j undef):=by
   intro j d aE;obtain⟨l,al,c3⟩:=aA j d aE;obtain⟨u,gU,fO⟩:=dp.2 j l al;have e2:arr.getD j undef=u:=by simp[e7,gU]
   rw[e2];exact⟨gU,SS c3 (hm l (gb al)) fO⟩
  exact b4.ptr _ ds b arr ty (0,0) (fun j=>arr.getD j undef) bN (by show gf ao ω b=.bM;simp only[gf,a7]) (by have:=dp.1;omega) (fun j d aE=>(cell j d aE).1) (fun j d aE=>(cell j d aE).2.frame fun _ _ _ h=>⟨h,rfl⟩)
theorem awR(aw:xr w ω τ bs)(h:l.ky bs=some d)(hm:l.om bs ao=false)(dp:Sat w ω τ l y):
  b4 w (gf ao ω) Tag.free.R d y:=by
 unfold aF.ky at h;split at h
 ·rename_i id off;split at h
  ·rename_i a7;subst a7;obtain⟨b,h1,rfl⟩:=dp;exact SU aw h hm h1
  cases h
 ·rename_i g ids;rw[b9]at h;obtain⟨ds,h1,rfl⟩:=h;obtain⟨oS,rfl,aZ,hi⟩:=dp;obtain⟨U,aA⟩:=ov h1;simp only[aF.om,ft,wu]at hm;have cell:∀j d,ds[j]?=some d->(oS.map ptrTo).toArray[j]?=some ((oS.map ptrTo).toArray.getD j undef)/\b4 w (gf ao ω) Tag.free.R d ((oS.map ptrTo).toArray.getD j undef):=by
   intro j d aE;obtain⟨id,hx,JJ⟩:=aA j d aE;obtain⟨b,hl,h2⟩:=hi j id hx;have e1:(oS.map ptrTo).toArray[j]?=some (ptrTo b):=by simp[hl]
   have e2:(oS.map ptrTo).toArray.getD j undef=ptrTo b:=by rw[e7,e1];rfl
   rw[e2];exact⟨e1,SU aw JJ (hm id (gb hx)) h2⟩
  exact b4.cl _ g ds _ (fun j=>(oS.map ptrTo).toArray.getD j undef) (by simp;omega) (fun j d aE=>(cell j d aE).1) (fun j d aE=>(cell j d aE).2.frame fun _ _ _ h=>⟨h,rfl⟩)
 rename_i sn ac4;have BF:l.ql ao=false:=by
  unfold aF.om at hm;split at hm
  ·exact absurd rfl (sn _ _)
  ·exact absurd rfl (ac4 _ _)
  exact hm
 exact SS h BF dp
structure abm (w:World) (ω:Own) (τ:Nat->Nat×Value) (ao:List dx) (i j:Nat) (c:eZ) (af:List dx) (y:Value):Prop where
 gc:wA w (gf ao ω) (fM i j) c y
 at_:∀h∈af,h.i=i/\h.j=j/\Ev w ω τ h y/\c=.fk h.k h.es h.post
 one:y.oneCell'=true
variable{i:Nat}
theorem Lk(bW:pH ao=true)(aw:xr w ω τ bs){j:Nat}{m:qL}{c:eZ}{af:List dx}{rx:List aF}
  (h:yP bs i j m l=some (c,af,rx)) (jV:∀x∈af,x∈ao) (zi:∀x∈rx,x.om bs ao=false) (dp:Sat w ω τ l y):abm w ω τ ao i j c af y:=by
 unfold yP at h;split at h
 ·rw[b9]at h;obtain⟨d,h1,h⟩:=h;simp only[bK]at h;obtain⟨rfl,rfl,rfl⟩:=h;have:=awR aw h1 (zi _ (by simp)) dp;exact⟨this,fun x af=>by simp at af,this.qo⟩
 ·rename_i post t k es;simp only[aX,bK]at h;obtain⟨rfl,rfl,rfl⟩:=h;have sl:=jV _ (hU);refine⟨dp.1.frame fun b q _ aH=>⟨?_,rfl⟩,fun x af=>?_,dp.1.qo⟩
  ·simp only[Tag.R]at aH ⊢;simp only[gf,aH];have:=LU (t:=t) (q:=q) (ec:=q) bW sl (SO ⟨i,j,t,none,k,es,post⟩ q);simp only[this]
  simp only[List.mem_singleton]at af;subst af;exact⟨rfl,rfl,⟨dp.1.frame fun b q _ aH=>⟨aH,rfl⟩,fun _=>dp.2,fun a b e=>by cases e⟩,rfl⟩
 ·rename_i post t a b k es;simp only[aX,bK]at h;obtain⟨rfl,rfl,rfl⟩:=h;have sl:=jV _ (hU);obtain⟨fH,sr,dp⟩:=dp;have:y=fH:=sr;subst this;refine⟨dp.1.frame fun c q _ aH=>⟨?_,rfl⟩,fun x af=>?_,dp.1.qo⟩
  ·simp only[Tag.R]at aH ⊢;simp only[gf,aH];have:=LU (t:=t) (q:=(a,b)::q) (ec:=q) bW sl (SO ⟨i,j,t,some (a,b),k,es,post⟩ q);simp only[this]
  simp only[List.mem_singleton]at af;subst af;refine⟨rfl,rfl,⟨dp.1.frame fun b q _ aH=>⟨aH,rfl⟩,fun e=>(by cases e),fun cO dD e=>?_⟩,rfl⟩;simp only[aX,bK]at e;obtain⟨rfl,rfl⟩:=e;exact dp.2 rfl
 cases h
theorem SV:∀{ms:List qL} {ls:List aF} {j:Nat} {cs:List eZ} {af:List dx} {rx:List aF},qt bs i j ms ls=some (cs,af,rx)->cs.length=ls.length
 | [],[],j,cs,af,rx,h=>by simp only[qt,aX,bK]at h;obtain⟨rfl,_,_⟩:=h;rfl
 | m::ms,l::ls,j,cs,af,rx,h=>by
  simp only[qt]at h;split at h
  ·rename_i c h1 bx QT mj AF e1 e2;simp only[aX,bK]at h;obtain⟨rfl,_,_⟩:=h;simp[SV e2]
  cases h
 | [],_::_,j,cs,af,rx,h=>by simp[qt]at h
 | _::_,[],j,cs,af,rx,h=>by simp[qt]at h
theorem SX:∀{ms:List qL} {ls:List aF} {j:Nat} {cs:List eZ} {af:List dx} {rx:List aF},qt bs i j ms ls=some (cs,af,rx)->
  (∀(x:Nat) (c:eZ),cs[x]?=some c->∃l m h1 bx,ls[x]?=some l/\yP bs i (j+x) m l=some (c,h1,bx)/\(∀z∈h1,z∈af)/\(∀z∈bx,z∈rx))/\
  (∀h∈af,∃(x:Nat) (c:eZ) (l:aF) (m:qL) (h1:List dx) (bx:List aF),cs[x]?=some c/\ls[x]?=some l/\yP bs i (j+x) m l=some (c,h1,bx)/\h∈h1/\(∀z∈h1,z∈af)/\(∀z∈bx,z∈rx))
 | [],[],j,cs,af,rx,h=>by
  simp only[qt,aX,bK]at h;obtain⟨rfl,rfl,rfl⟩:=h;exact⟨fun x c ak=>by simp at ak,fun h bN=>by simp at bN⟩
 | m::ms,l::ls,j,cs,af,rx,h=>by
  simp only[qt]at h;split at h
  ·rename_i c h1 bx QT mj AF e1 e2;simp only[aX,bK]at h;obtain⟨rfl,rfl,rfl⟩:=h;obtain⟨cS,bt⟩:=SX e2;refine⟨fun x kz ak=>?_,fun z bd=>?_⟩
   ·cases x with
    | zero=>
     simp only[mE,aX]at ak;subst ak;exact⟨l,m,h1,bx,rfl,e1,fun z bd=>hD _ bd,fun z bd=>hD _ bd⟩
    | succ x=>
     obtain⟨gV,jZ,U,b0,g1,g2,g3,g4⟩:=cS x kz (by simpa using ak);exact⟨gV,jZ,U,b0,by simpa using g1,by rw[show j+(x+1)=j+1+x by omega];exact g2,fun z bd=>iC _ (g3 z bd),fun z bd=>iC _ (g4 z bd)⟩
   rcases ia.1 bd with bd | bd
   ·exact⟨0,c,l,m,h1,bx,rfl,rfl,e1,bd,fun z bd=>hD _ bd,fun z bd=>hD _ bd⟩
   obtain⟨x,kz,gV,jZ,U,b0,g0,g1,g2,g5,g3,g4⟩:=bt z bd;exact⟨x+1,kz,gV,jZ,U,b0,by simpa using g0,by simpa using g1,by rw[show j+(x+1)=j+1+x by omega];exact g2,g5,fun z bd=>iC _ (g3 z bd),fun z bd=>iC _ (g4 z bd)⟩
  cases h
 | [],_::_,j,cs,af,rx,h=>by simp[qt]at h
 | _::_,[],j,cs,af,rx,h=>by simp[qt]at h
structure abl (w:World) (ω:Own) (τ:Nat->Nat×Value) (ao:List dx) (i:Nat) (fi:GA) (af:List dx) (y:Value):Prop where
 abO:QD w (gf ao ω) i fi y
 at_:∀h∈af,h.i=i/\Ev w ω τ h (cellOf y h.j)/\fi.cell h.j=some (.fk h.k h.es h.post)
theorem SY(bW:pH ao=true)(aw:xr w ω τ bs){ms:List qL}{p:aI}{fi:GA}{af:List dx}{rx:List aF}
  (h:A4 bs i ms p=some (fi,af,rx)) (jV:∀x∈af,x∈ao) (zi:∀x∈rx,x.om bs ao=false) (dp:cV (Sat w ω τ) p y):abl w ω τ ao i fi af y:=by
 unfold A4 at h;split at h
 ·rename_i l;split at h
  ·rename_i m;rw[b9]at h;obtain⟨⟨c,h1,bx⟩,e,h⟩:=h;simp only[bK]at h;obtain⟨rfl,rfl,rfl⟩:=h;have:=Lk bW aw e jV zi dp;refine⟨this.gc,fun x af=>?_⟩;obtain⟨e1,e2,cj,d'⟩:=this.at_ x af;have abK:cellOf y x.j=y:=by rw[e2,cellOf,Cq this.one];rfl
   rw[abK];exact⟨e1,cj,by simp[GA.cell,e2,d']⟩
  cases h
 ·rename_i ls;rw[b9]at h;obtain⟨⟨cs,h1,bx⟩,e,h⟩:=h;simp only[bK]at h;obtain⟨rfl,rfl,rfl⟩:=h;obtain⟨us,rfl,aZ,hu⟩:=dp;obtain⟨cS,bt⟩:=SX e;refine⟨⟨us,rfl,by rw[SV e];exact aZ,fun x c ak=>?_⟩,fun z bd=>?_⟩
  ·obtain⟨l,m,U,b0,g1,g2,g3,g4⟩:=cS x c ak;obtain⟨u,gU,fO⟩:=hu x l g1;rw[dV]at g2;exact⟨u,gU,(Lk bW aw g2 (fun z bd=>jV z (g3 z bd)) (fun z bd=>zi z (g4 z bd)) fO).gc⟩
  obtain⟨x,c,l,m,U,b0,g0,g1,g2,g5,g3,g4⟩:=bt z bd;obtain⟨u,gU,fO⟩:=hu x l g1;rw[dV]at g2;obtain⟨e1,e2,cj,d'⟩:=(Lk bW aw g2 (fun z bd=>jV z (g3 z bd)) (fun z bd=>zi z (g4 z bd)) fO).at_ z g5;refine⟨e1,?_,by simp only[GA.cell,e2,g0,d']⟩;have:cellOf (.agg us) z.j=u:=by simp[cellOf,Value.cells,e2,e7,gU]
  rw[this];exact cj
 cases h
theorem SZ:∀{K4:List (List qL)} {cz:List aI} {i:Nat} {gs:List GA} {af:List dx} {rx:List aF},wK bs i K4 cz=some (gs,af,rx)->gs.length=cz.length/\
  (∀(x:Nat) (fi:GA),gs[x]?=some fi->∃p ms h1 bx,cz[x]?=some p/\A4 bs (i+x) ms p=some (fi,h1,bx)/\(∀z∈h1,z∈af)/\(∀z∈bx,z∈rx))/\
  (∀h∈af,∃(x:Nat) (fi:GA) (p:aI) (ms:List qL) (h1:List dx) (bx:List aF),gs[x]?=some fi/\cz[x]?=some p/\A4 bs (i+x) ms p=some (fi,h1,bx)/\h∈h1/\(∀z∈h1,z∈af)/\(∀z∈bx,z∈rx))
 | [],[],i,gs,af,rx,h=>by
  simp only[wK,aX,bK]at h;obtain⟨rfl,rfl,rfl⟩:=h;exact⟨rfl,fun x c ak=>by simp at ak,fun h bN=>by simp at bN⟩
 | m::ms,l::ls,i,gs,af,rx,h=>by
  simp only[wK]at h;split at h
  ·rename_i c h1 bx QT mj AF e1 e2;simp only[aX,bK]at h;obtain⟨rfl,rfl,rfl⟩:=h;obtain⟨dm,cS,bt⟩:=SZ e2;refine⟨by simp[dm],fun x kz ak=>?_,fun z bd=>?_⟩
   ·cases x with
    | zero=>
     simp only[mE,aX]at ak;subst ak;exact⟨l,m,h1,bx,rfl,e1,fun z bd=>hD _ bd,fun z bd=>hD _ bd⟩
    | succ x=>
     obtain⟨gV,jZ,U,b0,g1,g2,g3,g4⟩:=cS x kz (by simpa using ak);exact⟨gV,jZ,U,b0,by simpa using g1,by rw[show i+(x+1)=i+1+x by omega];exact g2,fun z bd=>iC _ (g3 z bd),fun z bd=>iC _ (g4 z bd)⟩
   rcases ia.1 bd with bd | bd
   ·exact⟨0,c,l,m,h1,bx,rfl,rfl,e1,bd,fun z bd=>hD _ bd,fun z bd=>hD _ bd⟩
   obtain⟨x,kz,gV,jZ,U,b0,g0,g1,g2,g5,g3,g4⟩:=bt z bd;exact⟨x+1,kz,gV,jZ,U,b0,by simpa using g0,by simpa using g1,by rw[show i+(x+1)=i+1+x by omega];exact g2,g5,fun z bd=>iC _ (g3 z bd),fun z bd=>iC _ (g4 z bd)⟩
  cases h
 | [],_::_,i,gs,af,rx,h=>by simp[wK]at h
 | _::_,[],i,gs,af,rx,h=>by simp[wK]at h
def FX:List dx->Option (Nat×Nat)
 | []=>none
 | h::r=>match h.p with | some p=>some (h.t,p.1) | none=>FX r
theorem S0:∀{ao:List dx},FX ao=none->∀h∈ao,h.p=none
 | [],_,h,bN=>by cases bN
 | x::r,e,h,bN=>by
  simp only[FX]at e;split at e
  ·cases e
  rename_i hp;rcases eH.1 bN with rfl | bN
  ·exact hp
  exact S0 e h bN
def Ci(a:Nat):List dx->List Prop
 | []=>[]
 | h::r=>match h.p with | some p=>(p.1=a)::Ci a r | none=>Ci a r
theorem Ll{a:Nat}:∀{ao:List dx},cQ (Ci a ao)->∀h∈ao,∀p,h.p=some p->p.1=a
 | [],_,h,bN,_,_=>by cases bN
 | x::r,a7,h,bN,p,hp=>by
  simp only[Ci]at a7;split at a7
  ·rename_i q aH;rcases eH.1 bN with rfl | bN
   ·rw[hp]at aH;rw[gJ aH];exact a7.1
   exact Ll a7.2 h bN p hp
  rename_i aH;rcases eH.1 bN with rfl | bN
  ·rw[hp]at aH;cases aH
  exact Ll a7 h bN p hp
def Lm(st:aC)(ao:List dx)(src:Nat)(ds:List D):Option (Nat×Nat×List (List D)×List Prop):=
 match FX ao with
 | none=>some (0,0,[],[])
 | some (t,a)=>
  match (st.env.getD src .cp).leaf with
  | some (.J (.own s) k es)=>
   if s=t/\ds.length=k/\ao.all (fun h=>match h.p with | some _=>h.t==t&&h.post.isSome | none=>true)=true then
    some (t,k,es.set a (nI ao ds),(es[a]?=some ds)::Ci a ao)
   else none
  | _=>none
theorem awS{w0:eR}{st:aC}{a:Act}(a6:cK w0 st a w ω τ){src:Nat}{ds:List D}{t k:Nat}{es:List (List D)}{obs:List Prop}
  (h:Lm st ao src ds=some (t,k,es,obs)) (a7:cQ obs):QG w ω τ ao t k es:=by
 unfold Lm at h;split at h
 ·rename_i aZ;exact⟨fun x af p hp _=>by rw[S0 aZ x af]at hp;cases hp⟩
 rename_i du cO bF;split at h
 ·rename_i s ch cD al;split at h
  ·rename_i ak;obtain⟨rfl,q7,iY⟩:=ak;simp only[aX,bK]at h;obtain⟨rfl,rfl,rfl,rfl⟩:=h;rw[gA]at iY;refine⟨fun x af p hp _=>?_⟩;have nA:∃y,Sat w ω τ (.J (.own s) ch cD) y:=by
    rw[lK]at al;cases e:st.env[src]? with
    | none=>rw[e]at al;simp[aI.leaf]at al
    | some p=>
     rw[e]at al;obtain⟨v,_,U⟩:=a6.env src p e;exact⟨v,aI.dS al U⟩
   obtain⟨y,bD⟩:=nA;refine⟨cD,y,ds,cO,bD,a7.1,q7,rfl,fun z bd q aH=>?_⟩;have h1:=iY z bd;simp only[aH,cw,ka,r2]at h1;exact⟨h1.1,Ll a7.2 z bd q aH,h1.2⟩
  cases h
 cases h
def Ln(P:Program)(st:aC)(d:Option Nat)(f:FuncId)(args:List Operand)(ans:List cd):Option (aC×List cd×List Prop):=
 match ans with
 | .rV w' src ds rs::r=>
  match wK st.boxes 0 w' (args.map st.bq) with
  | some (gs,ao,qA)=>
   match Lm st ao src ds with
   | some (il,pc,qR,obs)=>
    let t0:=10000*(d.getD 0+1)
    if gM P f=true/\vp rs=true/\t0+10000<=dj/\pH ao=true/\qA.all (fun l=>!(l.om st.boxes ao))=true/\ao.all (fun h=>!(decide (t0<=h.t)&&decide (h.t<t0+10000)))=true then
     let bz:=st.map (sN ao t0 il pc qR)
     match d with
     | some d=>some (⟨bz.env.set d (ux t0 rs),bz.boxes⟩,r,kY P f gs rs::obs)
     | none=>some (bz,r,kY P f gs rs::obs)
    else none
   | none=>none
  | none=>none
 | _=>none
theorem awT{P:Program}{w0:eR}{st bz:aC}{a:Act}{dst:Option Nat}{f:FuncId}{args:Array Operand}{ts:Array TypeId}{type:TypeId}{pos:String}{after:Array Edge}{guard:Option (Nat×Bool)}{ans cu:List cd}{obs:List Prop}
  (a6:cK w0 st a w ω τ) (h:Ln P st dst f args.toList ans=some (bz,cu,obs)) (a7:cQ obs) {K:Act->World->Prop} {Q:Exit->Act->World->Prop} (ig:∀cO aP,Rel w0 bz cO aP->K cO aP):
  Oper.wp P ⟨dst,.call ⟨.value (.func f),args,ts⟩,type,pos,after,guard⟩ a w K Q:=by
 unfold Ln at h;split at h
 ·rename_i w' src ds rs r;split at h
  ·rename_i gs ao qA ny;split at h
   ·rename_i il pc qR gq jV;simp only at h;split at h
    ·rename_i ak;obtain⟨jR,er,jw,bW,Fh,zh⟩:=ak;rw[gA]at Fh zh;have BM:∀l∈qA,l.om st.boxes ao=false:=fun l al=>by simpa using Fh l al
     have ado:∀h∈ao,¬(10000*(dst.getD 0+1)<=h.t/\h.t<10000*(dst.getD 0+1)+10000):=fun h bN=>by
      have:=zh h bN;simp only[hb,Bool.and_eq_false_iff,mG]at this;omega
     obtain⟨hlen,cS,bt⟩:=SZ ny;have hy:∀(x:Nat) (p:aI),(args.toList.map st.bq)[x]?=some p->∃v,(args.map a.eval)[x]?=some v/\cV (Sat w ω τ) p v:=by
      intro x p hp;rw[dK,b9]at hp;obtain⟨o,h1,rfl⟩:=hp;refine⟨a.eval o,?_,a6.bq o⟩;rw[aB3];rw[mD]at h1;rw[h1];rfl
     have acx:IX w (gf ao ω) gs (args.map a.eval):=by
      refine⟨fun b aw=>?_,by simp[hlen],fun x fi af=>?_⟩
      ·have dt:ω b≠.bM:=fun e=>aw (by simp only[gf,e])
       obtain⟨_,arr,ty,aJ⟩:=a6.owned b dt;refine⟨?_,arr,ty,aJ⟩;simp only[gf]at aw ⊢;cases e:ω b with
       | bM=>simp[e]at aw
       | box id=>simp[e]at aw
       | tok t q=>
        simp only[e]at aw ⊢;cases e2:n1 t q ao with
        | none=>simp[e2]at aw
        | some z=>
         obtain⟨g,ec⟩:=z;obtain⟨y,_,_,rfl⟩:=Cf e2;exact⟨_,ec,rfl,by simp[fM]⟩
      obtain⟨p,ms,h1,bx,g1,g2,g3,g4⟩:=cS x fi af;obtain⟨v,bI,w3⟩:=hy x p g1;rw[dV]at g2;exact⟨v,bI,(SY bW a6.boxes g2 g3 (fun z bd=>BM z (g4 z bd)) w3).abO⟩
     have sd:∀h∈ao,Ev w ω τ h (cellOf ((args.map a.eval).getD h.i undef) h.j)/\∃fi,gs[h.i]?=some fi/\fi.cell h.j=some (.fk h.k h.es h.post):=by
      intro h bN;obtain⟨x,fi,p,ms,h1,bx,g0,g1,g2,g5,g3,g4⟩:=bt h bN;obtain⟨v,bI,w3⟩:=hy x p g1;rw[dV]at g2;obtain⟨e1,e2,cj⟩:=(SY bW a6.boxes g2 g3 (fun z bd=>BM z (g4 z bd)) w3).at_ h g5;have bq:(args.map a.eval).getD h.i undef=v:=by rw[e1,e7,bI];rfl
      rw[bq];exact⟨e2,fi,by rw[e1];exact g0,cj⟩
     have fN:(execOp a.eval ⟨dst,.call ⟨.value (.func f),args,ts⟩,type,pos,after,guard⟩).run P w=.ok (.enter f (args.map a.eval)) w:=by
      unfold gM at jR;split at jR
      ·rename_i fn mg;simp only[cw,hb,AS,l6]at jR;have tC:fn.body≠none:=by intro e;rw[e]at jR;simp at jR
       simp[execOp,resolve,Act.eval,Deferred.ofValue,invoke,callFunc,mg,jR.1,tC]
      cases jR
     have key:kY P f gs rs->cQ gq->(∀v aP bf c0,cK w0 (st.map (sN ao (10000*(dst.getD 0+1)) il pc qR)) a aP bf c0->cV (Sat aP bf c0) (ux (10000*(dst.getD 0+1)) rs) v->K (a.put dst v) aP)->
       Oper.wp P ⟨dst,.call ⟨.value (.func f),args,ts⟩,type,pos,after,guard⟩ a w K Q:=by
      intro Ka J3 Q4;unfold Oper.wp;rw[fN];simp only[Oper.upon];refine (Ka w _ _ acx (a6.tidy fun b aw=>by simp only[gf,aw])).mono ?_;rintro e aP ⟨v,rfl,lU,fA,c1,c2,cN,eD⟩;obtain⟨bf,c0,h1,U⟩:=a6.abA (10000*(dst.getD 0+1)) bW er jw ado lU fA c1 c2 eD (fun h=>cellOf ((args.map a.eval).getD h.i undef) h.j)
       (fun h bN cD he=>by
        obtain⟨_,fi,g1,g2⟩:=sd h bN;rw[he]at g2;exact cN h.i h.j fi h.k h.es cD g1 g2)
       (fun h bN=>(sd h bN).1) (awS a6 jV J3)
      exact Q4 v aP bf c0 h1 U
     cases dst with
     | none=>
      simp only[aX,bK]at h;obtain⟨rfl,_,rfl⟩:=h;exact key a7.1 a7.2 fun v aP bf c0 h1 _=>ig _ _ ⟨bf,c0,h1⟩
     | some d=>
      simp only[aX,bK]at h;obtain⟨rfl,_,rfl⟩:=h;exact key a7.1 a7.2 fun v aP bf c0 h1 U=>ig _ _ ⟨bf,c0,h1.put U⟩
    cases h
   cases h
  cases h
 cases h
