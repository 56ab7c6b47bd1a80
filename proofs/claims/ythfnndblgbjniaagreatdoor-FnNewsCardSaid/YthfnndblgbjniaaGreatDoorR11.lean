import Derived.Test.YthfnndblgbjniaaGreatDoorR6
set_option linter.unusedVariables false
set_option linter.unusedSimpArgs false
namespace Go.Sx
open Go.RowKit
def uI(t:Nat)(ms:gH)(k:Nat)(cq:List (List D)):aC->aC
 | .J (.own s) cm es=>if s=t then .J (.own t) k cq else if (ms.at s).isSome then .cp else .J (.own s) cm es
 | .cU (.own s) cm es i j=>if s=t then .cU (.own t) k cq i j else if (ms.at s).isSome then .cp else .cU (.own s) cm es i j
 | .J (.ro s) cm es=>if s=t then .cp else if (ms.at s).isSome then .cp else .J (.ro s) cm es
 | .cU (.ro s) cm es i j=>if s=t then .cp else if (ms.at s).isSome then .cp else .cU (.ro s) cm es i j
 | .aL s a b dE du m=>if s=t then .cp else if (ms.at s).isSome then .cp else .aL s a b dE du m
 | .eS _ _=>.cp
 | l=>l
def lf(t:Nat)(ms:gH):c4->c4
 | .tok s q=>if s=t then .tok s q else match ms.at s with | some p=>.tok t (p::q) | none=>.tok s q
 | o=>o
variable{t:Nat}{ms:gH}
theorem BA{o:c4}{id:Nat}:lf t ms o=.box id<->o=.box id:=by
 cases o with
 | bz=>simp[lf]
 | box i=>simp[lf]
 | tok s q=>
  grind[lf]
theorem ai3{o:c4}:lf t ms o=.bz<->o=.bz:=by
 cases o with
 | bz=>simp[lf]
 | box i=>simp[lf]
 | tok s q=>
  grind[lf]
variable{i j:Nat}{ds:List D}
theorem Hy{es:List (List D)}{x:Nat}(hi:i<es.length):cN (es.set i ds) x j=if x=i then ds[j]? else cN es x j:=by
 unfold cN;grind
def jP(ds:List D)(off:Nat)(xs:List D):List D:=ds.take off++(xs++ds.drop (off+xs.length))
theorem Oo{xs:List D}{off:Nat}(h:off+xs.length<=ds.length):(jP ds off xs)[i]?=if off<=i/\i<off+xs.length then xs[i-off]? else ds[i]?:=by
 unfold jP;grind
theorem Oq{xs:List D}{off:Nat}(h:off+xs.length<=ds.length):(jP ds off xs).length=ds.length:=by
 grind[jP]
def Hz(t:Nat)(ms:gH):Bool:=ms.all fun x=>x.1≠t&&(match ms.at x.1 with | some p=>p.1==x.2.1&&p.2==x.2.2 | none=>false)
theorem ai4(h:Hz t ms=true){s:Nat}{p:Nat×Nat}(hm:(s,p)∈ms):s≠t/\ms.at s=some p:=by
 have U:=fp.1 h _ hm;grind
theorem HA(i:Nat):∀(xs:List aC) (j:Nat),jW i j xs=(jW 0 j xs).map fun x=>(x.1,(i,x.2.2))
 | [],_=>rfl
 | l::ls,j=>by
  simp only[jW];split
  ·simp only[lu,qo,true_and];exact HA i ls (j+1)
  exact HA i ls (j+1)
theorem Ot(i s:Nat):∀ms:gH,gH.at s (ms.map fun x=>(x.1,(i,x.2.2)))=(gH.at s ms).map fun p=>(i,p.2)
 | []=>rfl
 | (a,p)::r=>by
  simp only[lu,gH.at];split
  ·rfl
  simp_all[Ot]
theorem G1(i0:Nat):∀(xs:List aC) (j s:Nat) (p:Nat×Nat),(s,p)∈jW i0 j xs->p.1=i0
 | [],_,_,_,h=>by grind[jW]
 | l::ls,j,s,p,h=>by
  simp only[jW]at h;split at h
  ·rcases ep.1 h with h | h
   ·simp only[bq]at h;rw[h.2]
   exact G1 i0 ls (j+1) s p h
  exact G1 i0 ls (j+1) s p h
theorem Ou{xs:List aC}(h:Hz t (jW 0 j xs)=true){s:Nat}{p:Nat×Nat}(hm:(s,p)∈jW i j xs):s≠t/\(jW i j xs).at s=some p:=by
 have hp:=G1 i xs j s p hm;rw[HA]at hm ⊢;obtain⟨⟨rH,oR⟩,U,aa⟩:=kX.1 hm;simp only[bq]at aa;obtain⟨rfl,aa⟩:=aa;obtain⟨aA,aO⟩:=ai4 h U;simp_all[Ot]
def tt.flat:tt->Bool
 | .at_ _ _=>false
 | _=>true
def s4(t:Nat):Nat->List aC->Option (List D×List Nat)
 | _,[]=>some ([],[])
 | j,.aL s a b k es m::ls=>if s=t/\b=j/\m.flat=true then (s4 t (j+1) ls).map fun r=>(.J k es::r.1,a::r.2) else none
 | j,l::ls=>
  match l.hE,s4 t (j+1) ls with
  | some d,some r=>some (d::r.1,r.2)
  | _,_=>none
theorem Ov:∀{xs:List aC} {j:Nat} {ys:List D} {is:List Nat},s4 t j xs=some (ys,is)->ys.length=xs.length/\
  ∀(y:Nat) (d:D),ys[y]?=some d->∃l,xs[y]?=some l/\(l.hE=some d\/∃a k es m,l=.aL t a (j+y) k es m/\m.flat=true/\a∈is/\d=.J k es)
 | [],j,ys,is,h=>by
  grind[s4,aT,bq]
 | l::ls,j,ys,is,h=>by
  have fin:∀d0 D2 Gu Bm,ys=d0::D2->is=Bm->(∀a∈Gu,a∈Bm)->s4 t (j+1) ls=some (D2,Gu)->(l.hE=some d0\/∃a k es m,l=.aL t a j k es m/\m.flat=true/\a∈Bm/\d0=.J k es)->ys.length=(l::ls).length/\
    ∀(y:Nat) (d:D),ys[y]?=some d->∃x,(l::ls)[y]?=some x/\(x.hE=some d\/∃a k es m,x=.aL t a (j+y) k es m/\m.flat=true/\a∈is/\d=.J k es):=by
   rintro d0 D2 Gu Bm rfl rfl h1 aI bV;obtain⟨U,aa⟩:=Ov aI;refine⟨by simp[U],fun y d aF=>?_⟩;cases y with
   | zero=>
    simp only[kV,aT]at aF;subst aF;exact⟨l,rfl,bV⟩
   | succ y=>
    obtain⟨x,ao,aA⟩:=aa y d (by simpa using aF);refine⟨x,by simpa using ao,?_⟩;rcases aA with aA | ⟨a,k,es,m,aO,a8,bG,b9⟩
    ·exact .inl aA
    exact .inr ⟨a,k,es,m,by rw[aO,show j+1+y=j+(y+1) by omega],a8,h1 a bG,b9⟩
  have plain:(match l.hE,s4 t (j+1) ls with | some d,some r=>some (d::r.1,r.2) | _,_=>none)=some (ys,is)->ys.length=(l::ls).length/\
    ∀(y:Nat) (d:D),ys[y]?=some d->∃x,(l::ls)[y]?=some x/\(x.hE=some d\/∃a k es m,x=.aL t a (j+y) k es m/\m.flat=true/\a∈is/\d=.J k es):=by
   grind
  cases l with
  | aL s a b k es m=>
   simp only[s4]at h;split at h
   ·rename_i ap;obtain⟨rfl,rfl,hm⟩:=ap;rw[b0]at h;grind
   cases h
  | _=>exact plain h
theorem BB:∀{l:List Nat},cv (l.map fun a=>a=i)->∀a∈l,a=i
 | [],_,a,h=>by cases h
 | x::l,a6,a,h=>by
  rcases ep.1 h with rfl | h
  ·exact a6.1
  exact BB a6.2 a h
def G2(P:Program)(st:aD)(ty:TypeId)(t k:Nat)(es:List (List D))(i j:Nat)(q:aE)(ans:List b'):Stepped:=
 match q.leaves,P.info? ty,ans with
 | some xs,some inf,.el ds::r=>
  match s4 t j xs with
  | some (ys,is)=>
   if xs.length=inf.size/\ds.length=k/\j+ys.length<=k/\Hz t (jW 0 j xs)=true then
    some (st.map (uI t (jW i j xs) k (es.set i (jP ds j ys))),r,(es[i]?=some ds)::is.map fun a=>a=i)
   else none
  | none=>none
 | _,_,_=>none
theorem cy.arv{P:Program}{w0:dY}{st bl:aD}{a:Act}{w:World}{ω:Own}{τ:Nat->Nat×Value}{ty:TypeId}{k:Nat}{es:List (List D)}{q:aE}{v y:Value}{ans cf:List b'}{obs:List Prop}
  (aW:cy w0 st a w ω τ) (hp:Sat w ω τ (.cU (.own t) k es i j) y) (aM:cH (Sat w ω τ) q v) (h:G2 P st ty t k es i j q ans=some (bl,cf,obs)) (a6:cv obs):
  ∃aP,(Instr.storeAt ty y v).run P w=.ok () aP/\Rel w0 bl a aP:=by
 unfold G2 at h;split at h
 ·rename_i xs inf ds r e1 e2;split at h
  ·rename_i ys is ch;split at h
   ·rename_i ap;obtain⟨kB,kf,jR,A0⟩:=ap;simp only[aT,bq]at h;obtain⟨rfl,_,rfl⟩:=h;have er:es[i]?=some ds:=a6.1;obtain⟨aj,oB⟩:=aE.vX e1 aM;obtain⟨M0,Gp⟩:=Ov ch;have V8:=BB a6.2;obtain⟨b,off,cap,rfl,ij,aI,bH⟩:=hp;simp only[Tag.dG]at bH;cases aI with
    | nil=>simp at ij
    | row R k es b off cap arr hF cF us aw dz hZ eL gp hu aF=>
     have jQ:ω b=.tok t []:=dz;obtain⟨tN,r1,tc,hX⟩:=aW.owned b (by grind);rw[aw]at hX;simp only[aT,Obj.cells.injEq]at hX;obtain⟨rfl,rfl,rfl⟩:=hX;have tG:b<w.heap.size:=(iV.1 aw).1;have hmul:(i+1)*k<=cap*k:=gN _ (by omega);rw[gx]at hmul;have nE:v.cells.size=xs.length:=aj.1;have ez:off+i*k+j+v.cells.toList.length<=arr.size:=by simp;omega
     have e5:=run_storeCells_at P b (off+i*k+j) hF v.cells.toList 0 arr w aw (by grind) oB;simp only[mX]at e5;generalize nt:(arr.toList.take (off+i*k+j)++v.cells.toList++arr.toList.drop (off+i*k+j+v.cells.toList.length)).toArray=cc at e5;have hM:∀x:Nat,cc[x]?=if off+i*k+j<=x/\x<off+i*k+j+xs.length then v.cells[x-(off+i*k+j)]? else arr[x]?:=by
      intro x;rw[<-nt,qk,yA (by grind)];simp[nE]
     have tR:cc.size=arr.size:=by rw[<-nt];simp;grind
     have jS:=setRow_heap w b arr cc hF (0,0) aw
     let ms:=jW i j xs
     let a':Own:=fun c=>lf t ms (ω c)
     have atc:ms.at t=none:=by
      cases e:ms.at t with
      | none=>rfl
      | some p=>
       have pL:∀(ms:gH) (p:Nat×Nat),ms.at t=some p->(t,p)∈ms:=by
        intro ms;induction ms with
        | nil=>intro p h;cases h
        | cons x ms d'=>
         intro p h;obtain⟨s,oR⟩:=x;simp only[gH.at]at h;split at h
         ·grind
         grind
       grind[absurd,Ou]
     have c8:∀c q,c<w.heap.size->ω c=.tok t q->a' c=.tok t q:=fun c q _ h=>by grind[lf]
     have lN:∀c p q,c<w.heap.size->ω c=.tok t (p::q)->a' c=.tok t (p::q)/\(w.setRow b cc).heap[c]?=w.heap[c]?:=by
      grind[setRow_other]
     have hN:∀(g:Tag) c q,g≠.own t->g≠.ro t->(∀s,g=.own s\/g=.ro s->ms.at s=none)->g.R q (ω c)->g.R q (a' c)/\(w.setRow b cc).heap[c]?=w.heap[c]?:=by
      intro g c q U aa aA et;have h0:c≠b:=fun e=>by
       rw[e,jQ]at et;cases g with
       | free=>cases et
       | own s=>grind[Tag.R,c4.tok.injEq]
       | ro s=>
        rcases et with h | ⟨dB,h⟩
        ·cases h
        grind
      refine⟨?_,setRow_other w b c cc h0⟩;cases g with
      | free=>grind[Tag.R,lf]
      | own s=>
       simp only[Tag.R]at et ⊢;simp only[a',et,lf];split
       ·rfl
       grind
      | ro s=>
       simp only[Tag.R]at et ⊢;rcases et with h | ⟨dB,h⟩
       ·grind[lf]
       right;refine⟨dB,?_⟩;simp only[a',h,lf];split
       ·rfl
       grind
     have Wp:bS (w.setRow b cc) a' (Tag.own t).R (.J k (es.set i (jP ds j ys))) (.slice (some ⟨b,off,none⟩) es.length cap):=by
      have hlen:(es.set i (jP ds j ys)).length=es.length:=gz;have A5:ds.length=k:=kf;have eI:∀x y d,cN (es.set i (jP ds j ys)) x y=some d->∃u,cc[off+x*k+y]?=some u/\bS (w.setRow b cc) a' (fun q=>(Tag.own t).R ((x,y)::q)) d u:=by
       intro x y d dH;rw[Hy ij]at dH;by_cases ao:x=i
       ·subst ao;rw[bU rfl,Oo (by omega)]at dH;split at dH
        ·rename_i bO;obtain⟨l,nA,c2⟩:=Gp _ _ dH;obtain⟨u,gq,eV⟩:=aj.2 _ _ nA;rcases c2 with c2 | ⟨a,b8,bL,m,rfl,hm,Vu,rfl⟩
         case inr=>
          have Vw:=V8 a Vu;subst Vw;obtain⟨gg,pN,qX,_⟩:=eV;have bD:u=gg:=by
           cases m with
           | at_ x y=>cases hm
           | here=>exact pN
           | ky=>exact pN
          subst bD;refine⟨u,?_,qX.frame fun c q ap et=>?_⟩
          ·rw[hM,bU (by omega),<-gq]
           congr 1;omega
          rw[show j+(y-j)=y by omega]at et;exact lN c _ _ ap et
         refine⟨u,?_,?_⟩
         ·rw[hM,bU (by omega),<-gq]
          congr 1;omega
         have pL:∀s,l.tok=some s->ms.at s=some (x,y)/\s≠t:=by
          intro s c5;have:=Hu x xs j (y-j) l s nA c5;rw[show j+(y-j)=y by omega]at this;grind[Ou]
         cases l with
         | cp=>cases c2
         | v z=>
          simp only[aC.hE]at c2;split at c2
          ·simp only[aT]at c2;subst c2;have:u=z:=eV;subst this;exact .v _ _ ‹_›
          cases c2
         | a1 c=>
          simp only[aC.hE,aT]at c2;subst c2;have:u=.bool c:=eV;subst this;exact .v _ _ rfl
         | ptr=>cases c2
         | cU=>cases c2
         | gZ=>cases c2
         | fd=>cases c2
         | c9=>cases c2
         | fK=>cases c2
         | aL=>cases c2
         | eS=>cases c2
         | J g b8 bL=>
          cases g with
          | free=>cases c2
          | ro s=>cases c2
          | own s=>
           simp only[aC.hE,aT]at c2;subst c2;obtain⟨U,aa⟩:=pL s rfl;refine eV.1.frame fun c q ap et=>?_
           simp only[Tag.R]at et ⊢;refine⟨?_,setRow_other w b c cc fun e=>?_⟩
           ·simp only[a',et,lf];grind
           grind
        rename_i bO;have ov:cN es x y=some d:=by grind[cN]
        refine⟨us x y,?_,(aF x y d ov).frame fun c q ap et=>lN c _ _ ap et⟩;rw[hM,bE (by omega),hu x y d ov]
       rw[bE ao]at dH;obtain⟨k7,WZ⟩:=rh gp dH;refine⟨us x y,?_,(aF x y d dH).frame fun c q ap et=>lN c _ _ ap et⟩;rw[hM,bE ?_,hu x y d dH];rcases Nat.lt_or_gt_of_ne ao with h | h
       ·have:(x+1)*k<=i*k:=gN _ h;grind
       have:(i+1)*k<=x*k:=gN _ h;grind
      have oE:∀e∈es.set i (jP ds j ys),e.length=k:=by
       grind[ps,Oq]
      have:=bS.row (w:=w.setRow b cc) (ω:=a') (Tag.own t).R k (es.set i (jP ds j ys)) b off cap cc hF (0,0) (fun x y=>cc.getD (off+x*k+y) undef) jS (c8 b [] tG jQ) (by omega) (by omega) oE
       (fun x y d dX=>by obtain⟨u,U,_⟩:=eI x y d dX;rw[U];simp[eg,U])
       (fun x y d dX=>by obtain⟨u,U,aa⟩:=eI x y d dX;have:cc.getD (off+x*k+y) undef=u:=(by simp[eg,U]);grind)
      grind
     have ec:∀l v,Sat w ω τ l v->Sat (w.setRow b cc) a' τ (uI t ms k (es.set i (jP ds j ys)) l) v:=by
      intro l v c5;have atb:∀s,¬(ms.at s).isSome=true->ms.at s=none:=fun s h=>by
       cases e:ms.at s with
       | none=>rfl
       | some p=>simp[e]at h
      cases l with
      | cp=>exact trivial
      | v x=>exact c5
      | a1 c=>exact c5
      | ptr id o=>
       obtain⟨c,ap,e⟩:=c5;exact⟨c,BA.2 ap,e⟩
      | aL s a gj dE du m=>
       simp only[uI];split
       ·exact trivial
       rename_i U;split
       ·exact trivial
       rename_i aa;obtain⟨u,hu,lO,hm⟩:=c5;have iM:∀c q,ω c=.tok s q->a' c=.tok s q/\(w.setRow b cc).heap[c]?=w.heap[c]?:=fun c q et=>
        hN (.own s) c q (by grind) (by simp) (fun rH h=>by
         grind) et
       refine⟨u,hu,lO.frame fun c q _ et=>iM c _ et,fun mo=>?_⟩;obtain⟨kT,c,oP,Xd,od,ja,jk,EL,e3,a2,a3,a4⟩:=hm mo;obtain⟨e1,e2⟩:=iM c [] a2;exact⟨kT,c,oP,Xd,od,ja,jk,EL,e3,e1,e2.trans a3,a4⟩
      | eS=>exact trivial
      | fK f ids=>
       obtain⟨bs,e,a7,hi⟩:=c5;refine⟨bs,e,a7,fun i id hid=>?_⟩;obtain⟨b,U,aa⟩:=hi i id hid;exact⟨b,U,BA.2 aa⟩
      | gZ qC o=>
       obtain⟨c,e,eh⟩:=c5;exact⟨c,e,eh.frame fun c q _ et=>hN .free c q (by simp) (by simp) (fun s h=>by grind) et⟩
      | fd d=>
       exact bS.frame c5 fun c q _ et=>hN .free c q (by simp) (by simp) (fun s h=>by grind) et
      | c9 t2 b8 bL=>exact⟨c5.1.frame fun c q _ et=>hN .free c q (by simp) (by simp) (fun s h=>by grind) et,c5.2⟩
      | J g b8 bL=>
       cases g with
       | free=>exact⟨c5.1.frame fun c q _ et=>hN .free c q (by simp) (by simp) (fun s h=>by grind) et,ad⟩
       | own s=>
        simp only[uI];split
        ·rename_i FO;subst FO;have aa:=c5.2;simp only[Tag.dG]at aa;rw[bH]at aa;simp only[bq]at aa;rw[<-aa.2];exact⟨Wp,bH⟩
        split
        ·exact trivial
        rename_i U aa;exact⟨c5.1.frame fun c q _ et=>hN (.own s) c q (by grind) (by simp) (fun rH h=>by
         grind) et,c5.2⟩
       | ro s=>
        simp only[uI];split
        ·exact trivial
        split
        ·exact trivial
        rename_i U aa;exact⟨c5.1.frame fun c q _ et=>hN (.ro s) c q (by simp) (by grind) (fun rH h=>by
         grind) et,ad⟩
      | cU g b8 bL i2 tU=>
       obtain⟨gj,oP,od,e,lM,lO,mo⟩:=c5;cases g with
       | free=>exact⟨gj,oP,od,e,lM,lO.frame fun c q _ et=>hN .free c q (by simp) (by simp) (fun s h=>by grind) et,ad⟩
       | own s=>
        simp only[uI];split
        ·rename_i FO;subst FO;simp only[Tag.dG]at mo;rw[bH]at mo;simp only[bq,Value.slice.injEq,aT,Addr.mk.injEq]at mo;obtain⟨rfl,⟨rfl,rfl,_⟩,c2,rfl⟩:=mo;refine⟨b,off,cap,e,by simp;omega,?_,?_⟩
         ·grind
         rw[gz];exact bH
        split
        ·exact trivial
        rename_i U aa;exact⟨gj,oP,od,e,lM,lO.frame fun c q _ et=>hN (.own s) c q (by grind) (by simp) (fun rH h=>by
         grind) et,mo⟩
       | ro s=>
        simp only[uI];split
        ·exact trivial
        split
        ·exact trivial
        rename_i U aa;exact⟨gj,oP,od,e,lM,lO.frame fun c q _ et=>hN (.ro s) c q (by simp) (by grind) (fun rH h=>by
         grind) et,ad⟩
     refine⟨w.setRow b cc,?_,a',τ,aW.eo _ ec ?_ ?_ ?_ ?_⟩
     ·simp only[Instr.storeAt,Instr.sureAddr,Sem.run_bind,Sem.run_pure,Result.andThen_ok,storeVar,sizeOf,typeInfo,run_program,e2];grind
     ·exact aW.below.setRow tN cc
     ·intro c h0;have:ω c≠.bz:=fun e=>h0 (ai3.2 e)
      obtain⟨aA,ja,jk,aO⟩:=aW.owned c this;grind[setRow_other]
     ·intro id c h0;exact⟨BA.2 h0,setRow_other w b c cc fun e=>by grind⟩
     intro id c h0;exact BA.1 h0
   cases h
  cases h
 cases h
end Go.Sx
namespace Go.Sx
open Go.RowKit
def jX(w:World)(d:D)(y:Value):Prop:=bS w (fun _=>.bz) Tag.free.R d y
def tn(w:World):cE->Value->Prop
 | .one d,y=>jX w d y
 | .agg ds,y=>∃vs:Array Value,y=.agg vs/\vs.size=ds.length/\∀(i:Nat) (d:D),ds[i]?=some d->∃u,vs[i]?=some u/\jX w d u
def BC(w:World)(fD:List cE)(vs:Array Value):Prop:=vs.size=fD.length/\∀(i:Nat) (cl:cE),fD[i]?=some cl->∃v,vs[i]?=some v/\tn w cl v
def kM(w:World)(ω:Own)(r:Nat):cE->Value->Prop
 | .one d,y=>bS w ω (Tag.own (100*r)).R d y
 | .agg ds,y=>∃vs:Array Value,y=.agg vs/\vs.size=ds.length/\∀(j:Nat) (d:D),ds[j]?=some d->∃u,vs[j]?=some u/\bS w ω (Tag.own (100*r+j)).R d u
def lV(w:World)(ω:Own)(rs:List cE)(v:Value):Prop:=
 match rs with
 | [cl]=>kM w ω 0 cl v
 | rs=>∃vs:Array Value,v=.tuple vs/\vs.size=rs.length/\∀(r:Nat) (cl:cE),rs[r]?=some cl->∃y,vs[r]?=some y/\kM w ω r cl y
def tr(w0 w:World)(rs:List cE)(v:Value):Prop:=
 ∃ω:Own,(∀b,b<w0.heap.size->ω b=.bz)/\(∀b,ω b≠.bz->(∃t q,ω b=.tok t q)/\∃arr ty,w.heap[b]?=some (.cells arr ty (0,0)))/\lV w ω rs v
def hI(P:Program)(f:FuncId)(args rs:List cE):Prop:=
 ∀(w:World) (vs:Array Value),me w->BC w args vs->Calls P f vs w fun e aP=>∃v,e=.returned v/\fC w.heap.size w aP/\tr w aP rs v
def aC.fE:aC->Option D
 | .v x=>if x.oneCell' then some (.v x) else none
 | .a1 c=>some (.v (.bool c))
 | .J _ k es=>some (.J k es)
 | .gZ ds off=>if off=0 then some (.ptr ds) else none
 | .fd d=>some d
 | .c9 _ k es=>some (.J k es)
 | .aL _ _ _ k es .here=>some (.J k es)
 | .aL _ _ _ k es .ky=>some (.J k es)
 | _=>none
abbrev kv:=List (Nat×List aC)
def vq(bs:kv)(id:Nat):Option D:=(dh id bs).bind fun ls=>(ls.mapM aC.fE).map .ptr
def aC.iG(bs:kv):aC->Option D
 | .ptr id off=>if off=0 then vq bs id else none
 | .fK g ids=>(ids.mapM (vq bs)).map (.bI g)
 | l=>l.fE
def bg.iG(bs:kv):bg->Option cE
 | .one l=>(l.iG bs).map .one
 | .agg ls=>(ls.mapM (aC.iG bs)).map .agg
def aE.iG(bs:kv):aE->Option cE
 | .az a=>a.iG bs
 | _=>none
variable{w:World}{ω:Own}{d:D}{y:Value}
theorem bS.free{R:List (Nat×Nat)->c4->Prop}(h:bS w ω R d y):jX w d y:=
 h.frame fun _ _ _ _=>⟨rfl,rfl⟩
variable{τ:Nat->Nat×Value}
theorem aC.LR{l:aC}(h:l.fE=some d)(aj:Sat w ω τ l y):jX w d y:=by
 cases l with
 | cp=>cases h
 | v x=>
  simp only[aC.fE]at h;split at h
  ·simp only[aT]at h;subst h;have:y=x:=aj;subst this;exact .v _ _ ‹_›
  cases h
 | a1 c=>
  simp only[aC.fE,aT]at h;subst h;have:y=.bool c:=aj;subst this;exact .v _ _ rfl
 | J t k es=>simp only[aC.fE,aT]at h;subst h;exact aj.1.free
 | ptr=>cases h
 | cU=>cases h
 | fK=>cases h
 | eS=>cases h
 | gZ ds off=>
  simp only[aC.fE]at h;split at h
  ·rename_i a6;subst a6;simp only[aT]at h;subst h;obtain⟨b,rfl,aI⟩:=aj;exact aI.free
  cases h
 | fd dn=>simp only[aC.fE,aT]at h;subst h;exact bS.free aj
 | c9 t k es=>simp only[aC.fE,aT]at h;subst h;exact bS.free aj.1
 | aL t i j k es m=>
  obtain⟨u,hu,aI,_⟩:=aj;cases m with
  | at_ x z=>cases h
  | here=>simp only[aC.fE,aT]at h;subst h;have:y=u:=hu;subst this;exact aI.free
  | ky=>simp only[aC.fE,aT]at h;subst h;have:y=u:=hu;subst this;exact aI.free
def uJ(w:World)(ω:Own)(τ:Nat->Nat×Value)(bs:kv):Prop:=∀id ls,dh id bs=some ls->rW w ω τ id ls
variable{bs:kv}
theorem Ow(aw:uJ w ω τ bs){id b:Nat}(h:vq bs id=some d)(a6:ω b=.box id):jX w d (ptrTo b):=by
 unfold vq at h;cases e:dh id bs with
 | none=>simp[e]at h
 | some ls=>
  simp only[e,l8,b0]at h;obtain⟨ds,U,rfl⟩:=h;obtain⟨de,arr,ty,eE,hu,bH,aj⟩:=aw id ls e;have:=hu b a6;subst this;obtain⟨aa,aA⟩:=lU U;have cell:∀j d,ds[j]?=some d->arr[j]?=some (arr.getD j undef)/\jX w d (arr.getD j undef):=by
   intro j d aF;obtain⟨l,au,c2⟩:=aA j d aF;obtain⟨u,gq,eV⟩:=aj.2 j l au;have e2:arr.getD j undef=u:=by simp[eg,gq]
   rw[e2];exact⟨gq,aC.LR c2 eV⟩
  exact bS.ptr _ ds b arr ty (0,0) (fun j=>arr.getD j undef) bH rfl (by have:=aj.1;omega) (fun j d aF=>(cell j d aF).1) (fun j d aF=>(cell j d aF).2.frame fun _ _ _ _=>⟨rfl,rfl⟩)
theorem aC.vo(aw:uJ w ω τ bs){l:aC}(h:l.iG bs=some d)(aj:Sat w ω τ l y):jX w d y:=by
 unfold aC.iG at h;split at h
 ·rename_i id off;split at h
  ·rename_i a6;subst a6;obtain⟨b,U,rfl⟩:=aj;exact Ow aw h U
  cases h
 ·rename_i g ids;rw[b0]at h;obtain⟨ds,U,rfl⟩:=h;obtain⟨mg,rfl,a7,hi⟩:=aj;obtain⟨aa,aA⟩:=lU U;have cell:∀j d,ds[j]?=some d->(mg.map ptrTo).toArray[j]?=some ((mg.map ptrTo).toArray.getD j undef)/\jX w d ((mg.map ptrTo).toArray.getD j undef):=by
   intro j d aF;obtain⟨id,hid,Fa⟩:=aA j d aF;obtain⟨b,hh,gI⟩:=hi j id hid;have e1:(mg.map ptrTo).toArray[j]?=some (ptrTo b):=by simp[hh]
   have e2:(mg.map ptrTo).toArray.getD j undef=ptrTo b:=by rw[eg,e1];rfl
   rw[e2];exact⟨e1,Ow aw Fa gI⟩
  exact bS.bI _ g ds _ (fun j=>(mg.map ptrTo).toArray.getD j undef) (by simp;omega) (fun j d aF=>(cell j d aF).1) (fun j d aF=>(cell j d aF).2.frame fun _ _ _ _=>⟨rfl,rfl⟩)
 exact aC.LR h aj
theorem aE.vo(aw:uJ w ω τ bs){p:aE}{cl:cE}(h:p.iG bs=some cl)(aj:cH (Sat w ω τ) p y):tn w cl y:=by
 cases p with
 | ek as=>cases h
 | az a=>
  cases a with
  | one l=>
   simp only[aE.iG,bg.iG,b0]at h;obtain⟨d,U,rfl⟩:=h;exact aC.vo aw U aj
  | agg ls=>
   simp only[aE.iG,bg.iG,b0]at h;obtain⟨ds,U,rfl⟩:=h;obtain⟨aa,aA⟩:=lU U;obtain⟨vs,rfl,a7,br⟩:=aj;refine⟨vs,rfl,by omega,fun i d aF=>?_⟩;obtain⟨l,au,c2⟩:=aA i d aF;obtain⟨u,hu,eV⟩:=br i l au;exact⟨u,hu,aC.vo aw c2 eV⟩
def h9(P:Program)(g:FuncId):Bool:=
 match P.funcs[g]? with
 | some fn => !(fn.name == "runtime.NumGoroutine") && !fn.body.isNone
 | none=>false
def D.n0(t:Nat):D->aC
 | .v (.bool c)=>.a1 c
 | .v x=>.v x
 | .J k es=>.J (.own t) k es
 | .ptr _=>.cp
 | .bI _ _=>.cp
def lW(t:Nat):Nat->List D->List aC
 | _,[]=>[]
 | j,d::ds=>d.n0 (t+j)::lW t (j+1) ds
theorem yD(t:Nat):∀(ds:List D) (j i:Nat),(lW t j ds)[i]?=(ds[i]?).map (D.n0 (t+(j+i)))
 | [],_,_=>by simp[lW]
 | d::ds,j,0=>by simp[lW]
 | d::ds,j,i+1=>by
  simp only[lW,n7,yD t ds (j+1) i];rw[show j+1+i=j+(i+1) by omega]
theorem wb(t:Nat):∀(ds:List D) (j:Nat),(lW t j ds).length=ds.length
 | [],_=>rfl
 | d::ds,j=>by simp[lW,wb t ds (j+1)]
def cE.res(t:Nat):cE->bg
 | .one d=>.one (d.n0 t)
 | .agg ds=>.agg (lW t 0 ds)
def oW(t:Nat):Nat->List cE->List bg
 | _,[]=>[]
 | r,a::as=>a.res (t+100*r)::oW t (r+1) as
theorem BD(t:Nat):∀(as:List cE) (r i:Nat),(oW t r as)[i]?=(as[i]?).map (cE.res (t+100*(r+i)))
 | [],_,_=>by simp[oW]
 | d::ds,j,0=>by simp[oW]
 | d::ds,j,i+1=>by
  simp only[oW,n7,BD t ds (j+1) i];rw[show j+1+i=j+(i+1) by omega]
theorem BE(t:Nat):∀(as:List cE) (r:Nat),(oW t r as).length=as.length
 | [],_=>rfl
 | d::ds,j=>by simp[oW,BE t ds (j+1)]
def rF(t:Nat):List cE->aE
 | [a]=>.az (a.res t)
 | as=>.ek (oW t 0 as)
def s5(rs:List cE):Bool:=rs.length<100&&rs.all fun | .one _=>true | .agg ds=>ds.length<100
def fF(t:Nat):Tag->Option Tag
 | .free=>some .free
 | .own s=>if t<=s/\s<t+10000 then some .free else some (.own s)
 | .ro s=>if t<=s/\s<t+10000 then some .free else some (.ro s)
def mE(t:Nat):c4->c4
 | .tok s q=>if t<=s/\s<t+10000 then .bz else .tok s q
 | o=>o
def Ox(t:Nat):c4->c4
 | .tok s q=>.tok (t+s) q
 | _=>.bz
def cE.cell(j:Nat):cE->Option D
 | .one d=>if j=0 then some d else none
 | .agg ds=>ds[j]?
def ow(rs:List cE)(n:Nat):Nat:=
 match (rs[n / 100]?).bind (cE.cell (n % 100)) with
 | some (.J k _)=>k
 | _=>0
def lL(rs:List cE)(v:Value)(n:Nat):Value:=
 match rs with
 | [_]=>v.cells.getD (n % 100) undef
 | _=>match v with
  | .tuple vs=>(vs.getD (n / 100) undef).cells.getD (n % 100) undef
  | _=>undef
def aD.tA(st:aD)(t:Nat):aD:=st.map (aC.cB (fF t) fun _=>true)
theorem cy.called{w0:dY}{st:aD}{a:Act}{aP:World}(aW:cy w0 st a w ω τ)(t:Nat){rs:List cE}{v:Value}
  (ez:s5 rs=true) (hO:t+10000<=cX) (aw:fC w.heap.size w aP) (eF:tr w aP rs v):
  ∃a' cL,cy w0 (st.tA t) a aP a' cL/\cH (Sat aP a' cL) (rF t rs) v:=by
 obtain⟨eP,kB,kf,jR⟩:=eF
 let a':Own:=fun b=>if b<w.heap.size then mE t (ω b) else Ox t (eP b)
 let cL:Nat->Nat×Value:=fun s=>if t<=s/\s<t+10000 then (ow rs (s-t),lL rs v (s-t)) else τ s
 have hold:∀b,b<w.heap.size->a' b=mE t (ω b):=fun b aw=>by simp only[a'];rw[bU aw]
 have fN:∀b,¬b<w.heap.size->a' b=Ox t (eP b):=fun b aw=>by simp only[a'];rw[bE aw]
 have bj:kx w ω τ aP a' cL (fF t) (fun _=>true):=by
  refine⟨?_,?_,?_,rfl,fun s aj=>by simp only[cL];rw[bE (by omega)]⟩
  ·intro g dS b q ay bM aM;refine⟨?_,aw.block b bM⟩;rw[hold b bM];cases g with
   | free=>simp only[fF,aT]at ay;subst ay;simp only[Tag.R]at aM ⊢;rw[aM];rfl
   | own s=>
    simp only[Tag.R]at aM;simp only[fF]at ay;rw[aM];simp only[mE];split at ay
    ·simp only[aT]at ay;subst ay;rw[bU ‹_›];rfl
    simp only[aT]at ay;subst ay;rw[bE ‹_›];rfl
   | ro s=>
    simp only[Tag.R]at aM;simp only[fF]at ay;split at ay
    ·simp only[aT]at ay;subst ay;rcases aM with h | ⟨dB,h⟩
     ·rw[h];rfl
     rw[h];simp only[mE];rw[bU ‹_›];rfl
    simp only[aT]at ay;subst ay;rcases aM with h | ⟨dB,h⟩
    ·rw[h];exact .inl rfl
    rw[h];simp only[mE];rw[bE ‹_›];exact .inr ⟨dB,rfl⟩
  ·intro g dS y ay bO;cases g with
   | free=>simp only[fF,aT]at ay;subst ay;exact trivial
   | own s=>
    simp only[fF]at ay;split at ay
    ·simp only[aT]at ay;subst ay;exact trivial
    simp only[aT]at ay;subst ay;simp only[Tag.dG,cL]at bO ⊢;rw[bE ‹_›];exact bO
   | ro s=>
    simp only[fF]at ay;split at ay
    ·simp only[aT]at ay;subst ay;exact trivial
    simp only[aT]at ay;subst ay;exact trivial
  intro id b _ cZ;have bM:=aW.owned.lt (b:=b) (by simp[cZ]);rw[hold b bM,cZ];rfl
 have cell:∀(n:Nat) (d:D) (u:Value),n<10000->lL rs v n=u->(∀k es,d=.J k es->ow rs n=k)->bS aP eP (Tag.own n).R d u->Sat aP a' cL (d.n0 (t+n)) u:=by
  intro n d u a7 br bc aI;cases d with
  | v x=>
   have e:u=x:=by cases aI;rfl
   subst e;unfold D.n0;split
   ·rename_i h;cases h;exact rfl
   ·rename_i h;cases h;exact rfl
   ·rename_i h;cases h
   ·exact trivial
   exact trivial
  | ptr ds=>exact trivial
  | bI g bB=>exact trivial
  | J k es=>
   refine⟨aI.frame fun b q bM aM=>⟨?_,rfl⟩,?_⟩
   ·simp only[Tag.R]at aM ⊢;have:¬b<w.heap.size:=fun h=>by have:=kB b h;rw[this]at aM;cases aM
    rw[fN b this,aM];rfl
   simp only[Tag.dG,cL];rw[bU (by omega),show t+n-t=n by omega,br,bc k es rfl]
 have r3:∀(r:Nat) (cl:cE) (y:Value),r<100->(∀ds,cl=.agg ds->ds.length<100)->rs[r]?=some cl->(∀j,j<100->lL rs v (100*r+j)=y.cells.getD j undef)->kM aP eP r cl y->iZ (Sat aP a' cL) (cl.res (t+100*r)) y:=by
  intro r cl y aI er xZ br nu;have gp:∀j,j<100->ow rs (100*r+j)=(match cE.cell j cl with | some (.J k _)=>k | _=>0):=by
   intro j bm;unfold ow;rw[show (100*r+j) / 100=r by omega,show (100*r+j) % 100=j by omega,xZ];rfl
  cases cl with
  | one d=>
   have U:=nu.nP;have aa:=br 0 (by omega);rw[yz U]at aa;have:=cell (100*r) d y (by omega) (by simpa using aa) (fun k es e=>by
    have:=gp 0 (by omega);rw[mX]at this;rw[this,e];rfl) nu
   exact this
  | agg ds=>
   obtain⟨vs,rfl,a7,bm⟩:=nu;refine⟨vs,rfl,by rw[wb];exact a7,fun j l au=>?_⟩;rw[yD,b0]at au;obtain⟨d,aF,rfl⟩:=au;obtain⟨u,hu,x0⟩:=bm j d aF;have k5:j<100:=by
    have:=(fA.1 aF).1;have:=er ds rfl;omega
   refine⟨u,hu,?_⟩;have:=cell (100*r+j) d u (by omega) (by rw[br j k5];simp[Value.cells,eg,hu]) (fun k es e=>by
    rw[gp j k5];simp only[cE.cell,aF,e]) x0
   rw[show t+100*r+(0+j)=t+(100*r+j) by omega];exact this
 simp only[s5,cJ,cW]at ez;have er:∀(r:Nat) (cl:cE),rs[r]?=some cl->∀ds,cl=.agg ds->ds.length<100:=by
  intro r cl aI ds e;have:=fp.1 ez.2 cl (fe aI);subst e;simpa using this
 refine⟨a',cL,aW.eo _ bj.sat (aW.below.next aw) ?_ ?_ ?_ (fun s aj=>by simp only[cL];rw[bE (by omega)]),?_⟩
 ·intro b fq;by_cases bM:b<w.heap.size
  ·rw[hold b bM]at fq;have aa:ω b≠.bz:=fun e=>by rw[e]at fq;exact fq rfl
   obtain⟨aA,arr,ty,aO⟩:=aW.owned b aa;exact⟨aA,arr,ty,(aw.block b bM).trans aO⟩
  rw[fN b bM]at fq;have aa:eP b≠.bz:=fun e=>by rw[e]at fq;exact fq rfl
  obtain⟨_,arr,ty,aO⟩:=kf b aa;exact⟨.inl (by have:=aW.below.size;omega),arr,ty,aO⟩
 ·intro id b cZ;have bM:=aW.owned.lt (b:=b) (by simp[cZ]);exact⟨bj.box id b rfl cZ,aw.block b bM⟩
 ·intro id b cZ;by_cases bM:b<w.heap.size
  ·rw[hold b bM]at cZ;cases e:ω b with
   | bz=>rw[e]at cZ;cases cZ
   | box i=>rw[e]at cZ;exact cZ
   | tok s q=>rw[e]at cZ;simp only[mE]at cZ;split at cZ<;>cases cZ
  ·rw[fN b bM]at cZ;cases e:eP b<;>(rw[e]at cZ;cases cZ)
 cases rs with
 | nil=>
  obtain⟨vs,rfl,a7,_⟩:=jR;exact⟨vs,rfl,a7,fun i a ai=>by simp[oW]at ai⟩
 | cons cl rest=>
  cases rest with
  | nil=>
   have:=r3 0 cl v (by omega) (er 0 cl rfl) rfl (fun j bm=>by
    unfold lL;simp only[Nat.mul_zero,dL];rw[Ap bm]) jR
   exact this
  | cons LQ rest=>
   obtain⟨vs,rfl,a7,br⟩:=jR;refine⟨vs,rfl,by rw[BE];exact a7,fun i a ai=>?_⟩;rw[BD,b0]at ai;obtain⟨mf,U,rfl⟩:=ai;obtain⟨y,bO,xL⟩:=br i mf U;have ij:i<100:=by
    have:=(fA.1 U).1;omega
   refine⟨y,bO,?_⟩;have:=r3 i mf y ij (er i mf U) U (fun j bm=>by
    unfold lL;simp only;rw[show (100*i+j) / 100=i by omega,show (100*i+j) % 100=j by omega];simp[eg,bO]) xL
   rw[dL];exact this
end Go.Sx
namespace Go.Sx
open Go.RowKit
inductive ff where
 | ro (d:D)
 | fM (k:Nat) (es:List (List D)) (post:Option (List (List D)))
inductive GA where
 | one (c:ff)
 | agg (cs:List ff)
def e4(i j:Nat):Nat:=cX+(100*i+j)
def GA.cell(j:Nat):GA->Option ff
 | .one c=>if j=0 then some c else none
 | .agg cs=>cs[j]?
def cellOf(v:Value)(j:Nat):Value:=v.cells.getD j undef
def tp(w:World)(ω:Own)(t:Nat):ff->Value->Prop
 | .ro d,y=>bS w ω Tag.free.R d y
 | .fM k es _,y=>bS w ω (Tag.own t).R (.J k es) y
def LN(w:World)(ω:Own)(i:Nat):GA->Value->Prop
 | .one c,y=>tp w ω (e4 i 0) c y
 | .agg cs,y=>∃vs:Array Value,y=.agg vs/\vs.size=cs.length/\∀(j:Nat) (c:ff),cs[j]?=some c->∃u,vs[j]?=some u/\tp w ω (e4 i j) c u
def Ef(w:World)(ω:Own):Prop:=∀b,ω b≠.bz->(∃t q,ω b=.tok t q/\cX<=t)/\∃arr ty,w.heap[b]?=some (.cells arr ty (0,0))
def Ee(w:World)(ω:Own)(args:List GA)(vs:Array Value):Prop:=Ef w ω/\vs.size=args.length/\∀(i:Nat) (eD:GA),args[i]?=some eD->∃v,vs[i]?=some v/\LN w ω i eD v
def Kept(w:World)(ω:Own)(args:List GA)(vs:Array Value):Prop:=
 ∀(i j:Nat) (eD:GA) (k:Nat) (es cq:List (List D)),args[i]?=some eD->eD.cell j=some (.fM k es (some cq))->bS w ω (Tag.own (e4 i j)).R (.J k cq) (cellOf (vs.getD i undef) j)
def px(P:Program)(f:FuncId)(args:List GA)(rs:List cE):Prop:=
 ∀(w:World) (vs:Array Value) (ω:Own),Ee w ω args vs->Tidy w ω->Calls P f vs w fun e aP=>∃v,e=.returned v/\fX ⟨w,fun b=>ω b≠.bz,fun _=>(0,undef)⟩ aP/\
  ∃a':Own,(∀b,b<w.heap.size->ω b=.bz->a' b=.bz)/\(∀b,a' b≠.bz->(∃t q,a' b=.tok t q)/\∃arr ty,aP.heap[b]?=some (.cells arr ty (0,0)))/\Kept aP a' args vs/\lV aP a' rs v
structure c7 where
 i:Nat
 j:Nat
 t:Nat
 p:Option (Nat×Nat)
 k:Nat
 es:List (List D)
 post:Option (List (List D))
abbrev ob:=Option (Option (List (List D)))
def vt(bs:kv)(i j:Nat):ob->aC->Option (ff×List c7×List aC)
 | none,l=>(l.iG bs).map fun d=>(.ro d,[],[l])
 | some post,.J (.own t) k es=>some (.fM k es post,[⟨i,j,t,none,k,es,post⟩],[])
 | some post,.aL t a b k es .here=>some (.fM k es post,[⟨i,j,t,some (a,b),k,es,post⟩],[])
 | _,_=>none
def nT(bs:kv)(i:Nat):Nat->List ob->List aC->Option (List ff×List c7×List aC)
 | _,[],[]=>some ([],[],[])
 | j,m::ms,l::ls=>
  match vt bs i j m l,nT bs i (j+1) ms ls with
  | some (c,h,r),some (cs,aj,rs)=>some (c::cs,h++aj,r++rs)
  | _,_=>none
 | _,_,_=>none
def xi(bs:kv)(i:Nat)(ms:List ob):aE->Option (GA×List c7×List aC)
 | .az (.one l)=>match ms with | [m]=>(vt bs i 0 m l).map fun r=>(.one r.1,r.2) | _=>none
 | .az (.agg ls)=>(nT bs i 0 ms ls).map fun r=>(.agg r.1,r.2)
 | _=>none
def tz(bs:kv):Nat->List (List ob)->List aE->Option (List GA×List c7×List aC)
 | _,[],[]=>some ([],[],[])
 | i,ms::GF,p::ct=>
  match xi bs i ms p,tz bs (i+1) GF ct with
  | some (a,h,r),some (as,aj,rs)=>some (a::as,h++aj,r++rs)
  | _,_=>none
 | _,_,_=>none
def qh(aj:List c7)(t:Nat):Bool:=aj.any fun h=>h.t==t
def Tag.lR(aj:List c7):Tag->Bool
 | .free=>false
 | .own t=>qh aj t
 | .ro t=>qh aj t
def aC.nK(aj:List c7):aC->Bool
 | .J t _ _=>t.lR aj
 | .cU t _ _ _ _=>t.lR aj
 | .aL t _ _ _ _ _=>qh aj t
 | .eS _ _=>true
 | _=>false
def aC.lR(bs:kv)(aj:List c7):aC->Bool
 | .ptr id _=>match dh id bs with | some ls=>ls.any (aC.nK aj) | none=>true
 | .fK _ ids=>ids.any fun id=>match dh id bs with | some ls=>ls.any (aC.nK aj) | none=>true
 | l=>l.nK aj
def c7.apart(h y:c7):Bool:=
 (h.i != y.i||h.j != y.j)&&(h.t != y.t||match h.p,y.p with | some p,some q=>p.2 != q.2 | _,_=>false)
def mH:List c7->Bool
 | []=>true
 | h::r=>decide (h.j<100)&&(r.all (c7.apart h)&&mH r)
theorem Oy:∀{aj:List c7},mH aj=true->∀h∈aj,∀y∈aj,h=y\/(c7.apart h y=true\/c7.apart y h=true)
 | [],_,h,bH,_,_=>by cases bH
 | x::r,bc,h,bH,y,bO=>by
  simp only[mH,cJ,fp]at bc;rcases ep.1 bH with e1 | Mv
  ·rcases ep.1 bO with e2 | FV
   ·exact .inl (e1.trans e2.symm)
   rw[e1];exact .inr (.inl (bc.2.1 y FV))
  rcases ep.1 bO with e2 | FV
  ·rw[e2];exact .inr (.inr (bc.2.1 h Mv))
  exact Oy bc.2.2 h Mv y FV
theorem Oz:∀{aj:List c7},mH aj=true->∀h∈aj,h.j<100
 | [],_,h,bH=>by cases bH
 | x::r,bc,h,bH=>by
  simp only[mH,cJ,cW]at bc;rcases ep.1 bH with rfl | bH
  ·exact bc.1
  exact Oz bc.2.2 h bH
def c7.fit(h:c7)(t:Nat)(q:List (Nat×Nat)):Option (List (Nat×Nat)):=
 if h.t=t then
  match h.p,q with
  | none,q=>some q
  | some p,x::dB=>if x=p then some dB else none
  | some _,[]=>none
 else none
def lD(t:Nat)(q:List (Nat×Nat)):List c7->Option (Nat×List (Nat×Nat))
 | []=>none
 | h::r=>match h.fit t q with | some dB=>some (e4 h.i h.j,dB) | none=>lD t q r
variable{h:c7}{t:Nat}{q:List (Nat×Nat)}
theorem ai5{y:c7}{q1 lT:List (Nat×Nat)}(U:h.fit t q=some q1)(aa:y.fit t q=some lT):c7.apart h y=false:=by
 unfold c7.fit at U aa;split at U
 ·rename_i e1;split at aa
  ·rename_i e2;have ch:(h.t != y.t)=false:=by simp[e1,e2]
   simp only[c7.apart,ch,iU,Bool.and_eq_false_imp];intro _;split at U
   ·rename_i hp;rw[hp]
   ·rename_i p x dB hp;split at U
    ·rename_i ao;split at aa
     ·rename_i qV;rw[hp,qV]
     ·rename_i Xr j4 atI qV heq;split at aa
      ·rename_i iO;rw[hp,qV];simp only[qo]at heq;obtain⟨rfl,_⟩:=heq;subst ao;subst iO;simp
      cases aa
     cases aa
    cases U
   cases U
  cases aa
 cases U
theorem G3{t:Nat}{q dB:List (Nat×Nat)}:∀{aj:List c7},mH aj=true->∀{h:c7},h∈aj->h.fit t q=some dB->lD t q aj=some (e4 h.i h.j,dB)
 | [],_,h,bH,_=>by cases bH
 | x::r,bc,h,bH,b7=>by
  have Fq:=bc;simp only[mH,cJ,fp]at bc;simp only[lD];rcases ep.1 bH with rfl | bH
  ·rw[b7]
  cases e:x.fit t q with
  | none=>exact G3 bc.2.2 bH b7
  | some lT=>
   have:=ai5 e b7;rw[bc.2.1 h bH]at this;cases this
theorem yE{g:Nat}{dB:List (Nat×Nat)}:∀{aj:List c7},lD t q aj=some (g,dB)->∃h∈aj,h.fit t q=some dB/\g=e4 h.i h.j
 | [],h=>by cases h
 | x::r,h=>by
  simp only[lD]at h;split at h
  ·rename_i lT e;simp only[aT,bq]at h;obtain⟨rfl,rfl⟩:=h;exact⟨x,jn,e,rfl⟩
  obtain⟨y,bO,aa⟩:=yE h;exact⟨y,hb _ bO,aa⟩
theorem OA{dB:List (Nat×Nat)}(e:h.fit t q=some dB):h.t=t/\q=h.p.toList++dB:=by
 unfold c7.fit at e;split at e
 ·rename_i e1;refine⟨e1,?_⟩;split at e
  ·rename_i hp;simp only[aT]at e;rw[hp,e];rfl
  ·rename_i p x lT hp;split at e
   ·rename_i ao;simp only[aT]at e;rw[hp,ao,e];rfl
   cases e
  cases e
 cases e
theorem OB(h:c7)(q:List (Nat×Nat)):h.fit h.t (h.p.toList++q)=some q:=by
 unfold c7.fit;rw[bU rfl];cases h.p with
 | none=>rfl
 | some p=>simp
def fh(aj:List c7)(ω:Own):Own:=fun b=>
 match ω b with
 | .tok t q=>match lD t q aj with | some (g,dB)=>.tok g dB | none=>.bz
 | _=>.bz
def AD(g:Nat):List c7->Option c7
 | []=>none
 | h::r=>if e4 h.i h.j=g then some h else AD g r
theorem OC:∀{aj:List c7},mH aj=true->∀{h:c7},h∈aj->AD (e4 h.i h.j) aj=some h
 | [],_,h,bH=>by cases bH
 | x::r,bc,h,bH=>by
  have bm:=Oz bc;have Fq:=bc;simp only[mH,cJ,fp]at bc;simp only[AD];rcases ep.1 bH with rfl | qP
  ·rw[bU rfl]
  rw[bE]
  ·exact OC bc.2.2 qP
  intro e;have U:=bm x jn;have aa:=bm h (hb _ qP);have aA:=bc.2.1 h qP;simp only[c7.apart,cJ,pt,bne_iff_ne,l']at aA;simp only[e4]at e;omega
def yF(aj:List c7)(t0:Nat):c4->c4
 | .tok s q=>if cX<=s then (match AD s aj with | some h=>.tok h.t (h.p.toList++q) | none=>.bz) else .tok (t0+s) q
 | _=>.bz
def uK(t:Nat):List c7->Option c7
 | []=>none
 | h::r=>if h.t=t then some h else uK t r
theorem NK:∀{aj:List c7},uK t aj=none->qh aj t=false
 | [],_=>rfl
 | h::r,e=>by
  simp only[uK]at e;split at e
  ·cases e
  rename_i c1;have:=NK e;simp only[qh,Am,gh]at this ⊢;exact⟨by simpa using c1,this⟩
theorem NL:∀{aj:List c7},uK t aj=some h->h∈aj/\h.t=t
 | [],e=>by cases e
 | x::r,e=>by
  simp only[uK]at e;split at e
  ·simp only[aT]at e;subst e;exact⟨jn,‹_›⟩
  obtain⟨U,aa⟩:=NL e;exact⟨hb _ U,aa⟩
def lg:List c7->List D->List D
 | [],ds=>ds
 | h::r,ds=>match h.p,h.post with
  | some p,some es=>lg r (ds.set p.2 (.J h.k es))
  | _,_=>lg r ds
def p9(aj:List c7)(t0 gM mz:Nat)(oh:List (List D)):aC->aC
 | .J (.own t) k es=>
  match uK t aj with
  | some h=>match h.p,h.post with
   | none,some cq=>.J (.own t) h.k cq
   | none,none=>.cp
   | some _,_=>if t=gM then .J (.own t) mz oh else .cp
  | none=>aC.cB (fF t0) (fun _=>true) (.J (.own t) k es)
 | l=>if l.nK aj then .cp else l.cB (fF t0) fun _=>true
end Go.Sx
namespace Go.Sx
open Go.RowKit
variable{aj:List c7}
theorem ai6{t:Nat}(h:qh aj t=false):∀y∈aj,y.t≠t:=by
 intro y bO e;simp only[qh,hv,jl]at h;exact h y bO e
theorem G4{t:Nat}(h:qh aj t=false)(q:List (Nat×Nat)):lD t q aj=none:=by
 cases e:lD t q aj with
 | none=>rfl
 | some x=>
  obtain⟨g,dB⟩:=x;obtain⟨y,bO,b7,_⟩:=yE e;exact absurd (OA b7).1 (ai6 h y bO)
structure Av (w:World) (ω:Own) (τ:Nat->Nat×Value) (h:c7) (u:Value):Prop where
 rep:bS w ω (fun q o=>o=.tok h.t (h.p.toList++q)) (.J h.k h.es) u
 root:h.p=none->τ h.t=(h.k,u)
 cell:∀a b,h.p=some (a,b)->∃(kT cj off len cap:Nat) (arr:Array Value) (ty:TypeId) (cF:Nat×Nat),τ h.t=(kT,.slice (some ⟨cj,off,none⟩) len cap)/\ω cj=.tok h.t []/\w.heap[cj]?=some (.cells arr ty cF)/\arr[off+a*kT+b]?=some u
structure LP (w:World) (ω:Own) (τ:Nat->Nat×Value) (aj:List c7) (gM mz:Nat) (oh:List (List D)):Prop where
 ex:∀h∈aj,∀p,h.p=some p->h.t=gM->∃(du:List (List D)) (y:Value) (ds:List D) (a:Nat),Sat w ω τ (.J (.own gM) mz du) y/\du[a]?=some ds/\ds.length=mz/\oh=du.set a (lg aj ds)/\
  ∀x∈aj,∀q,x.p=some q->x.t=gM/\q.1=a/\∃cq,x.post=some cq
theorem yG:∀(aj:List c7) (ds:List D),(lg aj ds).length=ds.length
 | [],_=>rfl
 | h::r,ds=>by
  simp only[lg];split
  ·rw[yG r,gz]
  exact yG r ds
theorem G5{y:Nat}{d:D}:∀{aj:List c7} {ds:List D},(lg aj ds)[y]?=some d->(∃h∈aj,∃a cq,h.p=some (a,y)/\h.post=some cq/\d=.J h.k cq)\/ds[y]?=some d/\∀h∈aj,∀a cq,h.p=some (a,y)->h.post=some cq->False
 | [],ds,h=>.inr ⟨h,fun _ bH=>by cases bH⟩
 | h::r,ds,aF=>by
  simp only[lg]at aF;split at aF
  ·rename_i p cq e1 e2;rcases G5 aF with⟨x,ao,a,bL,U,aa,aA⟩ | ⟨U,aa⟩
   ·exact .inl ⟨x,hb _ ao,a,bL,U,aa,aA⟩
   rw[l7]at U;split at U
   ·rename_i hp;split at U
    ·simp only[aT]at U;exact .inl ⟨h,jn,p.1,cq,by rw[e1,<-hp],e2,U.symm⟩
    cases U
   rename_i hp;refine .inr ⟨U,fun x ao a bL aA aO=>?_⟩;rcases ep.1 ao with rfl | ao
   ·rw[e1]at aA;simp only[aT]at aA;rw[aA]at hp;exact hp rfl
   exact aa x ao a bL aA aO
  rename_i c1;rcases G5 aF with⟨x,ao,a,bL,U,aa,aA⟩ | ⟨U,aa⟩
  ·exact .inl ⟨x,hb _ ao,a,bL,U,aa,aA⟩
  refine .inr ⟨U,fun x ao a bL aA aO=>?_⟩;rcases ep.1 ao with rfl | ao
  ·exact c1 _ _ aA aO
  exact aa x ao a bL aA aO
theorem cy.U'{w0:dY}{st:aD}{a:Act}{w aP:World}{ω:Own}{τ:Nat->Nat×Value}(aW:cy w0 st a w ω τ)(t0:Nat){rs:List cE}{v:Value}{H:Nat->Nat×Value}
  (cG:mH aj=true) (ez:s5 rs=true) (hO:t0+10000<=cX) (MN:∀h∈aj,¬(t0<=h.t/\h.t<t0+10000)) (aw:fX ⟨w,fun b=>fh aj ω b≠.bz,H⟩ aP) (eP:Own)
  (kB:∀b,b<w.heap.size->fh aj ω b=.bz->eP b=.bz) (kf:∀b,eP b≠.bz->(∃t q,eP b=.tok t q)/\∃arr ty,aP.heap[b]?=some (.cells arr ty (0,0))) (jR:lV aP eP rs v)
  (vals:c7->Value) (Ft:∀h∈aj,∀cq,h.post=some cq->bS aP eP (Tag.own (e4 h.i h.j)).R (.J h.k cq) (vals h)) (fY:∀h∈aj,Av w ω τ h (vals h))
  {gM mz:Nat} {oh:List (List D)} (h1:LP w ω τ aj gM mz oh):
  ∃a' cL,cy w0 (st.map (p9 aj t0 gM mz oh)) a aP a' cL/\cH (Sat aP a' cL) (rF t0 rs) v:=by
 classical
 let a':Own:=fun b=>if b<w.heap.size/\fh aj ω b=.bz then mE t0 (ω b) else yF aj t0 (eP b)
 let cL:Nat->Nat×Value:=fun s=>if t0<=s/\s<t0+10000 then (ow rs (s-t0),lL rs v (s-t0)) else τ s
 have hold:∀b,b<w.heap.size->fh aj ω b=.bz->a' b=mE t0 (ω b):=fun b aw h=>by simp only[a'];rw[bU ⟨aw,h⟩]
 have fN:∀b,eP b≠.bz->a' b=yF aj t0 (eP b):=fun b aw=>by
  simp only[a'];rw[bE];rintro⟨U,aa⟩;exact aw (kB b U aa)
 have lJ:∀b,b<w.heap.size->fh aj ω b=.bz->aP.heap[b]?=w.heap[b]?:=fun b bM h=>aw.block b bM (fun a7=>a7 h)
 have oy:∀b,ω b=.bz->fh aj ω b=.bz:=fun b h=>by simp only[fh,h]
 have Vy:∀b id,ω b=.box id->fh aj ω b=.bz:=fun b id h=>by simp only[fh,h]
 have iN:∀b s q,ω b=.tok s q->lD s q aj=none->fh aj ω b=.bz:=fun b s q h aa=>by simp only[fh,h,aa]
 have q5:∀h∈aj,cL h.t=τ h.t:=fun h bH=>by simp only[cL];rw[bE (MN h bH)]
 have fa:∀(g dS:Tag) (b:Nat) (q:List (Nat×Nat)),g.lR aj=false->fF t0 g=some dS->b<w.heap.size->g.R q (ω b)->dS.R q (a' b)/\aP.heap[b]?=w.heap[b]?:=by
  intro g dS b q hm ay bM aM;have hi:fh aj ω b=.bz:=by
   cases g with
   | free=>exact oy b aM
   | own s=>exact iN b s q aM (G4 hm q)
   | ro s=>
    rcases aM with h | ⟨dB,h⟩
    ·exact oy b h
    exact iN b s dB h (G4 hm dB)
  refine⟨?_,lJ b bM hi⟩;rw[hold b bM hi];cases g with
  | free=>simp only[fF,aT]at ay;subst ay;simp only[Tag.R]at aM ⊢;rw[aM];rfl
  | own s=>
   simp only[Tag.R]at aM;simp only[fF]at ay;rw[aM];simp only[mE];split at ay
   ·simp only[aT]at ay;subst ay;rw[bU ‹_›];rfl
   simp only[aT]at ay;subst ay;rw[bE ‹_›];rfl
  | ro s=>
   simp only[Tag.R]at aM;simp only[fF]at ay;split at ay
   ·simp only[aT]at ay;subst ay;rcases aM with h | ⟨dB,h⟩
    ·rw[h];rfl
    rw[h];simp only[mE];rw[bU ‹_›];rfl
   simp only[aT]at ay;subst ay;rcases aM with h | ⟨dB,h⟩
   ·rw[h];exact .inl rfl
   rw[h];simp only[mE];rw[bE ‹_›];exact .inr ⟨dB,rfl⟩
 have Gx:∀(g dS:Tag) (y:Nat×Value),fF t0 g=some dS->g.dG τ y->dS.dG cL y:=by
  intro g dS y ay bO;cases g with
  | free=>simp only[fF,aT]at ay;subst ay;exact trivial
  | own s=>
   simp only[fF]at ay;split at ay
   ·simp only[aT]at ay;subst ay;exact trivial
   simp only[aT]at ay;subst ay;simp only[Tag.dG,cL]at bO ⊢;rw[bE ‹_›];exact bO
  | ro s=>
   simp only[fF]at ay;split at ay
   ·simp only[aT]at ay;subst ay;exact trivial
   simp only[aT]at ay;subst ay;exact trivial
 have vW:∀id b,ω b=.box id->a' b=.box id/\aP.heap[b]?=w.heap[b]?:=by
  intro id b cZ;have bM:=aW.owned.lt (b:=b) (by simp[cZ]);have hi:=Vy b id cZ;exact⟨by rw[hold b bM hi,cZ];rfl,lJ b bM hi⟩
 have M9:∀h∈aj,∀cq,h.post=some cq->bS aP a' (fun q o=>o=.tok h.t (h.p.toList++q)) (.J h.k cq) (vals h):=by
  intro h bH cq he;refine (Ft h bH cq he).frame fun b q _ aM=>⟨?_,rfl⟩
  simp only[Tag.R]at aM;rw[fN b (by rw[aM];simp),aM];simp only[yF];rw[bU (by simp[e4]),OC cG bH]
 have ec:∀l y,Sat w ω τ l y->Sat aP a' cL (p9 aj t0 gM mz oh l) y:=by
  intro l y c5;have plain:∀g k es,g.lR aj=false->Sat w ω τ (.J g k es) y->Sat aP a' cL (aC.cB (fF t0) (fun _=>true) (.J g k es)) y:=by
   intro g k es hm nD;simp only[aC.cB];cases ay:fF t0 g with
   | none=>exact trivial
   | some dS=>exact⟨nD.1.frame fun b q bM aM=>fa g dS b q hm ay bM aM,Gx g dS _ ay nD.2⟩
  cases l with
  | cp=>exact trivial
  | v x=>exact c5
  | a1 c=>exact c5
  | ptr id off=>
   obtain⟨b,U,aa⟩:=c5;exact⟨b,(vW id b U).1,aa⟩
  | fK f ids=>
   obtain⟨bs,e,a7,hi⟩:=c5;simp only[p9,aC.nK,ql,mY,aC.cB];split
   ·refine⟨bs,e,a7,fun i id hid=>?_⟩;obtain⟨b,U,aa⟩:=hi i id hid;exact⟨b,U,(vW id b aa).1⟩
   exact trivial
  | gZ ds off=>
   obtain⟨b,e,aI⟩:=c5;exact⟨b,e,aI.frame fun b q bM aM=>fa .free .free b q rfl rfl bM aM⟩
  | fd d=>exact bS.frame c5 fun b q bM aM=>fa .free .free b q rfl rfl bM aM
  | c9 t k es=>exact⟨bS.frame c5.1 fun b q bM aM=>fa .free .free b q rfl rfl bM aM,fun bZ=>(show cL t=τ t by simp only[cL];rw[bE (by omega)]).trans (c5.2 bZ)⟩
  | aL t i j k es m=>
   simp only[p9];by_cases hm:aC.nK aj (.aL t i j k es m)=true
   ·rw[bU hm];exact trivial
   rw[bE hm];simp only[tj]at hm;replace hm:qh aj t=false:=hm;simp only[aC.cB];split
   ·rename_i di ay;split
    ·rename_i bZ;subst bZ;obtain⟨gg,pN,U,Wm⟩:=c5;refine⟨gg,pN,U.frame fun c q ap aM=>fa (.own di) _ c _ hm ay ap aM,fun V2=>?_⟩;obtain⟨kT,b,off,len,cap,arr,ty,cF,aa,a8,aA,aO⟩:=Wm V2;have bM:b<w.heap.size:=(iV.1 aA).1;have bc:=fa (.own di) _ b [] hm ay bM a8;exact⟨kT,b,off,len,cap,arr,ty,cF,Gx _ _ _ ay aa,bc.1,bc.2.trans aA,aO⟩
    exact trivial
   exact trivial
  | eS t vs=>
   simp only[p9,aC.nK,gO];exact trivial
  | cU g k es i j=>
   simp only[p9];by_cases hm:aC.nK aj (.cU g k es i j)=true
   ·rw[bU hm];exact trivial
   rw[bE hm];simp only[tj]at hm;replace hm:g.lR aj=false:=hm;obtain⟨b,off,cap,e,hi,aI,bH⟩:=c5;simp only[aC.cB];cases ay:fF t0 g with
   | none=>exact trivial
   | some dS=>exact⟨b,off,cap,e,hi,aI.frame fun b q bM aM=>fa g dS b q hm ay bM aM,Gx g dS _ ay bH⟩
  | J g k es=>
   cases g with
   | free=>exact plain .free k es rfl c5
   | ro s=>
    simp only[p9];by_cases hm:aC.nK aj (.J (.ro s) k es)=true
    ·rw[bU hm];exact trivial
    rw[bE hm];simp only[tj]at hm;exact plain (.ro s) k es hm c5
   | own s=>
    simp only[p9];cases b7:uK s aj with
    | none=>exact plain (.own s) k es (NK b7) c5
    | some h=>
     obtain⟨bH,rfl⟩:=NL b7;simp only;have br:=fY h bH;have dG:τ h.t=(k,y):=c5.2;split
     ·
      rename_i cq hp he;have e1:=br.root hp;rw[dG]at e1;simp only[bq]at e1;obtain⟨rfl,e2⟩:=e1;have aI:=M9 h bH cq he;rw[hp,<-e2]at aI;exact⟨aI,by simp only[Tag.dG];rw[q5 h bH,dG]⟩
     ·exact trivial
     -- parts of it
     rename_i p hp;split
     ·rename_i sj;obtain⟨du,Dr,ds,a0,vQ,er,pH,rfl,gV⟩:=h1.ex h bH p hp sj;have Fc:τ gM=(mz,Dr):=vQ.2;rw[<-sj,dG]at Fc;simp only[bq]at Fc;obtain⟨rfl,rfl⟩:=Fc;obtain⟨qX,_⟩:=vQ;have hlen:(du.set a0 (lg aj ds)).length=du.length:=gz;have Md:a0<du.length:=(fA.1 er).1;refine⟨?_,by simp only[Tag.dG];rw[q5 h bH,dG]⟩;generalize bO:y=LI at qX;cases qX with
      | nil=>simp at Md
      | row R k du cj off cap arr ty cF us E6 dz VH eL bc hu aF=>
       subst bO;have AV:ω cj=.tok h.t []:=by rw[sj];exact dz
       have ME:∀x∈aj,x.fit gM []=none:=by
        intro x ao;unfold c7.fit;split
        ·rename_i ext;cases Bk:x.p with
         | some q=>simp
         | none=>
          exfalso;have c1:c7.apart h x=true\/c7.apart x h=true\/h=x:=by
           rcases Oy cG h bH x ao with e | e | e
           ·exact .inr (.inr e)
           ·exact .inl e
           exact .inr (.inl e)
          have sa:∀y z:c7,y.t=z.t->(y.p=none\/z.p=none)->c7.apart y z=true->False:=by
           intro y z e1 e2 ch;simp only[c7.apart,e1,cJ,pt,bne_self_eq_false,ql,false_or]at ch;rcases e2 with e2 | e2
           ·simp[e2]at ch
           ·rw[e2]at ch;cases hyp:y.p<;>simp[hyp]at ch
          rcases c1 with e | e | e
          ·exact sa h x (by rw[ext,sj]) (.inr Bk) e
          ·exact sa x h (by rw[ext,sj]) (.inl Bk) e
          rw[<-e,hp]at Bk;cases Bk
        rfl
       have jt:lD gM [] aj=none:=by
        cases e:lD gM [] aj with
        | none=>rfl
        | some z=>
         obtain⟨g,dB⟩:=z;obtain⟨x,ao,MY,_⟩:=yE e;rw[ME x ao]at MY;cases MY
       have Vx:cj<w.heap.size:=(iV.1 E6).1;have asL:fh aj ω cj=.bz:=iN cj gM [] dz jt;have Ww:¬(t0<=gM/\gM<t0+10000):=by rw[<-sj];exact MN h bH
       have MH:∀b q,b<w.heap.size->ω b=.tok gM q->lD gM q aj=none->a' b=.tok gM q/\aP.heap[b]?=w.heap[b]?:=by
        intro b q bM aM a7;have hi:=iN b gM q aM a7;refine⟨?_,lJ b bM hi⟩;rw[hold b bM hi,aM];simp only[mE];rw[bE Ww]
       have MG:∀x y d,cN du x y=some d->(∀z∈aj,z.p≠some (x,y))->bS aP a' (fun q=>(Tag.own gM).R ((x,y)::q)) d (us x y):=by
        intro x y d ap bk;refine (aF x y d ap).frame fun b q bM aM=>?_
        refine MH b _ bM aM ?_;cases e:lD gM ((x,y)::q) aj with
        | none=>rfl
        | some r=>
         obtain⟨g,dB⟩:=r;obtain⟨z,x',W3,_⟩:=yE e;obtain⟨e1,e2⟩:=OA W3;exfalso;cases pQ:z.p with
         | none=>
          have:=ME z x';unfold c7.fit at this;rw[bU e1,pQ]at this;simp at this
         | some r=>
          rw[pQ]at e2;simp only[Ao,List.cons_append,List.nil_append,qo]at e2;exact bk z x' (by rw[pQ,<-e2.1])
       have key:∀x y d,cN (du.set a0 (lg aj ds)) x y=some d->bS aP a' (fun q=>(Tag.own gM).R ((x,y)::q)) d (us x y):=by
        intro x y d ap;by_cases ao:x=a0
        ·subst ao;have kf:(lg aj ds)[y]?=some d:=by
          simpa[cN,l7,Md]using ap
         rcases G5 kf with⟨z,bk,e3,cq,U,aa,rfl⟩ | ⟨U,aa⟩
         ·obtain⟨e1,e2,_⟩:=gV z bk _ U;have e2:e3=x:=e2;subst e2;obtain⟨kT,hK,atA,atu,asj,asg,atS,asE,g1,g2,g3,g4⟩:=(fY z bk).cell _ _ U;rw[e1,<-sj,dG]at g1;simp only[bq,Value.slice.injEq,aT,Addr.mk.injEq]at g1;obtain⟨rfl,⟨rfl,rfl,_⟩,_,_⟩:=g1;rw[E6]at g3;simp only[aT,Obj.cells.injEq]at g3;obtain⟨rfl,_,_⟩:=g3;have WY:y<ds.length:=by
           have:=(fA.1 kf).1;rwa[yG]at this
          have eI:cN du e3 y=some ds[y]:=by simp[cN,er,WY]
          have WS:us e3 y=vals z:=by
           have:=hu e3 y _ eI;rw[g4]at this;exact (fB this).symm
          rw[WS];have aI:=M9 z bk cq aa;rw[U,e1]at aI;exact aI
         have eI:cN du x y=some d:=by simp[cN,er,U]
         refine MG x y d eI fun z bk pQ=>?_
         obtain⟨_,_,cq,he⟩:=gV z bk _ pQ;exact aa z bk x cq pQ he
        have eI:cN du x y=some d:=by
         simp only[cN,l7]at ap;rw[bE (by omega)]at ap;exact ap
        refine MG x y d eI fun z bk pQ=>?_
        obtain⟨_,e2,_⟩:=gV z bk _ pQ;exact ao e2
       have hh:=MH cj [] Vx dz jt;have:=bS.row (w:=aP) (ω:=a') (Tag.own gM).R k (du.set a0 (lg aj ds)) cj off cap arr ty cF us (hh.2.trans E6) hh.1 (by rw[hlen];exact VH) eL
        (fun e he=>by
         rcases ps he with dZ | rfl
         ·exact bc e dZ
         rw[yG];exact pH)
        (fun x y d ap=>by
         have k7:x<du.length/\y<k:=by
          have Fq:∀e∈du.set a0 (lg aj ds),e.length=k:=fun e he=>by
           rcases ps he with dZ | rfl
           ·exact bc e dZ
           rw[yG];exact pH
          have dZ:x<(du.set a0 (lg aj ds)).length/\y<k:=by
           unfold cN at ap;cases xk:(du.set a0 (lg aj ds))[x]? with
           | none=>simp[xk]at ap
           | some row=>
            simp only[xk,l8]at ap;have hm:=Fq row (fe xk);exact⟨(fA.1 xk).1,by rw[<-hm];exact (fA.1 ap).1⟩
          rw[hlen]at dZ;exact dZ
         have tP:(du[x]'k7.1).length=k:=bc _ (rQ k7.1);exact hu x y ((du[x]'k7.1)[y]'(by omega)) (by simp[cN,k7.1,tP,k7.2]))
        key
       rw[hlen]at this;rw[sj];exact this
     exact trivial
 have cell:∀(n:Nat) (d:D) (u:Value),n<10000->lL rs v n=u->(∀k es,d=.J k es->ow rs n=k)->bS aP eP (Tag.own n).R d u->Sat aP a' cL (d.n0 (t0+n)) u:=by
  intro n d u a7 br bc aI;cases d with
  | v x=>
   have e:u=x:=by cases aI;rfl
   subst e;unfold D.n0;split
   ·rename_i h;cases h;exact rfl
   ·rename_i h;cases h;exact rfl
   ·rename_i h;cases h
   ·exact trivial
   exact trivial
  | ptr ds=>exact trivial
  | bI g bB=>exact trivial
  | J k es=>
   refine⟨aI.frame fun b q bM aM=>⟨?_,rfl⟩,?_⟩
   ·simp only[Tag.R]at aM ⊢;rw[fN b (by rw[aM];simp),aM];simp only[yF];rw[bE (by simp only[cX];omega)]
   simp only[Tag.dG,cL];rw[bU (by omega),show t0+n-t0=n by omega,br,bc k es rfl]
 have r3:∀(r:Nat) (cl:cE) (y:Value),r<100->(∀ds,cl=.agg ds->ds.length<100)->rs[r]?=some cl->(∀j,j<100->lL rs v (100*r+j)=y.cells.getD j undef)->kM aP eP r cl y->iZ (Sat aP a' cL) (cl.res (t0+100*r)) y:=by
  intro r cl y aI er xZ br nu;have gp:∀j,j<100->ow rs (100*r+j)=(match cE.cell j cl with | some (.J k _)=>k | _=>0):=by
   intro j bm;unfold ow;rw[show (100*r+j) / 100=r by omega,show (100*r+j) % 100=j by omega,xZ];rfl
  cases cl with
  | one d=>
   have U:=nu.nP;have aa:=br 0 (by omega);rw[yz U]at aa;have:=cell (100*r) d y (by omega) (by simpa using aa) (fun k es e=>by
    have:=gp 0 (by omega);rw[mX]at this;rw[this,e];rfl) nu
   exact this
  | agg ds=>
   obtain⟨vs,rfl,a7,bm⟩:=nu;refine⟨vs,rfl,by rw[wb];exact a7,fun j l au=>?_⟩;rw[yD,b0]at au;obtain⟨d,aF,rfl⟩:=au;obtain⟨u,hu,x0⟩:=bm j d aF;have k5:j<100:=by
    have:=(fA.1 aF).1;have:=er ds rfl;omega
   refine⟨u,hu,?_⟩;have:=cell (100*r+j) d u (by omega) (by rw[br j k5];simp[Value.cells,eg,hu]) (fun k es e=>by
    rw[gp j k5];simp only[cE.cell,aF,e]) x0
   rw[show t0+100*r+(0+j)=t0+(100*r+j) by omega];exact this
 simp only[s5,cJ,cW]at ez;have er:∀(r:Nat) (cl:cE),rs[r]?=some cl->∀ds,cl=.agg ds->ds.length<100:=by
  intro r cl aI ds e;have:=fp.1 ez.2 cl (fe aI);subst e;simpa using this
 have MA:∀b,ω b≠.bz->w0.Bq b:=fun b h=>(aW.owned b h).1
 have Mu:∀b,fh aj ω b≠.bz->ω b≠.bz:=fun b h e=>h (oy b e)
 refine⟨a',cL,aW.eo _ ec ?_ ?_ (fun id b cZ=>vW id b cZ) ?_ (fun s aj=>by simp only[cL];rw[bE (by omega)]),?_⟩
 ·refine⟨aw.os.trans aW.below.os,aw.tape.trans aW.below.tape,aw.output.trans aW.below.output,rU aW.below.size aw.size,fun k bc ay=>?_,fun aj=>rU (aW.below.drawn aj) (aw.drawn aj),aw.laid,aW.below.free⟩;have sh:k<w.heap.size:=w' bc aW.below.size;have hi:fh aj ω k=.bz:=by
   cases e:fh aj ω k with
   | bz=>rfl
   | _=>
    have:=MA k (Mu k (by rw[e];simp));rcases this with h | h
    ·omega
    exact absurd h ay
  exact (lJ k sh hi).trans (aW.below.block k bc ay)
 ·intro b fq;by_cases ap:b<w.heap.size/\fh aj ω b=.bz
  ·rw[hold b ap.1 ap.2]at fq;have aa:ω b≠.bz:=fun e=>by rw[e]at fq;exact fq rfl
   obtain⟨aA,arr,ty,aO⟩:=aW.owned b aa;exact⟨aA,arr,ty,(lJ b ap.1 ap.2).trans aO⟩
  have aa:eP b≠.bz:=fun e=>by
   simp only[a']at fq;rw[bE ap,e]at fq;exact fq rfl
  obtain⟨_,arr,ty,aO⟩:=kf b aa;refine⟨?_,arr,ty,aO⟩;rcases qn b w.heap.size with bM | ox
  ·exact MA b (Mu b fun e=>ap ⟨bM,e⟩)
  exact .inl (by have:=aW.below.size;omega)
 ·intro id b cZ;by_cases ap:b<w.heap.size/\fh aj ω b=.bz
  ·rw[hold b ap.1 ap.2]at cZ;cases e:ω b with
   | bz=>rw[e]at cZ;cases cZ
   | box i=>rw[e]at cZ;exact cZ
   | tok s q=>rw[e]at cZ;simp only[mE]at cZ;split at cZ<;>cases cZ
  simp only[a']at cZ;rw[bE ap]at cZ;cases e:eP b with
  | bz=>rw[e]at cZ;cases cZ
  | box i=>rw[e]at cZ;cases cZ
  | tok s q=>
   rw[e]at cZ;simp only[yF]at cZ;split at cZ
   ·split at cZ<;>cases cZ
   cases cZ
 cases rs with
 | nil=>
  obtain⟨vs,rfl,a7,_⟩:=jR;exact⟨vs,rfl,a7,fun i a ai=>by simp[oW]at ai⟩
 | cons cl rest=>
  cases rest with
  | nil=>
   have:=r3 0 cl v (by omega) (er 0 cl rfl) rfl (fun j bm=>by
    unfold lL;simp only[Nat.mul_zero,dL];rw[Ap bm]) jR
   exact this
  | cons LQ rest=>
   obtain⟨vs,rfl,a7,br⟩:=jR;refine⟨vs,rfl,by rw[BE];exact a7,fun i a ai=>?_⟩;rw[BD,b0]at ai;obtain⟨mf,U,rfl⟩:=ai;obtain⟨y,bO,xL⟩:=br i mf U;have ij:i<100:=by
    have:=(fA.1 U).1;omega
   refine⟨y,bO,?_⟩;have:=r3 i mf y ij (er i mf U) U (fun j bm=>by
    unfold lL;simp only;rw[show (100*i+j) / 100=i by omega,show (100*i+j) % 100=j by omega];simp[eg,bO]) xL
   rw[dL];exact this
end Go.Sx
namespace Go.Sx
open Go.RowKit
variable{w:World}{ω:Own}{τ:Nat->Nat×Value}{aj:List c7}{l:aC}{d:D}{y:Value}
theorem NM(h:l.fE=some d)(hm:l.nK aj=false)(c5:Sat w ω τ l y):bS w (fh aj ω) Tag.free.R d y:=by
 have oy:∀b,ω b=.bz->fh aj ω b=.bz:=fun b h=>by simp only[fh,h]
 have iN:∀b s q,ω b=.tok s q->qh aj s=false->fh aj ω b=.bz:=fun b s q h aa=>by simp only[fh,h,G4 aa]
 have tag:∀(g:Tag) (b:Nat) (q:List (Nat×Nat)),g.lR aj=false->g.R q (ω b)->fh aj ω b=.bz:=by
  intro g b q ay aM;cases g with
  | free=>exact oy b aM
  | own s=>exact iN b s q aM ay
  | ro s=>
   rcases aM with h | ⟨dB,h⟩
   ·exact oy b h
   exact iN b s dB h ay
 cases l with
 | cp=>cases h
 | v x=>
  simp only[aC.fE]at h;split at h
  ·simp only[aT]at h;subst h;have:y=x:=c5;subst this;exact .v _ _ ‹_›
  cases h
 | a1 c=>
  simp only[aC.fE,aT]at h;subst h;have:y=.bool c:=c5;subst this;exact .v _ _ rfl
 | J t k es=>simp only[aC.fE,aT]at h;subst h;exact c5.1.frame fun b q _ aM=>⟨tag t b q hm aM,rfl⟩
 | ptr=>cases h
 | cU=>cases h
 | fK=>cases h
 | eS=>cases h
 | gZ ds off=>
  simp only[aC.fE]at h;split at h
  ·rename_i a6;subst a6;simp only[aT]at h;subst h;obtain⟨b,rfl,aI⟩:=c5;exact aI.frame fun b q _ aM=>⟨oy b aM,rfl⟩
  cases h
 | fd dn=>simp only[aC.fE,aT]at h;subst h;exact bS.frame c5 fun b q _ aM=>⟨oy b aM,rfl⟩
 | c9 t k es=>simp only[aC.fE,aT]at h;subst h;exact bS.frame c5.1 fun b q _ aM=>⟨oy b aM,rfl⟩
 | aL t i j k es m=>
  obtain⟨u,hu,aI,_⟩:=c5;cases m with
  | at_ x z=>cases h
  | here=>simp only[aC.fE,aT]at h;subst h;have:y=u:=hu;subst this;exact aI.frame fun b q _ aM=>⟨iN b t _ aM hm,rfl⟩
  | ky=>simp only[aC.fE,aT]at h;subst h;have:y=u:=hu;subst this;exact aI.frame fun b q _ aM=>⟨iN b t _ aM hm,rfl⟩
variable{bs:kv}
theorem NN(aw:uJ w ω τ bs){id b:Nat}(h:vq bs id=some d)(hm:(match dh id bs with | some ls=>ls.any (aC.nK aj) | none=>true)=false)(a6:ω b=.box id):
  bS w (fh aj ω) Tag.free.R d (ptrTo b):=by
 unfold vq at h;cases e:dh id bs with
 | none=>simp[e]at h
 | some ls=>
  rw[e]at hm;simp only[hv,tj]at hm;simp only[e,l8,b0]at h;obtain⟨ds,U,rfl⟩:=h;obtain⟨de,arr,ty,eE,hu,bH,c5⟩:=aw id ls e;have:=hu b a6;subst this;obtain⟨aa,aA⟩:=lU U;have cell:∀j d,ds[j]?=some d->arr[j]?=some (arr.getD j undef)/\bS w (fh aj ω) Tag.free.R d (arr.getD j undef):=by
   intro j d aF;obtain⟨l,au,c2⟩:=aA j d aF;obtain⟨u,gq,eV⟩:=c5.2 j l au;have e2:arr.getD j undef=u:=by simp[eg,gq]
   rw[e2];exact⟨gq,NM c2 (hm l (fe au)) eV⟩
  exact bS.ptr _ ds b arr ty (0,0) (fun j=>arr.getD j undef) bH (by show fh aj ω b=.bz;simp only[fh,a6]) (by have:=c5.1;omega) (fun j d aF=>(cell j d aF).1) (fun j d aF=>(cell j d aF).2.frame fun _ _ _ h=>⟨h,rfl⟩)
theorem aix(aw:uJ w ω τ bs)(h:l.iG bs=some d)(hm:l.lR bs aj=false)(c5:Sat w ω τ l y):
  bS w (fh aj ω) Tag.free.R d y:=by
 unfold aC.iG at h;split at h
 ·rename_i id off;split at h
  ·rename_i a6;subst a6;obtain⟨b,U,rfl⟩:=c5;exact NN aw h hm U
  cases h
 ·rename_i g ids;rw[b0]at h;obtain⟨ds,U,rfl⟩:=h;obtain⟨mg,rfl,a7,hi⟩:=c5;obtain⟨aa,aA⟩:=lU U;simp only[aC.lR,hv,tj]at hm;have cell:∀j d,ds[j]?=some d->(mg.map ptrTo).toArray[j]?=some ((mg.map ptrTo).toArray.getD j undef)/\bS w (fh aj ω) Tag.free.R d ((mg.map ptrTo).toArray.getD j undef):=by
   intro j d aF;obtain⟨id,hid,Fa⟩:=aA j d aF;obtain⟨b,hh,gI⟩:=hi j id hid;have e1:(mg.map ptrTo).toArray[j]?=some (ptrTo b):=by simp[hh]
   have e2:(mg.map ptrTo).toArray.getD j undef=ptrTo b:=by rw[eg,e1];rfl
   rw[e2];exact⟨e1,NN aw Fa (hm id (fe hid)) gI⟩
  exact bS.bI _ g ds _ (fun j=>(mg.map ptrTo).toArray.getD j undef) (by simp;omega) (fun j d aF=>(cell j d aF).1) (fun j d aF=>(cell j d aF).2.frame fun _ _ _ h=>⟨h,rfl⟩)
 rename_i A8 Wn;have xS:l.nK aj=false:=by
  unfold aC.lR at hm;split at hm
  ·exact absurd rfl (A8 _ _)
  ·exact absurd rfl (Wn _ _)
  exact hm
 exact NM h xS c5
structure UT (w:World) (ω:Own) (τ:Nat->Nat×Value) (aj:List c7) (i j:Nat) (c:ff) (ao:List c7) (y:Value):Prop where
 gc:tp w (fh aj ω) (e4 i j) c y
 at_:∀h∈ao,h.i=i/\h.j=j/\Av w ω τ h y/\c=.fM h.k h.es h.post
 one:y.oneCell'=true
variable{i:Nat}
theorem G6(cG:mH aj=true)(aw:uJ w ω τ bs){j:Nat}{m:ob}{c:ff}{ao:List c7}{rx:List aC}
  (h:vt bs i j m l=some (c,ao,rx)) (h1:∀x∈ao,x∈aj) (vP:∀x∈rx,x.lR bs aj=false) (c5:Sat w ω τ l y):UT w ω τ aj i j c ao y:=by
 unfold vt at h;split at h
 ·rw[b0]at h;obtain⟨d,U,h⟩:=h;simp only[bq]at h;obtain⟨rfl,rfl,rfl⟩:=h;have:=aix aw U (vP _ (by simp)) c5;exact⟨this,fun x ao=>by simp at ao,this.nP⟩
 ·rename_i post t k es;simp only[aT,bq]at h;obtain⟨rfl,rfl,rfl⟩:=h;have pL:=h1 _ (jn);refine⟨c5.1.frame fun b q _ aM=>⟨?_,rfl⟩,fun x ao=>?_,c5.1.nP⟩
  ·simp only[Tag.R]at aM ⊢;simp only[fh,aM];have:=G3 (t:=t) (q:=q) (dB:=q) cG pL (OB ⟨i,j,t,none,k,es,post⟩ q);simp only[this]
  simp only[List.mem_singleton]at ao;subst ao;exact⟨rfl,rfl,⟨c5.1.frame fun b q _ aM=>⟨aM,rfl⟩,fun _=>c5.2,fun a b e=>by cases e⟩,rfl⟩
 ·rename_i post t a b k es;simp only[aT,bq]at h;obtain⟨rfl,rfl,rfl⟩:=h;have pL:=h1 _ (jn);obtain⟨gg,pN,c5⟩:=c5;have:y=gg:=pN;subst this;refine⟨c5.1.frame fun c q _ aM=>⟨?_,rfl⟩,fun x ao=>?_,c5.1.nP⟩
  ·simp only[Tag.R]at aM ⊢;simp only[fh,aM];have:=G3 (t:=t) (q:=(a,b)::q) (dB:=q) cG pL (OB ⟨i,j,t,some (a,b),k,es,post⟩ q);simp only[this]
  simp only[List.mem_singleton]at ao;subst ao;refine⟨rfl,rfl,⟨c5.1.frame fun b q _ aM=>⟨aM,rfl⟩,fun e=>(by cases e),fun cC de e=>?_⟩,rfl⟩;simp only[aT,bq]at e;obtain⟨rfl,rfl⟩:=e;exact c5.2 rfl
 cases h
theorem NO:∀{ms:List ob} {ls:List aC} {j:Nat} {cs:List ff} {ao:List c7} {rx:List aC},nT bs i j ms ls=some (cs,ao,rx)->cs.length=ls.length
 | [],[],j,cs,ao,rx,h=>by simp only[nT,aT,bq]at h;obtain⟨rfl,_,_⟩:=h;rfl
 | m::ms,l::ls,j,cs,ao,rx,h=>by
  simp only[nT]at h;split at h
  ·rename_i c U bF L0 qZ wU e1 e2;simp only[aT,bq]at h;obtain⟨rfl,_,_⟩:=h;simp[NO e2]
  cases h
 | [],_::_,j,cs,ao,rx,h=>by simp[nT]at h
 | _::_,[],j,cs,ao,rx,h=>by simp[nT]at h
theorem NP:∀{ms:List ob} {ls:List aC} {j:Nat} {cs:List ff} {ao:List c7} {rx:List aC},nT bs i j ms ls=some (cs,ao,rx)->
  (∀(x:Nat) (c:ff),cs[x]?=some c->∃l m U bF,ls[x]?=some l/\vt bs i (j+x) m l=some (c,U,bF)/\(∀z∈U,z∈ao)/\(∀z∈bF,z∈rx))/\
  (∀h∈ao,∃(x:Nat) (c:ff) (l:aC) (m:ob) (U:List c7) (bF:List aC),cs[x]?=some c/\ls[x]?=some l/\vt bs i (j+x) m l=some (c,U,bF)/\h∈U/\(∀z∈U,z∈ao)/\(∀z∈bF,z∈rx))
 | [],[],j,cs,ao,rx,h=>by
  simp only[nT,aT,bq]at h;obtain⟨rfl,rfl,rfl⟩:=h;exact⟨fun x c ap=>by simp at ap,fun h bH=>by simp at bH⟩
 | m::ms,l::ls,j,cs,ao,rx,h=>by
  simp only[nT]at h;split at h
  ·rename_i c U bF L0 qZ wU e1 e2;simp only[aT,bq]at h;obtain⟨rfl,rfl,rfl⟩:=h;obtain⟨c6,b8⟩:=NP e2;refine⟨fun x iH ap=>?_,fun z bk=>?_⟩
   ·cases x with
    | zero=>
     simp only[kV,aT]at ap;subst ap;exact⟨l,m,U,bF,rfl,e1,fun z bk=>hG _ bk,fun z bk=>hG _ bk⟩
    | succ x=>
     obtain⟨gD,h4,aa,bY,g1,g2,g3,g4⟩:=c6 x iH (by simpa using ap);exact⟨gD,h4,aa,bY,by simpa using g1,by rw[show j+(x+1)=j+1+x by omega];exact g2,fun z bk=>ig _ (g3 z bk),fun z bk=>ig _ (g4 z bk)⟩
   rcases lv.1 bk with bk | bk
   ·exact⟨0,c,l,m,U,bF,rfl,rfl,e1,bk,fun z bk=>hG _ bk,fun z bk=>hG _ bk⟩
   obtain⟨x,iH,gD,h4,aa,bY,g0,g1,g2,g5,g3,g4⟩:=b8 z bk;exact⟨x+1,iH,gD,h4,aa,bY,by simpa using g0,by simpa using g1,by rw[show j+(x+1)=j+1+x by omega];exact g2,g5,fun z bk=>ig _ (g3 z bk),fun z bk=>ig _ (g4 z bk)⟩
  cases h
 | [],_::_,j,cs,ao,rx,h=>by simp[nT]at h
 | _::_,[],j,cs,ao,rx,h=>by simp[nT]at h
structure US (w:World) (ω:Own) (τ:Nat->Nat×Value) (aj:List c7) (i:Nat) (eD:GA) (ao:List c7) (y:Value):Prop where
 Vk:LN w (fh aj ω) i eD y
 at_:∀h∈ao,h.i=i/\Av w ω τ h (cellOf y h.j)/\eD.cell h.j=some (.fM h.k h.es h.post)
theorem NQ(cG:mH aj=true)(aw:uJ w ω τ bs){ms:List ob}{p:aE}{eD:GA}{ao:List c7}{rx:List aC}
  (h:xi bs i ms p=some (eD,ao,rx)) (h1:∀x∈ao,x∈aj) (vP:∀x∈rx,x.lR bs aj=false) (c5:cH (Sat w ω τ) p y):US w ω τ aj i eD ao y:=by
 unfold xi at h;split at h
 ·rename_i l;split at h
  ·rename_i m;rw[b0]at h;obtain⟨⟨c,U,bF⟩,e,h⟩:=h;simp only[bq]at h;obtain⟨rfl,rfl,rfl⟩:=h;have:=G6 cG aw e h1 vP c5;refine⟨this.gc,fun x ao=>?_⟩;obtain⟨e1,e2,ch,dP⟩:=this.at_ x ao;have Ve:cellOf y x.j=y:=by rw[e2,cellOf,yz this.one];rfl
   rw[Ve];exact⟨e1,ch,by simp[GA.cell,e2,dP]⟩
  cases h
 ·rename_i ls;rw[b0]at h;obtain⟨⟨cs,U,bF⟩,e,h⟩:=h;simp only[bq]at h;obtain⟨rfl,rfl,rfl⟩:=h;obtain⟨us,rfl,a7,hu⟩:=c5;obtain⟨c6,b8⟩:=NP e;refine⟨⟨us,rfl,by rw[NO e];exact a7,fun x c ap=>?_⟩,fun z bk=>?_⟩
  ·obtain⟨l,m,aa,bY,g1,g2,g3,g4⟩:=c6 x c ap;obtain⟨u,gq,eV⟩:=hu x l g1;rw[dL]at g2;exact⟨u,gq,(G6 cG aw g2 (fun z bk=>h1 z (g3 z bk)) (fun z bk=>vP z (g4 z bk)) eV).gc⟩
  obtain⟨x,c,l,m,aa,bY,g0,g1,g2,g5,g3,g4⟩:=b8 z bk;obtain⟨u,gq,eV⟩:=hu x l g1;rw[dL]at g2;obtain⟨e1,e2,ch,dP⟩:=(G6 cG aw g2 (fun z bk=>h1 z (g3 z bk)) (fun z bk=>vP z (g4 z bk)) eV).at_ z g5;refine⟨e1,?_,by simp only[GA.cell,e2,g0,dP]⟩;have:cellOf (.agg us) z.j=u:=by simp[cellOf,Value.cells,e2,eg,gq]
  rw[this];exact ch
 cases h
theorem NR:∀{GF:List (List ob)} {ct:List aE} {i:Nat} {gs:List GA} {ao:List c7} {rx:List aC},tz bs i GF ct=some (gs,ao,rx)->gs.length=ct.length/\
  (∀(x:Nat) (eD:GA),gs[x]?=some eD->∃p ms U bF,ct[x]?=some p/\xi bs (i+x) ms p=some (eD,U,bF)/\(∀z∈U,z∈ao)/\(∀z∈bF,z∈rx))/\
  (∀h∈ao,∃(x:Nat) (eD:GA) (p:aE) (ms:List ob) (U:List c7) (bF:List aC),gs[x]?=some eD/\ct[x]?=some p/\xi bs (i+x) ms p=some (eD,U,bF)/\h∈U/\(∀z∈U,z∈ao)/\(∀z∈bF,z∈rx))
 | [],[],i,gs,ao,rx,h=>by
  simp only[tz,aT,bq]at h;obtain⟨rfl,rfl,rfl⟩:=h;exact⟨rfl,fun x c ap=>by simp at ap,fun h bH=>by simp at bH⟩
 | m::ms,l::ls,i,gs,ao,rx,h=>by
  simp only[tz]at h;split at h
  ·rename_i c U bF L0 qZ wU e1 e2;simp only[aT,bq]at h;obtain⟨rfl,rfl,rfl⟩:=h;obtain⟨dE,c6,b8⟩:=NR e2;refine⟨by simp[dE],fun x iH ap=>?_,fun z bk=>?_⟩
   ·cases x with
    | zero=>
     simp only[kV,aT]at ap;subst ap;exact⟨l,m,U,bF,rfl,e1,fun z bk=>hG _ bk,fun z bk=>hG _ bk⟩
    | succ x=>
     obtain⟨gD,h4,aa,bY,g1,g2,g3,g4⟩:=c6 x iH (by simpa using ap);exact⟨gD,h4,aa,bY,by simpa using g1,by rw[show i+(x+1)=i+1+x by omega];exact g2,fun z bk=>ig _ (g3 z bk),fun z bk=>ig _ (g4 z bk)⟩
   rcases lv.1 bk with bk | bk
   ·exact⟨0,c,l,m,U,bF,rfl,rfl,e1,bk,fun z bk=>hG _ bk,fun z bk=>hG _ bk⟩
   obtain⟨x,iH,gD,h4,aa,bY,g0,g1,g2,g5,g3,g4⟩:=b8 z bk;exact⟨x+1,iH,gD,h4,aa,bY,by simpa using g0,by simpa using g1,by rw[show i+(x+1)=i+1+x by omega];exact g2,g5,fun z bk=>ig _ (g3 z bk),fun z bk=>ig _ (g4 z bk)⟩
  cases h
 | [],_::_,i,gs,ao,rx,h=>by simp[tz]at h
 | _::_,[],i,gs,ao,rx,h=>by simp[tz]at h
def BF:List c7->Option (Nat×Nat)
 | []=>none
 | h::r=>match h.p with | some p=>some (h.t,p.1) | none=>BF r
theorem NS:∀{aj:List c7},BF aj=none->∀h∈aj,h.p=none
 | [],_,h,bH=>by cases bH
 | x::r,e,h,bH=>by
  simp only[BF]at e;split at e
  ·cases e
  rename_i hp;rcases ep.1 bH with rfl | bH
  ·exact hp
  exact NS e h bH
def yH(a:Nat):List c7->List Prop
 | []=>[]
 | h::r=>match h.p with | some p=>(p.1=a)::yH a r | none=>yH a r
theorem G7{a:Nat}:∀{aj:List c7},cv (yH a aj)->∀h∈aj,∀p,h.p=some p->p.1=a
 | [],_,h,bH,_,_=>by cases bH
 | x::r,a6,h,bH,p,hp=>by
  simp only[yH]at a6;split at a6
  ·rename_i q aM;rcases ep.1 bH with rfl | bH
   ·rw[hp]at aM;rw[fB aM];exact a6.1
   exact G7 a6.2 h bH p hp
  rename_i aM;rcases ep.1 bH with rfl | bH
  ·rw[hp]at aM;cases aM
  exact G7 a6 h bH p hp
def G8(st:aD)(aj:List c7)(src:Nat)(ds:List D):Option (Nat×Nat×List (List D)×List Prop):=
 match BF aj with
 | none=>some (0,0,[],[])
 | some (t,a)=>
  match (st.env.getD src .cp).leaf with
  | some (.J (.own s) k es)=>
   if s=t/\ds.length=k/\aj.all (fun h=>match h.p with | some _=>h.t==t&&h.post.isSome | none=>true)=true then
    some (t,k,es.set a (lg aj ds),(es[a]?=some ds)::yH a aj)
   else none
  | _=>none
theorem aiy{w0:dY}{st:aD}{a:Act}(aW:cy w0 st a w ω τ){src:Nat}{ds:List D}{t k:Nat}{es:List (List D)}{obs:List Prop}
  (h:G8 st aj src ds=some (t,k,es,obs)) (a6:cv obs):LP w ω τ aj t k es:=by
 unfold G8 at h;split at h
 ·rename_i a7;exact⟨fun x ao p hp _=>by rw[NS a7 x ao]at hp;cases hp⟩
 rename_i di cC b7;split at h
 ·rename_i s cm cq au;split at h
  ·rename_i ap;obtain⟨rfl,pH,gV⟩:=ap;simp only[aT,bq]at h;obtain⟨rfl,rfl,rfl,rfl⟩:=h;rw[fp]at gV;refine⟨fun x ao p hp _=>?_⟩;have nD:∃y,Sat w ω τ (.J (.own s) cm cq) y:=by
    rw[jJ]at au;cases e:st.env[src]? with
    | none=>rw[e]at au;simp[aE.leaf]at au
    | some p=>
     rw[e]at au;obtain⟨v,_,aa⟩:=aW.env src p e;exact⟨v,aE.dt au aa⟩
   obtain⟨y,bO⟩:=nD;refine⟨cq,y,ds,cC,bO,a6.1,pH,rfl,fun z bk q aM=>?_⟩;have U:=gV z bk;simp only[aM,cJ,jl,pq]at U;exact⟨U.1,G7 a6.2 z bk q aM,U.2⟩
  cases h
 cases h
def G9(P:Program)(st:aD)(d:Option Nat)(f:FuncId)(args:List Operand)(ans:List b'):Option (aD×List b'×List Prop):=
 match ans with
 | .s7 ua src ds rs::r=>
  match tz st.boxes 0 ua (args.map st.bj) with
  | some (gs,aj,n1)=>
   match G8 st aj src ds with
   | some (gM,mz,oh,obs)=>
    let t0:=10000*(d.getD 0+1)
    if h9 P f=true/\s5 rs=true/\t0+10000<=cX/\mH aj=true/\n1.all (fun l=>!(l.lR st.boxes aj))=true/\aj.all (fun h=>!(decide (t0<=h.t)&&decide (h.t<t0+10000)))=true then
     let bl:=st.map (p9 aj t0 gM mz oh)
     match d with
     | some d=>some (⟨bl.env.set d (rF t0 rs),bl.boxes⟩,r,px P f gs rs::obs)
     | none=>some (bl,r,px P f gs rs::obs)
    else none
   | none=>none
  | none=>none
 | _=>none
theorem aiz{P:Program}{w0:dY}{st bl:aD}{a:Act}{dst:Option Nat}{f:FuncId}{args:Array Operand}{ts:Array TypeId}{type:TypeId}{pos:String}{after:Array Edge}{guard:Option (Nat×Bool)}{ans cf:List b'}{obs:List Prop}
  (aW:cy w0 st a w ω τ) (h:G9 P st dst f args.toList ans=some (bl,cf,obs)) (a6:cv obs) {K:Act->World->Prop} {Q:Exit->Act->World->Prop} (ii:∀cC aP,Rel w0 bl cC aP->K cC aP):
  Oper.wp P ⟨dst,.call ⟨.value (.func f),args,ts⟩,type,pos,after,guard⟩ a w K Q:=by
 unfold G9 at h;split at h
 ·rename_i ua src ds rs r;split at h
  ·rename_i gs aj n1 k4;split at h
   ·rename_i gM mz oh fm h1;simp only at h;split at h
    ·rename_i ap;obtain⟨hY,ez,hO,cG,Bf,vO⟩:=ap;rw[fp]at Bf vO;have xY:∀l∈n1,l.lR st.boxes aj=false:=fun l au=>by simpa using Bf l au
     have Wy:∀h∈aj,¬(10000*(dst.getD 0+1)<=h.t/\h.t<10000*(dst.getD 0+1)+10000):=fun h bH=>by
      have:=vO h bH;simp only[hT,Bool.and_eq_false_iff,n']at this;omega
     obtain⟨hlen,c6,b8⟩:=NR k4;have fY:∀(x:Nat) (p:aE),(args.toList.map st.bj)[x]?=some p->∃v,(args.map a.eval)[x]?=some v/\cH (Sat w ω τ) p v:=by
      intro x p hp;rw[dk,b0]at hp;obtain⟨o,U,rfl⟩:=hp;refine⟨a.eval o,?_,aW.bj o⟩;rw[asa];rw[vj]at U;rw[U];rfl
     have VX:Ee w (fh aj ω) gs (args.map a.eval):=by
      refine⟨fun b aw=>?_,by simp[hlen],fun x eD ao=>?_⟩
      ·have c8:ω b≠.bz:=fun e=>aw (by simp only[fh,e])
       obtain⟨_,arr,ty,aO⟩:=aW.owned b c8;refine⟨?_,arr,ty,aO⟩;simp only[fh]at aw ⊢;cases e:ω b with
       | bz=>simp[e]at aw
       | box id=>simp[e]at aw
       | tok t q=>
        simp only[e]at aw ⊢;cases e2:lD t q aj with
        | none=>simp[e2]at aw
        | some z=>
         obtain⟨g,dB⟩:=z;obtain⟨y,_,_,rfl⟩:=yE e2;exact⟨_,dB,rfl,by simp[e4]⟩
      obtain⟨p,ms,U,bF,g1,g2,g3,g4⟩:=c6 x eD ao;obtain⟨v,br,tQ⟩:=fY x p g1;rw[dL]at g2;exact⟨v,br,(NQ cG aW.boxes g2 g3 (fun z bk=>xY z (g4 z bk)) tQ).Vk⟩
     have pF:∀h∈aj,Av w ω τ h (cellOf ((args.map a.eval).getD h.i undef) h.j)/\∃eD,gs[h.i]?=some eD/\eD.cell h.j=some (.fM h.k h.es h.post):=by
      intro h bH;obtain⟨x,eD,p,ms,U,bF,g0,g1,g2,g5,g3,g4⟩:=b8 h bH;obtain⟨v,br,tQ⟩:=fY x p g1;rw[dL]at g2;obtain⟨e1,e2,ch⟩:=(NQ cG aW.boxes g2 g3 (fun z bk=>xY z (g4 z bk)) tQ).at_ h g5;have bj:(args.map a.eval).getD h.i undef=v:=by rw[e1,eg,br];rfl
      rw[bj];exact⟨e2,eD,by rw[e1];exact g0,ch⟩
     have fO:(execOp a.eval ⟨dst,.call ⟨.value (.func f),args,ts⟩,type,pos,after,guard⟩).run P w=.ok (.enter f (args.map a.eval)) w:=by
      unfold h9 at hY;split at hY
      ·rename_i fn jt;simp only[cJ,hT,Al,l']at hY;have qL:fn.body≠none:=by intro e;rw[e]at hY;simp at hY
       simp[execOp,resolve,Act.eval,Deferred.ofValue,invoke,callFunc,jt,hY.1,qL]
      cases hY
     have key:px P f gs rs->cv fm->(∀v aP a' cL,cy w0 (st.map (p9 aj (10000*(dst.getD 0+1)) gM mz oh)) a aP a' cL->cH (Sat aP a' cL) (rF (10000*(dst.getD 0+1)) rs) v->K (a.put dst v) aP)->
       Oper.wp P ⟨dst,.call ⟨.value (.func f),args,ts⟩,type,pos,after,guard⟩ a w K Q:=by
      intro FI FB Mb;unfold Oper.wp;rw[fO];simp only[Oper.upon];refine (FI w _ _ VX (aW.tidy fun b aw=>by simp only[fh,aw])).mono ?_;rintro e aP ⟨v,rfl,iK,eP,bX,cw,cR,dU⟩;obtain⟨a',cL,U,aa⟩:=aW.U' (10000*(dst.getD 0+1)) cG ez hO Wy iK eP bX cw dU (fun h=>cellOf ((args.map a.eval).getD h.i undef) h.j)
       (fun h bH cq he=>by
        obtain⟨_,eD,g1,g2⟩:=pF h bH;rw[he]at g2;exact cR h.i h.j eD h.k h.es cq g1 g2)
       (fun h bH=>(pF h bH).1) (aiy aW h1 FB)
      exact Mb v aP a' cL U aa
     cases dst with
     | none=>
      simp only[aT,bq]at h;obtain⟨rfl,_,rfl⟩:=h;exact key a6.1 a6.2 fun v aP a' cL U _=>ii _ _ ⟨a',cL,U⟩
     | some d=>
      simp only[aT,bq]at h;obtain⟨rfl,_,rfl⟩:=h;exact key a6.1 a6.2 fun v aP a' cL U aa=>ii _ _ ⟨a',cL,U.put aa⟩
    cases h
   cases h
  cases h
 cases h
