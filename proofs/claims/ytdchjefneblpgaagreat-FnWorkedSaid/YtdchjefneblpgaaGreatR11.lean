import Derived.Test.YtdchjefneblpgaaGreatR6
set_option linter.unusedVariables false
set_option linter.unusedSimpArgs false
namespace Go.Sx
open Go.RowKit
def u6(t:Nat)(ms:gR)(k:Nat)(ck:List (List D)):az->az
 | .J (.own s) ch es=>if s=t then .J (.own t) k ck else if (ms.at s).isSome then .cj else .J (.own s) ch es
 | .cB (.own s) ch es i j=>if s=t then .cB (.own t) k ck i j else if (ms.at s).isSome then .cj else .cB (.own s) ch es i j
 | .J (.ro s) ch es=>if s=t then .cj else if (ms.at s).isSome then .cj else .J (.ro s) ch es
 | .cB (.ro s) ch es i j=>if s=t then .cj else if (ms.at s).isSome then .cj else .cB (.ro s) ch es i j
 | .aO s a b dq dx m=>if s=t then .cj else if (ms.at s).isSome then .cj else .aO s a b dq dx m
 | .eX _ _=>.cj
 | l=>l
def lA(t:Nat)(ms:gR):c0->c0
 | .tok s q=>if s=t then .tok s q else match ms.at s with | some p=>.tok t (p::q) | none=>.tok s q
 | o=>o
variable{t:Nat}{ms:gR}
theorem Cj{o:c0}{id:Nat}:lA t ms o=.box id<->o=.box id:=by
 cases o with
 | bt=>simp[lA]
 | box i=>simp[lA]
 | tok s q=>
  grind[lA]
theorem ajE{o:c0}:lA t ms o=.bt<->o=.bt:=by
 cases o with
 | bt=>simp[lA]
 | box i=>simp[lA]
 | tok s q=>
  grind[lA]
variable{i j:Nat}{ds:List D}
theorem HZ{es:List (List D)}{x:Nat}(hi:i<es.length):cQ (es.set i ds) x j=if x=i then ds[j]? else cQ es x j:=by
 unfold cQ;grind
def j2(ds:List D)(off:Nat)(xs:List D):List D:=ds.take off++(xs++ds.drop (off+xs.length))
theorem O0{xs:List D}{off:Nat}(h:off+xs.length<=ds.length):(j2 ds off xs)[i]?=if off<=i/\i<off+xs.length then xs[i-off]? else ds[i]?:=by
 unfold j2;grind
theorem O1{xs:List D}{off:Nat}(h:off+xs.length<=ds.length):(j2 ds off xs).length=ds.length:=by
 grind[j2]
def H0(t:Nat)(ms:gR):Bool:=ms.all fun x=>x.1≠t&&(match ms.at x.1 with | some p=>p.1==x.2.1&&p.2==x.2.2 | none=>false)
theorem ajF(h:H0 t ms=true){s:Nat}{p:Nat×Nat}(hm:(s,p)∈ms):s≠t/\ms.at s=some p:=by
 have h1:=fx.1 h _ hm;grind
theorem H2(i:Nat):∀(xs:List az) (j:Nat),kc i j xs=(kc 0 j xs).map fun x=>(x.1,(i,x.2.2))
 | [],_=>rfl
 | l::ls,j=>by
  simp only[kc];split
  ·simp only[mn,qN,true_and];exact H2 i ls (j+1)
  exact H2 i ls (j+1)
theorem O2(i s:Nat):∀ms:gR,gR.at s (ms.map fun x=>(x.1,(i,x.2.2)))=(gR.at s ms).map fun p=>(i,p.2)
 | []=>rfl
 | (a,p)::r=>by
  simp only[mn,gR.at];split
  ·rfl
  simp_all[O2]
theorem H3(i0:Nat):∀(xs:List az) (j s:Nat) (p:Nat×Nat),(s,p)∈kc i0 j xs->p.1=i0
 | [],_,_,_,h=>by grind[kc]
 | l::ls,j,s,p,h=>by
  simp only[kc]at h;split at h
  ·rcases ep.1 h with h | h
   ·simp only[bq]at h;rw[h.2]
   exact H3 i0 ls (j+1) s p h
  exact H3 i0 ls (j+1) s p h
theorem O3{xs:List az}(h:H0 t (kc 0 j xs)=true){s:Nat}{p:Nat×Nat}(hm:(s,p)∈kc i j xs):s≠t/\(kc i j xs).at s=some p:=by
 have hp:=H3 i xs j s p hm;rw[H2]at hm ⊢;obtain⟨⟨r6,pk⟩,h1,U⟩:=lJ.1 hm;simp only[bq]at U;obtain⟨rfl,U⟩:=U;obtain⟨ax,aJ⟩:=ajF h h1;simp_all[O2]
def tQ.flat:tQ->Bool
 | .at_ _ _=>false
 | _=>true
def sV(t:Nat):Nat->List az->Option (List D×List Nat)
 | _,[]=>some ([],[])
 | j,.aO s a b k es m::ls=>if s=t/\b=j/\m.flat=true then (sV t (j+1) ls).map fun r=>(.J k es::r.1,a::r.2) else none
 | j,l::ls=>
  match l.hM,sV t (j+1) ls with
  | some d,some r=>some (d::r.1,r.2)
  | _,_=>none
theorem O4:∀{xs:List az} {j:Nat} {ys:List D} {is:List Nat},sV t j xs=some (ys,is)->ys.length=xs.length/\
  ∀(y:Nat) (d:D),ys[y]?=some d->∃l,xs[y]?=some l/\(l.hM=some d\/∃a k es m,l=.aO t a (j+y) k es m/\m.flat=true/\a∈is/\d=.J k es)
 | [],j,ys,is,h=>by
  grind[sV,aS,bq]
 | l::ls,j,ys,is,h=>by
  have fin:∀d0 EF G3 B3,ys=d0::EF->is=B3->(∀a∈G3,a∈B3)->sV t (j+1) ls=some (EF,G3)->(l.hM=some d0\/∃a k es m,l=.aO t a j k es m/\m.flat=true/\a∈B3/\d0=.J k es)->ys.length=(l::ls).length/\
    ∀(y:Nat) (d:D),ys[y]?=some d->∃x,(l::ls)[y]?=some x/\(x.hM=some d\/∃a k es m,x=.aO t a (j+y) k es m/\m.flat=true/\a∈is/\d=.J k es):=by
   rintro d0 EF G3 B3 rfl rfl ih aH b5;obtain⟨h1,U⟩:=O4 aH;refine⟨by simp[h1],fun y d aG=>?_⟩;cases y with
   | zero=>
    simp only[kI,aS]at aG;subst aG;exact⟨l,rfl,b5⟩
   | succ y=>
    obtain⟨x,ak,ax⟩:=U y d (by simpa using aG);refine⟨x,by simpa using ak,?_⟩;rcases ax with ax | ⟨a,k,es,m,aJ,aY,bx,bN⟩
    ·exact .inl ax
    exact .inr ⟨a,k,es,m,by rw[aJ,show j+1+y=j+(y+1) by omega],aY,ih a bx,bN⟩
  have plain:(match l.hM,sV t (j+1) ls with | some d,some r=>some (d::r.1,r.2) | _,_=>none)=some (ys,is)->ys.length=(l::ls).length/\
    ∀(y:Nat) (d:D),ys[y]?=some d->∃x,(l::ls)[y]?=some x/\(x.hM=some d\/∃a k es m,x=.aO t a (j+y) k es m/\m.flat=true/\a∈is/\d=.J k es):=by
   grind
  cases l with
  | aO s a b k es m=>
   simp only[sV]at h;split at h
   ·rename_i al;obtain⟨rfl,rfl,hm⟩:=al;rw[bX]at h;grind
   cases h
  | _=>exact plain h
theorem Ck:∀{l:List Nat},cA (l.map fun a=>a=i)->∀a∈l,a=i
 | [],_,a,h=>by cases h
 | x::l,aZ,a,h=>by
  rcases ep.1 h with rfl | h
  ·exact aZ.1
  exact Ck aZ.2 a h
def H4(P:Program)(st:aD)(ty:TypeId)(t k:Nat)(es:List (List D))(i j:Nat)(q:aE)(ans:List b4):Stepped:=
 match q.leaves,P.info? ty,ans with
 | some xs,some inf,.el ds::r=>
  match sV t j xs with
  | some (ys,is)=>
   if xs.length=inf.size/\ds.length=k/\j+ys.length<=k/\H0 t (kc 0 j xs)=true then
    some (st.map (u6 t (kc i j xs) k (es.set i (j2 ds j ys))),r,(es[i]?=some ds)::is.map fun a=>a=i)
   else none
  | none=>none
 | _,_,_=>none
theorem cr.asj{P:Program}{w0:ee}{st bn:aD}{a:Act}{w:World}{ω:Own}{τ:Nat->Nat×Value}{ty:TypeId}{k:Nat}{es:List (List D)}{q:aE}{v y:Value}{ans b':List b4}{obs:List Prop}
  (aU:cr w0 st a w ω τ) (hp:Sat w ω τ (.cB (.own t) k es i j) y) (aK:cE (Sat w ω τ) q v) (h:H4 P st ty t k es i j q ans=some (bn,b',obs)) (aZ:cA obs):
  ∃aM,(Instr.storeAt ty y v).run P w=.ok () aM/\Rel w0 bn a aM:=by
 unfold H4 at h;split at h
 ·rename_i xs inf ds r e1 e2;split at h
  ·rename_i ys is cb;split at h
   ·rename_i al;obtain⟨kQ,ko,j6,BE⟩:=al;simp only[aS,bq]at h;obtain⟨rfl,_,rfl⟩:=h;have ey:es[i]?=some ds:=aZ.1;obtain⟨ai,o1⟩:=aE.wl e1 aK;obtain⟨NA,GX⟩:=O4 cb;have WU:=Ck aZ.2;obtain⟨b,off,cap,rfl,iK,aH,bH⟩:=hp;simp only[Tag.dJ]at bH;cases aH with
    | nil=>simp at iK
    | row R k es b off cap arr hN cL us aw dG fS dN gu hu aG=>
     have j4:ω b=.tok t []:=dG;obtain⟨um,sj,tA,gZ⟩:=aU.owned b (by grind);rw[aw]at gZ;simp only[aS,Obj.cells.injEq]at gZ;obtain⟨rfl,rfl,rfl⟩:=gZ;have ud:b<w.heap.size:=(iE.1 aw).1;have hmul:(i+1)*k<=cap*k:=gW _ (by omega);rw[gB]at hmul;have sE:v.cells.size=xs.length:=ai.1;have dX:off+i*k+j+v.cells.toList.length<=arr.size:=by simp;omega
     have eP:=run_storeCells_at P b (off+i*k+j) hN v.cells.toList 0 arr w aw (by grind) o1;simp only[mq]at eP;generalize nS:(arr.toList.take (off+i*k+j)++v.cells.toList++arr.toList.drop (off+i*k+j+v.cells.toList.length)).toArray=b9 at eP;have hW:∀x:Nat,b9[x]?=if off+i*k+j<=x/\x<off+i*k+j+xs.length then v.cells[x-(off+i*k+j)]? else arr[x]?:=by
      intro x;rw[<-nS,nA,y6 (by grind)];simp[sE]
     have we:b9.size=arr.size:=by rw[<-nS];simp;grind
     have j7:=setRow_heap w b arr b9 hN (0,0) aw
     let ms:=kc i j xs
     let a7:Own:=fun c=>lA t ms (ω c)
     have at9:ms.at t=none:=by
      cases e:ms.at t with
      | none=>rfl
      | some p=>
       have p4:∀(ms:gR) (p:Nat×Nat),ms.at t=some p->(t,p)∈ms:=by
        intro ms;induction ms with
        | nil=>intro p h;cases h
        | cons x ms eH=>
         intro p h;obtain⟨s,pk⟩:=x;simp only[gR.at]at h;split at h
         ·grind
         grind
       grind[absurd,O3]
     have c7:∀c q,c<w.heap.size->ω c=.tok t q->a7 c=.tok t q:=fun c q _ h=>by grind[lA]
     have l1:∀c p q,c<w.heap.size->ω c=.tok t (p::q)->a7 c=.tok t (p::q)/\(w.setRow b b9).heap[c]?=w.heap[c]?:=by
      grind[setRow_other]
     have hX:∀(g:Tag) c q,g≠.own t->g≠.ro t->(∀s,g=.own s\/g=.ro s->ms.at s=none)->g.R q (ω c)->g.R q (a7 c)/\(w.setRow b b9).heap[c]?=w.heap[c]?:=by
      intro g c q h1 U ax ez;have ig:c≠b:=fun e=>by
       rw[e,j4]at ez;cases g with
       | free=>cases ez
       | own s=>grind[Tag.R,c0.tok.injEq]
       | ro s=>
        rcases ez with h | ⟨dE,h⟩
        ·cases h
        grind
      refine⟨?_,setRow_other w b c b9 ig⟩;cases g with
      | free=>grind[Tag.R,lA]
      | own s=>
       simp only[Tag.R]at ez ⊢;simp only[a7,ez,lA];split
       ·rfl
       grind
      | ro s=>
       simp only[Tag.R]at ez ⊢;rcases ez with h | ⟨dE,h⟩
       ·grind[lA]
       right;refine⟨dE,?_⟩;simp only[a7,h,lA];split
       ·rfl
       grind
     have Xe:bQ (w.setRow b b9) a7 (Tag.own t).R (.J k (es.set i (j2 ds j ys))) (.slice (some ⟨b,off,none⟩) es.length cap):=by
      have hlen:(es.set i (j2 ds j ys)).length=es.length:=gp;have BK:ds.length=k:=ko;have eW:∀x y d,cQ (es.set i (j2 ds j ys)) x y=some d->∃u,b9[off+x*k+y]?=some u/\bQ (w.setRow b b9) a7 (fun q=>(Tag.own t).R ((x,y)::q)) d u:=by
       intro x y d dK;rw[HZ iK]at dK;by_cases ak:x=i
       ·subst ak;rw[bM rfl,O0 (by omega)]at dK;split at dK
        ·rename_i bD;obtain⟨l,je,cR⟩:=GX _ _ dK;obtain⟨u,gv,fc⟩:=ai.2 _ _ je;rcases cR with cR | ⟨a,b8,bL,m,rfl,hm,V6,rfl⟩
         case inr=>
          have V8:=WU a V6;subst V8;obtain⟨hx,p7,rl,_⟩:=fc;have bB:u=hx:=by
           cases m with
           | at_ x y=>cases hm
           | here=>exact p7
           | kL=>exact p7
          subst bB;refine⟨u,?_,rl.frame fun c q al ez=>?_⟩
          ·rw[hW,bM (by omega),<-gv]
           congr 1;omega
          rw[show j+(y-j)=y by omega]at ez;exact l1 c _ _ al ez
         refine⟨u,?_,?_⟩
         ·rw[hW,bM (by omega),<-gv]
          congr 1;omega
         have p4:∀s,l.tok=some s->ms.at s=some (x,y)/\s≠t:=by
          intro s c6;have:=HW x xs j (y-j) l s je c6;rw[show j+(y-j)=y by omega]at this;grind[O3]
         cases l with
         | cj=>cases cR
         | v z=>
          simp only[az.hM]at cR;split at cR
          ·simp only[aS]at cR;subst cR;have:u=z:=fc;subst this;exact .v _ _ ‹_›
          cases cR
         | a' c=>
          simp only[az.hM,aS]at cR;subst cR;have:u=.bool c:=fc;subst this;exact .v _ _ rfl
         | ptr=>cases cR
         | cB=>cases cR
         | ha=>cases cR
         | fd=>cases cR
         | c'=>cases cR
         | fR=>cases cR
         | aO=>cases cR
         | eX=>cases cR
         | J g b8 bL=>
          cases g with
          | free=>cases cR
          | ro s=>cases cR
          | own s=>
           simp only[az.hM,aS]at cR;subst cR;obtain⟨h1,U⟩:=p4 s rfl;refine fc.1.frame fun c q al ez=>?_
           simp only[Tag.R]at ez ⊢;refine⟨?_,setRow_other w b c b9 fun e=>?_⟩
           ·simp only[a7,ez,lA];grind
           grind
        rename_i bD;have oT:cQ es x y=some d:=by grind[cQ]
        refine⟨us x y,?_,(aG x y d oT).frame fun c q al ez=>l1 c _ _ al ez⟩;rw[hW,bG (by omega),hu x y d oT]
       rw[bG ak]at dK;obtain⟨fA,XN⟩:=rK gu dK;refine⟨us x y,?_,(aG x y d dK).frame fun c q al ez=>l1 c _ _ al ez⟩;rw[hW,bG ?_,hu x y d dK];rcases Nat.lt_or_gt_of_ne ak with h | h
       ·have:(x+1)*k<=i*k:=gW _ h;grind
       have:(i+1)*k<=x*k:=gW _ h;grind
      have o7:∀e∈es.set i (j2 ds j ys),e.length=k:=by
       grind[pR,O1]
      have:=bQ.row (w:=w.setRow b b9) (ω:=a7) (Tag.own t).R k (es.set i (j2 ds j ys)) b off cap b9 hN (0,0) (fun x y=>b9.getD (off+x*k+y) undef) j7 (c7 b [] ud j4) (by omega) (by omega) o7
       (fun x y d eb=>by obtain⟨u,h1,_⟩:=eW x y d eb;rw[h1];simp[er,h1])
       (fun x y d eb=>by obtain⟨u,h1,U⟩:=eW x y d eb;have:b9.getD (off+x*k+y) undef=u:=(by simp[er,h1]);grind)
      grind
     have ei:∀l v,Sat w ω τ l v->Sat (w.setRow b b9) a7 τ (u6 t ms k (es.set i (j2 ds j ys)) l) v:=by
      intro l v c6;have at8:∀s,¬(ms.at s).isSome=true->ms.at s=none:=fun s h=>by
       cases e:ms.at s with
       | none=>rfl
       | some p=>simp[e]at h
      cases l with
      | cj=>exact trivial
      | v x=>exact c6
      | a' c=>exact c6
      | ptr id o=>
       obtain⟨c,al,e⟩:=c6;exact⟨c,Cj.2 al,e⟩
      | aO s a fQ dq dx m=>
       simp only[u6];split
       ·exact trivial
       rename_i h1;split
       ·exact trivial
       rename_i U;obtain⟨u,hu,l2,hm⟩:=c6;have jf:∀c q,ω c=.tok s q->a7 c=.tok s q/\(w.setRow b b9).heap[c]?=w.heap[c]?:=fun c q ez=>
        hX (.own s) c q (by grind) (by simp) (fun r6 h=>by
         grind) ez
       refine⟨u,hu,l2.frame fun c q _ ez=>jf c _ ez,fun mL=>?_⟩;obtain⟨kT,c,ph,X0,oH,jx,jJ,Fh,eE,a2,a3,a4⟩:=hm mL;obtain⟨e1,e2⟩:=jf c [] a2;exact⟨kT,c,ph,X0,oH,jx,jJ,Fh,eE,e1,e2.trans a3,a4⟩
      | eX=>exact trivial
      | fR f ids=>
       obtain⟨bs,e,a8,hi⟩:=c6;refine⟨bs,e,a8,fun i id gh=>?_⟩;obtain⟨b,h1,U⟩:=hi i id gh;exact⟨b,h1,Cj.2 U⟩
      | ha q0 o=>
       obtain⟨c,e,et⟩:=c6;exact⟨c,e,et.frame fun c q _ ez=>hX .free c q (by simp) (by simp) (fun s h=>by grind) ez⟩
      | fd d=>
       exact bQ.frame c6 fun c q _ ez=>hX .free c q (by simp) (by simp) (fun s h=>by grind) ez
      | c' t2 b8 bL=>exact⟨c6.1.frame fun c q _ ez=>hX .free c q (by simp) (by simp) (fun s h=>by grind) ez,c6.2⟩
      | J g b8 bL=>
       cases g with
       | free=>exact⟨c6.1.frame fun c q _ ez=>hX .free c q (by simp) (by simp) (fun s h=>by grind) ez,aa⟩
       | own s=>
        simp only[u6];split
        ·rename_i Gf;subst Gf;have U:=c6.2;simp only[Tag.dJ]at U;rw[bH]at U;simp only[bq]at U;rw[<-U.2];exact⟨Xe,bH⟩
        split
        ·exact trivial
        rename_i h1 U;exact⟨c6.1.frame fun c q _ ez=>hX (.own s) c q (by grind) (by simp) (fun r6 h=>by
         grind) ez,c6.2⟩
       | ro s=>
        simp only[u6];split
        ·exact trivial
        split
        ·exact trivial
        rename_i h1 U;exact⟨c6.1.frame fun c q _ ez=>hX (.ro s) c q (by simp) (by grind) (fun r6 h=>by
         grind) ez,aa⟩
      | cB g b8 bL i2 ux=>
       obtain⟨fQ,ph,oH,e,lZ,l2,mL⟩:=c6;cases g with
       | free=>exact⟨fQ,ph,oH,e,lZ,l2.frame fun c q _ ez=>hX .free c q (by simp) (by simp) (fun s h=>by grind) ez,aa⟩
       | own s=>
        simp only[u6];split
        ·rename_i Gf;subst Gf;simp only[Tag.dJ]at mL;rw[bH]at mL;simp only[bq,Value.slice.injEq,aS,Addr.mk.injEq]at mL;obtain⟨rfl,⟨rfl,rfl,_⟩,cR,rfl⟩:=mL;refine⟨b,off,cap,e,by simp;omega,?_,?_⟩
         ·grind
         rw[gp];exact bH
        split
        ·exact trivial
        rename_i h1 U;exact⟨fQ,ph,oH,e,lZ,l2.frame fun c q _ ez=>hX (.own s) c q (by grind) (by simp) (fun r6 h=>by
         grind) ez,mL⟩
       | ro s=>
        simp only[u6];split
        ·exact trivial
        split
        ·exact trivial
        rename_i h1 U;exact⟨fQ,ph,oH,e,lZ,l2.frame fun c q _ ez=>hX (.ro s) c q (by simp) (by grind) (fun r6 h=>by
         grind) ez,aa⟩
     refine⟨w.setRow b b9,?_,a7,τ,aU.dT _ ei ?_ ?_ ?_ ?_⟩
     ·simp only[Instr.storeAt,Instr.sureAddr,Sem.run_bind,Sem.run_pure,Result.andThen_ok,storeVar,sizeOf,typeInfo,run_program,e2];grind
     ·exact aU.below.setRow um b9
     ·intro c ig;have:ω c≠.bt:=fun e=>ig (ajE.2 e)
      obtain⟨ax,jx,jJ,aJ⟩:=aU.owned c this;grind[setRow_other]
     ·intro id c ig;exact⟨Cj.2 ig,setRow_other w b c b9 fun e=>by grind⟩
     intro id c ig;exact Cj.1 ig
   cases h
  cases h
 cases h
end Go.Sx
namespace Go.Sx
open Go.RowKit
def kv(w:World)(d:D)(y:Value):Prop:=bQ w (fun _=>.bt) Tag.free.R d y
def tK(w:World):cz->Value->Prop
 | .one d,y=>kv w d y
 | .agg ds,y=>∃vs:Array Value,y=.agg vs/\vs.size=ds.length/\∀(i:Nat) (d:D),ds[i]?=some d->∃u,vs[i]?=some u/\kv w d u
def Cl(w:World)(fH:List cz)(vs:Array Value):Prop:=vs.size=fH.length/\∀(i:Nat) (ci:cz),fH[i]?=some ci->∃v,vs[i]?=some v/\tK w ci v
def kZ(w:World)(ω:Own)(r:Nat):cz->Value->Prop
 | .one d,y=>bQ w ω (Tag.own (100*r)).R d y
 | .agg ds,y=>∃vs:Array Value,y=.agg vs/\vs.size=ds.length/\∀(j:Nat) (d:D),ds[j]?=some d->∃u,vs[j]?=some u/\bQ w ω (Tag.own (100*r+j)).R d u
def lB(w:World)(ω:Own)(rs:List cz)(v:Value):Prop:=
 match rs with
 | [ci]=>kZ w ω 0 ci v
 | rs=>∃vs:Array Value,v=.tuple vs/\vs.size=rs.length/\∀(r:Nat) (ci:cz),rs[r]?=some ci->∃y,vs[r]?=some y/\kZ w ω r ci y
def vB(w0 w:World)(rs:List cz)(v:Value):Prop:=
 ∃ω:Own,(∀b,b<w0.heap.size->ω b=.bt)/\(∀b,ω b≠.bt->(∃t q,ω b=.tok t q)/\∃arr ty,w.heap[b]?=some (.cells arr ty (0,0)))/\lB w ω rs v
def hA(P:Program)(f:FuncId)(args rs:List cz):Prop:=
 ∀(w:World) (vs:Array Value),oE w->Cl w args vs->Calls P f vs w fun e aM=>∃v,e=.returned v/\fP w.heap.size w aM/\vB w aM rs v
def az.fI:az->Option D
 | .v x=>if x.oneCell' then some (.v x) else none
 | .a' c=>some (.v (.bool c))
 | .J _ k es=>some (.J k es)
 | .ha ds off=>if off=0 then some (.ptr ds) else none
 | .fd d=>some d
 | .c' _ k es=>some (.J k es)
 | .aO _ _ _ k es .here=>some (.J k es)
 | .aO _ _ _ k es .kL=>some (.J k es)
 | _=>none
abbrev kJ:=List (Nat×List az)
def vE(bs:kJ)(id:Nat):Option D:=(df id bs).bind fun ls=>(ls.mapM az.fI).map .ptr
def az.jb(bs:kJ):az->Option D
 | .ptr id off=>if off=0 then vE bs id else none
 | .fR g ids=>(ids.mapM (vE bs)).map (.cl g)
 | l=>l.fI
def bm.jb(bs:kJ):bm->Option cz
 | .one l=>(l.jb bs).map .one
 | .agg ls=>(ls.mapM (az.jb bs)).map .agg
def aE.jb(bs:kJ):aE->Option cz
 | .aF a=>a.jb bs
 | _=>none
variable{w:World}{ω:Own}{d:D}{y:Value}
theorem bQ.free{R:List (Nat×Nat)->c0->Prop}(h:bQ w ω R d y):kv w d y:=
 h.frame fun _ _ _ _=>⟨rfl,rfl⟩
variable{τ:Nat->Nat×Value}
theorem az.Mo{l:az}(h:l.fI=some d)(ai:Sat w ω τ l y):kv w d y:=by
 cases l with
 | cj=>cases h
 | v x=>
  simp only[az.fI]at h;split at h
  ·simp only[aS]at h;subst h;have:y=x:=ai;subst this;exact .v _ _ ‹_›
  cases h
 | a' c=>
  simp only[az.fI,aS]at h;subst h;have:y=.bool c:=ai;subst this;exact .v _ _ rfl
 | J t k es=>simp only[az.fI,aS]at h;subst h;exact ai.1.free
 | ptr=>cases h
 | cB=>cases h
 | fR=>cases h
 | eX=>cases h
 | ha ds off=>
  simp only[az.fI]at h;split at h
  ·rename_i aZ;subst aZ;simp only[aS]at h;subst h;obtain⟨b,rfl,aH⟩:=ai;exact aH.free
  cases h
 | fd dn=>simp only[az.fI,aS]at h;subst h;exact bQ.free ai
 | c' t k es=>simp only[az.fI,aS]at h;subst h;exact bQ.free ai.1
 | aO t i j k es m=>
  obtain⟨u,hu,aH,_⟩:=ai;cases m with
  | at_ x z=>cases h
  | here=>simp only[az.fI,aS]at h;subst h;have:y=u:=hu;subst this;exact aH.free
  | kL=>simp only[az.fI,aS]at h;subst h;have:y=u:=hu;subst this;exact aH.free
def u7(w:World)(ω:Own)(τ:Nat->Nat×Value)(bs:kJ):Prop:=∀id ls,df id bs=some ls->sd w ω τ id ls
variable{bs:kJ}
theorem O5(aw:u7 w ω τ bs){id b:Nat}(h:vE bs id=some d)(aZ:ω b=.box id):kv w d (ptrTo b):=by
 unfold vE at h;cases e:df id bs with
 | none=>simp[e]at h
 | some ls=>
  simp only[e,ox,bX]at h;obtain⟨ds,h1,rfl⟩:=h;obtain⟨da,arr,ty,eh,hu,bH,ai⟩:=aw id ls e;have:=hu b aZ;subst this;obtain⟨U,ax⟩:=l' h1;have cell:∀j d,ds[j]?=some d->arr[j]?=some (arr.getD j undef)/\kv w d (arr.getD j undef):=by
   intro j d aG;obtain⟨l,ap,cR⟩:=ax j d aG;obtain⟨u,gv,fc⟩:=ai.2 j l ap;have e2:arr.getD j undef=u:=by simp[er,gv]
   rw[e2];exact⟨gv,az.Mo cR fc⟩
  exact bQ.ptr _ ds b arr ty (0,0) (fun j=>arr.getD j undef) bH rfl (by have:=ai.1;omega) (fun j d aG=>(cell j d aG).1) (fun j d aG=>(cell j d aG).2.frame fun _ _ _ _=>⟨rfl,rfl⟩)
theorem az.vD(aw:u7 w ω τ bs){l:az}(h:l.jb bs=some d)(ai:Sat w ω τ l y):kv w d y:=by
 unfold az.jb at h;split at h
 ·rename_i id off;split at h
  ·rename_i aZ;subst aZ;obtain⟨b,h1,rfl⟩:=ai;exact O5 aw h h1
  cases h
 ·rename_i g ids;rw[bX]at h;obtain⟨ds,h1,rfl⟩:=h;obtain⟨mB,rfl,a8,hi⟩:=ai;obtain⟨U,ax⟩:=l' h1;have cell:∀j d,ds[j]?=some d->(mB.map ptrTo).toArray[j]?=some ((mB.map ptrTo).toArray.getD j undef)/\kv w d ((mB.map ptrTo).toArray.getD j undef):=by
   intro j d aG;obtain⟨id,gh,FG⟩:=ax j d aG;obtain⟨b,gG,gH⟩:=hi j id gh;have e1:(mB.map ptrTo).toArray[j]?=some (ptrTo b):=by simp[gG]
   have e2:(mB.map ptrTo).toArray.getD j undef=ptrTo b:=by rw[er,e1];rfl
   rw[e2];exact⟨e1,O5 aw FG gH⟩
  exact bQ.cl _ g ds _ (fun j=>(mB.map ptrTo).toArray.getD j undef) (by simp;omega) (fun j d aG=>(cell j d aG).1) (fun j d aG=>(cell j d aG).2.frame fun _ _ _ _=>⟨rfl,rfl⟩)
 exact az.Mo h ai
theorem aE.vD(aw:u7 w ω τ bs){p:aE}{ci:cz}(h:p.jb bs=some ci)(ai:cE (Sat w ω τ) p y):tK w ci y:=by
 cases p with
 | fv as=>cases h
 | aF a=>
  cases a with
  | one l=>
   simp only[aE.jb,bm.jb,bX]at h;obtain⟨d,h1,rfl⟩:=h;exact az.vD aw h1 ai
  | agg ls=>
   simp only[aE.jb,bm.jb,bX]at h;obtain⟨ds,h1,rfl⟩:=h;obtain⟨U,ax⟩:=l' h1;obtain⟨vs,rfl,a8,bz⟩:=ai;refine⟨vs,rfl,by omega,fun i d aG=>?_⟩;obtain⟨l,ap,cR⟩:=ax i d aG;obtain⟨u,hu,fc⟩:=bz i l ap;exact⟨u,hu,az.vD aw cR fc⟩
def iv(P:Program)(g:FuncId):Bool:=
 match P.funcs[g]? with
 | some fn => !(fn.name == "runtime.NumGoroutine") && !fn.body.isNone
 | none=>false
def D.oi(t:Nat):D->az
 | .v (.bool c)=>.a' c
 | .v x=>.v x
 | .J k es=>.J (.own t) k es
 | .ptr _=>.cj
 | .cl _ _=>.cj
def ma(t:Nat):Nat->List D->List az
 | _,[]=>[]
 | j,d::ds=>d.oi (t+j)::ma t (j+1) ds
theorem y9(t:Nat):∀(ds:List D) (j i:Nat),(ma t j ds)[i]?=(ds[i]?).map (D.oi (t+(j+i)))
 | [],_,_=>by simp[ma]
 | d::ds,j,0=>by simp[ma]
 | d::ds,j,i+1=>by
  simp only[ma,nD,y9 t ds (j+1) i];rw[show j+1+i=j+(i+1) by omega]
theorem wz(t:Nat):∀(ds:List D) (j:Nat),(ma t j ds).length=ds.length
 | [],_=>rfl
 | d::ds,j=>by simp[ma,wz t ds (j+1)]
def cz.res(t:Nat):cz->bm
 | .one d=>.one (d.oi t)
 | .agg ds=>.agg (ma t 0 ds)
def pv(t:Nat):Nat->List cz->List bm
 | _,[]=>[]
 | r,a::as=>a.res (t+100*r)::pv t (r+1) as
theorem Cm(t:Nat):∀(as:List cz) (r i:Nat),(pv t r as)[i]?=(as[i]?).map (cz.res (t+100*(r+i)))
 | [],_,_=>by simp[pv]
 | d::ds,j,0=>by simp[pv]
 | d::ds,j,i+1=>by
  simp only[pv,nD,Cm t ds (j+1) i];rw[show j+1+i=j+(i+1) by omega]
theorem C3(t:Nat):∀(as:List cz) (r:Nat),(pv t r as).length=as.length
 | [],_=>rfl
 | d::ds,j=>by simp[pv,C3 t ds (j+1)]
def r4(t:Nat):List cz->aE
 | [a]=>.aF (a.res t)
 | as=>.fv (pv t 0 as)
def sW(rs:List cz):Bool:=rs.length<100&&rs.all fun | .one _=>true | .agg ds=>ds.length<100
def fL(t:Nat):Tag->Option Tag
 | .free=>some .free
 | .own s=>if t<=s/\s<t+10000 then some .free else some (.own s)
 | .ro s=>if t<=s/\s<t+10000 then some .free else some (.ro s)
def ng(t:Nat):c0->c0
 | .tok s q=>if t<=s/\s<t+10000 then .bt else .tok s q
 | o=>o
def O6(t:Nat):c0->c0
 | .tok s q=>.tok (t+s) q
 | _=>.bt
def cz.cell(j:Nat):cz->Option D
 | .one d=>if j=0 then some d else none
 | .agg ds=>ds[j]?
def oV(rs:List cz)(n:Nat):Nat:=
 match (rs[n / 100]?).bind (cz.cell (n % 100)) with
 | some (.J k _)=>k
 | _=>0
def lY(rs:List cz)(v:Value)(n:Nat):Value:=
 match rs with
 | [_]=>v.cells.getD (n % 100) undef
 | _=>match v with
  | .tuple vs=>(vs.getD (n / 100) undef).cells.getD (n % 100) undef
  | _=>undef
def aD.tW(st:aD)(t:Nat):aD:=st.map (az.ct (fL t) fun _=>true)
theorem cr.called{w0:ee}{st:aD}{a:Act}{aM:World}(aU:cr w0 st a w ω τ)(t:Nat){rs:List cz}{v:Value}
  (dX:sW rs=true) (hZ:t+10000<=cX) (aw:fP w.heap.size w aM) (eG:vB w aM rs v):
  ∃a7 cI,cr w0 (st.tW t) a aM a7 cI/\cE (Sat aM a7 cI) (r4 t rs) v:=by
 obtain⟨eS,kQ,ko,j6⟩:=eG
 let a7:Own:=fun b=>if b<w.heap.size then ng t (ω b) else O6 t (eS b)
 let cI:Nat->Nat×Value:=fun s=>if t<=s/\s<t+10000 then (oV rs (s-t),lY rs v (s-t)) else τ s
 have hold:∀b,b<w.heap.size->a7 b=ng t (ω b):=fun b aw=>by simp only[a7];rw[bM aw]
 have fT:∀b,¬b<w.heap.size->a7 b=O6 t (eS b):=fun b aw=>by simp only[a7];rw[bG aw]
 have bh:kK w ω τ aM a7 cI (fL t) (fun _=>true):=by
  refine⟨?_,?_,?_,rfl,fun s ai=>by simp only[cI];rw[bG (by omega)]⟩
  ·intro g dW b q av bJ aK;refine⟨?_,aw.block b bJ⟩;rw[hold b bJ];cases g with
   | free=>simp only[fL,aS]at av;subst av;simp only[Tag.R]at aK ⊢;rw[aK];rfl
   | own s=>
    simp only[Tag.R]at aK;simp only[fL]at av;rw[aK];simp only[ng];split at av
    ·simp only[aS]at av;subst av;rw[bM ‹_›];rfl
    simp only[aS]at av;subst av;rw[bG ‹_›];rfl
   | ro s=>
    simp only[Tag.R]at aK;simp only[fL]at av;split at av
    ·simp only[aS]at av;subst av;rcases aK with h | ⟨dE,h⟩
     ·rw[h];rfl
     rw[h];simp only[ng];rw[bM ‹_›];rfl
    simp only[aS]at av;subst av;rcases aK with h | ⟨dE,h⟩
    ·rw[h];exact .inl rfl
    rw[h];simp only[ng];rw[bG ‹_›];exact .inr ⟨dE,rfl⟩
  ·intro g dW y av bD;cases g with
   | free=>simp only[fL,aS]at av;subst av;exact trivial
   | own s=>
    simp only[fL]at av;split at av
    ·simp only[aS]at av;subst av;exact trivial
    simp only[aS]at av;subst av;simp only[Tag.dJ,cI]at bD ⊢;rw[bG ‹_›];exact bD
   | ro s=>
    simp only[fL]at av;split at av
    ·simp only[aS]at av;subst av;exact trivial
    simp only[aS]at av;subst av;exact trivial
  intro id b _ cY;have bJ:=aU.owned.lt (b:=b) (by simp[cY]);rw[hold b bJ,cY];rfl
 have cell:∀(n:Nat) (d:D) (u:Value),n<10000->lY rs v n=u->(∀k es,d=.J k es->oV rs n=k)->bQ aM eS (Tag.own n).R d u->Sat aM a7 cI (d.oi (t+n)) u:=by
  intro n d u a8 bz hk aH;cases d with
  | v x=>
   have e:u=x:=by cases aH;rfl
   subst e;unfold D.oi;split
   ·rename_i h;cases h;exact rfl
   ·rename_i h;cases h;exact rfl
   ·rename_i h;cases h
   ·exact trivial
   exact trivial
  | ptr ds=>exact trivial
  | cl g br=>exact trivial
  | J k es=>
   refine⟨aH.frame fun b q bJ aK=>⟨?_,rfl⟩,?_⟩
   ·simp only[Tag.R]at aK ⊢;have:¬b<w.heap.size:=fun h=>by have:=kQ b h;rw[this]at aK;cases aK
    rw[fT b this,aK];rfl
   simp only[Tag.dJ,cI];rw[bM (by omega),show t+n-t=n by omega,bz,hk k es rfl]
 have sl:∀(r:Nat) (ci:cz) (y:Value),r<100->(∀ds,ci=.agg ds->ds.length<100)->rs[r]?=some ci->(∀j,j<100->lY rs v (100*r+j)=y.cells.getD j undef)->kZ aM eS r ci y->ju (Sat aM a7 cI) (ci.res (t+100*r)) y:=by
  intro r ci y aH ey yu bz nT;have gu:∀j,j<100->oV rs (100*r+j)=(match cz.cell j ci with | some (.J k _)=>k | _=>0):=by
   intro j bg;unfold oV;rw[show (100*r+j) / 100=r by omega,show (100*r+j) % 100=j by omega,yu];rfl
  cases ci with
  | one d=>
   have h1:=nT.oa;have U:=bz 0 (by omega);rw[y5 h1]at U;have:=cell (100*r) d y (by omega) (by simpa using U) (fun k es e=>by
    have:=gu 0 (by omega);rw[mq]at this;rw[this,e];rfl) nT
   exact this
  | agg ds=>
   obtain⟨vs,rfl,a8,bg⟩:=nT;refine⟨vs,rfl,by rw[wz];exact a8,fun j l ap=>?_⟩;rw[y9,bX]at ap;obtain⟨d,aG,rfl⟩:=ap;obtain⟨u,hu,yv⟩:=bg j d aG;have jQ:j<100:=by
    have:=(fy.1 aG).1;have:=ey ds rfl;omega
   refine⟨u,hu,?_⟩;have:=cell (100*r+j) d u (by omega) (by rw[bz j jQ];simp[Value.cells,er,hu]) (fun k es e=>by
    rw[gu j jQ];simp only[cz.cell,aG,e]) yv
   rw[show t+100*r+(0+j)=t+(100*r+j) by omega];exact this
 simp only[sW,cF,cW]at dX;have ey:∀(r:Nat) (ci:cz),rs[r]?=some ci->∀ds,ci=.agg ds->ds.length<100:=by
  intro r ci aH ds e;have:=fx.1 dX.2 ci (fl aH);subst e;simpa using this
 refine⟨a7,cI,aU.dT _ bh.sat (aU.below.next aw) ?_ ?_ ?_ (fun s ai=>by simp only[cI];rw[bG (by omega)]),?_⟩
 ·intro b fr;by_cases bJ:b<w.heap.size
  ·rw[hold b bJ]at fr;have U:ω b≠.bt:=fun e=>by rw[e]at fr;exact fr rfl
   obtain⟨ax,arr,ty,aJ⟩:=aU.owned b U;exact⟨ax,arr,ty,(aw.block b bJ).trans aJ⟩
  rw[fT b bJ]at fr;have U:eS b≠.bt:=fun e=>by rw[e]at fr;exact fr rfl
  obtain⟨_,arr,ty,aJ⟩:=ko b U;exact⟨.inl (by have:=aU.below.size;omega),arr,ty,aJ⟩
 ·intro id b cY;have bJ:=aU.owned.lt (b:=b) (by simp[cY]);exact⟨bh.box id b rfl cY,aw.block b bJ⟩
 ·intro id b cY;by_cases bJ:b<w.heap.size
  ·rw[hold b bJ]at cY;cases e:ω b with
   | bt=>rw[e]at cY;cases cY
   | box i=>rw[e]at cY;exact cY
   | tok s q=>rw[e]at cY;simp only[ng]at cY;split at cY<;>cases cY
  ·rw[fT b bJ]at cY;cases e:eS b<;>(rw[e]at cY;cases cY)
 cases rs with
 | nil=>
  obtain⟨vs,rfl,a8,_⟩:=j6;exact⟨vs,rfl,a8,fun i a ah=>by simp[pv]at ah⟩
 | cons ci rest=>
  cases rest with
  | nil=>
   have:=sl 0 ci v (by omega) (ey 0 ci rfl) rfl (fun j bg=>by
    unfold lY;simp only[Nat.mul_zero,dF];rw[EO bg]) j6
   exact this
  | cons Mn rest=>
   obtain⟨vs,rfl,a8,bz⟩:=j6;refine⟨vs,rfl,by rw[C3];exact a8,fun i a ah=>?_⟩;rw[Cm,bX]at ah;obtain⟨mz,h1,rfl⟩:=ah;obtain⟨y,bD,ye⟩:=bz i mz h1;have iK:i<100:=by
    have:=(fy.1 h1).1;omega
   refine⟨y,bD,?_⟩;have:=sl i mz y iK (ey i mz h1) h1 (fun j bg=>by
    unfold lY;simp only;rw[show (100*i+j) / 100=i by omega,show (100*i+j) % 100=j by omega];simp[er,bD]) ye
   rw[dF];exact this
end Go.Sx
namespace Go.Sx
open Go.RowKit
inductive eC where
 | ro (d:D)
 | eV (k:Nat) (es:List (List D)) (post:Option (List (List D)))
inductive GA where
 | one (c:eC)
 | agg (cs:List eC)
def e4(i j:Nat):Nat:=cX+(100*i+j)
def GA.cell(j:Nat):GA->Option eC
 | .one c=>if j=0 then some c else none
 | .agg cs=>cs[j]?
def cellOf(v:Value)(j:Nat):Value:=v.cells.getD j undef
def tM(w:World)(ω:Own)(t:Nat):eC->Value->Prop
 | .ro d,y=>bQ w ω Tag.free.R d y
 | .eV k es _,y=>bQ w ω (Tag.own t).R (.J k es) y
def Mg(w:World)(ω:Own)(i:Nat):GA->Value->Prop
 | .one c,y=>tM w ω (e4 i 0) c y
 | .agg cs,y=>∃vs:Array Value,y=.agg vs/\vs.size=cs.length/\∀(j:Nat) (c:eC),cs[j]?=some c->∃u,vs[j]?=some u/\tM w ω (e4 i j) c u
def EV(w:World)(ω:Own):Prop:=∀b,ω b≠.bt->(∃t q,ω b=.tok t q/\cX<=t)/\∃arr ty,w.heap[b]?=some (.cells arr ty (0,0))
def EU(w:World)(ω:Own)(args:List GA)(vs:Array Value):Prop:=EV w ω/\vs.size=args.length/\∀(i:Nat) (eF:GA),args[i]?=some eF->∃v,vs[i]?=some v/\Mg w ω i eF v
def Kept(w:World)(ω:Own)(args:List GA)(vs:Array Value):Prop:=
 ∀(i j:Nat) (eF:GA) (k:Nat) (es ck:List (List D)),args[i]?=some eF->eF.cell j=some (.eV k es (some ck))->bQ w ω (Tag.own (e4 i j)).R (.J k ck) (cellOf (vs.getD i undef) j)
def kj(P:Program)(f:FuncId)(args:List GA)(rs:List cz):Prop:=
 ∀(w:World) (vs:Array Value) (ω:Own),EU w ω args vs->Tidy w ω->Calls P f vs w fun e aM=>∃v,e=.returned v/\fO ⟨w,fun b=>ω b≠.bt,fun _=>(0,undef)⟩ aM/\
  ∃a7:Own,(∀b,b<w.heap.size->ω b=.bt->a7 b=.bt)/\(∀b,a7 b≠.bt->(∃t q,a7 b=.tok t q)/\∃arr ty,aM.heap[b]?=some (.cells arr ty (0,0)))/\Kept aM a7 args vs/\lB aM a7 rs v
structure c8 where
 i:Nat
 j:Nat
 t:Nat
 p:Option (Nat×Nat)
 k:Nat
 es:List (List D)
 post:Option (List (List D))
abbrev oD:=Option (Option (List (List D)))
def vG(bs:kJ)(i j:Nat):oD->az->Option (eC×List c8×List az)
 | none,l=>(l.jb bs).map fun d=>(.ro d,[],[l])
 | some post,.J (.own t) k es=>some (.eV k es post,[⟨i,j,t,none,k,es,post⟩],[])
 | some post,.aO t a b k es .here=>some (.eV k es post,[⟨i,j,t,some (a,b),k,es,post⟩],[])
 | _,_=>none
def oe(bs:kJ)(i:Nat):Nat->List oD->List az->Option (List eC×List c8×List az)
 | _,[],[]=>some ([],[],[])
 | j,m::ms,l::ls=>
  match vG bs i j m l,oe bs i (j+1) ms ls with
  | some (c,h,r),some (cs,ai,rs)=>some (c::cs,h++ai,r++rs)
  | _,_=>none
 | _,_,_=>none
def xL(bs:kJ)(i:Nat)(ms:List oD):aE->Option (GA×List c8×List az)
 | .aF (.one l)=>match ms with | [m]=>(vG bs i 0 m l).map fun r=>(.one r.1,r.2) | _=>none
 | .aF (.agg ls)=>(oe bs i 0 ms ls).map fun r=>(.agg r.1,r.2)
 | _=>none
def tU(bs:kJ):Nat->List (List oD)->List aE->Option (List GA×List c8×List az)
 | _,[],[]=>some ([],[],[])
 | i,ms::Hb,p::cn=>
  match xL bs i ms p,tU bs (i+1) Hb cn with
  | some (a,h,r),some (as,ai,rs)=>some (a::as,h++ai,r++rs)
  | _,_=>none
 | _,_,_=>none
def qG(ai:List c8)(t:Nat):Bool:=ai.any fun h=>h.t==t
def Tag.l5(ai:List c8):Tag->Bool
 | .free=>false
 | .own t=>qG ai t
 | .ro t=>qG ai t
def az.n4(ai:List c8):az->Bool
 | .J t _ _=>t.l5 ai
 | .cB t _ _ _ _=>t.l5 ai
 | .aO t _ _ _ _ _=>qG ai t
 | .eX _ _=>true
 | _=>false
def az.l5(bs:kJ)(ai:List c8):az->Bool
 | .ptr id _=>match df id bs with | some ls=>ls.any (az.n4 ai) | none=>true
 | .fR _ ids=>ids.any fun id=>match df id bs with | some ls=>ls.any (az.n4 ai) | none=>true
 | l=>l.n4 ai
def c8.apart(h y:c8):Bool:=
 (h.i != y.i||h.j != y.j)&&(h.t != y.t||match h.p,y.p with | some p,some q=>p.2 != q.2 | _,_=>false)
def nh:List c8->Bool
 | []=>true
 | h::r=>decide (h.j<100)&&(r.all (c8.apart h)&&nh r)
theorem O7:∀{ai:List c8},nh ai=true->∀h∈ai,∀y∈ai,h=y\/(c8.apart h y=true\/c8.apart y h=true)
 | [],_,h,bH,_,_=>by cases bH
 | x::r,hk,h,bH,y,bD=>by
  simp only[nh,cF,fx]at hk;rcases ep.1 bH with e1 | M0
  ·rcases ep.1 bD with e2 | Gl
   ·exact .inl (e1.trans e2.symm)
   rw[e1];exact .inr (.inl (hk.2.1 y Gl))
  rcases ep.1 bD with e2 | Gl
  ·rw[e2];exact .inr (.inr (hk.2.1 h M0))
  exact O7 hk.2.2 h M0 y Gl
theorem O8:∀{ai:List c8},nh ai=true->∀h∈ai,h.j<100
 | [],_,h,bH=>by cases bH
 | x::r,hk,h,bH=>by
  simp only[nh,cF,cW]at hk;rcases ep.1 bH with rfl | bH
  ·exact hk.1
  exact O8 hk.2.2 h bH
def c8.fit(h:c8)(t:Nat)(q:List (Nat×Nat)):Option (List (Nat×Nat)):=
 if h.t=t then
  match h.p,q with
  | none,q=>some q
  | some p,x::dE=>if x=p then some dE else none
  | some _,[]=>none
 else none
def lR(t:Nat)(q:List (Nat×Nat)):List c8->Option (Nat×List (Nat×Nat))
 | []=>none
 | h::r=>match h.fit t q with | some dE=>some (e4 h.i h.j,dE) | none=>lR t q r
variable{h:c8}{t:Nat}{q:List (Nat×Nat)}
theorem ajG{y:c8}{q1 l7:List (Nat×Nat)}(h1:h.fit t q=some q1)(U:y.fit t q=some l7):c8.apart h y=false:=by
 unfold c8.fit at h1 U;split at h1
 ·rename_i e1;split at U
  ·rename_i e2;have cb:(h.t != y.t)=false:=by simp[e1,e2]
   simp only[c8.apart,cb,jr,Bool.and_eq_false_imp];intro _;split at h1
   ·rename_i hp;rw[hp]
   ·rename_i p x dE hp;split at h1
    ·rename_i ak;split at U
     ·rename_i rj;rw[hp,rj]
     ·rename_i Yd kf auG rj heq;split at U
      ·rename_i jh;rw[hp,rj];simp only[qN]at heq;obtain⟨rfl,_⟩:=heq;subst ak;subst jh;simp
      cases U
     cases U
    cases h1
   cases h1
  cases U
 cases h1
theorem Ht{t:Nat}{q dE:List (Nat×Nat)}:∀{ai:List c8},nh ai=true->∀{h:c8},h∈ai->h.fit t q=some dE->lR t q ai=some (e4 h.i h.j,dE)
 | [],_,h,bH,_=>by cases bH
 | x::r,hk,h,bH,b0=>by
  have FW:=hk;simp only[nh,cF,fx]at hk;simp only[lR];rcases ep.1 bH with rfl | bH
  ·rw[b0]
  cases e:x.fit t q with
  | none=>exact Ht hk.2.2 bH b0
  | some l7=>
   have:=ajG e b0;rw[hk.2.1 h bH]at this;cases this
theorem y'{g:Nat}{dE:List (Nat×Nat)}:∀{ai:List c8},lR t q ai=some (g,dE)->∃h∈ai,h.fit t q=some dE/\g=e4 h.i h.j
 | [],h=>by cases h
 | x::r,h=>by
  simp only[lR]at h;split at h
  ·rename_i l7 e;simp only[aS,bq]at h;obtain⟨rfl,rfl⟩:=h;exact⟨x,j1,e,rfl⟩
  obtain⟨y,bD,U⟩:=y' h;exact⟨y,hQ _ bD,U⟩
theorem O9{dE:List (Nat×Nat)}(e:h.fit t q=some dE):h.t=t/\q=h.p.toList++dE:=by
 unfold c8.fit at e;split at e
 ·rename_i e1;refine⟨e1,?_⟩;split at e
  ·rename_i hp;simp only[aS]at e;rw[hp,e];rfl
  ·rename_i p x l7 hp;split at e
   ·rename_i ak;simp only[aS]at e;rw[hp,ak,e];rfl
   cases e
  cases e
 cases e
theorem O'(h:c8)(q:List (Nat×Nat)):h.fit h.t (h.p.toList++q)=some q:=by
 unfold c8.fit;rw[bM rfl];cases h.p with
 | none=>rfl
 | some p=>simp
def fj(ai:List c8)(ω:Own):Own:=fun b=>
 match ω b with
 | .tok t q=>match lR t q ai with | some (g,dE)=>.tok g dE | none=>.bt
 | _=>.bt
def Bf(g:Nat):List c8->Option c8
 | []=>none
 | h::r=>if e4 h.i h.j=g then some h else Bf g r
theorem Pb:∀{ai:List c8},nh ai=true->∀{h:c8},h∈ai->Bf (e4 h.i h.j) ai=some h
 | [],_,h,bH=>by cases bH
 | x::r,hk,h,bH=>by
  have bg:=O8 hk;have FW:=hk;simp only[nh,cF,fx]at hk;simp only[Bf];rcases ep.1 bH with rfl | rc
  ·rw[bM rfl]
  rw[bG]
  ·exact Pb hk.2.2 rc
  intro e;have h1:=bg x j1;have U:=bg h (hQ _ rc);have ax:=hk.2.1 h rc;simp only[c8.apart,cF,pS,bne_iff_ne,mr]at ax;simp only[e4]at e;omega
def za(ai:List c8)(t0:Nat):c0->c0
 | .tok s q=>if cX<=s then (match Bf s ai with | some h=>.tok h.t (h.p.toList++q) | none=>.bt) else .tok (t0+s) q
 | _=>.bt
def u9(t:Nat):List c8->Option c8
 | []=>none
 | h::r=>if h.t=t then some h else u9 t r
theorem Pc:∀{ai:List c8},u9 t ai=none->qG ai t=false
 | [],_=>rfl
 | h::r,e=>by
  simp only[u9]at e;split at e
  ·cases e
  rename_i c3;have:=Pc e;simp only[qG,A0,gn]at this ⊢;exact⟨by simpa using c3,this⟩
theorem Pd:∀{ai:List c8},u9 t ai=some h->h∈ai/\h.t=t
 | [],e=>by cases e
 | x::r,e=>by
  simp only[u9]at e;split at e
  ·simp only[aS]at e;subst e;exact⟨j1,‹_›⟩
  obtain⟨h1,U⟩:=Pd e;exact⟨hQ _ h1,U⟩
def lC:List c8->List D->List D
 | [],ds=>ds
 | h::r,ds=>match h.p,h.post with
  | some p,some es=>lC r (ds.set p.2 (.J h.k es))
  | _,_=>lC r ds
def qt(ai:List c8)(t0 gV mU:Nat)(oK:List (List D)):az->az
 | .J (.own t) k es=>
  match u9 t ai with
  | some h=>match h.p,h.post with
   | none,some ck=>.J (.own t) h.k ck
   | none,none=>.cj
   | some _,_=>if t=gV then .J (.own t) mU oK else .cj
  | none=>az.ct (fL t0) (fun _=>true) (.J (.own t) k es)
 | l=>if l.n4 ai then .cj else l.ct (fL t0) fun _=>true
end Go.Sx
namespace Go.Sx
open Go.RowKit
variable{ai:List c8}
theorem ajH{t:Nat}(h:qG ai t=false):∀y∈ai,y.t≠t:=by
 intro y bD e;simp only[qG,hd,jL]at h;exact h y bD e
theorem Hu{t:Nat}(h:qG ai t=false)(q:List (Nat×Nat)):lR t q ai=none:=by
 cases e:lR t q ai with
 | none=>rfl
 | some x=>
  obtain⟨g,dE⟩:=x;obtain⟨y,bD,b0,_⟩:=y' e;exact absurd (O9 b0).1 (ajH h y bD)
structure A4 (w:World) (ω:Own) (τ:Nat->Nat×Value) (h:c8) (u:Value):Prop where
 rep:bQ w ω (fun q o=>o=.tok h.t (h.p.toList++q)) (.J h.k h.es) u
 root:h.p=none->τ h.t=(h.k,u)
 cell:∀a b,h.p=some (a,b)->∃(kT cc off len cap:Nat) (arr:Array Value) (ty:TypeId) (cL:Nat×Nat),τ h.t=(kT,.slice (some ⟨cc,off,none⟩) len cap)/\ω cc=.tok h.t []/\w.heap[cc]?=some (.cells arr ty cL)/\arr[off+a*kT+b]?=some u
structure Mj (w:World) (ω:Own) (τ:Nat->Nat×Value) (ai:List c8) (gV mU:Nat) (oK:List (List D)):Prop where
 ex:∀h∈ai,∀p,h.p=some p->h.t=gV->∃(dx:List (List D)) (y:Value) (ds:List D) (a:Nat),Sat w ω τ (.J (.own gV) mU dx) y/\dx[a]?=some ds/\ds.length=mU/\oK=dx.set a (lC ai ds)/\
  ∀x∈ai,∀q,x.p=some q->x.t=gV/\q.1=a/\∃ck,x.post=some ck
theorem zb:∀(ai:List c8) (ds:List D),(lC ai ds).length=ds.length
 | [],_=>rfl
 | h::r,ds=>by
  simp only[lC];split
  ·rw[zb r,gp]
  exact zb r ds
theorem Hv{y:Nat}{d:D}:∀{ai:List c8} {ds:List D},(lC ai ds)[y]?=some d->(∃h∈ai,∃a ck,h.p=some (a,y)/\h.post=some ck/\d=.J h.k ck)\/ds[y]?=some d/\∀h∈ai,∀a ck,h.p=some (a,y)->h.post=some ck->False
 | [],ds,h=>.inr ⟨h,fun _ bH=>by cases bH⟩
 | h::r,ds,aG=>by
  simp only[lC]at aG;split at aG
  ·rename_i p ck e1 e2;rcases Hv aG with⟨x,ak,a,bL,h1,U,ax⟩ | ⟨h1,U⟩
   ·exact .inl ⟨x,hQ _ ak,a,bL,h1,U,ax⟩
   rw[nC]at h1;split at h1
   ·rename_i hp;split at h1
    ·simp only[aS]at h1;exact .inl ⟨h,j1,p.1,ck,by rw[e1,<-hp],e2,h1.symm⟩
    cases h1
   rename_i hp;refine .inr ⟨h1,fun x ak a bL ax aJ=>?_⟩;rcases ep.1 ak with rfl | ak
   ·rw[e1]at ax;simp only[aS]at ax;rw[ax]at hp;exact hp rfl
   exact U x ak a bL ax aJ
  rename_i c3;rcases Hv aG with⟨x,ak,a,bL,h1,U,ax⟩ | ⟨h1,U⟩
  ·exact .inl ⟨x,hQ _ ak,a,bL,h1,U,ax⟩
  refine .inr ⟨h1,fun x ak a bL ax aJ=>?_⟩;rcases ep.1 ak with rfl | ak
  ·exact c3 _ _ ax aJ
  exact U x ak a bL ax aJ
theorem cr.VH{w0:ee}{st:aD}{a:Act}{w aM:World}{ω:Own}{τ:Nat->Nat×Value}(aU:cr w0 st a w ω τ)(t0:Nat){rs:List cz}{v:Value}{H:Nat->Nat×Value}
  (cJ:nh ai=true) (dX:sW rs=true) (hZ:t0+10000<=cX) (Nj:∀h∈ai,¬(t0<=h.t/\h.t<t0+10000)) (aw:fO ⟨w,fun b=>fj ai ω b≠.bt,H⟩ aM) (eS:Own)
  (kQ:∀b,b<w.heap.size->fj ai ω b=.bt->eS b=.bt) (ko:∀b,eS b≠.bt->(∃t q,eS b=.tok t q)/\∃arr ty,aM.heap[b]?=some (.cells arr ty (0,0))) (j6:lB aM eS rs v)
  (vals:c8->Value) (FY:∀h∈ai,∀ck,h.post=some ck->bQ aM eS (Tag.own (e4 h.i h.j)).R (.J h.k ck) (vals h)) (gi:∀h∈ai,A4 w ω τ h (vals h))
  {gV mU:Nat} {oK:List (List D)} (ih:Mj w ω τ ai gV mU oK):
  ∃a7 cI,cr w0 (st.map (qt ai t0 gV mU oK)) a aM a7 cI/\cE (Sat aM a7 cI) (r4 t0 rs) v:=by
 classical
 let a7:Own:=fun b=>if b<w.heap.size/\fj ai ω b=.bt then ng t0 (ω b) else za ai t0 (eS b)
 let cI:Nat->Nat×Value:=fun s=>if t0<=s/\s<t0+10000 then (oV rs (s-t0),lY rs v (s-t0)) else τ s
 have hold:∀b,b<w.heap.size->fj ai ω b=.bt->a7 b=ng t0 (ω b):=fun b aw h=>by simp only[a7];rw[bM ⟨aw,h⟩]
 have fT:∀b,eS b≠.bt->a7 b=za ai t0 (eS b):=fun b aw=>by
  simp only[a7];rw[bG];rintro⟨h1,U⟩;exact aw (kQ b h1 U)
 have hblk:∀b,b<w.heap.size->fj ai ω b=.bt->aM.heap[b]?=w.heap[b]?:=fun b bJ h=>aw.block b bJ (fun a8=>a8 h)
 have oW:∀b,ω b=.bt->fj ai ω b=.bt:=fun b h=>by simp only[fj,h]
 have Wa:∀b id,ω b=.box id->fj ai ω b=.bt:=fun b id h=>by simp only[fj,h]
 have jg:∀b s q,ω b=.tok s q->lR s q ai=none->fj ai ω b=.bt:=fun b s q h U=>by simp only[fj,h,U]
 have ru:∀h∈ai,cI h.t=τ h.t:=fun h bH=>by simp only[cI];rw[bG (Nj h bH)]
 have fe:∀(g dW:Tag) (b:Nat) (q:List (Nat×Nat)),g.l5 ai=false->fL t0 g=some dW->b<w.heap.size->g.R q (ω b)->dW.R q (a7 b)/\aM.heap[b]?=w.heap[b]?:=by
  intro g dW b q hm av bJ aK;have hi:fj ai ω b=.bt:=by
   cases g with
   | free=>exact oW b aK
   | own s=>exact jg b s q aK (Hu hm q)
   | ro s=>
    rcases aK with h | ⟨dE,h⟩
    ·exact oW b h
    exact jg b s dE h (Hu hm dE)
  refine⟨?_,hblk b bJ hi⟩;rw[hold b bJ hi];cases g with
  | free=>simp only[fL,aS]at av;subst av;simp only[Tag.R]at aK ⊢;rw[aK];rfl
  | own s=>
   simp only[Tag.R]at aK;simp only[fL]at av;rw[aK];simp only[ng];split at av
   ·simp only[aS]at av;subst av;rw[bM ‹_›];rfl
   simp only[aS]at av;subst av;rw[bG ‹_›];rfl
  | ro s=>
   simp only[Tag.R]at aK;simp only[fL]at av;split at av
   ·simp only[aS]at av;subst av;rcases aK with h | ⟨dE,h⟩
    ·rw[h];rfl
    rw[h];simp only[ng];rw[bM ‹_›];rfl
   simp only[aS]at av;subst av;rcases aK with h | ⟨dE,h⟩
   ·rw[h];exact .inl rfl
   rw[h];simp only[ng];rw[bG ‹_›];exact .inr ⟨dE,rfl⟩
 have G6:∀(g dW:Tag) (y:Nat×Value),fL t0 g=some dW->g.dJ τ y->dW.dJ cI y:=by
  intro g dW y av bD;cases g with
  | free=>simp only[fL,aS]at av;subst av;exact trivial
  | own s=>
   simp only[fL]at av;split at av
   ·simp only[aS]at av;subst av;exact trivial
   simp only[aS]at av;subst av;simp only[Tag.dJ,cI]at bD ⊢;rw[bG ‹_›];exact bD
  | ro s=>
   simp only[fL]at av;split at av
   ·simp only[aS]at av;subst av;exact trivial
   simp only[aS]at av;subst av;exact trivial
 have wk:∀id b,ω b=.box id->a7 b=.box id/\aM.heap[b]?=w.heap[b]?:=by
  intro id b cY;have bJ:=aU.owned.lt (b:=b) (by simp[cY]);have hi:=Wa b id cY;exact⟨by rw[hold b bJ hi,cY];rfl,hblk b bJ hi⟩
 have NH:∀h∈ai,∀ck,h.post=some ck->bQ aM a7 (fun q o=>o=.tok h.t (h.p.toList++q)) (.J h.k ck) (vals h):=by
  intro h bH ck he;refine (FY h bH ck he).frame fun b q _ aK=>⟨?_,rfl⟩
  simp only[Tag.R]at aK;rw[fT b (by rw[aK];simp),aK];simp only[za];rw[bM (by simp[e4]),Pb cJ bH]
 have ei:∀l y,Sat w ω τ l y->Sat aM a7 cI (qt ai t0 gV mU oK l) y:=by
  intro l y c6;have plain:∀g k es,g.l5 ai=false->Sat w ω τ (.J g k es) y->Sat aM a7 cI (az.ct (fL t0) (fun _=>true) (.J g k es)) y:=by
   intro g k es hm n0;simp only[az.ct];cases av:fL t0 g with
   | none=>exact trivial
   | some dW=>exact⟨n0.1.frame fun b q bJ aK=>fe g dW b q hm av bJ aK,G6 g dW _ av n0.2⟩
  cases l with
  | cj=>exact trivial
  | v x=>exact c6
  | a' c=>exact c6
  | ptr id off=>
   obtain⟨b,h1,U⟩:=c6;exact⟨b,(wk id b h1).1,U⟩
  | fR f ids=>
   obtain⟨bs,e,a8,hi⟩:=c6;simp only[qt,az.n4,oy,lK,az.ct];split
   ·refine⟨bs,e,a8,fun i id gh=>?_⟩;obtain⟨b,h1,U⟩:=hi i id gh;exact⟨b,h1,(wk id b U).1⟩
   exact trivial
  | ha ds off=>
   obtain⟨b,e,aH⟩:=c6;exact⟨b,e,aH.frame fun b q bJ aK=>fe .free .free b q rfl rfl bJ aK⟩
  | fd d=>exact bQ.frame c6 fun b q bJ aK=>fe .free .free b q rfl rfl bJ aK
  | c' t k es=>exact⟨bQ.frame c6.1 fun b q bJ aK=>fe .free .free b q rfl rfl bJ aK,fun bU=>(show cI t=τ t by simp only[cI];rw[bG (by omega)]).trans (c6.2 bU)⟩
  | aO t i j k es m=>
   simp only[qt];by_cases hm:az.n4 ai (.aO t i j k es m)=true
   ·rw[bM hm];exact trivial
   rw[bG hm];simp only[tH]at hm;replace hm:qG ai t=false:=hm;simp only[az.ct];split
   ·rename_i c5 av;split
    ·rename_i bU;subst bU;obtain⟨hx,p7,h1,Xa⟩:=c6;refine⟨hx,p7,h1.frame fun c q al aK=>fe (.own c5) _ c _ hm av al aK,fun WL=>?_⟩;obtain⟨kT,b,off,len,cap,arr,ty,cL,U,aY,ax,aJ⟩:=Xa WL;have bJ:b<w.heap.size:=(iE.1 ax).1;have hk:=fe (.own c5) _ b [] hm av bJ aY;exact⟨kT,b,off,len,cap,arr,ty,cL,G6 _ _ _ av U,hk.1,hk.2.trans ax,aJ⟩
    exact trivial
   exact trivial
  | eX t vs=>
   simp only[qt,az.n4,gO];exact trivial
  | cB g k es i j=>
   simp only[qt];by_cases hm:az.n4 ai (.cB g k es i j)=true
   ·rw[bM hm];exact trivial
   rw[bG hm];simp only[tH]at hm;replace hm:g.l5 ai=false:=hm;obtain⟨b,off,cap,e,hi,aH,bH⟩:=c6;simp only[az.ct];cases av:fL t0 g with
   | none=>exact trivial
   | some dW=>exact⟨b,off,cap,e,hi,aH.frame fun b q bJ aK=>fe g dW b q hm av bJ aK,G6 g dW _ av bH⟩
  | J g k es=>
   cases g with
   | free=>exact plain .free k es rfl c6
   | ro s=>
    simp only[qt];by_cases hm:az.n4 ai (.J (.ro s) k es)=true
    ·rw[bM hm];exact trivial
    rw[bG hm];simp only[tH]at hm;exact plain (.ro s) k es hm c6
   | own s=>
    simp only[qt];cases b0:u9 s ai with
    | none=>exact plain (.own s) k es (Pc b0) c6
    | some h=>
     obtain⟨bH,rfl⟩:=Pd b0;simp only;have bz:=gi h bH;have dJ:τ h.t=(k,y):=c6.2;split
     ·
      rename_i ck hp he;have e1:=bz.root hp;rw[dJ]at e1;simp only[bq]at e1;obtain⟨rfl,e2⟩:=e1;have aH:=NH h bH ck he;rw[hp,<-e2]at aH;exact⟨aH,by simp only[Tag.dJ];rw[ru h bH,dJ]⟩
     ·exact trivial
     -- parts of it
     rename_i p hp;split
     ·rename_i sC;obtain⟨dx,D1,ds,a0,wc,ey,rb,rfl,hD⟩:=ih.ex h bH p hp sC;have FI:τ gV=(mU,D1):=wc.2;rw[<-sC,dJ]at FI;simp only[bq]at FI;obtain⟨rfl,rfl⟩:=FI;obtain⟨rl,_⟩:=wc;have hlen:(dx.set a0 (lC ai ds)).length=dx.length:=gp;have MJ:a0<dx.length:=(fy.1 ey).1;refine⟨?_,by simp only[Tag.dJ];rw[ru h bH,dJ]⟩;generalize bD:y=Mb at rl;cases rl with
      | nil=>simp at MJ
      | row R k dx cc off cap arr ty cL us FA dG Wk dN hk hu aG=>
       subst bD;have Bx:ω cc=.tok h.t []:=by rw[sC];exact dG
       have Na:∀x∈ai,x.fit gV []=none:=by
        intro x ak;unfold c8.fit;split
        ·rename_i ext;cases B0:x.p with
         | some q=>simp
         | none=>
          exfalso;have c3:c8.apart h x=true\/c8.apart x h=true\/h=x:=by
           rcases O7 cJ h bH x ak with e | e | e
           ·exact .inr (.inr e)
           ·exact .inl e
           exact .inr (.inl e)
          have vT:∀y z:c8,y.t=z.t->(y.p=none\/z.p=none)->c8.apart y z=true->False:=by
           intro y z e1 e2 cb;simp only[c8.apart,e1,cF,pS,bne_self_eq_false,oy,false_or]at cb;rcases e2 with e2 | e2
           ·simp[e2]at cb
           ·rw[e2]at cb;cases hyp:y.p<;>simp[hyp]at cb
          rcases c3 with e | e | e
          ·exact vT h x (by rw[ext,sC]) (.inr B0) e
          ·exact vT x h (by rw[ext,sC]) (.inl B0) e
          rw[<-e,hp]at B0;cases B0
        rfl
       have kp:lR gV [] ai=none:=by
        cases e:lR gV [] ai with
        | none=>rfl
        | some z=>
         obtain⟨g,dE⟩:=z;obtain⟨x,ak,Nx,_⟩:=y' e;rw[Na x ak]at Nx;cases Nx
       have V9:cc<w.heap.size:=(iE.1 FA).1;have atE:fj ai ω cc=.bt:=jg cc gV [] dG kp;have Xm:¬(t0<=gV/\gV<t0+10000):=by rw[<-sC];exact Nj h bH
       have Nd:∀b q,b<w.heap.size->ω b=.tok gV q->lR gV q ai=none->a7 b=.tok gV q/\aM.heap[b]?=w.heap[b]?:=by
        intro b q bJ aK a8;have hi:=jg b gV q aK a8;refine⟨?_,hblk b bJ hi⟩;rw[hold b bJ hi,aK];simp only[ng];rw[bG Xm]
       have Nc:∀x y d,cQ dx x y=some d->(∀z∈ai,z.p≠some (x,y))->bQ aM a7 (fun q=>(Tag.own gV).R ((x,y)::q)) d (us x y):=by
        intro x y d al bl;refine (aG x y d al).frame fun b q bJ aK=>?_
        refine Nd b _ bJ aK ?_;cases e:lR gV ((x,y)::q) ai with
        | none=>rfl
        | some r=>
         obtain⟨g,dE⟩:=r;obtain⟨z,yF,XQ,_⟩:=y' e;obtain⟨e1,e2⟩:=O9 XQ;exfalso;cases qa:z.p with
         | none=>
          have:=Na z yF;unfold c8.fit at this;rw[bM e1,qa]at this;simp at this
         | some r=>
          rw[qa]at e2;simp only[EN,List.cons_append,List.nil_append,qN]at e2;exact bl z yF (by rw[qa,<-e2.1])
       have key:∀x y d,cQ (dx.set a0 (lC ai ds)) x y=some d->bQ aM a7 (fun q=>(Tag.own gV).R ((x,y)::q)) d (us x y):=by
        intro x y d al;by_cases ak:x=a0
        ·subst ak;have ko:(lC ai ds)[y]?=some d:=by
          simpa[cQ,nC,MJ]using al
         rcases Hv ko with⟨z,bl,eE,ck,h1,U,rfl⟩ | ⟨h1,U⟩
         ·obtain⟨e1,e2,_⟩:=hD z bl _ h1;have e2:eE=x:=e2;subst e2;obtain⟨kT,gC,auy,aur,atb,as7,auO,atu,g1,g2,g3,g4⟩:=(gi z bl).cell _ _ h1;rw[e1,<-sC,dJ]at g1;simp only[bq,Value.slice.injEq,aS,Addr.mk.injEq]at g1;obtain⟨rfl,⟨rfl,rfl,_⟩,_,_⟩:=g1;rw[FA]at g3;simp only[aS,Obj.cells.injEq]at g3;obtain⟨rfl,_,_⟩:=g3;have XM:y<ds.length:=by
           have:=(fy.1 ko).1;rwa[zb]at this
          have eW:cQ dx eE y=some ds[y]:=by simp[cQ,ey,XM]
          have XG:us eE y=vals z:=by
           have:=hu eE y _ eW;rw[g4]at this;exact (gP this).symm
          rw[XG];have aH:=NH z bl ck U;rw[h1,e1]at aH;exact aH
         have eW:cQ dx x y=some d:=by simp[cQ,ey,h1]
         refine Nc x y d eW fun z bl qa=>?_
         obtain⟨_,_,ck,he⟩:=hD z bl _ qa;exact U z bl x ck qa he
        have eW:cQ dx x y=some d:=by
         simp only[cQ,nC]at al;rw[bG (by omega)]at al;exact al
        refine Nc x y d eW fun z bl qa=>?_
        obtain⟨_,e2,_⟩:=hD z bl _ qa;exact ak e2
       have gG:=Nd cc [] V9 dG kp;have:=bQ.row (w:=aM) (ω:=a7) (Tag.own gV).R k (dx.set a0 (lC ai ds)) cc off cap arr ty cL us (gG.2.trans FA) gG.1 (by rw[hlen];exact Wk) dN
        (fun e he=>by
         rcases pR he with dQ | rfl
         ·exact hk e dQ
         rw[zb];exact rb)
        (fun x y d al=>by
         have fA:x<dx.length/\y<k:=by
          have FW:∀e∈dx.set a0 (lC ai ds),e.length=k:=fun e he=>by
           rcases pR he with dQ | rfl
           ·exact hk e dQ
           rw[zb];exact rb
          have dQ:x<(dx.set a0 (lC ai ds)).length/\y<k:=by
           unfold cQ at al;cases xN:(dx.set a0 (lC ai ds))[x]? with
           | none=>simp[xN]at al
           | some row=>
            simp only[xN,ox]at al;have hm:=FW row (fl xN);exact⟨(fy.1 xN).1,by rw[<-hm];exact (fy.1 al).1⟩
          rw[hlen]at dQ;exact dQ
         have uq:(dx[x]'fA.1).length=k:=hk _ (qM fA.1);exact hu x y ((dx[x]'fA.1)[y]'(by omega)) (by simp[cQ,fA.1,uq,fA.2]))
        key
       rw[hlen]at this;rw[sC];exact this
     exact trivial
 have cell:∀(n:Nat) (d:D) (u:Value),n<10000->lY rs v n=u->(∀k es,d=.J k es->oV rs n=k)->bQ aM eS (Tag.own n).R d u->Sat aM a7 cI (d.oi (t0+n)) u:=by
  intro n d u a8 bz hk aH;cases d with
  | v x=>
   have e:u=x:=by cases aH;rfl
   subst e;unfold D.oi;split
   ·rename_i h;cases h;exact rfl
   ·rename_i h;cases h;exact rfl
   ·rename_i h;cases h
   ·exact trivial
   exact trivial
  | ptr ds=>exact trivial
  | cl g br=>exact trivial
  | J k es=>
   refine⟨aH.frame fun b q bJ aK=>⟨?_,rfl⟩,?_⟩
   ·simp only[Tag.R]at aK ⊢;rw[fT b (by rw[aK];simp),aK];simp only[za];rw[bG (by simp only[cX];omega)]
   simp only[Tag.dJ,cI];rw[bM (by omega),show t0+n-t0=n by omega,bz,hk k es rfl]
 have sl:∀(r:Nat) (ci:cz) (y:Value),r<100->(∀ds,ci=.agg ds->ds.length<100)->rs[r]?=some ci->(∀j,j<100->lY rs v (100*r+j)=y.cells.getD j undef)->kZ aM eS r ci y->ju (Sat aM a7 cI) (ci.res (t0+100*r)) y:=by
  intro r ci y aH ey yu bz nT;have gu:∀j,j<100->oV rs (100*r+j)=(match cz.cell j ci with | some (.J k _)=>k | _=>0):=by
   intro j bg;unfold oV;rw[show (100*r+j) / 100=r by omega,show (100*r+j) % 100=j by omega,yu];rfl
  cases ci with
  | one d=>
   have h1:=nT.oa;have U:=bz 0 (by omega);rw[y5 h1]at U;have:=cell (100*r) d y (by omega) (by simpa using U) (fun k es e=>by
    have:=gu 0 (by omega);rw[mq]at this;rw[this,e];rfl) nT
   exact this
  | agg ds=>
   obtain⟨vs,rfl,a8,bg⟩:=nT;refine⟨vs,rfl,by rw[wz];exact a8,fun j l ap=>?_⟩;rw[y9,bX]at ap;obtain⟨d,aG,rfl⟩:=ap;obtain⟨u,hu,yv⟩:=bg j d aG;have jQ:j<100:=by
    have:=(fy.1 aG).1;have:=ey ds rfl;omega
   refine⟨u,hu,?_⟩;have:=cell (100*r+j) d u (by omega) (by rw[bz j jQ];simp[Value.cells,er,hu]) (fun k es e=>by
    rw[gu j jQ];simp only[cz.cell,aG,e]) yv
   rw[show t0+100*r+(0+j)=t0+(100*r+j) by omega];exact this
 simp only[sW,cF,cW]at dX;have ey:∀(r:Nat) (ci:cz),rs[r]?=some ci->∀ds,ci=.agg ds->ds.length<100:=by
  intro r ci aH ds e;have:=fx.1 dX.2 ci (fl aH);subst e;simpa using this
 have M7:∀b,ω b≠.bt->w0.B7 b:=fun b h=>(aU.owned b h).1
 have MZ:∀b,fj ai ω b≠.bt->ω b≠.bt:=fun b h e=>h (oW b e)
 refine⟨a7,cI,aU.dT _ ei ?_ ?_ (fun id b cY=>wk id b cY) ?_ (fun s ai=>by simp only[cI];rw[bG (by omega)]),?_⟩
 ·refine⟨aw.os.trans aU.below.os,aw.tape.trans aU.below.tape,aw.output.trans aU.below.output,sc aU.below.size aw.size,fun k hk av=>?_,fun ai=>sc (aU.below.drawn ai) (aw.drawn ai),aw.laid,aU.below.free⟩;have rf:k<w.heap.size:=xu hk aU.below.size;have hi:fj ai ω k=.bt:=by
   cases e:fj ai ω k with
   | bt=>rfl
   | _=>
    have:=M7 k (MZ k (by rw[e];simp));rcases this with h | h
    ·omega
    exact absurd h av
  exact (hblk k rf hi).trans (aU.below.block k hk av)
 ·intro b fr;by_cases al:b<w.heap.size/\fj ai ω b=.bt
  ·rw[hold b al.1 al.2]at fr;have U:ω b≠.bt:=fun e=>by rw[e]at fr;exact fr rfl
   obtain⟨ax,arr,ty,aJ⟩:=aU.owned b U;exact⟨ax,arr,ty,(hblk b al.1 al.2).trans aJ⟩
  have U:eS b≠.bt:=fun e=>by
   simp only[a7]at fr;rw[bG al,e]at fr;exact fr rfl
  obtain⟨_,arr,ty,aJ⟩:=ko b U;refine⟨?_,arr,ty,aJ⟩;rcases oA b w.heap.size with bJ | nV
  ·exact M7 b (MZ b fun e=>al ⟨bJ,e⟩)
  exact .inl (by have:=aU.below.size;omega)
 ·intro id b cY;by_cases al:b<w.heap.size/\fj ai ω b=.bt
  ·rw[hold b al.1 al.2]at cY;cases e:ω b with
   | bt=>rw[e]at cY;cases cY
   | box i=>rw[e]at cY;exact cY
   | tok s q=>rw[e]at cY;simp only[ng]at cY;split at cY<;>cases cY
  simp only[a7]at cY;rw[bG al]at cY;cases e:eS b with
  | bt=>rw[e]at cY;cases cY
  | box i=>rw[e]at cY;cases cY
  | tok s q=>
   rw[e]at cY;simp only[za]at cY;split at cY
   ·split at cY<;>cases cY
   cases cY
 cases rs with
 | nil=>
  obtain⟨vs,rfl,a8,_⟩:=j6;exact⟨vs,rfl,a8,fun i a ah=>by simp[pv]at ah⟩
 | cons ci rest=>
  cases rest with
  | nil=>
   have:=sl 0 ci v (by omega) (ey 0 ci rfl) rfl (fun j bg=>by
    unfold lY;simp only[Nat.mul_zero,dF];rw[EO bg]) j6
   exact this
  | cons Mn rest=>
   obtain⟨vs,rfl,a8,bz⟩:=j6;refine⟨vs,rfl,by rw[C3];exact a8,fun i a ah=>?_⟩;rw[Cm,bX]at ah;obtain⟨mz,h1,rfl⟩:=ah;obtain⟨y,bD,ye⟩:=bz i mz h1;have iK:i<100:=by
    have:=(fy.1 h1).1;omega
   refine⟨y,bD,?_⟩;have:=sl i mz y iK (ey i mz h1) h1 (fun j bg=>by
    unfold lY;simp only;rw[show (100*i+j) / 100=i by omega,show (100*i+j) % 100=j by omega];simp[er,bD]) ye
   rw[dF];exact this
end Go.Sx
namespace Go.Sx
open Go.RowKit
variable{w:World}{ω:Own}{τ:Nat->Nat×Value}{ai:List c8}{l:az}{d:D}{y:Value}
theorem Pe(h:l.fI=some d)(hm:l.n4 ai=false)(c6:Sat w ω τ l y):bQ w (fj ai ω) Tag.free.R d y:=by
 have oW:∀b,ω b=.bt->fj ai ω b=.bt:=fun b h=>by simp only[fj,h]
 have jg:∀b s q,ω b=.tok s q->qG ai s=false->fj ai ω b=.bt:=fun b s q h U=>by simp only[fj,h,Hu U]
 have tag:∀(g:Tag) (b:Nat) (q:List (Nat×Nat)),g.l5 ai=false->g.R q (ω b)->fj ai ω b=.bt:=by
  intro g b q av aK;cases g with
  | free=>exact oW b aK
  | own s=>exact jg b s q aK av
  | ro s=>
   rcases aK with h | ⟨dE,h⟩
   ·exact oW b h
   exact jg b s dE h av
 cases l with
 | cj=>cases h
 | v x=>
  simp only[az.fI]at h;split at h
  ·simp only[aS]at h;subst h;have:y=x:=c6;subst this;exact .v _ _ ‹_›
  cases h
 | a' c=>
  simp only[az.fI,aS]at h;subst h;have:y=.bool c:=c6;subst this;exact .v _ _ rfl
 | J t k es=>simp only[az.fI,aS]at h;subst h;exact c6.1.frame fun b q _ aK=>⟨tag t b q hm aK,rfl⟩
 | ptr=>cases h
 | cB=>cases h
 | fR=>cases h
 | eX=>cases h
 | ha ds off=>
  simp only[az.fI]at h;split at h
  ·rename_i aZ;subst aZ;simp only[aS]at h;subst h;obtain⟨b,rfl,aH⟩:=c6;exact aH.frame fun b q _ aK=>⟨oW b aK,rfl⟩
  cases h
 | fd dn=>simp only[az.fI,aS]at h;subst h;exact bQ.frame c6 fun b q _ aK=>⟨oW b aK,rfl⟩
 | c' t k es=>simp only[az.fI,aS]at h;subst h;exact bQ.frame c6.1 fun b q _ aK=>⟨oW b aK,rfl⟩
 | aO t i j k es m=>
  obtain⟨u,hu,aH,_⟩:=c6;cases m with
  | at_ x z=>cases h
  | here=>simp only[az.fI,aS]at h;subst h;have:y=u:=hu;subst this;exact aH.frame fun b q _ aK=>⟨jg b t _ aK hm,rfl⟩
  | kL=>simp only[az.fI,aS]at h;subst h;have:y=u:=hu;subst this;exact aH.frame fun b q _ aK=>⟨jg b t _ aK hm,rfl⟩
variable{bs:kJ}
theorem Pf(aw:u7 w ω τ bs){id b:Nat}(h:vE bs id=some d)(hm:(match df id bs with | some ls=>ls.any (az.n4 ai) | none=>true)=false)(aZ:ω b=.box id):
  bQ w (fj ai ω) Tag.free.R d (ptrTo b):=by
 unfold vE at h;cases e:df id bs with
 | none=>simp[e]at h
 | some ls=>
  rw[e]at hm;simp only[hd,tH]at hm;simp only[e,ox,bX]at h;obtain⟨ds,h1,rfl⟩:=h;obtain⟨da,arr,ty,eh,hu,bH,c6⟩:=aw id ls e;have:=hu b aZ;subst this;obtain⟨U,ax⟩:=l' h1;have cell:∀j d,ds[j]?=some d->arr[j]?=some (arr.getD j undef)/\bQ w (fj ai ω) Tag.free.R d (arr.getD j undef):=by
   intro j d aG;obtain⟨l,ap,cR⟩:=ax j d aG;obtain⟨u,gv,fc⟩:=c6.2 j l ap;have e2:arr.getD j undef=u:=by simp[er,gv]
   rw[e2];exact⟨gv,Pe cR (hm l (fl ap)) fc⟩
  exact bQ.ptr _ ds b arr ty (0,0) (fun j=>arr.getD j undef) bH (by show fj ai ω b=.bt;simp only[fj,aZ]) (by have:=c6.1;omega) (fun j d aG=>(cell j d aG).1) (fun j d aG=>(cell j d aG).2.frame fun _ _ _ h=>⟨h,rfl⟩)
theorem ajI(aw:u7 w ω τ bs)(h:l.jb bs=some d)(hm:l.l5 bs ai=false)(c6:Sat w ω τ l y):
  bQ w (fj ai ω) Tag.free.R d y:=by
 unfold az.jb at h;split at h
 ·rename_i id off;split at h
  ·rename_i aZ;subst aZ;obtain⟨b,h1,rfl⟩:=c6;exact Pf aw h hm h1
  cases h
 ·rename_i g ids;rw[bX]at h;obtain⟨ds,h1,rfl⟩:=h;obtain⟨mB,rfl,a8,hi⟩:=c6;obtain⟨U,ax⟩:=l' h1;simp only[az.l5,hd,tH]at hm;have cell:∀j d,ds[j]?=some d->(mB.map ptrTo).toArray[j]?=some ((mB.map ptrTo).toArray.getD j undef)/\bQ w (fj ai ω) Tag.free.R d ((mB.map ptrTo).toArray.getD j undef):=by
   intro j d aG;obtain⟨id,gh,FG⟩:=ax j d aG;obtain⟨b,gG,gH⟩:=hi j id gh;have e1:(mB.map ptrTo).toArray[j]?=some (ptrTo b):=by simp[gG]
   have e2:(mB.map ptrTo).toArray.getD j undef=ptrTo b:=by rw[er,e1];rfl
   rw[e2];exact⟨e1,Pf aw FG (hm id (fl gh)) gH⟩
  exact bQ.cl _ g ds _ (fun j=>(mB.map ptrTo).toArray.getD j undef) (by simp;omega) (fun j d aG=>(cell j d aG).1) (fun j d aG=>(cell j d aG).2.frame fun _ _ _ h=>⟨h,rfl⟩)
 rename_i Xb Xc;have ym:l.n4 ai=false:=by
  unfold az.l5 at hm;split at hm
  ·exact absurd rfl (Xb _ _)
  ·exact absurd rfl (Xc _ _)
  exact hm
 exact Pe h ym c6
structure Vo (w:World) (ω:Own) (τ:Nat->Nat×Value) (ai:List c8) (i j:Nat) (c:eC) (ak:List c8) (y:Value):Prop where
 gc:tM w (fj ai ω) (e4 i j) c y
 at_:∀h∈ak,h.i=i/\h.j=j/\A4 w ω τ h y/\c=.eV h.k h.es h.post
 one:y.oneCell'=true
variable{i:Nat}
theorem Hw(cJ:nh ai=true)(aw:u7 w ω τ bs){j:Nat}{m:oD}{c:eC}{ak:List c8}{rx:List az}
  (h:vG bs i j m l=some (c,ak,rx)) (ih:∀x∈ak,x∈ai) (wb:∀x∈rx,x.l5 bs ai=false) (c6:Sat w ω τ l y):Vo w ω τ ai i j c ak y:=by
 unfold vG at h;split at h
 ·rw[bX]at h;obtain⟨d,h1,h⟩:=h;simp only[bq]at h;obtain⟨rfl,rfl,rfl⟩:=h;have:=ajI aw h1 (wb _ (by simp)) c6;exact⟨this,fun x ak=>by simp at ak,this.oa⟩
 ·rename_i post t k es;simp only[aS,bq]at h;obtain⟨rfl,rfl,rfl⟩:=h;have p4:=ih _ (j1);refine⟨c6.1.frame fun b q _ aK=>⟨?_,rfl⟩,fun x ak=>?_,c6.1.oa⟩
  ·simp only[Tag.R]at aK ⊢;simp only[fj,aK];have:=Ht (t:=t) (q:=q) (dE:=q) cJ p4 (O' ⟨i,j,t,none,k,es,post⟩ q);simp only[this]
  simp only[List.mem_singleton]at ak;subst ak;exact⟨rfl,rfl,⟨c6.1.frame fun b q _ aK=>⟨aK,rfl⟩,fun _=>c6.2,fun a b e=>by cases e⟩,rfl⟩
 ·rename_i post t a b k es;simp only[aS,bq]at h;obtain⟨rfl,rfl,rfl⟩:=h;have p4:=ih _ (j1);obtain⟨hx,p7,c6⟩:=c6;have:y=hx:=p7;subst this;refine⟨c6.1.frame fun c q _ aK=>⟨?_,rfl⟩,fun x ak=>?_,c6.1.oa⟩
  ·simp only[Tag.R]at aK ⊢;simp only[fj,aK];have:=Ht (t:=t) (q:=(a,b)::q) (dE:=q) cJ p4 (O' ⟨i,j,t,some (a,b),k,es,post⟩ q);simp only[this]
  simp only[List.mem_singleton]at ak;subst ak;refine⟨rfl,rfl,⟨c6.1.frame fun b q _ aK=>⟨aK,rfl⟩,fun e=>(by cases e),fun cx da e=>?_⟩,rfl⟩;simp only[aS,bq]at e;obtain⟨rfl,rfl⟩:=e;exact c6.2 rfl
 cases h
theorem Pg:∀{ms:List oD} {ls:List az} {j:Nat} {cs:List eC} {ak:List c8} {rx:List az},oe bs i j ms ls=some (cs,ak,rx)->cs.length=ls.length
 | [],[],j,cs,ak,rx,h=>by simp only[oe,aS,bq]at h;obtain⟨rfl,_,_⟩:=h;rfl
 | m::ms,l::ls,j,cs,ak,rx,h=>by
  simp only[oe]at h;split at h
  ·rename_i c h1 bK Mw mP xg e1 e2;simp only[aS,bq]at h;obtain⟨rfl,_,_⟩:=h;simp[Pg e2]
  cases h
 | [],_::_,j,cs,ak,rx,h=>by simp[oe]at h
 | _::_,[],j,cs,ak,rx,h=>by simp[oe]at h
theorem Oo:∀{ms:List oD} {ls:List az} {j:Nat} {cs:List eC} {ak:List c8} {rx:List az},oe bs i j ms ls=some (cs,ak,rx)->
  (∀(x:Nat) (c:eC),cs[x]?=some c->∃l m h1 bK,ls[x]?=some l/\vG bs i (j+x) m l=some (c,h1,bK)/\(∀z∈h1,z∈ak)/\(∀z∈bK,z∈rx))/\
  (∀h∈ak,∃(x:Nat) (c:eC) (l:az) (m:oD) (h1:List c8) (bK:List az),cs[x]?=some c/\ls[x]?=some l/\vG bs i (j+x) m l=some (c,h1,bK)/\h∈h1/\(∀z∈h1,z∈ak)/\(∀z∈bK,z∈rx))
 | [],[],j,cs,ak,rx,h=>by
  simp only[oe,aS,bq]at h;obtain⟨rfl,rfl,rfl⟩:=h;exact⟨fun x c al=>by simp at al,fun h bH=>by simp at bH⟩
 | m::ms,l::ls,j,cs,ak,rx,h=>by
  simp only[oe]at h;split at h
  ·rename_i c h1 bK Mw mP xg e1 e2;simp only[aS,bq]at h;obtain⟨rfl,rfl,rfl⟩:=h;obtain⟨c4,b8⟩:=Oo e2;refine⟨fun x jc al=>?_,fun z bl=>?_⟩
   ·cases x with
    | zero=>
     simp only[kI,aS]at al;subst al;exact⟨l,m,h1,bK,rfl,e1,fun z bl=>hP _ bl,fun z bl=>hP _ bl⟩
    | succ x=>
     obtain⟨fU,ik,U,b2,g1,g2,g3,g4⟩:=c4 x jc (by simpa using al);exact⟨fU,ik,U,b2,by simpa using g1,by rw[show j+(x+1)=j+1+x by omega];exact g2,fun z bl=>iC _ (g3 z bl),fun z bl=>iC _ (g4 z bl)⟩
   rcases mo.1 bl with bl | bl
   ·exact⟨0,c,l,m,h1,bK,rfl,rfl,e1,bl,fun z bl=>hP _ bl,fun z bl=>hP _ bl⟩
   obtain⟨x,jc,fU,ik,U,b2,g0,g1,g2,g5,g3,g4⟩:=b8 z bl;exact⟨x+1,jc,fU,ik,U,b2,by simpa using g0,by simpa using g1,by rw[show j+(x+1)=j+1+x by omega];exact g2,g5,fun z bl=>iC _ (g3 z bl),fun z bl=>iC _ (g4 z bl)⟩
  cases h
 | [],_::_,j,cs,ak,rx,h=>by simp[oe]at h
 | _::_,[],j,cs,ak,rx,h=>by simp[oe]at h
structure Vn (w:World) (ω:Own) (τ:Nat->Nat×Value) (ai:List c8) (i:Nat) (eF:GA) (ak:List c8) (y:Value):Prop where
 VW:Mg w (fj ai ω) i eF y
 at_:∀h∈ak,h.i=i/\A4 w ω τ h (cellOf y h.j)/\eF.cell h.j=some (.eV h.k h.es h.post)
theorem Oq(cJ:nh ai=true)(aw:u7 w ω τ bs){ms:List oD}{p:aE}{eF:GA}{ak:List c8}{rx:List az}
  (h:xL bs i ms p=some (eF,ak,rx)) (ih:∀x∈ak,x∈ai) (wb:∀x∈rx,x.l5 bs ai=false) (c6:cE (Sat w ω τ) p y):Vn w ω τ ai i eF ak y:=by
 unfold xL at h;split at h
 ·rename_i l;split at h
  ·rename_i m;rw[bX]at h;obtain⟨⟨c,h1,bK⟩,e,h⟩:=h;simp only[bq]at h;obtain⟨rfl,rfl,rfl⟩:=h;have:=Hw cJ aw e ih wb c6;refine⟨this.gc,fun x ak=>?_⟩;obtain⟨e1,e2,cb,d'⟩:=this.at_ x ak;have VQ:cellOf y x.j=y:=by rw[e2,cellOf,y5 this.one];rfl
   rw[VQ];exact⟨e1,cb,by simp[GA.cell,e2,d']⟩
  cases h
 ·rename_i ls;rw[bX]at h;obtain⟨⟨cs,h1,bK⟩,e,h⟩:=h;simp only[bq]at h;obtain⟨rfl,rfl,rfl⟩:=h;obtain⟨us,rfl,a8,hu⟩:=c6;obtain⟨c4,b8⟩:=Oo e;refine⟨⟨us,rfl,by rw[Pg e];exact a8,fun x c al=>?_⟩,fun z bl=>?_⟩
  ·obtain⟨l,m,U,b2,g1,g2,g3,g4⟩:=c4 x c al;obtain⟨u,gv,fc⟩:=hu x l g1;rw[dF]at g2;exact⟨u,gv,(Hw cJ aw g2 (fun z bl=>ih z (g3 z bl)) (fun z bl=>wb z (g4 z bl)) fc).gc⟩
  obtain⟨x,c,l,m,U,b2,g0,g1,g2,g5,g3,g4⟩:=b8 z bl;obtain⟨u,gv,fc⟩:=hu x l g1;rw[dF]at g2;obtain⟨e1,e2,cb,d'⟩:=(Hw cJ aw g2 (fun z bl=>ih z (g3 z bl)) (fun z bl=>wb z (g4 z bl)) fc).at_ z g5;refine⟨e1,?_,by simp only[GA.cell,e2,g0,d']⟩;have:cellOf (.agg us) z.j=u:=by simp[cellOf,Value.cells,e2,er,gv]
  rw[this];exact cb
 cases h
theorem Ot:∀{Hb:List (List oD)} {cn:List aE} {i:Nat} {gs:List GA} {ak:List c8} {rx:List az},tU bs i Hb cn=some (gs,ak,rx)->gs.length=cn.length/\
  (∀(x:Nat) (eF:GA),gs[x]?=some eF->∃p ms h1 bK,cn[x]?=some p/\xL bs (i+x) ms p=some (eF,h1,bK)/\(∀z∈h1,z∈ak)/\(∀z∈bK,z∈rx))/\
  (∀h∈ak,∃(x:Nat) (eF:GA) (p:aE) (ms:List oD) (h1:List c8) (bK:List az),gs[x]?=some eF/\cn[x]?=some p/\xL bs (i+x) ms p=some (eF,h1,bK)/\h∈h1/\(∀z∈h1,z∈ak)/\(∀z∈bK,z∈rx))
 | [],[],i,gs,ak,rx,h=>by
  simp only[tU,aS,bq]at h;obtain⟨rfl,rfl,rfl⟩:=h;exact⟨rfl,fun x c al=>by simp at al,fun h bH=>by simp at bH⟩
 | m::ms,l::ls,i,gs,ak,rx,h=>by
  simp only[tU]at h;split at h
  ·rename_i c h1 bK Mw mP xg e1 e2;simp only[aS,bq]at h;obtain⟨rfl,rfl,rfl⟩:=h;obtain⟨dq,c4,b8⟩:=Ot e2;refine⟨by simp[dq],fun x jc al=>?_,fun z bl=>?_⟩
   ·cases x with
    | zero=>
     simp only[kI,aS]at al;subst al;exact⟨l,m,h1,bK,rfl,e1,fun z bl=>hP _ bl,fun z bl=>hP _ bl⟩
    | succ x=>
     obtain⟨fU,ik,U,b2,g1,g2,g3,g4⟩:=c4 x jc (by simpa using al);exact⟨fU,ik,U,b2,by simpa using g1,by rw[show i+(x+1)=i+1+x by omega];exact g2,fun z bl=>iC _ (g3 z bl),fun z bl=>iC _ (g4 z bl)⟩
   rcases mo.1 bl with bl | bl
   ·exact⟨0,c,l,m,h1,bK,rfl,rfl,e1,bl,fun z bl=>hP _ bl,fun z bl=>hP _ bl⟩
   obtain⟨x,jc,fU,ik,U,b2,g0,g1,g2,g5,g3,g4⟩:=b8 z bl;exact⟨x+1,jc,fU,ik,U,b2,by simpa using g0,by simpa using g1,by rw[show i+(x+1)=i+1+x by omega];exact g2,g5,fun z bl=>iC _ (g3 z bl),fun z bl=>iC _ (g4 z bl)⟩
  cases h
 | [],_::_,i,gs,ak,rx,h=>by simp[tU]at h
 | _::_,[],i,gs,ak,rx,h=>by simp[tU]at h
def C4:List c8->Option (Nat×Nat)
 | []=>none
 | h::r=>match h.p with | some p=>some (h.t,p.1) | none=>C4 r
theorem Ou:∀{ai:List c8},C4 ai=none->∀h∈ai,h.p=none
 | [],_,h,bH=>by cases bH
 | x::r,e,h,bH=>by
  simp only[C4]at e;split at e
  ·cases e
  rename_i hp;rcases ep.1 bH with rfl | bH
  ·exact hp
  exact Ou e h bH
def zc(a:Nat):List c8->List Prop
 | []=>[]
 | h::r=>match h.p with | some p=>(p.1=a)::zc a r | none=>zc a r
theorem Hy{a:Nat}:∀{ai:List c8},cA (zc a ai)->∀h∈ai,∀p,h.p=some p->p.1=a
 | [],_,h,bH,_,_=>by cases bH
 | x::r,aZ,h,bH,p,hp=>by
  simp only[zc]at aZ;split at aZ
  ·rename_i q aK;rcases ep.1 bH with rfl | bH
   ·rw[hp]at aK;rw[gP aK];exact aZ.1
   exact Hy aZ.2 h bH p hp
  rename_i aK;rcases ep.1 bH with rfl | bH
  ·rw[hp]at aK;cases aK
  exact Hy aZ h bH p hp
def Hz(st:aD)(ai:List c8)(src:Nat)(ds:List D):Option (Nat×Nat×List (List D)×List Prop):=
 match C4 ai with
 | none=>some (0,0,[],[])
 | some (t,a)=>
  match (st.env.getD src .cj).leaf with
  | some (.J (.own s) k es)=>
   if s=t/\ds.length=k/\ai.all (fun h=>match h.p with | some _=>h.t==t&&h.post.isSome | none=>true)=true then
    some (t,k,es.set a (lC ai ds),(es[a]?=some ds)::zc a ai)
   else none
  | _=>none
theorem ajJ{w0:ee}{st:aD}{a:Act}(aU:cr w0 st a w ω τ){src:Nat}{ds:List D}{t k:Nat}{es:List (List D)}{obs:List Prop}
  (h:Hz st ai src ds=some (t,k,es,obs)) (aZ:cA obs):Mj w ω τ ai t k es:=by
 unfold Hz at h;split at h
 ·rename_i a8;exact⟨fun x ak p hp _=>by rw[Ou a8 x ak]at hp;cases hp⟩
 rename_i c5 cx b0;split at h
 ·rename_i s ch ck ap;split at h
  ·rename_i al;obtain⟨rfl,rb,hD⟩:=al;simp only[aS,bq]at h;obtain⟨rfl,rfl,rfl,rfl⟩:=h;rw[fx]at hD;refine⟨fun x ak p hp _=>?_⟩;have n0:∃y,Sat w ω τ (.J (.own s) ch ck) y:=by
    rw[jY]at ap;cases e:st.env[src]? with
    | none=>rw[e]at ap;simp[aE.leaf]at ap
    | some p=>
     rw[e]at ap;obtain⟨v,_,U⟩:=aU.env src p e;exact⟨v,aE.du ap U⟩
   obtain⟨y,bD⟩:=n0;refine⟨ck,y,ds,cx,bD,aZ.1,rb,rfl,fun z bl q aK=>?_⟩;have h1:=hD z bl;simp only[aK,cF,jL,pQ]at h1;exact⟨h1.1,Hy aZ.2 z bl q aK,h1.2⟩
  cases h
 cases h
def HA(P:Program)(st:aD)(d:Option Nat)(f:FuncId)(args:List Operand)(ans:List b4):Option (aD×List b4×List Prop):=
 match ans with
 | .qE uD src ds rs::r=>
  match tU st.boxes 0 uD (args.map st.bh) with
  | some (gs,ai,oj)=>
   match Hz st ai src ds with
   | some (gV,mU,oK,obs)=>
    let t0:=10000*(d.getD 0+1)
    if iv P f=true/\sW rs=true/\t0+10000<=cX/\nh ai=true/\oj.all (fun l=>!(l.l5 st.boxes ai))=true/\ai.all (fun h=>!(decide (t0<=h.t)&&decide (h.t<t0+10000)))=true then
     let bn:=st.map (qt ai t0 gV mU oK)
     match d with
     | some d=>some (⟨bn.env.set d (r4 t0 rs),bn.boxes⟩,r,kj P f gs rs::obs)
     | none=>some (bn,r,kj P f gs rs::obs)
    else none
   | none=>none
  | none=>none
 | _=>none
theorem ajK{P:Program}{w0:ee}{st bn:aD}{a:Act}{dst:Option Nat}{f:FuncId}{args:Array Operand}{ts:Array TypeId}{type:TypeId}{pos:String}{after:Array Edge}{guard:Option (Nat×Bool)}{ans b':List b4}{obs:List Prop}
  (aU:cr w0 st a w ω τ) (h:HA P st dst f args.toList ans=some (bn,b',obs)) (aZ:cA obs) {K:Act->World->Prop} {Q:Exit->Act->World->Prop} (hl:∀cx aM,Rel w0 bn cx aM->K cx aM):
  Oper.wp P ⟨dst,.call ⟨.value (.func f),args,ts⟩,type,pos,after,guard⟩ a w K Q:=by
 unfold HA at h;split at h
 ·rename_i uD src ds rs r;split at h
  ·rename_i gs ai oj ll;split at h
   ·rename_i gV mU oK fq ih;simp only at h;split at h
    ·rename_i al;obtain⟨ie,dX,hZ,cJ,BU,wa⟩:=al;rw[fx]at BU wa;have yt:∀l∈oj,l.l5 st.boxes ai=false:=fun l ap=>by simpa using BU l ap
     have Xo:∀h∈ai,¬(10000*(dst.getD 0+1)<=h.t/\h.t<10000*(dst.getD 0+1)+10000):=fun h bH=>by
      have:=wa h bH;simp only[h8,Bool.and_eq_false_iff,oB]at this;omega
     obtain⟨hlen,c4,b8⟩:=Ot ll;have gi:∀(x:Nat) (p:aE),(args.toList.map st.bh)[x]?=some p->∃v,(args.map a.eval)[x]?=some v/\cE (Sat w ω τ) p v:=by
      intro x p hp;rw[dr,bX]at hp;obtain⟨o,h1,rfl⟩:=hp;refine⟨a.eval o,?_,aU.bh o⟩;rw[as0];rw[lI]at h1;rw[h1];rfl
     have WG:EU w (fj ai ω) gs (args.map a.eval):=by
      refine⟨fun b aw=>?_,by simp[hlen],fun x eF ak=>?_⟩
      ·have c7:ω b≠.bt:=fun e=>aw (by simp only[fj,e])
       obtain⟨_,arr,ty,aJ⟩:=aU.owned b c7;refine⟨?_,arr,ty,aJ⟩;simp only[fj]at aw ⊢;cases e:ω b with
       | bt=>simp[e]at aw
       | box id=>simp[e]at aw
       | tok t q=>
        simp only[e]at aw ⊢;cases e2:lR t q ai with
        | none=>simp[e2]at aw
        | some z=>
         obtain⟨g,dE⟩:=z;obtain⟨y,_,_,rfl⟩:=y' e2;exact⟨_,dE,rfl,by simp[e4]⟩
      obtain⟨p,ms,h1,bK,g1,g2,g3,g4⟩:=c4 x eF ak;obtain⟨v,bz,uu⟩:=gi x p g1;rw[dF]at g2;exact⟨v,bz,(Oq cJ aU.boxes g2 g3 (fun z bl=>yt z (g4 z bl)) uu).VW⟩
     have pZ:∀h∈ai,A4 w ω τ h (cellOf ((args.map a.eval).getD h.i undef) h.j)/\∃eF,gs[h.i]?=some eF/\eF.cell h.j=some (.eV h.k h.es h.post):=by
      intro h bH;obtain⟨x,eF,p,ms,h1,bK,g0,g1,g2,g5,g3,g4⟩:=b8 h bH;obtain⟨v,bz,uu⟩:=gi x p g1;rw[dF]at g2;obtain⟨e1,e2,cb⟩:=(Oq cJ aU.boxes g2 g3 (fun z bl=>yt z (g4 z bl)) uu).at_ h g5;have bh:(args.map a.eval).getD h.i undef=v:=by rw[e1,er,bz];rfl
      rw[bh];exact⟨e2,eF,by rw[e1];exact g0,cb⟩
     have e5:(execOp a.eval ⟨dst,.call ⟨.value (.func f),args,ts⟩,type,pos,after,guard⟩).run P w=.ok (.enter f (args.map a.eval)) w:=by
      unfold iv at ie;split at ie
      ·rename_i fn kp;simp only[cF,h8,xr,mr]at ie;have q9:fn.body≠none:=by intro e;rw[e]at ie;simp at ie
       simp[execOp,resolve,Act.eval,Deferred.ofValue,invoke,callFunc,kp,ie.1,q9]
      cases ie
     have key:kj P f gs rs->cA fq->(∀v aM a7 cI,cr w0 (st.map (qt ai (10000*(dst.getD 0+1)) gV mU oK)) a aM a7 cI->cE (Sat aM a7 cI) (r4 (10000*(dst.getD 0+1)) rs) v->K (a.put dst v) aM)->
       Oper.wp P ⟨dst,.call ⟨.value (.func f),args,ts⟩,type,pos,after,guard⟩ a w K Q:=by
      intro F' F3 MG;unfold Oper.wp;rw[e5];simp only[Oper.upon];refine (F' w _ _ WG (aU.tidy fun b aw=>by simp only[fj,aw])).mono ?_;rintro e aM ⟨v,rfl,j5,eS,c1,c2,cu,dU⟩;obtain⟨a7,cI,h1,U⟩:=aU.VH (10000*(dst.getD 0+1)) cJ dX hZ Xo j5 eS c1 c2 dU (fun h=>cellOf ((args.map a.eval).getD h.i undef) h.j)
       (fun h bH ck he=>by
        obtain⟨_,eF,g1,g2⟩:=pZ h bH;rw[he]at g2;exact cu h.i h.j eF h.k h.es ck g1 g2)
       (fun h bH=>(pZ h bH).1) (ajJ aU ih F3)
      exact MG v aM a7 cI h1 U
     cases dst with
     | none=>
      simp only[aS,bq]at h;obtain⟨rfl,_,rfl⟩:=h;exact key aZ.1 aZ.2 fun v aM a7 cI h1 _=>hl _ _ ⟨a7,cI,h1⟩
     | some d=>
      simp only[aS,bq]at h;obtain⟨rfl,_,rfl⟩:=h;exact key aZ.1 aZ.2 fun v aM a7 cI h1 U=>hl _ _ ⟨a7,cI,h1.put U⟩
    cases h
   cases h
  cases h
 cases h
