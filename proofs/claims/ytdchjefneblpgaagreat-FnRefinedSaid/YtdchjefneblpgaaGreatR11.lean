import Derived.Test.YtdchjefneblpgaaGreatR6
set_option linter.unusedVariables false
set_option linter.unusedSimpArgs false
namespace Go.Sx
open Go.RowKit
def xg(t:Nat)(ms:io)(k:Nat)(cv:List (List D)):aH->aH
 | .J (.own s) cw es=>if s=t then .J (.own t) k cv else if (ms.at s).isSome then .cA else .J (.own s) cw es
 | .cP (.own s) cw es i j=>if s=t then .cP (.own t) k cv i j else if (ms.at s).isSome then .cA else .cP (.own s) cw es i j
 | .J (.ro s) cw es=>if s=t then .cA else if (ms.at s).isSome then .cA else .J (.ro s) cw es
 | .cP (.ro s) cw es i j=>if s=t then .cA else if (ms.at s).isSome then .cA else .cP (.ro s) cw es i j
 | .aQ s a b cX dS m=>if s=t then .cA else if (ms.at s).isSome then .cA else .aQ s a b cX dS m
 | .fN _ _=>.cA
 | l=>l
def nP(t:Nat)(ms:io):db->db
 | .tok s q=>if s=t then .tok s q else match ms.at s with | some p=>.tok t (p::q) | none=>.tok s q
 | o=>o
variable{t:Nat}{ms:io}
theorem E7{o:db}{id:Nat}:nP t ms o=.box id<->o=.box id:=by
 cases o with
 | bI=>simp[nP]
 | box i=>simp[nP]
 | tok s q=>
  simp only[nP];split
  ·simp
  ·split<;>simp
theorem avC{o:db}:nP t ms o=.bI<->o=.bI:=by
 cases o with
 | bI=>simp[nP]
 | box i=>simp[nP]
 | tok s q=>
  simp only[nP];split
  ·simp
  ·split<;>simp
variable{i j:Nat}{ds:List D}
theorem LI{es:List (List D)}{x:Nat}(hi:i<es.length):df (es.set i ds) x j=if x=i then ds[j]? else df es x j:=by
 unfold df;rw[k6];by_cases h:i=x
 ·subst h;rw[bm rfl,bm hi,bm rfl];rfl
 rw[bk h,bk (Ne.symm h)]
def lR(ds:List D)(off:Nat)(xs:List D):List D:=ds.take off++(xs++ds.drop (off+xs.length))
theorem Sz{xs:List D}{off:Nat}(h:off+xs.length<=ds.length):(lR ds off xs)[i]?=if off<=i/\i<off+xs.length then xs[i-off]? else ds[i]?:=by
 unfold lR;rw[l8,ma,Nat.min_eq_left (by omega)];by_cases h1:i<off
 ·rw[bm h1,bk (by omega),gI,bm h1]
 rw[bk h1,l8];by_cases U:i-off<xs.length
 ·rw[bm U,bm (by omega)]
 rw[bk U,bk (by omega),gH]
 congr 1
 omega
theorem Tn{xs:List D}{off:Nat}(h:off+xs.length<=ds.length):(lR ds off xs).length=ds.length:=by
 simp[lR];omega
def LJ(t:Nat)(ms:io):Bool:=ms.all fun x=>x.1≠t&&(match ms.at x.1 with | some p=>p.1==x.2.1&&p.2==x.2.2 | none=>false)
theorem avD(h:LJ t ms=true){s:Nat}{p:Nat×Nat}(hm:(s,p)∈ms):s≠t/\ms.at s=some p:=by
 have h1:=gx.1 h _ hm;simp only[cx,cV]at h1;refine⟨h1.1,?_⟩;have U:=h1.2;split at U
 ·rename_i q e;simp only[cx,dE]at U;rw[e,aV];exact Prod.ext U.1 U.2
 cases U
theorem LK(i:Nat):∀(xs:List aH) (j:Nat),lZ i j xs=(lZ 0 j xs).map fun x=>(x.1,(i,x.2.2))
 | [],_=>rfl
 | l::ls,j=>by
  simp only[lZ];split
  ·simp only[l',sU,true_and];exact LK i ls (j+1)
  exact LK i ls (j+1)
theorem To(i s:Nat):∀ms:io,io.at s (ms.map fun x=>(x.1,(i,x.2.2)))=(io.at s ms).map fun p=>(i,p.2)
 | []=>rfl
 | (a,p)::r=>by
  simp only[l',io.at];split
  ·rfl
  exact To i s r
theorem LL(i0:Nat):∀(xs:List aH) (j s:Nat) (p:Nat×Nat),(s,p)∈lZ i0 j xs->p.1=i0
 | [],_,_,_,h=>by simp[lZ]at h
 | l::ls,j,s,p,h=>by
  simp only[lZ]at h;split at h
  ·rcases eP.1 h with h | h
   ·simp only[bH]at h;rw[h.2]
   exact LL i0 ls (j+1) s p h
  exact LL i0 ls (j+1) s p h
theorem Tp{xs:List aH}(h:LJ t (lZ 0 j xs)=true){s:Nat}{p:Nat×Nat}(hm:(s,p)∈lZ i j xs):s≠t/\(lZ i j xs).at s=some p:=by
 have hp:=LL i xs j s p hm;rw[LK]at hm ⊢;obtain⟨⟨uf,re⟩,h1,U⟩:=lo.1 hm;simp only[bH]at U;obtain⟨rfl,U⟩:=U;obtain⟨ax,aF⟩:=avD h h1;refine⟨ax,?_⟩;rw[To,aF,<-U];rfl
def wh.flat:wh->Bool
 | .at_ _ _=>false
 | _=>true
def vn(t:Nat):Nat->List aH->Option (List D×List Nat)
 | _,[]=>some ([],[])
 | j,.aQ s a b k es m::ls=>if s=t/\b=j/\m.flat=true then (vn t (j+1) ls).map fun r=>(.J k es::r.1,a::r.2) else none
 | j,l::ls=>
  match l.jA,vn t (j+1) ls with
  | some d,some r=>some (d::r.1,r.2)
  | _,_=>none
theorem Tq:∀{xs:List aH} {j:Nat} {ys:List D} {is:List Nat},vn t j xs=some (ys,is)->ys.length=xs.length/\
  ∀(y:Nat) (d:D),ys[y]?=some d->∃l,xs[y]?=some l/\(l.jA=some d\/∃a k es m,l=.aQ t a (j+y) k es m/\m.flat=true/\a∈is/\d=.J k es)
 | [],j,ys,is,h=>by
  simp only[vn,aV,bH]at h;obtain⟨rfl,rfl⟩:=h;exact⟨rfl,fun y d aG=>by simp at aG⟩
 | l::ls,j,ys,is,h=>by
  have fin:∀d0 HS Kf EC,ys=d0::HS->is=EC->(∀a∈Kf,a∈EC)->vn t (j+1) ls=some (HS,Kf)->(l.jA=some d0\/∃a k es m,l=.aQ t a j k es m/\m.flat=true/\a∈EC/\d0=.J k es)->ys.length=(l::ls).length/\
    ∀(y:Nat) (d:D),ys[y]?=some d->∃x,(l::ls)[y]?=some x/\(x.jA=some d\/∃a k es m,x=.aQ t a (j+y) k es m/\m.flat=true/\a∈is/\d=.J k es):=by
   rintro d0 HS Kf EC rfl rfl j5 aA bG;obtain⟨h1,U⟩:=Tq aA;refine⟨by simp[h1],fun y d aG=>?_⟩;cases y with
   | zero=>
    simp only[kh,aV]at aG;subst aG;exact⟨l,rfl,bG⟩
   | succ y=>
    obtain⟨x,ah,ax⟩:=U y d (by simpa using aG);refine⟨x,by simpa using ah,?_⟩;rcases ax with ax | ⟨a,k,es,m,aF,aZ,bB,bS⟩
    ·exact .inl ax
    exact .inr ⟨a,k,es,m,by rw[aF,show j+1+y=j+(y+1) by omega],aZ,j5 a bB,bS⟩
  have plain:(match l.jA,vn t (j+1) ls with | some d,some r=>some (d::r.1,r.2) | _,_=>none)=some (ys,is)->ys.length=(l::ls).length/\
    ∀(y:Nat) (d:D),ys[y]?=some d->∃x,(l::ls)[y]?=some x/\(x.jA=some d\/∃a k es m,x=.aQ t a (j+y) k es m/\m.flat=true/\a∈is/\d=.J k es):=by
   intro h;split at h
   ·rename_i d r e1 e2;simp only[aV,bH]at h;exact fin d r.1 r.2 r.2 h.1.symm h.2.symm (fun _ h=>h) e2 (.inl e1)
   cases h
  cases l with
  | aQ s a b k es m=>
   simp only[vn]at h;split at h
   ·rename_i aj;obtain⟨rfl,rfl,hm⟩:=aj;rw[cc]at h;obtain⟨⟨bF,bQ⟩,e2,h⟩:=h;simp only[bH]at h;exact fin _ bF bQ (a::bQ) h.1.symm h.2.symm (fun _ h=>iA _ h) e2 (.inr ⟨a,k,es,m,rfl,hm,hX,rfl⟩)
   cases h
  | _=>exact plain h
theorem EL:∀{l:List Nat},cL (l.map fun a=>a=i)->∀a∈l,a=i
 | [],_,a,h=>by cases h
 | x::l,ba,a,h=>by
  rcases eP.1 h with rfl | h
  ·exact ba.1
  exact EL ba.2 a h
def LM(P:Program)(st:aJ)(ty:TypeId)(t k:Nat)(es:List (List D))(i j:Nat)(q:aL)(ans:List cf):Stepped:=
 match q.leaves,P.info? ty,ans with
 | some xs,some inf,.el ds::r=>
  match vn t j xs with
  | some (ys,is)=>
   if xs.length=inf.size/\ds.length=k/\j+ys.length<=k/\LJ t (lZ 0 j xs)=true then
    some (st.map (xg t (lZ i j xs) k (es.set i (lR ds j ys))),r,(es[i]?=some ds)::is.map fun a=>a=i)
   else none
  | none=>none
 | _,_,_=>none
theorem cJ.aBz{P:Program}{w0:eT}{st bC:aJ}{a:Act}{w:World}{ω:Own}{τ:Nat->Nat×Value}{ty:TypeId}{k:Nat}{es:List (List D)}{q:aL}{v y:Value}{ans cq:List cf}{obs:List Prop}
  (a8:cJ w0 st a w ω τ) (hp:Sat w ω τ (.cP (.own t) k es i j) y) (aK:cW (Sat w ω τ) q v) (h:LM P st ty t k es i j q ans=some (bC,cq,obs)) (ba:cL obs):
  ∃aO,(Instr.storeAt ty y v).run P w=.ok () aO/\Rel w0 bC a aO:=by
 unfold LM at h;split at h
 ·rename_i xs inf ds r e1 e2;split at h
  ·rename_i ys is cg;split at h
   ·rename_i aj;obtain⟨lS,ly,lT,uO⟩:=aj;simp only[aV,bH]at h;obtain⟨rfl,_,rfl⟩:=h;have eR:es[i]?=some ds:=ba.1;obtain⟨ao,oq⟩:=aL.yQ e1 aK;obtain⟨RY,Ka⟩:=Tq cg;have acm:=EL ba.2;obtain⟨b,off,cap,rfl,kp,aA,bJ⟩:=hp;simp only[Tag.ev]at bJ;cases aA with
    | nil=>simp at kp
    | row R k es b off cap arr ii c3 us av ej gA c' hy hu aG=>
     have iT:ω b=.tok t []:=ej;obtain⟨wQ,uz,vW,iG⟩:=a8.owned b (by rw[iT];simp);rw[av]at iG;simp only[aV,Obj.cells.injEq]at iG;obtain⟨rfl,rfl,rfl⟩:=iG;have wD:b<w.heap.size:=(iB.1 av).1;have hmul:(i+1)*k<=cap*k:=hF _ (by omega);rw[gg]at hmul;have nJ:v.cells.size=xs.length:=ao.1;have dI:off+i*k+j+v.cells.toList.length<=arr.size:=by simp;omega
     have fb:=run_storeCells_at P b (off+i*k+j) ii v.cells.toList 0 arr w av (by simpa using dI) oq;simp only[np]at fb;generalize oj:(arr.toList.take (off+i*k+j)++v.cells.toList++arr.toList.drop (off+i*k+j+v.cells.toList.length)).toArray=cd at fb;have hg:∀x:Nat,cd[x]?=if off+i*k+j<=x/\x<off+i*k+j+xs.length then v.cells[x-(off+i*k+j)]? else arr[x]?:=by
      intro x;rw[<-oj,nW,BX (by simpa using dI)];simp[nJ]
     have yK:cd.size=arr.size:=by rw[<-oj];simp;simp at dI;omega
     have ko:=setRow_heap w b arr cd ii (0,0) av
     let ms:=lZ i j xs
     let bc:Own:=fun c=>nP t ms (ω c)
     have aC0:ms.at t=none:=by
      cases e:ms.at t with
      | none=>rfl
      | some p=>
       have o7:∀(ms:io) (p:Nat×Nat),ms.at t=some p->(t,p)∈ms:=by
        intro ms;induction ms with
        | nil=>intro p h;cases h
        | cons x ms ee=>
         intro p h;obtain⟨s,re⟩:=x;simp only[io.at]at h;split at h
         ·rename_i Bg;subst Bg;rw[eW h];exact hX
         exact iA _ (ee p h)
       exact absurd rfl (Tp uO (o7 ms p e)).1
     have da:∀c q,c<w.heap.size->ω c=.tok t q->bc c=.tok t q:=fun c q _ h=>by simp[bc,h,nP]
     have mL:∀c p q,c<w.heap.size->ω c=.tok t (p::q)->bc c=.tok t (p::q)/\(w.setRow b cd).heap[c]?=w.heap[c]?:=by
      intro c p q aj ew;exact⟨da c _ aj ew,setRow_other w b c cd fun e=>by rw[e,iT]at ew;cases ew⟩
     have hL:∀(g:Tag) c q,g≠.own t->g≠.ro t->(∀s,g=.own s\/g=.ro s->ms.at s=none)->g.R q (ω c)->g.R q (bc c)/\(w.setRow b cd).heap[c]?=w.heap[c]?:=by
      intro g c q h1 U ax ew;have gp:c≠b:=fun e=>by
       rw[e,iT]at ew;cases g with
       | free=>cases ew
       | own s=>simp only[Tag.R,db.tok.injEq]at ew;exact h1 (by rw[ew.1])
       | ro s=>
        rcases ew with h | ⟨dJ,h⟩
        ·cases h
        simp only[db.tok.injEq]at h;exact U (by rw[h.1])
      refine⟨?_,setRow_other w b c cd gp⟩;cases g with
      | free=>simp only[Tag.R]at ew ⊢;simp[bc,ew,nP]
      | own s=>
       simp only[Tag.R]at ew ⊢;simp only[bc,ew,nP];split
       ·rfl
       rw[ax s (.inl rfl)]
      | ro s=>
       simp only[Tag.R]at ew ⊢;rcases ew with h | ⟨dJ,h⟩
       ·left;simp[bc,h,nP]
       right;refine⟨dJ,?_⟩;simp only[bc,h,nP];split
       ·rfl
       rw[ax s (.inr rfl)]
     have Rx:b0 (w.setRow b cd) bc (Tag.own t).R (.J k (es.set i (lR ds j ys))) (.slice (some ⟨b,off,none⟩) es.length cap):=by
      have hlen:(es.set i (lR ds j ys)).length=es.length:=fR;have A6:ds.length=k:=ly;have fH:∀x y d,df (es.set i (lR ds j ys)) x y=some d->∃u,cd[off+x*k+y]?=some u/\b0 (w.setRow b cd) bc (fun q=>(Tag.own t).R ((x,y)::q)) d u:=by
       intro x y d er;rw[LI kp]at er;by_cases ah:x=i
       ·subst ah;rw[bm rfl,Sz (by omega)]at er;split at er
        ·rename_i bf;obtain⟨l,iu,c4⟩:=Ka _ _ er;obtain⟨u,f',eY⟩:=ao.2 _ _ iu;rcases c4 with c4 | ⟨a,bM,bV,m,rfl,hm,abx,rfl⟩
         case inr=>
          have IX:=acm a abx;subst IX;obtain⟨fW,r',tr,_⟩:=eY;have bu:u=fW:=by
           cases m with
           | at_ x y=>cases hm
           | here=>exact r'
           | mD=>exact r'
          subst bu;refine⟨u,?_,tr.frame fun c q aj ew=>?_⟩
          ·rw[hg,bm (by omega),<-f']
           congr 1;omega
          rw[show j+(y-j)=y by omega]at ew;exact mL c _ _ aj ew
         refine⟨u,?_,?_⟩
         ·rw[hg,bm (by omega),<-f']
          congr 1;omega
         have o7:∀s,l.tok=some s->ms.at s=some (x,y)/\s≠t:=by
          intro s dz;have:=KP x xs j (y-j) l s iu dz;rw[show j+(y-j)=y by omega]at this;obtain⟨h1,U⟩:=Tp uO this;exact⟨U,h1⟩
         cases l with
         | cA=>cases c4
         | v z=>
          simp only[aH.jA]at c4;split at c4
          ·simp only[aV]at c4;subst c4;have:u=z:=eY;subst this;exact .v _ _ ‹_›
          cases c4
         | bg c=>
          simp only[aH.jA,aV]at c4;subst c4;have:u=.bool c:=eY;subst this;exact .v _ _ rfl
         | ptr=>cases c4
         | cP=>cases c4
         | iK=>cases c4
         | fd=>cases c4
         | dw=>cases c4
         | hv=>cases c4
         | aQ=>cases c4
         | fN=>cases c4
         | J g bM bV=>
          cases g with
          | free=>cases c4
          | ro s=>cases c4
          | own s=>
           simp only[aH.jA,aV]at c4;subst c4;obtain⟨h1,U⟩:=o7 s rfl;refine eY.1.frame fun c q aj ew=>?_
           simp only[Tag.R]at ew ⊢;refine⟨?_,setRow_other w b c cd fun e=>?_⟩
           ·simp only[bc,ew,nP];rw[bk U,h1]
           rw[e,iT]at ew;simp only[db.tok.injEq]at ew;exact U ew.1.symm
        rename_i bf;have qQ:df es x y=some d:=by simp[df,eR,er]
        refine⟨us x y,?_,(aG x y d qQ).frame fun c q aj ew=>mL c _ _ aj ew⟩;rw[hg,bk (by omega),hu x y d qQ]
       rw[bk ah]at er;obtain⟨gi,adr⟩:=tJ hy er;refine⟨us x y,?_,(aG x y d er).frame fun c q aj ew=>mL c _ _ aj ew⟩;rw[hg,bk ?_,hu x y d er];rcases Nat.lt_or_gt_of_ne ah with h | h
       ·have:(x+1)*k<=i*k:=hF _ h;rw[gg]at this;omega
       have:(i+1)*k<=x*k:=hF _ h;rw[gg]at this;omega
      have q3:∀e∈es.set i (lR ds j ys),e.length=k:=by
       intro e he;rcases pH he with h | rfl
       ·exact hy e h
       rw[Tn (by omega)];exact A6
      have:=b0.row (w:=w.setRow b cd) (ω:=bc) (Tag.own t).R k (es.set i (lR ds j ys)) b off cap cd ii (0,0) (fun x y=>cd.getD (off+x*k+y) undef) ko (da b [] wD iT) (by omega) (by omega) q3
       (fun x y d ed=>by obtain⟨u,h1,_⟩:=fH x y d ed;rw[h1];simp[eG,h1])
       (fun x y d ed=>by obtain⟨u,h1,U⟩:=fH x y d ed;have:cd.getD (off+x*k+y) undef=u:=(by simp[eG,h1]);rw[this];exact U)
      rw[hlen]at this;exact this
     have e3:∀l v,Sat w ω τ l v->Sat (w.setRow b cd) bc τ (xg t ms k (es.set i (lR ds j ys)) l) v:=by
      intro l v dz;have A8:∀s,¬(ms.at s).isSome=true->ms.at s=none:=fun s h=>by
       cases e:ms.at s with
       | none=>rfl
       | some p=>simp[e]at h
      cases l with
      | cA=>exact trivial
      | v x=>exact dz
      | bg c=>exact dz
      | ptr id o=>
       obtain⟨c,aj,e⟩:=dz;exact⟨c,E7.2 aj,e⟩
      | aQ s a fG cX dS m=>
       simp only[xg];split
       ·exact trivial
       rename_i h1;split
       ·exact trivial
       rename_i U;obtain⟨u,hu,ml,hm⟩:=dz;have kO:∀c q,ω c=.tok s q->bc c=.tok s q/\(w.setRow b cd).heap[c]?=w.heap[c]?:=fun c q ew=>
        hL (.own s) c q (by simpa using h1) (by simp) (fun uf h=>by
         rcases h with h | h
         ·simp only[Tag.own.injEq]at h;subst h;exact A8 _ U
         cases h) ew
       refine⟨u,hu,ml.frame fun c q _ ew=>kO c _ ew,fun o5=>?_⟩;obtain⟨kT,c,rb,adF,qD,iD,iM,IA,d',a2,a3,a4⟩:=hm o5;obtain⟨e1,e2⟩:=kO c [] a2;exact⟨kT,c,rb,adF,qD,iD,iM,IA,d',e1,e2.trans a3,a4⟩
      | fN=>exact trivial
      | hv f ids=>
       obtain⟨bs,e,aX,hi⟩:=dz;refine⟨bs,e,aX,fun i id gE=>?_⟩;obtain⟨b,h1,U⟩:=hi i id gE;exact⟨b,h1,E7.2 U⟩
      | iK ta o=>
       obtain⟨c,e,ep⟩:=dz;exact⟨c,e,ep.frame fun c q _ ew=>hL .free c q (by simp) (by simp) (fun s h=>by rcases h with h | h<;>cases h) ew⟩
      | fd d=>
       exact b0.frame dz fun c q _ ew=>hL .free c q (by simp) (by simp) (fun s h=>by rcases h with h | h<;>cases h) ew
      | dw t2 bM bV=>exact⟨dz.1.frame fun c q _ ew=>hL .free c q (by simp) (by simp) (fun s h=>by rcases h with h | h<;>cases h) ew,dz.2⟩
      | J g bM bV=>
       cases g with
       | free=>exact⟨dz.1.frame fun c q _ ew=>hL .free c q (by simp) (by simp) (fun s h=>by rcases h with h | h<;>cases h) ew,aa⟩
       | own s=>
        simp only[xg];split
        ·rename_i Bg;subst Bg;have U:=dz.2;simp only[Tag.ev]at U;rw[bJ]at U;simp only[bH]at U;rw[<-U.2];exact⟨Rx,bJ⟩
        split
        ·exact trivial
        rename_i h1 U;exact⟨dz.1.frame fun c q _ ew=>hL (.own s) c q (by simpa using h1) (by simp) (fun uf h=>by
         rcases h with h | h
         ·simp only[Tag.own.injEq]at h;subst h;exact A8 _ U
         cases h) ew,dz.2⟩
       | ro s=>
        simp only[xg];split
        ·exact trivial
        split
        ·exact trivial
        rename_i h1 U;exact⟨dz.1.frame fun c q _ ew=>hL (.ro s) c q (by simp) (by simpa using h1) (fun uf h=>by
         rcases h with h | h
         ·cases h
         simp only[Tag.ro.injEq]at h;subst h;exact A8 _ U) ew,aa⟩
      | cP g bM bV i2 se=>
       obtain⟨fG,rb,qD,e,lc,ml,o5⟩:=dz;cases g with
       | free=>exact⟨fG,rb,qD,e,lc,ml.frame fun c q _ ew=>hL .free c q (by simp) (by simp) (fun s h=>by rcases h with h | h<;>cases h) ew,aa⟩
       | own s=>
        simp only[xg];split
        ·rename_i Bg;subst Bg;simp only[Tag.ev]at o5;rw[bJ]at o5;simp only[bH,Value.slice.injEq,aV,Addr.mk.injEq]at o5;obtain⟨rfl,⟨rfl,rfl,_⟩,c4,rfl⟩:=o5;refine⟨b,off,cap,e,by simp;omega,?_,?_⟩
         ·rw[fR];exact Rx
         rw[fR];exact bJ
        split
        ·exact trivial
        rename_i h1 U;exact⟨fG,rb,qD,e,lc,ml.frame fun c q _ ew=>hL (.own s) c q (by simpa using h1) (by simp) (fun uf h=>by
         rcases h with h | h
         ·simp only[Tag.own.injEq]at h;subst h;exact A8 _ U
         cases h) ew,o5⟩
       | ro s=>
        simp only[xg];split
        ·exact trivial
        split
        ·exact trivial
        rename_i h1 U;exact⟨fG,rb,qD,e,lc,ml.frame fun c q _ ew=>hL (.ro s) c q (by simp) (by simpa using h1) (fun uf h=>by
         rcases h with h | h
         ·cases h
         simp only[Tag.ro.injEq]at h;subst h;exact A8 _ U) ew,aa⟩
     refine⟨w.setRow b cd,?_,bc,τ,a8.dC _ e3 ?_ ?_ ?_ ?_⟩
     ·simp only[Instr.storeAt,Instr.sureAddr,Sem.run_bind,Sem.run_pure,Result.andThen_ok,storeVar,sizeOf,typeInfo,run_program,e2];have JB:¬(v.cells.size≠inf.size):=by simp;omega
      rw[bk JB];exact fb
     ·exact a8.below.setRow wQ cd
     ·intro c gp;have:ω c≠.bI:=fun e=>gp (avC.2 e)
      obtain⟨ax,iD,iM,aF⟩:=a8.owned c this;by_cases qP:c=b
      ·subst qP;exact⟨ax,cd,ii,ko⟩
      exact⟨ax,iD,iM,(setRow_other w b c cd qP).trans aF⟩
     ·intro id c gp;exact⟨E7.2 gp,setRow_other w b c cd fun e=>by rw[e,iT]at gp;cases gp⟩
     intro id c gp;exact E7.1 gp
   cases h
  cases h
 cases h
end Go.Sx
namespace Go.Sx
open Go.RowKit
def mq(w:World)(d:D)(y:Value):Prop:=b0 w (fun _=>.bI) Tag.free.R d y
def uv(w:World):cQ->Value->Prop
 | .one d,y=>mq w d y
 | .agg ds,y=>∃vs:Array Value,y=.agg vs/\vs.size=ds.length/\∀(i:Nat) (d:D),ds[i]?=some d->∃u,vs[i]?=some u/\mq w d u
def EM(w:World)(hc:List cQ)(vs:Array Value):Prop:=vs.size=hc.length/\∀(i:Nat) (cm:cQ),hc[i]?=some cm->∃v,vs[i]?=some v/\uv w cm v
def mR(w:World)(ω:Own)(r:Nat):cQ->Value->Prop
 | .one d,y=>b0 w ω (Tag.own (100*r)).R d y
 | .agg ds,y=>∃vs:Array Value,y=.agg vs/\vs.size=ds.length/\∀(j:Nat) (d:D),ds[j]?=some d->∃u,vs[j]?=some u/\b0 w ω (Tag.own (100*r+j)).R d u
def nQ(w:World)(ω:Own)(rs:List cQ)(v:Value):Prop:=
 match rs with
 | [cm]=>mR w ω 0 cm v
 | rs=>∃vs:Array Value,v=.tuple vs/\vs.size=rs.length/\∀(r:Nat) (cm:cQ),rs[r]?=some cm->∃y,vs[r]?=some y/\mR w ω r cm y
def yd(w0 w:World)(rs:List cQ)(v:Value):Prop:=
 ∃ω:Own,(∀b,b<w0.heap.size->ω b=.bI)/\(∀b,ω b≠.bI->(∃t q,ω b=.tok t q)/\∃arr ty,w.heap[b]?=some (.cells arr ty (0,0)))/\nQ w ω rs v
def jn(P:Program)(f:FuncId)(args rs:List cQ):Prop:=
 ∀(w:World) (vs:Array Value),pM w->EM w args vs->Calls P f vs w fun e aO=>∃v,e=.returned v/\hb w.heap.size w aO/\yd w aO rs v
def aH.hd:aH->Option D
 | .v x=>if x.oneCell' then some (.v x) else none
 | .bg c=>some (.v (.bool c))
 | .J _ k es=>some (.J k es)
 | .iK ds off=>if off=0 then some (.ptr ds) else none
 | .fd d=>some d
 | .dw _ k es=>some (.J k es)
 | .aQ _ _ _ k es .here=>some (.J k es)
 | .aQ _ _ _ k es .mD=>some (.J k es)
 | _=>none
abbrev mA:=List (Nat×List aH)
def yi(bs:mA)(id:Nat):Option D:=(dM id bs).bind fun ls=>(ls.mapM aH.hd).map .ptr
def aH.kI(bs:mA):aH->Option D
 | .ptr id off=>if off=0 then yi bs id else none
 | .hv g ids=>(ids.mapM (yi bs)).map (.cl g)
 | l=>l.hd
def bn.kI(bs:mA):bn->Option cQ
 | .one l=>(l.kI bs).map .one
 | .agg ls=>(ls.mapM (aH.kI bs)).map .agg
def aL.kI(bs:mA):aL->Option cQ
 | .aI a=>a.kI bs
 | _=>none
variable{w:World}{ω:Own}{d:D}{y:Value}
theorem b0.free{R:List (Nat×Nat)->db->Prop}(h:b0 w ω R d y):mq w d y:=
 h.frame fun _ _ _ _=>⟨rfl,rfl⟩
variable{τ:Nat->Nat×Value}
theorem aH.QB{l:aH}(h:l.hd=some d)(ao:Sat w ω τ l y):mq w d y:=by
 cases l with
 | cA=>cases h
 | v x=>
  simp only[aH.hd]at h;split at h
  ·simp only[aV]at h;subst h;have:y=x:=ao;subst this;exact .v _ _ ‹_›
  cases h
 | bg c=>
  simp only[aH.hd,aV]at h;subst h;have:y=.bool c:=ao;subst this;exact .v _ _ rfl
 | J t k es=>simp only[aH.hd,aV]at h;subst h;exact ao.1.free
 | ptr=>cases h
 | cP=>cases h
 | hv=>cases h
 | fN=>cases h
 | iK ds off=>
  simp only[aH.hd]at h;split at h
  ·rename_i ba;subst ba;simp only[aV]at h;subst h;obtain⟨b,rfl,aA⟩:=ao;exact aA.free
  cases h
 | fd dP=>simp only[aH.hd,aV]at h;subst h;exact b0.free ao
 | dw t k es=>simp only[aH.hd,aV]at h;subst h;exact b0.free ao.1
 | aQ t i j k es m=>
  obtain⟨u,hu,aA,_⟩:=ao;cases m with
  | at_ x z=>cases h
  | here=>simp only[aH.hd,aV]at h;subst h;have:y=u:=hu;subst this;exact aA.free
  | mD=>simp only[aH.hd,aV]at h;subst h;have:y=u:=hu;subst this;exact aA.free
def xh(w:World)(ω:Own)(τ:Nat->Nat×Value)(bs:mA):Prop:=∀id ls,dM id bs=some ls->uw w ω τ id ls
variable{bs:mA}
theorem Tr(av:xh w ω τ bs){id b:Nat}(h:yi bs id=some d)(ba:ω b=.box id):mq w d (ptrTo b):=by
 unfold yi at h;cases e:dM id bs with
 | none=>simp[e]at h
 | some ls=>
  simp only[e,nX,cc]at h;obtain⟨ds,h1,rfl⟩:=h;obtain⟨dc,arr,ty,dL,hu,bJ,ao⟩:=av id ls e;have:=hu b ba;subst this;obtain⟨U,ax⟩:=oy h1;have cell:∀j d,ds[j]?=some d->arr[j]?=some (arr.getD j undef)/\mq w d (arr.getD j undef):=by
   intro j d aG;obtain⟨l,ap,c4⟩:=ax j d aG;obtain⟨u,f',eY⟩:=ao.2 j l ap;have e2:arr.getD j undef=u:=by simp[eG,f']
   rw[e2];exact⟨f',aH.QB c4 eY⟩
  exact b0.ptr _ ds b arr ty (0,0) (fun j=>arr.getD j undef) bJ rfl (by have:=ao.1;omega) (fun j d aG=>(cell j d aG).1) (fun j d aG=>(cell j d aG).2.frame fun _ _ _ _=>⟨rfl,rfl⟩)
theorem aH.yh(av:xh w ω τ bs){l:aH}(h:l.kI bs=some d)(ao:Sat w ω τ l y):mq w d y:=by
 unfold aH.kI at h;split at h
 ·rename_i id off;split at h
  ·rename_i ba;subst ba;obtain⟨b,h1,rfl⟩:=ao;exact Tr av h h1
  cases h
 ·rename_i g ids;rw[cc]at h;obtain⟨ds,h1,rfl⟩:=h;obtain⟨oU,rfl,aX,hi⟩:=ao;obtain⟨U,ax⟩:=oy h1;have cell:∀j d,ds[j]?=some d->(oU.map ptrTo).toArray[j]?=some ((oU.map ptrTo).toArray.getD j undef)/\mq w d ((oU.map ptrTo).toArray.getD j undef):=by
   intro j d aG;obtain⟨id,gE,I5⟩:=ax j d aG;obtain⟨b,fZ,gK⟩:=hi j id gE;have e1:(oU.map ptrTo).toArray[j]?=some (ptrTo b):=by simp[fZ]
   have e2:(oU.map ptrTo).toArray.getD j undef=ptrTo b:=by rw[eG,e1];rfl
   rw[e2];exact⟨e1,Tr av I5 gK⟩
  exact b0.cl _ g ds _ (fun j=>(oU.map ptrTo).toArray.getD j undef) (by simp;omega) (fun j d aG=>(cell j d aG).1) (fun j d aG=>(cell j d aG).2.frame fun _ _ _ _=>⟨rfl,rfl⟩)
 exact aH.QB h ao
theorem aL.yh(av:xh w ω τ bs){p:aL}{cm:cQ}(h:p.kI bs=some cm)(ao:cW (Sat w ω τ) p y):uv w cm y:=by
 cases p with
 | gf as=>cases h
 | aI a=>
  cases a with
  | one l=>
   simp only[aL.kI,bn.kI,cc]at h;obtain⟨d,h1,rfl⟩:=h;exact aH.yh av h1 ao
  | agg ls=>
   simp only[aL.kI,bn.kI,cc]at h;obtain⟨ds,h1,rfl⟩:=h;obtain⟨U,ax⟩:=oy h1;obtain⟨vs,rfl,aX,bp⟩:=ao;refine⟨vs,rfl,by omega,fun i d aG=>?_⟩;obtain⟨l,ap,c4⟩:=ax i d aG;obtain⟨u,hu,eY⟩:=bp i l ap;exact⟨u,hu,aH.yh av c4 eY⟩
def hD(P:Program)(g:FuncId):Bool:=
 match P.funcs[g]? with
 | some fn => !(fn.name == "runtime.NumGoroutine") && !fn.body.isNone
 | none=>false
def D.qn(t:Nat):D->aH
 | .v (.bool c)=>.bg c
 | .v x=>.v x
 | .J k es=>.J (.own t) k es
 | .ptr _=>.cA
 | .cl _ _=>.cA
def oz(t:Nat):Nat->List D->List aH
 | _,[]=>[]
 | j,d::ds=>d.qn (t+j)::oz t (j+1) ds
theorem B1(t:Nat):∀(ds:List D) (j i:Nat),(oz t j ds)[i]?=(ds[i]?).map (D.qn (t+(j+i)))
 | [],_,_=>by simp[oz]
 | d::ds,j,0=>by simp[oz]
 | d::ds,j,i+1=>by
  simp only[oz,oL,B1 t ds (j+1) i];rw[show j+1+i=j+(i+1) by omega]
theorem y9(t:Nat):∀(ds:List D) (j:Nat),(oz t j ds).length=ds.length
 | [],_=>rfl
 | d::ds,j=>by simp[oz,y9 t ds (j+1)]
def cQ.res(t:Nat):cQ->bn
 | .one d=>.one (d.qn t)
 | .agg ds=>.agg (oz t 0 ds)
def ry(t:Nat):Nat->List cQ->List bn
 | _,[]=>[]
 | r,a::as=>a.res (t+100*r)::ry t (r+1) as
theorem EN(t:Nat):∀(as:List cQ) (r i:Nat),(ry t r as)[i]?=(as[i]?).map (cQ.res (t+100*(r+i)))
 | [],_,_=>by simp[ry]
 | d::ds,j,0=>by simp[ry]
 | d::ds,j,i+1=>by
  simp only[ry,oL,EN t ds (j+1) i];rw[show j+1+i=j+(i+1) by omega]
theorem EO(t:Nat):∀(as:List cQ) (r:Nat),(ry t r as).length=as.length
 | [],_=>rfl
 | d::ds,j=>by simp[ry,EO t ds (j+1)]
def ud(t:Nat):List cQ->aL
 | [a]=>.aI (a.res t)
 | as=>.gf (ry t 0 as)
def va(rs:List cQ):Bool:=rs.length<100&&rs.all fun | .one _=>true | .agg ds=>ds.length<100
def hj(t:Nat):Tag->Option Tag
 | .free=>some .free
 | .own s=>if t<=s/\s<t+10000 then some .free else some (.own s)
 | .ro s=>if t<=s/\s<t+10000 then some .free else some (.ro s)
def py(t:Nat):db->db
 | .tok s q=>if t<=s/\s<t+10000 then .bI else .tok s q
 | o=>o
def Ts(t:Nat):db->db
 | .tok s q=>.tok (t+s) q
 | _=>.bI
def cQ.cell(j:Nat):cQ->Option D
 | .one d=>if j=0 then some d else none
 | .agg ds=>ds[j]?
def qS(rs:List cQ)(n:Nat):Nat:=
 match (rs[n / 100]?).bind (cQ.cell (n % 100)) with
 | some (.J k _)=>k
 | _=>0
def om(rs:List cQ)(v:Value)(n:Nat):Value:=
 match rs with
 | [_]=>v.cells.getD (n % 100) undef
 | _=>match v with
  | .tuple vs=>(vs.getD (n / 100) undef).cells.getD (n % 100) undef
  | _=>undef
def aJ.wq(st:aJ)(t:Nat):aJ:=st.map (aH.cu (hj t) fun _=>true)
theorem cJ.called{w0:eT}{st:aJ}{a:Act}{aO:World}(a8:cJ w0 st a w ω τ)(t:Nat){rs:List cQ}{v:Value}
  (dI:va rs=true) (iU:t+10000<=dn) (av:hb w.heap.size w aO) (fi:yd w aO rs v):
  ∃bc cY,cJ w0 (st.wq t) a aO bc cY/\cW (Sat aO bc cY) (ud t rs) v:=by
 obtain⟨fK,lS,ly,lT⟩:=fi
 let bc:Own:=fun b=>if b<w.heap.size then py t (ω b) else Ts t (fK b)
 let cY:Nat->Nat×Value:=fun s=>if t<=s/\s<t+10000 then (qS rs (s-t),om rs v (s-t)) else τ s
 have hold:∀b,b<w.heap.size->bc b=py t (ω b):=fun b av=>by simp only[bc];rw[bm av]
 have gL:∀b,¬b<w.heap.size->bc b=Ts t (fK b):=fun b av=>by simp only[bc];rw[bk av]
 have br:mB w ω τ aO bc cY (hj t) (fun _=>true):=by
  refine⟨?_,?_,?_,rfl,fun s ao=>by simp only[cY];rw[bk (by omega)]⟩
  ·intro g eI b q ay bz aK;refine⟨?_,av.block b bz⟩;rw[hold b bz];cases g with
   | free=>simp only[hj,aV]at ay;subst ay;simp only[Tag.R]at aK ⊢;rw[aK];rfl
   | own s=>
    simp only[Tag.R]at aK;simp only[hj]at ay;rw[aK];simp only[py];split at ay
    ·simp only[aV]at ay;subst ay;rw[bm ‹_›];rfl
    simp only[aV]at ay;subst ay;rw[bk ‹_›];rfl
   | ro s=>
    simp only[Tag.R]at aK;simp only[hj]at ay;split at ay
    ·simp only[aV]at ay;subst ay;rcases aK with h | ⟨dJ,h⟩
     ·rw[h];rfl
     rw[h];simp only[py];rw[bm ‹_›];rfl
    simp only[aV]at ay;subst ay;rcases aK with h | ⟨dJ,h⟩
    ·rw[h];exact .inl rfl
    rw[h];simp only[py];rw[bk ‹_›];exact .inr ⟨dJ,rfl⟩
  ·intro g eI y ay bf;cases g with
   | free=>simp only[hj,aV]at ay;subst ay;exact trivial
   | own s=>
    simp only[hj]at ay;split at ay
    ·simp only[aV]at ay;subst ay;exact trivial
    simp only[aV]at ay;subst ay;simp only[Tag.ev,cY]at bf ⊢;rw[bk ‹_›];exact bf
   | ro s=>
    simp only[hj]at ay;split at ay
    ·simp only[aV]at ay;subst ay;exact trivial
    simp only[aV]at ay;subst ay;exact trivial
  intro id b _ cy;have bz:=a8.owned.lt (b:=b) (by simp[cy]);rw[hold b bz,cy];rfl
 have cell:∀(n:Nat) (d:D) (u:Value),n<10000->om rs v n=u->(∀k es,d=.J k es->qS rs n=k)->b0 aO fK (Tag.own n).R d u->Sat aO bc cY (d.qn (t+n)) u:=by
  intro n d u aX bp hk aA;cases d with
  | v x=>
   have e:u=x:=by cases aA;rfl
   subst e;unfold D.qn;split
   ·rename_i h;cases h;exact rfl
   ·rename_i h;cases h;exact rfl
   ·rename_i h;cases h
   ·exact trivial
   exact trivial
  | ptr ds=>exact trivial
  | cl g bx=>exact trivial
  | J k es=>
   refine⟨aA.frame fun b q bz aK=>⟨?_,rfl⟩,?_⟩
   ·simp only[Tag.R]at aK ⊢;have:¬b<w.heap.size:=fun h=>by have:=lS b h;rw[this]at aK;cases aK
    rw[gL b this,aK];rfl
   simp only[Tag.ev,cY];rw[bm (by omega),show t+n-t=n by omega,bp,hk k es rfl]
 have uB:∀(r:Nat) (cm:cQ) (y:Value),r<100->(∀ds,cm=.agg ds->ds.length<100)->rs[r]?=some cm->(∀j,j<100->om rs v (100*r+j)=y.cells.getD j undef)->mR aO fK r cm y->k8 (Sat aO bc cY) (cm.res (t+100*r)) y:=by
  intro r cm y aA eR Be bp pW;have hy:∀j,j<100->qS rs (100*r+j)=(match cQ.cell j cm with | some (.J k _)=>k | _=>0):=by
   intro j a1;unfold qS;rw[show (100*r+j) / 100=r by omega,show (100*r+j) % 100=j by omega,Be];rfl
  cases cm with
  | one d=>
   have h1:=pW.qa;have U:=bp 0 (by omega);rw[BW h1]at U;have:=cell (100*r) d y (by omega) (by simpa using U) (fun k es e=>by
    have:=hy 0 (by omega);rw[np]at this;rw[this,e];rfl) pW
   exact this
  | agg ds=>
   obtain⟨vs,rfl,aX,a1⟩:=pW;refine⟨vs,rfl,by rw[y9];exact aX,fun j l ap=>?_⟩;rw[B1,cc]at ap;obtain⟨d,aG,rfl⟩:=ap;obtain⟨u,hu,Bf⟩:=a1 j d aG;have jF:j<100:=by
    have:=(ek.1 aG).1;have:=eR ds rfl;omega
   refine⟨u,hu,?_⟩;have:=cell (100*r+j) d u (by omega) (by rw[bp j jF];simp[Value.cells,eG,hu]) (fun k es e=>by
    rw[hy j jF];simp only[cQ.cell,aG,e]) Bf
   rw[show t+100*r+(0+j)=t+(100*r+j) by omega];exact this
 simp only[va,cx,cV]at dI;have eR:∀(r:Nat) (cm:cQ),rs[r]?=some cm->∀ds,cm=.agg ds->ds.length<100:=by
  intro r cm aA ds e;have:=gx.1 dI.2 cm (ft aA);subst e;simpa using this
 refine⟨bc,cY,a8.dC _ br.sat (a8.below.next av) ?_ ?_ ?_ (fun s ao=>by simp only[cY];rw[bk (by omega)]),?_⟩
 ·intro b gD;by_cases bz:b<w.heap.size
  ·rw[hold b bz]at gD;have U:ω b≠.bI:=fun e=>by rw[e]at gD;exact gD rfl
   obtain⟨ax,arr,ty,aF⟩:=a8.owned b U;exact⟨ax,arr,ty,(av.block b bz).trans aF⟩
  rw[gL b bz]at gD;have U:fK b≠.bI:=fun e=>by rw[e]at gD;exact gD rfl
  obtain⟨_,arr,ty,aF⟩:=ly b U;exact⟨.inl (by have:=a8.below.size;omega),arr,ty,aF⟩
 ·intro id b cy;have bz:=a8.owned.lt (b:=b) (by simp[cy]);exact⟨br.box id b rfl cy,av.block b bz⟩
 ·intro id b cy;by_cases bz:b<w.heap.size
  ·rw[hold b bz]at cy;cases e:ω b with
   | bI=>rw[e]at cy;cases cy
   | box i=>rw[e]at cy;exact cy
   | tok s q=>rw[e]at cy;simp only[py]at cy;split at cy<;>cases cy
  ·rw[gL b bz]at cy;cases e:fK b<;>(rw[e]at cy;cases cy)
 cases rs with
 | nil=>
  obtain⟨vs,rfl,aX,_⟩:=lT;exact⟨vs,rfl,aX,fun i a ak=>by simp[ry]at ak⟩
 | cons cm rest=>
  cases rest with
  | nil=>
   have:=uB 0 cm v (by omega) (eR 0 cm rfl) rfl (fun j a1=>by
    unfold om;simp only[Nat.mul_zero,dF];rw[Ao a1]) lT
   exact this
  | cons QA rest=>
   obtain⟨vs,rfl,aX,bp⟩:=lT;refine⟨vs,rfl,by rw[EO];exact aX,fun i a ak=>?_⟩;rw[EN,cc]at ak;obtain⟨oS,h1,rfl⟩:=ak;obtain⟨y,bf,A1⟩:=bp i oS h1;have kp:i<100:=by
    have:=(ek.1 h1).1;omega
   refine⟨y,bf,?_⟩;have:=uB i oS y kp (eR i oS h1) h1 (fun j a1=>by
    unfold om;simp only;rw[show (100*i+j) / 100=i by omega,show (100*i+j) % 100=j by omega];simp[eG,bf]) A1
   rw[dF];exact this
end Go.Sx
namespace Go.Sx
open Go.RowKit
inductive eB where
 | ro (d:D)
 | eO (k:Nat) (es:List (List D)) (post:Option (List (List D)))
inductive GA where
 | one (c:eB)
 | agg (cs:List eB)
def fu(i j:Nat):Nat:=dn+(100*i+j)
def GA.cell(j:Nat):GA->Option eB
 | .one c=>if j=0 then some c else none
 | .agg cs=>cs[j]?
def cellOf(v:Value)(j:Nat):Value:=v.cells.getD j undef
def wg(w:World)(ω:Own)(t:Nat):eB->Value->Prop
 | .ro d,y=>b0 w ω Tag.free.R d y
 | .eO k es _,y=>b0 w ω (Tag.own t).R (.J k es) y
def Qw(w:World)(ω:Own)(i:Nat):GA->Value->Prop
 | .one c,y=>wg w ω (fu i 0) c y
 | .agg cs,y=>∃vs:Array Value,y=.agg vs/\vs.size=cs.length/\∀(j:Nat) (c:eB),cs[j]?=some c->∃u,vs[j]?=some u/\wg w ω (fu i j) c u
def H0(w:World)(ω:Own):Prop:=∀b,ω b≠.bI->(∃t q,ω b=.tok t q/\dn<=t)/\∃arr ty,w.heap[b]?=some (.cells arr ty (0,0))
def HZ(w:World)(ω:Own)(args:List GA)(vs:Array Value):Prop:=H0 w ω/\vs.size=args.length/\∀(i:Nat) (eJ:GA),args[i]?=some eJ->∃v,vs[i]?=some v/\Qw w ω i eJ v
def Kept(w:World)(ω:Own)(args:List GA)(vs:Array Value):Prop:=
 ∀(i j:Nat) (eJ:GA) (k:Nat) (es cv:List (List D)),args[i]?=some eJ->eJ.cell j=some (.eO k es (some cv))->b0 w ω (Tag.own (fu i j)).R (.J k cv) (cellOf (vs.getD i undef) j)
def jo(P:Program)(f:FuncId)(args:List GA)(rs:List cQ):Prop:=
 ∀(w:World) (vs:Array Value) (ω:Own),HZ w ω args vs->Tidy w ω->Calls P f vs w fun e aO=>∃v,e=.returned v/\ha ⟨w,fun b=>ω b≠.bI,fun _=>(0,undef)⟩ aO/\
  ∃bc:Own,(∀b,b<w.heap.size->ω b=.bI->bc b=.bI)/\(∀b,bc b≠.bI->(∃t q,bc b=.tok t q)/\∃arr ty,aO.heap[b]?=some (.cells arr ty (0,0)))/\Kept aO bc args vs/\nQ aO bc rs v
structure dA where
 i:Nat
 j:Nat
 t:Nat
 p:Option (Nat×Nat)
 k:Nat
 es:List (List D)
 post:Option (List (List D))
abbrev qA:=Option (Option (List (List D)))
def yk(bs:mA)(i j:Nat):qA->aH->Option (eB×List dA×List aH)
 | none,l=>(l.kI bs).map fun d=>(.ro d,[],[l])
 | some post,.J (.own t) k es=>some (.eO k es post,[⟨i,j,t,none,k,es,post⟩],[])
 | some post,.aQ t a b k es .here=>some (.eO k es post,[⟨i,j,t,some (a,b),k,es,post⟩],[])
 | _,_=>none
def qh(bs:mA)(i:Nat):Nat->List qA->List aH->Option (List eB×List dA×List aH)
 | _,[],[]=>some ([],[],[])
 | j,m::ms,l::ls=>
  match yk bs i j m l,qh bs i (j+1) ms ls with
  | some (c,h,r),some (cs,ao,rs)=>some (c::cs,h++ao,r++rs)
  | _,_=>none
 | _,_,_=>none
def Ay(bs:mA)(i:Nat)(ms:List qA):aL->Option (GA×List dA×List aH)
 | .aI (.one l)=>match ms with | [m]=>(yk bs i 0 m l).map fun r=>(.one r.1,r.2) | _=>none
 | .aI (.agg ls)=>(qh bs i 0 ms ls).map fun r=>(.agg r.1,r.2)
 | _=>none
def wm(bs:mA):Nat->List (List qA)->List aL->Option (List GA×List dA×List aH)
 | _,[],[]=>some ([],[],[])
 | i,ms::Ko,p::cr=>
  match Ay bs i ms p,wm bs (i+1) Ko cr with
  | some (a,h,r),some (as,ao,rs)=>some (a::as,h++ao,r++rs)
  | _,_=>none
 | _,_,_=>none
def sO(ao:List dA)(t:Nat):Bool:=ao.any fun h=>h.t==t
def Tag.ou(ao:List dA):Tag->Bool
 | .free=>false
 | .own t=>sO ao t
 | .ro t=>sO ao t
def aH.p6(ao:List dA):aH->Bool
 | .J t _ _=>t.ou ao
 | .cP t _ _ _ _=>t.ou ao
 | .aQ t _ _ _ _ _=>sO ao t
 | .fN _ _=>true
 | _=>false
def aH.ou(bs:mA)(ao:List dA):aH->Bool
 | .ptr id _=>match dM id bs with | some ls=>ls.any (aH.p6 ao) | none=>true
 | .hv _ ids=>ids.any fun id=>match dM id bs with | some ls=>ls.any (aH.p6 ao) | none=>true
 | l=>l.p6 ao
def dA.apart(h y:dA):Bool:=
 (h.i != y.i||h.j != y.j)&&(h.t != y.t||match h.p,y.p with | some p,some q=>p.2 != q.2 | _,_=>false)
def pz:List dA->Bool
 | []=>true
 | h::r=>decide (h.j<100)&&(r.all (dA.apart h)&&pz r)
theorem Tt:∀{ao:List dA},pz ao=true->∀h∈ao,∀y∈ao,h=y\/(dA.apart h y=true\/dA.apart y h=true)
 | [],_,h,bJ,_,_=>by cases bJ
 | x::r,hk,h,bJ,y,bf=>by
  simp only[pz,cx,gx]at hk;rcases eP.1 bJ with e1 | Rj
  ·rcases eP.1 bf with e2 | JH
   ·exact .inl (e1.trans e2.symm)
   rw[e1];exact .inr (.inl (hk.2.1 y JH))
  rcases eP.1 bf with e2 | JH
  ·rw[e2];exact .inr (.inr (hk.2.1 h Rj))
  exact Tt hk.2.2 h Rj y JH
theorem Tu:∀{ao:List dA},pz ao=true->∀h∈ao,h.j<100
 | [],_,h,bJ=>by cases bJ
 | x::r,hk,h,bJ=>by
  simp only[pz,cx,cV]at hk;rcases eP.1 bJ with rfl | bJ
  ·exact hk.1
  exact Tu hk.2.2 h bJ
def dA.fit(h:dA)(t:Nat)(q:List (Nat×Nat)):Option (List (Nat×Nat)):=
 if h.t=t then
  match h.p,q with
  | none,q=>some q
  | some p,x::dJ=>if x=p then some dJ else none
  | some _,[]=>none
 else none
def ob(t:Nat)(q:List (Nat×Nat)):List dA->Option (Nat×List (Nat×Nat))
 | []=>none
 | h::r=>match h.fit t q with | some dJ=>some (fu h.i h.j,dJ) | none=>ob t q r
variable{h:dA}{t:Nat}{q:List (Nat×Nat)}
theorem avE{y:dA}{q1 iv:List (Nat×Nat)}(h1:h.fit t q=some q1)(U:y.fit t q=some iv):dA.apart h y=false:=by
 unfold dA.fit at h1 U;split at h1
 ·rename_i e1;split at U
  ·rename_i e2;have cg:(h.t != y.t)=false:=by simp[e1,e2]
   simp only[dA.apart,cg,kF,Bool.and_eq_false_imp];intro _;split at h1
   ·rename_i hp;rw[hp]
   ·rename_i p x dJ hp;split at h1
    ·rename_i ah;split at U
     ·rename_i tp;rw[hp,tp]
     ·rename_i Si gS aDp tp heq;split at U
      ·rename_i iV;rw[hp,tp];simp only[sU]at heq;obtain⟨rfl,_⟩:=heq;subst ah;subst iV;simp
      cases U
     cases U
    cases h1
   cases h1
  cases U
 cases h1
theorem LN{t:Nat}{q dJ:List (Nat×Nat)}:∀{ao:List dA},pz ao=true->∀{h:dA},h∈ao->h.fit t q=some dJ->ob t q ao=some (fu h.i h.j,dJ)
 | [],_,h,bJ,_=>by cases bJ
 | x::r,hk,h,bJ,b2=>by
  have Ji:=hk;simp only[pz,cx,gx]at hk;simp only[ob];rcases eP.1 bJ with rfl | bJ
  ·rw[b2]
  cases e:x.fit t q with
  | none=>exact LN hk.2.2 bJ b2
  | some iv=>
   have:=avE e b2;rw[hk.2.1 h bJ]at this;cases this
theorem B2{g:Nat}{dJ:List (Nat×Nat)}:∀{ao:List dA},ob t q ao=some (g,dJ)->∃h∈ao,h.fit t q=some dJ/\g=fu h.i h.j
 | [],h=>by cases h
 | x::r,h=>by
  simp only[ob]at h;split at h
  ·rename_i iv e;simp only[aV,bH]at h;obtain⟨rfl,rfl⟩:=h;exact⟨x,hX,e,rfl⟩
  obtain⟨y,bf,U⟩:=B2 h;exact⟨y,iA _ bf,U⟩
theorem Tv{dJ:List (Nat×Nat)}(e:h.fit t q=some dJ):h.t=t/\q=h.p.toList++dJ:=by
 unfold dA.fit at e;split at e
 ·rename_i e1;refine⟨e1,?_⟩;split at e
  ·rename_i hp;simp only[aV]at e;rw[hp,e];rfl
  ·rename_i p x iv hp;split at e
   ·rename_i ah;simp only[aV]at e;rw[hp,ah,e];rfl
   cases e
  cases e
 cases e
theorem Tw(h:dA)(q:List (Nat×Nat)):h.fit h.t (h.p.toList++q)=some q:=by
 unfold dA.fit;rw[bm rfl];cases h.p with
 | none=>rfl
 | some p=>simp
def gu(ao:List dA)(ω:Own):Own:=fun b=>
 match ω b with
 | .tok t q=>match ob t q ao with | some (g,dJ)=>.tok g dJ | none=>.bI
 | _=>.bI
def DU(g:Nat):List dA->Option dA
 | []=>none
 | h::r=>if fu h.i h.j=g then some h else DU g r
theorem Tx:∀{ao:List dA},pz ao=true->∀{h:dA},h∈ao->DU (fu h.i h.j) ao=some h
 | [],_,h,bJ=>by cases bJ
 | x::r,hk,h,bJ=>by
  have a1:=Tu hk;have Ji:=hk;simp only[pz,cx,gx]at hk;simp only[DU];rcases eP.1 bJ with rfl | r7
  ·rw[bm rfl]
  rw[bk]
  ·exact Tx hk.2.2 r7
  intro e;have h1:=a1 x hX;have U:=a1 h (iA _ r7);have ax:=hk.2.1 h r7;simp only[dA.apart,cx,oO,bne_iff_ne,gy]at ax;simp only[fu]at e;omega
def B3(ao:List dA)(t0:Nat):db->db
 | .tok s q=>if dn<=s then (match DU s ao with | some h=>.tok h.t (h.p.toList++q) | none=>.bI) else .tok (t0+s) q
 | _=>.bI
def xi(t:Nat):List dA->Option dA
 | []=>none
 | h::r=>if h.t=t then some h else xi t r
theorem Ty:∀{ao:List dA},xi t ao=none->sO ao t=false
 | [],_=>rfl
 | h::r,e=>by
  simp only[xi]at e;split at e
  ·cases e
  rename_i cC;have:=Ty e;simp only[sO,wa,hG]at this ⊢;exact⟨by simpa using cC,this⟩
theorem Tz:∀{ao:List dA},xi t ao=some h->h∈ao/\h.t=t
 | [],e=>by cases e
 | x::r,e=>by
  simp only[xi]at e;split at e
  ·simp only[aV]at e;subst e;exact⟨hX,‹_›⟩
  obtain⟨h1,U⟩:=Tz e;exact⟨iA _ h1,U⟩
def nR:List dA->List D->List D
 | [],ds=>ds
 | h::r,ds=>match h.p,h.post with
  | some p,some es=>nR r (ds.set p.2 (.J h.k es))
  | _,_=>nR r ds
def sn(ao:List dA)(t0 iz pd:Nat)(qF:List (List D)):aH->aH
 | .J (.own t) k es=>
  match xi t ao with
  | some h=>match h.p,h.post with
   | none,some cv=>.J (.own t) h.k cv
   | none,none=>.cA
   | some _,_=>if t=iz then .J (.own t) pd qF else .cA
  | none=>aH.cu (hj t0) (fun _=>true) (.J (.own t) k es)
 | l=>if l.p6 ao then .cA else l.cu (hj t0) fun _=>true
end Go.Sx
namespace Go.Sx
open Go.RowKit
variable{ao:List dA}
theorem avF{t:Nat}(h:sO ao t=false):∀y∈ao,y.t≠t:=by
 intro y bf e;simp only[sO,ik,dE]at h;exact h y bf e
theorem LO{t:Nat}(h:sO ao t=false)(q:List (Nat×Nat)):ob t q ao=none:=by
 cases e:ob t q ao with
 | none=>rfl
 | some x=>
  obtain⟨g,dJ⟩:=x;obtain⟨y,bf,b2,_⟩:=B2 e;exact absurd (Tv b2).1 (avF h y bf)
structure DI (w:World) (ω:Own) (τ:Nat->Nat×Value) (h:dA) (u:Value):Prop where
 rep:b0 w ω (fun q o=>o=.tok h.t (h.p.toList++q)) (.J h.k h.es) u
 root:h.p=none->τ h.t=(h.k,u)
 cell:∀a b,h.p=some (a,b)->∃(kT bX off len cap:Nat) (arr:Array Value) (ty:TypeId) (c3:Nat×Nat),τ h.t=(kT,.slice (some ⟨bX,off,none⟩) len cap)/\ω bX=.tok h.t []/\w.heap[bX]?=some (.cells arr ty c3)/\arr[off+a*kT+b]?=some u
structure Qz (w:World) (ω:Own) (τ:Nat->Nat×Value) (ao:List dA) (iz pd:Nat) (qF:List (List D)):Prop where
 ex:∀h∈ao,∀p,h.p=some p->h.t=iz->∃(dS:List (List D)) (y:Value) (ds:List D) (a:Nat),Sat w ω τ (.J (.own iz) pd dS) y/\dS[a]?=some ds/\ds.length=pd/\qF=dS.set a (nR ao ds)/\
  ∀x∈ao,∀q,x.p=some q->x.t=iz/\q.1=a/\∃cv,x.post=some cv
theorem B4:∀(ao:List dA) (ds:List D),(nR ao ds).length=ds.length
 | [],_=>rfl
 | h::r,ds=>by
  simp only[nR];split
  ·rw[B4 r,fR]
  exact B4 r ds
theorem LP{y:Nat}{d:D}:∀{ao:List dA} {ds:List D},(nR ao ds)[y]?=some d->(∃h∈ao,∃a cv,h.p=some (a,y)/\h.post=some cv/\d=.J h.k cv)\/ds[y]?=some d/\∀h∈ao,∀a cv,h.p=some (a,y)->h.post=some cv->False
 | [],ds,h=>.inr ⟨h,fun _ bJ=>by cases bJ⟩
 | h::r,ds,aG=>by
  simp only[nR]at aG;split at aG
  ·rename_i p cv e1 e2;rcases LP aG with⟨x,ah,a,bV,h1,U,ax⟩ | ⟨h1,U⟩
   ·exact .inl ⟨x,iA _ ah,a,bV,h1,U,ax⟩
   rw[k6]at h1;split at h1
   ·rename_i hp;split at h1
    ·simp only[aV]at h1;exact .inl ⟨h,hX,p.1,cv,by rw[e1,<-hp],e2,h1.symm⟩
    cases h1
   rename_i hp;refine .inr ⟨h1,fun x ah a bV ax aF=>?_⟩;rcases eP.1 ah with rfl | ah
   ·rw[e1]at ax;simp only[aV]at ax;rw[ax]at hp;exact hp rfl
   exact U x ah a bV ax aF
  rename_i cC;rcases LP aG with⟨x,ah,a,bV,h1,U,ax⟩ | ⟨h1,U⟩
  ·exact .inl ⟨x,iA _ ah,a,bV,h1,U,ax⟩
  refine .inr ⟨h1,fun x ah a bV ax aF=>?_⟩;rcases eP.1 ah with rfl | ah
  ·exact cC _ _ ax aF
  exact U x ah a bV ax aF
theorem cJ.aa4{w0:eT}{st:aJ}{a:Act}{w aO:World}{ω:Own}{τ:Nat->Nat×Value}(a8:cJ w0 st a w ω τ)(t0:Nat){rs:List cQ}{v:Value}{H:Nat->Nat×Value}
  (cF:pz ao=true) (dI:va rs=true) (iU:t0+10000<=dn) (RH:∀h∈ao,¬(t0<=h.t/\h.t<t0+10000)) (av:ha ⟨w,fun b=>gu ao ω b≠.bI,H⟩ aO) (fK:Own)
  (lS:∀b,b<w.heap.size->gu ao ω b=.bI->fK b=.bI) (ly:∀b,fK b≠.bI->(∃t q,fK b=.tok t q)/\∃arr ty,aO.heap[b]?=some (.cells arr ty (0,0))) (lT:nQ aO fK rs v)
  (vals:dA->Value) (Jk:∀h∈ao,∀cv,h.post=some cv->b0 aO fK (Tag.own (fu h.i h.j)).R (.J h.k cv) (vals h)) (hh:∀h∈ao,DI w ω τ h (vals h))
  {iz pd:Nat} {qF:List (List D)} (j5:Qz w ω τ ao iz pd qF):
  ∃bc cY,cJ w0 (st.map (sn ao t0 iz pd qF)) a aO bc cY/\cW (Sat aO bc cY) (ud t0 rs) v:=by
 classical
 let bc:Own:=fun b=>if b<w.heap.size/\gu ao ω b=.bI then py t0 (ω b) else B3 ao t0 (fK b)
 let cY:Nat->Nat×Value:=fun s=>if t0<=s/\s<t0+10000 then (qS rs (s-t0),om rs v (s-t0)) else τ s
 have hold:∀b,b<w.heap.size->gu ao ω b=.bI->bc b=py t0 (ω b):=fun b av h=>by simp only[bc];rw[bm ⟨av,h⟩]
 have gL:∀b,fK b≠.bI->bc b=B3 ao t0 (fK b):=fun b av=>by
  simp only[bc];rw[bk];rintro⟨h1,U⟩;exact av (lS b h1 U)
 have hblk:∀b,b<w.heap.size->gu ao ω b=.bI->aO.heap[b]?=w.heap[b]?:=fun b bz h=>av.block b bz (fun aX=>aX h)
 have qV:∀b,ω b=.bI->gu ao ω b=.bI:=fun b h=>by simp only[gu,h]
 have abA:∀b id,ω b=.box id->gu ao ω b=.bI:=fun b id h=>by simp only[gu,h]
 have kP:∀b s q,ω b=.tok s q->ob s q ao=none->gu ao ω b=.bI:=fun b s q h U=>by simp only[gu,h,U]
 have tz:∀h∈ao,cY h.t=τ h.t:=fun h bJ=>by simp only[cY];rw[bk (RH h bJ)]
 have fU:∀(g eI:Tag) (b:Nat) (q:List (Nat×Nat)),g.ou ao=false->hj t0 g=some eI->b<w.heap.size->g.R q (ω b)->eI.R q (bc b)/\aO.heap[b]?=w.heap[b]?:=by
  intro g eI b q hm ay bz aK;have hi:gu ao ω b=.bI:=by
   cases g with
   | free=>exact qV b aK
   | own s=>exact kP b s q aK (LO hm q)
   | ro s=>
    rcases aK with h | ⟨dJ,h⟩
    ·exact qV b h
    exact kP b s dJ h (LO hm dJ)
  refine⟨?_,hblk b bz hi⟩;rw[hold b bz hi];cases g with
  | free=>simp only[hj,aV]at ay;subst ay;simp only[Tag.R]at aK ⊢;rw[aK];rfl
  | own s=>
   simp only[Tag.R]at aK;simp only[hj]at ay;rw[aK];simp only[py];split at ay
   ·simp only[aV]at ay;subst ay;rw[bm ‹_›];rfl
   simp only[aV]at ay;subst ay;rw[bk ‹_›];rfl
  | ro s=>
   simp only[Tag.R]at aK;simp only[hj]at ay;split at ay
   ·simp only[aV]at ay;subst ay;rcases aK with h | ⟨dJ,h⟩
    ·rw[h];rfl
    rw[h];simp only[py];rw[bm ‹_›];rfl
   simp only[aV]at ay;subst ay;rcases aK with h | ⟨dJ,h⟩
   ·rw[h];exact .inl rfl
   rw[h];simp only[py];rw[bk ‹_›];exact .inr ⟨dJ,rfl⟩
 have Ki:∀(g eI:Tag) (y:Nat×Value),hj t0 g=some eI->g.ev τ y->eI.ev cY y:=by
  intro g eI y ay bf;cases g with
  | free=>simp only[hj,aV]at ay;subst ay;exact trivial
  | own s=>
   simp only[hj]at ay;split at ay
   ·simp only[aV]at ay;subst ay;exact trivial
   simp only[aV]at ay;subst ay;simp only[Tag.ev,cY]at bf ⊢;rw[bk ‹_›];exact bf
  | ro s=>
   simp only[hj]at ay;split at ay
   ·simp only[aV]at ay;subst ay;exact trivial
   simp only[aV]at ay;subst ay;exact trivial
 have yP:∀id b,ω b=.box id->bc b=.box id/\aO.heap[b]?=w.heap[b]?:=by
  intro id b cy;have bz:=a8.owned.lt (b:=b) (by simp[cy]);have hi:=abA b id cy;exact⟨by rw[hold b bz hi,cy];rfl,hblk b bz hi⟩
 have R4:∀h∈ao,∀cv,h.post=some cv->b0 aO bc (fun q o=>o=.tok h.t (h.p.toList++q)) (.J h.k cv) (vals h):=by
  intro h bJ cv he;refine (Jk h bJ cv he).frame fun b q _ aK=>⟨?_,rfl⟩
  simp only[Tag.R]at aK;rw[gL b (by rw[aK];simp),aK];simp only[B3];rw[bm (by simp[fu]),Tx cF bJ]
 have e3:∀l y,Sat w ω τ l y->Sat aO bc cY (sn ao t0 iz pd qF l) y:=by
  intro l y dz;have plain:∀g k es,g.ou ao=false->Sat w ω τ (.J g k es) y->Sat aO bc cY (aH.cu (hj t0) (fun _=>true) (.J g k es)) y:=by
   intro g k es hm p2;simp only[aH.cu];cases ay:hj t0 g with
   | none=>exact trivial
   | some eI=>exact⟨p2.1.frame fun b q bz aK=>fU g eI b q hm ay bz aK,Ki g eI _ ay p2.2⟩
  cases l with
  | cA=>exact trivial
  | v x=>exact dz
  | bg c=>exact dz
  | ptr id off=>
   obtain⟨b,h1,U⟩:=dz;exact⟨b,(yP id b h1).1,U⟩
  | hv f ids=>
   obtain⟨bs,e,aX,hi⟩:=dz;simp only[sn,aH.p6,nY,lP,aH.cu];split
   ·refine⟨bs,e,aX,fun i id gE=>?_⟩;obtain⟨b,h1,U⟩:=hi i id gE;exact⟨b,h1,(yP id b U).1⟩
   exact trivial
  | iK ds off=>
   obtain⟨b,e,aA⟩:=dz;exact⟨b,e,aA.frame fun b q bz aK=>fU .free .free b q rfl rfl bz aK⟩
  | fd d=>exact b0.frame dz fun b q bz aK=>fU .free .free b q rfl rfl bz aK
  | dw t k es=>exact⟨b0.frame dz.1 fun b q bz aK=>fU .free .free b q rfl rfl bz aK,fun bT=>(show cY t=τ t by simp only[cY];rw[bk (by omega)]).trans (dz.2 bT)⟩
  | aQ t i j k es m=>
   simp only[sn];by_cases hm:aH.p6 ao (.aQ t i j k es m)=true
   ·rw[bm hm];exact trivial
   rw[bk hm];simp only[v7]at hm;replace hm:sO ao t=false:=hm;simp only[aH.cu];split
   ·rename_i di ay;split
    ·rename_i bT;subst bT;obtain⟨fW,r',h1,acH⟩:=dz;refine⟨fW,r',h1.frame fun c q aj aK=>fU (.own di) _ c _ hm ay aj aK,fun aca=>?_⟩;obtain⟨kT,b,off,len,cap,arr,ty,c3,U,aZ,ax,aF⟩:=acH aca;have bz:b<w.heap.size:=(iB.1 ax).1;have hk:=fU (.own di) _ b [] hm ay bz aZ;exact⟨kT,b,off,len,cap,arr,ty,c3,Ki _ _ _ ay U,hk.1,hk.2.trans ax,aF⟩
    exact trivial
   exact trivial
  | fN t vs=>
   simp only[sn,aH.p6,fX];exact trivial
  | cP g k es i j=>
   simp only[sn];by_cases hm:aH.p6 ao (.cP g k es i j)=true
   ·rw[bm hm];exact trivial
   rw[bk hm];simp only[v7]at hm;replace hm:g.ou ao=false:=hm;obtain⟨b,off,cap,e,hi,aA,bJ⟩:=dz;simp only[aH.cu];cases ay:hj t0 g with
   | none=>exact trivial
   | some eI=>exact⟨b,off,cap,e,hi,aA.frame fun b q bz aK=>fU g eI b q hm ay bz aK,Ki g eI _ ay bJ⟩
  | J g k es=>
   cases g with
   | free=>exact plain .free k es rfl dz
   | ro s=>
    simp only[sn];by_cases hm:aH.p6 ao (.J (.ro s) k es)=true
    ·rw[bm hm];exact trivial
    rw[bk hm];simp only[v7]at hm;exact plain (.ro s) k es hm dz
   | own s=>
    simp only[sn];cases b2:xi s ao with
    | none=>exact plain (.own s) k es (Ty b2) dz
    | some h=>
     obtain⟨bJ,rfl⟩:=Tz b2;simp only;have bp:=hh h bJ;have ev:τ h.t=(k,y):=dz.2;split
     ·
      rename_i cv hp he;have e1:=bp.root hp;rw[ev]at e1;simp only[bH]at e1;obtain⟨rfl,e2⟩:=e1;have aA:=R4 h bJ cv he;rw[hp,<-e2]at aA;exact⟨aA,by simp only[Tag.ev];rw[tz h bJ,ev]⟩
     ·exact trivial
     -- parts of it
     rename_i p hp;split
     ·rename_i u0;obtain⟨dS,my,ds,a0,yI,eR,qR,rfl,iF⟩:=j5.ex h bJ p hp u0;have I7:τ iz=(pd,my):=yI.2;rw[<-u0,ev]at I7;simp only[bH]at I7;obtain⟨rfl,rfl⟩:=I7;obtain⟨tr,_⟩:=yI;have hlen:(dS.set a0 (nR ao ds)).length=dS.length:=fR;have Q0:a0<dS.length:=(ek.1 eR).1;refine⟨?_,by simp only[Tag.ev];rw[tz h bJ,ev]⟩;generalize bf:y=Qt at tr;cases tr with
      | nil=>simp at Q0
      | row R k dS bX off cap arr ty c3 us IZ ej abL c' hk hu aG=>
       subst bf;have D':ω bX=.tok h.t []:=by rw[u0];exact ej
       have Rz:∀x∈ao,x.fit iz []=none:=by
        intro x ah;unfold dA.fit;split
        ·rename_i ext;cases Ez:x.p with
         | some q=>simp
         | none=>
          exfalso;have cC:dA.apart h x=true\/dA.apart x h=true\/h=x:=by
           rcases Tt cF h bJ x ah with e | e | e
           ·exact .inr (.inr e)
           ·exact .inl e
           exact .inr (.inl e)
          have r0:∀y z:dA,y.t=z.t->(y.p=none\/z.p=none)->dA.apart y z=true->False:=by
           intro y z e1 e2 cg;simp only[dA.apart,e1,cx,oO,bne_self_eq_false,nY,false_or]at cg;rcases e2 with e2 | e2
           ·simp[e2]at cg
           ·rw[e2]at cg;cases hyp:y.p<;>simp[hyp]at cg
          rcases cC with e | e | e
          ·exact r0 h x (by rw[ext,u0]) (.inr Ez) e
          ·exact r0 x h (by rw[ext,u0]) (.inl Ez) e
          rw[<-e,hp]at Ez;cases Ez
        rfl
       have la:ob iz [] ao=none:=by
        cases e:ob iz [] ao with
        | none=>rfl
        | some z=>
         obtain⟨g,dJ⟩:=z;obtain⟨x,ah,RV,_⟩:=B2 e;rw[Rz x ah]at RV;cases RV
       have aby:bX<w.heap.size:=(iB.1 IZ).1;have aCG:gu ao ω bX=.bI:=kP bX iz [] ej la;have acT:¬(t0<=iz/\iz<t0+10000):=by rw[<-u0];exact RH h bJ
       have RC:∀b q,b<w.heap.size->ω b=.tok iz q->ob iz q ao=none->bc b=.tok iz q/\aO.heap[b]?=w.heap[b]?:=by
        intro b q bz aK aX;have hi:=kP b iz q aK aX;refine⟨?_,hblk b bz hi⟩;rw[hold b bz hi,aK];simp only[py];rw[bk acT]
       have RB:∀x y d,df dS x y=some d->(∀z∈ao,z.p≠some (x,y))->b0 aO bc (fun q=>(Tag.own iz).R ((x,y)::q)) d (us x y):=by
        intro x y d aj bi;refine (aG x y d aj).frame fun b q bz aK=>?_
        refine RC b _ bz aK ?_;cases e:ob iz ((x,y)::q) ao with
        | none=>rfl
        | some r=>
         obtain⟨g,dJ⟩:=r;obtain⟨z,Bu,adu,_⟩:=B2 e;obtain⟨e1,e2⟩:=Tv adu;exfalso;cases sd:z.p with
         | none=>
          have:=Rz z Bu;unfold dA.fit at this;rw[bm e1,sd]at this;simp at this
         | some r=>
          rw[sd]at e2;simp only[HW,List.cons_append,List.nil_append,sU]at e2;exact bi z Bu (by rw[sd,<-e2.1])
       have key:∀x y d,df (dS.set a0 (nR ao ds)) x y=some d->b0 aO bc (fun q=>(Tag.own iz).R ((x,y)::q)) d (us x y):=by
        intro x y d aj;by_cases ah:x=a0
        ·subst ah;have ly:(nR ao ds)[y]?=some d:=by
          simpa[df,k6,Q0]using aj
         rcases LP ly with⟨z,bi,d',cv,h1,U,rfl⟩ | ⟨h1,U⟩
         ·obtain⟨e1,e2,_⟩:=iF z bi _ h1;have e2:d'=x:=e2;subst e2;obtain⟨kT,eC,aDg,aDa,aCi,aCe,aDy,aCx,g1,g2,g3,g4⟩:=(hh z bi).cell _ _ h1;rw[e1,<-u0,ev]at g1;simp only[bH,Value.slice.injEq,aV,Addr.mk.injEq]at g1;obtain⟨rfl,⟨rfl,rfl,_⟩,_,_⟩:=g1;rw[IZ]at g3;simp only[aV,Obj.cells.injEq]at g3;obtain⟨rfl,_,_⟩:=g3;have adq:y<ds.length:=by
           have:=(ek.1 ly).1;rwa[B4]at this
          have fH:df dS d' y=some ds[y]:=by simp[df,eR,adq]
          have adi:us d' y=vals z:=by
           have:=hu d' y _ fH;rw[g4]at this;exact (eW this).symm
          rw[adi];have aA:=R4 z bi cv U;rw[h1,e1]at aA;exact aA
         have fH:df dS x y=some d:=by simp[df,eR,h1]
         refine RB x y d fH fun z bi sd=>?_
         obtain⟨_,_,cv,he⟩:=iF z bi _ sd;exact U z bi x cv sd he
        have fH:df dS x y=some d:=by
         simp only[df,k6]at aj;rw[bk (by omega)]at aj;exact aj
        refine RB x y d fH fun z bi sd=>?_
        obtain⟨_,e2,_⟩:=iF z bi _ sd;exact ah e2
       have fZ:=RC bX [] aby ej la;have:=b0.row (w:=aO) (ω:=bc) (Tag.own iz).R k (dS.set a0 (nR ao ds)) bX off cap arr ty c3 us (fZ.2.trans IZ) fZ.1 (by rw[hlen];exact abL) c'
        (fun e he=>by
         rcases pH he with eu | rfl
         ·exact hk e eu
         rw[B4];exact qR)
        (fun x y d aj=>by
         have gi:x<dS.length/\y<k:=by
          have Ji:∀e∈dS.set a0 (nR ao ds),e.length=k:=fun e he=>by
           rcases pH he with eu | rfl
           ·exact hk e eu
           rw[B4];exact qR
          have eu:x<(dS.set a0 (nR ao ds)).length/\y<k:=by
           unfold df at aj;cases uE:(dS.set a0 (nR ao ds))[x]? with
           | none=>simp[uE]at aj
           | some row=>
            simp only[uE,nX]at aj;have hm:=Ji row (ft uE);exact⟨(ek.1 uE).1,by rw[<-hm];exact (ek.1 aj).1⟩
          rw[hlen]at eu;exact eu
         have uY:(dS[x]'gi.1).length=k:=hk _ (nn gi.1);exact hu x y ((dS[x]'gi.1)[y]'(by omega)) (by simp[df,gi.1,uY,gi.2]))
        key
       rw[hlen]at this;rw[u0];exact this
     exact trivial
 have cell:∀(n:Nat) (d:D) (u:Value),n<10000->om rs v n=u->(∀k es,d=.J k es->qS rs n=k)->b0 aO fK (Tag.own n).R d u->Sat aO bc cY (d.qn (t0+n)) u:=by
  intro n d u aX bp hk aA;cases d with
  | v x=>
   have e:u=x:=by cases aA;rfl
   subst e;unfold D.qn;split
   ·rename_i h;cases h;exact rfl
   ·rename_i h;cases h;exact rfl
   ·rename_i h;cases h
   ·exact trivial
   exact trivial
  | ptr ds=>exact trivial
  | cl g bx=>exact trivial
  | J k es=>
   refine⟨aA.frame fun b q bz aK=>⟨?_,rfl⟩,?_⟩
   ·simp only[Tag.R]at aK ⊢;rw[gL b (by rw[aK];simp),aK];simp only[B3];rw[bk (by simp only[dn];omega)]
   simp only[Tag.ev,cY];rw[bm (by omega),show t0+n-t0=n by omega,bp,hk k es rfl]
 have uB:∀(r:Nat) (cm:cQ) (y:Value),r<100->(∀ds,cm=.agg ds->ds.length<100)->rs[r]?=some cm->(∀j,j<100->om rs v (100*r+j)=y.cells.getD j undef)->mR aO fK r cm y->k8 (Sat aO bc cY) (cm.res (t0+100*r)) y:=by
  intro r cm y aA eR Be bp pW;have hy:∀j,j<100->qS rs (100*r+j)=(match cQ.cell j cm with | some (.J k _)=>k | _=>0):=by
   intro j a1;unfold qS;rw[show (100*r+j) / 100=r by omega,show (100*r+j) % 100=j by omega,Be];rfl
  cases cm with
  | one d=>
   have h1:=pW.qa;have U:=bp 0 (by omega);rw[BW h1]at U;have:=cell (100*r) d y (by omega) (by simpa using U) (fun k es e=>by
    have:=hy 0 (by omega);rw[np]at this;rw[this,e];rfl) pW
   exact this
  | agg ds=>
   obtain⟨vs,rfl,aX,a1⟩:=pW;refine⟨vs,rfl,by rw[y9];exact aX,fun j l ap=>?_⟩;rw[B1,cc]at ap;obtain⟨d,aG,rfl⟩:=ap;obtain⟨u,hu,Bf⟩:=a1 j d aG;have jF:j<100:=by
    have:=(ek.1 aG).1;have:=eR ds rfl;omega
   refine⟨u,hu,?_⟩;have:=cell (100*r+j) d u (by omega) (by rw[bp j jF];simp[Value.cells,eG,hu]) (fun k es e=>by
    rw[hy j jF];simp only[cQ.cell,aG,e]) Bf
   rw[show t0+100*r+(0+j)=t0+(100*r+j) by omega];exact this
 simp only[va,cx,cV]at dI;have eR:∀(r:Nat) (cm:cQ),rs[r]?=some cm->∀ds,cm=.agg ds->ds.length<100:=by
  intro r cm aA ds e;have:=gx.1 dI.2 cm (ft aA);subst e;simpa using this
 have Rv:∀b,ω b≠.bI->w0.EF b:=fun b h=>(a8.owned b h).1
 have Ri:∀b,gu ao ω b≠.bI->ω b≠.bI:=fun b h e=>h (qV b e)
 refine⟨bc,cY,a8.dC _ e3 ?_ ?_ (fun id b cy=>yP id b cy) ?_ (fun s ao=>by simp only[cY];rw[bk (by omega)]),?_⟩
 ·refine⟨av.os.trans a8.below.os,av.tape.trans a8.below.tape,av.output.trans a8.below.output,sW a8.below.size av.size,fun k hk ay=>?_,fun ao=>sW (a8.below.drawn ao) (av.drawn ao),av.laid,a8.below.free⟩;have dd:k<w.heap.size:=Aj hk a8.below.size;have hi:gu ao ω k=.bI:=by
   cases e:gu ao ω k with
   | bI=>rfl
   | _=>
    have:=Rv k (Ri k (by rw[e];simp));rcases this with h | h
    ·omega
    exact absurd h ay
  exact (hblk k dd hi).trans (a8.below.block k hk ay)
 ·intro b gD;by_cases aj:b<w.heap.size/\gu ao ω b=.bI
  ·rw[hold b aj.1 aj.2]at gD;have U:ω b≠.bI:=fun e=>by rw[e]at gD;exact gD rfl
   obtain⟨ax,arr,ty,aF⟩:=a8.owned b U;exact⟨ax,arr,ty,(hblk b aj.1 aj.2).trans aF⟩
  have U:fK b≠.bI:=fun e=>by
   simp only[bc]at gD;rw[bk aj,e]at gD;exact gD rfl
  obtain⟨_,arr,ty,aF⟩:=ly b U;refine⟨?_,arr,ty,aF⟩;rcases pI b w.heap.size with bz | nF
  ·exact Rv b (Ri b fun e=>aj ⟨bz,e⟩)
  exact .inl (by have:=a8.below.size;omega)
 ·intro id b cy;by_cases aj:b<w.heap.size/\gu ao ω b=.bI
  ·rw[hold b aj.1 aj.2]at cy;cases e:ω b with
   | bI=>rw[e]at cy;cases cy
   | box i=>rw[e]at cy;exact cy
   | tok s q=>rw[e]at cy;simp only[py]at cy;split at cy<;>cases cy
  simp only[bc]at cy;rw[bk aj]at cy;cases e:fK b with
  | bI=>rw[e]at cy;cases cy
  | box i=>rw[e]at cy;cases cy
  | tok s q=>
   rw[e]at cy;simp only[B3]at cy;split at cy
   ·split at cy<;>cases cy
   cases cy
 cases rs with
 | nil=>
  obtain⟨vs,rfl,aX,_⟩:=lT;exact⟨vs,rfl,aX,fun i a ak=>by simp[ry]at ak⟩
 | cons cm rest=>
  cases rest with
  | nil=>
   have:=uB 0 cm v (by omega) (eR 0 cm rfl) rfl (fun j a1=>by
    unfold om;simp only[Nat.mul_zero,dF];rw[Ao a1]) lT
   exact this
  | cons QA rest=>
   obtain⟨vs,rfl,aX,bp⟩:=lT;refine⟨vs,rfl,by rw[EO];exact aX,fun i a ak=>?_⟩;rw[EN,cc]at ak;obtain⟨oS,h1,rfl⟩:=ak;obtain⟨y,bf,A1⟩:=bp i oS h1;have kp:i<100:=by
    have:=(ek.1 h1).1;omega
   refine⟨y,bf,?_⟩;have:=uB i oS y kp (eR i oS h1) h1 (fun j a1=>by
    unfold om;simp only;rw[show (100*i+j) / 100=i by omega,show (100*i+j) % 100=j by omega];simp[eG,bf]) A1
   rw[dF];exact this
end Go.Sx
namespace Go.Sx
open Go.RowKit
variable{w:World}{ω:Own}{τ:Nat->Nat×Value}{ao:List dA}{l:aH}{d:D}{y:Value}
theorem TA(h:l.hd=some d)(hm:l.p6 ao=false)(dz:Sat w ω τ l y):b0 w (gu ao ω) Tag.free.R d y:=by
 have qV:∀b,ω b=.bI->gu ao ω b=.bI:=fun b h=>by simp only[gu,h]
 have kP:∀b s q,ω b=.tok s q->sO ao s=false->gu ao ω b=.bI:=fun b s q h U=>by simp only[gu,h,LO U]
 have tag:∀(g:Tag) (b:Nat) (q:List (Nat×Nat)),g.ou ao=false->g.R q (ω b)->gu ao ω b=.bI:=by
  intro g b q ay aK;cases g with
  | free=>exact qV b aK
  | own s=>exact kP b s q aK ay
  | ro s=>
   rcases aK with h | ⟨dJ,h⟩
   ·exact qV b h
   exact kP b s dJ h ay
 cases l with
 | cA=>cases h
 | v x=>
  simp only[aH.hd]at h;split at h
  ·simp only[aV]at h;subst h;have:y=x:=dz;subst this;exact .v _ _ ‹_›
  cases h
 | bg c=>
  simp only[aH.hd,aV]at h;subst h;have:y=.bool c:=dz;subst this;exact .v _ _ rfl
 | J t k es=>simp only[aH.hd,aV]at h;subst h;exact dz.1.frame fun b q _ aK=>⟨tag t b q hm aK,rfl⟩
 | ptr=>cases h
 | cP=>cases h
 | hv=>cases h
 | fN=>cases h
 | iK ds off=>
  simp only[aH.hd]at h;split at h
  ·rename_i ba;subst ba;simp only[aV]at h;subst h;obtain⟨b,rfl,aA⟩:=dz;exact aA.frame fun b q _ aK=>⟨qV b aK,rfl⟩
  cases h
 | fd dP=>simp only[aH.hd,aV]at h;subst h;exact b0.frame dz fun b q _ aK=>⟨qV b aK,rfl⟩
 | dw t k es=>simp only[aH.hd,aV]at h;subst h;exact b0.frame dz.1 fun b q _ aK=>⟨qV b aK,rfl⟩
 | aQ t i j k es m=>
  obtain⟨u,hu,aA,_⟩:=dz;cases m with
  | at_ x z=>cases h
  | here=>simp only[aH.hd,aV]at h;subst h;have:y=u:=hu;subst this;exact aA.frame fun b q _ aK=>⟨kP b t _ aK hm,rfl⟩
  | mD=>simp only[aH.hd,aV]at h;subst h;have:y=u:=hu;subst this;exact aA.frame fun b q _ aK=>⟨kP b t _ aK hm,rfl⟩
variable{bs:mA}
theorem TB(av:xh w ω τ bs){id b:Nat}(h:yi bs id=some d)(hm:(match dM id bs with | some ls=>ls.any (aH.p6 ao) | none=>true)=false)(ba:ω b=.box id):
  b0 w (gu ao ω) Tag.free.R d (ptrTo b):=by
 unfold yi at h;cases e:dM id bs with
 | none=>simp[e]at h
 | some ls=>
  rw[e]at hm;simp only[ik,v7]at hm;simp only[e,nX,cc]at h;obtain⟨ds,h1,rfl⟩:=h;obtain⟨dc,arr,ty,dL,hu,bJ,dz⟩:=av id ls e;have:=hu b ba;subst this;obtain⟨U,ax⟩:=oy h1;have cell:∀j d,ds[j]?=some d->arr[j]?=some (arr.getD j undef)/\b0 w (gu ao ω) Tag.free.R d (arr.getD j undef):=by
   intro j d aG;obtain⟨l,ap,c4⟩:=ax j d aG;obtain⟨u,f',eY⟩:=dz.2 j l ap;have e2:arr.getD j undef=u:=by simp[eG,f']
   rw[e2];exact⟨f',TA c4 (hm l (ft ap)) eY⟩
  exact b0.ptr _ ds b arr ty (0,0) (fun j=>arr.getD j undef) bJ (by show gu ao ω b=.bI;simp only[gu,ba]) (by have:=dz.1;omega) (fun j d aG=>(cell j d aG).1) (fun j d aG=>(cell j d aG).2.frame fun _ _ _ h=>⟨h,rfl⟩)
theorem avG(av:xh w ω τ bs)(h:l.kI bs=some d)(hm:l.ou bs ao=false)(dz:Sat w ω τ l y):
  b0 w (gu ao ω) Tag.free.R d y:=by
 unfold aH.kI at h;split at h
 ·rename_i id off;split at h
  ·rename_i ba;subst ba;obtain⟨b,h1,rfl⟩:=dz;exact TB av h hm h1
  cases h
 ·rename_i g ids;rw[cc]at h;obtain⟨ds,h1,rfl⟩:=h;obtain⟨oU,rfl,aX,hi⟩:=dz;obtain⟨U,ax⟩:=oy h1;simp only[aH.ou,ik,v7]at hm;have cell:∀j d,ds[j]?=some d->(oU.map ptrTo).toArray[j]?=some ((oU.map ptrTo).toArray.getD j undef)/\b0 w (gu ao ω) Tag.free.R d ((oU.map ptrTo).toArray.getD j undef):=by
   intro j d aG;obtain⟨id,gE,I5⟩:=ax j d aG;obtain⟨b,fZ,gK⟩:=hi j id gE;have e1:(oU.map ptrTo).toArray[j]?=some (ptrTo b):=by simp[fZ]
   have e2:(oU.map ptrTo).toArray.getD j undef=ptrTo b:=by rw[eG,e1];rfl
   rw[e2];exact⟨e1,TB av I5 (hm id (ft gE)) gK⟩
  exact b0.cl _ g ds _ (fun j=>(oU.map ptrTo).toArray.getD j undef) (by simp;omega) (fun j d aG=>(cell j d aG).1) (fun j d aG=>(cell j d aG).2.frame fun _ _ _ h=>⟨h,rfl⟩)
 rename_i wN acI;have wL:l.p6 ao=false:=by
  unfold aH.ou at hm;split at hm
  ·exact absurd rfl (wN _ _)
  ·exact absurd rfl (acI _ _)
  exact hm
 exact TA h wL dz
structure aaP (w:World) (ω:Own) (τ:Nat->Nat×Value) (ao:List dA) (i j:Nat) (c:eB) (ah:List dA) (y:Value):Prop where
 gc:wg w (gu ao ω) (fu i j) c y
 at_:∀h∈ah,h.i=i/\h.j=j/\DI w ω τ h y/\c=.eO h.k h.es h.post
 one:y.oneCell'=true
variable{i:Nat}
theorem LQ(cF:pz ao=true)(av:xh w ω τ bs){j:Nat}{m:qA}{c:eB}{ah:List dA}{rx:List aH}
  (h:yk bs i j m l=some (c,ah,rx)) (j5:∀x∈ah,x∈ao) (yH:∀x∈rx,x.ou bs ao=false) (dz:Sat w ω τ l y):aaP w ω τ ao i j c ah y:=by
 unfold yk at h;split at h
 ·rw[cc]at h;obtain⟨d,h1,h⟩:=h;simp only[bH]at h;obtain⟨rfl,rfl,rfl⟩:=h;have:=avG av h1 (yH _ (by simp)) dz;exact⟨this,fun x ah=>by simp at ah,this.qa⟩
 ·rename_i post t k es;simp only[aV,bH]at h;obtain⟨rfl,rfl,rfl⟩:=h;have o7:=j5 _ (hX);refine⟨dz.1.frame fun b q _ aK=>⟨?_,rfl⟩,fun x ah=>?_,dz.1.qa⟩
  ·simp only[Tag.R]at aK ⊢;simp only[gu,aK];have:=LN (t:=t) (q:=q) (dJ:=q) cF o7 (Tw ⟨i,j,t,none,k,es,post⟩ q);simp only[this]
  simp only[List.mem_singleton]at ah;subst ah;exact⟨rfl,rfl,⟨dz.1.frame fun b q _ aK=>⟨aK,rfl⟩,fun _=>dz.2,fun a b e=>by cases e⟩,rfl⟩
 ·rename_i post t a b k es;simp only[aV,bH]at h;obtain⟨rfl,rfl,rfl⟩:=h;have o7:=j5 _ (hX);obtain⟨fW,r',dz⟩:=dz;have:y=fW:=r';subst this;refine⟨dz.1.frame fun c q _ aK=>⟨?_,rfl⟩,fun x ah=>?_,dz.1.qa⟩
  ·simp only[Tag.R]at aK ⊢;simp only[gu,aK];have:=LN (t:=t) (q:=(a,b)::q) (dJ:=q) cF o7 (Tw ⟨i,j,t,some (a,b),k,es,post⟩ q);simp only[this]
  simp only[List.mem_singleton]at ah;subst ah;refine⟨rfl,rfl,⟨dz.1.frame fun b q _ aK=>⟨aK,rfl⟩,fun e=>(by cases e),fun cK dc e=>?_⟩,rfl⟩;simp only[aV,bH]at e;obtain⟨rfl,rfl⟩:=e;exact dz.2 rfl
 cases h
theorem TC:∀{ms:List qA} {ls:List aH} {j:Nat} {cs:List eB} {ah:List dA} {rx:List aH},qh bs i j ms ls=some (cs,ah,rx)->cs.length=ls.length
 | [],[],j,cs,ah,rx,h=>by simp only[qh,aV,bH]at h;obtain⟨rfl,_,_⟩:=h;rfl
 | m::ms,l::ls,j,cs,ah,rx,h=>by
  simp only[qh]at h;split at h
  ·rename_i c h1 bF QM kq z6 e1 e2;simp only[aV,bH]at h;obtain⟨rfl,_,_⟩:=h;simp[TC e2]
  cases h
 | [],_::_,j,cs,ah,rx,h=>by simp[qh]at h
 | _::_,[],j,cs,ah,rx,h=>by simp[qh]at h
theorem TD:∀{ms:List qA} {ls:List aH} {j:Nat} {cs:List eB} {ah:List dA} {rx:List aH},qh bs i j ms ls=some (cs,ah,rx)->
  (∀(x:Nat) (c:eB),cs[x]?=some c->∃l m h1 bF,ls[x]?=some l/\yk bs i (j+x) m l=some (c,h1,bF)/\(∀z∈h1,z∈ah)/\(∀z∈bF,z∈rx))/\
  (∀h∈ah,∃(x:Nat) (c:eB) (l:aH) (m:qA) (h1:List dA) (bF:List aH),cs[x]?=some c/\ls[x]?=some l/\yk bs i (j+x) m l=some (c,h1,bF)/\h∈h1/\(∀z∈h1,z∈ah)/\(∀z∈bF,z∈rx))
 | [],[],j,cs,ah,rx,h=>by
  simp only[qh,aV,bH]at h;obtain⟨rfl,rfl,rfl⟩:=h;exact⟨fun x c aj=>by simp at aj,fun h bJ=>by simp at bJ⟩
 | m::ms,l::ls,j,cs,ah,rx,h=>by
  simp only[qh]at h;split at h
  ·rename_i c h1 bF QM kq z6 e1 e2;simp only[aV,bH]at h;obtain⟨rfl,rfl,rfl⟩:=h;obtain⟨cG,bM⟩:=TD e2;refine⟨fun x kJ aj=>?_,fun z bi=>?_⟩
   ·cases x with
    | zero=>
     simp only[kh,aV]at aj;subst aj;exact⟨l,m,h1,bF,rfl,e1,fun z bi=>ij _ bi,fun z bi=>ij _ bi⟩
    | succ x=>
     obtain⟨hz,j9,U,bQ,g1,g2,g3,g4⟩:=cG x kJ (by simpa using aj);exact⟨hz,j9,U,bQ,by simpa using g1,by rw[show j+(x+1)=j+1+x by omega];exact g2,fun z bi=>jU _ (g3 z bi),fun z bi=>jU _ (g4 z bi)⟩
   rcases ki.1 bi with bi | bi
   ·exact⟨0,c,l,m,h1,bF,rfl,rfl,e1,bi,fun z bi=>ij _ bi,fun z bi=>ij _ bi⟩
   obtain⟨x,kJ,hz,j9,U,bQ,g0,g1,g2,g5,g3,g4⟩:=bM z bi;exact⟨x+1,kJ,hz,j9,U,bQ,by simpa using g0,by simpa using g1,by rw[show j+(x+1)=j+1+x by omega];exact g2,g5,fun z bi=>jU _ (g3 z bi),fun z bi=>jU _ (g4 z bi)⟩
  cases h
 | [],_::_,j,cs,ah,rx,h=>by simp[qh]at h
 | _::_,[],j,cs,ah,rx,h=>by simp[qh]at h
structure aaO (w:World) (ω:Own) (τ:Nat->Nat×Value) (ao:List dA) (i:Nat) (eJ:GA) (ah:List dA) (y:Value):Prop where
 abm:Qw w (gu ao ω) i eJ y
 at_:∀h∈ah,h.i=i/\DI w ω τ h (cellOf y h.j)/\eJ.cell h.j=some (.eO h.k h.es h.post)
theorem TE(cF:pz ao=true)(av:xh w ω τ bs){ms:List qA}{p:aL}{eJ:GA}{ah:List dA}{rx:List aH}
  (h:Ay bs i ms p=some (eJ,ah,rx)) (j5:∀x∈ah,x∈ao) (yH:∀x∈rx,x.ou bs ao=false) (dz:cW (Sat w ω τ) p y):aaO w ω τ ao i eJ ah y:=by
 unfold Ay at h;split at h
 ·rename_i l;split at h
  ·rename_i m;rw[cc]at h;obtain⟨⟨c,h1,bF⟩,e,h⟩:=h;simp only[bH]at h;obtain⟨rfl,rfl,rfl⟩:=h;have:=LQ cF av e j5 yH dz;refine⟨this.gc,fun x ah=>?_⟩;obtain⟨e1,e2,cg,eo⟩:=this.at_ x ah;have abh:cellOf y x.j=y:=by rw[e2,cellOf,BW this.one];rfl
   rw[abh];exact⟨e1,cg,by simp[GA.cell,e2,eo]⟩
  cases h
 ·rename_i ls;rw[cc]at h;obtain⟨⟨cs,h1,bF⟩,e,h⟩:=h;simp only[bH]at h;obtain⟨rfl,rfl,rfl⟩:=h;obtain⟨us,rfl,aX,hu⟩:=dz;obtain⟨cG,bM⟩:=TD e;refine⟨⟨us,rfl,by rw[TC e];exact aX,fun x c aj=>?_⟩,fun z bi=>?_⟩
  ·obtain⟨l,m,U,bQ,g1,g2,g3,g4⟩:=cG x c aj;obtain⟨u,f',eY⟩:=hu x l g1;rw[dF]at g2;exact⟨u,f',(LQ cF av g2 (fun z bi=>j5 z (g3 z bi)) (fun z bi=>yH z (g4 z bi)) eY).gc⟩
  obtain⟨x,c,l,m,U,bQ,g0,g1,g2,g5,g3,g4⟩:=bM z bi;obtain⟨u,f',eY⟩:=hu x l g1;rw[dF]at g2;obtain⟨e1,e2,cg,eo⟩:=(LQ cF av g2 (fun z bi=>j5 z (g3 z bi)) (fun z bi=>yH z (g4 z bi)) eY).at_ z g5;refine⟨e1,?_,by simp only[GA.cell,e2,g0,eo]⟩;have:cellOf (.agg us) z.j=u:=by simp[cellOf,Value.cells,e2,eG,f']
  rw[this];exact cg
 cases h
theorem TF:∀{Ko:List (List qA)} {cr:List aL} {i:Nat} {gs:List GA} {ah:List dA} {rx:List aH},wm bs i Ko cr=some (gs,ah,rx)->gs.length=cr.length/\
  (∀(x:Nat) (eJ:GA),gs[x]?=some eJ->∃p ms h1 bF,cr[x]?=some p/\Ay bs (i+x) ms p=some (eJ,h1,bF)/\(∀z∈h1,z∈ah)/\(∀z∈bF,z∈rx))/\
  (∀h∈ah,∃(x:Nat) (eJ:GA) (p:aL) (ms:List qA) (h1:List dA) (bF:List aH),gs[x]?=some eJ/\cr[x]?=some p/\Ay bs (i+x) ms p=some (eJ,h1,bF)/\h∈h1/\(∀z∈h1,z∈ah)/\(∀z∈bF,z∈rx))
 | [],[],i,gs,ah,rx,h=>by
  simp only[wm,aV,bH]at h;obtain⟨rfl,rfl,rfl⟩:=h;exact⟨rfl,fun x c aj=>by simp at aj,fun h bJ=>by simp at bJ⟩
 | m::ms,l::ls,i,gs,ah,rx,h=>by
  simp only[wm]at h;split at h
  ·rename_i c h1 bF QM kq z6 e1 e2;simp only[aV,bH]at h;obtain⟨rfl,rfl,rfl⟩:=h;obtain⟨cX,cG,bM⟩:=TF e2;refine⟨by simp[cX],fun x kJ aj=>?_,fun z bi=>?_⟩
   ·cases x with
    | zero=>
     simp only[kh,aV]at aj;subst aj;exact⟨l,m,h1,bF,rfl,e1,fun z bi=>ij _ bi,fun z bi=>ij _ bi⟩
    | succ x=>
     obtain⟨hz,j9,U,bQ,g1,g2,g3,g4⟩:=cG x kJ (by simpa using aj);exact⟨hz,j9,U,bQ,by simpa using g1,by rw[show i+(x+1)=i+1+x by omega];exact g2,fun z bi=>jU _ (g3 z bi),fun z bi=>jU _ (g4 z bi)⟩
   rcases ki.1 bi with bi | bi
   ·exact⟨0,c,l,m,h1,bF,rfl,rfl,e1,bi,fun z bi=>ij _ bi,fun z bi=>ij _ bi⟩
   obtain⟨x,kJ,hz,j9,U,bQ,g0,g1,g2,g5,g3,g4⟩:=bM z bi;exact⟨x+1,kJ,hz,j9,U,bQ,by simpa using g0,by simpa using g1,by rw[show i+(x+1)=i+1+x by omega];exact g2,g5,fun z bi=>jU _ (g3 z bi),fun z bi=>jU _ (g4 z bi)⟩
  cases h
 | [],_::_,i,gs,ah,rx,h=>by simp[wm]at h
 | _::_,[],i,gs,ah,rx,h=>by simp[wm]at h
def EP:List dA->Option (Nat×Nat)
 | []=>none
 | h::r=>match h.p with | some p=>some (h.t,p.1) | none=>EP r
theorem TG:∀{ao:List dA},EP ao=none->∀h∈ao,h.p=none
 | [],_,h,bJ=>by cases bJ
 | x::r,e,h,bJ=>by
  simp only[EP]at e;split at e
  ·cases e
  rename_i hp;rcases eP.1 bJ with rfl | bJ
  ·exact hp
  exact TG e h bJ
def B5(a:Nat):List dA->List Prop
 | []=>[]
 | h::r=>match h.p with | some p=>(p.1=a)::B5 a r | none=>B5 a r
theorem LR{a:Nat}:∀{ao:List dA},cL (B5 a ao)->∀h∈ao,∀p,h.p=some p->p.1=a
 | [],_,h,bJ,_,_=>by cases bJ
 | x::r,ba,h,bJ,p,hp=>by
  simp only[B5]at ba;split at ba
  ·rename_i q aK;rcases eP.1 bJ with rfl | bJ
   ·rw[hp]at aK;rw[eW aK];exact ba.1
   exact LR ba.2 h bJ p hp
  rename_i aK;rcases eP.1 bJ with rfl | bJ
  ·rw[hp]at aK;cases aK
  exact LR ba h bJ p hp
def LS(st:aJ)(ao:List dA)(src:Nat)(ds:List D):Option (Nat×Nat×List (List D)×List Prop):=
 match EP ao with
 | none=>some (0,0,[],[])
 | some (t,a)=>
  match (st.env.getD src .cA).leaf with
  | some (.J (.own s) k es)=>
   if s=t/\ds.length=k/\ao.all (fun h=>match h.p with | some _=>h.t==t&&h.post.isSome | none=>true)=true then
    some (t,k,es.set a (nR ao ds),(es[a]?=some ds)::B5 a ao)
   else none
  | _=>none
theorem avH{w0:eT}{st:aJ}{a:Act}(a8:cJ w0 st a w ω τ){src:Nat}{ds:List D}{t k:Nat}{es:List (List D)}{obs:List Prop}
  (h:LS st ao src ds=some (t,k,es,obs)) (ba:cL obs):Qz w ω τ ao t k es:=by
 unfold LS at h;split at h
 ·rename_i aX;exact⟨fun x ah p hp _=>by rw[TG aX x ah]at hp;cases hp⟩
 rename_i di cK b2;split at h
 ·rename_i s cw cv ap;split at h
  ·rename_i aj;obtain⟨rfl,qR,iF⟩:=aj;simp only[aV,bH]at h;obtain⟨rfl,rfl,rfl,rfl⟩:=h;rw[gx]at iF;refine⟨fun x ah p hp _=>?_⟩;have p2:∃y,Sat w ω τ (.J (.own s) cw cv) y:=by
    rw[jB]at ap;cases e:st.env[src]? with
    | none=>rw[e]at ap;simp[aL.leaf]at ap
    | some p=>
     rw[e]at ap;obtain⟨v,_,U⟩:=a8.env src p e;exact⟨v,aL.dV ap U⟩
   obtain⟨y,bf⟩:=p2;refine⟨cv,y,ds,cK,bf,ba.1,qR,rfl,fun z bi q aK=>?_⟩;have h1:=iF z bi;simp only[aK,cx,dE,qt]at h1;exact⟨h1.1,LR ba.2 z bi q aK,h1.2⟩
  cases h
 cases h
def LU(P:Program)(st:aJ)(d:Option Nat)(f:FuncId)(args:List Operand)(ans:List cf):Option (aJ×List cf×List Prop):=
 match ans with
 | .pF wY src ds rs::r=>
  match wm st.boxes 0 wY (args.map st.br) with
  | some (gs,ao,qo)=>
   match LS st ao src ds with
   | some (iz,pd,qF,obs)=>
    let t0:=10000*(d.getD 0+1)
    if hD P f=true/\va rs=true/\t0+10000<=dn/\pz ao=true/\qo.all (fun l=>!(l.ou st.boxes ao))=true/\ao.all (fun h=>!(decide (t0<=h.t)&&decide (h.t<t0+10000)))=true then
     let bC:=st.map (sn ao t0 iz pd qF)
     match d with
     | some d=>some (⟨bC.env.set d (ud t0 rs),bC.boxes⟩,r,jo P f gs rs::obs)
     | none=>some (bC,r,jo P f gs rs::obs)
    else none
   | none=>none
  | none=>none
 | _=>none
theorem avI{P:Program}{w0:eT}{st bC:aJ}{a:Act}{dst:Option Nat}{f:FuncId}{args:Array Operand}{ts:Array TypeId}{type:TypeId}{pos:String}{after:Array Edge}{guard:Option (Nat×Bool)}{ans cq:List cf}{obs:List Prop}
  (a8:cJ w0 st a w ω τ) (h:LU P st dst f args.toList ans=some (bC,cq,obs)) (ba:cL obs) {K:Act->World->Prop} {Q:Exit->Act->World->Prop} (gW:∀cK aO,Rel w0 bC cK aO->K cK aO):
  Oper.wp P ⟨dst,.call ⟨.value (.func f),args,ts⟩,type,pos,after,guard⟩ a w K Q:=by
 unfold LU at h;split at h
 ·rename_i wY src ds rs r;split at h
  ·rename_i gs ao qo nD;split at h
   ·rename_i iz pd qF gC j5;simp only at h;split at h
    ·rename_i aj;obtain⟨ib,dI,iU,cF,Bc,yG⟩:=aj;rw[gx]at Bc yG;have Bd:∀l∈qo,l.ou st.boxes ao=false:=fun l ap=>by simpa using Bc l ap
     have acX:∀h∈ao,¬(10000*(dst.getD 0+1)<=h.t/\h.t<10000*(dst.getD 0+1)+10000):=fun h bJ=>by
      have:=yG h bJ;simp only[gT,Bool.and_eq_false_iff,lp]at this;omega
     obtain⟨hlen,cG,bM⟩:=TF nD;have hh:∀(x:Nat) (p:aL),(args.toList.map st.br)[x]?=some p->∃v,(args.map a.eval)[x]?=some v/\cW (Sat w ω τ) p v:=by
      intro x p hp;rw[dq,cc]at hp;obtain⟨o,h1,rfl⟩:=hp;refine⟨a.eval o,?_,a8.br o⟩;rw[Am];rw[iO]at h1;rw[h1];rfl
     have ab6:HZ w (gu ao ω) gs (args.map a.eval):=by
      refine⟨fun b av=>?_,by simp[hlen],fun x eJ ah=>?_⟩
      ·have da:ω b≠.bI:=fun e=>av (by simp only[gu,e])
       obtain⟨_,arr,ty,aF⟩:=a8.owned b da;refine⟨?_,arr,ty,aF⟩;simp only[gu]at av ⊢;cases e:ω b with
       | bI=>simp[e]at av
       | box id=>simp[e]at av
       | tok t q=>
        simp only[e]at av ⊢;cases e2:ob t q ao with
        | none=>simp[e2]at av
        | some z=>
         obtain⟨g,dJ⟩:=z;obtain⟨y,_,_,rfl⟩:=B2 e2;exact⟨_,dJ,rfl,by simp[fu]⟩
      obtain⟨p,ms,h1,bF,g1,g2,g3,g4⟩:=cG x eJ ah;obtain⟨v,bp,uZ⟩:=hh x p g1;rw[dF]at g2;exact⟨v,bp,(TE cF a8.boxes g2 g3 (fun z bi=>Bd z (g4 z bi)) uZ).abm⟩
     have r1:∀h∈ao,DI w ω τ h (cellOf ((args.map a.eval).getD h.i undef) h.j)/\∃eJ,gs[h.i]?=some eJ/\eJ.cell h.j=some (.eO h.k h.es h.post):=by
      intro h bJ;obtain⟨x,eJ,p,ms,h1,bF,g0,g1,g2,g5,g3,g4⟩:=bM h bJ;obtain⟨v,bp,uZ⟩:=hh x p g1;rw[dF]at g2;obtain⟨e1,e2,cg⟩:=(TE cF a8.boxes g2 g3 (fun z bi=>Bd z (g4 z bi)) uZ).at_ h g5;have br:(args.map a.eval).getD h.i undef=v:=by rw[e1,eG,bp];rfl
      rw[br];exact⟨e2,eJ,by rw[e1];exact g0,cg⟩
     have fm:(execOp a.eval ⟨dst,.call ⟨.value (.func f),args,ts⟩,type,pos,after,guard⟩).run P w=.ok (.enter f (args.map a.eval)) w:=by
      unfold hD at ib;split at ib
      ·rename_i fn la;simp only[cx,gT,sT,gy]at ib;have qO:fn.body≠none:=by intro e;rw[e]at ib;simp at ib
       simp[execOp,resolve,Act.eval,Deferred.ofValue,invoke,callFunc,la,ib.1,qO]
      cases ib
     have key:jo P f gs rs->cL gC->(∀v aO bc cY,cJ w0 (st.map (sn ao (10000*(dst.getD 0+1)) iz pd qF)) a aO bc cY->cW (Sat aO bc cY) (ud (10000*(dst.getD 0+1)) rs) v->K (a.put dst v) aO)->
       Oper.wp P ⟨dst,.call ⟨.value (.func f),args,ts⟩,type,pos,after,guard⟩ a w K Q:=by
      intro Ju Jm IS;unfold Oper.wp;rw[fm];simp only[Oper.upon];refine (Ju w _ _ ab6 (a8.tidy fun b av=>by simp only[gu,av])).mono ?_;rintro e aO ⟨v,rfl,lx,fK,c1,c2,cM,eK⟩;obtain⟨bc,cY,h1,U⟩:=a8.aa4 (10000*(dst.getD 0+1)) cF dI iU acX lx fK c1 c2 eK (fun h=>cellOf ((args.map a.eval).getD h.i undef) h.j)
       (fun h bJ cv he=>by
        obtain⟨_,eJ,g1,g2⟩:=r1 h bJ;rw[he]at g2;exact cM h.i h.j eJ h.k h.es cv g1 g2)
       (fun h bJ=>(r1 h bJ).1) (avH a8 j5 Jm)
      exact IS v aO bc cY h1 U
     cases dst with
     | none=>
      simp only[aV,bH]at h;obtain⟨rfl,_,rfl⟩:=h;exact key ba.1 ba.2 fun v aO bc cY h1 _=>gW _ _ ⟨bc,cY,h1⟩
     | some d=>
      simp only[aV,bH]at h;obtain⟨rfl,_,rfl⟩:=h;exact key ba.1 ba.2 fun v aO bc cY h1 U=>gW _ _ ⟨bc,cY,h1.put U⟩
    cases h
   cases h
  cases h
 cases h
