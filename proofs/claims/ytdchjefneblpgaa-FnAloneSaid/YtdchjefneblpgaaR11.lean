import Derived.Test.YtdchjefneblpgaaR6
set_option linter.unusedVariables false
set_option linter.unusedSimpArgs false
namespace Go.Sx
open Go.RowKit
def sw(t:Nat)(ms:fT)(k:Nat)(bV:List (List D)):aq->aq
 | .aa (.own s) bS es=>if s=t then .aa (.own t) k bV else if (ms.at s).isSome then .b5 else .aa (.own s) bS es
 | .ep (.own s) bS es i j=>if s=t then .ep (.own t) k bV i j else if (ms.at s).isSome then .b5 else .ep (.own s) bS es i j
 | .aa (.ro s) bS es=>if s=t then .b5 else if (ms.at s).isSome then .b5 else .aa (.ro s) bS es
 | .ep (.ro s) bS es i j=>if s=t then .b5 else if (ms.at s).isSome then .b5 else .ep (.ro s) bS es i j
 | .bE s a b et cX m=>if s=t then .b5 else if (ms.at s).isSome then .b5 else .bE s a b et cX m
 | .ef _ _=>.b5
 | l=>l
def j6(t:Nat)(ms:fT):cx->cx
 | .tok s q=>if s=t then .tok s q else match ms.at s with | some p=>.tok t (p::q) | none=>.tok s q
 | o=>o
variable{t:Nat}{ms:fT}
theorem zm{o:cx}{id:Nat}:j6 t ms o=.box id<->o=.box id:=by
 cases o with
 | bc=>simp[j6]
 | box i=>simp[j6]
 | tok s q=>
  simp only[j6];split
  ·simp
  ·split<;>simp
theorem R2{o:cx}:j6 t ms o=.bc<->o=.bc:=by
 cases o with
 | bc=>simp[j6]
 | box i=>simp[j6]
 | tok s q=>
  simp only[j6];split
  ·simp
  ·split<;>simp
variable{i j:Nat}{ds:List D}
theorem Dx{es:List (List D)}{x:Nat}(hi:i<es.length):cq (es.set i ds) x j=if x=i then ds[j]? else cq es x j:=by
 unfold cq;rw[iL];by_cases h:i=x
 ·subst h;rw[bb rfl,bb hi,bb rfl];rfl
 rw[aZ h,aZ (Ne.symm h)]
def iO(ds:List D)(off:Nat)(xs:List D):List D:=ds.take off++(xs++ds.drop (off+xs.length))
theorem JD{xs:List D}{off:Nat}(h:off+xs.length<=ds.length):(iO ds off xs)[i]?=if off<=i/\i<off+xs.length then xs[i-off]? else ds[i]?:=by
 unfold iO;rw[kf,xp,Nat.min_eq_left (by omega)];by_cases J:i<off
 ·rw[bb J,aZ (by omega),h9,bb J]
 rw[aZ J,kf];by_cases U:i-off<xs.length
 ·rw[bb U,bb (by omega)]
 rw[aZ U,aZ (by omega),iv]
 congr 1
 omega
theorem JE{xs:List D}{off:Nat}(h:off+xs.length<=ds.length):(iO ds off xs).length=ds.length:=by
 simp[iO];omega
def Dy(t:Nat)(ms:fT):Bool:=ms.all fun x=>x.1≠t&&(match ms.at x.1 with | some p=>p.1==x.2.1&&p.2==x.2.2 | none=>false)
theorem R3(h:Dy t ms=true){s:Nat}{p:Nat×Nat}(hm:(s,p)∈ms):s≠t/\ms.at s=some p:=by
 have J:=eP.1 h _ hm;simp only[b0,cF]at J;refine⟨J.1,?_⟩;have U:=J.2;split at U
 ·rename_i q e;simp only[b0,fR]at U;rw[e,aH];exact Prod.ext U.1 U.2
 cases U
theorem Dz(i:Nat):∀(xs:List aq) (j:Nat),iU i j xs=(iU 0 j xs).map fun x=>(x.1,(i,x.2.2))
 | [],_=>rfl
 | l::ls,j=>by
  simp only[iU];split
  ·simp only[gE,oW,true_and];exact Dz i ls (j+1)
  exact Dz i ls (j+1)
theorem JF(i s:Nat):∀ms:fT,fT.at s (ms.map fun x=>(x.1,(i,x.2.2)))=(fT.at s ms).map fun p=>(i,p.2)
 | []=>rfl
 | (a,p)::r=>by
  simp only[gE,fT.at];split
  ·rfl
  exact JF i s r
theorem DA(i0:Nat):∀(xs:List aq) (j s:Nat) (p:Nat×Nat),(s,p)∈iU i0 j xs->p.1=i0
 | [],_,_,_,h=>by simp[iU]at h
 | l::ls,j,s,p,h=>by
  simp only[iU]at h;split at h
  ·rcases dj.1 h with h | h
   ·simp only[a']at h;rw[h.2]
   exact DA i0 ls (j+1) s p h
  exact DA i0 ls (j+1) s p h
theorem JG{xs:List aq}(h:Dy t (iU 0 j xs)=true){s:Nat}{p:Nat×Nat}(hm:(s,p)∈iU i j xs):s≠t/\(iU i j xs).at s=some p:=by
 have hp:=DA i xs j s p hm;rw[Dz]at hm ⊢;obtain⟨⟨p0,nC⟩,J,U⟩:=eC.1 hm;simp only[a']at U;obtain⟨rfl,U⟩:=U;obtain⟨ax,aJ⟩:=R3 h J;refine⟨ax,?_⟩;rw[JF,aJ,<-U];rfl
def ry.flat:ry->Bool
 | .at_ _ _=>false
 | _=>true
def qQ(t:Nat):Nat->List aq->Option (List D×List Nat)
 | _,[]=>some ([],[])
 | j,.bE s a b k es m::ls=>if s=t/\b=j/\m.flat=true then (qQ t (j+1) ls).map fun r=>(.aa k es::r.1,a::r.2) else none
 | j,l::ls=>
  match l.gP,qQ t (j+1) ls with
  | some d,some r=>some (d::r.1,r.2)
  | _,_=>none
theorem JH:∀{xs:List aq} {j:Nat} {ys:List D} {is:List Nat},qQ t j xs=some (ys,is)->ys.length=xs.length/\
  ∀(y:Nat) (d:D),ys[y]?=some d->∃l,xs[y]?=some l/\(l.gP=some d\/∃a k es m,l=.bE t a (j+y) k es m/\m.flat=true/\a∈is/\d=.aa k es)
 | [],j,ys,is,h=>by
  simp only[qQ,aH,a']at h;obtain⟨rfl,rfl⟩:=h;exact⟨rfl,fun y d ay=>by simp at ay⟩
 | l::ls,j,ys,is,h=>by
  have fin:∀d0 Av CP yp,ys=d0::Av->is=yp->(∀a∈CP,a∈yp)->qQ t (j+1) ls=some (Av,CP)->(l.gP=some d0\/∃a k es m,l=.bE t a j k es m/\m.flat=true/\a∈yp/\d0=.aa k es)->ys.length=(l::ls).length/\
    ∀(y:Nat) (d:D),ys[y]?=some d->∃x,(l::ls)[y]?=some x/\(x.gP=some d\/∃a k es m,x=.bE t a (j+y) k es m/\m.flat=true/\a∈is/\d=.aa k es):=by
   rintro d0 Av CP yp rfl rfl gb ar bX;obtain⟨J,U⟩:=JH ar;refine⟨by simp[J],fun y d ay=>?_⟩;cases y with
   | zero=>
    simp only[jB,aH]at ay;subst ay;exact⟨l,rfl,bX⟩
   | succ y=>
    obtain⟨x,ae,ax⟩:=U y d (by simpa using ay);refine⟨x,by simpa using ae,?_⟩;rcases ax with ax | ⟨a,k,es,m,aJ,a1,bt,bQ⟩
    ·exact .inl ax
    exact .inr ⟨a,k,es,m,by rw[aJ,show j+1+y=j+(y+1) by omega],a1,gb a bt,bQ⟩
  have plain:(match l.gP,qQ t (j+1) ls with | some d,some r=>some (d::r.1,r.2) | _,_=>none)=some (ys,is)->ys.length=(l::ls).length/\
    ∀(y:Nat) (d:D),ys[y]?=some d->∃x,(l::ls)[y]?=some x/\(x.gP=some d\/∃a k es m,x=.bE t a (j+y) k es m/\m.flat=true/\a∈is/\d=.aa k es):=by
   intro h;split at h
   ·rename_i d r aK aO;simp only[aH,a']at h;exact fin d r.1 r.2 r.2 h.1.symm h.2.symm (fun _ h=>h) aO (.inl aK)
   cases h
  cases l with
  | bE s a b k es m=>
   simp only[qQ]at h;split at h
   ·rename_i ai;obtain⟨rfl,rfl,hm⟩:=ai;rw[bF]at h;obtain⟨⟨bO,b6⟩,aO,h⟩:=h;simp only[a']at h;exact fin _ bO b6 (a::b6) h.1.symm h.2.symm (fun _ h=>eQ _ h) aO (.inr ⟨a,k,es,m,rfl,hm,fk,rfl⟩)
   cases h
  | _=>exact plain h
theorem zn:∀{l:List Nat},cn (l.map fun a=>a=i)->∀a∈l,a=i
 | [],_,a,h=>by cases h
 | x::l,aM,a,h=>by
  rcases dj.1 h with rfl | h
  ·exact aM.1
  exact zn aM.2 a h
def DB(P:Program)(st:aG)(ty:TypeId)(t k:Nat)(es:List (List D))(i j:Nat)(q:az)(ans:List bI):Stepped:=
 match q.leaves,P.info? ty,ans with
 | some xs,some inf,.el ds::r=>
  match qQ t j xs with
  | some (ys,is)=>
   if xs.length=inf.size/\ds.length=k/\j+ys.length<=k/\Dy t (iU 0 j xs)=true then
    some (st.map (sw t (iU i j xs) k (es.set i (iO ds j ys))),r,(es[i]?=some ds)::is.map fun a=>a=i)
   else none
  | none=>none
 | _,_,_=>none
theorem b1.adW{P:Program}{w0:dC}{st a6:aG}{a:Act}{w:World}{ω:Own}{τ:Nat->Nat×Value}{ty:TypeId}{k:Nat}{es:List (List D)}{q:az}{v y:Value}{ans bN:List bI}{obs:List Prop}
  (aI:b1 w0 st a w ω τ) (hp:Sat w ω τ (.ep (.own t) k es i j) y) (aw:cd (Sat w ω τ) q v) (h:DB P st ty t k es i j q ans=some (a6,bN,obs)) (aM:cn obs):
  ∃aD,(Instr.storeAt ty y v).run P w=.ok () aD/\Rel w0 a6 a aD:=by
 unfold DB at h;split at h
 ·rename_i xs inf ds r aK aO;split at h
  ·rename_i ys is b2;split at h
   ·rename_i ai;obtain⟨iA,hZ,iQ,x1⟩:=ai;simp only[aH,a']at h;obtain⟨rfl,_,rfl⟩:=h;have dM:es[i]?=some ds:=aM.1;obtain⟨ad,nh⟩:=az.tH aK aw;obtain⟨Ib,CK⟩:=JH b2;have P8:=zn aM.2;obtain⟨b,off,cap,rfl,jK,ar,bq⟩:=hp;simp only[Tag.de]at bq;cases ar with
    | nil=>simp at jK
    | row R k es b off cap arr gB cj us ah c6 e4 dN fq hu ay=>
     have hF:ω b=.tok t []:=c6;obtain⟨rV,qe,rf,ga⟩:=aI.owned b (by rw[hF];simp);rw[ah]at ga;simp only[aH,Obj.cells.injEq]at ga;obtain⟨rfl,rfl,rfl⟩:=ga;have rP:b<w.heap.size:=(hB.1 ah).1;have hmul:(i+1)*k<=cap*k:=gk _ (by omega);rw[fG]at hmul;have qA:v.cells.size=xs.length:=ad.1;have dc:off+i*k+j+v.cells.toList.length<=arr.size:=by simp;omega
     have ek:=run_storeCells_at P b (off+i*k+j) gB v.cells.toList 0 arr w ah (by simpa using dc) nh;simp only[lM]at ek;generalize lY:(arr.toList.take (off+i*k+j)++v.cells.toList++arr.toList.drop (off+i*k+j+v.cells.toList.length)).toArray=bJ at ek;have gr:∀x:Nat,bJ[x]?=if off+i*k+j<=x/\x<off+i*k+j+xs.length then v.cells[x-(off+i*k+j)]? else arr[x]?:=by
      intro x;rw[<-lY,lI,wS (by simpa using dc)];simp[qA]
     have tE:bJ.size=arr.size:=by rw[<-lY];simp;simp at dc;omega
     have ie:=setRow_heap w b arr bJ gB (0,0) ah
     let ms:=iU i j xs
     let aP:Own:=fun c=>j6 t ms (ω c)
     have afx:ms.at t=none:=by
      cases e:ms.at t with
      | none=>rfl
      | some p=>
       have nc:∀(ms:fT) (p:Nat×Nat),ms.at t=some p->(t,p)∈ms:=by
        intro ms;induction ms with
        | nil=>intro p h;cases h
        | cons x ms dw=>
         intro p h;obtain⟨s,nC⟩:=x;simp only[fT.at]at h;split at h
         ·rename_i vK;subst vK;rw[e0 h];exact fk
         exact eQ _ (dw p h)
       exact absurd rfl (JG x1 (nc ms p e)).1
     have cE:∀c q,c<w.heap.size->ω c=.tok t q->aP c=.tok t q:=fun c q _ h=>by simp[aP,h,j6]
     have kF:∀c p q,c<w.heap.size->ω c=.tok t (p::q)->aP c=.tok t (p::q)/\(w.setRow b bJ).heap[c]?=w.heap[c]?:=by
      intro c p q ai df;exact⟨cE c _ ai df,setRow_other w b c bJ fun e=>by rw[e,hF]at df;cases df⟩
     have gS:∀(g:Tag) c q,g≠.own t->g≠.ro t->(∀s,g=.own s\/g=.ro s->ms.at s=none)->g.R q (ω c)->g.R q (aP c)/\(w.setRow b bJ).heap[c]?=w.heap[c]?:=by
      intro g c q J U ax df;have gJ:c≠b:=fun e=>by
       rw[e,hF]at df;cases g with
       | free=>cases df
       | own s=>simp only[Tag.R,cx.tok.injEq]at df;exact J (by rw[df.1])
       | ro s=>
        rcases df with h | ⟨c5,h⟩
        ·cases h
        simp only[cx.tok.injEq]at h;exact U (by rw[h.1])
      refine⟨?_,setRow_other w b c bJ gJ⟩;cases g with
      | free=>simp only[Tag.R]at df ⊢;simp[aP,df,j6]
      | own s=>
       simp only[Tag.R]at df ⊢;simp only[aP,df,j6];split
       ·rfl
       rw[ax s (.inl rfl)]
      | ro s=>
       simp only[Tag.R]at df ⊢;rcases df with h | ⟨c5,h⟩
       ·left;simp[aP,h,j6]
       right;refine⟨c5,?_⟩;simp only[aP,h,j6];split
       ·rfl
       rw[ax s (.inr rfl)]
     have HN:bA (w.setRow b bJ) aP (Tag.own t).R (.aa k (es.set i (iO ds j ys))) (.slice (some ⟨b,off,none⟩) es.length cap):=by
      have hlen:(es.set i (iO ds j ys)).length=es.length:=kj;have vy:ds.length=k:=hZ;have ee:∀x y d,cq (es.set i (iO ds j ys)) x y=some d->∃u,bJ[off+x*k+y]?=some u/\bA (w.setRow b bJ) aP (fun q=>(Tag.own t).R ((x,y)::q)) d u:=by
       intro x y d db;rw[Dx jK]at db;by_cases ae:x=i
       ·subst ae;rw[bb rfl,JD (by omega)]at db;split at db
        ·rename_i a7;obtain⟨l,h1,cr⟩:=CK _ _ db;obtain⟨u,fe,er⟩:=ad.2 _ _ h1;rcases cr with cr | ⟨a,bM,bm,m,rfl,hm,Pn,rfl⟩
         case inr=>
          have Pp:=P8 a Pn;subst Pp;obtain⟨gC,oe,pz,_⟩:=er;have b8:u=gC:=by
           cases m with
           | at_ x y=>cases hm
           | here=>exact oe
           | jF=>exact oe
          subst b8;refine⟨u,?_,pz.frame fun c q ai df=>?_⟩
          ·rw[gr,bb (by omega),<-fe]
           congr 1;omega
          rw[show j+(y-j)=y by omega]at df;exact kF c _ _ ai df
         refine⟨u,?_,?_⟩
         ·rw[gr,bb (by omega),<-fe]
          congr 1;omega
         have nc:∀s,l.tok=some s->ms.at s=some (x,y)/\s≠t:=by
          intro s cB;have:=Du x xs j (y-j) l s h1 cB;rw[show j+(y-j)=y by omega]at this;obtain⟨J,U⟩:=JG x1 this;exact⟨U,J⟩
         cases l with
         | b5=>cases cr
         | v z=>
          simp only[aq.gP]at cr;split at cr
          ·simp only[aH]at cr;subst cr;have:u=z:=er;subst this;exact .v _ _ ‹_›
          cases cr
         | bP c=>
          simp only[aq.gP,aH]at cr;subst cr;have:u=.bool c:=er;subst this;exact .v _ _ rfl
         | ptr=>cases cr
         | ep=>cases cr
         | gZ=>cases cr
         | fd=>cases cr
         | dL=>cases cr
         | eL=>cases cr
         | bE=>cases cr
         | ef=>cases cr
         | aa g bM bm=>
          cases g with
          | free=>cases cr
          | ro s=>cases cr
          | own s=>
           simp only[aq.gP,aH]at cr;subst cr;obtain⟨J,U⟩:=nc s rfl;refine er.1.frame fun c q ai df=>?_
           simp only[Tag.R]at df ⊢;refine⟨?_,setRow_other w b c bJ fun e=>?_⟩
           ·simp only[aP,df,j6];rw[aZ U,J]
           rw[e,hF]at df;simp only[cx.tok.injEq]at df;exact U df.1.symm
        rename_i a7;have mX:cq es x y=some d:=by simp[cq,dM,db]
        refine⟨us x y,?_,(ay x y d mX).frame fun c q ai df=>kF c _ _ ai df⟩;rw[gr,aZ (by omega),hu x y d mX]
       rw[aZ ae]at db;obtain⟨eU,Q1⟩:=pS fq db;refine⟨us x y,?_,(ay x y d db).frame fun c q ai df=>kF c _ _ ai df⟩;rw[gr,aZ ?_,hu x y d db];rcases Nat.lt_or_gt_of_ne ae with h | h
       ·have:(x+1)*k<=i*k:=gk _ h;rw[fG]at this;omega
       have:(i+1)*k<=x*k:=gk _ h;rw[fG]at this;omega
      have np:∀e∈es.set i (iO ds j ys),e.length=k:=by
       intro e he;rcases oV he with h | rfl
       ·exact fq e h
       rw[JE (by omega)];exact vy
      have:=bA.row (w:=w.setRow b bJ) (ω:=aP) (Tag.own t).R k (es.set i (iO ds j ys)) b off cap bJ gB (0,0) (fun x y=>bJ.getD (off+x*k+y) undef) ie (cE b [] rP hF) (by omega) (by omega) np
       (fun x y d dp=>by obtain⟨u,J,_⟩:=ee x y d dp;rw[J];simp[dF,J])
       (fun x y d dp=>by obtain⟨u,J,U⟩:=ee x y d dp;have:bJ.getD (off+x*k+y) undef=u:=(by simp[dF,J]);rw[this];exact U)
      rw[hlen]at this;exact this
     have dJ:∀l v,Sat w ω τ l v->Sat (w.setRow b bJ) aP τ (sw t ms k (es.set i (iO ds j ys)) l) v:=by
      intro l v cB;have vB:∀s,¬(ms.at s).isSome=true->ms.at s=none:=fun s h=>by
       cases e:ms.at s with
       | none=>rfl
       | some p=>simp[e]at h
      cases l with
      | b5=>exact trivial
      | v x=>exact cB
      | bP c=>exact cB
      | ptr id o=>
       obtain⟨c,ai,e⟩:=cB;exact⟨c,zm.2 ai,e⟩
      | bE s a fa et cX m=>
       simp only[sw];split
       ·exact trivial
       rename_i J;split
       ·exact trivial
       rename_i U;obtain⟨u,hu,lj,hm⟩:=cB;have h3:∀c q,ω c=.tok s q->aP c=.tok s q/\(w.setRow b bJ).heap[c]?=w.heap[c]?:=fun c q df=>
        gS (.own s) c q (by simpa using J) (by simp) (fun p0 h=>by
         rcases h with h | h
         ·simp only[Tag.own.injEq]at h;subst h;exact vB _ U
         cases h) df
       refine⟨u,hu,lj.frame fun c q _ df=>h3 c _ df,fun lh=>?_⟩;obtain⟨kT,c,nA,Re,mN,hD,hO,A7,dy,a2,a3,a4⟩:=hm lh;obtain⟨aK,aO⟩:=h3 c [] a2;exact⟨kT,c,nA,Re,mN,hD,hO,A7,dy,aK,aO.trans a3,a4⟩
      | ef=>exact trivial
      | eL f ids=>
       obtain⟨bs,e,aR,hi⟩:=cB;refine⟨bs,e,aR,fun i id fp=>?_⟩;obtain⟨b,J,U⟩:=hi i id fp;exact⟨b,J,zm.2 U⟩
      | gZ pb o=>
       obtain⟨c,e,dA⟩:=cB;exact⟨c,e,dA.frame fun c q _ df=>gS .free c q (by simp) (by simp) (fun s h=>by rcases h with h | h<;>cases h) df⟩
      | fd d=>
       exact bA.frame cB fun c q _ df=>gS .free c q (by simp) (by simp) (fun s h=>by rcases h with h | h<;>cases h) df
      | dL t2 bM bm=>exact⟨cB.1.frame fun c q _ df=>gS .free c q (by simp) (by simp) (fun s h=>by rcases h with h | h<;>cases h) df,cB.2⟩
      | aa g bM bm=>
       cases g with
       | free=>exact⟨cB.1.frame fun c q _ df=>gS .free c q (by simp) (by simp) (fun s h=>by rcases h with h | h<;>cases h) df,aj⟩
       | own s=>
        simp only[sw];split
        ·rename_i vK;subst vK;have U:=cB.2;simp only[Tag.de]at U;rw[bq]at U;simp only[a']at U;rw[<-U.2];exact⟨HN,bq⟩
        split
        ·exact trivial
        rename_i J U;exact⟨cB.1.frame fun c q _ df=>gS (.own s) c q (by simpa using J) (by simp) (fun p0 h=>by
         rcases h with h | h
         ·simp only[Tag.own.injEq]at h;subst h;exact vB _ U
         cases h) df,cB.2⟩
       | ro s=>
        simp only[sw];split
        ·exact trivial
        split
        ·exact trivial
        rename_i J U;exact⟨cB.1.frame fun c q _ df=>gS (.ro s) c q (by simp) (by simpa using J) (fun p0 h=>by
         rcases h with h | h
         ·cases h
         simp only[Tag.ro.injEq]at h;subst h;exact vB _ U) df,aj⟩
      | ep g bM bm i2 Im=>
       obtain⟨fa,nA,mN,e,kE,lj,lh⟩:=cB;cases g with
       | free=>exact⟨fa,nA,mN,e,kE,lj.frame fun c q _ df=>gS .free c q (by simp) (by simp) (fun s h=>by rcases h with h | h<;>cases h) df,aj⟩
       | own s=>
        simp only[sw];split
        ·rename_i vK;subst vK;simp only[Tag.de]at lh;rw[bq]at lh;simp only[a',Value.slice.injEq,aH,Addr.mk.injEq]at lh;obtain⟨rfl,⟨rfl,rfl,_⟩,cr,rfl⟩:=lh;refine⟨b,off,cap,e,by simp;omega,?_,?_⟩
         ·rw[kj];exact HN
         rw[kj];exact bq
        split
        ·exact trivial
        rename_i J U;exact⟨fa,nA,mN,e,kE,lj.frame fun c q _ df=>gS (.own s) c q (by simpa using J) (by simp) (fun p0 h=>by
         rcases h with h | h
         ·simp only[Tag.own.injEq]at h;subst h;exact vB _ U
         cases h) df,lh⟩
       | ro s=>
        simp only[sw];split
        ·exact trivial
        split
        ·exact trivial
        rename_i J U;exact⟨fa,nA,mN,e,kE,lj.frame fun c q _ df=>gS (.ro s) c q (by simp) (by simpa using J) (fun p0 h=>by
         rcases h with h | h
         ·cases h
         simp only[Tag.ro.injEq]at h;subst h;exact vB _ U) df,aj⟩
     refine⟨w.setRow b bJ,?_,aP,τ,aI.dE _ dJ ?_ ?_ ?_ ?_⟩
     ·simp only[Instr.storeAt,Instr.sureAddr,Sem.run_bind,Sem.run_pure,Result.andThen_ok,storeVar,sizeOf,typeInfo,run_program,aO];have Ca:¬(v.cells.size≠inf.size):=by simp;omega
      rw[aZ Ca];exact ek
     ·exact aI.below.setRow rV bJ
     ·intro c gJ;have:ω c≠.bc:=fun e=>gJ (R2.2 e)
      obtain⟨ax,hD,hO,aJ⟩:=aI.owned c this;by_cases qq:c=b
      ·subst qq;exact⟨ax,bJ,gB,ie⟩
      exact⟨ax,hD,hO,(setRow_other w b c bJ qq).trans aJ⟩
     ·intro id c gJ;exact⟨zm.2 gJ,setRow_other w b c bJ fun e=>by rw[e,hF]at gJ;cases gJ⟩
     intro id c gJ;exact zm.1 gJ
   cases h
  cases h
 cases h
end Go.Sx
namespace Go.Sx
open Go.RowKit
def jn(w:World)(d:D)(y:Value):Prop:=bA w (fun _=>.bc) Tag.free.R d y
def rr(w:World):b7->Value->Prop
 | .one d,y=>jn w d y
 | .agg ds,y=>∃vs:Array Value,y=.agg vs/\vs.size=ds.length/\∀(i:Nat) (d:D),ds[i]?=some d->∃u,vs[i]?=some u/\jn w d u
def zo(w:World)(e1:List b7)(vs:Array Value):Prop:=vs.size=e1.length/\∀(i:Nat) (bT:b7),e1[i]?=some bT->∃v,vs[i]?=some v/\rr w bT v
def jP(w:World)(ω:Own)(r:Nat):b7->Value->Prop
 | .one d,y=>bA w ω (Tag.own (100*r)).R d y
 | .agg ds,y=>∃vs:Array Value,y=.agg vs/\vs.size=ds.length/\∀(j:Nat) (d:D),ds[j]?=some d->∃u,vs[j]?=some u/\bA w ω (Tag.own (100*r+j)).R d u
def j7(w:World)(ω:Own)(rs:List b7)(v:Value):Prop:=
 match rs with
 | [bT]=>jP w ω 0 bT v
 | rs=>∃vs:Array Value,v=.tuple vs/\vs.size=rs.length/\∀(r:Nat) (bT:b7),rs[r]?=some bT->∃y,vs[r]?=some y/\jP w ω r bT y
def s4(w0 w:World)(rs:List b7)(v:Value):Prop:=
 ∃ω:Own,(∀b,b<w0.heap.size->ω b=.bc)/\(∀b,ω b≠.bc->(∃t q,ω b=.tok t q)/\∃arr ty,w.heap[b]?=some (.cells arr ty (0,0)))/\j7 w ω rs v
def gm(P:Program)(f:FuncId)(args rs:List b7):Prop:=
 ∀(w:World) (vs:Array Value),mK w->zo w args vs->Calls P f vs w fun e aD=>∃v,e=.returned v/\e9 w.heap.size w aD/\s4 w aD rs v
def aq.e2:aq->Option D
 | .v x=>if x.oneCell' then some (.v x) else none
 | .bP c=>some (.v (.bool c))
 | .aa _ k es=>some (.aa k es)
 | .gZ ds off=>if off=0 then some (.ptr ds) else none
 | .fd d=>some d
 | .dL _ k es=>some (.aa k es)
 | .bE _ _ _ k es .here=>some (.aa k es)
 | .bE _ _ _ k es .jF=>some (.aa k es)
 | _=>none
abbrev jC:=List (Nat×List aq)
def s7(bs:jC)(id:Nat):Option D:=(cM id bs).bind fun ls=>(ls.mapM aq.e2).map .ptr
def aq.hU(bs:jC):aq->Option D
 | .ptr id off=>if off=0 then s7 bs id else none
 | .eL g ids=>(ids.mapM (s7 bs)).map (.da g)
 | l=>l.e2
def bi.hU(bs:jC):bi->Option b7
 | .one l=>(l.hU bs).map .one
 | .agg ls=>(ls.mapM (aq.hU bs)).map .agg
def az.hU(bs:jC):az->Option b7
 | .aN a=>a.hU bs
 | _=>none
variable{w:World}{ω:Own}{d:D}{y:Value}
theorem bA.free{R:List (Nat×Nat)->cx->Prop}(h:bA w ω R d y):jn w d y:=
 h.frame fun _ _ _ _=>⟨rfl,rfl⟩
variable{τ:Nat->Nat×Value}
theorem aq.G1{l:aq}(h:l.e2=some d)(ad:Sat w ω τ l y):jn w d y:=by
 cases l with
 | b5=>cases h
 | v x=>
  simp only[aq.e2]at h;split at h
  ·simp only[aH]at h;subst h;have:y=x:=ad;subst this;exact .v _ _ ‹_›
  cases h
 | bP c=>
  simp only[aq.e2,aH]at h;subst h;have:y=.bool c:=ad;subst this;exact .v _ _ rfl
 | aa t k es=>simp only[aq.e2,aH]at h;subst h;exact ad.1.free
 | ptr=>cases h
 | ep=>cases h
 | eL=>cases h
 | ef=>cases h
 | gZ ds off=>
  simp only[aq.e2]at h;split at h
  ·rename_i aM;subst aM;simp only[aH]at h;subst h;obtain⟨b,rfl,ar⟩:=ad;exact ar.free
  cases h
 | fd cN=>simp only[aq.e2,aH]at h;subst h;exact bA.free ad
 | dL t k es=>simp only[aq.e2,aH]at h;subst h;exact bA.free ad.1
 | bE t i j k es m=>
  obtain⟨u,hu,ar,_⟩:=ad;cases m with
  | at_ x z=>cases h
  | here=>simp only[aq.e2,aH]at h;subst h;have:y=u:=hu;subst this;exact ar.free
  | jF=>simp only[aq.e2,aH]at h;subst h;have:y=u:=hu;subst this;exact ar.free
def sx(w:World)(ω:Own)(τ:Nat->Nat×Value)(bs:jC):Prop:=∀id ls,cM id bs=some ls->qb w ω τ id ls
variable{bs:jC}
theorem JI(ah:sx w ω τ bs){id b:Nat}(h:s7 bs id=some d)(aM:ω b=.box id):jn w d (ptrTo b):=by
 unfold s7 at h;cases e:cM id bs with
 | none=>simp[e]at h
 | some ls=>
  simp only[e,mB,bF]at h;obtain⟨ds,J,rfl⟩:=h;obtain⟨cH,arr,ty,dv,hu,bq,ad⟩:=ah id ls e;have:=hu b aM;subst this;obtain⟨U,ax⟩:=kS J;have cell:∀j d,ds[j]?=some d->arr[j]?=some (arr.getD j undef)/\jn w d (arr.getD j undef):=by
   intro j d ay;obtain⟨l,ak,cr⟩:=ax j d ay;obtain⟨u,fe,er⟩:=ad.2 j l ak;have aO:arr.getD j undef=u:=by simp[dF,fe]
   rw[aO];exact⟨fe,aq.G1 cr er⟩
  exact bA.ptr _ ds b arr ty (0,0) (fun j=>arr.getD j undef) bq rfl (by have:=ad.1;omega) (fun j d ay=>(cell j d ay).1) (fun j d ay=>(cell j d ay).2.frame fun _ _ _ _=>⟨rfl,rfl⟩)
theorem aq.s6(ah:sx w ω τ bs){l:aq}(h:l.hU bs=some d)(ad:Sat w ω τ l y):jn w d y:=by
 unfold aq.hU at h;split at h
 ·rename_i id off;split at h
  ·rename_i aM;subst aM;obtain⟨b,J,rfl⟩:=ad;exact JI ah h J
  cases h
 ·rename_i g ids;rw[bF]at h;obtain⟨ds,J,rfl⟩:=h;obtain⟨k8,rfl,aR,hi⟩:=ad;obtain⟨U,ax⟩:=kS J;have cell:∀j d,ds[j]?=some d->(k8.map ptrTo).toArray[j]?=some ((k8.map ptrTo).toArray.getD j undef)/\jn w d ((k8.map ptrTo).toArray.getD j undef):=by
   intro j d ay;obtain⟨id,fp,By⟩:=ax j d ay;obtain⟨b,fM,dX⟩:=hi j id fp;have aK:(k8.map ptrTo).toArray[j]?=some (ptrTo b):=by simp[fM]
   have aO:(k8.map ptrTo).toArray.getD j undef=ptrTo b:=by rw[dF,aK];rfl
   rw[aO];exact⟨aK,JI ah By dX⟩
  exact bA.da _ g ds _ (fun j=>(k8.map ptrTo).toArray.getD j undef) (by simp;omega) (fun j d ay=>(cell j d ay).1) (fun j d ay=>(cell j d ay).2.frame fun _ _ _ _=>⟨rfl,rfl⟩)
 exact aq.G1 h ad
theorem az.s6(ah:sx w ω τ bs){p:az}{bT:b7}(h:p.hU bs=some bT)(ad:cd (Sat w ω τ) p y):rr w bT y:=by
 cases p with
 | fD as=>cases h
 | aN a=>
  cases a with
  | one l=>
   simp only[az.hU,bi.hU,bF]at h;obtain⟨d,J,rfl⟩:=h;exact aq.s6 ah J ad
  | agg ls=>
   simp only[az.hU,bi.hU,bF]at h;obtain⟨ds,J,rfl⟩:=h;obtain⟨U,ax⟩:=kS J;obtain⟨vs,rfl,aR,a8⟩:=ad;refine⟨vs,rfl,by omega,fun i d ay=>?_⟩;obtain⟨l,ak,cr⟩:=ax i d ay;obtain⟨u,hu,er⟩:=a8 i l ak;exact⟨u,hu,aq.s6 ah cr er⟩
def hM(P:Program)(g:FuncId):Bool:=
 match P.funcs[g]? with
 | some fn => !(fn.name == "runtime.NumGoroutine") && !fn.body.isNone
 | none=>false
def D.mu(t:Nat):D->aq
 | .v (.bool c)=>.bP c
 | .v x=>.v x
 | .aa k es=>.aa (.own t) k es
 | .ptr _=>.b5
 | .da _ _=>.b5
def kU(t:Nat):Nat->List D->List aq
 | _,[]=>[]
 | j,d::ds=>d.mu (t+j)::kU t (j+1) ds
theorem wV(t:Nat):∀(ds:List D) (j i:Nat),(kU t j ds)[i]?=(ds[i]?).map (D.mu (t+(j+i)))
 | [],_,_=>by simp[kU]
 | d::ds,j,0=>by simp[kU]
 | d::ds,j,i+1=>by
  simp only[kU,lK,wV t ds (j+1) i];rw[show j+1+i=j+(i+1) by omega]
theorem tN(t:Nat):∀(ds:List D) (j:Nat),(kU t j ds).length=ds.length
 | [],_=>rfl
 | d::ds,j=>by simp[kU,tN t ds (j+1)]
def b7.res(t:Nat):b7->bi
 | .one d=>.one (d.mu t)
 | .agg ds=>.agg (kU t 0 ds)
def nG(t:Nat):Nat->List b7->List bi
 | _,[]=>[]
 | r,a::as=>a.res (t+100*r)::nG t (r+1) as
theorem zp(t:Nat):∀(as:List b7) (r i:Nat),(nG t r as)[i]?=(as[i]?).map (b7.res (t+100*(r+i)))
 | [],_,_=>by simp[nG]
 | d::ds,j,0=>by simp[nG]
 | d::ds,j,i+1=>by
  simp only[nG,lK,zp t ds (j+1) i];rw[show j+1+i=j+(i+1) by omega]
theorem zq(t:Nat):∀(as:List b7) (r:Nat),(nG t r as).length=as.length
 | [],_=>rfl
 | d::ds,j=>by simp[nG,zq t ds (j+1)]
def pY(t:Nat):List b7->az
 | [a]=>.aN (a.res t)
 | as=>.fD (nG t 0 as)
def qR(rs:List b7):Bool:=rs.length<100&&rs.all fun | .one _=>true | .agg ds=>ds.length<100
def e5(t:Nat):Tag->Option Tag
 | .free=>some .free
 | .own s=>if t<=s/\s<t+10000 then some .free else some (.own s)
 | .ro s=>if t<=s/\s<t+10000 then some .free else some (.ro s)
def lu(t:Nat):cx->cx
 | .tok s q=>if t<=s/\s<t+10000 then .bc else .tok s q
 | o=>o
def JJ(t:Nat):cx->cx
 | .tok s q=>.tok (t+s) q
 | _=>.bc
def b7.cell(j:Nat):b7->Option D
 | .one d=>if j=0 then some d else none
 | .agg ds=>ds[j]?
def mY(rs:List b7)(n:Nat):Nat:=
 match (rs[n / 100]?).bind (b7.cell (n % 100)) with
 | some (.aa k _)=>k
 | _=>0
def kC(rs:List b7)(v:Value)(n:Nat):Value:=
 match rs with
 | [_]=>v.cells.getD (n % 100) undef
 | _=>match v with
  | .tuple vs=>(vs.getD (n / 100) undef).cells.getD (n % 100) undef
  | _=>undef
def aG.rE(st:aG)(t:Nat):aG:=st.map (aq.b3 (e5 t) fun _=>true)
theorem b1.called{w0:dC}{st:aG}{a:Act}{aD:World}(aI:b1 w0 st a w ω τ)(t:Nat){rs:List b7}{v:Value}
  (dc:qR rs=true) (gU:t+10000<=cy) (ah:e9 w.heap.size w aD) (dS:s4 w aD rs v):
  ∃aP ch,b1 w0 (st.rE t) a aD aP ch/\cd (Sat aD aP ch) (pY t rs) v:=by
 obtain⟨dZ,iA,hZ,iQ⟩:=dS
 let aP:Own:=fun b=>if b<w.heap.size then lu t (ω b) else JJ t (dZ b)
 let ch:Nat->Nat×Value:=fun s=>if t<=s/\s<t+10000 then (mY rs (s-t),kC rs v (s-t)) else τ s
 have hold:∀b,b<w.heap.size->aP b=lu t (ω b):=fun b ah=>by simp only[aP];rw[bb ah]
 have fc:∀b,¬b<w.heap.size->aP b=JJ t (dZ b):=fun b ah=>by simp only[aP];rw[aZ ah]
 have aW:jD w ω τ aD aP ch (e5 t) (fun _=>true):=by
  refine⟨?_,?_,?_,rfl,fun s ad=>by simp only[ch];rw[aZ (by omega)]⟩
  ·intro g dg b q ag bk aw;refine⟨?_,ah.block b bk⟩;rw[hold b bk];cases g with
   | free=>simp only[e5,aH]at ag;subst ag;simp only[Tag.R]at aw ⊢;rw[aw];rfl
   | own s=>
    simp only[Tag.R]at aw;simp only[e5]at ag;rw[aw];simp only[lu];split at ag
    ·simp only[aH]at ag;subst ag;rw[bb ‹_›];rfl
    simp only[aH]at ag;subst ag;rw[aZ ‹_›];rfl
   | ro s=>
    simp only[Tag.R]at aw;simp only[e5]at ag;split at ag
    ·simp only[aH]at ag;subst ag;rcases aw with h | ⟨c5,h⟩
     ·rw[h];rfl
     rw[h];simp only[lu];rw[bb ‹_›];rfl
    simp only[aH]at ag;subst ag;rcases aw with h | ⟨c5,h⟩
    ·rw[h];exact .inl rfl
    rw[h];simp only[lu];rw[aZ ‹_›];exact .inr ⟨c5,rfl⟩
  ·intro g dg y ag a7;cases g with
   | free=>simp only[e5,aH]at ag;subst ag;exact trivial
   | own s=>
    simp only[e5]at ag;split at ag
    ·simp only[aH]at ag;subst ag;exact trivial
    simp only[aH]at ag;subst ag;simp only[Tag.de,ch]at a7 ⊢;rw[aZ ‹_›];exact a7
   | ro s=>
    simp only[e5]at ag;split at ag
    ·simp only[aH]at ag;subst ag;exact trivial
    simp only[aH]at ag;subst ag;exact trivial
  intro id b _ cA;have bk:=aI.owned.lt (b:=b) (by simp[cA]);rw[hold b bk,cA];rfl
 have cell:∀(n:Nat) (d:D) (u:Value),n<10000->kC rs v n=u->(∀k es,d=.aa k es->mY rs n=k)->bA aD dZ (Tag.own n).R d u->Sat aD aP ch (d.mu (t+n)) u:=by
  intro n d u aR a8 aT ar;cases d with
  | v x=>
   have e:u=x:=by cases ar;rfl
   subst e;unfold D.mu;split
   ·rename_i h;cases h;exact rfl
   ·rename_i h;cases h;exact rfl
   ·rename_i h;cases h
   ·exact trivial
   exact trivial
  | ptr ds=>exact trivial
  | da g cD=>exact trivial
  | aa k es=>
   refine⟨ar.frame fun b q bk aw=>⟨?_,rfl⟩,?_⟩
   ·simp only[Tag.R]at aw ⊢;have:¬b<w.heap.size:=fun h=>by have:=iA b h;rw[this]at aw;cases aw
    rw[fc b this,aw];rfl
   simp only[Tag.de,ch];rw[bb (by omega),show t+n-t=n by omega,a8,aT k es rfl]
 have qg:∀(r:Nat) (bT:b7) (y:Value),r<100->(∀ds,bT=.agg ds->ds.length<100)->rs[r]?=some bT->(∀j,j<100->kC rs v (100*r+j)=y.cells.getD j undef)->jP aD dZ r bT y->h' (Sat aD aP ch) (bT.res (t+100*r)) y:=by
  intro r bT y ar dM vG a8 lg;have fq:∀j,j<100->mY rs (100*r+j)=(match b7.cell j bT with | some (.aa k _)=>k | _=>0):=by
   intro j aU;unfold mY;rw[show (100*r+j) / 100=r by omega,show (100*r+j) % 100=j by omega,vG];rfl
  cases bT with
  | one d=>
   have J:=lg.me;have U:=a8 0 (by omega);rw[wR J]at U;have:=cell (100*r) d y (by omega) (by simpa using U) (fun k es e=>by
    have:=fq 0 (by omega);rw[lM]at this;rw[this,e];rfl) lg
   exact this
  | agg ds=>
   obtain⟨vs,rfl,aR,aU⟩:=lg;refine⟨vs,rfl,by rw[tN];exact aR,fun j l ak=>?_⟩;rw[wV,bF]at ak;obtain⟨d,ay,rfl⟩:=ak;obtain⟨u,hu,vH⟩:=aU j d ay;have h0:j<100:=by
    have:=(eJ.1 ay).1;have:=dM ds rfl;omega
   refine⟨u,hu,?_⟩;have:=cell (100*r+j) d u (by omega) (by rw[a8 j h0];simp[Value.cells,dF,hu]) (fun k es e=>by
    rw[fq j h0];simp only[b7.cell,ay,e]) vH
   rw[show t+100*r+(0+j)=t+(100*r+j) by omega];exact this
 simp only[qR,b0,cF]at dc;have dM:∀(r:Nat) (bT:b7),rs[r]?=some bT->∀ds,bT=.agg ds->ds.length<100:=by
  intro r bT ar ds e;have:=eP.1 dc.2 bT (eD ar);subst e;simpa using this
 refine⟨aP,ch,aI.dE _ aW.sat (aI.below.next ah) ?_ ?_ ?_ (fun s ad=>by simp only[ch];rw[aZ (by omega)]),?_⟩
 ·intro b eM;by_cases bk:b<w.heap.size
  ·rw[hold b bk]at eM;have U:ω b≠.bc:=fun e=>by rw[e]at eM;exact eM rfl
   obtain⟨ax,arr,ty,aJ⟩:=aI.owned b U;exact⟨ax,arr,ty,(ah.block b bk).trans aJ⟩
  rw[fc b bk]at eM;have U:dZ b≠.bc:=fun e=>by rw[e]at eM;exact eM rfl
  obtain⟨_,arr,ty,aJ⟩:=hZ b U;exact⟨.inl (by have:=aI.below.size;omega),arr,ty,aJ⟩
 ·intro id b cA;have bk:=aI.owned.lt (b:=b) (by simp[cA]);exact⟨aW.box id b rfl cA,ah.block b bk⟩
 ·intro id b cA;by_cases bk:b<w.heap.size
  ·rw[hold b bk]at cA;cases e:ω b with
   | bc=>rw[e]at cA;cases cA
   | box i=>rw[e]at cA;exact cA
   | tok s q=>rw[e]at cA;simp only[lu]at cA;split at cA<;>cases cA
  ·rw[fc b bk]at cA;cases e:dZ b<;>(rw[e]at cA;cases cA)
 cases rs with
 | nil=>
  obtain⟨vs,rfl,aR,_⟩:=iQ;exact⟨vs,rfl,aR,fun i a aC=>by simp[nG]at aC⟩
 | cons bT rest=>
  cases rest with
  | nil=>
   have:=qg 0 bT v (by omega) (dM 0 bT rfl) rfl (fun j aU=>by
    unfold kC;simp only[Nat.mul_zero,cP];rw[AH aU]) iQ
   exact this
  | cons G0 rest=>
   obtain⟨vs,rfl,aR,a8⟩:=iQ;refine⟨vs,rfl,by rw[zq];exact aR,fun i a aC=>?_⟩;rw[zp,bF]at aC;obtain⟨k6,J,rfl⟩:=aC;obtain⟨y,a7,vr⟩:=a8 i k6 J;have jK:i<100:=by
    have:=(eJ.1 J).1;omega
   refine⟨y,a7,?_⟩;have:=qg i k6 y jK (dM i k6 J) J (fun j aU=>by
    unfold kC;simp only;rw[show (100*i+j) / 100=i by omega,show (100*i+j) % 100=j by omega];simp[dF,a7]) vr
   rw[cP];exact this
end Go.Sx
namespace Go.Sx
open Go.RowKit
inductive dP where
 | ro (d:D)
 | ed (k:Nat) (es:List (List D)) (post:Option (List (List D)))
inductive GA where
 | one (c:dP)
 | agg (cs:List dP)
def eh(i j:Nat):Nat:=cy+(100*i+j)
def GA.cell(j:Nat):GA->Option dP
 | .one c=>if j=0 then some c else none
 | .agg cs=>cs[j]?
def cellOf(v:Value)(j:Nat):Value:=v.cells.getD j undef
def rv(w:World)(ω:Own)(t:Nat):dP->Value->Prop
 | .ro d,y=>bA w ω Tag.free.R d y
 | .ed k es _,y=>bA w ω (Tag.own t).R (.aa k es) y
def GR(w:World)(ω:Own)(i:Nat):GA->Value->Prop
 | .one c,y=>rv w ω (eh i 0) c y
 | .agg cs,y=>∃vs:Array Value,y=.agg vs/\vs.size=cs.length/\∀(j:Nat) (c:dP),cs[j]?=some c->∃u,vs[j]?=some u/\rv w ω (eh i j) c u
def AM(w:World)(ω:Own):Prop:=∀b,ω b≠.bc->(∃t q,ω b=.tok t q/\cy<=t)/\∃arr ty,w.heap[b]?=some (.cells arr ty (0,0))
def AL(w:World)(ω:Own)(args:List GA)(vs:Array Value):Prop:=AM w ω/\vs.size=args.length/\∀(i:Nat) (dD:GA),args[i]?=some dD->∃v,vs[i]?=some v/\GR w ω i dD v
def Kept(w:World)(ω:Own)(args:List GA)(vs:Array Value):Prop:=
 ∀(i j:Nat) (dD:GA) (k:Nat) (es bV:List (List D)),args[i]?=some dD->dD.cell j=some (.ed k es (some bV))->bA w ω (Tag.own (eh i j)).R (.aa k bV) (cellOf (vs.getD i undef) j)
def je(P:Program)(f:FuncId)(args:List GA)(rs:List b7):Prop:=
 ∀(w:World) (vs:Array Value) (ω:Own),AL w ω args vs->Tidy w ω->Calls P f vs w fun e aD=>∃v,e=.returned v/\e8 ⟨w,fun b=>ω b≠.bc,fun _=>(0,undef)⟩ aD/\
  ∃aP:Own,(∀b,b<w.heap.size->ω b=.bc->aP b=.bc)/\(∀b,aP b≠.bc->(∃t q,aP b=.tok t q)/\∃arr ty,aD.heap[b]?=some (.cells arr ty (0,0)))/\Kept aD aP args vs/\j7 aD aP rs v
structure cG where
 i:Nat
 j:Nat
 t:Nat
 p:Option (Nat×Nat)
 k:Nat
 es:List (List D)
 post:Option (List (List D))
abbrev mJ:=Option (Option (List (List D)))
def s9(bs:jC)(i j:Nat):mJ->aq->Option (dP×List cG×List aq)
 | none,l=>(l.hU bs).map fun d=>(.ro d,[],[l])
 | some post,.aa (.own t) k es=>some (.ed k es post,[⟨i,j,t,none,k,es,post⟩],[])
 | some post,.bE t a b k es .here=>some (.ed k es post,[⟨i,j,t,some (a,b),k,es,post⟩],[])
 | _,_=>none
def mj(bs:jC)(i:Nat):Nat->List mJ->List aq->Option (List dP×List cG×List aq)
 | _,[],[]=>some ([],[],[])
 | j,m::ms,l::ls=>
  match s9 bs i j m l,mj bs i (j+1) ms ls with
  | some (c,h,r),some (cs,ad,rs)=>some (c::cs,h++ad,r++rs)
  | _,_=>none
 | _,_,_=>none
def uY(bs:jC)(i:Nat)(ms:List mJ):az->Option (GA×List cG×List aq)
 | .aN (.one l)=>match ms with | [m]=>(s9 bs i 0 m l).map fun r=>(.one r.1,r.2) | _=>none
 | .aN (.agg ls)=>(mj bs i 0 ms ls).map fun r=>(.agg r.1,r.2)
 | _=>none
def rC(bs:jC):Nat->List (List mJ)->List az->Option (List GA×List cG×List aq)
 | _,[],[]=>some ([],[],[])
 | i,ms::CW,p::b'=>
  match uY bs i ms p,rC bs (i+1) CW b' with
  | some (a,h,r),some (as,ad,rs)=>some (a::as,h++ad,r++rs)
  | _,_=>none
 | _,_,_=>none
def oQ(ad:List cG)(t:Nat):Bool:=ad.any fun h=>h.t==t
def Tag.kJ(ad:List cG):Tag->Bool
 | .free=>false
 | .own t=>oQ ad t
 | .ro t=>oQ ad t
def aq.ma(ad:List cG):aq->Bool
 | .aa t _ _=>t.kJ ad
 | .ep t _ _ _ _=>t.kJ ad
 | .bE t _ _ _ _ _=>oQ ad t
 | .ef _ _=>true
 | _=>false
def aq.kJ(bs:jC)(ad:List cG):aq->Bool
 | .ptr id _=>match cM id bs with | some ls=>ls.any (aq.ma ad) | none=>true
 | .eL _ ids=>ids.any fun id=>match cM id bs with | some ls=>ls.any (aq.ma ad) | none=>true
 | l=>l.ma ad
def cG.apart(h y:cG):Bool:=
 (h.i != y.i||h.j != y.j)&&(h.t != y.t||match h.p,y.p with | some p,some q=>p.2 != q.2 | _,_=>false)
def lv:List cG->Bool
 | []=>true
 | h::r=>decide (h.j<100)&&(r.all (cG.apart h)&&lv r)
theorem JK:∀{ad:List cG},lv ad=true->∀h∈ad,∀y∈ad,h=y\/(cG.apart h y=true\/cG.apart y h=true)
 | [],_,h,bq,_,_=>by cases bq
 | x::r,aT,h,bq,y,a7=>by
  simp only[lv,b0,eP]at aT;rcases dj.1 bq with aK | HE
  ·rcases dj.1 a7 with aO | Cg
   ·exact .inl (aK.trans aO.symm)
   rw[aK];exact .inr (.inl (aT.2.1 y Cg))
  rcases dj.1 a7 with aO | Cg
  ·rw[aO];exact .inr (.inr (aT.2.1 h HE))
  exact JK aT.2.2 h HE y Cg
theorem JL:∀{ad:List cG},lv ad=true->∀h∈ad,h.j<100
 | [],_,h,bq=>by cases bq
 | x::r,aT,h,bq=>by
  simp only[lv,b0,cF]at aT;rcases dj.1 bq with rfl | bq
  ·exact aT.1
  exact JL aT.2.2 h bq
def cG.fit(h:cG)(t:Nat)(q:List (Nat×Nat)):Option (List (Nat×Nat)):=
 if h.t=t then
  match h.p,q with
  | none,q=>some q
  | some p,x::c5=>if x=p then some c5 else none
  | some _,[]=>none
 else none
def kt(t:Nat)(q:List (Nat×Nat)):List cG->Option (Nat×List (Nat×Nat))
 | []=>none
 | h::r=>match h.fit t q with | some c5=>some (eh h.i h.j,c5) | none=>kt t q r
variable{h:cG}{t:Nat}{q:List (Nat×Nat)}
theorem Ru{y:cG}{q1 pJ:List (Nat×Nat)}(J:h.fit t q=some q1)(U:y.fit t q=some pJ):cG.apart h y=false:=by
 unfold cG.fit at J U;split at J
 ·rename_i aK;split at U
  ·rename_i aO;have b2:(h.t != y.t)=false:=by simp[aK,aO]
   simp only[cG.apart,b2,GK,Bool.and_eq_false_imp];intro _;split at J
   ·rename_i hp;rw[hp]
   ·rename_i p x c5 hp;split at J
    ·rename_i ae;split at U
     ·rename_i px;rw[hp,px]
     ·rename_i afW iu af0 px heq;split at U
      ·rename_i iE;rw[hp,px];simp only[oW]at heq;obtain⟨rfl,_⟩:=heq;subst ae;subst iE;simp
      cases U
     cases U
    cases J
   cases J
  cases U
 cases J
theorem DC{t:Nat}{q c5:List (Nat×Nat)}:∀{ad:List cG},lv ad=true->∀{h:cG},h∈ad->h.fit t q=some c5->kt t q ad=some (eh h.i h.j,c5)
 | [],_,h,bq,_=>by cases bq
 | x::r,aT,h,bq,bn=>by
  have BN:=aT;simp only[lv,b0,eP]at aT;simp only[kt];rcases dj.1 bq with rfl | bq
  ·rw[bn]
  cases e:x.fit t q with
  | none=>exact DC aT.2.2 bq bn
  | some pJ=>
   have:=Ru e bn;rw[aT.2.1 h bq]at this;cases this
theorem wk{g:Nat}{c5:List (Nat×Nat)}:∀{ad:List cG},kt t q ad=some (g,c5)->∃h∈ad,h.fit t q=some c5/\g=eh h.i h.j
 | [],h=>by cases h
 | x::r,h=>by
  simp only[kt]at h;split at h
  ·rename_i pJ e;simp only[aH,a']at h;obtain⟨rfl,rfl⟩:=h;exact⟨x,fk,e,rfl⟩
  obtain⟨y,a7,U⟩:=wk h;exact⟨y,eQ _ a7,U⟩
theorem JM{c5:List (Nat×Nat)}(e:h.fit t q=some c5):h.t=t/\q=h.p.toList++c5:=by
 unfold cG.fit at e;split at e
 ·rename_i aK;refine⟨aK,?_⟩;split at e
  ·rename_i hp;simp only[aH]at e;rw[hp,e];rfl
  ·rename_i p x pJ hp;split at e
   ·rename_i ae;simp only[aH]at e;rw[hp,ae,e];rfl
   cases e
  cases e
 cases e
theorem JN(h:cG)(q:List (Nat×Nat)):h.fit h.t (h.p.toList++q)=some q:=by
 unfold cG.fit;rw[bb rfl];cases h.p with
 | none=>rfl
 | some p=>simp
def eA(ad:List cG)(ω:Own):Own:=fun b=>
 match ω b with
 | .tok t q=>match kt t q ad with | some (g,c5)=>.tok g c5 | none=>.bc
 | _=>.bc
def xF(g:Nat):List cG->Option cG
 | []=>none
 | h::r=>if eh h.i h.j=g then some h else xF g r
theorem IZ:∀{ad:List cG},lv ad=true->∀{h:cG},h∈ad->xF (eh h.i h.j) ad=some h
 | [],_,h,bq=>by cases bq
 | x::r,aT,h,bq=>by
  have aU:=JL aT;have BN:=aT;simp only[lv,b0,eP]at aT;simp only[xF];rcases dj.1 bq with rfl | ps
  ·rw[bb rfl]
  rw[aZ]
  ·exact IZ aT.2.2 ps
  intro e;have J:=aU x fk;have U:=aU h (eQ _ ps);have ax:=aT.2.1 h ps;simp only[cG.apart,b0,mD,bne_iff_ne,ki]at ax;simp only[eh]at e;omega
def wl(ad:List cG)(t0:Nat):cx->cx
 | .tok s q=>if cy<=s then (match xF s ad with | some h=>.tok h.t (h.p.toList++q) | none=>.bc) else .tok (t0+s) q
 | _=>.bc
def sy(t:Nat):List cG->Option cG
 | []=>none
 | h::r=>if h.t=t then some h else sy t r
theorem I0:∀{ad:List cG},sy t ad=none->oQ ad t=false
 | [],_=>rfl
 | h::r,e=>by
  simp only[sy]at e;split at e
  ·cases e
  rename_i cl;have:=I0 e;simp only[oQ,AF,jU]at this ⊢;exact⟨by simpa using cl,this⟩
theorem I1:∀{ad:List cG},sy t ad=some h->h∈ad/\h.t=t
 | [],e=>by cases e
 | x::r,e=>by
  simp only[sy]at e;split at e
  ·simp only[aH]at e;subst e;exact⟨fk,‹_›⟩
  obtain⟨J,U⟩:=I1 e;exact⟨eQ _ J,U⟩
def j8:List cG->List D->List D
 | [],ds=>ds
 | h::r,ds=>match h.p,h.post with
  | some p,some es=>j8 r (ds.set p.2 (.aa h.k es))
  | _,_=>j8 r ds
def oz(ad:List cG)(t0 fX ln:Nat)(mO:List (List D)):aq->aq
 | .aa (.own t) k es=>
  match sy t ad with
  | some h=>match h.p,h.post with
   | none,some bV=>.aa (.own t) h.k bV
   | none,none=>.b5
   | some _,_=>if t=fX then .aa (.own t) ln mO else .b5
  | none=>aq.b3 (e5 t0) (fun _=>true) (.aa (.own t) k es)
 | l=>if l.ma ad then .b5 else l.b3 (e5 t0) fun _=>true
end Go.Sx
namespace Go.Sx
open Go.RowKit
variable{ad:List cG}
theorem Rv{t:Nat}(h:oQ ad t=false):∀y∈ad,y.t≠t:=by
 intro y a7 e;simp only[oQ,hP,fR]at h;exact h y a7 e
theorem DE{t:Nat}(h:oQ ad t=false)(q:List (Nat×Nat)):kt t q ad=none:=by
 cases e:kt t q ad with
 | none=>rfl
 | some x=>
  obtain⟨g,c5⟩:=x;obtain⟨y,a7,bn,_⟩:=wk e;exact absurd (JM bn).1 (Rv h y a7)
structure xx (w:World) (ω:Own) (τ:Nat->Nat×Value) (h:cG) (u:Value):Prop where
 rep:bA w ω (fun q o=>o=.tok h.t (h.p.toList++q)) (.aa h.k h.es) u
 root:h.p=none->τ h.t=(h.k,u)
 cell:∀a b,h.p=some (a,b)->∃(kT cm off len cap:Nat) (arr:Array Value) (ty:TypeId) (cj:Nat×Nat),τ h.t=(kT,.slice (some ⟨cm,off,none⟩) len cap)/\ω cm=.tok h.t []/\w.heap[cm]?=some (.cells arr ty cj)/\arr[off+a*kT+b]?=some u
structure GZ (w:World) (ω:Own) (τ:Nat->Nat×Value) (ad:List cG) (fX ln:Nat) (mO:List (List D)):Prop where
 ex:∀h∈ad,∀p,h.p=some p->h.t=fX->∃(cX:List (List D)) (y:Value) (ds:List D) (a:Nat),Sat w ω τ (.aa (.own fX) ln cX) y/\cX[a]?=some ds/\ds.length=ln/\mO=cX.set a (j8 ad ds)/\
  ∀x∈ad,∀q,x.p=some q->x.t=fX/\q.1=a/\∃bV,x.post=some bV
theorem wm:∀(ad:List cG) (ds:List D),(j8 ad ds).length=ds.length
 | [],_=>rfl
 | h::r,ds=>by
  simp only[j8];split
  ·rw[wm r,kj]
  exact wm r ds
theorem DF{y:Nat}{d:D}:∀{ad:List cG} {ds:List D},(j8 ad ds)[y]?=some d->(∃h∈ad,∃a bV,h.p=some (a,y)/\h.post=some bV/\d=.aa h.k bV)\/ds[y]?=some d/\∀h∈ad,∀a bV,h.p=some (a,y)->h.post=some bV->False
 | [],ds,h=>.inr ⟨h,fun _ bq=>by cases bq⟩
 | h::r,ds,ay=>by
  simp only[j8]at ay;split at ay
  ·rename_i p bV aK aO;rcases DF ay with⟨x,ae,a,bm,J,U,ax⟩ | ⟨J,U⟩
   ·exact .inl ⟨x,eQ _ ae,a,bm,J,U,ax⟩
   rw[iL]at J;split at J
   ·rename_i hp;split at J
    ·simp only[aH]at J;exact .inl ⟨h,fk,p.1,bV,by rw[aK,<-hp],aO,J.symm⟩
    cases J
   rename_i hp;refine .inr ⟨J,fun x ae a bm ax aJ=>?_⟩;rcases dj.1 ae with rfl | ae
   ·rw[aK]at ax;simp only[aH]at ax;rw[ax]at hp;exact hp rfl
   exact U x ae a bm ax aJ
  rename_i cl;rcases DF ay with⟨x,ae,a,bm,J,U,ax⟩ | ⟨J,U⟩
  ·exact .inl ⟨x,eQ _ ae,a,bm,J,U,ax⟩
  refine .inr ⟨J,fun x ae a bm ax aJ=>?_⟩;rcases dj.1 ae with rfl | ae
  ·exact cl _ _ ax aJ
  exact U x ae a bm ax aJ
theorem b1.OS{w0:dC}{st:aG}{a:Act}{w aD:World}{ω:Own}{τ:Nat->Nat×Value}(aI:b1 w0 st a w ω τ)(t0:Nat){rs:List b7}{v:Value}{H:Nat->Nat×Value}
  (cb:lv ad=true) (dc:qR rs=true) (gU:t0+10000<=cy) (HV:∀h∈ad,¬(t0<=h.t/\h.t<t0+10000)) (ah:e8 ⟨w,fun b=>eA ad ω b≠.bc,H⟩ aD) (dZ:Own)
  (iA:∀b,b<w.heap.size->eA ad ω b=.bc->dZ b=.bc) (hZ:∀b,dZ b≠.bc->(∃t q,dZ b=.tok t q)/\∃arr ty,aD.heap[b]?=some (.cells arr ty (0,0))) (iQ:j7 aD dZ rs v)
  (vals:cG->Value) (BP:∀h∈ad,∀bV,h.post=some bV->bA aD dZ (Tag.own (eh h.i h.j)).R (.aa h.k bV) (vals h)) (fs:∀h∈ad,xx w ω τ h (vals h))
  {fX ln:Nat} {mO:List (List D)} (gb:GZ w ω τ ad fX ln mO):
  ∃aP ch,b1 w0 (st.map (oz ad t0 fX ln mO)) a aD aP ch/\cd (Sat aD aP ch) (pY t0 rs) v:=by
 classical
 let aP:Own:=fun b=>if b<w.heap.size/\eA ad ω b=.bc then lu t0 (ω b) else wl ad t0 (dZ b)
 let ch:Nat->Nat×Value:=fun s=>if t0<=s/\s<t0+10000 then (mY rs (s-t0),kC rs v (s-t0)) else τ s
 have hold:∀b,b<w.heap.size->eA ad ω b=.bc->aP b=lu t0 (ω b):=fun b ah h=>by simp only[aP];rw[bb ⟨ah,h⟩]
 have fc:∀b,dZ b≠.bc->aP b=wl ad t0 (dZ b):=fun b ah=>by
  simp only[aP];rw[aZ];rintro⟨J,U⟩;exact ah (iA b J U)
 have kA:∀b,b<w.heap.size->eA ad ω b=.bc->aD.heap[b]?=w.heap[b]?:=fun b bk h=>ah.block b bk (fun aR=>aR h)
 have mZ:∀b,ω b=.bc->eA ad ω b=.bc:=fun b h=>by simp only[eA,h]
 have Ps:∀b id,ω b=.box id->eA ad ω b=.bc:=fun b id h=>by simp only[eA,h]
 have h4:∀b s q,ω b=.tok s q->kt s q ad=none->eA ad ω b=.bc:=fun b s q h U=>by simp only[eA,h,U]
 have pF:∀h∈ad,ch h.t=τ h.t:=fun h bq=>by simp only[ch];rw[aZ (HV h bq)]
 have eF:∀(g dg:Tag) (b:Nat) (q:List (Nat×Nat)),g.kJ ad=false->e5 t0 g=some dg->b<w.heap.size->g.R q (ω b)->dg.R q (aP b)/\aD.heap[b]?=w.heap[b]?:=by
  intro g dg b q hm ag bk aw;have hi:eA ad ω b=.bc:=by
   cases g with
   | free=>exact mZ b aw
   | own s=>exact h4 b s q aw (DE hm q)
   | ro s=>
    rcases aw with h | ⟨c5,h⟩
    ·exact mZ b h
    exact h4 b s c5 h (DE hm c5)
  refine⟨?_,kA b bk hi⟩;rw[hold b bk hi];cases g with
  | free=>simp only[e5,aH]at ag;subst ag;simp only[Tag.R]at aw ⊢;rw[aw];rfl
  | own s=>
   simp only[Tag.R]at aw;simp only[e5]at ag;rw[aw];simp only[lu];split at ag
   ·simp only[aH]at ag;subst ag;rw[bb ‹_›];rfl
   simp only[aH]at ag;subst ag;rw[aZ ‹_›];rfl
  | ro s=>
   simp only[Tag.R]at aw;simp only[e5]at ag;split at ag
   ·simp only[aH]at ag;subst ag;rcases aw with h | ⟨c5,h⟩
    ·rw[h];rfl
    rw[h];simp only[lu];rw[bb ‹_›];rfl
   simp only[aH]at ag;subst ag;rcases aw with h | ⟨c5,h⟩
   ·rw[h];exact .inl rfl
   rw[h];simp only[lu];rw[aZ ‹_›];exact .inr ⟨c5,rfl⟩
 have CR:∀(g dg:Tag) (y:Nat×Value),e5 t0 g=some dg->g.de τ y->dg.de ch y:=by
  intro g dg y ag a7;cases g with
  | free=>simp only[e5,aH]at ag;subst ag;exact trivial
  | own s=>
   simp only[e5]at ag;split at ag
   ·simp only[aH]at ag;subst ag;exact trivial
   simp only[aH]at ag;subst ag;simp only[Tag.de,ch]at a7 ⊢;rw[aZ ‹_›];exact a7
  | ro s=>
   simp only[e5]at ag;split at ag
   ·simp only[aH]at ag;subst ag;exact trivial
   simp only[aH]at ag;subst ag;exact trivial
 have tG:∀id b,ω b=.box id->aP b=.box id/\aD.heap[b]?=w.heap[b]?:=by
  intro id b cA;have bk:=aI.owned.lt (b:=b) (by simp[cA]);have hi:=Ps b id cA;exact⟨by rw[hold b bk hi,cA];rfl,kA b bk hi⟩
 have Ip:∀h∈ad,∀bV,h.post=some bV->bA aD aP (fun q o=>o=.tok h.t (h.p.toList++q)) (.aa h.k bV) (vals h):=by
  intro h bq bV he;refine (BP h bq bV he).frame fun b q _ aw=>⟨?_,rfl⟩
  simp only[Tag.R]at aw;rw[fc b (by rw[aw];simp),aw];simp only[wl];rw[bb (by simp[eh]),IZ cb bq]
 have dJ:∀l y,Sat w ω τ l y->Sat aD aP ch (oz ad t0 fX ln mO l) y:=by
  intro l y cB;have plain:∀g k es,g.kJ ad=false->Sat w ω τ (.aa g k es) y->Sat aD aP ch (aq.b3 (e5 t0) (fun _=>true) (.aa g k es)) y:=by
   intro g k es hm l6;simp only[aq.b3];cases ag:e5 t0 g with
   | none=>exact trivial
   | some dg=>exact⟨l6.1.frame fun b q bk aw=>eF g dg b q hm ag bk aw,CR g dg _ ag l6.2⟩
  cases l with
  | b5=>exact trivial
  | v x=>exact cB
  | bP c=>exact cB
  | ptr id off=>
   obtain⟨b,J,U⟩:=cB;exact⟨b,(tG id b J).1,U⟩
  | eL f ids=>
   obtain⟨bs,e,aR,hi⟩:=cB;simp only[oz,aq.ma,oT,mF,aq.b3];split
   ·refine⟨bs,e,aR,fun i id fp=>?_⟩;obtain⟨b,J,U⟩:=hi i id fp;exact⟨b,J,(tG id b U).1⟩
   exact trivial
  | gZ ds off=>
   obtain⟨b,e,ar⟩:=cB;exact⟨b,e,ar.frame fun b q bk aw=>eF .free .free b q rfl rfl bk aw⟩
  | fd d=>exact bA.frame cB fun b q bk aw=>eF .free .free b q rfl rfl bk aw
  | dL t k es=>exact⟨bA.frame cB.1 fun b q bk aw=>eF .free .free b q rfl rfl bk aw,fun bH=>(show ch t=τ t by simp only[ch];rw[aZ (by omega)]).trans (cB.2 bH)⟩
  | bE t i j k es m=>
   simp only[oz];by_cases hm:aq.ma ad (.bE t i j k es m)=true
   ·rw[bb hm];exact trivial
   rw[aZ hm];simp only[uQ]at hm;replace hm:oQ ad t=false:=hm;simp only[aq.b3];split
   ·rename_i c3 ag;split
    ·rename_i bH;subst bH;obtain⟨gC,oe,J,BV⟩:=cB;refine⟨gC,oe,J.frame fun c q ai aw=>eF (.own c3) _ c _ hm ag ai aw,fun P0=>?_⟩;obtain⟨kT,b,off,len,cap,arr,ty,cj,U,a1,ax,aJ⟩:=BV P0;have bk:b<w.heap.size:=(hB.1 ax).1;have aT:=eF (.own c3) _ b [] hm ag bk a1;exact⟨kT,b,off,len,cap,arr,ty,cj,CR _ _ _ ag U,aT.1,aT.2.trans ax,aJ⟩
    exact trivial
   exact trivial
  | ef t vs=>
   simp only[oz,aq.ma,fZ];exact trivial
  | ep g k es i j=>
   simp only[oz];by_cases hm:aq.ma ad (.ep g k es i j)=true
   ·rw[bb hm];exact trivial
   rw[aZ hm];simp only[uQ]at hm;replace hm:g.kJ ad=false:=hm;obtain⟨b,off,cap,e,hi,ar,bq⟩:=cB;simp only[aq.b3];cases ag:e5 t0 g with
   | none=>exact trivial
   | some dg=>exact⟨b,off,cap,e,hi,ar.frame fun b q bk aw=>eF g dg b q hm ag bk aw,CR g dg _ ag bq⟩
  | aa g k es=>
   cases g with
   | free=>exact plain .free k es rfl cB
   | ro s=>
    simp only[oz];by_cases hm:aq.ma ad (.aa (.ro s) k es)=true
    ·rw[bb hm];exact trivial
    rw[aZ hm];simp only[uQ]at hm;exact plain (.ro s) k es hm cB
   | own s=>
    simp only[oz];cases bn:sy s ad with
    | none=>exact plain (.own s) k es (I0 bn) cB
    | some h=>
     obtain⟨bq,rfl⟩:=I1 bn;simp only;have a8:=fs h bq;have de:τ h.t=(k,y):=cB.2;split
     ·
      rename_i bV hp he;have aK:=a8.root hp;rw[de]at aK;simp only[a']at aK;obtain⟨rfl,aO⟩:=aK;have ar:=Ip h bq bV he;rw[hp,<-aO]at ar;exact⟨ar,by simp only[Tag.de];rw[pF h bq,de]⟩
     ·exact trivial
     -- parts of it
     rename_i p hp;split
     ·rename_i qy;obtain⟨cX,z7,ds,a0,tC,dM,tn,rfl,gI⟩:=gb.ex h bq p hp qy;have BA:τ fX=(ln,z7):=tC.2;rw[<-qy,de]at BA;simp only[a']at BA;obtain⟨rfl,rfl⟩:=BA;obtain⟨pz,_⟩:=tC;have hlen:(cX.set a0 (j8 ad ds)).length=cX.length:=kj;have Hn:a0<cX.length:=(eJ.1 dM).1;refine⟨?_,by simp only[Tag.de];rw[pF h bq,de]⟩;generalize a7:y=GJ at pz;cases pz with
      | nil=>simp at Hn
      | row R k cX cm off cap arr ty cj us Bt c6 PE dN aT hu ay=>
       subst a7;have xV:ω cm=.tok h.t []:=by rw[qy];exact c6
       have HP:∀x∈ad,x.fit fX []=none:=by
        intro x ae;unfold cG.fit;split
        ·rename_i ext;cases yi:x.p with
         | some q=>simp
         | none=>
          exfalso;have cl:cG.apart h x=true\/cG.apart x h=true\/h=x:=by
           rcases JK cb h bq x ae with e | e | e
           ·exact .inr (.inr e)
           ·exact .inl e
           exact .inr (.inl e)
          have tk:∀y z:cG,y.t=z.t->(y.p=none\/z.p=none)->cG.apart y z=true->False:=by
           intro y z aK aO b2;simp only[cG.apart,aK,b0,mD,bne_self_eq_false,oT,false_or]at b2;rcases aO with aO | aO
           ·simp[aO]at b2
           ·rw[aO]at b2;cases hyp:y.p<;>simp[hyp]at b2
          rcases cl with e | e | e
          ·exact tk h x (by rw[ext,qy]) (.inr yi) e
          ·exact tk x h (by rw[ext,qy]) (.inl yi) e
          rw[<-e,hp]at yi;cases yi
        rfl
       have jk:kt fX [] ad=none:=by
        cases e:kt fX [] ad with
        | none=>rfl
        | some z=>
         obtain⟨g,c5⟩:=z;obtain⟨x,ae,H9,_⟩:=wk e;rw[HP x ae]at H9;cases H9
       have Pq:cm<w.heap.size:=(hB.1 Bt).1;have ae9:eA ad ω cm=.bc:=h4 cm fX [] c6 jk;have Qy:¬(t0<=fX/\fX<t0+10000):=by rw[<-qy];exact HV h bq
       have HR:∀b q,b<w.heap.size->ω b=.tok fX q->kt fX q ad=none->aP b=.tok fX q/\aD.heap[b]?=w.heap[b]?:=by
        intro b q bk aw aR;have hi:=h4 b fX q aw aR;refine⟨?_,kA b bk hi⟩;rw[hold b bk hi,aw];simp only[lu];rw[aZ Qy]
       have HQ:∀x y d,cq cX x y=some d->(∀z∈ad,z.p≠some (x,y))->bA aD aP (fun q=>(Tag.own fX).R ((x,y)::q)) d (us x y):=by
        intro x y d ai aL;refine (ay x y d ai).frame fun b q bk aw=>?_
        refine HR b _ bk aw ?_;cases e:kt fX ((x,y)::q) ad with
        | none=>rfl
        | some r=>
         obtain⟨g,c5⟩:=r;obtain⟨z,vS,vT,_⟩:=wk e;obtain⟨aK,aO⟩:=JM vT;exfalso;cases oi:z.p with
         | none=>
          have:=HP z vS;unfold cG.fit at this;rw[bb aK,oi]at this;simp at this
         | some r=>
          rw[oi]at aO;simp only[GO,List.cons_append,List.nil_append,oW]at aO;exact aL z vS (by rw[oi,<-aO.1])
       have key:∀x y d,cq (cX.set a0 (j8 ad ds)) x y=some d->bA aD aP (fun q=>(Tag.own fX).R ((x,y)::q)) d (us x y):=by
        intro x y d ai;by_cases ae:x=a0
        ·subst ae;have hZ:(j8 ad ds)[y]?=some d:=by
          simpa[cq,iL,Hn]using ai
         rcases DF hZ with⟨z,aL,dy,bV,J,U,rfl⟩ | ⟨J,U⟩
         ·obtain⟨aK,aO,_⟩:=gI z aL _ J;have aO:dy=x:=aO;subst aO;obtain⟨kT,fU,afS,afL,aeM,aeI,af9,ae0,g1,g2,g3,g4⟩:=(fs z aL).cell _ _ J;rw[aK,<-qy,de]at g1;simp only[a',Value.slice.injEq,aH,Addr.mk.injEq]at g1;obtain⟨rfl,⟨rfl,rfl,_⟩,_,_⟩:=g1;rw[Bt]at g3;simp only[aH,Obj.cells.injEq]at g3;obtain⟨rfl,_,_⟩:=g3;have Q0:y<ds.length:=by
           have:=(eJ.1 hZ).1;rwa[wm]at this
          have ee:cq cX dy y=some ds[y]:=by simp[cq,dM,Q0]
          have QT:us dy y=vals z:=by
           have:=hu dy y _ ee;rw[g4]at this;exact (e0 this).symm
          rw[QT];have ar:=Ip z aL bV U;rw[J,aK]at ar;exact ar
         have ee:cq cX x y=some d:=by simp[cq,dM,J]
         refine HQ x y d ee fun z aL oi=>?_
         obtain⟨_,_,bV,he⟩:=gI z aL _ oi;exact U z aL x bV oi he
        have ee:cq cX x y=some d:=by
         simp only[cq,iL]at ai;rw[aZ (by omega)]at ai;exact ai
        refine HQ x y d ee fun z aL oi=>?_
        obtain⟨_,aO,_⟩:=gI z aL _ oi;exact ae aO
       have fM:=HR cm [] Pq c6 jk;have:=bA.row (w:=aD) (ω:=aP) (Tag.own fX).R k (cX.set a0 (j8 ad ds)) cm off cap arr ty cj us (fM.2.trans Bt) fM.1 (by rw[hlen];exact PE) dN
        (fun e he=>by
         rcases oV he with dQ | rfl
         ·exact aT e dQ
         rw[wm];exact tn)
        (fun x y d ai=>by
         have eU:x<cX.length/\y<k:=by
          have BN:∀e∈cX.set a0 (j8 ad ds),e.length=k:=fun e he=>by
           rcases oV he with dQ | rfl
           ·exact aT e dQ
           rw[wm];exact tn
          have dQ:x<(cX.set a0 (j8 ad ds)).length/\y<k:=by
           unfold cq at ai;cases u0:(cX.set a0 (j8 ad ds))[x]? with
           | none=>simp[u0]at ai
           | some row=>
            simp only[u0,mB]at ai;have hm:=BN row (eD u0);exact⟨(eJ.1 u0).1,by rw[<-hm];exact (eJ.1 ai).1⟩
          rw[hlen]at dQ;exact dQ
         have rX:(cX[x]'eU.1).length=k:=aT _ (sX eU.1);exact hu x y ((cX[x]'eU.1)[y]'(by omega)) (by simp[cq,eU.1,rX,eU.2]))
        key
       rw[hlen]at this;rw[qy];exact this
     exact trivial
 have cell:∀(n:Nat) (d:D) (u:Value),n<10000->kC rs v n=u->(∀k es,d=.aa k es->mY rs n=k)->bA aD dZ (Tag.own n).R d u->Sat aD aP ch (d.mu (t0+n)) u:=by
  intro n d u aR a8 aT ar;cases d with
  | v x=>
   have e:u=x:=by cases ar;rfl
   subst e;unfold D.mu;split
   ·rename_i h;cases h;exact rfl
   ·rename_i h;cases h;exact rfl
   ·rename_i h;cases h
   ·exact trivial
   exact trivial
  | ptr ds=>exact trivial
  | da g cD=>exact trivial
  | aa k es=>
   refine⟨ar.frame fun b q bk aw=>⟨?_,rfl⟩,?_⟩
   ·simp only[Tag.R]at aw ⊢;rw[fc b (by rw[aw];simp),aw];simp only[wl];rw[aZ (by simp only[cy];omega)]
   simp only[Tag.de,ch];rw[bb (by omega),show t0+n-t0=n by omega,a8,aT k es rfl]
 have qg:∀(r:Nat) (bT:b7) (y:Value),r<100->(∀ds,bT=.agg ds->ds.length<100)->rs[r]?=some bT->(∀j,j<100->kC rs v (100*r+j)=y.cells.getD j undef)->jP aD dZ r bT y->h' (Sat aD aP ch) (bT.res (t0+100*r)) y:=by
  intro r bT y ar dM vG a8 lg;have fq:∀j,j<100->mY rs (100*r+j)=(match b7.cell j bT with | some (.aa k _)=>k | _=>0):=by
   intro j aU;unfold mY;rw[show (100*r+j) / 100=r by omega,show (100*r+j) % 100=j by omega,vG];rfl
  cases bT with
  | one d=>
   have J:=lg.me;have U:=a8 0 (by omega);rw[wR J]at U;have:=cell (100*r) d y (by omega) (by simpa using U) (fun k es e=>by
    have:=fq 0 (by omega);rw[lM]at this;rw[this,e];rfl) lg
   exact this
  | agg ds=>
   obtain⟨vs,rfl,aR,aU⟩:=lg;refine⟨vs,rfl,by rw[tN];exact aR,fun j l ak=>?_⟩;rw[wV,bF]at ak;obtain⟨d,ay,rfl⟩:=ak;obtain⟨u,hu,vH⟩:=aU j d ay;have h0:j<100:=by
    have:=(eJ.1 ay).1;have:=dM ds rfl;omega
   refine⟨u,hu,?_⟩;have:=cell (100*r+j) d u (by omega) (by rw[a8 j h0];simp[Value.cells,dF,hu]) (fun k es e=>by
    rw[fq j h0];simp only[b7.cell,ay,e]) vH
   rw[show t0+100*r+(0+j)=t0+(100*r+j) by omega];exact this
 simp only[qR,b0,cF]at dc;have dM:∀(r:Nat) (bT:b7),rs[r]?=some bT->∀ds,bT=.agg ds->ds.length<100:=by
  intro r bT ar ds e;have:=eP.1 dc.2 bT (eD ar);subst e;simpa using this
 have HL:∀b,ω b≠.bc->w0.yu b:=fun b h=>(aI.owned b h).1
 have HD:∀b,eA ad ω b≠.bc->ω b≠.bc:=fun b h e=>h (mZ b e)
 refine⟨aP,ch,aI.dE _ dJ ?_ ?_ (fun id b cA=>tG id b cA) ?_ (fun s ad=>by simp only[ch];rw[aZ (by omega)]),?_⟩
 ·refine⟨ah.os.trans aI.below.os,ah.tape.trans aI.below.tape,ah.output.trans aI.below.output,k2 aI.below.size ah.size,fun k aT ag=>?_,fun ad=>k2 (aI.below.drawn ad) (ah.drawn ad),ah.laid,aI.below.free⟩;have l4:k<w.heap.size:=uR aT aI.below.size;have hi:eA ad ω k=.bc:=by
   cases e:eA ad ω k with
   | bc=>rfl
   | _=>
    have:=HL k (HD k (by rw[e];simp));rcases this with h | h
    ·omega
    exact absurd h ag
  exact (kA k l4 hi).trans (aI.below.block k aT ag)
 ·intro b eM;by_cases ai:b<w.heap.size/\eA ad ω b=.bc
  ·rw[hold b ai.1 ai.2]at eM;have U:ω b≠.bc:=fun e=>by rw[e]at eM;exact eM rfl
   obtain⟨ax,arr,ty,aJ⟩:=aI.owned b U;exact⟨ax,arr,ty,(kA b ai.1 ai.2).trans aJ⟩
  have U:dZ b≠.bc:=fun e=>by
   simp only[aP]at eM;rw[aZ ai,e]at eM;exact eM rfl
  obtain⟨_,arr,ty,aJ⟩:=hZ b U;refine⟨?_,arr,ty,aJ⟩;rcases mE b w.heap.size with bk | l0
  ·exact HL b (HD b fun e=>ai ⟨bk,e⟩)
  exact .inl (by have:=aI.below.size;omega)
 ·intro id b cA;by_cases ai:b<w.heap.size/\eA ad ω b=.bc
  ·rw[hold b ai.1 ai.2]at cA;cases e:ω b with
   | bc=>rw[e]at cA;cases cA
   | box i=>rw[e]at cA;exact cA
   | tok s q=>rw[e]at cA;simp only[lu]at cA;split at cA<;>cases cA
  simp only[aP]at cA;rw[aZ ai]at cA;cases e:dZ b with
  | bc=>rw[e]at cA;cases cA
  | box i=>rw[e]at cA;cases cA
  | tok s q=>
   rw[e]at cA;simp only[wl]at cA;split at cA
   ·split at cA<;>cases cA
   cases cA
 cases rs with
 | nil=>
  obtain⟨vs,rfl,aR,_⟩:=iQ;exact⟨vs,rfl,aR,fun i a aC=>by simp[nG]at aC⟩
 | cons bT rest=>
  cases rest with
  | nil=>
   have:=qg 0 bT v (by omega) (dM 0 bT rfl) rfl (fun j aU=>by
    unfold kC;simp only[Nat.mul_zero,cP];rw[AH aU]) iQ
   exact this
  | cons G0 rest=>
   obtain⟨vs,rfl,aR,a8⟩:=iQ;refine⟨vs,rfl,by rw[zq];exact aR,fun i a aC=>?_⟩;rw[zp,bF]at aC;obtain⟨k6,J,rfl⟩:=aC;obtain⟨y,a7,vr⟩:=a8 i k6 J;have jK:i<100:=by
    have:=(eJ.1 J).1;omega
   refine⟨y,a7,?_⟩;have:=qg i k6 y jK (dM i k6 J) J (fun j aU=>by
    unfold kC;simp only;rw[show (100*i+j) / 100=i by omega,show (100*i+j) % 100=j by omega];simp[dF,a7]) vr
   rw[cP];exact this
end Go.Sx
namespace Go.Sx
open Go.RowKit
variable{w:World}{ω:Own}{τ:Nat->Nat×Value}{ad:List cG}{l:aq}{d:D}{y:Value}
theorem I2(h:l.e2=some d)(hm:l.ma ad=false)(cB:Sat w ω τ l y):bA w (eA ad ω) Tag.free.R d y:=by
 have mZ:∀b,ω b=.bc->eA ad ω b=.bc:=fun b h=>by simp only[eA,h]
 have h4:∀b s q,ω b=.tok s q->oQ ad s=false->eA ad ω b=.bc:=fun b s q h U=>by simp only[eA,h,DE U]
 have tag:∀(g:Tag) (b:Nat) (q:List (Nat×Nat)),g.kJ ad=false->g.R q (ω b)->eA ad ω b=.bc:=by
  intro g b q ag aw;cases g with
  | free=>exact mZ b aw
  | own s=>exact h4 b s q aw ag
  | ro s=>
   rcases aw with h | ⟨c5,h⟩
   ·exact mZ b h
   exact h4 b s c5 h ag
 cases l with
 | b5=>cases h
 | v x=>
  simp only[aq.e2]at h;split at h
  ·simp only[aH]at h;subst h;have:y=x:=cB;subst this;exact .v _ _ ‹_›
  cases h
 | bP c=>
  simp only[aq.e2,aH]at h;subst h;have:y=.bool c:=cB;subst this;exact .v _ _ rfl
 | aa t k es=>simp only[aq.e2,aH]at h;subst h;exact cB.1.frame fun b q _ aw=>⟨tag t b q hm aw,rfl⟩
 | ptr=>cases h
 | ep=>cases h
 | eL=>cases h
 | ef=>cases h
 | gZ ds off=>
  simp only[aq.e2]at h;split at h
  ·rename_i aM;subst aM;simp only[aH]at h;subst h;obtain⟨b,rfl,ar⟩:=cB;exact ar.frame fun b q _ aw=>⟨mZ b aw,rfl⟩
  cases h
 | fd cN=>simp only[aq.e2,aH]at h;subst h;exact bA.frame cB fun b q _ aw=>⟨mZ b aw,rfl⟩
 | dL t k es=>simp only[aq.e2,aH]at h;subst h;exact bA.frame cB.1 fun b q _ aw=>⟨mZ b aw,rfl⟩
 | bE t i j k es m=>
  obtain⟨u,hu,ar,_⟩:=cB;cases m with
  | at_ x z=>cases h
  | here=>simp only[aq.e2,aH]at h;subst h;have:y=u:=hu;subst this;exact ar.frame fun b q _ aw=>⟨h4 b t _ aw hm,rfl⟩
  | jF=>simp only[aq.e2,aH]at h;subst h;have:y=u:=hu;subst this;exact ar.frame fun b q _ aw=>⟨h4 b t _ aw hm,rfl⟩
variable{bs:jC}
theorem I3(ah:sx w ω τ bs){id b:Nat}(h:s7 bs id=some d)(hm:(match cM id bs with | some ls=>ls.any (aq.ma ad) | none=>true)=false)(aM:ω b=.box id):
  bA w (eA ad ω) Tag.free.R d (ptrTo b):=by
 unfold s7 at h;cases e:cM id bs with
 | none=>simp[e]at h
 | some ls=>
  rw[e]at hm;simp only[hP,uQ]at hm;simp only[e,mB,bF]at h;obtain⟨ds,J,rfl⟩:=h;obtain⟨cH,arr,ty,dv,hu,bq,cB⟩:=ah id ls e;have:=hu b aM;subst this;obtain⟨U,ax⟩:=kS J;have cell:∀j d,ds[j]?=some d->arr[j]?=some (arr.getD j undef)/\bA w (eA ad ω) Tag.free.R d (arr.getD j undef):=by
   intro j d ay;obtain⟨l,ak,cr⟩:=ax j d ay;obtain⟨u,fe,er⟩:=cB.2 j l ak;have aO:arr.getD j undef=u:=by simp[dF,fe]
   rw[aO];exact⟨fe,I2 cr (hm l (eD ak)) er⟩
  exact bA.ptr _ ds b arr ty (0,0) (fun j=>arr.getD j undef) bq (by show eA ad ω b=.bc;simp only[eA,aM]) (by have:=cB.1;omega) (fun j d ay=>(cell j d ay).1) (fun j d ay=>(cell j d ay).2.frame fun _ _ _ h=>⟨h,rfl⟩)
theorem Rw(ah:sx w ω τ bs)(h:l.hU bs=some d)(hm:l.kJ bs ad=false)(cB:Sat w ω τ l y):
  bA w (eA ad ω) Tag.free.R d y:=by
 unfold aq.hU at h;split at h
 ·rename_i id off;split at h
  ·rename_i aM;subst aM;obtain⟨b,J,rfl⟩:=cB;exact I3 ah h hm J
  cases h
 ·rename_i g ids;rw[bF]at h;obtain⟨ds,J,rfl⟩:=h;obtain⟨k8,rfl,aR,hi⟩:=cB;obtain⟨U,ax⟩:=kS J;simp only[aq.kJ,hP,uQ]at hm;have cell:∀j d,ds[j]?=some d->(k8.map ptrTo).toArray[j]?=some ((k8.map ptrTo).toArray.getD j undef)/\bA w (eA ad ω) Tag.free.R d ((k8.map ptrTo).toArray.getD j undef):=by
   intro j d ay;obtain⟨id,fp,By⟩:=ax j d ay;obtain⟨b,fM,dX⟩:=hi j id fp;have aK:(k8.map ptrTo).toArray[j]?=some (ptrTo b):=by simp[fM]
   have aO:(k8.map ptrTo).toArray.getD j undef=ptrTo b:=by rw[dF,aK];rfl
   rw[aO];exact⟨aK,I3 ah By (hm id (eD fp)) dX⟩
  exact bA.da _ g ds _ (fun j=>(k8.map ptrTo).toArray.getD j undef) (by simp;omega) (fun j d ay=>(cell j d ay).1) (fun j d ay=>(cell j d ay).2.frame fun _ _ _ h=>⟨h,rfl⟩)
 rename_i Qo Qp;have vA:l.ma ad=false:=by
  unfold aq.kJ at hm;split at hm
  ·exact absurd rfl (Qo _ _)
  ·exact absurd rfl (Qp _ _)
  exact hm
 exact I2 h vA cB
structure OC (w:World) (ω:Own) (τ:Nat->Nat×Value) (ad:List cG) (i j:Nat) (c:dP) (ae:List cG) (y:Value):Prop where
 gc:rv w (eA ad ω) (eh i j) c y
 at_:∀h∈ae,h.i=i/\h.j=j/\xx w ω τ h y/\c=.ed h.k h.es h.post
 one:y.oneCell'=true
variable{i:Nat}
theorem DG(cb:lv ad=true)(ah:sx w ω τ bs){j:Nat}{m:mJ}{c:dP}{ae:List cG}{rx:List aq}
  (h:s9 bs i j m l=some (c,ae,rx)) (gb:∀x∈ae,x∈ad) (tB:∀x∈rx,x.kJ bs ad=false) (cB:Sat w ω τ l y):OC w ω τ ad i j c ae y:=by
 unfold s9 at h;split at h
 ·rw[bF]at h;obtain⟨d,J,h⟩:=h;simp only[a']at h;obtain⟨rfl,rfl,rfl⟩:=h;have:=Rw ah J (tB _ (by simp)) cB;exact⟨this,fun x ae=>by simp at ae,this.me⟩
 ·rename_i post t k es;simp only[aH,a']at h;obtain⟨rfl,rfl,rfl⟩:=h;have nc:=gb _ (fk);refine⟨cB.1.frame fun b q _ aw=>⟨?_,rfl⟩,fun x ae=>?_,cB.1.me⟩
  ·simp only[Tag.R]at aw ⊢;simp only[eA,aw];have:=DC (t:=t) (q:=q) (c5:=q) cb nc (JN ⟨i,j,t,none,k,es,post⟩ q);simp only[this]
  simp only[List.mem_singleton]at ae;subst ae;exact⟨rfl,rfl,⟨cB.1.frame fun b q _ aw=>⟨aw,rfl⟩,fun _=>cB.2,fun a b e=>by cases e⟩,rfl⟩
 ·rename_i post t a b k es;simp only[aH,a']at h;obtain⟨rfl,rfl,rfl⟩:=h;have nc:=gb _ (fk);obtain⟨gC,oe,cB⟩:=cB;have:y=gC:=oe;subst this;refine⟨cB.1.frame fun c q _ aw=>⟨?_,rfl⟩,fun x ae=>?_,cB.1.me⟩
  ·simp only[Tag.R]at aw ⊢;simp only[eA,aw];have:=DC (t:=t) (q:=(a,b)::q) (c5:=q) cb nc (JN ⟨i,j,t,some (a,b),k,es,post⟩ q);simp only[this]
  simp only[List.mem_singleton]at ae;subst ae;refine⟨rfl,rfl,⟨cB.1.frame fun b q _ aw=>⟨aw,rfl⟩,fun e=>(by cases e),fun b4 cH e=>?_⟩,rfl⟩;simp only[aH,a']at e;obtain⟨rfl,rfl⟩:=e;exact cB.2 rfl
 cases h
theorem I4:∀{ms:List mJ} {ls:List aq} {j:Nat} {cs:List dP} {ae:List cG} {rx:List aq},mj bs i j ms ls=some (cs,ae,rx)->cs.length=ls.length
 | [],[],j,cs,ae,rx,h=>by simp only[mj,aH,a']at h;obtain⟨rfl,_,_⟩:=h;rfl
 | m::ms,l::ls,j,cs,ae,rx,h=>by
  simp only[mj]at h;split at h
  ·rename_i c J bO G9 kH uB aK aO;simp only[aH,a']at h;obtain⟨rfl,_,_⟩:=h;simp[I4 aO]
  cases h
 | [],_::_,j,cs,ae,rx,h=>by simp[mj]at h
 | _::_,[],j,cs,ae,rx,h=>by simp[mj]at h
theorem I5:∀{ms:List mJ} {ls:List aq} {j:Nat} {cs:List dP} {ae:List cG} {rx:List aq},mj bs i j ms ls=some (cs,ae,rx)->
  (∀(x:Nat) (c:dP),cs[x]?=some c->∃l m J bO,ls[x]?=some l/\s9 bs i (j+x) m l=some (c,J,bO)/\(∀z∈J,z∈ae)/\(∀z∈bO,z∈rx))/\
  (∀h∈ae,∃(x:Nat) (c:dP) (l:aq) (m:mJ) (J:List cG) (bO:List aq),cs[x]?=some c/\ls[x]?=some l/\s9 bs i (j+x) m l=some (c,J,bO)/\h∈J/\(∀z∈J,z∈ae)/\(∀z∈bO,z∈rx))
 | [],[],j,cs,ae,rx,h=>by
  simp only[mj,aH,a']at h;obtain⟨rfl,rfl,rfl⟩:=h;exact⟨fun x c ai=>by simp at ai,fun h bq=>by simp at bq⟩
 | m::ms,l::ls,j,cs,ae,rx,h=>by
  simp only[mj]at h;split at h
  ·rename_i c J bO G9 kH uB aK aO;simp only[aH,a']at h;obtain⟨rfl,rfl,rfl⟩:=h;obtain⟨cf,bM⟩:=I5 aO;refine⟨fun x hV ai=>?_,fun z aL=>?_⟩
   ·cases x with
    | zero=>
     simp only[jB,aH]at ai;subst ai;exact⟨l,m,J,bO,rfl,aK,fun z aL=>gl _ aL,fun z aL=>gl _ aL⟩
    | succ x=>
     obtain⟨ff,r2,U,b6,g1,g2,g3,g4⟩:=cf x hV (by simpa using ai);exact⟨ff,r2,U,b6,by simpa using g1,by rw[show j+(x+1)=j+1+x by omega];exact g2,fun z aL=>gQ _ (g3 z aL),fun z aL=>gQ _ (g4 z aL)⟩
   rcases hA.1 aL with aL | aL
   ·exact⟨0,c,l,m,J,bO,rfl,rfl,aK,aL,fun z aL=>gl _ aL,fun z aL=>gl _ aL⟩
   obtain⟨x,hV,ff,r2,U,b6,g0,g1,g2,g5,g3,g4⟩:=bM z aL;exact⟨x+1,hV,ff,r2,U,b6,by simpa using g0,by simpa using g1,by rw[show j+(x+1)=j+1+x by omega];exact g2,g5,fun z aL=>gQ _ (g3 z aL),fun z aL=>gQ _ (g4 z aL)⟩
  cases h
 | [],_::_,j,cs,ae,rx,h=>by simp[mj]at h
 | _::_,[],j,cs,ae,rx,h=>by simp[mj]at h
structure OB (w:World) (ω:Own) (τ:Nat->Nat×Value) (ad:List cG) (i:Nat) (dD:GA) (ae:List cG) (y:Value):Prop where
 O8:GR w (eA ad ω) i dD y
 at_:∀h∈ae,h.i=i/\xx w ω τ h (cellOf y h.j)/\dD.cell h.j=some (.ed h.k h.es h.post)
theorem I6(cb:lv ad=true)(ah:sx w ω τ bs){ms:List mJ}{p:az}{dD:GA}{ae:List cG}{rx:List aq}
  (h:uY bs i ms p=some (dD,ae,rx)) (gb:∀x∈ae,x∈ad) (tB:∀x∈rx,x.kJ bs ad=false) (cB:cd (Sat w ω τ) p y):OB w ω τ ad i dD ae y:=by
 unfold uY at h;split at h
 ·rename_i l;split at h
  ·rename_i m;rw[bF]at h;obtain⟨⟨c,J,bO⟩,e,h⟩:=h;simp only[a']at h;obtain⟨rfl,rfl,rfl⟩:=h;have:=DG cb ah e gb tB cB;refine⟨this.gc,fun x ae=>?_⟩;obtain⟨aK,aO,b2,eY⟩:=this.at_ x ae;have O4:cellOf y x.j=y:=by rw[aO,cellOf,wR this.one];rfl
   rw[O4];exact⟨aK,b2,by simp[GA.cell,aO,eY]⟩
  cases h
 ·rename_i ls;rw[bF]at h;obtain⟨⟨cs,J,bO⟩,e,h⟩:=h;simp only[a']at h;obtain⟨rfl,rfl,rfl⟩:=h;obtain⟨us,rfl,aR,hu⟩:=cB;obtain⟨cf,bM⟩:=I5 e;refine⟨⟨us,rfl,by rw[I4 e];exact aR,fun x c ai=>?_⟩,fun z aL=>?_⟩
  ·obtain⟨l,m,U,b6,g1,g2,g3,g4⟩:=cf x c ai;obtain⟨u,fe,er⟩:=hu x l g1;rw[cP]at g2;exact⟨u,fe,(DG cb ah g2 (fun z aL=>gb z (g3 z aL)) (fun z aL=>tB z (g4 z aL)) er).gc⟩
  obtain⟨x,c,l,m,U,b6,g0,g1,g2,g5,g3,g4⟩:=bM z aL;obtain⟨u,fe,er⟩:=hu x l g1;rw[cP]at g2;obtain⟨aK,aO,b2,eY⟩:=(DG cb ah g2 (fun z aL=>gb z (g3 z aL)) (fun z aL=>tB z (g4 z aL)) er).at_ z g5;refine⟨aK,?_,by simp only[GA.cell,aO,g0,eY]⟩;have:cellOf (.agg us) z.j=u:=by simp[cellOf,Value.cells,aO,dF,fe]
  rw[this];exact b2
 cases h
theorem I7:∀{CW:List (List mJ)} {b':List az} {i:Nat} {gs:List GA} {ae:List cG} {rx:List aq},rC bs i CW b'=some (gs,ae,rx)->gs.length=b'.length/\
  (∀(x:Nat) (dD:GA),gs[x]?=some dD->∃p ms J bO,b'[x]?=some p/\uY bs (i+x) ms p=some (dD,J,bO)/\(∀z∈J,z∈ae)/\(∀z∈bO,z∈rx))/\
  (∀h∈ae,∃(x:Nat) (dD:GA) (p:az) (ms:List mJ) (J:List cG) (bO:List aq),gs[x]?=some dD/\b'[x]?=some p/\uY bs (i+x) ms p=some (dD,J,bO)/\h∈J/\(∀z∈J,z∈ae)/\(∀z∈bO,z∈rx))
 | [],[],i,gs,ae,rx,h=>by
  simp only[rC,aH,a']at h;obtain⟨rfl,rfl,rfl⟩:=h;exact⟨rfl,fun x c ai=>by simp at ai,fun h bq=>by simp at bq⟩
 | m::ms,l::ls,i,gs,ae,rx,h=>by
  simp only[rC]at h;split at h
  ·rename_i c J bO G9 kH uB aK aO;simp only[aH,a']at h;obtain⟨rfl,rfl,rfl⟩:=h;obtain⟨et,cf,bM⟩:=I7 aO;refine⟨by simp[et],fun x hV ai=>?_,fun z aL=>?_⟩
   ·cases x with
    | zero=>
     simp only[jB,aH]at ai;subst ai;exact⟨l,m,J,bO,rfl,aK,fun z aL=>gl _ aL,fun z aL=>gl _ aL⟩
    | succ x=>
     obtain⟨ff,r2,U,b6,g1,g2,g3,g4⟩:=cf x hV (by simpa using ai);exact⟨ff,r2,U,b6,by simpa using g1,by rw[show i+(x+1)=i+1+x by omega];exact g2,fun z aL=>gQ _ (g3 z aL),fun z aL=>gQ _ (g4 z aL)⟩
   rcases hA.1 aL with aL | aL
   ·exact⟨0,c,l,m,J,bO,rfl,rfl,aK,aL,fun z aL=>gl _ aL,fun z aL=>gl _ aL⟩
   obtain⟨x,hV,ff,r2,U,b6,g0,g1,g2,g5,g3,g4⟩:=bM z aL;exact⟨x+1,hV,ff,r2,U,b6,by simpa using g0,by simpa using g1,by rw[show i+(x+1)=i+1+x by omega];exact g2,g5,fun z aL=>gQ _ (g3 z aL),fun z aL=>gQ _ (g4 z aL)⟩
  cases h
 | [],_::_,i,gs,ae,rx,h=>by simp[rC]at h
 | _::_,[],i,gs,ae,rx,h=>by simp[rC]at h
def zr:List cG->Option (Nat×Nat)
 | []=>none
 | h::r=>match h.p with | some p=>some (h.t,p.1) | none=>zr r
theorem I8:∀{ad:List cG},zr ad=none->∀h∈ad,h.p=none
 | [],_,h,bq=>by cases bq
 | x::r,e,h,bq=>by
  simp only[zr]at e;split at e
  ·cases e
  rename_i hp;rcases dj.1 bq with rfl | bq
  ·exact hp
  exact I8 e h bq
def wo(a:Nat):List cG->List Prop
 | []=>[]
 | h::r=>match h.p with | some p=>(p.1=a)::wo a r | none=>wo a r
theorem DH{a:Nat}:∀{ad:List cG},cn (wo a ad)->∀h∈ad,∀p,h.p=some p->p.1=a
 | [],_,h,bq,_,_=>by cases bq
 | x::r,aM,h,bq,p,hp=>by
  simp only[wo]at aM;split at aM
  ·rename_i q aw;rcases dj.1 bq with rfl | bq
   ·rw[hp]at aw;rw[e0 aw];exact aM.1
   exact DH aM.2 h bq p hp
  rename_i aw;rcases dj.1 bq with rfl | bq
  ·rw[hp]at aw;cases aw
  exact DH aM h bq p hp
def C7(st:aG)(ad:List cG)(src:Nat)(ds:List D):Option (Nat×Nat×List (List D)×List Prop):=
 match zr ad with
 | none=>some (0,0,[],[])
 | some (t,a)=>
  match (st.env.getD src .b5).leaf with
  | some (.aa (.own s) k es)=>
   if s=t/\ds.length=k/\ad.all (fun h=>match h.p with | some _=>h.t==t&&h.post.isSome | none=>true)=true then
    some (t,k,es.set a (j8 ad ds),(es[a]?=some ds)::wo a ad)
   else none
  | _=>none
theorem Rx{w0:dC}{st:aG}{a:Act}(aI:b1 w0 st a w ω τ){src:Nat}{ds:List D}{t k:Nat}{es:List (List D)}{obs:List Prop}
  (h:C7 st ad src ds=some (t,k,es,obs)) (aM:cn obs):GZ w ω τ ad t k es:=by
 unfold C7 at h;split at h
 ·rename_i aR;exact⟨fun x ae p hp _=>by rw[I8 aR x ae]at hp;cases hp⟩
 rename_i c3 b4 bn;split at h
 ·rename_i s bS bV ak;split at h
  ·rename_i ai;obtain⟨rfl,tn,gI⟩:=ai;simp only[aH,a']at h;obtain⟨rfl,rfl,rfl,rfl⟩:=h;rw[eP]at gI;refine⟨fun x ae p hp _=>?_⟩;have l6:∃y,Sat w ω τ (.aa (.own s) bS bV) y:=by
    rw[jz]at ak;cases e:st.env[src]? with
    | none=>rw[e]at ak;simp[az.leaf]at ak
    | some p=>
     rw[e]at ak;obtain⟨v,_,U⟩:=aI.env src p e;exact⟨v,az.cW ak U⟩
   obtain⟨y,a7⟩:=l6;refine⟨bV,y,ds,b4,a7,aM.1,tn,rfl,fun z aL q aw=>?_⟩;have J:=gI z aL;simp only[aw,b0,fR,nY]at J;exact⟨J.1,DH aM.2 z aL q aw,J.2⟩
  cases h
 cases h
def C8(P:Program)(st:aG)(d:Option Nat)(f:FuncId)(args:List Operand)(ans:List bI):Option (aG×List bI×List Prop):=
 match ans with
 | .oO r6 src ds rs::r=>
  match rC st.boxes 0 r6 (args.map st.aW) with
  | some (gs,ad,mv)=>
   match C7 st ad src ds with
   | some (fX,ln,mO,obs)=>
    let t0:=10000*(d.getD 0+1)
    if hM P f=true/\qR rs=true/\t0+10000<=cy/\lv ad=true/\mv.all (fun l=>!(l.kJ st.boxes ad))=true/\ad.all (fun h=>!(decide (t0<=h.t)&&decide (h.t<t0+10000)))=true then
     let a6:=st.map (oz ad t0 fX ln mO)
     match d with
     | some d=>some (⟨a6.env.set d (pY t0 rs),a6.boxes⟩,r,je P f gs rs::obs)
     | none=>some (a6,r,je P f gs rs::obs)
    else none
   | none=>none
  | none=>none
 | _=>none
theorem Ry{P:Program}{w0:dC}{st a6:aG}{a:Act}{dst:Option Nat}{f:FuncId}{args:Array Operand}{ts:Array TypeId}{type:TypeId}{pos:String}{after:Array Edge}{guard:Option (Nat×Bool)}{ans bN:List bI}{obs:List Prop}
  (aI:b1 w0 st a w ω τ) (h:C8 P st dst f args.toList ans=some (a6,bN,obs)) (aM:cn obs) {K:Act->World->Prop} {Q:Exit->Act->World->Prop} (fw:∀b4 aD,Rel w0 a6 b4 aD->K b4 aD):
  Oper.wp P ⟨dst,.call ⟨.value (.func f),args,ts⟩,type,pos,after,guard⟩ a w K Q:=by
 unfold C8 at h;split at h
 ·rename_i r6 src ds rs r;split at h
  ·rename_i gs ad mv j1;split at h
   ·rename_i fX ln mO eG gb;simp only at h;split at h
    ·rename_i ai;obtain⟨hj,dc,gU,cb,yc,tA⟩:=ai;rw[eP]at yc tA;have vF:∀l∈mv,l.kJ st.boxes ad=false:=fun l ak=>by simpa using yc l ak
     have QA:∀h∈ad,¬(10000*(dst.getD 0+1)<=h.t/\h.t<10000*(dst.getD 0+1)+10000):=fun h bq=>by
      have:=tA h bq;simp only[gD,Bool.and_eq_false_iff,mG]at this;omega
     obtain⟨hlen,cf,bM⟩:=I7 j1;have fs:∀(x:Nat) (p:az),(args.toList.map st.aW)[x]?=some p->∃v,(args.map a.eval)[x]?=some v/\cd (Sat w ω τ) p v:=by
      intro x p hp;rw[dG,bF]at hp;obtain⟨o,J,rfl⟩:=hp;refine⟨a.eval o,?_,aI.aW o⟩;rw[GN];rw[jy]at J;rw[J];rfl
     have PX:AL w (eA ad ω) gs (args.map a.eval):=by
      refine⟨fun b ah=>?_,by simp[hlen],fun x dD ae=>?_⟩
      ·have cE:ω b≠.bc:=fun e=>ah (by simp only[eA,e])
       obtain⟨_,arr,ty,aJ⟩:=aI.owned b cE;refine⟨?_,arr,ty,aJ⟩;simp only[eA]at ah ⊢;cases e:ω b with
       | bc=>simp[e]at ah
       | box id=>simp[e]at ah
       | tok t q=>
        simp only[e]at ah ⊢;cases aO:kt t q ad with
        | none=>simp[aO]at ah
        | some z=>
         obtain⟨g,c5⟩:=z;obtain⟨y,_,_,rfl⟩:=wk aO;exact⟨_,c5,rfl,by simp[eh]⟩
      obtain⟨p,ms,J,bO,g1,g2,g3,g4⟩:=cf x dD ae;obtain⟨v,a8,qx⟩:=fs x p g1;rw[cP]at g2;exact⟨v,a8,(I6 cb aI.boxes g2 g3 (fun z aL=>vF z (g4 z aL)) qx).O8⟩
     have n8:∀h∈ad,xx w ω τ h (cellOf ((args.map a.eval).getD h.i undef) h.j)/\∃dD,gs[h.i]?=some dD/\dD.cell h.j=some (.ed h.k h.es h.post):=by
      intro h bq;obtain⟨x,dD,p,ms,J,bO,g0,g1,g2,g5,g3,g4⟩:=bM h bq;obtain⟨v,a8,qx⟩:=fs x p g1;rw[cP]at g2;obtain⟨aK,aO,b2⟩:=(I6 cb aI.boxes g2 g3 (fun z aL=>vF z (g4 z aL)) qx).at_ h g5;have aW:(args.map a.eval).getD h.i undef=v:=by rw[aK,dF,a8];rfl
      rw[aW];exact⟨aO,dD,by rw[aK];exact g0,b2⟩
     have ei:(execOp a.eval ⟨dst,.call ⟨.value (.func f),args,ts⟩,type,pos,after,guard⟩).run P w=.ok (.enter f (args.map a.eval)) w:=by
      unfold hM at hj;split at hj
      ·rename_i fn jk;simp only[b0,gD,sZ,ki]at hj;have pj:fn.body≠none:=by intro e;rw[e]at hj;simp at hj
       simp[execOp,resolve,Act.eval,Deferred.ofValue,invoke,callFunc,jk,hj.1,pj]
      cases hj
     have key:je P f gs rs->cn eG->(∀v aD aP ch,b1 w0 (st.map (oz ad (10000*(dst.getD 0+1)) fX ln mO)) a aD aP ch->cd (Sat aD aP ch) (pY (10000*(dst.getD 0+1)) rs) v->K (a.put dst v) aD)->
       Oper.wp P ⟨dst,.call ⟨.value (.func f),args,ts⟩,type,pos,after,guard⟩ a w K Q:=by
      intro B5 BX Hk;unfold Oper.wp;rw[ei];simp only[Oper.upon];refine (B5 w _ _ PX (aI.tidy fun b ah=>by simp only[eA,ah])).mono ?_;rintro e aD ⟨v,rfl,iP,dZ,bK,cL,cI,fJ⟩;obtain⟨aP,ch,J,U⟩:=aI.OS (10000*(dst.getD 0+1)) cb dc gU QA iP dZ bK cL fJ (fun h=>cellOf ((args.map a.eval).getD h.i undef) h.j)
       (fun h bq bV he=>by
        obtain⟨_,dD,g1,g2⟩:=n8 h bq;rw[he]at g2;exact cI h.i h.j dD h.k h.es bV g1 g2)
       (fun h bq=>(n8 h bq).1) (Rx aI gb BX)
      exact Hk v aD aP ch J U
     cases dst with
     | none=>
      simp only[aH,a']at h;obtain⟨rfl,_,rfl⟩:=h;exact key aM.1 aM.2 fun v aD aP ch J _=>fw _ _ ⟨aP,ch,J⟩
     | some d=>
      simp only[aH,a']at h;obtain⟨rfl,_,rfl⟩:=h;exact key aM.1 aM.2 fun v aD aP ch J U=>fw _ _ ⟨aP,ch,J.put U⟩
    cases h
   cases h
  cases h
 cases h
