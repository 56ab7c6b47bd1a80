import Derived.Test.YtdchjefneblpgaaGreatR6
set_option linter.unusedVariables false
set_option linter.unusedSimpArgs false
namespace Go.Sx
open Go.RowKit
def vD(t:Nat)(ms:hc)(k:Nat)(cv:List (List D)):aB->aB
 | .J (.own s) cm es=>if s=t then .J (.own t) k cv else if (ms.at s).isSome then .cp else .J (.own s) cm es
 | .cX (.own s) cm es i j=>if s=t then .cX (.own t) k cv i j else if (ms.at s).isSome then .cp else .cX (.own s) cm es i j
 | .J (.ro s) cm es=>if s=t then .cp else if (ms.at s).isSome then .cp else .J (.ro s) cm es
 | .cX (.ro s) cm es i j=>if s=t then .cp else if (ms.at s).isSome then .cp else .cX (.ro s) cm es i j
 | .aO s a b dh dz m=>if s=t then .cp else if (ms.at s).isSome then .cp else .aO s a b dh dz m
 | .e5 _ _=>.cp
 | l=>l
def lV(t:Nat)(ms:hc):cS->cS
 | .tok s q=>if s=t then .tok s q else match ms.at s with | some p=>.tok t (p::q) | none=>.tok s q
 | o=>o
variable{t:Nat}{ms:hc}
theorem Dk{o:cS}{id:Nat}:lV t ms o=.box id<->o=.box id:=by
 cases o with
 | bE=>simp[lV]
 | box i=>simp[lV]
 | tok s q=>
  simp only[lV];split
  ·simp
  ·split<;>simp
theorem akA{o:cS}:lV t ms o=.bE<->o=.bE:=by
 cases o with
 | bE=>simp[lV]
 | box i=>simp[lV]
 | tok s q=>
  simp only[lV];split
  ·simp
  ·split<;>simp
variable{i j:Nat}{ds:List D}
theorem H0{es:List (List D)}{x:Nat}(hi:i<es.length):cT (es.set i ds) x j=if x=i then ds[j]? else cT es x j:=by
 unfold cT;rw[jK];by_cases h:i=x
 ·subst h;rw[br rfl,br hi,br rfl];rfl
 rw[bg h,bg (Ne.symm h)]
def kk(ds:List D)(off:Nat)(xs:List D):List D:=ds.take off++(xs++ds.drop (off+xs.length))
theorem Pq{xs:List D}{off:Nat}(h:off+xs.length<=ds.length):(kk ds off xs)[i]?=if off<=i/\i<off+xs.length then xs[i-off]? else ds[i]?:=by
 unfold kk;rw[kB,lx,Nat.min_eq_left (by omega)];by_cases h1:i<off
 ·rw[br h1,bg (by omega),j1,br h1]
 rw[bg h1,kB];by_cases U:i-off<xs.length
 ·rw[br U,br (by omega)]
 rw[bg U,bg (by omega),jZ]
 congr 1
 omega
theorem Pr{xs:List D}{off:Nat}(h:off+xs.length<=ds.length):(kk ds off xs).length=ds.length:=by
 simp[kk];omega
def H2(t:Nat)(ms:hc):Bool:=ms.all fun x=>x.1≠t&&(match ms.at x.1 with | some p=>p.1==x.2.1&&p.2==x.2.2 | none=>false)
theorem akB(h:H2 t ms=true){s:Nat}{p:Nat×Nat}(hm:(s,p)∈ms):s≠t/\ms.at s=some p:=by
 have h1:=fv.1 h _ hm;simp only[cq,cK]at h1;refine⟨h1.1,?_⟩;have U:=h1.2;split at U
 ·rename_i q e;simp only[cq,dY]at U;rw[e,aQ];exact Prod.ext U.1 U.2
 cases U
theorem I0(i:Nat):∀(xs:List aB) (j:Nat),ky i j xs=(ky 0 j xs).map fun x=>(x.1,(i,x.2.2))
 | [],_=>rfl
 | l::ls,j=>by
  simp only[ky];split
  ·simp only[l2,rh,true_and];exact I0 i ls (j+1)
  exact I0 i ls (j+1)
theorem Ps(i s:Nat):∀ms:hc,hc.at s (ms.map fun x=>(x.1,(i,x.2.2)))=(hc.at s ms).map fun p=>(i,p.2)
 | []=>rfl
 | (a,p)::r=>by
  simp only[l2,hc.at];split
  ·rfl
  exact Ps i s r
theorem I1(i0:Nat):∀(xs:List aB) (j s:Nat) (p:Nat×Nat),(s,p)∈ky i0 j xs->p.1=i0
 | [],_,_,_,h=>by simp[ky]at h
 | l::ls,j,s,p,h=>by
  simp only[ky]at h;split at h
  ·rcases et.1 h with h | h
   ·simp only[bu]at h;rw[h.2]
   exact I1 i0 ls (j+1) s p h
  exact I1 i0 ls (j+1) s p h
theorem Pt{xs:List aB}(h:H2 t (ky 0 j xs)=true){s:Nat}{p:Nat×Nat}(hm:(s,p)∈ky i j xs):s≠t/\(ky i j xs).at s=some p:=by
 have hp:=I1 i xs j s p hm;rw[I0]at hm ⊢;obtain⟨⟨sw,pT⟩,h1,U⟩:=k2.1 hm;simp only[bu]at U;obtain⟨rfl,U⟩:=U;obtain⟨ax,aK⟩:=akB h h1;refine⟨ax,?_⟩;rw[Ps,aK,<-U];rfl
def uy.flat:uy->Bool
 | .at_ _ _=>false
 | _=>true
def tu(t:Nat):Nat->List aB->Option (List D×List Nat)
 | _,[]=>some ([],[])
 | j,.aO s a b k es m::ls=>if s=t/\b=j/\m.flat=true then (tu t (j+1) ls).map fun r=>(.J k es::r.1,a::r.2) else none
 | j,l::ls=>
  match l.ih,tu t (j+1) ls with
  | some d,some r=>some (d::r.1,r.2)
  | _,_=>none
theorem Pu:∀{xs:List aB} {j:Nat} {ys:List D} {is:List Nat},tu t j xs=some (ys,is)->ys.length=xs.length/\
  ∀(y:Nat) (d:D),ys[y]?=some d->∃l,xs[y]?=some l/\(l.ih=some d\/∃a k es m,l=.aO t a (j+y) k es m/\m.flat=true/\a∈is/\d=.J k es)
 | [],j,ys,is,h=>by
  simp only[tu,aQ,bu]at h;obtain⟨rfl,rfl⟩:=h;exact⟨rfl,fun y d aE=>by simp at aE⟩
 | l::ls,j,ys,is,h=>by
  have fin:∀d0 Ff Hs Co,ys=d0::Ff->is=Co->(∀a∈Hs,a∈Co)->tu t (j+1) ls=some (Ff,Hs)->(l.ih=some d0\/∃a k es m,l=.aO t a j k es m/\m.flat=true/\a∈Co/\d0=.J k es)->ys.length=(l::ls).length/\
    ∀(y:Nat) (d:D),ys[y]?=some d->∃x,(l::ls)[y]?=some x/\(x.ih=some d\/∃a k es m,x=.aO t a (j+y) k es m/\m.flat=true/\a∈is/\d=.J k es):=by
   rintro d0 Ff Hs Co rfl rfl iG aD bJ;obtain⟨h1,U⟩:=Pu aD;refine⟨by simp[h1],fun y d aE=>?_⟩;cases y with
   | zero=>
    simp only[j2,aQ]at aE;subst aE;exact⟨l,rfl,bJ⟩
   | succ y=>
    obtain⟨x,ag,ax⟩:=U y d (by simpa using aE);refine⟨x,by simpa using ag,?_⟩;rcases ax with ax | ⟨a,k,es,m,aK,aV,bw,bX⟩
    ·exact .inl ax
    exact .inr ⟨a,k,es,m,by rw[aK,show j+1+y=j+(y+1) by omega],aV,iG a bw,bX⟩
  have plain:(match l.ih,tu t (j+1) ls with | some d,some r=>some (d::r.1,r.2) | _,_=>none)=some (ys,is)->ys.length=(l::ls).length/\
    ∀(y:Nat) (d:D),ys[y]?=some d->∃x,(l::ls)[y]?=some x/\(x.ih=some d\/∃a k es m,x=.aO t a (j+y) k es m/\m.flat=true/\a∈is/\d=.J k es):=by
   intro h;split at h
   ·rename_i d r e1 e2;simp only[aQ,bu]at h;exact fin d r.1 r.2 r.2 h.1.symm h.2.symm (fun _ h=>h) e2 (.inl e1)
   cases h
  cases l with
  | aO s a b k es m=>
   simp only[tu]at h;split at h
   ·rename_i ah;obtain⟨rfl,rfl,hm⟩:=ah;rw[b0]at h;obtain⟨⟨bI,bZ⟩,e2,h⟩:=h;simp only[bu]at h;exact fin _ bI bZ (a::bZ) h.1.symm h.2.symm (fun _ h=>ht _ h) e2 (.inr ⟨a,k,es,m,rfl,hm,gN,rfl⟩)
   cases h
  | _=>exact plain h
theorem Dl:∀{l:List Nat},cE (l.map fun a=>a=i)->∀a∈l,a=i
 | [],_,a,h=>by cases h
 | x::l,aX,a,h=>by
  rcases et.1 h with rfl | h
  ·exact aX.1
  exact Dl aX.2 a h
def I2(P:Program)(st:aH)(ty:TypeId)(t k:Nat)(es:List (List D))(i j:Nat)(q:aI)(ans:List b7):Stepped:=
 match q.leaves,P.info? ty,ans with
 | some xs,some inf,.el ds::r=>
  match tu t j xs with
  | some (ys,is)=>
   if xs.length=inf.size/\ds.length=k/\j+ys.length<=k/\H2 t (ky 0 j xs)=true then
    some (st.map (vD t (ky i j xs) k (es.set i (kk ds j ys))),r,(es[i]?=some ds)::is.map fun a=>a=i)
   else none
  | none=>none
 | _,_,_=>none
theorem cw.ash{P:Program}{w0:ej}{st bp:aH}{a:Act}{w:World}{ω:Own}{τ:Nat->Nat×Value}{ty:TypeId}{k:Nat}{es:List (List D)}{q:aI}{v y:Value}{ans cd:List b7}{obs:List Prop}
  (aU:cw w0 st a w ω τ) (hp:Sat w ω τ (.cX (.own t) k es i j) y) (aC:cI (Sat w ω τ) q v) (h:I2 P st ty t k es i j q ans=some (bp,cd,obs)) (aX:cE obs):
  ∃aN,(Instr.storeAt ty y v).run P w=.ok () aN/\Rel w0 bp a aN:=by
 unfold I2 at h;split at h
 ·rename_i xs inf ds r e1 e2;split at h
  ·rename_i ys is cc;split at h
   ·rename_i ah;obtain⟨kl,j9,km,wH⟩:=ah;simp only[aQ,bu]at h;obtain⟨rfl,_,rfl⟩:=h;have eh:es[i]?=some ds:=aX.1;obtain⟨ai,pH⟩:=aI.w3 e1 aC;obtain⟨N2,Hn⟩:=Pu cc;have Xo:=Dl aX.2;obtain⟨b,off,cap,rfl,iR,aD,bB⟩:=hp;simp only[Tag.dN]at bB;cases aD with
    | nil=>simp at iR
    | row R k es b off cap arr gY cN us aq dI hB ek gi hu aE=>
     have hP:ω b=.tok t []:=dI;obtain⟨u0,sK,ua,iF⟩:=aU.owned b (by rw[hP];simp);rw[aq]at iF;simp only[aQ,Obj.cells.injEq]at iF;obtain⟨rfl,rfl,rfl⟩:=iF;have uR:b<w.heap.size:=(iO.1 aq).1;have hmul:(i+1)*k<=cap*k:=gK _ (by omega);rw[fo]at hmul;have u3:v.cells.size=xs.length:=ai.1;have ev:off+i*k+j+v.cells.toList.length<=arr.size:=by simp;omega
     have eO:=run_storeCells_at P b (off+i*k+j) gY v.cells.toList 0 arr w aq (by simpa using ev) pH;simp only[l4]at eO;generalize mx:(arr.toList.take (off+i*k+j)++v.cells.toList++arr.toList.drop (off+i*k+j+v.cells.toList.length)).toArray=b6 at eO;have fW:∀x:Nat,b6[x]?=if off+i*k+j<=x/\x<off+i*k+j+xs.length then v.cells[x-(off+i*k+j)]? else arr[x]?:=by
      intro x;rw[<-mx,o5,zI (by simpa using ev)];simp[u3]
     have wU:b6.size=arr.size:=by rw[<-mx];simp;simp at ev;omega
     have iQ:=setRow_heap w b arr b6 gY (0,0) aq
     let ms:=ky i j xs
     let aY:Own:=fun c=>lV t ms (ω c)
     have atE:ms.at t=none:=by
      cases e:ms.at t with
      | none=>rfl
      | some p=>
       have pF:∀(ms:hc) (p:Nat×Nat),ms.at t=some p->(t,p)∈ms:=by
        intro ms;induction ms with
        | nil=>intro p h;cases h
        | cons x ms dE=>
         intro p h;obtain⟨s,pT⟩:=x;simp only[hc.at]at h;split at h
         ·rename_i y3;subst y3;rw[eL h];exact gN
         exact ht _ (dE p h)
       exact absurd rfl (Pt wH (pF ms p e)).1
     have c9:∀c q,c<w.heap.size->ω c=.tok t q->aY c=.tok t q:=fun c q _ h=>by simp[aY,h,lV]
     have k':∀c p q,c<w.heap.size->ω c=.tok t (p::q)->aY c=.tok t (p::q)/\(w.setRow b b6).heap[c]?=w.heap[c]?:=by
      intro c p q ah dP;exact⟨c9 c _ ah dP,setRow_other w b c b6 fun e=>by rw[e,hP]at dP;cases dP⟩
     have gu:∀(g:Tag) c q,g≠.own t->g≠.ro t->(∀s,g=.own s\/g=.ro s->ms.at s=none)->g.R q (ω c)->g.R q (aY c)/\(w.setRow b b6).heap[c]?=w.heap[c]?:=by
      intro g c q h1 U ax dP;have fG:c≠b:=fun e=>by
       rw[e,hP]at dP;cases g with
       | free=>cases dP
       | own s=>simp only[Tag.R,cS.tok.injEq]at dP;exact h1 (by rw[dP.1])
       | ro s=>
        rcases dP with h | ⟨di,h⟩
        ·cases h
        simp only[cS.tok.injEq]at h;exact U (by rw[h.1])
      refine⟨?_,setRow_other w b c b6 fG⟩;cases g with
      | free=>simp only[Tag.R]at dP ⊢;simp[aY,dP,lV]
      | own s=>
       simp only[Tag.R]at dP ⊢;simp only[aY,dP,lV];split
       ·rfl
       rw[ax s (.inl rfl)]
      | ro s=>
       simp only[Tag.R]at dP ⊢;rcases dP with h | ⟨di,h⟩
       ·left;simp[aY,h,lV]
       right;refine⟨di,?_⟩;simp only[aY,h,lV];split
       ·rfl
       rw[ax s (.inr rfl)]
     have ND:bW (w.setRow b b6) aY (Tag.own t).R (.J k (es.set i (kk ds j ys))) (.slice (some ⟨b,off,none⟩) es.length cap):=by
      have hlen:(es.set i (kk ds j ys)).length=es.length:=fb;have yQ:ds.length=k:=j9;have eW:∀x y d,cT (es.set i (kk ds j ys)) x y=some d->∃u,b6[off+x*k+y]?=some u/\bW (w.setRow b b6) aY (fun q=>(Tag.own t).R ((x,y)::q)) d u:=by
       intro x y d dM;rw[H0 iR]at dM;by_cases ag:x=i
       ·subst ag;rw[br rfl,Pq (by omega)]at dM;split at dM
        ·rename_i bn;obtain⟨l,qC,da⟩:=Hn _ _ dM;obtain⟨u,fN,eT⟩:=ai.2 _ _ qC;rcases da with da | ⟨a,cA,bN,m,rfl,hm,WH,rfl⟩
         case inr=>
          have F4:=Xo a WH;subst F4;obtain⟨fR,qD,rS,_⟩:=eT;have bz:u=fR:=by
           cases m with
           | at_ x y=>cases hm
           | here=>exact qD
           | k7=>exact qD
          subst bz;refine⟨u,?_,rS.frame fun c q ah dP=>?_⟩
          ·rw[fW,br (by omega),<-fN]
           congr 1;omega
          rw[show j+(y-j)=y by omega]at dP;exact k' c _ _ ah dP
         refine⟨u,?_,?_⟩
         ·rw[fW,br (by omega),<-fN]
          congr 1;omega
         have pF:∀s,l.tok=some s->ms.at s=some (x,y)/\s≠t:=by
          intro s db;have:=HY x xs j (y-j) l s qC db;rw[show j+(y-j)=y by omega]at this;obtain⟨h1,U⟩:=Pt wH this;exact⟨U,h1⟩
         cases l with
         | cp=>cases da
         | v z=>
          simp only[aB.ih]at da;split at da
          ·simp only[aQ]at da;subst da;have:u=z:=eT;subst this;exact .v _ _ ‹_›
          cases da
         | bc c=>
          simp only[aB.ih,aQ]at da;subst da;have:u=.bool c:=eT;subst this;exact .v _ _ rfl
         | ptr=>cases da
         | cX=>cases da
         | hF=>cases da
         | fd=>cases da
         | dg=>cases da
         | gg=>cases da
         | aO=>cases da
         | e5=>cases da
         | J g cA bN=>
          cases g with
          | free=>cases da
          | ro s=>cases da
          | own s=>
           simp only[aB.ih,aQ]at da;subst da;obtain⟨h1,U⟩:=pF s rfl;refine eT.1.frame fun c q ah dP=>?_
           simp only[Tag.R]at dP ⊢;refine⟨?_,setRow_other w b c b6 fun e=>?_⟩
           ·simp only[aY,dP,lV];rw[bg U,h1]
           rw[e,hP]at dP;simp only[cS.tok.injEq]at dP;exact U dP.1.symm
        rename_i bn;have px:cT es x y=some d:=by simp[cT,eh,dM]
        refine⟨us x y,?_,(aE x y d px).frame fun c q ah dP=>k' c _ _ ah dP⟩;rw[fW,bg (by omega),hu x y d px]
       rw[bg ag]at dM;obtain⟨oB,Yj⟩:=r' gi dM;refine⟨us x y,?_,(aE x y d dM).frame fun c q ah dP=>k' c _ _ ah dP⟩;rw[fW,bg ?_,hu x y d dM];rcases Nat.lt_or_gt_of_ne ag with h | h
       ·have:(x+1)*k<=i*k:=gK _ h;rw[fo]at this;omega
       have:(i+1)*k<=x*k:=gK _ h;rw[fo]at this;omega
      have pJ:∀e∈es.set i (kk ds j ys),e.length=k:=by
       intro e he;rcases n2 he with h | rfl
       ·exact gi e h
       rw[Pr (by omega)];exact yQ
      have:=bW.row (w:=w.setRow b b6) (ω:=aY) (Tag.own t).R k (es.set i (kk ds j ys)) b off cap b6 gY (0,0) (fun x y=>b6.getD (off+x*k+y) undef) iQ (c9 b [] uR hP) (by omega) (by omega) pJ
       (fun x y d dD=>by obtain⟨u,h1,_⟩:=eW x y d dD;rw[h1];simp[d',h1])
       (fun x y d dD=>by obtain⟨u,h1,U⟩:=eW x y d dD;have:b6.getD (off+x*k+y) undef=u:=(by simp[d',h1]);rw[this];exact U)
      rw[hlen]at this;exact this
     have ey:∀l v,Sat w ω τ l v->Sat (w.setRow b b6) aY τ (vD t ms k (es.set i (kk ds j ys)) l) v:=by
      intro l v db;have yS:∀s,¬(ms.at s).isSome=true->ms.at s=none:=fun s h=>by
       cases e:ms.at s with
       | none=>rfl
       | some p=>simp[e]at h
      cases l with
      | cp=>exact trivial
      | v x=>exact db
      | bc c=>exact db
      | ptr id o=>
       obtain⟨c,ah,e⟩:=db;exact⟨c,Dk.2 ah,e⟩
      | aO s a gf dh dz m=>
       simp only[vD];split
       ·exact trivial
       rename_i h1;split
       ·exact trivial
       rename_i U;obtain⟨u,hu,kM,hm⟩:=db;have js:∀c q,ω c=.tok s q->aY c=.tok s q/\(w.setRow b b6).heap[c]?=w.heap[c]?:=fun c q dP=>
        gu (.own s) c q (by simpa using h1) (by simp) (fun sw h=>by
         rcases h with h | h
         ·simp only[Tag.own.injEq]at h;subst h;exact yS _ U
         cases h) dP
       refine⟨u,hu,kM.frame fun c q _ dP=>js c _ dP,fun nu=>?_⟩;obtain⟨kT,c,pQ,Yv,pg,h2,ii,FI,eC,a2,a3,a4⟩:=hm nu;obtain⟨e1,e2⟩:=js c [] a2;exact⟨kT,c,pQ,Yv,pg,h2,ii,FI,eC,e1,e2.trans a3,a4⟩
      | e5=>exact trivial
      | gg f ids=>
       obtain⟨bs,e,aT,hi⟩:=db;refine⟨bs,e,aT,fun i id fB=>?_⟩;obtain⟨b,h1,U⟩:=hi i id fB;exact⟨b,h1,Dk.2 U⟩
      | hF rB o=>
       obtain⟨c,e,dV⟩:=db;exact⟨c,e,dV.frame fun c q _ dP=>gu .free c q (by simp) (by simp) (fun s h=>by rcases h with h | h<;>cases h) dP⟩
      | fd d=>
       exact bW.frame db fun c q _ dP=>gu .free c q (by simp) (by simp) (fun s h=>by rcases h with h | h<;>cases h) dP
      | dg t2 cA bN=>exact⟨db.1.frame fun c q _ dP=>gu .free c q (by simp) (by simp) (fun s h=>by rcases h with h | h<;>cases h) dP,db.2⟩
      | J g cA bN=>
       cases g with
       | free=>exact⟨db.1.frame fun c q _ dP=>gu .free c q (by simp) (by simp) (fun s h=>by rcases h with h | h<;>cases h) dP,aa⟩
       | own s=>
        simp only[vD];split
        ·rename_i y3;subst y3;have U:=db.2;simp only[Tag.dN]at U;rw[bB]at U;simp only[bu]at U;rw[<-U.2];exact⟨ND,bB⟩
        split
        ·exact trivial
        rename_i h1 U;exact⟨db.1.frame fun c q _ dP=>gu (.own s) c q (by simpa using h1) (by simp) (fun sw h=>by
         rcases h with h | h
         ·simp only[Tag.own.injEq]at h;subst h;exact yS _ U
         cases h) dP,db.2⟩
       | ro s=>
        simp only[vD];split
        ·exact trivial
        split
        ·exact trivial
        rename_i h1 U;exact⟨db.1.frame fun c q _ dP=>gu (.ro s) c q (by simp) (by simpa using h1) (fun sw h=>by
         rcases h with h | h
         ·cases h
         simp only[Tag.ro.injEq]at h;subst h;exact yS _ U) dP,aa⟩
      | cX g cA bN i2 qF=>
       obtain⟨gf,pQ,pg,e,jR,kM,nu⟩:=db;cases g with
       | free=>exact⟨gf,pQ,pg,e,jR,kM.frame fun c q _ dP=>gu .free c q (by simp) (by simp) (fun s h=>by rcases h with h | h<;>cases h) dP,aa⟩
       | own s=>
        simp only[vD];split
        ·rename_i y3;subst y3;simp only[Tag.dN]at nu;rw[bB]at nu;simp only[bu,Value.slice.injEq,aQ,Addr.mk.injEq]at nu;obtain⟨rfl,⟨rfl,rfl,_⟩,da,rfl⟩:=nu;refine⟨b,off,cap,e,by simp;omega,?_,?_⟩
         ·rw[fb];exact ND
         rw[fb];exact bB
        split
        ·exact trivial
        rename_i h1 U;exact⟨gf,pQ,pg,e,jR,kM.frame fun c q _ dP=>gu (.own s) c q (by simpa using h1) (by simp) (fun sw h=>by
         rcases h with h | h
         ·simp only[Tag.own.injEq]at h;subst h;exact yS _ U
         cases h) dP,nu⟩
       | ro s=>
        simp only[vD];split
        ·exact trivial
        split
        ·exact trivial
        rename_i h1 U;exact⟨gf,pQ,pg,e,jR,kM.frame fun c q _ dP=>gu (.ro s) c q (by simp) (by simpa using h1) (fun sw h=>by
         rcases h with h | h
         ·cases h
         simp only[Tag.ro.injEq]at h;subst h;exact yS _ U) dP,aa⟩
     refine⟨w.setRow b b6,?_,aY,τ,aU.dS _ ey ?_ ?_ ?_ ?_⟩
     ·simp only[Instr.storeAt,Instr.sureAddr,Sem.run_bind,Sem.run_pure,Result.andThen_ok,storeVar,sizeOf,typeInfo,run_program,e2];have GM:¬(v.cells.size≠inf.size):=by simp;omega
      rw[bg GM];exact eO
     ·exact aU.below.setRow u0 b6
     ·intro c fG;have:ω c≠.bE:=fun e=>fG (akA.2 e)
      obtain⟨ax,h2,ii,aK⟩:=aU.owned c this;by_cases pw:c=b
      ·subst pw;exact⟨ax,b6,gY,iQ⟩
      exact⟨ax,h2,ii,(setRow_other w b c b6 pw).trans aK⟩
     ·intro id c fG;exact⟨Dk.2 fG,setRow_other w b c b6 fun e=>by rw[e,hP]at fG;cases fG⟩
     intro id c fG;exact Dk.1 fG
   cases h
  cases h
 cases h
end Go.Sx
namespace Go.Sx
open Go.RowKit
def kR(w:World)(d:D)(y:Value):Prop:=bW w (fun _=>.bE) Tag.free.R d y
def uq(w:World):cF->Value->Prop
 | .one d,y=>kR w d y
 | .agg ds,y=>∃vs:Array Value,y=.agg vs/\vs.size=ds.length/\∀(i:Nat) (d:D),ds[i]?=some d->∃u,vs[i]?=some u/\kR w d u
def Dm(w:World)(fU:List cF)(vs:Array Value):Prop:=vs.size=fU.length/\∀(i:Nat) (cj:cF),fU[i]?=some cj->∃v,vs[i]?=some v/\uq w cj v
def lh(w:World)(ω:Own)(r:Nat):cF->Value->Prop
 | .one d,y=>bW w ω (Tag.own (100*r)).R d y
 | .agg ds,y=>∃vs:Array Value,y=.agg vs/\vs.size=ds.length/\∀(j:Nat) (d:D),ds[j]?=some d->∃u,vs[j]?=some u/\bW w ω (Tag.own (100*r+j)).R d u
def mI(w:World)(ω:Own)(rs:List cF)(v:Value):Prop:=
 match rs with
 | [cj]=>lh w ω 0 cj v
 | rs=>∃vs:Array Value,v=.tuple vs/\vs.size=rs.length/\∀(r:Nat) (cj:cF),rs[r]?=some cj->∃y,vs[r]?=some y/\lh w ω r cj y
def wk(w0 w:World)(rs:List cF)(v:Value):Prop:=
 ∃ω:Own,(∀b,b<w0.heap.size->ω b=.bE)/\(∀b,ω b≠.bE->(∃t q,ω b=.tok t q)/\∃arr ty,w.heap[b]?=some (.cells arr ty (0,0)))/\mI w ω rs v
def im(P:Program)(f:FuncId)(args rs:List cF):Prop:=
 ∀(w:World) (vs:Array Value),pd w->Dm w args vs->Calls P f vs w fun e aN=>∃v,e=.returned v/\gd w.heap.size w aN/\wk w aN rs v
def aB.fV:aB->Option D
 | .v x=>if x.oneCell' then some (.v x) else none
 | .bc c=>some (.v (.bool c))
 | .J _ k es=>some (.J k es)
 | .hF ds off=>if off=0 then some (.ptr ds) else none
 | .fd d=>some d
 | .dg _ k es=>some (.J k es)
 | .aO _ _ _ k es .here=>some (.J k es)
 | .aO _ _ _ k es .k7=>some (.J k es)
 | _=>none
abbrev k3:=List (Nat×List aB)
def wq(bs:k3)(id:Nat):Option D:=(dn id bs).bind fun ls=>(ls.mapM aB.fV).map .ptr
def aB.jj(bs:k3):aB->Option D
 | .ptr id off=>if off=0 then wq bs id else none
 | .gg g ids=>(ids.mapM (wq bs)).map (.cl g)
 | l=>l.fV
def bq.jj(bs:k3):bq->Option cF
 | .one l=>(l.jj bs).map .one
 | .agg ls=>(ls.mapM (aB.jj bs)).map .agg
def aI.jj(bs:k3):aI->Option cF
 | .aJ a=>a.jj bs
 | _=>none
variable{w:World}{ω:Own}{d:D}{y:Value}
theorem bW.free{R:List (Nat×Nat)->cS->Prop}(h:bW w ω R d y):kR w d y:=
 h.frame fun _ _ _ _=>⟨rfl,rfl⟩
variable{τ:Nat->Nat×Value}
theorem aB.MN{l:aB}(h:l.fV=some d)(ai:Sat w ω τ l y):kR w d y:=by
 cases l with
 | cp=>cases h
 | v x=>
  simp only[aB.fV]at h;split at h
  ·simp only[aQ]at h;subst h;have:y=x:=ai;subst this;exact .v _ _ ‹_›
  cases h
 | bc c=>
  simp only[aB.fV,aQ]at h;subst h;have:y=.bool c:=ai;subst this;exact .v _ _ rfl
 | J t k es=>simp only[aB.fV,aQ]at h;subst h;exact ai.1.free
 | ptr=>cases h
 | cX=>cases h
 | gg=>cases h
 | e5=>cases h
 | hF ds off=>
  simp only[aB.fV]at h;split at h
  ·rename_i aX;subst aX;simp only[aQ]at h;subst h;obtain⟨b,rfl,aD⟩:=ai;exact aD.free
  cases h
 | fd dq=>simp only[aB.fV,aQ]at h;subst h;exact bW.free ai
 | dg t k es=>simp only[aB.fV,aQ]at h;subst h;exact bW.free ai.1
 | aO t i j k es m=>
  obtain⟨u,hu,aD,_⟩:=ai;cases m with
  | at_ x z=>cases h
  | here=>simp only[aB.fV,aQ]at h;subst h;have:y=u:=hu;subst this;exact aD.free
  | k7=>simp only[aB.fV,aQ]at h;subst h;have:y=u:=hu;subst this;exact aD.free
def vE(w:World)(ω:Own)(τ:Nat->Nat×Value)(bs:k3):Prop:=∀id ls,dn id bs=some ls->sG w ω τ id ls
variable{bs:k3}
theorem Pv(aq:vE w ω τ bs){id b:Nat}(h:wq bs id=some d)(aX:ω b=.box id):kR w d (ptrTo b):=by
 unfold wq at h;cases e:dn id bs with
 | none=>simp[e]at h
 | some ls=>
  simp only[e,l1,b0]at h;obtain⟨ds,h1,rfl⟩:=h;obtain⟨cU,arr,ty,dA,hu,bB,ai⟩:=aq id ls e;have:=hu b aX;subst this;obtain⟨U,ax⟩:=mH h1;have cell:∀j d,ds[j]?=some d->arr[j]?=some (arr.getD j undef)/\kR w d (arr.getD j undef):=by
   intro j d aE;obtain⟨l,ak,da⟩:=ax j d aE;obtain⟨u,fN,eT⟩:=ai.2 j l ak;have e2:arr.getD j undef=u:=by simp[d',fN]
   rw[e2];exact⟨fN,aB.MN da eT⟩
  exact bW.ptr _ ds b arr ty (0,0) (fun j=>arr.getD j undef) bB rfl (by have:=ai.1;omega) (fun j d aE=>(cell j d aE).1) (fun j d aE=>(cell j d aE).2.frame fun _ _ _ _=>⟨rfl,rfl⟩)
theorem aB.wo(aq:vE w ω τ bs){l:aB}(h:l.jj bs=some d)(ai:Sat w ω τ l y):kR w d y:=by
 unfold aB.jj at h;split at h
 ·rename_i id off;split at h
  ·rename_i aX;subst aX;obtain⟨b,h1,rfl⟩:=ai;exact Pv aq h h1
  cases h
 ·rename_i g ids;rw[b0]at h;obtain⟨ds,h1,rfl⟩:=h;obtain⟨nd,rfl,aT,hi⟩:=ai;obtain⟨U,ax⟩:=mH h1;have cell:∀j d,ds[j]?=some d->(nd.map ptrTo).toArray[j]?=some ((nd.map ptrTo).toArray.getD j undef)/\kR w d ((nd.map ptrTo).toArray.getD j undef):=by
   intro j d aE;obtain⟨id,fB,Ga⟩:=ax j d aE;obtain⟨b,hg,fM⟩:=hi j id fB;have e1:(nd.map ptrTo).toArray[j]?=some (ptrTo b):=by simp[hg]
   have e2:(nd.map ptrTo).toArray.getD j undef=ptrTo b:=by rw[d',e1];rfl
   rw[e2];exact⟨e1,Pv aq Ga fM⟩
  exact bW.cl _ g ds _ (fun j=>(nd.map ptrTo).toArray.getD j undef) (by simp;omega) (fun j d aE=>(cell j d aE).1) (fun j d aE=>(cell j d aE).2.frame fun _ _ _ _=>⟨rfl,rfl⟩)
 exact aB.MN h ai
theorem aI.wo(aq:vE w ω τ bs){p:aI}{cj:cF}(h:p.jj bs=some cj)(ai:cI (Sat w ω τ) p y):uq w cj y:=by
 cases p with
 | fE as=>cases h
 | aJ a=>
  cases a with
  | one l=>
   simp only[aI.jj,bq.jj,b0]at h;obtain⟨d,h1,rfl⟩:=h;exact aB.wo aq h1 ai
  | agg ls=>
   simp only[aI.jj,bq.jj,b0]at h;obtain⟨ds,h1,rfl⟩:=h;obtain⟨U,ax⟩:=mH h1;obtain⟨vs,rfl,aT,bA⟩:=ai;refine⟨vs,rfl,by omega,fun i d aE=>?_⟩;obtain⟨l,ak,da⟩:=ax i d aE;obtain⟨u,hu,eT⟩:=bA i l ak;exact⟨u,hu,aB.wo aq da eT⟩
def lj(P:Program)(g:FuncId):Bool:=
 match P.funcs[g]? with
 | some fn => !(fn.name == "runtime.NumGoroutine") && !fn.body.isNone
 | none=>false
def D.oZ(t:Nat):D->aB
 | .v (.bool c)=>.bc c
 | .v x=>.v x
 | .J k es=>.J (.own t) k es
 | .ptr _=>.cp
 | .cl _ _=>.cp
def mJ(t:Nat):Nat->List D->List aB
 | _,[]=>[]
 | j,d::ds=>d.oZ (t+j)::mJ t (j+1) ds
theorem zL(t:Nat):∀(ds:List D) (j i:Nat),(mJ t j ds)[i]?=(ds[i]?).map (D.oZ (t+(j+i)))
 | [],_,_=>by simp[mJ]
 | d::ds,j,0=>by simp[mJ]
 | d::ds,j,i+1=>by
  simp only[mJ,n1,zL t ds (j+1) i];rw[show j+1+i=j+(i+1) by omega]
theorem w9(t:Nat):∀(ds:List D) (j:Nat),(mJ t j ds).length=ds.length
 | [],_=>rfl
 | d::ds,j=>by simp[mJ,w9 t ds (j+1)]
def cF.res(t:Nat):cF->bq
 | .one d=>.one (d.oZ t)
 | .agg ds=>.agg (mJ t 0 ds)
def pY(t:Nat):Nat->List cF->List bq
 | _,[]=>[]
 | r,a::as=>a.res (t+100*r)::pY t (r+1) as
theorem Dn(t:Nat):∀(as:List cF) (r i:Nat),(pY t r as)[i]?=(as[i]?).map (cF.res (t+100*(r+i)))
 | [],_,_=>by simp[pY]
 | d::ds,j,0=>by simp[pY]
 | d::ds,j,i+1=>by
  simp only[pY,n1,Dn t ds (j+1) i];rw[show j+1+i=j+(i+1) by omega]
theorem Dp(t:Nat):∀(as:List cF) (r:Nat),(pY t r as).length=as.length
 | [],_=>rfl
 | d::ds,j=>by simp[pY,Dp t ds (j+1)]
def su(t:Nat):List cF->aI
 | [a]=>.aJ (a.res t)
 | as=>.fE (pY t 0 as)
def tv(rs:List cF):Bool:=rs.length<100&&rs.all fun | .one _=>true | .agg ds=>ds.length<100
def fY(t:Nat):Tag->Option Tag
 | .free=>some .free
 | .own s=>if t<=s/\s<t+10000 then some .free else some (.own s)
 | .ro s=>if t<=s/\s<t+10000 then some .free else some (.ro s)
def nL(t:Nat):cS->cS
 | .tok s q=>if t<=s/\s<t+10000 then .bE else .tok s q
 | o=>o
def Pw(t:Nat):cS->cS
 | .tok s q=>.tok (t+s) q
 | _=>.bE
def cF.cell(j:Nat):cF->Option D
 | .one d=>if j=0 then some d else none
 | .agg ds=>ds[j]?
def pz(rs:List cF)(n:Nat):Nat:=
 match (rs[n / 100]?).bind (cF.cell (n % 100)) with
 | some (.J k _)=>k
 | _=>0
def my(rs:List cF)(v:Value)(n:Nat):Value:=
 match rs with
 | [_]=>v.cells.getD (n % 100) undef
 | _=>match v with
  | .tuple vs=>(vs.getD (n / 100) undef).cells.getD (n % 100) undef
  | _=>undef
def aH.uL(st:aH)(t:Nat):aH:=st.map (aB.ci (fY t) fun _=>true)
theorem cw.called{w0:ej}{st:aH}{a:Act}{aN:World}(aU:cw w0 st a w ω τ)(t:Nat){rs:List cF}{v:Value}
  (ev:tv rs=true) (hQ:t+10000<=c3) (aq:gd w.heap.size w aN) (eN:wk w aN rs v):
  ∃aY cJ,cw w0 (st.uL t) a aN aY cJ/\cI (Sat aN aY cJ) (su t rs) v:=by
 obtain⟨e0,kl,j9,km⟩:=eN
 let aY:Own:=fun b=>if b<w.heap.size then nL t (ω b) else Pw t (e0 b)
 let cJ:Nat->Nat×Value:=fun s=>if t<=s/\s<t+10000 then (pz rs (s-t),my rs v (s-t)) else τ s
 have hold:∀b,b<w.heap.size->aY b=nL t (ω b):=fun b aq=>by simp only[aY];rw[br aq]
 have fH:∀b,¬b<w.heap.size->aY b=Pw t (e0 b):=fun b aq=>by simp only[aY];rw[bg aq]
 have bh:k4 w ω τ aN aY cJ (fY t) (fun _=>true):=by
  refine⟨?_,?_,?_,rfl,fun s ai=>by simp only[cJ];rw[bg (by omega)]⟩
  ·intro g ea b q au bC aC;refine⟨?_,aq.block b bC⟩;rw[hold b bC];cases g with
   | free=>simp only[fY,aQ]at au;subst au;simp only[Tag.R]at aC ⊢;rw[aC];rfl
   | own s=>
    simp only[Tag.R]at aC;simp only[fY]at au;rw[aC];simp only[nL];split at au
    ·simp only[aQ]at au;subst au;rw[br ‹_›];rfl
    simp only[aQ]at au;subst au;rw[bg ‹_›];rfl
   | ro s=>
    simp only[Tag.R]at aC;simp only[fY]at au;split at au
    ·simp only[aQ]at au;subst au;rcases aC with h | ⟨di,h⟩
     ·rw[h];rfl
     rw[h];simp only[nL];rw[br ‹_›];rfl
    simp only[aQ]at au;subst au;rcases aC with h | ⟨di,h⟩
    ·rw[h];exact .inl rfl
    rw[h];simp only[nL];rw[bg ‹_›];exact .inr ⟨di,rfl⟩
  ·intro g ea y au bn;cases g with
   | free=>simp only[fY,aQ]at au;subst au;exact trivial
   | own s=>
    simp only[fY]at au;split at au
    ·simp only[aQ]at au;subst au;exact trivial
    simp only[aQ]at au;subst au;simp only[Tag.dN,cJ]at bn ⊢;rw[bg ‹_›];exact bn
   | ro s=>
    simp only[fY]at au;split at au
    ·simp only[aQ]at au;subst au;exact trivial
    simp only[aQ]at au;subst au;exact trivial
  intro id b _ ck;have bC:=aU.owned.lt (b:=b) (by simp[ck]);rw[hold b bC,ck];rfl
 have cell:∀(n:Nat) (d:D) (u:Value),n<10000->my rs v n=u->(∀k es,d=.J k es->pz rs n=k)->bW aN e0 (Tag.own n).R d u->Sat aN aY cJ (d.oZ (t+n)) u:=by
  intro n d u aT bA hk aD;cases d with
  | v x=>
   have e:u=x:=by cases aD;rfl
   subst e;unfold D.oZ;split
   ·rename_i h;cases h;exact rfl
   ·rename_i h;cases h;exact rfl
   ·rename_i h;cases h
   ·exact trivial
   exact trivial
  | ptr ds=>exact trivial
  | cl g bK=>exact trivial
  | J k es=>
   refine⟨aD.frame fun b q bC aC=>⟨?_,rfl⟩,?_⟩
   ·simp only[Tag.R]at aC ⊢;have:¬b<w.heap.size:=fun h=>by have:=kl b h;rw[this]at aC;cases aC
    rw[fH b this,aC];rfl
   simp only[Tag.dN,cJ];rw[br (by omega),show t+n-t=n by omega,bA,hk k es rfl]
 have sM:∀(r:Nat) (cj:cF) (y:Value),r<100->(∀ds,cj=.agg ds->ds.length<100)->rs[r]?=some cj->(∀j,j<100->my rs v (100*r+j)=y.cells.getD j undef)->lh aN e0 r cj y->jO (Sat aN aY cJ) (cj.res (t+100*r)) y:=by
  intro r cj y aD eh y1 bA ov;have gi:∀j,j<100->pz rs (100*r+j)=(match cF.cell j cj with | some (.J k _)=>k | _=>0):=by
   intro j a';unfold pz;rw[show (100*r+j) / 100=r by omega,show (100*r+j) % 100=j by omega,y1];rfl
  cases cj with
  | one d=>
   have h1:=ov.oL;have U:=bA 0 (by omega);rw[zH h1]at U;have:=cell (100*r) d y (by omega) (by simpa using U) (fun k es e=>by
    have:=gi 0 (by omega);rw[l4]at this;rw[this,e];rfl) ov
   exact this
  | agg ds=>
   obtain⟨vs,rfl,aT,a'⟩:=ov;refine⟨vs,rfl,by rw[w9];exact aT,fun j l ak=>?_⟩;rw[zL,b0]at ak;obtain⟨d,aE,rfl⟩:=ak;obtain⟨u,hu,y2⟩:=a' j d aE;have ko:j<100:=by
    have:=(eu.1 aE).1;have:=eh ds rfl;omega
   refine⟨u,hu,?_⟩;have:=cell (100*r+j) d u (by omega) (by rw[bA j ko];simp[Value.cells,d',hu]) (fun k es e=>by
    rw[gi j ko];simp only[cF.cell,aE,e]) y2
   rw[show t+100*r+(0+j)=t+(100*r+j) by omega];exact this
 simp only[tv,cq,cK]at ev;have eh:∀(r:Nat) (cj:cF),rs[r]?=some cj->∀ds,cj=.agg ds->ds.length<100:=by
  intro r cj aD ds e;have:=fv.1 ev.2 cj (fp aD);subst e;simpa using this
 refine⟨aY,cJ,aU.dS _ bh.sat (aU.below.next aq) ?_ ?_ ?_ (fun s ai=>by simp only[cJ];rw[bg (by omega)]),?_⟩
 ·intro b fA;by_cases bC:b<w.heap.size
  ·rw[hold b bC]at fA;have U:ω b≠.bE:=fun e=>by rw[e]at fA;exact fA rfl
   obtain⟨ax,arr,ty,aK⟩:=aU.owned b U;exact⟨ax,arr,ty,(aq.block b bC).trans aK⟩
  rw[fH b bC]at fA;have U:e0 b≠.bE:=fun e=>by rw[e]at fA;exact fA rfl
  obtain⟨_,arr,ty,aK⟩:=j9 b U;exact⟨.inl (by have:=aU.below.size;omega),arr,ty,aK⟩
 ·intro id b ck;have bC:=aU.owned.lt (b:=b) (by simp[ck]);exact⟨bh.box id b rfl ck,aq.block b bC⟩
 ·intro id b ck;by_cases bC:b<w.heap.size
  ·rw[hold b bC]at ck;cases e:ω b with
   | bE=>rw[e]at ck;cases ck
   | box i=>rw[e]at ck;exact ck
   | tok s q=>rw[e]at ck;simp only[nL]at ck;split at ck<;>cases ck
  ·rw[fH b bC]at ck;cases e:e0 b<;>(rw[e]at ck;cases ck)
 cases rs with
 | nil=>
  obtain⟨vs,rfl,aT,_⟩:=km;exact⟨vs,rfl,aT,fun i a aj=>by simp[pY]at aj⟩
 | cons cj rest=>
  cases rest with
  | nil=>
   have:=sM 0 cj v (by omega) (eh 0 cj rfl) rfl (fun j a'=>by
    unfold my;simp only[Nat.mul_zero,dx];rw[Bw a']) km
   exact this
  | cons ML rest=>
   obtain⟨vs,rfl,aT,bA⟩:=km;refine⟨vs,rfl,by rw[Dp];exact aT,fun i a aj=>?_⟩;rw[Dn,b0]at aj;obtain⟨nc,h1,rfl⟩:=aj;obtain⟨y,bn,yK⟩:=bA i nc h1;have iR:i<100:=by
    have:=(eu.1 h1).1;omega
   refine⟨y,bn,?_⟩;have:=sM i nc y iR (eh i nc h1) h1 (fun j a'=>by
    unfold my;simp only;rw[show (100*i+j) / 100=i by omega,show (100*i+j) % 100=j by omega];simp[d',bn]) yK
   rw[dx];exact this
end Go.Sx
namespace Go.Sx
open Go.RowKit
inductive fF where
 | ro (d:D)
 | hf (k:Nat) (es:List (List D)) (post:Option (List (List D)))
inductive GA where
 | one (c:fF)
 | agg (cs:List fF)
def fg(i j:Nat):Nat:=c3+(100*i+j)
def GA.cell(j:Nat):GA->Option fF
 | .one c=>if j=0 then some c else none
 | .agg cs=>cs[j]?
def cellOf(v:Value)(j:Nat):Value:=v.cells.getD j undef
def uw(w:World)(ω:Own)(t:Nat):fF->Value->Prop
 | .ro d,y=>bW w ω Tag.free.R d y
 | .hf k es _,y=>bW w ω (Tag.own t).R (.J k es) y
def MA(w:World)(ω:Own)(i:Nat):GA->Value->Prop
 | .one c,y=>uw w ω (fg i 0) c y
 | .agg cs,y=>∃vs:Array Value,y=.agg vs/\vs.size=cs.length/\∀(j:Nat) (c:fF),cs[j]?=some c->∃u,vs[j]?=some u/\uw w ω (fg i j) c u
def Fp(w:World)(ω:Own):Prop:=∀b,ω b≠.bE->(∃t q,ω b=.tok t q/\c3<=t)/\∃arr ty,w.heap[b]?=some (.cells arr ty (0,0))
def Fo(w:World)(ω:Own)(args:List GA)(vs:Array Value):Prop:=Fp w ω/\vs.size=args.length/\∀(i:Nat) (eM:GA),args[i]?=some eM->∃v,vs[i]?=some v/\MA w ω i eM v
def Kept(w:World)(ω:Own)(args:List GA)(vs:Array Value):Prop:=
 ∀(i j:Nat) (eM:GA) (k:Nat) (es cv:List (List D)),args[i]?=some eM->eM.cell j=some (.hf k es (some cv))->bW w ω (Tag.own (fg i j)).R (.J k cv) (cellOf (vs.getD i undef) j)
def ux(P:Program)(f:FuncId)(args:List GA)(rs:List cF):Prop:=
 ∀(w:World) (vs:Array Value) (ω:Own),Fo w ω args vs->Tidy w ω->Calls P f vs w fun e aN=>∃v,e=.returned v/\gO ⟨w,fun b=>ω b≠.bE,fun _=>(0,undef)⟩ aN/\
  ∃aY:Own,(∀b,b<w.heap.size->ω b=.bE->aY b=.bE)/\(∀b,aY b≠.bE->(∃t q,aY b=.tok t q)/\∃arr ty,aN.heap[b]?=some (.cells arr ty (0,0)))/\Kept aN aY args vs/\mI aN aY rs v
structure de where
 i:Nat
 j:Nat
 t:Nat
 p:Option (Nat×Nat)
 k:Nat
 es:List (List D)
 post:Option (List (List D))
abbrev pa:=Option (Option (List (List D)))
def wv(bs:k3)(i j:Nat):pa->aB->Option (fF×List de×List aB)
 | none,l=>(l.jj bs).map fun d=>(.ro d,[],[l])
 | some post,.J (.own t) k es=>some (.hf k es post,[⟨i,j,t,none,k,es,post⟩],[])
 | some post,.aO t a b k es .here=>some (.hf k es post,[⟨i,j,t,some (a,b),k,es,post⟩],[])
 | _,_=>none
def oV(bs:k3)(i:Nat):Nat->List pa->List aB->Option (List fF×List de×List aB)
 | _,[],[]=>some ([],[],[])
 | j,m::ms,l::ls=>
  match wv bs i j m l,oV bs i (j+1) ms ls with
  | some (c,h,r),some (cs,ai,rs)=>some (c::cs,h++ai,r++rs)
  | _,_=>none
 | _,_,_=>none
def yj(bs:k3)(i:Nat)(ms:List pa):aI->Option (GA×List de×List aB)
 | .aJ (.one l)=>match ms with | [m]=>(wv bs i 0 m l).map fun r=>(.one r.1,r.2) | _=>none
 | .aJ (.agg ls)=>(oV bs i 0 ms ls).map fun r=>(.agg r.1,r.2)
 | _=>none
def uJ(bs:k3):Nat->List (List pa)->List aI->Option (List GA×List de×List aB)
 | _,[],[]=>some ([],[],[])
 | i,ms::HB,p::ct=>
  match yj bs i ms p,uJ bs (i+1) HB ct with
  | some (a,h,r),some (as,ai,rs)=>some (a::as,h++ai,r++rs)
  | _,_=>none
 | _,_,_=>none
def q'(ai:List de)(t:Nat):Bool:=ai.any fun h=>h.t==t
def Tag.mE(ai:List de):Tag->Bool
 | .free=>false
 | .own t=>q' ai t
 | .ro t=>q' ai t
def aB.oG(ai:List de):aB->Bool
 | .J t _ _=>t.mE ai
 | .cX t _ _ _ _=>t.mE ai
 | .aO t _ _ _ _ _=>q' ai t
 | .e5 _ _=>true
 | _=>false
def aB.mE(bs:k3)(ai:List de):aB->Bool
 | .ptr id _=>match dn id bs with | some ls=>ls.any (aB.oG ai) | none=>true
 | .gg _ ids=>ids.any fun id=>match dn id bs with | some ls=>ls.any (aB.oG ai) | none=>true
 | l=>l.oG ai
def de.apart(h y:de):Bool:=
 (h.i != y.i||h.j != y.j)&&(h.t != y.t||match h.p,y.p with | some p,some q=>p.2 != q.2 | _,_=>false)
def nM:List de->Bool
 | []=>true
 | h::r=>decide (h.j<100)&&(r.all (de.apart h)&&nM r)
theorem Px:∀{ai:List de},nM ai=true->∀h∈ai,∀y∈ai,h=y\/(de.apart h y=true\/de.apart y h=true)
 | [],_,h,bB,_,_=>by cases bB
 | x::r,hk,h,bB,y,bn=>by
  simp only[nM,cq,fv]at hk;rcases et.1 bB with e1 | Ns
  ·rcases et.1 bn with e2 | GR
   ·exact .inl (e1.trans e2.symm)
   rw[e1];exact .inr (.inl (hk.2.1 y GR))
  rcases et.1 bn with e2 | GR
  ·rw[e2];exact .inr (.inr (hk.2.1 h Ns))
  exact Px hk.2.2 h Ns y GR
theorem OH:∀{ai:List de},nM ai=true->∀h∈ai,h.j<100
 | [],_,h,bB=>by cases bB
 | x::r,hk,h,bB=>by
  simp only[nM,cq,cK]at hk;rcases et.1 bB with rfl | bB
  ·exact hk.1
  exact OH hk.2.2 h bB
def de.fit(h:de)(t:Nat)(q:List (Nat×Nat)):Option (List (Nat×Nat)):=
 if h.t=t then
  match h.p,q with
  | none,q=>some q
  | some p,x::di=>if x=p then some di else none
  | some _,[]=>none
 else none
def mo(t:Nat)(q:List (Nat×Nat)):List de->Option (Nat×List (Nat×Nat))
 | []=>none
 | h::r=>match h.fit t q with | some di=>some (fg h.i h.j,di) | none=>mo t q r
variable{h:de}{t:Nat}{q:List (Nat×Nat)}
theorem akC{y:de}{q1 lf:List (Nat×Nat)}(h1:h.fit t q=some q1)(U:y.fit t q=some lf):de.apart h y=false:=by
 unfold de.fit at h1 U;split at h1
 ·rename_i e1;split at U
  ·rename_i e2;have cc:(h.t != y.t)=false:=by simp[e1,e2]
   simp only[de.apart,cc,jL,Bool.and_eq_false_imp];intro _;split at h1
   ·rename_i hp;rw[hp]
   ·rename_i p x di hp;split at h1
    ·rename_i ag;split at U
     ·rename_i rQ;rw[hp,rQ]
     ·rename_i u' ij at2 rQ heq;split at U
      ·rename_i ju;rw[hp,rQ];simp only[rh]at heq;obtain⟨rfl,_⟩:=heq;subst ag;subst ju;simp
      cases U
     cases U
    cases h1
   cases h1
  cases U
 cases h1
theorem I3{t:Nat}{q di:List (Nat×Nat)}:∀{ai:List de},nM ai=true->∀{h:de},h∈ai->h.fit t q=some di->mo t q ai=some (fg h.i h.j,di)
 | [],_,h,bB,_=>by cases bB
 | x::r,hk,h,bB,bY=>by
  have Gn:=hk;simp only[nM,cq,fv]at hk;simp only[mo];rcases et.1 bB with rfl | bB
  ·rw[bY]
  cases e:x.fit t q with
  | none=>exact I3 hk.2.2 bB bY
  | some lf=>
   have:=akC e bY;rw[hk.2.1 h bB]at this;cases this
theorem zM{g:Nat}{di:List (Nat×Nat)}:∀{ai:List de},mo t q ai=some (g,di)->∃h∈ai,h.fit t q=some di/\g=fg h.i h.j
 | [],h=>by cases h
 | x::r,h=>by
  simp only[mo]at h;split at h
  ·rename_i lf e;simp only[aQ,bu]at h;obtain⟨rfl,rfl⟩:=h;exact⟨x,gN,e,rfl⟩
  obtain⟨y,bn,U⟩:=zM h;exact⟨y,ht _ bn,U⟩
theorem OI{di:List (Nat×Nat)}(e:h.fit t q=some di):h.t=t/\q=h.p.toList++di:=by
 unfold de.fit at e;split at e
 ·rename_i e1;refine⟨e1,?_⟩;split at e
  ·rename_i hp;simp only[aQ]at e;rw[hp,e];rfl
  ·rename_i p x lf hp;split at e
   ·rename_i ag;simp only[aQ]at e;rw[hp,ag,e];rfl
   cases e
  cases e
 cases e
theorem OJ(h:de)(q:List (Nat×Nat)):h.fit h.t (h.p.toList++q)=some q:=by
 unfold de.fit;rw[br rfl];cases h.p with
 | none=>rfl
 | some p=>simp
def ft(ai:List de)(ω:Own):Own:=fun b=>
 match ω b with
 | .tok t q=>match mo t q ai with | some (g,di)=>.tok g di | none=>.bE
 | _=>.bE
def BL(g:Nat):List de->Option de
 | []=>none
 | h::r=>if fg h.i h.j=g then some h else BL g r
theorem OK:∀{ai:List de},nM ai=true->∀{h:de},h∈ai->BL (fg h.i h.j) ai=some h
 | [],_,h,bB=>by cases bB
 | x::r,hk,h,bB=>by
  have a':=OH hk;have Gn:=hk;simp only[nM,cq,fv]at hk;simp only[BL];rcases et.1 bB with rfl | qy
  ·rw[br rfl]
  rw[bg]
  ·exact OK hk.2.2 qy
  intro e;have h1:=a' x gN;have U:=a' h (ht _ qy);have ax:=hk.2.1 h qy;simp only[de.apart,cq,n3,bne_iff_ne,gM]at ax;simp only[fg]at e;omega
def zN(ai:List de)(t0:Nat):cS->cS
 | .tok s q=>if c3<=s then (match BL s ai with | some h=>.tok h.t (h.p.toList++q) | none=>.bE) else .tok (t0+s) q
 | _=>.bE
def vF(t:Nat):List de->Option de
 | []=>none
 | h::r=>if h.t=t then some h else vF t r
theorem OL:∀{ai:List de},vF t ai=none->q' ai t=false
 | [],_=>rfl
 | h::r,e=>by
  simp only[vF]at e;split at e
  ·cases e
  rename_i cC;have:=OL e;simp only[q',uj,gq]at this ⊢;exact⟨by simpa using cC,this⟩
theorem OM:∀{ai:List de},vF t ai=some h->h∈ai/\h.t=t
 | [],e=>by cases e
 | x::r,e=>by
  simp only[vF]at e;split at e
  ·simp only[aQ]at e;subst e;exact⟨gN,‹_›⟩
  obtain⟨h1,U⟩:=OM e;exact⟨ht _ h1,U⟩
def lW:List de->List D->List D
 | [],ds=>ds
 | h::r,ds=>match h.p,h.post with
  | some p,some es=>lW r (ds.set p.2 (.J h.k es))
  | _,_=>lW r ds
def qX(ai:List de)(t0 hq nC:Nat)(pj:List (List D)):aB->aB
 | .J (.own t) k es=>
  match vF t ai with
  | some h=>match h.p,h.post with
   | none,some cv=>.J (.own t) h.k cv
   | none,none=>.cp
   | some _,_=>if t=hq then .J (.own t) nC pj else .cp
  | none=>aB.ci (fY t0) (fun _=>true) (.J (.own t) k es)
 | l=>if l.oG ai then .cp else l.ci (fY t0) fun _=>true
end Go.Sx
namespace Go.Sx
open Go.RowKit
variable{ai:List de}
theorem akD{t:Nat}(h:q' ai t=false):∀y∈ai,y.t≠t:=by
 intro y bn e;simp only[q',hr,dY]at h;exact h y bn e
theorem I4{t:Nat}(h:q' ai t=false)(q:List (Nat×Nat)):mo t q ai=none:=by
 cases e:mo t q ai with
 | none=>rfl
 | some x=>
  obtain⟨g,di⟩:=x;obtain⟨y,bn,bY,_⟩:=zM e;exact absurd (OI bY).1 (akD h y bn)
structure BC (w:World) (ω:Own) (τ:Nat->Nat×Value) (h:de) (u:Value):Prop where
 rep:bW w ω (fun q o=>o=.tok h.t (h.p.toList++q)) (.J h.k h.es) u
 root:h.p=none->τ h.t=(h.k,u)
 cell:∀a b,h.p=some (a,b)->∃(kT b4 off len cap:Nat) (arr:Array Value) (ty:TypeId) (cN:Nat×Nat),τ h.t=(kT,.slice (some ⟨b4,off,none⟩) len cap)/\ω b4=.tok h.t []/\w.heap[b4]?=some (.cells arr ty cN)/\arr[off+a*kT+b]?=some u
structure MI (w:World) (ω:Own) (τ:Nat->Nat×Value) (ai:List de) (hq nC:Nat) (pj:List (List D)):Prop where
 ex:∀h∈ai,∀p,h.p=some p->h.t=hq->∃(dz:List (List D)) (y:Value) (ds:List D) (a:Nat),Sat w ω τ (.J (.own hq) nC dz) y/\dz[a]?=some ds/\ds.length=nC/\pj=dz.set a (lW ai ds)/\
  ∀x∈ai,∀q,x.p=some q->x.t=hq/\q.1=a/\∃cv,x.post=some cv
theorem zO:∀(ai:List de) (ds:List D),(lW ai ds).length=ds.length
 | [],_=>rfl
 | h::r,ds=>by
  simp only[lW];split
  ·rw[zO r,fb]
  exact zO r ds
theorem I5{y:Nat}{d:D}:∀{ai:List de} {ds:List D},(lW ai ds)[y]?=some d->(∃h∈ai,∃a cv,h.p=some (a,y)/\h.post=some cv/\d=.J h.k cv)\/ds[y]?=some d/\∀h∈ai,∀a cv,h.p=some (a,y)->h.post=some cv->False
 | [],ds,h=>.inr ⟨h,fun _ bB=>by cases bB⟩
 | h::r,ds,aE=>by
  simp only[lW]at aE;split at aE
  ·rename_i p cv e1 e2;rcases I5 aE with⟨x,ag,a,bN,h1,U,ax⟩ | ⟨h1,U⟩
   ·exact .inl ⟨x,ht _ ag,a,bN,h1,U,ax⟩
   rw[jK]at h1;split at h1
   ·rename_i hp;split at h1
    ·simp only[aQ]at h1;exact .inl ⟨h,gN,p.1,cv,by rw[e1,<-hp],e2,h1.symm⟩
    cases h1
   rename_i hp;refine .inr ⟨h1,fun x ag a bN ax aK=>?_⟩;rcases et.1 ag with rfl | ag
   ·rw[e1]at ax;simp only[aQ]at ax;rw[ax]at hp;exact hp rfl
   exact U x ag a bN ax aK
  rename_i cC;rcases I5 aE with⟨x,ag,a,bN,h1,U,ax⟩ | ⟨h1,U⟩
  ·exact .inl ⟨x,ht _ ag,a,bN,h1,U,ax⟩
  refine .inr ⟨h1,fun x ag a bN ax aK=>?_⟩;rcases et.1 ag with rfl | ag
  ·exact cC _ _ ax aK
  exact U x ag a bN ax aK
theorem cw.We{w0:ej}{st:aH}{a:Act}{w aN:World}{ω:Own}{τ:Nat->Nat×Value}(aU:cw w0 st a w ω τ)(t0:Nat){rs:List cF}{v:Value}{H:Nat->Nat×Value}
  (cG:nM ai=true) (ev:tv rs=true) (hQ:t0+10000<=c3) (NN:∀h∈ai,¬(t0<=h.t/\h.t<t0+10000)) (aq:gO ⟨w,fun b=>ft ai ω b≠.bE,H⟩ aN) (e0:Own)
  (kl:∀b,b<w.heap.size->ft ai ω b=.bE->e0 b=.bE) (j9:∀b,e0 b≠.bE->(∃t q,e0 b=.tok t q)/\∃arr ty,aN.heap[b]?=some (.cells arr ty (0,0))) (km:mI aN e0 rs v)
  (vals:de->Value) (Gq:∀h∈ai,∀cv,h.post=some cv->bW aN e0 (Tag.own (fg h.i h.j)).R (.J h.k cv) (vals h)) (fX:∀h∈ai,BC w ω τ h (vals h))
  {hq nC:Nat} {pj:List (List D)} (iG:MI w ω τ ai hq nC pj):
  ∃aY cJ,cw w0 (st.map (qX ai t0 hq nC pj)) a aN aY cJ/\cI (Sat aN aY cJ) (su t0 rs) v:=by
 classical
 let aY:Own:=fun b=>if b<w.heap.size/\ft ai ω b=.bE then nL t0 (ω b) else zN ai t0 (e0 b)
 let cJ:Nat->Nat×Value:=fun s=>if t0<=s/\s<t0+10000 then (pz rs (s-t0),my rs v (s-t0)) else τ s
 have hold:∀b,b<w.heap.size->ft ai ω b=.bE->aY b=nL t0 (ω b):=fun b aq h=>by simp only[aY];rw[br ⟨aq,h⟩]
 have fH:∀b,e0 b≠.bE->aY b=zN ai t0 (e0 b):=fun b aq=>by
  simp only[aY];rw[bg];rintro⟨h1,U⟩;exact aq (kl b h1 U)
 have hblk:∀b,b<w.heap.size->ft ai ω b=.bE->aN.heap[b]?=w.heap[b]?:=fun b bC h=>aq.block b bC (fun aT=>aT h)
 have pB:∀b,ω b=.bE->ft ai ω b=.bE:=fun b h=>by simp only[ft,h]
 have WJ:∀b id,ω b=.box id->ft ai ω b=.bE:=fun b id h=>by simp only[ft,h]
 have jt:∀b s q,ω b=.tok s q->mo s q ai=none->ft ai ω b=.bE:=fun b s q h U=>by simp only[ft,h,U]
 have r0:∀h∈ai,cJ h.t=τ h.t:=fun h bB=>by simp only[cJ];rw[bg (NN h bB)]
 have fh:∀(g ea:Tag) (b:Nat) (q:List (Nat×Nat)),g.mE ai=false->fY t0 g=some ea->b<w.heap.size->g.R q (ω b)->ea.R q (aY b)/\aN.heap[b]?=w.heap[b]?:=by
  intro g ea b q hm au bC aC;have hi:ft ai ω b=.bE:=by
   cases g with
   | free=>exact pB b aC
   | own s=>exact jt b s q aC (I4 hm q)
   | ro s=>
    rcases aC with h | ⟨di,h⟩
    ·exact pB b h
    exact jt b s di h (I4 hm di)
  refine⟨?_,hblk b bC hi⟩;rw[hold b bC hi];cases g with
  | free=>simp only[fY,aQ]at au;subst au;simp only[Tag.R]at aC ⊢;rw[aC];rfl
  | own s=>
   simp only[Tag.R]at aC;simp only[fY]at au;rw[aC];simp only[nL];split at au
   ·simp only[aQ]at au;subst au;rw[br ‹_›];rfl
   simp only[aQ]at au;subst au;rw[bg ‹_›];rfl
  | ro s=>
   simp only[Tag.R]at aC;simp only[fY]at au;split at au
   ·simp only[aQ]at au;subst au;rcases aC with h | ⟨di,h⟩
    ·rw[h];rfl
    rw[h];simp only[nL];rw[br ‹_›];rfl
   simp only[aQ]at au;subst au;rcases aC with h | ⟨di,h⟩
   ·rw[h];exact .inl rfl
   rw[h];simp only[nL];rw[bg ‹_›];exact .inr ⟨di,rfl⟩
 have Hv:∀(g ea:Tag) (y:Nat×Value),fY t0 g=some ea->g.dN τ y->ea.dN cJ y:=by
  intro g ea y au bn;cases g with
  | free=>simp only[fY,aQ]at au;subst au;exact trivial
  | own s=>
   simp only[fY]at au;split at au
   ·simp only[aQ]at au;subst au;exact trivial
   simp only[aQ]at au;subst au;simp only[Tag.dN,cJ]at bn ⊢;rw[bg ‹_›];exact bn
  | ro s=>
   simp only[fY]at au;split at au
   ·simp only[aQ]at au;subst au;exact trivial
   simp only[aQ]at au;subst au;exact trivial
 have w2:∀id b,ω b=.box id->aY b=.box id/\aN.heap[b]?=w.heap[b]?:=by
  intro id b ck;have bC:=aU.owned.lt (b:=b) (by simp[ck]);have hi:=WJ b id ck;exact⟨by rw[hold b bC hi,ck];rfl,hblk b bC hi⟩
 have N8:∀h∈ai,∀cv,h.post=some cv->bW aN aY (fun q o=>o=.tok h.t (h.p.toList++q)) (.J h.k cv) (vals h):=by
  intro h bB cv he;refine (Gq h bB cv he).frame fun b q _ aC=>⟨?_,rfl⟩
  simp only[Tag.R]at aC;rw[fH b (by rw[aC];simp),aC];simp only[zN];rw[br (by simp[fg]),OK cG bB]
 have ey:∀l y,Sat w ω τ l y->Sat aN aY cJ (qX ai t0 hq nC pj l) y:=by
  intro l y db;have plain:∀g k es,g.mE ai=false->Sat w ω τ (.J g k es) y->Sat aN aY cJ (aB.ci (fY t0) (fun _=>true) (.J g k es)) y:=by
   intro g k es hm oA;simp only[aB.ci];cases au:fY t0 g with
   | none=>exact trivial
   | some ea=>exact⟨oA.1.frame fun b q bC aC=>fh g ea b q hm au bC aC,Hv g ea _ au oA.2⟩
  cases l with
  | cp=>exact trivial
  | v x=>exact db
  | bc c=>exact db
  | ptr id off=>
   obtain⟨b,h1,U⟩:=db;exact⟨b,(w2 id b h1).1,U⟩
  | gg f ids=>
   obtain⟨bs,e,aT,hi⟩:=db;simp only[qX,aB.oG,rc,mY,aB.ci];split
   ·refine⟨bs,e,aT,fun i id fB=>?_⟩;obtain⟨b,h1,U⟩:=hi i id fB;exact⟨b,h1,(w2 id b U).1⟩
   exact trivial
  | hF ds off=>
   obtain⟨b,e,aD⟩:=db;exact⟨b,e,aD.frame fun b q bC aC=>fh .free .free b q rfl rfl bC aC⟩
  | fd d=>exact bW.frame db fun b q bC aC=>fh .free .free b q rfl rfl bC aC
  | dg t k es=>exact⟨bW.frame db.1 fun b q bC aC=>fh .free .free b q rfl rfl bC aC,fun bR=>(show cJ t=τ t by simp only[cJ];rw[bg (by omega)]).trans (db.2 bR)⟩
  | aO t i j k es m=>
   simp only[qX];by_cases hm:aB.oG ai (.aO t i j k es m)=true
   ·rw[br hm];exact trivial
   rw[bg hm];simp only[uf]at hm;replace hm:q' ai t=false:=hm;simp only[aB.ci];split
   ·rename_i dc au;split
    ·rename_i bR;subst bR;obtain⟨fR,qD,h1,XH⟩:=db;refine⟨fR,qD,h1.frame fun c q ah aC=>fh (.own dc) _ c _ hm au ah aC,fun Xh=>?_⟩;obtain⟨kT,b,off,len,cap,arr,ty,cN,U,aV,ax,aK⟩:=XH Xh;have bC:b<w.heap.size:=(iO.1 ax).1;have hk:=fh (.own dc) _ b [] hm au bC aV;exact⟨kT,b,off,len,cap,arr,ty,cN,Hv _ _ _ au U,hk.1,hk.2.trans ax,aK⟩
    exact trivial
   exact trivial
  | e5 t vs=>
   simp only[qX,aB.oG,gL];exact trivial
  | cX g k es i j=>
   simp only[qX];by_cases hm:aB.oG ai (.cX g k es i j)=true
   ·rw[br hm];exact trivial
   rw[bg hm];simp only[uf]at hm;replace hm:g.mE ai=false:=hm;obtain⟨b,off,cap,e,hi,aD,bB⟩:=db;simp only[aB.ci];cases au:fY t0 g with
   | none=>exact trivial
   | some ea=>exact⟨b,off,cap,e,hi,aD.frame fun b q bC aC=>fh g ea b q hm au bC aC,Hv g ea _ au bB⟩
  | J g k es=>
   cases g with
   | free=>exact plain .free k es rfl db
   | ro s=>
    simp only[qX];by_cases hm:aB.oG ai (.J (.ro s) k es)=true
    ·rw[br hm];exact trivial
    rw[bg hm];simp only[uf]at hm;exact plain (.ro s) k es hm db
   | own s=>
    simp only[qX];cases bY:vF s ai with
    | none=>exact plain (.own s) k es (OL bY) db
    | some h=>
     obtain⟨bB,rfl⟩:=OM bY;simp only;have bA:=fX h bB;have dN:τ h.t=(k,y):=db.2;split
     ·
      rename_i cv hp he;have e1:=bA.root hp;rw[dN]at e1;simp only[bu]at e1;obtain⟨rfl,e2⟩:=e1;have aD:=N8 h bB cv he;rw[hp,<-e2]at aD;exact⟨aD,by simp only[Tag.dN];rw[r0 h bB,dN]⟩
     ·exact trivial
     -- parts of it
     rename_i p hp;split
     ·rename_i s6;obtain⟨dz,EA,ds,a0,wS,eh,rM,rfl,hA⟩:=iG.ex h bB p hp s6;have Gc:τ hq=(nC,EA):=wS.2;rw[<-s6,dN]at Gc;simp only[bu]at Gc;obtain⟨rfl,rfl⟩:=Gc;obtain⟨rS,_⟩:=wS;have hlen:(dz.set a0 (lW ai ds)).length=dz.length:=fb;have M6:a0<dz.length:=(eu.1 eh).1;refine⟨?_,by simp only[Tag.dN];rw[r0 h bB,dN]⟩;generalize bn:y=Ms at rS;cases rS with
      | nil=>simp at M6
      | row R k dz b4 off cap arr ty cN us F6 dI WV ek hk hu aE=>
       subst bn;have B4:ω b4=.tok h.t []:=by rw[s6];exact dI
       have NG:∀x∈ai,x.fit hq []=none:=by
        intro x ag;unfold de.fit;split
        ·rename_i ext;cases Cn:x.p with
         | some q=>simp
         | none=>
          exfalso;have cC:de.apart h x=true\/de.apart x h=true\/h=x:=by
           rcases Px cG h bB x ag with e | e | e
           ·exact .inr (.inr e)
           ·exact .inl e
           exact .inr (.inl e)
          have wG:∀y z:de,y.t=z.t->(y.p=none\/z.p=none)->de.apart y z=true->False:=by
           intro y z e1 e2 cc;simp only[de.apart,e1,cq,n3,bne_self_eq_false,rc,false_or]at cc;rcases e2 with e2 | e2
           ·simp[e2]at cc
           ·rw[e2]at cc;cases hyp:y.p<;>simp[hyp]at cc
          rcases cC with e | e | e
          ·exact wG h x (by rw[ext,s6]) (.inr Cn) e
          ·exact wG x h (by rw[ext,s6]) (.inl Cn) e
          rw[<-e,hp]at Cn;cases Cn
        rfl
       have kn:mo hq [] ai=none:=by
        cases e:mo hq [] ai with
        | none=>rfl
        | some z=>
         obtain⟨g,di⟩:=z;obtain⟨x,ag,N0,_⟩:=zM e;rw[NG x ag]at N0;cases N0
       have WI:b4<w.heap.size:=(iO.1 F6).1;have atn:ft ai ω b4=.bE:=jt b4 hq [] dI kn;have XS:¬(t0<=hq/\hq<t0+10000):=by rw[<-s6];exact NN h bB
       have NJ:∀b q,b<w.heap.size->ω b=.tok hq q->mo hq q ai=none->aY b=.tok hq q/\aN.heap[b]?=w.heap[b]?:=by
        intro b q bC aC aT;have hi:=jt b hq q aC aT;refine⟨?_,hblk b bC hi⟩;rw[hold b bC hi,aC];simp only[nL];rw[bg XS]
       have NI:∀x y d,cT dz x y=some d->(∀z∈ai,z.p≠some (x,y))->bW aN aY (fun q=>(Tag.own hq).R ((x,y)::q)) d (us x y):=by
        intro x y d ah bd;refine (aE x y d ah).frame fun b q bC aC=>?_
        refine NJ b _ bC aC ?_;cases e:mo hq ((x,y)::q) ai with
        | none=>rfl
        | some r=>
         obtain⟨g,di⟩:=r;obtain⟨z,zf,Yl,_⟩:=zM e;obtain⟨e1,e2⟩:=OI Yl;exfalso;cases qE:z.p with
         | none=>
          have:=NG z zf;unfold de.fit at this;rw[br e1,qE]at this;simp at this
         | some r=>
          rw[qE]at e2;simp only[Fl,List.cons_append,List.nil_append,rh]at e2;exact bd z zf (by rw[qE,<-e2.1])
       have key:∀x y d,cT (dz.set a0 (lW ai ds)) x y=some d->bW aN aY (fun q=>(Tag.own hq).R ((x,y)::q)) d (us x y):=by
        intro x y d ah;by_cases ag:x=a0
        ·subst ag;have j9:(lW ai ds)[y]?=some d:=by
          simpa[cT,jK,M6]using ah
         rcases I5 j9 with⟨z,bd,eC,cv,h1,U,rfl⟩ | ⟨h1,U⟩
         ·obtain⟨e1,e2,_⟩:=hA z bd _ h1;have e2:eC=x:=e2;subst e2;obtain⟨kT,gD,atV,atO,as5,as1,auc,atj,g1,g2,g3,g4⟩:=(fX z bd).cell _ _ h1;rw[e1,<-s6,dN]at g1;simp only[bu,Value.slice.injEq,aQ,Addr.mk.injEq]at g1;obtain⟨rfl,⟨rfl,rfl,_⟩,_,_⟩:=g1;rw[F6]at g3;simp only[aQ,Obj.cells.injEq]at g3;obtain⟨rfl,_,_⟩:=g3;have Yi:y<ds.length:=by
           have:=(eu.1 j9).1;rwa[zO]at this
          have eW:cT dz eC y=some ds[y]:=by simp[cT,eh,Yi]
          have Yb:us eC y=vals z:=by
           have:=hu eC y _ eW;rw[g4]at this;exact (eL this).symm
          rw[Yb];have aD:=N8 z bd cv U;rw[h1,e1]at aD;exact aD
         have eW:cT dz x y=some d:=by simp[cT,eh,h1]
         refine NI x y d eW fun z bd qE=>?_
         obtain⟨_,_,cv,he⟩:=hA z bd _ qE;exact U z bd x cv qE he
        have eW:cT dz x y=some d:=by
         simp only[cT,jK]at ah;rw[bg (by omega)]at ah;exact ah
        refine NI x y d eW fun z bd qE=>?_
        obtain⟨_,e2,_⟩:=hA z bd _ qE;exact ag e2
       have hg:=NJ b4 [] WI dI kn;have:=bW.row (w:=aN) (ω:=aY) (Tag.own hq).R k (dz.set a0 (lW ai ds)) b4 off cap arr ty cN us (hg.2.trans F6) hg.1 (by rw[hlen];exact WV) ek
        (fun e he=>by
         rcases n2 he with ed | rfl
         ·exact hk e ed
         rw[zO];exact rM)
        (fun x y d ah=>by
         have oB:x<dz.length/\y<k:=by
          have Gn:∀e∈dz.set a0 (lW ai ds),e.length=k:=fun e he=>by
           rcases n2 he with ed | rfl
           ·exact hk e ed
           rw[zO];exact rM
          have ed:x<(dz.set a0 (lW ai ds)).length/\y<k:=by
           unfold cT at ah;cases sP:(dz.set a0 (lW ai ds))[x]? with
           | none=>simp[sP]at ah
           | some row=>
            simp only[sP,l1]at ah;have hm:=Gn row (fp sP);exact⟨(eu.1 sP).1,by rw[<-hm];exact (eu.1 ah).1⟩
          rw[hlen]at ed;exact ed
         have s4:(dz[x]'oB.1).length=k:=hk _ (x9 oB.1);exact hu x y ((dz[x]'oB.1)[y]'(by omega)) (by simp[cT,oB.1,s4,oB.2]))
        key
       rw[hlen]at this;rw[s6];exact this
     exact trivial
 have cell:∀(n:Nat) (d:D) (u:Value),n<10000->my rs v n=u->(∀k es,d=.J k es->pz rs n=k)->bW aN e0 (Tag.own n).R d u->Sat aN aY cJ (d.oZ (t0+n)) u:=by
  intro n d u aT bA hk aD;cases d with
  | v x=>
   have e:u=x:=by cases aD;rfl
   subst e;unfold D.oZ;split
   ·rename_i h;cases h;exact rfl
   ·rename_i h;cases h;exact rfl
   ·rename_i h;cases h
   ·exact trivial
   exact trivial
  | ptr ds=>exact trivial
  | cl g bK=>exact trivial
  | J k es=>
   refine⟨aD.frame fun b q bC aC=>⟨?_,rfl⟩,?_⟩
   ·simp only[Tag.R]at aC ⊢;rw[fH b (by rw[aC];simp),aC];simp only[zN];rw[bg (by simp only[c3];omega)]
   simp only[Tag.dN,cJ];rw[br (by omega),show t0+n-t0=n by omega,bA,hk k es rfl]
 have sM:∀(r:Nat) (cj:cF) (y:Value),r<100->(∀ds,cj=.agg ds->ds.length<100)->rs[r]?=some cj->(∀j,j<100->my rs v (100*r+j)=y.cells.getD j undef)->lh aN e0 r cj y->jO (Sat aN aY cJ) (cj.res (t0+100*r)) y:=by
  intro r cj y aD eh y1 bA ov;have gi:∀j,j<100->pz rs (100*r+j)=(match cF.cell j cj with | some (.J k _)=>k | _=>0):=by
   intro j a';unfold pz;rw[show (100*r+j) / 100=r by omega,show (100*r+j) % 100=j by omega,y1];rfl
  cases cj with
  | one d=>
   have h1:=ov.oL;have U:=bA 0 (by omega);rw[zH h1]at U;have:=cell (100*r) d y (by omega) (by simpa using U) (fun k es e=>by
    have:=gi 0 (by omega);rw[l4]at this;rw[this,e];rfl) ov
   exact this
  | agg ds=>
   obtain⟨vs,rfl,aT,a'⟩:=ov;refine⟨vs,rfl,by rw[w9];exact aT,fun j l ak=>?_⟩;rw[zL,b0]at ak;obtain⟨d,aE,rfl⟩:=ak;obtain⟨u,hu,y2⟩:=a' j d aE;have ko:j<100:=by
    have:=(eu.1 aE).1;have:=eh ds rfl;omega
   refine⟨u,hu,?_⟩;have:=cell (100*r+j) d u (by omega) (by rw[bA j ko];simp[Value.cells,d',hu]) (fun k es e=>by
    rw[gi j ko];simp only[cF.cell,aE,e]) y2
   rw[show t0+100*r+(0+j)=t0+(100*r+j) by omega];exact this
 simp only[tv,cq,cK]at ev;have eh:∀(r:Nat) (cj:cF),rs[r]?=some cj->∀ds,cj=.agg ds->ds.length<100:=by
  intro r cj aD ds e;have:=fv.1 ev.2 cj (fp aD);subst e;simpa using this
 have NA:∀b,ω b≠.bE->w0.Cr b:=fun b h=>(aU.owned b h).1
 have Nq:∀b,ft ai ω b≠.bE->ω b≠.bE:=fun b h e=>h (pB b e)
 refine⟨aY,cJ,aU.dS _ ey ?_ ?_ (fun id b ck=>w2 id b ck) ?_ (fun s ai=>by simp only[cJ];rw[bg (by omega)]),?_⟩
 ·refine⟨aq.os.trans aU.below.os,aq.tape.trans aU.below.tape,aq.output.trans aU.below.output,ui aU.below.size aq.size,fun k hk au=>?_,fun ai=>ui (aU.below.drawn ai) (aq.drawn ai),aq.laid,aU.below.free⟩;have qB:k<w.heap.size:=yb hk aU.below.size;have hi:ft ai ω k=.bE:=by
   cases e:ft ai ω k with
   | bE=>rfl
   | _=>
    have:=NA k (Nq k (by rw[e];simp));rcases this with h | h
    ·omega
    exact absurd h au
  exact (hblk k qB hi).trans (aU.below.block k hk au)
 ·intro b fA;by_cases ah:b<w.heap.size/\ft ai ω b=.bE
  ·rw[hold b ah.1 ah.2]at fA;have U:ω b≠.bE:=fun e=>by rw[e]at fA;exact fA rfl
   obtain⟨ax,arr,ty,aK⟩:=aU.owned b U;exact⟨ax,arr,ty,(hblk b ah.1 ah.2).trans aK⟩
  have U:e0 b≠.bE:=fun e=>by
   simp only[aY]at fA;rw[bg ah,e]at fA;exact fA rfl
  obtain⟨_,arr,ty,aK⟩:=j9 b U;refine⟨?_,arr,ty,aK⟩;rcases rf b w.heap.size with bC | mB
  ·exact NA b (Nq b fun e=>ah ⟨bC,e⟩)
  exact .inl (by have:=aU.below.size;omega)
 ·intro id b ck;by_cases ah:b<w.heap.size/\ft ai ω b=.bE
  ·rw[hold b ah.1 ah.2]at ck;cases e:ω b with
   | bE=>rw[e]at ck;cases ck
   | box i=>rw[e]at ck;exact ck
   | tok s q=>rw[e]at ck;simp only[nL]at ck;split at ck<;>cases ck
  simp only[aY]at ck;rw[bg ah]at ck;cases e:e0 b with
  | bE=>rw[e]at ck;cases ck
  | box i=>rw[e]at ck;cases ck
  | tok s q=>
   rw[e]at ck;simp only[zN]at ck;split at ck
   ·split at ck<;>cases ck
   cases ck
 cases rs with
 | nil=>
  obtain⟨vs,rfl,aT,_⟩:=km;exact⟨vs,rfl,aT,fun i a aj=>by simp[pY]at aj⟩
 | cons cj rest=>
  cases rest with
  | nil=>
   have:=sM 0 cj v (by omega) (eh 0 cj rfl) rfl (fun j a'=>by
    unfold my;simp only[Nat.mul_zero,dx];rw[Bw a']) km
   exact this
  | cons ML rest=>
   obtain⟨vs,rfl,aT,bA⟩:=km;refine⟨vs,rfl,by rw[Dp];exact aT,fun i a aj=>?_⟩;rw[Dn,b0]at aj;obtain⟨nc,h1,rfl⟩:=aj;obtain⟨y,bn,yK⟩:=bA i nc h1;have iR:i<100:=by
    have:=(eu.1 h1).1;omega
   refine⟨y,bn,?_⟩;have:=sM i nc y iR (eh i nc h1) h1 (fun j a'=>by
    unfold my;simp only;rw[show (100*i+j) / 100=i by omega,show (100*i+j) % 100=j by omega];simp[d',bn]) yK
   rw[dx];exact this
end Go.Sx
namespace Go.Sx
open Go.RowKit
variable{w:World}{ω:Own}{τ:Nat->Nat×Value}{ai:List de}{l:aB}{d:D}{y:Value}
theorem ON(h:l.fV=some d)(hm:l.oG ai=false)(db:Sat w ω τ l y):bW w (ft ai ω) Tag.free.R d y:=by
 have pB:∀b,ω b=.bE->ft ai ω b=.bE:=fun b h=>by simp only[ft,h]
 have jt:∀b s q,ω b=.tok s q->q' ai s=false->ft ai ω b=.bE:=fun b s q h U=>by simp only[ft,h,I4 U]
 have tag:∀(g:Tag) (b:Nat) (q:List (Nat×Nat)),g.mE ai=false->g.R q (ω b)->ft ai ω b=.bE:=by
  intro g b q au aC;cases g with
  | free=>exact pB b aC
  | own s=>exact jt b s q aC au
  | ro s=>
   rcases aC with h | ⟨di,h⟩
   ·exact pB b h
   exact jt b s di h au
 cases l with
 | cp=>cases h
 | v x=>
  simp only[aB.fV]at h;split at h
  ·simp only[aQ]at h;subst h;have:y=x:=db;subst this;exact .v _ _ ‹_›
  cases h
 | bc c=>
  simp only[aB.fV,aQ]at h;subst h;have:y=.bool c:=db;subst this;exact .v _ _ rfl
 | J t k es=>simp only[aB.fV,aQ]at h;subst h;exact db.1.frame fun b q _ aC=>⟨tag t b q hm aC,rfl⟩
 | ptr=>cases h
 | cX=>cases h
 | gg=>cases h
 | e5=>cases h
 | hF ds off=>
  simp only[aB.fV]at h;split at h
  ·rename_i aX;subst aX;simp only[aQ]at h;subst h;obtain⟨b,rfl,aD⟩:=db;exact aD.frame fun b q _ aC=>⟨pB b aC,rfl⟩
  cases h
 | fd dq=>simp only[aB.fV,aQ]at h;subst h;exact bW.frame db fun b q _ aC=>⟨pB b aC,rfl⟩
 | dg t k es=>simp only[aB.fV,aQ]at h;subst h;exact bW.frame db.1 fun b q _ aC=>⟨pB b aC,rfl⟩
 | aO t i j k es m=>
  obtain⟨u,hu,aD,_⟩:=db;cases m with
  | at_ x z=>cases h
  | here=>simp only[aB.fV,aQ]at h;subst h;have:y=u:=hu;subst this;exact aD.frame fun b q _ aC=>⟨jt b t _ aC hm,rfl⟩
  | k7=>simp only[aB.fV,aQ]at h;subst h;have:y=u:=hu;subst this;exact aD.frame fun b q _ aC=>⟨jt b t _ aC hm,rfl⟩
variable{bs:k3}
theorem OO(aq:vE w ω τ bs){id b:Nat}(h:wq bs id=some d)(hm:(match dn id bs with | some ls=>ls.any (aB.oG ai) | none=>true)=false)(aX:ω b=.box id):
  bW w (ft ai ω) Tag.free.R d (ptrTo b):=by
 unfold wq at h;cases e:dn id bs with
 | none=>simp[e]at h
 | some ls=>
  rw[e]at hm;simp only[hr,uf]at hm;simp only[e,l1,b0]at h;obtain⟨ds,h1,rfl⟩:=h;obtain⟨cU,arr,ty,dA,hu,bB,db⟩:=aq id ls e;have:=hu b aX;subst this;obtain⟨U,ax⟩:=mH h1;have cell:∀j d,ds[j]?=some d->arr[j]?=some (arr.getD j undef)/\bW w (ft ai ω) Tag.free.R d (arr.getD j undef):=by
   intro j d aE;obtain⟨l,ak,da⟩:=ax j d aE;obtain⟨u,fN,eT⟩:=db.2 j l ak;have e2:arr.getD j undef=u:=by simp[d',fN]
   rw[e2];exact⟨fN,ON da (hm l (fp ak)) eT⟩
  exact bW.ptr _ ds b arr ty (0,0) (fun j=>arr.getD j undef) bB (by show ft ai ω b=.bE;simp only[ft,aX]) (by have:=db.1;omega) (fun j d aE=>(cell j d aE).1) (fun j d aE=>(cell j d aE).2.frame fun _ _ _ h=>⟨h,rfl⟩)
theorem akE(aq:vE w ω τ bs)(h:l.jj bs=some d)(hm:l.mE bs ai=false)(db:Sat w ω τ l y):
  bW w (ft ai ω) Tag.free.R d y:=by
 unfold aB.jj at h;split at h
 ·rename_i id off;split at h
  ·rename_i aX;subst aX;obtain⟨b,h1,rfl⟩:=db;exact OO aq h hm h1
  cases h
 ·rename_i g ids;rw[b0]at h;obtain⟨ds,h1,rfl⟩:=h;obtain⟨nd,rfl,aT,hi⟩:=db;obtain⟨U,ax⟩:=mH h1;simp only[aB.mE,hr,uf]at hm;have cell:∀j d,ds[j]?=some d->(nd.map ptrTo).toArray[j]?=some ((nd.map ptrTo).toArray.getD j undef)/\bW w (ft ai ω) Tag.free.R d ((nd.map ptrTo).toArray.getD j undef):=by
   intro j d aE;obtain⟨id,fB,Ga⟩:=ax j d aE;obtain⟨b,hg,fM⟩:=hi j id fB;have e1:(nd.map ptrTo).toArray[j]?=some (ptrTo b):=by simp[hg]
   have e2:(nd.map ptrTo).toArray.getD j undef=ptrTo b:=by rw[d',e1];rfl
   rw[e2];exact⟨e1,OO aq Ga (hm id (fp fB)) fM⟩
  exact bW.cl _ g ds _ (fun j=>(nd.map ptrTo).toArray.getD j undef) (by simp;omega) (fun j d aE=>(cell j d aE).1) (fun j d aE=>(cell j d aE).2.frame fun _ _ _ h=>⟨h,rfl⟩)
 rename_i XI XJ;have uW:l.oG ai=false:=by
  unfold aB.mE at hm;split at hm
  ·exact absurd rfl (XI _ _)
  ·exact absurd rfl (XJ _ _)
  exact hm
 exact ON h uW db
structure VY (w:World) (ω:Own) (τ:Nat->Nat×Value) (ai:List de) (i j:Nat) (c:fF) (ag:List de) (y:Value):Prop where
 gc:uw w (ft ai ω) (fg i j) c y
 at_:∀h∈ag,h.i=i/\h.j=j/\BC w ω τ h y/\c=.hf h.k h.es h.post
 one:y.oneCell'=true
variable{i:Nat}
theorem I6(cG:nM ai=true)(aq:vE w ω τ bs){j:Nat}{m:pa}{c:fF}{ag:List de}{rx:List aB}
  (h:wv bs i j m l=some (c,ag,rx)) (iG:∀x∈ag,x∈ai) (wR:∀x∈rx,x.mE bs ai=false) (db:Sat w ω τ l y):VY w ω τ ai i j c ag y:=by
 unfold wv at h;split at h
 ·rw[b0]at h;obtain⟨d,h1,h⟩:=h;simp only[bu]at h;obtain⟨rfl,rfl,rfl⟩:=h;have:=akE aq h1 (wR _ (by simp)) db;exact⟨this,fun x ag=>by simp at ag,this.oL⟩
 ·rename_i post t k es;simp only[aQ,bu]at h;obtain⟨rfl,rfl,rfl⟩:=h;have pF:=iG _ (gN);refine⟨db.1.frame fun b q _ aC=>⟨?_,rfl⟩,fun x ag=>?_,db.1.oL⟩
  ·simp only[Tag.R]at aC ⊢;simp only[ft,aC];have:=I3 (t:=t) (q:=q) (di:=q) cG pF (OJ ⟨i,j,t,none,k,es,post⟩ q);simp only[this]
  simp only[List.mem_singleton]at ag;subst ag;exact⟨rfl,rfl,⟨db.1.frame fun b q _ aC=>⟨aC,rfl⟩,fun _=>db.2,fun a b e=>by cases e⟩,rfl⟩
 ·rename_i post t a b k es;simp only[aQ,bu]at h;obtain⟨rfl,rfl,rfl⟩:=h;have pF:=iG _ (gN);obtain⟨fR,qD,db⟩:=db;have:y=fR:=qD;subst this;refine⟨db.1.frame fun c q _ aC=>⟨?_,rfl⟩,fun x ag=>?_,db.1.oL⟩
  ·simp only[Tag.R]at aC ⊢;simp only[ft,aC];have:=I3 (t:=t) (q:=(a,b)::q) (di:=q) cG pF (OJ ⟨i,j,t,some (a,b),k,es,post⟩ q);simp only[this]
  simp only[List.mem_singleton]at ag;subst ag;refine⟨rfl,rfl,⟨db.1.frame fun b q _ aC=>⟨aC,rfl⟩,fun e=>(by cases e),fun cx cU e=>?_⟩,rfl⟩;simp only[aQ,bu]at e;obtain⟨rfl,rfl⟩:=e;exact db.2 rfl
 cases h
theorem OP:∀{ms:List pa} {ls:List aB} {j:Nat} {cs:List fF} {ag:List de} {rx:List aB},oV bs i j ms ls=some (cs,ag,rx)->cs.length=ls.length
 | [],[],j,cs,ag,rx,h=>by simp only[oV,aQ,bu]at h;obtain⟨rfl,_,_⟩:=h;rfl
 | m::ms,l::ls,j,cs,ag,rx,h=>by
  simp only[oV]at h;split at h
  ·rename_i c h1 bI MV wT xX e1 e2;simp only[aQ,bu]at h;obtain⟨rfl,_,_⟩:=h;simp[OP e2]
  cases h
 | [],_::_,j,cs,ag,rx,h=>by simp[oV]at h
 | _::_,[],j,cs,ag,rx,h=>by simp[oV]at h
theorem OQ:∀{ms:List pa} {ls:List aB} {j:Nat} {cs:List fF} {ag:List de} {rx:List aB},oV bs i j ms ls=some (cs,ag,rx)->
  (∀(x:Nat) (c:fF),cs[x]?=some c->∃l m h1 bI,ls[x]?=some l/\wv bs i (j+x) m l=some (c,h1,bI)/\(∀z∈h1,z∈ag)/\(∀z∈bI,z∈rx))/\
  (∀h∈ag,∃(x:Nat) (c:fF) (l:aB) (m:pa) (h1:List de) (bI:List aB),cs[x]?=some c/\ls[x]?=some l/\wv bs i (j+x) m l=some (c,h1,bI)/\h∈h1/\(∀z∈h1,z∈ag)/\(∀z∈bI,z∈rx))
 | [],[],j,cs,ag,rx,h=>by
  simp only[oV,aQ,bu]at h;obtain⟨rfl,rfl,rfl⟩:=h;exact⟨fun x c ah=>by simp at ah,fun h bB=>by simp at bB⟩
 | m::ms,l::ls,j,cs,ag,rx,h=>by
  simp only[oV]at h;split at h
  ·rename_i c h1 bI MV wT xX e1 e2;simp only[aQ,bu]at h;obtain⟨rfl,rfl,rfl⟩:=h;obtain⟨cV,cA⟩:=OQ e2;refine⟨fun x jk ah=>?_,fun z bd=>?_⟩
   ·cases x with
    | zero=>
     simp only[j2,aQ]at ah;subst ah;exact⟨l,m,h1,bI,rfl,e1,fun z bd=>hZ _ bd,fun z bd=>hZ _ bd⟩
    | succ x=>
     obtain⟨gU,iJ,U,bZ,g1,g2,g3,g4⟩:=cV x jk (by simpa using ah);exact⟨gU,iJ,U,bZ,by simpa using g1,by rw[show j+(x+1)=j+1+x by omega];exact g2,fun z bd=>iz _ (g3 z bd),fun z bd=>iz _ (g4 z bd)⟩
   rcases mW.1 bd with bd | bd
   ·exact⟨0,c,l,m,h1,bI,rfl,rfl,e1,bd,fun z bd=>hZ _ bd,fun z bd=>hZ _ bd⟩
   obtain⟨x,jk,gU,iJ,U,bZ,g0,g1,g2,g5,g3,g4⟩:=cA z bd;exact⟨x+1,jk,gU,iJ,U,bZ,by simpa using g0,by simpa using g1,by rw[show j+(x+1)=j+1+x by omega];exact g2,g5,fun z bd=>iz _ (g3 z bd),fun z bd=>iz _ (g4 z bd)⟩
  cases h
 | [],_::_,j,cs,ag,rx,h=>by simp[oV]at h
 | _::_,[],j,cs,ag,rx,h=>by simp[oV]at h
structure VX (w:World) (ω:Own) (τ:Nat->Nat×Value) (ai:List de) (i:Nat) (eM:GA) (ag:List de) (y:Value):Prop where
 Ww:MA w (ft ai ω) i eM y
 at_:∀h∈ag,h.i=i/\BC w ω τ h (cellOf y h.j)/\eM.cell h.j=some (.hf h.k h.es h.post)
theorem OR(cG:nM ai=true)(aq:vE w ω τ bs){ms:List pa}{p:aI}{eM:GA}{ag:List de}{rx:List aB}
  (h:yj bs i ms p=some (eM,ag,rx)) (iG:∀x∈ag,x∈ai) (wR:∀x∈rx,x.mE bs ai=false) (db:cI (Sat w ω τ) p y):VX w ω τ ai i eM ag y:=by
 unfold yj at h;split at h
 ·rename_i l;split at h
  ·rename_i m;rw[b0]at h;obtain⟨⟨c,h1,bI⟩,e,h⟩:=h;simp only[bu]at h;obtain⟨rfl,rfl,rfl⟩:=h;have:=I6 cG aq e iG wR db;refine⟨this.gc,fun x ag=>?_⟩;obtain⟨e1,e2,cc,ec⟩:=this.at_ x ag;have Wr:cellOf y x.j=y:=by rw[e2,cellOf,zH this.one];rfl
   rw[Wr];exact⟨e1,cc,by simp[GA.cell,e2,ec]⟩
  cases h
 ·rename_i ls;rw[b0]at h;obtain⟨⟨cs,h1,bI⟩,e,h⟩:=h;simp only[bu]at h;obtain⟨rfl,rfl,rfl⟩:=h;obtain⟨us,rfl,aT,hu⟩:=db;obtain⟨cV,cA⟩:=OQ e;refine⟨⟨us,rfl,by rw[OP e];exact aT,fun x c ah=>?_⟩,fun z bd=>?_⟩
  ·obtain⟨l,m,U,bZ,g1,g2,g3,g4⟩:=cV x c ah;obtain⟨u,fN,eT⟩:=hu x l g1;rw[dx]at g2;exact⟨u,fN,(I6 cG aq g2 (fun z bd=>iG z (g3 z bd)) (fun z bd=>wR z (g4 z bd)) eT).gc⟩
  obtain⟨x,c,l,m,U,bZ,g0,g1,g2,g5,g3,g4⟩:=cA z bd;obtain⟨u,fN,eT⟩:=hu x l g1;rw[dx]at g2;obtain⟨e1,e2,cc,ec⟩:=(I6 cG aq g2 (fun z bd=>iG z (g3 z bd)) (fun z bd=>wR z (g4 z bd)) eT).at_ z g5;refine⟨e1,?_,by simp only[GA.cell,e2,g0,ec]⟩;have:cellOf (.agg us) z.j=u:=by simp[cellOf,Value.cells,e2,d',fN]
  rw[this];exact cc
 cases h
theorem OS:∀{HB:List (List pa)} {ct:List aI} {i:Nat} {gs:List GA} {ag:List de} {rx:List aB},uJ bs i HB ct=some (gs,ag,rx)->gs.length=ct.length/\
  (∀(x:Nat) (eM:GA),gs[x]?=some eM->∃p ms h1 bI,ct[x]?=some p/\yj bs (i+x) ms p=some (eM,h1,bI)/\(∀z∈h1,z∈ag)/\(∀z∈bI,z∈rx))/\
  (∀h∈ag,∃(x:Nat) (eM:GA) (p:aI) (ms:List pa) (h1:List de) (bI:List aB),gs[x]?=some eM/\ct[x]?=some p/\yj bs (i+x) ms p=some (eM,h1,bI)/\h∈h1/\(∀z∈h1,z∈ag)/\(∀z∈bI,z∈rx))
 | [],[],i,gs,ag,rx,h=>by
  simp only[uJ,aQ,bu]at h;obtain⟨rfl,rfl,rfl⟩:=h;exact⟨rfl,fun x c ah=>by simp at ah,fun h bB=>by simp at bB⟩
 | m::ms,l::ls,i,gs,ag,rx,h=>by
  simp only[uJ]at h;split at h
  ·rename_i c h1 bI MV wT xX e1 e2;simp only[aQ,bu]at h;obtain⟨rfl,rfl,rfl⟩:=h;obtain⟨dh,cV,cA⟩:=OS e2;refine⟨by simp[dh],fun x jk ah=>?_,fun z bd=>?_⟩
   ·cases x with
    | zero=>
     simp only[j2,aQ]at ah;subst ah;exact⟨l,m,h1,bI,rfl,e1,fun z bd=>hZ _ bd,fun z bd=>hZ _ bd⟩
    | succ x=>
     obtain⟨gU,iJ,U,bZ,g1,g2,g3,g4⟩:=cV x jk (by simpa using ah);exact⟨gU,iJ,U,bZ,by simpa using g1,by rw[show i+(x+1)=i+1+x by omega];exact g2,fun z bd=>iz _ (g3 z bd),fun z bd=>iz _ (g4 z bd)⟩
   rcases mW.1 bd with bd | bd
   ·exact⟨0,c,l,m,h1,bI,rfl,rfl,e1,bd,fun z bd=>hZ _ bd,fun z bd=>hZ _ bd⟩
   obtain⟨x,jk,gU,iJ,U,bZ,g0,g1,g2,g5,g3,g4⟩:=cA z bd;exact⟨x+1,jk,gU,iJ,U,bZ,by simpa using g0,by simpa using g1,by rw[show i+(x+1)=i+1+x by omega];exact g2,g5,fun z bd=>iz _ (g3 z bd),fun z bd=>iz _ (g4 z bd)⟩
  cases h
 | [],_::_,i,gs,ag,rx,h=>by simp[uJ]at h
 | _::_,[],i,gs,ag,rx,h=>by simp[uJ]at h
def Dq:List de->Option (Nat×Nat)
 | []=>none
 | h::r=>match h.p with | some p=>some (h.t,p.1) | none=>Dq r
theorem OT:∀{ai:List de},Dq ai=none->∀h∈ai,h.p=none
 | [],_,h,bB=>by cases bB
 | x::r,e,h,bB=>by
  simp only[Dq]at e;split at e
  ·cases e
  rename_i hp;rcases et.1 bB with rfl | bB
  ·exact hp
  exact OT e h bB
def zP(a:Nat):List de->List Prop
 | []=>[]
 | h::r=>match h.p with | some p=>(p.1=a)::zP a r | none=>zP a r
theorem I7{a:Nat}:∀{ai:List de},cE (zP a ai)->∀h∈ai,∀p,h.p=some p->p.1=a
 | [],_,h,bB,_,_=>by cases bB
 | x::r,aX,h,bB,p,hp=>by
  simp only[zP]at aX;split at aX
  ·rename_i q aC;rcases et.1 bB with rfl | bB
   ·rw[hp]at aC;rw[eL aC];exact aX.1
   exact I7 aX.2 h bB p hp
  rename_i aC;rcases et.1 bB with rfl | bB
  ·rw[hp]at aC;cases aC
  exact I7 aX h bB p hp
def I8(st:aH)(ai:List de)(src:Nat)(ds:List D):Option (Nat×Nat×List (List D)×List Prop):=
 match Dq ai with
 | none=>some (0,0,[],[])
 | some (t,a)=>
  match (st.env.getD src .cp).leaf with
  | some (.J (.own s) k es)=>
   if s=t/\ds.length=k/\ai.all (fun h=>match h.p with | some _=>h.t==t&&h.post.isSome | none=>true)=true then
    some (t,k,es.set a (lW ai ds),(es[a]?=some ds)::zP a ai)
   else none
  | _=>none
theorem akF{w0:ej}{st:aH}{a:Act}(aU:cw w0 st a w ω τ){src:Nat}{ds:List D}{t k:Nat}{es:List (List D)}{obs:List Prop}
  (h:I8 st ai src ds=some (t,k,es,obs)) (aX:cE obs):MI w ω τ ai t k es:=by
 unfold I8 at h;split at h
 ·rename_i aT;exact⟨fun x ag p hp _=>by rw[OT aT x ag]at hp;cases hp⟩
 rename_i dc cx bY;split at h
 ·rename_i s cm cv ak;split at h
  ·rename_i ah;obtain⟨rfl,rM,hA⟩:=ah;simp only[aQ,bu]at h;obtain⟨rfl,rfl,rfl,rfl⟩:=h;rw[fv]at hA;refine⟨fun x ag p hp _=>?_⟩;have oA:∃y,Sat w ω τ (.J (.own s) cm cv) y:=by
    rw[ik]at ak;cases e:st.env[src]? with
    | none=>rw[e]at ak;simp[aI.leaf]at ak
    | some p=>
     rw[e]at ak;obtain⟨v,_,U⟩:=aU.env src p e;exact⟨v,aI.dy ak U⟩
   obtain⟨y,bn⟩:=oA;refine⟨cv,y,ds,cx,bn,aX.1,rM,rfl,fun z bd q aC=>?_⟩;have h1:=hA z bd;simp only[aC,cq,dY,o6]at h1;exact⟨h1.1,I7 aX.2 z bd q aC,h1.2⟩
  cases h
 cases h
def I9(P:Program)(st:aH)(d:Option Nat)(f:FuncId)(args:List Operand)(ans:List b7):Option (aH×List b7×List Prop):=
 match ans with
 | .v7 vb src ds rs::r=>
  match uJ st.boxes 0 vb (args.map st.bh) with
  | some (gs,ai,o0)=>
   match I8 st ai src ds with
   | some (hq,nC,pj,obs)=>
    let t0:=10000*(d.getD 0+1)
    if lj P f=true/\tv rs=true/\t0+10000<=c3/\nM ai=true/\o0.all (fun l=>!(l.mE st.boxes ai))=true/\ai.all (fun h=>!(decide (t0<=h.t)&&decide (h.t<t0+10000)))=true then
     let bp:=st.map (qX ai t0 hq nC pj)
     match d with
     | some d=>some (⟨bp.env.set d (su t0 rs),bp.boxes⟩,r,ux P f gs rs::obs)
     | none=>some (bp,r,ux P f gs rs::obs)
    else none
   | none=>none
  | none=>none
 | _=>none
theorem akG{P:Program}{w0:ej}{st bp:aH}{a:Act}{dst:Option Nat}{f:FuncId}{args:Array Operand}{ts:Array TypeId}{type:TypeId}{pos:String}{after:Array Edge}{guard:Option (Nat×Bool)}{ans cd:List b7}{obs:List Prop}
  (aU:cw w0 st a w ω τ) (h:I9 P st dst f args.toList ans=some (bp,cd,obs)) (aX:cE obs) {K:Act->World->Prop} {Q:Exit->Act->World->Prop} (hN:∀cx aN,Rel w0 bp cx aN->K cx aN):
  Oper.wp P ⟨dst,.call ⟨.value (.func f),args,ts⟩,type,pos,after,guard⟩ a w K Q:=by
 unfold I9 at h;split at h
 ·rename_i vb src ds rs r;split at h
  ·rename_i gs ai o0 lF;split at h
   ·rename_i hq nC pj fy iG;simp only at h;split at h
    ·rename_i ah;obtain⟨gS,ev,hQ,cG,yZ,wQ⟩:=ah;rw[fv]at yZ wQ;have y0:∀l∈o0,l.mE st.boxes ai=false:=fun l ak=>by simpa using yZ l ak
     have XV:∀h∈ai,¬(10000*(dst.getD 0+1)<=h.t/\h.t<10000*(dst.getD 0+1)+10000):=fun h bB=>by
      have:=wQ h bB;simp only[g',Bool.and_eq_false_iff,ki]at this;omega
     obtain⟨hlen,cV,cA⟩:=OS lF;have fX:∀(x:Nat) (p:aI),(args.toList.map st.bh)[x]?=some p->∃v,(args.map a.eval)[x]?=some v/\cI (Sat w ω τ) p v:=by
      intro x p hp;rw[dd,b0]at hp;obtain⟨o,h1,rfl⟩:=hp;refine⟨a.eval o,?_,aU.bh o⟩;rw[yd];rw[mT]at h1;rw[h1];rfl
     have Xc:Fo w (ft ai ω) gs (args.map a.eval):=by
      refine⟨fun b aq=>?_,by simp[hlen],fun x eM ag=>?_⟩
      ·have c9:ω b≠.bE:=fun e=>aq (by simp only[ft,e])
       obtain⟨_,arr,ty,aK⟩:=aU.owned b c9;refine⟨?_,arr,ty,aK⟩;simp only[ft]at aq ⊢;cases e:ω b with
       | bE=>simp[e]at aq
       | box id=>simp[e]at aq
       | tok t q=>
        simp only[e]at aq ⊢;cases e2:mo t q ai with
        | none=>simp[e2]at aq
        | some z=>
         obtain⟨g,di⟩:=z;obtain⟨y,_,_,rfl⟩:=zM e2;exact⟨_,di,rfl,by simp[fg]⟩
      obtain⟨p,ms,h1,bI,g1,g2,g3,g4⟩:=cV x eM ag;obtain⟨v,bA,s5⟩:=fX x p g1;rw[dx]at g2;exact⟨v,bA,(OR cG aU.boxes g2 g3 (fun z bd=>y0 z (g4 z bd)) s5).Ww⟩
     have qs:∀h∈ai,BC w ω τ h (cellOf ((args.map a.eval).getD h.i undef) h.j)/\∃eM,gs[h.i]?=some eM/\eM.cell h.j=some (.hf h.k h.es h.post):=by
      intro h bB;obtain⟨x,eM,p,ms,h1,bI,g0,g1,g2,g5,g3,g4⟩:=cA h bB;obtain⟨v,bA,s5⟩:=fX x p g1;rw[dx]at g2;obtain⟨e1,e2,cc⟩:=(OR cG aU.boxes g2 g3 (fun z bd=>y0 z (g4 z bd)) s5).at_ h g5;have bh:(args.map a.eval).getD h.i undef=v:=by rw[e1,d',bA];rfl
      rw[bh];exact⟨e2,eM,by rw[e1];exact g0,cc⟩
     have fC:(execOp a.eval ⟨dst,.call ⟨.value (.func f),args,ts⟩,type,pos,after,guard⟩).run P w=.ok (.enter f (args.map a.eval)) w:=by
      unfold lj at gS;split at gS
      ·rename_i fn kn;simp only[cq,g',wh,gM]at gS;have rH:fn.body≠none:=by intro e;rw[e]at gS;simp at gS
       simp[execOp,resolve,Act.eval,Deferred.ofValue,invoke,callFunc,kn,gS.1,rH]
      cases gS
     have key:ux P f gs rs->cE fy->(∀v aN aY cJ,cw w0 (st.map (qX ai (10000*(dst.getD 0+1)) hq nC pj)) a aN aY cJ->cI (Sat aN aY cJ) (su (10000*(dst.getD 0+1)) rs) v->K (a.put dst v) aN)->
       Oper.wp P ⟨dst,.call ⟨.value (.func f),args,ts⟩,type,pos,after,guard⟩ a w K Q:=by
      intro GF Gu F0;unfold Oper.wp;rw[fC];simp only[Oper.upon];refine (GF w _ _ Xc (aU.tidy fun b aq=>by simp only[ft,aq])).mono ?_;rintro e aN ⟨v,rfl,j8,e0,c1,c2,cR,ef⟩;obtain⟨aY,cJ,h1,U⟩:=aU.We (10000*(dst.getD 0+1)) cG ev hQ XV j8 e0 c1 c2 ef (fun h=>cellOf ((args.map a.eval).getD h.i undef) h.j)
       (fun h bB cv he=>by
        obtain⟨_,eM,g1,g2⟩:=qs h bB;rw[he]at g2;exact cR h.i h.j eM h.k h.es cv g1 g2)
       (fun h bB=>(qs h bB).1) (akF aU iG Gu)
      exact F0 v aN aY cJ h1 U
     cases dst with
     | none=>
      simp only[aQ,bu]at h;obtain⟨rfl,_,rfl⟩:=h;exact key aX.1 aX.2 fun v aN aY cJ h1 _=>hN _ _ ⟨aY,cJ,h1⟩
     | some d=>
      simp only[aQ,bu]at h;obtain⟨rfl,_,rfl⟩:=h;exact key aX.1 aX.2 fun v aN aY cJ h1 U=>hN _ _ ⟨aY,cJ,h1.put U⟩
    cases h
   cases h
  cases h
 cases h
