import Derived.Test.YtdchjefneblpgaaGreatP55
import Derived.Test.YtdchjefneblpgaaGreatP61
set_option linter.unusedVariables false
set_option linter.unusedSimpArgs false
namespace Go.Proofs.YtdchjefneblpgaaGreat
open Go.Sx Go.RowKit Go.Proofs.Tryz
theorem EZ{α:Type}{f:α->Nat}{k:Nat}:∀{xs:List α},(∀x∈xs,f x<=k)->(xs.map f).sum<=xs.length*k
 | [],_=>by simp
 | a::xs,h=>by
  have h1:=h a (by simp);have U:=EZ (f:=f) (k:=k) (xs:=xs) (fun x aa=>h x (by simp[aa]));simp only[iT,oY,dn,fB,Nat.one_mul];omega
theorem yW{g:bW}{xs:List aA}:lx g xs=true<->fa g=true/\xs.length<=20/\xs.any rL=false:=by
 simp only[lx,ca,ci,fr,and_assoc]
theorem ae5{g:bW}{xs:List aA}(h:lx g xs=true):(eO g xs).sz<=g.sz+1000:=by
 obtain⟨h1,U,_⟩:=yW.1 h;have aL:=jZ h1;obtain⟨n,iE⟩:∃n:Nat,g.ap=n:=⟨g.ap.toNat,by omega⟩
 have a:=EZ (f:=aP.sz) (k:=92) (xs:=oT g xs n) (fun x aa=>by
  simp only[oT,h']at aa;obtain⟨w,_,rfl⟩:=aa;have:=Tc (g:=g) U (w:Nat);simp only[kn,aP.sz,b1,List.length_replicate];omega)
 have b:=EZ (f:=bC.sz) (k:=0) (xs:=List.replicate (n*n) (j1 g.cap)) (fun x aa=>by
  rw[List.eq_of_mem_replicate aa];simp[j1,bC.sz])
 have hm:n*n<=4*4:=Nat.mul_le_mul (by omega) (by omega);simp only[eO,aU.sz,fp,iE,jh,List.length_replicate,b1,yV]at a b ⊢;omega
theorem ae6(g:bW)(xs:List aA):iV (eO g xs):=by
 intro l af;have:=List.eq_of_mem_replicate af;subst this;simp[j1]
end Go.Proofs.YtdchjefneblpgaaGreat
namespace Go.Proofs.YtdchjefneblpgaaGreat
open Go.Sx Go.RowKit Go.Proofs.Tryz
theorem ku.size{g:bW}(h:ku g):g.sz<=100:=by
 obtain⟨⟨k,a,b,c,v,hk,ag,ah,ad,bj,aL⟩,hw,eY⟩:=h;obtain⟨nodes,ap,cap⟩:=g;simp only at aL;subst aL;have e:(⟨kl k a b c v,ap,cap⟩:bW).sz=fp Node.sz (kl k a b c v):=rfl;rw[e];have bk:v=0\/v=1\/v=2\/v=3\/v=4:=by omega
 rcases bk with rfl | rfl | rfl | rfl | rfl<;>simp[fp,kl,rC,Node.sz]
theorem Input.pS{r:aA}(h:Input r):rL r=false:=by
 obtain⟨h1,U,au,aH,ba⟩:=h;have ok:fZ r=true:=by
  simp only[fZ,k6,iO,aW,ca,ci,h1,U];omega
 simp[rL,ok,h1,U]
theorem LB{g:bW}{xs:List aA}(ao:ku g)(af:xs.length<=6)(aa:∀r∈xs,Input r):lx g xs=true:=
 yW.2 ⟨ao.ok,by omega,eW.2 fun r ar=>by simp[(aa r ar).pS]⟩
end Go.Proofs.YtdchjefneblpgaaGreat
namespace Go.Proofs.YtdchjefneblpgaaGreat
open Go.Sx Go.RowKit Go.Proofs.Tryz
def uK(op ep key:Int)(a:Cell):Bool:=decide (a.op=op/\a.a8=ep/\a.key=key)
theorem SF(op ep key:Int):∀(xs:List Cell) (s:Int×Bool),
  ((s.2=true->(xs.foldl (gJ op ep key) s).2=true/\(xs.foldl (gJ op ep key) s).1<=s.1))/\
  (∀a∈xs,uK op ep key a=true->(xs.foldl (gJ op ep key) s).2=true/\(xs.foldl (gJ op ep key) s).1<=a.val)
 | [],s=>⟨fun h=>⟨h,Int.le_refl _⟩,by simp⟩
 | x::xs,s=>by
  obtain⟨h1,U⟩:=SF op ep key xs (gJ op ep key s x);rw[List.foldl_cons];have ae:s.2=true->(gJ op ep key s x).2=true/\(gJ op ep key s x).1<=s.1:=by
   intro h;unfold gJ;split
   ·rename_i ad;obtain⟨_,_,_,ad⟩:=ad;refine⟨rfl,?_⟩;rcases ad with ad | ad
    ·rw[h]at ad;cases ad
    show x.val<=s.1;omega
   exact⟨h,Int.le_refl _⟩
  have aa:uK op ep key x=true->(gJ op ep key s x).2=true/\(gJ op ep key s x).1<=x.val:=by
   intro h;simp only[uK,ci]at h;unfold gJ;split
   ·exact⟨rfl,Int.le_refl _⟩
   rename_i ad;have au:¬(s.2=false\/x.val<s.1):=fun aH=>ad ⟨h.1,h.2.1,h.2.2,aH⟩
   have aH:s.2=true:=by
    cases e:s.2 with
    | true=>rfl
    | false=>exact absurd (.inl e) au
   exact⟨aH,by have:¬x.val<s.1:=fun ba=>au (.inr ba);omega⟩
  refine⟨fun h=>?_,fun a ag mI=>?_⟩
  ·obtain⟨au,aH⟩:=ae h;obtain⟨ba,br⟩:=h1 au;exact⟨ba,V8 br aH⟩
  rcases dG.1 ag with rfl | ag
  ·obtain⟨au,aH⟩:=aa mI;obtain⟨ba,br⟩:=h1 au;exact⟨ba,V8 br aH⟩
  exact U a ag mI
theorem ae7{xs:List Cell}{op ep key:Int}{a:Cell}(ag:a∈xs)(h:uK op ep key a=true):(rF xs op ep key).2=true/\(rF xs op ep key).1<=a.val:=
 (SF op ep key xs (0,false)).2 a ag h
def ae8(e:Int)(a:Cell):Prop:=a.a8=e/\0<=a.op/\a.op<8/\0<=a.key/\a.key<=99/\0<=a.val/\a.val<=999
def ae9(a:Cell):Nat:=a.op.toNat*100+a.key.toNat
structure aqQ (e:Int) (xs:List Cell):Prop where
 tx:∀a∈xs,ae8 e a
 apart:(xs.map ae9).Nodup
theorem SG(xs:List Cell)(x:Cell):nQ xs x=true<->x∈xs:=by
 simp only[nQ,lg,ci];constructor
 ·rintro⟨a,ag,rfl⟩;exact ag
 exact fun h=>⟨x,h,rfl⟩
theorem afa{xs:List Cell}{x:Cell}(ah:(k8 xs x).2=false):(k8 xs x).1=xs:=by
 unfold k8 at ah ⊢;split
 ·rfl
 rename_i ad;rw[aX ad]at ah;cases ah
def cellsOf(e:Int)(r:aA):Cell:=⟨0,e,r.key,r.val⟩
def rounds(n:Nat):Nat:=2400000+n
end Go.Proofs.YtdchjefneblpgaaGreat
namespace Go.Proofs.YtdchjefneblpgaaGreat
open Go.Sx Go.RowKit Go.Proofs.Tryz
variable{xs:List Cell}
theorem SH{x z:Cell}:z∈kk xs x<->z=x\/z∈xs:=by
 unfold kk;split
 ·rename_i h;have hm:=(SG xs x).1 h;exact⟨.inr,fun aR=>aR.elim (fun e=>e▸hm) id⟩
 generalize lC xs x=n;have e:z∈xs<->z∈xs.take n\/z∈xs.drop n:=by rw[<-gY,zf]
 rw[e,gY,dG];constructor
 ·rintro (h | h | h)
  ·exact .inr (.inl h)
  ·exact .inl h
  exact .inr (.inr h)
 rintro (h | h | h)
 ·exact .inr (.inl h)
 ·exact .inl h
 exact .inr (.inr h)
theorem SI(op ep key:Int):∀(xs:List Cell) (s:Int×Bool),(xs.foldl (gJ op ep key) s).2=true->
  (s.2=true/\(xs.foldl (gJ op ep key) s).1=s.1)\/∃a∈xs,uK op ep key a=true/\a.val=(xs.foldl (gJ op ep key) s).1
 | [],s,h=>.inl ⟨h,rfl⟩
 | x::xs,s,h=>by
  rw[List.foldl_cons]at h ⊢;rcases SI op ep key xs (gJ op ep key s x) h with⟨h1,U⟩ | ⟨a,ag,h1,U⟩
  ·rw[U];unfold gJ at h1 ⊢;split
   ·rename_i ad;exact .inr ⟨x,eF ..,by simp only[uK,ci];exact⟨ad.1,ad.2.1,ad.2.2.1⟩,rfl⟩
   rename_i ad;rw[aX ad]at h1;exact .inl ⟨h1,rfl⟩
  exact .inr ⟨a,fc _ ag,h1,U⟩
variable{u:Cell}
theorem wZ{a:Cell}:fT u a=true<->a.op=u.op/\a.a8=u.a8/\a.key=u.key:=by
 simp only[fT,ca,eu];constructor
 ·rintro⟨⟨h1,U⟩,au⟩;exact⟨h1.symm,U.symm,au.symm⟩
 rintro⟨h1,U,au⟩;exact⟨⟨h1.symm,U.symm⟩,au.symm⟩
def s5(k:Int)(xs:List Cell)(u:Cell):Prop:=if k=6 then u∈xs else ∃a∈xs,fT u a=true/\a.val<=u.val
theorem afb(xs:List Cell)(u:Cell):(k8 xs u).2=false<->∃a∈xs,fT u a=true/\a.val<=u.val:=by
 unfold k8;constructor
 ·intro h;split at h
  ·rename_i ad;simp only[ca,ci]at ad;rcases SI u.op u.a8 u.key xs (0,false) ad.1 with⟨h1,_⟩ | ⟨a,ag,h1,U⟩
   ·cases h1
   simp only[uK,ci]at h1;exact⟨a,ag,wZ.2 h1,by rw[U];exact ad.2⟩
  cases h
 rintro⟨a,ag,h1,U⟩;obtain⟨cC,b6⟩:=ae7 ag (op:=u.op) (ep:=u.a8) (key:=u.key) (by simp only[uK,ci];exact wZ.1 h1);rw[cC,ji (by omega)];rfl
variable{k:Int}
theorem E0(hk:k=5\/k=6\/k=8)(xs:List Cell)(u:Cell):(cR k xs u).2=false<->s5 k xs u:=by
 unfold cR s5;by_cases br:k=6
 ·rw[a6 br,a6 br,<-SG];split
  ·rename_i h;exact⟨fun _=>h,fun _=>rfl⟩
  rename_i h;exact⟨fun q=>(by cases q),fun q=>absurd q h⟩
 rw[aX br,aX br,a6 (by omega)];exact afb xs u
theorem w2(ba:k≠5)(br:k≠6)(dV:k≠8)(xs:List Cell)(u:Cell):cR k xs u=(xs,true):=by
 unfold cR;rw[aX br,aX (by omega)]
theorem aeC(h:(cR k xs u).2=false):(cR k xs u).1=xs:=by
 unfold cR at h ⊢;split
 ·rename_i br;rw[a6 br]at h;split
  ·rfl
  rename_i h1;rw[aX h1]at h;cases h
 rename_i br;rw[aX br]at h;split
 ·rename_i h1;rw[a6 h1]at h;exact afa h
 rfl
theorem E1(hk:k=5\/k=6\/k=8){z:Cell}(h:(cR k xs u).2=true):z∈(cR k xs u).1<->z=u\/(z∈xs/\(k≠6->fT u z=false)):=by
 unfold cR at h ⊢;by_cases br:k=6
 ·rw[a6 br]at h ⊢;split
  ·rename_i h1;rw[a6 h1]at h;cases h
  rw[SH];exact⟨fun q=>q.imp id fun q=>⟨q,fun n=>absurd br n⟩,fun q=>q.imp id fun q=>q.1⟩
 rw[aX br,a6 (by omega)]at h ⊢;unfold k8 at h ⊢;split
 ·rename_i h1;rw[a6 h1]at h;cases h
 rw[SH,List.mem_filter];simp only[fr];exact⟨fun q=>q.imp id fun q=>⟨q.1,fun _=>q.2⟩,fun q=>q.imp id fun q=>⟨q.1,q.2 br⟩⟩
theorem aeD{k b8:Int}(hk:k=5\/k=6\/k=8){u y:Cell}(jA:y.op=u.op->b8=k)(h:s5 k xs u):s5 k (cR b8 xs y).1 u:=by
 cases ar:(cR b8 xs y).2 with
 | false=>rw[aeC ar];exact h
 | true=>
  by_cases iY:b8=5\/b8=6\/b8=8
  case neg=>rw[w2 (by omega) (by omega) (by omega)];exact h
  unfold s5 at h ⊢;by_cases br:k=6
  ·rw[a6 br]at h ⊢;rw[E1 iY ar];refine .inr ⟨h,fun b5=>?_⟩;rw[kq];intro ae;exact b5 ((jA (wZ.1 ae).1.symm).trans br)
  rw[aX br]at h ⊢;obtain⟨a,ag,ae,bj⟩:=h;obtain⟨s1,s2,asp⟩:=wZ.1 ae;by_cases C7:b8≠6/\fT y a=true
  ·obtain⟨t1,t2,t3⟩:=wZ.1 C7.2;refine⟨y,(E1 iY ar).2 (.inl rfl),wZ.2 ⟨by omega,by omega,by omega⟩,?_⟩;have nb:¬s5 b8 xs y:=fun q=>by rw[(E0 iY xs y).2 q]at ar;cases ar
   unfold s5 at nb;rw[aX C7.1]at nb;have:¬a.val<=y.val:=fun q=>nb ⟨a,ag,C7.2,q⟩
   omega
  refine⟨a,(E1 iY ar).2 (.inr ⟨ag,fun b5=>?_⟩),ae,bj⟩;rw[kq];exact fun q=>C7 ⟨b5,q⟩
theorem aeE(hk:k=5\/k=6\/k=8)(h:(cR k xs u).2=true):s5 k (cR k xs u).1 u:=by
 have hm:=(E1 hk (z:=u) h).2 (.inl rfl);unfold s5;split
 ·exact hm
 exact⟨u,hm,wZ.2 ⟨rfl,rfl,rfl⟩,Int.le_refl _⟩
variable{x:Node}{g:bW}
theorem aeF{op:Int}(h:fY g op=some x):0<=op/\g.nodes[op.toNat]?=some x:=by
 unfold fY at h;split at h
 ·exact⟨‹_›,h⟩
 cases h
theorem SJ(ao:fa g=true){op:Int}(h:fY g op=some x):bM x=true:=by
 simp only[fa,ca,fr]at ao;have:=AT ao.2 op.toNat x (aeF h).2;rw[c']at this;simp only[l9,gz,lf]at this;exact this.1.1
variable{r:aA}
theorem BF(h:fZ r=true):iO r.key r.val=true:=by
 simp only[fZ,ca]at h;exact h.2
theorem aeG{cs:List Cell}(ao:fa g=true)(ar:fZ r=true)(aa:fY g r.op=some x):(dL g cs r).1=(cR x.kind cs (cellOf r)).1:=by
 have aL:=SJ ao aa;have hi:=BF ar;unfold dL;rw[aa];simp only[e8,ao,ar,Bool.and_self,fO];split
 ·rename_i ad;simp only[ca,fr,bne_iff_ne,ho]at ad;have au:x.kind=3:=by
   refine Classical.byContradiction fun au=>?_
   have:=ad.1;unfold dc at this;rw[aL,hi]at this;simp only[Bool.and_self,fO]at this;split at this
   ·cases this
   split at this
   ·cases this
   first
   | (rw[aX au]at this;simp[ad.2]at this)
   | simp[au,ad.2]at this
  rw[w2 (by omega) (by omega) (by omega)]
 split
 ·rfl
 ·split<;>rfl
theorem aeH{cs:List Cell}(ao:fa g=true)(ar:fZ r=true)(aa:fY g r.op=some x):(dL g cs r).2.1=
  if (!(dc x r.key r.val).2.2&&x.kind != 8)=true then [] else if (cR x.kind cs (cellOf r)).2=false then []
  else if x.kind=7 then (if (gI r.bc).2=true then fo x (gI r.bc).1 (dc x r.key r.val).1 (dc x r.key r.val).2.1 else []) else fo x r.bc (dc x r.key r.val).1 (dc x r.key r.val).2.1:=by
 unfold dL;rw[aa];simp only[e8,ao,ar,Bool.and_self,fO];split
 ·rfl
 rw[show (⟨r.op,r.bc.a8,r.key,r.val⟩:Cell)=cellOf r from rfl];cases U:(cR x.kind cs (cellOf r)).2 with
 | false=>rfl
 | true=>
  simp only[ks,mm,j4];split
  ·cases (gI r.bc).2<;>rfl
  rfl
end Go.Proofs.YtdchjefneblpgaaGreat
namespace Go.Proofs.YtdchjefneblpgaaGreat
open Go.Sx Go.RowKit Go.Proofs.Tryz
structure jk (c:aU):Prop where
 w:∀(i:Nat) x,c.ap[i]?=some x->(∀r∈x.queue,eE r.key c.aF.ap=i)/\∀r∈x.bT,eE r.key c.aF.ap=i
 l:∀(i:Nat) l,c.bQ[i]?=some l->∀r∈l.queue,eE r.key c.aF.ap=(i:Int).tmod c.aF.ap
variable{c:aU}
theorem jk.ok(h:jk c)(aL:1<=c.aF.ap):R7 c=true:=by
 unfold R7;rw[yN (p:=F7 c.aF.ap) fun i x aa=>?_,yN (p:=F6 c.aF.ap) fun i l af=>?_]
 ·rfl
 ·simp only[F6,gz,jO,eW,Bt,bne_iff_ne,ho,Decidable.not_not];exact⟨by omega,h.l i l af⟩
 simp only[F7,gz,eW,Bt,bne_iff_ne,ho,Decidable.not_not];exact h.w i x aa
theorem jk.setW{c:aU}{i:Int}{y:aP}(h:jk c)(a1:(∀r∈y.queue,eE r.key c.aF.ap=i.toNat)/\∀r∈y.bT,eE r.key c.aF.ap=i.toNat):jk (setW c i y):=
 ⟨fun j x aa=>by
  rcases uf aa with⟨rfl,rfl⟩ | ⟨_,aa⟩
  ·exact a1
  exact h.w j x aa,h.l⟩
theorem jk.c0{c:aU}{i:Int}{m:bC}(h:jk c)(hm:∀r∈m.queue,eE r.key c.aF.ap=(i.toNat:Int).tmod c.aF.ap):jk (c0 c i m):=
 ⟨h.w,fun j l af=>by
  rcases uf af with⟨rfl,rfl⟩ | ⟨_,af⟩
  ·exact hm
  exact h.l j l af⟩
variable{i:Int}{x:aP}
theorem jk.at(h:jk c)(aa:b9 c i=some x):(∀r∈x.queue,eE r.key c.aF.ap=i.toNat)/\∀r∈x.bT,eE r.key c.aF.ap=i.toNat:=h.w _ x (er aa).2.2
theorem jk.link{l:bC}(h:jk c)(af:ee c i=some l):∀r∈l.queue,eE r.key c.aF.ap=(i.toNat:Int).tmod c.aF.ap:=h.l _ l (iq af).2.2
theorem jk.cP{i:Int}{u:b'}(h:jk c):jk (cP c i u):=⟨h.w,h.l⟩
variable{g:bW}
theorem E2{a b:Int}(h:0<=dF g a b):aW a 0 (g.ap-1)=true/\aW b 0 (g.ap-1)=true:=by
 cases ad:(aW a 0 (g.ap-1)&&aW b 0 (g.ap-1)) with
 | true=>simpa using ad
 | false=>rw[yP ad]at h;omega
theorem jk.d'{e:Int}{t:b'}(h:jk c)(aa:b9 c t.place=some x):jk (d' c e t x).1:=by
 have av:=h.at aa;rcases oS c e t x with⟨_,U⟩ | ⟨_,_,⟨_,U⟩ | ⟨_,_,U⟩ | ⟨_,bm,_,U⟩ | ⟨_,_,_,U⟩⟩
 ·rw[U];exact h
 ·rw[U];exact h.cP.setW av
 ·rw[U];exact h.cP.setW av
 ·rw[U];have aR:t.place=0:=by have:=(er aa).1;omega
  rw[aR]at av;have b6:=(h.cP (i:=e) (u:=⟨false,t.place,t.sum,t.bL,t.ct⟩)).setW (i:=0) (y:=told x e (t.ct||x.bA.getD e.toNat false)) av;exact⟨b6.w,b6.l⟩
 rw[U];exact⟨h.w,h.l⟩
theorem jk.step{d:aU}{p:cE}(h:jk c)(bH:cF c=true)(st:Step c p d):jk d:=by
 have aL:=jZ (fU.1 bH).1;cases st with
 | work x r q hk aa ae av=>
  have:=h.at aa;rw[av]at this;exact h.setW ⟨fun a ag=>this.1 a (fc _ ag),this.2⟩
 | input x r t hk aa ae av hi=>
  have:=(h.at aa).2;rw[hi]at this;exact h.setW ⟨fun a ag=>this a (by simp only[List.mem_singleton]at ag;rw[ag];exact eF ..),fun a ag=>this a (fc _ ag)⟩
 | ey x r t hk aa ae aN=>
  have:=h.at aa;have hp:=(er aa).1;refine h.setW ⟨fun a ag=>?_,this.2⟩;rcases gY.1 ag with ag | ag
  ·exact this.1 a ag
  obtain rfl:a=r:=by simpa using ag
  omega
 | send x r t l hk aa ae aN af hsend=>
  obtain⟨_,_,_,e1⟩:=By hsend;obtain⟨g1,g2⟩:=E2 (iq af).1;obtain⟨_,_,_,_,tX⟩:=wS aL g1 g2;have hp:=(iq af).1;have hw:=h.at aa;refine (h.c0 (i:=dF c.aF p.a (eE r.key c.aF.ap)) (m:=(eI l r).1) fun a ag=>?_).setW (c:=Go.Proofs.YtdchjefneblpgaaGreat.c0 c _ _) hw;rw[e1]at ag;rcases gY.1 ag with ag | ag
  ·exact h.link af a ag
  obtain rfl:a=r:=by simpa using ag
  rw[Bv af,(wS aL g1 g2).1,tX]
 | take l x hk dW af aa bt=>
  obtain⟨_,r,q,av,e2,e1⟩:=wU bt;obtain⟨g1,g2⟩:=E2 (iq af).1;obtain⟨iI,_,_,_,tX⟩:=wS aL g1 g2;have iB:=h.link af;rw[av,Bv af,iI,tX]at iB;have ah:=(er aa).1;refine (h.c0 (i:=dF c.aF p.a p.b) (m:=(dJ l).1) fun a ag=>?_).setW (c:=Go.Proofs.YtdchjefneblpgaaGreat.c0 c _ _) ⟨fun a ag=>?_,(h.at aa).2⟩
  ·rw[e1]at ag;rw[Bv af,iI,tX];exact iB a (fc _ ag)
  rcases gY.1 ag with ag | ag
  ·exact (h.at aa).1 a ag
  obtain rfl:a=_:=by simpa using ag
  rw[e2];have:=iB r (eF ..);change eE r.key c.aF.ap=_;omega
 | o3 l hk dW af ad=>
  rcases wV l with⟨k,_⟩ | ⟨_,_,_,e1⟩
  ·rw[ad]at k;cases k
  refine h.c0 fun a ag=>?_
  rw[e1]at ag;exact h.link af a ag
 | token t x cJ hk ig bm ax bt aa o5=>exact h.d' aa
 | o6 k n x hk aL ax aa=>
  have av:=h.at aa;have:=h.setW (i:=p.a) (y:=dZ x n) (by
   unfold dZ;split<;>exact av)
  exact⟨this.w,this.l⟩
structure iU (S:Int) (c:aU):Prop where
 bK:∀x∈c.ap,∀k:Nat,-S<=x.bK.getD k 0/\x.bK.getD k 0<=S
 eV:∀l∈c.bQ,l.eV<=S
 uT:∀t∈c.tokens,t.going=true->t.sum+200000*t.place<=600000/\-600000<=t.sum-200000*t.place
variable{S:Int}
theorem SK{xs:List Int}{f d:Int}(ax:-1<=d/\d<=1)(h:∀k:Nat,-S<=xs.getD k 0/\xs.getD k 0<=S)(k:Nat):-(S+1)<=(kX xs f d).getD k 0/\(kX xs f d).getD k 0<=S+1:=by
 unfold kX;have h1:=h f.toNat;have U:=h k;by_cases bl:f.toNat=k
 ·subst bl;by_cases af:f.toNat<xs.length
  ·rw[Bm af];omega
  rw[List.set_eq_of_length_le (by omega)];omega
 rw[ug bl];omega
theorem iU.mono{T:Int}(h:iU S c)(fs:S<=T):iU T c:=
 ⟨fun x aa k=>by have:=h.bK x aa k;omega,fun l af=>by have:=h.eV l af;omega,h.uT⟩
theorem iU.setW{c:aU}{i:Int}{y:aP}(h:iU S c)(a1:∀k:Nat,-S<=y.bK.getD k 0/\y.bK.getD k 0<=S):iU S (setW c i y):=
 ⟨fun x aa=>by
  rcases hn aa with aa | rfl
  ·exact h.bK x aa
  exact a1,h.eV,h.uT⟩
theorem iU.c0{c:aU}{i:Int}{m:bC}(h:iU S c)(hm:m.eV<=S):iU S (c0 c i m):=
 ⟨h.bK,fun l af=>by
  rcases hn af with af | rfl
  ·exact h.eV l af
  exact hm,h.uT⟩
theorem iU.cP{i:Int}{u:b'}(h:iU S c)(hu:u.going=true->u.sum+200000*u.place<=600000/\-600000<=u.sum-200000*u.place):iU S (cP c i u):=
 ⟨h.bK,h.eV,fun t bt=>by
  rcases hn bt with bt | rfl
  ·exact h.uT t bt
  exact hu⟩
theorem iU.at(h:iU S c)(aa:b9 c i=some x):∀k:Nat,-S<=x.bK.getD k 0/\x.bK.getD k 0<=S:=h.bK x (c8 (er aa).2.2)
theorem iU.d'{e:Int}{t:b'}(h:iU S c)(fF:S<=200000)(bH:cF c=true)(bt:hg c e=some t)(aa:b9 c t.place=some x):iU S (d' c e t x).1:=by
 have hw:=TB bH;have ah:=h.at aa;have YH:=h.uT t (c8 (wR bt).2.2);rcases oS c e t x with⟨_,U⟩ | ⟨_,_,⟨_,U⟩ | ⟨ao,bm,U⟩ | ⟨_,bm,_,U⟩ | ⟨_,_,_,U⟩⟩
 ·rw[U];exact h
 ·rw[U];exact (h.cP fun _=>⟨by dsimp only;omega,by dsimp only;omega⟩).setW ah
 ·rw[U];have au:=ah e.toNat;have aH:=YH ao;exact (h.cP fun _=>⟨by dsimp only;omega,by dsimp only;omega⟩).setW ah
 ·rw[U];have:=(h.cP (i:=e) (u:=⟨false,t.place,t.sum,t.bL,t.ct⟩) (fun k=>by cases k)).setW (i:=0) (y:=told x e (t.ct||x.bA.getD e.toNat false)) ah;exact⟨this.bK,this.eV,this.uT⟩
 rw[U];exact h.cP fun k=>by cases k
theorem iU.step{d:aU}{p:cE}(h:iU S c)(fF:S<200000)(bH:cF c=true)(st:Step c p d):iU (S+1) d:=by
 have gq:=h.mono (show S<=S+1 by omega);cases st with
 | work x r q hk aa ae av=>have ah:=gq.at aa;exact gq.setW ah
 | input x r t hk aa ae av hi=>have ah:=gq.at aa;exact gq.setW ah
 | ey x r t hk aa ae aN=>have ah:=gq.at aa;exact gq.setW ah
 | send x r t l hk aa ae aN af hsend=>
  obtain⟨_,_,_,e1⟩:=By hsend;have:=h.eV l (c8 (iq af).2.2);have ah:=SK (f:=r.bc.a8) (d:=1) (by omega) (h.at aa);exact (gq.c0 (by rw[e1];dsimp only;omega)).setW ah
 | take l x hk dW af aa bt=>
  obtain⟨_,r,q,av,e2,e1⟩:=wU bt;have:=h.eV l (c8 (iq af).2.2);have ah:=SK (f:=(dJ l).2.1.bc.a8) (d:=-1) (by omega) (h.at aa);exact (gq.c0 (by rw[e1];dsimp only;omega)).setW ah
 | o3 l hk dW af ad=>
  rcases wV l with⟨k,_⟩ | ⟨_,_,_,e1⟩
  ·rw[ad]at k;cases k
  have:=h.eV l (c8 (iq af).2.2);exact gq.c0 (by rw[e1];dsimp only;omega)
 | token t x cJ hk ig bm ax bt aa o5=>exact (h.d' (by omega) bH bt aa).mono (by omega)
 | o6 k n x hk aL ax aa=>
  have ah:=gq.at aa;have:=gq.setW (i:=p.a) (y:=dZ x n) (by
   unfold dZ;split<;>exact ah)
  exact⟨this.bK,this.eV,this.uT⟩
theorem aeI(p:cE)(bH:cF c=true)(ah:iU S c)(fF:S<1000000):cF (de c p).1=true:=by
 have aL:=jZ (fU.1 bH).1;have key:∀{i:Int} {x:aP},b9 c i=some x->∀(k:Nat) (d:Int),-1<=d/\d<=1->aW (x.bK.getD k 0+d) (-1000000) 1000000=true:=fun aa k d ax=>by
  have:=ah.at aa k;simp only[aW,ci];omega
 unfold de;split
 ·exact Tl bH
 split
 ·exact Tm bH
 split
 ·unfold lF;rw[a6 bH];cases aa:b9 c p.a with
  | none=>exact bH
  | some x=>
   dsimp only;cases ae:x.ck with
   | nil=>exact bH
   | cons r t=>
    dsimp only;unfold qC;split
    ·exact Tj bH aa ae
    rename_i aN;cases af:ee c (dF c.aF p.a (eE r.key c.aF.ap)) with
    | none=>exact bH
    | some l=>
     dsimp only;split
     ·rename_i h;exact (Ti bH aa ae (D2 _ aL.1) aN af h).trans (key aa _ 1 (by omega))
     exact bH
 split
 ·unfold lG;split
  ·cases af:ee c (dF c.aF p.a p.b) with
   | none=>exact bH
   | some l=>
    cases aa:b9 c p.b with
    | none=>exact bH
    | some x=>
     dsimp only;split
     ·rename_i h;exact (Tk bH af aa h).trans (key aa _ (-1) (by omega))
     exact bH
  exact bH
 split
 ·exact Tn bH
 split
 ·exact Tp bH
 split
 ·exact Tq bH
 exact bH
structure j5 (S:Int) (c:aU):Prop where
 ok:cF c=true
 owns:jk c
 tx:iU S c
 inv:∀e:Int,0<=e/\e<=3->Inv e c
theorem j5.mono{T:Int}(h:j5 S c)(fs:S<=T):j5 T c:=⟨h.ok,h.owns,h.tx.mono fs,h.inv⟩
theorem j5.step(h:j5 S c)(fF:S<200000)(p:cE):j5 (S+1) (de c p).1:=by
 have bH:=aeI p h.ok h.tx (by omega);rcases wW c p with⟨_,U⟩ | ⟨_,_,st⟩
 ·rw[U];exact h.mono (by omega)
 exact⟨bH,h.owns.step h.ok st,h.tx.step fF h.ok st,fun e he=>(h.inv e he).step he h.ok st⟩
theorem j5.run{c:aU}:∀(l:List cE) {S:Int} {c:aU},j5 S c->S+l.length<=200000->j5 (S+l.length) (cZ c l).1
 | [],S,c,h,_=>by simpa[cZ]using h
 | p::l,S,c,h,fF=>by
  simp only[dn]at fF ⊢;have:=j5.run (c:=c) l (h.step (by omega) p) (by omega);simp only[cZ];rw[show S+((l.length+1:Nat):Int)=S+1+l.length by omega];exact this
theorem E3{xs:List aA}{w:Int}{r:aA}(h:r∈own g xs w):r∈xs/\eE r.key g.ap=w:=by
 simp only[own,oC,jN,x0,List.mem_filter,ca,eu]at h;obtain⟨_,_,h1,_,U⟩:=h;exact⟨h1,U⟩
theorem E4{xs:List aA}{n i:Nat}(h:(oT g xs n)[i]?=some x):x=kn (own g xs (i:Nat))/\i<n:=by
 have hi:=bh h;rw[yV]at hi;unfold oT at h;rw[c9,List.getElem?_range hi]at h;exact⟨(ei h).symm,hi⟩
end Go.Proofs.YtdchjefneblpgaaGreat
namespace Go.Proofs.YtdchjefneblpgaaGreat
open Go.Sx Go.RowKit Go.Proofs.Tryz
theorem SL(g:bW)(xs:List aA)(w:Int):∀n:Nat,(oC g xs w n).Pairwise (fun a b=>a.bc.a8<=b.bc.a8)/\∀r∈oC g xs w n,r.bc.a8<n
 | 0=>⟨List.Pairwise.nil,fun r ar=>by simp[oC]at ar⟩
 | n+1=>by
  obtain⟨h1,U⟩:=SL g xs w n;have au:∀r∈x0 g xs w (n:Nat),r.bc.a8=(n:Nat):=fun r ar=>by
   simp only[x0,List.mem_filter,ca,eu]at ar;exact ar.2.1
  rw[Ta];refine⟨List.pairwise_append.2 ⟨h1,?_,fun a ag b ah=>?_⟩,fun r ar=>?_⟩
  ·exact List.pairwise_of_forall_mem_list fun a ag b ah=>by rw[au a ag,au b ah];exact Int.le_refl _
  ·have:=U a ag;have:=au b ah;omega
  rcases gY.1 ar with ar | ar
  ·have:=U r ar;omega
  have:=au r ar;omega
theorem SM{α:Type}{R:α->α->Prop}:∀{xs:List α},xs.Pairwise R->∀{j:Nat} {a b:α},xs[j]?=some a->xs[j+1]?=some b->R a b
 | [],_,_,_,_,h,_=>by simp at h
 | x::xs,hp,0,a,b,h1,U=>by
  obtain rfl:x=a:=by simpa using h1
  exact (List.pairwise_cons.1 hp).1 b (c8 (i:=0) (by simpa using U))
 | x::xs,hp,j+1,a,b,h1,U=>SM (List.pairwise_cons.1 hp).2 (j:=j) (by simpa using h1) (by simpa using U)
variable{g:bW}{xs:List aA}
theorem aeJ(h:lx g xs=true)(w:Int):fz g (kn (own g xs w))=true:=by
 obtain⟨h1,_,au⟩:=yW.1 h;have af:1<=(g.nodes.length:Int):=by
  simp only[fa,ca,aW,ci]at h1;omega
 have M1:∀r∈own g xs w,fZ r=true/\r.op=0/\r.bc.cD=0:=fun r ar=>by
  rw[eW]at au;have:=au r (E3 ar).1;simp only[rL,lL,fr,bne_iff_ne,ho,not_or,Bool.not_eq_false,Decidable.not_not]at this;exact⟨this.1.1,this.1.2,this.2⟩
 refine h6.2 ⟨rfl,rfl,?_,rfl,rfl,rfl,rfl,?_,rfl,rfl⟩
 ·simp only[hU,fr,eW,kn];intro r ar;obtain⟨cC,b6,_⟩:=M1 r ar;simp only[km,cC,b6,ks,ml,ci];omega
 refine yN fun i a ag=>?_
 change (own g xs w)[i]?=some a at ag;obtain⟨_,b6,eH⟩:=M1 a (c8 ag);cases i with
 | zero=>unfold nF;rw[b6,eH];rfl
 | succ j=>
  unfold nF;rw[b6,eH];change (match (own g xs w)[j]? with | some q=>decide (q.bc.a8>a.bc.a8) | none=>false)=false;cases av:(own g xs w)[j]? with
  | none=>rfl
  | some q=>
   have:=SM (SL g xs w 4).1 av ag;simp only[jO];omega
theorem aeK(h:lx g xs=true):cF (eO g xs)=true:=by
 obtain⟨h1,_,_⟩:=yW.1 h;have aL:=jZ h1;have ad:1<=g.cap/\g.cap<=4:=by
  simp only[fa,ca,aW,ci]at h1;omega
 have eY:hf g.cap 1 4=g.cap:=by unfold hf;rw[aX (by omega),aX (by omega),aX (by omega)]
 refine fU.2 ⟨h1,?_,?_,rfl,?_,?_,?_,rfl⟩
 ·simp only[eO,yV];omega
 ·simp only[eO,List.length_replicate,Int.natCast_mul];rw[Int.toNat_of_nonneg (by omega)]
 ·rw[eW];intro x aa;obtain⟨i,hi⟩:=List.getElem?_of_mem aa;obtain⟨rfl,_⟩:=E4 hi;rw[show (eO g xs).aF=g from rfl,aeJ h];decide
 ·refine yN fun i l af=>?_
  have:=List.eq_of_mem_replicate (c8 af);subst this;refine px.2 ⟨oR.2 ⟨?_,?_,?_,?_,rfl,?_,rfl,rfl⟩,?_,rfl,fun _=>rfl⟩
  ·simp only[j1,eY,aW,ci];omega
  ·simp only[j1,eY,aW,ci];omega
  ·simp only[j1,eY,aW,ci];omega
  ·simp only[j1,b1];omega
  ·simp only[j1];omega
  simp only[j1,eY];rfl
 rw[eW];intro t bt;have:=List.eq_of_mem_replicate bt;subst this;rw[show nT (eO g xs).aF.ap BS=false from rJ.2 ⟨⟨by decide,by change (0:Int)<=g.ap-1;omega⟩,fun _=>rfl,by decide⟩];decide
theorem SN{α:Type}{f:α->Int}:∀{xs:List α},(∀x∈xs,f x=0)->(xs.map f).sum=0
 | [],_=>rfl
 | a::xs,h=>by
  rw[iT,oY,h a (eF ..),SN fun x aa=>h x (fc _ aa)];rfl
theorem j5.new(h:lx g xs=true):j5 0 (eO g xs):=by
 have hw:∀x∈(eO g xs).ap,∃w:Nat,x=kn (own g xs w):=fun x aa=>by
  obtain⟨i,hi⟩:=List.getElem?_of_mem aa;exact⟨i,(E4 hi).1⟩
 have iB:∀l∈(eO g xs).bQ,l=j1 g.cap:=fun l af=>List.eq_of_mem_replicate af
 have zero:∀(k:Nat),(List.replicate 4 (0:Int)).getD k 0=0:=fun k=>by
  rw[iw,zd];split<;>rfl
 refine⟨aeK h,⟨fun i x aa=>?_,fun i l af=>?_⟩,⟨fun x aa k=>?_,fun l af=>?_,fun t bt ao=>?_⟩,fun e he=>⟨?_,fun t bt ao=>?_,fun fs=>?_⟩⟩
 ·obtain⟨rfl,_⟩:=E4 aa;exact⟨fun r ar=>by simp[kn]at ar,fun r ar=>(E3 ar).2⟩
 ·rw[iB l (c8 af)];intro r ar;simp[j1]at ar
 ·obtain⟨w,rfl⟩:=hw x aa;have:=zero k;simp only[kn];omega
 ·rw[iB l af];exact Int.le_refl _
 ·rw[List.eq_of_mem_replicate bt]at ao;cases ao
 ·have h1:gG e (eO g xs) (eO g xs).ap.length=0:=by
   refine SN fun x aa=>?_
   obtain⟨w,rfl⟩:=hw x (uY aa);exact zero _
  have U:iG e (eO g xs)=0:=by
   unfold iG cW;have:=EZ (f:=nS e) (k:=0) (xs:=(eO g xs).bQ) (fun l af=>by rw[iB l af];simp[nS,mU,j1]);omega
  rw[h1,U];rfl
 ·obtain⟨_,_,U⟩:=wR bt;rw[List.eq_of_mem_replicate (c8 U)]at ao;cases ao
 exfalso;have h1:m' (eO g xs) e=false:=by
  unfold m';rw[eW];intro x aa;obtain⟨w,rfl⟩:=hw x aa;simp[eD,kn]
 rw[h1]at fs;simp[mi,eO]at fs
theorem j5.drawn(h:lx g xs=true)(l:List cE)(af:l.length<=200000):j5 l.length (cZ (eO g xs) l).1:=by
 have:=(j5.new h).run (c:=eO g xs) l (by omega);rwa[Int.zero_add]at this
end Go.Proofs.YtdchjefneblpgaaGreat
namespace Go.Proofs.YtdchjefneblpgaaGreat
open Go.Sx Go.RowKit Go.Proofs.Tryz
theorem Ue(xs:List aA)(af:xs.length<=8388608):aK 37 [.one (.J 5 (xs.map aA.e)),.one (.J 5 (xs.map aA.e))] [.one (B true)]:=by
 have l:=ef (P:=prog) (c:=(az f37 0)) (cL 0) xs.length (fun i:Nat=>A6 (xs.map aA.e) (xs.map aA.e) i) (fun i hi=>by
  obtain⟨a,ag⟩:=dv hi;exact aoH ⟨cg hi,bG,bJ hi,bF aA.e ag,bG,bJ hi,bF aA.e ag,by simp,cY hi af,aj⟩) (aoI ⟨dH,aj⟩)
 exact aoJ ⟨by simp,l,aj⟩
theorem Uf{xs:List Cell}(af:xs.length<=8388608):aK 19 [.one (.J 4 (xs.map Cell.e)),.one (.J 4 (xs.map Cell.e))] [.one (B true)]:=by
 have l:=ef (P:=prog) (c:=(az f19 0)) (cL 0) xs.length (fun i:Nat=>Aw (xs.map Cell.e) (xs.map Cell.e) i) (fun i hi=>by
  obtain⟨a,ag⟩:=dv hi;exact aoK ⟨cg hi,bG,bJ hi,bF Cell.e ag,bG,bJ hi,bF Cell.e ag,by simp,cY hi af,aj⟩) (aoL ⟨dH,aj⟩)
 exact aoM ⟨by simp,l,aj⟩
end Go.Proofs.YtdchjefneblpgaaGreat
namespace Go.Proofs.YtdchjefneblpgaaGreat
open Go.Sx Go.RowKit Go.Proofs.Tryz
def mg(c:aU)(b:Bool):List D:=[.J 4 (c.aF.nodes.map Node.e),I c.aF.ap,I c.aF.cap,.J 8 (c.ap.map aP.e),.J 6 (c.bQ.map bC.e),.J 5 (c.tokens.map b'.e),.J 3 (c.news.map cA.e),B b]
abbrev fA(c:aU):List D:=mg c (cF c)
theorem LC(c:aU)(ad:c.sz<=8388608)(hw:iV c):bU prog 127 [.ro (.agg c.e)] (.new (fA c)):=
 ad0 ⟨afn c ad,acG c ad hw,aj⟩
variable{i:Nat}
theorem Ug{α:Type}{f:α->List D}{xs:List α}{a:α}:(xs.map f).set i (f a)=(xs.set i a).map f:=List.map_set.symm
variable{c:aU}{x:aP}
theorem rM{i:Int}(h:b9 c i=some x):0<=i/\i<(↑(c.ap.map aP.e).length:Int)/\(c.ap.map aP.e)[i.toNat]?=some x.e:=by
 obtain⟨h1,U,au⟩:=er h;exact⟨h1,by rw[bp];omega,eP aP.e au⟩
theorem uL{i:Int}(h:b9 c i=some x)(ad:c.sz<=8388608):x.sz<=8388608:=aU.Vh ad (c8 (er h).2.2)
theorem aeL{l:List cA}(hi:i<l.length):([]++((l.map cA.e).drop 0).take (((some (i:Int)).getD (↑(l.map cA.e).length:Int)).toNat-0)++((l.map cA.e).drop ((some ((i:Int)+1)).getD 0).toNat).take ((l.map cA.e).length-((some ((i:Int)+1)).getD 0).toNat))=(cutAt l i).map cA.e:=by
 have e1:((i:Int)+1).toNat=i+1:=by omega
 simp only[cutAt,hl,jh,Nat.sub_zero,oX,List.nil_append,e1,e3,lO,List.map_drop]
 congr 1
 rw[tp (by simp)]
theorem Uh{l:List cA}:((l.map cA.e).drop ((some ((i:Int)+1)).getD 0).toNat).take ((l.map cA.e).length-((some ((i:Int)+1)).getD 0).toNat)=(l.drop (i+1)).map cA.e:=by
 have e1:((i:Int)+1).toNat=i+1:=by omega
 simp only[hl,e1,List.map_drop];rw[tp (by simp)]
theorem Ui(h:cF c=true){n:cA}(aL:c.news[i]?=some n){w:Int}(hw:(n.dest==w)=true):∃x,b9 c w=some x:=by
 have ah:=JW h aL;simp only[nU,aW,gz,lf,ci]at ah;have U:=(fU.1 h).2.1;have e:=eq_of_beq hw;exact py (by omega) (by omega)
theorem E5{α:Type}{f:α->List D}(h:∀a,∀d∈f a,∃x,d=.v x){l:List (List D)}{xs:List α}(af:l=xs.map f):Flat l:=af▸cn f h xs
theorem agc{w:Int}{n:cA}(h1:c.news.findIdx? (fun n=>n.dest==w)=some i)(bH:cF c=true)(aL:c.news[i]?=some n)(aa:b9 c w=some x):lH c w=(gd (setW c w (dZ x n)) (cutAt c.news i),true):=by
 unfold lH;simp only[h1,bH,fO,aL,aa]
theorem agd(c:aU)(w:Int)(ad:c.sz<=8388608):bU prog 247 [.ref (fA c) (fA (lH c w).1),.ro (.one (I w))] (.vals [.one (B (lH c w).2)]):=by
 have af:=Kn ad;have C4:=fun h=>Tq (c:=c) (w:=w) h
 cases bH:cF c with
 | false=>
  have e:lH c w=(c,false):=by
   unfold lH;split<;>simp[bH]
  rw[e];simp only[fA,bH];cases aL:c.news with
  | nil=>
   have l:dd prog (az f247 0) (qk w 0 (c.aF.nodes.map Node.e) c.aF.ap c.aF.cap (c.ap.map aP.e) (c.bQ.map bC.e) (c.tokens.map b'.e) (c.news.map cA.e) false) (.exit 0) _:=.last (cL 0) (SY ⟨by simp[aL],aj⟩);exact J4 ⟨l,aj⟩
  | cons a l=>
   have l:dd prog (az f247 0) (qk w 0 (c.aF.nodes.map Node.e) c.aF.ap c.aF.cap (c.ap.map aP.e) (c.bQ.map bC.e) (c.tokens.map b'.e) (c.news.map cA.e) false) (.exit 0) _:=.last (cL 0) (ad4 ⟨dU (by simp[aL]<;>omega),rfl,aj⟩);exact J4 ⟨l,aj⟩
 | true=>
  have C4:=C4 bH;have l:=jb (P:=prog) (c:=(az f247 0)) c.news (fun n=>n.dest==w) (fun i=>qk w i (c.aF.nodes.map Node.e) c.aF.ap c.aF.cap (c.ap.map aP.e) (c.bQ.map bC.e) (c.tokens.map b'.e) (c.news.map cA.e) true)
   (X:=fun i n=>match b9 c w with
    | some x=>D7 true (c.aF.nodes.map Node.e) c.aF.ap c.aF.cap ((setW c w (dZ x n)).ap.map aP.e) (c.bQ.map bC.e) (c.tokens.map b'.e) ((cutAt c.news i).map cA.e) true
    | none=>⟨[],[]⟩) hd (cL 0)
   (fun i a ag h=>ad1 ⟨cg (bh ag),rfl,bG,bJ (bh ag),bF cA.e ag,by simp only[bne,h];rfl,cY (bh ag) af,aj⟩)
   (fun i a ag h=>by
    obtain⟨x,aa⟩:=Ui bH ag h;have hi:=bh ag;obtain⟨w0,w1,lb⟩:=rM aa;have ae:=uL aa ad;simp only[aa];rw[<-aeL hi];cases ax:eD x a.a8 with
    | true=>
     rw[show dZ x a=x by unfold dZ;rw[ax];rfl,uG aa];exact ad3 ⟨cg hi,rfl,bG,bJ hi,bF cA.e ag,by simp only[bne,h];rfl,by simp,by simp,by simp;omega,by simp;omega,by simp;omega,E5 (xs:=c.news.take i) cA.flat (by simp),cY hi af,by simp;omega,by simp;omega,by simp,by simp;omega,by simp;omega,E5 (xs:=c.news.drop (i+1)) cA.flat Uh,w0,w1,lb,KB x a.a8 true ax ae,rfl,aj⟩
    | false=>
     have su:x.cu.length<=8388608:=by simp only[aP.sz]at ae;omega
     have e2:(setW c w (dZ x a)).ap.map aP.e=(c.ap.map aP.e).set w.toNat (told x a.a8 a.ct).e:=by
      rw[show dZ x a=told x a.a8 a.ct by unfold dZ;rw[ax];rfl];exact Ug.symm
     rw[e2];have b2:(told x a.a8 a.ct).e=[.J 5 (x.queue.map aA.e),.J 5 (x.ck.map aA.e),.J 5 (x.bT.map aA.e),.J 4 (x.cells.map Cell.e),.J 1 (x.bK.map cv),.J 1 (x.bL.map c6),.J 1 (x.bA.map c6),.J 2 (x.cu.map dA.e++[[I a.a8,B a.ct]])]:=by
      simp only[told,aP.e,e3];rfl
     rw[b2];exact ad2 ⟨cg hi,rfl,bG,bJ hi,bF cA.e ag,by simp only[bne,h];rfl,by simp,by simp,by simp;omega,by simp;omega,by simp;omega,E5 (xs:=c.news.take i) cA.flat (by simp),cY hi af,by simp;omega,by simp;omega,by simp,by simp;omega,by simp;omega,E5 (xs:=c.news.drop (i+1)) cA.flat Uh,w0,w1,lb,KB x a.a8 false ax ae,rfl,w0,w1,lb,by simp;omega,by simp;omega,lb,rfl,dk (dA.flat ⟨a.a8,a.ct⟩),rfl,rfl,rfl,rfl,rfl,rfl,rfl,rfl,rfl,rfl,rfl,w0,w1,lb,rfl,aj⟩)
   (SY ⟨dH,aj⟩)
  rcases l with⟨_,h1,_,U⟩ | ⟨i,a,ag,hp,_,h1,_,U⟩
  ·have e:lH c w=(c,false):=by unfold lH;simp only[h1]
   rw[e];simp only[fA,bH];exact J4 ⟨U,aj⟩
  obtain⟨x,aa⟩:=Ui bH ag hp;rw[agc h1 bH ag aa]at C4 ⊢;simp only[aa]at U;simp only[fA,bH,C4];exact ad5 ⟨U,aj⟩
end Go.Proofs.YtdchjefneblpgaaGreat
namespace Go.Proofs.YtdchjefneblpgaaGreat
open Go.Sx Go.RowKit Go.Proofs.Tryz
theorem Wl(a b:Nat):(((a:Int)+(b:Int))==0)=(a+b==0):=by
 rw[Bool.eq_iff_iff];simp only[eu];omega
theorem age(w:aP)(e:Int)(hw:w.sz<=8388608):aK 342 [.agg w.e,.one (I e)] [.one (B (Bu w e))]:=by
 have af:w.bT.length<=8388608:=by simp only[aP.sz]at hw;omega
 have l:=jb (P:=prog) (c:=(az f342 0)) w.bT (fun r=>decide (r.bc.a8<=e)) (fun i=>wX (w.queue.map aA.e) (w.ck.map aA.e) (w.bT.map aA.e) (w.cells.map Cell.e) (w.bK.map cv) (w.bL.map c6) (w.bA.map c6) (w.cu.map dA.e) e i) (X:=fun _ _=>Lt true) hd (cL 0)
  (fun i a ag h=>afg ⟨cg (bh ag),bG,bJ (bh ag),bF aA.e ag,h,cY (bh ag) af,aj⟩)
  (fun i a ag h=>aff ⟨cg (bh ag),bG,bJ (bh ag),bF aA.e ag,h,aj⟩)
  (afh ⟨dH,aj⟩)
 unfold Bu;rcases l with⟨_,_,h1,U⟩ | ⟨i,a,_,_,_,_,h1,U⟩
 ·rw[h1];exact afj ⟨U,aj⟩
 rw[h1];exact afi ⟨U,aj⟩
theorem agf(w:aP)(e:Int)(hw:w.sz<=8388608):aK 343 [.agg w.e,.one (I e)] [.one (I ((↑((mU e w.queue).map aA.e).length:Int)+(↑((mU e w.ck).map aA.e).length:Int)))]:=by
 simp only[aP.sz]at hw;have cC:(mU e w.queue).length<=w.queue.length:=qL _ _;have b6:(mU e w.ck).length<=w.ck.length:=qL _ _;exact afm ⟨Kv w.queue e (by omega),Kv w.ck e (by omega),⟨by simp only[bp];omega,by simp only[bp];omega⟩,aj⟩
theorem agh(w:aP)(e:Int)(hw:w.sz<=8388608):aK 316 [.agg w.e,.one (I e)] [.one (B (k' w e))]:=by
 have o:=age w e hw;unfold k';cases h:Bu w e with
 | true=>rw[h]at o;exact afl ⟨o,rfl,aj⟩
 | false=>
  rw[h]at o;have a:=agf w e hw;rw[bp,bp]at a;have b:=afk ⟨o,rfl,a,aj⟩;rw[Wl]at b;exact b
theorem Uj(w:aP)(e:Int)(r:Bool)(h:k' w e=r)(hw:w.sz<=8388608):aK 316 [.agg w.e,.one (I e)] [.one (B r)]:=h▸agh w e hw
end Go.Proofs.YtdchjefneblpgaaGreat
namespace Go.Proofs.YtdchjefneblpgaaGreat
open Go.Sx Go.RowKit Go.Proofs.Tryz
variable{c:aU}
theorem agi{i:Int}{t:b'}(h:hg c i=some t):0<=i/\i<(↑(c.tokens.map b'.e).length:Int)/\(c.tokens.map b'.e)[i.toNat]?=some t.e:=by
 obtain⟨h1,U,au⟩:=wR h;exact⟨h1,by rw[bp];omega,eP b'.e au⟩
variable{e:Int}
theorem HF{xs:List Int}(aH:xs.length=4)(he:0<=e/\e<=3):e<(↑(xs.map cv).length:Int)/\(xs.map cv)[e.toNat]?=some [I (xs.getD e.toNat 0)]:=by
 have af:e.toNat<xs.length:=by omega
 refine⟨by rw[bp];omega,?_⟩;rw[c9,fC af,iw,fC af];rfl
theorem xq{xs:List Bool}(aH:xs.length=4)(he:0<=e/\e<=3):e<(↑(xs.map c6).length:Int)/\(xs.map c6)[e.toNat]?=some [B (xs.getD e.toNat false)]:=by
 have af:e.toNat<xs.length:=by omega
 refine⟨by rw[bp];omega,?_⟩;rw[c9,fC af,iw,fC af];rfl
theorem sj{l:List (List D)}{i:Int}{a:List D}(bm:0<=i)(h:i<(↑l.length:Int)):(l.set i.toNat a)[i.toNat]?=some a:=List.getElem?_set_self (by omega)
theorem Uk(x:aP)(e:Int):(eg x e).e=[.J 5 (x.queue.map aA.e),.J 5 (x.ck.map aA.e),.J 5 (x.bT.map aA.e),.J 4 (x.cells.map Cell.e),.J 1 (x.bK.map cv),.J 1 ((x.bL.map c6).set e.toNat [B false]),.J 1 (x.bA.map c6),.J 2 (x.cu.map dA.e)]:=by
 simp only[eg,aP.e,jj];rfl
theorem agj(x:aP)(e:Int)(b:Bool):(told x e b).e=[.J 5 (x.queue.map aA.e),.J 5 (x.ck.map aA.e),.J 5 (x.bT.map aA.e),.J 4 (x.cells.map Cell.e),.J 1 (x.bK.map cv),.J 1 (x.bL.map c6),.J 1 (x.bA.map c6),.J 2 (x.cu.map dA.e++[[I e,B b]])]:=by
 simp only[told,aP.e,e3];rfl
theorem Ul(c:aU)(e p:Int)(t:b')(y:aP)(b:Bool):mg (setW (cP c e t) p y) b=[.J 4 (c.aF.nodes.map Node.e),I c.aF.ap,I c.aF.cap,.J 8 ((c.ap.map aP.e).set p.toNat y.e),.J 6 (c.bQ.map bC.e),.J 5 ((c.tokens.map b'.e).set e.toNat t.e),.J 3 (c.news.map cA.e),B b]:=by
 simp only[setW,cP,mg,jj]
theorem agk(c:aU)(e:Int)(t:b')(b:Bool):mg (cP c e t) b=[.J 4 (c.aF.nodes.map Node.e),I c.aF.ap,I c.aF.cap,.J 8 (c.ap.map aP.e),.J 6 (c.bQ.map bC.e),.J 5 ((c.tokens.map b'.e).set e.toNat t.e),.J 3 (c.news.map cA.e),B b]:=by
 simp only[cP,mg,jj]
theorem agl(n:Nat)(e:Int)(b:Bool):hy (n+1) e b=hy n e b++[⟨(n:Int)+1,e,b⟩]:=by simp[hy,List.range_succ]
theorem agm(n:Nat)(e:Int)(b:Bool):(hy n e b).length=n:=by simp[hy]
theorem agn{cJ x:aP}{t:b'}(ok:cF c=true)(he:aW e 0 3=true)(bm:b9 c 0=some cJ)(bt:hg c e=some t)(ax:eD cJ e=false)(aa:b9 c t.place=some x):kK c e=d' c e t x:=by
 unfold kK;simp only[ok,he,Bool.and_self,fO,bm,bt,ax,mm,j4,aa]
theorem ago(ok:cF c=true)(he:aW e 0 3=true):∃cJ t x,b9 c 0=some cJ/\hg c e=some t/\b9 c t.place=some x/\0<c.ap.length/\c.ap.length<=4/\
  (0<=t.place/\t.place<=3)/\(t.going=false->t.place=0)/\(-1000000<=t.sum/\t.sum<=1000000)/\x.bK.length=4/\x.bL.length=4/\x.bA.length=4/\(-1000000<=x.bK.getD e.toNat 0/\x.bK.getD e.toNat 0<=1000000):=by
 obtain⟨h1,U,au,aH,ba,br,b7,dV⟩:=fU.1 ok;have aL:=jZ h1;obtain⟨cJ,bm⟩:=py (c:=c) (i:=0) (by omega) (by omega);obtain⟨t,bt⟩:=Tf ok he;obtain⟨t1,t2,t3⟩:=rJ.1 (yO ok bt);obtain⟨x,aa⟩:=py (c:=c) (i:=t.place) (by omega) (by omega);obtain⟨_,_,_,_,kG,ov,kf,_,sL,_⟩:=h6.1 (jH ok aa);refine⟨cJ,t,x,bm,bt,aa,by omega,by omega,by omega,t2,t3,kG,ov,kf,?_⟩;simp only[aW,ci]at he;have af:e.toNat<x.bK.length:=by omega
 rw[eW]at sL;have:=sL _ (rZ af);rw[iw,fC af,hl];simpa only[qA,fr,lf,aW,ci,tq,Bool.not_not,Bool.not_eq_eq_eq_not,ks,jO,Classical.not_not]using this
theorem Um(c:aU)(e:Int)(x:aP)(r:Bool)(bm:b9 c 0=some x)(ax:eD x e=r)(ad:c.sz<=8388608):aK 315 [.agg c.e,.one (I e)] [.one (B r)]:=by
 obtain⟨w0,w1,lb⟩:=rM bm;exact afe ⟨dU (by omega),w0,w1,lb,KB x e r ax (uL bm ad),aj⟩
theorem agp(c:aU)(b:Bool)(x:aP)(e:Int)(cap:Bool)(bm:b9 c 0=some x)(aH:c.ap.length<=4)(ad:c.sz<=8388608):
  bU prog 317 [.ref (mg c b) (mg (gd (setW c 0 (told x e cap)) (c.news++hy (c.ap.length-1) e cap)) b),.ro (.one (I e)),.ro (.one (B cap))] (.vals []):=by
 obtain⟨w0,w1,lb⟩:=rM bm;have aL:=Kn ad;have ae:=uL bm ad;have su:x.cu.length<=8388608:=by simp only[aP.sz]at ae;omega
 have hlen:=(er bm).2.1;have tH:((setW c 0 (told x e cap)).ap.map aP.e).length=c.ap.length:=by simp[setW]
 have l:=ef (P:=prog) (c:=(az f317 0)) (cL 0) (c.ap.length-1) (fun i:Nat=>BC e cap ((i:Int)+1) (c.aF.nodes.map Node.e) c.aF.ap c.aF.cap ((setW c 0 (told x e cap)).ap.map aP.e) (c.bQ.map bC.e) (c.tokens.map b'.e) ((c.news++hy i e cap).map cA.e) b) (fun i hi=>by
  have hm:=agm i e cap;rw[agl,<-mo,e3 (l₂:=[_])];exact ad6 ⟨dU (by rw[tH];omega),by simp;omega,by simp;omega,dk (cA.flat ⟨(i:Int)+1,e,cap⟩),⟨by omega,by omega⟩,aj⟩) (ad7 ⟨eX (by rw[tH];omega),aj⟩)
 have e2:(setW c 0 (told x e cap)).ap.map aP.e=(c.ap.map aP.e).set 0 [.J 5 (x.queue.map aA.e),.J 5 (x.ck.map aA.e),.J 5 (x.bT.map aA.e),.J 4 (x.cells.map Cell.e),.J 1 (x.bK.map cv),.J 1 (x.bL.map c6),.J 1 (x.bA.map c6),.J 2 (x.cu.map dA.e++[[I e,B cap]])]:=by
  rw[<-agj];exact Ug.symm
 have bE:hy 0 e cap=[]:=rfl;rw[e2,bE,ix]at l;have gD:mg (gd (setW c 0 (told x e cap)) (c.news++hy (c.ap.length-1) e cap)) b=[.J 4 (c.aF.nodes.map Node.e),I c.aF.ap,I c.aF.cap,.J 8 ((setW c 0 (told x e cap)).ap.map aP.e),.J 6 (c.bQ.map bC.e),.J 5 (c.tokens.map b'.e),.J 3 ((c.news++hy (c.ap.length-1) e cap).map cA.e),B b]:=rfl;rw[gD,e2];exact ad8 ⟨by omega,w1,lb,by simp;omega,by simp;omega,lb,rfl,dk (dA.flat ⟨e,cap⟩),rfl,rfl,rfl,rfl,rfl,rfl,rfl,by omega,w1,lb,rfl,l,aj⟩
theorem agq(c:aU)(e:Int)(ad:c.sz<=8388608):bU prog 246 [.ref (fA c) (fA (kK c e).1),.ro (.one (I e))] (.vals [.one (B (kK c e).2)]):=by
 have post:=fun h=>Tp (c:=c) (e:=e) h
 cases ok:cF c with
 | false=>
  rw[show kK c e=(c,false) by unfold kK;simp[ok]];simp only[fA,ok];exact ad9 ⟨rfl,aj⟩
 | true=>
 replace post:=post ok;cases he:aW e 0 3 with
 | false=>
  rw[show kK c e=(c,false) by unfold kK;simp[he]];simp only[fA,ok];exact aea ⟨rfl,fL _ he,rfl,aj⟩
 | true=>
 have he:=he;obtain⟨cJ,t,x,bm,bt,aa,C0,zM,sA,XE,arZ,sD,vr,xC,ra⟩:=ago ok he;have vy:0<=e/\e<=3:=by simpa only[aW,ci]using he
 obtain⟨eJ,jL,jM⟩:=agi bt;obtain⟨dR,dM,eh⟩:=rM aa;obtain⟨asF,asG,asH⟩:=rM bm;obtain⟨qF,qG⟩:=HF sD vy;obtain⟨qb,ox⟩:=xq vr vy;obtain⟨CA,CB⟩:=xq xC vy;have di:=uL aa ad;have su:x.cu.length<=8388608:=by simp only[aP.sz]at di;omega
 have G6:(↑(c.ap.map aP.e).length:Int)=(c.ap.length:Int):=by rw[bp]
 cases ax:eD cJ e with
 | true=>
  rw[show kK c e=(c,false) by unfold kK;simp only[ok,he,Bool.and_self,fO,bm,bt,ax]];simp only[fA,ok];exact aeb ⟨rfl,fL _ he,rfl,Um c e cJ true bm ax ad,rfl,aj⟩
 | false=>
 rw[agn ok he bm bt ax aa]at post ⊢;have rd:=Um c e cJ false bm ax ad;have pJ:=fL _ he;cases hp:k' x e with
 | false=>
  rw[show d' c e t x=(c,false) by unfold d';simp[hp]];simp only[fA,ok];exact adC ⟨rfl,pJ,rfl,rd,rfl,eJ,jL,jM,dR,dM,eh,Uj x e _ hp di,rfl,aj⟩
 | true=>
 have qi:=Uj x e _ hp di;have my:bf .i64 (t.sum+x.bK.getD e.toNat 0):=⟨by omega,by omega⟩
 simp only[fA,ok,post];clear post;obtain⟨Vb,uU,ts,tb,gU⟩:=t;dsimp only at*;cases Vb with
 | false=>
  obtain rfl:uU=0:=XE rfl;rw[show d' c e ⟨false,0,ts,tb,gU⟩ x=(setW (cP c e ⟨true,(c.ap.length:Int)-1,0,false,x.bA.getD e.toNat false⟩) 0 (eg x e),true) by simp only[d',hp,fO,nZ]];dsimp only;rw[Ul,Uk,<-G6];exact adD ⟨rfl,pJ,rfl,rd,rfl,eJ,jL,jM,dR,dM,eh,qi,rfl,eJ,qF,qG,my,rfl,⟨by omega,by omega⟩,eJ,CA,CB,eJ,jL,jM,by omega,dM,eh,eJ,qb,ox,eh,rfl,rfl,rfl,rfl,rfl,aj⟩
 | true=>
 by_cases mH:0<uU
 case pos=>
  have pQ:decide (uU>0)=true:=dU mH;cases ar:aW (ts+x.bK.getD e.toNat 0) (-1000000) 1000000 with
  | false=>
   rw[show d' c e ⟨true,uU,ts,tb,gU⟩ x=(c,false) by simp only[d',hp,fO,ks,mm,j4,mH,ar]];exact adE ⟨rfl,pJ,rfl,rd,rfl,eJ,jL,jM,dR,dM,eh,qi,rfl,eJ,qF,qG,my,rfl,pQ,fL _ ar,rfl,aj⟩
  | true=>
   have e1:d' c e ⟨true,uU,ts,tb,gU⟩ x=(setW (cP c e ⟨true,uU-1,ts+x.bK.getD e.toNat 0,tb||x.bL.getD e.toNat false,gU||x.bA.getD e.toNat false⟩) uU (eg x e),true):=by
    simp only[d',hp,fO,ks,mm,j4,mH,ar]
   rw[e1];dsimp only;rw[Ul,Uk];have wr:=fL _ ar;cases tb with
   | true=>
    cases gU with
    | true=>exact adF ⟨rfl,pJ,rfl,rd,rfl,eJ,jL,jM,dR,dM,eh,qi,rfl,eJ,qF,qG,my,rfl,pQ,wr,rfl,⟨by omega,by omega⟩,rfl,rfl,eJ,jL,jM,dR,dM,eh,eJ,qb,ox,eh,rfl,rfl,rfl,rfl,rfl,aj⟩
    | false=>exact adG ⟨rfl,pJ,rfl,rd,rfl,eJ,jL,jM,dR,dM,eh,qi,rfl,eJ,qF,qG,my,rfl,pQ,wr,rfl,⟨by omega,by omega⟩,rfl,rfl,eJ,CA,CB,eJ,jL,jM,dR,dM,eh,eJ,qb,ox,eh,rfl,rfl,rfl,rfl,rfl,aj⟩
   | false=>
    cases gU with
    | true=>exact adH ⟨rfl,pJ,rfl,rd,rfl,eJ,jL,jM,dR,dM,eh,qi,rfl,eJ,qF,qG,my,rfl,pQ,wr,rfl,⟨by omega,by omega⟩,rfl,eJ,qb,ox,rfl,eJ,jL,jM,dR,dM,eh,eJ,qb,ox,eh,rfl,rfl,rfl,rfl,rfl,rfl,rfl,aj⟩
    | false=>exact adI ⟨rfl,pJ,rfl,rd,rfl,eJ,jL,jM,dR,dM,eh,qi,rfl,eJ,qF,qG,my,rfl,pQ,wr,rfl,⟨by omega,by omega⟩,rfl,eJ,qb,ox,rfl,eJ,CA,CB,eJ,jL,jM,dR,dM,eh,eJ,qb,ox,eh,rfl,rfl,rfl,rfl,rfl,rfl,rfl,aj⟩
 case neg=>
  obtain rfl:uU=0:=by omega
  have pQ:decide ((0:Int)>0)=false:=rfl;have e1:=fun b=>agk c e ⟨false,0,ts,tb,gU⟩ b
  have ends:=fun cap=>agp (cP c e ⟨false,0,ts,tb,gU⟩) true x e cap (Bx.trans aa) zM (by rw[D4];exact ad)
  rw[e1]at ends;cases tb with
  | true=>
   rw[show d' c e ⟨true,0,ts,true,gU⟩ x=(cP c e ⟨false,0,ts,true,gU⟩,true) by simp[d',hp]];dsimp only;rw[e1];exact afd ⟨rfl,pJ,rfl,rd,rfl,eJ,jL,jM,dR,dM,eh,qi,rfl,eJ,qF,qG,my,rfl,pQ,eJ,jL,jM,rfl,aj⟩
  | false=>
  cases hk:x.bL.getD e.toNat false with
  | true=>
   rw[hk]at ox;rw[show d' c e ⟨true,0,ts,false,gU⟩ x=(cP c e ⟨false,0,ts,false,gU⟩,true) by unfold d';simp only[hp,hk];rfl];dsimp only;rw[e1];exact afc ⟨rfl,pJ,rfl,rd,rfl,eJ,jL,jM,dR,dM,eh,qi,rfl,eJ,qF,qG,my,rfl,pQ,eJ,jL,jM,rfl,eJ,qb,ox,rfl,aj⟩
  | false=>
  rw[hk]at ox;cases aR:(ts+x.bK.getD e.toNat 0==0) with
  | false=>
   rw[show d' c e ⟨true,0,ts,false,gU⟩ x=(cP c e ⟨false,0,ts,false,gU⟩,true) by unfold d';simp only[hp,hk,aR];rfl];dsimp only;rw[e1];exact adL ⟨rfl,pJ,rfl,rd,rfl,eJ,jL,jM,dR,dM,eh,qi,rfl,eJ,qF,qG,my,rfl,pQ,eJ,jL,jM,rfl,eJ,qb,ox,rfl,aR,aj⟩
  | true=>
  rw[show d' c e ⟨true,0,ts,false,gU⟩ x=(gd (setW (cP c e ⟨false,0,ts,false,gU⟩) 0 (told x e (gU||x.bA.getD e.toNat false))) (c.news++hy (c.ap.length-1) e (gU||x.bA.getD e.toNat false)),true) by unfold d';simp only[hp,hk,aR];rfl];cases gU with
  | true=>exact adJ ⟨rfl,pJ,rfl,rd,rfl,eJ,jL,jM,dR,dM,eh,qi,rfl,eJ,qF,qG,my,rfl,pQ,eJ,jL,jM,rfl,eJ,qb,ox,rfl,aR,rfl,ends true,aj⟩
  | false=>exact adK ⟨rfl,pJ,rfl,rd,rfl,eJ,jL,jM,dR,dM,eh,qi,rfl,eJ,qF,qG,my,rfl,pQ,eJ,jL,jM,rfl,eJ,qb,ox,rfl,aR,rfl,eJ,CA,CB,ends _,aj⟩
