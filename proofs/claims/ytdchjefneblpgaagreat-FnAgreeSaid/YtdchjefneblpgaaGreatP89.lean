import Derived.Test.YtdchjefneblpgaaGreatP61
set_option linter.unusedVariables false
set_option linter.unusedSimpArgs false
namespace Go.Proofs.YtdchjefneblpgaaGreat
open Go.Sx Go.RowKit
def Still(c:aU):Prop:=(∀x∈c.aq,x.queue=[]/\x.cp=[]/\x.bZ=[])/\(∀l∈c.bK,l.queue=[])/\∀(a b:Int) l,a≠b->eB c (dX c.ay a b)=some l->l.back=0
section
variable {c : aU} {S b : Int}
variable{i:Int}{x:aL}
theorem ane(bD:cq c=true)(aa:b3 c i=some x)(ai:x.cp=[])(h:(cY c ⟨1,i,b⟩).2=false):x.queue=[]:=by
 have ar:=(e7.1 bD).1;have hw:=jr bD aa;cases aA:x.queue with
 | nil=>rfl
 | cons r q=>
  exfalso;simp only[cY,jn,bD,aa,gJ,ar,hw,ai,aA]at h;simp at h
theorem anf(bD:cq c=true)(aa:b3 c i=some x)(ai:x.cp=[])(aA:x.queue=[])(h:(cY c ⟨2,i,b⟩).2=false):x.bZ=[]:=by
 have ar:=(e7.1 bD).1;have hw:=jr bD aa;cases hi:x.bZ with
 | nil=>rfl
 | cons r q=>
  exfalso;simp only[cY,jo,bD,aa,gK,ar,hw,ai,aA,hi]at h;simp at h
theorem VQ(bD:cq c=true){j:Int}{l:bt}(lh:i≠j)(aj:eB c (dX c.ay i j)=some l)(h:(cY c ⟨5,i,j⟩).2=false):l.back=0:=by
 have hk:=(oE.1 (rr bD aj)).1;have cf:(i != j)=true:=by simpa using lh
 refine Classical.byContradiction fun ao=>?_
 have di:(l.back != 0)=true:=by simpa using ao
 simp only[cY,jq,bD,aj,cf,fT,hk,di]at h;simp at h
theorem ang(bD:cq c=true){j:Int}{l:bt}(lh:i≠j)(aj:eB c (dX c.ay i j)=some l)(aa:b3 c j=some x)(h:(cY c ⟨4,i,j⟩).2=false):l.queue=[]:=by
 have hk:=(oE.1 (rr bD aj)).1;have cf:(i != j)=true:=by simpa using lh
 cases aA:l.queue with
 | nil=>rfl
 | cons r q=>
  exfalso;simp only[cY,jM,bD,aj,aa,cf,dI,hk,aA]at h;simp at h
theorem anh(bD:cq c=true)(ao:iY S c)(hz:S<=200000)(aa:b3 c i=some x)(af:∀j l,j≠i->eB c (dX c.ay i j)=some l->l.eC≠0)(h:(cY c ⟨3,i,b⟩).2=false):x.cp=[]:=by
 have aK:=ii (e7.1 bD).1;have hlen:=(e7.1 bD).2.1;obtain⟨i0,i1,_⟩:=eK aa;cases ai:x.cp with
 | nil=>rfl
 | cons r t=>
  exfalso;have ax:(cY c ⟨3,i,b⟩).2=(rq c i x r t (eJ r.key c.ay.aq)).2:=by
   simp only[cY,iS,bD,aa,ai];simp
  rw[ax]at h;unfold rq at h;split at h
  ·cases h
  rename_i aN;have hi:ap i 0 (c.ay.aq-1)=true:=by simp only[ap,b'];omega
  obtain⟨l,aj⟩:=xI bD hi (Co r.key aK.1);have hk:=(oE.1 (rr bD aj)).1;have awY:=ao.eF l (cG (iT aj).2.2);have oi:=af _ l aN aj;have az:=(ik.1 (jr bD aa)).2.1;rw[ai,ru]at az;have az:=az.1;simp only[kj,fR,jW]at az;have aae:(ei l r).2=true:=by
   unfold ei;rw[hk,az.1,show (l.eC != 0)=true by simpa using oi,nh (by omega)];rfl
  rw[aj]at h;simp only[aae]at h;simp at h
end
theorem VR{n w:Nat}(h:w<n){p:b9}(hp:p∈jO w):p∈mz n:=by
 unfold mz;exact kF.2 ⟨w,List.mem_range.2 h,hp⟩
theorem ani{n a b:Nat}(ad:a<n)(ao:b<n){p:b9}(hp:p∈lp a b):p∈mX n n:=by
 unfold mX qi;exact kF.2 ⟨a,List.mem_range.2 ad,kF.2 ⟨b,List.mem_range.2 ao,hp⟩⟩
theorem MN{g:b0}(h:1<=g.aq/\g.aq<=4):gr g.aq 0 4=g.aq:=by
 unfold gr;rw[a6 (by omega),a6 (by omega),a6 (by omega)]
theorem ams{n:Int}(aK:1<=n/\n<=4){k:Nat}(hk:(k:Int)<n*n):∃a b:Nat,(a:Int)<n/\(b:Int)<n/\(k:Int)=a*n+b:=by
 have aF:n=1\/n=2\/n=3\/n=4:=by omega
 refine⟨((k:Int) / n).toNat,((k:Int) % n).toNat,?_⟩;rcases aF with rfl | rfl | rfl | rfl<;>omega
structure Same (c d:aU):Prop where
 ay:d.ay=c.ay
 bK:d.bK=c.bK
 len:d.aq.length=c.aq.length
 w:∀(i:Nat) x,c.aq[i]?=some x->∃y,d.aq[i]?=some y/\y.queue=x.queue/\y.cp=x.cp/\y.bZ=x.bZ
variable{c:aU}
theorem Same.rfl:Same c c:=⟨Eq.refl _,Eq.refl _,Eq.refl _,fun _ x h=>⟨x,h,Eq.refl _,Eq.refl _,Eq.refl _⟩⟩
variable{d:aU}
theorem Same.trans{e:aU}(h:Same c d)(k:Same d e):Same c e:=⟨k.ay.trans h.ay,k.bK.trans h.bK,k.len.trans h.len,fun i x aa=>by
 obtain⟨y,bn,h1,U,ax⟩:=h.w i x aa;obtain⟨z,aW,cy,bw,fc⟩:=k.w i y bn;exact⟨z,aW,cy.trans h1,bw.trans U,fc.trans ax⟩⟩
theorem Same.b3(h:Same c d){i:Int}{x:aL}(aa:b3 c i=some x):∃y,b3 d i=some y/\y.queue=x.queue/\y.cp=x.cp/\y.bZ=x.bZ:=by
 obtain⟨bl,_,U⟩:=eK aa;unfold Go.Proofs.YtdchjefneblpgaaGreat.b3;rw[aZ bl];exact h.w _ x U
theorem Same.eB(h:Same c d)(a b:Int):eB d (dX d.ay a b)=eB c (dX c.ay a b):=by
 unfold Go.Proofs.YtdchjefneblpgaaGreat.eB;rw[h.bK,h.ay]
theorem Same.set{i:Int}{x y:aL}(aa:Go.Proofs.YtdchjefneblpgaaGreat.b3 c i=some x)(h1:d.ay=c.ay)(U:d.bK=c.bK)(ax:d.aq=c.aq.set i.toNat y)(aF:y.queue=x.queue)(aQ:y.cp=x.cp)(bb:y.bZ=x.bZ):Same c d:=
 ⟨h1,U,by rw[ax,fN],fun j z aW=>by
  rw[ax];by_cases aP:j=i.toNat
  ·subst aP;rw[(eK aa).2.2]at aW;cases aW;exact⟨y,py (eK aa).2.2,aF,aQ,bb⟩
  exact⟨z,Cv aW aP,Eq.refl _,Eq.refl _,Eq.refl _⟩⟩
def DI(c:aU)(p:b9):Prop:=∃(d:aU) (S:Int),cq d=true/\iY S d/\S<=200000/\Same c d/\(cY d p).2=false
theorem VS(bD:cq c=true)(ht:∀p∈fD c,p.kind<=5->DI c p):Still c:=by
 obtain⟨ar,o8,Ee,_⟩:=e7.1 bD;have aK:=ii ar;obtain⟨n,je⟩:∃n:Nat,c.ay.aq=n:=⟨c.ay.aq.toNat,by omega⟩
 have Z0:∀p∈mz n,p∈fD c:=fun p hp=>by
  unfold fD;rw[MN aK,je,nd];exact hl _ (hl _ hp)
 have Z1:∀p∈mX n n,p∈fD c:=fun p hp=>by
  unfold fD;rw[MN aK,je,nd];exact hl _ (io _ hp)
 have four:∀w:Nat,w<n->∀p∈jO w,p.kind<=5->DI c p:=fun w hw p hp hk=>ht p (Z0 p (VR hw hp)) hk
 have two:∀a b:Nat,a<n->b<n->∀p∈lp a b,p.kind<=5->DI c p:=fun a b ad tj p hp hk=>ht p (Z1 p (ani ad tj hp)) hk
 have inr:∀a:Nat,a<n->ap (a:Int) 0 (c.ay.aq-1)=true:=fun a ad=>by simp only[ap,b'];omega
 have bK:∀a b:Nat,a<n->b<n->a≠b->∀l,eB c (dX c.ay a b)=some l->l.queue=[]/\l.back=0:=fun a b ad tj dD l aj=>by
  obtain⟨x,aa⟩:=oF (c:=c) (i:=(b:Int)) (by omega) (by omega);have m4:(⟨4,(a:Int),(b:Int)⟩:b9)∈lp a b:=by simp[lp,dD]
  have m5:(⟨5,(a:Int),(b:Int)⟩:b9)∈lp a b:=by simp[lp,dD]
  obtain⟨d,S,d1,d2,d3,d4,d5⟩:=two a b ad tj _ m4 (by dsimp only;omega);obtain⟨f,T,f1,f2,f3,f4,f5⟩:=two a b ad tj _ m5 (by dsimp only;omega);obtain⟨y,bn,_⟩:=d4.b3 aa;exact⟨ang d1 (by omega) ((d4.eB _ _).trans aj) bn d5,VQ f1 (by omega) ((f4.eB _ _).trans aj) f5⟩
 have Yh:∀a:Nat,a<n->∀(j:Int) l,j≠a->eB c (dX c.ay a j)=some l->l.eC≠0:=fun a ad j l aP aj=>by
  obtain⟨_,g2⟩:=Gk (iT aj).1;simp only[ap,b']at g2;obtain⟨b,rfl⟩:∃b:Nat,j=b:=⟨j.toNat,by omega⟩
  obtain⟨q1,jK⟩:=bK a b ad (by omega) (by omega) l aj;obtain⟨cy,_,_,mP,_⟩:=nR.1 (oE.1 (rr bD aj)).1;simp only[ap,b']at cy;rw[q1,jK]at mP;simp only[bY]at mP;omega
 refine⟨?_,?_,fun a b l dD aj=>?_⟩
 ·intro x aa;obtain⟨w,hw⟩:=List.getElem?_of_mem aa;have aw1:=aX hw;have ml:b3 c (w:Int)=some x:=by unfold b3;rw[aZ (by omega)];simpa using hw
  obtain⟨d,S,d1,d2,d3,d4,d5⟩:=four w (by omega) ⟨3,w,0⟩ (by simp[jO]) (by dsimp only;omega);obtain⟨y,bn,k5,iE,XG⟩:=d4.b3 ml;have ai:=anh d1 d2 d3 bn (fun j l aP aj=>Yh w (by omega) j l aP ((d4.eB _ _).symm.trans aj)) d5;rw[iE]at ai;obtain⟨f,T,f1,f2,f3,f4,f5⟩:=four w (by omega) ⟨1,w,0⟩ (by simp[jO]) (by dsimp only;omega);obtain⟨z,aW,rL,z2,z3⟩:=f4.b3 ml;have aA:=ane f1 aW (z2.trans ai) f5;rw[rL]at aA;obtain⟨u,av1,gw,jU,sP,avr,avs⟩:=four w (by omega) ⟨2,w,0⟩ (by simp[jO]) (by dsimp only;omega);obtain⟨v,bz,v1,v2,v3⟩:=avr.b3 ml;have hi:=anf gw bz (v2.trans ai) (v1.trans aA) avs;rw[v3]at hi;exact⟨aA,ai,hi⟩
 ·intro l aj;obtain⟨k,hk⟩:=List.getElem?_of_mem aj;have Pw:=aX hk;obtain⟨a,b,ad,tj,e⟩:=ams aK (k:=k) (by omega);obtain⟨iz,tK,_,u4,aa9⟩:=vE aK (inr a (by omega)) (inr b (by omega));have lW:eB c (dX c.ay a b)=some l:=by
   unfold eB;rw[iz,aZ tK,<-e];simpa using hk
  by_cases dD:a=b
  ·subst dD;have YN:=oE.1 (rr bD lW);have aam:(((dX c.ay a a).toNat:Nat):Int)=a*c.ay.aq+a:=by rw[Cp lW,iz]
   exact YN.2.2.2 (by rw[aam,u4,aa9])
  exact (bK a b (by omega) (by omega) dD l lW).1
 obtain⟨g1,g2⟩:=Gk (iT aj).1;simp only[ap,b']at g1 g2;obtain⟨i,rfl⟩:∃i:Nat,a=i:=⟨a.toNat,by omega⟩
 obtain⟨j,rfl⟩:∃j:Nat,b=j:=⟨b.toNat,by omega⟩
 exact (bK i j (by omega) (by omega) (by omega) l aj).2
end Go.Proofs.YtdchjefneblpgaaGreat
namespace Go.Proofs.YtdchjefneblpgaaGreat
open Go.Sx Go.RowKit
structure qw (P:kI) (S:Int) (c:aU):Prop where
 all:km S c
 of:P.Aq c
variable{P:kI}{c:aU}
theorem qw.step{S:Int}(h:qw P S c)(hz:S<200000)(p:b9):qw P (S+1) (cY c p).1:=by
 refine⟨h.all.step hz p,?_⟩;rcases xL c p with⟨_,U⟩ | ⟨_,_,st⟩
 ·rw[U];exact h.of
 exact h.of.step h.all.ok st (L9 c p).ay
theorem VT{d:aU}{p:b9}(st:Step c p d)(hk:5<p.kind):Same c d:=by
 cases st with
 | work x r q jD=>omega
 | input x r t jD=>omega
 | eW x r t jD=>omega
 | send x r t l jD=>omega
 | take l x jD=>omega
 | qC l jD=>omega
 | token t x cm jD j8 bl aB bq aa qV=>
  rcases qh c p.a t x with⟨_,k⟩ | ⟨_,_,⟨_,k⟩ | ⟨_,_,k⟩ | ⟨_,bl,_,k⟩ | ⟨_,_,_,k⟩⟩
  ·rw[k];exact .rfl
  ·rw[k];exact .set aa rfl rfl rfl rfl rfl rfl
  ·rw[k];exact .set aa rfl rfl rfl rfl rfl rfl
  ·rw[k];have aW:t.place=0:=by have:=(eK aa).1;omega
   rw[aW]at aa;exact .set aa rfl rfl rfl rfl rfl rfl
  rw[k];exact⟨rfl,rfl,rfl,Same.rfl.w⟩
 | qZ k n x jD aK aB aa=>
  refine .set (y:=ea x n) aa rfl rfl rfl ?_ ?_ ?_<;>(unfold ea;split<;>rfl)
def F':List b9->Bool
 | []=>true
 | p::l=>(if p.kind=4 then (match l with | q::_=>decide (q=⟨5,p.a,p.b⟩) | []=>false) else true)&&F' l
theorem MO(aK:1<=c.ay.aq/\c.ay.aq<=4):F' (fD c)=true/\(fD c).length<=44:=by
 have h:c.ay.aq=1\/c.ay.aq=2\/c.ay.aq=3\/c.ay.aq=4:=by omega
 unfold fD;rcases h with h | h | h | h<;>(rw[h];decide +kernel)
theorem amt{i:Int}{l m:bt}(h:eB c i=some l):eB (db c i m) i=some m:=by
 obtain⟨bl,_,U⟩:=iT h;unfold eB db;rw[aZ bl];exact py U
theorem VU:∀(l:List b9) {S:Int} {c:aU},qw P S c->S+l.length<=200000->F' l=true->
  fC P (cS c l).1<=fC P c/\(fC P (cS c l).1=fC P c->Same c (cS c l).1/\∀p∈l,p.kind<=5->DI c p)
 | [],S,c,h,hz,_=>⟨dN _,fun _=>⟨.rfl,fun p hp=>by cases hp⟩⟩
 | p::l,S,c,h,hz,hp=>by
  simp only[dJ]at hz;simp only[F',b8]at hp;have h1:=h.step (by omega) p;obtain⟨i1,i2⟩:=VU l h1 (by omega) hp.2;simp only[cS];rcases xL c p with⟨cy,bw⟩ | ⟨_,_,st⟩
  ·rw[bw]at i1 i2 ⊢;refine⟨i1,fun he=>?_⟩;obtain⟨o',nG⟩:=i2 he;refine⟨o',fun q aA hk=>?_⟩;rcases et.1 aA with rfl | aA
   ·exact⟨c,S,h.all.ok,h.all.s3,by omega,.rfl,cy⟩
   exact nG q aA hk
  have yM:=VG h.of h.all.owns h.all.ok st;refine⟨by omega,fun he=>?_⟩;have Z3:¬(p.kind<=5/\p.kind≠4):=fun aA=>by rw[aZ aA]at yM;omega
  rw[a6 Z3]at yM;obtain⟨o',nG⟩:=i2 (by omega);by_cases aF:p.kind=4
  ·exfalso;rw[aZ aF]at hp;cases l with
   | nil=>cases hp.1
   | cons q g'=>
    have aA:q=⟨5,p.a,p.b⟩:=by simpa using hp.1
    obtain⟨d,T,d1,d2,d3,d4,d5⟩:=nG q (eY ..) (by rw[aA];dsimp only;omega);subst aA;generalize (cY c p).1=c1 at*;cases st with
    | work x r q jD=>omega
    | input x r t jD=>omega
    | eW x r t jD=>omega
    | send x r t l jD=>omega
    | take l x jD dD aj aa bq=>
     obtain⟨mh,r,q,aA,e2,e1⟩:=xJ bq;have ao:=(nR.1 mh).2.2.1;simp only[ap,b']at ao;have cV:eB (setW (db c (dX c.ay p.a p.b) (dI l).1) p.b (k1 x (dI l).2.1)) (dX c.ay p.a p.b)=some (dI l).1:=amt aj;have bl:=VQ d1 dD ((d4.eB p.a p.b).trans cV) d5;rw[e1]at bl;dsimp only at bl;omega
    | qC l jD=>omega
    | token t x cm jD=>omega
    | qZ k n x jD=>omega
  have Zz:5<p.kind:=by omega
  have ai:=VT st Zz;refine⟨ai.trans o',fun q aA hk=>?_⟩;rcases et.1 aA with rfl | aA
  ·omega
  obtain⟨d,T,d1,d2,d3,d4,d5⟩:=nG q aA hk;exact⟨d,T,d1,d2,d3,ai.trans d4,d5⟩
theorem amu{S:Int}(h:qw P S c)(hz:S+44<=200000)(aK:¬Still c):fC P (hb c).1<fC P c:=by
 obtain⟨eZ,a2⟩:=MO (ii (e7.1 h.all.ok).1);obtain⟨h1,U⟩:=VU (fD c) h (by omega) eZ;refine Classical.byContradiction fun af=>?_
 have he:fC P (cS c (fD c)).1=fC P c:=by
  unfold hb at af;dsimp only at af;omega
 exact aK (VS h.all.ok (U he).2)
theorem qw.run:∀(l:List b9) {S:Int} {c:aU},qw P S c->S+l.length<=200000->qw P (S+l.length) (cS c l).1
 | [],S,c,h,_=>by simpa[cS]using h
 | p::l,S,c,h,hz=>by
  simp only[dJ]at hz ⊢;have:=qw.run l (h.step (by omega) p) (by omega);simp only[cS];rw[show S+((l.length+1:Nat):Int)=S+1+l.length by omega];exact this
end Go.Proofs.YtdchjefneblpgaaGreat
namespace Go.Proofs.YtdchjefneblpgaaGreat
open Go.Sx Go.RowKit
def sQ(e:Int)(c:aU)(k:Nat):Bool:=(c.aq.take k).all fun x=>!gn e x
def nX(e:Int)(c:aU)(k:Nat):Bool:=(c.aq.drop k).all fun x=>!gn e x
def qI(e:Int)(c:aU)(t:bQ):Bool:=!t.bV&&sQ e c (t.place.toNat+1)&&decide (gG e c (t.place.toNat+1)+t.sum=0)
def qm(e:Int)(c:aU)(t:bQ):Nat:=
 if t.going=true then (if qI e c t=true then t.place.toNat+1 else if nX e c (t.place.toNat+1)=true then t.place.toNat+1+(c.aq.length+1) else t.place.toNat+1+(2*c.aq.length+2))
 else if nX e c 1=true then c.aq.length+1 else 2*c.aq.length+2
def hr(e:Int)(c:aU):Bool:=match b3 c 0 with | some x=>ew x e | none=>true
def jt(e:Int)(c:aU):Nat:=if hr e c=true then 0 else match hE c e with | some t=>qm e c t | none=>0
def sJ(c:aU):Nat:=3*(jt 0 c+jt 1 c+jt 2 c+jt 3 c)+c.news.length
theorem VV{α:Type}(f:α->Bool){x:α}:∀{xs:List α} {i k:Nat},((xs.take k).all f=true)->f x=true->((xs.set i x).take k).all f=true
 | [],_,_,_,_=>by simp
 | a::xs,0,0,_,_=>by simp
 | a::xs,i+1,0,_,_=>by simp
 | a::xs,0,k+1,h,aa=>by
  simp only[List.set_cons_zero,List.take_succ_cons,List.all_cons,b8]at h ⊢;exact⟨aa,h.2⟩
 | a::xs,i+1,k+1,h,aa=>by
  simp only[List.set_cons_succ,List.take_succ_cons,List.all_cons,b8]at h ⊢;exact⟨h.1,VV f h.2 aa⟩
theorem MP{α:Type}(f:α->Bool){x:α}:∀{xs:List α} {i k:Nat},((xs.drop k).all f=true)->f x=true->((xs.set i x).drop k).all f=true
 | [],_,_,_,_=>by simp
 | a::xs,0,0,h,aa=>by
  simp only[List.set_cons_zero,sV,List.all_cons,b8]at h ⊢;exact⟨aa,h.2⟩
 | a::xs,i+1,0,h,aa=>by
  simp only[List.set_cons_succ,sV,List.all_cons,b8]at h ⊢;refine⟨h.1,?_⟩;have:=MP f (xs:=xs) (i:=i) (k:=0) (by simpa using h.2) aa;simpa using this
 | a::xs,0,k+1,h,_=>by simpa using h
 | a::xs,i+1,k+1,h,aa=>by
  have:=MP f (xs:=xs) (i:=i) (k:=k) (by simpa using h) aa;simpa using this
variable{c:aU}{e:Int}
theorem pB{x:aL}(h:b3 c 0=some x):hr e c=ew x e:=by
 unfold hr;rw[h]
variable{x:aL}
theorem amv(aj:x.bV.length=4)(he:0<=e/\e<=3):(!gn e (er x e))=true:=by
 unfold gn er;dsimp only;rw[Gf (by omega)];rfl
section
variable {e : Int} {c : aU} {t u : bQ} {x : aL}
theorem VW(aa:b3 c t.place=some x)(k:Nat):gG e (setW (cM c e u) t.place (er x e)) k=gG e c k:=by
 have:=zi (e0 e) (er x e) (k:=k) (eK aa).2.2;rw[show e0 e (er x e)=e0 e x from rfl,Int.sub_self,ite_self,Int.add_zero]at this;exact this
end
theorem Still.quiet(h:Still c)(e:Int):quiet e c:=by
 refine⟨fun x aa=>?_,?_⟩
 ·obtain⟨h1,U,ax⟩:=h.1 x aa;rw[pz,h1,U,ax];exact⟨fun r az=>(by cases az),fun r az=>(by cases az),fun r az=>(by cases az)⟩
 unfold jg;rw[xR (g:=fun _=>0) fun l aj=>by unfold oC l3;rw[h.2.1 l aj];rfl,zT]
theorem amw{S:Int}{t:bQ}{cm:aL}(h:km S c)(ai:Still c)(he:0<=e/\e<=3)(bl:b3 c 0=some cm)(aB:ew cm e=false)(bq:hE c e=some t)(aa:b3 c t.place=some x)
  (qV:(dx c e t x).2=true):jt e (dx c e t x).1+1<=jt e c/\((dx c e t x).1.news=c.news\/((dx c e t x).1.news.length+1=c.news.length+c.aq.length/\hr e (dx c e t x).1=true)):=by
 obtain⟨hG,gd,jw⟩:=eK aa;obtain⟨_,Ek,_⟩:=sE.1 (zh h.ok bq);have ti:=(Cx (jr h.ok aa)).2.1;have hw:=amv ti he;have total:gG e c c.aq.length=0:=by rw[(h.inv e he).total,(ai.quiet e).2];rfl
 have af:jt e c=qm e c t:=by
  unfold jt;rw[a6 (by rw[pB bl,aB];decide),bq]
 have hlen:∀u:bQ,(setW (cM c e u) t.place (er x e)).aq.length=c.aq.length:=fun u=>fN
 have ie:∀u:bQ,jt e (setW (cM c e u) t.place (er x e))<=qm e (setW (cM c e u) t.place (er x e)) u:=fun u=>by
  unfold jt;rw[show hE (setW (cM c e u) t.place (er x e)) e=some u from Cy bq];split
  ·exact Nat.zero_le _
  exact dN _
 rcases qh c e t x with⟨k,_⟩ | ⟨_,hp,⟨ar,k⟩ | ⟨ar,sb,k⟩ | ⟨ar,sb,ao,k⟩ | ⟨ar,sb,ao,k⟩⟩
 ·rw[qV]at k;cases k
 ·
  rw[k];refine⟨?_,.inl rfl⟩;have aW:=Ek ar;refine n1 (Nat.add_le_add_right (ie _) 1) ?_;rw[af];unfold qm;rw[hlen,ar];dsimp only;have sa:((c.aq.length:Int)-1).toNat+1=c.aq.length:=by omega
  rw[sa,aZ (rfl:true=true),a6 (show ¬(false=true) by decide)];have tl:nX e (setW (cM c e ⟨true,(c.aq.length:Int)-1,0,false,x.bm.getD e.toNat false⟩) t.place (er x e)) c.aq.length=true:=by
   unfold nX;rw[List.drop_of_length_le (by rw[hlen];exact dN _)];rfl
  rw[tl,aZ (rfl:true=true)];by_cases nF:nX e c 1=true
  ·rw[aZ nF];have bg:qI e (setW (cM c e ⟨true,(c.aq.length:Int)-1,0,false,x.bm.getD e.toNat false⟩) t.place (er x e)) ⟨true,(c.aq.length:Int)-1,0,false,x.bm.getD e.toNat false⟩=true:=by
    unfold qI;dsimp only;rw[sa,VW aa,total];have:sQ e (setW (cM c e ⟨true,(c.aq.length:Int)-1,0,false,x.bm.getD e.toNat false⟩) t.place (er x e)) c.aq.length=true:=by
     unfold sQ;rw[vU (by rw[hlen];exact dN _)];change (c.aq.set t.place.toNat (er x e)).all _=true;rw[aW];unfold nX at nF;cases Pj:c.aq with
     | nil=>rw[Pj]at gd;simp at gd
     | cons y ys=>
      rw[Pj]at nF;simp only[List.drop_succ_cons,sV]at nF;simp only[Int.toNat_zero,List.set_cons_zero,List.all_cons,hw,nF,Bool.and_self]
    rw[this];rfl
   rw[aZ bg];exact dN _
  ·rw[a6 nF];split<;>omega
 ·
  rw[k];refine⟨?_,.inl rfl⟩;refine n1 (Nat.add_le_add_right (ie _) 1) ?_;rw[af];unfold qm;rw[hlen,ar];dsimp only;have sa:(t.place-1).toNat+1=t.place.toNat:=by omega
  rw[sa,aZ (rfl:true=true),aZ (rfl:true=true)];by_cases bg:qI e c t=true
  ·rw[aZ bg];have Za:qI e (setW (cM c e ⟨true,t.place-1,t.sum+x.bM.getD e.toNat 0,t.bV||x.bV.getD e.toNat false,t.ca||x.bm.getD e.toNat false⟩) t.place (er x e)) ⟨true,t.place-1,t.sum+x.bM.getD e.toNat 0,t.bV||x.bV.getD e.toNat false,t.ca||x.bm.getD e.toNat false⟩=true:=by
    unfold qI at bg ⊢;simp only[b8,gy,b']at bg;obtain⟨⟨f1,f2⟩,f3⟩:=bg;dsimp only;rw[sa,VW aa];rw[Gi jw]at f3;unfold sQ at f2;rw[sS,jw,yc,List.all_append,b8]at f2;have cv:x.bV.getD e.toNat false=false:=by
     have:=f2.2;simp only[List.all_cons,List.all_nil,uu,gy]at this;exact this
    have:sQ e (setW (cM c e ⟨true,t.place-1,t.sum+x.bM.getD e.toNat 0,t.bV||x.bV.getD e.toNat false,t.ca||x.bm.getD e.toNat false⟩) t.place (er x e)) t.place.toNat=true:=by
     unfold sQ;exact VV _ f2.1 hw
    rw[this,f1,cv];have:gG e c t.place.toNat+(t.sum+x.bM.getD e.toNat 0)=0:=by
     unfold e0 at f3;omega
    rw[nh this];rfl
   rw[aZ Za];omega
  rw[a6 bg];by_cases nF:nX e c (t.place.toNat+1)=true
  ·rw[aZ nF];have:nX e (setW (cM c e ⟨true,t.place-1,t.sum+x.bM.getD e.toNat 0,t.bV||x.bV.getD e.toNat false,t.ca||x.bm.getD e.toNat false⟩) t.place (er x e)) t.place.toNat=true:=by
    unfold nX;change ((c.aq.set t.place.toNat (er x e)).drop t.place.toNat).all _=true;have aj:t.place.toNat<(c.aq.set t.place.toNat (er x e)).length:=by rw[fN];exact gd
    rw[List.drop_eq_getElem_cons aj,List.all_cons,List.getElem_set_self,hw,oM];exact MP _ nF hw
   rw[this,aZ (rfl:true=true)];split<;>omega
  rw[a6 nF];split
  ·omega
  ·split<;>omega
 ·
  rw[k];have aW:t.place=0:=by omega
  rw[aW]at jw;have kO:hr e (hg (setW (cM c e ⟨false,t.place,t.sum,t.bV,t.ca⟩) 0 (told x e (t.ca||x.bm.getD e.toNat false))) (c.news++fU (c.aq.length-1) e (t.ca||x.bm.getD e.toNat false)))=true:=by
   unfold hr;rw[show b3 (hg (setW (cM c e ⟨false,t.place,t.sum,t.bV,t.ca⟩) 0 (told x e (t.ca||x.bm.getD e.toNat false))) (c.news++fU (c.aq.length-1) e (t.ca||x.bm.getD e.toNat false))) 0=some (told x e (t.ca||x.bm.getD e.toNat false)) from py jw];dsimp only;rw[vH];simp
  refine⟨?_,.inr ⟨?_,kO⟩⟩
  ·unfold jt;rw[aZ kO];change 0+1<=jt e c;rw[af];unfold qm;rw[aZ ar];split
   ·omega
   ·split<;>omega
  simp only[hg,k7,fU,bk,vZ];omega
 -- Ag round was in axq
 rw[k];refine⟨?_,.inl rfl⟩;have aW:t.place=0:=by omega
 rw[aW]at jw;have ZT:qI e c t=false:=by
  rw[h7];intro bg;unfold qI at bg;simp only[b8,gy,b']at bg;obtain⟨⟨f1,f2⟩,f3⟩:=bg;rw[aW]at f2 f3;have ai:gG e c 1=e0 e x:=by rw[Gi (k:=0) jw];simp[gG]
  refine ao ⟨f1,?_,?_⟩
  ·unfold sQ at f2;change (c.aq.take 1).all _=true at f2;rw[sS,show c.aq[0]?=some x from jw,yc,List.all_append,b8]at f2;simpa[gn]using f2.2
  change gG e c 1+t.sum=0 at f3;rw[ai]at f3;unfold e0 at f3;omega
 have r3:jt e (cM c e ⟨false,t.place,t.sum,t.bV,t.ca⟩)<=qm e (cM c e ⟨false,t.place,t.sum,t.bV,t.ca⟩) ⟨false,t.place,t.sum,t.bV,t.ca⟩:=by
  unfold jt;rw[show hE (cM c e ⟨false,t.place,t.sum,t.bV,t.ca⟩) e=some ⟨false,t.place,t.sum,t.bV,t.ca⟩ from Cy bq];split
  ·exact Nat.zero_le _
  exact dN _
 refine n1 (Nat.add_le_add_right r3 1) ?_;rw[af];unfold qm;rw[ar,ZT];dsimp only;rw[a6 (show ¬(false=true) by decide),aZ (rfl:true=true),a6 (show ¬(false=true) by decide),aW];change (if nX e c 1=true then _ else _)+1<=(if nX e c 1=true then _ else _);by_cases nF:nX e c 1=true
 ·rw[aZ nF,aZ nF];change c.aq.length+1+1<=0+1+(c.aq.length+1);omega
 rw[a6 nF,a6 nF];change 2*c.aq.length+2+1<=0+1+(2*c.aq.length+2);omega
theorem Ck{i:Int}{d:aU}{y:aL}(aa:b3 c i=some x)(hw:d.aq=c.aq.set i.toNat y)(bq:hE d e=hE c e)(ao:gn e y=gn e x)(ai:e0 e y=e0 e x)(aB:ew x e=true->ew y e=true):jt e d<=jt e c:=by
 obtain⟨hG,gd,jw⟩:=eK aa;have hlen:d.aq.length=c.aq.length:=by rw[hw,fN]
 have Ef:∀{β:Type} (f:aL->β),f y=f x->d.aq.map f=c.aq.map f:=fun f bg=>by
  rw[hw,kG,bg];exact Cw (by rw[dG,jw];rfl)
 have PB:=Ef (fun z=>!gn e z) (by rw[ao]);have wD:=Ef (e0 e) ai;have e1:∀k,nX e d k=nX e c k:=fun k=>by
  have:∀ws:List aL,(ws.drop k).all (fun z=>!gn e z)=((ws.map fun z=>!gn e z).drop k).all id:=fun ws=>by
   rw[<-List.map_drop,List.all_map];rfl
  unfold nX;rw[this,this,PB]
 have e2:∀k,sQ e d k=sQ e c k:=fun k=>by
  have:∀ws:List aL,(ws.take k).all (fun z=>!gn e z)=((ws.map fun z=>!gn e z).take k).all id:=fun ws=>by
   rw[<-sW,List.all_map];rfl
  unfold sQ;rw[this,this,PB]
 have cJ:∀k,gG e d k=gG e c k:=fun k=>by
  unfold gG;rw[sW,sW,wD]
 have e4:∀t,qm e d t=qm e c t:=fun t=>by
  unfold qm qI;rw[hlen,e1,e1,e2,cJ]
 unfold jt;by_cases r3:hr e d=true
 ·rw[aZ r3];exact Nat.zero_le _
 have Y7:¬hr e c=true:=fun af=>r3 (by
  unfold hr b3 at af ⊢;rw[aZ (by decide),hw];rw[aZ (by decide)]at af;by_cases hi:i.toNat=0
  ·rw[hi]at jw ⊢;rw[show (0:Int).toNat=0 from rfl]at af ⊢;rw[py jw];rw[jw]at af;exact aB af
  rw[jy,a6 (show ¬i.toNat=(0:Int).toNat from hi)];exact af)
 rw[a6 r3,a6 Y7,bq];cases hE c e with
 | none=>exact dN _
 | some t=>dsimp only;rw[e4];exact dN _
theorem amx{f:Int}{t:bQ}(he:0<=e)(bg:0<=f)(cf:f≠e)(aa:b3 c t.place=some x):jt e (dx c f t x).1<=jt e c:=by
 have CU:gn e (er x f)=gn e x:=by
  unfold gn er;exact xM (xN bg he cf)
 rcases qh c f t x with⟨_,k⟩ | ⟨_,_,⟨_,k⟩ | ⟨_,_,k⟩ | ⟨_,bl,_,k⟩ | ⟨_,_,_,k⟩⟩
 ·rw[k];exact dN _
 ·rw[k];exact Ck aa rfl (vI he bg cf) CU rfl id
 ·rw[k];exact Ck aa rfl (vI he bg cf) CU rfl id
 ·rw[k];have aW:t.place=0:=by have:=(eK aa).1;omega
  rw[aW]at aa;exact Ck aa rfl (vI he bg cf) rfl rfl fun q=>by rw[vH,q,Bool.true_or]
 rw[k];exact Ck (y:=x) aa (Cw (eK aa).2.2).symm (vI he bg cf) rfl rfl id
theorem amy{S:Int}{d:aU}{p:b9}(h:km S c)(ai:Still c)(aK:c.aq.length<=3)(st:Step c p d):Still d/\sJ d<sJ c:=by
 have still:5<p.kind->Still d:=fun hk=>by
  have GO:=VT st hk;refine⟨fun x aa=>?_,fun l aj=>ai.2.1 l (GO.bK▸aj),fun a b l dD aj=>ai.2.2 a b l dD ((GO.eB a b).symm.trans aj)⟩;obtain⟨i,hi⟩:=List.getElem?_of_mem aa;obtain⟨z,aW⟩:=dm (xs:=c.aq) (i:=i) (by have:=aX hi;rw[GO.len]at this;exact this);obtain⟨y,bn,k5,iE,XG⟩:=GO.w i z aW;rw[hi]at bn;cases bn;rw[k5,iE,XG];exact ai.1 z (cG aW)
 cases st with
 | work x r q hk aa c' aA=>
  have:=(ai.1 x (cG (eK aa).2.2)).1;rw[aA]at this;cases this
 | input x r t hk aa c' aA hi=>
  have:=(ai.1 x (cG (eK aa).2.2)).2.2;rw[hi]at this;cases this
 | eW x r t hk aa c' aN=>
  have:=(ai.1 x (cG (eK aa).2.2)).2.1;rw[c']at this;cases this
 | send x r t l hk aa c' aN aj hsend=>
  have:=(ai.1 x (cG (eK aa).2.2)).2.1;rw[c']at this;cases this
 | take l x hk dD aj aa bq=>
  obtain⟨_,r,q,aA,_⟩:=xJ bq;have:=ai.2.1 l (cG (iT aj).2.2);rw[aA]at this;cases this
 | qC l hk dD aj af=>
  rcases xK l with⟨k,_⟩ | ⟨_,_,ao,_⟩
  ·rw[af]at k;cases k
  exact absurd (ai.2.2 _ _ l dD aj) ao
 | token t x cm hk j8 bl aB bq aa qV=>
  refine⟨still (by omega),?_⟩;simp only[ap,b']at j8;obtain⟨cy,bw⟩:=amw h ai j8 bl aB bq aa qV;have p':∀e:Int,0<=e->p.a≠e->jt e (dx c p.a t x).1<=jt e c:=fun e he cf=>amx he j8.1 cf aa
  have uO:p.a=0\/p.a=1\/p.a=2\/p.a=3:=by omega
  have aj:(dx c p.a t x).1.news.length<=c.news.length+2:=by
   rcases bw with bw | ⟨bw,_⟩
   ·rw[bw];omega
   omega
  unfold sJ;rcases uO with h1 | h1 | h1 | h1
  ·have dR:=p' 1 (by decide) (by omega);have dH:=p' 2 (by decide) (by omega);have gF:=p' 3 (by decide) (by omega);rw[h1]at cy dR dH gF aj ⊢;omega
  ·have dR:=p' 0 (by decide) (by omega);have dH:=p' 2 (by decide) (by omega);have gF:=p' 3 (by decide) (by omega);rw[h1]at cy dR dH gF aj ⊢;omega
  ·have dR:=p' 0 (by decide) (by omega);have dH:=p' 1 (by decide) (by omega);have gF:=p' 3 (by decide) (by omega);rw[h1]at cy dR dH gF aj ⊢;omega
  have dR:=p' 0 (by decide) (by omega);have dH:=p' 1 (by decide) (by omega);have gF:=p' 2 (by decide) (by omega);rw[h1]at cy dR dH gF aj ⊢;omega
 | qZ k n x hk wE aB aa=>
  refine⟨still (by omega),?_⟩;obtain⟨s1,s2,_⟩:e0 0 (ea x n)=e0 0 x/\gn 0 (ea x n)=gn 0 x/\kn 0 (ea x n)=kn 0 x:=Gh;have o:∀e:Int,jt e (hg (setW c p.a (ea x n)) (cutAt c.news k))<=jt e c:=fun e=>by
   obtain⟨s1,s2,_⟩:=Gh (x:=x) (n:=n) (e:=e);exact Ck (y:=ea x n) aa rfl rfl s2 s1 fun q=>by rw[Gg,q,Bool.true_or]
  have aj:(cutAt c.news k).length+1=c.news.length:=by
   have:=aX wE;simp only[cutAt,k7,qs,List.length_drop];omega
  have y4:=o 0;have dR:=o 1;have dH:=o 2;have gF:=o 3;unfold sJ;change 3*_+(cutAt c.news k).length<_;omega
end Go.Proofs.YtdchjefneblpgaaGreat
namespace Go.Proofs.YtdchjefneblpgaaGreat
open Go.Sx Go.RowKit
structure Fin (e:Int) (c:aU):Prop where
 first:hr e c=false->nV c e=false/\nc c e=false
 reach:hr e c=true->∀(i:Nat) x,0<i->c.aq[i]?=some x->ew x e=true\/∃n∈c.news,n.dest=i/\n.a7=e
 flag:∃b:Bool,(∀x∈c.aq,∀d∈x.b1,d.a7=e->d.ca=b)/\(∀n∈c.news,n.a7=e->n.ca=b)/\(hr e c=true->b=false->∀x∈c.aq,kn e x=false)
variable{c:aU}
theorem x3{x:aL}(h:b3 c 0=some x):c.aq[0]?=some x:=(eK h).2.2
theorem xW{e i:Int}{d:aU}{x y:aL}(h:Fin e c)(sg:Inv e c)(aa:b3 c i=some x)(hw:d.aq=c.aq.set i.toNat y)(aK:d.news=c.news)(aB:y.b1=x.b1)(af:kA x e=true->kn e y=kn e x):Fin e d:=by
 obtain⟨i0,i1,i2⟩:=eK aa;have kO:∀f,ew y f=ew x f:=fun f=>by unfold ew;rw[aB]
 have ie:hr e d=hr e c:=by
  unfold hr b3;rw[aZ (by decide),aZ (by decide),hw];by_cases hi:i.toNat=0
  ·rw[hi]at i2 ⊢;rw[show (0:Int).toNat=0 from rfl,py i2,i2];exact kO e
  rw[show (0:Int).toNat=0 from rfl,jy,a6 hi]
 refine⟨fun bg=>?_,fun bg j z aP aW=>?_,?_⟩
 ·rw[ie]at bg;obtain⟨t1,t2⟩:=h.first bg
  refine⟨?_,by unfold nc;rw[aK];exact t2⟩;unfold nV at t1 ⊢;rw[ff]at t1 ⊢;intro z aW;rw[hw]at aW;rcases h8 aW with aW | rfl
  ·exact t1 z aW
  rw[kO];exact t1 x (cG i2)
 ·rw[ie]at bg;rw[aK];rw[hw]at aW;rcases vG aW with⟨rfl,rfl⟩ | ⟨_,aW⟩
  ·rw[kO];exact h.reach bg _ x aP i2
  exact h.reach bg j z aP aW
 obtain⟨b,eU,fH,mE⟩:=h.flag;refine⟨b,fun z aW=>?_,by rw[aK];exact fH,fun bg ao z aW=>?_⟩
 ·rw[hw]at aW;rcases h8 aW with aW | rfl
  ·exact eU z aW
  rw[aB];exact eU x (cG i2)
 rw[ie]at bg;rw[hw]at aW;rcases h8 aW with aW | rfl
 ·exact mE bg ao z aW
 have aA:=(sg.Af (by
  have ai:hr e c=true:=bg;obtain⟨cm,lF⟩:∃cm,b3 c 0=some cm:=oF (by decide) (by omega);rw[pB lF]at ai;rw[ni];exact .inl (l9.2 ⟨cm,cG (x3 lF),ai⟩))).1 x (cG i2)
 rw[af aA];exact mE bg ao x (cG i2)
theorem Fin.step{e:Int}{d:aU}{p:b9}(h:Fin e c)(sg:Inv e c)(he:0<=e/\e<=3)(bD:cq c=true)(st:Step c p d):Fin e d:=by
 cases st with
 | work x r q hk aa ai aA=>
  refine xW h sg aa rfl rfl rfl fun k=>?_
  obtain⟨cy,bw,fc⟩:=pz.1 k;rw[aA]at bw;have fP:=bw r (eY ..);have az:=Md (ik.1 (jr bD aa)).1 (r:=r) (by rw[aA];exact eY ..);unfold kn;dsimp only;split
  ·exact xM (xN az.1 he.1 fP)
  rfl
 | input x r t hk aa ai aA hi=>exact xW h sg aa rfl rfl rfl fun _=>rfl
 | eW x r t hk aa ai aN=>exact xW h sg aa rfl rfl rfl fun _=>rfl
 | send x r t l hk aa ai aN aj hsend=>exact xW h sg aa rfl rfl rfl fun _=>rfl
 | take l x hk dD aj aa bq=>exact xW h sg aa rfl rfl rfl fun _=>rfl
 | qC l hk dD aj af=>exact⟨h.first,h.reach,h.flag⟩
 | token t x cm hk j8 bl aB bq aa qV=>
  rcases qh c p.a t x with⟨_,k⟩ | ⟨_,hp,⟨_,k⟩ | ⟨_,_,k⟩ | ⟨ar,sb,ao,k⟩ | ⟨_,_,_,k⟩⟩
  ·rw[k];exact h
  ·rw[k];exact xW h sg aa rfl rfl rfl fun _=>rfl
  ·rw[k];exact xW h sg aa rfl rfl rfl fun _=>rfl
  ·rw[k];have aW:t.place=0:=by have:=(eK aa).1;omega
   rw[aW,bl]at aa;obtain rfl:cm=x:=eQ aa;obtain⟨i0,i1,i2⟩:=eK bl;simp only[ap,b']at j8;have ie:hr e (hg (setW (cM c p.a ⟨false,t.place,t.sum,t.bV,t.ca⟩) 0 (told cm p.a (t.ca||cm.bm.getD p.a.toNat false))) (c.news++fU (c.aq.length-1) p.a (t.ca||cm.bm.getD p.a.toNat false)))=(ew cm e||p.a==e):=by
    unfold hr;rw[show b3 (hg (setW (cM c p.a ⟨false,t.place,t.sum,t.bV,t.ca⟩) 0 (told cm p.a (t.ca||cm.bm.getD p.a.toNat false))) (c.news++fU (c.aq.length-1) p.a (t.ca||cm.bm.getD p.a.toNat false))) 0=some (told cm p.a (t.ca||cm.bm.getD p.a.toNat false)) from py i2];exact vH
   by_cases uU:p.a=e
   ·subst uU;have Zb:hr p.a c=false:=by rw[pB bl];exact aB
    obtain⟨t1,t2⟩:=h.first Zb
    obtain⟨_,f'⟩:=sg.over bq ar sb (by rw[aW];exact bl) hp ao;refine⟨fun bg=>?_,fun _ j z aP jf=>?_,⟨t.ca||kn p.a cm,fun z jf d iL ny=>?_,fun n je cf=>?_,fun _ di z jf=>?_⟩⟩
    ·rw[ie]at bg;simp at bg
    ·right;have j9:=aX jf;rw[show (hg (setW (cM c p.a ⟨false,t.place,t.sum,t.bV,t.ca⟩) 0 (told cm p.a (t.ca||cm.bm.getD p.a.toNat false))) (c.news++fU (c.aq.length-1) p.a (t.ca||cm.bm.getD p.a.toNat false))).aq.length=c.aq.length from fN]at j9;refine⟨⟨((j-1:Nat):Int)+1,p.a,t.ca||cm.bm.getD p.a.toNat false⟩,io _ (jZ.2 ⟨j-1,List.mem_range.2 (by omega),rfl⟩),?_,rfl⟩;change ((j-1:Nat):Int)+1=(j:Int);omega
    ·rcases h8 jf with jf | rfl
     ·exfalso;unfold nV at t1;rw[ff]at t1;exact t1 z jf (l9.2 ⟨d,iL,by simpa using ny⟩)
     rcases gV.1 iL with iL | iL
     ·exfalso;rw[h7]at aB;exact aB (l9.2 ⟨d,iL,by simpa using ny⟩)
     obtain rfl:d=⟨p.a,t.ca||cm.bm.getD p.a.toNat false⟩:=by simpa using iL
     rfl
    ·rcases gV.1 je with je | je
     ·exfalso;unfold nc at t2;rw[ff]at t2;exact t2 n je (by simpa using cf)
     obtain⟨_,_,rfl⟩:=jZ.1 je;rfl
    rcases h8 jf with jf | rfl
    ·exact f' di z jf
    exact f' di cm (cG i2)
   have PK:(p.a==e)=false:=by simpa using uU
   rw[PK,Bool.or_false]at ie;have Iv:hr e c=ew cm e:=pB bl;have kO:ew (told cm p.a (t.ca||cm.bm.getD p.a.toNat false)) e=ew cm e:=by rw[vH,PK,Bool.or_false]
   refine⟨fun bg=>?_,fun bg j z aP jf=>?_,?_⟩
   ·rw[ie,<-Iv]at bg;obtain⟨t1,t2⟩:=h.first bg
    refine⟨?_,(T2 uU).trans t2⟩;unfold nV at t1 ⊢;rw[ff]at t1 ⊢;intro z jf;rcases h8 jf with jf | rfl
    ·exact t1 z jf
    rw[kO];exact t1 cm (cG i2)
   ·rw[ie,<-Iv]at bg;rcases vG jf with⟨rfl,rfl⟩ | ⟨_,jf⟩
    ·exact absurd aP (by decide)
    rcases h.reach bg j z aP jf with cw | ⟨n,cw,dt⟩
    ·exact .inl cw
    exact .inr ⟨n,hl _ cw,dt⟩
   obtain⟨b,eU,fH,mE⟩:=h.flag;refine⟨b,fun z jf d iL ny=>?_,fun n je cf=>?_,fun bg di z jf=>?_⟩
   ·rcases h8 jf with jf | rfl
    ·exact eU z jf d iL ny
    rcases gV.1 iL with iL | iL
    ·exact eU cm (cG i2) d iL ny
    obtain rfl:d=⟨p.a,t.ca||cm.bm.getD p.a.toNat false⟩:=by simpa using iL
    exact absurd ny uU
   ·rcases gV.1 je with je | je
    ·exact fH n je cf
    obtain⟨_,_,rfl⟩:=jZ.1 je;exact absurd cf uU
   rw[ie,<-Iv]at bg;rcases h8 jf with jf | rfl
   ·exact mE bg di z jf
   exact mE bg di cm (cG i2)
  rw[k];exact⟨h.first,h.reach,h.flag⟩
 | qZ k n x hk aK aB aa=>
  obtain⟨i0,i1,i2⟩:=eK aa;have IM:n∈c.news:=cG aK;have Pg:∀m∈cutAt c.news k,m∈c.news:=fun m hm=>by
   unfold cutAt at hm;rcases gV.1 hm with hm | hm
   ·exact rN hm
   exact ur hm
  have Ph:∀m∈c.news,m∈cutAt c.news k\/m=n:=fun m hm=>by
   obtain⟨j,aP⟩:=List.getElem?_of_mem hm;unfold cutAt;by_cases h1:j<k
   ·exact .inl (hl _ (cG (i:=j) (by rw[hj,aZ h1];exact aP)))
   by_cases U:j=k
   ·subst U;rw[aK]at aP;exact .inr (eQ aP).symm
   refine .inl (io _ (cG (i:=j-(k+1)) ?_));rw[gU,show k+1+(j-(k+1))=j by omega];exact aP
  have kO:∀f,ew (ea x n) f=(ew x f||n.a7==f):=fun f=>Gg
  have ie:hr e (hg (setW c p.a (ea x n)) (cutAt c.news k))=true->hr e c=true:=by
   intro bg;cases af:hr e c with
   | true=>rfl
   | false=>
    obtain⟨t1,t2⟩:=h.first af
    exfalso;have avm:∀m∈c.news,m.a7≠e:=fun m hm ZM=>by
     unfold nc at t2;rw[ff]at t2;exact t2 m hm (by simpa using ZM)
    have Wf:∀z∈c.aq,ew z e=false:=fun z aW=>by
     unfold nV at t1;rw[ff]at t1;simpa using t1 z aW
    obtain⟨cm,lF⟩:∃cm,b3 (hg (setW c p.a (ea x n)) (cutAt c.news k)) 0=some cm:=oF (by decide) (by rw[show (hg (setW c p.a (ea x n)) (cutAt c.news k)).aq.length=c.aq.length from fN];omega);rw[pB lF]at bg;have hm:=cG (x3 lF);rcases h8 hm with hm | rfl
    ·rw[Wf cm hm]at bg;cases bg
    rw[kO,Wf x (cG i2),jY]at bg;exact avm n IM (by simpa using bg)
  have Y6:hr e c=true->hr e (hg (setW c p.a (ea x n)) (cutAt c.news k))=true:=by
   intro af;obtain⟨cm,lF⟩:∃cm,b3 c 0=some cm:=oF (by decide) (by omega);rw[pB lF]at af;by_cases hi:p.a.toNat=0
   ·have Jb:x=cm:=by
     have:=x3 lF;rw[hi]at i2;rw[i2]at this;exact eQ this
    subst Jb;rw[pB (x:=ea x n) (show b3 (hg (setW c p.a (ea x n)) (cutAt c.news k)) 0=some (ea x n) by
     unfold b3;rw[aZ (by decide)];change (c.aq.set p.a.toNat (ea x n))[0]?=_;rw[hi]at i2 ⊢;exact py i2),kO,af,Bool.true_or]
   rw[pB (x:=cm) (show b3 (hg (setW c p.a (ea x n)) (cutAt c.news k)) 0=some cm by
    unfold b3;rw[aZ (by decide)];exact Cv (x3 lF) (fun q=>hi q.symm))]
   exact af
  refine⟨fun bg=>?_,fun bg j z aP aW=>?_,?_⟩
  ·have af:hr e c=false:=by
    rw[h7];intro af;rw[Y6 af]at bg;cases bg
   obtain⟨t1,t2⟩:=h.first af
   unfold nV at t1 ⊢;unfold nc at t2 ⊢;rw[ff]at t1 t2 ⊢;refine⟨fun z aW=>?_,?_⟩
   ·rcases h8 aW with aW | rfl
    ·exact t1 z aW
    rw[kO,ni];exact fun q=>q.elim (t1 x (cG i2)) (t2 n IM)
   rw[ff];exact fun m hm=>t2 m (Pg m hm)
  ·have af:=ie bg;rcases vG aW with⟨rfl,rfl⟩ | ⟨cf,aW⟩
   ·rw[kO];rcases h.reach af _ x aP i2 with cw | ⟨m,cw,dt,eE⟩
    ·exact .inl (by rw[cw,Bool.true_or])
    rcases Ph m cw with cw | rfl
    ·exact .inr ⟨m,cw,dt,eE⟩
    exact .inl (by rw[show (m.a7==e)=true by simpa using eE,Bool.or_true])
   rcases h.reach af j z aP aW with cw | ⟨m,cw,dt,eE⟩
   ·exact .inl cw
   rcases Ph m cw with cw | rfl
   ·exact .inr ⟨m,cw,dt,eE⟩
   exfalso;rw[aB]at dt;omega
  obtain⟨b,eU,fH,mE⟩:=h.flag;refine⟨b,fun z aW d iL ny=>?_,fun m hm=>fH m (Pg m hm),fun bg ao z aW=>?_⟩
  ·rcases h8 aW with aW | rfl
   ·exact eU z aW d iL ny
   unfold ea at iL;split at iL
   ·exact eU x (cG i2) d iL ny
   rcases gV.1 iL with iL | iL
   ·exact eU x (cG i2) d iL ny
   obtain rfl:d=⟨n.a7,n.ca⟩:=by simpa using iL
   exact fH n IM ny
  rcases h8 aW with aW | rfl
  ·exact mE (ie bg) ao z aW
  rw[(Gh (x:=x) (n:=n) (e:=e)).2.2];exact mE (ie bg) ao x (cG i2)
