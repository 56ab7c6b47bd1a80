import Derived.Test.YtdchjefneblpgaaGreatP52
set_option linter.unusedVariables false
set_option linter.unusedSimpArgs false
namespace Go.Proofs.YtdchjefneblpgaaGreat
open Go.Sx Go.RowKit
def Still(c:aU):Prop:=(∀x∈c.ap,x.queue=[]/\x.ck=[]/\x.bT=[])/\(∀l∈c.bQ,l.queue=[])/\∀(a b:Int) l,a≠b->ee c (dF c.aF a b)=some l->l.back=0
section
variable {c : aU} {S b : Int}
variable{i:Int}{x:aP}
theorem ai8(bH:cF c=true)(aa:b9 c i=some x)(ae:x.ck=[])(h:(de c ⟨1,i,b⟩).2=false):x.queue=[]:=by
 have ao:=(fU.1 bH).1;have hw:=jH bH aa;cases av:x.queue with
 | nil=>rfl
 | cons r q=>
  exfalso;simp only[de,mb,bH,aa,f',ao,hw,ae,av]at h;simp at h
theorem ai9(bH:cF c=true)(aa:b9 c i=some x)(ae:x.ck=[])(av:x.queue=[])(h:(de c ⟨2,i,b⟩).2=false):x.bT=[]:=by
 have ao:=(fU.1 bH).1;have hw:=jH bH aa;cases hi:x.bT with
 | nil=>rfl
 | cons r q=>
  exfalso;simp only[de,mc,bH,aa,ga,ao,hw,ae,av,hi]at h;simp at h
theorem Ud(bH:cF c=true){j:Int}{l:bC}(lV:i≠j)(af:ee c (dF c.aF i j)=some l)(h:(de c ⟨5,i,j⟩).2=false):l.back=0:=by
 have hk:=(px.1 (rI bH af)).1;have b5:(i != j)=true:=by simpa using lV
 refine Classical.byContradiction fun ah=>?_
 have c7:(l.back != 0)=true:=by simpa using ah
 simp only[de,k2,bH,af,b5,gw,hk,c7]at h;simp at h
theorem aja(bH:cF c=true){j:Int}{l:bC}(lV:i≠j)(af:ee c (dF c.aF i j)=some l)(aa:b9 c j=some x)(h:(de c ⟨4,i,j⟩).2=false):l.queue=[]:=by
 have hk:=(px.1 (rI bH af)).1;have b5:(i != j)=true:=by simpa using lV
 cases av:l.queue with
 | nil=>rfl
 | cons r q=>
  exfalso;simp only[de,lG,bH,af,aa,b5,dJ,hk,av]at h;simp at h
theorem ajb(bH:cF c=true)(ah:iU S c)(fF:S<=200000)(aa:b9 c i=some x)(ad:∀j l,j≠i->ee c (dF c.aF i j)=some l->l.fh≠0)(h:(de c ⟨3,i,b⟩).2=false):x.ck=[]:=by
 have aL:=jZ (fU.1 bH).1;have hlen:=(fU.1 bH).2.1;obtain⟨i0,i1,_⟩:=er aa;cases ae:x.ck with
 | nil=>rfl
 | cons r t=>
  exfalso;have au:(de c ⟨3,i,b⟩).2=(qC c i x r t (eE r.key c.aF.ap)).2:=by
   simp only[de,lF,bH,aa,ae];simp
  rw[au]at h;unfold qC at h;split at h
  ·cases h
  rename_i aN;have hi:aW i 0 (c.aF.ap-1)=true:=by simp only[aW,ci];omega
  obtain⟨l,af⟩:=D3 bH hi (D2 r.key aL.1);have hk:=(px.1 (rI bH af)).1;have arY:=ah.eV l (c8 (iq af).2.2);have nz:=ad _ l aN af;have ar:=(h6.1 (jH bH aa)).2.1;rw[ae,qj]at ar;have ar:=ar.1;simp only[km,gz,lf]at ar;have YC:(eI l r).2=true:=by
   unfold eI;rw[hk,ar.1,show (l.fh != 0)=true by simpa using nz,ji (by omega)];rfl
  rw[af]at h;simp only[YC]at h;simp at h
end
theorem TF{n w:Nat}(h:w<n){p:cE}(hp:p∈ql w):p∈pz n:=by
 unfold pz;exact jN.2 ⟨w,List.mem_range.2 h,hp⟩
theorem ajc{n a b:Nat}(ag:a<n)(ah:b<n){p:cE}(hp:p∈na a b):p∈pA n n:=by
 unfold pA rK;exact jN.2 ⟨a,List.mem_range.2 ag,jN.2 ⟨b,List.mem_range.2 ah,hp⟩⟩
theorem K0{g:bW}(h:1<=g.ap/\g.ap<=4):hf g.ap 0 4=g.ap:=by
 unfold hf;rw[aX (by omega),aX (by omega),aX (by omega)]
theorem ajd{n:Int}(aL:1<=n/\n<=4){k:Nat}(hk:(k:Int)<n*n):∃a b:Nat,(a:Int)<n/\(b:Int)<n/\(k:Int)=a*n+b:=by
 have aH:n=1\/n=2\/n=3\/n=4:=by omega
 refine⟨((k:Int) / n).toNat,((k:Int) % n).toNat,?_⟩;rcases aH with rfl | rfl | rfl | rfl<;>omega
structure Same (c d:aU):Prop where
 aF:d.aF=c.aF
 bQ:d.bQ=c.bQ
 len:d.ap.length=c.ap.length
 w:∀(i:Nat) x,c.ap[i]?=some x->∃y,d.ap[i]?=some y/\y.queue=x.queue/\y.ck=x.ck/\y.bT=x.bT
variable{c:aU}
theorem Same.rfl:Same c c:=⟨Eq.refl _,Eq.refl _,Eq.refl _,fun _ x h=>⟨x,h,Eq.refl _,Eq.refl _,Eq.refl _⟩⟩
variable{d:aU}
theorem Same.trans{e:aU}(h:Same c d)(k:Same d e):Same c e:=⟨k.aF.trans h.aF,k.bQ.trans h.bQ,k.len.trans h.len,fun i x aa=>by
 obtain⟨y,a1,h1,U,au⟩:=h.w i x aa;obtain⟨z,aR,cC,b6,eH⟩:=k.w i y a1;exact⟨z,aR,cC.trans h1,b6.trans U,eH.trans au⟩⟩
theorem Same.b9(h:Same c d){i:Int}{x:aP}(aa:b9 c i=some x):∃y,b9 d i=some y/\y.queue=x.queue/\y.ck=x.ck/\y.bT=x.bT:=by
 obtain⟨bm,_,U⟩:=er aa;unfold Go.Proofs.YtdchjefneblpgaaGreat.b9;rw[a6 bm];exact h.w _ x U
theorem Same.ee(h:Same c d)(a b:Int):ee d (dF d.aF a b)=ee c (dF c.aF a b):=by
 unfold Go.Proofs.YtdchjefneblpgaaGreat.ee;rw[h.bQ,h.aF]
theorem Same.set{i:Int}{x y:aP}(aa:Go.Proofs.YtdchjefneblpgaaGreat.b9 c i=some x)(h1:d.aF=c.aF)(U:d.bQ=c.bQ)(au:d.ap=c.ap.set i.toNat y)(aH:y.queue=x.queue)(ba:y.ck=x.ck)(br:y.bT=x.bT):Same c d:=
 ⟨h1,U,by rw[au,eQ],fun j z aR=>by
  rw[au];by_cases aM:j=i.toNat
  ·subst aM;rw[(er aa).2.2]at aR;cases aR;exact⟨y,oO (er aa).2.2,aH,ba,br⟩
  exact⟨z,AF aR aM,Eq.refl _,Eq.refl _,Eq.refl _⟩⟩
def Ct(c:aU)(p:cE):Prop:=∃(d:aU) (S:Int),cF d=true/\iU S d/\S<=200000/\Same c d/\(de d p).2=false
theorem TG(bH:cF c=true)(gi:∀p∈gb c,p.kind<=5->Ct c p):Still c:=by
 obtain⟨ao,pa,G6,_⟩:=fU.1 bH;have aL:=jZ ao;obtain⟨n,iE⟩:∃n:Nat,c.aF.ap=n:=⟨c.aF.ap.toNat,by omega⟩
 have Ym:∀p∈pz n,p∈gb c:=fun p hp=>by
  unfold gb;rw[K0 aL,iE,jh];exact gm _ (gm _ hp)
 have Yn:∀p∈pA n n,p∈gb c:=fun p hp=>by
  unfold gb;rw[K0 aL,iE,jh];exact gm _ (hZ _ hp)
 have four:∀w:Nat,w<n->∀p∈ql w,p.kind<=5->Ct c p:=fun w hw p hp hk=>gi p (Ym p (TF hw hp)) hk
 have two:∀a b:Nat,a<n->b<n->∀p∈na a b,p.kind<=5->Ct c p:=fun a b ag sm p hp hk=>gi p (Yn p (ajc ag sm hp)) hk
 have inr:∀a:Nat,a<n->aW (a:Int) 0 (c.aF.ap-1)=true:=fun a ag=>by simp only[aW,ci];omega
 have bQ:∀a b:Nat,a<n->b<n->a≠b->∀l,ee c (dF c.aF a b)=some l->l.queue=[]/\l.back=0:=fun a b ag sm dW l af=>by
  obtain⟨x,aa⟩:=py (c:=c) (i:=(b:Int)) (by omega) (by omega);have m4:(⟨4,(a:Int),(b:Int)⟩:cE)∈na a b:=by simp[na,dW]
  have m5:(⟨5,(a:Int),(b:Int)⟩:cE)∈na a b:=by simp[na,dW]
  obtain⟨d,S,d1,d2,d3,d4,d5⟩:=two a b ag sm _ m4 (by dsimp only;omega);obtain⟨f,T,f1,f2,f3,f4,f5⟩:=two a b ag sm _ m5 (by dsimp only;omega);obtain⟨y,a1,_⟩:=d4.b9 aa;exact⟨aja d1 (by omega) ((d4.ee _ _).trans af) a1 d5,Ud f1 (by omega) ((f4.ee _ _).trans af) f5⟩
 have Ws:∀a:Nat,a<n->∀(j:Int) l,j≠a->ee c (dF c.aF a j)=some l->l.fh≠0:=fun a ag j l aM af=>by
  obtain⟨_,g2⟩:=E2 (iq af).1;simp only[aW,ci]at g2;obtain⟨b,rfl⟩:∃b:Nat,j=b:=⟨j.toNat,by omega⟩
  obtain⟨q1,k1⟩:=bQ a b ag (by omega) (by omega) l af;obtain⟨cC,_,_,l1,_⟩:=oR.1 (px.1 (rI bH af)).1;simp only[aW,ci]at cC;rw[q1,k1]at l1;simp only[b1]at l1;omega
 refine⟨?_,?_,fun a b l dW af=>?_⟩
 ·intro x aa;obtain⟨w,hw⟩:=List.getElem?_of_mem aa;have ar2:=bh hw;have lr:b9 c (w:Int)=some x:=by unfold b9;rw[a6 (by omega)];simpa using hw
  obtain⟨d,S,d1,d2,d3,d4,d5⟩:=four w (by omega) ⟨3,w,0⟩ (by simp[ql]) (by dsimp only;omega);obtain⟨y,a1,e9,fb,V4⟩:=d4.b9 lr;have ae:=ajb d1 d2 d3 a1 (fun j l aM af=>Ws w (by omega) j l aM ((d4.ee _ _).symm.trans af)) d5;rw[fb]at ae;obtain⟨f,T,f1,f2,f3,f4,f5⟩:=four w (by omega) ⟨1,w,0⟩ (by simp[ql]) (by dsimp only;omega);obtain⟨z,aR,aqO,z2,z3⟩:=f4.b9 lr;have av:=ai8 f1 aR (z2.trans ae) f5;rw[aqO]at av;obtain⟨u,aqT,qI,tm,xd,aqE,aqF⟩:=four w (by omega) ⟨2,w,0⟩ (by simp[ql]) (by dsimp only;omega);obtain⟨v,bj,v1,v2,v3⟩:=aqE.b9 lr;have hi:=ai9 qI bj (v2.trans ae) (v1.trans av) aqF;rw[v3]at hi;exact⟨av,ae,hi⟩
 ·intro l af;obtain⟨k,hk⟩:=List.getElem?_of_mem af;have xH:=bh hk;obtain⟨a,b,ag,sm,e⟩:=ajd aL (k:=k) (by omega);obtain⟨iI,x1,_,tX,Zt⟩:=wS aL (inr a (by omega)) (inr b (by omega));have kU:ee c (dF c.aF a b)=some l:=by
   unfold ee;rw[iI,a6 x1,<-e];simpa using hk
  by_cases dW:a=b
  ·subst dW;have W4:=px.1 (rI bH kU);have YJ:(((dF c.aF a a).toNat:Nat):Int)=a*c.aF.ap+a:=by rw[Bv kU,iI]
   exact W4.2.2.2 (by rw[YJ,tX,Zt])
  exact (bQ a b (by omega) (by omega) dW l kU).1
 obtain⟨g1,g2⟩:=E2 (iq af).1;simp only[aW,ci]at g1 g2;obtain⟨i,rfl⟩:∃i:Nat,a=i:=⟨a.toNat,by omega⟩
 obtain⟨j,rfl⟩:∃j:Nat,b=j:=⟨b.toNat,by omega⟩
 exact (bQ i j (by omega) (by omega) (by omega) l af).2
end Go.Proofs.YtdchjefneblpgaaGreat
namespace Go.Proofs.YtdchjefneblpgaaGreat
open Go.Sx Go.RowKit
structure qQ (P:kx) (S:Int) (c:aU):Prop where
 all:j5 S c
 of:P.zj c
variable{P:kx}{c:aU}
theorem qQ.step{S:Int}(h:qQ P S c)(fF:S<200000)(p:cE):qQ P (S+1) (de c p).1:=by
 refine⟨h.all.step fF p,?_⟩;rcases wW c p with⟨_,U⟩ | ⟨_,_,st⟩
 ·rw[U];exact h.of
 exact h.of.step h.all.ok st (JY c p).aF
theorem TH{d:aU}{p:cE}(st:Step c p d)(hk:5<p.kind):Same c d:=by
 cases st with
 | work x r q iY=>omega
 | input x r t iY=>omega
 | ey x r t iY=>omega
 | send x r t l iY=>omega
 | take l x iY=>omega
 | o3 l iY=>omega
 | token t x cJ iY ig bm ax bt aa o5=>
  rcases oS c p.a t x with⟨_,k⟩ | ⟨_,_,⟨_,k⟩ | ⟨_,_,k⟩ | ⟨_,bm,_,k⟩ | ⟨_,_,_,k⟩⟩
  ·rw[k];exact .rfl
  ·rw[k];exact .set aa rfl rfl rfl rfl rfl rfl
  ·rw[k];exact .set aa rfl rfl rfl rfl rfl rfl
  ·rw[k];have aR:t.place=0:=by have:=(er aa).1;omega
   rw[aR]at aa;exact .set aa rfl rfl rfl rfl rfl rfl
  rw[k];exact⟨rfl,rfl,rfl,Same.rfl.w⟩
 | o6 k n x iY aL ax aa=>
  refine .set (y:=dZ x n) aa rfl rfl rfl ?_ ?_ ?_<;>(unfold dZ;split<;>rfl)
def E9:List cE->Bool
 | []=>true
 | p::l=>(if p.kind=4 then (match l with | q::_=>decide (q=⟨5,p.a,p.b⟩) | []=>false) else true)&&E9 l
theorem TI(aL:1<=c.aF.ap/\c.aF.ap<=4):E9 (gb c)=true/\(gb c).length<=44:=by
 have h:c.aF.ap=1\/c.aF.ap=2\/c.aF.ap=3\/c.aF.ap=4:=by omega
 unfold gb;rcases h with h | h | h | h<;>(rw[h];decide +kernel)
theorem aje{i:Int}{l m:bC}(h:ee c i=some l):ee (c0 c i m) i=some m:=by
 obtain⟨bm,_,U⟩:=iq h;unfold ee c0;rw[a6 bm];exact oO U
theorem TJ:∀(l:List cE) {S:Int} {c:aU},qQ P S c->S+l.length<=200000->E9 l=true->
  gl P (cZ c l).1<=gl P c/\(gl P (cZ c l).1=gl P c->Same c (cZ c l).1/\∀p∈l,p.kind<=5->Ct c p)
 | [],S,c,h,fF,_=>⟨dm _,fun _=>⟨.rfl,fun p hp=>by cases hp⟩⟩
 | p::l,S,c,h,fF,hp=>by
  simp only[dn]at fF;simp only[E9,ca]at hp;have h1:=h.step (by omega) p;obtain⟨i1,i2⟩:=TJ l h1 (by omega) hp.2;simp only[cZ];rcases wW c p with⟨cC,b6⟩ | ⟨_,_,st⟩
  ·rw[b6]at i1 i2 ⊢;refine⟨i1,fun he=>?_⟩;obtain⟨qa,ou⟩:=i2 he;refine⟨qa,fun q av hk=>?_⟩;rcases dG.1 av with rfl | av
   ·exact⟨c,S,h.all.ok,h.all.tx,by omega,.rfl,cC⟩
   exact ou q av hk
  have C6:=ahL h.of h.all.owns h.all.ok st;refine⟨by omega,fun he=>?_⟩;have Yq:¬(p.kind<=5/\p.kind≠4):=fun av=>by rw[a6 av]at C6;omega
  rw[aX Yq]at C6;obtain⟨qa,ou⟩:=i2 (by omega);by_cases aH:p.kind=4
  ·exfalso;rw[a6 aH]at hp;cases l with
   | nil=>cases hp.1
   | cons q ht=>
    have av:q=⟨5,p.a,p.b⟩:=by simpa using hp.1
    obtain⟨d,T,d1,d2,d3,d4,d5⟩:=ou q (eF ..) (by rw[av];dsimp only;omega);subst av;generalize (de c p).1=c1 at*;cases st with
    | work x r q iY=>omega
    | input x r t iY=>omega
    | ey x r t iY=>omega
    | send x r t l iY=>omega
    | take l x iY dW af aa bt=>
     obtain⟨iB,r,q,av,e2,e1⟩:=wU bt;have ah:=(oR.1 iB).2.2.1;simp only[aW,ci]at ah;have cU:ee (setW (c0 c (dF c.aF p.a p.b) (dJ l).1) p.b (hV x (dJ l).2.1)) (dF c.aF p.a p.b)=some (dJ l).1:=aje af;have bm:=Ud d1 dW ((d4.ee p.a p.b).trans cU) d5;rw[e1]at bm;dsimp only at bm;omega
    | o3 l iY=>omega
    | token t x cJ iY=>omega
    | o6 k n x iY=>omega
  have XV:5<p.kind:=by omega
  have ae:=TH st XV;refine⟨ae.trans qa,fun q av hk=>?_⟩;rcases dG.1 av with rfl | av
  ·omega
  obtain⟨d,T,d1,d2,d3,d4,d5⟩:=ou q av hk;exact⟨d,T,d1,d2,d3,ae.trans d4,d5⟩
theorem ajf{S:Int}(h:qQ P S c)(fF:S+44<=200000)(aL:¬Still c):gl P (iu c).1<gl P c:=by
 obtain⟨ff,a2⟩:=TI (jZ (fU.1 h.all.ok).1);obtain⟨h1,U⟩:=TJ (gb c) h (by omega) ff;refine Classical.byContradiction fun ad=>?_
 have he:gl P (cZ c (gb c)).1=gl P c:=by
  unfold iu at ad;dsimp only at ad;omega
 exact aL (TG h.all.ok (U he).2)
theorem qQ.run:∀(l:List cE) {S:Int} {c:aU},qQ P S c->S+l.length<=200000->qQ P (S+l.length) (cZ c l).1
 | [],S,c,h,_=>by simpa[cZ]using h
 | p::l,S,c,h,fF=>by
  simp only[dn]at fF ⊢;have:=qQ.run l (h.step (by omega) p) (by omega);simp only[cZ];rw[show S+((l.length+1:Nat):Int)=S+1+l.length by omega];exact this
end Go.Proofs.YtdchjefneblpgaaGreat
namespace Go.Proofs.YtdchjefneblpgaaGreat
open Go.Sx Go.RowKit
def rX(e:Int)(c:aU)(k:Nat):Bool:=(c.ap.take k).all fun x=>!fV e x
def nd(e:Int)(c:aU)(k:Nat):Bool:=(c.ap.drop k).all fun x=>!fV e x
def pS(e:Int)(c:aU)(t:b'):Bool:=!t.bL&&rX e c (t.place.toNat+1)&&decide (gG e c (t.place.toNat+1)+t.sum=0)
def pG(e:Int)(c:aU)(t:b'):Nat:=
 if t.going=true then (if pS e c t=true then t.place.toNat+1 else if nd e c (t.place.toNat+1)=true then t.place.toNat+1+(c.ap.length+1) else t.place.toNat+1+(2*c.ap.length+2))
 else if nd e c 1=true then c.ap.length+1 else 2*c.ap.length+2
def gQ(e:Int)(c:aU):Bool:=match b9 c 0 with | some x=>eD x e | none=>true
def iQ(e:Int)(c:aU):Nat:=if gQ e c=true then 0 else match hg c e with | some t=>pG e c t | none=>0
def rR(c:aU):Nat:=3*(iQ 0 c+iQ 1 c+iQ 2 c+iQ 3 c)+c.news.length
theorem TK{α:Type}(f:α->Bool){x:α}:∀{xs:List α} {i k:Nat},((xs.take k).all f=true)->f x=true->((xs.set i x).take k).all f=true
 | [],_,_,_,_=>by simp
 | a::xs,0,0,_,_=>by simp
 | a::xs,i+1,0,_,_=>by simp
 | a::xs,0,k+1,h,aa=>by
  simp only[List.set_cons_zero,List.take_succ_cons,List.all_cons,ca]at h ⊢;exact⟨aa,h.2⟩
 | a::xs,i+1,k+1,h,aa=>by
  simp only[List.set_cons_succ,List.take_succ_cons,List.all_cons,ca]at h ⊢;exact⟨h.1,TK f h.2 aa⟩
theorem K1{α:Type}(f:α->Bool){x:α}:∀{xs:List α} {i k:Nat},((xs.drop k).all f=true)->f x=true->((xs.set i x).drop k).all f=true
 | [],_,_,_,_=>by simp
 | a::xs,0,0,h,aa=>by
  simp only[List.set_cons_zero,oX,List.all_cons,ca]at h ⊢;exact⟨aa,h.2⟩
 | a::xs,i+1,0,h,aa=>by
  simp only[List.set_cons_succ,oX,List.all_cons,ca]at h ⊢;refine⟨h.1,?_⟩;have:=K1 f (xs:=xs) (i:=i) (k:=0) (by simpa using h.2) aa;simpa using this
 | a::xs,0,k+1,h,_=>by simpa using h
 | a::xs,i+1,k+1,h,aa=>by
  have:=K1 f (xs:=xs) (i:=i) (k:=k) (by simpa using h) aa;simpa using this
variable{c:aU}{e:Int}
theorem pB{x:aP}(h:b9 c 0=some x):gQ e c=eD x e:=by
 unfold gQ;rw[h]
variable{x:aP}
theorem ajg(af:x.bL.length=4)(he:0<=e/\e<=3):(!fV e (eg x e))=true:=by
 unfold fV eg;dsimp only;rw[Bm (by omega)];rfl
section
variable {e : Int} {c : aU} {t u : b'} {x : aP}
theorem TL(aa:b9 c t.place=some x)(k:Nat):gG e (setW (cP c e u) t.place (eg x e)) k=gG e c k:=by
 have:=ya (fm e) (eg x e) (k:=k) (er aa).2.2;rw[show fm e (eg x e)=fm e x from rfl,Int.sub_self,ite_self,Int.add_zero]at this;exact this
end
theorem Still.quiet(h:Still c)(e:Int):quiet e c:=by
 refine⟨fun x aa=>?_,?_⟩
 ·obtain⟨h1,U,au⟩:=h.1 x aa;rw[oP,h1,U,au];exact⟨fun r ar=>(by cases ar),fun r ar=>(by cases ar),fun r ar=>(by cases ar)⟩
 unfold iG;rw[w6 (g:=fun _=>0) fun l af=>by unfold nS mU;rw[h.2.1 l af];rfl,yZ]
theorem ajh{S:Int}{t:b'}{cJ:aP}(h:j5 S c)(ae:Still c)(he:0<=e/\e<=3)(bm:b9 c 0=some cJ)(ax:eD cJ e=false)(bt:hg c e=some t)(aa:b9 c t.place=some x)
  (o5:(d' c e t x).2=true):iQ e (d' c e t x).1+1<=iQ e c/\((d' c e t x).1.news=c.news\/((d' c e t x).1.news.length+1=c.news.length+c.ap.length/\gQ e (d' c e t x).1=true)):=by
 obtain⟨kp,gM,hY⟩:=er aa;obtain⟨_,C9,_⟩:=rJ.1 (yO h.ok bt);have vr:=(En (jH h.ok aa)).2.1;have hw:=ajg vr he;have total:gG e c c.ap.length=0:=by rw[(h.inv e he).total,(ae.quiet e).2];rfl
 have ad:iQ e c=pG e c t:=by
  unfold iQ;rw[aX (by rw[pB bm,ax];decide),bt]
 have hlen:∀u:b',(setW (cP c e u) t.place (eg x e)).ap.length=c.ap.length:=fun u=>eQ
 have hT:∀u:b',iQ e (setW (cP c e u) t.place (eg x e))<=pG e (setW (cP c e u) t.place (eg x e)) u:=fun u=>by
  unfold iQ;rw[show hg (setW (cP c e u) t.place (eg x e)) e=some u from Bn bt];split
  ·exact Nat.zero_le _
  exact dm _
 rcases oS c e t x with⟨k,_⟩ | ⟨_,hp,⟨ao,k⟩ | ⟨ao,q9,k⟩ | ⟨ao,q9,ah,k⟩ | ⟨ao,q9,ah,k⟩⟩
 ·rw[o5]at k;cases k
 ·
  rw[k];refine⟨?_,.inl rfl⟩;have aR:=C9 ao;refine ni (Nat.add_le_add_right (hT _) 1) ?_;rw[ad];unfold pG;rw[hlen,ao];dsimp only;have vH:((c.ap.length:Int)-1).toNat+1=c.ap.length:=by omega
  rw[vH,a6 (rfl:true=true),aX (show ¬(false=true) by decide)];have tl:nd e (setW (cP c e ⟨true,(c.ap.length:Int)-1,0,false,x.bA.getD e.toNat false⟩) t.place (eg x e)) c.ap.length=true:=by
   unfold nd;rw[List.drop_of_length_le (by rw[hlen];exact dm _)];rfl
  rw[tl,a6 (rfl:true=true)];by_cases mL:nd e c 1=true
  ·rw[a6 mL];have bl:pS e (setW (cP c e ⟨true,(c.ap.length:Int)-1,0,false,x.bA.getD e.toNat false⟩) t.place (eg x e)) ⟨true,(c.ap.length:Int)-1,0,false,x.bA.getD e.toNat false⟩=true:=by
    unfold pS;dsimp only;rw[vH,TL aa,total];have:rX e (setW (cP c e ⟨true,(c.ap.length:Int)-1,0,false,x.bA.getD e.toNat false⟩) t.place (eg x e)) c.ap.length=true:=by
     unfold rX;rw[tp (by rw[hlen];exact dm _)];change (c.ap.set t.place.toNat (eg x e)).all _=true;rw[aR];unfold nd at mL;cases Nj:c.ap with
     | nil=>rw[Nj]at gM;simp at gM
     | cons y ys=>
      rw[Nj]at mL;simp only[List.drop_succ_cons,oX]at mL;simp only[Int.toNat_zero,List.set_cons_zero,List.all_cons,hw,mL,Bool.and_self]
    rw[this];rfl
   rw[a6 bl];exact dm _
  ·rw[aX mL];split<;>omega
 ·
  rw[k];refine⟨?_,.inl rfl⟩;refine ni (Nat.add_le_add_right (hT _) 1) ?_;rw[ad];unfold pG;rw[hlen,ao];dsimp only;have vH:(t.place-1).toNat+1=t.place.toNat:=by omega
  rw[vH,a6 (rfl:true=true),a6 (rfl:true=true)];by_cases bl:pS e c t=true
  ·rw[a6 bl];have Xr:pS e (setW (cP c e ⟨true,t.place-1,t.sum+x.bK.getD e.toNat 0,t.bL||x.bL.getD e.toNat false,t.ct||x.bA.getD e.toNat false⟩) t.place (eg x e)) ⟨true,t.place-1,t.sum+x.bK.getD e.toNat 0,t.bL||x.bL.getD e.toNat false,t.ct||x.bA.getD e.toNat false⟩=true:=by
    unfold pS at bl ⊢;simp only[ca,fr,ci]at bl;obtain⟨⟨f1,f2⟩,f3⟩:=bl;dsimp only;rw[vH,TL aa];rw[Er hY]at f3;unfold rX at f2;rw[lK,hY,xj,List.all_append,ca]at f2;have cq:x.bL.getD e.toNat false=false:=by
     have:=f2.2;simp only[List.all_cons,List.all_nil,tr,fr]at this;exact this
    have:rX e (setW (cP c e ⟨true,t.place-1,t.sum+x.bK.getD e.toNat 0,t.bL||x.bL.getD e.toNat false,t.ct||x.bA.getD e.toNat false⟩) t.place (eg x e)) t.place.toNat=true:=by
     unfold rX;exact TK _ f2.1 hw
    rw[this,f1,cq];have:gG e c t.place.toNat+(t.sum+x.bK.getD e.toNat 0)=0:=by
     unfold fm at f3;omega
    rw[ji this];rfl
   rw[a6 Xr];omega
  rw[aX bl];by_cases mL:nd e c (t.place.toNat+1)=true
  ·rw[a6 mL];have:nd e (setW (cP c e ⟨true,t.place-1,t.sum+x.bK.getD e.toNat 0,t.bL||x.bL.getD e.toNat false,t.ct||x.bA.getD e.toNat false⟩) t.place (eg x e)) t.place.toNat=true:=by
    unfold nd;change ((c.ap.set t.place.toNat (eg x e)).drop t.place.toNat).all _=true;have af:t.place.toNat<(c.ap.set t.place.toNat (eg x e)).length:=by rw[eQ];exact gM
    rw[List.drop_eq_getElem_cons af,List.all_cons,List.getElem_set_self,hw,lM];exact K1 _ mL hw
   rw[this,a6 (rfl:true=true)];split<;>omega
  rw[aX mL];split
  ·omega
  ·split<;>omega
 ·
  rw[k];have aR:t.place=0:=by omega
  rw[aR]at hY;have kS:gQ e (gd (setW (cP c e ⟨false,t.place,t.sum,t.bL,t.ct⟩) 0 (told x e (t.ct||x.bA.getD e.toNat false))) (c.news++hy (c.ap.length-1) e (t.ct||x.bA.getD e.toNat false)))=true:=by
   unfold gQ;rw[show b9 (gd (setW (cP c e ⟨false,t.place,t.sum,t.bL,t.ct⟩) 0 (told x e (t.ct||x.bA.getD e.toNat false))) (c.news++hy (c.ap.length-1) e (t.ct||x.bA.getD e.toNat false))) 0=some (told x e (t.ct||x.bA.getD e.toNat false)) from oO hY];dsimp only;rw[ux];simp
  refine⟨?_,.inr ⟨?_,kS⟩⟩
  ·unfold iQ;rw[a6 kS];change 0+1<=iQ e c;rw[ad];unfold pG;rw[a6 ao];split
   ·omega
   ·split<;>omega
  simp only[gd,eK,hy,bp,u3];omega
 -- y7 round was in asA
 rw[k];refine⟨?_,.inl rfl⟩;have aR:t.place=0:=by omega
 rw[aR]at hY;have Yf:pS e c t=false:=by
  rw[kq];intro bl;unfold pS at bl;simp only[ca,fr,ci]at bl;obtain⟨⟨f1,f2⟩,f3⟩:=bl;rw[aR]at f2 f3;have ae:gG e c 1=fm e x:=by rw[Er (k:=0) hY];simp[gG]
  refine ah ⟨f1,?_,?_⟩
  ·unfold rX at f2;change (c.ap.take 1).all _=true at f2;rw[lK,show c.ap[0]?=some x from hY,xj,List.all_append,ca]at f2;simpa[fV]using f2.2
  change gG e c 1+t.sum=0 at f3;rw[ae]at f3;unfold fm at f3;omega
 have q2:iQ e (cP c e ⟨false,t.place,t.sum,t.bL,t.ct⟩)<=pG e (cP c e ⟨false,t.place,t.sum,t.bL,t.ct⟩) ⟨false,t.place,t.sum,t.bL,t.ct⟩:=by
  unfold iQ;rw[show hg (cP c e ⟨false,t.place,t.sum,t.bL,t.ct⟩) e=some ⟨false,t.place,t.sum,t.bL,t.ct⟩ from Bn bt];split
  ·exact Nat.zero_le _
  exact dm _
 refine ni (Nat.add_le_add_right q2 1) ?_;rw[ad];unfold pG;rw[ao,Yf];dsimp only;rw[aX (show ¬(false=true) by decide),a6 (rfl:true=true),aX (show ¬(false=true) by decide),aR];change (if nd e c 1=true then _ else _)+1<=(if nd e c 1=true then _ else _);by_cases mL:nd e c 1=true
 ·rw[a6 mL,a6 mL];change c.ap.length+1+1<=0+1+(c.ap.length+1);omega
 rw[aX mL,aX mL];change 2*c.ap.length+2+1<=0+1+(2*c.ap.length+2);omega
theorem BK{i:Int}{d:aU}{y:aP}(aa:b9 c i=some x)(hw:d.ap=c.ap.set i.toNat y)(bt:hg d e=hg c e)(ah:fV e y=fV e x)(ae:fm e y=fm e x)(ax:eD x e=true->eD y e=true):iQ e d<=iQ e c:=by
 obtain⟨kp,gM,hY⟩:=er aa;have hlen:d.ap.length=c.ap.length:=by rw[hw,eQ]
 have C3:∀{β:Type} (f:aP->β),f y=f x->d.ap.map f=c.ap.map f:=fun f bl=>by
  rw[hw,jj,bl];exact AG (by rw[c9,hY];rfl)
 have NG:=C3 (fun z=>!fV e z) (by rw[ah]);have vF:=C3 (fm e) ae;have e1:∀k,nd e d k=nd e c k:=fun k=>by
  have:∀ws:List aP,(ws.drop k).all (fun z=>!fV e z)=((ws.map fun z=>!fV e z).drop k).all id:=fun ws=>by
   rw[<-List.map_drop,List.all_map];rfl
  unfold nd;rw[this,this,NG]
 have e2:∀k,rX e d k=rX e c k:=fun k=>by
  have:∀ws:List aP,(ws.take k).all (fun z=>!fV e z)=((ws.map fun z=>!fV e z).take k).all id:=fun ws=>by
   rw[<-lO,List.all_map];rfl
  unfold rX;rw[this,this,NG]
 have b2:∀k,gG e d k=gG e c k:=fun k=>by
  unfold gG;rw[lO,lO,vF]
 have dB:∀t,pG e d t=pG e c t:=fun t=>by
  unfold pG pS;rw[hlen,e1,e1,e2,b2]
 unfold iQ;by_cases q2:gQ e d=true
 ·rw[a6 q2];exact Nat.zero_le _
 have Xn:¬gQ e c=true:=fun ad=>q2 (by
  unfold gQ b9 at ad ⊢;rw[a6 (by decide),hw];rw[a6 (by decide)]at ad;by_cases hi:i.toNat=0
  ·rw[hi]at hY ⊢;rw[show (0:Int).toNat=0 from rfl]at ad ⊢;rw[oO hY];rw[hY]at ad;exact ax ad
  rw[iS,aX (show ¬i.toNat=(0:Int).toNat from hi)];exact ad)
 rw[aX q2,aX Xn,bt];cases hg c e with
 | none=>exact dm _
 | some t=>dsimp only;rw[dB];exact dm _
theorem aji{f:Int}{t:b'}(he:0<=e)(bl:0<=f)(b5:f≠e)(aa:b9 c t.place=some x):iQ e (d' c f t x).1<=iQ e c:=by
 have BU:fV e (eg x f)=fV e x:=by
  unfold fV eg;exact ug (vZ bl he b5)
 rcases oS c f t x with⟨_,k⟩ | ⟨_,_,⟨_,k⟩ | ⟨_,_,k⟩ | ⟨_,bm,_,k⟩ | ⟨_,_,_,k⟩⟩
 ·rw[k];exact dm _
 ·rw[k];exact BK aa rfl (uy he bl b5) BU rfl id
 ·rw[k];exact BK aa rfl (uy he bl b5) BU rfl id
 ·rw[k];have aR:t.place=0:=by have:=(er aa).1;omega
  rw[aR]at aa;exact BK aa rfl (uy he bl b5) rfl rfl fun q=>by rw[ux,q,Bool.true_or]
 rw[k];exact BK (y:=x) aa (AG (er aa).2.2).symm (uy he bl b5) rfl rfl id
theorem ajj{S:Int}{d:aU}{p:cE}(h:j5 S c)(ae:Still c)(aL:c.ap.length<=3)(st:Step c p d):Still d/\rR d<rR c:=by
 have still:5<p.kind->Still d:=fun hk=>by
  have oW:=TH st hk;refine⟨fun x aa=>?_,fun l af=>ae.2.1 l (oW.bQ▸af),fun a b l dW af=>ae.2.2 a b l dW ((oW.ee a b).symm.trans af)⟩;obtain⟨i,hi⟩:=List.getElem?_of_mem aa;obtain⟨z,aR⟩:=dv (xs:=c.ap) (i:=i) (by have:=bh hi;rw[oW.len]at this;exact this);obtain⟨y,a1,e9,fb,V4⟩:=oW.w i z aR;rw[hi]at a1;cases a1;rw[e9,fb,V4];exact ae.1 z (c8 aR)
 cases st with
 | work x r q hk aa c3 av=>
  have:=(ae.1 x (c8 (er aa).2.2)).1;rw[av]at this;cases this
 | input x r t hk aa c3 av hi=>
  have:=(ae.1 x (c8 (er aa).2.2)).2.2;rw[hi]at this;cases this
 | ey x r t hk aa c3 aN=>
  have:=(ae.1 x (c8 (er aa).2.2)).2.1;rw[c3]at this;cases this
 | send x r t l hk aa c3 aN af hsend=>
  have:=(ae.1 x (c8 (er aa).2.2)).2.1;rw[c3]at this;cases this
 | take l x hk dW af aa bt=>
  obtain⟨_,r,q,av,_⟩:=wU bt;have:=ae.2.1 l (c8 (iq af).2.2);rw[av]at this;cases this
 | o3 l hk dW af ad=>
  rcases wV l with⟨k,_⟩ | ⟨_,_,ah,_⟩
  ·rw[ad]at k;cases k
  exact absurd (ae.2.2 _ _ l dW af) ah
 | token t x cJ hk ig bm ax bt aa o5=>
  refine⟨still (by omega),?_⟩;simp only[aW,ci]at ig;obtain⟨cC,b6⟩:=ajh h ae ig bm ax bt aa o5;have pk:∀e:Int,0<=e->p.a≠e->iQ e (d' c p.a t x).1<=iQ e c:=fun e he b5=>aji he ig.1 b5 aa
  have tK:p.a=0\/p.a=1\/p.a=2\/p.a=3:=by omega
  have af:(d' c p.a t x).1.news.length<=c.news.length+2:=by
   rcases b6 with b6 | ⟨b6,_⟩
   ·rw[b6];omega
   omega
  unfold rR;rcases tK with h1 | h1 | h1 | h1
  ·have cd:=pk 1 (by decide) (by omega);have bY:=pk 2 (by decide) (by omega);have cr:=pk 3 (by decide) (by omega);rw[h1]at cC cd bY cr af ⊢;omega
  ·have cd:=pk 0 (by decide) (by omega);have bY:=pk 2 (by decide) (by omega);have cr:=pk 3 (by decide) (by omega);rw[h1]at cC cd bY cr af ⊢;omega
  ·have cd:=pk 0 (by decide) (by omega);have bY:=pk 1 (by decide) (by omega);have cr:=pk 3 (by decide) (by omega);rw[h1]at cC cd bY cr af ⊢;omega
  have cd:=pk 0 (by decide) (by omega);have bY:=pk 1 (by decide) (by omega);have cr:=pk 2 (by decide) (by omega);rw[h1]at cC cd bY cr af ⊢;omega
 | o6 k n x hk vG ax aa=>
  refine⟨still (by omega),?_⟩;obtain⟨s1,s2,_⟩:fm 0 (dZ x n)=fm 0 x/\fV 0 (dZ x n)=fV 0 x/\jT 0 (dZ x n)=jT 0 x:=Ep;have o:∀e:Int,iQ e (gd (setW c p.a (dZ x n)) (cutAt c.news k))<=iQ e c:=fun e=>by
   obtain⟨s1,s2,_⟩:=Ep (x:=x) (n:=n) (e:=e);exact BK (y:=dZ x n) aa rfl rfl s2 s1 fun q=>by rw[Eo,q,Bool.true_or]
  have af:(cutAt c.news k).length+1=c.news.length:=by
   have:=bh vG;simp only[cutAt,eK,lJ,List.length_drop];omega
  have Aq:=o 0;have cd:=o 1;have bY:=o 2;have cr:=o 3;unfold rR;change 3*_+(cutAt c.news k).length<_;omega
end Go.Proofs.YtdchjefneblpgaaGreat
namespace Go.Proofs.YtdchjefneblpgaaGreat
open Go.Sx Go.RowKit
structure Fin (e:Int) (c:aU):Prop where
 first:gQ e c=false->m' c e=false/\mi c e=false
 reach:gQ e c=true->∀(i:Nat) x,0<i->c.ap[i]?=some x->eD x e=true\/∃n∈c.news,n.dest=i/\n.a8=e
 flag:∃b:Bool,(∀x∈c.ap,∀d∈x.cu,d.a8=e->d.ct=b)/\(∀n∈c.news,n.a8=e->n.ct=b)/\(gQ e c=true->b=false->∀x∈c.ap,jT e x=false)
variable{c:aU}
theorem y9{x:aP}(h:b9 c 0=some x):c.ap[0]?=some x:=(er h).2.2
theorem w7{e i:Int}{d:aU}{x y:aP}(h:Fin e c)(rc:Inv e c)(aa:b9 c i=some x)(hw:d.ap=c.ap.set i.toNat y)(aL:d.news=c.news)(ax:y.cu=x.cu)(ad:k' x e=true->jT e y=jT e x):Fin e d:=by
 obtain⟨i0,i1,i2⟩:=er aa;have kS:∀f,eD y f=eD x f:=fun f=>by unfold eD;rw[ax]
 have hT:gQ e d=gQ e c:=by
  unfold gQ b9;rw[a6 (by decide),a6 (by decide),hw];by_cases hi:i.toNat=0
  ·rw[hi]at i2 ⊢;rw[show (0:Int).toNat=0 from rfl,oO i2,i2];exact kS e
  rw[show (0:Int).toNat=0 from rfl,iS,aX hi]
 refine⟨fun bl=>?_,fun bl j z aM aR=>?_,?_⟩
 ·rw[hT]at bl;obtain⟨t1,t2⟩:=h.first bl
  refine⟨?_,by unfold mi;rw[aL];exact t2⟩;unfold m' at t1 ⊢;rw[eW]at t1 ⊢;intro z aR;rw[hw]at aR;rcases hn aR with aR | rfl
  ·exact t1 z aR
  rw[kS];exact t1 x (c8 i2)
 ·rw[hT]at bl;rw[aL];rw[hw]at aR;rcases uf aR with⟨rfl,rfl⟩ | ⟨_,aR⟩
  ·rw[kS];exact h.reach bl _ x aM i2
  exact h.reach bl j z aM aR
 obtain⟨b,fQ,fH,nn⟩:=h.flag;refine⟨b,fun z aR=>?_,by rw[aL];exact fH,fun bl ah z aR=>?_⟩
 ·rw[hw]at aR;rcases hn aR with aR | rfl
  ·exact fQ z aR
  rw[ax];exact fQ x (c8 i2)
 rw[hT]at bl;rw[hw]at aR;rcases hn aR with aR | rfl
 ·exact nn bl ah z aR
 have av:=(rc.y6 (by
  have ae:gQ e c=true:=bl;obtain⟨cJ,lZ⟩:∃cJ,b9 c 0=some cJ:=py (by decide) (by omega);rw[pB lZ]at ae;rw[lL];exact .inl (lg.2 ⟨cJ,c8 (y9 lZ),ae⟩))).1 x (c8 i2)
 rw[ad av];exact nn bl ah x (c8 i2)
theorem Fin.step{e:Int}{d:aU}{p:cE}(h:Fin e c)(rc:Inv e c)(he:0<=e/\e<=3)(bH:cF c=true)(st:Step c p d):Fin e d:=by
 cases st with
 | work x r q hk aa ae av=>
  refine w7 h rc aa rfl rfl rfl fun k=>?_
  obtain⟨cC,b6,eH⟩:=oP.1 k;rw[av]at b6;have kg:=b6 r (eF ..);have ar:=J9 (h6.1 (jH bH aa)).1 (r:=r) (by rw[av];exact eF ..);unfold jT;dsimp only;split
  ·exact ug (vZ ar.1 he.1 kg)
  rfl
 | input x r t hk aa ae av hi=>exact w7 h rc aa rfl rfl rfl fun _=>rfl
 | ey x r t hk aa ae aN=>exact w7 h rc aa rfl rfl rfl fun _=>rfl
 | send x r t l hk aa ae aN af hsend=>exact w7 h rc aa rfl rfl rfl fun _=>rfl
 | take l x hk dW af aa bt=>exact w7 h rc aa rfl rfl rfl fun _=>rfl
 | o3 l hk dW af ad=>exact⟨h.first,h.reach,h.flag⟩
 | token t x cJ hk ig bm ax bt aa o5=>
  rcases oS c p.a t x with⟨_,k⟩ | ⟨_,hp,⟨_,k⟩ | ⟨_,_,k⟩ | ⟨ao,q9,ah,k⟩ | ⟨_,_,_,k⟩⟩
  ·rw[k];exact h
  ·rw[k];exact w7 h rc aa rfl rfl rfl fun _=>rfl
  ·rw[k];exact w7 h rc aa rfl rfl rfl fun _=>rfl
  ·rw[k];have aR:t.place=0:=by have:=(er aa).1;omega
   rw[aR,bm]at aa;obtain rfl:cJ=x:=ei aa;obtain⟨i0,i1,i2⟩:=er bm;simp only[aW,ci]at ig;have hT:gQ e (gd (setW (cP c p.a ⟨false,t.place,t.sum,t.bL,t.ct⟩) 0 (told cJ p.a (t.ct||cJ.bA.getD p.a.toNat false))) (c.news++hy (c.ap.length-1) p.a (t.ct||cJ.bA.getD p.a.toNat false)))=(eD cJ e||p.a==e):=by
    unfold gQ;rw[show b9 (gd (setW (cP c p.a ⟨false,t.place,t.sum,t.bL,t.ct⟩) 0 (told cJ p.a (t.ct||cJ.bA.getD p.a.toNat false))) (c.news++hy (c.ap.length-1) p.a (t.ct||cJ.bA.getD p.a.toNat false))) 0=some (told cJ p.a (t.ct||cJ.bA.getD p.a.toNat false)) from oO i2];exact ux
   by_cases tQ:p.a=e
   ·subst tQ;have Xs:gQ p.a c=false:=by rw[pB bm];exact ax
    obtain⟨t1,t2⟩:=h.first Xs
    obtain⟨_,eY⟩:=rc.over bt ao q9 (by rw[aR];exact bm) hp ah;refine⟨fun bl=>?_,fun _ j z aM iF=>?_,⟨t.ct||jT p.a cJ,fun z iF d ie og=>?_,fun n iE b5=>?_,fun _ c7 z iF=>?_⟩⟩
    ·rw[hT]at bl;simp at bl
    ·right;have h4:=bh iF;rw[show (gd (setW (cP c p.a ⟨false,t.place,t.sum,t.bL,t.ct⟩) 0 (told cJ p.a (t.ct||cJ.bA.getD p.a.toNat false))) (c.news++hy (c.ap.length-1) p.a (t.ct||cJ.bA.getD p.a.toNat false))).ap.length=c.ap.length from eQ]at h4;refine⟨⟨((j-1:Nat):Int)+1,p.a,t.ct||cJ.bA.getD p.a.toNat false⟩,hZ _ (h'.2 ⟨j-1,List.mem_range.2 (by omega),rfl⟩),?_,rfl⟩;change ((j-1:Nat):Int)+1=(j:Int);omega
    ·rcases hn iF with iF | rfl
     ·exfalso;unfold m' at t1;rw[eW]at t1;exact t1 z iF (lg.2 ⟨d,ie,by simpa using og⟩)
     rcases gY.1 ie with ie | ie
     ·exfalso;rw[kq]at ax;exact ax (lg.2 ⟨d,ie,by simpa using og⟩)
     obtain rfl:d=⟨p.a,t.ct||cJ.bA.getD p.a.toNat false⟩:=by simpa using ie
     rfl
    ·rcases gY.1 iE with iE | iE
     ·exfalso;unfold mi at t2;rw[eW]at t2;exact t2 n iE (by simpa using b5)
     obtain⟨_,_,rfl⟩:=h'.1 iE;rfl
    rcases hn iF with iF | rfl
    ·exact eY c7 z iF
    exact eY c7 cJ (c8 i2)
   have NP:(p.a==e)=false:=by simpa using tQ
   rw[NP,Bool.or_false]at hT;have GL:gQ e c=eD cJ e:=pB bm;have kS:eD (told cJ p.a (t.ct||cJ.bA.getD p.a.toNat false)) e=eD cJ e:=by rw[ux,NP,Bool.or_false]
   refine⟨fun bl=>?_,fun bl j z aM iF=>?_,?_⟩
   ·rw[hT,<-GL]at bl;obtain⟨t1,t2⟩:=h.first bl
    refine⟨?_,(RN tQ).trans t2⟩;unfold m' at t1 ⊢;rw[eW]at t1 ⊢;intro z iF;rcases hn iF with iF | rfl
    ·exact t1 z iF
    rw[kS];exact t1 cJ (c8 i2)
   ·rw[hT,<-GL]at bl;rcases uf iF with⟨rfl,rfl⟩ | ⟨_,iF⟩
    ·exact absurd aM (by decide)
    rcases h.reach bl j z aM iF with bB | ⟨n,bB,bV⟩
    ·exact .inl bB
    exact .inr ⟨n,gm _ bB,bV⟩
   obtain⟨b,fQ,fH,nn⟩:=h.flag;refine⟨b,fun z iF d ie og=>?_,fun n iE b5=>?_,fun bl c7 z iF=>?_⟩
   ·rcases hn iF with iF | rfl
    ·exact fQ z iF d ie og
    rcases gY.1 ie with ie | ie
    ·exact fQ cJ (c8 i2) d ie og
    obtain rfl:d=⟨p.a,t.ct||cJ.bA.getD p.a.toNat false⟩:=by simpa using ie
    exact absurd og tQ
   ·rcases gY.1 iE with iE | iE
    ·exact fH n iE b5
    obtain⟨_,_,rfl⟩:=h'.1 iE;exact absurd b5 tQ
   rw[hT,<-GL]at bl;rcases hn iF with iF | rfl
   ·exact nn bl c7 z iF
   exact nn bl c7 cJ (c8 i2)
  rw[k];exact⟨h.first,h.reach,h.flag⟩
 | o6 k n x hk aL ax aa=>
  obtain⟨i0,i1,i2⟩:=er aa;have G8:n∈c.news:=c8 aL;have Nh:∀m∈cutAt c.news k,m∈c.news:=fun m hm=>by
   unfold cutAt at hm;rcases gY.1 hm with hm | hm
   ·exact uY hm
   exact zc hm
  have Ni:∀m∈c.news,m∈cutAt c.news k\/m=n:=fun m hm=>by
   obtain⟨j,aM⟩:=List.getElem?_of_mem hm;unfold cutAt;by_cases h1:j<k
   ·exact .inl (gm _ (c8 (i:=j) (by rw[gX,a6 h1];exact aM)))
   by_cases U:j=k
   ·subst U;rw[aL]at aM;exact .inr (ei aM).symm
   refine .inl (hZ _ (c8 (i:=j-(k+1)) ?_));rw[gV,show k+1+(j-(k+1))=j by omega];exact aM
  have kS:∀f,eD (dZ x n) f=(eD x f||n.a8==f):=fun f=>Eo
  have hT:gQ e (gd (setW c p.a (dZ x n)) (cutAt c.news k))=true->gQ e c=true:=by
   intro bl;cases ad:gQ e c with
   | true=>rfl
   | false=>
    obtain⟨t1,t2⟩:=h.first ad
    exfalso;have aqz:∀m∈c.news,m.a8≠e:=fun m hm X9=>by
     unfold mi at t2;rw[eW]at t2;exact t2 m hm (by simpa using X9)
    have Vd:∀z∈c.ap,eD z e=false:=fun z aR=>by
     unfold m' at t1;rw[eW]at t1;simpa using t1 z aR
    obtain⟨cJ,lZ⟩:∃cJ,b9 (gd (setW c p.a (dZ x n)) (cutAt c.news k)) 0=some cJ:=py (by decide) (by rw[show (gd (setW c p.a (dZ x n)) (cutAt c.news k)).ap.length=c.ap.length from eQ];omega);rw[pB lZ]at bl;have hm:=c8 (y9 lZ);rcases hn hm with hm | rfl
    ·rw[Vd cJ hm]at bl;cases bl
    rw[kS,Vd x (c8 i2),ml]at bl;exact aqz n G8 (by simpa using bl)
  have Xm:gQ e c=true->gQ e (gd (setW c p.a (dZ x n)) (cutAt c.news k))=true:=by
   intro ad;obtain⟨cJ,lZ⟩:∃cJ,b9 c 0=some cJ:=py (by decide) (by omega);rw[pB lZ]at ad;by_cases hi:p.a.toNat=0
   ·have Ht:x=cJ:=by
     have:=y9 lZ;rw[hi]at i2;rw[i2]at this;exact ei this
    subst Ht;rw[pB (x:=dZ x n) (show b9 (gd (setW c p.a (dZ x n)) (cutAt c.news k)) 0=some (dZ x n) by
     unfold b9;rw[a6 (by decide)];change (c.ap.set p.a.toNat (dZ x n))[0]?=_;rw[hi]at i2 ⊢;exact oO i2),kS,ad,Bool.true_or]
   rw[pB (x:=cJ) (show b9 (gd (setW c p.a (dZ x n)) (cutAt c.news k)) 0=some cJ by
    unfold b9;rw[a6 (by decide)];exact AF (y9 lZ) (fun q=>hi q.symm))]
   exact ad
  refine⟨fun bl=>?_,fun bl j z aM aR=>?_,?_⟩
  ·have ad:gQ e c=false:=by
    rw[kq];intro ad;rw[Xm ad]at bl;cases bl
   obtain⟨t1,t2⟩:=h.first ad
   unfold m' at t1 ⊢;unfold mi at t2 ⊢;rw[eW]at t1 t2 ⊢;refine⟨fun z aR=>?_,?_⟩
   ·rcases hn aR with aR | rfl
    ·exact t1 z aR
    rw[kS,lL];exact fun q=>q.elim (t1 x (c8 i2)) (t2 n G8)
   rw[eW];exact fun m hm=>t2 m (Nh m hm)
  ·have ad:=hT bl;rcases uf aR with⟨rfl,rfl⟩ | ⟨b5,aR⟩
   ·rw[kS];rcases h.reach ad _ x aM i2 with bB | ⟨m,bB,bV,cb⟩
    ·exact .inl (by rw[bB,Bool.true_or])
    rcases Ni m bB with bB | rfl
    ·exact .inr ⟨m,bB,bV,cb⟩
    exact .inl (by rw[show (m.a8==e)=true by simpa using cb,Bool.or_true])
   rcases h.reach ad j z aM aR with bB | ⟨m,bB,bV,cb⟩
   ·exact .inl bB
   rcases Ni m bB with bB | rfl
   ·exact .inr ⟨m,bB,bV,cb⟩
   exfalso;rw[ax]at bV;omega
  obtain⟨b,fQ,fH,nn⟩:=h.flag;refine⟨b,fun z aR d ie og=>?_,fun m hm=>fH m (Nh m hm),fun bl ah z aR=>?_⟩
  ·rcases hn aR with aR | rfl
   ·exact fQ z aR d ie og
   unfold dZ at ie;split at ie
   ·exact fQ x (c8 i2) d ie og
   rcases gY.1 ie with ie | ie
   ·exact fQ x (c8 i2) d ie og
   obtain rfl:d=⟨n.a8,n.ct⟩:=by simpa using ie
   exact fH n G8 og
  rcases hn aR with aR | rfl
  ·exact nn (hT bl) ah z aR
  rw[(Ep (x:=x) (n:=n) (e:=e)).2.2];exact nn (hT bl) ah x (c8 i2)
end Go.Proofs.YtdchjefneblpgaaGreat
namespace Go.Proofs.YtdchjefneblpgaaGreat
open Go.Sx Go.RowKit
def cc(e:Int)(c:aU):Nat:=if gQ e c=true then 0 else 1
def qP(c:aU):Prop:=c.news.length+2*(cc 0 c+cc 1 c+cc 2 c+cc 3 c)<=8
variable{c d:aU}{i e:Int}{x:aP}
theorem ajk{y:aP}(aa:b9 c i=some x)(hw:d.ap=c.ap.set i.toNat y)(h:eD x e=true->eD y e=true):gQ e c=true->gQ e d=true:=by
 intro ad;obtain⟨_,_,hY⟩:=er aa;unfold gQ b9 at ad ⊢;rw[a6 (by decide),hw];rw[a6 (by decide)]at ad;by_cases hi:i.toNat=0
 ·rw[hi]at hY ⊢;rw[show (0:Int).toNat=0 from rfl]at ad ⊢;rw[oO hY];rw[hY]at ad;exact h ad
 rw[iS,aX (show ¬i.toNat=(0:Int).toNat from hi)];exact ad
theorem Bh{d:aU}{y:aP}(aa:b9 c i=some x)(hw:d.ap=c.ap.set i.toNat y)(h:eD x e=true->eD y e=true):cc e d<=cc e c:=by
 unfold cc;by_cases ad:gQ e c=true
 ·rw[a6 ad,a6 (ajk aa hw h ad)];exact dm _
 ·rw[aX ad];split<;>omega
theorem uO{y:aP}(h:qP c)(aa:b9 c i=some x)(hw:d.ap=c.ap.set i.toNat y)(ax:∀e,eD x e=true->eD y e=true)(aL:d.news.length<=c.news.length):qP d:=by
 have hX:=Bh (d:=d) aa hw (ax 0);have qI:=Bh (d:=d) aa hw (ax 1);have tm:=Bh (d:=d) aa hw (ax 2);have xd:=Bh (d:=d) aa hw (ax 3);unfold qP at h ⊢;omega
theorem qP.step{p:cE}(h:qP c)(af:c.ap.length<=3)(st:Step c p d):qP d:=by
 cases st with
 | work x r q hk aa ae av=>exact uO h aa rfl (fun _ k=>k) (dm _)
 | input x r t hk aa ae av hi=>exact uO h aa rfl (fun _ k=>k) (dm _)
 | ey x r t hk aa ae aN=>exact uO h aa rfl (fun _ k=>k) (dm _)
 | send x r t l hk aa ae aN kU hsend=>exact uO h aa rfl (fun _ k=>k) (dm _)
 | take l x hk dW kU aa bt=>exact uO h aa rfl (fun _ k=>k) (dm _)
 | o3 l hk dW kU ad=>exact h
 | token t x cJ hk ig bm ax bt aa o5=>
  rcases oS c p.a t x with⟨_,k⟩ | ⟨_,_,⟨_,k⟩ | ⟨_,_,k⟩ | ⟨_,q9,_,k⟩ | ⟨_,_,_,k⟩⟩
  ·rw[k];exact h
  ·rw[k];exact uO h aa rfl (fun _ k=>k) (dm _)
  ·rw[k];exact uO h aa rfl (fun _ k=>k) (dm _)
  ·rw[k];have aR:t.place=0:=by have:=(er aa).1;omega
   rw[aR,bm]at aa;obtain rfl:cJ=x:=ei aa;simp only[aW,ci]at ig;generalize xy:gd (setW (cP c p.a ⟨false,t.place,t.sum,t.bL,t.ct⟩) 0 (told cJ p.a (t.ct||cJ.bA.getD p.a.toNat false))) (c.news++hy (c.ap.length-1) p.a (t.ct||cJ.bA.getD p.a.toNat false))=D;have hw:D.ap=c.ap.set (0:Int).toNat (told cJ p.a (t.ct||cJ.bA.getD p.a.toNat false)):=by rw[<-xy];rfl
   have G7:D.news.length<=c.news.length+2:=by
    rw[<-xy];simp only[gd,eK,hy,bp,u3];omega
   have mono:∀e,cc e D<=cc e c:=fun e=>Bh bm hw fun k=>by rw[ux,k,Bool.true_or]
   have own:cc p.a D=0/\cc p.a c=1:=by
    have WS:b9 D 0=some (told cJ p.a (t.ct||cJ.bA.getD p.a.toNat false)):=by
     unfold b9;rw[a6 (by decide),hw];exact oO (er bm).2.2
    unfold cc;rw[pB WS,pB bm,ux,ax];simp
   have hX:=mono 0;have qI:=mono 1;have tm:=mono 2;have xd:=mono 3;have tK:p.a=0\/p.a=1\/p.a=2\/p.a=3:=by omega
   unfold qP at h ⊢;rcases tK with h1 | h1 | h1 | h1<;>(rw[h1]at own;omega)
  rw[k];exact h
 | o6 k n x hk aL ax aa=>
  refine uO (y:=dZ x n) h aa rfl (fun e q=>by rw[Eo,q,Bool.true_or]) ?_;exact TA _ _
structure Live (P:kx) (S:Int) (c:aU):Prop where
 run:qQ P S c
 fin:∀e:Int,0<=e/\e<=3->Fin e c
 news:qP c
 small:c.ap.length<=3
variable{P:kx}{S:Int}
theorem Live.step(h:Live P S c)(fF:S<200000)(p:cE):Live P (S+1) (de c p).1:=by
 have h1:=h.run.step fF p;have af:=(JY c p).uW;rcases wW c p with⟨_,U⟩ | ⟨_,_,st⟩
 ·rw[U]at h1 ⊢;exact⟨h1,h.fin,h.news,h.small⟩
 exact⟨h1,fun e he=>(h.fin e he).step (h.run.all.inv e he) he h.run.all.ok st,h.news.step h.small st,by rw[af];exact h.small⟩
theorem Live.runs:∀(l:List cE) {S:Int} {c:aU},Live P S c->S+l.length<=200000->Live P (S+l.length) (cZ c l).1
 | [],S,c,h,_=>by simpa[cZ]using h
 | p::l,S,c,h,fF=>by
  simp only[dn]at fF ⊢;have:=Live.runs l (h.step (by omega) p) (by omega);simp only[cZ];rw[show S+((l.length+1:Nat):Int)=S+1+l.length by omega];exact this
theorem Live.mono{T:Int}(h:Live P S c)(fs:S<=T):Live P T c:=⟨⟨h.run.all.mono fs,h.run.of⟩,h.fin,h.news,h.small⟩
variable{g:bW}{xs:List aA}
theorem Live.new(ao:ku g)(aa:∀r∈xs,Input r)(af:xs.length<=5):∃P:kx,P.xs=xs/\Live P 0 (eO g xs):=by
 have aL:=LB ao (by omega) aa;obtain⟨⟨k,a,b,c,v,hk,ag,ah,_,bj,iE⟩,hw,_⟩:=ao;have Ab:∀x∈(eO g xs).ap,∃w:Nat,x=kn (own g xs w):=fun x aa=>by
  obtain⟨i,hi⟩:=List.getElem?_of_mem aa;exact⟨i,(E4 hi).1⟩
 have hlen:(eO g xs).ap.length=g.ap.toNat:=yV g xs _;have hT:∀e,gQ e (eO g xs)=false:=fun e=>by
  obtain⟨cJ,lZ⟩:∃cJ,b9 (eO g xs) 0=some cJ:=py (by decide) (by rw[hlen];omega);rw[pB lZ];obtain⟨w,rfl⟩:=Ab cJ (c8 (y9 lZ));rfl
 refine⟨⟨k,a,b,c,v,xs⟩,rfl,⟨j5.new aL,hk,ag,ah,bj,iE,aa,⟨fun x lr r ar=>?_,fun l af r ar=>?_,fun x lr r ar=>?_⟩⟩,fun e he=>⟨fun _=>⟨?_,rfl⟩,fun bl=>?_,⟨false,fun x lr d ax=>?_,fun n aL=>?_,fun bl=>?_⟩⟩,?_,by rw[hlen];omega⟩
 ·obtain⟨w,rfl⟩:=Ab x lr;simp[kn]at ar
 ·rw[List.eq_of_mem_replicate af]at ar;simp[j1]at ar
 ·obtain⟨w,rfl⟩:=Ab x lr;exact (E3 ar).1
 ·unfold m';rw[eW];intro x lr;obtain⟨w,rfl⟩:=Ab x lr;simp[eD,kn]
 ·rw[hT]at bl;cases bl
 ·obtain⟨w,rfl⟩:=Ab x lr;simp[kn]at ax
 ·simp[eO]at aL
 ·rw[hT]at bl;cases bl
 unfold qP cc;rw[hT,hT,hT,hT];simp[eO]
theorem E'{e:Int}(h:j5 S c)(af:c.ap.length<=3):iQ e c<=11:=by
 unfold iQ;split
 ·omega
 cases bt:hg c e with
 | none=>exact Nat.zero_le _
 | some t=>
  obtain⟨⟨h1,U⟩,_⟩:=rJ.1 (yO h.ok bt);have pa:=(fU.1 h.ok).2.1;dsimp only;unfold pG;split
  ·split
   ·omega
   ·split<;>omega
  ·split<;>omega
theorem TM(h:Live P S c):rR c<=140:=by
 have t0:=E' (e:=0) h.run.all h.small;have t1:=E' (e:=1) h.run.all h.small;have t2:=E' (e:=2) h.run.all h.small;have t3:=E' (e:=3) h.run.all h.small;have aL:=h.news;unfold qP at aL;unfold rR;omega
theorem TN(b:Bool)(l:List Bool):mx (b::l)=(if b=true then 1 else 0)+mx l:=by
 cases b<;>simp[mx]<;>omega
theorem Fa:∀(l:List cE) {S:Int} {c:aU},Live P S c->S+l.length<=200000->Still c->Still (cZ c l).1/\rR (cZ c l).1+mx (cZ c l).2<=rR c
 | [],S,c,_,_,ae=>⟨ae,dm _⟩
 | p::l,S,c,h,fF,ae=>by
  simp only[dn]at fF;simp only[cZ,TN];rcases wW c p with⟨cC,b6⟩ | ⟨_,cC,st⟩
  ·rw[b6,cC,aX (by decide),c'];exact Fa l (h.mono (T:=S+1) (by omega)) (by omega) ae
  obtain⟨s1,s2⟩:=ajj h.run.all ae h.small st;obtain⟨i1,i2⟩:=Fa l (h.step (by omega) p) (by omega) s1;rw[cC,a6 rfl];exact⟨i1,by omega⟩
theorem TO:∀(l:List cE) (c:aU),mx (cZ c l).2=0->(cZ c l).1=c/\∀p∈l,(de c p).2=false
 | [],c,_=>⟨rfl,fun p hp=>by cases hp⟩
 | p::l,c,h=>by
  simp only[cZ,TN]at h ⊢;cases ah:(de c p).2 with
  | true=>rw[ah,a6 rfl]at h;omega
  | false=>
   rw[adP ah]at h ⊢;obtain⟨h1,U⟩:=TO l c (by omega);refine⟨h1,fun q av=>?_⟩;rcases dG.1 av with rfl | av
   ·exact ah
   exact U q av
theorem UE{P:kx}:∀(m:Nat) {S:Int} {c:aU} (k M:Nat),Live P S c->S+44*m<=200000->M<m->((Still c/\rR c<=M)\/gl P c+141<=M)->
  ∃(d:aU) (j:Nat) (T:Int),gK m c k=(d,k+j)/\j<=M+1/\Live P T d/\T<=200000/\d.aF=c.aF/\∀p∈gb d,(de d p).2=false
 | 0,S,c,k,M,_,_,WV,_=>by omega
 | m+1,S,c,k,M,h,fF,WV,ad=>by
  obtain⟨_,GC⟩:=TI (jZ (fU.1 h.run.all.ok).1);unfold gK;by_cases bm:(iu c).2=0
  ·rw[a6 bm];obtain⟨ki,kZ⟩:=TO (gb c) c bm;exact⟨c,1,S,by rw[show (iu c).1=c from ki],by omega,h,by omega,rfl,kZ⟩
  rw[aX bm];have af:Live P (S+44) (iu c).1:=(h.runs (gb c) (by omega)).mono (by omega);have XF:=(E7 c).aF;have next:(Still (iu c).1/\rR (iu c).1<=M-1)\/gl P (iu c).1+141<=M-1:=by
   by_cases ae:Still c
   ·obtain⟨s1,s2⟩:=Fa (gb c) h (by omega) ae;have ax:0<mx (cZ c (gb c)).2:=Nat.pos_of_ne_zero bm;rcases ad with⟨_,ad⟩ | ad
    ·exact .inl ⟨s1,by unfold iu;dsimp only;omega⟩
    have:=TM h;exact .inl ⟨s1,by unfold iu;dsimp only;omega⟩
   rcases ad with⟨ad,_⟩ | ad
   ·exact absurd ad ae
   have bq:=ajf h.run (by omega) ae;by_cases lY:Still (iu c).1
   ·have:=TM af;exact .inl ⟨lY,by omega⟩
   exact .inr (by omega)
  have aru:1<=M:=by
   rcases ad with⟨ae,ad⟩ | ad
   ·obtain⟨_,s2⟩:=Fa (gb c) h (by omega) ae;have ax:0<mx (cZ c (gb c)).2:=Nat.pos_of_ne_zero bm;omega
   omega
  obtain⟨d,j,T,e1,e2,b2,dB,gD,j9⟩:=UE m (k+1) (M-1) af (by omega) (by omega) next;exact⟨d,j+1,T,by rw[e1];congr 1;omega,by omega,b2,dB,gD.trans XF,j9⟩
structure FT (c:aU):Prop where
 still:Still c
 done:∀e:Int,0<=e/\e<=3->∀x∈c.ap,eD x e=true
 news:c.news=[]
theorem ajl(he:0<=e/\e<=3):(⟨6,e,0⟩:cE)∈gb c:=by
 have tK:e=0\/e=1\/e=2\/e=3:=by omega
 unfold gb;refine hZ _ ?_;rcases tK with rfl | rfl | rfl | rfl<;>decide
theorem Live.ended{T:Int}(h:Live P T c)(fs:T<=200000)(gi:∀p∈gb c,(de c p).2=false):FT c:=by
 have bH:=h.run.all.ok;obtain⟨ao,pa,_⟩:=fU.1 bH;have aL:=jZ ao;have ae:Still c:=TG bH fun p hp _=>⟨c,T,bH,h.run.all.tx,fs,.rfl,gi p hp⟩
 have nC:c.news=[]:=by
  cases iE:c.news with
  | nil=>rfl
  | cons n ns=>
   exfalso;have ah:=JW bH (k:=0) (n:=n) (by rw[iE];rfl);simp only[nU,aW,gz,lf,ci]at ah;obtain⟨w,hw⟩:∃w:Nat,n.dest=w:=⟨n.dest.toNat,by omega⟩
   obtain⟨x,aa⟩:∃x,b9 c (w:Int)=some x:=py (by omega) (by omega);have hp:=gi ⟨7,w,0⟩ (by
    unfold gb;rw[K0 aL];exact gm _ (gm _ (TF (w:=w) (by omega) (by simp[ql]))))
   have bl:c.news.findIdx? (fun m=>m.dest==(w:Int))=some 0:=by
    rw[iE,List.findIdx?_cons,hw];simp
   have b7:de c ⟨7,(w:Int),0⟩=lH c w:=rfl;rw[b7]at hp;unfold lH at hp;rw[bl]at hp;dsimp only at hp;rw[a6 bH,iE]at hp;simp only[iy,aa]at hp;cases hp
 refine⟨ae,fun e he x aa=>?_,nC⟩;obtain⟨cJ,lZ⟩:∃cJ,b9 c 0=some cJ:=py (by decide) (by omega);obtain⟨t,bt⟩:=Tf bH (e:=e) (by simp only[aW,ci];exact he);obtain⟨⟨iI,x1⟩,_⟩:=rJ.1 (yO bH bt);obtain⟨y,a1⟩:∃y,b9 c t.place=some y:=py iI (by omega);have hT:eD cJ e=true:=by
  refine Classical.byContradiction fun ax=>?_
  have ax:eD cJ e=false:=by simpa using ax
  have hp:=gi ⟨6,e,0⟩ (ajl he);have br:de c ⟨6,e,0⟩=d' c e t y:=by
   change kK c e=_;unfold kK;rw[a6 (by rw[bH];simp only[aW,lM,ci];exact he),lZ,bt];dsimp only;rw[ax,aX (by decide),a1]
  rw[br]at hp;have Yo:=(ae.quiet e).1 y (c8 (er a1).2.2);unfold d' at hp;rw[a6 Yo]at hp;cases ao:t.going with
  | false=>rw[ao]at hp;cases hp
  | true=>
   rw[ao,aX (by decide)]at hp;split at hp
   ·split at hp
    ·cases hp
    rename_i XP;refine XP ?_;have fQ:=h.run.all.tx.uT t (c8 (wR bt).2.2) ao;have fH:=h.run.all.tx.at a1 e.toNat;simp only[aW,ci];omega
   ·split at hp<;>cases hp
 obtain⟨i,hi⟩:=List.getElem?_of_mem aa;by_cases kb:i=0
 ·subst kb;rw[y9 lZ]at hi;cases hi;exact hT
 rcases (h.fin e he).reach (by rw[pB lZ];exact hT) i x (by omega) hi with r | ⟨n,r,_⟩
 ·exact r
 rw[nC]at r;cases r
theorem ajm(ao:ku g)(aa:∀r∈xs,Input r)(af:xs.length<=5)(CO:P.xs=xs)(ad:Live P S c)(fF:S<=60000)(arV:gl P c<=xs.length*554):
  ∃(d:aU) (j:Nat) (T:Int),mW c 3000=(d,j)/\j<3000/\Live P T d/\T<=200000/\d.aF=c.aF/\FT d/\∀p∈gb d,(de d p).2=false:=by
 have ah:(hf 3000 0 3000).toNat=3000:=by decide
 obtain⟨d,j,T,e1,e2,b2,dB,gD,j9⟩:=UE (P:=P) 3000 (c:=c) 0 2911 ad (by omega) (by omega) (.inr (by omega));refine⟨d,j,T,?_,by omega,b2,dB,gD,b2.ended dB j9,j9⟩;unfold mW;rw[ah,e1,c']
structure Grown (g:bW) (xs:List aA) (c:aU):Prop where
 drawn:ku g
 input:∀r∈xs,Input r
 few:xs.length<=5
 live:∃(P:kx) (S:Int),P.xs=xs/\Live P S c/\S<=60000/\gl P c<=xs.length*554
 aF:c.aF=g
theorem Grown.new(ao:ku g)(aa:∀r∈xs,Input r)(af:xs.length<=5):Grown g xs (eO g xs):=by
 obtain⟨P,CO,h⟩:=Live.new ao aa af;subst CO;exact⟨ao,aa,af,⟨P,0,rfl,h,by omega,ai5 (LB ao (by omega) aa) aa⟩,rfl⟩
