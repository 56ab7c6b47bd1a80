import Derived.Test.YtdchjefneblpgaaGreatP55
import Derived.Test.YtdchjefneblpgaaGreatP72
set_option linter.unusedVariables false
set_option linter.unusedSimpArgs false
namespace Go.Proofs.YtdchjefneblpgaaGreat
open Go.Sx Go.RowKit Go.Proofs.Tryz
structure jE (c:aV):Prop where
 w:∀(i:Nat) x,c.ao[i]?=some x->(∀r∈x.queue,ec r.key c.ax.ao=i)/\∀r∈x.bX,ec r.key c.ax.ao=i
 l:∀(i:Nat) l,c.bQ[i]?=some l->∀r∈l.queue,ec r.key c.ax.ao=(i:Int).tmod c.ax.ao
variable{c:aV}
theorem jE.ok(h:jE c)(aP:1<=c.ax.ao):Wd c=true:=by
 unfold Wd;rw[Aj (p:=JL c.ax.ao) fun i x aa=>?_,Aj (p:=JK c.ax.ao) fun i l aj=>?_]
 ·rfl
 ·simp only[JK,fw,l4,fm,DQ,bne_iff_ne,lc,Decidable.not_not];exact⟨by omega,h.l i l aj⟩
 simp only[JL,fw,fm,DQ,bne_iff_ne,lc,Decidable.not_not];exact h.w i x aa
theorem jE.setW{c:aV}{i:Int}{y:aN}(h:jE c)(bk:(∀r∈y.queue,ec r.key c.ax.ao=i.toNat)/\∀r∈y.bX,ec r.key c.ax.ao=i.toNat):jE (setW c i y):=
 ⟨fun j x aa=>by
  rcases xO aa with⟨rfl,rfl⟩ | ⟨_,aa⟩
  ·exact bk
  exact h.w j x aa,h.l⟩
theorem jE.c3{c:aV}{i:Int}{m:bC}(h:jE c)(hm:∀r∈m.queue,ec r.key c.ax.ao=(i.toNat:Int).tmod c.ax.ao):jE (c3 c i m):=
 ⟨h.w,fun j l aj=>by
  rcases xO aj with⟨rfl,rfl⟩ | ⟨_,aj⟩
  ·exact hm
  exact h.l j l aj⟩
variable{i:Int}{x:aN}
theorem jE.at(h:jE c)(aa:b0 c i=some x):(∀r∈x.queue,ec r.key c.ax.ao=i.toNat)/\∀r∈x.bX,ec r.key c.ax.ao=i.toNat:=h.w _ x (dU aa).2.2
theorem jE.link{l:bC}(h:jE c)(aj:eA c i=some l):∀r∈l.queue,ec r.key c.ax.ao=(i.toNat:Int).tmod c.ax.ao:=h.l _ l (hJ aj).2.2
theorem jE.cO{i:Int}{u:bO}(h:jE c):jE (cO c i u):=⟨h.w,h.l⟩
variable{g:bF}
theorem H3{a b:Int}(h:0<=dT g a b):aw a 0 (g.ao-1)=true/\aw b 0 (g.ao-1)=true:=by
 cases al:(aw a 0 (g.ao-1)&&aw b 0 (g.ao-1)) with
 | true=>grind
 | false=>grind[uQ]
theorem jE.dB{e:Int}{t:bO}(h:jE c)(aa:b0 c t.place=some x):jE (dB c e t x).1:=by
 have aC:=h.at aa;rcases pT c e t x with⟨_,U⟩ | ⟨_,_,⟨_,U⟩ | ⟨_,_,U⟩ | ⟨_,bE,_,U⟩ | ⟨_,_,_,U⟩⟩
 ·grind
 ·rw[U];exact h.cO.setW aC
 ·rw[U];exact h.cO.setW aC
 ·rw[U];have aL:t.place=0:=by have:=(dU aa).1;omega
  rw[aL]at aC;have bt:=(h.cO (i:=e) (u:=⟨false,t.place,t.sum,t.bV,t.b7⟩)).setW (i:=0) (y:=told x e (t.b7||x.bl.getD e.toNat false)) aC;exact⟨bt.w,bt.l⟩
 rw[U];exact⟨h.w,h.l⟩
theorem jE.step{d:aV}{p:b6}(h:jE c)(bI:cr c=true)(st:Step c p d):jE d:=by
 have aP:=ih (fe.1 bI).1;cases st with
 | work x r q hk aa ai aC=>
  have:=h.at aa;rw[aC]at this;exact h.setW ⟨fun a ae=>this.1 a (ff _ ae),this.2⟩
 | input x r t hk aa ai aC hi=>
  have:=(h.at aa).2;rw[hi]at this;exact h.setW ⟨fun a ae=>this a (by grind),fun a ae=>this a (ff _ ae)⟩
 | eU x r t hk aa ai aW=>
  have:=h.at aa;have hp:=(dU aa).1;refine h.setW ⟨fun a ae=>?_,this.2⟩;rcases gg.1 ae with ae | ae
  ·exact this.1 a ae
  grind
 | send x r t l hk aa ai aW aj hsend=>
  obtain⟨_,_,_,e1⟩:=Ap hsend;obtain⟨g1,g2⟩:=H3 (hJ aj).1;obtain⟨_,_,_,_,Gt⟩:=yf aP g1 g2;have hp:=(hJ aj).1;have hw:=h.at aa;refine (h.c3 (i:=dT c.ax p.a (ec r.key c.ax.ao)) (m:=(ei l r).1) fun a ae=>?_).setW (c:=Go.Proofs.YtdchjefneblpgaaGreat.c3 c _ _) hw;rw[e1]at ae;rcases gg.1 ae with ae | ae
  ·exact h.link aj a ae
  grind
 | take l x hk dw aj aa bG=>
  obtain⟨_,r,q,aC,e2,e1⟩:=vZ bG;obtain⟨g1,g2⟩:=H3 (hJ aj).1;obtain⟨jm,_,_,_,Gt⟩:=yf aP g1 g2;have oI:=h.link aj;rw[aC,Po aj,jm,Gt]at oI;have aq:=(dU aa).1;refine (h.c3 (i:=dT c.ax p.a p.b) (m:=(dF l).1) fun a ae=>?_).setW (c:=Go.Proofs.YtdchjefneblpgaaGreat.c3 c _ _) ⟨fun a ae=>?_,(h.at aa).2⟩
  ·grind
  rcases gg.1 ae with ae | ae
  ·exact (h.at aa).1 a ae
  obtain rfl:a=_:=by simpa using ae
  rw[e2];have:=oI r (fN ..);change ec r.key c.ax.ao=_;omega
 | qb l hk dw aj al=>
  rcases v7 l with⟨k,_⟩ | ⟨_,_,_,e1⟩
  ·grind
  refine h.c3 fun a ae=>?_
  rw[e1]at ae;exact h.link aj a ae
 | token t x cv hk iu bE aF bG aa rm=>exact h.dB aa
 | qm k n x hk aP aF aa=>
  have aC:=h.at aa;have:=h.setW (i:=p.a) (y:=ea x n) (by
   unfold ea;split<;>exact aC)
  exact⟨this.w,this.l⟩
structure jB (S:Int) (c:aV):Prop where
 bP:∀x∈c.ao,∀k:Nat,-S<=x.bP.getD k 0/\x.bP.getD k 0<=S
 eG:∀l∈c.bQ,l.eG<=S
 wP:∀t∈c.tokens,t.going=true->t.sum+200000*t.place<=600000/\-600000<=t.sum-200000*t.place
variable{S:Int}
theorem Zg{xs:List Int}{f d:Int}(aF:-1<=d/\d<=1)(h:∀k:Nat,-S<=xs.getD k 0/\xs.getD k 0<=S)(k:Nat):-(S+1)<=(nr xs f d).getD k 0/\(nr xs f d).getD k 0<=S+1:=by
 grind[nr,Dz,List.set_eq_of_length_le,xP]
theorem jB.mono{T:Int}(h:jB S c)(jG:S<=T):jB T c:=
 ⟨fun x aa k=>by have:=h.bP x aa k;omega,fun l aj=>by have:=h.eG l aj;omega,h.wP⟩
theorem jB.setW{c:aV}{i:Int}{y:aN}(h:jB S c)(bk:∀k:Nat,-S<=y.bP.getD k 0/\y.bP.getD k 0<=S):jB S (setW c i y):=
 ⟨fun x aa=>by
  rcases iB aa with aa | rfl
  ·exact h.bP x aa
  exact bk,h.eG,h.wP⟩
theorem jB.c3{c:aV}{i:Int}{m:bC}(h:jB S c)(hm:m.eG<=S):jB S (c3 c i m):=
 ⟨h.bP,fun l aj=>by
  rcases iB aj with aj | rfl
  ·exact h.eG l aj
  exact hm,h.wP⟩
theorem jB.cO{i:Int}{u:bO}(h:jB S c)(hu:u.going=true->u.sum+200000*u.place<=600000/\-600000<=u.sum-200000*u.place):jB S (cO c i u):=
 ⟨h.bP,h.eG,fun t bG=>by
  rcases iB bG with bG | rfl
  ·exact h.wP t bG
  exact hu⟩
theorem jB.at(h:jB S c)(aa:b0 c i=some x):∀k:Nat,-S<=x.bP.getD k 0/\x.bP.getD k 0<=S:=h.bP x (cB (dU aa).2.2)
theorem jB.dB{e:Int}{t:bO}(h:jB S c)(io:S<=200000)(bI:cr c=true)(bG:h4 c e=some t)(aa:b0 c t.place=some x):jB S (dB c e t x).1:=by
 have hw:=W7 bI;have aq:=h.at aa;have aej:=h.wP t (cB (ye bG).2.2);rcases pT c e t x with⟨_,U⟩ | ⟨_,_,⟨_,U⟩ | ⟨ar,bE,U⟩ | ⟨_,bE,_,U⟩ | ⟨_,_,_,U⟩⟩
 ·grind
 ·rw[U];exact (h.cO fun _=>⟨by grind,by grind⟩).setW aq
 ·rw[U];have aA:=aq e.toNat;have aI:=aej ar;exact (h.cO fun _=>⟨by grind,by grind⟩).setW aq
 ·rw[U];have:=(h.cO (i:=e) (u:=⟨false,t.place,t.sum,t.bV,t.b7⟩) (fun k=>by cases k)).setW (i:=0) (y:=told x e (t.b7||x.bl.getD e.toNat false)) aq;exact⟨this.bP,this.eG,this.wP⟩
 rw[U];exact h.cO fun k=>by cases k
theorem jB.step{d:aV}{p:b6}(h:jB S c)(io:S<200000)(bI:cr c=true)(st:Step c p d):jB (S+1) d:=by
 have kV:=h.mono (show S<=S+1 by omega);cases st with
 | work x r q hk aa ai aC=>have aq:=kV.at aa;exact kV.setW aq
 | input x r t hk aa ai aC hi=>have aq:=kV.at aa;exact kV.setW aq
 | eU x r t hk aa ai aW=>have aq:=kV.at aa;exact kV.setW aq
 | send x r t l hk aa ai aW aj hsend=>
  obtain⟨_,_,_,e1⟩:=Ap hsend;have:=h.eG l (cB (hJ aj).2.2);have aq:=Zg (f:=r.bf.aU) (d:=1) (by omega) (h.at aa);exact (kV.c3 (by grind)).setW aq
 | take l x hk dw aj aa bG=>
  obtain⟨_,r,q,aC,e2,e1⟩:=vZ bG;have:=h.eG l (cB (hJ aj).2.2);have aq:=Zg (f:=(dF l).2.1.bf.aU) (d:=-1) (by omega) (h.at aa);exact (kV.c3 (by grind)).setW aq
 | qb l hk dw aj al=>
  rcases v7 l with⟨k,_⟩ | ⟨_,_,_,e1⟩
  ·grind
  have:=h.eG l (cB (hJ aj).2.2);exact kV.c3 (by grind)
 | token t x cv hk iu bE aF bG aa rm=>exact (h.dB (by omega) bI bG aa).mono (by omega)
 | qm k n x hk aP aF aa=>
  have aq:=kV.at aa;have:=kV.setW (i:=p.a) (y:=ea x n) (by
   unfold ea;split<;>exact aq)
  exact⟨this.bP,this.eG,this.wP⟩
theorem at0(p:b6)(bI:cr c=true)(aq:jB S c)(io:S<1000000):cr (c7 c p).1=true:=by
 have aP:=ih (fe.1 bI).1;have key:∀{i:Int} {x:aN},b0 c i=some x->∀(k:Nat) (d:Int),-1<=d/\d<=1->aw (x.bP.getD k 0+d) (-1000000) 1000000=true:=fun aa k d aF=>by
  have:=aq.at aa k;simp only[aw,cc];omega
 unfold c7;split
 ·exact WX bI
 split
 ·exact WY bI
 split
 ·unfold jc;rw[bh bI];cases aa:b0 c p.a with
  | none=>exact bI
  | some x=>
   dsimp only;cases ai:x.cj with
   | nil=>exact bI
   | cons r t=>
    dsimp only;unfold r1;split
    ·grind[WV]
    rename_i aW;cases aj:eA c (dT c.ax p.a (ec r.key c.ax.ao)) with
    | none=>exact bI
    | some l=>
     dsimp only;split
     ·rename_i h;exact (WU bI aa ai (Al _ aP.1) aW aj h).trans (key aa _ 1 (by omega))
     exact bI
 split
 ·unfold jT;split
  ·cases aj:eA c (dT c.ax p.a p.b) with
   | none=>exact bI
   | some l=>
    cases aa:b0 c p.b with
    | none=>exact bI
    | some x=>
     dsimp only;split
     ·rename_i h;exact (WW bI aj aa h).trans (key aa _ (-1) (by omega))
     exact bI
  exact bI
 grind[WZ,W1,W2]
structure lf (S:Int) (c:aV):Prop where
 ok:cr c=true
 owns:jE c
 kR:jB S c
 inv:∀e:Int,0<=e/\e<=3->Inv e c
theorem lf.mono{T:Int}(h:lf S c)(jG:S<=T):lf T c:=⟨h.ok,h.owns,h.kR.mono jG,h.inv⟩
theorem lf.step(h:lf S c)(io:S<200000)(p:b6):lf (S+1) (c7 c p).1:=by
 have bI:=at0 p h.ok h.kR (by omega);rcases v8 c p with⟨_,U⟩ | ⟨_,_,st⟩
 ·rw[U];exact h.mono (by omega)
 exact⟨bI,h.owns.step h.ok st,h.kR.step io h.ok st,fun e he=>(h.inv e he).step he h.ok st⟩
theorem lf.run{c:aV}:∀(l:List b6) {S:Int} {c:aV},lf S c->S+l.length<=200000->lf (S+l.length) (cE c l).1
 | [],S,c,h,_=>by grind[cE]
 | p::l,S,c,h,io=>by
  simp only[fO]at io ⊢;have:=lf.run (c:=c) l (h.step (by omega) p) (by omega);grind[cE,Nat,Int]
theorem H4{xs:List ay}{w:Int}{r:ay}(h:r∈own g xs w):r∈xs/\ec r.key g.ao=w:=by
 simp only[own,nu,l2,uv,List.mem_filter,b9,iL]at h;grind
theorem A6{xs:List ay}{n i:Nat}(h:(mO g xs n)[i]?=some x):x=mm (own g xs (i:Nat))/\i<n:=by
 grind[a6,wa,mO,gX]
end Go.Proofs.YtdchjefneblpgaaGreat
namespace Go.Proofs.YtdchjefneblpgaaGreat
open Go.Sx Go.RowKit Go.Proofs.Tryz
theorem Zh(g:bF)(xs:List ay)(w:Int):∀n:Nat,(nu g xs w n).Pairwise (fun a b=>a.bf.aU<=b.bf.aU)/\∀r∈nu g xs w n,r.bf.aU<n
 | 0=>⟨List.Pairwise.nil,fun r aB=>by grind[nu]⟩
 | n+1=>by
  obtain⟨h1,U⟩:=Zh g xs w n;have aA:∀r∈uv g xs w (n:Nat),r.bf.aU=(n:Nat):=fun r aB=>by
   simp_all[uv,List.mem_filter,b9,iL]
  rw[OP];refine⟨List.pairwise_append.2 ⟨h1,?_,fun a ae b aq=>?_⟩,fun r aB=>?_⟩
  ·simp_all[List.pairwise_of_forall_mem_list,Int.le_refl]
  ·grind
  grind
theorem Zi{α:Type}{R:α->α->Prop}:∀{xs:List α},xs.Pairwise R->∀{j:Nat} {a b:α},xs[j]?=some a->xs[j+1]?=some b->R a b
 | [],_,_,_,_,h,_=>by simp at h
 | x::xs,hp,0,a,b,h1,U=>by
  obtain rfl:x=a:=by grind
  exact (List.pairwise_cons.1 hp).1 b (cB (i:=0) (by grind))
 | x::xs,hp,j+1,a,b,h1,U=>Zi (List.pairwise_cons.1 hp).2 (j:=j) (by grind) (by grind)
variable{g:bF}{xs:List ay}
theorem at1(h:iY g xs=true)(w:Int):e8 g (mm (own g xs w))=true:=by
 obtain⟨h1,_,aA⟩:=yj.1 h;have aj:1<=(g.nodes.length:Int):=by
  simp_all[dg,b9,aw,cc]
 have RV:∀r∈own g xs w,dM r=true/\r.op=0/\r.bf.dG=0:=fun r aB=>by
  rw[fm]at aA;have:=aA r (H4 aB).1;simp only[nF,oi,gQ,bne_iff_ne,lc,not_or,Bool.not_eq_false,Decidable.not_not]at this;grind
 refine h3.2 ⟨rfl,rfl,?_,rfl,rfl,rfl,rfl,?_,rfl,rfl⟩
 ·simp only[gy,gQ,fm,mm];intro r aB;obtain⟨b8,bt,_⟩:=RV r aB;simp only[ig,b8,bt,jg,jz,cc];omega
 refine Aj fun i a ae=>?_
 change (own g xs w)[i]?=some a at ae;obtain⟨_,bt,eL⟩:=RV a (cB ae);cases i with
 | zero=>grind[mg]
 | succ j=>
  unfold mg;rw[bt,eL];change (match (own g xs w)[j]? with | some q=>decide (q.bf.aU>a.bf.aU) | none=>false)=false;cases aC:(own g xs w)[j]? with
  | none=>rfl
  | some q=>
   have:=Zi (Zh g xs w 4).1 aC ae;grind
theorem at2(h:iY g xs=true):cr (dn g xs)=true:=by
 obtain⟨h1,_,_⟩:=yj.1 h;have aP:=ih h1;have al:1<=g.cap/\g.cap<=4:=by
  simp_all[dg,b9,aw,cc]
 have fP:hG g.cap 1 4=g.cap:=by simp_all[hG,bq]
 refine fe.2 ⟨h1,?_,?_,rfl,?_,?_,?_,rfl⟩
 ·grind[dn,wa]
 ·simp only[dn,List.length_replicate,Int.natCast_mul];grind
 ·rw[fm];intro x aa;obtain⟨i,hi⟩:=List.getElem?_of_mem aa;obtain⟨rfl,_⟩:=A6 hi;grind[dn,at1,decide]
 ·refine Aj fun i l aj=>?_
  have:=List.eq_of_mem_replicate (cB aj);subst this;refine qJ.2 ⟨pS.2 ⟨?_,?_,?_,?_,rfl,?_,rfl,rfl⟩,?_,rfl,fun _=>rfl⟩
  ·simp_all[kp,aw,cc]
  ·simp only[kp,fP,aw,cc];omega
  ·simp only[kp,fP,aw,cc];omega
  ·grind[kp,ej]
  ·grind[kp]
  simp only[kp,fP];rfl
 rw[fm];intro t bG;have:=List.eq_of_mem_replicate bG;subst this;rw[show lT (dn g xs).ax.ao wO=false from tg.2 ⟨⟨by decide,by change (0:Int)<=g.ao-1;omega⟩,fun _=>rfl,by decide⟩];decide
theorem Zj{α:Type}{f:α->Int}:∀{xs:List α},(∀x∈xs,f x=0)->(xs.map f).sum=0
 | [],_=>rfl
 | a::xs,h=>by
  rw[iM,sj,h a (fN ..),Zj fun x aa=>h x (ff _ aa)];rfl
theorem lf.new(h:iY g xs=true):lf 0 (dn g xs):=by
 have hw:∀x∈(dn g xs).ao,∃w:Nat,x=mm (own g xs w):=fun x aa=>by
  obtain⟨i,hi⟩:=List.getElem?_of_mem aa;exact⟨i,(A6 hi).1⟩
 have oI:∀l∈(dn g xs).bQ,l=kp g.cap:=fun l aj=>List.eq_of_mem_replicate aj
 have zero:∀(k:Nat),(List.replicate 4 (0:Int)).getD k 0=0:=fun k=>by
  grind
 refine⟨at2 h,⟨fun i x aa=>?_,fun i l aj=>?_⟩,⟨fun x aa k=>?_,fun l aj=>?_,fun t bG ar=>?_⟩,fun e he=>⟨?_,fun t bG ar=>?_,fun jG=>?_⟩⟩
 ·obtain⟨rfl,_⟩:=A6 aa;exact⟨fun r aB=>by grind[mm],fun r aB=>(H4 aB).2⟩
 ·rw[oI l (cB aj)];grind[kp]
 ·grind[mm]
 ·rw[oI l aj];exact Int.le_refl _
 ·rw[List.eq_of_mem_replicate bG]at ar;cases ar
 ·have h1:hc e (dn g xs) (dn g xs).ao.length=0:=by
   refine Zj fun x aa=>?_
   obtain⟨w,rfl⟩:=hw x (tB aa);exact zero _
  have U:jl e (dn g xs)=0:=by
   unfold jl da;simp_all[Iw,pQ,dn,iI,kp]
  grind
 ·obtain⟨_,_,U⟩:=ye bG;rw[List.eq_of_mem_replicate (cB U)]at ar;cases ar
 exfalso;have h1:oc (dn g xs) e=false:=by
  grind[oc,fm,eC,mm]
 grind[nJ,dn]
theorem lf.drawn(h:iY g xs=true)(l:List b6)(aj:l.length<=200000):lf l.length (cE (dn g xs) l).1:=by
 have:=(lf.new h).run (c:=dn g xs) l (by omega);grind
end Go.Proofs.YtdchjefneblpgaaGreat
namespace Go.Proofs.YtdchjefneblpgaaGreat
open Go.Sx Go.RowKit Go.Proofs.Tryz
theorem at3(c:aV)(l:List b6)(al:c.sz+4*l.length<=8388608):
  cN prog (ap f15 0) (A7 (l.map b6.e) 0 [] (c.ax.nodes.map Node.e) c.ax.ao c.ax.cap (c.ao.map aN.e) (c.bQ.map bC.e) (c.tokens.map bO.e) (c.news.map bW.e) (cr c) 0 0) (.exit 0)
   (Qb ((cE c l).2.map cF) ((cE c l).1.ax.nodes.map Node.e) (cE c l).1.ax.ao (cE c l).1.ax.cap ((cE c l).1.ao.map aN.e) ((cE c l).1.bQ.map bC.e) ((cE c l).1.tokens.map bO.e) ((cE c l).1.news.map bW.e) (cr (cE c l).1) 0 0):=by
 have aj:l.length<=8388608:=by omega
 have k:=dO (P:=prog) (c:=(ap f15 0)) (ci 0) l.length (fun i:Nat=>A7 (l.map b6.e) i ((cE c (l.take i)).2.map cF) ((cE c (l.take i)).1.ax.nodes.map Node.e) (cE c (l.take i)).1.ax.ao (cE c (l.take i)).1.ax.cap ((cE c (l.take i)).1.ao.map aN.e) ((cE c (l.take i)).1.bQ.map bC.e) ((cE c (l.take i)).1.tokens.map bO.e) ((cE c (l.take i)).1.news.map bW.e) (cr (cE c (l.take i)).1) 0 0) (fun i hi=>by
  obtain⟨p,hp⟩:=cV hi;have aP:=DX (l.take i) c;have ai:=Pt c l i;rw[Ps c hp];dsimp only;rw[An];generalize cE c (l.take i)=o at*;exact auG ⟨bT hi,bx,bA hi,bw b6.e hp,YN o.1 p (by omega),by grind,by grind,zd [(c7 o.1 p).2],cP hi aj,ad⟩) (auH ⟨dq,ad⟩)
 rw[h6]at k;exact k
theorem at4(c:aV)(l:List b6)(al:c.sz+4*l.length<=8388608)(hw:ga c):av 15 [.agg c.e,.one (.J 3 (l.map b6.e))] [.agg (cE c l).1.e,.one (.J 1 ((cE c l).2.map cF))]:=
 auI ⟨PQ c (by omega) hw,at3 c l al,ad⟩
theorem at5(c:aV)(l:List b6)(al:c.sz+4*l.length<=8388608)(hw:ga c):av 200 [.agg c.e,.one (.J 3 (l.map b6.e))] [.agg (cE c l).1.e,.one (.J 1 ((cE c l).2.map cF))]:=by
 have aj:l.length<=8388608:=by omega
 have k:=dO (P:=prog) (c:=(ap f200 0)) (ci 0) l.length (fun i:Nat=>DF (l.map b6.e) i ((cE c (l.take i)).2.map cF) ((cE c (l.take i)).1.ax.nodes.map Node.e) (cE c (l.take i)).1.ax.ao (cE c (l.take i)).1.ax.cap ((cE c (l.take i)).1.ao.map aN.e) ((cE c (l.take i)).1.bQ.map bC.e) ((cE c (l.take i)).1.tokens.map bO.e) ((cE c (l.take i)).1.news.map bW.e) 0 0) (fun i hi=>by
  obtain⟨p,hp⟩:=cV hi;have aP:=DX (l.take i) c;have ai:=Pt c l i;have ar:=(Ao (l.take i) c).eo hw;rw[Ps c hp];dsimp only;rw[An];generalize cE c (l.take i)=o at*;exact atm ⟨bT hi,bx,bA hi,bw b6.e hp,avP o.1 p (by omega) ar,by grind,by grind,zd [(c7 o.1 p).2],cP hi aj,ad⟩) (atn ⟨dq,ad⟩)
 rw[h6]at k;exact ato ⟨r5 c (by omega),k,ad⟩
def hK(c:aV):aV×Nat:=((cE c (fL c)).1,nd (cE c (fL c)).2)
theorem at6{c d:aV}(h:d.ax=c.ax):fL d=fL c:=by grind[fL]
theorem DB(c:aV):oo c (hK c).1:=Ao _ _
theorem PW(c:aV):(hK c).1.sz<=c.sz+400:=by
 grind[DY,fL,OJ,hK]
theorem qOp(c:aV)(l:List b6)(al:c.sz+4*l.length<=8388608):cH prog 131 [.ref (fT c) (fT (cE c l).1),.ro (.one (.J 3 (l.map b6.e)))] (.vals [.one (I (nd (cE c l).2))]):=by
 have aj:l.length<=8388608:=by omega
 have k:=dO (P:=prog) (c:=(ap f131 0)) (ci 0) l.length (fun i:Nat=>xU (l.map b6.e) i (nd (cE c (l.take i)).2) ((cE c (l.take i)).1.ax.nodes.map Node.e) (cE c (l.take i)).1.ax.ao (cE c (l.take i)).1.ax.cap ((cE c (l.take i)).1.ao.map aN.e) ((cE c (l.take i)).1.bQ.map bC.e) ((cE c (l.take i)).1.tokens.map bO.e) ((cE c (l.take i)).1.news.map bW.e) (cr (cE c (l.take i)).1)) (fun i hi=>by
  obtain⟨p,hp⟩:=cV hi;have aP:=DX (l.take i) c;have aF:=W9 (cE c (l.take i)).2;have ai:=Pt c l i;have bG:=DZ i l;rw[Ps c hp];dsimp only;rw[W'];generalize cE c (l.take i)=o at*;have st:=YN o.1 p (by omega);cases aq:(c7 o.1 p).2 with
  | true=>
   rw[aq]at st;exact awc ⟨bT hi,bx,bA hi,bw b6.e hp,st,rfl,⟨by omega,by omega⟩,cP hi aj,ad⟩
  | false=>
   rw[aq]at st;exact awd ⟨bT hi,bx,bA hi,bw b6.e hp,st,rfl,cP hi aj,ad⟩) (awe ⟨dq,ad⟩)
 rw[h6]at k;exact awf ⟨k,ad⟩
theorem at7(c:aV)(al:c.sz+400<=8388608)(hw:ga c):av 64 [.agg c.e] [.agg (hK c).1.e,.one (I (hK c).2)]:=by
 have ae:=OJ c;have run:=at5 c (fL c) (by omega) hw;have aP:=DX (fL c) c;unfold hK;dsimp only;generalize cE c (fL c)=o at*;have k:=dO (P:=prog) (c:=(ap f64 0)) (ci 0) o.2.length (fun i:Nat=>xT (o.1.ax.nodes.map Node.e) o.1.ax.ao o.1.ax.cap (o.1.ao.map aN.e) (o.1.bQ.map bC.e) (o.1.tokens.map bO.e) (o.1.news.map bW.e) (o.2.map cF) i (nd (o.2.take i))) (fun i hi=>by
  obtain⟨b,aq⟩:=cV hi;have aF:=W9 (o.2.take i);have bG:=DZ i o.2;rw[p6,aq,yY,W'];cases b with
  | true=>exact atA ⟨bT hi,bx,bA hi,bw cF aq,rfl,⟨by omega,by omega⟩,cP hi (by omega),ad⟩
  | false=>exact atB ⟨bT hi,bx,bA hi,bw cF aq,rfl,cP hi (by omega),ad⟩) (atC ⟨dq,ad⟩)
 rw[h6]at k;exact atD ⟨aqS c,run,k,ad⟩
def eQ:Nat->aV->Nat->aV×Nat
 | 0,c,k=>(c,k)
 | n+1,c,k=>if (hK c).2=0 then ((hK c).1,k+1) else eQ n (hK c).1 (k+1)
def jX(c:aV)(jQ:Int):aV×Nat:=eQ (hG jQ 0 3000).toNat c 0
theorem PX:∀(n:Nat) (c:aV) (k:Nat),(eQ n c k).1.sz<=c.sz+n*400
 | 0,c,k=>fl _
 | n+1,c,k=>by
  have h1:=PW c;have U:=PX n (hK c).1 (k+1);unfold eQ;split
  ·dsimp only;omega
  omega
theorem PY:∀(n:Nat) (c:aV) (k:Nat),oo c (eQ n c k).1
 | 0,c,k=>.rfl
 | n+1,c,k=>by
  unfold eQ;split
  ·exact DB c
  exact (DB c).trans (PY n _ _)
theorem Zk{n:Nat}{c:aV}{k:Nat}(bE:¬(hK c).2=0):eQ (n+1) c k=eQ n (hK c).1 (k+1):=by
 simp_all[eQ,bq]
theorem PZ(n:Int):∃k:Nat,hG n 0 3000=k/\k<=3000:=by
 refine⟨(hG n 0 3000).toNat,?_,?_⟩<;>(unfold hG;grind)
theorem Zl(m:Nat)(hm:m<=3000)(l:List b6):∀(n:Nat) (c:aV) (k:Nat),k+n=m->fL c=l->c.sz+n*400<=8388608->
  cN prog (ap f16 0) (wk (l.map b6.e) m ((k:Int)+1) (c.ax.nodes.map Node.e) c.ax.ao c.ax.cap (c.ao.map aN.e) (c.bQ.map bC.e) (c.tokens.map bO.e) (c.news.map bW.e) (cr c) 0 0) .ret
    (P' (eQ n c k).2 ((eQ n c k).1.ax.nodes.map Node.e) (eQ n c k).1.ax.ao (eQ n c k).1.ax.cap ((eQ n c k).1.ao.map aN.e) ((eQ n c k).1.bQ.map bC.e) ((eQ n c k).1.tokens.map bO.e) ((eQ n c k).1.news.map bW.e))\/
  (eQ n c k).2=m/\cN prog (ap f16 0) (wk (l.map b6.e) m ((k:Int)+1) (c.ax.nodes.map Node.e) c.ax.ao c.ax.cap (c.ao.map aN.e) (c.bQ.map bC.e) (c.tokens.map bO.e) (c.news.map bW.e) (cr c) 0 0) (.exit 0)
    (Qa m ((eQ n c k).1.ax.nodes.map Node.e) (eQ n c k).1.ax.ao (eQ n c k).1.ax.cap ((eQ n c k).1.ao.map aN.e) ((eQ n c k).1.bQ.map bC.e) ((eQ n c k).1.tokens.map bO.e) ((eQ n c k).1.news.map bW.e) (cr (eQ n c k).1) 0 0)
 | 0,c,k,hk,_,_=>.inr ⟨by grind[eQ],.last (ci 0) (auC ⟨dE (by omega),ad⟩)⟩
 | n+1,c,k,hk,aj,al=>by
  have r:=qOp c l (by grind[OJ]);have ai:=PW c;have ar:=(DB c).ax;have e1:hK c=((cE c l).1,nd (cE c l).2):=by grind[hK]
  by_cases bE:(hK c).2=0
  ·rw[show eQ (n+1) c k=((hK c).1,k+1) by simp_all[eQ,bh]];rw[e1]at bE ⊢;exact .inl (.last eZ (auB ⟨dc (by omega),r,by grind,ad⟩))
  rw[Zk bE];have dL:=Zl m hm l n (hK c).1 (k+1) (by omega) ((at6 ar).trans aj) (by omega);rw[e1]at bE dL ⊢;rcases dL with dL | ⟨aeF,dL⟩
  ·exact .inl (.more (YW ⟨dc (by omega),r,by grind,⟨by omega,by omega⟩,ad⟩) dL)
  exact .inr ⟨aeF,.more (YW ⟨dc (by omega),r,by grind,⟨by omega,by omega⟩,ad⟩) dL⟩
theorem P0(c:aV)(jQ:Int)(al:c.sz+1200000<=8388608)(hw:ga c):av 16 [.agg c.e,.one (I jQ)] [.agg (jX c jQ).1.e,.one (I (jX c jQ).2)]:=by
 have b:=Hj jQ 0 3000;obtain⟨m,hm,aq⟩:=PZ jQ;unfold jX;rw[hm]at b ⊢;rw[mU];rcases Zl m (by omega) (fL c) m c 0 (by omega) rfl (by omega) with k | ⟨b8,k⟩
 ·exact auD ⟨PQ c (by omega) hw,WR c,b,k,ad⟩
 rw[b8];exact auE ⟨PQ c (by omega) hw,WR c,b,k,ad⟩
theorem Zm(jQ:Int)(m:Nat)(hm:m<=3000)(b:av 167 [.one (I jQ),.one (I 0),.one (I 3000)] [.one (I m)]):∀(n:Nat) (c:aV) (k:Nat),k+n=m->ga c->c.sz+n*400<=8388608->
  cN prog (ap f40 0) (wj jQ k (c.ax.nodes.map Node.e) c.ax.ao c.ax.cap (c.ao.map aN.e) (c.bQ.map bC.e) (c.tokens.map bO.e) (c.news.map bW.e) 0 0) (.exit 0)
    (P8 (eQ n c k).2 ((eQ n c k).1.ax.nodes.map Node.e) (eQ n c k).1.ax.ao (eQ n c k).1.ax.cap ((eQ n c k).1.ao.map aN.e) ((eQ n c k).1.bQ.map bC.e) ((eQ n c k).1.tokens.map bO.e) ((eQ n c k).1.news.map bW.e) 0 0)\/
  cN prog (ap f40 0) (wj jQ k (c.ax.nodes.map Node.e) c.ax.ao c.ax.cap (c.ao.map aN.e) (c.bQ.map bC.e) (c.tokens.map bO.e) (c.news.map bW.e) 0 0) (.exit 0)
    (P9 (eQ n c k).2 ((eQ n c k).1.ax.nodes.map Node.e) (eQ n c k).1.ax.ao (eQ n c k).1.ax.cap ((eQ n c k).1.ao.map aN.e) ((eQ n c k).1.bQ.map bC.e) ((eQ n c k).1.tokens.map bO.e) ((eQ n c k).1.news.map bW.e) 0 0)
 | 0,c,k,hk,_,_=>.inr (.last (ci 0) (atF ⟨b,dE (by omega),ad⟩))
 | n+1,c,k,hk,hw,al=>by
  have r:=at7 c (by omega) hw;have ai:=PW c;have aeM:=DB c;by_cases bE:(hK c).2=0
  ·rw[show eQ (n+1) c k=((hK c).1,k+1) by simp_all[eQ,bh]];exact .inl (.last (ci 0) (atE ⟨b,dc (by omega),r,⟨by omega,by omega⟩,by grind,ad⟩))
  rw[Zk bE];have dL:=Zm jQ m hm b n (hK c).1 (k+1) (by omega) (aeM.eo hw) (by omega);rcases dL with dL | dL
  ·exact .inl (.more (ZC ⟨b,dc (by omega),r,⟨by omega,by omega⟩,by grind,ad⟩) dL)
  exact .inr (.more (ZC ⟨b,dc (by omega),r,⟨by omega,by omega⟩,by grind,ad⟩) dL)
theorem at8(c:aV)(jQ:Int)(al:c.sz+1200000<=8388608)(hw:ga c):av 40 [.agg c.e,.one (I jQ)] [.agg (jX c jQ).1.e,.one (I (jX c jQ).2)]:=by
 have b:=NG jQ 0 3000;obtain⟨m,hm,aq⟩:=PZ jQ;unfold jX;rw[hm]at b ⊢;rw[mU];rcases Zm jQ m (by omega) b m c 0 (by omega) hw (by omega) with k | k
 ·exact atG ⟨r5 c (by omega),k,ad⟩
 exact atH ⟨r5 c (by omega),k,ad⟩
end Go.Proofs.YtdchjefneblpgaaGreat
namespace Go.Proofs.YtdchjefneblpgaaGreat
open Go.Sx Go.RowKit Go.Proofs.Tryz
structure lI (F I:ay->Prop) (c:aV):Prop where
 w:∀x∈c.ao,∀r,r∈x.queue\/r∈x.cj->F r
 l:∀l∈c.bQ,∀r∈l.queue,F r
 i:∀x∈c.ao,∀r∈x.bX,I r
variable{F I:ay->Prop}
theorem lI.setW{c:aV}{i:Int}{y:aN}(h:lI F I c)(h1:∀r,r∈y.queue\/r∈y.cj->F r)(U:∀r∈y.bX,I r):lI F I (setW c i y):=
 ⟨fun x aa=>by
  rcases iB aa with aa | rfl
  ·exact h.w x aa
  ·exact h1,h.l,fun x aa=>by
  rcases iB aa with aa | rfl
  ·exact h.i x aa
  exact U⟩
theorem lI.c3{c:aV}{i:Int}{m:bC}(h:lI F I c)(h1:∀r∈m.queue,F r):lI F I (c3 c i m):=
 ⟨h.w,fun l aj=>by
  rcases iB aj with aj | rfl
  ·exact h.l l aj
  exact h1,h.i⟩
variable{c:aV}
theorem lI.at{i:Int}{x:aN}(h:lI F I c)(aa:b0 c i=some x):(∀r,r∈x.queue\/r∈x.cj->F r)/\∀r∈x.bX,I r:=
 ⟨h.w x (cB (dU aa).2.2),h.i x (cB (dU aa).2.2)⟩
theorem lI.cO{i:Int}{u:bO}(h:lI F I c):lI F I (cO c i u):=⟨h.w,h.l,h.i⟩
theorem lI.dB{e:Int}{t:bO}{x:aN}(h:lI F I c)(aa:b0 c t.place=some x):lI F I (dB c e t x).1:=by
 obtain⟨h1,U⟩:=h.at aa;rcases pT c e t x with⟨_,k⟩ | ⟨_,_,⟨_,k⟩ | ⟨_,_,k⟩ | ⟨_,bE,_,k⟩ | ⟨_,_,_,k⟩⟩
 ·grind
 ·rw[k];exact h.cO.setW h1 U
 ·rw[k];exact h.cO.setW h1 U
 ·rw[k];have bt:=(h.cO (i:=e) (u:=⟨false,t.place,t.sum,t.bV,t.b7⟩)).setW (i:=0) (y:=told x e (t.b7||x.bl.getD e.toNat false)) h1 U;exact⟨bt.w,bt.l,bt.i⟩
 rw[k];exact⟨h.w,h.l,h.i⟩
theorem lI.step{d:aV}{p:b6}(h:lI F I c)(FG:∀r,I r->F r)(RX:∀r cs,F r->ig c.ax r=false->∀q∈(dh c.ax cs r).2.1,F q)(bI:cr c=true)(st:Step c p d):lI F I d:=by
 cases st with
 | work x r q hk aa ai aC=>
  obtain⟨h1,U⟩:=h.at aa;have aq:=(h3.1 (iJ bI aa)).1;rw[aC,pR]at aq;refine h.setW (fun a ae=>?_) U;grind
 | input x r t hk aa ai aC hi=>
  obtain⟨h1,U⟩:=h.at aa;rw[hi]at U;refine h.setW (fun a ae=>?_) (fun a ae=>U a (ff _ ae));grind
 | eU x r t hk aa ai aW=>
  obtain⟨h1,U⟩:=h.at aa;rw[ai]at h1;refine h.setW (fun a ae=>?_) U;rcases ae with ae | ae
  ·rcases gg.1 ae with ae | ae
   ·exact h1 a (.inl ae)
   grind
  exact h1 a (.inr (ff _ ae))
 | send x r t l hk aa ai aW aj hsend=>
  obtain⟨_,_,_,e1⟩:=Ap hsend;obtain⟨h1,U⟩:=h.at aa;rw[ai]at h1;refine (h.c3 (i:=dT c.ax p.a (ec r.key c.ax.ao)) (m:=(ei l r).1) fun a ae=>?_).setW (c:=Go.Proofs.YtdchjefneblpgaaGreat.c3 c _ _) (fun a ae=>h1 a (ae.imp id (ff _))) U;rw[e1]at ae;rcases gg.1 ae with ae | ae
  ·exact h.l l (cB (hJ aj).2.2) a ae
  grind
 | take l x hk dw aj aa bG=>
  obtain⟨_,r,q,aC,e2,e1⟩:=vZ bG;obtain⟨h1,U⟩:=h.at aa;have aA:=h.l l (cB (hJ aj).2.2);rw[aC]at aA;refine (h.c3 (i:=dT c.ax p.a p.b) (m:=(dF l).1) fun a ae=>?_).setW (c:=Go.Proofs.YtdchjefneblpgaaGreat.c3 c _ _) (fun a ae=>?_) U
  ·grind
  rcases ae with ae | ae
  ·rcases gg.1 ae with ae | ae
   ·grind
   grind
  exact h1 a (.inr ae)
 | qb l hk dw aj al=>
  rcases v7 l with⟨k,_⟩ | ⟨_,_,_,e1⟩
  ·grind
  refine h.c3 fun a ae=>?_
  rw[e1]at ae;exact h.l l (cB (hJ aj).2.2) a ae
 | token t x cv hk iu bE aF bG aa rm=>exact h.dB aa
 | qm k n x hk aP aF aa=>
  have:lI F I (Go.Proofs.YtdchjefneblpgaaGreat.setW c p.a (ea x n)):=by
   obtain⟨h1,U⟩:=h.at aa;unfold ea;split
   ·exact h.setW h1 U
   exact h.setW h1 U
  exact⟨this.w,this.l,this.i⟩
theorem Zn{g:bF}{k a b c:Int}{v:Nat}(bD:v<=4)(aP:g.nodes=lE k a b c v){op:Int}(bE:0<=op)(h1:op<g.nodes.length):
  ∃y,dZ g op=some y/\((op=0/\y.kind=1/\(y.outs=[1]\/y.outs=[1,6]))\/(op=1/\y.kind=k/\y.outs=[2,5])\/(op=2/\y.kind=4/\y.a=1+a/\(y.outs=[3]\/y.outs=[3,4]))\/
   (op=3/\((y.kind=2/\y.a=b)\/y.kind=3)/\y.outs=[4])\/(op=4/\((y.kind=7/\y.outs=[1])\/(y.kind=8/\y.outs=[])))\/((op=5\/op=6)/\y.kind=8/\y.outs=[])):=by
 unfold dZ;rw[bh bE];rw[aP]at h1 ⊢;have e:op=0\/op=1\/op=2\/op=3\/op=4\/op=5\/op=6:=by
  have:(lE k a b c v).length<=7:=by
   have qu:v=0\/v=1\/v=2\/v=3\/v=4:=by omega
   rcases qu with rfl | rfl | rfl | rfl | rfl<;>exact Nat.le_of_ble_eq_true rfl
  omega
 have qu:v=0\/v=1\/v=2\/v=3\/v=4:=by omega
 rcases e with rfl | rfl | rfl | rfl | rfl | rfl | rfl
 ·rcases qu with rfl | rfl | rfl | rfl | rfl
  all_goals exact⟨_,rfl,.inl ⟨rfl,rfl,by grind⟩⟩
 ·rcases qu with rfl | rfl | rfl | rfl | rfl
  all_goals exact⟨_,rfl,.inr (.inl ⟨rfl,rfl,rfl⟩)⟩
 ·rcases qu with rfl | rfl | rfl | rfl | rfl
  all_goals exact⟨_,rfl,.inr (.inr (.inl ⟨rfl,rfl,rfl,by grind⟩))⟩
 ·rcases qu with rfl | rfl | rfl | rfl | rfl
  all_goals exact⟨_,rfl,.inr (.inr (.inr (.inl ⟨rfl,by grind,rfl⟩)))⟩
 ·rcases qu with rfl | rfl | rfl | rfl | rfl
  all_goals exact⟨_,rfl,.inr (.inr (.inr (.inr (.inl ⟨rfl,by grind⟩))))⟩
 ·rcases qu with rfl | rfl | rfl | rfl | rfl
  all_goals exact⟨_,rfl,.inr (.inr (.inr (.inr (.inr ⟨.inl rfl,rfl,rfl⟩))))⟩
 rcases qu with rfl | rfl | rfl | rfl | rfl
 ·simp_all[absurd,lE,th]
 ·simp_all[absurd,lE,th]
 ·simp_all[absurd,lE,th]
 ·exact⟨_,rfl,.inr (.inr (.inr (.inr (.inr ⟨.inr rfl,rfl,rfl⟩))))⟩
 simp_all[absurd,lE,th]
structure y2 (A B:Int) (x r:ay) (j:Nat):Prop where
 aU:r.bf.aU=x.bf.aU
 dG:0<=r.bf.dG/\r.bf.dG<=6
 aB5:(j:Int)<=r.bf.dG+(if r.op=4 then 1 else 0)
 val:r.val=x.val+B*j
 key:r.key=(x.key+A*(r.bf.dG+(if r.op=3\/r.op=4 then 1 else 0))) % 100
def Form(A B:Int)(xs:List ay)(r:ay):Prop:=∃x∈xs,∃j,y2 A B x r j
def od(op dG:Int):Nat:=
 if op=0 then 7 else if op=1 then 1 else if op=2 then (if dG<6 then 16 else 10) else if op=3 then (if dG<6 then 7 else 4) else if op=4 then (if dG<6 then 4 else 1) else 1
def wt(r:ay):Nat:=od r.op r.bf.dG
def vo(t:Int):Nat:=if t<6 then 21 else 15
theorem P1{x:Node}{r:ay}(aP:aO x=true)(aB:dM r=true)(U:x.kind≠2)(aA:x.kind≠3)(aI:x.kind≠4):b3 x r.key r.val=(r.key,r.val,x.kind != 8):=by
 simp_all[b3,A1,Bool.and_self,fU,bq]
theorem Zo{B:Int}{j:Nat}(B0:0<=B/\B<4)(a8:j<=7):0<=B*j/\B*j<=21:=by
 have h:B=0\/B=1\/B=2\/B=3:=by omega
 grind
theorem Zp{g:bF}{k a b c:Int}{v:Nat}(hk:k=5\/k=6)(aq:0<=b/\b<4)(ae:0<=a/\a<3)(bD:v<=4)(aP:g.nodes=lE k a b c v)(ar:dg g=true){x r:ay}{j:Nat}(aa:Input x)(br:y2 (1+a) b x r j)
  (aB:ig g r=false) (cs:List Cell):
  da (fun q=>wt q+2) (dh g cs r).2.1+1<=wt r+(if r.op=1/\(cm k cs (cellOf r)).2=true then vo r.bf.dG else 0)/\∀q∈(dh g cs r).2.1,∃i,y2 (1+a) b x q i:=by
 simp only[ig,fw,jf,l4]at aB;obtain⟨bI,bM⟩:=aB;have bE:0<=r.op:=by
  simp_all[dM,aw,b9,cc]
 obtain⟨f1,f2,f3,f4,f5⟩:=br;obtain⟨y,bk,al⟩:=Zn bD aP bE (by omega);have nk:=A0 ar bk;rw[OB ar bI bk];rcases al with⟨aW,kZ,lO⟩ | ⟨aW,kZ,lO⟩ | ⟨aW,kZ,Cw,lO⟩ | ⟨aW,kZ,lO⟩ | ⟨aW,kZ⟩ | ⟨aW,kZ,lO⟩
 ·
  rw[P1 nk bI (by omega) (by omega) (by omega),uT (by omega) (by omega) (by omega),kZ];simp[aW]at f3 f5;rcases lO with lO | lO
  ·refine⟨by grind[e4,da,wt,od],fun q aC=>?_⟩;simp[e4,lO]at aC;subst aC;exact⟨j,f1,f2,by grind,f4,by grind⟩
  refine⟨by grind[e4,da,wt,od],fun q aC=>?_⟩;simp[e4,lO]at aC;rcases aC with rfl | rfl
  ·exact⟨j,f1,f2,by grind,f4,by grind⟩
  exact⟨j,f1,f2,by grind,f4,by grind⟩
 ·
  rw[P1 nk bI (by omega) (by omega) (by omega),kZ];simp[aW]at f3 f5;have FQ:(k != 8)=true:=by grind
  have Sj:k≠7:=by omega
  cases Ck:(cm k cs (cellOf r)).2 with
  | false=>grind[da,wt,od]
  | true=>
   refine⟨?_,fun q aC=>?_⟩
   ·simp only[FQ,jg,Bool.false_and,oh,mr,Sj,e4,lO,aW,and_self,fU,reduceCtorEq];simp only[iM,List.map_nil,da,sj,List.sum_nil,wt,od,vo];grind
   simp[FQ,Sj,e4,lO]at aC;rcases aC with rfl | rfl
   ·exact⟨j,f1,f2,by grind,f4,by grind⟩
   exact⟨j,f1,f2,by grind,f4,by grind⟩
 ·
  have ub:b3 y r.key r.val=((r.key+y.a).tmod 100,r.val,true):=by
   grind[b3,A1]
  rw[ub,uT (by omega) (by omega) (by omega),kZ];simp[aW]at f3 f5;have adE:(r.key+y.a).tmod 100=(x.key+(1+a)*(r.bf.dG+1)) % 100:=by
   grind
  rw[adE];have eL:∃i,y2 (1+a) b x ⟨3,r.bf,(x.key+(1+a)*(r.bf.dG+1)) % 100,r.val⟩ i:=⟨j,f1,f2,by grind,f4,by simp⟩
  have k4:∃i,y2 (1+a) b x ⟨4,r.bf,(x.key+(1+a)*(r.bf.dG+1)) % 100,r.val⟩ i:=⟨j,f1,f2,by grind,f4,by simp⟩
  rcases lO with lO | lO
  ·grind[e4,da,wt,od]
  grind[e4,da,wt,od]
 ·
  simp[aW]at f3 f5;have hm:=Zo aq (j:=j) (by omega);have mf:=Zo aq (j:=j+1) (by omega);obtain⟨_,_,_,_,uh⟩:=aa;rcases kZ with⟨kZ,Cw⟩ | kZ
  ·have ub:b3 y r.key r.val=(r.key,r.val+b,true):=by
    unfold b3;rw[nk,A1 bI,kZ];simp only[Bool.and_self,fU,Cw];rw[show less (r.val+b) 999=r.val+b by unfold less;grind]
   rw[ub,uT (by omega) (by omega) (by omega),kZ];refine⟨?_,fun q aC=>?_⟩
   ·grind[e4,da,wt,od]
   simp[e4,lO]at aC;subst aC;refine⟨j+1,f1,f2,by grind,?_,by grind⟩;grind
  have ub:∃z,b3 y r.key r.val=(r.key,r.val,z):=by
   unfold b3;rw[nk,A1 bI,kZ];grind
  obtain⟨z,ub⟩:=ub;rw[ub,uT (by omega) (by omega) (by omega),kZ];cases z with
  | false=>
   grind[da,wt,od]
  | true=>
   refine⟨?_,fun q aC=>?_⟩
   ·grind[e4,da,wt,od]
   simp[e4,lO]at aC;subst aC;exact⟨j,f1,f2,by grind,f4,by grind⟩
 ·
  simp[aW]at f3 f5;rcases kZ with⟨kZ,lO⟩ | ⟨kZ,lO⟩
  ·rw[P1 nk bI (by omega) (by omega) (by omega),uT (by omega) (by omega) (by omega),kZ];unfold eF;by_cases bu:r.bf.dG<6
   ·have fQ:(hZ r.bf&&decide (r.bf.dG<6))=true:=by
     simp_all[dM,b9,o4]
    rw[bh fQ];refine⟨?_,fun q aC=>?_⟩
    ·grind[e4,da,wt,od]
    simp[e4,lO]at aC;subst aC;exact⟨j,f1,⟨by grind,by grind⟩,by grind,f4,by grind⟩
   rw[bq (by simp[bu])];grind[da,wt,od]
  have aL:∀s cf la,e4 y s cf la=[]:=fun s cf la=>by grind[e4]
  simp only[aL,ite_self];grind[da,wt,od]
 -- out
 have aL:∀s cf la,e4 y s cf la=[]:=fun s cf la=>by grind[e4]
 simp only[aL,ite_self];grind[da,wt,od]
end Go.Proofs.YtdchjefneblpgaaGreat
namespace Go.Proofs.YtdchjefneblpgaaGreat
open Go.Sx Go.RowKit Go.Proofs.Tryz
theorem H5{α:Type}{f g:α->Nat}:∀{xs:List α},(∀u∈xs,f u<=g u)->da f xs<=da g xs
 | [],_=>fl _
 | x::xs,h=>by
  have h1:=h x (fN ..);have U:=H5 (f:=f) (g:=g) (xs:=xs) fun u hu=>h u (ff _ hu)
  grind[da]
theorem Zq{α:Type}{f g:α->Nat}{m:Nat}{u:α}:∀{xs:List α},(∀u∈xs,f u<=g u)->u∈xs->f u+m<=g u->da f xs+m<=da g xs
 | [],_,h,_=>by cases h
 | x::xs,h,hu,hm=>by
  have h1:=h x (fN ..);have U:∀u∈xs,f u<=g u:=fun u hu=>h u (ff _ hu)
  simp only[da,iM,sj];rcases dQ.1 hu with rfl | hu
  ·have:=H5 U;grind[da]
  have:=Zq U hu hm;grind[da]
theorem DC{α:Type}{f:α->Nat}{xs ys:List α}:da f (xs++ys)=da f xs+da f ys:=by
 simp[da]
theorem nH{α:Type}{f:α->Nat}{x:α}{xs:List α}:da f (x::xs)=f x+da f xs:=by simp[da]
theorem xQ{α:Type}{f:α->Nat}:da f []=0:=rfl
def JR(A B:Int)(x:ay)(t j:Nat):Cell:=⟨1,x.bf.aU,(x.key+A*t) % 100,x.val+B*j⟩
def univ(A B:Int)(xs:List ay):List (Nat×Cell):=xs.flatMap fun x=>(List.range 7).flatMap fun t=>(List.range (t+1)).map fun j=>(t,JR A B x t j)
def tk(k n:Int)(kU:List (List Cell))(u:Cell):Bool:=match kU[(ec u.key n).toNat]? with | some cs=>(cm k cs u).2 | none=>false
def BK(k n:Int)(kU:List (List Cell))(u:Nat×Cell):Nat:=if tk k n kU u.2=true then vo u.1 else 0
def zN(k n:Int)(kU:List (List Cell))(bn:List (Nat×Cell)):Nat:=da (BK k n kU) bn
theorem Zr(A B:Int):∀xs:List ay,da (fun u=>vo u.1) (univ A B xs)=xs.length*546
 | []=>rfl
 | x::xs=>by
  have dL:=Zr A B xs;unfold univ at dL ⊢;rw[List.flatMap_cons,DC,dL,fO];have:da (fun u:Nat×Cell=>vo u.1) ((List.range 7).flatMap fun t=>(List.range (t+1)).map fun j=>(t,JR A B x t j))=546:=by
   simp[da,List.range_succ,vo]
  omega
theorem at9(k n A B:Int)(kU:List (List Cell))(xs:List ay):zN k n kU (univ A B xs)<=xs.length*546:=by
 rw[<-Zr A B xs];refine H5 fun u _=>?_
 unfold BK;grind
theorem aua{A B:Int}{xs:List ay}{x r:ay}{j:Nat}(aa:x∈xs)(h:y2 A B x r j)(aW:r.op=1):(r.bf.dG.toNat,cellOf r)∈univ A B xs:=by
 obtain⟨f1,f2,f3,f4,f5⟩:=h;simp[aW]at f3 f5;unfold univ;refine l2.2 ⟨x,aa,l2.2 ⟨r.bf.dG.toNat,List.mem_range.2 (by omega),fV.2 ⟨j,List.mem_range.2 (by omega),?_⟩⟩⟩;grind[JR,cellOf,Int.toNat_of_nonneg]
variable{k:Int}{kU:List (List Cell)}{i:Nat}{cs sr:List Cell}
theorem Zs{n:Int}(hi:kU[i]?=some cs){u:Cell}(h:(cm k sr u).2=true->(cm k cs u).2=true):tk k n (kU.set i sr) u=true->tk k n kU u=true:=by
 unfold tk;grind
theorem aub{n:Int}(hi:kU[i]?=some cs){bn:List (Nat×Cell)}(h:∀u∈bn,(cm k sr u.2).2=true->(cm k cs u.2).2=true):zN k n (kU.set i sr) bn<=zN k n kU bn:=by
 refine H5 fun u hu=>?_
 unfold BK;by_cases ar:tk k n (kU.set i sr) u.2=true
 ·rw[bh ar,bh (Zs hi (h u hu) ar)];grind
 grind
theorem auc{n:Int}(hi:kU[i]?=some cs){bn:List (Nat×Cell)}(h:∀u∈bn,(cm k sr u.2).2=true->(cm k cs u.2).2=true)
  {u:Nat×Cell} (hu:u∈bn) (aW:(ec u.2.key n).toNat=i) (h1:(cm k cs u.2).2=true) (U:(cm k sr u.2).2=false):zN k n (kU.set i sr) bn+vo u.1<=zN k n kU bn:=by
 refine Zq (fun u hu=>?_) hu ?_
 ·unfold BK;by_cases ar:tk k n (kU.set i sr) u.2=true
  ·rw[bh ar,bh (Zs hi (h u hu) ar)];grind
  grind
 have g1:tk k n kU u.2=true:=by grind[tk]
 have g2:tk k n (kU.set i sr) u.2=false:=by grind[tk,mP]
 simp_all[BK,bh,bq,decide]
def iv(x:aN):Nat:=da wt x.queue+da (fun r=>wt r+2) x.cj+da (fun r=>wt r+1) x.bX
def uz(l:bC):Nat:=da (fun r=>wt r+1) l.queue+l.back.toNat
structure lj where
 k:Int
 a:Int
 b:Int
 c:Int
 v:Nat
 xs:List ay
def lj.bn(P:lj):List (Nat×Cell):=univ (1+P.a) P.b P.xs
def gx(P:lj)(c:aV):Nat:=da iv c.ao+da uz c.bQ+zN P.k c.ax.ao (c.ao.map aN.cells) P.bn
structure lj.Bx (P:lj) (c:aV):Prop where
 k:P.k=5\/P.k=6
 a:0<=P.a/\P.a<3
 b:0<=P.b/\P.b<4
 v:P.v<=4
 nodes:c.ax.nodes=lE P.k P.a P.b P.c P.v
 bX:∀r∈P.xs,Input r
 Qd:lI (Form (1+P.a) P.b P.xs) (fun r=>r∈P.xs) c
variable{P:lj}{c:aV}
theorem lj.Bx.step{d:aV}{p:b6}(h:P.Bx c)(bI:cr c=true)(st:Step c p d)(ar:d.ax=c.ax):P.Bx d:=by
 refine⟨h.k,h.a,h.b,h.v,by rw[ar];exact h.nodes,h.bX,h.Qd.step (fun r aB=>?_) (fun r cs br aq q aC=>?_) bI st⟩
 ·obtain⟨i1,i2,i3,i4,i5⟩:=h.bX r aB;refine⟨r,aB,0,rfl,by omega,by grind,by omega,?_⟩;grind
 obtain⟨x,aa,j,br⟩:=br;obtain⟨i,hi⟩:=(Zp h.k h.b h.a h.v h.nodes (fe.1 bI).1 (h.bX x aa) br aq cs).2 q aC;exact⟨x,aa,i,hi⟩
theorem xR{P:lj}{c:aV}{i:Int}{x y:aN}(aa:b0 c i=some x)(al:y.cells=x.cells):gx P (setW c i y)+iv x=gx P c+iv y:=by
 obtain⟨_,_,U⟩:=dU aa;have h:=Ir (f:=iv) y U;have e:(c.ao.set i.toNat y).map aN.cells=c.ao.map aN.cells:=by
  grind[ks,A4]
 grind[gx,setW]
theorem P2{P:lj}{i:Int}{l m:bC}(aj:eA c i=some l):gx P (c3 c i m)+uz l=gx P c+uz m:=by
 have h:=Ir (f:=uz) m (hJ aj).2.2;grind[gx,c3]
theorem aud{e:Int}{t:bO}{x:aN}(aa:b0 c t.place=some x):gx P (dB c e t x).1=gx P c:=by
 have hw:∀u:bO,gx P (setW (cO c e u) t.place (ez x e))=gx P c:=fun u=>by
  have:=xR (P:=P) (c:=cO c e u) (y:=ez x e) aa rfl;grind[gx,cO,iv,ez]
 rcases pT c e t x with⟨_,k⟩ | ⟨_,_,⟨_,k⟩ | ⟨_,_,k⟩ | ⟨_,bE,_,k⟩ | ⟨_,_,_,k⟩⟩
 ·rw[k]
 ·grind
 ·grind
 ·rw[k];have aL:t.place=0:=by have:=(dU aa).1;omega
  rw[aL]at aa;have:=xR (P:=P) (c:=cO c e ⟨false,t.place,t.sum,t.bV,t.b7⟩) (y:=told x e (t.b7||x.bl.getD e.toNat false)) aa rfl;have e1:gx P (cO c e ⟨false,t.place,t.sum,t.bV,t.b7⟩)=gx P c:=rfl;have e2:iv (told x e (t.b7||x.bl.getD e.toNat false))=iv x:=rfl;change gx P (setW (cO c e ⟨false,t.place,t.sum,t.bV,t.b7⟩) 0 (told x e (t.b7||x.bl.getD e.toNat false)))=_;omega
 rw[k];rfl
theorem Zt{d:aV}{p:b6}(h:P.Bx c)(gw:jE c)(bI:cr c=true)(st:Step c p d):gx P d+(if p.kind<=5/\p.kind≠4 then 1 else 0)<=gx P c:=by
 have ar:=(fe.1 bI).1;cases st with
 | work x r q hk aa ai aC=>
  rw[bh (show p.kind<=5/\p.kind≠4 by omega)];obtain⟨cv,fM,gO⟩:=dU aa;have bb:=iJ bI aa;have aq:=(h3.1 bb).1;rw[aC,pR]at aq;obtain⟨aBB,Ga,j,br⟩:=(h.Qd.at aa).1 r (.inl (by grind));obtain⟨R7,_⟩:=Zp h.k h.b h.a h.v h.nodes ar (h.bX aBB Ga) br aq.1 x.cells;have aB:=aq.1;simp only[ig,fw,jf,l4]at aB;have rC:0<=r.op:=by
   simp_all[dM,aw,b9,cc]
  obtain⟨y,bk,aDy⟩:=Zn h.v h.nodes rC (by omega);have fq:=XY (cs:=x.cells) ar aB.1 bk;have qk:(c.ao.map aN.cells)[p.a.toNat]?=some x.cells:=by grind
  have nm:(ec (cellOf r).key c.ax.ao).toNat=p.a.toNat:=by
   have:=(gw.at aa).1 r (by grind);change (ec r.key c.ax.ao).toNat=_;omega
  have mono:∀u∈P.bn,(cm P.k (dh c.ax x.cells r).1 u.2).2=true->(cm P.k x.cells u.2).2=true:=by
   intro u hu h1;have ha:u.2.op=1:=by
    unfold lj.bn univ at hu;obtain⟨hn,_,hu⟩:=l2.1 hu;obtain⟨t,_,hu⟩:=l2.1 hu;obtain⟨k3,_,rfl⟩:=fV.1 hu;rfl
   have adC:P.k=5\/P.k=6\/P.k=8:=by have:=h.k;omega
   cases U:(cm P.k x.cells u.2).2 with
   | true=>rfl
   | false=>
    grind[ass,cellOf,z']
  have hw:=Ir (f:=iv) (⟨q,(dh c.ax x.cells r).2.1,x.bX,(dh c.ax x.cells r).1,x.bP,x.bV,(if b7 c.ax r then x.bl.set r.bf.aU.toNat true else x.bl),x.b1⟩:aN) gO;have KT:iv x=wt r+da wt q+da (fun r=>wt r+1) x.bX:=by
   grind[iv,nH,xQ]
  have aDl:iv ⟨q,(dh c.ax x.cells r).2.1,x.bX,(dh c.ax x.cells r).1,x.bP,x.bV,(if b7 c.ax r then x.bl.set r.bf.aU.toNat true else x.bl),x.b1⟩=da wt q+da (fun r=>wt r+2) (dh c.ax x.cells r).2.1+da (fun r=>wt r+1) x.bX:=rfl;unfold gx;simp only[setW,ks];by_cases hp:r.op=1/\(cm P.k x.cells (cellOf r)).2=true
  ·rw[bh hp]at R7;have hv:y.kind=P.k:=by
    grind
   have aj:=auc (n:=c.ax.ao) qk mono (aua Ga br hp.1) nm hp.2 (by
    rw[fq,hv];have adC:P.k=5\/P.k=6\/P.k=8:=by have:=h.k;omega
    grind[z',ast])
   grind[vo,Nat,Int.toNat_of_nonneg]
  rw[bq hp]at R7;grind[aub]
 | input x r t hk aa ai aC hi=>
  rw[bh (show p.kind<=5/\p.kind≠4 by omega)];have:=xR (P:=P) (y:=⟨[r],[],t,x.cells,x.bP,x.bV,x.bl,x.b1⟩) aa rfl;grind[iv,nH,xQ]
 | eU x r t hk aa ai aW=>
  rw[bh (show p.kind<=5/\p.kind≠4 by omega)];have:=xR (P:=P) (y:=kept (hI x t) r) aa rfl;have e1:iv x=da wt x.queue+(wt r+2+da (fun r=>wt r+2) t)+da (fun r=>wt r+1) x.bX:=by grind[iv,nH]
  have e2:iv (kept (hI x t) r)=da wt x.queue+(wt r+0)+da (fun r=>wt r+2) t+da (fun r=>wt r+1) x.bX:=by grind[iv,kept,hI,DC,nH,xQ]
  omega
 | send x r t l hk aa ai aW aj hsend=>
  rw[bh (show p.kind<=5/\p.kind≠4 by omega)];obtain⟨_,_,_,e1⟩:=Ap hsend;have h1:=P2 (P:=P) (m:=(ei l r).1) aj;have U:=xR (P:=P) (c:=c3 c (dT c.ax p.a (ec r.key c.ax.ao)) (ei l r).1) (y:=lD (hI x t) r.bf.aU) aa rfl;have b8:iv x=da wt x.queue+(wt r+2+da (fun r=>wt r+2) t)+da (fun r=>wt r+1) x.bX:=by grind[iv,nH]
  have bt:iv (lD (hI x t) r.bf.aU)=da wt x.queue+da (fun r=>wt r+2) t+da (fun r=>wt r+1) x.bX:=rfl;grind[uz,ei,wt,DC,nH,xQ]
 | take l x hk dw aj aa bG=>
  rw[bq (show ¬(p.kind<=5/\p.kind≠4) by omega)];obtain⟨oI,r,q,aC,e2,e1⟩:=vZ bG;have aq:=(pS.1 oI).2.2.1;simp only[aw,cc]at aq;have h1:=P2 (P:=P) (m:=(dF l).1) aj;have U:=xR (P:=P) (c:=c3 c (dT c.ax p.a p.b) (dF l).1) (y:=jY x (dF l).2.1) aa rfl;have bt:iv (jY x (dF l).2.1)=iv x+wt r:=by
   grind[iv,jY,DC,nH,xQ]
  grind[uz,dF,wt,nH]
 | qb l hk dw aj al=>
  rw[bh (show p.kind<=5/\p.kind≠4 by omega)];rcases v7 l with⟨k,_⟩ | ⟨_,oI,iq,e1⟩
  ·grind
  have aq:=(pS.1 oI).2.2.1;simp only[aw,cc]at aq;have h1:=P2 (P:=P) (m:=(fK l).1) aj;grind[uz]
 | token t x cv hk iu bE aF bG aa rm=>
  simp_all[bq,aud,fl]
 | qm k n x hk aP aF aa=>
  rw[bq (show ¬(p.kind<=5/\p.kind≠4) by omega)];have:gx P (setW c p.a (ea x n))+iv x=gx P c+iv (ea x n):=xR aa (by unfold ea;split<;>rfl);have e:iv (ea x n)=iv x:=by unfold ea;split<;>rfl
  change gx P (setW c p.a (ea x n))+0<=_;omega
theorem P3{α:Type}{f g:α->Nat}:∀xs:List α,da (fun x=>f x+g x) xs=da f xs+da g xs
 | []=>rfl
 | x::xs=>by rw[nH,nH,nH,P3 xs];omega
theorem DE{α:Type}:∀xs:List α,da (fun _=>0) xs=0
 | []=>rfl
 | x::xs=>by rw[nH,DE xs]
theorem xS{α:Type}{f g:α->Nat}:∀{xs:List α},(∀u∈xs,f u=g u)->da f xs=da g xs
 | [],_=>rfl
 | x::xs,h=>by rw[nH,nH,h x (fN ..),xS fun u hu=>h u (ff _ hu)]
theorem P4(o:Int)(m:Nat):∀n:Nat,da (fun w:Nat=>if o=(w:Int) then m else 0) (List.range n)=if 0<=o/\o<n then m else 0
 | 0=>by
  simp_all[yZ,xQ,bq]
 | n+1=>by
  rw[List.range_succ,DC,P4 o m n,nH,xQ];grind
def CB(g:bF)(w e:Int)(r:ay):Bool:=r.bf.aU==e&&ec r.key g.ao==w
theorem P5(g:bF)(xs:List ay)(w:Int):(own g xs w).length=da (fun e:Nat=>xs.countP (CB g w e)) (List.range 4):=by
 unfold own nu;rw[List.length_flatMap];unfold da
 congr 1
 refine l1 fun e _=>?_
 rw[List.countP_eq_length_filter];rfl
theorem aue(g:bF)(x:ay)(xs:List ay)(w:Int):(own g (x::xs) w).length=(own g xs w).length+(if ec x.key g.ao=w then (if 0<=x.bf.aU/\x.bf.aU<4 then 1 else 0) else 0):=by
 rw[P5,P5];have h:∀e:Nat,(x::xs).countP (CB g w e)=xs.countP (CB g w e)+(if ec x.key g.ao=w then (if x.bf.aU=(e:Int) then 1 else 0) else 0):=fun e=>by
  rw[List.countP_cons]
  congr 1
  grind[CB,ec,Int]
 rw[xS (g:=fun e:Nat=>xs.countP (CB g w e)+(if ec x.key g.ao=w then (if x.bf.aU=(e:Int) then 1 else 0) else 0)) fun e _=>h e,P3]
 congr 1
 by_cases h1:ec x.key g.ao=w
 ·simp_all[bh,P4]
 simp_all[bq,DE]
theorem Zu{g:bF}(aP:1<=g.ao):∀xs:List ay,(∀r∈xs,0<=r.bf.aU/\r.bf.aU<4)->da (fun w:Nat=>(own g xs w).length) (List.range g.ao.toNat)=xs.length
 | [],_=>by
  grind[xS,P5,DE]
 | x::xs,h=>by
  have aa:=h x (fN ..);have aW:=Al x.key aP;simp only[aw,cc]at aW;rw[xS (g:=fun w:Nat=>(own g xs w).length+(if ec x.key g.ao=(w:Int) then 1 else 0)) fun w _=>by rw[aue,bh aa],P3,Zu aP xs fun r aB=>h r (ff _ aB),P4,bh (by omega)];rfl
theorem Zv{g:bF}(h:iY g P.xs=true)(hi:∀r∈P.xs,Input r):gx P (dn g P.xs)<=P.xs.length*554:=by
 have aP:=ih (yj.1 h).1;have h1:da iv (dn g P.xs).ao=P.xs.length*8:=by
  have e:da iv (dn g P.xs).ao=da (fun w:Nat=>8*(own g P.xs w).length) (List.range g.ao.toNat):=by
   unfold dn mO da;rw[List.map_map]
   congr 1
   refine l1 fun w _=>?_
   change 0+0+da (fun r=>wt r+1) (own g P.xs w)=_;have:da (fun r=>wt r+1) (own g P.xs w)=da (fun _=>8) (own g P.xs w):=xS fun r aB=>by
    have:=(hi r (H4 aB).1).1;simp_all[wt,od,bh]
   rw[this];simp only[da,List.map_const',List.sum_replicate_nat];omega
  have e2:∀ws:List Nat,da (fun w:Nat=>8*(own g P.xs w).length) ws=8*da (fun w:Nat=>(own g P.xs w).length) ws:=fun ws=>by
   induction ws with
   | nil=>rfl
   | cons w ws dL=>grind[nH]
  rw[e,e2,Zu aP.1 P.xs fun r aB=>by have:=(hi r aB).2.2.1;omega];omega
 have U:da uz (dn g P.xs).bQ=0:=by
  have:da uz (dn g P.xs).bQ=da (fun _=>0) (dn g P.xs).bQ:=xS fun l aj=>by
   rw[List.eq_of_mem_replicate aj];rfl
  rw[this,DE]
 have aA:=at9 P.k (dn g P.xs).ax.ao (1+P.a) P.b ((dn g P.xs).ao.map aN.cells) P.xs;grind[gx,lj.bn]
end Go.Proofs.YtdchjefneblpgaaGreat
namespace Go.Proofs.YtdchjefneblpgaaGreat
open Go.Sx Go.RowKit Go.Proofs.Tryz
def Still(c:aV):Prop:=(∀x∈c.ao,x.queue=[]/\x.cj=[]/\x.bX=[])/\(∀l∈c.bQ,l.queue=[])/\∀(a b:Int) l,a≠b->eA c (dT c.ax a b)=some l->l.back=0
section
variable {c : aV} {S b : Int}
variable{i:Int}{x:aN}
theorem auf(bI:cr c=true)(aa:b0 c i=some x)(ai:x.cj=[])(h:(c7 c ⟨1,i,b⟩).2=false):x.queue=[]:=by
 have ar:=(fe.1 bI).1;have hw:=iJ bI aa;cases aC:x.queue with
 | nil=>rfl
 | cons r q=>
  grind[c7,js,gM]
theorem aug(bI:cr c=true)(aa:b0 c i=some x)(ai:x.cj=[])(aC:x.queue=[])(h:(c7 c ⟨2,i,b⟩).2=false):x.bX=[]:=by
 have ar:=(fe.1 bI).1;have hw:=iJ bI aa;cases hi:x.bX with
 | nil=>rfl
 | cons r q=>
  grind[c7,jt,gN]
theorem Zw(bI:cr c=true){j:Int}{l:bC}(oG:i≠j)(aj:eA c (dT c.ax i j)=some l)(h:(c7 c ⟨5,i,j⟩).2=false):l.back=0:=by
 have hk:=(qJ.1 (r2 bI aj)).1;have cU:(i != j)=true:=by grind
 refine Classical.byContradiction fun aq=>?_
 simp_all[true,c7,ju,fK]
theorem atr(bI:cr c=true){j:Int}{l:bC}(oG:i≠j)(aj:eA c (dT c.ax i j)=some l)(aa:b0 c j=some x)(h:(c7 c ⟨4,i,j⟩).2=false):l.queue=[]:=by
 have hk:=(qJ.1 (r2 bI aj)).1;have cU:(i != j)=true:=by grind
 grind[c7,jT,dF]
theorem ats(bI:cr c=true)(aq:jB S c)(io:S<=200000)(aa:b0 c i=some x)(al:∀j l,j≠i->eA c (dT c.ax i j)=some l->l.fb≠0)(h:(c7 c ⟨3,i,b⟩).2=false):x.cj=[]:=by
 have aP:=ih (fe.1 bI).1;have hlen:=(fe.1 bI).2.1;obtain⟨i0,i1,_⟩:=dU aa;cases ai:x.cj with
 | nil=>rfl
 | cons r t=>
  exfalso;have aA:(c7 c ⟨3,i,b⟩).2=(r1 c i x r t (ec r.key c.ax.ao)).2:=by
   grind[c7,jc]
  rw[aA]at h;unfold r1 at h;split at h
  ·cases h
  rename_i aW;have hi:aw i 0 (c.ax.ao-1)=true:=by simp only[aw,cc];omega
  obtain⟨l,aj⟩:=yg bI hi (Al r.key aP.1);have hk:=(qJ.1 (r2 bI aj)).1;have aDp:=aq.eG l (cB (hJ aj).2.2);have nS:=al _ l aW aj;have aB:=(h3.1 (iJ bI aa)).2.1;rw[ai,pR]at aB;have aB:=aB.1;simp only[ig,fw,jf]at aB;have aDo:(ei l r).2=true:=by
   unfold ei;grind
  grind
end
theorem Zx{n w:Nat}(h:w<n){p:b6}(hp:p∈jV w):p∈mN n:=by
 grind[mN]
theorem att{n a b:Nat}(ae:a<n)(aq:b<n){p:b6}(hp:p∈lF a b):p∈nE n n:=by
 unfold nE qK;grind
theorem P6{g:bF}(h:1<=g.ao/\g.ao<=4):hG g.ao 0 4=g.ao:=by
 unfold hG;grind
theorem atu{n:Int}(aP:1<=n/\n<=4){k:Nat}(hk:(k:Int)<n*n):∃a b:Nat,(a:Int)<n/\(b:Int)<n/\(k:Int)=a*n+b:=by
 have aI:n=1\/n=2\/n=3\/n=4:=by omega
 refine⟨((k:Int) / n).toNat,((k:Int) % n).toNat,?_⟩;grind
structure Same (c d:aV):Prop where
 ax:d.ax=c.ax
 bQ:d.bQ=c.bQ
 len:d.ao.length=c.ao.length
 w:∀(i:Nat) x,c.ao[i]?=some x->∃y,d.ao[i]?=some y/\y.queue=x.queue/\y.cj=x.cj/\y.bX=x.bX
variable{c:aV}
theorem Same.rfl:Same c c:=⟨Eq.refl _,Eq.refl _,Eq.refl _,fun _ x h=>⟨x,h,Eq.refl _,Eq.refl _,Eq.refl _⟩⟩
variable{d:aV}
theorem Same.trans{e:aV}(h:Same c d)(k:Same d e):Same c e:=⟨k.ax.trans h.ax,k.bQ.trans h.bQ,k.len.trans h.len,fun i x aa=>by
 obtain⟨y,bk,h1,U,aA⟩:=h.w i x aa;obtain⟨z,aL,b8,bt,eL⟩:=k.w i y bk;grind⟩
theorem Same.b0(h:Same c d){i:Int}{x:aN}(aa:b0 c i=some x):∃y,b0 d i=some y/\y.queue=x.queue/\y.cj=x.cj/\y.bX=x.bX:=by
 obtain⟨bE,_,U⟩:=dU aa;unfold Go.Proofs.YtdchjefneblpgaaGreat.b0;rw[bh bE];exact h.w _ x U
theorem Same.eA(h:Same c d)(a b:Int):eA d (dT d.ax a b)=eA c (dT c.ax a b):=by
 unfold Go.Proofs.YtdchjefneblpgaaGreat.eA;rw[h.bQ,h.ax]
theorem Same.set{i:Int}{x y:aN}(aa:Go.Proofs.YtdchjefneblpgaaGreat.b0 c i=some x)(h1:d.ax=c.ax)(U:d.bQ=c.bQ)(aA:d.ao=c.ao.set i.toNat y)(aI:y.queue=x.queue)(a':y.cj=x.cj)(bu:y.bX=x.bX):Same c d:=
 ⟨h1,U,by grind,fun j z aL=>by
  rw[aA];by_cases a8:j=i.toNat
  ·subst a8;rw[(dU aa).2.2]at aL;simp_all[mP,dU]
  grind⟩
def Fg(c:aV)(p:b6):Prop:=∃(d:aV) (S:Int),cr d=true/\jB S d/\S<=200000/\Same c d/\(c7 d p).2=false
theorem Zy(bI:cr c=true)(iU:∀p∈fL c,p.kind<=5->Fg c p):Still c:=by
 obtain⟨ar,nU,FV,_⟩:=fe.1 bI;have aP:=ih ar;obtain⟨n,ky⟩:∃n:Nat,c.ax.ao=n:=⟨c.ax.ao.toNat,by omega⟩
 have ad0:∀p∈mN n,p∈fL c:=fun p hp=>by
  grind[fL,P6,mU,gE]
 have ad1:∀p∈nE n n,p∈fL c:=fun p hp=>by
  grind[fL,P6,mU,gE,hP]
 have four:∀w:Nat,w<n->∀p∈jV w,p.kind<=5->Fg c p:=fun w hw p hp hk=>iU p (ad0 p (Zx hw hp)) hk
 have two:∀a b:Nat,a<n->b<n->∀p∈lF a b,p.kind<=5->Fg c p:=fun a b ae vw p hp hk=>iU p (ad1 p (att ae vw hp)) hk
 have inr:∀a:Nat,a<n->aw (a:Int) 0 (c.ax.ao-1)=true:=fun a ae=>by simp only[aw,cc];omega
 have bQ:∀a b:Nat,a<n->b<n->a≠b->∀l,eA c (dT c.ax a b)=some l->l.queue=[]/\l.back=0:=fun a b ae vw dw l aj=>by
  obtain⟨x,aa⟩:=oV (c:=c) (i:=(b:Int)) (by omega) (by omega);have m4:(⟨4,(a:Int),(b:Int)⟩:b6)∈lF a b:=by grind[lF]
  have m5:(⟨5,(a:Int),(b:Int)⟩:b6)∈lF a b:=by grind[lF]
  obtain⟨d,S,d1,d2,d3,d4,d5⟩:=two a b ae vw _ m4 (by grind);obtain⟨f,T,f1,f2,f3,f4,f5⟩:=two a b ae vw _ m5 (by grind);obtain⟨y,bk,_⟩:=d4.b0 aa;exact⟨atr d1 (by omega) ((d4.eA _ _).trans aj) bk d5,Zw f1 (by omega) ((f4.eA _ _).trans aj) f5⟩
 have acj:∀a:Nat,a<n->∀(j:Int) l,j≠a->eA c (dT c.ax a j)=some l->l.fb≠0:=fun a ae j l a8 aj=>by
  obtain⟨_,g2⟩:=H3 (hJ aj).1;simp only[aw,cc]at g2;obtain⟨b,rfl⟩:∃b:Nat,j=b:=⟨j.toNat,by omega⟩
  obtain⟨q1,eP⟩:=bQ a b ae (by omega) (by omega) l aj;obtain⟨b8,_,_,k4,_⟩:=pS.1 (qJ.1 (r2 bI aj)).1;simp only[aw,cc]at b8;grind
 refine⟨?_,?_,fun a b l dw aj=>?_⟩
 ·intro x aa;obtain⟨w,hw⟩:=List.getElem?_of_mem aa;have aDw:=a6 hw;have hF:b0 c (w:Int)=some x:=by simp_all[b0,bh]
  obtain⟨d,S,d1,d2,d3,d4,d5⟩:=four w (by omega) ⟨3,w,0⟩ (by simp[jV]) (by grind);obtain⟨y,bk,gD,hN,abx⟩:=d4.b0 hF;have ai:=ats d1 d2 d3 bk (fun j l a8 aj=>acj w (by omega) j l a8 ((d4.eA _ _).symm.trans aj)) d5;rw[hN]at ai;obtain⟨f,T,f1,f2,f3,f4,f5⟩:=four w (by omega) ⟨1,w,0⟩ (by simp[jV]) (by grind);obtain⟨z,aL,og,z2,z3⟩:=f4.b0 hF;have aC:=auf f1 aL (z2.trans ai) f5;rw[og]at aC;obtain⟨u,aB3,gV,kq,u3,aBw,aD1⟩:=four w (by omega) ⟨2,w,0⟩ (by simp[jV]) (by grind);obtain⟨v,bD,v1,v2,v3⟩:=aBw.b0 hF;grind[aug]
 ·intro l aj;obtain⟨k,hk⟩:=List.getElem?_of_mem aj;have zx:=a6 hk;obtain⟨a,b,ae,vw,e⟩:=atu aP (k:=k) (by omega);obtain⟨jm,ux,_,Gt,aDL⟩:=yf aP (inr a (by omega)) (inr b (by omega));have ni:eA c (dT c.ax a b)=some l:=by
   unfold eA;rw[jm,bh ux,<-e];simpa using hk
  by_cases dw:a=b
  ·subst dw;have aCL:=qJ.1 (r2 bI ni);grind[dT,Nat,Int,Po]
  grind
 obtain⟨g1,g2⟩:=H3 (hJ aj).1;simp only[aw,cc]at g1 g2;obtain⟨i,rfl⟩:∃i:Nat,a=i:=⟨a.toNat,by omega⟩
 obtain⟨j,rfl⟩:∃j:Nat,b=j:=⟨b.toNat,by omega⟩
 grind
end Go.Proofs.YtdchjefneblpgaaGreat
namespace Go.Proofs.YtdchjefneblpgaaGreat
open Go.Sx Go.RowKit Go.Proofs.Tryz
structure qZ (P:lj) (S:Int) (c:aV):Prop where
 all:lf S c
 of:P.Bx c
variable{P:lj}{c:aV}
theorem qZ.step{S:Int}(h:qZ P S c)(io:S<200000)(p:b6):qZ P (S+1) (c7 c p).1:=by
 refine⟨h.all.step io p,?_⟩;rcases v8 c p with⟨_,U⟩ | ⟨_,_,st⟩
 ·rw[U];exact h.of
 exact h.of.step h.all.ok st (Pr c p).ax
theorem Zz{d:aV}{p:b6}(st:Step c p d)(hk:5<p.kind):Same c d:=by
 cases st with
 | work x r q kd=>omega
 | input x r t kd=>omega
 | eU x r t kd=>omega
 | send x r t l kd=>omega
 | take l x kd=>omega
 | qb l kd=>omega
 | token t x cv kd iu bE aF bG aa rm=>
  rcases pT c p.a t x with⟨_,k⟩ | ⟨_,_,⟨_,k⟩ | ⟨_,_,k⟩ | ⟨_,bE,_,k⟩ | ⟨_,_,_,k⟩⟩
  ·grind
  ·rw[k];exact .set aa rfl rfl rfl rfl rfl rfl
  ·rw[k];exact .set aa rfl rfl rfl rfl rfl rfl
  ·rw[k];have aL:t.place=0:=by have:=(dU aa).1;omega
   rw[aL]at aa;exact .set aa rfl rfl rfl rfl rfl rfl
  rw[k];exact⟨rfl,rfl,rfl,Same.rfl.w⟩
 | qm k n x kd aP aF aa=>
  refine .set (y:=ea x n) aa rfl rfl rfl ?_ ?_ ?_<;>(unfold ea;split<;>rfl)
def H6:List b6->Bool
 | []=>true
 | p::l=>(if p.kind=4 then (match l with | q::_=>decide (q=⟨5,p.a,p.b⟩) | []=>false) else true)&&H6 l
theorem P7(aP:1<=c.ax.ao/\c.ax.ao<=4):H6 (fL c)=true/\(fL c).length<=44:=by
 have h:c.ax.ao=1\/c.ax.ao=2\/c.ax.ao=3\/c.ax.ao=4:=by omega
 unfold fL;rcases h with h | h | h | h<;>(rw[h];decide +kernel)
theorem atv{i:Int}{l m:bC}(h:eA c i=some l):eA (c3 c i m) i=some m:=by
 simp_all[hJ,eA,c3,bh,mP]
theorem ZA:∀(l:List b6) {S:Int} {c:aV},qZ P S c->S+l.length<=200000->H6 l=true->
  gx P (cE c l).1<=gx P c/\(gx P (cE c l).1=gx P c->Same c (cE c l).1/\∀p∈l,p.kind<=5->Fg c p)
 | [],S,c,h,io,_=>⟨fl _,fun _=>⟨.rfl,fun p hp=>by cases hp⟩⟩
 | p::l,S,c,h,io,hp=>by
  simp only[fO]at io;simp only[H6,b9]at hp;have h1:=h.step (by omega) p;obtain⟨i1,i2⟩:=ZA l h1 (by omega) hp.2;simp only[cE];rcases v8 c p with⟨b8,bt⟩ | ⟨_,_,st⟩
  ·rw[bt]at i1 i2 ⊢;refine⟨i1,fun he=>?_⟩;obtain⟨qy,py⟩:=i2 he;refine⟨qy,fun q aC hk=>?_⟩;rcases dQ.1 aC with rfl | aC
   ·exact⟨c,S,h.all.ok,h.all.kR,by omega,.rfl,b8⟩
   grind
  have KS:=Zt h.of h.all.owns h.all.ok st;refine⟨by omega,fun he=>?_⟩;have ad3:¬(p.kind<=5/\p.kind≠4):=fun aC=>by grind
  rw[bq ad3]at KS;obtain⟨qy,py⟩:=i2 (by omega);by_cases aI:p.kind=4
  ·exfalso;rw[bh aI]at hp;cases l with
   | nil=>cases hp.1
   | cons q hb=>
    have aC:q=⟨5,p.a,p.b⟩:=by grind
    obtain⟨d,T,d1,d2,d3,d4,d5⟩:=py q (fN ..) (by grind);subst aC;generalize (c7 c p).1=c1 at*;cases st with
    | work x r q kd=>omega
    | input x r t kd=>omega
    | eU x r t kd=>omega
    | send x r t l kd=>omega
    | take l x kd dw aj aa bG=>
     obtain⟨oI,r,q,aC,e2,e1⟩:=vZ bG;have aq:=(pS.1 oI).2.2.1;simp only[aw,cc]at aq;have c':eA (setW (c3 c (dT c.ax p.a p.b) (dF l).1) p.b (jY x (dF l).2.1)) (dT c.ax p.a p.b)=some (dF l).1:=atv aj;have bE:=Zw d1 dw ((d4.eA p.a p.b).trans c') d5;grind
    | qb l kd=>omega
    | token t x cv kd=>omega
    | qm k n x kd=>omega
  have adD:5<p.kind:=by omega
  have ai:=Zz st adD;refine⟨ai.trans qy,fun q aC hk=>?_⟩;rcases dQ.1 aC with rfl | aC
  ·omega
  obtain⟨d,T,d1,d2,d3,d4,d5⟩:=py q aC hk;exact⟨d,T,d1,d2,d3,ai.trans d4,d5⟩
theorem atw{S:Int}(h:qZ P S c)(io:S+44<=200000)(aP:¬Still c):gx P (hK c).1<gx P c:=by
 obtain⟨eB,a2⟩:=P7 (ih (fe.1 h.all.ok).1);obtain⟨h1,U⟩:=ZA (fL c) h (by omega) eB;refine Classical.byContradiction fun al=>?_
 have he:gx P (cE c (fL c)).1=gx P c:=by
  grind[hK]
 exact aP (Zy h.all.ok (U he).2)
theorem qZ.run:∀(l:List b6) {S:Int} {c:aV},qZ P S c->S+l.length<=200000->qZ P (S+l.length) (cE c l).1
 | [],S,c,h,_=>by grind[cE]
 | p::l,S,c,h,io=>by
  simp only[fO]at io ⊢;have:=qZ.run l (h.step (by omega) p) (by omega);simp only[cE];rw[show S+((l.length+1:Nat):Int)=S+1+l.length by omega];exact this
