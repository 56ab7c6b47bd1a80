import Derived.Test.YtdchjefneblpgaaGreatP72
set_option linter.unusedVariables false
set_option linter.unusedSimpArgs false
namespace Go.Proofs.YtdchjefneblpgaaGreat
open Go.Sx Go.RowKit
theorem Fx{α:Type}{f g:α->Nat}:∀{xs:List α},(∀u∈xs,f u<=g u)->c7 f xs<=c7 g xs
 | [],_=>ei _
 | x::xs,h=>by
  have h1:=h x (eO ..);have U:=Fx (f:=f) (g:=g) (xs:=xs) fun u hu=>h u (fi _ hu)
  simp only[c7,jW,nf]at U ⊢;omega
theorem WT{α:Type}{f g:α->Nat}{m:Nat}{u:α}:∀{xs:List α},(∀u∈xs,f u<=g u)->u∈xs->f u+m<=g u->c7 f xs+m<=c7 g xs
 | [],_,h,_=>by cases h
 | x::xs,h,hu,hm=>by
  have h1:=h x (eO ..);have U:∀u∈xs,f u<=g u:=fun u hu=>h u (fi _ hu)
  simp only[c7,jW,nf];rcases ez.1 hu with rfl | hu
  ·have:=Fx U;unfold c7 at this;omega
  have:=WT U hu hm;unfold c7 at this;omega
theorem BR{α:Type}{f:α->Nat}{xs ys:List α}:c7 f (xs++ys)=c7 f xs+c7 f ys:=by
 simp[c7]
theorem lJ{α:Type}{f:α->Nat}{x:α}{xs:List α}:c7 f (x::xs)=f x+c7 f xs:=by simp[c7]
theorem w'{α:Type}{f:α->Nat}:c7 f []=0:=rfl
def Hr(A B:Int)(x:aB)(t j:Nat):Cell:=⟨1,x.bq.bh,(x.key+A*t) % 100,x.val+B*j⟩
def univ(A B:Int)(xs:List aB):List (Nat×Cell):=xs.flatMap fun x=>(List.range 7).flatMap fun t=>(List.range (t+1)).map fun j=>(t,Hr A B x t j)
def rC(k n:Int)(j5:List (List Cell))(u:Cell):Bool:=match j5[(eh u.key n).toNat]? with | some cs=>(c5 k cs u).2 | none=>false
def Ac(k n:Int)(j5:List (List Cell))(u:Nat×Cell):Nat:=if rC k n j5 u.2=true then su u.1 else 0
def yF(k n:Int)(j5:List (List Cell))(bz:List (Nat×Cell)):Nat:=c7 (Ac k n j5) bz
theorem WU(A B:Int):∀xs:List aB,c7 (fun u=>su u.1) (univ A B xs)=xs.length*546
 | []=>rfl
 | x::xs=>by
  have dI:=WU A B xs;unfold univ at dI ⊢;rw[List.flatMap_cons,BR,dI,dK];have:c7 (fun u:Nat×Cell=>su u.1) ((List.range 7).flatMap fun t=>(List.range (t+1)).map fun j=>(t,Hr A B x t j))=546:=by
   simp[c7,List.range_succ,su]
  omega
theorem ap5(k n A B:Int)(j5:List (List Cell))(xs:List aB):yF k n j5 (univ A B xs)<=xs.length*546:=by
 rw[<-WU A B xs];refine Fx fun u _=>?_
 unfold Ac;split
 ·exact ei _
 exact Nat.zero_le _
theorem ap6{A B:Int}{xs:List aB}{x r:aB}{j:Nat}(aa:x∈xs)(h:xS A B x r j)(aU:r.op=1):(r.bq.di.toNat,cellOf r)∈univ A B xs:=by
 obtain⟨f1,f2,f3,f4,f5⟩:=h;simp[aU]at f3 f5;unfold univ;refine jU.2 ⟨x,aa,jU.2 ⟨r.bq.di.toNat,List.mem_range.2 (by omega),jX.2 ⟨j,List.mem_range.2 (by omega),?_⟩⟩⟩;unfold Hr cellOf;rw[Int.toNat_of_nonneg f2.1,<-f5,<-f4,f1,aU]
variable{k:Int}{j5:List (List Cell)}{i:Nat}{cs q4:List Cell}
theorem WV{n:Int}(hi:j5[i]?=some cs){u:Cell}(h:(c5 k q4 u).2=true->(c5 k cs u).2=true):rC k n (j5.set i q4) u=true->rC k n j5 u=true:=by
 unfold rC;rw[iT];by_cases Ie:i=(eh u.key n).toNat
 ·rw[bi Ie,bi (aP hi),<-Ie,hi];exact h
 rw[ba Ie];exact id
theorem ap7{n:Int}(hi:j5[i]?=some cs){bz:List (Nat×Cell)}(h:∀u∈bz,(c5 k q4 u.2).2=true->(c5 k cs u.2).2=true):yF k n (j5.set i q4) bz<=yF k n j5 bz:=by
 refine Fx fun u hu=>?_
 unfold Ac;by_cases av:rC k n (j5.set i q4) u.2=true
 ·rw[bi av,bi (WV hi (h u hu) av)];exact ei _
 rw[ba av];exact Nat.zero_le _
theorem arB{n:Int}(hi:j5[i]?=some cs){bz:List (Nat×Cell)}(h:∀u∈bz,(c5 k q4 u.2).2=true->(c5 k cs u.2).2=true)
  {u:Nat×Cell} (hu:u∈bz) (aU:(eh u.2.key n).toNat=i) (h1:(c5 k cs u.2).2=true) (U:(c5 k q4 u.2).2=false):yF k n (j5.set i q4) bz+su u.1<=yF k n j5 bz:=by
 refine WT (fun u hu=>?_) hu ?_
 ·unfold Ac;by_cases av:rC k n (j5.set i q4) u.2=true
  ·rw[bi av,bi (WV hi (h u hu) av)];exact ei _
  rw[ba av];exact Nat.zero_le _
 have g1:rC k n j5 u.2=true:=by unfold rC;rw[aU,hi];exact h1
 have g2:rC k n (j5.set i q4) u.2=false:=by unfold rC;rw[aU,oI hi];exact U
 unfold Ac;rw[bi g1,ba (by rw[g2];decide)];omega
def hz(x:aQ):Nat:=c7 wt x.queue+c7 (fun r=>wt r+2) x.b3+c7 (fun r=>wt r+1) x.bK
def oE(l:bD):Nat:=c7 (fun r=>wt r+1) l.queue+l.back.toNat
structure kC where
 k:Int
 a:Int
 b:Int
 c:Int
 v:Nat
 xs:List aB
def kC.bz(P:kC):List (Nat×Cell):=univ (1+P.a) P.b P.xs
def gi(P:kC)(c:a8):Nat:=c7 hz c.ap+c7 oE c.bR+yF P.k c.aC.ap (c.ap.map aQ.cells) P.bz
structure kC.zX (P:kC) (c:a8):Prop where
 k:P.k=5\/P.k=6
 a:0<=P.a/\P.a<3
 b:0<=P.b/\P.b<4
 v:P.v<=4
 nodes:c.aC.nodes=kv P.k P.a P.b P.c P.v
 bK:∀r∈P.xs,Input r
 XI:kD (Form (1+P.a) P.b P.xs) (fun r=>r∈P.xs) c
variable{P:kC}{c:a8}
theorem kC.zX.step{d:a8}{p:cP}(h:P.zX c)(bP:cK c=true)(st:Step c p d)(av:d.aC=c.aC):P.zX d:=by
 refine⟨h.k,h.a,h.b,h.v,by rw[av];exact h.nodes,h.bK,h.XI.step (fun r aA=>?_) (fun r cs bw aj q az=>?_) bP st⟩
 ·obtain⟨i1,i2,i3,i4,i5⟩:=h.bK r aA;refine⟨r,aA,0,rfl,by omega,by rw[i2,i1];decide,by omega,?_⟩;rw[i2,i1];simp only[show ¬((0:Int)=3\/(0:Int)=4) by decide,ll,Int.add_zero,Int.mul_zero];omega
 obtain⟨x,aa,j,bw⟩:=bw;obtain⟨i,hi⟩:=(W6 h.k h.b h.a h.v h.nodes (fO.1 bP).1 (h.bK x aa) bw aj cs).2 q az;exact⟨x,aa,i,hi⟩
theorem xa{P:kC}{c:a8}{i:Int}{x y:aQ}(aa:cp c i=some x)(ak:y.cells=x.cells):gi P (setW c i y)+hz x=gi P c+hz y:=by
 obtain⟨_,_,U⟩:=eJ aa;have h:=FN (f:=hz) y U;have e:(c.ap.set i.toNat y).map aQ.cells=c.ap.map aQ.cells:=by
  rw[jV,ak];exact Cl (by rw[du,U];rfl)
 unfold gi;simp only[setW,e];omega
theorem M8{P:kC}{i:Int}{l m:bD}(ag:eB c i=some l):gi P (dd c i m)+oE l=gi P c+oE m:=by
 have h:=FN (f:=oE) m (ij ag).2.2;unfold gi;simp only[dd];omega
theorem arC{e:Int}{t:bT}{x:aQ}(aa:cp c t.place=some x):gi P (ev c e t x).1=gi P c:=by
 have hw:∀u:bT,gi P (setW (cY c e u) t.place (eC x e))=gi P c:=fun u=>by
  have:=xa (P:=P) (c:=cY c e u) (y:=eC x e) aa rfl;have e1:gi P (cY c e u)=gi P c:=rfl;have e2:hz (eC x e)=hz x:=rfl;omega
 rcases oH c e t x with⟨_,k⟩ | ⟨_,_,⟨_,k⟩ | ⟨_,_,k⟩ | ⟨_,bg,_,k⟩ | ⟨_,_,_,k⟩⟩
 ·rw[k]
 ·rw[k];exact hw _
 ·rw[k];exact hw _
 ·rw[k];have a6:t.place=0:=by have:=(eJ aa).1;omega
  rw[a6]at aa;have:=xa (P:=P) (c:=cY c e ⟨false,t.place,t.sum,t.bN,t.cw⟩) (y:=told x e (t.cw||x.bB.getD e.toNat false)) aa rfl;have e1:gi P (cY c e ⟨false,t.place,t.sum,t.bN,t.cw⟩)=gi P c:=rfl;have e2:hz (told x e (t.cw||x.bB.getD e.toNat false))=hz x:=rfl;change gi P (setW (cY c e ⟨false,t.place,t.sum,t.bN,t.cw⟩) 0 (told x e (t.cw||x.bB.getD e.toNat false)))=_;omega
 rw[k];rfl
theorem arD{d:a8}{p:cP}(h:P.zX c)(pv:jk c)(bP:cK c=true)(st:Step c p d):gi P d+(if p.kind<=5/\p.kind≠4 then 1 else 0)<=gi P c:=by
 have av:=(fO.1 bP).1;cases st with
 | work x r q hk aa ai az=>
  rw[bi (show p.kind<=5/\p.kind≠4 by omega)];obtain⟨cR,lK,ho⟩:=eJ aa;have bj:=jO bP aa;have aj:=(hZ.1 bj).1;rw[az,qA]at aj;obtain⟨aye,QA,j,bw⟩:=(h.XI.at aa).1 r (.inl (by rw[az];exact eO ..));obtain⟨PT,_⟩:=W6 h.k h.b h.a h.v h.nodes av (h.bK aye QA) bw aj.1 x.cells;have aA:=aj.1;simp only[jw,fB,jx,kA]at aA;have qi:0<=r.op:=by
   have:=aA.1;simp only[eL,ar,cm,cr]at this;omega
  obtain⟨y,bu,yz⟩:=W4 h.v h.nodes qi (by omega);have fa:=anr (cs:=x.cells) av aA.1 bu;have mx:(c.ap.map aQ.cells)[p.a.toNat]?=some x.cells:=by rw[du,ho];rfl
  have qg:(eh (cellOf r).key c.aC.ap).toNat=p.a.toNat:=by
   have:=(pv.at aa).1 r (by rw[az];exact eO ..);change (eh r.key c.aC.ap).toNat=_;omega
  have mono:∀u∈P.bz,(c5 P.k (d' c.aC x.cells r).1 u.2).2=true->(c5 P.k x.cells u.2).2=true:=by
   intro u hu h1;have fV:u.2.op=1:=by
    unfold kC.bz univ at hu;obtain⟨gx,_,hu⟩:=jU.1 hu;obtain⟨t,_,hu⟩:=jU.1 hu;obtain⟨kM,_,rfl⟩:=jX.1 hu;rfl
   have yn:P.k=5\/P.k=6\/P.k=8:=by have:=h.k;omega
   cases U:(c5 P.k x.cells u.2).2 with
   | true=>rfl
   | false=>
    have yi:=ano (k:=P.k) (cn:=y.kind) yn (y:=cellOf r) (u:=u.2) (fun e=>by
     rw[fV]at e;change r.op=1 at e;rcases yz with⟨aU,_⟩ | ⟨_,yz,_⟩ | ⟨aU,_⟩ | ⟨aU,_⟩ | ⟨aU,_⟩ | ⟨aU,_⟩
     ·omega
     ·exact yz
     ·omega
     ·omega
     ·omega
     omega) ((Fq yn _ _).1 U)
    rw[<-fa]at yi;rw[(Fq yn _ _).2 yi]at h1;cases h1
  have hw:=FN (f:=hz) (⟨q,(d' c.aC x.cells r).2.1,x.bK,(d' c.aC x.cells r).1,x.bG,x.bN,(if cw c.aC r then x.bB.set r.bq.bh.toNat true else x.bB),x.b'⟩:aQ) ho;have Iu:hz x=wt r+c7 wt q+c7 (fun r=>wt r+1) x.bK:=by
   unfold hz;rw[az,ai,lJ,w'];omega
  have azt:hz ⟨q,(d' c.aC x.cells r).2.1,x.bK,(d' c.aC x.cells r).1,x.bG,x.bN,(if cw c.aC r then x.bB.set r.bq.bh.toNat true else x.bB),x.b'⟩=c7 wt q+c7 (fun r=>wt r+2) (d' c.aC x.cells r).2.1+c7 (fun r=>wt r+1) x.bK:=rfl;unfold gi;simp only[setW,jV];by_cases hp:r.op=1/\(c5 P.k x.cells (cellOf r)).2=true
  ·rw[bi hp]at PT;have gq:y.kind=P.k:=by
    rcases yz with⟨aU,_⟩ | ⟨_,yz,_⟩ | ⟨aU,_⟩ | ⟨aU,_⟩ | ⟨aU,_⟩ | ⟨aU,_⟩
    ·omega
    ·exact yz
    ·omega
    ·omega
    ·omega
    omega
   have ag:=arB (n:=c.aC.ap) mx mono (ap6 QA bw hp.1) qg hp.2 (by
    rw[fa,gq];have yn:P.k=5\/P.k=6\/P.k=8:=by have:=h.k;omega
    exact (Fq yn _ _).2 (anp yn hp.2))
   have bH:su (r.bq.di.toNat:Nat)=su r.bq.di:=by rw[Int.toNat_of_nonneg bw.di.1]
   rw[bH]at ag;omega
  rw[ba hp]at PT;have ag:=ap7 (n:=c.aC.ap) mx mono;omega
 | input x r t hk aa ai az hi=>
  rw[bi (show p.kind<=5/\p.kind≠4 by omega)];have:=xa (P:=P) (y:=⟨[r],[],t,x.cells,x.bG,x.bN,x.bB,x.b'⟩) aa rfl;simp only[hz,ai,az,hi,lJ,w']at this;omega
 | eN x r t hk aa ai aU=>
  rw[bi (show p.kind<=5/\p.kind≠4 by omega)];have:=xa (P:=P) (y:=kept (iM x t) r) aa rfl;have e1:hz x=c7 wt x.queue+(wt r+2+c7 (fun r=>wt r+2) t)+c7 (fun r=>wt r+1) x.bK:=by simp only[hz,ai,lJ]
  have e2:hz (kept (iM x t) r)=c7 wt x.queue+(wt r+0)+c7 (fun r=>wt r+2) t+c7 (fun r=>wt r+1) x.bK:=by simp only[hz,kept,iM,BR,lJ,w']
  omega
 | send x r t l hk aa ai aU ag hsend=>
  rw[bi (show p.kind<=5/\p.kind≠4 by omega)];obtain⟨_,_,_,e1⟩:=Cj hsend;have h1:=M8 (P:=P) (m:=(eY l r).1) ag;have U:=xa (P:=P) (c:=dd c (dR c.aC p.a (eh r.key c.aC.ap)) (eY l r).1) (y:=ma (iM x t) r.bq.bh) aa rfl;have cG:hz x=c7 wt x.queue+(wt r+2+c7 (fun r=>wt r+2) t)+c7 (fun r=>wt r+1) x.bK:=by simp only[hz,ai,lJ]
  have cg:hz (ma (iM x t) r.bq.bh)=c7 wt x.queue+c7 (fun r=>wt r+2) t+c7 (fun r=>wt r+1) x.bK:=rfl;have cE:oE (eY l r).1=oE l+(wt r+1):=by
   rw[e1];simp only[oE,BR,lJ,w'];omega
  omega
 | take l x hk ek ag aa bH=>
  rw[ba (show ¬(p.kind<=5/\p.kind≠4) by omega)];obtain⟨kK,r,q,az,e2,e1⟩:=xx bH;have aj:=(oU.1 kK).2.2.1;simp only[ar,cr]at aj;have h1:=M8 (P:=P) (m:=(dV l).1) ag;have U:=xa (P:=P) (c:=dd c (dR c.aC p.a p.b) (dV l).1) (y:=hN x (dV l).2.1) aa rfl;have cg:hz (hN x (dV l).2.1)=hz x+wt r:=by
   rw[e2];simp only[hz,hN,BR,lJ,w'];omega
  have cE:oE (dV l).1+wt r=oE l:=by
   rw[e1];simp only[oE,az,lJ];omega
  omega
 | o4 l hk ek ag ak=>
  rw[bi (show p.kind<=5/\p.kind≠4 by omega)];rcases xy l with⟨k,_⟩ | ⟨_,kK,iZ,e1⟩
  ·rw[ak]at k;cases k
  have aj:=(oU.1 kK).2.2.1;simp only[ar,cr]at aj;have h1:=M8 (P:=P) (m:=(gw l).1) ag;rw[e1]at h1 ⊢;simp only[oE]at h1;omega
 | token t x cR hk i' bg aE bH aa pb=>
  rw[ba (show ¬(p.kind<=5/\p.kind≠4) by omega),arC aa];exact ei _
 | pc k n x hk aR aE aa=>
  rw[ba (show ¬(p.kind<=5/\p.kind≠4) by omega)];have:gi P (setW c p.a (er x n))+hz x=gi P c+hz (er x n):=xa aa (by unfold er;split<;>rfl);have e:hz (er x n)=hz x:=by unfold er;split<;>rfl
  change gi P (setW c p.a (er x n))+0<=_;omega
theorem M9{α:Type}{f g:α->Nat}:∀xs:List α,c7 (fun x=>f x+g x) xs=c7 f xs+c7 g xs
 | []=>rfl
 | x::xs=>by rw[lJ,lJ,lJ,M9 xs];omega
theorem y7{α:Type}:∀xs:List α,c7 (fun _=>0) xs=0
 | []=>rfl
 | x::xs=>by rw[lJ,y7 xs]
theorem xb{α:Type}{f g:α->Nat}:∀{xs:List α},(∀u∈xs,f u=g u)->c7 f xs=c7 g xs
 | [],_=>rfl
 | x::xs,h=>by rw[lJ,lJ,h x (eO ..),xb fun u hu=>h u (fi _ hu)]
theorem M'(o:Int)(m:Nat):∀n:Nat,c7 (fun w:Nat=>if o=(w:Int) then m else 0) (List.range n)=if 0<=o/\o<n then m else 0
 | 0=>by
  rw[G',w',ba (by omega)]
 | n+1=>by
  rw[List.range_succ,BR,M' o m n,lJ,w'];by_cases h:o=(n:Int)
  ·rw[ba (by omega),bi h,bi (by omega)];omega
  rw[ba h];by_cases U:0<=o/\o<n
  ·rw[bi U,bi (by omega)];rfl
  rw[ba U,ba (by omega)]
def AS(g:bS)(w e:Int)(r:aB):Bool:=r.bq.bh==e&&eh r.key g.ap==w
theorem Na(g:bS)(xs:List aB)(w:Int):(own g xs w).length=c7 (fun e:Nat=>xs.countP (AS g w e)) (List.range 4):=by
 unfold own l4;rw[List.length_flatMap];unfold c7
 congr 1
 refine kz fun e _=>?_
 rw[List.countP_eq_length_filter];rfl
theorem arE(g:bS)(x:aB)(xs:List aB)(w:Int):(own g (x::xs) w).length=(own g xs w).length+(if eh x.key g.ap=w then (if 0<=x.bq.bh/\x.bq.bh<4 then 1 else 0) else 0):=by
 rw[Na,Na];have h:∀e:Nat,(x::xs).countP (AS g w e)=xs.countP (AS g w e)+(if eh x.key g.ap=w then (if x.bq.bh=(e:Int) then 1 else 0) else 0):=fun e=>by
  rw[List.countP_cons]
  congr 1
  unfold AS;by_cases h1:eh x.key g.ap=w
  ·by_cases U:x.bq.bh=(e:Int)
   ·simp[h1,U]
   simp[h1,U]
  simp[h1]
 rw[xb (g:=fun e:Nat=>xs.countP (AS g w e)+(if eh x.key g.ap=w then (if x.bq.bh=(e:Int) then 1 else 0) else 0)) fun e _=>h e,M9]
 congr 1
 by_cases h1:eh x.key g.ap=w
 ·simp only[bi h1];exact M' x.bq.bh 1 4
 simp only[ba h1];exact y7 _
theorem WW{g:bS}(aR:1<=g.ap):∀xs:List aB,(∀r∈xs,0<=r.bq.bh/\r.bq.bh<4)->c7 (fun w:Nat=>(own g xs w).length) (List.range g.ap.toNat)=xs.length
 | [],_=>by
  rw[xb (g:=fun _=>0) fun w _=>by rw[Na];exact y7 _,y7];rfl
 | x::xs,h=>by
  have aa:=h x (eO ..);have aU:=zj x.key aR;simp only[ar,cr]at aU;rw[xb (g:=fun w:Nat=>(own g xs w).length+(if eh x.key g.ap=(w:Int) then 1 else 0)) fun w _=>by rw[arE,bi aa],M9,WW aR xs fun r aA=>h r (fi _ aA),M',bi (by omega)];rfl
theorem arF{g:bS}(h:iE g P.xs=true)(hi:∀r∈P.xs,Input r):gi P (dh g P.xs)<=P.xs.length*554:=by
 have aR:=je (vb.1 h).1;have h1:c7 hz (dh g P.xs).ap=P.xs.length*8:=by
  have e:c7 hz (dh g P.xs).ap=c7 (fun w:Nat=>8*(own g P.xs w).length) (List.range g.ap.toNat):=by
   unfold dh mR c7;rw[List.map_map]
   congr 1
   refine kz fun w _=>?_
   change 0+0+c7 (fun r=>wt r+1) (own g P.xs w)=_;have:c7 (fun r=>wt r+1) (own g P.xs w)=c7 (fun _=>8) (own g P.xs w):=xb fun r aA=>by
    have:=(hi r (FV aA).1).1;unfold wt mX;rw[bi this]
   rw[this];simp only[c7,List.map_const',List.sum_replicate_nat];omega
  have e2:∀ws:List Nat,c7 (fun w:Nat=>8*(own g P.xs w).length) ws=8*c7 (fun w:Nat=>(own g P.xs w).length) ws:=fun ws=>by
   induction ws with
   | nil=>rfl
   | cons w ws dI=>rw[lJ,lJ,dI];omega
  rw[e,e2,WW aR.1 P.xs fun r aA=>by have:=(hi r aA).2.2.1;omega];omega
 have U:c7 oE (dh g P.xs).bR=0:=by
  have:c7 oE (dh g P.xs).bR=c7 (fun _=>0) (dh g P.xs).bR:=xb fun l ag=>by
   rw[List.eq_of_mem_replicate ag];rfl
  rw[this,y7]
 have ax:=ap5 P.k (dh g P.xs).aC.ap (1+P.a) P.b ((dh g P.xs).ap.map aQ.cells) P.xs;unfold gi kC.bz;omega
end Go.Proofs.YtdchjefneblpgaaGreat
namespace Go.Proofs.YtdchjefneblpgaaGreat
open Go.Sx Go.RowKit
def Still(c:a8):Prop:=(∀x∈c.ap,x.queue=[]/\x.b3=[]/\x.bK=[])/\(∀l∈c.bR,l.queue=[])/\∀(a b:Int) l,a≠b->eB c (dR c.aC a b)=some l->l.back=0
section
variable {c : a8} {S b : Int}
variable{i:Int}{x:aQ}
theorem arG(bP:cK c=true)(aa:cp c i=some x)(ai:x.b3=[])(h:(dA c ⟨1,i,b⟩).2=false):x.queue=[]:=by
 have av:=(fO.1 bP).1;have hw:=jO bP aa;cases az:x.queue with
 | nil=>rfl
 | cons r q=>
  exfalso;simp only[dA,mb,bP,aa,fX,av,hw,ai,az]at h;simp at h
theorem arH(bP:cK c=true)(aa:cp c i=some x)(ai:x.b3=[])(az:x.queue=[])(h:(dA c ⟨2,i,b⟩).2=false):x.bK=[]:=by
 have av:=(fO.1 bP).1;have hw:=jO bP aa;cases hi:x.bK with
 | nil=>rfl
 | cons r q=>
  exfalso;simp only[dA,mc,bP,aa,fY,av,hw,ai,az,hi]at h;simp at h
theorem WX(bP:cK c=true){j:Int}{l:bD}(nD:i≠j)(ag:eB c (dR c.aC i j)=some l)(h:(dA c ⟨5,i,j⟩).2=false):l.back=0:=by
 have hk:=(pE.1 (rV bP ag)).1;have ct:(i != j)=true:=by simpa using nD
 refine Classical.byContradiction fun aj=>?_
 have dz:(l.back != 0)=true:=by simpa using aj
 simp only[dA,lf,bP,ag,ct,gw,hk,dz]at h;simp at h
theorem arI(bP:cK c=true){j:Int}{l:bD}(nD:i≠j)(ag:eB c (dR c.aC i j)=some l)(aa:cp c j=some x)(h:(dA c ⟨4,i,j⟩).2=false):l.queue=[]:=by
 have hk:=(pE.1 (rV bP ag)).1;have ct:(i != j)=true:=by simpa using nD
 cases az:l.queue with
 | nil=>rfl
 | cons r q=>
  exfalso;simp only[dA,lH,bP,ag,aa,ct,dV,hk,az]at h;simp at h
theorem arJ(bP:cK c=true)(aj:iW S c)(iz:S<=200000)(aa:cp c i=some x)(ak:∀j l,j≠i->eB c (dR c.aC i j)=some l->l.eM≠0)(h:(dA c ⟨3,i,b⟩).2=false):x.b3=[]:=by
 have aR:=je (fO.1 bP).1;have hlen:=(fO.1 bP).2.1;obtain⟨i0,i1,_⟩:=eJ aa;cases ai:x.b3 with
 | nil=>rfl
 | cons r t=>
  exfalso;have ax:(dA c ⟨3,i,b⟩).2=(qz c i x r t (eh r.key c.aC.ap)).2:=by
   simp only[dA,lG,bP,aa,ai];simp
  rw[ax]at h;unfold qz at h;split at h
  ·cases h
  rename_i aU;have hi:ar i 0 (c.aC.ap-1)=true:=by simp only[ar,cr];omega
  obtain⟨l,ag⟩:=FG bP hi (zj r.key aR.1);have hk:=(pE.1 (rV bP ag)).1;have azv:=aj.eu l (cS (ij ag).2.2);have nz:=ak _ l aU ag;have aA:=(hZ.1 (jO bP aa)).2.1;rw[ai,qA]at aA;have aA:=aA.1;simp only[jw,fB,jx]at aA;have abZ:(eY l r).2=true:=by
   unfold eY;rw[hk,aA.1,show (l.eM != 0)=true by simpa using nz,iV (by omega)];rfl
  rw[ag]at h;simp only[abZ]at h;simp at h
end
theorem WY{n w:Nat}(h:w<n){p:cP}(hp:p∈qC w):p∈pG n:=by
 unfold pG;exact jU.2 ⟨w,List.mem_range.2 h,hp⟩
theorem arK{n a b:Nat}(ae:a<n)(aj:b<n){p:cP}(hp:p∈mU a b):p∈pH n n:=by
 unfold pH rX;exact jU.2 ⟨a,List.mem_range.2 ae,jU.2 ⟨b,List.mem_range.2 aj,hp⟩⟩
theorem Nb{g:bS}(h:1<=g.ap/\g.ap<=4):gG g.ap 0 4=g.ap:=by
 unfold gG;rw[ba (by omega),ba (by omega),ba (by omega)]
theorem arL{n:Int}(aR:1<=n/\n<=4){k:Nat}(hk:(k:Int)<n*n):∃a b:Nat,(a:Int)<n/\(b:Int)<n/\(k:Int)=a*n+b:=by
 have aK:n=1\/n=2\/n=3\/n=4:=by omega
 refine⟨((k:Int) / n).toNat,((k:Int) % n).toNat,?_⟩;rcases aK with rfl | rfl | rfl | rfl<;>omega
structure Same (c d:a8):Prop where
 aC:d.aC=c.aC
 bR:d.bR=c.bR
 len:d.ap.length=c.ap.length
 w:∀(i:Nat) x,c.ap[i]?=some x->∃y,d.ap[i]?=some y/\y.queue=x.queue/\y.b3=x.b3/\y.bK=x.bK
variable{c:a8}
theorem Same.rfl:Same c c:=⟨Eq.refl _,Eq.refl _,Eq.refl _,fun _ x h=>⟨x,h,Eq.refl _,Eq.refl _,Eq.refl _⟩⟩
variable{d:a8}
theorem Same.trans{e:a8}(h:Same c d)(k:Same d e):Same c e:=⟨k.aC.trans h.aC,k.bR.trans h.bR,k.len.trans h.len,fun i x aa=>by
 obtain⟨y,bu,h1,U,ax⟩:=h.w i x aa;obtain⟨z,a6,cG,cg,cE⟩:=k.w i y bu;exact⟨z,a6,cG.trans h1,cg.trans U,cE.trans ax⟩⟩
theorem Same.cp(h:Same c d){i:Int}{x:aQ}(aa:cp c i=some x):∃y,cp d i=some y/\y.queue=x.queue/\y.b3=x.b3/\y.bK=x.bK:=by
 obtain⟨bg,_,U⟩:=eJ aa;unfold Go.Proofs.YtdchjefneblpgaaGreat.cp;rw[bi bg];exact h.w _ x U
theorem Same.eB(h:Same c d)(a b:Int):eB d (dR d.aC a b)=eB c (dR c.aC a b):=by
 unfold Go.Proofs.YtdchjefneblpgaaGreat.eB;rw[h.bR,h.aC]
theorem Same.set{i:Int}{x y:aQ}(aa:Go.Proofs.YtdchjefneblpgaaGreat.cp c i=some x)(h1:d.aC=c.aC)(U:d.bR=c.bR)(ax:d.ap=c.ap.set i.toNat y)(aK:y.queue=x.queue)(a7:y.b3=x.b3)(bp:y.bK=x.bK):Same c d:=
 ⟨h1,U,by rw[ax,e8],fun j z a6=>by
  rw[ax];by_cases bd:j=i.toNat
  ·subst bd;rw[(eJ aa).2.2]at a6;cases a6;exact⟨y,oI (eJ aa).2.2,aK,a7,bp⟩
  exact⟨z,Ck a6 bd,Eq.refl _,Eq.refl _,Eq.refl _⟩⟩
def De(c:a8)(p:cP):Prop:=∃(d:a8) (S:Int),cK d=true/\iW S d/\S<=200000/\Same c d/\(dA d p).2=false
theorem WZ(bP:cK c=true)(gS:∀p∈fZ c,p.kind<=5->De c p):Still c:=by
 obtain⟨av,qk,Ij,_⟩:=fO.1 bP;have aR:=je av;obtain⟨n,hL⟩:∃n:Nat,c.aC.ap=n:=⟨c.aC.ap.toNat,by omega⟩
 have abL:∀p∈pG n,p∈fZ c:=fun p hp=>by
  unfold fZ;rw[Nb aR,hL,oX];exact gN _ (gN _ hp)
 have abM:∀p∈pH n n,p∈fZ c:=fun p hp=>by
  unfold fZ;rw[Nb aR,hL,oX];exact gN _ (hR _ hp)
 have four:∀w:Nat,w<n->∀p∈qC w,p.kind<=5->De c p:=fun w hw p hp hk=>gS p (abL p (WY hw hp)) hk
 have two:∀a b:Nat,a<n->b<n->∀p∈mU a b,p.kind<=5->De c p:=fun a b ae sB p hp hk=>gS p (abM p (arK ae sB hp)) hk
 have inr:∀a:Nat,a<n->ar (a:Int) 0 (c.aC.ap-1)=true:=fun a ae=>by simp only[ar,cr];omega
 have bR:∀a b:Nat,a<n->b<n->a≠b->∀l,eB c (dR c.aC a b)=some l->l.queue=[]/\l.back=0:=fun a b ae sB ek l ag=>by
  obtain⟨x,aa⟩:=pF (c:=c) (i:=(b:Int)) (by omega) (by omega);have m4:(⟨4,(a:Int),(b:Int)⟩:cP)∈mU a b:=by simp[mU,ek]
  have m5:(⟨5,(a:Int),(b:Int)⟩:cP)∈mU a b:=by simp[mU,ek]
  obtain⟨d,S,d1,d2,d3,d4,d5⟩:=two a b ae sB _ m4 (by dsimp only;omega);obtain⟨f,T,f1,f2,f3,f4,f5⟩:=two a b ae sB _ m5 (by dsimp only;omega);obtain⟨y,bu,_⟩:=d4.cp aa;exact⟨arI d1 (by omega) ((d4.eB _ _).trans ag) bu d5,WX f1 (by omega) ((f4.eB _ _).trans ag) f5⟩
 have Z0:∀a:Nat,a<n->∀(j:Int) l,j≠a->eB c (dR c.aC a j)=some l->l.eM≠0:=fun a ae j l bd ag=>by
  obtain⟨_,g2⟩:=FU (ij ag).1;simp only[ar,cr]at g2;obtain⟨b,rfl⟩:∃b:Nat,j=b:=⟨j.toNat,by omega⟩
  obtain⟨q1,k9⟩:=bR a b ae (by omega) (by omega) l ag;obtain⟨cG,_,_,l2,_⟩:=oU.1 (pE.1 (rV bP ag)).1;simp only[ar,cr]at cG;rw[q1,k9]at l2;simp only[ch]at l2;omega
 refine⟨?_,?_,fun a b l ek ag=>?_⟩
 ·intro x aa;obtain⟨w,hw⟩:=List.getElem?_of_mem aa;have azx:=aP hw;have ly:cp c (w:Int)=some x:=by unfold cp;rw[bi (by omega)];simpa using hw
  obtain⟨d,S,d1,d2,d3,d4,d5⟩:=four w (by omega) ⟨3,w,0⟩ (by simp[qC]) (by dsimp only;omega);obtain⟨y,bu,fp,fb,Y6⟩:=d4.cp ly;have ai:=arJ d1 d2 d3 bu (fun j l bd ag=>Z0 w (by omega) j l bd ((d4.eB _ _).symm.trans ag)) d5;rw[fb]at ai;obtain⟨f,T,f1,f2,f3,f4,f5⟩:=four w (by omega) ⟨1,w,0⟩ (by simp[qC]) (by dsimp only;omega);obtain⟨z,a6,ayC,z2,z3⟩:=f4.cp ly;have az:=arG f1 a6 (z2.trans ai) f5;rw[ayC]at az;obtain⟨u,ayH,mV,mW,r4,ax7,ax8⟩:=four w (by omega) ⟨2,w,0⟩ (by simp[qC]) (by dsimp only;omega);obtain⟨v,bF,v1,v2,v3⟩:=ax7.cp ly;have hi:=arH mV bF (v2.trans ai) (v1.trans az) ax8;rw[v3]at hi;exact⟨az,ai,hi⟩
 ·intro l ag;obtain⟨k,hk⟩:=List.getElem?_of_mem ag;have DH:=aP hk;obtain⟨a,b,ae,sB,e⟩:=arL aR (k:=k) (by omega);obtain⟨iF,yH,_,uo,acM⟩:=xo aR (inr a (by omega)) (inr b (by omega));have kJ:eB c (dR c.aC a b)=some l:=by
   unfold eB;rw[iF,bi yH,<-e];simpa using hk
  by_cases ek:a=b
  ·subst ek;have aaw:=pE.1 (rV bP kJ);have ab5:(((dR c.aC a a).toNat:Nat):Int)=a*c.aC.ap+a:=by rw[B7 kJ,iF]
   exact aaw.2.2.2 (by rw[ab5,uo,acM])
  exact (bR a b (by omega) (by omega) ek l kJ).1
 obtain⟨g1,g2⟩:=FU (ij ag).1;simp only[ar,cr]at g1 g2;obtain⟨i,rfl⟩:∃i:Nat,a=i:=⟨a.toNat,by omega⟩
 obtain⟨j,rfl⟩:∃j:Nat,b=j:=⟨b.toNat,by omega⟩
 exact (bR i j (by omega) (by omega) (by omega) l ag).2
end Go.Proofs.YtdchjefneblpgaaGreat
namespace Go.Proofs.YtdchjefneblpgaaGreat
open Go.Sx Go.RowKit
structure q2 (P:kC) (S:Int) (c:a8):Prop where
 all:kh S c
 of:P.zX c
variable{P:kC}{c:a8}
theorem q2.step{S:Int}(h:q2 P S c)(iz:S<200000)(p:cP):q2 P (S+1) (dA c p).1:=by
 refine⟨h.all.step iz p,?_⟩;rcases xz c p with⟨_,U⟩ | ⟨_,_,st⟩
 ·rw[U];exact h.of
 exact h.of.step h.all.ok st (K2 c p).aC
theorem W0{d:a8}{p:cP}(st:Step c p d)(hk:5<p.kind):Same c d:=by
 cases st with
 | work x r q ja=>omega
 | input x r t ja=>omega
 | eN x r t ja=>omega
 | send x r t l ja=>omega
 | take l x ja=>omega
 | o4 l ja=>omega
 | token t x cR ja i' bg aE bH aa pb=>
  rcases oH c p.a t x with⟨_,k⟩ | ⟨_,_,⟨_,k⟩ | ⟨_,_,k⟩ | ⟨_,bg,_,k⟩ | ⟨_,_,_,k⟩⟩
  ·rw[k];exact .rfl
  ·rw[k];exact .set aa rfl rfl rfl rfl rfl rfl
  ·rw[k];exact .set aa rfl rfl rfl rfl rfl rfl
  ·rw[k];have a6:t.place=0:=by have:=(eJ aa).1;omega
   rw[a6]at aa;exact .set aa rfl rfl rfl rfl rfl rfl
  rw[k];exact⟨rfl,rfl,rfl,Same.rfl.w⟩
 | pc k n x ja aR aE aa=>
  refine .set (y:=er x n) aa rfl rfl rfl ?_ ?_ ?_<;>(unfold er;split<;>rfl)
def Fy:List cP->Bool
 | []=>true
 | p::l=>(if p.kind=4 then (match l with | q::_=>decide (q=⟨5,p.a,p.b⟩) | []=>false) else true)&&Fy l
theorem W1(aR:1<=c.aC.ap/\c.aC.ap<=4):Fy (fZ c)=true/\(fZ c).length<=44:=by
 have h:c.aC.ap=1\/c.aC.ap=2\/c.aC.ap=3\/c.aC.ap=4:=by omega
 unfold fZ;rcases h with h | h | h | h<;>(rw[h];decide +kernel)
theorem arM{i:Int}{l m:bD}(h:eB c i=some l):eB (dd c i m) i=some m:=by
 obtain⟨bg,_,U⟩:=ij h;unfold eB dd;rw[bi bg];exact oI U
theorem Wq:∀(l:List cP) {S:Int} {c:a8},q2 P S c->S+l.length<=200000->Fy l=true->
  gi P (dc c l).1<=gi P c/\(gi P (dc c l).1=gi P c->Same c (dc c l).1/\∀p∈l,p.kind<=5->De c p)
 | [],S,c,h,iz,_=>⟨ei _,fun _=>⟨.rfl,fun p hp=>by cases hp⟩⟩
 | p::l,S,c,h,iz,hp=>by
  simp only[dK]at iz;simp only[Fy,cm]at hp;have h1:=h.step (by omega) p;obtain⟨i1,i2⟩:=Wq l h1 (by omega) hp.2;simp only[dc];rcases xz c p with⟨cG,cg⟩ | ⟨_,_,st⟩
  ·rw[cg]at i1 i2 ⊢;refine⟨i1,fun he=>?_⟩;obtain⟨lA,lB⟩:=i2 he;refine⟨lA,fun q az hk=>?_⟩;rcases ez.1 az with rfl | az
   ·exact⟨c,S,h.all.ok,h.all.tJ,by omega,.rfl,cG⟩
   exact lB q az hk
  have DP:=arD h.of h.all.owns h.all.ok st;refine⟨by omega,fun he=>?_⟩;have abO:¬(p.kind<=5/\p.kind≠4):=fun az=>by rw[bi az]at DP;omega
  rw[ba abO]at DP;obtain⟨lA,lB⟩:=i2 (by omega);by_cases aK:p.kind=4
  ·exfalso;rw[bi aK]at hp;cases l with
   | nil=>cases hp.1
   | cons q hg=>
    have az:q=⟨5,p.a,p.b⟩:=by simpa using hp.1
    obtain⟨d,T,d1,d2,d3,d4,d5⟩:=lB q (eO ..) (by rw[az];dsimp only;omega);subst az;generalize (dA c p).1=c1 at*;cases st with
    | work x r q ja=>omega
    | input x r t ja=>omega
    | eN x r t ja=>omega
    | send x r t l ja=>omega
    | take l x ja ek ag aa bH=>
     obtain⟨kK,r,q,az,e2,e1⟩:=xx bH;have aj:=(oU.1 kK).2.2.1;simp only[ar,cr]at aj;have dq:eB (setW (dd c (dR c.aC p.a p.b) (dV l).1) p.b (hN x (dV l).2.1)) (dR c.aC p.a p.b)=some (dV l).1:=arM ag;have bg:=WX d1 ek ((d4.eB p.a p.b).trans dq) d5;rw[e1]at bg;dsimp only at bg;omega
    | o4 l ja=>omega
    | token t x cR ja=>omega
    | pc k n x ja=>omega
  have abi:5<p.kind:=by omega
  have ai:=W0 st abi;refine⟨ai.trans lA,fun q az hk=>?_⟩;rcases ez.1 az with rfl | az
  ·omega
  obtain⟨d,T,d1,d2,d3,d4,d5⟩:=lB q az hk;exact⟨d,T,d1,d2,d3,ai.trans d4,d5⟩
theorem arN{S:Int}(h:q2 P S c)(iz:S+44<=200000)(aR:¬Still c):gi P (im c).1<gi P c:=by
 obtain⟨ej,a2⟩:=W1 (je (fO.1 h.all.ok).1);obtain⟨h1,U⟩:=Wq (fZ c) h (by omega) ej;refine Classical.byContradiction fun ak=>?_
 have he:gi P (dc c (fZ c)).1=gi P c:=by
  unfold im at ak;dsimp only at ak;omega
 exact aR (WZ h.all.ok (U he).2)
theorem q2.run:∀(l:List cP) {S:Int} {c:a8},q2 P S c->S+l.length<=200000->q2 P (S+l.length) (dc c l).1
 | [],S,c,h,_=>by simpa[dc]using h
 | p::l,S,c,h,iz=>by
  simp only[dK]at iz ⊢;have:=q2.run l (h.step (by omega) p) (by omega);simp only[dc];rw[show S+((l.length+1:Nat):Int)=S+1+l.length by omega];exact this
end Go.Proofs.YtdchjefneblpgaaGreat
namespace Go.Proofs.YtdchjefneblpgaaGreat
open Go.Sx Go.RowKit
def r6(e:Int)(c:a8)(k:Nat):Bool:=(c.ap.take k).all fun x=>!fR e x
def mY(e:Int)(c:a8)(k:Nat):Bool:=(c.ap.drop k).all fun x=>!fR e x
def pZ(e:Int)(c:a8)(t:bT):Bool:=!t.bN&&r6 e c (t.place.toNat+1)&&decide (gD e c (t.place.toNat+1)+t.sum=0)
def pM(e:Int)(c:a8)(t:bT):Nat:=
 if t.going=true then (if pZ e c t=true then t.place.toNat+1 else if mY e c (t.place.toNat+1)=true then t.place.toNat+1+(c.ap.length+1) else t.place.toNat+1+(2*c.ap.length+2))
 else if mY e c 1=true then c.ap.length+1 else 2*c.ap.length+2
def gQ(e:Int)(c:a8):Bool:=match cp c 0 with | some x=>eV x e | none=>true
def iP(e:Int)(c:a8):Nat:=if gQ e c=true then 0 else match g' c e with | some t=>pM e c t | none=>0
def rD(c:a8):Nat:=3*(iP 0 c+iP 1 c+iP 2 c+iP 3 c)+c.news.length
theorem Wr{α:Type}(f:α->Bool){x:α}:∀{xs:List α} {i k:Nat},((xs.take k).all f=true)->f x=true->((xs.set i x).take k).all f=true
 | [],_,_,_,_=>by simp
 | a::xs,0,0,_,_=>by simp
 | a::xs,i+1,0,_,_=>by simp
 | a::xs,0,k+1,h,aa=>by
  simp only[List.set_cons_zero,List.take_succ_cons,List.all_cons,cm]at h ⊢;exact⟨aa,h.2⟩
 | a::xs,i+1,k+1,h,aa=>by
  simp only[List.set_cons_succ,List.take_succ_cons,List.all_cons,cm]at h ⊢;exact⟨h.1,Wr f h.2 aa⟩
theorem Nc{α:Type}(f:α->Bool){x:α}:∀{xs:List α} {i k:Nat},((xs.drop k).all f=true)->f x=true->((xs.set i x).drop k).all f=true
 | [],_,_,_,_=>by simp
 | a::xs,0,0,h,aa=>by
  simp only[List.set_cons_zero,tz,List.all_cons,cm]at h ⊢;exact⟨aa,h.2⟩
 | a::xs,i+1,0,h,aa=>by
  simp only[List.set_cons_succ,tz,List.all_cons,cm]at h ⊢;refine⟨h.1,?_⟩;have:=Nc f (xs:=xs) (i:=i) (k:=0) (by simpa using h.2) aa;simpa using this
 | a::xs,0,k+1,h,_=>by simpa using h
 | a::xs,i+1,k+1,h,aa=>by
  have:=Nc f (xs:=xs) (i:=i) (k:=k) (by simpa using h) aa;simpa using this
variable{c:a8}{e:Int}
theorem pJ{x:aQ}(h:cp c 0=some x):gQ e c=eV x e:=by
 unfold gQ;rw[h]
variable{x:aQ}
theorem arO(ag:x.bN.length=4)(he:0<=e/\e<=3):(!fR e (eC x e))=true:=by
 unfold fR eC;dsimp only;rw[Cm (by omega)];rfl
section
variable {e : Int} {c : a8} {t u : bT} {x : aQ}
theorem Ws(aa:cp c t.place=some x)(k:Nat):gD e (setW (cY c e u) t.place (eC x e)) k=gD e c k:=by
 have:=zq (fu e) (eC x e) (k:=k) (eJ aa).2.2;rw[show fu e (eC x e)=fu e x from rfl,Int.sub_self,ite_self,Int.add_zero]at this;exact this
end
theorem Still.quiet(h:Still c)(e:Int):quiet e c:=by
 refine⟨fun x aa=>?_,?_⟩
 ·obtain⟨h1,U,ax⟩:=h.1 x aa;rw[oJ,h1,U,ax];exact⟨fun r aA=>(by cases aA),fun r aA=>(by cases aA),fun r aA=>(by cases aA)⟩
 unfold iC;rw[xb (g:=fun _=>0) fun l ag=>by unfold nS gH;rw[h.2.1 l ag];rfl,y7]
theorem arP{S:Int}{t:bT}{cR:aQ}(h:kh S c)(ai:Still c)(he:0<=e/\e<=3)(bg:cp c 0=some cR)(aE:eV cR e=false)(bH:g' c e=some t)(aa:cp c t.place=some x)
  (pb:(ev c e t x).2=true):iP e (ev c e t x).1+1<=iP e c/\((ev c e t x).1.news=c.news\/((ev c e t x).1.news.length+1=c.news.length+c.ap.length/\gQ e (ev c e t x).1=true)):=by
 obtain⟨lK,ho,iS⟩:=eJ aa;obtain⟨_,DS,_⟩:=rW.1 (zh h.ok bH);have yh:=(FO (jO h.ok aa)).2.1;have hw:=arO yh he;have total:gD e c c.ap.length=0:=by rw[(h.inv e he).total,(ai.quiet e).2];rfl
 have ak:iP e c=pM e c t:=by
  unfold iP;rw[ba (by rw[pJ bg,aE];decide),bH]
 have hlen:∀u:bT,(setW (cY c e u) t.place (eC x e)).ap.length=c.ap.length:=fun u=>e8
 have hK:∀u:bT,iP e (setW (cY c e u) t.place (eC x e))<=pM e (setW (cY c e u) t.place (eC x e)) u:=fun u=>by
  unfold iP;rw[show g' (setW (cY c e u) t.place (eC x e)) e=some u from Cn bH];split
  ·exact Nat.zero_le _
  exact ei _
 rcases oH c e t x with⟨k,_⟩ | ⟨_,hp,⟨av,k⟩ | ⟨av,rl,k⟩ | ⟨av,rl,aj,k⟩ | ⟨av,rl,aj,k⟩⟩
 ·rw[pb]at k;cases k
 ·
  rw[k];refine⟨?_,.inl rfl⟩;have a6:=DS av;refine nc (Nat.add_le_add_right (hK _) 1) ?_;rw[ak];unfold pM;rw[hlen,av];dsimp only;have wa:((c.ap.length:Int)-1).toNat+1=c.ap.length:=by omega
  rw[wa,bi (rfl:true=true),ba (show ¬(false=true) by decide)];have tl:mY e (setW (cY c e ⟨true,(c.ap.length:Int)-1,0,false,x.bB.getD e.toNat false⟩) t.place (eC x e)) c.ap.length=true:=by
   unfold mY;rw[List.drop_of_length_le (by rw[hlen];exact ei _)];rfl
  rw[tl,bi (rfl:true=true)];by_cases mE:mY e c 1=true
  ·rw[bi mE];have bw:pZ e (setW (cY c e ⟨true,(c.ap.length:Int)-1,0,false,x.bB.getD e.toNat false⟩) t.place (eC x e)) ⟨true,(c.ap.length:Int)-1,0,false,x.bB.getD e.toNat false⟩=true:=by
    unfold pZ;dsimp only;rw[wa,Ws aa,total];have:r6 e (setW (cY c e ⟨true,(c.ap.length:Int)-1,0,false,x.bB.getD e.toNat false⟩) t.place (eC x e)) c.ap.length=true:=by
     unfold r6;rw[zR (by rw[hlen];exact ei _)];change (c.ap.set t.place.toNat (eC x e)).all _=true;rw[a6];unfold mY at mE;cases PW:c.ap with
     | nil=>rw[PW]at ho;simp at ho
     | cons y ys=>
      rw[PW]at mE;simp only[List.drop_succ_cons,tz]at mE;simp only[Int.toNat_zero,List.set_cons_zero,List.all_cons,hw,mE,Bool.and_self]
    rw[this];rfl
   rw[bi bw];exact ei _
  ·rw[ba mE];split<;>omega
 ·
  rw[k];refine⟨?_,.inl rfl⟩;refine nc (Nat.add_le_add_right (hK _) 1) ?_;rw[ak];unfold pM;rw[hlen,av];dsimp only;have wa:(t.place-1).toNat+1=t.place.toNat:=by omega
  rw[wa,bi (rfl:true=true),bi (rfl:true=true)];by_cases bw:pZ e c t=true
  ·rw[bi bw];have aaQ:pZ e (setW (cY c e ⟨true,t.place-1,t.sum+x.bG.getD e.toNat 0,t.bN||x.bN.getD e.toNat false,t.cw||x.bB.getD e.toNat false⟩) t.place (eC x e)) ⟨true,t.place-1,t.sum+x.bG.getD e.toNat 0,t.bN||x.bN.getD e.toNat false,t.cw||x.bB.getD e.toNat false⟩=true:=by
    unfold pZ at bw ⊢;simp only[cm,fP,cr]at bw;obtain⟨⟨f1,f2⟩,f3⟩:=bw;dsimp only;rw[wa,Ws aa];rw[FR iS]at f3;unfold r6 at f2;rw[r',iS,zV,List.all_append,cm]at f2;have cA:x.bN.getD e.toNat false=false:=by
     have:=f2.2;simp only[List.all_cons,List.all_nil,tA,fP]at this;exact this
    have:r6 e (setW (cY c e ⟨true,t.place-1,t.sum+x.bG.getD e.toNat 0,t.bN||x.bN.getD e.toNat false,t.cw||x.bB.getD e.toNat false⟩) t.place (eC x e)) t.place.toNat=true:=by
     unfold r6;exact Wr _ f2.1 hw
    rw[this,f1,cA];have:gD e c t.place.toNat+(t.sum+x.bG.getD e.toNat 0)=0:=by
     unfold fu at f3;omega
    rw[iV this];rfl
   rw[bi aaQ];omega
  rw[ba bw];by_cases mE:mY e c (t.place.toNat+1)=true
  ·rw[bi mE];have:mY e (setW (cY c e ⟨true,t.place-1,t.sum+x.bG.getD e.toNat 0,t.bN||x.bN.getD e.toNat false,t.cw||x.bB.getD e.toNat false⟩) t.place (eC x e)) t.place.toNat=true:=by
    unfold mY;change ((c.ap.set t.place.toNat (eC x e)).drop t.place.toNat).all _=true;have ag:t.place.toNat<(c.ap.set t.place.toNat (eC x e)).length:=by rw[e8];exact ho
    rw[List.drop_eq_getElem_cons ag,List.all_cons,List.getElem_set_self,hw,na];exact Nc _ mE hw
   rw[this,bi (rfl:true=true)];split<;>omega
  rw[ba mE];split
  ·omega
  ·split<;>omega
 ·
  rw[k];have a6:t.place=0:=by omega
  rw[a6]at iS;have k3:gQ e (f' (setW (cY c e ⟨false,t.place,t.sum,t.bN,t.cw⟩) 0 (told x e (t.cw||x.bB.getD e.toNat false))) (c.news++hn (c.ap.length-1) e (t.cw||x.bB.getD e.toNat false)))=true:=by
   unfold gQ;rw[show cp (f' (setW (cY c e ⟨false,t.place,t.sum,t.bN,t.cw⟩) 0 (told x e (t.cw||x.bB.getD e.toNat false))) (c.news++hn (c.ap.length-1) e (t.cw||x.bB.getD e.toNat false))) 0=some (told x e (t.cw||x.bB.getD e.toNat false)) from oI iS];dsimp only;rw[u'];simp
  refine⟨?_,.inr ⟨?_,k3⟩⟩
  ·unfold iP;rw[bi k3];change 0+1<=iP e c;rw[ak];unfold pM;rw[bi av];split
   ·omega
   ·split<;>omega
  simp only[f',jy,hn,bA,vA];omega
 -- Gg round was in az3
 rw[k];refine⟨?_,.inl rfl⟩;have a6:t.place=0:=by omega
 rw[a6]at iS;have abF:pZ e c t=false:=by
  rw[lj];intro bw;unfold pZ at bw;simp only[cm,fP,cr]at bw;obtain⟨⟨f1,f2⟩,f3⟩:=bw;rw[a6]at f2 f3;have ai:gD e c 1=fu e x:=by rw[FR (k:=0) iS];simp[gD]
  refine aj ⟨f1,?_,?_⟩
  ·unfold r6 at f2;change (c.ap.take 1).all _=true at f2;rw[r',show c.ap[0]?=some x from iS,zV,List.all_append,cm]at f2;simpa[fR]using f2.2
  change gD e c 1+t.sum=0 at f3;rw[ai]at f3;unfold fu at f3;omega
 have re:iP e (cY c e ⟨false,t.place,t.sum,t.bN,t.cw⟩)<=pM e (cY c e ⟨false,t.place,t.sum,t.bN,t.cw⟩) ⟨false,t.place,t.sum,t.bN,t.cw⟩:=by
  unfold iP;rw[show g' (cY c e ⟨false,t.place,t.sum,t.bN,t.cw⟩) e=some ⟨false,t.place,t.sum,t.bN,t.cw⟩ from Cn bH];split
  ·exact Nat.zero_le _
  exact ei _
 refine nc (Nat.add_le_add_right re 1) ?_;rw[ak];unfold pM;rw[av,abF];dsimp only;rw[ba (show ¬(false=true) by decide),bi (rfl:true=true),ba (show ¬(false=true) by decide),a6];change (if mY e c 1=true then _ else _)+1<=(if mY e c 1=true then _ else _);by_cases mE:mY e c 1=true
 ·rw[bi mE,bi mE];change c.ap.length+1+1<=0+1+(c.ap.length+1);omega
 rw[ba mE,ba mE];change 2*c.ap.length+2+1<=0+1+(2*c.ap.length+2);omega
theorem BS{i:Int}{d:a8}{y:aQ}(aa:cp c i=some x)(hw:d.ap=c.ap.set i.toNat y)(bH:g' d e=g' c e)(aj:fR e y=fR e x)(ai:fu e y=fu e x)(aE:eV x e=true->eV y e=true):iP e d<=iP e c:=by
 obtain⟨lK,ho,iS⟩:=eJ aa;have hlen:d.ap.length=c.ap.length:=by rw[hw,e8]
 have DM:∀{β:Type} (f:aQ->β),f y=f x->d.ap.map f=c.ap.map f:=fun f bw=>by
  rw[hw,jV,bw];exact Cl (by rw[du,iS];rfl)
 have Qb:=DM (fun z=>!fR e z) (by rw[aj]);have v8:=DM (fu e) ai;have e1:∀k,mY e d k=mY e c k:=fun k=>by
  have:∀ws:List aQ,(ws.drop k).all (fun z=>!fR e z)=((ws.map fun z=>!fR e z).drop k).all id:=fun ws=>by
   rw[<-List.map_drop,List.all_map];rfl
  unfold mY;rw[this,this,Qb]
 have e2:∀k,r6 e d k=r6 e c k:=fun k=>by
  have:∀ws:List aQ,(ws.take k).all (fun z=>!fR e z)=((ws.map fun z=>!fR e z).take k).all id:=fun ws=>by
   rw[<-qX,List.all_map];rfl
  unfold r6;rw[this,this,Qb]
 have ck:∀k,gD e d k=gD e c k:=fun k=>by
  unfold gD;rw[qX,qX,v8]
 have dX:∀t,pM e d t=pM e c t:=fun t=>by
  unfold pM pZ;rw[hlen,e1,e1,e2,ck]
 unfold iP;by_cases re:gQ e d=true
 ·rw[bi re];exact Nat.zero_le _
 have aaM:¬gQ e c=true:=fun ak=>re (by
  unfold gQ cp at ak ⊢;rw[bi (by decide),hw];rw[bi (by decide)]at ak;by_cases hi:i.toNat=0
  ·rw[hi]at iS ⊢;rw[show (0:Int).toNat=0 from rfl]at ak ⊢;rw[oI iS];rw[iS]at ak;exact aE ak
  rw[iT,ba (show ¬i.toNat=(0:Int).toNat from hi)];exact ak)
 rw[ba re,ba aaM,bH];cases g' c e with
 | none=>exact ei _
 | some t=>dsimp only;rw[dX];exact ei _
theorem qOp{f:Int}{t:bT}(he:0<=e)(bw:0<=f)(ct:f≠e)(aa:cp c t.place=some x):iP e (ev c f t x).1<=iP e c:=by
 have Cv:fR e (eC x f)=fR e x:=by
  unfold fR eC;exact u9 (xA bw he ct)
 rcases oH c f t x with⟨_,k⟩ | ⟨_,_,⟨_,k⟩ | ⟨_,_,k⟩ | ⟨_,bg,_,k⟩ | ⟨_,_,_,k⟩⟩
 ·rw[k];exact ei _
 ·rw[k];exact BS aa rfl (va he bw ct) Cv rfl id
 ·rw[k];exact BS aa rfl (va he bw ct) Cv rfl id
 ·rw[k];have a6:t.place=0:=by have:=(eJ aa).1;omega
  rw[a6]at aa;exact BS aa rfl (va he bw ct) rfl rfl fun q=>by rw[u',q,Bool.true_or]
 rw[k];exact BS (y:=x) aa (Cl (eJ aa).2.2).symm (va he bw ct) rfl rfl id
theorem arQ{S:Int}{d:a8}{p:cP}(h:kh S c)(ai:Still c)(aR:c.ap.length<=3)(st:Step c p d):Still d/\rD d<rD c:=by
 have still:5<p.kind->Still d:=fun hk=>by
  have oW:=W0 st hk;refine⟨fun x aa=>?_,fun l ag=>ai.2.1 l (oW.bR▸ag),fun a b l ek ag=>ai.2.2 a b l ek ((oW.eB a b).symm.trans ag)⟩;obtain⟨i,hi⟩:=List.getElem?_of_mem aa;obtain⟨z,a6⟩:=db (xs:=c.ap) (i:=i) (by have:=aP hi;rw[oW.len]at this;exact this);obtain⟨y,bu,fp,fb,Y6⟩:=oW.w i z a6;rw[hi]at bu;cases bu;rw[fp,fb,Y6];exact ai.1 z (cS a6)
 cases st with
 | work x r q hk aa dg az=>
  have:=(ai.1 x (cS (eJ aa).2.2)).1;rw[az]at this;cases this
 | input x r t hk aa dg az hi=>
  have:=(ai.1 x (cS (eJ aa).2.2)).2.2;rw[hi]at this;cases this
 | eN x r t hk aa dg aU=>
  have:=(ai.1 x (cS (eJ aa).2.2)).2.1;rw[dg]at this;cases this
 | send x r t l hk aa dg aU ag hsend=>
  have:=(ai.1 x (cS (eJ aa).2.2)).2.1;rw[dg]at this;cases this
 | take l x hk ek ag aa bH=>
  obtain⟨_,r,q,az,_⟩:=xx bH;have:=ai.2.1 l (cS (ij ag).2.2);rw[az]at this;cases this
 | o4 l hk ek ag ak=>
  rcases xy l with⟨k,_⟩ | ⟨_,_,aj,_⟩
  ·rw[ak]at k;cases k
  exact absurd (ai.2.2 _ _ l ek ag) aj
 | token t x cR hk i' bg aE bH aa pb=>
  refine⟨still (by omega),?_⟩;simp only[ar,cr]at i';obtain⟨cG,cg⟩:=arP h ai i' bg aE bH aa pb;have pu:∀e:Int,0<=e->p.a≠e->iP e (ev c p.a t x).1<=iP e c:=fun e he ct=>qOp he i'.1 ct aa
  have tU:p.a=0\/p.a=1\/p.a=2\/p.a=3:=by omega
  have ag:(ev c p.a t x).1.news.length<=c.news.length+2:=by
   rcases cg with cg | ⟨cg,_⟩
   ·rw[cg];omega
   omega
  unfold rD;rcases tU with h1 | h1 | h1 | h1
  ·have cv:=pu 1 (by decide) (by omega);have ca:=pu 2 (by decide) (by omega);have cD:=pu 3 (by decide) (by omega);rw[h1]at cG cv ca cD ag ⊢;omega
  ·have cv:=pu 0 (by decide) (by omega);have ca:=pu 2 (by decide) (by omega);have cD:=pu 3 (by decide) (by omega);rw[h1]at cG cv ca cD ag ⊢;omega
  ·have cv:=pu 0 (by decide) (by omega);have ca:=pu 1 (by decide) (by omega);have cD:=pu 3 (by decide) (by omega);rw[h1]at cG cv ca cD ag ⊢;omega
  have cv:=pu 0 (by decide) (by omega);have ca:=pu 1 (by decide) (by omega);have cD:=pu 2 (by decide) (by omega);rw[h1]at cG cv ca cD ag ⊢;omega
 | pc k n x hk v' aE aa=>
  refine⟨still (by omega),?_⟩;obtain⟨s1,s2,_⟩:fu 0 (er x n)=fu 0 x/\fR 0 (er x n)=fR 0 x/\j4 0 (er x n)=j4 0 x:=FQ;have o:∀e:Int,iP e (f' (setW c p.a (er x n)) (cutAt c.news k))<=iP e c:=fun e=>by
   obtain⟨s1,s2,_⟩:=FQ (x:=x) (n:=n) (e:=e);exact BS (y:=er x n) aa rfl rfl s2 s1 fun q=>by rw[FP,q,Bool.true_or]
  have ag:(cutAt c.news k).length+1=c.news.length:=by
   have:=aP v';simp only[cutAt,jy,qW,List.length_drop];omega
  have A1:=o 0;have cv:=o 1;have ca:=o 2;have cD:=o 3;unfold rD;change 3*_+(cutAt c.news k).length<_;omega
end Go.Proofs.YtdchjefneblpgaaGreat
namespace Go.Proofs.YtdchjefneblpgaaGreat
open Go.Sx Go.RowKit
structure Fin (e:Int) (c:a8):Prop where
 first:gQ e c=false->mT c e=false/\mm c e=false
 reach:gQ e c=true->∀(i:Nat) x,0<i->c.ap[i]?=some x->eV x e=true\/∃n∈c.news,n.dest=i/\n.bh=e
 flag:∃b:Bool,(∀x∈c.ap,∀d∈x.b',d.bh=e->d.cw=b)/\(∀n∈c.news,n.bh=e->n.cw=b)/\(gQ e c=true->b=false->∀x∈c.ap,j4 e x=false)
variable{c:a8}
theorem zE{x:aQ}(h:cp c 0=some x):c.ap[0]?=some x:=(eJ h).2.2
theorem xc{e i:Int}{d:a8}{x y:aQ}(h:Fin e c)(rp:Inv e c)(aa:cp c i=some x)(hw:d.ap=c.ap.set i.toNat y)(aR:d.news=c.news)(aE:y.b'=x.b')(ak:lc x e=true->j4 e y=j4 e x):Fin e d:=by
 obtain⟨i0,i1,i2⟩:=eJ aa;have k3:∀f,eV y f=eV x f:=fun f=>by unfold eV;rw[aE]
 have hK:gQ e d=gQ e c:=by
  unfold gQ cp;rw[bi (by decide),bi (by decide),hw];by_cases hi:i.toNat=0
  ·rw[hi]at i2 ⊢;rw[show (0:Int).toNat=0 from rfl,oI i2,i2];exact k3 e
  rw[show (0:Int).toNat=0 from rfl,iT,ba hi]
 refine⟨fun bw=>?_,fun bw j z bd a6=>?_,?_⟩
 ·rw[hK]at bw;obtain⟨t1,t2⟩:=h.first bw
  refine⟨?_,by unfold mm;rw[aR];exact t2⟩;unfold mT at t1 ⊢;rw[fh]at t1 ⊢;intro z a6;rw[hw]at a6;rcases hb a6 with a6 | rfl
  ·exact t1 z a6
  rw[k3];exact t1 x (cS i2)
 ·rw[hK]at bw;rw[aR];rw[hw]at a6;rcases u7 a6 with⟨rfl,rfl⟩ | ⟨_,a6⟩
  ·rw[k3];exact h.reach bw _ x bd i2
  exact h.reach bw j z bd a6
 obtain⟨b,eP,eX,jA⟩:=h.flag;refine⟨b,fun z a6=>?_,by rw[aR];exact eX,fun bw aj z a6=>?_⟩
 ·rw[hw]at a6;rcases hb a6 with a6 | rfl
  ·exact eP z a6
  rw[aE];exact eP x (cS i2)
 rw[hK]at bw;rw[hw]at a6;rcases hb a6 with a6 | rfl
 ·exact jA bw aj z a6
 have az:=(rp.zC (by
  have ai:gQ e c=true:=bw;obtain⟨cR,l0⟩:∃cR,cp c 0=some cR:=pF (by decide) (by omega);rw[pJ l0]at ai;rw[lM];exact .inl (nd.2 ⟨cR,cS (zE l0),ai⟩))).1 x (cS i2)
 rw[ak az];exact jA bw aj x (cS i2)
theorem Fin.step{e:Int}{d:a8}{p:cP}(h:Fin e c)(rp:Inv e c)(he:0<=e/\e<=3)(bP:cK c=true)(st:Step c p d):Fin e d:=by
 cases st with
 | work x r q hk aa ai az=>
  refine xc h rp aa rfl rfl rfl fun k=>?_
  obtain⟨cG,cg,cE⟩:=oJ.1 k;rw[az]at cg;have hy:=cg r (eO ..);have aA:=MK (hZ.1 (jO bP aa)).1 (r:=r) (by rw[az];exact eO ..);unfold j4;dsimp only;split
  ·exact u9 (xA aA.1 he.1 hy)
  rfl
 | input x r t hk aa ai az hi=>exact xc h rp aa rfl rfl rfl fun _=>rfl
 | eN x r t hk aa ai aU=>exact xc h rp aa rfl rfl rfl fun _=>rfl
 | send x r t l hk aa ai aU ag hsend=>exact xc h rp aa rfl rfl rfl fun _=>rfl
 | take l x hk ek ag aa bH=>exact xc h rp aa rfl rfl rfl fun _=>rfl
 | o4 l hk ek ag ak=>exact⟨h.first,h.reach,h.flag⟩
 | token t x cR hk i' bg aE bH aa pb=>
  rcases oH c p.a t x with⟨_,k⟩ | ⟨_,hp,⟨_,k⟩ | ⟨_,_,k⟩ | ⟨av,rl,aj,k⟩ | ⟨_,_,_,k⟩⟩
  ·rw[k];exact h
  ·rw[k];exact xc h rp aa rfl rfl rfl fun _=>rfl
  ·rw[k];exact xc h rp aa rfl rfl rfl fun _=>rfl
  ·rw[k];have a6:t.place=0:=by have:=(eJ aa).1;omega
   rw[a6,bg]at aa;obtain rfl:cR=x:=eE aa;obtain⟨i0,i1,i2⟩:=eJ bg;simp only[ar,cr]at i';have hK:gQ e (f' (setW (cY c p.a ⟨false,t.place,t.sum,t.bN,t.cw⟩) 0 (told cR p.a (t.cw||cR.bB.getD p.a.toNat false))) (c.news++hn (c.ap.length-1) p.a (t.cw||cR.bB.getD p.a.toNat false)))=(eV cR e||p.a==e):=by
    unfold gQ;rw[show cp (f' (setW (cY c p.a ⟨false,t.place,t.sum,t.bN,t.cw⟩) 0 (told cR p.a (t.cw||cR.bB.getD p.a.toNat false))) (c.news++hn (c.ap.length-1) p.a (t.cw||cR.bB.getD p.a.toNat false))) 0=some (told cR p.a (t.cw||cR.bB.getD p.a.toNat false)) from oI i2];exact u'
   by_cases uc:p.a=e
   ·subst uc;have aaR:gQ p.a c=false:=by rw[pJ bg];exact aE
    obtain⟨t1,t2⟩:=h.first aaR
    obtain⟨_,gd⟩:=rp.over bH av rl (by rw[a6];exact bg) hp aj;refine⟨fun bw=>?_,fun _ j z bd iB=>?_,⟨t.cw||j4 p.a cR,fun z iB d h' oi=>?_,fun n hL ct=>?_,fun _ dz z iB=>?_⟩⟩
    ·rw[hK]at bw;simp at bw
    ·right;have lv:=aP iB;rw[show (f' (setW (cY c p.a ⟨false,t.place,t.sum,t.bN,t.cw⟩) 0 (told cR p.a (t.cw||cR.bB.getD p.a.toNat false))) (c.news++hn (c.ap.length-1) p.a (t.cw||cR.bB.getD p.a.toNat false))).ap.length=c.ap.length from e8]at lv;refine⟨⟨((j-1:Nat):Int)+1,p.a,t.cw||cR.bB.getD p.a.toNat false⟩,hR _ (jX.2 ⟨j-1,List.mem_range.2 (by omega),rfl⟩),?_,rfl⟩;change ((j-1:Nat):Int)+1=(j:Int);omega
    ·rcases hb iB with iB | rfl
     ·exfalso;unfold mT at t1;rw[fh]at t1;exact t1 z iB (nd.2 ⟨d,h',by simpa using oi⟩)
     rcases hD.1 h' with h' | h'
     ·exfalso;rw[lj]at aE;exact aE (nd.2 ⟨d,h',by simpa using oi⟩)
     obtain rfl:d=⟨p.a,t.cw||cR.bB.getD p.a.toNat false⟩:=by simpa using h'
     rfl
    ·rcases hD.1 hL with hL | hL
     ·exfalso;unfold mm at t2;rw[fh]at t2;exact t2 n hL (by simpa using ct)
     obtain⟨_,_,rfl⟩:=jX.1 hL;rfl
    rcases hb iB with iB | rfl
    ·exact gd dz z iB
    exact gd dz cR (cS i2)
   have Qm:(p.a==e)=false:=by simpa using uc
   rw[Qm,Bool.or_false]at hK;have H3:gQ e c=eV cR e:=pJ bg;have k3:eV (told cR p.a (t.cw||cR.bB.getD p.a.toNat false)) e=eV cR e:=by rw[u',Qm,Bool.or_false]
   refine⟨fun bw=>?_,fun bw j z bd iB=>?_,?_⟩
   ·rw[hK,<-H3]at bw;obtain⟨t1,t2⟩:=h.first bw
    refine⟨?_,(UQ uc).trans t2⟩;unfold mT at t1 ⊢;rw[fh]at t1 ⊢;intro z iB;rcases hb iB with iB | rfl
    ·exact t1 z iB
    rw[k3];exact t1 cR (cS i2)
   ·rw[hK,<-H3]at bw;rcases u7 iB with⟨rfl,rfl⟩ | ⟨_,iB⟩
    ·exact absurd bd (by decide)
    rcases h.reach bw j z bd iB with bI | ⟨n,bI,b2⟩
    ·exact .inl bI
    exact .inr ⟨n,gN _ bI,b2⟩
   obtain⟨b,eP,eX,jA⟩:=h.flag;refine⟨b,fun z iB d h' oi=>?_,fun n hL ct=>?_,fun bw dz z iB=>?_⟩
   ·rcases hb iB with iB | rfl
    ·exact eP z iB d h' oi
    rcases hD.1 h' with h' | h'
    ·exact eP cR (cS i2) d h' oi
    obtain rfl:d=⟨p.a,t.cw||cR.bB.getD p.a.toNat false⟩:=by simpa using h'
    exact absurd oi uc
   ·rcases hD.1 hL with hL | hL
    ·exact eX n hL ct
    obtain⟨_,_,rfl⟩:=jX.1 hL;exact absurd ct uc
   rw[hK,<-H3]at bw;rcases hb iB with iB | rfl
   ·exact jA bw dz z iB
   exact jA bw dz cR (cS i2)
  rw[k];exact⟨h.first,h.reach,h.flag⟩
 | pc k n x hk aR aE aa=>
  obtain⟨i0,i1,i2⟩:=eJ aa;have Il:n∈c.news:=cS aR;have PU:∀m∈cutAt c.news k,m∈c.news:=fun m hm=>by
   unfold cutAt at hm;rcases hD.1 hm with hm | hm
   ·exact zQ hm
   exact G7 hm
  have PV:∀m∈c.news,m∈cutAt c.news k\/m=n:=fun m hm=>by
   obtain⟨j,bd⟩:=List.getElem?_of_mem hm;unfold cutAt;by_cases h1:j<k
   ·exact .inl (gN _ (cS (i:=j) (by rw[kX,bi h1];exact bd)))
   by_cases U:j=k
   ·subst U;rw[aR]at bd;exact .inr (eE bd).symm
   refine .inl (hR _ (cS (i:=j-(k+1)) ?_));rw[ky,show k+1+(j-(k+1))=j by omega];exact bd
  have k3:∀f,eV (er x n) f=(eV x f||n.bh==f):=fun f=>FP
  have hK:gQ e (f' (setW c p.a (er x n)) (cutAt c.news k))=true->gQ e c=true:=by
   intro bw;cases ak:gQ e c with
   | true=>rfl
   | false=>
    obtain⟨t1,t2⟩:=h.first ak
    exfalso;have ax1:∀m∈c.news,m.bh≠e:=fun m hm aby=>by
     unfold mm at t2;rw[fh]at t2;exact t2 m hm (by simpa using aby)
    have XV:∀z∈c.ap,eV z e=false:=fun z a6=>by
     unfold mT at t1;rw[fh]at t1;simpa using t1 z a6
    obtain⟨cR,l0⟩:∃cR,cp (f' (setW c p.a (er x n)) (cutAt c.news k)) 0=some cR:=pF (by decide) (by rw[show (f' (setW c p.a (er x n)) (cutAt c.news k)).ap.length=c.ap.length from e8];omega);rw[pJ l0]at bw;have hm:=cS (zE l0);rcases hb hm with hm | rfl
    ·rw[XV cR hm]at bw;cases bw
    rw[k3,XV x (cS i2),iU]at bw;exact ax1 n Il (by simpa using bw)
  have aaL:gQ e c=true->gQ e (f' (setW c p.a (er x n)) (cutAt c.news k))=true:=by
   intro ak;obtain⟨cR,l0⟩:∃cR,cp c 0=some cR:=pF (by decide) (by omega);rw[pJ l0]at ak;by_cases hi:p.a.toNat=0
   ·have IH:x=cR:=by
     have:=zE l0;rw[hi]at i2;rw[i2]at this;exact eE this
    subst IH;rw[pJ (x:=er x n) (show cp (f' (setW c p.a (er x n)) (cutAt c.news k)) 0=some (er x n) by
     unfold cp;rw[bi (by decide)];change (c.ap.set p.a.toNat (er x n))[0]?=_;rw[hi]at i2 ⊢;exact oI i2),k3,ak,Bool.true_or]
   rw[pJ (x:=cR) (show cp (f' (setW c p.a (er x n)) (cutAt c.news k)) 0=some cR by
    unfold cp;rw[bi (by decide)];exact Ck (zE l0) (fun q=>hi q.symm))]
   exact ak
  refine⟨fun bw=>?_,fun bw j z bd a6=>?_,?_⟩
  ·have ak:gQ e c=false:=by
    rw[lj];intro ak;rw[aaL ak]at bw;cases bw
   obtain⟨t1,t2⟩:=h.first ak
   unfold mT at t1 ⊢;unfold mm at t2 ⊢;rw[fh]at t1 t2 ⊢;refine⟨fun z a6=>?_,?_⟩
   ·rcases hb a6 with a6 | rfl
    ·exact t1 z a6
    rw[k3,lM];exact fun q=>q.elim (t1 x (cS i2)) (t2 n Il)
   rw[fh];exact fun m hm=>t2 m (PU m hm)
  ·have ak:=hK bw;rcases u7 a6 with⟨rfl,rfl⟩ | ⟨ct,a6⟩
   ·rw[k3];rcases h.reach ak _ x bd i2 with bI | ⟨m,bI,b2,cj⟩
    ·exact .inl (by rw[bI,Bool.true_or])
    rcases PV m bI with bI | rfl
    ·exact .inr ⟨m,bI,b2,cj⟩
    exact .inl (by rw[show (m.bh==e)=true by simpa using cj,Bool.or_true])
   rcases h.reach ak j z bd a6 with bI | ⟨m,bI,b2,cj⟩
   ·exact .inl bI
   rcases PV m bI with bI | rfl
   ·exact .inr ⟨m,bI,b2,cj⟩
   exfalso;rw[aE]at b2;omega
  obtain⟨b,eP,eX,jA⟩:=h.flag;refine⟨b,fun z a6 d h' oi=>?_,fun m hm=>eX m (PU m hm),fun bw aj z a6=>?_⟩
  ·rcases hb a6 with a6 | rfl
   ·exact eP z a6 d h' oi
   unfold er at h';split at h'
   ·exact eP x (cS i2) d h' oi
   rcases hD.1 h' with h' | h'
   ·exact eP x (cS i2) d h' oi
   obtain rfl:d=⟨n.bh,n.cw⟩:=by simpa using h'
   exact eX n Il oi
  rcases hb a6 with a6 | rfl
  ·exact jA (hK bw) aj z a6
  rw[(FQ (x:=x) (n:=n) (e:=e)).2.2];exact jA (hK bw) aj x (cS i2)
end Go.Proofs.YtdchjefneblpgaaGreat
namespace Go.Proofs.YtdchjefneblpgaaGreat
open Go.Sx Go.RowKit
def cq(e:Int)(c:a8):Nat:=if gQ e c=true then 0 else 1
def q0(c:a8):Prop:=c.news.length+2*(cq 0 c+cq 1 c+cq 2 c+cq 3 c)<=8
variable{c d:a8}{i e:Int}{x:aQ}
theorem arR{y:aQ}(aa:cp c i=some x)(hw:d.ap=c.ap.set i.toNat y)(h:eV x e=true->eV y e=true):gQ e c=true->gQ e d=true:=by
 intro ak;obtain⟨_,_,iS⟩:=eJ aa;unfold gQ cp at ak ⊢;rw[bi (by decide),hw];rw[bi (by decide)]at ak;by_cases hi:i.toNat=0
 ·rw[hi]at iS ⊢;rw[show (0:Int).toNat=0 from rfl]at ak ⊢;rw[oI iS];rw[iS]at ak;exact h ak
 rw[iT,ba (show ¬i.toNat=(0:Int).toNat from hi)];exact ak
theorem BU{d:a8}{y:aQ}(aa:cp c i=some x)(hw:d.ap=c.ap.set i.toNat y)(h:eV x e=true->eV y e=true):cq e d<=cq e c:=by
 unfold cq;by_cases ak:gQ e c=true
 ·rw[bi ak,bi (arR aa hw h ak)];exact ei _
 ·rw[ba ak];split<;>omega
theorem uT{y:aQ}(h:q0 c)(aa:cp c i=some x)(hw:d.ap=c.ap.set i.toNat y)(aE:∀e,eV x e=true->eV y e=true)(aR:d.news.length<=c.news.length):q0 d:=by
 have hQ:=BU (d:=d) aa hw (aE 0);have mV:=BU (d:=d) aa hw (aE 1);have mW:=BU (d:=d) aa hw (aE 2);have r4:=BU (d:=d) aa hw (aE 3);unfold q0 at h ⊢;omega
theorem q0.step{p:cP}(h:q0 c)(ag:c.ap.length<=3)(st:Step c p d):q0 d:=by
 cases st with
 | work x r q hk aa ai az=>exact uT h aa rfl (fun _ k=>k) (ei _)
 | input x r t hk aa ai az hi=>exact uT h aa rfl (fun _ k=>k) (ei _)
 | eN x r t hk aa ai aU=>exact uT h aa rfl (fun _ k=>k) (ei _)
 | send x r t l hk aa ai aU kJ hsend=>exact uT h aa rfl (fun _ k=>k) (ei _)
 | take l x hk ek kJ aa bH=>exact uT h aa rfl (fun _ k=>k) (ei _)
 | o4 l hk ek kJ ak=>exact h
 | token t x cR hk i' bg aE bH aa pb=>
  rcases oH c p.a t x with⟨_,k⟩ | ⟨_,_,⟨_,k⟩ | ⟨_,_,k⟩ | ⟨_,rl,_,k⟩ | ⟨_,_,_,k⟩⟩
  ·rw[k];exact h
  ·rw[k];exact uT h aa rfl (fun _ k=>k) (ei _)
  ·rw[k];exact uT h aa rfl (fun _ k=>k) (ei _)
  ·rw[k];have a6:t.place=0:=by have:=(eJ aa).1;omega
   rw[a6,bg]at aa;obtain rfl:cR=x:=eE aa;simp only[ar,cr]at i';generalize yf:f' (setW (cY c p.a ⟨false,t.place,t.sum,t.bN,t.cw⟩) 0 (told cR p.a (t.cw||cR.bB.getD p.a.toNat false))) (c.news++hn (c.ap.length-1) p.a (t.cw||cR.bB.getD p.a.toNat false))=D;have hw:D.ap=c.ap.set (0:Int).toNat (told cR p.a (t.cw||cR.bB.getD p.a.toNat false)):=by rw[<-yf];rfl
   have Ik:D.news.length<=c.news.length+2:=by
    rw[<-yf];simp only[f',jy,hn,bA,vA];omega
   have mono:∀e,cq e D<=cq e c:=fun e=>BU bg hw fun k=>by rw[u',k,Bool.true_or]
   have own:cq p.a D=0/\cq p.a c=1:=by
    have aak:cp D 0=some (told cR p.a (t.cw||cR.bB.getD p.a.toNat false)):=by
     unfold cp;rw[bi (by decide),hw];exact oI (eJ bg).2.2
    unfold cq;rw[pJ aak,pJ bg,u',aE];simp
   have hQ:=mono 0;have mV:=mono 1;have mW:=mono 2;have r4:=mono 3;have tU:p.a=0\/p.a=1\/p.a=2\/p.a=3:=by omega
   unfold q0 at h ⊢;rcases tU with h1 | h1 | h1 | h1<;>(rw[h1]at own;omega)
  rw[k];exact h
 | pc k n x hk aR aE aa=>
  refine uT (y:=er x n) h aa rfl (fun e q=>by rw[FP,q,Bool.true_or]) ?_;exact U5 _ _
structure Live (P:kC) (S:Int) (c:a8):Prop where
 run:q2 P S c
 fin:∀e:Int,0<=e/\e<=3->Fin e c
 news:q0 c
 small:c.ap.length<=3
variable{P:kC}{S:Int}
theorem Live.step(h:Live P S c)(iz:S<200000)(p:cP):Live P (S+1) (dA c p).1:=by
 have h1:=h.run.step iz p;have ag:=(K2 c p).vr;rcases xz c p with⟨_,U⟩ | ⟨_,_,st⟩
 ·rw[U]at h1 ⊢;exact⟨h1,h.fin,h.news,h.small⟩
 exact⟨h1,fun e he=>(h.fin e he).step (h.run.all.inv e he) he h.run.all.ok st,h.news.step h.small st,by rw[ag];exact h.small⟩
theorem Live.runs:∀(l:List cP) {S:Int} {c:a8},Live P S c->S+l.length<=200000->Live P (S+l.length) (dc c l).1
 | [],S,c,h,_=>by simpa[dc]using h
 | p::l,S,c,h,iz=>by
  simp only[dK]at iz ⊢;have:=Live.runs l (h.step (by omega) p) (by omega);simp only[dc];rw[show S+((l.length+1:Nat):Int)=S+1+l.length by omega];exact this
theorem Live.mono{T:Int}(h:Live P S c)(gX:S<=T):Live P T c:=⟨⟨h.run.all.mono gX,h.run.of⟩,h.fin,h.news,h.small⟩
variable{g:bS}{xs:List aB}
theorem Live.new(av:kB g)(aa:∀r∈xs,Input r)(ag:xs.length<=5):∃P:kC,P.xs=xs/\Live P 0 (dh g xs):=by
 have aR:=Mx av (by omega) aa;obtain⟨⟨k,a,b,c,v,hk,ae,aj,_,bF,hL⟩,hw,_⟩:=av;have AO:∀x∈(dh g xs).ap,∃w:Nat,x=jP (own g xs w):=fun x aa=>by
  obtain⟨i,hi⟩:=List.getElem?_of_mem aa;exact⟨i,(FW hi).1⟩
 have hlen:(dh g xs).ap.length=g.ap.toNat:=xv g xs _;have hK:∀e,gQ e (dh g xs)=false:=fun e=>by
  obtain⟨cR,l0⟩:∃cR,cp (dh g xs) 0=some cR:=pF (by decide) (by rw[hlen];omega);rw[pJ l0];obtain⟨w,rfl⟩:=AO cR (cS (zE l0));rfl
 refine⟨⟨k,a,b,c,v,xs⟩,rfl,⟨kh.new aR,hk,ae,aj,bF,hL,aa,⟨fun x ly r aA=>?_,fun l ag r aA=>?_,fun x ly r aA=>?_⟩⟩,fun e he=>⟨fun _=>⟨?_,rfl⟩,fun bw=>?_,⟨false,fun x ly d aE=>?_,fun n aR=>?_,fun bw=>?_⟩⟩,?_,by rw[hlen];omega⟩
 ·obtain⟨w,rfl⟩:=AO x ly;simp[jP]at aA
 ·rw[List.eq_of_mem_replicate ag]at aA;simp[iN]at aA
 ·obtain⟨w,rfl⟩:=AO x ly;exact (FV aA).1
 ·unfold mT;rw[fh];intro x ly;obtain⟨w,rfl⟩:=AO x ly;simp[eV,jP]
 ·rw[hK]at bw;cases bw
 ·obtain⟨w,rfl⟩:=AO x ly;simp[jP]at aE
 ·simp[dh]at aR
 ·rw[hK]at bw;cases bw
 unfold q0 cq;rw[hK,hK,hK,hK];simp[dh]
theorem Fz{e:Int}(h:kh S c)(ag:c.ap.length<=3):iP e c<=11:=by
 unfold iP;split
 ·omega
 cases bH:g' c e with
 | none=>exact Nat.zero_le _
 | some t=>
  obtain⟨⟨h1,U⟩,_⟩:=rW.1 (zh h.ok bH);have qk:=(fO.1 h.ok).2.1;dsimp only;unfold pM;split
  ·split
   ·omega
   ·split<;>omega
  ·split<;>omega
theorem Wt(h:Live P S c):rD c<=140:=by
 have t0:=Fz (e:=0) h.run.all h.small;have t1:=Fz (e:=1) h.run.all h.small;have t2:=Fz (e:=2) h.run.all h.small;have t3:=Fz (e:=3) h.run.all h.small;have aR:=h.news;unfold q0 at aR;unfold rD;omega
theorem Wu(b:Bool)(l:List Bool):mu (b::l)=(if b=true then 1 else 0)+mu l:=by
 cases b<;>simp[mu]<;>omega
theorem FA:∀(l:List cP) {S:Int} {c:a8},Live P S c->S+l.length<=200000->Still c->Still (dc c l).1/\rD (dc c l).1+mu (dc c l).2<=rD c
 | [],S,c,_,_,ai=>⟨ai,ei _⟩
 | p::l,S,c,h,iz,ai=>by
  simp only[dK]at iz;simp only[dc,Wu];rcases xz c p with⟨cG,cg⟩ | ⟨_,cG,st⟩
  ·rw[cg,cG,ba (by decide),dG];exact FA l (h.mono (T:=S+1) (by omega)) (by omega) ai
  obtain⟨s1,s2⟩:=arQ h.run.all ai h.small st;obtain⟨i1,i2⟩:=FA l (h.step (by omega) p) (by omega) s1;rw[cG,bi rfl];exact⟨i1,by omega⟩
theorem Wv:∀(l:List cP) (c:a8),mu (dc c l).2=0->(dc c l).1=c/\∀p∈l,(dA c p).2=false
 | [],c,_=>⟨rfl,fun p hp=>by cases hp⟩
 | p::l,c,h=>by
  simp only[dc,Wu]at h ⊢;cases aj:(dA c p).2 with
  | true=>rw[aj,bi rfl]at h;omega
  | false=>
   rw[akB aj]at h ⊢;obtain⟨h1,U⟩:=Wv l c (by omega);refine⟨h1,fun q az=>?_⟩;rcases ez.1 az with rfl | az
   ·exact aj
   exact U q az
theorem Ww{P:kC}:∀(m:Nat) {S:Int} {c:a8} (k M:Nat),Live P S c->S+44*m<=200000->M<m->((Still c/\rD c<=M)\/gi P c+141<=M)->
  ∃(d:a8) (j:Nat) (T:Int),gE m c k=(d,k+j)/\j<=M+1/\Live P T d/\T<=200000/\d.aC=c.aC/\∀p∈fZ d,(dA d p).2=false
 | 0,S,c,k,M,_,_,aan,_=>by omega
 | m+1,S,c,k,M,h,iz,aan,ak=>by
  obtain⟨_,HX⟩:=W1 (je (fO.1 h.run.all.ok).1);unfold gE;by_cases bg:(im c).2=0
  ·rw[bi bg];obtain⟨iD,js⟩:=Wv (fZ c) c bg;exact⟨c,1,S,by rw[show (im c).1=c from iD],by omega,h,by omega,rfl,js⟩
  rw[ba bg];have ag:Live P (S+44) (im c).1:=(h.runs (fZ c) (by omega)).mono (by omega);have aa4:=(Fv c).aC;have next:(Still (im c).1/\rD (im c).1<=M-1)\/gi P (im c).1+141<=M-1:=by
   by_cases ai:Still c
   ·obtain⟨s1,s2⟩:=FA (fZ c) h (by omega) ai;have aE:0<mu (dc c (fZ c)).2:=Nat.pos_of_ne_zero bg;rcases ak with⟨_,ak⟩ | ak
    ·exact .inl ⟨s1,by unfold im;dsimp only;omega⟩
    have:=Wt h;exact .inl ⟨s1,by unfold im;dsimp only;omega⟩
   rcases ak with⟨ak,_⟩ | ak
   ·exact absurd ak ai
   have bL:=arN h.run (by omega) ai;by_cases ue:Still (im c).1
   ·have:=Wt ag;exact .inl ⟨ue,by omega⟩
   exact .inr (by omega)
  have ay9:1<=M:=by
   rcases ak with⟨ai,ak⟩ | ak
   ·obtain⟨_,s2⟩:=FA (fZ c) h (by omega) ai;have aE:0<mu (dc c (fZ c)).2:=Nat.pos_of_ne_zero bg;omega
   omega
  obtain⟨d,j,T,e1,e2,ck,dX,gB,kl⟩:=Ww m (k+1) (M-1) ag (by omega) (by omega) next;exact⟨d,j+1,T,by rw[e1];congr 1;omega,by omega,ck,dX,gB.trans aa4,kl⟩
structure Hb (c:a8):Prop where
 still:Still c
 done:∀e:Int,0<=e/\e<=3->∀x∈c.ap,eV x e=true
 news:c.news=[]
theorem arS(he:0<=e/\e<=3):(⟨6,e,0⟩:cP)∈fZ c:=by
 have tU:e=0\/e=1\/e=2\/e=3:=by omega
 unfold fZ;refine hR _ ?_;rcases tU with rfl | rfl | rfl | rfl<;>decide
theorem Live.ended{T:Int}(h:Live P T c)(gX:T<=200000)(gS:∀p∈fZ c,(dA c p).2=false):Hb c:=by
 have bP:=h.run.all.ok;obtain⟨av,qk,_⟩:=fO.1 bP;have aR:=je av;have ai:Still c:=WZ bP fun p hp _=>⟨c,T,bP,h.run.all.tJ,gX,.rfl,gS p hp⟩
 have nF:c.news=[]:=by
  cases hL:c.news with
  | nil=>rfl
  | cons n ns=>
   exfalso;have aj:=LA bP (k:=0) (n:=n) (by rw[hL];rfl);simp only[kU,ar,fB,jx,cr]at aj;obtain⟨w,hw⟩:∃w:Nat,n.dest=w:=⟨n.dest.toNat,by omega⟩
   obtain⟨x,aa⟩:∃x,cp c (w:Int)=some x:=pF (by omega) (by omega);have hp:=gS ⟨7,w,0⟩ (by
    unfold fZ;rw[Nb aR];exact gN _ (gN _ (WY (w:=w) (by omega) (by simp[qC]))))
   have bw:c.news.findIdx? (fun m=>m.dest==(w:Int))=some 0:=by
    rw[hL,List.findIdx?_cons,hw];simp
   have b6:dA c ⟨7,(w:Int),0⟩=lI c w:=rfl;rw[b6]at hp;unfold lI at hp;rw[bw]at hp;dsimp only at hp;rw[bi bP,hL]at hp;simp only[kg,aa]at hp;cases hp
 refine⟨ai,fun e he x aa=>?_,nF⟩;obtain⟨cR,l0⟩:∃cR,cp c 0=some cR:=pF (by decide) (by omega);obtain⟨t,bH⟩:=TU bP (e:=e) (by simp only[ar,cr];exact he);obtain⟨⟨iF,yH⟩,_⟩:=rW.1 (zh bP bH);obtain⟨y,bu⟩:∃y,cp c t.place=some y:=pF iF (by omega);have hK:eV cR e=true:=by
  refine Classical.byContradiction fun aE=>?_
  have aE:eV cR e=false:=by simpa using aE
  have hp:=gS ⟨6,e,0⟩ (arS he);have bp:dA c ⟨6,e,0⟩=ev c e t y:=by
   change kV c e=_;unfold kV;rw[bi (by rw[bP];simp only[ar,na,cr];exact he),l0,bH];dsimp only;rw[aE,ba (by decide),bu]
  rw[bp]at hp;have abN:=(ai.quiet e).1 y (cS (eJ bu).2.2);unfold ev at hp;rw[bi abN]at hp;cases av:t.going with
  | false=>rw[av]at hp;cases hp
  | true=>
   rw[av,ba (by decide)]at hp;split at hp
   ·split at hp
    ·cases hp
    rename_i abd;refine abd ?_;have eP:=h.run.all.tJ.vo t (cS (xn bH).2.2) av;have eX:=h.run.all.tJ.at bu e.toNat;simp only[ar,cr];omega
   ·split at hp<;>cases hp
 obtain⟨i,hi⟩:=List.getElem?_of_mem aa;by_cases qb:i=0
 ·subst qb;rw[zE l0]at hi;cases hi;exact hK
 rcases (h.fin e he).reach (by rw[pJ l0];exact hK) i x (by omega) hi with r | ⟨n,r,_⟩
 ·exact r
 rw[nF]at r;cases r
theorem arT(av:kB g)(aa:∀r∈xs,Input r)(ag:xs.length<=5)(Dz:P.xs=xs)(ak:Live P S c)(iz:S<=60000)(azs:gi P c<=xs.length*554):
  ∃(d:a8) (j:Nat) (T:Int),oK c 3000=(d,j)/\j<3000/\Live P T d/\T<=200000/\d.aC=c.aC/\Hb d/\∀p∈fZ d,(dA d p).2=false:=by
 have aj:(gG 3000 0 3000).toNat=3000:=by decide
 obtain⟨d,j,T,e1,e2,ck,dX,gB,kl⟩:=Ww (P:=P) 3000 (c:=c) 0 2911 ak (by omega) (by omega) (.inr (by omega));refine⟨d,j,T,?_,by omega,ck,dX,gB,ck.ended dX kl,kl⟩;unfold oK;rw[aj,e1,dG]
structure Grown (g:bS) (xs:List aB) (c:a8):Prop where
 drawn:kB g
 input:∀r∈xs,Input r
 few:xs.length<=5
 live:∃(P:kC) (S:Int),P.xs=xs/\Live P S c/\S<=60000/\gi P c<=xs.length*554
 aC:c.aC=g
theorem Grown.new(av:kB g)(aa:∀r∈xs,Input r)(ag:xs.length<=5):Grown g xs (dh g xs):=by
 obtain⟨P,Dz,h⟩:=Live.new av aa ag;subst Dz;exact⟨av,aa,ag,⟨P,0,rfl,h,by omega,arF (Mx av (by omega) aa) aa⟩,rfl⟩
