import Derived.Test.YtdchjefneblpgaaGreatC6
import Derived.Test.YtdchjefneblpgaaGreatGU
import Derived.Test.YtdchjefneblpgaaGreatP17
set_option linter.unusedVariables false
set_option linter.unusedSimpArgs false
namespace Go.Proofs.YtdchjefneblpgaaGreat
open Go.Sx Go.RowKit Go.Proofs.Tryz
variable{c:bb}
theorem bb.Ha(h:c.wf){l:bu}(ap:l∈c.bV):l.wf:=h.X5.2 l ap
structure A8 (c:bb):Prop where
 n:aJ .i64 c.aC.ay
 l:∀l∈c.bV,aJ .i64 l.cap/\l.dh<=9223372036854775807
theorem A8.of(h:c.wf):A8 c:=⟨h.V3.TS,fun l ap=>⟨(bb.Ha h ap).Mw,(bb.Ha h ap).MF.2⟩⟩
theorem bb.B6(h:c.sz<=8388608){l:bu}(ap:l∈c.bV):l.sz<=8388608:=by
 have:=ta (sz:=bu.sz) (xs:=c.bV) (m:=8388608) (by simp only[bb.sz]at h;omega) ap;exact this
def pD(e:Int)(l:bu):Nat:=(pC e l.queue).length
theorem vx{α:Type}{f:Int->α}{xs:List Int}(h:xs.length<=8388608):IntKind.i64.wrap ((↑(xs.map f).length:Int)-1)=(xs.length:Int)-1:=by
 rw[cf];exact aJ.wrap ⟨by omega,by omega⟩
def jH(key ay:Int):Int:=if ay<1 then 0 else if key.tmod ay<0 then key.tmod ay+ay else key.tmod ay
theorem QP(a b:Int)(h:0<b):- b<a.tmod b:=by
 rcases Int.le_total 0 a with ag | ag
 ·have:=Int.tmod_nonneg b ag;omega
 have h1:(-a).tmod b<b:=Int.tmod_lt_of_pos _ h;rw[Int.neg_tmod]at h1;omega
theorem QQ(key ay:Int)(hw:ay<=9223372036854775807):ar 245 [.one (I key),.one (I ay)] [.one (I (jH key ay))]:=by
 unfold jH;split
 ·exact Y4 ⟨by simpa using ‹ay<1›,aa⟩
 rename_i h;have h1:=QP key ay (by omega);have U:key.tmod ay<ay:=Int.tmod_lt_of_pos _ (by omega);split
 ·rename_i ax;exact Y5 ⟨by simp only[mu];omega,by omega,by simpa using ax,⟨by omega,by omega⟩,aa⟩
 rename_i ax;exact Y6 ⟨by simp only[mu];omega,by omega,by simpa using ax,aa⟩
theorem aR.DQ{w:aR}(h:w.sz<=8388608):w.queue.length<=8388608:=by simp only[aR.sz]at h;omega
theorem aR.wk{w:aR}(h:w.sz<=8388608):w.b3.length<=8388608:=by simp only[aR.sz]at h;omega
end Go.Proofs.YtdchjefneblpgaaGreat
namespace Go.Proofs.YtdchjefneblpgaaGreat
open Go.Sx Go.RowKit Go.Proofs.Tryz
def CC(p:Cell×Cell):Bool:=decide (ht p.1 p.2>=0)
def jm(xs:List Cell):Bool:=!((xs.zip (xs.drop 1)).any CC)
variable{xs:List Cell}
theorem zV{i:Nat}{p:Cell×Cell}(h:(xs.zip (xs.drop 1))[i]?=some p):xs[i]?=some p.1/\xs[i+1]?=some p.2:=by
 rw[List.getElem?_zip_eq_some]at h;obtain⟨h1,U⟩:=h;rw[k',Nat.add_comm]at U;exact⟨h1,U⟩
theorem aaN(xs:List Cell)(ap:xs.length<=8388608):ar 266 [.one (.J 4 (xs.map Cell.e))] [.one (B (jm xs))]:=by
 have bB:∀i:Nat,(((i:Int)+1)-1).toNat=i:=fun i=>by omega
 have e1:∀i:Nat,(((i:Int)+1)).toNat=i+1:=fun i=>by omega
 have bk:(xs.zip (xs.drop 1)).length=xs.length-1:=by simp
 have l:=gy (P:=prog) (c:=(ao f266 0)) (xs.zip (xs.drop 1)) CC (fun i=>th (xs.map Cell.e) ((i:Int)+1)) (X:=fun _ _=>Kd false) e7 (cH 0)
  (fun i a ag h=>by
   obtain⟨h1,U⟩:=zV ag;have hi:=a1 U;refine K6 (th (xs.map Cell.e)) (Y8 ⟨dM (by simp only[cf];omega),⟨by omega,by omega⟩,by omega,by simp only[cf];omega,by rw[bB,dr,h1];rfl,by omega,by simp only[cf];omega,by rw[e1,dr,U];rfl,CY a.1 a.2,h,⟨by omega,by omega⟩,aa⟩) (by omega))
  (fun i a ag h=>by
   obtain⟨h1,U⟩:=zV ag;have hi:=a1 U;exact Y7 ⟨dM (by simp only[cf];omega),⟨by omega,by omega⟩,by omega,by simp only[cf];omega,by rw[bB,dr,h1];rfl,by omega,by simp only[cf];omega,by rw[e1,dr,U];rfl,CY a.1 a.2,h,aa⟩)
  (Y9 ⟨eL (by rw[bk];simp only[cf];omega),aa⟩)
 unfold jm;rcases l with⟨_,_,h1,U⟩ | ⟨i,a,_,_,_,_,h1,U⟩
 ·rw[h1];exact Za ⟨U,aa⟩
 rw[h1];exact Y' ⟨U,aa⟩
theorem QR{r:Bool}(h:jm xs=r)(ap:xs.length<=8388608):ar 266 [.one (.J 4 (xs.map Cell.e))] [.one (B r)]:=h▸aaN xs ap
theorem aaO(xs:List Cell)(ap:xs.length<=8388608):ar 280 [.one (.J 4 (xs.map Cell.e))] [.one (B (jm xs))]:=by
 have bB:∀i:Nat,(((i:Int)+1)-1).toNat=i:=fun i=>by omega
 have e1:∀i:Nat,(((i:Int)+1)).toNat=i+1:=fun i=>by omega
 have bk:(xs.zip (xs.drop 1)).length=xs.length-1:=by simp
 have l:=gy (P:=prog) (c:=(ao f280 0)) (xs.zip (xs.drop 1)) CC (fun i=>ti (xs.map Cell.e) ((i:Int)+1)) (X:=fun _ _=>Jp false) e7 (cH 0)
  (fun i a ag h=>by
   obtain⟨h1,U⟩:=zV ag;have hi:=a1 U;refine K6 (ti (xs.map Cell.e)) (Zc ⟨dM (by simp only[cf];omega),⟨by omega,by omega⟩,by omega,by simp only[cf];omega,by rw[bB,dr,h1];rfl,by omega,by simp only[cf];omega,by rw[e1,dr,U];rfl,CX a.1 a.2,h,⟨by omega,by omega⟩,aa⟩) (by omega))
  (fun i a ag h=>by
   obtain⟨h1,U⟩:=zV ag;have hi:=a1 U;exact Zb ⟨dM (by simp only[cf];omega),⟨by omega,by omega⟩,by omega,by simp only[cf];omega,by rw[bB,dr,h1];rfl,by omega,by simp only[cf];omega,by rw[e1,dr,U];rfl,CX a.1 a.2,h,aa⟩)
  (Zd ⟨eL (by rw[bk];simp only[cf];omega),aa⟩)
 unfold jm;rcases l with⟨_,_,h1,U⟩ | ⟨i,a,_,_,_,_,h1,U⟩
 ·rw[h1];exact Zf ⟨U,aa⟩
 rw[h1];exact Ze ⟨U,aa⟩
theorem QS{r:Bool}(h:jm xs=r)(ap:xs.length<=8388608):ar 280 [.one (.J 4 (xs.map Cell.e))] [.one (B r)]:=h▸aaO xs ap
def kB(g:bR)(r:aB):Bool:=!eR r||decide (r.op>=(g.nodes.length:Int))
def fB(g:bR)(xs:List aB):Bool:=!(xs.any (kB g))
theorem aaP{r:aB}(h:eR r=true):0<=r.op:=by
 simp only[eR,cF,aq,cU]at h;omega
theorem aaQ(g:bR)(xs:List aB)(ap:xs.length<=8388608):ar 192 [.agg g.e,.one (.J 5 (xs.map aB.e))] [.one (B (fB g xs))]:=by
 have l:=gy (P:=prog) (c:=(ao f192 0)) xs (kB g) (fun i=>tj (g.nodes.map Node.e) g.ay g.cap (xs.map aB.e) i) (X:=fun _ _=>C3 false) e7 (cH 0)
  (fun i a ag h=>by
   simp only[kB,gn,kg]at h;have c:=rT a;rw[h.1]at c;exact Yt ⟨b6 (a1 ag),bw,bE (a1 ag),bA aB.e ag,c,rfl,bw,bE (a1 ag),bA aB.e ag,by rw[cf];exact h.2,dc (a1 ag) ap,aa⟩)
  (fun i a ag h=>by
   have c:=rT a;cases aH:eR a with
   | false=>
    rw[aH]at c;exact Zg ⟨b6 (a1 ag),bw,bE (a1 ag),bA aB.e ag,c,rfl,aa⟩
   | true=>
    rw[aH]at c;simp only[kB,aH,iY,jt]at h;exact Zh ⟨b6 (a1 ag),bw,bE (a1 ag),bA aB.e ag,c,rfl,bw,bE (a1 ag),bA aB.e ag,by rw[cf];exact h,aa⟩)
  (Yu ⟨dz,aa⟩)
 unfold fB;rcases l with⟨_,_,h1,U⟩ | ⟨i,a,_,_,_,_,h1,U⟩
 ·rw[h1];exact Yw ⟨U,aa⟩
 rw[h1];exact Yv ⟨U,aa⟩
theorem QT{g:bR}{r:aB}(h:eR r=true):(fF g r.op).isSome=!(decide (r.op>=(g.nodes.length:Int))):=by
 have b5:=aaP h;unfold fF;rw[bM b5];by_cases al:r.op>=(g.nodes.length:Int)
 ·rw[dM al,List.getElem?_eq_none (by omega)];rfl
 rw[eL al,iZ (by omega)];rfl
theorem aaR(g:bR)(xs:List aB)(av:g.sz<=8388608)(ap:xs.length<=8388608):ar 189 [.agg g.e,.one (.J 5 (xs.map aB.e))] [.one (B (fB g xs))]:=by
 have l:=gy (P:=prog) (c:=(ao f189 0)) xs (kB g) (fun i=>tk (xs.map aB.e) i (g.nodes.map Node.e) g.ay g.cap) (X:=fun _ _=>C4 false) e7 (cH 0)
  (fun i a ag h=>by
   simp only[kB,gn,kg]at h;have c:=uP a;rw[h.1]at c;exact Yz ⟨b6 (a1 ag),bw,bE (a1 ag),bA aB.e ag,c,rfl,w6 g a.op true (by rw[QT h.1,h.2];rfl) av,rfl,dc (a1 ag) ap,aa⟩)
  (fun i a ag h=>by
   have c:=uP a;cases aH:eR a with
   | false=>
    rw[aH]at c;exact Yx ⟨b6 (a1 ag),bw,bE (a1 ag),bA aB.e ag,c,rfl,aa⟩
   | true=>
    rw[aH]at c;simp only[kB,aH,iY,jt]at h;exact Yy ⟨b6 (a1 ag),bw,bE (a1 ag),bA aB.e ag,c,rfl,w6 g a.op false (by rw[QT aH,h];rfl) av,rfl,aa⟩)
  (YA ⟨dz,aa⟩)
 unfold fB;rcases l with⟨_,_,h1,U⟩ | ⟨i,a,_,_,_,_,h1,U⟩
 ·rw[h1];exact YC ⟨U,aa⟩
 rw[h1];exact YB ⟨U,aa⟩
theorem uT(g:bR)(xs:List aB)(r:Bool)(h:fB g xs=r)(_:g.sz<=8388608)(ap:xs.length<=8388608):ar 192 [.agg g.e,.one (.J 5 (xs.map aB.e))] [.one (B r)]:=h▸aaQ g xs ap
theorem uU(g:bR)(xs:List aB)(r:Bool)(h:fB g xs=r)(av:g.sz<=8388608)(ap:xs.length<=8388608):ar 189 [.agg g.e,.one (.J 5 (xs.map aB.e))] [.one (B r)]:=h▸aaR g xs av ap
def iR(l:bu):Bool:=
 aq l.cap 1 4&&aq l.eO 0 l.cap&&aq l.back 0 l.cap&&(l.eO+l.back+l.queue.length==l.cap)&&aq l.fg 0 1000000000&&decide (0<=l.dh)&&(l.dh==l.fg-l.queue.length)&&!(l.queue.any fun r=>!eR r)
theorem aai(xs:List aB)(ap:xs.length<=8388608):ar 282 [.one (.J 5 (xs.map aB.e))] [.one (B (!(xs.any fun r=>!eR r)))]:=by
 have l:=gy (P:=prog) (c:=(ao f282 0)) xs (fun r=>!eR r) (fun i=>uQ (xs.map aB.e) i) (X:=fun _ _=>Jy false) e7 (cH 0)
  (fun i a ag h=>ZL ⟨b6 (a1 ag),bw,bE (a1 ag),bA aB.e ag,uP a,h,dc (a1 ag) ap,aa⟩)
  (fun i a ag h=>ZK ⟨b6 (a1 ag),bw,bE (a1 ag),bA aB.e ag,uP a,h,aa⟩)
  (ZM ⟨dz,aa⟩)
 rcases l with⟨_,_,h1,U⟩ | ⟨i,a,_,_,_,_,h1,U⟩
 ·rw[h1];exact ZO ⟨U,aa⟩
 rw[h1];exact ZN ⟨U,aa⟩
theorem aaj(l:bu)(ap:l.sz<=8388608)(sA:l.dh<=9223372036854775807):ar 188 [.agg l.e] [.one (B (iR l))]:=by
 have aK:l.queue.length<=8388608:=ap;have c1:=jV l.cap 1 4;have c2:=jV l.eO 0 l.cap;have cu:=jV l.back 0 l.cap;have dU:=jV l.fg 0 1000000000;have fJ:=aai l.queue aK;unfold iR;cases h1:aq l.cap 1 4 with
 | false=>rw[h1]at c1;exact ZC ⟨c1,rfl,aa⟩
 | true=>
 cases U:aq l.eO 0 l.cap with
 | false=>rw[h1]at c1;rw[U]at c2;exact ZD ⟨c1,rfl,c2,rfl,aa⟩
 | true=>
 cases ax:aq l.back 0 l.cap with
 | false=>rw[h1]at c1;rw[U]at c2;rw[ax]at cu;exact ZE ⟨c1,rfl,c2,rfl,cu,rfl,aa⟩
 | true=>
 have c4:=h1;have b8:=U;have fs:=ax;simp only[aq,cU]at c4 b8 fs;rw[h1]at c1;rw[U]at c2;rw[ax]at cu;have nA:aJ .i64 (l.eO+l.back):=⟨by omega,by omega⟩
 have oo:aJ .i64 (l.eO+l.back+(↑(l.queue.map aB.e).length:Int)):=⟨by simp only[cf];omega,by simp only[cf];omega⟩
 cases aI:(l.eO+l.back+(l.queue.length:Int)==l.cap) with
 | false=>exact ZF ⟨c1,rfl,c2,rfl,cu,rfl,nA,oo,by rw[cf];simpa using aI,aa⟩
 | true=>
 have v4:(l.eO+l.back+(↑(l.queue.map aB.e).length:Int) != l.cap)=false:=by rw[cf];simpa using aI
 cases aX:aq l.fg 0 1000000000 with
 | false=>rw[aX]at dU;exact ZG ⟨c1,rfl,c2,rfl,cu,rfl,nA,oo,v4,dU,rfl,aa⟩
 | true=>
 have jj:=aX;simp only[aq,cU]at jj;rw[aX]at dU;by_cases bx:l.dh<0
 ·rw[eL (show ¬0<=l.dh by omega)];exact ZH ⟨c1,rfl,c2,rfl,cu,rfl,nA,oo,v4,dU,rfl,dM bx,aa⟩
 rw[dM (show 0<=l.dh by omega)];have vw:aJ .i64 (l.fg-l.dh):=⟨by omega,by omega⟩
 ·by_cases bN:l.dh=l.fg-(l.queue.length:Int)
  ·rw[show (l.dh==l.fg-(l.queue.length:Int))=true from by simpa using bN];exact ZJ ⟨c1,rfl,c2,rfl,cu,rfl,nA,oo,v4,dU,rfl,eL bx,vw,by rw[cf];simp;omega,fJ,aa⟩
  rw[show (l.dh==l.fg-(l.queue.length:Int))=false from by simpa using bN];exact ZI ⟨c1,rfl,c2,rfl,cu,rfl,nA,oo,v4,dU,rfl,eL bx,vw,by rw[cf];simp;omega,aa⟩
theorem CD(l:bu)(ap:l.sz<=8388608):ar 191 [.agg l.e] [.one (B (iR l))]:=by
 have aK:l.queue.length<=8388608:=ap;have aV:=gy (P:=prog) (c:=(ao f191 0)) l.queue (fun r=>!eR r) (fun i=>uG l.cap (l.queue.map aB.e) l.eO l.back l.fg l.dh i) (X:=fun _ _=>Jx false) e7 (cH 0)
  (fun i a ag h=>Zs ⟨b6 (a1 ag),bw,bE (a1 ag),bA aB.e ag,rT a,h,dc (a1 ag) aK,aa⟩)
  (fun i a ag h=>aah ⟨b6 (a1 ag),bw,bE (a1 ag),bA aB.e ag,rT a,h,aa⟩)
  (Zt ⟨dz,aa⟩)
 unfold iR;rcases aV with⟨_,_,b5,aV⟩ | ⟨i,a,_,_,_,_,b5,aV⟩
 case inr=>
  rw[b5,iY,Bool.and_false];exact Zu ⟨aV,aa⟩
 rw[b5,nG,tL];have c1:=hI l.cap 1 4;have c2:=hI l.eO 0 l.cap;have cu:=hI l.back 0 l.cap;have dU:=hI l.fg 0 1000000000;cases h1:aq l.cap 1 4 with
 | false=>rw[h1]at c1;exact ZB ⟨aV,c1,rfl,aa⟩
 | true=>
 cases U:aq l.eO 0 l.cap with
 | false=>rw[h1]at c1;rw[U]at c2;exact ZA ⟨aV,c1,rfl,c2,rfl,aa⟩
 | true=>
 cases ax:aq l.back 0 l.cap with
 | false=>rw[h1]at c1;rw[U]at c2;rw[ax]at cu;exact Zz ⟨aV,c1,rfl,c2,rfl,cu,rfl,aa⟩
 | true=>
 have c4:=h1;have b8:=U;have fs:=ax;simp only[aq,cU]at c4 b8 fs;rw[h1]at c1;rw[U]at c2;rw[ax]at cu;have nA:aJ .i64 (l.eO+l.back):=⟨by omega,by omega⟩
 have oo:aJ .i64 (l.eO+l.back+(↑(l.queue.map aB.e).length:Int)):=⟨by simp only[cf];omega,by simp only[cf];omega⟩
 cases aI:(l.eO+l.back+(l.queue.length:Int)==l.cap) with
 | false=>exact Zy ⟨aV,c1,rfl,c2,rfl,cu,rfl,nA,oo,by rw[cf];exact aI,aa⟩
 | true=>
 have v4:(l.eO+l.back+(↑(l.queue.map aB.e).length:Int)==l.cap)=true:=by rw[cf];exact aI
 cases aX:aq l.fg 0 1000000000 with
 | false=>rw[aX]at dU;exact Zx ⟨aV,c1,rfl,c2,rfl,cu,rfl,nA,oo,v4,dU,rfl,aa⟩
 | true=>
 have jj:=aX;simp only[aq,cU]at jj;rw[aX]at dU;have vw:aJ .i64 (l.fg-(↑(l.queue.map aB.e).length:Int)):=⟨by simp only[cf];omega,by simp only[cf];omega⟩
 cases bN:(l.dh==l.fg-(l.queue.length:Int)) with
 | false=>
  rw[Bool.and_false];exact Zw ⟨aV,c1,rfl,c2,rfl,cu,rfl,nA,oo,v4,dU,rfl,vw,by rw[cf];exact bN,aa⟩
 | true=>
  rw[tL];exact Zv ⟨aV,c1,rfl,c2,rfl,cu,rfl,nA,oo,v4,dU,rfl,vw,by rw[cf];exact bN,aa⟩
end Go.Proofs.YtdchjefneblpgaaGreat
namespace Go.Proofs.YtdchjefneblpgaaGreat
open Go.Sx Go.RowKit Go.Proofs.Tryz
def lq(xs:List aB)(i:Nat)(r:aB):Bool:=
 r.op != 0||r.bp.dT != 0||(match i with | 0=>false | j+1=>match xs[j]? with | some q=>decide (q.bp.bc>r.bp.bc) | none=>false)
theorem Qk{xs:List aB}{i:Nat}{a:aB}(ag:xs[i]?=some a)(h:lq xs i a=true):
  (a.op != 0)=true\/((a.op != 0)=false/\(a.bp.dT != 0)=true)\/((a.op != 0)=false/\(a.bp.dT != 0)=false/\∃j b,i=j+1/\xs[j]?=some b/\decide (b.bp.bc>a.bp.bc)=true):=by
 unfold lq at h;cases h1:(a.op != 0) with
 | true=>exact .inl rfl
 | false=>
 cases U:(a.bp.dT != 0) with
 | true=>exact .inr (.inl ⟨rfl,rfl⟩)
 | false=>
 rw[h1,U,jt,jt]at h;cases i with
 | zero=>cases h
 | succ j=>
  have bg:j<xs.length:=by have:=a1 ag;omega
  obtain⟨b,aw⟩:=cS bg;simp only[aw]at h;exact .inr (.inr ⟨rfl,rfl,j,b,rfl,aw,h⟩)
theorem Ql{xs:List aB}{i:Nat}{a:aB}(ag:xs[i]?=some a)(h:lq xs i a=false):
  (a.op != 0)=false/\(a.bp.dT != 0)=false/\(i=0\/∃j b,i=j+1/\xs[j]?=some b/\decide (b.bp.bc>a.bp.bc)=false):=by
 unfold lq at h;rw[gn,gn]at h;obtain⟨⟨h1,U⟩,h⟩:=h;refine⟨h1,U,?_⟩;cases i with
 | zero=>exact .inl rfl
 | succ j=>
  have bg:j<xs.length:=by have:=a1 ag;omega
  obtain⟨b,aw⟩:=cS bg;simp only[aw]at h;exact .inr ⟨j,b,rfl,aw,h⟩
theorem CE{α:Type}(f:α->List D){xs:List α}{j:Nat}{b:α}(h:xs[j]?=some b):(xs.map f)[(((j+1:Nat):Int)-1).toNat]?=some (f b):=by
 rw[show (((j+1:Nat):Int)-1)=(j:Int) by omega];exact bA f h
theorem Dv{α β:Type}{f:α->β}{xs:List α}{j:Nat}{b:α}(h:xs[j]?=some b):(((j+1:Nat):Int)-1)<(↑(xs.map f).length:Int):=by
 have:=a1 h;rw[cf];omega
def mj(n:Int):Bool:=!aq n (-1000000) 1000000
def k6(xs:List cw)(i:Nat)(d:cw):Bool:=!aq d.bc 0 3||(xs.take i).any (fun q=>q.bc==d.bc)
theorem fp{α β:Type}{f:α->β}{xs:List α}(h:(xs.length==4)=true):((↑(xs.map f).length:Int) != 4)=false:=by
 rw[cf,eq_of_beq h];rfl
theorem sH{α β:Type}{f:α->β}{xs:List α}(h:(xs.length==4)=false):((↑(xs.map f).length:Int) != 4)=true:=by
 rw[cf];have:=ne_of_beq_false h;simp only[bne_iff_ne,kL];omega
def et(g:bR)(w:aR):Bool:=
 fB g w.queue&&(fB g w.ch&&(fB g w.b3&&(jm w.cells&&((w.bF.length==4)&&((w.bO.length==4)&&((w.br.length==4)&&(!anyI (lq w.b3) 0 w.b3&&(!(w.bF.any mj)&&!anyI (k6 w.bZ) 0 w.bZ))))))))
variable{w:aR}
theorem aR.DW(h:w.sz<=8388608):w.ch.length<=8388608:=by simp only[aR.sz]at h;omega
theorem aR.Bn(h:w.sz<=8388608):w.cells.length<=8388608:=by simp only[aR.sz]at h;omega
theorem aR.TL(h:w.sz<=8388608):w.bF.length<=8388608:=by simp only[aR.sz]at h;omega
theorem aR.Mz(h:w.sz<=8388608):w.bZ.length<=8388608:=by simp only[aR.sz]at h;omega
theorem aak(w:aR)(ap:w.b3.length<=8388608):
  (anyI (lq w.b3) 0 w.b3=false/\cW prog (ao f175 0) (ng (w.queue.map aB.e) (w.ch.map aB.e) (w.b3.map aB.e) (w.cells.map Cell.e) (w.bF.map a6) (w.bO.map cq) (w.br.map cq) (w.bZ.map cw.e) 0) (.exit 0) (Ht (w.queue.map aB.e) (w.ch.map aB.e) (w.b3.map aB.e) (w.cells.map Cell.e) (w.bF.map a6) (w.bO.map cq) (w.br.map cq) (w.bZ.map cw.e)))\/
  (anyI (lq w.b3) 0 w.b3=true/\cW prog (ao f175 0) (ng (w.queue.map aB.e) (w.ch.map aB.e) (w.b3.map aB.e) (w.cells.map Cell.e) (w.bF.map a6) (w.bO.map cq) (w.br.map cq) (w.bZ.map cw.e) 0) .ret (zP false)):=
 s' (P:=prog) (c:=(ao f175 0)) w.b3 (lq w.b3) (fun i=>ng (w.queue.map aB.e) (w.ch.map aB.e) (w.b3.map aB.e) (w.cells.map Cell.e) (w.bF.map a6) (w.bO.map cq) (w.br.map cq) (w.bZ.map cw.e) i) e7 (cH 0)
  (fun i a ag h=>by
   have hi:=a1 ag;obtain⟨h1,U,rfl | ⟨j,b,rfl,aw,ax⟩⟩:=Ql ag h
   ·exact YO ⟨b6 (a1 ag),bw,bE (a1 ag),bA aB.e ag,h1,bw,bE (a1 ag),bA aB.e ag,U,eL (by omega),dc (a1 ag) ap,aa⟩
   exact YN ⟨b6 (a1 ag),bw,bE (a1 ag),bA aB.e ag,h1,bw,bE (a1 ag),bA aB.e ag,U,dM (by omega),⟨by omega,by omega⟩,by omega,Dv aw,CE aB.e aw,bw,bE (a1 ag),bA aB.e ag,ax,dc (a1 ag) ap,aa⟩)
  (fun i a ag h=>by
   have hi:=a1 ag;rcases Qk ag h with h1 | ⟨h1,U⟩ | ⟨h1,U,j,b,rfl,aw,ax⟩
   ·exact YK ⟨b6 (a1 ag),bw,bE (a1 ag),bA aB.e ag,h1,aa⟩
   ·exact YL ⟨b6 (a1 ag),bw,bE (a1 ag),bA aB.e ag,h1,bw,bE (a1 ag),bA aB.e ag,U,aa⟩
   exact YM ⟨b6 (a1 ag),bw,bE (a1 ag),bA aB.e ag,h1,bw,bE (a1 ag),bA aB.e ag,U,dM (by omega),⟨by omega,by omega⟩,by omega,Dv aw,CE aB.e aw,bw,bE (a1 ag),bA aB.e ag,ax,aa⟩)
  (YP ⟨dz,aa⟩)
theorem aal(w:aR)(ap:w.bZ.length<=8388608):
  (anyI (k6 w.bZ) 0 w.bZ=false/\cW prog (ao f175 2) (qk (w.queue.map aB.e) (w.ch.map aB.e) (w.b3.map aB.e) (w.cells.map Cell.e) (w.bF.map a6) (w.bO.map cq) (w.br.map cq) (w.bZ.map cw.e) 0) (.exit 4) Jt)\/
  (anyI (k6 w.bZ) 0 w.bZ=true/\cW prog (ao f175 2) (qk (w.queue.map aB.e) (w.ch.map aB.e) (w.b3.map aB.e) (w.cells.map Cell.e) (w.bF.map a6) (w.bO.map cq) (w.br.map cq) (w.bZ.map cw.e) 0) .ret (Cv false)):=by
 have inner:∀(i:Nat) (a:cw),w.bZ[i]?=some a->
   (((w.bZ.take i).any (fun q=>q.bc==a.bc))=false/\cW prog (ao f175 3) (rU (w.queue.map aB.e) (w.ch.map aB.e) (w.b3.map aB.e) (w.cells.map Cell.e) (w.bF.map a6) (w.bO.map cq) (w.br.map cq) (w.bZ.map cw.e) i 0) (.exit 6) (Js (w.queue.map aB.e) (w.ch.map aB.e) (w.b3.map aB.e) (w.cells.map Cell.e) (w.bF.map a6) (w.bO.map cq) (w.br.map cq) (w.bZ.map cw.e) i))\/
   (((w.bZ.take i).any (fun q=>q.bc==a.bc))=true/\cW prog (ao f175 3) (rU (w.queue.map aB.e) (w.ch.map aB.e) (w.b3.map aB.e) (w.cells.map Cell.e) (w.bF.map a6) (w.bO.map cq) (w.br.map cq) (w.bZ.map cw.e) i 0) .ret (Cw false)):=by
  intro i a ag;have hi:=a1 ag;have hlen:(w.bZ.take i).length=i:=by rw[tH];omega
  have gm:∀{k:Nat} {b:cw},(w.bZ.take i)[k]?=some b->k<i/\w.bZ[k]?=some b:=fun {k b} h=>by
   have hk:=a1 h;rw[hlen]at hk;rw[jY,bM hk]at h;exact⟨hk,h⟩
  have l:=gy (P:=prog) (c:=(ao f175 3)) (w.bZ.take i) (fun q=>q.bc==a.bc) (fun k=>rU (w.queue.map aB.e) (w.ch.map aB.e) (w.b3.map aB.e) (w.cells.map Cell.e) (w.bF.map a6) (w.bO.map cq) (w.br.map cq) (w.bZ.map cw.e) i k) (X:=fun _ _=>Cw false) e7 (cH 6)
   (fun k b aw h=>by
    obtain⟨hk,aw⟩:=gm aw;exact Yn ⟨dM (by omega),bw,bE (a1 aw),bA cw.e aw,bw,bE (a1 ag),bA cw.e ag,h,dc (a1 aw) ap,aa⟩)
   (fun k b aw h=>by
    obtain⟨hk,aw⟩:=gm aw;exact Ym ⟨dM (by omega),bw,bE (a1 aw),bA cw.e aw,bw,bE (a1 ag),bA cw.e ag,h,aa⟩)
   (Yo ⟨eL (by rw[hlen];omega),aa⟩)
  rcases l with⟨_,_,h1,U⟩ | ⟨_,_,_,_,_,_,h1,U⟩
  ·exact .inl ⟨h1,U⟩
  exact .inr ⟨h1,U⟩
 exact s' (P:=prog) (c:=(ao f175 2)) w.bZ (k6 w.bZ) (fun i=>qk (w.queue.map aB.e) (w.ch.map aB.e) (w.b3.map aB.e) (w.cells.map Cell.e) (w.bF.map a6) (w.bO.map cq) (w.br.map cq) (w.bZ.map cw.e) i) e7 (cH 4)
  (fun i a ag h=>by
   simp only[k6,gn,kg]at h;rcases inner i a ag with⟨e,l⟩ | ⟨e,l⟩
   ·exact Yq ⟨b6 (a1 ag),bw,bE (a1 ag),bA cw.e ag,fk true h.1,rfl,l,dc (a1 ag) ap,aa⟩
   rw[h.2]at e;cases e)
  (fun i a ag h=>by
   cases h1:aq a.bc 0 3 with
   | false=>exact Yl ⟨b6 (a1 ag),bw,bE (a1 ag),bA cw.e ag,fk false h1,rfl,aa⟩
   | true=>
    simp only[k6,h1,iY,jt]at h;rcases inner i a ag with⟨e,l⟩ | ⟨e,l⟩
    ·rw[h]at e;cases e
    exact Yp ⟨b6 (a1 ag),bw,bE (a1 ag),bA cw.e ag,fk true h1,rfl,l,aa⟩)
  (Yr ⟨dz,aa⟩)
theorem Dw(g:bR)(w:aR)(av:g.sz<=8388608)(hw:w.sz<=8388608):ar 175 [.agg g.e,.agg w.e] [.one (B (et g w))]:=by
 unfold et;cases h1:fB g w.queue with
 | false=>exact YD ⟨uT g _ _ h1 av (aR.DQ hw),rfl,aa⟩
 | true=>
 have c1:=uT g _ _ h1 av (aR.DQ hw);cases U:fB g w.ch with
 | false=>exact YE ⟨c1,rfl,uT g _ _ U av (aR.DW hw),rfl,aa⟩
 | true=>
 have c2:=uT g _ _ U av (aR.DW hw);cases ax:fB g w.b3 with
 | false=>exact YF ⟨c1,rfl,c2,rfl,uT g _ _ ax av (aR.wk hw),rfl,aa⟩
 | true=>
 have cu:=uT g _ _ ax av (aR.wk hw);cases aI:jm w.cells with
 | false=>exact YG ⟨c1,rfl,c2,rfl,cu,rfl,QR aI (aR.Bn hw),rfl,aa⟩
 | true=>
 have dU:=QR aI (aR.Bn hw);cases aX:(w.bF.length==4) with
 | false=>exact YH ⟨c1,rfl,c2,rfl,cu,rfl,dU,rfl,sH aX,aa⟩
 | true=>
 cases bx:(w.bO.length==4) with
 | false=>exact YI ⟨c1,rfl,c2,rfl,cu,rfl,dU,rfl,fp aX,sH bx,aa⟩
 | true=>
 cases bN:(w.br.length==4) with
 | false=>exact YJ ⟨c1,rfl,c2,rfl,cu,rfl,dU,rfl,fp aX,fp bx,sH bN,aa⟩
 | true=>
 have rm:w.bF.length=4:=eq_of_beq aX;rcases aak w (aR.wk hw) with⟨db,iN⟩ | ⟨db,iN⟩
 case inr=>rw[db];exact YQ ⟨c1,rfl,c2,rfl,cu,rfl,dU,rfl,fp aX,fp bx,fp bN,iN,aa⟩
 have mX:=gy (P:=prog) (c:=(ao f175 1)) w.bF mj (fun i=>tm (w.queue.map aB.e) (w.ch.map aB.e) (w.b3.map aB.e) (w.cells.map Cell.e) (w.bF.map a6) (w.bO.map cq) (w.br.map cq) (w.bZ.map cw.e) i) (X:=fun _ _=>Jq false) e7 (cH 2)
  (fun i a ag h=>YS ⟨dM (by have:=a1 ag;omega),bw,bE (a1 ag),bA a6 ag,fk true (by simpa[mj]using h),rfl,dc (a1 ag) (aR.TL hw),aa⟩)
  (fun i a ag h=>YR ⟨dM (by have:=a1 ag;omega),bw,bE (a1 ag),bA a6 ag,fk false (by simpa[mj]using h),rfl,aa⟩)
  (Yj ⟨eL (by omega),aa⟩)
 rw[db];rcases mX with⟨_,_,dQ,mX⟩ | ⟨_,_,_,_,_,_,dQ,mX⟩
 case inr=>rw[dQ];exact Yk ⟨c1,rfl,c2,rfl,cu,rfl,dU,rfl,fp aX,fp bx,fp bN,iN,mX,aa⟩
 rw[dQ];rcases aal w (aR.Mz hw) with⟨dy,uA⟩ | ⟨dy,uA⟩
 ·rw[dy];exact ZS ⟨c1,rfl,c2,rfl,cu,rfl,dU,rfl,fp aX,fp bx,fp bN,iN,mX,uA,aa⟩
 rw[dy];exact Ys ⟨c1,rfl,c2,rfl,cu,rfl,dU,rfl,fp aX,fp bx,fp bN,iN,mX,uA,aa⟩
end Go.Proofs.YtdchjefneblpgaaGreat
namespace Go.Proofs.YtdchjefneblpgaaGreat
open Go.Sx Go.RowKit Go.Proofs.Tryz
theorem aam(w:aR)(ap:w.b3.length<=8388608):
  (anyI (lq w.b3) 0 w.b3=false/\cW prog (ao f187 0) (nf (w.b3.map aB.e) 0 (w.queue.map aB.e) (w.ch.map aB.e) (w.b3.map aB.e) (w.cells.map Cell.e) (w.bF.map a6) (w.bO.map cq) (w.br.map cq) (w.bZ.map cw.e)) (.exit 0) (Hq (w.queue.map aB.e) (w.ch.map aB.e) (w.b3.map aB.e) (w.cells.map Cell.e) (w.bF.map a6) (w.bO.map cq) (w.br.map cq) (w.bZ.map cw.e)))\/
  (anyI (lq w.b3) 0 w.b3=true/\cW prog (ao f187 0) (nf (w.b3.map aB.e) 0 (w.queue.map aB.e) (w.ch.map aB.e) (w.b3.map aB.e) (w.cells.map Cell.e) (w.bF.map a6) (w.bO.map cq) (w.br.map cq) (w.bZ.map cw.e)) .ret (zQ false)):=
 s' (P:=prog) (c:=(ao f187 0)) w.b3 (lq w.b3) (fun i=>nf (w.b3.map aB.e) i (w.queue.map aB.e) (w.ch.map aB.e) (w.b3.map aB.e) (w.cells.map Cell.e) (w.bF.map a6) (w.bO.map cq) (w.br.map cq) (w.bZ.map cw.e)) e7 (cH 0)
  (fun i a ag h=>by
   have hi:=a1 ag;obtain⟨h1,U,rfl | ⟨j,b,rfl,aw,ax⟩⟩:=Ql ag h
   ·exact Z1 ⟨b6 (a1 ag),bw,bE (a1 ag),bA aB.e ag,h1,U,eL (by omega),dc (a1 ag) ap,aa⟩
   exact Z0 ⟨b6 (a1 ag),bw,bE (a1 ag),bA aB.e ag,h1,U,dM (by omega),⟨by omega,by omega⟩,by omega,Dv aw,CE aB.e aw,ax,dc (a1 ag) ap,aa⟩)
  (fun i a ag h=>by
   have hi:=a1 ag;rcases Qk ag h with h1 | ⟨h1,U⟩ | ⟨h1,U,j,b,rfl,aw,ax⟩
   ·exact ZX ⟨b6 (a1 ag),bw,bE (a1 ag),bA aB.e ag,h1,aa⟩
   ·exact ZY ⟨b6 (a1 ag),bw,bE (a1 ag),bA aB.e ag,h1,U,aa⟩
   exact ZZ ⟨b6 (a1 ag),bw,bE (a1 ag),bA aB.e ag,h1,U,dM (by omega),⟨by omega,by omega⟩,by omega,Dv aw,CE aB.e aw,ax,aa⟩)
  (Z2 ⟨dz,aa⟩)
theorem Qm(xs:List cw)(i:Nat)(e:Int)(r:Bool)(h:(xs.take i).any (fun q=>q.bc==e)=r)(ap:xs.length<=8388608):ar 281 [.one (.J 2 ((xs.map cw.e).take i)),.one (I e)] [.one (B r)]:=by
 have c:=Y3 (xs.take i) e (by rw[tH];omega);rw[qQ,h]at c;exact c
theorem aan(w:aR)(ap:w.bZ.length<=8388608):
  (anyI (k6 w.bZ) 0 w.bZ=false/\cW prog (ao f187 2) (ql (w.bZ.map cw.e) 0 (w.queue.map aB.e) (w.ch.map aB.e) (w.b3.map aB.e) (w.cells.map Cell.e) (w.bF.map a6) (w.bO.map cq) (w.br.map cq) (w.bZ.map cw.e)) (.exit 4) Jw)\/
  (anyI (k6 w.bZ) 0 w.bZ=true/\cW prog (ao f187 2) (ql (w.bZ.map cw.e) 0 (w.queue.map aB.e) (w.ch.map aB.e) (w.b3.map aB.e) (w.cells.map Cell.e) (w.bF.map a6) (w.bO.map cq) (w.br.map cq) (w.bZ.map cw.e)) .ret (Cx false)):=
 s' (P:=prog) (c:=(ao f187 2)) w.bZ (k6 w.bZ) (fun i=>ql (w.bZ.map cw.e) i (w.queue.map aB.e) (w.ch.map aB.e) (w.b3.map aB.e) (w.cells.map Cell.e) (w.bF.map a6) (w.bO.map cq) (w.br.map cq) (w.bZ.map cw.e)) e7 (cH 4)
  (fun i a ag h=>by
   have hi:=a1 ag;simp only[k6,gn,kg]at h;exact aad ⟨b6 (a1 ag),bw,bE (a1 ag),bA cw.e ag,h4 true h.1,rfl,Int.le_refl 0,(bw:(0:Int)<=(i:Int)),(show (i:Int)<=_ by rw[cf];omega),Qm w.bZ i a.bc false h.2 ap,rfl,dc (a1 ag) ap,aa⟩)
  (fun i a ag h=>by
   have hi:=a1 ag;cases h1:aq a.bc 0 3 with
   | false=>exact aab ⟨b6 (a1 ag),bw,bE (a1 ag),bA cw.e ag,h4 false h1,rfl,aa⟩
   | true=>
    simp only[k6,h1,iY,jt]at h;exact aac ⟨b6 (a1 ag),bw,bE (a1 ag),bA cw.e ag,h4 true h1,rfl,Int.le_refl 0,(bw:(0:Int)<=(i:Int)),(show (i:Int)<=_ by rw[cf];omega),Qm w.bZ i a.bc true h ap,rfl,aa⟩)
  (aae ⟨dz,aa⟩)
theorem Dx(g:bR)(w:aR)(av:g.sz<=8388608)(hw:w.sz<=8388608):ar 187 [.agg g.e,.agg w.e] [.one (B (et g w))]:=by
 unfold et;cases h1:fB g w.queue with
 | false=>exact ZT ⟨uU g _ _ h1 av (aR.DQ hw),rfl,aa⟩
 | true=>
 have c1:=uU g _ _ h1 av (aR.DQ hw);cases U:fB g w.ch with
 | false=>exact ZU ⟨c1,rfl,uU g _ _ U av (aR.DW hw),rfl,aa⟩
 | true=>
 have c2:=uU g _ _ U av (aR.DW hw);cases ax:fB g w.b3 with
 | false=>exact ZV ⟨c1,rfl,c2,rfl,uU g _ _ ax av (aR.wk hw),rfl,aa⟩
 | true=>
 have cu:=uU g _ _ ax av (aR.wk hw);cases aI:jm w.cells with
 | false=>exact ZW ⟨c1,rfl,c2,rfl,cu,rfl,QS aI (aR.Bn hw),rfl,aa⟩
 | true=>
 have dU:=QS aI (aR.Bn hw);rcases aam w (aR.wk hw) with⟨db,iN⟩ | ⟨db,iN⟩
 case inr=>
  rw[db];simp only[iY,Bool.false_and,Bool.and_false];exact Z3 ⟨c1,rfl,c2,rfl,cu,rfl,dU,rfl,iN,aa⟩
 cases aX:(w.bF.length==4) with
 | false=>exact Z4 ⟨c1,rfl,c2,rfl,cu,rfl,dU,rfl,iN,sH aX,aa⟩
 | true=>
 cases bx:(w.bO.length==4) with
 | false=>exact Z5 ⟨c1,rfl,c2,rfl,cu,rfl,dU,rfl,iN,fp aX,sH bx,aa⟩
 | true=>
 cases bN:(w.br.length==4) with
 | false=>exact Z6 ⟨c1,rfl,c2,rfl,cu,rfl,dU,rfl,iN,fp aX,fp bx,sH bN,aa⟩
 | true=>
 have mX:=gy (P:=prog) (c:=(ao f187 1)) w.bF mj (fun i=>sM (w.queue.map aB.e) (w.ch.map aB.e) (w.b3.map aB.e) (w.cells.map Cell.e) (w.bF.map a6) (w.bO.map cq) (w.br.map cq) (w.bZ.map cw.e) i) (X:=fun _ _=>Ju false) e7 (cH 2)
  (fun i a ag h=>Z8 ⟨b6 (a1 ag),bw,bE (a1 ag),bA a6 ag,h4 true (by simpa[mj]using h),rfl,dc (a1 ag) (aR.TL hw),aa⟩)
  (fun i a ag h=>Z7 ⟨b6 (a1 ag),bw,bE (a1 ag),bA a6 ag,h4 false (by simpa[mj]using h),rfl,aa⟩)
  (Z9 ⟨dz,aa⟩)
 rw[db];rcases mX with⟨_,_,dQ,mX⟩ | ⟨_,_,_,_,_,_,dQ,mX⟩
 case inr=>rw[dQ];exact Z' ⟨c1,rfl,c2,rfl,cu,rfl,dU,rfl,iN,fp aX,fp bx,fp bN,mX,aa⟩
 rw[dQ];rcases aan w (aR.Mz hw) with⟨dy,uA⟩ | ⟨dy,uA⟩
 ·rw[dy];exact aag ⟨c1,rfl,c2,rfl,cu,rfl,dU,rfl,iN,fp aX,fp bx,fp bN,mX,uA,aa⟩
 rw[dy];exact aaf ⟨c1,rfl,c2,rfl,cu,rfl,dU,rfl,iN,fp aX,fp bx,fp bN,mX,uA,aa⟩
