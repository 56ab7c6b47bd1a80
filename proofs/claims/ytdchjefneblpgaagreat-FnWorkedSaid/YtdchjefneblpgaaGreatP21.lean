import Derived.Test.YtdchjefneblpgaaGreatC6
import Derived.Test.YtdchjefneblpgaaGreatGU
import Derived.Test.YtdchjefneblpgaaGreatP17
set_option linter.unusedVariables false
set_option linter.unusedSimpArgs false
namespace Go.Proofs.YtdchjefneblpgaaGreat
open Go.Sx Go.RowKit Go.Proofs.Tryz
variable{c:bb}
theorem bb.G'(h:c.wf){l:bu}(ap:l∈c.bW):l.wf:=h.X1.2 l ap
structure A6 (c:bb):Prop where
 n:aI .i64 c.aC.ay
 l:∀l∈c.bW,aI .i64 l.cap/\l.dh<=9223372036854775807
theorem A6.of(h:c.wf):A6 c:=⟨h.VZ.TQ,fun l ap=>⟨(bb.G' h ap).Mu,(bb.G' h ap).MD.2⟩⟩
theorem bb.B4(h:c.sz<=8388608){l:bu}(ap:l∈c.bW):l.sz<=8388608:=by
 grind[s',bu.sz,bb.sz]
def pD(e:Int)(l:bu):Nat:=(pC e l.queue).length
theorem vv{α:Type}{f:Int->α}{xs:List Int}(h:xs.length<=8388608):IntKind.i64.wrap ((↑(xs.map f).length:Int)-1)=(xs.length:Int)-1:=by
 rw[cm];exact aI.wrap ⟨by omega,by omega⟩
def jG(key ay:Int):Int:=if ay<1 then 0 else if key.tmod ay<0 then key.tmod ay+ay else key.tmod ay
theorem QN(a b:Int)(h:0<b):- b<a.tmod b:=by
 rcases Int.le_total 0 a with ah | ah
 ·have:=Int.tmod_nonneg b ah;omega
 have h1:(-a).tmod b<b:=Int.tmod_lt_of_pos _ h;rw[Int.neg_tmod]at h1;omega
theorem QO(key ay:Int)(hw:ay<=9223372036854775807):ar 245 [.one (I key),.one (I ay)] [.one (I (jG key ay))]:=by
 unfold jG;split
 ·exact Y0 ⟨by simpa using ‹ay<1›,aa⟩
 rename_i h;have h1:=QN key ay (by omega);have U:key.tmod ay<ay:=Int.tmod_lt_of_pos _ (by omega);split
 ·rename_i ax;exact Y1 ⟨by simp only[oB];omega,by omega,by simpa using ax,⟨by omega,by omega⟩,aa⟩
 rename_i ax;exact Y2 ⟨by simp only[oB];omega,by omega,by simpa using ax,aa⟩
theorem aR.DO{w:aR}(h:w.sz<=8388608):w.queue.length<=8388608:=by grind[aR.sz]
theorem aR.wi{w:aR}(h:w.sz<=8388608):w.b3.length<=8388608:=by grind[aR.sz]
end Go.Proofs.YtdchjefneblpgaaGreat
namespace Go.Proofs.YtdchjefneblpgaaGreat
open Go.Sx Go.RowKit Go.Proofs.Tryz
def CA(p:Cell×Cell):Bool:=decide (hr p.1 p.2>=0)
def jk(xs:List Cell):Bool:=!((xs.zip (xs.drop 1)).any CA)
variable{xs:List Cell}
theorem zT{i:Nat}{p:Cell×Cell}(h:(xs.zip (xs.drop 1))[i]?=some p):xs[i]?=some p.1/\xs[i+1]?=some p.2:=by
 rw[List.getElem?_zip_eq_some]at h;obtain⟨h1,U⟩:=h;rw[k7,Nat.add_comm]at U;exact⟨h1,U⟩
theorem aaJ(xs:List Cell)(ap:xs.length<=8388608):ar 266 [.one (.J 4 (xs.map Cell.e))] [.one (B (jk xs))]:=by
 have bB:∀i:Nat,(((i:Int)+1)-1).toNat=i:=fun i=>by omega
 have e1:∀i:Nat,(((i:Int)+1)).toNat=i+1:=fun i=>by omega
 have bl:(xs.zip (xs.drop 1)).length=xs.length-1:=by simp
 have l:=gy (P:=prog) (c:=(ao f266 0)) (xs.zip (xs.drop 1)) CA (fun i=>tg (xs.map Cell.e) ((i:Int)+1)) (X:=fun _ _=>Kc false) e7 (cH 0)
  (fun i a ah h=>by
   obtain⟨h1,U⟩:=zT ah;have hi:=a1 U;refine K5 (tg (xs.map Cell.e)) (Y4 ⟨dM (by simp only[cm];omega),⟨by omega,by omega⟩,by omega,by simp only[cm];omega,by rw[bB,dr,h1];rfl,by omega,by simp only[cm];omega,by rw[e1,dr,U];rfl,CW a.1 a.2,h,⟨by omega,by omega⟩,aa⟩) (by omega))
  (fun i a ah h=>by
   obtain⟨h1,U⟩:=zT ah;have hi:=a1 U;exact Y3 ⟨dM (by simp only[cm];omega),⟨by omega,by omega⟩,by omega,by simp only[cm];omega,by rw[bB,dr,h1];rfl,by omega,by simp only[cm];omega,by rw[e1,dr,U];rfl,CW a.1 a.2,h,aa⟩)
  (Y5 ⟨eL (by rw[bl];simp only[cm];omega),aa⟩)
 unfold jk;rcases l with⟨_,_,h1,U⟩ | ⟨i,a,_,_,_,_,h1,U⟩
 ·rw[h1];exact Y7 ⟨U,aa⟩
 rw[h1];exact Y6 ⟨U,aa⟩
theorem QP{r:Bool}(h:jk xs=r)(ap:xs.length<=8388608):ar 266 [.one (.J 4 (xs.map Cell.e))] [.one (B r)]:=h▸aaJ xs ap
theorem aaK(xs:List Cell)(ap:xs.length<=8388608):ar 280 [.one (.J 4 (xs.map Cell.e))] [.one (B (jk xs))]:=by
 have bB:∀i:Nat,(((i:Int)+1)-1).toNat=i:=fun i=>by omega
 have e1:∀i:Nat,(((i:Int)+1)).toNat=i+1:=fun i=>by omega
 have bl:(xs.zip (xs.drop 1)).length=xs.length-1:=by simp
 have l:=gy (P:=prog) (c:=(ao f280 0)) (xs.zip (xs.drop 1)) CA (fun i=>th (xs.map Cell.e) ((i:Int)+1)) (X:=fun _ _=>Jo false) e7 (cH 0)
  (fun i a ah h=>by
   obtain⟨h1,U⟩:=zT ah;have hi:=a1 U;refine K5 (th (xs.map Cell.e)) (Y9 ⟨dM (by simp only[cm];omega),⟨by omega,by omega⟩,by omega,by simp only[cm];omega,by rw[bB,dr,h1];rfl,by omega,by simp only[cm];omega,by rw[e1,dr,U];rfl,CV a.1 a.2,h,⟨by omega,by omega⟩,aa⟩) (by omega))
  (fun i a ah h=>by
   obtain⟨h1,U⟩:=zT ah;have hi:=a1 U;exact Y8 ⟨dM (by simp only[cm];omega),⟨by omega,by omega⟩,by omega,by simp only[cm];omega,by rw[bB,dr,h1];rfl,by omega,by simp only[cm];omega,by rw[e1,dr,U];rfl,CV a.1 a.2,h,aa⟩)
  (Y' ⟨eL (by rw[bl];simp only[cm];omega),aa⟩)
 unfold jk;rcases l with⟨_,_,h1,U⟩ | ⟨i,a,_,_,_,_,h1,U⟩
 ·rw[h1];exact Zb ⟨U,aa⟩
 rw[h1];exact Za ⟨U,aa⟩
theorem QQ{r:Bool}(h:jk xs=r)(ap:xs.length<=8388608):ar 280 [.one (.J 4 (xs.map Cell.e))] [.one (B r)]:=h▸aaK xs ap
def kB(g:bR)(r:aB):Bool:=!eR r||decide (r.op>=(g.nodes.length:Int))
def fB(g:bR)(xs:List aB):Bool:=!(xs.any (kB g))
theorem aaL{r:aB}(h:eR r=true):0<=r.op:=by
 simp only[eR,cF,aq,cW]at h;omega
theorem aaM(g:bR)(xs:List aB)(ap:xs.length<=8388608):ar 192 [.agg g.e,.one (.J 5 (xs.map aB.e))] [.one (B (fB g xs))]:=by
 have l:=gy (P:=prog) (c:=(ao f192 0)) xs (kB g) (fun i=>ti (g.nodes.map Node.e) g.ay g.cap (xs.map aB.e) i) (X:=fun _ _=>C1 false) e7 (cH 0)
  (fun i a ah h=>by
   simp only[kB,gn,kg]at h;have c:=rT a;rw[h.1]at c;exact Yp ⟨b6 (a1 ah),bw,bE (a1 ah),bA aB.e ah,c,rfl,bw,bE (a1 ah),bA aB.e ah,by rw[cm];exact h.2,dc (a1 ah) ap,aa⟩)
  (fun i a ah h=>by
   have c:=rT a;cases aH:eR a with
   | false=>
    rw[aH]at c;exact Zc ⟨b6 (a1 ah),bw,bE (a1 ah),bA aB.e ah,c,rfl,aa⟩
   | true=>
    rw[aH]at c;simp only[kB,aH,iY,jr]at h;exact Zd ⟨b6 (a1 ah),bw,bE (a1 ah),bA aB.e ah,c,rfl,bw,bE (a1 ah),bA aB.e ah,by rw[cm];exact h,aa⟩)
  (Yq ⟨dz,aa⟩)
 unfold fB;rcases l with⟨_,_,h1,U⟩ | ⟨i,a,_,_,_,_,h1,U⟩
 ·rw[h1];exact Ys ⟨U,aa⟩
 rw[h1];exact Yr ⟨U,aa⟩
theorem QR{g:bR}{r:aB}(h:eR r=true):(fF g r.op).isSome=!(decide (r.op>=(g.nodes.length:Int))):=by
 have b5:=aaL h;unfold fF;rw[bM b5];by_cases al:r.op>=(g.nodes.length:Int)
 ·rw[dM al,List.getElem?_eq_none (by omega)];rfl
 rw[eL al,iZ (by omega)];rfl
theorem aaN(g:bR)(xs:List aB)(av:g.sz<=8388608)(ap:xs.length<=8388608):ar 189 [.agg g.e,.one (.J 5 (xs.map aB.e))] [.one (B (fB g xs))]:=by
 have l:=gy (P:=prog) (c:=(ao f189 0)) xs (kB g) (fun i=>tj (xs.map aB.e) i (g.nodes.map Node.e) g.ay g.cap) (X:=fun _ _=>C2 false) e7 (cH 0)
  (fun i a ah h=>by
   simp only[kB,gn,kg]at h;have c:=uM a;rw[h.1]at c;exact Yv ⟨b6 (a1 ah),bw,bE (a1 ah),bA aB.e ah,c,rfl,w5 g a.op true (by rw[QR h.1,h.2];rfl) av,rfl,dc (a1 ah) ap,aa⟩)
  (fun i a ah h=>by
   have c:=uM a;cases aH:eR a with
   | false=>
    rw[aH]at c;exact Yt ⟨b6 (a1 ah),bw,bE (a1 ah),bA aB.e ah,c,rfl,aa⟩
   | true=>
    rw[aH]at c;simp only[kB,aH,iY,jr]at h;exact Yu ⟨b6 (a1 ah),bw,bE (a1 ah),bA aB.e ah,c,rfl,w5 g a.op false (by rw[QR aH,h];rfl) av,rfl,aa⟩)
  (Yw ⟨dz,aa⟩)
 unfold fB;rcases l with⟨_,_,h1,U⟩ | ⟨i,a,_,_,_,_,h1,U⟩
 ·rw[h1];exact Yy ⟨U,aa⟩
 rw[h1];exact Yx ⟨U,aa⟩
theorem uQ(g:bR)(xs:List aB)(r:Bool)(h:fB g xs=r)(_:g.sz<=8388608)(ap:xs.length<=8388608):ar 192 [.agg g.e,.one (.J 5 (xs.map aB.e))] [.one (B r)]:=h▸aaM g xs ap
theorem uR(g:bR)(xs:List aB)(r:Bool)(h:fB g xs=r)(av:g.sz<=8388608)(ap:xs.length<=8388608):ar 189 [.agg g.e,.one (.J 5 (xs.map aB.e))] [.one (B r)]:=h▸aaN g xs av ap
def iR(l:bu):Bool:=
 aq l.cap 1 4&&aq l.eO 0 l.cap&&aq l.back 0 l.cap&&(l.eO+l.back+l.queue.length==l.cap)&&aq l.fg 0 1000000000&&decide (0<=l.dh)&&(l.dh==l.fg-l.queue.length)&&!(l.queue.any fun r=>!eR r)
theorem aae(xs:List aB)(ap:xs.length<=8388608):ar 282 [.one (.J 5 (xs.map aB.e))] [.one (B (!(xs.any fun r=>!eR r)))]:=by
 have l:=gy (P:=prog) (c:=(ao f282 0)) xs (fun r=>!eR r) (fun i=>uN (xs.map aB.e) i) (X:=fun _ _=>Jx false) e7 (cH 0)
  (fun i a ah h=>ZH ⟨b6 (a1 ah),bw,bE (a1 ah),bA aB.e ah,uM a,h,dc (a1 ah) ap,aa⟩)
  (fun i a ah h=>ZG ⟨b6 (a1 ah),bw,bE (a1 ah),bA aB.e ah,uM a,h,aa⟩)
  (ZI ⟨dz,aa⟩)
 rcases l with⟨_,_,h1,U⟩ | ⟨i,a,_,_,_,_,h1,U⟩
 ·rw[h1];exact ZK ⟨U,aa⟩
 rw[h1];exact ZJ ⟨U,aa⟩
theorem aaf(l:bu)(ap:l.sz<=8388608)(sA:l.dh<=9223372036854775807):ar 188 [.agg l.e] [.one (B (iR l))]:=by
 have aK:l.queue.length<=8388608:=ap;have c1:=jU l.cap 1 4;have c2:=jU l.eO 0 l.cap;have cu:=jU l.back 0 l.cap;have dU:=jU l.fg 0 1000000000;have fJ:=aae l.queue aK;unfold iR;cases h1:aq l.cap 1 4 with
 | false=>rw[h1]at c1;exact Zy ⟨c1,rfl,aa⟩
 | true=>
 cases U:aq l.eO 0 l.cap with
 | false=>rw[h1]at c1;rw[U]at c2;exact Zz ⟨c1,rfl,c2,rfl,aa⟩
 | true=>
 cases ax:aq l.back 0 l.cap with
 | false=>rw[h1]at c1;rw[U]at c2;rw[ax]at cu;exact ZA ⟨c1,rfl,c2,rfl,cu,rfl,aa⟩
 | true=>
 have c4:=h1;have b8:=U;have fs:=ax;simp only[aq,cW]at c4 b8 fs;rw[h1]at c1;rw[U]at c2;rw[ax]at cu;have nz:aI .i64 (l.eO+l.back):=⟨by omega,by omega⟩
 have om:aI .i64 (l.eO+l.back+(↑(l.queue.map aB.e).length:Int)):=⟨by simp only[cm];omega,by simp only[cm];omega⟩
 cases aJ:(l.eO+l.back+(l.queue.length:Int)==l.cap) with
 | false=>exact ZB ⟨c1,rfl,c2,rfl,cu,rfl,nz,om,by rw[cm];simpa using aJ,aa⟩
 | true=>
 have v4:(l.eO+l.back+(↑(l.queue.map aB.e).length:Int) != l.cap)=false:=by rw[cm];simpa using aJ
 cases aY:aq l.fg 0 1000000000 with
 | false=>rw[aY]at dU;exact ZC ⟨c1,rfl,c2,rfl,cu,rfl,nz,om,v4,dU,rfl,aa⟩
 | true=>
 have ji:=aY;simp only[aq,cW]at ji;rw[aY]at dU;by_cases bx:l.dh<0
 ·rw[eL (show ¬0<=l.dh by omega)];exact ZD ⟨c1,rfl,c2,rfl,cu,rfl,nz,om,v4,dU,rfl,dM bx,aa⟩
 rw[dM (show 0<=l.dh by omega)];have vu:aI .i64 (l.fg-l.dh):=⟨by omega,by omega⟩
 ·by_cases bN:l.dh=l.fg-(l.queue.length:Int)
  ·rw[show (l.dh==l.fg-(l.queue.length:Int))=true from by simpa using bN];exact ZF ⟨c1,rfl,c2,rfl,cu,rfl,nz,om,v4,dU,rfl,eL bx,vu,by rw[cm];simp;omega,fJ,aa⟩
  rw[show (l.dh==l.fg-(l.queue.length:Int))=false from by simpa using bN];exact ZE ⟨c1,rfl,c2,rfl,cu,rfl,nz,om,v4,dU,rfl,eL bx,vu,by rw[cm];simp;omega,aa⟩
theorem CB(l:bu)(ap:l.sz<=8388608):ar 191 [.agg l.e] [.one (B (iR l))]:=by
 have aK:l.queue.length<=8388608:=ap;have aV:=gy (P:=prog) (c:=(ao f191 0)) l.queue (fun r=>!eR r) (fun i=>uE l.cap (l.queue.map aB.e) l.eO l.back l.fg l.dh i) (X:=fun _ _=>Jw false) e7 (cH 0)
  (fun i a ah h=>Zo ⟨b6 (a1 ah),bw,bE (a1 ah),bA aB.e ah,rT a,h,dc (a1 ah) aK,aa⟩)
  (fun i a ah h=>aad ⟨b6 (a1 ah),bw,bE (a1 ah),bA aB.e ah,rT a,h,aa⟩)
  (Zp ⟨dz,aa⟩)
 unfold iR;rcases aV with⟨_,_,b5,aV⟩ | ⟨i,a,_,_,_,_,b5,aV⟩
 case inr=>
  rw[b5,iY,Bool.and_false];exact Zq ⟨aV,aa⟩
 rw[b5,nF,tJ];have c1:=hI l.cap 1 4;have c2:=hI l.eO 0 l.cap;have cu:=hI l.back 0 l.cap;have dU:=hI l.fg 0 1000000000;cases h1:aq l.cap 1 4 with
 | false=>rw[h1]at c1;exact Zx ⟨aV,c1,rfl,aa⟩
 | true=>
 cases U:aq l.eO 0 l.cap with
 | false=>rw[h1]at c1;rw[U]at c2;exact Zw ⟨aV,c1,rfl,c2,rfl,aa⟩
 | true=>
 cases ax:aq l.back 0 l.cap with
 | false=>rw[h1]at c1;rw[U]at c2;rw[ax]at cu;exact Zv ⟨aV,c1,rfl,c2,rfl,cu,rfl,aa⟩
 | true=>
 have c4:=h1;have b8:=U;have fs:=ax;simp only[aq,cW]at c4 b8 fs;rw[h1]at c1;rw[U]at c2;rw[ax]at cu;have nz:aI .i64 (l.eO+l.back):=⟨by omega,by omega⟩
 have om:aI .i64 (l.eO+l.back+(↑(l.queue.map aB.e).length:Int)):=⟨by simp only[cm];omega,by simp only[cm];omega⟩
 cases aJ:(l.eO+l.back+(l.queue.length:Int)==l.cap) with
 | false=>exact Zu ⟨aV,c1,rfl,c2,rfl,cu,rfl,nz,om,by rw[cm];exact aJ,aa⟩
 | true=>
 have v4:(l.eO+l.back+(↑(l.queue.map aB.e).length:Int)==l.cap)=true:=by rw[cm];exact aJ
 cases aY:aq l.fg 0 1000000000 with
 | false=>rw[aY]at dU;exact Zt ⟨aV,c1,rfl,c2,rfl,cu,rfl,nz,om,v4,dU,rfl,aa⟩
 | true=>
 have ji:=aY;simp only[aq,cW]at ji;rw[aY]at dU;have vu:aI .i64 (l.fg-(↑(l.queue.map aB.e).length:Int)):=⟨by simp only[cm];omega,by simp only[cm];omega⟩
 cases bN:(l.dh==l.fg-(l.queue.length:Int)) with
 | false=>
  rw[Bool.and_false];exact Zs ⟨aV,c1,rfl,c2,rfl,cu,rfl,nz,om,v4,dU,rfl,vu,by rw[cm];exact bN,aa⟩
 | true=>
  rw[tJ];exact Zr ⟨aV,c1,rfl,c2,rfl,cu,rfl,nz,om,v4,dU,rfl,vu,by rw[cm];exact bN,aa⟩
end Go.Proofs.YtdchjefneblpgaaGreat
namespace Go.Proofs.YtdchjefneblpgaaGreat
open Go.Sx Go.RowKit Go.Proofs.Tryz
def ln(xs:List aB)(i:Nat)(r:aB):Bool:=
 r.op != 0||r.bp.dT != 0||(match i with | 0=>false | j+1=>match xs[j]? with | some q=>decide (q.bp.bc>r.bp.bc) | none=>false)
theorem Qi{xs:List aB}{i:Nat}{a:aB}(ah:xs[i]?=some a)(h:ln xs i a=true):
  (a.op != 0)=true\/((a.op != 0)=false/\(a.bp.dT != 0)=true)\/((a.op != 0)=false/\(a.bp.dT != 0)=false/\∃j b,i=j+1/\xs[j]?=some b/\decide (b.bp.bc>a.bp.bc)=true):=by
 unfold ln at h;cases h1:(a.op != 0) with
 | true=>exact .inl rfl
 | false=>
 cases U:(a.bp.dT != 0) with
 | true=>exact .inr (.inl ⟨rfl,rfl⟩)
 | false=>
 rw[h1,U,jr,jr]at h;cases i with
 | zero=>cases h
 | succ j=>
  have bg:j<xs.length:=by have:=a1 ah;omega
  obtain⟨b,aw⟩:=cS bg;simp only[aw]at h;exact .inr (.inr ⟨rfl,rfl,j,b,rfl,aw,h⟩)
theorem Qj{xs:List aB}{i:Nat}{a:aB}(ah:xs[i]?=some a)(h:ln xs i a=false):
  (a.op != 0)=false/\(a.bp.dT != 0)=false/\(i=0\/∃j b,i=j+1/\xs[j]?=some b/\decide (b.bp.bc>a.bp.bc)=false):=by
 unfold ln at h;rw[gn,gn]at h;obtain⟨⟨h1,U⟩,h⟩:=h;refine⟨h1,U,?_⟩;cases i with
 | zero=>exact .inl rfl
 | succ j=>
  have bg:j<xs.length:=by have:=a1 ah;omega
  obtain⟨b,aw⟩:=cS bg;simp only[aw]at h;exact .inr ⟨j,b,rfl,aw,h⟩
theorem CC{α:Type}(f:α->List D){xs:List α}{j:Nat}{b:α}(h:xs[j]?=some b):(xs.map f)[(((j+1:Nat):Int)-1).toNat]?=some (f b):=by
 rw[show (((j+1:Nat):Int)-1)=(j:Int) by omega];exact bA f h
theorem Dt{α β:Type}{f:α->β}{xs:List α}{j:Nat}{b:α}(h:xs[j]?=some b):(((j+1:Nat):Int)-1)<(↑(xs.map f).length:Int):=by
 have:=a1 h;rw[cm];omega
def mg(n:Int):Bool:=!aq n (-1000000) 1000000
def k3(xs:List cw)(i:Nat)(d:cw):Bool:=!aq d.bc 0 3||(xs.take i).any (fun q=>q.bc==d.bc)
theorem fp{α β:Type}{f:α->β}{xs:List α}(h:(xs.length==4)=true):((↑(xs.map f).length:Int) != 4)=false:=by
 rw[cm,eq_of_beq h];rfl
theorem sG{α β:Type}{f:α->β}{xs:List α}(h:(xs.length==4)=false):((↑(xs.map f).length:Int) != 4)=true:=by
 rw[cm];have:=ne_of_beq_false h;simp only[bne_iff_ne,mr];omega
def eu(g:bR)(w:aR):Bool:=
 fB g w.queue&&(fB g w.cg&&(fB g w.b3&&(jk w.cells&&((w.bF.length==4)&&((w.bO.length==4)&&((w.br.length==4)&&(!anyI (ln w.b3) 0 w.b3&&(!(w.bF.any mg)&&!anyI (k3 w.bZ) 0 w.bZ))))))))
variable{w:aR}
theorem aR.DU(h:w.sz<=8388608):w.cg.length<=8388608:=by simp only[aR.sz]at h;omega
theorem aR.Bl(h:w.sz<=8388608):w.cells.length<=8388608:=by simp only[aR.sz]at h;omega
theorem aR.TJ(h:w.sz<=8388608):w.bF.length<=8388608:=by simp only[aR.sz]at h;omega
theorem aR.Mx(h:w.sz<=8388608):w.bZ.length<=8388608:=by simp only[aR.sz]at h;omega
theorem aag(w:aR)(ap:w.b3.length<=8388608):
  (anyI (ln w.b3) 0 w.b3=false/\cV prog (ao f175 0) (nf (w.queue.map aB.e) (w.cg.map aB.e) (w.b3.map aB.e) (w.cells.map Cell.e) (w.bF.map a6) (w.bO.map cq) (w.br.map cq) (w.bZ.map cw.e) 0) (.exit 0) (Hs (w.queue.map aB.e) (w.cg.map aB.e) (w.b3.map aB.e) (w.cells.map Cell.e) (w.bF.map a6) (w.bO.map cq) (w.br.map cq) (w.bZ.map cw.e)))\/
  (anyI (ln w.b3) 0 w.b3=true/\cV prog (ao f175 0) (nf (w.queue.map aB.e) (w.cg.map aB.e) (w.b3.map aB.e) (w.cells.map Cell.e) (w.bF.map a6) (w.bO.map cq) (w.br.map cq) (w.bZ.map cw.e) 0) .ret (zN false)):=
 s9 (P:=prog) (c:=(ao f175 0)) w.b3 (ln w.b3) (fun i=>nf (w.queue.map aB.e) (w.cg.map aB.e) (w.b3.map aB.e) (w.cells.map Cell.e) (w.bF.map a6) (w.bO.map cq) (w.br.map cq) (w.bZ.map cw.e) i) e7 (cH 0)
  (fun i a ah h=>by
   have hi:=a1 ah;obtain⟨h1,U,rfl | ⟨j,b,rfl,aw,ax⟩⟩:=Qj ah h
   ·exact YK ⟨b6 (a1 ah),bw,bE (a1 ah),bA aB.e ah,h1,bw,bE (a1 ah),bA aB.e ah,U,eL (by omega),dc (a1 ah) ap,aa⟩
   exact YJ ⟨b6 (a1 ah),bw,bE (a1 ah),bA aB.e ah,h1,bw,bE (a1 ah),bA aB.e ah,U,dM (by omega),⟨by omega,by omega⟩,by omega,Dt aw,CC aB.e aw,bw,bE (a1 ah),bA aB.e ah,ax,dc (a1 ah) ap,aa⟩)
  (fun i a ah h=>by
   have hi:=a1 ah;rcases Qi ah h with h1 | ⟨h1,U⟩ | ⟨h1,U,j,b,rfl,aw,ax⟩
   ·exact YG ⟨b6 (a1 ah),bw,bE (a1 ah),bA aB.e ah,h1,aa⟩
   ·exact YH ⟨b6 (a1 ah),bw,bE (a1 ah),bA aB.e ah,h1,bw,bE (a1 ah),bA aB.e ah,U,aa⟩
   exact YI ⟨b6 (a1 ah),bw,bE (a1 ah),bA aB.e ah,h1,bw,bE (a1 ah),bA aB.e ah,U,dM (by omega),⟨by omega,by omega⟩,by omega,Dt aw,CC aB.e aw,bw,bE (a1 ah),bA aB.e ah,ax,aa⟩)
  (YL ⟨dz,aa⟩)
theorem aah(w:aR)(ap:w.bZ.length<=8388608):
  (anyI (k3 w.bZ) 0 w.bZ=false/\cV prog (ao f175 2) (qk (w.queue.map aB.e) (w.cg.map aB.e) (w.b3.map aB.e) (w.cells.map Cell.e) (w.bF.map a6) (w.bO.map cq) (w.br.map cq) (w.bZ.map cw.e) 0) (.exit 4) Js)\/
  (anyI (k3 w.bZ) 0 w.bZ=true/\cV prog (ao f175 2) (qk (w.queue.map aB.e) (w.cg.map aB.e) (w.b3.map aB.e) (w.cells.map Cell.e) (w.bF.map a6) (w.bO.map cq) (w.br.map cq) (w.bZ.map cw.e) 0) .ret (Ct false)):=by
 have inner:∀(i:Nat) (a:cw),w.bZ[i]?=some a->
   (((w.bZ.take i).any (fun q=>q.bc==a.bc))=false/\cV prog (ao f175 3) (rU (w.queue.map aB.e) (w.cg.map aB.e) (w.b3.map aB.e) (w.cells.map Cell.e) (w.bF.map a6) (w.bO.map cq) (w.br.map cq) (w.bZ.map cw.e) i 0) (.exit 6) (Jr (w.queue.map aB.e) (w.cg.map aB.e) (w.b3.map aB.e) (w.cells.map Cell.e) (w.bF.map a6) (w.bO.map cq) (w.br.map cq) (w.bZ.map cw.e) i))\/
   (((w.bZ.take i).any (fun q=>q.bc==a.bc))=true/\cV prog (ao f175 3) (rU (w.queue.map aB.e) (w.cg.map aB.e) (w.b3.map aB.e) (w.cells.map Cell.e) (w.bF.map a6) (w.bO.map cq) (w.br.map cq) (w.bZ.map cw.e) i 0) .ret (Cu false)):=by
  intro i a ah;have hi:=a1 ah;have hlen:(w.bZ.take i).length=i:=by rw[tF];omega
  have gm:∀{k:Nat} {b:cw},(w.bZ.take i)[k]?=some b->k<i/\w.bZ[k]?=some b:=fun {k b} h=>by
   have hk:=a1 h;rw[hlen]at hk;rw[jX,bM hk]at h;exact⟨hk,h⟩
  have l:=gy (P:=prog) (c:=(ao f175 3)) (w.bZ.take i) (fun q=>q.bc==a.bc) (fun k=>rU (w.queue.map aB.e) (w.cg.map aB.e) (w.b3.map aB.e) (w.cells.map Cell.e) (w.bF.map a6) (w.bO.map cq) (w.br.map cq) (w.bZ.map cw.e) i k) (X:=fun _ _=>Cu false) e7 (cH 6)
   (fun k b aw h=>by
    obtain⟨hk,aw⟩:=gm aw;exact Yj ⟨dM (by omega),bw,bE (a1 aw),bA cw.e aw,bw,bE (a1 ah),bA cw.e ah,h,dc (a1 aw) ap,aa⟩)
   (fun k b aw h=>by
    obtain⟨hk,aw⟩:=gm aw;exact Yi ⟨dM (by omega),bw,bE (a1 aw),bA cw.e aw,bw,bE (a1 ah),bA cw.e ah,h,aa⟩)
   (Yk ⟨eL (by rw[hlen];omega),aa⟩)
  rcases l with⟨_,_,h1,U⟩ | ⟨_,_,_,_,_,_,h1,U⟩
  ·exact .inl ⟨h1,U⟩
  exact .inr ⟨h1,U⟩
 exact s9 (P:=prog) (c:=(ao f175 2)) w.bZ (k3 w.bZ) (fun i=>qk (w.queue.map aB.e) (w.cg.map aB.e) (w.b3.map aB.e) (w.cells.map Cell.e) (w.bF.map a6) (w.bO.map cq) (w.br.map cq) (w.bZ.map cw.e) i) e7 (cH 4)
  (fun i a ah h=>by
   simp only[k3,gn,kg]at h;rcases inner i a ah with⟨e,l⟩ | ⟨e,l⟩
   ·exact Ym ⟨b6 (a1 ah),bw,bE (a1 ah),bA cw.e ah,fk _ _ _ true h.1,rfl,l,dc (a1 ah) ap,aa⟩
   rw[h.2]at e;cases e)
  (fun i a ah h=>by
   cases h1:aq a.bc 0 3 with
   | false=>exact Yh ⟨b6 (a1 ah),bw,bE (a1 ah),bA cw.e ah,fk _ _ _ false h1,rfl,aa⟩
   | true=>
    simp only[k3,h1,iY,jr]at h;rcases inner i a ah with⟨e,l⟩ | ⟨e,l⟩
    ·rw[h]at e;cases e
    exact Yl ⟨b6 (a1 ah),bw,bE (a1 ah),bA cw.e ah,fk _ _ _ true h1,rfl,l,aa⟩)
  (Yn ⟨dz,aa⟩)
theorem Du(g:bR)(w:aR)(av:g.sz<=8388608)(hw:w.sz<=8388608):ar 175 [.agg g.e,.agg w.e] [.one (B (eu g w))]:=by
 unfold eu;cases h1:fB g w.queue with
 | false=>exact Yz ⟨uQ g _ _ h1 av (aR.DO hw),rfl,aa⟩
 | true=>
 have c1:=uQ g _ _ h1 av (aR.DO hw);cases U:fB g w.cg with
 | false=>exact YA ⟨c1,rfl,uQ g _ _ U av (aR.DU hw),rfl,aa⟩
 | true=>
 have c2:=uQ g _ _ U av (aR.DU hw);cases ax:fB g w.b3 with
 | false=>exact YB ⟨c1,rfl,c2,rfl,uQ g _ _ ax av (aR.wi hw),rfl,aa⟩
 | true=>
 have cu:=uQ g _ _ ax av (aR.wi hw);cases aJ:jk w.cells with
 | false=>exact YC ⟨c1,rfl,c2,rfl,cu,rfl,QP aJ (aR.Bl hw),rfl,aa⟩
 | true=>
 have dU:=QP aJ (aR.Bl hw);cases aY:(w.bF.length==4) with
 | false=>exact YD ⟨c1,rfl,c2,rfl,cu,rfl,dU,rfl,sG aY,aa⟩
 | true=>
 cases bx:(w.bO.length==4) with
 | false=>exact YE ⟨c1,rfl,c2,rfl,cu,rfl,dU,rfl,fp aY,sG bx,aa⟩
 | true=>
 cases bN:(w.br.length==4) with
 | false=>exact YF ⟨c1,rfl,c2,rfl,cu,rfl,dU,rfl,fp aY,fp bx,sG bN,aa⟩
 | true=>
 have rm:w.bF.length=4:=eq_of_beq aY;rcases aag w (aR.wi hw) with⟨db,iN⟩ | ⟨db,iN⟩
 case inr=>rw[db];exact YM ⟨c1,rfl,c2,rfl,cu,rfl,dU,rfl,fp aY,fp bx,fp bN,iN,aa⟩
 have mW:=gy (P:=prog) (c:=(ao f175 1)) w.bF mg (fun i=>tk (w.queue.map aB.e) (w.cg.map aB.e) (w.b3.map aB.e) (w.cells.map Cell.e) (w.bF.map a6) (w.bO.map cq) (w.br.map cq) (w.bZ.map cw.e) i) (X:=fun _ _=>Jp false) e7 (cH 2)
  (fun i a ah h=>YO ⟨dM (by have:=a1 ah;omega),bw,bE (a1 ah),bA a6 ah,fk _ _ _ true (by simpa[mg]using h),rfl,dc (a1 ah) (aR.TJ hw),aa⟩)
  (fun i a ah h=>YN ⟨dM (by have:=a1 ah;omega),bw,bE (a1 ah),bA a6 ah,fk _ _ _ false (by simpa[mg]using h),rfl,aa⟩)
  (Yf ⟨eL (by omega),aa⟩)
 rw[db];rcases mW with⟨_,_,dQ,mW⟩ | ⟨_,_,_,_,_,_,dQ,mW⟩
 case inr=>rw[dQ];exact Yg ⟨c1,rfl,c2,rfl,cu,rfl,dU,rfl,fp aY,fp bx,fp bN,iN,mW,aa⟩
 rw[dQ];rcases aah w (aR.Mx hw) with⟨dy,uy⟩ | ⟨dy,uy⟩
 ·rw[dy];exact ZO ⟨c1,rfl,c2,rfl,cu,rfl,dU,rfl,fp aY,fp bx,fp bN,iN,mW,uy,aa⟩
 rw[dy];exact Yo ⟨c1,rfl,c2,rfl,cu,rfl,dU,rfl,fp aY,fp bx,fp bN,iN,mW,uy,aa⟩
end Go.Proofs.YtdchjefneblpgaaGreat
namespace Go.Proofs.YtdchjefneblpgaaGreat
open Go.Sx Go.RowKit Go.Proofs.Tryz
theorem aai(w:aR)(ap:w.b3.length<=8388608):
  (anyI (ln w.b3) 0 w.b3=false/\cV prog (ao f187 0) (nd (w.b3.map aB.e) 0 (w.queue.map aB.e) (w.cg.map aB.e) (w.b3.map aB.e) (w.cells.map Cell.e) (w.bF.map a6) (w.bO.map cq) (w.br.map cq) (w.bZ.map cw.e)) (.exit 0) (Hp (w.queue.map aB.e) (w.cg.map aB.e) (w.b3.map aB.e) (w.cells.map Cell.e) (w.bF.map a6) (w.bO.map cq) (w.br.map cq) (w.bZ.map cw.e)))\/
  (anyI (ln w.b3) 0 w.b3=true/\cV prog (ao f187 0) (nd (w.b3.map aB.e) 0 (w.queue.map aB.e) (w.cg.map aB.e) (w.b3.map aB.e) (w.cells.map Cell.e) (w.bF.map a6) (w.bO.map cq) (w.br.map cq) (w.bZ.map cw.e)) .ret (zO false)):=
 s9 (P:=prog) (c:=(ao f187 0)) w.b3 (ln w.b3) (fun i=>nd (w.b3.map aB.e) i (w.queue.map aB.e) (w.cg.map aB.e) (w.b3.map aB.e) (w.cells.map Cell.e) (w.bF.map a6) (w.bO.map cq) (w.br.map cq) (w.bZ.map cw.e)) e7 (cH 0)
  (fun i a ah h=>by
   have hi:=a1 ah;obtain⟨h1,U,rfl | ⟨j,b,rfl,aw,ax⟩⟩:=Qj ah h
   ·exact ZX ⟨b6 (a1 ah),bw,bE (a1 ah),bA aB.e ah,h1,U,eL (by omega),dc (a1 ah) ap,aa⟩
   exact ZW ⟨b6 (a1 ah),bw,bE (a1 ah),bA aB.e ah,h1,U,dM (by omega),⟨by omega,by omega⟩,by omega,Dt aw,CC aB.e aw,ax,dc (a1 ah) ap,aa⟩)
  (fun i a ah h=>by
   have hi:=a1 ah;rcases Qi ah h with h1 | ⟨h1,U⟩ | ⟨h1,U,j,b,rfl,aw,ax⟩
   ·exact ZT ⟨b6 (a1 ah),bw,bE (a1 ah),bA aB.e ah,h1,aa⟩
   ·exact ZU ⟨b6 (a1 ah),bw,bE (a1 ah),bA aB.e ah,h1,U,aa⟩
   exact ZV ⟨b6 (a1 ah),bw,bE (a1 ah),bA aB.e ah,h1,U,dM (by omega),⟨by omega,by omega⟩,by omega,Dt aw,CC aB.e aw,ax,aa⟩)
  (ZY ⟨dz,aa⟩)
theorem Qk(xs:List cw)(i:Nat)(e:Int)(r:Bool)(h:(xs.take i).any (fun q=>q.bc==e)=r)(ap:xs.length<=8388608):ar 281 [.one (.J 2 ((xs.map cw.e).take i)),.one (I e)] [.one (B r)]:=by
 have c:=YZ (xs.take i) e (by rw[tF];omega);rw[qQ,h]at c;exact c
theorem aaj(w:aR)(ap:w.bZ.length<=8388608):
  (anyI (k3 w.bZ) 0 w.bZ=false/\cV prog (ao f187 2) (ql (w.bZ.map cw.e) 0 (w.queue.map aB.e) (w.cg.map aB.e) (w.b3.map aB.e) (w.cells.map Cell.e) (w.bF.map a6) (w.bO.map cq) (w.br.map cq) (w.bZ.map cw.e)) (.exit 4) Jv)\/
  (anyI (k3 w.bZ) 0 w.bZ=true/\cV prog (ao f187 2) (ql (w.bZ.map cw.e) 0 (w.queue.map aB.e) (w.cg.map aB.e) (w.b3.map aB.e) (w.cells.map Cell.e) (w.bF.map a6) (w.bO.map cq) (w.br.map cq) (w.bZ.map cw.e)) .ret (Cv false)):=
 s9 (P:=prog) (c:=(ao f187 2)) w.bZ (k3 w.bZ) (fun i=>ql (w.bZ.map cw.e) i (w.queue.map aB.e) (w.cg.map aB.e) (w.b3.map aB.e) (w.cells.map Cell.e) (w.bF.map a6) (w.bO.map cq) (w.br.map cq) (w.bZ.map cw.e)) e7 (cH 4)
  (fun i a ah h=>by
   have hi:=a1 ah;simp only[k3,gn,kg]at h;exact Z9 ⟨b6 (a1 ah),bw,bE (a1 ah),bA cw.e ah,h4 true h.1,rfl,Int.le_refl 0,(bw:(0:Int)<=(i:Int)),(show (i:Int)<=_ by rw[cm];omega),Qk w.bZ i a.bc false h.2 ap,rfl,dc (a1 ah) ap,aa⟩)
  (fun i a ah h=>by
   have hi:=a1 ah;cases h1:aq a.bc 0 3 with
   | false=>exact Z7 ⟨b6 (a1 ah),bw,bE (a1 ah),bA cw.e ah,h4 false h1,rfl,aa⟩
   | true=>
    simp only[k3,h1,iY,jr]at h;exact Z8 ⟨b6 (a1 ah),bw,bE (a1 ah),bA cw.e ah,h4 true h1,rfl,Int.le_refl 0,(bw:(0:Int)<=(i:Int)),(show (i:Int)<=_ by rw[cm];omega),Qk w.bZ i a.bc true h ap,rfl,aa⟩)
  (Z' ⟨dz,aa⟩)
theorem Dv(g:bR)(w:aR)(av:g.sz<=8388608)(hw:w.sz<=8388608):ar 187 [.agg g.e,.agg w.e] [.one (B (eu g w))]:=by
 unfold eu;cases h1:fB g w.queue with
 | false=>exact ZP ⟨uR g _ _ h1 av (aR.DO hw),rfl,aa⟩
 | true=>
 have c1:=uR g _ _ h1 av (aR.DO hw);cases U:fB g w.cg with
 | false=>exact ZQ ⟨c1,rfl,uR g _ _ U av (aR.DU hw),rfl,aa⟩
 | true=>
 have c2:=uR g _ _ U av (aR.DU hw);cases ax:fB g w.b3 with
 | false=>exact ZR ⟨c1,rfl,c2,rfl,uR g _ _ ax av (aR.wi hw),rfl,aa⟩
 | true=>
 have cu:=uR g _ _ ax av (aR.wi hw);cases aJ:jk w.cells with
 | false=>exact ZS ⟨c1,rfl,c2,rfl,cu,rfl,QQ aJ (aR.Bl hw),rfl,aa⟩
 | true=>
 have dU:=QQ aJ (aR.Bl hw);rcases aai w (aR.wi hw) with⟨db,iN⟩ | ⟨db,iN⟩
 case inr=>
  rw[db];simp only[iY,Bool.false_and,Bool.and_false];exact ZZ ⟨c1,rfl,c2,rfl,cu,rfl,dU,rfl,iN,aa⟩
 cases aY:(w.bF.length==4) with
 | false=>exact Z0 ⟨c1,rfl,c2,rfl,cu,rfl,dU,rfl,iN,sG aY,aa⟩
 | true=>
 cases bx:(w.bO.length==4) with
 | false=>exact Z1 ⟨c1,rfl,c2,rfl,cu,rfl,dU,rfl,iN,fp aY,sG bx,aa⟩
 | true=>
 cases bN:(w.br.length==4) with
 | false=>exact Z2 ⟨c1,rfl,c2,rfl,cu,rfl,dU,rfl,iN,fp aY,fp bx,sG bN,aa⟩
 | true=>
 have mW:=gy (P:=prog) (c:=(ao f187 1)) w.bF mg (fun i=>sL (w.queue.map aB.e) (w.cg.map aB.e) (w.b3.map aB.e) (w.cells.map Cell.e) (w.bF.map a6) (w.bO.map cq) (w.br.map cq) (w.bZ.map cw.e) i) (X:=fun _ _=>Jt false) e7 (cH 2)
  (fun i a ah h=>Z4 ⟨b6 (a1 ah),bw,bE (a1 ah),bA a6 ah,h4 true (by simpa[mg]using h),rfl,dc (a1 ah) (aR.TJ hw),aa⟩)
  (fun i a ah h=>Z3 ⟨b6 (a1 ah),bw,bE (a1 ah),bA a6 ah,h4 false (by simpa[mg]using h),rfl,aa⟩)
  (Z5 ⟨dz,aa⟩)
 rw[db];rcases mW with⟨_,_,dQ,mW⟩ | ⟨_,_,_,_,_,_,dQ,mW⟩
 case inr=>rw[dQ];exact Z6 ⟨c1,rfl,c2,rfl,cu,rfl,dU,rfl,iN,fp aY,fp bx,fp bN,mW,aa⟩
 rw[dQ];rcases aaj w (aR.Mx hw) with⟨dy,uy⟩ | ⟨dy,uy⟩
 ·rw[dy];exact aac ⟨c1,rfl,c2,rfl,cu,rfl,dU,rfl,iN,fp aY,fp bx,fp bN,mW,uy,aa⟩
 rw[dy];exact aab ⟨c1,rfl,c2,rfl,cu,rfl,dU,rfl,iN,fp aY,fp bx,fp bN,mW,uy,aa⟩
