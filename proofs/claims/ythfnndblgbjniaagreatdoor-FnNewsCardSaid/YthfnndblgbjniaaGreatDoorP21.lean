import Derived.Test.YthfnndblgbjniaaGreatDoorP43
import Derived.Test.YthfnndblgbjniaaGreatDoorGU
import Derived.Test.YthfnndblgbjniaaGreatDoorP17
set_option linter.unusedVariables false
set_option linter.unusedSimpArgs false
namespace Go.Proofs.YthfnndblgbjniaaGreatDoor
open Go.Sx Go.RowKit Go.Proofs.Tryz
variable{c:bb}
theorem bb.GC(h:c.wf){l:bA}(au:l∈c.b2):l.wf:=h.Xe.2 l au
structure xe (c:bb):Prop where
 n:aK .i64 c.aG.aB
 l:∀l∈c.b2,aK .i64 l.cap/\l.dd<=9223372036854775807
theorem xe.of(h:c.wf):xe c:=⟨h.Vn.Tj,fun l au=>⟨(bb.GC h au).LY,(bb.GC h au).L8.2⟩⟩
theorem bb.Bn(h:c.sz<=8388608){l:bA}(au:l∈c.b2):l.sz<=8388608:=by
 grind[uU,bA.sz,bb.sz]
def o4(e:Int)(l:bA):Nat:=(o2 e l.queue).length
theorem td{α:Type}{f:Int->α}{xs:List Int}(h:xs.length<=8388608):IntKind.i64.wrap ((↑(xs.map f).length:Int)-1)=(xs.length:Int)-1:=by
 rw[cr];exact aK.wrap ⟨by omega,by omega⟩
def jh(key aB:Int):Int:=if aB<1 then 0 else if key.tmod aB<0 then key.tmod aB+aB else key.tmod aB
theorem Qa(a b:Int)(h:0<b):- b<a.tmod b:=by
 rcases Int.le_total 0 a with ai | ai
 ·have:=Int.tmod_nonneg b ai;omega
 have U:(-a).tmod b<b:=Int.tmod_lt_of_pos _ h;rw[Int.neg_tmod]at U;omega
theorem Qb(key aB:Int)(hw:aB<=9223372036854775807):ax 158 [.one (I key),.one (I aB)] [.one (I (jh key aB))]:=by
 unfold jh;split
 ·exact X' ⟨by simpa using ‹aB<1›,ad⟩
 rename_i h;have U:=Qa key aB (by omega);have aa:key.tmod aB<aB:=Int.tmod_lt_of_pos _ (by omega);split
 ·rename_i aA;exact Ya ⟨by simp only[n'];omega,by omega,by simpa using aA,⟨by omega,by omega⟩,ad⟩
 rename_i aA;exact Yb ⟨by simp only[n'];omega,by omega,by simpa using aA,ad⟩
theorem aR.De{w:aR}(h:w.sz<=8388608):w.queue.length<=8388608:=by grind[aR.sz]
theorem aR.vU{w:aR}(h:w.sz<=8388608):w.cb.length<=8388608:=by grind[aR.sz]
end Go.Proofs.YthfnndblgbjniaaGreatDoor
namespace Go.Proofs.YthfnndblgbjniaaGreatDoor
open Go.Sx Go.RowKit Go.Proofs.Tryz
def BZ(p:Cell×Cell):Bool:=decide (hB p.1 p.2>=0)
def iS(xs:List Cell):Bool:=!((xs.zip (xs.drop 1)).any BZ)
variable{xs:List Cell}
theorem zi{i:Nat}{p:Cell×Cell}(h:(xs.zip (xs.drop 1))[i]?=some p):xs[i]?=some p.1/\xs[i+1]?=some p.2:=by
 rw[List.getElem?_zip_eq_some]at h;obtain⟨U,aa⟩:=h;rw[th,Nat.add_comm]at aa;exact⟨U,aa⟩
theorem ZS(xs:List Cell)(au:xs.length<=8388608):ax 184 [.one (.J 4 (xs.map Cell.e))] [.one (B (iS xs))]:=by
 have bD:∀i:Nat,(((i:Int)+1)-1).toNat=i:=fun i=>by omega
 have e1:∀i:Nat,(((i:Int)+1)).toNat=i+1:=fun i=>by omega
 have bk:(xs.zip (xs.drop 1)).length=xs.length-1:=by simp
 have l:=gv (P:=prog) (c:=(aq f184 0)) (xs.zip (xs.drop 1)) BZ (fun i=>sR (xs.map Cell.e) ((i:Int)+1)) (X:=fun _ _=>JF false) eJ (cI 0)
  (fun i a ai h=>by
   obtain⟨U,aa⟩:=zi ai;have hi:=aZ aa;refine Tc (sR (xs.map Cell.e)) (Yd ⟨dV (by simp only[cr];omega),⟨by omega,by omega⟩,by omega,by simp only[cr];omega,by rw[bD,dk,U];rfl,by omega,by simp only[cr];omega,by rw[e1,dk,aa];rfl,Ck a.1 a.2,h,⟨by omega,by omega⟩,ad⟩) (by omega))
  (fun i a ai h=>by
   obtain⟨U,aa⟩:=zi ai;have hi:=aZ aa;exact Yc ⟨dV (by simp only[cr];omega),⟨by omega,by omega⟩,by omega,by simp only[cr];omega,by rw[bD,dk,U];rfl,by omega,by simp only[cr];omega,by rw[e1,dk,aa];rfl,Ck a.1 a.2,h,ad⟩)
  (Ye ⟨eC (by rw[bk];simp only[cr];omega),ad⟩)
 unfold iS;rcases l with⟨_,_,U,aa⟩ | ⟨i,a,_,_,_,_,U,aa⟩
 ·rw[U];exact Yg ⟨aa,ad⟩
 rw[U];exact Yf ⟨aa,ad⟩
theorem Qc{r:Bool}(h:iS xs=r)(au:xs.length<=8388608):ax 184 [.one (.J 4 (xs.map Cell.e))] [.one (B r)]:=h▸ZS xs au
theorem ZT(xs:List Cell)(au:xs.length<=8388608):ax 129 [.one (.J 4 (xs.map Cell.e))] [.one (B (iS xs))]:=by
 have bD:∀i:Nat,(((i:Int)+1)-1).toNat=i:=fun i=>by omega
 have e1:∀i:Nat,(((i:Int)+1)).toNat=i+1:=fun i=>by omega
 have bk:(xs.zip (xs.drop 1)).length=xs.length-1:=by simp
 have l:=gv (P:=prog) (c:=(aq f129 0)) (xs.zip (xs.drop 1)) BZ (fun i=>sS (xs.map Cell.e) ((i:Int)+1)) (X:=fun _ _=>JG false) eJ (cI 0)
  (fun i a ai h=>by
   obtain⟨U,aa⟩:=zi ai;have hi:=aZ aa;refine Tc (sS (xs.map Cell.e)) (Yi ⟨dV (by simp only[cr];omega),⟨by omega,by omega⟩,by omega,by simp only[cr];omega,by rw[bD,dk,U];rfl,by omega,by simp only[cr];omega,by rw[e1,dk,aa];rfl,QA a.1 a.2,h,⟨by omega,by omega⟩,ad⟩) (by omega))
  (fun i a ai h=>by
   obtain⟨U,aa⟩:=zi ai;have hi:=aZ aa;exact Yh ⟨dV (by simp only[cr];omega),⟨by omega,by omega⟩,by omega,by simp only[cr];omega,by rw[bD,dk,U];rfl,by omega,by simp only[cr];omega,by rw[e1,dk,aa];rfl,QA a.1 a.2,h,ad⟩)
  (Yj ⟨eC (by rw[bk];simp only[cr];omega),ad⟩)
 unfold iS;rcases l with⟨_,_,U,aa⟩ | ⟨i,a,_,_,_,_,U,aa⟩
 ·rw[U];exact Yl ⟨aa,ad⟩
 rw[U];exact Yk ⟨aa,ad⟩
theorem Qd{r:Bool}(h:iS xs=r)(au:xs.length<=8388608):ax 129 [.one (.J 4 (xs.map Cell.e))] [.one (B r)]:=h▸ZT xs au
def km(g:b1)(r:aH):Bool:=!e6 r||decide (r.op>=(g.nodes.length:Int))
def fv(g:b1)(xs:List aH):Bool:=!(xs.any (km g))
theorem ZU{r:aH}(h:e6 r=true):0<=r.op:=by
 simp only[e6,cJ,av,cW]at h;omega
theorem ZV(g:b1)(xs:List aH)(au:xs.length<=8388608):ax 141 [.agg g.e,.one (.J 5 (xs.map aH.e))] [.one (B (fv g xs))]:=by
 have l:=gv (P:=prog) (c:=(aq f141 0)) xs (km g) (fun i=>sT (g.nodes.map Node.e) g.aB g.cap (xs.map aH.e) i) (X:=fun _ _=>Cp false) eJ (cI 0)
  (fun i a ai h=>by
   simp only[km,gh,j6]at h;have c:=rr a;rw[h.1]at c;exact Yo ⟨b3 (aZ ai),bn,bt (aZ ai),bp aH.e ai,c,rfl,bn,bt (aZ ai),bp aH.e ai,by rw[cr];exact h.2,cT (aZ ai) au,ad⟩)
  (fun i a ai h=>by
   have c:=rr a;cases aI:e6 a with
   | false=>
    rw[aI]at c;exact Ym ⟨b3 (aZ ai),bn,bt (aZ ai),bp aH.e ai,c,rfl,ad⟩
   | true=>
    rw[aI]at c;simp only[km,aI,jm,iU]at h;exact Yn ⟨b3 (aZ ai),bn,bt (aZ ai),bp aH.e ai,c,rfl,bn,bt (aZ ai),bp aH.e ai,by rw[cr];exact h,ad⟩)
  (Yp ⟨dv,ad⟩)
 unfold fv;rcases l with⟨_,_,U,aa⟩ | ⟨i,a,_,_,_,_,U,aa⟩
 ·rw[U];exact Yr ⟨aa,ad⟩
 rw[U];exact Yq ⟨aa,ad⟩
theorem PE{g:b1}{r:aH}(h:e6 r=true):(gK g r.op).isSome=!(decide (r.op>=(g.nodes.length:Int))):=by
 have bV:=ZU h;unfold gK;rw[bU bV];by_cases ap:r.op>=(g.nodes.length:Int)
 ·rw[dV ap,List.getElem?_eq_none (by omega)];rfl
 rw[eC ap,ih (by omega)];rfl
theorem ZW(g:b1)(xs:List aH)(ay:g.sz<=8388608)(au:xs.length<=8388608):ax 81 [.agg g.e,.one (.J 5 (xs.map aH.e))] [.one (B (fv g xs))]:=by
 have l:=gv (P:=prog) (c:=(aq f81 0)) xs (km g) (fun i=>sU (xs.map aH.e) i (g.nodes.map Node.e) g.aB g.cap) (X:=fun _ _=>Cq false) eJ (cI 0)
  (fun i a ai h=>by
   simp only[km,gh,j6]at h;have c:=Co a;rw[h.1]at c;exact XF ⟨b3 (aZ ai),bn,bt (aZ ai),bp aH.e ai,c,rfl,PX g a.op true (by rw[PE h.1,h.2];rfl) ay,rfl,cT (aZ ai) au,ad⟩)
  (fun i a ai h=>by
   have c:=Co a;cases aI:e6 a with
   | false=>
    rw[aI]at c;exact XD ⟨b3 (aZ ai),bn,bt (aZ ai),bp aH.e ai,c,rfl,ad⟩
   | true=>
    rw[aI]at c;simp only[km,aI,jm,iU]at h;exact XE ⟨b3 (aZ ai),bn,bt (aZ ai),bp aH.e ai,c,rfl,PX g a.op false (by rw[PE aI,h];rfl) ay,rfl,ad⟩)
  (XG ⟨dv,ad⟩)
 unfold fv;rcases l with⟨_,_,U,aa⟩ | ⟨i,a,_,_,_,_,U,aa⟩
 ·rw[U];exact XI ⟨aa,ad⟩
 rw[U];exact XH ⟨aa,ad⟩
theorem uo(g:b1)(xs:List aH)(r:Bool)(h:fv g xs=r)(_:g.sz<=8388608)(au:xs.length<=8388608):ax 141 [.agg g.e,.one (.J 5 (xs.map aH.e))] [.one (B r)]:=h▸ZV g xs au
theorem uq(g:b1)(xs:List aH)(r:Bool)(h:fv g xs=r)(ay:g.sz<=8388608)(au:xs.length<=8388608):ax 81 [.agg g.e,.one (.J 5 (xs.map aH.e))] [.one (B r)]:=h▸ZW g xs ay au
def iw(l:bA):Bool:=
 av l.cap 1 4&&av l.eK 0 l.cap&&av l.back 0 l.cap&&(l.eK+l.back+l.queue.length==l.cap)&&av l.fb 0 1000000000&&decide (0<=l.dd)&&(l.dd==l.fb-l.queue.length)&&!(l.queue.any fun r=>!e6 r)
theorem ZX(xs:List aH)(au:xs.length<=8388608):ax 130 [.one (.J 5 (xs.map aH.e))] [.one (B (!(xs.any fun r=>!e6 r)))]:=by
 have l:=gv (P:=prog) (c:=(aq f130 0)) xs (fun r=>!e6 r) (fun i=>uj (xs.map aH.e) i) (X:=fun _ _=>I0 false) eJ (cI 0)
  (fun i a ai h=>YR ⟨b3 (aZ ai),bn,bt (aZ ai),bp aH.e ai,Co a,h,cT (aZ ai) au,ad⟩)
  (fun i a ai h=>YQ ⟨b3 (aZ ai),bn,bt (aZ ai),bp aH.e ai,Co a,h,ad⟩)
  (YS ⟨dv,ad⟩)
 rcases l with⟨_,_,U,aa⟩ | ⟨i,a,_,_,_,_,U,aa⟩
 ·rw[U];exact YU ⟨aa,ad⟩
 rw[U];exact YT ⟨aa,ad⟩
theorem ZY(l:bA)(au:l.sz<=8388608)(sg:l.dd<=9223372036854775807):ax 80 [.agg l.e] [.one (B (iw l))]:=by
 have aM:l.queue.length<=8388608:=au;have bX:=jA l.cap 1 4;have cw:=jA l.eK 0 l.cap;have cR:=jA l.back 0 l.cap;have dU:=jA l.fb 0 1000000000;have hx:=ZX l.queue aM;unfold iw;cases U:av l.cap 1 4 with
 | false=>rw[U]at bX;exact YI ⟨bX,rfl,ad⟩
 | true=>
 cases aa:av l.eK 0 l.cap with
 | false=>rw[U]at bX;rw[aa]at cw;exact YJ ⟨bX,rfl,cw,rfl,ad⟩
 | true=>
 cases aA:av l.back 0 l.cap with
 | false=>rw[U]at bX;rw[aa]at cw;rw[aA]at cR;exact YK ⟨bX,rfl,cw,rfl,cR,rfl,ad⟩
 | true=>
 have c6:=U;have b8:=aa;have e9:=aA;simp only[av,cW]at c6 b8 e9;rw[U]at bX;rw[aa]at cw;rw[aA]at cR;have mV:aK .i64 (l.eK+l.back):=⟨by omega,by omega⟩
 have l6:aK .i64 (l.eK+l.back+(↑(l.queue.map aH.e).length:Int)):=⟨by simp only[cr];omega,by simp only[cr];omega⟩
 cases aO:(l.eK+l.back+(l.queue.length:Int)==l.cap) with
 | false=>exact YL ⟨bX,rfl,cw,rfl,cR,rfl,mV,l6,by rw[cr];simpa using aO,ad⟩
 | true=>
 have v4:(l.eK+l.back+(↑(l.queue.map aH.e).length:Int) != l.cap)=false:=by rw[cr];simpa using aO
 cases a8:av l.fb 0 1000000000 with
 | false=>rw[a8]at dU;exact YM ⟨bX,rfl,cw,rfl,cR,rfl,mV,l6,v4,dU,rfl,ad⟩
 | true=>
 have iP:=a8;simp only[av,cW]at iP;rw[a8]at dU;by_cases bG:l.dd<0
 ·rw[eC (show ¬0<=l.dd by omega)];exact YN ⟨bX,rfl,cw,rfl,cR,rfl,mV,l6,v4,dU,rfl,dV bG,ad⟩
 rw[dV (show 0<=l.dd by omega)];have ve:aK .i64 (l.fb-l.dd):=⟨by omega,by omega⟩
 ·by_cases b9:l.dd=l.fb-(l.queue.length:Int)
  ·rw[show (l.dd==l.fb-(l.queue.length:Int))=true from by simpa using b9];exact YP ⟨bX,rfl,cw,rfl,cR,rfl,mV,l6,v4,dU,rfl,eC bG,ve,by rw[cr];simp;omega,hx,ad⟩
  rw[show (l.dd==l.fb-(l.queue.length:Int))=false from by simpa using b9];exact YO ⟨bX,rfl,cw,rfl,cR,rfl,mV,l6,v4,dU,rfl,eC bG,ve,by rw[cr];simp;omega,ad⟩
theorem B0(l:bA)(au:l.sz<=8388608):ax 140 [.agg l.e] [.one (B (iw l))]:=by
 have aM:l.queue.length<=8388608:=au;have aV:=gv (P:=prog) (c:=(aq f140 0)) l.queue (fun r=>!e6 r) (fun i=>ub l.cap (l.queue.map aH.e) l.eK l.back l.fb l.dd i) (X:=fun _ _=>IZ false) eJ (cI 0)
  (fun i a ai h=>Zn ⟨b3 (aZ ai),bn,bt (aZ ai),bp aH.e ai,rr a,h,cT (aZ ai) aM,ad⟩)
  (fun i a ai h=>Zm ⟨b3 (aZ ai),bn,bt (aZ ai),bp aH.e ai,rr a,h,ad⟩)
  (Zo ⟨dv,ad⟩)
 unfold iw;rcases aV with⟨_,_,bV,aV⟩ | ⟨i,a,_,_,_,_,bV,aV⟩
 case inr=>
  rw[bV,jm,Bool.and_false];exact Zp ⟨aV,ad⟩
 rw[bV,n8,tm];have bX:=hA l.cap 1 4;have cw:=hA l.eK 0 l.cap;have cR:=hA l.back 0 l.cap;have dU:=hA l.fb 0 1000000000;cases U:av l.cap 1 4 with
 | false=>rw[U]at bX;exact YH ⟨aV,bX,rfl,ad⟩
 | true=>
 cases aa:av l.eK 0 l.cap with
 | false=>rw[U]at bX;rw[aa]at cw;exact YG ⟨aV,bX,rfl,cw,rfl,ad⟩
 | true=>
 cases aA:av l.back 0 l.cap with
 | false=>rw[U]at bX;rw[aa]at cw;rw[aA]at cR;exact YF ⟨aV,bX,rfl,cw,rfl,cR,rfl,ad⟩
 | true=>
 have c6:=U;have b8:=aa;have e9:=aA;simp only[av,cW]at c6 b8 e9;rw[U]at bX;rw[aa]at cw;rw[aA]at cR;have mV:aK .i64 (l.eK+l.back):=⟨by omega,by omega⟩
 have l6:aK .i64 (l.eK+l.back+(↑(l.queue.map aH.e).length:Int)):=⟨by simp only[cr];omega,by simp only[cr];omega⟩
 cases aO:(l.eK+l.back+(l.queue.length:Int)==l.cap) with
 | false=>exact YE ⟨aV,bX,rfl,cw,rfl,cR,rfl,mV,l6,by rw[cr];exact aO,ad⟩
 | true=>
 have v4:(l.eK+l.back+(↑(l.queue.map aH.e).length:Int)==l.cap)=true:=by rw[cr];exact aO
 cases a8:av l.fb 0 1000000000 with
 | false=>rw[a8]at dU;exact YD ⟨aV,bX,rfl,cw,rfl,cR,rfl,mV,l6,v4,dU,rfl,ad⟩
 | true=>
 have iP:=a8;simp only[av,cW]at iP;rw[a8]at dU;have ve:aK .i64 (l.fb-(↑(l.queue.map aH.e).length:Int)):=⟨by simp only[cr];omega,by simp only[cr];omega⟩
 cases b9:(l.dd==l.fb-(l.queue.length:Int)) with
 | false=>
  rw[Bool.and_false];exact YC ⟨aV,bX,rfl,cw,rfl,cR,rfl,mV,l6,v4,dU,rfl,ve,by rw[cr];exact b9,ad⟩
 | true=>
  rw[tm];exact Zq ⟨aV,bX,rfl,cw,rfl,cR,rfl,mV,l6,v4,dU,rfl,ve,by rw[cr];exact b9,ad⟩
end Go.Proofs.YthfnndblgbjniaaGreatDoor
namespace Go.Proofs.YthfnndblgbjniaaGreatDoor
open Go.Sx Go.RowKit Go.Proofs.Tryz
def k8(xs:List aH)(i:Nat)(r:aH):Bool:=
 r.op != 0||r.bJ.eo != 0||(match i with | 0=>false | j+1=>match xs[j]? with | some q=>decide (q.bJ.bh>r.bJ.bh) | none=>false)
theorem PF{xs:List aH}{i:Nat}{a:aH}(ai:xs[i]?=some a)(h:k8 xs i a=true):
  (a.op != 0)=true\/((a.op != 0)=false/\(a.bJ.eo != 0)=true)\/((a.op != 0)=false/\(a.bJ.eo != 0)=false/\∃j b,i=j+1/\xs[j]?=some b/\decide (b.bJ.bh>a.bJ.bh)=true):=by
 unfold k8 at h;cases U:(a.op != 0) with
 | true=>exact .inl rfl
 | false=>
 cases aa:(a.bJ.eo != 0) with
 | true=>exact .inr (.inl ⟨rfl,rfl⟩)
 | false=>
 rw[U,aa,iU,iU]at h;cases i with
 | zero=>cases h
 | succ j=>
  have bm:j<xs.length:=by have:=aZ ai;omega
  obtain⟨b,aw⟩:=cS bm;simp only[aw]at h;exact .inr (.inr ⟨rfl,rfl,j,b,rfl,aw,h⟩)
theorem PG{xs:List aH}{i:Nat}{a:aH}(ai:xs[i]?=some a)(h:k8 xs i a=false):
  (a.op != 0)=false/\(a.bJ.eo != 0)=false/\(i=0\/∃j b,i=j+1/\xs[j]?=some b/\decide (b.bJ.bh>a.bJ.bh)=false):=by
 unfold k8 at h;rw[gh,gh]at h;obtain⟨⟨U,aa⟩,h⟩:=h;refine⟨U,aa,?_⟩;cases i with
 | zero=>exact .inl rfl
 | succ j=>
  have bm:j<xs.length:=by have:=aZ ai;omega
  obtain⟨b,aw⟩:=cS bm;simp only[aw]at h;exact .inr ⟨j,b,rfl,aw,h⟩
theorem B1{α:Type}(f:α->List D){xs:List α}{j:Nat}{b:α}(h:xs[j]?=some b):(xs.map f)[(((j+1:Nat):Int)-1).toNat]?=some (f b):=by
 rw[show (((j+1:Nat):Int)-1)=(j:Int) by omega];exact bp f h
theorem B2{α β:Type}{f:α->β}{xs:List α}{j:Nat}{b:α}(h:xs[j]?=some b):(((j+1:Nat):Int)-1)<(↑(xs.map f).length:Int):=by
 have:=aZ h;rw[cr];omega
def l0(n:Int):Bool:=!av n (-1000000) 1000000
def kP(xs:List ca)(i:Nat)(d:ca):Bool:=!av d.bh 0 3||(xs.take i).any (fun q=>q.bh==d.bh)
theorem fl{α β:Type}{f:α->β}{xs:List α}(h:(xs.length==4)=true):((↑(xs.map f).length:Int) != 4)=false:=by
 rw[cr,eq_of_beq h];rfl
theorem sk{α β:Type}{f:α->β}{xs:List α}(h:(xs.length==4)=false):((↑(xs.map f).length:Int) != 4)=true:=by
 rw[cr];have:=ne_of_beq_false h;simp only[bne_iff_ne,l'];omega
def eA(g:b1)(w:aR):Bool:=
 fv g w.queue&&(fv g w.cn&&(fv g w.cb&&(iS w.cells&&((w.bN.length==4)&&((w.bW.length==4)&&((w.bB.length==4)&&(!anyI (k8 w.cb) 0 w.cb&&(!(w.bN.any l0)&&!anyI (kP w.bx) 0 w.bx))))))))
variable{w:aR}
theorem aR.Dk(h:w.sz<=8388608):w.cn.length<=8388608:=by simp only[aR.sz]at h;omega
theorem aR.AJ(h:w.sz<=8388608):w.cells.length<=8388608:=by simp only[aR.sz]at h;omega
theorem aR.S'(h:w.sz<=8388608):w.bN.length<=8388608:=by simp only[aR.sz]at h;omega
theorem aR.L2(h:w.sz<=8388608):w.bx.length<=8388608:=by simp only[aR.sz]at h;omega
theorem ZZ(w:aR)(au:w.cb.length<=8388608):
  (anyI (k8 w.cb) 0 w.cb=false/\c0 prog (aq f139 0) (mF (w.queue.map aH.e) (w.cn.map aH.e) (w.cb.map aH.e) (w.cells.map Cell.e) (w.bN.map ba) (w.bW.map cu) (w.bB.map cu) (w.bx.map ca.e) 0) (.exit 0) (G0 (w.queue.map aH.e) (w.cn.map aH.e) (w.cb.map aH.e) (w.cells.map Cell.e) (w.bN.map ba) (w.bW.map cu) (w.bB.map cu) (w.bx.map ca.e)))\/
  (anyI (k8 w.cb) 0 w.cb=true/\c0 prog (aq f139 0) (mF (w.queue.map aH.e) (w.cn.map aH.e) (w.cb.map aH.e) (w.cells.map Cell.e) (w.bN.map ba) (w.bW.map cu) (w.bB.map cu) (w.bx.map ca.e) 0) .ret (zc false)):=
 sL (P:=prog) (c:=(aq f139 0)) w.cb (k8 w.cb) (fun i=>mF (w.queue.map aH.e) (w.cn.map aH.e) (w.cb.map aH.e) (w.cells.map Cell.e) (w.bN.map ba) (w.bW.map cu) (w.bB.map cu) (w.bx.map ca.e) i) eJ (cI 0)
  (fun i a ai h=>by
   have hi:=aZ ai;obtain⟨U,aa,rfl | ⟨j,b,rfl,aw,aA⟩⟩:=PG ai h
   ·exact XU ⟨b3 (aZ ai),bn,bt (aZ ai),bp aH.e ai,U,bn,bt (aZ ai),bp aH.e ai,aa,eC (by omega),cT (aZ ai) au,ad⟩
   exact XT ⟨b3 (aZ ai),bn,bt (aZ ai),bp aH.e ai,U,bn,bt (aZ ai),bp aH.e ai,aa,dV (by omega),⟨by omega,by omega⟩,by omega,B2 aw,B1 aH.e aw,bn,bt (aZ ai),bp aH.e ai,aA,cT (aZ ai) au,ad⟩)
  (fun i a ai h=>by
   have hi:=aZ ai;rcases PF ai h with U | ⟨U,aa⟩ | ⟨U,aa,j,b,rfl,aw,aA⟩
   ·exact XQ ⟨b3 (aZ ai),bn,bt (aZ ai),bp aH.e ai,U,ad⟩
   ·exact XR ⟨b3 (aZ ai),bn,bt (aZ ai),bp aH.e ai,U,bn,bt (aZ ai),bp aH.e ai,aa,ad⟩
   exact XS ⟨b3 (aZ ai),bn,bt (aZ ai),bp aH.e ai,U,bn,bt (aZ ai),bp aH.e ai,aa,dV (by omega),⟨by omega,by omega⟩,by omega,B2 aw,B1 aH.e aw,bn,bt (aZ ai),bp aH.e ai,aA,ad⟩)
  (XV ⟨dv,ad⟩)
theorem Z0(w:aR)(au:w.bx.length<=8388608):
  (anyI (kP w.bx) 0 w.bx=false/\c0 prog (aq f139 2) (p0 (w.queue.map aH.e) (w.cn.map aH.e) (w.cb.map aH.e) (w.cells.map Cell.e) (w.bN.map ba) (w.bW.map cu) (w.bB.map cu) (w.bx.map ca.e) 0) (.exit 4) IV)\/
  (anyI (kP w.bx) 0 w.bx=true/\c0 prog (aq f139 2) (p0 (w.queue.map aH.e) (w.cn.map aH.e) (w.cb.map aH.e) (w.cells.map Cell.e) (w.bN.map ba) (w.bW.map cu) (w.bB.map cu) (w.bx.map ca.e) 0) .ret (Cr false)):=by
 have inner:∀(i:Nat) (a:ca),w.bx[i]?=some a->
   (((w.bx.take i).any (fun q=>q.bh==a.bh))=false/\c0 prog (aq f139 3) (ru (w.queue.map aH.e) (w.cn.map aH.e) (w.cb.map aH.e) (w.cells.map Cell.e) (w.bN.map ba) (w.bW.map cu) (w.bB.map cu) (w.bx.map ca.e) i 0) (.exit 6) (JJ (w.queue.map aH.e) (w.cn.map aH.e) (w.cb.map aH.e) (w.cells.map Cell.e) (w.bN.map ba) (w.bW.map cu) (w.bB.map cu) (w.bx.map ca.e) i))\/
   (((w.bx.take i).any (fun q=>q.bh==a.bh))=true/\c0 prog (aq f139 3) (ru (w.queue.map aH.e) (w.cn.map aH.e) (w.cb.map aH.e) (w.cells.map Cell.e) (w.bN.map ba) (w.bW.map cu) (w.bB.map cu) (w.bx.map ca.e) i 0) .ret (Cs false)):=by
  intro i a ai;have hi:=aZ ai;have hlen:(w.bx.take i).length=i:=by rw[qm];omega
  have gf:∀{k:Nat} {b:ca},(w.bx.take i)[k]?=some b->k<i/\w.bx[k]?=some b:=fun {k b} h=>by
   have bc:=aZ h;rw[hlen]at bc;rw[pk,bU bc]at h;exact⟨bc,h⟩
  have l:=gv (P:=prog) (c:=(aq f139 3)) (w.bx.take i) (fun q=>q.bh==a.bh) (fun k=>ru (w.queue.map aH.e) (w.cn.map aH.e) (w.cb.map aH.e) (w.cells.map Cell.e) (w.bN.map ba) (w.bW.map cu) (w.bB.map cu) (w.bx.map ca.e) i k) (X:=fun _ _=>Cs false) eJ (cI 6)
   (fun k b aw h=>by
    obtain⟨bc,aw⟩:=gf aw;exact Xt ⟨dV (by omega),bn,bt (aZ aw),bp ca.e aw,bn,bt (aZ ai),bp ca.e ai,h,cT (aZ aw) au,ad⟩)
   (fun k b aw h=>by
    obtain⟨bc,aw⟩:=gf aw;exact X2 ⟨dV (by omega),bn,bt (aZ aw),bp ca.e aw,bn,bt (aZ ai),bp ca.e ai,h,ad⟩)
   (Xu ⟨eC (by rw[hlen];omega),ad⟩)
  rcases l with⟨_,_,U,aa⟩ | ⟨_,_,_,_,_,_,U,aa⟩
  ·exact .inl ⟨U,aa⟩
  exact .inr ⟨U,aa⟩
 exact sL (P:=prog) (c:=(aq f139 2)) w.bx (kP w.bx) (fun i=>p0 (w.queue.map aH.e) (w.cn.map aH.e) (w.cb.map aH.e) (w.cells.map Cell.e) (w.bN.map ba) (w.bW.map cu) (w.bB.map cu) (w.bx.map ca.e) i) eJ (cI 4)
  (fun i a ai h=>by
   simp only[kP,gh,j6]at h;rcases inner i a ai with⟨e,l⟩ | ⟨e,l⟩
   ·exact Xw ⟨b3 (aZ ai),bn,bt (aZ ai),bp ca.e ai,fi _ _ _ true h.1,rfl,l,cT (aZ ai) au,ad⟩
   rw[h.2]at e;cases e)
  (fun i a ai h=>by
   cases U:av a.bh 0 3 with
   | false=>exact X1 ⟨b3 (aZ ai),bn,bt (aZ ai),bp ca.e ai,fi _ _ _ false U,rfl,ad⟩
   | true=>
    simp only[kP,U,jm,iU]at h;rcases inner i a ai with⟨e,l⟩ | ⟨e,l⟩
    ·rw[h]at e;cases e
    exact Xv ⟨b3 (aZ ai),bn,bt (aZ ai),bp ca.e ai,fi _ _ _ true U,rfl,l,ad⟩)
  (Xx ⟨dv,ad⟩)
theorem B3(g:b1)(w:aR)(ay:g.sz<=8388608)(hw:w.sz<=8388608):ax 139 [.agg g.e,.agg w.e] [.one (B (eA g w))]:=by
 unfold eA;cases U:fv g w.queue with
 | false=>exact XJ ⟨uo g _ _ U ay (aR.De hw),rfl,ad⟩
 | true=>
 have bX:=uo g _ _ U ay (aR.De hw);cases aa:fv g w.cn with
 | false=>exact XK ⟨bX,rfl,uo g _ _ aa ay (aR.Dk hw),rfl,ad⟩
 | true=>
 have cw:=uo g _ _ aa ay (aR.Dk hw);cases aA:fv g w.cb with
 | false=>exact XL ⟨bX,rfl,cw,rfl,uo g _ _ aA ay (aR.vU hw),rfl,ad⟩
 | true=>
 have cR:=uo g _ _ aA ay (aR.vU hw);cases aO:iS w.cells with
 | false=>exact XM ⟨bX,rfl,cw,rfl,cR,rfl,Qc aO (aR.AJ hw),rfl,ad⟩
 | true=>
 have dU:=Qc aO (aR.AJ hw);cases a8:(w.bN.length==4) with
 | false=>exact XN ⟨bX,rfl,cw,rfl,cR,rfl,dU,rfl,sk a8,ad⟩
 | true=>
 cases bG:(w.bW.length==4) with
 | false=>exact XO ⟨bX,rfl,cw,rfl,cR,rfl,dU,rfl,fl a8,sk bG,ad⟩
 | true=>
 cases b9:(w.bB.length==4) with
 | false=>exact XP ⟨bX,rfl,cw,rfl,cR,rfl,dU,rfl,fl a8,fl bG,sk b9,ad⟩
 | true=>
 have q0:w.bN.length=4:=eq_of_beq a8;rcases ZZ w (aR.vU hw) with⟨da,io⟩ | ⟨da,io⟩
 case inr=>rw[da];exact XW ⟨bX,rfl,cw,rfl,cR,rfl,dU,rfl,fl a8,fl bG,fl b9,io,ad⟩
 have mB:=gv (P:=prog) (c:=(aq f139 1)) w.bN l0 (fun i=>sV (w.queue.map aH.e) (w.cn.map aH.e) (w.cb.map aH.e) (w.cells.map Cell.e) (w.bN.map ba) (w.bW.map cu) (w.bB.map cu) (w.bx.map ca.e) i) (X:=fun _ _=>JH false) eJ (cI 2)
  (fun i a ai h=>XY ⟨dV (by have:=aZ ai;omega),bn,bt (aZ ai),bp ba ai,fi _ _ _ true (by simpa[l0]using h),rfl,cT (aZ ai) (aR.S' hw),ad⟩)
  (fun i a ai h=>XX ⟨dV (by have:=aZ ai;omega),bn,bt (aZ ai),bp ba ai,fi _ _ _ false (by simpa[l0]using h),rfl,ad⟩)
  (XZ ⟨eC (by omega),ad⟩)
 rw[da];rcases mB with⟨_,_,dZ,mB⟩ | ⟨_,_,_,_,_,_,dZ,mB⟩
 case inr=>rw[dZ];exact X0 ⟨bX,rfl,cw,rfl,cR,rfl,dU,rfl,fl a8,fl bG,fl b9,io,mB,ad⟩
 rw[dZ];rcases Z0 w (aR.L2 hw) with⟨dw,l10⟩ | ⟨dw,l10⟩
 ·rw[dw];exact Xz ⟨bX,rfl,cw,rfl,cR,rfl,dU,rfl,fl a8,fl bG,fl b9,io,mB,l10,ad⟩
 rw[dw];exact Xy ⟨bX,rfl,cw,rfl,cR,rfl,dU,rfl,fl a8,fl bG,fl b9,io,mB,l10,ad⟩
end Go.Proofs.YthfnndblgbjniaaGreatDoor
namespace Go.Proofs.YthfnndblgbjniaaGreatDoor
open Go.Sx Go.RowKit Go.Proofs.Tryz
theorem Zr(w:aR)(au:w.cb.length<=8388608):
  (anyI (k8 w.cb) 0 w.cb=false/\c0 prog (aq f79 0) (mG (w.cb.map aH.e) 0 (w.queue.map aH.e) (w.cn.map aH.e) (w.cb.map aH.e) (w.cells.map Cell.e) (w.bN.map ba) (w.bW.map cu) (w.bB.map cu) (w.bx.map ca.e)) (.exit 0) (GX (w.queue.map aH.e) (w.cn.map aH.e) (w.cb.map aH.e) (w.cells.map Cell.e) (w.bN.map ba) (w.bW.map cu) (w.bB.map cu) (w.bx.map ca.e)))\/
  (anyI (k8 w.cb) 0 w.cb=true/\c0 prog (aq f79 0) (mG (w.cb.map aH.e) 0 (w.queue.map aH.e) (w.cn.map aH.e) (w.cb.map aH.e) (w.cells.map Cell.e) (w.bN.map ba) (w.bW.map cu) (w.bB.map cu) (w.bx.map ca.e)) .ret (zd false)):=
 sL (P:=prog) (c:=(aq f79 0)) w.cb (k8 w.cb) (fun i=>mG (w.cb.map aH.e) i (w.queue.map aH.e) (w.cn.map aH.e) (w.cb.map aH.e) (w.cells.map Cell.e) (w.bN.map ba) (w.bW.map cu) (w.bB.map cu) (w.bx.map ca.e)) eJ (cI 0)
  (fun i a ai h=>by
   have hi:=aZ ai;obtain⟨U,aa,rfl | ⟨j,b,rfl,aw,aA⟩⟩:=PG ai h
   ·exact Y7 ⟨b3 (aZ ai),bn,bt (aZ ai),bp aH.e ai,U,aa,eC (by omega),cT (aZ ai) au,ad⟩
   exact Y6 ⟨b3 (aZ ai),bn,bt (aZ ai),bp aH.e ai,U,aa,dV (by omega),⟨by omega,by omega⟩,by omega,B2 aw,B1 aH.e aw,aA,cT (aZ ai) au,ad⟩)
  (fun i a ai h=>by
   have hi:=aZ ai;rcases PF ai h with U | ⟨U,aa⟩ | ⟨U,aa,j,b,rfl,aw,aA⟩
   ·exact Y3 ⟨b3 (aZ ai),bn,bt (aZ ai),bp aH.e ai,U,ad⟩
   ·exact Y4 ⟨b3 (aZ ai),bn,bt (aZ ai),bp aH.e ai,U,aa,ad⟩
   exact Y5 ⟨b3 (aZ ai),bn,bt (aZ ai),bp aH.e ai,U,aa,dV (by omega),⟨by omega,by omega⟩,by omega,B2 aw,B1 aH.e aw,aA,ad⟩)
  (Y8 ⟨dv,ad⟩)
theorem PH(xs:List ca)(i:Nat)(e:Int)(r:Bool)(h:(xs.take i).any (fun q=>q.bh==e)=r)(au:xs.length<=8388608):ax 82 [.one (.J 2 ((xs.map ca.e).take i)),.one (I e)] [.one (B r)]:=by
 have c:=Q' (xs.take i) e (by rw[qm];omega);rw[tk,h]at c;exact c
theorem Zs(w:aR)(au:w.bx.length<=8388608):
  (anyI (kP w.bx) 0 w.bx=false/\c0 prog (aq f79 2) (p1 (w.bx.map ca.e) 0 (w.queue.map aH.e) (w.cn.map aH.e) (w.cb.map aH.e) (w.cells.map Cell.e) (w.bN.map ba) (w.bW.map cu) (w.bB.map cu) (w.bx.map ca.e)) (.exit 4) IY)\/
  (anyI (kP w.bx) 0 w.bx=true/\c0 prog (aq f79 2) (p1 (w.bx.map ca.e) 0 (w.queue.map aH.e) (w.cn.map aH.e) (w.cb.map aH.e) (w.cells.map Cell.e) (w.bN.map ba) (w.bW.map cu) (w.bB.map cu) (w.bx.map ca.e)) .ret (Ct false)):=
 sL (P:=prog) (c:=(aq f79 2)) w.bx (kP w.bx) (fun i=>p1 (w.bx.map ca.e) i (w.queue.map aH.e) (w.cn.map aH.e) (w.cb.map aH.e) (w.cells.map Cell.e) (w.bN.map ba) (w.bW.map cu) (w.bB.map cu) (w.bx.map ca.e)) eJ (cI 4)
  (fun i a ai h=>by
   have hi:=aZ ai;simp only[kP,gh,j6]at h;exact Zi ⟨b3 (aZ ai),bn,bt (aZ ai),bp ca.e ai,iv true h.1,rfl,Int.le_refl 0,(bn:(0:Int)<=(i:Int)),(show (i:Int)<=_ by rw[cr];omega),PH w.bx i a.bh false h.2 au,rfl,cT (aZ ai) au,ad⟩)
  (fun i a ai h=>by
   have hi:=aZ ai;cases U:av a.bh 0 3 with
   | false=>exact Zg ⟨b3 (aZ ai),bn,bt (aZ ai),bp ca.e ai,iv false U,rfl,ad⟩
   | true=>
    simp only[kP,U,jm,iU]at h;exact Zh ⟨b3 (aZ ai),bn,bt (aZ ai),bp ca.e ai,iv true U,rfl,Int.le_refl 0,(bn:(0:Int)<=(i:Int)),(show (i:Int)<=_ by rw[cr];omega),PH w.bx i a.bh true h au,rfl,ad⟩)
  (Zj ⟨dv,ad⟩)
theorem PI(g:b1)(w:aR)(ay:g.sz<=8388608)(hw:w.sz<=8388608):ax 79 [.agg g.e,.agg w.e] [.one (B (eA g w))]:=by
 unfold eA;cases U:fv g w.queue with
 | false=>exact XA ⟨uq g _ _ U ay (aR.De hw),rfl,ad⟩
 | true=>
 have bX:=uq g _ _ U ay (aR.De hw);cases aa:fv g w.cn with
 | false=>exact XB ⟨bX,rfl,uq g _ _ aa ay (aR.Dk hw),rfl,ad⟩
 | true=>
 have cw:=uq g _ _ aa ay (aR.Dk hw);cases aA:fv g w.cb with
 | false=>exact XC ⟨bX,rfl,cw,rfl,uq g _ _ aA ay (aR.vU hw),rfl,ad⟩
 | true=>
 have cR:=uq g _ _ aA ay (aR.vU hw);cases aO:iS w.cells with
 | false=>exact Y2 ⟨bX,rfl,cw,rfl,cR,rfl,Qd aO (aR.AJ hw),rfl,ad⟩
 | true=>
 have dU:=Qd aO (aR.AJ hw);rcases Zr w (aR.vU hw) with⟨da,io⟩ | ⟨da,io⟩
 case inr=>
  rw[da];simp only[jm,Bool.false_and,Bool.and_false];exact Y9 ⟨bX,rfl,cw,rfl,cR,rfl,dU,rfl,io,ad⟩
 cases a8:(w.bN.length==4) with
 | false=>exact Y' ⟨bX,rfl,cw,rfl,cR,rfl,dU,rfl,io,sk a8,ad⟩
 | true=>
 cases bG:(w.bW.length==4) with
 | false=>exact Za ⟨bX,rfl,cw,rfl,cR,rfl,dU,rfl,io,fl a8,sk bG,ad⟩
 | true=>
 cases b9:(w.bB.length==4) with
 | false=>exact Zb ⟨bX,rfl,cw,rfl,cR,rfl,dU,rfl,io,fl a8,fl bG,sk b9,ad⟩
 | true=>
 have mB:=gv (P:=prog) (c:=(aq f79 1)) w.bN l0 (fun i=>sW (w.queue.map aH.e) (w.cn.map aH.e) (w.cb.map aH.e) (w.cells.map Cell.e) (w.bN.map ba) (w.bW.map cu) (w.bB.map cu) (w.bx.map ca.e) i) (X:=fun _ _=>IW false) eJ (cI 2)
  (fun i a ai h=>Zd ⟨b3 (aZ ai),bn,bt (aZ ai),bp ba ai,iv true (by simpa[l0]using h),rfl,cT (aZ ai) (aR.S' hw),ad⟩)
  (fun i a ai h=>Zc ⟨b3 (aZ ai),bn,bt (aZ ai),bp ba ai,iv false (by simpa[l0]using h),rfl,ad⟩)
  (Ze ⟨dv,ad⟩)
 rw[da];rcases mB with⟨_,_,dZ,mB⟩ | ⟨_,_,_,_,_,_,dZ,mB⟩
 case inr=>rw[dZ];exact Zf ⟨bX,rfl,cw,rfl,cR,rfl,dU,rfl,io,fl a8,fl bG,fl b9,mB,ad⟩
 rw[dZ];rcases Zs w (aR.L2 hw) with⟨dw,l10⟩ | ⟨dw,l10⟩
 ·rw[dw];exact Zl ⟨bX,rfl,cw,rfl,cR,rfl,dU,rfl,io,fl a8,fl bG,fl b9,mB,l10,ad⟩
 rw[dw];exact Zk ⟨bX,rfl,cw,rfl,cR,rfl,dU,rfl,io,fl a8,fl bG,fl b9,mB,l10,ad⟩
end Go.Proofs.YthfnndblgbjniaaGreatDoor
namespace Go.Proofs.YthfnndblgbjniaaGreatDoor
open Go.Sx Go.RowKit Go.Proofs.Tryz
variable{c:bb}
theorem nh(h:c.sz<=8388608):c.aG.sz<=8388608:=by grind[bb.sz]
theorem PJ(h:c.sz<=8388608):c.tokens.length<=8388608:=by grind[bb.sz,eO]
theorem zj(h:c.sz<=8388608):c.news.length<=8388608:=by grind[bb.sz,eO]
def ix(g:b1)(i:Nat)(l:bA):Bool:=
 !iw l||((l.cap != g.cap)||(!fv g l.queue||((i:Int).tdiv g.aB==(i:Int).tmod g.aB&&decide ((l.queue.length:Int)>0))))
def j2(n:Int)(t:b4):Bool:=!av t.place 0 (n-1)||((!t.going&&t.place != 0)||!av t.sum (-1000000) 1000000)
def j3(n:Int)(x:bR):Bool:=!av x.dest 0 (n-1)||!av x.bh 0 3
def cO(c:bb):Bool:=
 ei c.aG&&(((c.aB.length:Int)==c.aG.aB)&&(((c.b2.length:Int)==c.aG.aB*c.aG.aB)&&((c.tokens.length==4)&&(!(c.aB.any fun w=>!eA c.aG w)&&(!(anyI (ix c.aG) 0 c.b2)&&(!(c.tokens.any (j2 c.aG.aB))&&!(c.news.any (j3 c.aG.aB))))))))
theorem mQ{g:b1}(h:ei g=true):1<=g.aB/\g.aB<=4:=by
 simp_all[ei,cJ,av,cW]
theorem wO(i:Nat)(n:Int)(hi:i<=8388608)(a7:1<=n):aK .i64 ((i:Int).tdiv n):=by
 have U:0<=(i:Int).tdiv n:=Int.tdiv_nonneg (by omega) (by omega);have aa:(i:Int).tdiv n<=(i:Int):=Int.tdiv_le_self _ (by omega);exact⟨by omega,by omega⟩
theorem Zt(h:c.wf){l:bA}(au:l∈c.b2):l.dd<=9223372036854775807:=by
 have:=(bb.GC h au).L8;grind[aK]
def gi(c:bb):Prop:=∀l∈c.b2,l.dd<=9223372036854775807
theorem gi.of(h:c.wf):gi c:=fun _ au=>Zt h au
theorem Zu(c:bb)(ap:c.sz<=8388608)(a7:(c.aB.length:Int)=c.aG.aB):
  ((c.aB.any fun w=>!eA c.aG w)=false/\c0 prog (aq f84 0) (rb (c.aG.nodes.map Node.e) c.aG.aB c.aG.cap (c.aB.map aR.e) (c.b2.map bA.e) (c.tokens.map b4.e) (c.news.map bR.e) 0) (.exit 0) (GY (c.aG.nodes.map Node.e) c.aG.aB c.aG.cap (c.aB.map aR.e) (c.b2.map bA.e) (c.tokens.map b4.e) (c.news.map bR.e)))\/
  ((c.aB.any fun w=>!eA c.aG w)=true/\c0 prog (aq f84 0) (rb (c.aG.nodes.map Node.e) c.aG.aB c.aG.cap (c.aB.map aR.e) (c.b2.map bA.e) (c.tokens.map b4.e) (c.news.map bR.e) 0) .ret (BV false)):=by
 have au:=bb.vf ap;have l:=gv (P:=prog) (c:=(aq f84 0)) c.aB (fun w=>!eA c.aG w) (fun i=>rb (c.aG.nodes.map Node.e) c.aG.aB c.aG.cap (c.aB.map aR.e) (c.b2.map bA.e) (c.tokens.map b4.e) (c.news.map bR.e) i) (X:=fun _ _=>BV false) eJ (cI 0)
  (fun i a ai h=>by
   have k:=B3 c.aG a (nh ap) (bb.vg ap (ee ai));rw[show eA c.aG a=true by simpa using h]at k;exact Y0 ⟨dV (by grind),bn,bt (aZ ai),bp aR.e ai,k,rfl,cT (aZ ai) au,ad⟩)
  (fun i a ai h=>by
   have k:=B3 c.aG a (nh ap) (bb.vg ap (ee ai));rw[show eA c.aG a=false by simpa using h]at k;exact YZ ⟨dV (by grind),bn,bt (aZ ai),bp aR.e ai,k,rfl,ad⟩)
  (Y1 ⟨eC (by omega),ad⟩)
 grind
theorem Zv(c:bb)(ap:c.sz<=8388608)(hw:gi c)(a7:1<=c.aG.aB):
  (anyI (ix c.aG) 0 c.b2=false/\c0 prog (aq f84 1) (kN c.aG.aB 0 (c.aG.nodes.map Node.e) c.aG.aB c.aG.cap (c.aB.map aR.e) (c.b2.map bA.e) (c.tokens.map b4.e) (c.news.map bR.e)) (.exit 2) (ze c.aG.aB (c.aG.nodes.map Node.e) c.aG.aB c.aG.cap (c.aB.map aR.e) (c.b2.map bA.e) (c.tokens.map b4.e) (c.news.map bR.e)))\/
  (anyI (ix c.aG) 0 c.b2=true/\c0 prog (aq f84 1) (kN c.aG.aB 0 (c.aG.nodes.map Node.e) c.aG.aB c.aG.cap (c.aB.map aR.e) (c.b2.map bA.e) (c.tokens.map b4.e) (c.news.map bR.e)) .ret (wM false)):=by
 have au:=bb.Bo ap;have k':∀(i:Nat) (a:bA),c.b2[i]?=some a->∀r,iw a=r->ax 140 [.agg a.e] [.one (B r)]:=fun i a ai r h=>h▸B0 a (bb.Bn ap (ee ai))
 have iQ:∀(i:Nat) (a:bA),c.b2[i]?=some a->∀r,fv c.aG a.queue=r->ax 141 [.agg c.aG.e,.one (.J 5 (a.queue.map aH.e))] [.one (B r)]:=fun i a ai r h=>uo c.aG _ r h (nh ap) (bb.Bn ap (ee ai))
 exact sL (P:=prog) (c:=(aq f84 1)) c.b2 (ix c.aG) (fun i=>kN c.aG.aB i (c.aG.nodes.map Node.e) c.aG.aB c.aG.cap (c.aB.map aR.e) (c.b2.map bA.e) (c.tokens.map b4.e) (c.news.map bR.e)) eJ (cI 2)
  (fun i a ai h=>by
   have hi:=aZ ai;simp only[ix,gh,j6]at h;obtain⟨U,aa,aA,aO⟩:=h;cases a8:((i:Int).tdiv c.aG.aB==(i:Int).tmod c.aG.aB) with
   | true=>
    rw[a8,n9]at aO;exact Yx ⟨b3 (aZ ai),bn,bt (aZ ai),bp bA.e ai,k' i a ai _ U,rfl,aa,iQ i a ai _ aA,rfl,by omega,wO i _ (by omega) a7,by omega,a8,by grind,cT hi au,ad⟩
   | false=>exact Yy ⟨b3 (aZ ai),bn,bt (aZ ai),bp bA.e ai,k' i a ai _ U,rfl,aa,iQ i a ai _ aA,rfl,by omega,wO i _ (by omega) a7,by omega,a8,cT hi au,ad⟩)
  (fun i a ai h=>by
   have hi:=aZ ai;cases U:iw a with
   | false=>exact Yt ⟨b3 (aZ ai),bn,bt (aZ ai),bp bA.e ai,k' i a ai _ U,rfl,ad⟩
   | true=>
   cases aa:(a.cap != c.aG.cap) with
   | true=>exact Yu ⟨b3 (aZ ai),bn,bt (aZ ai),bp bA.e ai,k' i a ai _ U,rfl,aa,ad⟩
   | false=>
   cases aA:fv c.aG a.queue with
   | false=>exact Yv ⟨b3 (aZ ai),bn,bt (aZ ai),bp bA.e ai,k' i a ai _ U,rfl,aa,iQ i a ai _ aA,rfl,ad⟩
   | true=>
   simp only[ix,U,aa,aA,jm,iU,cJ]at h;exact Yw ⟨b3 (aZ ai),bn,bt (aZ ai),bp bA.e ai,k' i a ai _ U,rfl,aa,iQ i a ai _ aA,rfl,by omega,wO i _ (by omega) a7,by omega,h.1,by grind,ad⟩)
  (Yz ⟨dv,ad⟩)
theorem Zw(c:bb)(ap:c.sz<=8388608)(a7:1<=c.aG.aB/\c.aG.aB<=4):
  ((c.tokens.any (j2 c.aG.aB))=false/\c0 prog (aq f84 2) (lj c.aG.aB (c.aG.nodes.map Node.e) c.aG.aB c.aG.cap (c.aB.map aR.e) (c.b2.map bA.e) (c.tokens.map b4.e) (c.news.map bR.e) 0) (.exit 4) (BW c.aG.aB (c.aG.nodes.map Node.e) c.aG.aB c.aG.cap (c.aB.map aR.e) (c.b2.map bA.e) (c.tokens.map b4.e) (c.news.map bR.e)))\/
  ((c.tokens.any (j2 c.aG.aB))=true/\c0 prog (aq f84 2) (lj c.aG.aB (c.aG.nodes.map Node.e) c.aG.aB c.aG.cap (c.aB.map aR.e) (c.b2.map bA.e) (c.tokens.map b4.e) (c.news.map bR.e) 0) .ret (uk false)):=by
 have au:=PJ ap;have l:=gv (P:=prog) (c:=(aq f84 2)) c.tokens (j2 c.aG.aB) (fun i=>lj c.aG.aB (c.aG.nodes.map Node.e) c.aG.aB c.aG.cap (c.aB.map aR.e) (c.b2.map bA.e) (c.tokens.map b4.e) (c.news.map bR.e) i) (X:=fun _ _=>uk false) eJ (cI 4)
  (fun i a ai h=>by
   have hi:=aZ ai;simp only[j2,gh,j6]at h;obtain⟨U,aa,aA⟩:=h;cases ay:a.going with
   | false=>
    rw[ay,n8,n9]at aa;exact Z3 ⟨b3 (aZ ai),bn,bt (aZ ai),bp b4.e ai,⟨by omega,by omega⟩,fi _ _ _ true U,rfl,bn,bt (aZ ai),bp b4.e ai,by rw[ay];rfl,bn,bt (aZ ai),bp b4.e ai,aa,bn,bt (aZ ai),bp b4.e ai,fi _ _ _ true aA,rfl,cT hi au,ad⟩
   | true=>exact Z5 ⟨b3 (aZ ai),bn,bt (aZ ai),bp b4.e ai,⟨by omega,by omega⟩,fi _ _ _ true U,rfl,bn,bt (aZ ai),bp b4.e ai,by rw[ay];rfl,bn,bt (aZ ai),bp b4.e ai,fi _ _ _ true aA,rfl,cT hi au,ad⟩)
  (fun i a ai h=>by
   have hi:=aZ ai;cases U:av a.place 0 (c.aG.aB-1) with
   | false=>exact YB ⟨b3 (aZ ai),bn,bt (aZ ai),bp b4.e ai,⟨by omega,by omega⟩,fi _ _ _ false U,rfl,ad⟩
   | true=>
   simp only[j2,U,jm,iU]at h;cases ay:a.going with
   | false=>
    rw[ay,n8,n9]at h;cases aa:(a.place != 0) with
    | true=>exact Z1 ⟨b3 (aZ ai),bn,bt (aZ ai),bp b4.e ai,⟨by omega,by omega⟩,fi _ _ _ true U,rfl,bn,bt (aZ ai),bp b4.e ai,by rw[ay];rfl,bn,bt (aZ ai),bp b4.e ai,aa,ad⟩
    | false=>
     rw[aa,iU]at h;exact Z2 ⟨b3 (aZ ai),bn,bt (aZ ai),bp b4.e ai,⟨by omega,by omega⟩,fi _ _ _ true U,rfl,bn,bt (aZ ai),bp b4.e ai,by rw[ay];rfl,bn,bt (aZ ai),bp b4.e ai,aa,bn,bt (aZ ai),bp b4.e ai,fi _ _ _ false (by simpa using h),rfl,ad⟩
   | true=>
    rw[ay,jm,Bool.false_and,iU]at h;exact Z4 ⟨b3 (aZ ai),bn,bt (aZ ai),bp b4.e ai,⟨by omega,by omega⟩,fi _ _ _ true U,rfl,bn,bt (aZ ai),bp b4.e ai,by rw[ay];rfl,bn,bt (aZ ai),bp b4.e ai,fi _ _ _ false (by simpa using h),rfl,ad⟩)
  (Z6 ⟨dv,ad⟩)
 grind
theorem Zx(c:bb)(ap:c.sz<=8388608)(a7:1<=c.aG.aB/\c.aG.aB<=4):
  ((c.news.any (j3 c.aG.aB))=false/\c0 prog (aq f84 3) (p2 c.aG.aB (c.aG.nodes.map Node.e) c.aG.aB c.aG.cap (c.aB.map aR.e) (c.b2.map bA.e) (c.tokens.map b4.e) (c.news.map bR.e) 0) (.exit 6) I1)\/
  ((c.news.any (j3 c.aG.aB))=true/\c0 prog (aq f84 3) (p2 c.aG.aB (c.aG.nodes.map Node.e) c.aG.aB c.aG.cap (c.aB.map aR.e) (c.b2.map bA.e) (c.tokens.map b4.e) (c.news.map bR.e) 0) .ret (zf false)):=by
 have au:=zj ap;have l:=gv (P:=prog) (c:=(aq f84 3)) c.news (j3 c.aG.aB) (fun i=>p2 c.aG.aB (c.aG.nodes.map Node.e) c.aG.aB c.aG.cap (c.aB.map aR.e) (c.b2.map bA.e) (c.tokens.map b4.e) (c.news.map bR.e) i) (X:=fun _ _=>zf false) eJ (cI 6)
  (fun i a ai h=>by
   have hi:=aZ ai;simp only[j3,gh,j6]at h;exact Z' ⟨b3 (aZ ai),bn,bt (aZ ai),bp bR.e ai,⟨by omega,by omega⟩,fi _ _ _ true h.1,rfl,bn,bt (aZ ai),bp bR.e ai,fi _ _ _ true h.2,rfl,cT hi au,ad⟩)
  (fun i a ai h=>by
   have hi:=aZ ai;cases U:av a.dest 0 (c.aG.aB-1) with
   | false=>exact Z8 ⟨b3 (aZ ai),bn,bt (aZ ai),bp bR.e ai,⟨by omega,by omega⟩,fi _ _ _ false U,rfl,ad⟩
   | true=>
    simp only[j3,U,jm,iU]at h;exact Z9 ⟨b3 (aZ ai),bn,bt (aZ ai),bp bR.e ai,⟨by omega,by omega⟩,fi _ _ _ true U,rfl,bn,bt (aZ ai),bp bR.e ai,fi _ _ _ false (by simpa using h),rfl,ad⟩)
  (aab ⟨dv,ad⟩)
 grind
theorem Zy(c:bb)(ap:c.sz<=8388608)(hw:gi c):ax 84 [.agg c.e] [.one (B (cO c))]:=by
 have ay:=wL c.aG (nh ap);unfold cO;cases U:ei c.aG with
 | false=>rw[U]at ay;exact YV ⟨ay,rfl,ad⟩
 | true=>
 rw[U]at ay;have a7:=mQ U;have aM:aK .i64 (c.aG.aB*c.aG.aB):=by
  have aA:c.aG.aB=1\/c.aG.aB=2\/c.aG.aB=3\/c.aG.aB=4:=by omega
  rcases aA with aA | aA | aA | aA<;>(rw[aA];exact⟨by decide,by decide⟩)
 cases aa:((c.aB.length:Int)==c.aG.aB) with
 | false=>exact YW ⟨ay,rfl,by grind,ad⟩
 | true=>
 have v2:((↑(c.aB.map aR.e).length:Int) != c.aG.aB)=false:=by grind
 cases aA:((c.b2.length:Int)==c.aG.aB*c.aG.aB) with
 | false=>exact YX ⟨ay,rfl,v2,aM,by grind,ad⟩
 | true=>
 have v3:((↑(c.b2.map bA.e).length:Int) != c.aG.aB*c.aG.aB)=false:=by grind
 cases aO:(c.tokens.length==4) with
 | false=>exact YY ⟨ay,rfl,v2,aM,v3,sk aO,ad⟩
 | true=>
 rcases Zu c ap (eq_of_beq aa) with⟨a8,mA⟩ | ⟨a8,mA⟩
 case inr=>rw[a8];exact Ys ⟨ay,rfl,v2,aM,v3,fl aO,mA,ad⟩
 rw[a8];rcases Zv c ap hw a7.1 with⟨bG,oI⟩ | ⟨bG,oI⟩
 case inr=>rw[bG];exact YA ⟨ay,rfl,v2,aM,v3,fl aO,mA,oI,ad⟩
 rw[bG];rcases Zw c ap a7 with⟨b9,q8⟩ | ⟨b9,q8⟩
 case inr=>rw[b9];exact Z7 ⟨ay,rfl,v2,aM,v3,fl aO,mA,oI,q8,ad⟩
 rw[b9];rcases Zx c ap a7 with⟨da,io⟩ | ⟨da,io⟩
 ·rw[da];exact aad ⟨ay,rfl,v2,aM,v3,fl aO,mA,oI,q8,io,ad⟩
 rw[da];exact aac ⟨ay,rfl,v2,aM,v3,fl aO,mA,oI,q8,io,ad⟩
theorem Zz(c:bb)(ap:c.sz<=8388608)(a7:(c.aB.length:Int)=c.aG.aB):
  ((c.aB.any fun w=>!eA c.aG w)=false/\c0 prog (aq f41 0) (rc c.aG.aB (c.aB.map aR.e) 0 (c.aG.nodes.map Node.e) c.aG.aB c.aG.cap (c.aB.map aR.e) (c.b2.map bA.e) (c.tokens.map b4.e) (c.news.map bR.e)) (.exit 0) (GZ c.aG.aB (c.aG.nodes.map Node.e) c.aG.aB c.aG.cap (c.aB.map aR.e) (c.b2.map bA.e) (c.tokens.map b4.e) (c.news.map bR.e)))\/
  ((c.aB.any fun w=>!eA c.aG w)=true/\c0 prog (aq f41 0) (rc c.aG.aB (c.aB.map aR.e) 0 (c.aG.nodes.map Node.e) c.aG.aB c.aG.cap (c.aB.map aR.e) (c.b2.map bA.e) (c.tokens.map b4.e) (c.news.map bR.e)) .ret (BX false)):=by
 have au:=bb.vf ap;have l:=gv (P:=prog) (c:=(aq f41 0)) c.aB (fun w=>!eA c.aG w) (fun i=>rc c.aG.aB (c.aB.map aR.e) i (c.aG.nodes.map Node.e) c.aG.aB c.aG.cap (c.aB.map aR.e) (c.b2.map bA.e) (c.tokens.map b4.e) (c.news.map bR.e)) (X:=fun _ _=>BX false) eJ (cI 0)
  (fun i a ai h=>by
   have k:=PI c.aG a (nh ap) (bb.vg ap (ee ai));rw[show eA c.aG a=true by simpa using h]at k;exact aaj ⟨b3 (aZ ai),bn,bt (aZ ai),bp aR.e ai,k,rfl,cT (aZ ai) au,ad⟩)
  (fun i a ai h=>by
   have k:=PI c.aG a (nh ap) (bb.vg ap (ee ai));rw[show eA c.aG a=false by simpa using h]at k;exact aai ⟨b3 (aZ ai),bn,bt (aZ ai),bp aR.e ai,k,rfl,ad⟩)
  (aak ⟨dv,ad⟩)
 grind
theorem ZA(c:bb)(ap:c.sz<=8388608)(hw:gi c)(a7:1<=c.aG.aB):
  (anyI (ix c.aG) 0 c.b2=false/\c0 prog (aq f41 1) (kO c.aG.aB (c.b2.map bA.e) 0 (c.aG.nodes.map Node.e) c.aG.aB c.aG.cap (c.aB.map aR.e) (c.b2.map bA.e) (c.tokens.map b4.e) (c.news.map bR.e)) (.exit 2) (zg c.aG.aB (c.aG.nodes.map Node.e) c.aG.aB c.aG.cap (c.aB.map aR.e) (c.b2.map bA.e) (c.tokens.map b4.e) (c.news.map bR.e)))\/
  (anyI (ix c.aG) 0 c.b2=true/\c0 prog (aq f41 1) (kO c.aG.aB (c.b2.map bA.e) 0 (c.aG.nodes.map Node.e) c.aG.aB c.aG.cap (c.aB.map aR.e) (c.b2.map bA.e) (c.tokens.map b4.e) (c.news.map bR.e)) .ret (wN false)):=by
 have au:=bb.Bo ap;have k':∀(i:Nat) (a:bA),c.b2[i]?=some a->∀r,iw a=r->ax 80 [.agg a.e] [.one (B r)]:=fun i a ai r h=>h▸ZY a (bb.Bn ap (ee ai)) (hw _ (ee ai))
 have iQ:∀(i:Nat) (a:bA),c.b2[i]?=some a->∀r,fv c.aG a.queue=r->ax 81 [.agg c.aG.e,.one (.J 5 (a.queue.map aH.e))] [.one (B r)]:=fun i a ai r h=>uq c.aG _ r h (nh ap) (bb.Bn ap (ee ai))
 exact sL (P:=prog) (c:=(aq f41 1)) c.b2 (ix c.aG) (fun i=>kO c.aG.aB (c.b2.map bA.e) i (c.aG.nodes.map Node.e) c.aG.aB c.aG.cap (c.aB.map aR.e) (c.b2.map bA.e) (c.tokens.map b4.e) (c.news.map bR.e)) eJ (cI 2)
  (fun i a ai h=>by
   have hi:=aZ ai;simp only[ix,gh,j6]at h;obtain⟨U,aa,aA,aO⟩:=h;cases a8:((i:Int).tdiv c.aG.aB==(i:Int).tmod c.aG.aB) with
   | true=>
    rw[a8,n9]at aO;exact aaq ⟨b3 (aZ ai),bn,bt (aZ ai),bp bA.e ai,k' i a ai _ U,rfl,aa,iQ i a ai _ aA,rfl,by omega,wO i _ (by omega) a7,by omega,a8,by grind,cT hi au,ad⟩
   | false=>exact ZB ⟨b3 (aZ ai),bn,bt (aZ ai),bp bA.e ai,k' i a ai _ U,rfl,aa,iQ i a ai _ aA,rfl,by omega,wO i _ (by omega) a7,by omega,a8,cT hi au,ad⟩)
  (fun i a ai h=>by
   have hi:=aZ ai;cases U:iw a with
   | false=>exact aam ⟨b3 (aZ ai),bn,bt (aZ ai),bp bA.e ai,k' i a ai _ U,rfl,ad⟩
   | true=>
   cases aa:(a.cap != c.aG.cap) with
   | true=>exact aan ⟨b3 (aZ ai),bn,bt (aZ ai),bp bA.e ai,k' i a ai _ U,rfl,aa,ad⟩
   | false=>
   cases aA:fv c.aG a.queue with
   | false=>exact aao ⟨b3 (aZ ai),bn,bt (aZ ai),bp bA.e ai,k' i a ai _ U,rfl,aa,iQ i a ai _ aA,rfl,ad⟩
   | true=>
   simp only[ix,U,aa,aA,jm,iU,cJ]at h;exact aap ⟨b3 (aZ ai),bn,bt (aZ ai),bp bA.e ai,k' i a ai _ U,rfl,aa,iQ i a ai _ aA,rfl,by omega,wO i _ (by omega) a7,by omega,h.1,by grind,ad⟩)
  (ZC ⟨dv,ad⟩)
theorem aa1(c:bb)(ap:c.sz<=8388608)(a7:1<=c.aG.aB/\c.aG.aB<=4):
  ((c.tokens.any (j2 c.aG.aB))=false/\c0 prog (aq f41 2) (lk c.aG.aB (c.tokens.map b4.e) 0 (c.aG.nodes.map Node.e) c.aG.aB c.aG.cap (c.aB.map aR.e) (c.b2.map bA.e) (c.tokens.map b4.e) (c.news.map bR.e)) (.exit 4) (BY c.aG.aB (c.aG.nodes.map Node.e) c.aG.aB c.aG.cap (c.aB.map aR.e) (c.b2.map bA.e) (c.tokens.map b4.e) (c.news.map bR.e)))\/
  ((c.tokens.any (j2 c.aG.aB))=true/\c0 prog (aq f41 2) (lk c.aG.aB (c.tokens.map b4.e) 0 (c.aG.nodes.map Node.e) c.aG.aB c.aG.cap (c.aB.map aR.e) (c.b2.map bA.e) (c.tokens.map b4.e) (c.news.map bR.e)) .ret (um false)):=by
 have au:=PJ ap;have l:=gv (P:=prog) (c:=(aq f41 2)) c.tokens (j2 c.aG.aB) (fun i=>lk c.aG.aB (c.tokens.map b4.e) i (c.aG.nodes.map Node.e) c.aG.aB c.aG.cap (c.aB.map aR.e) (c.b2.map bA.e) (c.tokens.map b4.e) (c.news.map bR.e)) (X:=fun _ _=>um false) eJ (cI 4)
  (fun i a ai h=>by
   have hi:=aZ ai;simp only[j2,gh,j6]at h;obtain⟨U,aa,aA⟩:=h;cases ay:a.going with
   | false=>
    rw[ay,n8,n9]at aa;exact ZH ⟨b3 (aZ ai),bn,bt (aZ ai),bp b4.e ai,⟨by omega,by omega⟩,iv true U,rfl,by rw[ay];rfl,aa,iv true aA,rfl,cT hi au,ad⟩
   | true=>exact ZJ ⟨b3 (aZ ai),bn,bt (aZ ai),bp b4.e ai,⟨by omega,by omega⟩,iv true U,rfl,by rw[ay];rfl,iv true aA,rfl,cT hi au,ad⟩)
  (fun i a ai h=>by
   have hi:=aZ ai;cases U:av a.place 0 (c.aG.aB-1) with
   | false=>exact ZE ⟨b3 (aZ ai),bn,bt (aZ ai),bp b4.e ai,⟨by omega,by omega⟩,iv false U,rfl,ad⟩
   | true=>
   simp only[j2,U,jm,iU]at h;cases ay:a.going with
   | false=>
    rw[ay,n8,n9]at h;cases aa:(a.place != 0) with
    | true=>exact ZF ⟨b3 (aZ ai),bn,bt (aZ ai),bp b4.e ai,⟨by omega,by omega⟩,iv true U,rfl,by rw[ay];rfl,aa,ad⟩
    | false=>
     rw[aa,iU]at h;exact ZG ⟨b3 (aZ ai),bn,bt (aZ ai),bp b4.e ai,⟨by omega,by omega⟩,iv true U,rfl,by rw[ay];rfl,aa,iv false (by simpa using h),rfl,ad⟩
   | true=>
    rw[ay,jm,Bool.false_and,iU]at h;exact ZI ⟨b3 (aZ ai),bn,bt (aZ ai),bp b4.e ai,⟨by omega,by omega⟩,iv true U,rfl,by rw[ay];rfl,iv false (by simpa using h),rfl,ad⟩)
  (ZK ⟨dv,ad⟩)
 grind
theorem aa2(c:bb)(ap:c.sz<=8388608)(a7:1<=c.aG.aB/\c.aG.aB<=4):
  ((c.news.any (j3 c.aG.aB))=false/\c0 prog (aq f41 3) (p3 c.aG.aB (c.news.map bR.e) 0) (.exit 6) I2)\/
  ((c.news.any (j3 c.aG.aB))=true/\c0 prog (aq f41 3) (p3 c.aG.aB (c.news.map bR.e) 0) .ret (zh false)):=by
 have au:=zj ap;have l:=gv (P:=prog) (c:=(aq f41 3)) c.news (j3 c.aG.aB) (fun i=>p3 c.aG.aB (c.news.map bR.e) i) (X:=fun _ _=>zh false) eJ (cI 6)
  (fun i a ai h=>by
   have hi:=aZ ai;simp only[j3,gh,j6]at h;exact ZO ⟨b3 (aZ ai),bn,bt (aZ ai),bp bR.e ai,⟨by omega,by omega⟩,iv true h.1,rfl,iv true h.2,rfl,cT hi au,ad⟩)
  (fun i a ai h=>by
   have hi:=aZ ai;cases U:av a.dest 0 (c.aG.aB-1) with
   | false=>exact ZM ⟨b3 (aZ ai),bn,bt (aZ ai),bp bR.e ai,⟨by omega,by omega⟩,iv false U,rfl,ad⟩
   | true=>
    simp only[j3,U,jm,iU]at h;exact ZN ⟨b3 (aZ ai),bn,bt (aZ ai),bp bR.e ai,⟨by omega,by omega⟩,iv true U,rfl,iv false (by simpa using h),rfl,ad⟩)
  (ZP ⟨dv,ad⟩)
 grind
theorem aa3(c:bb)(ap:c.sz<=8388608)(hw:gi c):ax 41 [.agg c.e] [.one (B (cO c))]:=by
 have ay:=X7 c.aG (nh ap);unfold cO;cases U:ei c.aG with
 | false=>rw[U]at ay;exact aae ⟨ay,rfl,ad⟩
 | true=>
 rw[U]at ay;have a7:=mQ U;have aM:aK .i64 (c.aG.aB*c.aG.aB):=by
  have aA:c.aG.aB=1\/c.aG.aB=2\/c.aG.aB=3\/c.aG.aB=4:=by omega
  rcases aA with aA | aA | aA | aA<;>(rw[aA];exact⟨by decide,by decide⟩)
 cases aa:((c.aB.length:Int)==c.aG.aB) with
 | false=>exact aaf ⟨ay,rfl,by grind,ad⟩
 | true=>
 have v2:((↑(c.aB.map aR.e).length:Int) != c.aG.aB)=false:=by grind
 cases aA:((c.b2.length:Int)==c.aG.aB*c.aG.aB) with
 | false=>exact aag ⟨ay,rfl,v2,aM,by grind,ad⟩
 | true=>
 have v3:((↑(c.b2.map bA.e).length:Int) != c.aG.aB*c.aG.aB)=false:=by grind
 cases aO:(c.tokens.length==4) with
 | false=>exact aah ⟨ay,rfl,v2,aM,v3,sk aO,ad⟩
 | true=>
 rcases Zz c ap (eq_of_beq aa) with⟨a8,mA⟩ | ⟨a8,mA⟩
 case inr=>rw[a8];exact aal ⟨ay,rfl,v2,aM,v3,fl aO,mA,ad⟩
 rw[a8];rcases ZA c ap hw a7.1 with⟨bG,oI⟩ | ⟨bG,oI⟩
 case inr=>rw[bG];exact ZD ⟨ay,rfl,v2,aM,v3,fl aO,mA,oI,ad⟩
 rw[bG];rcases aa1 c ap a7 with⟨b9,q8⟩ | ⟨b9,q8⟩
 case inr=>rw[b9];exact ZL ⟨ay,rfl,v2,aM,v3,fl aO,mA,oI,q8,ad⟩
 rw[b9];rcases aa2 c ap a7 with⟨da,io⟩ | ⟨da,io⟩
 ·rw[da];exact ZR ⟨ay,rfl,v2,aM,v3,fl aO,mA,oI,q8,io,ad⟩
 rw[da];exact ZQ ⟨ay,rfl,v2,aM,v3,fl aO,mA,oI,q8,io,ad⟩
