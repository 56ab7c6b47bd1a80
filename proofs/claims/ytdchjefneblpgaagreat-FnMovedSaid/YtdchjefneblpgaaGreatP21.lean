import Derived.Test.YtdchjefneblpgaaGreatC6
import Derived.Test.YtdchjefneblpgaaGreatGU
import Derived.WalkKit
import Derived.Deep.RegionLaw
import Derived.Shelf.RegionOpenPlain
import Derived.Lib.SliceRun
import Derived.Lib.JoinLaws
import Derived.Lib.Overlaps
import Derived.Lib.AppendZerosOnto
import Derived.Laws.Externs
import Derived.Deep.LoopGhost
import Derived.Lib.Walk
set_option linter.unusedVariables false
set_option linter.unusedSimpArgs false
namespace Go.Proofs.YtdchjefneblpgaaGreat
open Go.Sx Go.RowKit Go.Proofs.Tryz
variable{c:bb}
theorem bb.Hz(h:c.wf){l:bt}(ak:l∈c.bV):l.wf:=h.Yw.2 l ak
structure yf (c:bb):Prop where
 n:az .i64 c.aF.ay
 l:∀l∈c.bV,az .i64 l.cap/\l.c5<=9223372036854775807
theorem yf.of(h:c.wf):yf c:=⟨h.Wy.Ur,fun l ak=>⟨(bb.Hz h ak).MT,(bb.Hz h ak).M3.2⟩⟩
theorem bb.Cq(h:c.sz<=8388608){l:bt}(ak:l∈c.bV):l.sz<=8388608:=by
 have:=vP (sz:=bt.sz) (xs:=c.bV) (m:=8388608) (by simp only[bb.sz]at h;omega) ak;exact this
def p5(e:Int)(l:bt):Nat:=(p4 e l.queue).length
theorem we{α:Type}{f:Int->α}{xs:List Int}(h:xs.length<=8388608):IntKind.i64.wrap ((↑(xs.map f).length:Int)-1)=(xs.length:Int)-1:=by
 rw[bm];exact az.wrap ⟨by omega,by omega⟩
def ic(key ay:Int):Int:=if ay<1 then 0 else if key.tmod ay<0 then key.tmod ay+ay else key.tmod ay
theorem JW(a b:Int)(h:0<b):- b<a.tmod b:=by
 rcases Int.le_total 0 a with aj | aj
 ·have:=Int.tmod_nonneg b aj;omega
 have h1:(-a).tmod b<b:=Int.tmod_lt_of_pos _ h;rw[Int.neg_tmod]at h1;omega
theorem QD(key ay:Int)(hw:ay<=9223372036854775807):av 245 [.one (I key),.one (I ay)] [.one (I (ic key ay))]:=by
 unfold ic;split
 ·exact Zk ⟨by simpa using ‹ay<1›,aa⟩
 rename_i h;have h1:=JW key ay (by omega);have U:key.tmod ay<ay:=Int.tmod_lt_of_pos _ (by omega);split
 ·rename_i ax;exact Zl ⟨by simp only[ki];omega,by omega,by simpa using ax,⟨by omega,by omega⟩,aa⟩
 rename_i ax;exact Zm ⟨by simp only[ki];omega,by omega,by simpa using ax,aa⟩
theorem aa7(key ay:Int)(hw:ay<=9223372036854775807):av 147 [.one (I key),.one (I ay)] [.one (I (ic key ay))]:=by
 unfold ic;split
 ·exact Zn ⟨by simpa using ‹ay<1›,aa⟩
 rename_i h;have h1:=JW key ay (by omega);have U:key.tmod ay<ay:=Int.tmod_lt_of_pos _ (by omega);split
 ·rename_i ax;exact Zo ⟨by simp only[ki];omega,by omega,by simpa using ax,⟨by omega,by omega⟩,aa⟩
 rename_i ax;exact Zp ⟨by simp only[ki];omega,by omega,by simpa using ax,aa⟩
theorem aP.Ei{w:aP}(h:w.sz<=8388608):w.queue.length<=8388608:=by simp only[aP.sz]at h;omega
theorem aP.wZ{w:aP}(h:w.sz<=8388608):w.b8.length<=8388608:=by simp only[aP.sz]at h;omega
end Go.Proofs.YtdchjefneblpgaaGreat
namespace Go.Proofs.YtdchjefneblpgaaGreat
open Go.Sx Go.RowKit Go.Shelf Go.Lib Go.Proofs.Tryz
end Go.Proofs.YtdchjefneblpgaaGreat
namespace Go.Proofs.YtdchjefneblpgaaGreat
open Go.Sx Go.RowKit Go.Proofs.Tryz
def vm(xs:List Cell)(x:Cell):Bool:=xs.any fun a=>decide (a=x)
def nV(xs:List Cell)(x:Cell):Nat:=(xs.findIdx? fun a=>!decide (ib a x<0)).getD xs.length
def nW(xs:List Cell)(x:Cell):List Cell:=if vm xs x then xs else xs.take (nV xs x)++x::xs.drop (nV xs x)
theorem QE(xs:List Cell)(x:Cell):nV xs x<=xs.length:=by
 unfold nV;cases h:xs.findIdx? (fun a=>!decide (ib a x<0)) with
 | none=>simp
 | some i=>
  rw[x8]at h;have:=h.1;simp;omega
theorem QF(xs:List Cell)(x:Cell):(nW xs x).length<=xs.length+1:=by
 unfold nW;split
 ·omega
 have:=QE xs x;simp;omega
theorem QG(xs:List Cell)(x:Cell)(ak:xs.length<=8388608):av 306 [.one (.J 4 (xs.map Cell.e)),.agg x.e] [.one (B (vm xs x))]:=by
 have l:=hh (P:=prog) (c:=(ar f306 0)) xs (fun a=>decide (a=x)) (fun i=>ve (xs.map Cell.e) x.op x.bf x.key x.val i) (X:=fun _ _=>Kj true) fi (cM 0)
  (fun i a aj h=>anZ ⟨cf (a6 aj),bG,bL (a6 aj),bF Cell.e aj,(Rv a x).trans h,dw (a6 aj) ak,aa⟩)
  (fun i a aj h=>anY ⟨cf (a6 aj),bG,bL (a6 aj),bF Cell.e aj,(Rv a x).trans h,aa⟩)
  (am7 ⟨dU,aa⟩)
 unfold vm;rcases l with⟨_,_,h1,U⟩ | ⟨i,a,_,_,_,_,h1,U⟩
 ·rw[h1];exact am9 ⟨U,aa⟩
 rw[h1];exact am8 ⟨U,aa⟩
theorem QH(xs:List Cell)(x:Cell)(r:Bool)(h:vm xs x=r)(ak:xs.length<=8388608):av 306 [.one (.J 4 (xs.map Cell.e)),.agg x.e] [.one (B r)]:=h▸QG xs x ak
theorem aa8(xs:List Cell)(ak:xs.length<=8388608):av 297 [.one (.J 4 (xs.map Cell.e))] [.one (.J 4 (xs.map Cell.e))]:=
 anR ⟨by simp;omega,by simp;omega,cr _ Cell.flat _,aa⟩
theorem AF(xs:List Cell)(x:Cell)(ak:xs.length<=8388608):av 238 [.one (.J 4 (xs.map Cell.e)),.agg x.e] [.one (.J 4 ((nW xs x).map Cell.e))]:=by
 unfold nW;cases h:vm xs x with
 | true=>
  rw[br rfl];exact ana ⟨QH xs x true h ak,rfl,by simp;omega,by simp;omega,cr _ Cell.flat _,aa⟩
 | false=>
  rw[bg (by simp)];have l:c0 prog (ar f238 0) (vf (xs.map Cell.e) x.op x.bf x.key x.val 0) (hb.exit 0) (Au (xs.map Cell.e) x.op x.bf x.key x.val (nV xs x)):=by
   have l:=hh (P:=prog) (c:=(ar f238 0)) xs (fun a=>!decide (ib a x<0)) (fun i=>vf (xs.map Cell.e) x.op x.bf x.key x.val i) (X:=fun i _=>Au (xs.map Cell.e) x.op x.bf x.key x.val i) (cM 0) (cM 0)
    (fun i a aj h=>anb ⟨cf (a6 aj),bG,bL (a6 aj),bF Cell.e aj,Dh a x,by simpa using h,dw (a6 aj) ak,aa⟩)
    (fun i a aj h=>anc ⟨cf (a6 aj),bG,bL (a6 aj),bF Cell.e aj,Dh a x,by simpa using h,aa⟩)
    (ane ⟨dU,aa⟩)
   unfold nV;rcases l with⟨_,h1,_,U⟩ | ⟨i,a,_,_,_,h1,_,U⟩
   ·rw[h1];exact U
   rw[h1];exact U
  have hp:=QE xs x;generalize nV xs x=p at*;refine am6 (anf ⟨QH xs x false h ak,rfl,l,by simp,by simp,by simp;omega,by simp;omega,by simp;omega,?_,by simp;omega,by simp;omega,dG x.flat,by simp,by simp;omega,by simp,by simp;omega,by simp;omega,?_,aa⟩) ?_
  ·simp only[iA,l0,Nat.sub_zero,yc,<-uk];exact cr _ Cell.flat _
  ·simp only[iA,l0,<-uk,<-List.map_drop];exact cr _ Cell.flat _
  simp only[iA,l0,Nat.sub_zero,yc,List.nil_append,<-uk,<-List.map_drop,ha,l2,re]
  congr 1
  rw[ya (by simp)];rfl
end Go.Proofs.YtdchjefneblpgaaGreat
namespace Go.Proofs.YtdchjefneblpgaaGreat
open Go.Sx Go.RowKit Go.Proofs.Tryz
def hl(g:b1)(op:Int):Option Node:=if 0<=op then g.nodes[op.toNat]? else none
variable{g:b1}{a:Int}{w:Node}
theorem JX(h:hl g a=some w):0<=a/\a<(↑(g.nodes.map Node.e).length:Int)/\(g.nodes.map Node.e)[a.toNat]?=some w.e/\ap a 0 (↑(g.nodes.map Node.e).length-1)=true:=by
 unfold hl at h;split at h
 ·have:=(eu.1 h).1;refine⟨‹_›,by simp;omega,by simp[h],?_⟩;simp only[ap,bm,cK];omega
 cases h
theorem R8(h:hl g a=none):ap a 0 (↑(g.nodes.map Node.e).length-1)=false:=by
 unfold hl at h;simp only[ap,bm,ki];split at h
 ·rw[List.getElem?_eq_none_iff]at h;omega
 omega
theorem R9(h:hl g a=some w):w∈g.nodes:=by
 unfold hl at h;split at h
 ·exact fp h
 cases h
theorem b1.Yz(h:g.sz<=8388608):g.nodes.length<=8388608:=by simp only[b1.sz,eZ]at h;omega
theorem b1.Cx(h:g.sz<=8388608)(hw:w∈g.nodes):w.outs.length<=8388608:=by
 have:=C1 (sz:=Node.sz) hw;simp only[b1.sz,eZ]at h;have aV:w.outs.length<=w.sz:=by simp only[Node.sz];omega
 omega
theorem DT(h:g.sz<=8388608):az .i64 ((↑(g.nodes.map Node.e).length:Int)-1):=by
 have:=b1.Yz h;exact⟨by simp;omega,by simp;omega⟩
theorem aa9(g:b1)(op:Int)(au:g.sz<=8388608):av 250 [.agg g.e,.one (I op)] [.one (B (hl g op).isSome)]:=by
 cases h:hl g op with
 | none=>exact Rq ⟨DT au,hS _ (R8 h),aa⟩
 | some w=>exact Rq ⟨DT au,hS _ (JX h).2.2.2,aa⟩
theorem R'(g:b1)(op:Int)(r:Bool)(h:(hl g op).isSome=r)(au:g.sz<=8388608):av 250 [.agg g.e,.one (I op)] [.one (B r)]:=h▸aa9 g op au
def tR(g:b1)(op:Int):Node×Bool:=match hl g op with | some n=>(n,true) | none=>(⟨0,0,0,[]⟩,false)
theorem aba(n:Int):∀d∈a8 n,∃x,d=.v x:=by
 intro d aE;simp only[a8,et,mX,or_false]at aE;subst aE;exact⟨_,rfl⟩
theorem abb(g:b1)(op:Int)(au:g.sz<=8388608):av 249 [.agg g.e,.one (I op)] [.agg (tR g op).1.e,.one (B (tR g op).2)]:=by
 unfold tR;cases h:hl g op with
 | none=>exact ang ⟨DT au,fu _ (R8 h),rfl,aa⟩
 | some w=>
  obtain⟨h1,U,ax,aK⟩:=JX h;have aX:=b1.Cx au (R9 h);exact anh ⟨DT au,fu _ aK,rfl,h1,U,ax,by simp;omega,by simp;omega,cr _ aba _,aa⟩
theorem DU(g:b1)(op:Int)(r:Node×Bool)(h:tR g op=r)(au:g.sz<=8388608):av 249 [.agg g.e,.one (I op)] [.agg r.1.e,.one (B r.2)]:=h▸abb g op au
