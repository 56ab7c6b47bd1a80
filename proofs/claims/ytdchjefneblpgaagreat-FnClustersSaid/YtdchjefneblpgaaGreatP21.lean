import Derived.Test.YtdchjefneblpgaaGreatC6
import Derived.Test.YtdchjefneblpgaaGreatGU
import Derived.WalkKit
import Derived.Deep.RegionLaw
import Derived.Shelf.RegionOpenPlain
import Derived.Lib.SliceRun
import Derived.Lib.JoinLaws
import Derived.Lib.Overlaps
import Derived.Lib.AppendZerosOnto
import Derived.Laws.Externs
import Derived.Deep.LoopGhost
import Derived.Lib.Walk
set_option linter.unusedVariables false
set_option linter.unusedSimpArgs false
namespace Go.Proofs.YtdchjefneblpgaaGreat
open Go.Sx Go.RowKit Go.Proofs.Tryz
variable{c:a8}
theorem a8.Jq(h:c.wf){l:bD}(ag:l∈c.bR):l.wf:=h.acB.2 l ag
structure xZ (c:a8):Prop where
 n:aG .i64 c.aC.ap
 l:∀l∈c.bR,aG .i64 l.cap/\l.dv<=9223372036854775807
theorem xZ.of(h:c.wf):xZ c:=⟨h.aah.XZ,fun l ag=>⟨(a8.Jq h ag).Ps,(a8.Jq h ag).PG.2⟩⟩
theorem a8.D3(h:c.sz<=8388608){l:bD}(ag:l∈c.bR):l.sz<=8388608:=by
 have:=kQ (sz:=bD.sz) (xs:=c.bR) (m:=8388608) (by simp only[a8.sz]at h;omega) ag;exact this
def nS(e:Int)(l:bD):Nat:=(gH e l.queue).length
theorem vr{α:Type}{f:Int->α}{xs:List Int}(h:xs.length<=8388608):IntKind.i64.wrap ((↑(xs.map f).length:Int)-1)=(xs.length:Int)-1:=by
 rw[bA];exact aG.wrap ⟨by omega,by omega⟩
def eh(key ap:Int):Int:=if ap<1 then 0 else if key.tmod ap<0 then key.tmod ap+ap else key.tmod ap
theorem Li(a b:Int)(h:0<b):- b<a.tmod b:=by
 rcases Int.le_total 0 a with ae | ae
 ·have:=Int.tmod_nonneg b ae;omega
 have h1:(-a).tmod b<b:=Int.tmod_lt_of_pos _ h;rw[Int.neg_tmod]at h1;omega
theorem T2(key ap:Int)(hw:ap<=9223372036854775807):aw 245 [.one (I key),.one (I ap)] [.one (I (eh key ap))]:=by
 unfold eh;split
 ·exact au9 ⟨by simpa using ‹ap<1›,ad⟩
 rename_i h;have h1:=Li key ap (by omega);have U:key.tmod ap<ap:=Int.tmod_lt_of_pos _ (by omega);split
 ·rename_i ax;exact ava ⟨by simp only[kA];omega,by omega,by simpa using ax,⟨by omega,by omega⟩,ad⟩
 rename_i ax;exact avb ⟨by simp only[kA];omega,by omega,by simpa using ax,ad⟩
theorem adD(key ap:Int)(hw:ap<=9223372036854775807):aw 147 [.one (I key),.one (I ap)] [.one (I (eh key ap))]:=by
 unfold eh;split
 ·exact avc ⟨by simpa using ‹ap<1›,ad⟩
 rename_i h;have h1:=Li key ap (by omega);have U:key.tmod ap<ap:=Int.tmod_lt_of_pos _ (by omega);split
 ·rename_i ax;exact avd ⟨by simp only[kA];omega,by omega,by simpa using ax,⟨by omega,by omega⟩,ad⟩
 rename_i ax;exact ave ⟨by simp only[kA];omega,by omega,by simpa using ax,ad⟩
def B3(w n:Int)(r:aB):Bool:=eh r.key n != w
def Hp(n:Int)(i:Nat)(w:aQ):Bool:=w.queue.any (B3 i n)||w.bK.any (B3 i n)
def Ho(n:Int)(i:Nat)(l:bD):Bool:=decide (n<1)||l.queue.any (B3 ((i:Int).tmod n) n)
def T3(c:a8):Bool:=!(anyI (Hp c.aC.ap) 0 c.ap)&&!(anyI (Ho c.aC.ap) 0 c.bR)
theorem aQ.F7{w:aQ}(h:w.sz<=8388608):w.queue.length<=8388608:=by simp only[aQ.sz]at h;omega
theorem aQ.yC{w:aQ}(h:w.sz<=8388608):w.bK.length<=8388608:=by simp only[aQ.sz]at h;omega
end Go.Proofs.YtdchjefneblpgaaGreat
namespace Go.Proofs.YtdchjefneblpgaaGreat
open Go.Sx Go.RowKit Go.Shelf Go.Lib Go.Proofs.Tryz
end Go.Proofs.YtdchjefneblpgaaGreat
namespace Go.Proofs.YtdchjefneblpgaaGreat
open Go.Sx Go.RowKit Go.Proofs.Tryz
def te(xs:List Cell)(x:Cell):Bool:=xs.any fun a=>decide (a=x)
def nT(xs:List Cell)(x:Cell):Nat:=(xs.findIdx? fun a=>!decide (iK a x<0)).getD xs.length
def mQ(xs:List Cell)(x:Cell):List Cell:=if te xs x then xs else xs.take (nT xs x)++x::xs.drop (nT xs x)
theorem T4(xs:List Cell)(x:Cell):nT xs x<=xs.length:=by
 unfold nT;cases h:xs.findIdx? (fun a=>!decide (iK a x<0)) with
 | none=>simp
 | some i=>
  rw[zN]at h;have:=h.1;simp;omega
theorem T5(xs:List Cell)(x:Cell):(mQ xs x).length<=xs.length+1:=by
 unfold mQ;split
 ·omega
 have:=T4 xs x;simp;omega
theorem T6(xs:List Cell)(x:Cell)(ag:xs.length<=8388608):aw 306 [.one (.J 4 (xs.map Cell.e)),.agg x.e] [.one (B (te xs x))]:=by
 have l:=hM (P:=prog) (c:=(aq f306 0)) xs (fun a=>decide (a=x)) (fun i=>wF (xs.map Cell.e) x.op x.bh x.key x.val i) (X:=fun _ _=>LR true) dZ (cC 0)
  (fun i a ae h=>auk ⟨bV (aP ae),bk,bm (aP ae),bl Cell.e ae,(y9 a x).trans h,c3 (aP ae) ag,ad⟩)
  (fun i a ae h=>auj ⟨bV (aP ae),bk,bm (aP ae),bl Cell.e ae,(y9 a x).trans h,ad⟩)
  (aul ⟨dk,ad⟩)
 unfold te;rcases l with⟨_,_,h1,U⟩ | ⟨i,a,_,_,_,_,h1,U⟩
 ·rw[h1];exact aun ⟨U,ad⟩
 rw[h1];exact aum ⟨U,ad⟩
theorem T7(xs:List Cell)(x:Cell)(r:Bool)(h:te xs x=r)(ag:xs.length<=8388608):aw 306 [.one (.J 4 (xs.map Cell.e)),.agg x.e] [.one (B r)]:=h▸T6 xs x ag
theorem B4(xs:List Cell)(x:Cell)(ag:xs.length<=8388608):aw 238 [.one (.J 4 (xs.map Cell.e)),.agg x.e] [.one (.J 4 ((mQ xs x).map Cell.e))]:=by
 unfold mQ;cases h:te xs x with
 | true=>
  rw[bi rfl];exact atN ⟨T7 xs x true h ag,rfl,by simp;omega,by simp;omega,cM _ Cell.flat _,ad⟩
 | false=>
  rw[ba (by simp)];have l:c' prog (aq f238 0) (wG (xs.map Cell.e) x.op x.bh x.key x.val 0) (hE.exit 0) (A' (xs.map Cell.e) x.op x.bh x.key x.val (nT xs x)):=by
   have l:=hM (P:=prog) (c:=(aq f238 0)) xs (fun a=>!decide (iK a x<0)) (fun i=>wG (xs.map Cell.e) x.op x.bh x.key x.val i) (X:=fun i _=>A' (xs.map Cell.e) x.op x.bh x.key x.val i) (cC 0) (cC 0)
    (fun i a ae h=>atO ⟨bV (aP ae),bk,bm (aP ae),bl Cell.e ae,EM a x,by simpa using h,c3 (aP ae) ag,ad⟩)
    (fun i a ae h=>atP ⟨bV (aP ae),bk,bm (aP ae),bl Cell.e ae,EM a x,by simpa using h,ad⟩)
    (atQ ⟨dk,ad⟩)
   unfold nT;rcases l with⟨_,h1,_,U⟩ | ⟨i,a,_,_,_,h1,_,U⟩
   ·rw[h1];exact U
   rw[h1];exact U
  have hp:=T4 xs x;generalize nT xs x=p at*;refine avM (atS ⟨T7 xs x false h ag,rfl,l,by simp,by simp,by simp;omega,by simp;omega,by simp;omega,?_,by simp;omega,by simp;omega,dU x.flat,by simp,by simp;omega,by simp,by simp;omega,by simp;omega,?_,ad⟩) ?_
  ·simp only[ji,oX,Nat.sub_zero,tz,<-qX];exact cM _ Cell.flat _
  ·simp only[ji,oX,<-qX,<-List.map_drop];exact cM _ Cell.flat _
  simp only[ji,oX,Nat.sub_zero,tz,List.nil_append,<-qX,<-List.map_drop,gW,jW,tw]
  congr 1
  rw[zR (by simp)];rfl
end Go.Proofs.YtdchjefneblpgaaGreat
namespace Go.Proofs.YtdchjefneblpgaaGreat
open Go.Sx Go.RowKit Go.Proofs.Tryz
def gj(g:bS)(op:Int):Option Node:=if 0<=op then g.nodes[op.toNat]? else none
variable{g:bS}{a:Int}{w:Node}
theorem Lj(h:gj g a=some w):0<=a/\a<(↑(g.nodes.map Node.e).length:Int)/\(g.nodes.map Node.e)[a.toNat]?=some w.e/\ar a 0 (↑(g.nodes.map Node.e).length-1)=true:=by
 unfold gj at h;split at h
 ·have:=(eW.1 h).1;refine⟨‹_›,by simp;omega,by simp[h],?_⟩;simp only[ar,bA,cr];omega
 cases h
theorem T8(h:gj g a=none):ar a 0 (↑(g.nodes.map Node.e).length-1)=false:=by
 unfold gj at h;simp only[ar,bA,kA];split at h
 ·rw[List.getElem?_eq_none_iff]at h;omega
 omega
theorem T9(h:gj g a=some w):w∈g.nodes:=by
 unfold gj at h;split at h
 ·exact fF h
 cases h
theorem bS.acE(h:g.sz<=8388608):g.nodes.length<=8388608:=by simp only[bS.sz,eZ]at h;omega
theorem bS.D9(h:g.sz<=8388608)(hw:w∈g.nodes):w.outs.length<=8388608:=by
 have:=ED (sz:=Node.sz) hw;simp only[bS.sz,eZ]at h;have a7:w.outs.length<=w.sz:=by simp only[Node.sz];omega
 omega
theorem EW(h:g.sz<=8388608):aG .i64 ((↑(g.nodes.map Node.e).length:Int)-1):=by
 have:=bS.acE h;exact⟨by simp;omega,by simp;omega⟩
theorem adE(g:bS)(op:Int)(av:g.sz<=8388608):aw 250 [.agg g.e,.one (I op)] [.one (B (gj g op).isSome)]:=by
 cases h:gj g op with
 | none=>exact SR ⟨EW av,jL _ (T8 h),ad⟩
 | some w=>exact SR ⟨EW av,jL _ (Lj h).2.2.2,ad⟩
theorem T'(g:bS)(op:Int)(r:Bool)(h:(gj g op).isSome=r)(av:g.sz<=8388608):aw 250 [.agg g.e,.one (I op)] [.one (B r)]:=h▸adE g op av
def uX(g:bS)(op:Int):Node×Bool:=match gj g op with | some n=>(n,true) | none=>(⟨0,0,0,[]⟩,false)
theorem adF(n:Int):∀d∈bb n,∃x,d=.v x:=by
 intro d aE;simp only[bb,ez,n1,or_false]at aE;subst aE;exact⟨_,rfl⟩
theorem adG(g:bS)(op:Int)(av:g.sz<=8388608):aw 249 [.agg g.e,.one (I op)] [.agg (uX g op).1.e,.one (B (uX g op).2)]:=by
 unfold uX;cases h:gj g op with
 | none=>exact atT ⟨EW av,fD _ (T8 h),rfl,ad⟩
 | some w=>
  obtain⟨h1,U,ax,aK⟩:=Lj h;have aU:=bS.D9 av (T9 h);exact atU ⟨EW av,fD _ aK,rfl,h1,U,ax,by simp;omega,by simp;omega,cM _ adF _,ad⟩
theorem Em(g:bS)(op:Int)(r:Node×Bool)(h:uX g op=r)(av:g.sz<=8388608):aw 249 [.agg g.e,.one (I op)] [.agg r.1.e,.one (B r.2)]:=h▸adG g op av
