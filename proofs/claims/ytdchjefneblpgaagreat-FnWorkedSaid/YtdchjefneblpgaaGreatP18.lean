import Derived.Test.YtdchjefneblpgaaGreatP17
set_option linter.unusedVariables false
set_option linter.unusedSimpArgs false
namespace Go.Proofs.YtdchjefneblpgaaGreat
open Go.Sx Go.RowKit
def dC(g:bX)(cs:List Cell)(r:aG):List Cell×List aG×Bool:=match fW g r.op with | some x=>dH g cs r x | none=>(cs,[],false)
theorem Su(g:bX)(cs:List Cell)(r:aG)(au:g.sz<=8388608)(al:cs.length<=8388608):av 176 [.agg g.e,.one (.J 4 (cs.map Cell.e)),.agg r.e] [.one (.J 4 ((dC g cs r).1.map Cell.e)),.one (.J 5 ((dC g cs r).2.1.map aG.e)),.one (B (dC g cs r).2.2)]:=by
 unfold dC;cases h:fW g r.op with
 | some x=>exact abX g cs r x au al h
 | none=>exact acE ⟨by simp<;>omega,by simp<;>omega,cf _ Cell.flat _,Dq g r.op (⟨0,0,0,[]⟩,false) (by unfold tC;rw[h]) au,rfl,aa⟩
theorem abZ(g:bX)(cs:List Cell)(r:aG)(au:g.sz<=8388608)(al:cs.length<=8388608):av 232 [.agg g.e,.one (.J 4 (cs.map Cell.e)),.agg r.e] [.one (.J 4 ((dC g cs r).1.map Cell.e)),.one (.J 5 ((dC g cs r).2.1.map aG.e)),.one (B (dC g cs r).2.2)]:=by
 unfold dC;cases h:fW g r.op with
 | some x=>exact abY g cs r x au al h
 | none=>
  have c1:=xC g au;have c2:=vd r;have cA:=xz g r.op false (by rw[h];rfl) au;have dV:=tB cs al;generalize eg g=gV at*;generalize e4 r=gm at*;cases gV with
  | false=>exact QR ⟨c1,rfl,dV,aa⟩
  | true=>
   cases gm with
   | false=>exact Sh ⟨c1,rfl,c2,rfl,dV,aa⟩
   | true=>exact acb ⟨c1,rfl,c2,rfl,cA,rfl,dV,aa⟩
def jM(g:bX)(r:aG)(x:Node):Bool:=eg g&&e4 r&&x.kind==7&&decide (0<x.outs.length)&&!(eM r.bw).2
def dq(g:bX)(r:aG):Bool:=match fW g r.op with | some x=>jM g r x | none=>false
theorem ab0(g:bX)(r:aG)(x:Node)(au:g.sz<=8388608)(aW:fW g r.op=some x):av 177 [.agg g.e,.agg r.e] [.one (B (jM g r x))]:=by
 have c1:=Dq g r.op (x,true) (by unfold tC;rw[aW]) au;have c2:=xA r.bw;have cA:=xB g au;rcases cI (eg g) with aH | aH
 ·skip
  have ga:=r9 r;rcases cI (e4 r) with bA | bA
  ·skip
   rcases cI (x.kind==7) with bP | bP
   ·skip
    rcases cI (decide ((↑(x.outs.map a').length:Int)>0)) with c' | c'
    ·skip
     rw[show jM g r x=(!((eM r.bw).2)) from by grind[jM]];exact acy ⟨c1,c2,rfl,cA,aH,ga,bA,bP,c',aa⟩
    skip
    rw[show jM g r x=false from by grind[jM]];exact acz ⟨c1,c2,rfl,cA,aH,ga,bA,bP,c',aa⟩
   skip
   rw[show jM g r x=false from by grind[jM]];exact acA ⟨c1,c2,rfl,cA,aH,ga,bA,bP,aa⟩
  skip
  rw[show jM g r x=false from by grind[jM]];exact acB ⟨c1,c2,rfl,cA,aH,ga,bA,aa⟩
 skip
 rw[show jM g r x=false from by grind[jM]];exact acC ⟨c1,c2,rfl,cA,aH,aa⟩
theorem Sv(g:bX)(r:aG)(au:g.sz<=8388608):av 177 [.agg g.e,.agg r.e] [.one (B (dq g r))]:=by
 unfold dq;cases h:fW g r.op with
 | some x=>exact ab0 g r x au h
 | none=>exact acD ⟨Dq g r.op (⟨0,0,0,[]⟩,false) (by unfold tC;rw[h]) au,xA r.bw,rfl,aa⟩
theorem J1{g:bX}(h:eg g=true){op:Int}{x:Node}(aW:fW g op=some x):aL x=true:=by
 simp only[eg,cx,hv]at h;unfold fW at aW;split at aW
 ·have:=C7 h.2 op.toNat x aW;simp only[iR,gz,kF]at this;exact this.1.1
 cases aW
theorem ab1{x:Node}(h:aL x=true):x.outs.length<=2:=by
 simp only[aL,cx,cU]at h;exact h.1.1.1.2
theorem ab2(kind:Int)(cs:List Cell)(x:Cell):(c4 kind cs x).1.length<=cs.length+1:=by
 have h1:=QU cs x;have U:=QU (cs.filter fun a=>!eR x a) x;have aw:=q2 (fun a=>!eR x a) cs;unfold c4;split
 ·split<;>simp<;>omega
 split
 ·unfold iS;split<;>simp<;>omega
 simp
theorem ab3{g:bX}(au:eg g=true)(cs:List Cell)(r:aG):(dC g cs r).1.length<=cs.length+1/\(dC g cs r).2.1.length<=2:=by
 unfold dC;cases h:fW g r.op with
 | none=>exact⟨by simp,by simp⟩
 | some x=>
  have ag:=ab1 (J1 au h);have aA:=ab2 x.kind cs ⟨r.op,r.bw.bc,r.key,r.val⟩;have aj:∀s k v,(hW x s k v).length<=2:=fun s k v=>by simpa[hW]using ag
  simp only[dH];split
  ·split
   ·exact⟨by simp,by simp⟩
   split
   ·exact⟨aA,by simp⟩
   split
   ·refine⟨aA,?_⟩;cases (eM r.bw).2 with
    | true=>exact aj _ _ _
    | false=>simp
   exact⟨aA,aj _ _ _⟩
  exact⟨by simp,by simp⟩
