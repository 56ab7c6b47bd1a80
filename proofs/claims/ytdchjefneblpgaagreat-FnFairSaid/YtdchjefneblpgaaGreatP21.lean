import Derived.Test.YtdchjefneblpgaaGreatC6
import Derived.Test.YtdchjefneblpgaaGreatGU
import Derived.Test.YtdchjefneblpgaaGreatP17
set_option linter.unusedVariables false
set_option linter.unusedSimpArgs false
namespace Go.Proofs.YtdchjefneblpgaaGreat
open Go.Sx Go.RowKit Go.Proofs.Tryz
variable{c:aT}
theorem aT.K2(h:c.wf){l:bm}(al:l∈c.bJ):l.wf:=h.ad5.2 l al
structure wF (c:aT):Prop where
 n:aL .i64 c.ay.ar
 l:∀l∈c.bJ,aL .i64 l.cap/\l.cW<=9223372036854775807
theorem wF.of(h:c.wf):wF c:=⟨h.abS.ZB,fun l al=>⟨(aT.K2 h al).QR,(aT.K2 h al).Q3.2⟩⟩
theorem aT.Fv(h:c.sz<=8388608){l:bm}(al:l∈c.bJ):l.sz<=8388608:=by
 grind[xC,bm.sz,aT.sz]
def py(e:Int)(l:bm):Nat:=(l3 e l.queue).length
theorem wj{α:Type}{f:Int->α}{xs:List Int}(h:xs.length<=8388608):IntKind.i64.wrap ((↑(xs.map f).length:Int)-1)=(xs.length:Int)-1:=by
 rw[ct];exact aL.wrap ⟨by omega,by omega⟩
def eU(key ar:Int):Int:=if ar<1 then 0 else if key.tmod ar<0 then key.tmod ar+ar else key.tmod ar
theorem ND(a b:Int)(h:0<b):- b<a.tmod b:=by
 rcases Int.le_total 0 a with ai | ai
 ·have:=Int.tmod_nonneg b ai;omega
 have h1:(-a).tmod b<b:=Int.tmod_lt_of_pos _ h;rw[Int.neg_tmod]at h1;omega
theorem WQ(key ar:Int)(hw:ar<=9223372036854775807):aq 245 [.one (I key),.one (I ar)] [.one (I (eU key ar))]:=by
 unfold eU;split
 ·exact alR ⟨by simpa using ‹ar<1›,aa⟩
 rename_i h;have h1:=ND key ar (by omega);have U:key.tmod ar<ar:=Int.tmod_lt_of_pos _ (by omega);split
 ·rename_i aA;exact alS ⟨by simp only[mG];omega,by omega,by simpa using aA,⟨by omega,by omega⟩,aa⟩
 rename_i aA;exact alT ⟨by simp only[mG];omega,by omega,by simpa using aA,aa⟩
theorem apn(key ar:Int)(hw:ar<=9223372036854775807):aq 147 [.one (I key),.one (I ar)] [.one (I (eU key ar))]:=by
 unfold eU;split
 ·exact alU ⟨by simpa using ‹ar<1›,aa⟩
 rename_i h;have h1:=ND key ar (by omega);have U:key.tmod ar<ar:=Int.tmod_lt_of_pos _ (by omega);split
 ·rename_i aA;exact alV ⟨by simp only[mG];omega,by omega,by simpa using aA,⟨by omega,by omega⟩,aa⟩
 rename_i aA;exact alW ⟨by simp only[mG];omega,by omega,by simpa using aA,aa⟩
def Cu(w n:Int)(r:az):Bool:=eU r.key n != w
def I3(n:Int)(i:Nat)(w:aK):Bool:=w.queue.any (Cu i n)||w.bR.any (Cu i n)
def I2(n:Int)(i:Nat)(l:bm):Bool:=decide (n<1)||l.queue.any (Cu ((i:Int).tmod n) n)
def WR(c:aT):Bool:=!(anyI (I3 c.ay.ar) 0 c.ar)&&!(anyI (I2 c.ay.ar) 0 c.bJ)
theorem aK.HP{w:aK}(h:w.sz<=8388608):w.queue.length<=8388608:=by grind[aK.sz]
theorem aK.zp{w:aK}(h:w.sz<=8388608):w.bR.length<=8388608:=by grind[aK.sz]
end Go.Proofs.YtdchjefneblpgaaGreat
namespace Go.Proofs.YtdchjefneblpgaaGreat
open Go.Sx Go.RowKit Go.Proofs.Tryz
def dq(g:bV)(cs:List Cell)(r:az):List Cell×List az×Bool:=match fS g r.op with | some x=>dU g cs r x | none=>(cs,[],false)
theorem WS(g:bV)(cs:List Cell)(r:az)(ax:g.sz<=8388608)(al:cs.length<=8388608):aq 176 [.agg g.e,.one (.J 4 (cs.map Cell.e)),.agg r.e] [.one (.J 4 ((dq g cs r).1.map Cell.e)),.one (.J 5 ((dq g cs r).2.1.map az.e)),.one (B (dq g cs r).2.2)]:=by
 unfold dq;cases h:fS g r.op with
 | some x=>exact apG g cs r x ax al h
 | none=>exact aoT ⟨by simp<;>omega,by simp<;>omega,dz _ Cell.flat _,Hm g r.op (⟨0,0,0,[]⟩,false) (by unfold vO;rw[h]) ax,rfl,aa⟩
theorem apo(g:bV)(cs:List Cell)(r:az)(ax:g.sz<=8388608)(al:cs.length<=8388608):aq 232 [.agg g.e,.one (.J 4 (cs.map Cell.e)),.agg r.e] [.one (.J 4 ((dq g cs r).1.map Cell.e)),.one (.J 5 ((dq g cs r).2.1.map az.e)),.one (B (dq g cs r).2.2)]:=by
 unfold dq;cases h:fS g r.op with
 | some x=>exact apH g cs r x ax al h
 | none=>
  have c1:=AA g ax;have c2:=vQ r;have cN:=Ao g r.op false (by rw[h];rfl) ax;have cF:=vN cs al;generalize eh g=fb at*;generalize eJ r=fY at*;cases fb with
  | false=>exact W0 ⟨c1,rfl,cF,aa⟩
  | true=>
   cases fY with
   | false=>exact W1 ⟨c1,rfl,c2,rfl,cF,aa⟩
   | true=>exact aqa ⟨c1,rfl,c2,rfl,cN,rfl,cF,aa⟩
def kN(g:bV)(r:az)(x:Node):Bool:=eh g&&eJ r&&x.kind==7&&decide (0<x.outs.length)&&!(e9 r.bi).2
def cf(g:bV)(r:az):Bool:=match fS g r.op with | some x=>kN g r x | none=>false
theorem apq(g:bV)(r:az)(x:Node)(ax:g.sz<=8388608)(aZ:fS g r.op=some x):aq 177 [.agg g.e,.agg r.e] [.one (B (kN g r x))]:=by
 have c1:=Hm g r.op (x,true) (by unfold vO;rw[aZ]) ax;have c2:=Ay r.bi;have cN:=Az g ax;rcases cR (eh g) with aJ | aJ
 ·skip
  have gT:=uj r;rcases cR (eJ r) with bu | bu
  ·skip
   rcases cR (x.kind==7) with b1 | b1
   ·skip
    rcases cR (decide ((↑(x.outs.map bc).length:Int)>0)) with dy | dy
    ·skip
     rw[show kN g r x=(!((e9 r.bi).2)) from by grind[kN]];exact aoN ⟨c1,c2,rfl,cN,aJ,gT,bu,b1,dy,aa⟩
    skip
    rw[show kN g r x=false from by grind[kN]];exact aoO ⟨c1,c2,rfl,cN,aJ,gT,bu,b1,dy,aa⟩
   skip
   rw[show kN g r x=false from by grind[kN]];exact aoP ⟨c1,c2,rfl,cN,aJ,gT,bu,b1,aa⟩
  skip
  rw[show kN g r x=false from by grind[kN]];exact aoQ ⟨c1,c2,rfl,cN,aJ,gT,bu,aa⟩
 skip
 rw[show kN g r x=false from by grind[kN]];exact aoR ⟨c1,c2,rfl,cN,aJ,aa⟩
theorem WT(g:bV)(r:az)(ax:g.sz<=8388608):aq 177 [.agg g.e,.agg r.e] [.one (B (cf g r))]:=by
 unfold cf;cases h:fS g r.op with
 | some x=>exact apq g r x ax h
 | none=>exact aoS ⟨Hm g r.op (⟨0,0,0,[]⟩,false) (by unfold vO;rw[h]) ax,Ay r.bi,rfl,aa⟩
theorem NE{g:bV}(h:eh g=true){op:Int}{x:Node}(aZ:fS g op=some x):aQ x=true:=by
 simp only[eh,cw,hb]at h;unfold fS at aZ;split at aZ
 ·have:=C' h.2 op.toNat x aZ;simp only[jD,gl,kd]at this;exact this.1.1
 cases aZ
theorem aoA{x:Node}(h:aQ x=true):x.outs.length<=2:=by
 simp only[aQ,cw,ck]at h;exact h.1.1.1.2
theorem aoB(kind:Int)(cs:List Cell)(x:Cell):(cA kind cs x).1.length<=cs.length+1:=by
 have h1:=Un cs x;have U:=Un (cs.filter fun a=>!eT x a) x;have aA:=pT (fun a=>!eT x a) cs;unfold cA;split
 ·split<;>simp<;>omega
 split
 ·unfold h7;split<;>simp<;>omega
 simp
theorem aoC{g:bV}(ax:eh g=true)(cs:List Cell)(r:az):(dq g cs r).1.length<=cs.length+1/\(dq g cs r).2.1.length<=2:=by
 unfold dq;cases h:fS g r.op with
 | none=>exact⟨by simp,by simp⟩
 | some x=>
  have af:=aoA (NE ax h);have aD:=aoB x.kind cs ⟨r.op,r.bi.a8,r.key,r.val⟩;have ao:∀s k v,(fq x s k v).length<=2:=fun s k v=>by simpa[fq]using af
  simp only[dU];split
  ·split
   ·exact⟨by simp,by simp⟩
   split
   ·exact⟨aD,by simp⟩
   split
   ·refine⟨aD,?_⟩;cases (e9 r.bi).2 with
    | true=>exact ao _ _ _
    | false=>simp
   exact⟨aD,ao _ _ _⟩
  exact⟨by simp,by simp⟩
end Go.Proofs.YtdchjefneblpgaaGreat
namespace Go.Proofs.YtdchjefneblpgaaGreat
open Go.Sx Go.RowKit Go.Proofs.Tryz
def GN(p:Cell×Cell):Bool:=decide (iN p.1 p.2>=0)
def kO(xs:List Cell):Bool:=!((xs.zip (xs.drop 1)).any GN)
variable{xs:List Cell}
theorem Cv{i:Nat}{p:Cell×Cell}(h:(xs.zip (xs.drop 1))[i]?=some p):xs[i]?=some p.1/\xs[i+1]?=some p.2:=by
 rw[List.getElem?_zip_eq_some]at h;obtain⟨h1,U⟩:=h;rw[lJ,Nat.add_comm]at U;exact⟨h1,U⟩
theorem aoD(xs:List Cell)(al:xs.length<=8388608):aq 266 [.one (.J 4 (xs.map Cell.e))] [.one (B (kO xs))]:=by
 have bE:∀i:Nat,(((i:Int)+1)-1).toNat=i:=fun i=>by omega
 have e1:∀i:Nat,(((i:Int)+1)).toNat=i+1:=fun i=>by omega
 have bd:(xs.zip (xs.drop 1)).length=xs.length-1:=by simp
 have l:=gv (P:=prog) (c:=(ap f266 0)) (xs.zip (xs.drop 1)) GN (fun i=>vR (xs.map Cell.e) ((i:Int)+1)) (X:=fun _ _=>Nq false) e5 (cn 0)
  (fun i a ai h=>by
   obtain⟨h1,U⟩:=Cv ai;have hi:=a1 U;refine qC (vR (xs.map Cell.e)) (aln ⟨dh (by simp only[ct];omega),⟨by omega,by omega⟩,by omega,by simp only[ct];omega,by rw[bE,dK,h1];rfl,by omega,by simp only[ct];omega,by rw[e1,dK,U];rfl,Hh a.1 a.2,h,⟨by omega,by omega⟩,aa⟩) (by omega))
  (fun i a ai h=>by
   obtain⟨h1,U⟩:=Cv ai;have hi:=a1 U;exact alm ⟨dh (by simp only[ct];omega),⟨by omega,by omega⟩,by omega,by simp only[ct];omega,by rw[bE,dK,h1];rfl,by omega,by simp only[ct];omega,by rw[e1,dK,U];rfl,Hh a.1 a.2,h,aa⟩)
  (alo ⟨ea (by rw[bd];simp only[ct];omega),aa⟩)
 unfold kO;rcases l with⟨_,_,h1,U⟩ | ⟨i,a,_,_,_,_,h1,U⟩
 ·rw[h1];exact alq ⟨U,aa⟩
 rw[h1];exact alp ⟨U,aa⟩
theorem WU{r:Bool}(h:kO xs=r)(al:xs.length<=8388608):aq 266 [.one (.J 4 (xs.map Cell.e))] [.one (B r)]:=h▸aoD xs al
theorem aoE(xs:List Cell)(al:xs.length<=8388608):aq 280 [.one (.J 4 (xs.map Cell.e))] [.one (B (kO xs))]:=by
 have bE:∀i:Nat,(((i:Int)+1)-1).toNat=i:=fun i=>by omega
 have e1:∀i:Nat,(((i:Int)+1)).toNat=i+1:=fun i=>by omega
 have bd:(xs.zip (xs.drop 1)).length=xs.length-1:=by simp
 have l:=gv (P:=prog) (c:=(ap f280 0)) (xs.zip (xs.drop 1)) GN (fun i=>vS (xs.map Cell.e) ((i:Int)+1)) (X:=fun _ _=>Nr false) e5 (cn 0)
  (fun i a ai h=>by
   obtain⟨h1,U⟩:=Cv ai;have hi:=a1 U;refine qC (vS (xs.map Cell.e)) (als ⟨dh (by simp only[ct];omega),⟨by omega,by omega⟩,by omega,by simp only[ct];omega,by rw[bE,dK,h1];rfl,by omega,by simp only[ct];omega,by rw[e1,dK,U];rfl,Hg a.1 a.2,h,⟨by omega,by omega⟩,aa⟩) (by omega))
  (fun i a ai h=>by
   obtain⟨h1,U⟩:=Cv ai;have hi:=a1 U;exact alr ⟨dh (by simp only[ct];omega),⟨by omega,by omega⟩,by omega,by simp only[ct];omega,by rw[bE,dK,h1];rfl,by omega,by simp only[ct];omega,by rw[e1,dK,U];rfl,Hg a.1 a.2,h,aa⟩)
  (alu ⟨ea (by rw[bd];simp only[ct];omega),aa⟩)
 unfold kO;rcases l with⟨_,_,h1,U⟩ | ⟨i,a,_,_,_,_,h1,U⟩
 ·rw[h1];exact alw ⟨U,aa⟩
 rw[h1];exact alv ⟨U,aa⟩
theorem WV{r:Bool}(h:kO xs=r)(al:xs.length<=8388608):aq 280 [.one (.J 4 (xs.map Cell.e))] [.one (B r)]:=h▸aoE xs al
def j6(g:bV)(r:az):Bool:=!eJ r||decide (r.op>=(g.nodes.length:Int))
def gw(g:bV)(xs:List az):Bool:=!(xs.any (j6 g))
theorem aoF{r:az}(h:eJ r=true):0<=r.op:=by
 simp only[eJ,cw,av,ck]at h;omega
theorem aoG(g:bV)(xs:List az)(al:xs.length<=8388608):aq 192 [.agg g.e,.one (.J 5 (xs.map az.e))] [.one (B (gw g xs))]:=by
 have l:=gv (P:=prog) (c:=(ap f192 0)) xs (j6 g) (fun i=>vT (g.nodes.map Node.e) g.ar g.cap (xs.map az.e) i) (X:=fun _ _=>GD false) e5 (cn 0)
  (fun i a ai h=>by
   simp only[j6,gl,kd]at h;have c:=uj a;rw[h.1]at c;exact amZ ⟨b5 (a1 ai),bA,bH (a1 ai),bC az.e ai,c,rfl,bA,bH (a1 ai),bC az.e ai,by rw[ct];exact h.2,db (a1 ai) al,aa⟩)
  (fun i a ai h=>by
   have c:=uj a;cases aD:eJ a with
   | false=>
    rw[aD]at c;exact amX ⟨b5 (a1 ai),bA,bH (a1 ai),bC az.e ai,c,rfl,aa⟩
   | true=>
    rw[aD]at c;simp only[j6,aD,iU,ke]at h;exact amY ⟨b5 (a1 ai),bA,bH (a1 ai),bC az.e ai,c,rfl,bA,bH (a1 ai),bC az.e ai,by rw[ct];exact h,aa⟩)
  (am0 ⟨dw,aa⟩)
 unfold gw;rcases l with⟨_,_,h1,U⟩ | ⟨i,a,_,_,_,_,h1,U⟩
 ·rw[h1];exact am2 ⟨U,aa⟩
 rw[h1];exact am1 ⟨U,aa⟩
theorem WW{g:bV}{r:az}(h:eJ r=true):(fS g r.op).isSome=!(decide (r.op>=(g.nodes.length:Int))):=by
 have bO:=aoF h;unfold fS;rw[bn bO];by_cases ak:r.op>=(g.nodes.length:Int)
 ·rw[dh ak,List.getElem?_eq_none (by omega)];rfl
 rw[ea ak,iD (by omega)];rfl
theorem aoH(g:bV)(xs:List az)(ax:g.sz<=8388608)(al:xs.length<=8388608):aq 189 [.agg g.e,.one (.J 5 (xs.map az.e))] [.one (B (gw g xs))]:=by
 have l:=gv (P:=prog) (c:=(ap f189 0)) xs (j6 g) (fun i=>vU (xs.map az.e) i (g.nodes.map Node.e) g.ar g.cap) (X:=fun _ _=>GF false) e5 (cn 0)
  (fun i a ai h=>by
   simp only[j6,gl,kd]at h;have c:=vQ a;rw[h.1]at c;exact am5 ⟨b5 (a1 ai),bA,bH (a1 ai),bC az.e ai,c,rfl,Ao g a.op true (by rw[WW h.1,h.2];rfl) ax,rfl,db (a1 ai) al,aa⟩)
  (fun i a ai h=>by
   have c:=vQ a;cases aD:eJ a with
   | false=>
    rw[aD]at c;exact am3 ⟨b5 (a1 ai),bA,bH (a1 ai),bC az.e ai,c,rfl,aa⟩
   | true=>
    rw[aD]at c;simp only[j6,aD,iU,ke]at h;exact am4 ⟨b5 (a1 ai),bA,bH (a1 ai),bC az.e ai,c,rfl,Ao g a.op false (by rw[WW aD,h];rfl) ax,rfl,aa⟩)
  (am6 ⟨dw,aa⟩)
 unfold gw;rcases l with⟨_,_,h1,U⟩ | ⟨i,a,_,_,_,_,h1,U⟩
 ·rw[h1];exact am8 ⟨U,aa⟩
 rw[h1];exact am7 ⟨U,aa⟩
theorem yg(g:bV)(xs:List az)(r:Bool)(h:gw g xs=r)(_:g.sz<=8388608)(al:xs.length<=8388608):aq 192 [.agg g.e,.one (.J 5 (xs.map az.e))] [.one (B r)]:=h▸aoG g xs al
theorem yh(g:bV)(xs:List az)(r:Bool)(h:gw g xs=r)(ax:g.sz<=8388608)(al:xs.length<=8388608):aq 189 [.agg g.e,.one (.J 5 (xs.map az.e))] [.one (B r)]:=h▸aoH g xs ax al
def jf(l:bm):Bool:=
 av l.cap 1 4&&av l.eL 0 l.cap&&av l.back 0 l.cap&&(l.eL+l.back+l.queue.length==l.cap)&&av l.eo 0 1000000000&&decide (0<=l.cW)&&(l.cW==l.eo-l.queue.length)&&!(l.queue.any fun r=>!eJ r)
theorem aoI(xs:List az)(al:xs.length<=8388608):aq 282 [.one (.J 5 (xs.map az.e))] [.one (B (!(xs.any fun r=>!eJ r)))]:=by
 have l:=gv (P:=prog) (c:=(ap f282 0)) xs (fun r=>!eJ r) (fun i=>yd (xs.map az.e) i) (X:=fun _ _=>NA false) e5 (cn 0)
  (fun i a ai h=>aol ⟨b5 (a1 ai),bA,bH (a1 ai),bC az.e ai,vQ a,h,db (a1 ai) al,aa⟩)
  (fun i a ai h=>aok ⟨b5 (a1 ai),bA,bH (a1 ai),bC az.e ai,vQ a,h,aa⟩)
  (aom ⟨dw,aa⟩)
 rcases l with⟨_,_,h1,U⟩ | ⟨i,a,_,_,_,_,h1,U⟩
 ·rw[h1];exact aoo ⟨U,aa⟩
 rw[h1];exact aon ⟨U,aa⟩
theorem GO(l:bm)(al:l.sz<=8388608)(u':l.cW<=9223372036854775807):aq 188 [.agg l.e] [.one (B (jf l))]:=by
 have aH:l.queue.length<=8388608:=al;have c1:=lB l.cap 1 4;have c2:=lB l.eL 0 l.cap;have cN:=lB l.back 0 l.cap;have eD:=lB l.eo 0 1000000000;have gT:=aoI l.queue aH;unfold jf;cases h1:av l.cap 1 4 with
 | false=>rw[h1]at c1;exact aoc ⟨c1,rfl,aa⟩
 | true=>
 cases U:av l.eL 0 l.cap with
 | false=>rw[h1]at c1;rw[U]at c2;exact aod ⟨c1,rfl,c2,rfl,aa⟩
 | true=>
 cases aA:av l.back 0 l.cap with
 | false=>rw[h1]at c1;rw[U]at c2;rw[aA]at cN;exact aoe ⟨c1,rfl,c2,rfl,cN,rfl,aa⟩
 | true=>
 have cS:=h1;have bt:=U;have fP:=aA;simp only[av,ck]at cS bt fP;rw[h1]at c1;rw[U]at c2;rw[aA]at cN;have gO:aL .i64 (l.eL+l.back):=⟨by omega,by omega⟩
 have j9:aL .i64 (l.eL+l.back+(↑(l.queue.map az.e).length:Int)):=⟨by simp only[ct];omega,by simp only[ct];omega⟩
 cases aJ:(l.eL+l.back+(l.queue.length:Int)==l.cap) with
 | false=>exact aof ⟨c1,rfl,c2,rfl,cN,rfl,gO,j9,by rw[ct];simpa using aJ,aa⟩
 | true=>
 have v4:(l.eL+l.back+(↑(l.queue.map az.e).length:Int) != l.cap)=false:=by rw[ct];simpa using aJ
 cases a':av l.eo 0 1000000000 with
 | false=>rw[a']at eD;exact aog ⟨c1,rfl,c2,rfl,cN,rfl,gO,j9,v4,eD,rfl,aa⟩
 | true=>
 have kI:=a';simp only[av,ck]at kI;rw[a']at eD;by_cases bu:l.cW<0
 ·rw[ea (show ¬0<=l.cW by omega)];exact aoh ⟨c1,rfl,c2,rfl,cN,rfl,gO,j9,v4,eD,rfl,dh bu,aa⟩
 rw[dh (show 0<=l.cW by omega)];have uE:aL .i64 (l.eo-l.cW):=⟨by omega,by omega⟩
 ·by_cases b1:l.cW=l.eo-(l.queue.length:Int)
  ·rw[show (l.cW==l.eo-(l.queue.length:Int))=true from by simpa using b1];exact aoj ⟨c1,rfl,c2,rfl,cN,rfl,gO,j9,v4,eD,rfl,ea bu,uE,by rw[ct];simp;omega,gT,aa⟩
  rw[show (l.cW==l.eo-(l.queue.length:Int))=false from by simpa using b1];exact aoi ⟨c1,rfl,c2,rfl,cN,rfl,gO,j9,v4,eD,rfl,ea bu,uE,by rw[ct];simp;omega,aa⟩
theorem GQ(l:bm)(al:l.sz<=8388608):aq 191 [.agg l.e] [.one (B (jf l))]:=by
 have aH:l.queue.length<=8388608:=al;have aS:=gv (P:=prog) (c:=(ap f191 0)) l.queue (fun r=>!eJ r) (fun i=>xa l.cap (l.queue.map az.e) l.eL l.back l.eo l.cW i) (X:=fun _ _=>Nz false) e5 (cn 0)
  (fun i a ai h=>an2 ⟨b5 (a1 ai),bA,bH (a1 ai),bC az.e ai,uj a,h,db (a1 ai) aH,aa⟩)
  (fun i a ai h=>an1 ⟨b5 (a1 ai),bA,bH (a1 ai),bC az.e ai,uj a,h,aa⟩)
  (an3 ⟨dw,aa⟩)
 unfold jf;rcases aS with⟨_,_,bO,aS⟩ | ⟨i,a,_,_,_,_,bO,aS⟩
 case inr=>
  rw[bO,iU,Bool.and_false];exact an4 ⟨aS,aa⟩
 rw[bO,oH,uI];have c1:=je l.cap 1 4;have c2:=je l.eL 0 l.cap;have cN:=je l.back 0 l.cap;have eD:=je l.eo 0 1000000000;cases h1:av l.cap 1 4 with
 | false=>rw[h1]at c1;exact aob ⟨aS,c1,rfl,aa⟩
 | true=>
 cases U:av l.eL 0 l.cap with
 | false=>rw[h1]at c1;rw[U]at c2;exact aoa ⟨aS,c1,rfl,c2,rfl,aa⟩
 | true=>
 cases aA:av l.back 0 l.cap with
 | false=>rw[h1]at c1;rw[U]at c2;rw[aA]at cN;exact an9 ⟨aS,c1,rfl,c2,rfl,cN,rfl,aa⟩
 | true=>
 have cS:=h1;have bt:=U;have fP:=aA;simp only[av,ck]at cS bt fP;rw[h1]at c1;rw[U]at c2;rw[aA]at cN;have gO:aL .i64 (l.eL+l.back):=⟨by omega,by omega⟩
 have j9:aL .i64 (l.eL+l.back+(↑(l.queue.map az.e).length:Int)):=⟨by simp only[ct];omega,by simp only[ct];omega⟩
 cases aJ:(l.eL+l.back+(l.queue.length:Int)==l.cap) with
 | false=>exact an8 ⟨aS,c1,rfl,c2,rfl,cN,rfl,gO,j9,by rw[ct];exact aJ,aa⟩
 | true=>
 have v4:(l.eL+l.back+(↑(l.queue.map az.e).length:Int)==l.cap)=true:=by rw[ct];exact aJ
 cases a':av l.eo 0 1000000000 with
 | false=>rw[a']at eD;exact an7 ⟨aS,c1,rfl,c2,rfl,cN,rfl,gO,j9,v4,eD,rfl,aa⟩
 | true=>
 have kI:=a';simp only[av,ck]at kI;rw[a']at eD;have uE:aL .i64 (l.eo-(↑(l.queue.map az.e).length:Int)):=⟨by simp only[ct];omega,by simp only[ct];omega⟩
 cases b1:(l.cW==l.eo-(l.queue.length:Int)) with
 | false=>
  rw[Bool.and_false];exact an6 ⟨aS,c1,rfl,c2,rfl,cN,rfl,gO,j9,v4,eD,rfl,uE,by rw[ct];exact b1,aa⟩
 | true=>
  rw[uI];exact an5 ⟨aS,c1,rfl,c2,rfl,cN,rfl,gO,j9,v4,eD,rfl,uE,by rw[ct];exact b1,aa⟩
end Go.Proofs.YtdchjefneblpgaaGreat
namespace Go.Proofs.YtdchjefneblpgaaGreat
open Go.Sx Go.RowKit Go.Proofs.Tryz
def ml(xs:List az)(i:Nat)(r:az):Bool:=
 r.op != 0||r.bi.dg != 0||(match i with | 0=>false | j+1=>match xs[j]? with | some q=>decide (q.bi.a8>r.bi.a8) | none=>false)
theorem WX{xs:List az}{i:Nat}{a:az}(ai:xs[i]?=some a)(h:ml xs i a=true):
  (a.op != 0)=true\/((a.op != 0)=false/\(a.bi.dg != 0)=true)\/((a.op != 0)=false/\(a.bi.dg != 0)=false/\∃j b,i=j+1/\xs[j]?=some b/\decide (b.bi.a8>a.bi.a8)=true):=by
 unfold ml at h;cases h1:(a.op != 0) with
 | true=>exact .inl rfl
 | false=>
 cases U:(a.bi.dg != 0) with
 | true=>exact .inr (.inl ⟨rfl,rfl⟩)
 | false=>
 rw[h1,U,ke,ke]at h;cases i with
 | zero=>cases h
 | succ j=>
  have bk:j<xs.length:=by have:=a1 ai;omega
  obtain⟨b,aw⟩:=c4 bk;simp only[aw]at h;exact .inr (.inr ⟨rfl,rfl,j,b,rfl,aw,h⟩)
theorem WY{xs:List az}{i:Nat}{a:az}(ai:xs[i]?=some a)(h:ml xs i a=false):
  (a.op != 0)=false/\(a.bi.dg != 0)=false/\(i=0\/∃j b,i=j+1/\xs[j]?=some b/\decide (b.bi.a8>a.bi.a8)=false):=by
 unfold ml at h;rw[gl,gl]at h;obtain⟨⟨h1,U⟩,h⟩:=h;refine⟨h1,U,?_⟩;cases i with
 | zero=>exact .inl rfl
 | succ j=>
  have bk:j<xs.length:=by have:=a1 ai;omega
  obtain⟨b,aw⟩:=c4 bk;simp only[aw]at h;exact .inr ⟨j,b,rfl,aw,h⟩
theorem GR{α:Type}(f:α->List D){xs:List α}{j:Nat}{b:α}(h:xs[j]?=some b):(xs.map f)[(((j+1:Nat):Int)-1).toNat]?=some (f b):=by
 rw[show (((j+1:Nat):Int)-1)=(j:Int) by omega];exact bC f h
theorem GU{α β:Type}{f:α->β}{xs:List α}{j:Nat}{b:α}(h:xs[j]?=some b):(((j+1:Nat):Int)-1)<(↑(xs.map f).length:Int):=by
 have:=a1 h;rw[ct];omega
def oA(n:Int):Bool:=!av n (-1000000) 1000000
def nd(xs:List cx)(i:Nat)(d:cx):Bool:=!av d.a8 0 3||(xs.take i).any (fun q=>q.a8==d.a8)
theorem gp{α β:Type}{f:α->β}{xs:List α}(h:(xs.length==4)=true):((↑(xs.map f).length:Int) != 4)=false:=by
 rw[ct,eq_of_beq h];rfl
theorem vh{α β:Type}{f:α->β}{xs:List α}(h:(xs.length==4)=false):((↑(xs.map f).length:Int) != 4)=true:=by
 rw[ct];have:=ne_of_beq_false h;simp only[bne_iff_ne,l6];omega
def e6(g:bV)(w:aK):Bool:=
 gw g w.queue&&(gw g w.b8&&(gw g w.bR&&(kO w.cells&&((w.bB.length==4)&&((w.bL.length==4)&&((w.bj.length==4)&&(!anyI (ml w.bR) 0 w.bR&&(!(w.bB.any oA)&&!anyI (nd w.bZ) 0 w.bZ))))))))
variable{w:aK}
theorem aK.HV(h:w.sz<=8388608):w.b8.length<=8388608:=by simp only[aK.sz]at h;omega
theorem aK.EJ(h:w.sz<=8388608):w.cells.length<=8388608:=by simp only[aK.sz]at h;omega
theorem aK.Zw(h:w.sz<=8388608):w.bB.length<=8388608:=by simp only[aK.sz]at h;omega
theorem aK.QV(h:w.sz<=8388608):w.bZ.length<=8388608:=by simp only[aK.sz]at h;omega
theorem aoJ(w:aK)(al:w.bR.length<=8388608):
  (anyI (ml w.bR) 0 w.bR=false/\c8 prog (ap f175 0) (pF (w.queue.map az.e) (w.b8.map az.e) (w.bR.map az.e) (w.cells.map Cell.e) (w.bB.map bc) (w.bL.map cv) (w.bj.map cv) (w.bZ.map cx.e) 0) (.exit 0) (Li (w.queue.map az.e) (w.b8.map az.e) (w.bR.map az.e) (w.cells.map Cell.e) (w.bB.map bc) (w.bL.map cv) (w.bj.map cv) (w.bZ.map cx.e)))\/
  (anyI (ml w.bR) 0 w.bR=true/\c8 prog (ap f175 0) (pF (w.queue.map az.e) (w.b8.map az.e) (w.bR.map az.e) (w.cells.map Cell.e) (w.bB.map bc) (w.bL.map cv) (w.bj.map cv) (w.bZ.map cx.e) 0) .ret (CX false)):=
 vJ (P:=prog) (c:=(ap f175 0)) w.bR (ml w.bR) (fun i=>pF (w.queue.map az.e) (w.b8.map az.e) (w.bR.map az.e) (w.cells.map Cell.e) (w.bB.map bc) (w.bL.map cv) (w.bj.map cv) (w.bZ.map cx.e) i) e5 (cn 0)
  (fun i a ai h=>by
   have hi:=a1 ai;obtain⟨h1,U,rfl | ⟨j,b,rfl,aw,aA⟩⟩:=WY ai h
   ·exact anl ⟨b5 (a1 ai),bA,bH (a1 ai),bC az.e ai,h1,bA,bH (a1 ai),bC az.e ai,U,ea (by omega),db (a1 ai) al,aa⟩
   exact ank ⟨b5 (a1 ai),bA,bH (a1 ai),bC az.e ai,h1,bA,bH (a1 ai),bC az.e ai,U,dh (by omega),⟨by omega,by omega⟩,by omega,GU aw,GR az.e aw,bA,bH (a1 ai),bC az.e ai,aA,db (a1 ai) al,aa⟩)
  (fun i a ai h=>by
   have hi:=a1 ai;rcases WX ai h with h1 | ⟨h1,U⟩ | ⟨h1,U,j,b,rfl,aw,aA⟩
   ·exact anh ⟨b5 (a1 ai),bA,bH (a1 ai),bC az.e ai,h1,aa⟩
   ·exact ani ⟨b5 (a1 ai),bA,bH (a1 ai),bC az.e ai,h1,bA,bH (a1 ai),bC az.e ai,U,aa⟩
   exact anj ⟨b5 (a1 ai),bA,bH (a1 ai),bC az.e ai,h1,bA,bH (a1 ai),bC az.e ai,U,dh (by omega),⟨by omega,by omega⟩,by omega,GU aw,GR az.e aw,bA,bH (a1 ai),bC az.e ai,aA,aa⟩)
  (anm ⟨dw,aa⟩)
theorem aoK(w:aK)(al:w.bZ.length<=8388608):
  (anyI (nd w.bZ) 0 w.bZ=false/\c8 prog (ap f175 2) (sX (w.queue.map az.e) (w.b8.map az.e) (w.bR.map az.e) (w.cells.map Cell.e) (w.bB.map bc) (w.bL.map cv) (w.bj.map cv) (w.bZ.map cx.e) 0) (.exit 4) Nv)\/
  (anyI (nd w.bZ) 0 w.bZ=true/\c8 prog (ap f175 2) (sX (w.queue.map az.e) (w.b8.map az.e) (w.bR.map az.e) (w.cells.map Cell.e) (w.bB.map bc) (w.bL.map cv) (w.bj.map cv) (w.bZ.map cx.e) 0) .ret (GG false)):=by
 have inner:∀(i:Nat) (a:cx),w.bZ[i]?=some a->
   (((w.bZ.take i).any (fun q=>q.a8==a.a8))=false/\c8 prog (ap f175 3) (uk (w.queue.map az.e) (w.b8.map az.e) (w.bR.map az.e) (w.cells.map Cell.e) (w.bB.map bc) (w.bL.map cv) (w.bj.map cv) (w.bZ.map cx.e) i 0) (.exit 6) (Nu (w.queue.map az.e) (w.b8.map az.e) (w.bR.map az.e) (w.cells.map Cell.e) (w.bB.map bc) (w.bL.map cv) (w.bj.map cv) (w.bZ.map cx.e) i))\/
   (((w.bZ.take i).any (fun q=>q.a8==a.a8))=true/\c8 prog (ap f175 3) (uk (w.queue.map az.e) (w.b8.map az.e) (w.bR.map az.e) (w.cells.map Cell.e) (w.bB.map bc) (w.bL.map cv) (w.bj.map cv) (w.bZ.map cx.e) i 0) .ret (GH false)):=by
  intro i a ai;have hi:=a1 ai;have hlen:(w.bZ.take i).length=i:=by rw[nS];omega
  have hB:∀{k:Nat} {b:cx},(w.bZ.take i)[k]?=some b->k<i/\w.bZ[k]?=some b:=fun {k b} h=>by
   have hk:=a1 h;rw[hlen]at hk;rw[kb,bn hk]at h;exact⟨hk,h⟩
  have l:=gv (P:=prog) (c:=(ap f175 3)) (w.bZ.take i) (fun q=>q.a8==a.a8) (fun k=>uk (w.queue.map az.e) (w.b8.map az.e) (w.bR.map az.e) (w.cells.map Cell.e) (w.bB.map bc) (w.bL.map cv) (w.bj.map cv) (w.bZ.map cx.e) i k) (X:=fun _ _=>GH false) e5 (cn 6)
   (fun k b aw h=>by
    obtain⟨hk,aw⟩:=hB aw;exact amD ⟨dh (by omega),bA,bH (a1 aw),bC cx.e aw,bA,bH (a1 ai),bC cx.e ai,h,db (a1 aw) al,aa⟩)
   (fun k b aw h=>by
    obtain⟨hk,aw⟩:=hB aw;exact amC ⟨dh (by omega),bA,bH (a1 aw),bC cx.e aw,bA,bH (a1 ai),bC cx.e ai,h,aa⟩)
   (amE ⟨ea (by rw[hlen];omega),aa⟩)
  rcases l with⟨_,_,h1,U⟩ | ⟨_,_,_,_,_,_,h1,U⟩
  ·exact .inl ⟨h1,U⟩
  exact .inr ⟨h1,U⟩
 exact vJ (P:=prog) (c:=(ap f175 2)) w.bZ (nd w.bZ) (fun i=>sX (w.queue.map az.e) (w.b8.map az.e) (w.bR.map az.e) (w.cells.map Cell.e) (w.bB.map bc) (w.bL.map cv) (w.bj.map cv) (w.bZ.map cx.e) i) e5 (cn 4)
  (fun i a ai h=>by
   simp only[nd,gl,kd]at h;rcases inner i a ai with⟨e,l⟩ | ⟨e,l⟩
   ·exact amG ⟨b5 (a1 ai),bA,bH (a1 ai),bC cx.e ai,gg _ _ _ true h.1,rfl,l,db (a1 ai) al,aa⟩
   rw[h.2]at e;cases e)
  (fun i a ai h=>by
   cases h1:av a.a8 0 3 with
   | false=>exact amB ⟨b5 (a1 ai),bA,bH (a1 ai),bC cx.e ai,gg _ _ _ false h1,rfl,aa⟩
   | true=>
    simp only[nd,h1,iU,ke]at h;rcases inner i a ai with⟨e,l⟩ | ⟨e,l⟩
    ·rw[h]at e;cases e
    exact amF ⟨b5 (a1 ai),bA,bH (a1 ai),bC cx.e ai,gg _ _ _ true h1,rfl,l,aa⟩)
  (amH ⟨dw,aa⟩)
theorem GV(g:bV)(w:aK)(ax:g.sz<=8388608)(hw:w.sz<=8388608):aq 175 [.agg g.e,.agg w.e] [.one (B (e6 g w))]:=by
 unfold e6;cases h1:gw g w.queue with
 | false=>exact am9 ⟨yg g _ _ h1 ax (aK.HP hw),rfl,aa⟩
 | true=>
 have c1:=yg g _ _ h1 ax (aK.HP hw);cases U:gw g w.b8 with
 | false=>exact ana ⟨c1,rfl,yg g _ _ U ax (aK.HV hw),rfl,aa⟩
 | true=>
 have c2:=yg g _ _ U ax (aK.HV hw);cases aA:gw g w.bR with
 | false=>exact anb ⟨c1,rfl,c2,rfl,yg g _ _ aA ax (aK.zp hw),rfl,aa⟩
 | true=>
 have cN:=yg g _ _ aA ax (aK.zp hw);cases aJ:kO w.cells with
 | false=>exact anc ⟨c1,rfl,c2,rfl,cN,rfl,WU aJ (aK.EJ hw),rfl,aa⟩
 | true=>
 have eD:=WU aJ (aK.EJ hw);cases a':(w.bB.length==4) with
 | false=>exact ane ⟨c1,rfl,c2,rfl,cN,rfl,eD,rfl,vh a',aa⟩
 | true=>
 cases bu:(w.bL.length==4) with
 | false=>exact anf ⟨c1,rfl,c2,rfl,cN,rfl,eD,rfl,gp a',vh bu,aa⟩
 | true=>
 cases b1:(w.bj.length==4) with
 | false=>exact ang ⟨c1,rfl,c2,rfl,cN,rfl,eD,rfl,gp a',gp bu,vh b1,aa⟩
 | true=>
 have rk:w.bB.length=4:=eq_of_beq a';rcases aoJ w (aK.zp hw) with⟨dy,kn⟩ | ⟨dy,kn⟩
 case inr=>rw[dy];exact ann ⟨c1,rfl,c2,rfl,cN,rfl,eD,rfl,gp a',gp bu,gp b1,kn,aa⟩
 have pe:=gv (P:=prog) (c:=(ap f175 1)) w.bB oA (fun i=>vV (w.queue.map az.e) (w.b8.map az.e) (w.bR.map az.e) (w.cells.map Cell.e) (w.bB.map bc) (w.bL.map cv) (w.bj.map cv) (w.bZ.map cx.e) i) (X:=fun _ _=>Ns false) e5 (cn 2)
  (fun i a ai h=>amy ⟨dh (by have:=a1 ai;omega),bA,bH (a1 ai),bC bc ai,gg _ _ _ true (by simpa[oA]using h),rfl,db (a1 ai) (aK.Zw hw),aa⟩)
  (fun i a ai h=>amx ⟨dh (by have:=a1 ai;omega),bA,bH (a1 ai),bC bc ai,gg _ _ _ false (by simpa[oA]using h),rfl,aa⟩)
  (amz ⟨ea (by omega),aa⟩)
 rw[dy];rcases pe with⟨_,_,eu,pe⟩ | ⟨_,_,_,_,_,_,eu,pe⟩
 case inr=>rw[eu];exact amA ⟨c1,rfl,c2,rfl,cN,rfl,eD,rfl,gp a',gp bu,gp b1,kn,pe,aa⟩
 rw[eu];rcases aoK w (aK.QV hw) with⟨dX,w7⟩ | ⟨dX,w7⟩
 ·rw[dX];exact amJ ⟨c1,rfl,c2,rfl,cN,rfl,eD,rfl,gp a',gp bu,gp b1,kn,pe,w7,aa⟩
 rw[dX];exact amI ⟨c1,rfl,c2,rfl,cN,rfl,eD,rfl,gp a',gp bu,gp b1,kn,pe,w7,aa⟩
end Go.Proofs.YtdchjefneblpgaaGreat
namespace Go.Proofs.YtdchjefneblpgaaGreat
open Go.Sx Go.RowKit Go.Proofs.Tryz
theorem aoL(w:aK)(al:w.bR.length<=8388608):
  (anyI (ml w.bR) 0 w.bR=false/\c8 prog (ap f187 0) (pr (w.bR.map az.e) 0 (w.queue.map az.e) (w.b8.map az.e) (w.bR.map az.e) (w.cells.map Cell.e) (w.bB.map bc) (w.bL.map cv) (w.bj.map cv) (w.bZ.map cx.e)) (.exit 0) (Lf (w.queue.map az.e) (w.b8.map az.e) (w.bR.map az.e) (w.cells.map Cell.e) (w.bB.map bc) (w.bL.map cv) (w.bj.map cv) (w.bZ.map cx.e)))\/
  (anyI (ml w.bR) 0 w.bR=true/\c8 prog (ap f187 0) (pr (w.bR.map az.e) 0 (w.queue.map az.e) (w.b8.map az.e) (w.bR.map az.e) (w.cells.map Cell.e) (w.bB.map bc) (w.bL.map cv) (w.bj.map cv) (w.bZ.map cx.e)) .ret (CY false)):=
 vJ (P:=prog) (c:=(ap f187 0)) w.bR (ml w.bR) (fun i=>pr (w.bR.map az.e) i (w.queue.map az.e) (w.b8.map az.e) (w.bR.map az.e) (w.cells.map Cell.e) (w.bB.map bc) (w.bL.map cv) (w.bj.map cv) (w.bZ.map cx.e)) e5 (cn 0)
  (fun i a ai h=>by
   have hi:=a1 ai;obtain⟨h1,U,rfl | ⟨j,b,rfl,aw,aA⟩⟩:=WY ai h
   ·exact amS ⟨b5 (a1 ai),bA,bH (a1 ai),bC az.e ai,h1,U,ea (by omega),db (a1 ai) al,aa⟩
   exact amR ⟨b5 (a1 ai),bA,bH (a1 ai),bC az.e ai,h1,U,dh (by omega),⟨by omega,by omega⟩,by omega,GU aw,GR az.e aw,aA,db (a1 ai) al,aa⟩)
  (fun i a ai h=>by
   have hi:=a1 ai;rcases WX ai h with h1 | ⟨h1,U⟩ | ⟨h1,U,j,b,rfl,aw,aA⟩
   ·exact amO ⟨b5 (a1 ai),bA,bH (a1 ai),bC az.e ai,h1,aa⟩
   ·exact amP ⟨b5 (a1 ai),bA,bH (a1 ai),bC az.e ai,h1,U,aa⟩
   exact amQ ⟨b5 (a1 ai),bA,bH (a1 ai),bC az.e ai,h1,U,dh (by omega),⟨by omega,by omega⟩,by omega,GU aw,GR az.e aw,aA,aa⟩)
  (amT ⟨dw,aa⟩)
theorem WZ(xs:List cx)(i:Nat)(e:Int)(r:Bool)(h:(xs.take i).any (fun q=>q.a8==e)=r)(al:xs.length<=8388608):aq 281 [.one (.J 2 ((xs.map cx.e).take i)),.one (I e)] [.one (B r)]:=by
 have c:=Ui (xs.take i) e (by rw[nS];omega);rw[qJ,h]at c;exact c
theorem aoM(w:aK)(al:w.bZ.length<=8388608):
  (anyI (nd w.bZ) 0 w.bZ=false/\c8 prog (ap f187 2) (sY (w.bZ.map cx.e) 0 (w.queue.map az.e) (w.b8.map az.e) (w.bR.map az.e) (w.cells.map Cell.e) (w.bB.map bc) (w.bL.map cv) (w.bj.map cv) (w.bZ.map cx.e)) (.exit 4) Ny)\/
  (anyI (nd w.bZ) 0 w.bZ=true/\c8 prog (ap f187 2) (sY (w.bZ.map cx.e) 0 (w.queue.map az.e) (w.b8.map az.e) (w.bR.map az.e) (w.cells.map Cell.e) (w.bB.map bc) (w.bL.map cv) (w.bj.map cv) (w.bZ.map cx.e)) .ret (GI false)):=
 vJ (P:=prog) (c:=(ap f187 2)) w.bZ (nd w.bZ) (fun i=>sY (w.bZ.map cx.e) i (w.queue.map az.e) (w.b8.map az.e) (w.bR.map az.e) (w.cells.map Cell.e) (w.bB.map bc) (w.bL.map cv) (w.bj.map cv) (w.bZ.map cx.e)) e5 (cn 4)
  (fun i a ai h=>by
   have hi:=a1 ai;simp only[nd,gl,kd]at h;exact amu ⟨b5 (a1 ai),bA,bH (a1 ai),bC cx.e ai,hM true h.1,rfl,Int.le_refl 0,(bA:(0:Int)<=(i:Int)),(show (i:Int)<=_ by rw[ct];omega),WZ w.bZ i a.a8 false h.2 al,rfl,db (a1 ai) al,aa⟩)
  (fun i a ai h=>by
   have hi:=a1 ai;cases h1:av a.a8 0 3 with
   | false=>exact ams ⟨b5 (a1 ai),bA,bH (a1 ai),bC cx.e ai,hM false h1,rfl,aa⟩
   | true=>
    simp only[nd,h1,iU,ke]at h;exact amt ⟨b5 (a1 ai),bA,bH (a1 ai),bC cx.e ai,hM true h1,rfl,Int.le_refl 0,(bA:(0:Int)<=(i:Int)),(show (i:Int)<=_ by rw[ct];omega),WZ w.bZ i a.a8 true h al,rfl,aa⟩)
  (amv ⟨dw,aa⟩)
theorem GX(g:bV)(w:aK)(ax:g.sz<=8388608)(hw:w.sz<=8388608):aq 187 [.agg g.e,.agg w.e] [.one (B (e6 g w))]:=by
 unfold e6;cases h1:gw g w.queue with
 | false=>exact amK ⟨yh g _ _ h1 ax (aK.HP hw),rfl,aa⟩
 | true=>
 have c1:=yh g _ _ h1 ax (aK.HP hw);cases U:gw g w.b8 with
 | false=>exact amL ⟨c1,rfl,yh g _ _ U ax (aK.HV hw),rfl,aa⟩
 | true=>
 have c2:=yh g _ _ U ax (aK.HV hw);cases aA:gw g w.bR with
 | false=>exact amM ⟨c1,rfl,c2,rfl,yh g _ _ aA ax (aK.zp hw),rfl,aa⟩
 | true=>
 have cN:=yh g _ _ aA ax (aK.zp hw);cases aJ:kO w.cells with
 | false=>exact amN ⟨c1,rfl,c2,rfl,cN,rfl,WV aJ (aK.EJ hw),rfl,aa⟩
 | true=>
 have eD:=WV aJ (aK.EJ hw);rcases aoL w (aK.zp hw) with⟨dy,kn⟩ | ⟨dy,kn⟩
 case inr=>
  rw[dy];simp only[iU,Bool.false_and,Bool.and_false];exact amU ⟨c1,rfl,c2,rfl,cN,rfl,eD,rfl,kn,aa⟩
 cases a':(w.bB.length==4) with
 | false=>exact amV ⟨c1,rfl,c2,rfl,cN,rfl,eD,rfl,kn,vh a',aa⟩
 | true=>
 cases bu:(w.bL.length==4) with
 | false=>exact amW ⟨c1,rfl,c2,rfl,cN,rfl,eD,rfl,kn,gp a',vh bu,aa⟩
 | true=>
 cases b1:(w.bj.length==4) with
 | false=>exact amn ⟨c1,rfl,c2,rfl,cN,rfl,eD,rfl,kn,gp a',gp bu,vh b1,aa⟩
 | true=>
 have pe:=gv (P:=prog) (c:=(ap f187 1)) w.bB oA (fun i=>vW (w.queue.map az.e) (w.b8.map az.e) (w.bR.map az.e) (w.cells.map Cell.e) (w.bB.map bc) (w.bL.map cv) (w.bj.map cv) (w.bZ.map cx.e) i) (X:=fun _ _=>Nw false) e5 (cn 2)
  (fun i a ai h=>amp ⟨b5 (a1 ai),bA,bH (a1 ai),bC bc ai,hM true (by simpa[oA]using h),rfl,db (a1 ai) (aK.Zw hw),aa⟩)
  (fun i a ai h=>amo ⟨b5 (a1 ai),bA,bH (a1 ai),bC bc ai,hM false (by simpa[oA]using h),rfl,aa⟩)
  (amq ⟨dw,aa⟩)
 rw[dy];rcases pe with⟨_,_,eu,pe⟩ | ⟨_,_,_,_,_,_,eu,pe⟩
 case inr=>rw[eu];exact amr ⟨c1,rfl,c2,rfl,cN,rfl,eD,rfl,kn,gp a',gp bu,gp b1,pe,aa⟩
 rw[eu];rcases aoM w (aK.QV hw) with⟨dX,w7⟩ | ⟨dX,w7⟩
 ·rw[dX];exact an0 ⟨c1,rfl,c2,rfl,cN,rfl,eD,rfl,kn,gp a',gp bu,gp b1,pe,w7,aa⟩
 rw[dX];exact amw ⟨c1,rfl,c2,rfl,cN,rfl,eD,rfl,kn,gp a',gp bu,gp b1,pe,w7,aa⟩
