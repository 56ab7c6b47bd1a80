import Derived.Test.YtdchjefneblpgaaGreatP17
set_option linter.unusedVariables false
set_option linter.unusedSimpArgs false
namespace Go.Proofs.YtdchjefneblpgaaGreat
open Go.Sx Go.RowKit Go.Proofs.Tryz
def eI(g:b1)(cs:List Cell)(r:aA):List Cell×List aA×Bool:=match hl g r.op with | some x=>e8 g cs r x | none=>(cs,[],false)
theorem Sg(g:b1)(cs:List Cell)(r:aA)(au:g.sz<=8388608)(ak:cs.length<=8388608):av 176 [.agg g.e,.one (.J 4 (cs.map Cell.e)),.agg r.e] [.one (.J 4 ((eI g cs r).1.map Cell.e)),.one (.J 5 ((eI g cs r).2.1.map aA.e)),.one (B (eI g cs r).2.2)]:=by
 unfold eI;cases h:hl g r.op with
 | some x=>exact acF g cs r x au ak h
 | none=>exact abj ⟨by simp<;>omega,by simp<;>omega,cr _ Cell.flat _,DU g r.op (⟨0,0,0,[]⟩,false) (by unfold tR;rw[h]) au,rfl,aa⟩
def oP(g:b1)(r:aA)(x:Node):Bool:=eA g&&fe r&&x.kind==7&&decide (0<x.outs.length)&&!(gV r.bx).2
def dT(g:b1)(r:aA):Bool:=match hl g r.op with | some x=>oP g r x | none=>false
theorem acG(g:b1)(r:aA)(x:Node)(au:g.sz<=8388608)(aT:hl g r.op=some x):av 177 [.agg g.e,.agg r.e] [.one (B (oP g r x))]:=by
 have c1:=DU g r.op (x,true) (by unfold tR;rw[aT]) au;have c2:=xJ r.bx;have cR:=xK g au;rcases c7 (eA g) with aK | aK
 ·skip
  have h3:=si r;rcases c7 (fe r) with bw | bw
  ·skip
   rcases c7 (x.kind==7) with bX | bX
   ·skip
    rcases c7 (decide ((↑(x.outs.map a8).length:Int)>0)) with c8 | c8
    ·skip
     rw[show oP g r x=(!((gV r.bx).2)) from by grind[oP]];exact abd ⟨c1,c2,rfl,cR,aK,h3,bw,bX,c8,aa⟩
    skip
    rw[show oP g r x=false from by grind[oP]];exact abe ⟨c1,c2,rfl,cR,aK,h3,bw,bX,c8,aa⟩
   skip
   rw[show oP g r x=false from by grind[oP]];exact abf ⟨c1,c2,rfl,cR,aK,h3,bw,bX,aa⟩
  skip
  rw[show oP g r x=false from by grind[oP]];exact abg ⟨c1,c2,rfl,cR,aK,h3,bw,aa⟩
 skip
 rw[show oP g r x=false from by grind[oP]];exact abh ⟨c1,c2,rfl,cR,aK,aa⟩
theorem Sh(g:b1)(r:aA)(au:g.sz<=8388608):av 177 [.agg g.e,.agg r.e] [.one (B (dT g r))]:=by
 unfold dT;cases h:hl g r.op with
 | some x=>exact acG g r x au h
 | none=>exact abi ⟨DU g r.op (⟨0,0,0,[]⟩,false) (by unfold tR;rw[h]) au,xJ r.bx,rfl,aa⟩
theorem JY{g:b1}(h:eA g=true){op:Int}{x:Node}(aT:hl g op=some x):aL x=true:=by
 simp only[eA,cq,g']at h;unfold hl at aT;split at aT
 ·have:=C2 h.2 op.toNat x aT;simp only[iN,gq,kD]at this;exact this.1.1
 cases aT
theorem acH{x:Node}(h:aL x=true):x.outs.length<=2:=by
 simp only[aL,cq,cK]at h;exact h.1.1.1.2
theorem acI(kind:Int)(cs:List Cell)(x:Cell):(eb kind cs x).1.length<=cs.length+1:=by
 have h1:=QF cs x;have U:=QF (cs.filter fun a=>!gx x a) x;have ax:=ud (fun a=>!gx x a) cs;unfold eb;split
 ·split<;>simp<;>omega
 split
 ·unfold oO;split<;>simp<;>omega
 simp
theorem acJ{g:b1}(au:eA g=true)(cs:List Cell)(r:aA):(eI g cs r).1.length<=cs.length+1/\(eI g cs r).2.1.length<=2:=by
 unfold eI;cases h:hl g r.op with
 | none=>exact⟨by simp,by simp⟩
 | some x=>
  have ag:=acH (JY au h);have aD:=acI x.kind cs ⟨r.op,r.bx.bf,r.key,r.val⟩;have ai:∀s k v,(jY x s k v).length<=2:=fun s k v=>by simpa[jY]using ag
  simp only[e8];split
  ·split
   ·exact⟨by simp,by simp⟩
   split
   ·exact⟨aD,by simp⟩
   split
   ·refine⟨aD,?_⟩;cases (gV r.bx).2 with
    | true=>exact ai _ _ _
    | false=>simp
   exact⟨aD,ai _ _ _⟩
  exact⟨by simp,by simp⟩
end Go.Proofs.YtdchjefneblpgaaGreat
namespace Go.Proofs.YtdchjefneblpgaaGreat
open Go.Sx Go.RowKit Go.Proofs.Tryz
def DX(p:Cell×Cell):Bool:=decide (ib p.1 p.2>=0)
def jD(xs:List Cell):Bool:=!((xs.zip (xs.drop 1)).any DX)
variable{xs:List Cell}
theorem AG{i:Nat}{p:Cell×Cell}(h:(xs.zip (xs.drop 1))[i]?=some p):xs[i]?=some p.1/\xs[i+1]?=some p.2:=by
 rw[List.getElem?_zip_eq_some]at h;obtain⟨h1,U⟩:=h;rw[jZ,Nat.add_comm]at U;exact⟨h1,U⟩
theorem acK(xs:List Cell)(ak:xs.length<=8388608):av 266 [.one (.J 4 (xs.map Cell.e))] [.one (B (jD xs))]:=by
 have bz:∀i:Nat,(((i:Int)+1)-1).toNat=i:=fun i=>by omega
 have e1:∀i:Nat,(((i:Int)+1)).toNat=i+1:=fun i=>by omega
 have bd:(xs.zip (xs.drop 1)).length=xs.length-1:=by simp
 have l:=hh (P:=prog) (c:=(ar f266 0)) (xs.zip (xs.drop 1)) DX (fun i=>tL (xs.map Cell.e) ((i:Int)+1)) (X:=fun _ _=>JJ false) fi (cM 0)
  (fun i a aj h=>by
   obtain⟨h1,U⟩:=AG aj;have hi:=a6 U;refine wb (tL (xs.map Cell.e)) (Zr ⟨dZ (by simp only[bm];omega),⟨by omega,by omega⟩,by omega,by simp only[bm];omega,by rw[bz,dd,h1];rfl,by omega,by simp only[bm];omega,by rw[e1,dd,U];rfl,Dh a.1 a.2,h,⟨by omega,by omega⟩,aa⟩) (by omega))
  (fun i a aj h=>by
   obtain⟨h1,U⟩:=AG aj;have hi:=a6 U;exact Zq ⟨dZ (by simp only[bm];omega),⟨by omega,by omega⟩,by omega,by simp only[bm];omega,by rw[bz,dd,h1];rfl,by omega,by simp only[bm];omega,by rw[e1,dd,U];rfl,Dh a.1 a.2,h,aa⟩)
  (Zs ⟨eD (by rw[bd];simp only[bm];omega),aa⟩)
 unfold jD;rcases l with⟨_,_,h1,U⟩ | ⟨i,a,_,_,_,_,h1,U⟩
 ·rw[h1];exact Zu ⟨U,aa⟩
 rw[h1];exact Zt ⟨U,aa⟩
theorem Si{r:Bool}(h:jD xs=r)(ak:xs.length<=8388608):av 266 [.one (.J 4 (xs.map Cell.e))] [.one (B r)]:=h▸acK xs ak
theorem acL(xs:List Cell)(ak:xs.length<=8388608):av 280 [.one (.J 4 (xs.map Cell.e))] [.one (B (jD xs))]:=by
 have bz:∀i:Nat,(((i:Int)+1)-1).toNat=i:=fun i=>by omega
 have e1:∀i:Nat,(((i:Int)+1)).toNat=i+1:=fun i=>by omega
 have bd:(xs.zip (xs.drop 1)).length=xs.length-1:=by simp
 have l:=hh (P:=prog) (c:=(ar f280 0)) (xs.zip (xs.drop 1)) DX (fun i=>tM (xs.map Cell.e) ((i:Int)+1)) (X:=fun _ _=>JK false) fi (cM 0)
  (fun i a aj h=>by
   obtain⟨h1,U⟩:=AG aj;have hi:=a6 U;refine wb (tM (xs.map Cell.e)) (Zw ⟨dZ (by simp only[bm];omega),⟨by omega,by omega⟩,by omega,by simp only[bm];omega,by rw[bz,dd,h1];rfl,by omega,by simp only[bm];omega,by rw[e1,dd,U];rfl,QJ a.1 a.2,h,⟨by omega,by omega⟩,aa⟩) (by omega))
  (fun i a aj h=>by
   obtain⟨h1,U⟩:=AG aj;have hi:=a6 U;exact Zv ⟨dZ (by simp only[bm];omega),⟨by omega,by omega⟩,by omega,by simp only[bm];omega,by rw[bz,dd,h1];rfl,by omega,by simp only[bm];omega,by rw[e1,dd,U];rfl,QJ a.1 a.2,h,aa⟩)
  (Zx ⟨eD (by rw[bd];simp only[bm];omega),aa⟩)
 unfold jD;rcases l with⟨_,_,h1,U⟩ | ⟨i,a,_,_,_,_,h1,U⟩
 ·rw[h1];exact Zz ⟨U,aa⟩
 rw[h1];exact Zy ⟨U,aa⟩
theorem Sj{r:Bool}(h:jD xs=r)(ak:xs.length<=8388608):av 280 [.one (.J 4 (xs.map Cell.e))] [.one (B r)]:=h▸acL xs ak
def kW(g:b1)(r:aA):Bool:=!fe r||decide (r.op>=(g.nodes.length:Int))
def fI(g:b1)(xs:List aA):Bool:=!(xs.any (kW g))
theorem acM{r:aA}(h:fe r=true):0<=r.op:=by
 simp only[fe,cq,ap,cK]at h;omega
theorem acN(g:b1)(xs:List aA)(ak:xs.length<=8388608):av 192 [.agg g.e,.one (.J 5 (xs.map aA.e))] [.one (B (fI g xs))]:=by
 have l:=hh (P:=prog) (c:=(ar f192 0)) xs (kW g) (fun i=>tN (g.nodes.map Node.e) g.ay g.cap (xs.map aA.e) i) (X:=fun _ _=>CM false) fi (cM 0)
  (fun i a aj h=>by
   simp only[kW,gq,kD]at h;have c:=si a;rw[h.1]at c;exact ZC ⟨cf (a6 aj),bG,bL (a6 aj),bF aA.e aj,c,rfl,bG,bL (a6 aj),bF aA.e aj,by rw[bm];exact h.2,dw (a6 aj) ak,aa⟩)
  (fun i a aj h=>by
   have c:=si a;cases aD:fe a with
   | false=>
    rw[aD]at c;exact ZA ⟨cf (a6 aj),bG,bL (a6 aj),bF aA.e aj,c,rfl,aa⟩
   | true=>
    rw[aD]at c;simp only[kW,aD,jJ,jL]at h;exact ZB ⟨cf (a6 aj),bG,bL (a6 aj),bF aA.e aj,c,rfl,bG,bL (a6 aj),bF aA.e aj,by rw[bm];exact h,aa⟩)
  (ZD ⟨dU,aa⟩)
 unfold fI;rcases l with⟨_,_,h1,U⟩ | ⟨i,a,_,_,_,_,h1,U⟩
 ·rw[h1];exact ZF ⟨U,aa⟩
 rw[h1];exact ZE ⟨U,aa⟩
theorem Sk{g:b1}{r:aA}(h:fe r=true):(hl g r.op).isSome=!(decide (r.op>=(g.nodes.length:Int))):=by
 have bJ:=acM h;unfold hl;rw[br bJ];by_cases ah:r.op>=(g.nodes.length:Int)
 ·rw[dZ ah,List.getElem?_eq_none (by omega)];rfl
 rw[eD ah,gp (by omega)];rfl
theorem abV(g:b1)(xs:List aA)(au:g.sz<=8388608)(ak:xs.length<=8388608):av 189 [.agg g.e,.one (.J 5 (xs.map aA.e))] [.one (B (fI g xs))]:=by
 have l:=hh (P:=prog) (c:=(ar f189 0)) xs (kW g) (fun i=>tO (xs.map aA.e) i (g.nodes.map Node.e) g.ay g.cap) (X:=fun _ _=>CN false) fi (cM 0)
  (fun i a aj h=>by
   simp only[kW,gq,kD]at h;have c:=Av a;rw[h.1]at c;exact ZI ⟨cf (a6 aj),bG,bL (a6 aj),bF aA.e aj,c,rfl,R' g a.op true (by rw[Sk h.1,h.2];rfl) au,rfl,dw (a6 aj) ak,aa⟩)
  (fun i a aj h=>by
   have c:=Av a;cases aD:fe a with
   | false=>
    rw[aD]at c;exact ZG ⟨cf (a6 aj),bG,bL (a6 aj),bF aA.e aj,c,rfl,aa⟩
   | true=>
    rw[aD]at c;simp only[kW,aD,jJ,jL]at h;exact ZH ⟨cf (a6 aj),bG,bL (a6 aj),bF aA.e aj,c,rfl,R' g a.op false (by rw[Sk aD,h];rfl) au,rfl,aa⟩)
  (YU ⟨dU,aa⟩)
 unfold fI;rcases l with⟨_,_,h1,U⟩ | ⟨i,a,_,_,_,_,h1,U⟩
 ·rw[h1];exact YW ⟨U,aa⟩
 rw[h1];exact YV ⟨U,aa⟩
theorem vr(g:b1)(xs:List aA)(r:Bool)(h:fI g xs=r)(_:g.sz<=8388608)(ak:xs.length<=8388608):av 192 [.agg g.e,.one (.J 5 (xs.map aA.e))] [.one (B r)]:=h▸acN g xs ak
theorem vt(g:b1)(xs:List aA)(r:Bool)(h:fI g xs=r)(au:g.sz<=8388608)(ak:xs.length<=8388608):av 189 [.agg g.e,.one (.J 5 (xs.map aA.e))] [.one (B r)]:=h▸abV g xs au ak
def ie(l:bt):Bool:=
 ap l.cap 1 4&&ap l.eo 0 l.cap&&ap l.back 0 l.cap&&(l.eo+l.back+l.queue.length==l.cap)&&ap l.eQ 0 1000000000&&decide (0<=l.c5)&&(l.c5==l.eQ-l.queue.length)&&!(l.queue.any fun r=>!fe r)
theorem abW(xs:List aA)(ak:xs.length<=8388608):av 282 [.one (.J 5 (xs.map aA.e))] [.one (B (!(xs.any fun r=>!fe r)))]:=by
 have l:=hh (P:=prog) (c:=(ar f282 0)) xs (fun r=>!fe r) (fun i=>vj (xs.map aA.e) i) (X:=fun _ _=>JT false) fi (cM 0)
  (fun i a aj h=>Z5 ⟨cf (a6 aj),bG,bL (a6 aj),bF aA.e aj,Av a,h,dw (a6 aj) ak,aa⟩)
  (fun i a aj h=>Z4 ⟨cf (a6 aj),bG,bL (a6 aj),bF aA.e aj,Av a,h,aa⟩)
  (Z6 ⟨dU,aa⟩)
 rcases l with⟨_,_,h1,U⟩ | ⟨i,a,_,_,_,_,h1,U⟩
 ·rw[h1];exact Z8 ⟨U,aa⟩
 rw[h1];exact Z7 ⟨U,aa⟩
theorem DY(l:bt)(ak:l.sz<=8388608)(sY:l.c5<=9223372036854775807):av 188 [.agg l.e] [.one (B (ie l))]:=by
 have aC:l.queue.length<=8388608:=ak;have c1:=kf l.cap 1 4;have c2:=kf l.eo 0 l.cap;have cR:=kf l.back 0 l.cap;have ef:=kf l.eQ 0 1000000000;have h3:=abW l.queue aC;unfold ie;cases h1:ap l.cap 1 4 with
 | false=>rw[h1]at c1;exact ZW ⟨c1,rfl,aa⟩
 | true=>
 cases U:ap l.eo 0 l.cap with
 | false=>rw[h1]at c1;rw[U]at c2;exact ZX ⟨c1,rfl,c2,rfl,aa⟩
 | true=>
 cases ax:ap l.back 0 l.cap with
 | false=>rw[h1]at c1;rw[U]at c2;rw[ax]at cR;exact ZY ⟨c1,rfl,c2,rfl,cR,rfl,aa⟩
 | true=>
 have cV:=h1;have cA:=U;have fl:=ax;simp only[ap,cK]at cV cA fl;rw[h1]at c1;rw[U]at c2;rw[ax]at cR;have mS:az .i64 (l.eo+l.back):=⟨by omega,by omega⟩
 have o1:az .i64 (l.eo+l.back+(↑(l.queue.map aA.e).length:Int)):=⟨by simp only[bm];omega,by simp only[bm];omega⟩
 cases aK:(l.eo+l.back+(l.queue.length:Int)==l.cap) with
 | false=>exact ZZ ⟨c1,rfl,c2,rfl,cR,rfl,mS,o1,by rw[bm];simpa using aK,aa⟩
 | true=>
 have v4:(l.eo+l.back+(↑(l.queue.map aA.e).length:Int) != l.cap)=false:=by rw[bm];simpa using aK
 cases aV:ap l.eQ 0 1000000000 with
 | false=>rw[aV]at ef;exact Z0 ⟨c1,rfl,c2,rfl,cR,rfl,mS,o1,v4,ef,rfl,aa⟩
 | true=>
 have jv:=aV;simp only[ap,cK]at jv;rw[aV]at ef;by_cases bw:l.c5<0
 ·rw[eD (show ¬0<=l.c5 by omega)];exact Z1 ⟨c1,rfl,c2,rfl,cR,rfl,mS,o1,v4,ef,rfl,dZ bw,aa⟩
 rw[dZ (show 0<=l.c5 by omega)];have wc:az .i64 (l.eQ-l.c5):=⟨by omega,by omega⟩
 ·by_cases bX:l.c5=l.eQ-(l.queue.length:Int)
  ·rw[show (l.c5==l.eQ-(l.queue.length:Int))=true from by simpa using bX];exact Z3 ⟨c1,rfl,c2,rfl,cR,rfl,mS,o1,v4,ef,rfl,eD bw,wc,by rw[bm];simp;omega,h3,aa⟩
  rw[show (l.c5==l.eQ-(l.queue.length:Int))=false from by simpa using bX];exact Z2 ⟨c1,rfl,c2,rfl,cR,rfl,mS,o1,v4,ef,rfl,eD bw,wc,by rw[bm];simp;omega,aa⟩
theorem DZ(l:bt)(ak:l.sz<=8388608):av 191 [.agg l.e] [.one (B (ie l))]:=by
 have aC:l.queue.length<=8388608:=ak;have aW:=hh (P:=prog) (c:=(ar f191 0)) l.queue (fun r=>!fe r) (fun i=>vd l.cap (l.queue.map aA.e) l.eo l.back l.eQ l.c5 i) (X:=fun _ _=>JS false) fi (cM 0)
  (fun i a aj h=>aaC ⟨cf (a6 aj),bG,bL (a6 aj),bF aA.e aj,si a,h,dw (a6 aj) aC,aa⟩)
  (fun i a aj h=>aaB ⟨cf (a6 aj),bG,bL (a6 aj),bF aA.e aj,si a,h,aa⟩)
  (aaD ⟨dU,aa⟩)
 unfold ie;rcases aW with⟨_,_,bJ,aW⟩ | ⟨i,a,_,_,_,_,bJ,aW⟩
 case inr=>
  rw[bJ,jJ,Bool.and_false];exact aaE ⟨aW,aa⟩
 rw[bJ,o8,um];have c1:=ia l.cap 1 4;have c2:=ia l.eo 0 l.cap;have cR:=ia l.back 0 l.cap;have ef:=ia l.eQ 0 1000000000;cases h1:ap l.cap 1 4 with
 | false=>rw[h1]at c1;exact ZV ⟨aW,c1,rfl,aa⟩
 | true=>
 cases U:ap l.eo 0 l.cap with
 | false=>rw[h1]at c1;rw[U]at c2;exact ZU ⟨aW,c1,rfl,c2,rfl,aa⟩
 | true=>
 cases ax:ap l.back 0 l.cap with
 | false=>rw[h1]at c1;rw[U]at c2;rw[ax]at cR;exact ZT ⟨aW,c1,rfl,c2,rfl,cR,rfl,aa⟩
 | true=>
 have cV:=h1;have cA:=U;have fl:=ax;simp only[ap,cK]at cV cA fl;rw[h1]at c1;rw[U]at c2;rw[ax]at cR;have mS:az .i64 (l.eo+l.back):=⟨by omega,by omega⟩
 have o1:az .i64 (l.eo+l.back+(↑(l.queue.map aA.e).length:Int)):=⟨by simp only[bm];omega,by simp only[bm];omega⟩
 cases aK:(l.eo+l.back+(l.queue.length:Int)==l.cap) with
 | false=>exact aaI ⟨aW,c1,rfl,c2,rfl,cR,rfl,mS,o1,by rw[bm];exact aK,aa⟩
 | true=>
 have v4:(l.eo+l.back+(↑(l.queue.map aA.e).length:Int)==l.cap)=true:=by rw[bm];exact aK
 cases aV:ap l.eQ 0 1000000000 with
 | false=>rw[aV]at ef;exact aaH ⟨aW,c1,rfl,c2,rfl,cR,rfl,mS,o1,v4,ef,rfl,aa⟩
 | true=>
 have jv:=aV;simp only[ap,cK]at jv;rw[aV]at ef;have wc:az .i64 (l.eQ-(↑(l.queue.map aA.e).length:Int)):=⟨by simp only[bm];omega,by simp only[bm];omega⟩
 cases bX:(l.c5==l.eQ-(l.queue.length:Int)) with
 | false=>
  rw[Bool.and_false];exact aaG ⟨aW,c1,rfl,c2,rfl,cR,rfl,mS,o1,v4,ef,rfl,wc,by rw[bm];exact bX,aa⟩
 | true=>
  rw[um];exact aaF ⟨aW,c1,rfl,c2,rfl,cR,rfl,mS,o1,v4,ef,rfl,wc,by rw[bm];exact bX,aa⟩
