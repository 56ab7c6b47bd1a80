import Derived.Test.YtdchjefneblpgaaGreatP18
import Derived.Test.YtdchjefneblpgaaGreatGU
set_option linter.unusedVariables false
set_option linter.unusedSimpArgs false
namespace Go.Proofs.YtdchjefneblpgaaGreat
open Go.Sx Go.RowKit Go.Proofs.Tryz
variable{c:aV}
theorem aV.LN(h:c.wf){l:bC}(aj:l∈c.bQ):l.wf:=h.aeQ.2 l aj
structure Rt (c:aV):Prop where
 n:aJ .i64 c.ax.ao
 l:∀l∈c.bQ,aJ .i64 l.cap/\l.eo<=9223372036854775807
theorem Rt.of(h:c.wf):Rt c:=⟨h.acD.Z',fun l aj=>⟨(aV.LN h aj).RL,(aV.LN h aj).RW.2⟩⟩
theorem aV.Gl(h:c.sz<=8388608){l:bC}(aj:l∈c.bQ):l.sz<=8388608:=by
 grind[G',bC.sz,aV.sz]
def pQ(e:Int)(l:bC):Nat:=(iI e l.queue).length
theorem wS{α:Type}{f:Int->α}{xs:List Int}(h:xs.length<=8388608):IntKind.i64.wrap ((↑(xs.map f).length:Int)-1)=(xs.length:Int)-1:=by
 rw[cp];exact aJ.wrap ⟨by omega,by omega⟩
def ec(key ao:Int):Int:=if ao<1 then 0 else if key.tmod ao<0 then key.tmod ao+ao else key.tmod ao
theorem NE(a b:Int)(h:0<b):- b<a.tmod b:=by
 rcases Int.le_total 0 a with ae | ae
 ·have:=Int.tmod_nonneg b ae;omega
 have h1:(-a).tmod b<b:=Int.tmod_lt_of_pos _ h;rw[Int.neg_tmod]at h1;omega
theorem Wb(key ao:Int)(hw:ao<=9223372036854775807):av 245 [.one (I key),.one (I ao)] [.one (I (ec key ao))]:=by
 unfold ec;split
 ·exact aja ⟨by simpa using ‹ao<1›,ad⟩
 rename_i h;have h1:=NE key ao (by omega);have U:key.tmod ao<ao:=Int.tmod_lt_of_pos _ (by omega);split
 ·rename_i aA;exact ajb ⟨by simp only[l4];omega,by omega,by simpa using aA,⟨by omega,by omega⟩,ad⟩
 rename_i aA;exact ajc ⟨by simp only[l4];omega,by omega,by simpa using aA,ad⟩
theorem Wc(key ao:Int)(hw:ao<=9223372036854775807):av 147 [.one (I key),.one (I ao)] [.one (I (ec key ao))]:=by
 unfold ec;split
 ·exact ajd ⟨by simpa using ‹ao<1›,ad⟩
 rename_i h;have h1:=NE key ao (by omega);have U:key.tmod ao<ao:=Int.tmod_lt_of_pos _ (by omega);split
 ·rename_i aA;exact aje ⟨by simp only[l4];omega,by omega,by simpa using aA,⟨by omega,by omega⟩,ad⟩
 rename_i aA;exact ajf ⟨by simp only[l4];omega,by omega,by simpa using aA,ad⟩
def DQ(w n:Int)(r:ay):Bool:=ec r.key n != w
def JL(n:Int)(i:Nat)(w:aN):Bool:=w.queue.any (DQ i n)||w.bX.any (DQ i n)
def JK(n:Int)(i:Nat)(l:bC):Bool:=decide (n<1)||l.queue.any (DQ ((i:Int).tmod n) n)
def Wd(c:aV):Bool:=!(anyI (JL c.ax.ao) 0 c.ao)&&!(anyI (JK c.ax.ao) 0 c.bQ)
theorem aN.IF{w:aN}(h:w.sz<=8388608):w.queue.length<=8388608:=by grind[aN.sz]
theorem aN.zJ{w:aN}(h:w.sz<=8388608):w.bX.length<=8388608:=by grind[aN.sz]
end Go.Proofs.YtdchjefneblpgaaGreat
namespace Go.Proofs.YtdchjefneblpgaaGreat
open Go.Sx Go.RowKit Go.Proofs.Tryz
def G2(p:Cell×Cell):Bool:=decide (fS p.1 p.2>=0)
def k9(xs:List Cell):Bool:=!((xs.zip (xs.drop 1)).any G2)
variable{xs:List Cell}
theorem DR{i:Nat}{p:Cell×Cell}(h:(xs.zip (xs.drop 1))[i]?=some p):xs[i]?=some p.1/\xs[i+1]?=some p.2:=by
 rw[List.getElem?_zip_eq_some]at h;obtain⟨h1,U⟩:=h;rw[lY,Nat.add_comm]at U;exact⟨h1,U⟩
theorem amp(xs:List Cell)(aj:xs.length<=8388608):av 266 [.one (.J 4 (xs.map Cell.e))] [.one (B (k9 xs))]:=by
 have cd:∀i:Nat,(((i:Int)+1)-1).toNat=i:=fun i=>by omega
 have e1:∀i:Nat,(((i:Int)+1)).toNat=i+1:=fun i=>by omega
 have aL:(xs.zip (xs.drop 1)).length=xs.length-1:=by simp
 have l:=hf (P:=prog) (c:=(ap f266 0)) (xs.zip (xs.drop 1)) G2 (fun i=>wJ (xs.map Cell.e) ((i:Int)+1)) (X:=fun _ _=>N2 false) eZ (ci 0)
  (fun i a ae h=>by
   obtain⟨h1,U⟩:=DR ae;have hi:=a6 U;refine u0 (wJ (xs.map Cell.e)) (akH ⟨dc (by simp only[cp];omega),⟨by omega,by omega⟩,by omega,by simp only[cp];omega,by rw[cd,eg,h1];rfl,by omega,by simp only[cp];omega,by rw[e1,eg,U];rfl,Hm a.1 a.2,h,⟨by omega,by omega⟩,ad⟩) (by omega))
  (fun i a ae h=>by
   obtain⟨h1,U⟩:=DR ae;have hi:=a6 U;exact ajg ⟨dc (by simp only[cp];omega),⟨by omega,by omega⟩,by omega,by simp only[cp];omega,by rw[cd,eg,h1];rfl,by omega,by simp only[cp];omega,by rw[e1,eg,U];rfl,Hm a.1 a.2,h,ad⟩)
  (akI ⟨dE (by rw[aL];simp only[cp];omega),ad⟩)
 unfold k9;rcases l with⟨_,_,h1,U⟩ | ⟨i,a,_,_,_,_,h1,U⟩
 ·rw[h1];exact akK ⟨U,ad⟩
 rw[h1];exact akJ ⟨U,ad⟩
theorem We{r:Bool}(h:k9 xs=r)(aj:xs.length<=8388608):av 266 [.one (.J 4 (xs.map Cell.e))] [.one (B r)]:=h▸amp xs aj
theorem amq(xs:List Cell)(aj:xs.length<=8388608):av 280 [.one (.J 4 (xs.map Cell.e))] [.one (B (k9 xs))]:=by
 have cd:∀i:Nat,(((i:Int)+1)-1).toNat=i:=fun i=>by omega
 have e1:∀i:Nat,(((i:Int)+1)).toNat=i+1:=fun i=>by omega
 have aL:(xs.zip (xs.drop 1)).length=xs.length-1:=by simp
 have l:=hf (P:=prog) (c:=(ap f280 0)) (xs.zip (xs.drop 1)) G2 (fun i=>vO (xs.map Cell.e) ((i:Int)+1)) (X:=fun _ _=>N3 false) eZ (ci 0)
  (fun i a ae h=>by
   obtain⟨h1,U⟩:=DR ae;have hi:=a6 U;refine u0 (vO (xs.map Cell.e)) (akM ⟨dc (by simp only[cp];omega),⟨by omega,by omega⟩,by omega,by simp only[cp];omega,by rw[cd,eg,h1];rfl,by omega,by simp only[cp];omega,by rw[e1,eg,U];rfl,Hl a.1 a.2,h,⟨by omega,by omega⟩,ad⟩) (by omega))
  (fun i a ae h=>by
   obtain⟨h1,U⟩:=DR ae;have hi:=a6 U;exact akL ⟨dc (by simp only[cp];omega),⟨by omega,by omega⟩,by omega,by simp only[cp];omega,by rw[cd,eg,h1];rfl,by omega,by simp only[cp];omega,by rw[e1,eg,U];rfl,Hl a.1 a.2,h,ad⟩)
  (akN ⟨dE (by rw[aL];simp only[cp];omega),ad⟩)
 unfold k9;rcases l with⟨_,_,h1,U⟩ | ⟨i,a,_,_,_,_,h1,U⟩
 ·rw[h1];exact akP ⟨U,ad⟩
 rw[h1];exact akO ⟨U,ad⟩
theorem Wf{r:Bool}(h:k9 xs=r)(aj:xs.length<=8388608):av 280 [.one (.J 4 (xs.map Cell.e))] [.one (B r)]:=h▸amq xs aj
def ig(g:bF)(r:ay):Bool:=!dM r||decide (r.op>=(g.nodes.length:Int))
def gy(g:bF)(xs:List ay):Bool:=!(xs.any (ig g))
theorem amr{r:ay}(h:dM r=true):0<=r.op:=by
 simp only[dM,b9,aw,cc]at h;omega
theorem ams(g:bF)(xs:List ay)(aj:xs.length<=8388608):av 192 [.agg g.e,.one (.J 5 (xs.map ay.e))] [.one (B (gy g xs))]:=by
 have l:=hf (P:=prog) (c:=(ap f192 0)) xs (ig g) (fun i=>vP (g.nodes.map Node.e) g.ao g.cap (xs.map ay.e) i) (X:=fun _ _=>Hs false) eZ (ci 0)
  (fun i a ae h=>by
   simp only[ig,fw,jf]at h;have c:=s8 a;rw[h.1]at c;exact akS ⟨bT (a6 ae),bx,bA (a6 ae),bw ay.e ae,c,rfl,bx,bA (a6 ae),bw ay.e ae,by rw[cp];exact h.2,cP (a6 ae) aj,ad⟩)
  (fun i a ae h=>by
   have c:=s8 a;cases aB:dM a with
   | false=>
    rw[aB]at c;exact akQ ⟨bT (a6 ae),bx,bA (a6 ae),bw ay.e ae,c,rfl,ad⟩
   | true=>
    rw[aB]at c;simp only[ig,aB,jg,jz]at h;exact akR ⟨bT (a6 ae),bx,bA (a6 ae),bw ay.e ae,c,rfl,bx,bA (a6 ae),bw ay.e ae,by rw[cp];exact h,ad⟩)
  (akT ⟨dq,ad⟩)
 unfold gy;rcases l with⟨_,_,h1,U⟩ | ⟨i,a,_,_,_,_,h1,U⟩
 ·rw[h1];exact akV ⟨U,ad⟩
 rw[h1];exact akU ⟨U,ad⟩
theorem VH{g:bF}{r:ay}(h:dM r=true):(dZ g r.op).isSome=!(decide (r.op>=(g.nodes.length:Int))):=by
 have bE:=amr h;unfold dZ;rw[bh bE];by_cases al:r.op>=(g.nodes.length:Int)
 ·rw[dc al,List.getElem?_eq_none (by omega)];rfl
 rw[dE al,jA (by omega)];rfl
theorem amt(g:bF)(xs:List ay)(ar:g.sz<=8388608)(aj:xs.length<=8388608):av 189 [.agg g.e,.one (.J 5 (xs.map ay.e))] [.one (B (gy g xs))]:=by
 have l:=hf (P:=prog) (c:=(ap f189 0)) xs (ig g) (fun i=>vQ (xs.map ay.e) i (g.nodes.map Node.e) g.ao g.cap) (X:=fun _ _=>Ht false) eZ (ci 0)
  (fun i a ae h=>by
   simp only[ig,fw,jf]at h;have c:=rZ a;rw[h.1]at c;exact akY ⟨bT (a6 ae),bx,bA (a6 ae),bw ay.e ae,c,rfl,s4 g a.op true (by rw[VH h.1,h.2];rfl) ar,rfl,cP (a6 ae) aj,ad⟩)
  (fun i a ae h=>by
   have c:=rZ a;cases aB:dM a with
   | false=>
    rw[aB]at c;exact akW ⟨bT (a6 ae),bx,bA (a6 ae),bw ay.e ae,c,rfl,ad⟩
   | true=>
    rw[aB]at c;simp only[ig,aB,jg,jz]at h;exact akX ⟨bT (a6 ae),bx,bA (a6 ae),bw ay.e ae,c,rfl,s4 g a.op false (by rw[VH aB,h];rfl) ar,rfl,ad⟩)
  (akZ ⟨dq,ad⟩)
 unfold gy;rcases l with⟨_,_,h1,U⟩ | ⟨i,a,_,_,_,_,h1,U⟩
 ·rw[h1];exact ak1 ⟨U,ad⟩
 rw[h1];exact ak0 ⟨U,ad⟩
theorem x5(g:bF)(xs:List ay)(r:Bool)(h:gy g xs=r)(_:g.sz<=8388608)(aj:xs.length<=8388608):av 192 [.agg g.e,.one (.J 5 (xs.map ay.e))] [.one (B r)]:=h▸ams g xs aj
theorem x6(g:bF)(xs:List ay)(r:Bool)(h:gy g xs=r)(ar:g.sz<=8388608)(aj:xs.length<=8388608):av 189 [.agg g.e,.one (.J 5 (xs.map ay.e))] [.one (B r)]:=h▸amt g xs ar aj
def jr(l:bC):Bool:=
 aw l.cap 1 4&&aw l.fb 0 l.cap&&aw l.back 0 l.cap&&(l.fb+l.back+l.queue.length==l.cap)&&aw l.eG 0 1000000000&&decide (0<=l.eo)&&(l.eo==l.eG-l.queue.length)&&!(l.queue.any fun r=>!dM r)
theorem amu(xs:List ay)(aj:xs.length<=8388608):av 282 [.one (.J 5 (xs.map ay.e))] [.one (B (!(xs.any fun r=>!dM r)))]:=by
 have l:=hf (P:=prog) (c:=(ap f282 0)) xs (fun r=>!dM r) (fun i=>x2 (xs.map ay.e) i) (X:=fun _ _=>NB false) eZ (ci 0)
  (fun i a ae h=>alm ⟨bT (a6 ae),bx,bA (a6 ae),bw ay.e ae,rZ a,h,cP (a6 ae) aj,ad⟩)
  (fun i a ae h=>alk ⟨bT (a6 ae),bx,bA (a6 ae),bw ay.e ae,rZ a,h,ad⟩)
  (aln ⟨dq,ad⟩)
 rcases l with⟨_,_,h1,U⟩ | ⟨i,a,_,_,_,_,h1,U⟩
 ·rw[h1];exact alp ⟨U,ad⟩
 rw[h1];exact alo ⟨U,ad⟩
theorem G3(l:bC)(aj:l.sz<=8388608)(aC1:l.eo<=9223372036854775807):av 188 [.agg l.e] [.one (B (jr l))]:=by
 have aC:l.queue.length<=8388608:=aj;have c1:=lB l.cap 1 4;have c2:=lB l.fb 0 l.cap;have cw:=lB l.back 0 l.cap;have et:=lB l.eG 0 1000000000;have fE:=amu l.queue aC;unfold jr;cases h1:aw l.cap 1 4 with
 | false=>rw[h1]at c1;exact al4 ⟨c1,rfl,ad⟩
 | true=>
 cases U:aw l.fb 0 l.cap with
 | false=>rw[h1]at c1;rw[U]at c2;exact al5 ⟨c1,rfl,c2,rfl,ad⟩
 | true=>
 cases aA:aw l.back 0 l.cap with
 | false=>rw[h1]at c1;rw[U]at c2;rw[aA]at cw;exact al6 ⟨c1,rfl,c2,rfl,cw,rfl,ad⟩
 | true=>
 have b8:=h1;have bt:=U;have eL:=aA;simp only[aw,cc]at b8 bt eL;rw[h1]at c1;rw[U]at c2;rw[aA]at cw;have gV:aJ .i64 (l.fb+l.back):=⟨by omega,by omega⟩
 have kq:aJ .i64 (l.fb+l.back+(↑(l.queue.map ay.e).length:Int)):=⟨by simp only[cp];omega,by simp only[cp];omega⟩
 cases aI:(l.fb+l.back+(l.queue.length:Int)==l.cap) with
 | false=>exact al7 ⟨c1,rfl,c2,rfl,cw,rfl,gV,kq,by rw[cp];simpa using aI,ad⟩
 | true=>
 have v4:(l.fb+l.back+(↑(l.queue.map ay.e).length:Int) != l.cap)=false:=by rw[cp];simpa using aI
 cases a':aw l.eG 0 1000000000 with
 | false=>rw[a']at et;exact al8 ⟨c1,rfl,c2,rfl,cw,rfl,gV,kq,v4,et,rfl,ad⟩
 | true=>
 have k5:=a';simp only[aw,cc]at k5;rw[a']at et;by_cases bu:l.eo<0
 ·rw[dE (show ¬0<=l.eo by omega)];exact alh ⟨c1,rfl,c2,rfl,cw,rfl,gV,kq,v4,et,rfl,dc bu,ad⟩
 rw[dc (show 0<=l.eo by omega)];have u3:aJ .i64 (l.eG-l.eo):=⟨by omega,by omega⟩
 ·by_cases bU:l.eo=l.eG-(l.queue.length:Int)
  ·rw[show (l.eo==l.eG-(l.queue.length:Int))=true from by simpa using bU];exact alj ⟨c1,rfl,c2,rfl,cw,rfl,gV,kq,v4,et,rfl,dE bu,u3,by rw[cp];simp;omega,fE,ad⟩
  rw[show (l.eo==l.eG-(l.queue.length:Int))=false from by simpa using bU];exact ali ⟨c1,rfl,c2,rfl,cw,rfl,gV,kq,v4,et,rfl,dE bu,u3,by rw[cp];simp;omega,ad⟩
theorem G4(l:bC)(aj:l.sz<=8388608):av 191 [.agg l.e] [.one (B (jr l))]:=by
 have aC:l.queue.length<=8388608:=aj;have aQ:=hf (P:=prog) (c:=(ap f191 0)) l.queue (fun r=>!dM r) (fun i=>xE l.cap (l.queue.map ay.e) l.fb l.back l.eG l.eo i) (X:=fun _ _=>NA false) eZ (ci 0)
  (fun i a ae h=>alU ⟨bT (a6 ae),bx,bA (a6 ae),bw ay.e ae,s8 a,h,cP (a6 ae) aC,ad⟩)
  (fun i a ae h=>alT ⟨bT (a6 ae),bx,bA (a6 ae),bw ay.e ae,s8 a,h,ad⟩)
  (alV ⟨dq,ad⟩)
 unfold jr;rcases aQ with⟨_,_,bE,aQ⟩ | ⟨i,a,_,_,_,_,bE,aQ⟩
 case inr=>
  rw[bE,jg,Bool.and_false];exact alW ⟨aQ,ad⟩
 rw[bE,o6,tF];have c1:=iw l.cap 1 4;have c2:=iw l.fb 0 l.cap;have cw:=iw l.back 0 l.cap;have et:=iw l.eG 0 1000000000;cases h1:aw l.cap 1 4 with
 | false=>rw[h1]at c1;exact al3 ⟨aQ,c1,rfl,ad⟩
 | true=>
 cases U:aw l.fb 0 l.cap with
 | false=>rw[h1]at c1;rw[U]at c2;exact al2 ⟨aQ,c1,rfl,c2,rfl,ad⟩
 | true=>
 cases aA:aw l.back 0 l.cap with
 | false=>rw[h1]at c1;rw[U]at c2;rw[aA]at cw;exact al1 ⟨aQ,c1,rfl,c2,rfl,cw,rfl,ad⟩
 | true=>
 have b8:=h1;have bt:=U;have eL:=aA;simp only[aw,cc]at b8 bt eL;rw[h1]at c1;rw[U]at c2;rw[aA]at cw;have gV:aJ .i64 (l.fb+l.back):=⟨by omega,by omega⟩
 have kq:aJ .i64 (l.fb+l.back+(↑(l.queue.map ay.e).length:Int)):=⟨by simp only[cp];omega,by simp only[cp];omega⟩
 cases aI:(l.fb+l.back+(l.queue.length:Int)==l.cap) with
 | false=>exact al0 ⟨aQ,c1,rfl,c2,rfl,cw,rfl,gV,kq,by rw[cp];exact aI,ad⟩
 | true=>
 have v4:(l.fb+l.back+(↑(l.queue.map ay.e).length:Int)==l.cap)=true:=by rw[cp];exact aI
 cases a':aw l.eG 0 1000000000 with
 | false=>rw[a']at et;exact alZ ⟨aQ,c1,rfl,c2,rfl,cw,rfl,gV,kq,v4,et,rfl,ad⟩
 | true=>
 have k5:=a';simp only[aw,cc]at k5;rw[a']at et;have u3:aJ .i64 (l.eG-(↑(l.queue.map ay.e).length:Int)):=⟨by simp only[cp];omega,by simp only[cp];omega⟩
 cases bU:(l.eo==l.eG-(l.queue.length:Int)) with
 | false=>
  rw[Bool.and_false];exact alY ⟨aQ,c1,rfl,c2,rfl,cw,rfl,gV,kq,v4,et,rfl,u3,by rw[cp];exact bU,ad⟩
 | true=>
  rw[tF];exact alX ⟨aQ,c1,rfl,c2,rfl,cw,rfl,gV,kq,v4,et,rfl,u3,by rw[cp];exact bU,ad⟩
end Go.Proofs.YtdchjefneblpgaaGreat
namespace Go.Proofs.YtdchjefneblpgaaGreat
open Go.Sx Go.RowKit Go.Proofs.Tryz
def mg(xs:List ay)(i:Nat)(r:ay):Bool:=
 r.op != 0||r.bf.dG != 0||(match i with | 0=>false | j+1=>match xs[j]? with | some q=>decide (q.bf.aU>r.bf.aU) | none=>false)
theorem VI{xs:List ay}{i:Nat}{a:ay}(ae:xs[i]?=some a)(h:mg xs i a=true):
  (a.op != 0)=true\/((a.op != 0)=false/\(a.bf.dG != 0)=true)\/((a.op != 0)=false/\(a.bf.dG != 0)=false/\∃j b,i=j+1/\xs[j]?=some b/\decide (b.bf.aU>a.bf.aU)=true):=by
 unfold mg at h;cases h1:(a.op != 0) with
 | true=>exact .inl rfl
 | false=>
 cases U:(a.bf.dG != 0) with
 | true=>exact .inr (.inl ⟨rfl,rfl⟩)
 | false=>
 rw[h1,U,jz,jz]at h;cases i with
 | zero=>cases h
 | succ j=>
  have a8:j<xs.length:=by have:=a6 ae;omega
  obtain⟨b,aq⟩:=cV a8;simp only[aq]at h;exact .inr (.inr ⟨rfl,rfl,j,b,rfl,aq,h⟩)
theorem VJ{xs:List ay}{i:Nat}{a:ay}(ae:xs[i]?=some a)(h:mg xs i a=false):
  (a.op != 0)=false/\(a.bf.dG != 0)=false/\(i=0\/∃j b,i=j+1/\xs[j]?=some b/\decide (b.bf.aU>a.bf.aU)=false):=by
 unfold mg at h;rw[fw,fw]at h;obtain⟨⟨h1,U⟩,h⟩:=h;refine⟨h1,U,?_⟩;cases i with
 | zero=>exact .inl rfl
 | succ j=>
  have a8:j<xs.length:=by have:=a6 ae;omega
  obtain⟨b,aq⟩:=cV a8;simp only[aq]at h;exact .inr ⟨j,b,rfl,aq,h⟩
theorem G5{α:Type}(f:α->List D){xs:List α}{j:Nat}{b:α}(h:xs[j]?=some b):(xs.map f)[(((j+1:Nat):Int)-1).toNat]?=some (f b):=by
 rw[show (((j+1:Nat):Int)-1)=(j:Int) by omega];exact bw f h
theorem G6{α β:Type}{f:α->β}{xs:List α}{j:Nat}{b:α}(h:xs[j]?=some b):(((j+1:Nat):Int)-1)<(↑(xs.map f).length:Int):=by
 have:=a6 h;rw[cp];omega
def oU(n:Int):Bool:=!aw n (-1000000) 1000000
def nD(xs:List cz)(i:Nat)(d:cz):Bool:=!aw d.aU 0 3||(xs.take i).any (fun q=>q.aU==d.aU)
theorem gm{α β:Type}{f:α->β}{xs:List α}(h:(xs.length==4)=true):((↑(xs.map f).length:Int) != 4)=false:=by
 rw[cp,eq_of_beq h];rfl
theorem vF{α β:Type}{f:α->β}{xs:List α}(h:(xs.length==4)=false):((↑(xs.map f).length:Int) != 4)=true:=by
 rw[cp];have:=ne_of_beq_false h;simp only[bne_iff_ne,lc];omega
def e8(g:bF)(w:aN):Bool:=
 gy g w.queue&&(gy g w.cj&&(gy g w.bX&&(k9 w.cells&&((w.bP.length==4)&&((w.bV.length==4)&&((w.bl.length==4)&&(!anyI (mg w.bX) 0 w.bX&&(!(w.bP.any oU)&&!anyI (nD w.b1) 0 w.b1))))))))
variable{w:aN}
theorem aN.IL(h:w.sz<=8388608):w.cj.length<=8388608:=by simp only[aN.sz]at h;omega
theorem aN.Fp(h:w.sz<=8388608):w.cells.length<=8388608:=by simp only[aN.sz]at h;omega
theorem aN.Z2(h:w.sz<=8388608):w.bP.length<=8388608:=by simp only[aN.sz]at h;omega
theorem aN.RP(h:w.sz<=8388608):w.b1.length<=8388608:=by simp only[aN.sz]at h;omega
theorem amv(w:aN)(aj:w.bX.length<=8388608):
  (anyI (mg w.bX) 0 w.bX=false/\cN prog (ap f175 0) (pW (w.queue.map ay.e) (w.cj.map ay.e) (w.bX.map ay.e) (w.cells.map Cell.e) (w.bP.map bd) (w.bV.map cF) (w.bl.map cF) (w.b1.map cz.e) 0) (.exit 0) (L5 (w.queue.map ay.e) (w.cj.map ay.e) (w.bX.map ay.e) (w.cells.map Cell.e) (w.bP.map bd) (w.bV.map cF) (w.bl.map cF) (w.b1.map cz.e)))\/
  (anyI (mg w.bX) 0 w.bX=true/\cN prog (ap f175 0) (pW (w.queue.map ay.e) (w.cj.map ay.e) (w.bX.map ay.e) (w.cells.map Cell.e) (w.bP.map bd) (w.bV.map cF) (w.bl.map cF) (w.b1.map cz.e) 0) .ret (CU false)):=
 wD (P:=prog) (c:=(ap f175 0)) w.bX (mg w.bX) (fun i=>pW (w.queue.map ay.e) (w.cj.map ay.e) (w.bX.map ay.e) (w.cells.map Cell.e) (w.bP.map bd) (w.bV.map cF) (w.bl.map cF) (w.b1.map cz.e) i) eZ (ci 0)
  (fun i a ae h=>by
   have hi:=a6 ae;obtain⟨h1,U,rfl | ⟨j,b,rfl,aq,aA⟩⟩:=VJ ae h
   ·exact akn ⟨bT (a6 ae),bx,bA (a6 ae),bw ay.e ae,h1,bx,bA (a6 ae),bw ay.e ae,U,dE (by omega),cP (a6 ae) aj,ad⟩
   exact akm ⟨bT (a6 ae),bx,bA (a6 ae),bw ay.e ae,h1,bx,bA (a6 ae),bw ay.e ae,U,dc (by omega),⟨by omega,by omega⟩,by omega,G6 aq,G5 ay.e aq,bx,bA (a6 ae),bw ay.e ae,aA,cP (a6 ae) aj,ad⟩)
  (fun i a ae h=>by
   have hi:=a6 ae;rcases VI ae h with h1 | ⟨h1,U⟩ | ⟨h1,U,j,b,rfl,aq,aA⟩
   ·exact akj ⟨bT (a6 ae),bx,bA (a6 ae),bw ay.e ae,h1,ad⟩
   ·exact akk ⟨bT (a6 ae),bx,bA (a6 ae),bw ay.e ae,h1,bx,bA (a6 ae),bw ay.e ae,U,ad⟩
   exact akl ⟨bT (a6 ae),bx,bA (a6 ae),bw ay.e ae,h1,bx,bA (a6 ae),bw ay.e ae,U,dc (by omega),⟨by omega,by omega⟩,by omega,G6 aq,G5 ay.e aq,bx,bA (a6 ae),bw ay.e ae,aA,ad⟩)
  (ako ⟨dq,ad⟩)
theorem amw(w:aN)(aj:w.b1.length<=8388608):
  (anyI (nD w.b1) 0 w.b1=false/\cN prog (ap f175 2) (s9 (w.queue.map ay.e) (w.cj.map ay.e) (w.bX.map ay.e) (w.cells.map Cell.e) (w.bP.map bd) (w.bV.map cF) (w.bl.map cF) (w.b1.map cz.e) 0) (.exit 4) Nw)\/
  (anyI (nD w.b1) 0 w.b1=true/\cN prog (ap f175 2) (s9 (w.queue.map ay.e) (w.cj.map ay.e) (w.bX.map ay.e) (w.cells.map Cell.e) (w.bP.map bd) (w.bV.map cF) (w.bl.map cF) (w.b1.map cz.e) 0) .ret (Hu false)):=by
 have inner:∀(i:Nat) (a:cz),w.b1[i]?=some a->
   (((w.b1.take i).any (fun q=>q.aU==a.aU))=false/\cN prog (ap f175 3) (uO (w.queue.map ay.e) (w.cj.map ay.e) (w.bX.map ay.e) (w.cells.map Cell.e) (w.bP.map bd) (w.bV.map cF) (w.bl.map cF) (w.b1.map cz.e) i 0) (.exit 6) (Nv (w.queue.map ay.e) (w.cj.map ay.e) (w.bX.map ay.e) (w.cells.map Cell.e) (w.bP.map bd) (w.bV.map cF) (w.bl.map cF) (w.b1.map cz.e) i))\/
   (((w.b1.take i).any (fun q=>q.aU==a.aU))=true/\cN prog (ap f175 3) (uO (w.queue.map ay.e) (w.cj.map ay.e) (w.bX.map ay.e) (w.cells.map Cell.e) (w.bP.map bd) (w.bV.map cF) (w.bl.map cF) (w.b1.map cz.e) i 0) .ret (Hv false)):=by
  intro i a ae;have hi:=a6 ae;have hlen:(w.b1.take i).length=i:=by rw[u7];omega
  have hL:∀{k:Nat} {b:cz},(w.b1.take i)[k]?=some b->k<i/\w.b1[k]?=some b:=fun {k b} h=>by
   have hk:=a6 h;rw[hlen]at hk;rw[kK,bh hk]at h;exact⟨hk,h⟩
  have l:=hf (P:=prog) (c:=(ap f175 3)) (w.b1.take i) (fun q=>q.aU==a.aU) (fun k=>uO (w.queue.map ay.e) (w.cj.map ay.e) (w.bX.map ay.e) (w.cells.map Cell.e) (w.bP.map bd) (w.bV.map cF) (w.bl.map cF) (w.b1.map cz.e) i k) (X:=fun _ _=>Hv false) eZ (ci 6)
   (fun k b aq h=>by
    obtain⟨hk,aq⟩:=hL aq;exact akw ⟨dc (by omega),bx,bA (a6 aq),bw cz.e aq,bx,bA (a6 ae),bw cz.e ae,h,cP (a6 aq) aj,ad⟩)
   (fun k b aq h=>by
    obtain⟨hk,aq⟩:=hL aq;exact akv ⟨dc (by omega),bx,bA (a6 aq),bw cz.e aq,bx,bA (a6 ae),bw cz.e ae,h,ad⟩)
   (akx ⟨dE (by rw[hlen];omega),ad⟩)
  rcases l with⟨_,_,h1,U⟩ | ⟨_,_,_,_,_,_,h1,U⟩
  ·exact .inl ⟨h1,U⟩
  exact .inr ⟨h1,U⟩
 exact wD (P:=prog) (c:=(ap f175 2)) w.b1 (nD w.b1) (fun i=>s9 (w.queue.map ay.e) (w.cj.map ay.e) (w.bX.map ay.e) (w.cells.map Cell.e) (w.bP.map bd) (w.bV.map cF) (w.bl.map cF) (w.b1.map cz.e) i) eZ (ci 4)
  (fun i a ae h=>by
   simp only[nD,fw,jf]at h;rcases inner i a ae with⟨e,l⟩ | ⟨e,l⟩
   ·exact akz ⟨bT (a6 ae),bx,bA (a6 ae),bw cz.e ae,gp _ _ _ true h.1,rfl,l,cP (a6 ae) aj,ad⟩
   rw[h.2]at e;cases e)
  (fun i a ae h=>by
   cases h1:aw a.aU 0 3 with
   | false=>exact aku ⟨bT (a6 ae),bx,bA (a6 ae),bw cz.e ae,gp _ _ _ false h1,rfl,ad⟩
   | true=>
    simp only[nD,h1,jg,jz]at h;rcases inner i a ae with⟨e,l⟩ | ⟨e,l⟩
    ·rw[h]at e;cases e
    exact aky ⟨bT (a6 ae),bx,bA (a6 ae),bw cz.e ae,gp _ _ _ true h1,rfl,l,ad⟩)
  (akA ⟨dq,ad⟩)
theorem VK(g:bF)(w:aN)(ar:g.sz<=8388608)(hw:w.sz<=8388608):av 175 [.agg g.e,.agg w.e] [.one (B (e8 g w))]:=by
 unfold e8;cases h1:gy g w.queue with
 | false=>exact ak2 ⟨x5 g _ _ h1 ar (aN.IF hw),rfl,ad⟩
 | true=>
 have c1:=x5 g _ _ h1 ar (aN.IF hw);cases U:gy g w.cj with
 | false=>exact ak3 ⟨c1,rfl,x5 g _ _ U ar (aN.IL hw),rfl,ad⟩
 | true=>
 have c2:=x5 g _ _ U ar (aN.IL hw);cases aA:gy g w.bX with
 | false=>exact ak4 ⟨c1,rfl,c2,rfl,x5 g _ _ aA ar (aN.zJ hw),rfl,ad⟩
 | true=>
 have cw:=x5 g _ _ aA ar (aN.zJ hw);cases aI:k9 w.cells with
 | false=>exact ak5 ⟨c1,rfl,c2,rfl,cw,rfl,We aI (aN.Fp hw),rfl,ad⟩
 | true=>
 have et:=We aI (aN.Fp hw);cases a':(w.bP.length==4) with
 | false=>exact ak6 ⟨c1,rfl,c2,rfl,cw,rfl,et,rfl,vF a',ad⟩
 | true=>
 cases bu:(w.bV.length==4) with
 | false=>exact akh ⟨c1,rfl,c2,rfl,cw,rfl,et,rfl,gm a',vF bu,ad⟩
 | true=>
 cases bU:(w.bl.length==4) with
 | false=>exact aki ⟨c1,rfl,c2,rfl,cw,rfl,et,rfl,gm a',gm bu,vF bU,ad⟩
 | true=>
 have rF:w.bP.length=4:=eq_of_beq a';rcases amv w (aN.zJ hw) with⟨cI,kC⟩ | ⟨cI,kC⟩
 case inr=>rw[cI];exact akp ⟨c1,rfl,c2,rfl,cw,rfl,et,rfl,gm a',gm bu,gm bU,kC,ad⟩
 have pC:=hf (P:=prog) (c:=(ap f175 1)) w.bP oU (fun i=>vR (w.queue.map ay.e) (w.cj.map ay.e) (w.bX.map ay.e) (w.cells.map Cell.e) (w.bP.map bd) (w.bV.map cF) (w.bl.map cF) (w.b1.map cz.e) i) (X:=fun _ _=>N4 false) eZ (ci 2)
  (fun i a ae h=>akr ⟨dc (by have:=a6 ae;omega),bx,bA (a6 ae),bw bd ae,gp _ _ _ true (by simpa[oU]using h),rfl,cP (a6 ae) (aN.Z2 hw),ad⟩)
  (fun i a ae h=>akq ⟨dc (by have:=a6 ae;omega),bx,bA (a6 ae),bw bd ae,gp _ _ _ false (by simpa[oU]using h),rfl,ad⟩)
  (aks ⟨dE (by omega),ad⟩)
 rw[cI];rcases pC with⟨_,_,eu,pC⟩ | ⟨_,_,_,_,_,_,eu,pC⟩
 case inr=>rw[eu];exact akt ⟨c1,rfl,c2,rfl,cw,rfl,et,rfl,gm a',gm bu,gm bU,kC,pC,ad⟩
 rw[eu];rcases amw w (aN.RP hw) with⟨d',xx⟩ | ⟨d',xx⟩
 ·rw[d'];exact akC ⟨c1,rfl,c2,rfl,cw,rfl,et,rfl,gm a',gm bu,gm bU,kC,pC,xx,ad⟩
 rw[d'];exact akB ⟨c1,rfl,c2,rfl,cw,rfl,et,rfl,gm a',gm bu,gm bU,kC,pC,xx,ad⟩
end Go.Proofs.YtdchjefneblpgaaGreat
namespace Go.Proofs.YtdchjefneblpgaaGreat
open Go.Sx Go.RowKit Go.Proofs.Tryz
theorem amx(w:aN)(aj:w.bX.length<=8388608):
  (anyI (mg w.bX) 0 w.bX=false/\cN prog (ap f187 0) (pG (w.bX.map ay.e) 0 (w.queue.map ay.e) (w.cj.map ay.e) (w.bX.map ay.e) (w.cells.map Cell.e) (w.bP.map bd) (w.bV.map cF) (w.bl.map cF) (w.b1.map cz.e)) (.exit 0) (L2 (w.queue.map ay.e) (w.cj.map ay.e) (w.bX.map ay.e) (w.cells.map Cell.e) (w.bP.map bd) (w.bV.map cF) (w.bl.map cF) (w.b1.map cz.e)))\/
  (anyI (mg w.bX) 0 w.bX=true/\cN prog (ap f187 0) (pG (w.bX.map ay.e) 0 (w.queue.map ay.e) (w.cj.map ay.e) (w.bX.map ay.e) (w.cells.map Cell.e) (w.bP.map bd) (w.bV.map cF) (w.bl.map cF) (w.b1.map cz.e)) .ret (CV false)):=
 wD (P:=prog) (c:=(ap f187 0)) w.bX (mg w.bX) (fun i=>pG (w.bX.map ay.e) i (w.queue.map ay.e) (w.cj.map ay.e) (w.bX.map ay.e) (w.cells.map Cell.e) (w.bP.map bd) (w.bV.map cF) (w.bl.map cF) (w.b1.map cz.e)) eZ (ci 0)
  (fun i a ae h=>by
   have hi:=a6 ae;obtain⟨h1,U,rfl | ⟨j,b,rfl,aq,aA⟩⟩:=VJ ae h
   ·exact akb ⟨bT (a6 ae),bx,bA (a6 ae),bw ay.e ae,h1,U,dE (by omega),cP (a6 ae) aj,ad⟩
   exact aka ⟨bT (a6 ae),bx,bA (a6 ae),bw ay.e ae,h1,U,dc (by omega),⟨by omega,by omega⟩,by omega,G6 aq,G5 ay.e aq,aA,cP (a6 ae) aj,ad⟩)
  (fun i a ae h=>by
   have hi:=a6 ae;rcases VI ae h with h1 | ⟨h1,U⟩ | ⟨h1,U,j,b,rfl,aq,aA⟩
   ·exact aj7 ⟨bT (a6 ae),bx,bA (a6 ae),bw ay.e ae,h1,ad⟩
   ·exact aj8 ⟨bT (a6 ae),bx,bA (a6 ae),bw ay.e ae,h1,U,ad⟩
   exact aj9 ⟨bT (a6 ae),bx,bA (a6 ae),bw ay.e ae,h1,U,dc (by omega),⟨by omega,by omega⟩,by omega,G6 aq,G5 ay.e aq,aA,ad⟩)
  (akc ⟨dq,ad⟩)
theorem VL(xs:List cz)(i:Nat)(e:Int)(r:Bool)(h:(xs.take i).any (fun q=>q.aU==e)=r)(aj:xs.length<=8388608):av 281 [.one (.J 2 ((xs.map cz.e).take i)),.one (I e)] [.one (B r)]:=by
 have c:=Xp (xs.take i) e (by rw[u7];omega);rw[tE,h]at c;exact c
theorem amy(w:aN)(aj:w.b1.length<=8388608):
  (anyI (nD w.b1) 0 w.b1=false/\cN prog (ap f187 2) (s' (w.b1.map cz.e) 0 (w.queue.map ay.e) (w.cj.map ay.e) (w.bX.map ay.e) (w.cells.map Cell.e) (w.bP.map bd) (w.bV.map cF) (w.bl.map cF) (w.b1.map cz.e)) (.exit 4) Nz)\/
  (anyI (nD w.b1) 0 w.b1=true/\cN prog (ap f187 2) (s' (w.b1.map cz.e) 0 (w.queue.map ay.e) (w.cj.map ay.e) (w.bX.map ay.e) (w.cells.map Cell.e) (w.bP.map bd) (w.bV.map cF) (w.bl.map cF) (w.b1.map cz.e)) .ret (Hw false)):=
 wD (P:=prog) (c:=(ap f187 2)) w.b1 (nD w.b1) (fun i=>s' (w.b1.map cz.e) i (w.queue.map ay.e) (w.cj.map ay.e) (w.bX.map ay.e) (w.cells.map Cell.e) (w.bP.map bd) (w.bV.map cF) (w.bl.map cF) (w.b1.map cz.e)) eZ (ci 4)
  (fun i a ae h=>by
   have hi:=a6 ae;simp only[nD,fw,jf]at h;exact alP ⟨bT (a6 ae),bx,bA (a6 ae),bw cz.e ae,hX true h.1,rfl,Int.le_refl 0,(bx:(0:Int)<=(i:Int)),(show (i:Int)<=_ by rw[cp];omega),VL w.b1 i a.aU false h.2 aj,rfl,cP (a6 ae) aj,ad⟩)
  (fun i a ae h=>by
   have hi:=a6 ae;cases h1:aw a.aU 0 3 with
   | false=>exact alN ⟨bT (a6 ae),bx,bA (a6 ae),bw cz.e ae,hX false h1,rfl,ad⟩
   | true=>
    simp only[nD,h1,jg,jz]at h;exact alO ⟨bT (a6 ae),bx,bA (a6 ae),bw cz.e ae,hX true h1,rfl,Int.le_refl 0,(bx:(0:Int)<=(i:Int)),(show (i:Int)<=_ by rw[cp];omega),VL w.b1 i a.aU true h aj,rfl,ad⟩)
  (alQ ⟨dq,ad⟩)
theorem G7(g:bF)(w:aN)(ar:g.sz<=8388608)(hw:w.sz<=8388608):av 187 [.agg g.e,.agg w.e] [.one (B (e8 g w))]:=by
 unfold e8;cases h1:gy g w.queue with
 | false=>exact akD ⟨x6 g _ _ h1 ar (aN.IF hw),rfl,ad⟩
 | true=>
 have c1:=x6 g _ _ h1 ar (aN.IF hw);cases U:gy g w.cj with
 | false=>exact akE ⟨c1,rfl,x6 g _ _ U ar (aN.IL hw),rfl,ad⟩
 | true=>
 have c2:=x6 g _ _ U ar (aN.IL hw);cases aA:gy g w.bX with
 | false=>exact akF ⟨c1,rfl,c2,rfl,x6 g _ _ aA ar (aN.zJ hw),rfl,ad⟩
 | true=>
 have cw:=x6 g _ _ aA ar (aN.zJ hw);cases aI:k9 w.cells with
 | false=>exact akG ⟨c1,rfl,c2,rfl,cw,rfl,Wf aI (aN.Fp hw),rfl,ad⟩
 | true=>
 have et:=Wf aI (aN.Fp hw);rcases amx w (aN.zJ hw) with⟨cI,kC⟩ | ⟨cI,kC⟩
 case inr=>
  rw[cI];simp only[jg,Bool.false_and,Bool.and_false];exact akd ⟨c1,rfl,c2,rfl,cw,rfl,et,rfl,kC,ad⟩
 cases a':(w.bP.length==4) with
 | false=>exact ake ⟨c1,rfl,c2,rfl,cw,rfl,et,rfl,kC,vF a',ad⟩
 | true=>
 cases bu:(w.bV.length==4) with
 | false=>exact akf ⟨c1,rfl,c2,rfl,cw,rfl,et,rfl,kC,gm a',vF bu,ad⟩
 | true=>
 cases bU:(w.bl.length==4) with
 | false=>exact akg ⟨c1,rfl,c2,rfl,cw,rfl,et,rfl,kC,gm a',gm bu,vF bU,ad⟩
 | true=>
 have pC:=hf (P:=prog) (c:=(ap f187 1)) w.bP oU (fun i=>vS (w.queue.map ay.e) (w.cj.map ay.e) (w.bX.map ay.e) (w.cells.map Cell.e) (w.bP.map bd) (w.bV.map cF) (w.bl.map cF) (w.b1.map cz.e) i) (X:=fun _ _=>Nx false) eZ (ci 2)
  (fun i a ae h=>alK ⟨bT (a6 ae),bx,bA (a6 ae),bw bd ae,hX true (by simpa[oU]using h),rfl,cP (a6 ae) (aN.Z2 hw),ad⟩)
  (fun i a ae h=>alJ ⟨bT (a6 ae),bx,bA (a6 ae),bw bd ae,hX false (by simpa[oU]using h),rfl,ad⟩)
  (alL ⟨dq,ad⟩)
 rw[cI];rcases pC with⟨_,_,eu,pC⟩ | ⟨_,_,_,_,_,_,eu,pC⟩
 case inr=>rw[eu];exact alM ⟨c1,rfl,c2,rfl,cw,rfl,et,rfl,kC,gm a',gm bu,gm bU,pC,ad⟩
 rw[eu];rcases amy w (aN.RP hw) with⟨d',xx⟩ | ⟨d',xx⟩
 ·rw[d'];exact alS ⟨c1,rfl,c2,rfl,cw,rfl,et,rfl,kC,gm a',gm bu,gm bU,pC,xx,ad⟩
 rw[d'];exact alR ⟨c1,rfl,c2,rfl,cw,rfl,et,rfl,kC,gm a',gm bu,gm bU,pC,xx,ad⟩
