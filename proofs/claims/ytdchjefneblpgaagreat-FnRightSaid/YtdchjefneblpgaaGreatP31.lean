import Derived.Test.YtdchjefneblpgaaGreatP21
set_option linter.unusedVariables false
set_option linter.unusedSimpArgs false
namespace Go.Proofs.YtdchjefneblpgaaGreat
open Go.Sx Go.RowKit Go.Proofs.Tryz
variable{c:aV}
theorem ox(h:c.sz<=8388608):c.ax.sz<=8388608:=by grind[aV.sz]
theorem Xy(h:c.sz<=8388608):c.tokens.length<=8388608:=by grind[aV.sz,fZ]
theorem yc(h:c.sz<=8388608):c.news.length<=8388608:=by grind[aV.sz,fZ]
def kG(g:bF)(i:Nat)(l:bC):Bool:=
 !jr l||((l.cap != g.cap)||(!gy g l.queue||((i:Int).tdiv g.ao==(i:Int).tmod g.ao&&decide ((l.queue.length:Int)>0))))
def lT(n:Int)(t:bO):Bool:=!aw t.place 0 (n-1)||((!t.going&&t.place != 0)||!aw t.sum (-1000000) 1000000)
def lU(n:Int)(x:bW):Bool:=!aw x.dest 0 (n-1)||!aw x.aU 0 3
def cr(c:aV):Bool:=
 dg c.ax&&(((c.ao.length:Int)==c.ax.ao)&&(((c.bQ.length:Int)==c.ax.ao*c.ax.ao)&&((c.tokens.length==4)&&(!(c.ao.any fun w=>!e8 c.ax w)&&(!(anyI (kG c.ax) 0 c.bQ)&&(!(c.tokens.any (lT c.ax.ao))&&!(c.news.any (lU c.ax.ao))))))))
theorem ih{g:bF}(h:dg g=true):1<=g.ao/\g.ao<=4:=by
 simp_all[dg,b9,aw,cc]
theorem Ai(i:Nat)(n:Int)(hi:i<=8388608)(aP:1<=n):aJ .i64 ((i:Int).tdiv n):=by
 have h1:0<=(i:Int).tdiv n:=Int.tdiv_nonneg (by omega) (by omega);have U:(i:Int).tdiv n<=(i:Int):=Int.tdiv_le_self _ (by omega);exact⟨by omega,by omega⟩
theorem anI(h:c.wf){l:bC}(aj:l∈c.bQ):l.eo<=9223372036854775807:=by
 have:=(aV.LN h aj).RW;grind[aJ]
def ga(c:aV):Prop:=∀l∈c.bQ,l.eo<=9223372036854775807
theorem ga.of(h:c.wf):ga c:=fun _ aj=>anI h aj
theorem anJ(c:aV)(al:c.sz<=8388608)(aP:(c.ao.length:Int)=c.ax.ao):
  ((c.ao.any fun w=>!e8 c.ax w)=false/\cN prog (ap f56 0) (uA (c.ax.nodes.map Node.e) c.ax.ao c.ax.cap (c.ao.map aN.e) (c.bQ.map bC.e) (c.tokens.map bO.e) (c.news.map bW.e) 0) (.exit 0) (L3 (c.ax.nodes.map Node.e) c.ax.ao c.ax.cap (c.ao.map aN.e) (c.bQ.map bC.e) (c.tokens.map bO.e) (c.news.map bW.e)))\/
  ((c.ao.any fun w=>!e8 c.ax w)=true/\cN prog (ap f56 0) (uA (c.ax.nodes.map Node.e) c.ax.ao c.ax.cap (c.ao.map aN.e) (c.bQ.map bC.e) (c.tokens.map bO.e) (c.news.map bW.e) 0) .ret (GY false)):=by
 have aj:=aV.Ei al;have l:=hf (P:=prog) (c:=(ap f56 0)) c.ao (fun w=>!e8 c.ax w) (fun i=>uA (c.ax.nodes.map Node.e) c.ax.ao c.ax.cap (c.ao.map aN.e) (c.bQ.map bC.e) (c.tokens.map bO.e) (c.news.map bW.e) i) (X:=fun _ _=>GY false) eZ (ci 0)
  (fun i a ae h=>by
   have k:=VK c.ax a (ox al) (aV.Ej al (cB ae));rw[show e8 c.ax a=true by simpa using h]at k;exact alw ⟨dc (by grind),bx,bA (a6 ae),bw aN.e ae,k,rfl,cP (a6 ae) aj,ad⟩)
  (fun i a ae h=>by
   have k:=VK c.ax a (ox al) (aV.Ej al (cB ae));rw[show e8 c.ax a=false by simpa using h]at k;exact alv ⟨dc (by grind),bx,bA (a6 ae),bw aN.e ae,k,rfl,ad⟩)
  (alx ⟨dE (by omega),ad⟩)
 grind
theorem anK(c:aV)(al:c.sz<=8388608)(hw:ga c)(aP:1<=c.ax.ao):
  (anyI (kG c.ax) 0 c.bQ=false/\cN prog (ap f56 1) (nB c.ax.ao 0 (c.ax.nodes.map Node.e) c.ax.ao c.ax.cap (c.ao.map aN.e) (c.bQ.map bC.e) (c.tokens.map bO.e) (c.news.map bW.e)) (.exit 2) (CW c.ax.ao (c.ax.nodes.map Node.e) c.ax.ao c.ax.cap (c.ao.map aN.e) (c.bQ.map bC.e) (c.tokens.map bO.e) (c.news.map bW.e)))\/
  (anyI (kG c.ax) 0 c.bQ=true/\cN prog (ap f56 1) (nB c.ax.ao 0 (c.ax.nodes.map Node.e) c.ax.ao c.ax.cap (c.ao.map aN.e) (c.bQ.map bC.e) (c.tokens.map bO.e) (c.news.map bW.e)) .ret (Af false)):=by
 have aj:=aV.Gm al;have pA:∀(i:Nat) (a:bC),c.bQ[i]?=some a->∀r,jr a=r->av 191 [.agg a.e] [.one (B r)]:=fun i a ae r h=>h▸G4 a (aV.Gl al (cB ae))
 have fI:∀(i:Nat) (a:bC),c.bQ[i]?=some a->∀r,gy c.ax a.queue=r->av 192 [.agg c.ax.e,.one (.J 5 (a.queue.map ay.e))] [.one (B r)]:=fun i a ae r h=>x5 c.ax _ r h (ox al) (aV.Gl al (cB ae))
 exact wD (P:=prog) (c:=(ap f56 1)) c.bQ (kG c.ax) (fun i=>nB c.ax.ao i (c.ax.nodes.map Node.e) c.ax.ao c.ax.cap (c.ao.map aN.e) (c.bQ.map bC.e) (c.tokens.map bO.e) (c.news.map bW.e)) eZ (ci 2)
  (fun i a ae h=>by
   have hi:=a6 ae;simp only[kG,fw,jf]at h;obtain⟨h1,U,aA,aI⟩:=h;cases a':((i:Int).tdiv c.ax.ao==(i:Int).tmod c.ax.ao) with
   | true=>
    rw[a',lb]at aI;exact alD ⟨bT (a6 ae),bx,bA (a6 ae),bw bC.e ae,pA i a ae _ h1,rfl,U,fI i a ae _ aA,rfl,by omega,Ai i _ (by omega) aP,by omega,a',by grind,cP hi aj,ad⟩
   | false=>exact alE ⟨bT (a6 ae),bx,bA (a6 ae),bw bC.e ae,pA i a ae _ h1,rfl,U,fI i a ae _ aA,rfl,by omega,Ai i _ (by omega) aP,by omega,a',cP hi aj,ad⟩)
  (fun i a ae h=>by
   have hi:=a6 ae;cases h1:jr a with
   | false=>exact alz ⟨bT (a6 ae),bx,bA (a6 ae),bw bC.e ae,pA i a ae _ h1,rfl,ad⟩
   | true=>
   cases U:(a.cap != c.ax.cap) with
   | true=>exact alA ⟨bT (a6 ae),bx,bA (a6 ae),bw bC.e ae,pA i a ae _ h1,rfl,U,ad⟩
   | false=>
   cases aA:gy c.ax a.queue with
   | false=>exact alB ⟨bT (a6 ae),bx,bA (a6 ae),bw bC.e ae,pA i a ae _ h1,rfl,U,fI i a ae _ aA,rfl,ad⟩
   | true=>
   simp only[kG,h1,U,aA,jg,jz,b9]at h;exact alC ⟨bT (a6 ae),bx,bA (a6 ae),bw bC.e ae,pA i a ae _ h1,rfl,U,fI i a ae _ aA,rfl,by omega,Ai i _ (by omega) aP,by omega,h.1,by grind,ad⟩)
  (alF ⟨dq,ad⟩)
theorem anL(c:aV)(al:c.sz<=8388608)(aP:1<=c.ax.ao/\c.ax.ao<=4):
  ((c.tokens.any (lT c.ax.ao))=false/\cN prog (ap f56 2) (n5 c.ax.ao (c.ax.nodes.map Node.e) c.ax.ao c.ax.cap (c.ao.map aN.e) (c.bQ.map bC.e) (c.tokens.map bO.e) (c.news.map bW.e) 0) (.exit 4) (GZ c.ax.ao (c.ax.nodes.map Node.e) c.ax.ao c.ax.cap (c.ao.map aN.e) (c.bQ.map bC.e) (c.tokens.map bO.e) (c.news.map bW.e)))\/
  ((c.tokens.any (lT c.ax.ao))=true/\cN prog (ap f56 2) (n5 c.ax.ao (c.ax.nodes.map Node.e) c.ax.ao c.ax.cap (c.ao.map aN.e) (c.bQ.map bC.e) (c.tokens.map bO.e) (c.news.map bW.e) 0) .ret (x3 false)):=by
 have aj:=Xy al;have l:=hf (P:=prog) (c:=(ap f56 2)) c.tokens (lT c.ax.ao) (fun i=>n5 c.ax.ao (c.ax.nodes.map Node.e) c.ax.ao c.ax.cap (c.ao.map aN.e) (c.bQ.map bC.e) (c.tokens.map bO.e) (c.news.map bW.e) i) (X:=fun _ _=>x3 false) eZ (ci 4)
  (fun i a ae h=>by
   have hi:=a6 ae;simp only[lT,fw,jf]at h;obtain⟨h1,U,aA⟩:=h;cases ar:a.going with
   | false=>
    rw[ar,o6,lb]at U;exact ak8 ⟨bT (a6 ae),bx,bA (a6 ae),bw bO.e ae,⟨by omega,by omega⟩,gp _ _ _ true h1,rfl,bx,bA (a6 ae),bw bO.e ae,by rw[ar];rfl,bx,bA (a6 ae),bw bO.e ae,U,bx,bA (a6 ae),bw bO.e ae,gp _ _ _ true aA,rfl,cP hi aj,ad⟩
   | true=>exact ala ⟨bT (a6 ae),bx,bA (a6 ae),bw bO.e ae,⟨by omega,by omega⟩,gp _ _ _ true h1,rfl,bx,bA (a6 ae),bw bO.e ae,by rw[ar];rfl,bx,bA (a6 ae),bw bO.e ae,gp _ _ _ true aA,rfl,cP hi aj,ad⟩)
  (fun i a ae h=>by
   have hi:=a6 ae;cases h1:aw a.place 0 (c.ax.ao-1) with
   | false=>exact alH ⟨bT (a6 ae),bx,bA (a6 ae),bw bO.e ae,⟨by omega,by omega⟩,gp _ _ _ false h1,rfl,ad⟩
   | true=>
   simp only[lT,h1,jg,jz]at h;cases ar:a.going with
   | false=>
    rw[ar,o6,lb]at h;cases U:(a.place != 0) with
    | true=>exact alI ⟨bT (a6 ae),bx,bA (a6 ae),bw bO.e ae,⟨by omega,by omega⟩,gp _ _ _ true h1,rfl,bx,bA (a6 ae),bw bO.e ae,by rw[ar];rfl,bx,bA (a6 ae),bw bO.e ae,U,ad⟩
    | false=>
     rw[U,jz]at h;exact ak7 ⟨bT (a6 ae),bx,bA (a6 ae),bw bO.e ae,⟨by omega,by omega⟩,gp _ _ _ true h1,rfl,bx,bA (a6 ae),bw bO.e ae,by rw[ar];rfl,bx,bA (a6 ae),bw bO.e ae,U,bx,bA (a6 ae),bw bO.e ae,gp _ _ _ false (by simpa using h),rfl,ad⟩
   | true=>
    rw[ar,jg,Bool.false_and,jz]at h;exact ak9 ⟨bT (a6 ae),bx,bA (a6 ae),bw bO.e ae,⟨by omega,by omega⟩,gp _ _ _ true h1,rfl,bx,bA (a6 ae),bw bO.e ae,by rw[ar];rfl,bx,bA (a6 ae),bw bO.e ae,gp _ _ _ false (by simpa using h),rfl,ad⟩)
  (alb ⟨dq,ad⟩)
 grind
theorem am9(c:aV)(al:c.sz<=8388608)(aP:1<=c.ax.ao/\c.ax.ao<=4):
  ((c.news.any (lU c.ax.ao))=false/\cN prog (ap f56 3) (ta c.ax.ao (c.ax.nodes.map Node.e) c.ax.ao c.ax.cap (c.ao.map aN.e) (c.bQ.map bC.e) (c.tokens.map bO.e) (c.news.map bW.e) 0) (.exit 6) NC)\/
  ((c.news.any (lU c.ax.ao))=true/\cN prog (ap f56 3) (ta c.ax.ao (c.ax.nodes.map Node.e) c.ax.ao c.ax.cap (c.ao.map aN.e) (c.bQ.map bC.e) (c.tokens.map bO.e) (c.news.map bW.e) 0) .ret (DN false)):=by
 have aj:=yc al;have l:=hf (P:=prog) (c:=(ap f56 3)) c.news (lU c.ax.ao) (fun i=>ta c.ax.ao (c.ax.nodes.map Node.e) c.ax.ao c.ax.cap (c.ao.map aN.e) (c.bQ.map bC.e) (c.tokens.map bO.e) (c.news.map bW.e) i) (X:=fun _ _=>DN false) eZ (ci 6)
  (fun i a ae h=>by
   have hi:=a6 ae;simp only[lU,fw,jf]at h;exact alf ⟨bT (a6 ae),bx,bA (a6 ae),bw bW.e ae,⟨by omega,by omega⟩,gp _ _ _ true h.1,rfl,bx,bA (a6 ae),bw bW.e ae,gp _ _ _ true h.2,rfl,cP hi aj,ad⟩)
  (fun i a ae h=>by
   have hi:=a6 ae;cases h1:aw a.dest 0 (c.ax.ao-1) with
   | false=>exact ald ⟨bT (a6 ae),bx,bA (a6 ae),bw bW.e ae,⟨by omega,by omega⟩,gp _ _ _ false h1,rfl,ad⟩
   | true=>
    simp only[lU,h1,jg,jz]at h;exact ale ⟨bT (a6 ae),bx,bA (a6 ae),bw bW.e ae,⟨by omega,by omega⟩,gp _ _ _ true h1,rfl,bx,bA (a6 ae),bw bW.e ae,gp _ _ _ false (by simpa using h),rfl,ad⟩)
  (alg ⟨dq,ad⟩)
 grind
theorem ana(c:aV)(al:c.sz<=8388608)(hw:ga c):av 56 [.agg c.e] [.one (B (cr c))]:=by
 have ar:=CT c.ax (ox al);unfold cr;cases h1:dg c.ax with
 | false=>rw[h1]at ar;exact alq ⟨ar,rfl,ad⟩
 | true=>
 rw[h1]at ar;have aP:=ih h1;have aC:aJ .i64 (c.ax.ao*c.ax.ao):=by
  have aA:c.ax.ao=1\/c.ax.ao=2\/c.ax.ao=3\/c.ax.ao=4:=by omega
  rcases aA with aA | aA | aA | aA<;>(rw[aA];exact⟨by decide,by decide⟩)
 cases U:((c.ao.length:Int)==c.ax.ao) with
 | false=>exact alr ⟨ar,rfl,by grind,ad⟩
 | true=>
 have v2:((↑(c.ao.map aN.e).length:Int) != c.ax.ao)=false:=by grind
 cases aA:((c.bQ.length:Int)==c.ax.ao*c.ax.ao) with
 | false=>exact als ⟨ar,rfl,v2,aC,by grind,ad⟩
 | true=>
 have v3:((↑(c.bQ.map bC.e).length:Int) != c.ax.ao*c.ax.ao)=false:=by grind
 cases aI:(c.tokens.length==4) with
 | false=>exact alu ⟨ar,rfl,v2,aC,v3,vF aI,ad⟩
 | true=>
 rcases anJ c al (eq_of_beq U) with⟨a',pB⟩ | ⟨a',pB⟩
 case inr=>rw[a'];exact aly ⟨ar,rfl,v2,aC,v3,gm aI,pB,ad⟩
 rw[a'];rcases anK c al hw aP.1 with⟨bu,rG⟩ | ⟨bu,rG⟩
 case inr=>rw[bu];exact alG ⟨ar,rfl,v2,aC,v3,gm aI,pB,rG,ad⟩
 rw[bu];rcases anL c al aP with⟨bU,ur⟩ | ⟨bU,ur⟩
 case inr=>rw[bU];exact alc ⟨ar,rfl,v2,aC,v3,gm aI,pB,rG,ur,ad⟩
 rw[bU];rcases am9 c al aP with⟨cI,kC⟩ | ⟨cI,kC⟩
 ·rw[cI];exact amK ⟨ar,rfl,v2,aC,v3,gm aI,pB,rG,ur,kC,ad⟩
 rw[cI];exact amJ ⟨ar,rfl,v2,aC,v3,gm aI,pB,rG,ur,kC,ad⟩
theorem anb(c:aV)(al:c.sz<=8388608)(aP:(c.ao.length:Int)=c.ax.ao):
  ((c.ao.any fun w=>!e8 c.ax w)=false/\cN prog (ap f55 0) (uB c.ax.ao (c.ao.map aN.e) 0 (c.ax.nodes.map Node.e) c.ax.ao c.ax.cap (c.ao.map aN.e) (c.bQ.map bC.e) (c.tokens.map bO.e) (c.news.map bW.e)) (.exit 0) (L4 c.ax.ao (c.ax.nodes.map Node.e) c.ax.ao c.ax.cap (c.ao.map aN.e) (c.bQ.map bC.e) (c.tokens.map bO.e) (c.news.map bW.e)))\/
  ((c.ao.any fun w=>!e8 c.ax w)=true/\cN prog (ap f55 0) (uB c.ax.ao (c.ao.map aN.e) 0 (c.ax.nodes.map Node.e) c.ax.ao c.ax.cap (c.ao.map aN.e) (c.bQ.map bC.e) (c.tokens.map bO.e) (c.news.map bW.e)) .ret (G0 false)):=by
 have aj:=aV.Ei al;have l:=hf (P:=prog) (c:=(ap f55 0)) c.ao (fun w=>!e8 c.ax w) (fun i=>uB c.ax.ao (c.ao.map aN.e) i (c.ax.nodes.map Node.e) c.ax.ao c.ax.cap (c.ao.map aN.e) (c.bQ.map bC.e) (c.tokens.map bO.e) (c.news.map bW.e)) (X:=fun _ _=>G0 false) eZ (ci 0)
  (fun i a ae h=>by
   have k:=G7 c.ax a (ox al) (aV.Ej al (cB ae));rw[show e8 c.ax a=true by simpa using h]at k;exact amQ ⟨bT (a6 ae),bx,bA (a6 ae),bw aN.e ae,k,rfl,cP (a6 ae) aj,ad⟩)
  (fun i a ae h=>by
   have k:=G7 c.ax a (ox al) (aV.Ej al (cB ae));rw[show e8 c.ax a=false by simpa using h]at k;exact amP ⟨bT (a6 ae),bx,bA (a6 ae),bw aN.e ae,k,rfl,ad⟩)
  (amR ⟨dq,ad⟩)
 grind
theorem anc(c:aV)(al:c.sz<=8388608)(hw:ga c)(aP:1<=c.ax.ao):
  (anyI (kG c.ax) 0 c.bQ=false/\cN prog (ap f55 1) (nC c.ax.ao (c.bQ.map bC.e) 0 (c.ax.nodes.map Node.e) c.ax.ao c.ax.cap (c.ao.map aN.e) (c.bQ.map bC.e) (c.tokens.map bO.e) (c.news.map bW.e)) (.exit 2) (DO c.ax.ao (c.ax.nodes.map Node.e) c.ax.ao c.ax.cap (c.ao.map aN.e) (c.bQ.map bC.e) (c.tokens.map bO.e) (c.news.map bW.e)))\/
  (anyI (kG c.ax) 0 c.bQ=true/\cN prog (ap f55 1) (nC c.ax.ao (c.bQ.map bC.e) 0 (c.ax.nodes.map Node.e) c.ax.ao c.ax.cap (c.ao.map aN.e) (c.bQ.map bC.e) (c.tokens.map bO.e) (c.news.map bW.e)) .ret (Ag false)):=by
 have aj:=aV.Gm al;have pA:∀(i:Nat) (a:bC),c.bQ[i]?=some a->∀r,jr a=r->av 188 [.agg a.e] [.one (B r)]:=fun i a ae r h=>h▸G3 a (aV.Gl al (cB ae)) (hw _ (cB ae))
 have fI:∀(i:Nat) (a:bC),c.bQ[i]?=some a->∀r,gy c.ax a.queue=r->av 189 [.agg c.ax.e,.one (.J 5 (a.queue.map ay.e))] [.one (B r)]:=fun i a ae r h=>x6 c.ax _ r h (ox al) (aV.Gl al (cB ae))
 exact wD (P:=prog) (c:=(ap f55 1)) c.bQ (kG c.ax) (fun i=>nC c.ax.ao (c.bQ.map bC.e) i (c.ax.nodes.map Node.e) c.ax.ao c.ax.cap (c.ao.map aN.e) (c.bQ.map bC.e) (c.tokens.map bO.e) (c.news.map bW.e)) eZ (ci 2)
  (fun i a ae h=>by
   have hi:=a6 ae;simp only[kG,fw,jf]at h;obtain⟨h1,U,aA,aI⟩:=h;cases a':((i:Int).tdiv c.ax.ao==(i:Int).tmod c.ax.ao) with
   | true=>
    rw[a',lb]at aI;exact amX ⟨bT (a6 ae),bx,bA (a6 ae),bw bC.e ae,pA i a ae _ h1,rfl,U,fI i a ae _ aA,rfl,by omega,Ai i _ (by omega) aP,by omega,a',by grind,cP hi aj,ad⟩
   | false=>exact amY ⟨bT (a6 ae),bx,bA (a6 ae),bw bC.e ae,pA i a ae _ h1,rfl,U,fI i a ae _ aA,rfl,by omega,Ai i _ (by omega) aP,by omega,a',cP hi aj,ad⟩)
  (fun i a ae h=>by
   have hi:=a6 ae;cases h1:jr a with
   | false=>exact amT ⟨bT (a6 ae),bx,bA (a6 ae),bw bC.e ae,pA i a ae _ h1,rfl,ad⟩
   | true=>
   cases U:(a.cap != c.ax.cap) with
   | true=>exact amU ⟨bT (a6 ae),bx,bA (a6 ae),bw bC.e ae,pA i a ae _ h1,rfl,U,ad⟩
   | false=>
   cases aA:gy c.ax a.queue with
   | false=>exact amV ⟨bT (a6 ae),bx,bA (a6 ae),bw bC.e ae,pA i a ae _ h1,rfl,U,fI i a ae _ aA,rfl,ad⟩
   | true=>
   simp only[kG,h1,U,aA,jg,jz,b9]at h;exact amW ⟨bT (a6 ae),bx,bA (a6 ae),bw bC.e ae,pA i a ae _ h1,rfl,U,fI i a ae _ aA,rfl,by omega,Ai i _ (by omega) aP,by omega,h.1,by grind,ad⟩)
  (amZ ⟨dq,ad⟩)
theorem ane(c:aV)(al:c.sz<=8388608)(aP:1<=c.ax.ao/\c.ax.ao<=4):
  ((c.tokens.any (lT c.ax.ao))=false/\cN prog (ap f55 2) (n9 c.ax.ao (c.tokens.map bO.e) 0 (c.ax.nodes.map Node.e) c.ax.ao c.ax.cap (c.ao.map aN.e) (c.bQ.map bC.e) (c.tokens.map bO.e) (c.news.map bW.e)) (.exit 4) (G1 c.ax.ao (c.ax.nodes.map Node.e) c.ax.ao c.ax.cap (c.ao.map aN.e) (c.bQ.map bC.e) (c.tokens.map bO.e) (c.news.map bW.e)))\/
  ((c.tokens.any (lT c.ax.ao))=true/\cN prog (ap f55 2) (n9 c.ax.ao (c.tokens.map bO.e) 0 (c.ax.nodes.map Node.e) c.ax.ao c.ax.cap (c.ao.map aN.e) (c.bQ.map bC.e) (c.tokens.map bO.e) (c.news.map bW.e)) .ret (x4 false)):=by
 have aj:=Xy al;have l:=hf (P:=prog) (c:=(ap f55 2)) c.tokens (lT c.ax.ao) (fun i=>n9 c.ax.ao (c.tokens.map bO.e) i (c.ax.nodes.map Node.e) c.ax.ao c.ax.cap (c.ao.map aN.e) (c.bQ.map bC.e) (c.tokens.map bO.e) (c.news.map bW.e)) (X:=fun _ _=>x4 false) eZ (ci 4)
  (fun i a ae h=>by
   have hi:=a6 ae;simp only[lT,fw,jf]at h;obtain⟨h1,U,aA⟩:=h;cases ar:a.going with
   | false=>
    rw[ar,o6,lb]at U;exact am4 ⟨bT (a6 ae),bx,bA (a6 ae),bw bO.e ae,⟨by omega,by omega⟩,hX true h1,rfl,by rw[ar];rfl,U,hX true aA,rfl,cP hi aj,ad⟩
   | true=>exact am6 ⟨bT (a6 ae),bx,bA (a6 ae),bw bO.e ae,⟨by omega,by omega⟩,hX true h1,rfl,by rw[ar];rfl,hX true aA,rfl,cP hi aj,ad⟩)
  (fun i a ae h=>by
   have hi:=a6 ae;cases h1:aw a.place 0 (c.ax.ao-1) with
   | false=>exact am1 ⟨bT (a6 ae),bx,bA (a6 ae),bw bO.e ae,⟨by omega,by omega⟩,hX false h1,rfl,ad⟩
   | true=>
   simp only[lT,h1,jg,jz]at h;cases ar:a.going with
   | false=>
    rw[ar,o6,lb]at h;cases U:(a.place != 0) with
    | true=>exact am2 ⟨bT (a6 ae),bx,bA (a6 ae),bw bO.e ae,⟨by omega,by omega⟩,hX true h1,rfl,by rw[ar];rfl,U,ad⟩
    | false=>
     rw[U,jz]at h;exact am3 ⟨bT (a6 ae),bx,bA (a6 ae),bw bO.e ae,⟨by omega,by omega⟩,hX true h1,rfl,by rw[ar];rfl,U,hX false (by simpa using h),rfl,ad⟩
   | true=>
    rw[ar,jg,Bool.false_and,jz]at h;exact am5 ⟨bT (a6 ae),bx,bA (a6 ae),bw bO.e ae,⟨by omega,by omega⟩,hX true h1,rfl,by rw[ar];rfl,hX false (by simpa using h),rfl,ad⟩)
  (am7 ⟨dq,ad⟩)
 grind
theorem anf(c:aV)(al:c.sz<=8388608)(aP:1<=c.ax.ao/\c.ax.ao<=4):
  ((c.news.any (lU c.ax.ao))=false/\cN prog (ap f55 3) (tc c.ax.ao (c.news.map bW.e) 0) (.exit 6) ND)\/
  ((c.news.any (lU c.ax.ao))=true/\cN prog (ap f55 3) (tc c.ax.ao (c.news.map bW.e) 0) .ret (DP false)):=by
 have aj:=yc al;have l:=hf (P:=prog) (c:=(ap f55 3)) c.news (lU c.ax.ao) (fun i=>tc c.ax.ao (c.news.map bW.e) i) (X:=fun _ _=>DP false) eZ (ci 6)
  (fun i a ae h=>by
   have hi:=a6 ae;simp only[lU,fw,jf]at h;exact aml ⟨bT (a6 ae),bx,bA (a6 ae),bw bW.e ae,⟨by omega,by omega⟩,hX true h.1,rfl,hX true h.2,rfl,cP hi aj,ad⟩)
  (fun i a ae h=>by
   have hi:=a6 ae;cases h1:aw a.dest 0 (c.ax.ao-1) with
   | false=>exact amj ⟨bT (a6 ae),bx,bA (a6 ae),bw bW.e ae,⟨by omega,by omega⟩,hX false h1,rfl,ad⟩
   | true=>
    simp only[lU,h1,jg,jz]at h;exact amk ⟨bT (a6 ae),bx,bA (a6 ae),bw bW.e ae,⟨by omega,by omega⟩,hX true h1,rfl,hX false (by simpa using h),rfl,ad⟩)
  (amm ⟨dq,ad⟩)
 grind
theorem Il(c:aV)(al:c.sz<=8388608)(hw:ga c):av 55 [.agg c.e] [.one (B (cr c))]:=by
 have ar:=wI c.ax (ox al);unfold cr;cases h1:dg c.ax with
 | false=>rw[h1]at ar;exact amL ⟨ar,rfl,ad⟩
 | true=>
 rw[h1]at ar;have aP:=ih h1;have aC:aJ .i64 (c.ax.ao*c.ax.ao):=by
  have aA:c.ax.ao=1\/c.ax.ao=2\/c.ax.ao=3\/c.ax.ao=4:=by omega
  rcases aA with aA | aA | aA | aA<;>(rw[aA];exact⟨by decide,by decide⟩)
 cases U:((c.ao.length:Int)==c.ax.ao) with
 | false=>exact amM ⟨ar,rfl,by grind,ad⟩
 | true=>
 have v2:((↑(c.ao.map aN.e).length:Int) != c.ax.ao)=false:=by grind
 cases aA:((c.bQ.length:Int)==c.ax.ao*c.ax.ao) with
 | false=>exact amN ⟨ar,rfl,v2,aC,by grind,ad⟩
 | true=>
 have v3:((↑(c.bQ.map bC.e).length:Int) != c.ax.ao*c.ax.ao)=false:=by grind
 cases aI:(c.tokens.length==4) with
 | false=>exact amO ⟨ar,rfl,v2,aC,v3,vF aI,ad⟩
 | true=>
 rcases anb c al (eq_of_beq U) with⟨a',pB⟩ | ⟨a',pB⟩
 case inr=>rw[a'];exact amS ⟨ar,rfl,v2,aC,v3,gm aI,pB,ad⟩
 rw[a'];rcases anc c al hw aP.1 with⟨bu,rG⟩ | ⟨bu,rG⟩
 case inr=>rw[bu];exact am0 ⟨ar,rfl,v2,aC,v3,gm aI,pB,rG,ad⟩
 rw[bu];rcases ane c al aP with⟨bU,ur⟩ | ⟨bU,ur⟩
 case inr=>rw[bU];exact am8 ⟨ar,rfl,v2,aC,v3,gm aI,pB,rG,ur,ad⟩
 rw[bU];rcases anf c al aP with⟨cI,kC⟩ | ⟨cI,kC⟩
 ·rw[cI];exact amo ⟨ar,rfl,v2,aC,v3,gm aI,pB,rG,ur,kC,ad⟩
 rw[cI];exact amn ⟨ar,rfl,v2,aC,v3,gm aI,pB,rG,ur,kC,ad⟩
end Go.Proofs.YtdchjefneblpgaaGreat
namespace Go.Proofs.YtdchjefneblpgaaGreat
open Go.Sx Go.RowKit Go.Proofs.Tryz
def cutAt{α:Type}(xs:List α)(k:Nat):List α:=xs.take k++xs.drop (k+1)
def Bf:ay:=⟨0,⟨0,0⟩,0,0⟩
def nr(xs:List Int)(e d:Int):List Int:=xs.set e.toNat (xs.getD e.toNat 0+d)
def ei(l:bC)(r:ay):bC×Bool:=
 if jr l&&dM r&&l.fb != 0&&decide (l.eG<1000000000) then (⟨l.cap,l.queue++[r],l.fb-1,l.back,l.eG+1,l.eo⟩,true) else (l,false)
def dF(l:bC):bC×ay×Bool:=
 if jr l then match l.queue with
  | []=>(l,Bf,false)
  | r::q=>(⟨l.cap,q,l.fb,l.back+1,l.eG,l.eo+1⟩,r,true)
 else (l,Bf,false)
def fK(l:bC):bC×Bool:=
 if jr l&&l.back != 0 then (⟨l.cap,l.queue,l.fb+1,l.back-1,l.eG,l.eo⟩,true) else (l,false)
def gM(g:bF)(w:aN):aN×Bool:=
 if dg g&&e8 g w then match w.cj,w.queue with
  | [],r::q=>(⟨q,(dh g w.cells r).2.1,w.bX,(dh g w.cells r).1,w.bP,w.bV,(if b7 g r then w.bl.set r.bf.aU.toNat true else w.bl),w.b1⟩,true)
  | _,_=>(w,false)
 else (w,false)
def gN(g:bF)(w:aN):aN×Bool:=
 if dg g&&e8 g w then match w.cj,w.queue,w.bX with
  | [],[],r::t=>(⟨[r],[],t,w.cells,w.bP,w.bV,w.bl,w.b1⟩,true)
  | _,_,_=>(w,false)
 else (w,false)
def hI(w:aN)(t:List ay):aN:=⟨w.queue,t,w.bX,w.cells,w.bP,w.bV,w.bl,w.b1⟩
def kept(w:aN)(r:ay):aN:=⟨w.queue++[r],w.cj,w.bX,w.cells,w.bP,w.bV,w.bl,w.b1⟩
def jY(w:aN)(r:ay):aN:=⟨w.queue++[r],w.cj,w.bX,w.cells,nr w.bP r.bf.aU (-1),w.bV.set r.bf.aU.toNat true,w.bl,w.b1⟩
def lD(w:aN)(e:Int):aN:=⟨w.queue,w.cj,w.bX,w.cells,nr w.bP e 1,w.bV,w.bl,w.b1⟩
def ez(w:aN)(e:Int):aN:=⟨w.queue,w.cj,w.bX,w.cells,w.bP,w.bV.set e.toNat false,w.bl,w.b1⟩
def told(w:aN)(e:Int)(b:Bool):aN:=⟨w.queue,w.cj,w.bX,w.cells,w.bP,w.bV,w.bl,w.b1++[⟨e,b⟩]⟩
def ea(w:aN)(n:bW):aN:=if eC w n.aU then w else told w n.aU n.b7
def yd(w:aN)(e:Int):Bool:=w.bX.any fun r=>decide (r.bf.aU<=e)
def Xz(w:aN)(e:Int):Nat:=(iI e w.queue).length+(iI e w.cj).length
def kH(w:aN)(e:Int):Bool:=!yd w e&&Xz w e==0
def setW(c:aV)(i:Int)(x:aN):aV:=⟨c.ax,c.ao.set i.toNat x,c.bQ,c.tokens,c.news⟩
def c3(c:aV)(i:Int)(l:bC):aV:=⟨c.ax,c.ao,c.bQ.set i.toNat l,c.tokens,c.news⟩
def cO(c:aV)(i:Int)(t:bO):aV:=⟨c.ax,c.ao,c.bQ,c.tokens.set i.toNat t,c.news⟩
def gA(c:aV)(n:List bW):aV:=⟨c.ax,c.ao,c.bQ,c.tokens,n⟩
def b0(c:aV)(i:Int):Option aN:=if 0<=i then c.ao[i.toNat]? else none
def eA(c:aV)(i:Int):Option bC:=if 0<=i then c.bQ[i.toNat]? else none
def h4(c:aV)(i:Int):Option bO:=if 0<=i then c.tokens[i.toNat]? else none
def dT(g:bF)(a b:Int):Int:=if aw a 0 (g.ao-1)&&aw b 0 (g.ao-1) then a*g.ao+b else -1
def js(c:aV)(w:Int):aV×Bool:=
 if cr c then match b0 c w with
  | some x=>(setW c w (gM c.ax x).1,(gM c.ax x).2)
  | none=>(c,false)
 else (c,false)
def jt(c:aV)(w:Int):aV×Bool:=
 if cr c then match b0 c w with
  | some x=>(setW c w (gN c.ax x).1,(gN c.ax x).2)
  | none=>(c,false)
 else (c,false)
def r1(c:aV)(w:Int)(x:aN)(r:ay)(t:List ay)(o:Int):aV×Bool:=
 if o=w then (setW c w (kept (hI x t) r),true)
 else match eA c (dT c.ax w o) with
  | some l=>if (ei l r).2 then (setW (c3 c (dT c.ax w o) (ei l r).1) w (lD (hI x t) r.bf.aU),true) else (c,false)
  | none=>(c,false)
def jc(c:aV)(w:Int):aV×Bool:=
 if cr c then match b0 c w with
  | some x=>match x.cj with
   | r::t=>r1 c w x r t (ec r.key c.ax.ao)
   | []=>(c,false)
  | none=>(c,false)
 else (c,false)
def jT(c:aV)(a b:Int):aV×Bool:=
 if cr c&&a != b then match eA c (dT c.ax a b),b0 c b with
  | some l,some x=>if (dF l).2.2 then (setW (c3 c (dT c.ax a b) (dF l).1) b (jY x (dF l).2.1),true) else (c,false)
  | _,_=>(c,false)
 else (c,false)
def ju(c:aV)(a b:Int):aV×Bool:=
 if cr c&&a != b then match eA c (dT c.ax a b) with
  | some l=>(c3 c (dT c.ax a b) (fK l).1,(fK l).2)
  | none=>(c,false)
 else (c,false)
def gf(n:Nat)(e:Int)(b:Bool):List bW:=(List.range n).map fun k:Nat=>⟨(k:Int)+1,e,b⟩
def dB(c:aV)(e:Int)(t:bO)(x:aN):aV×Bool:=
 if kH x e then
  if !t.going then (setW (cO c e ⟨true,(c.ao.length:Int)-1,0,false,x.bl.getD e.toNat false⟩) t.place (ez x e),true)
  else if 0<t.place then
   if aw (t.sum+x.bP.getD e.toNat 0) (-1000000) 1000000 then
    (setW (cO c e ⟨true,t.place-1,t.sum+x.bP.getD e.toNat 0,t.bV||x.bV.getD e.toNat false,t.b7||x.bl.getD e.toNat false⟩) t.place (ez x e),true)
   else (c,false)
  else if !t.bV&&!x.bV.getD e.toNat false&&t.sum+x.bP.getD e.toNat 0==0 then
   (gA (setW (cO c e ⟨false,t.place,t.sum,t.bV,t.b7⟩) 0 (told x e (t.b7||x.bl.getD e.toNat false))) (c.news++gf (c.ao.length-1) e (t.b7||x.bl.getD e.toNat false)),true)
  else (cO c e ⟨false,t.place,t.sum,t.bV,t.b7⟩,true)
 else (c,false)
def ix(c:aV)(e:Int):aV×Bool:=
 if cr c&&aw e 0 3 then match b0 c 0,h4 c e with
  | some cv,some t=>if eC cv e then (c,false) else match b0 c t.place with
   | some x=>dB c e t x
   | none=>(c,false)
  | _,_=>(c,false)
 else (c,false)
def jU(c:aV)(w:Int):aV×Bool:=
 match c.news.findIdx? (fun n=>n.dest==w) with
 | some k=>if cr c then match c.news[k]?,b0 c w with
   | some n,some x=>(gA (setW c w (ea x n)) (cutAt c.news k),true)
   | _,_=>(c,false)
  else (c,false)
 | none=>(c,false)
def c7(c:aV)(p:b6):aV×Bool:=
 if p.kind=1 then js c p.a else if p.kind=2 then jt c p.a else if p.kind=3 then jc c p.a
 else if p.kind=4 then jT c p.a p.b else if p.kind=5 then ju c p.a p.b else if p.kind=6 then ix c p.a
 else if p.kind=7 then jU c p.a else (c,false)
end Go.Proofs.YtdchjefneblpgaaGreat
namespace Go.Proofs.YtdchjefneblpgaaGreat
open Go.Sx Go.RowKit Go.Proofs.Tryz
section
variable {α : Type}
theorem Pj{p:α->Bool}{xs:List α}{i:Nat}{x:α}(h:xs.any p=false)(hi:i<xs.length):(xs.set i x).any p=p x:=by
 cases aa:p x with
 | true=>exact oj.2 ⟨x,List.mem_iff_getElem.2 ⟨i,by grind,by simp⟩,aa⟩
 | false=>
  grind
theorem XA{p:Nat->α->Bool}{x:α}:∀{xs:List α} {k i:Nat},anyI p k xs=false->i<xs.length->anyI p k (xs.set i x)=p (k+i) x
 | [],_,_,_,h=>by simp at h
 | a::xs,k,0,h,_=>by
  simp_all[anyI,fw,List.set_cons_zero,Bool.or_false,o7]
 | a::xs,k,i+1,h,hi=>by
  simp only[anyI,fw]at h;simp only[List.set_cons_succ,anyI,h.1,jz];rw[XA h.2 (by simpa using hi),show k+1+i=k+(i+1) by omega]
theorem Aj{p:Nat->α->Bool}{xs:List α}(h:∀i a,xs[i]?=some a->p i a=false):anyI p 0 xs=false:=by
 cases aa:anyI p 0 xs with
 | false=>rfl
 | true=>
  obtain⟨i,a,h1,U,_⟩:=N6 aa;grind
theorem DU{p:Nat->α->Bool}{xs:List α}(h:anyI p 0 xs=false){i:Nat}{a:α}(ae:xs[i]?=some a):p i a=false:=by
 have:=AU h i a ae;grind
end
variable{c:aV}
theorem fe:cr c=true<->dg c.ax=true/\(c.ao.length:Int)=c.ax.ao/\(c.bQ.length:Int)=c.ax.ao*c.ax.ao/\c.tokens.length=4/\(c.ao.any fun w=>!e8 c.ax w)=false/\anyI (kG c.ax) 0 c.bQ=false/\c.tokens.any (lT c.ax.ao)=false/\c.news.any (lU c.ax.ao)=false:=by
 simp only[cr,b9,gQ,iL]
variable{i:Int}{x:aN}
theorem dU(h:b0 c i=some x):0<=i/\i.toNat<c.ao.length/\c.ao[i.toNat]?=some x:=by
 grind[b0,a6]
theorem hJ{x:bC}(h:eA c i=some x):0<=i/\i.toNat<c.bQ.length/\c.bQ[i.toNat]?=some x:=by
 grind[eA,a6]
theorem ye{x:bO}(h:h4 c i=some x):0<=i/\i.toNat<c.tokens.length/\c.tokens[i.toNat]?=some x:=by
 grind[h4,a6]
theorem vW{y:aN}(h:cr c=true)(bk:b0 c i=some y):cr (setW c i x)=e8 c.ax x:=by
 obtain⟨h1,U,aA,aI,a',bu,bU,cI⟩:=fe.1 h;have hi:=(dU bk).2.1;simp only[cr,setW,iN,Pj a' hi,h1,U,aA,aI,bu,bU,cI,wY,o6,tF,lb,Bool.not_not]
theorem Pk{x y:bC}(h:cr c=true)(bk:eA c i=some y):cr (c3 c i x)=!kG c.ax i.toNat x:=by
 obtain⟨h1,U,aA,aI,a',bu,bU,cI⟩:=fe.1 h;have hi:=(hJ bk).2.1;simp only[cr,c3,iN,XA bu hi,dV,h1,U,aA,aI,a',bU,cI,wY,o6,tF,lb]
theorem ang{x y:bO}(h:cr c=true)(bk:h4 c i=some y):cr (cO c i x)=!lT c.ax.ao x:=by
 obtain⟨h1,U,aA,aI,a',bu,bU,cI⟩:=fe.1 h;have hi:=(ye bk).2.1;simp only[cr,cO,iN,Pj bU hi,h1,U,aA,aI,a',bu,cI,wY,o6,tF,lb]
theorem XB{x:List bW}(h:cr c=true):cr (gA c x)=!(x.any (lU c.ax.ao)):=by
 obtain⟨h1,U,aA,aI,a',bu,bU,cI⟩:=fe.1 h;simp only[cr,gA,h1,U,aA,aI,a',bu,bU,wY,o6,lb]
theorem iJ(h:cr c=true)(aa:b0 c i=some x):e8 c.ax x=true:=by
 have a':=(fe.1 h).2.2.2.2.1;rw[fm]at a';simpa using a' x (cB (dU aa).2.2)
theorem r2{x:bC}(h:cr c=true)(aa:eA c i=some x):kG c.ax i.toNat x=false:=
 DU (fe.1 h).2.2.2.2.2.1 (hJ aa).2.2
theorem Ak{x:bO}(h:cr c=true)(aa:h4 c i=some x):lT c.ax.ao x=false:=by
 have a':=(fe.1 h).2.2.2.2.2.2.1;rw[fm]at a';simpa using a' x (cB (ye aa).2.2)
theorem uP(aa:b0 c i=some x):setW c i x=c:=by
 obtain⟨_,U,aA⟩:=dU aa;have:c.ao.set i.toNat x=c.ao:=by
  grind[gX,List.set_getElem_self]
 simp_all[setW]
theorem anh{x:bC}(aa:eA c i=some x):c3 c i x=c:=by
 obtain⟨_,U,aA⟩:=hJ aa;have:c.bQ.set i.toNat x=c.bQ:=by
  grind[gX,List.set_getElem_self]
 simp_all[c3]
variable{g:bF}{w:aN}
theorem h3:e8 g w=true<->gy g w.queue=true/\gy g w.cj=true/\gy g w.bX=true/\k9 w.cells=true/\w.bP.length=4/\w.bV.length=4/\w.bl.length=4/\anyI (mg w.bX) 0 w.bX=false/\w.bP.any oU=false/\anyI (nD w.b1) 0 w.b1=false:=by
 simp only[e8,b9,gQ,iL]
variable{r:ay}
theorem pR{q:List ay}:gy g (r::q)=true<->ig g r=false/\gy g q=true:=by
 grind[gy,gQ,fw]
theorem Pl{q:List ay}:gy g (q++[r])=true<->gy g q=true/\ig g r=false:=by
 simp only[gy,List.any_append,E2,List.any_nil,Bool.or_false,gQ,fw]
theorem ani{t:List ay}(h:anyI (mg (r::t)) 0 (r::t)=false):anyI (mg t) 0 t=false:=by
 refine Aj fun i a ae=>?_
 have k:=DU h (i:=i+1) (a:=a) (by grind);unfold mg at k ⊢;grind
theorem anj{xs:List cz}{d:cz}(h:anyI (nD xs) 0 xs=false)(h1:aw d.aU 0 3=true)(U:(xs.any fun q=>q.aU==d.aU)=false):anyI (nD (xs++[d])) 0 (xs++[d])=false:=by
 refine Aj fun i a ae=>?_
 by_cases hi:i<xs.length
 ·grind[DU,nD]
 have aj:=a6 ae;simp only[lH,fO,ej]at aj;have e:i=xs.length:=by omega
 simp_all[fl,Nat.sub_self,nD,abY,h6]
theorem aoM(h:e8 g w=true)(aB:ig g r=false):e8 g (kept w r)=true:=by
 obtain⟨h1,U⟩:=h3.1 h;exact h3.2 ⟨Pl.2 ⟨h1,aB⟩,U⟩
theorem Im{t:List ay}(h:e8 g w=true)(ai:w.cj=r::t):e8 g (hI w t)=true/\ig g r=false:=by
 obtain⟨h1,U,aA⟩:=h3.1 h;rw[ai,pR]at U;exact⟨h3.2 ⟨h1,U.2,aA⟩,U.1⟩
variable{e:Int}
theorem aoN(h:e8 g w=true):e8 g (ez w e)=true:=by
 obtain⟨h1,U,aA,aI,a',bu,bU⟩:=h3.1 h;exact h3.2 ⟨h1,U,aA,aI,a',by grind[ez,iN],bU⟩
theorem XC{b:Bool}(h:e8 g w=true)(he:aw e 0 3=true)(aF:eC w e=false):e8 g (told w e b)=true:=by
 obtain⟨h1,U,aA,aI,a',bu,bU,cI,eu,d'⟩:=h3.1 h;exact h3.2 ⟨h1,U,aA,aI,a',bu,bU,cI,eu,anj d' he aF⟩
theorem aoO{n:bW}(h:e8 g w=true)(he:aw n.aU 0 3=true):e8 g (ea w n)=true:=by
 unfold ea;cases aF:eC w n.aU with
 | true=>exact h
 | false=>grind[XC]
theorem XD{e d:Int}{k:Nat}(h:e8 g w=true)(hk:e.toNat=k)(aI:k<4):(nr w.bP e d).length=4/\(nr w.bP e d).any oU=oU (w.bP.getD e.toNat 0+d):=by
 obtain⟨h1,U,aA,_,a',bu,bU,cI,eu,d'⟩:=h3.1 h;grind[nr,iN,Pj]
theorem r3{g:bF}(h:ig g r=false):0<=r.bf.aU/\r.bf.aU<=3:=by
 simp only[ig,dM,hZ,aw,fw,jf,b9,cc]at h;omega
theorem aoP(h:e8 g w=true)(he:0<=e/\e<=3):e8 g (lD w e)=aw (w.bP.getD e.toNat 0+1) (-1000000) 1000000:=by
 obtain⟨b8,bt⟩:=XD (d:=1) h (e:=e) rfl (by omega);obtain⟨h1,U,aA,aI,a',bu,bU,cI,eu,d'⟩:=h3.1 h;simp only[e8,lD,h1,U,aA,aI,b8,bu,bU,cI,d',bt,oU,wY,o6,tF,lb,Bool.not_not]
theorem aoQ(h:e8 g w=true)(aB:ig g r=false):e8 g (jY w r)=aw (w.bP.getD r.bf.aU.toNat 0+-1) (-1000000) 1000000:=by
 have he:=r3 aB;obtain⟨b8,bt⟩:=XD (d:=-1) h (e:=r.bf.aU) rfl (by omega);obtain⟨h1,U,aA,aI,a',bu,bU,cI,eu,d'⟩:=h3.1 h;have aC:=Pl.2 ⟨h1,aB⟩;simp only[e8,jY,aC,U,aA,aI,b8,iN,bu,bU,cI,d',bt,oU,wY,o6,tF,lb,Bool.not_not]
theorem aoR(h:e8 g w=true):e8 g (gN g w).1=true:=by
 unfold gN;split
 ·split
  ·rename_i r t h1 U aA;obtain⟨_,_,eL,k4,k5,nt,mh,qz,uo,LJ⟩:=h3.1 h;rw[aA]at eL qz;exact h3.2 ⟨pR.2 ⟨(pR.1 eL).1,rfl⟩,rfl,(pR.1 eL).2,k4,k5,nt,mh,ani qz,uo,LJ⟩
  exact h
 exact h
theorem aoS:∀{xs:List Cell},k9 xs=true->∀i a b,xs[i]?=some a->xs[i+1]?=some b->fS a b<0:=by
 intro xs h i a b h1 U;simp only[k9,gQ,fm]at h;have hm:(a,b)∈xs.zip (xs.drop 1):=by
  refine cB (i:=i) ?_;grind
 simp_all[G2,cc]
def vX(a:Cell):List Int:=[a.aU,a.op,a.key,a.val]
theorem Pm(a b:Cell):fS a b=pd (vX a) (vX b):=rfl
theorem Io{a b c:Cell}(h1:fS a b<0)(U:fS b c<0):fS a c<0:=by
 rw[Pm] at*;exact Wp (vX a) (vX b) (vX c) rfl rfl h1 U
theorem aoT{a b:Cell}(h1:¬fS a b<0)(U:a≠b):fS b a<0:=by
 rw[Pm] at*;refine Classical.byContradiction fun h=>U ?_
 have:=Wq (vX a) (vX b) rfl h1 h;simp only[vX,tC,and_true]at this;obtain⟨fM,gO,nK,wT⟩:=this;cases a;simp_all
theorem XE:∀{xs:List Cell},k9 xs=true->xs.Pairwise fun a b=>fS a b<0
 | [],_=>List.Pairwise.nil
 | [a],_=>List.pairwise_singleton _ a
 | a::b::xs,h=>by
  have bG:k9 (b::xs)=true:=by
   simp only[k9,List.drop_succ_cons,va,List.zip_cons_cons,E2,Bool.not_or,b9]at h ⊢;exact h.2
  have ai:=XE bG;have dw:=aoS h 0 a b rfl rfl;refine List.Pairwise.cons (fun c al=>?_) ai;rcases dQ.1 al with rfl | al
  ·exact dw
  exact Io dw ((List.pairwise_cons.1 ai).1 c al)
variable{xs:List Cell}
theorem aoU(h:xs.Pairwise fun a b=>fS a b<0):k9 xs=true:=by
 simp only[k9,gQ,fm];rintro⟨a,b⟩ hp;obtain⟨i,hi⟩:=List.getElem?_of_mem hp;obtain⟨h1,U⟩:=DR hi;have a8:=a6 U;have:=List.pairwise_iff_getElem.1 h i (i+1) (by omega) a8 (by omega);rw[jA (by omega)]at h1 U;rw[gX h1,gX U]at this;replace this:fS a b<0:=this;show ¬decide (fS a b>=0)=true;grind
theorem Pn(x:Cell)(h:xs.Pairwise fun a b=>fS a b<0):(ie xs x).Pairwise fun a b=>fS a b<0:=by
 unfold ie;split
 ·exact h
 rename_i iU;have aa:∀a∈xs,a≠x:=by
  intro a ae e;exact iU (oj.2 ⟨a,ae,by simp[e]⟩)
 have aq:∀i a,xs[i]?=some a->i<mM xs x->fS a x<0:=by
  intro i a ae hi;unfold mM at hi;cases br:xs.findIdx? (fun a=>!decide (fS a x<0)) with
  | none=>
   grind
  | some k=>
   rw[br]at hi;simp only[l0]at hi;rw[u6]at br;grind
 have ae:∀i a,xs[i]?=some a->mM xs x<=i->fS x a<0:=by
  intro i a ae hi;have hk:mM xs x<xs.length:=by grind
  obtain⟨b,gj⟩:=cV hk;have bE:¬fS b x<0:=by
   unfold mM at gj hk;cases br:xs.findIdx? (fun a=>!decide (fS a x<0)) with
   | none=>grind
   | some k=>
    rw[br]at gj;simp only[l0]at gj;rw[u6]at br;grind
  have aDx:=aoT bE (aa b (cB gj));rcases Nat.lt_or_eq_of_le hi with bM | heq
  ·have a8:=a6 ae;have:=List.pairwise_iff_getElem.1 h (mM xs x) i hk a8 bM;grind[gX,Io]
  grind
 rw[List.pairwise_append];refine⟨h.sublist (List.take_sublist _ _),List.Pairwise.cons (fun c al=>?_) (h.sublist (List.drop_sublist _ _)),fun a B4 c al=>?_⟩
 ·obtain⟨i,hi⟩:=List.getElem?_of_mem al;grind
 obtain⟨i,hi⟩:=List.getElem?_of_mem B4;rw[kK]at hi;split at hi
 ·rename_i bM;have h1:=aq i a hi bM;rcases dQ.1 al with rfl | al
  ·exact h1
  obtain⟨j,a8⟩:=List.getElem?_of_mem al;grind[Io]
 cases hi
theorem aoV(kind:Int)(x:Cell)(h:k9 xs=true):k9 (cm kind xs x).1=true:=by
 have ai:=XE h;grind[aoU,Pn,List.filter_sublist,cY,cm,e0]
theorem aoW{cs:List Cell}(r:ay)(h:k9 cs=true):k9 (dh g cs r).1=true:=by
 unfold dh;cases dZ g r.op with
 | none=>exact h
 | some x=>
  grind[aoV,dY]
theorem aoX{x:Node}{k v:Int}(aa:aO x=true)(hi:ey k v=true):ey (b3 x k v).1 (b3 x k v).2.1=true:=by
 have hF:=aa;simp only[aO,b9]at aa;have ae:=aa.1.1.1.1;have qo:=hi;simp only[ey,aw,b9,cc]at hi;unfold b3;rw[hF,qo,Bool.and_self,bh rfl];unfold bN at ae;split
 ·rename_i U;rw[bh U]at ae;simp only[aw,b9,cc]at ae;have aj:0<=less (v+x.a) 999/\less (v+x.a) 999<=999:=by grind[less]
  simp_all[ey,aw,b9,cc]
 rename_i U;rw[bq U]at ae;split
 ·rename_i aI;rw[bq (by omega),bh aI]at ae;simp only[aw,b9,cc]at ae;simp only[ey,aw,b9,cc];grind
 grind
theorem aoY(h:dg g=true){op:Int}{x:Node}(aP:dZ g op=some x):jq g op.toNat x=false:=by
 simp only[dg,b9,gQ]at h;grind[dZ,DU]
theorem XF(h:dg g=true){op:Int}{x:Node}(aP:dZ g op=some x){s:hR}{k v:Int}(ai:hZ s=true)(hi:ey k v=true):gy g (e4 x s k v)=true:=by
 have aq:=aoY h aP;have aa:=Ie h aP;simp only[aO,b9]at aa;simp only[jq,fw]at aq;have he:=aq.2;rw[fm]at he;simp only[gy,e4,List.any_map,gQ,fm];intro o aW;have h1:=Hr aa.2 aW;have U:=he o aW;simp only[gK,oi,not_or,cc]at U;simp only[Function.comp,ig,dM,h1,ai,hi,Bool.and_self,jg,jz,cc];omega
theorem aoZ{cs:List Cell}:gy g (dh g cs r).2.1=true:=by
 unfold dh;cases aP:dZ g r.op with
 | none=>rfl
 | some x=>
  simp only[dY];split
  ·rename_i ar;rw[b9]at ar;obtain⟨ar,aB⟩:=ar;have eX:=aB;simp only[dM,b9]at aB;have al:=aoX (Ie ar aP) aB.2;split
   ·rfl
   split
   ·rfl
   split
   ·cases bG:(eF r.bf).2 with
    | false=>rfl
    | true=>
     refine XF ar aP ?_ al;unfold eF at bG ⊢;split
     ·rename_i h1;simp only[b9,hZ,aw,cc]at h1 ⊢;omega
     grind
   grind[XF]
  rfl
theorem ao0(h:e8 g w=true):e8 g (gM g w).1=true:=by
 unfold gM;split
 ·split
  ·rename_i r q h1 U;obtain⟨b8,bt,eL,k4,k5,nt,mh,qz,uo,LJ⟩:=h3.1 h;rw[U,pR]at b8;refine h3.2 ⟨b8.2,aoZ,eL,aoW r k4,k5,nt,?_,qz,uo,LJ⟩;grind
  exact h
 exact h
end Go.Proofs.YtdchjefneblpgaaGreat
namespace Go.Proofs.YtdchjefneblpgaaGreat
open Go.Sx Go.RowKit Go.Proofs.Tryz
variable{l:bC}
theorem pS:jr l=true<->aw l.cap 1 4=true/\aw l.fb 0 l.cap=true/\aw l.back 0 l.cap=true/\l.fb+l.back+l.queue.length=l.cap/\aw l.eG 0 1000000000=true/\0<=l.eo/\l.eo=l.eG-l.queue.length/\(l.queue.any fun r=>!dM r)=false:=by
 simp only[jr,b9,gQ,iL,cc,and_assoc]
variable{g:bF}
theorem qJ{i:Nat}:kG g i l=false<->jr l=true/\l.cap=g.cap/\gy g l.queue=true/\((i:Int).tdiv g.ao=(i:Int).tmod g.ao->l.queue=[]):=by
 simp only[kG,fw,jf,bne_eq_false_iff_eq,Bool.and_eq_false_imp,iL,l4];simp_all
variable{r:ay}
theorem ao1{i:Nat}(h:kG g i l=false)(aB:ig g r=false)(ai:(ei l r).2=true)(aF:(i:Int).tdiv g.ao≠(i:Int).tmod g.ao):kG g i (ei l r).1=false:=by
 obtain⟨h1,U,aA,aI⟩:=qJ.1 h;unfold ei at ai ⊢;split
 ·rename_i al;simp only[b9,bne_iff_ne,lc,cc]at al;obtain⟨⟨⟨_,oK⟩,nS⟩,F7⟩:=al;obtain⟨b8,bt,eL,k4,k5,nt,mh,qz⟩:=pS.1 h1;refine qJ.2 ⟨pS.2 ⟨b8,?_,eL,?_,?_,nt,?_,?_⟩,U,Pl.2 ⟨aA,aB⟩,fun e=>(aF e).elim⟩
  ·simp only[aw,cc]at bt ⊢;omega
  ·grind
  ·simp only[aw,cc]at k5 ⊢;omega
  ·grind
  grind
 grind
theorem Ip{i:Nat}(h:kG g i l=false)(ai:(dF l).2.2=true):kG g i (dF l).1=false/\ig g (dF l).2.1=false:=by
 obtain⟨h1,U,aA,aI⟩:=qJ.1 h;obtain⟨b8,bt,eL,k4,k5,nt,mh,qz⟩:=pS.1 h1;unfold dF at ai ⊢;rw[bh h1]at ai ⊢;split
 ·grind
 rename_i r q aC;rw[aC]at aA qz k4 mh aI;rw[pR]at aA;rw[E2,fw]at qz;simp only[fO]at k4 mh;refine⟨qJ.2 ⟨pS.2 ⟨b8,bt,?_,?_,k5,?_,?_,qz.2⟩,U,aA.2,fun e=>absurd (aI e) (by simp)⟩,aA.1⟩
 ·simp only[aw,cc]at bt eL ⊢;omega
 ·grind
 ·grind
 grind
theorem ao2{i:Nat}(h:kG g i l=false):kG g i (fK l).1=false:=by
 obtain⟨h1,U,aA,aI⟩:=qJ.1 h;obtain⟨b8,bt,eL,k4,k5,nt,mh,qz⟩:=pS.1 h1;unfold fK;split
 ·rename_i al;simp only[b9,bne_iff_ne,lc]at al;refine qJ.2 ⟨pS.2 ⟨b8,?_,?_,?_,k5,nt,mh,qz⟩,U,aA,aI⟩
  ·simp only[aw,cc]at bt eL ⊢;omega
  ·simp only[aw,cc]at bt eL ⊢;omega
  grind
 exact h
theorem yf{a b:Int}(aP:1<=g.ao/\g.ao<=4)(ae:aw a 0 (g.ao-1)=true)(aq:aw b 0 (g.ao-1)=true):
  dT g a b=a*g.ao+b/\0<=a*g.ao+b/\a*g.ao+b<g.ao*g.ao/\(a*g.ao+b).tdiv g.ao=a/\(a*g.ao+b).tmod g.ao=b:=by
 have e:dT g a b=a*g.ao+b:=by grind[dT]
 simp only[aw,cc]at ae aq;generalize g.ao=n at*;have bE:0<=a*n+b:=by have:=Int.mul_nonneg ae.1 (show 0<=n by omega);omega
 rw[Int.tdiv_eq_ediv_of_nonneg bE,Int.tmod_eq_emod_of_nonneg bE];have zz:n=1\/n=2\/n=3\/n=4:=by omega
 grind
variable{b:Int}
theorem uQ{a:Int}(h:(aw a 0 (g.ao-1)&&aw b 0 (g.ao-1))=false):dT g a b=-1:=by
 grind[dT]
variable{n:Int}
theorem Al(key:Int)(aP:1<=n):aw (ec key n) 0 (n-1)=true:=by
 have h1:=NE key n (by omega);have U:=Int.tmod_lt_of_pos key (show 0<n by omega);unfold ec;rw[bq (by omega)];simp only[aw,cc];grind
variable{c:aV}
theorem yg(h:cr c=true){a:Int}(ae:aw a 0 (c.ax.ao-1)=true)(aq:aw b 0 (c.ax.ao-1)=true):∃l,eA c (dT c.ax a b)=some l:=by
 obtain⟨h1,U,aA,_⟩:=fe.1 h;obtain⟨e,bE,bM,_⟩:=yf (ih h1) ae aq;simp_all[eA,bh,cV]
variable{i:Int}
theorem Po(h:eA c i=some l):((i.toNat:Nat):Int)=i:=by have:=(hJ h).1;omega
theorem oV{c:aV}{i:Int}(bE:0<=i)(h1:i<c.ao.length):∃x,b0 c i=some x:=by
 simp_all[b0,bh,cV]
theorem XG(h:cr c=true){e:Int}(he:aw e 0 3=true):∃t,h4 c e=some t:=by
 have aI:=(fe.1 h).2.2.2.1;simp only[aw,cc]at he;unfold h4;rw[bh he.1];exact cV (by omega)
variable{t:bO}
theorem tg:lT n t=false<->(0<=t.place/\t.place<=n-1)/\(t.going=false->t.place=0)/\(-1000000<=t.sum/\t.sum<=1000000):=by
 simp only[lT,aw,fw,jf,cc,Bool.and_eq_false_imp,gQ,bne_eq_false_iff_eq]
theorem DV{j:Int}:b0 (c3 c i l) j=b0 c j:=rfl
theorem DW{j:Int}:b0 (cO c i t) j=b0 c j:=rfl
theorem WS:(c3 c i l).ax=c.ax:=rfl
theorem WT:(cO c i t).ax=c.ax:=rfl
variable{x:aN}
theorem ao3:(setW c i x).ax=c.ax:=rfl
theorem WU{w o:Int}{t:List ay}(h:cr c=true)(aa:b0 c w=some x)(ai:x.cj=r::t)
  (aW:aw o 0 (c.ax.ao-1)=true) (cU:o≠w) (aj:eA c (dT c.ax w o)=some l) (hsend:(ei l r).2=true):
  cr (setW (c3 c (dT c.ax w o) (ei l r).1) w (lD (hI x t) r.bf.aU))=aw (x.bP.getD r.bf.aU.toNat 0+1) (-1000000) 1000000:=by
 obtain⟨h1,U,_⟩:=fe.1 h;obtain⟨w0,w1,_⟩:=dU aa;obtain⟨ok,aB⟩:=Im (iJ h aa) ai;obtain⟨e,jm,ux,Gs,Gt⟩:=yf (ih h1) (a:=w) (b:=o) (by simp only[aw,cc];omega) aW;have cC:cr (c3 c (dT c.ax w o) (ei l r).1)=true:=by
  grind[Pk,ao1,r2,Po]
 rw[vW cC (DV.trans aa),WS,aoP ok (r3 aB)];rfl
theorem WV{w:Int}{t:List ay}(h:cr c=true)(aa:b0 c w=some x)(ai:x.cj=r::t):cr (setW c w (kept (hI x t) r))=true:=by
 grind[Im,iJ,vW,aoM]
theorem WW{k:Int}(h:cr c=true)(aj:eA c k=some l)(aa:b0 c b=some x)(bG:(dF l).2.2=true):
  cr (setW (c3 c k (dF l).1) b (jY x (dF l).2.1))=aw (x.bP.getD (dF l).2.1.bf.aU.toNat 0+-1) (-1000000) 1000000:=by
 obtain⟨b8,bt⟩:=Ip (r2 h aj) bG;have cC:cr (c3 c k (dF l).1)=true:=by grind[Pk]
 rw[vW cC (DV.trans aa),WS,aoQ (iJ h aa) bt]
theorem WX{c:aV}{w:Int}(h:cr c=true):cr (js c w).1=true:=by
 unfold js;rw[bh h];grind[vW,ao0,iJ]
theorem WY{c:aV}{w:Int}(h:cr c=true):cr (jt c w).1=true:=by
 unfold jt;rw[bh h];grind[vW,aoR,iJ]
theorem WZ{c:aV}{a b:Int}(h:cr c=true):cr (ju c a b).1=true:=by
 grind[ju,Pk,ao2,r2]
variable{e:Int}
theorem W0{b:Bool}{m:Nat}(hm:(m:Int)=n-1)(he:aw e 0 3=true):(gf m e b).any (lU n)=false:=by
 rw[fm];intro x aa;simp only[gf,fV,List.mem_range]at aa;obtain⟨k,hk,rfl⟩:=aa;have h1:aw ((k:Int)+1) 0 (n-1)=true:=by simp only[aw,cc];omega
 simp_all[lU,jg,Bool.or_false,oh,not_false_eq_true]
theorem ao4{cv:aN}(h:cr c=true)(he:aw e 0 3=true)(bG:h4 c e=some t)(aa:b0 c t.place=some x)(bE:b0 c 0=some cv)(aF:eC cv e=false):cr (dB c e t x).1=true:=by
 obtain⟨h1,U,aA,aI,a',bu,bU,cI⟩:=fe.1 h;have aP:=ih h1;obtain⟨t1,t2,t3⟩:=tg.1 (Ak h bG);have ok:=iJ h aa;have ZZ:∀du:bO,lT c.ax.ao du=false->cr (cO c e du)=true:=fun du k=>by grind[ang]
 have both:∀du:bO,lT c.ax.ao du=false->cr (setW (cO c e du) t.place (ez x e))=true:=fun du k=>by
  rw[vW (ZZ du k) (DW.trans aa),WT,aoN ok]
 unfold dB;split
 ·split
  ·exact both _ (tg.2 ⟨by grind,by simp,by simp⟩)
  rename_i ar;split
  ·split
   ·rename_i hp aB;simp only[aw,cc]at aB;exact both _ (tg.2 ⟨by grind,by simp,aB⟩)
   exact h
  rename_i hp;have cd:t.place=0:=by omega
  have S0:=ZZ ⟨false,t.place,t.sum,t.bV,t.b7⟩ (tg.2 ⟨t1,fun _=>cd,t3⟩);split
  ·rw[cd]at aa;have SM:cv=x:=by grind
   have kw:cr (setW (cO c e ⟨false,t.place,t.sum,t.bV,t.b7⟩) 0 (told x e (t.b7||x.bl.getD e.toNat false)))=true:=by
    rw[vW S0 (DW.trans aa),WT];grind[XC]
   rw[XB kw,List.any_append];have e1:(setW (cO c e ⟨false,t.place,t.sum,t.bV,t.b7⟩) 0 (told x e (t.b7||x.bl.getD e.toNat false))).ax=c.ax:=rfl;grind[W0]
  exact S0
 exact h
theorem W1{c:aV}{e:Int}(h:cr c=true):cr (ix c e).1=true:=by
 unfold ix;split
 ·rename_i al;rw[b9]at al;grind[ao4]
 exact h
theorem Pp{k:Nat}{n:bW}(h:cr c=true)(aP:c.news[k]?=some n):lU c.ax.ao n=false:=by
 have cI:=(fe.1 h).2.2.2.2.2.2.2;grind
theorem ao5{α:Type}{p:α->Bool}{xs:List α}{k:Nat}(h:xs.any p=false):(cutAt xs k).any p=false:=by
 rw[fm]at h ⊢;intro a ae;rcases gg.1 ae with ae | ae
 ·grind
 grind
theorem W2{c:aV}{w:Int}(h:cr c=true):cr (jU c w).1=true:=by
 unfold jU;split
 ·rw[bh h];split
  ·rename_i n x aP aa;have aq:=Pp h aP;simp only[lU,fw,jf]at aq;have kw:cr (setW c w (ea x n))=true:=by grind[vW,aoO,iJ]
   rw[XB kw,ao3,ao5 (fe.1 h).2.2.2.2.2.2.2];rfl
  exact h
 exact h
theorem Am{α:Type}{sz:α->Nat}{y:α}(x:α):∀{xs:List α} {i:Nat},xs[i]?=some y->fZ sz (xs.set i x)+sz y=fZ sz xs+sz x
 | [],i,h=>by simp at h
 | a::xs,0,h=>by
  grind[fZ,fO]
 | a::xs,i+1,h=>by
  have:=Am (sz:=sz) x (xs:=xs) (i:=i) (by simpa using h);simp only[fZ,List.set_cons_succ,fO,iM,sj]at this ⊢;omega
theorem vY{c:aV}{x y:aN}(h:b0 c i=some y):(setW c i x).sz+y.sz=c.sz+x.sz:=by
 have:=Am (sz:=aN.sz) x (dU h).2.2;grind[setW,aV.sz]
theorem Pq{x y:bC}(h:eA c i=some y):(c3 c i x).sz+y.sz=c.sz+x.sz:=by
 have:=Am (sz:=bC.sz) x (hJ h).2.2;grind[c3,aV.sz]
theorem Iq{x:bO}:(cO c i x).sz=c.sz:=by
 grind[cO,aV.sz,iN]
theorem W3{c:aV}{x:List bW}:(gA c x).sz+c.news.length=c.sz+x.length:=by
 grind[gA,aV.sz]
theorem ao6(g:bF)(w:aN):(gM g w).1.sz<=w.sz+2:=by
 unfold gM;split
 ·rename_i al;rw[b9]at al;split
  ·grind[anB,aN.sz,fO,ej,iN]
  grind
 grind
theorem ao7(g:bF)(w:aN):(gN g w).1.sz<=w.sz:=by
 unfold gN;split
 ·split
  ·grind[aN.sz,fO,ej]
  grind
 grind
theorem W4{w:aN}{t:List ay}(h:w.cj=r::t):(hI w t).sz+1=w.sz:=by
 grind[hI,aN.sz,fO]
theorem ao8(w:aN)(r:ay):(kept w r).sz=w.sz+1:=by
 grind[kept,aN.sz,lH,fO,ej]
theorem ao9(w:aN)(e:Int):(lD w e).sz=w.sz:=by
 grind[lD,nr,aN.sz,iN]
theorem apa(w:aN)(r:ay):(jY w r).sz=w.sz+1:=by
 simp only[jY,nr,aN.sz,iN,lH,fO,ej];omega
theorem apb(w:aN)(e:Int):(ez w e).sz=w.sz:=by
 grind[ez,aN.sz,iN]
theorem W5(w:aN)(e:Int)(b:Bool):(told w e b).sz=w.sz+1:=by
 grind[told,aN.sz,lH,fO,ej]
theorem aom(w:aN)(n:bW):(ea w n).sz<=w.sz+1:=by
 grind[ea,W5]
theorem aon(l:bC)(r:ay):(ei l r).1.sz<=l.sz+1:=by
 grind[ei,bC.sz]
theorem aoo(l:bC):(dF l).1.sz<=l.sz:=by
 unfold dF;split
 ·split
  ·grind
  grind[bC.sz]
 grind
theorem aop(l:bC):(fK l).1.sz=l.sz:=by
 unfold fK;split<;>rfl
theorem W6{α:Type}(xs:List α)(k:Nat):(cutAt xs k).length<=xs.length:=by
 grind[cutAt,lH,u7,List.length_drop]
theorem aoq(hw:c.ao.length<=4)(aa:b0 c t.place=some x)(bE:0<=t.place):(dB c e t x).1.sz<=c.sz+4:=by
 unfold dB;have w1:∀du,(setW (cO c e du) t.place (ez x e)).sz+x.sz=c.sz+x.sz:=fun du=>by
  have:=vY (c:=cO c e du) (x:=ez x e) (DW.trans aa);grind[Iq,apb]
 split
 ·split
  ·grind
  split
  ·grind
  rename_i hp;have cd:t.place=0:=by omega
  split
  ·rw[cd]at aa;have a:=vY (c:=cO c e ⟨false,t.place,t.sum,t.bV,t.b7⟩) (x:=told x e (t.b7||x.bl.getD e.toNat false)) (DW.trans aa);rw[Iq,W5]at a;have b:=W3 (c:=setW (cO c e ⟨false,t.place,t.sum,t.bV,t.b7⟩) 0 (told x e (t.b7||x.bl.getD e.toNat false))) (x:=c.news++gf (c.ao.length-1) e (t.b7||x.bl.getD e.toNat false));have d:(setW (cO c e ⟨false,t.place,t.sum,t.bV,t.b7⟩) 0 (told x e (t.b7||x.bl.getD e.toNat false))).news=c.news:=rfl;grind[lH,gf,cp,wZ]
  grind[Iq]
 grind
theorem W7(h:cr c=true):c.ao.length<=4:=by
 obtain⟨h1,U,_⟩:=fe.1 h;have:=ih h1;omega
theorem aor(c:aV)(p:b6):(c7 c p).1.sz<=c.sz+4:=by
 have eb:c.sz<=c.sz+4:=by omega
 unfold c7;split
 ·grind[js,vY,gM,ao6]
 split
 ·grind[jt,vY,gN,ao7]
 split
 ·unfold jc;split
  ·split
   ·rename_i x aa;split
    ·rename_i r t ai;have hu:=W4 ai;unfold r1;split
     ·grind[vY,kept,hI,ao8]
     split
     ·rename_i l aj;split
      ·have a:=Pq (x:=(ei l r).1) aj;have b:=vY (c:=c3 c (dT c.ax p.a (ec r.key c.ax.ao)) (ei l r).1) (x:=lD (hI x t) r.bf.aU) (DV.trans aa);grind[ao9,aon]
      exact eb
     exact eb
    exact eb
   exact eb
  exact eb
 split
 ·unfold jT;split
  ·split
   ·rename_i l x aj aa;split
    ·have a:=Pq (x:=(dF l).1) aj;have b:=vY (c:=c3 c (dT c.ax p.a p.b) (dF l).1) (x:=jY x (dF l).2.1) (DV.trans aa);grind[apa,aoo]
    exact eb
   exact eb
  exact eb
 split
 ·grind[ju,Pq,fK,aop]
 split
 ·unfold ix;split
  ·rename_i al;rw[b9]at al;grind[aoq,W7,dU]
  exact eb
 split
 ·unfold jU;split
  ·rename_i k hk;split
   ·split
    ·rename_i n x aP aa;have a:=vY (x:=ea x n) aa;grind[W3,setW,ea,cutAt,aom,W6]
    exact eb
   exact eb
  exact eb
 exact eb
end Go.Proofs.YtdchjefneblpgaaGreat
namespace Go.Proofs.YtdchjefneblpgaaGreat
open Go.Sx Go.RowKit Go.Proofs.Tryz
theorem aos(l:bC)(r:ay)(h:l.eo<=9223372036854775807):(ei l r).1.eo<=9223372036854775807:=by
 unfold ei;split<;>exact h
theorem aot(l:bC)(h:l.eo<=9223372036854775807):(fK l).1.eo<=9223372036854775807:=by
 unfold fK;split<;>exact h
theorem aou(l:bC)(h:l.eo<=9223372036854775807):(dF l).1.eo<=9223372036854775807:=by
 unfold dF;split
 ·rename_i hk;obtain⟨_,_,_,_,k5,_,mh,_⟩:=pS.1 hk;simp only[aw,cc]at k5;split
  ·exact h
  dsimp only;omega
 exact h
theorem ga.c3{c:aV}{i:Int}{l:bC}(h:ga c)(aj:l.eo<=9223372036854775807):ga (c3 c i l):=by
 intro x aa;rcases iB aa with h1 | rfl
 ·exact h x h1
 exact aj
variable{c:aV}
theorem ga.at{i:Int}{x:bC}(h:eA c i=some x)(hw:ga c):x.eo<=9223372036854775807:=hw _ (cB (hJ h).2.2)
structure oo (c d:aV):Prop where
 ax:d.ax=c.ax
 eo:ga c->ga d
 wS:d.ao.length=c.ao.length
theorem oo.rfl:oo c c:=⟨Eq.refl _,id,Eq.refl _⟩
theorem oo.bQ{d:aV}(h1:d.ax=c.ax)(U:d.bQ=c.bQ)(aA:d.ao.length=c.ao.length:=by simp[setW,gA,cO,c3,told,ez]):oo c d:=⟨h1,fun h x aa=>h x (U▸aa),aA⟩
theorem aov(c:aV)(e:Int)(t:bO)(x:aN):oo c (dB c e t x).1:=by
 unfold dB;split
 ·split
  ·exact .bQ rfl rfl
  split
  ·split
   ·exact .bQ rfl rfl
   exact .rfl
  split
  ·exact .bQ rfl rfl
  exact .bQ rfl rfl
 exact .rfl
theorem Pr(c:aV)(p:b6):oo c (c7 c p).1:=by
 unfold c7;split
 ·unfold js;split
  ·split
   ·exact .bQ rfl rfl
   exact .rfl
  exact .rfl
 split
 ·unfold jt;split
  ·split
   ·exact .bQ rfl rfl
   exact .rfl
  exact .rfl
 split
 ·unfold jc;split
  ·split
   ·split
    ·unfold r1;split
     ·exact .bQ rfl rfl
     split
     ·rename_i l aj;split
      ·exact⟨rfl,fun h=>ga.c3 h (aos l _ (ga.at aj h)),by simp[setW,c3]⟩
      exact .rfl
     exact .rfl
    exact .rfl
   exact .rfl
  exact .rfl
 split
 ·unfold jT;split
  ·split
   ·rename_i l x aj aa;split
    ·exact⟨rfl,fun h=>ga.c3 h (aou l (ga.at aj h)),by simp[setW,c3]⟩
    exact .rfl
   exact .rfl
  exact .rfl
 split
 ·unfold ju;split
  ·split
   ·rename_i l aj;exact⟨rfl,fun h=>ga.c3 h (aot l (ga.at aj h)),by simp[setW,c3]⟩
   exact .rfl
  exact .rfl
 split
 ·unfold ix;split
  ·split
   ·split
    ·exact .rfl
    split
    ·exact aov c _ _ _
    exact .rfl
   exact .rfl
  exact .rfl
 split
 ·unfold jU;split
  ·split
   ·split
    ·exact .bQ rfl rfl
    exact .rfl
   exact .rfl
  exact .rfl
 exact .rfl
theorem An{α:Type}{f:α->List D}{xs:List α}{a:α}:(xs++[a]).map f=xs.map f++[f a]:=by simp
def cE:aV->List b6->aV×List Bool
 | c,[]=>(c,[])
 | c,p::l=>((cE (c7 c p).1 l).1,(c7 c p).2::(cE (c7 c p).1 l).2)
theorem W8(p:b6):∀(l:List b6) (c:aV),cE c (l++[p])=((c7 (cE c l).1 p).1,(cE c l).2++[(c7 (cE c l).1 p).2])
 | [],c=>rfl
 | q::l,c=>by
  have dL:=W8 p l (c7 c q).1;simp only[List.cons_append,cE,dL]
theorem Ps{l:List b6}{i:Nat}{p:b6}(c:aV)(h:l[i]?=some p):cE c (l.take (i+1))=((c7 (cE c (l.take i)).1 p).1,(cE c (l.take i)).2++[(c7 (cE c (l.take i)).1 p).2]):=by
 rw[p6,h,yY,W8]
theorem DX:∀(l:List b6) (c:aV),(cE c l).2.length=l.length
 | [],_=>rfl
 | q::l,c=>by simp only[cE,fO,DX l]
theorem DY:∀(l:List b6) (c:aV),(cE c l).1.sz<=c.sz+4*l.length
 | [],c=>fl _
 | q::l,c=>by
  have:=DY l (c7 c q).1;have:=aor c q;simp only[cE,fO];omega
theorem oo.trans{d e:aV}(h:oo c d)(k:oo d e):oo c e:=⟨k.ax.trans h.ax,fun x=>k.eo (h.eo x),k.wS.trans h.wS⟩
theorem Ao:∀(l:List b6) (c:aV),oo c (cE c l).1
 | [],_=>.rfl
 | q::l,c=>(Pr c q).trans (Ao l _)
theorem DZ{α:Type}(i:Nat)(l:List α):(l.take i).length<=l.length:=by rw[u7];omega
theorem Pt(c:aV)(l:List b6)(i:Nat):(cE c (l.take i)).1.sz<=c.sz+4*l.length:=by
 have:=DY (l.take i) c;have:=DZ i l;omega
def nd(l:List Bool):Nat:=(l.filter id).length
theorem W9(l:List Bool):nd l<=l.length:=l3 _ _
theorem W'(l:List Bool)(b:Bool):nd (l++[b])=nd l+(if b then 1 else 0):=by
 cases b<;>simp[nd]
end Go.Proofs.YtdchjefneblpgaaGreat
namespace Go.Proofs.YtdchjefneblpgaaGreat
open Go.Sx Go.RowKit Go.Proofs.Tryz
inductive Step (c:aV) (p:b6):aV->Prop
 | work (x:aN) (r:ay) (q:List ay) (hk:p.kind=1) (aa:b0 c p.a=some x) (ai:x.cj=[]) (aC:x.queue=r::q):
   Step c p (setW c p.a ⟨q,(dh c.ax x.cells r).2.1,x.bX,(dh c.ax x.cells r).1,x.bP,x.bV,(if b7 c.ax r then x.bl.set r.bf.aU.toNat true else x.bl),x.b1⟩)
 | input (x:aN) (r:ay) (t:List ay) (hk:p.kind=2) (aa:b0 c p.a=some x) (ai:x.cj=[]) (aC:x.queue=[]) (hi:x.bX=r::t):
   Step c p (setW c p.a ⟨[r],[],t,x.cells,x.bP,x.bV,x.bl,x.b1⟩)
 | eU (x:aN) (r:ay) (t:List ay) (hk:p.kind=3) (aa:b0 c p.a=some x) (ai:x.cj=r::t) (aW:ec r.key c.ax.ao=p.a):
   Step c p (setW c p.a (kept (hI x t) r))
 | send (x:aN) (r:ay) (t:List ay) (l:bC) (hk:p.kind=3) (aa:b0 c p.a=some x) (ai:x.cj=r::t) (aW:ec r.key c.ax.ao≠p.a)
   (aj:eA c (dT c.ax p.a (ec r.key c.ax.ao))=some l) (h:(ei l r).2=true):
   Step c p (setW (c3 c (dT c.ax p.a (ec r.key c.ax.ao)) (ei l r).1) p.a (lD (hI x t) r.bf.aU))
 | take (l:bC) (x:aN) (hk:p.kind=4) (dw:p.a≠p.b) (aj:eA c (dT c.ax p.a p.b)=some l) (aa:b0 c p.b=some x) (h:(dF l).2.2=true):
   Step c p (setW (c3 c (dT c.ax p.a p.b) (dF l).1) p.b (jY x (dF l).2.1))
 | qb (l:bC) (hk:p.kind=5) (dw:p.a≠p.b) (aj:eA c (dT c.ax p.a p.b)=some l) (h:(fK l).2=true):
   Step c p (c3 c (dT c.ax p.a p.b) (fK l).1)
 | token (t:bO) (x cv:aN) (hk:p.kind=6) (he:aw p.a 0 3=true) (bE:b0 c 0=some cv) (aF:eC cv p.a=false) (bG:h4 c p.a=some t) (aa:b0 c t.place=some x) (h:(dB c p.a t x).2=true):
   Step c p (dB c p.a t x).1
 | qm (k:Nat) (n:bW) (x:aN) (hk:p.kind=7) (aP:c.news[k]?=some n) (aF:n.dest=p.a) (aa:b0 c p.a=some x):
   Step c p (gA (setW c p.a (ea x n)) (cutAt c.news k))
theorem aow(g:bF)(w:aN):((gM g w).2=false/\(gM g w).1=w)\/
  ((gM g w).2=true/\∃r q,w.cj=[]/\w.queue=r::q/\(gM g w).1=⟨q,(dh g w.cells r).2.1,w.bX,(dh g w.cells r).1,w.bP,w.bV,(if b7 g r then w.bl.set r.bf.aU.toNat true else w.bl),w.b1⟩):=by
 grind[gM]
theorem aox(g:bF)(w:aN):((gN g w).2=false/\(gN g w).1=w)\/
  ((gN g w).2=true/\∃r t,w.cj=[]/\w.queue=[]/\w.bX=r::t/\(gN g w).1=⟨[r],[],t,w.cells,w.bP,w.bV,w.bl,w.b1⟩):=by
 grind[gN]
theorem Ap{l:bC}{r:ay}(h:(ei l r).2=true):jr l=true/\l.fb≠0/\l.eG<1000000000/\(ei l r).1=⟨l.cap,l.queue++[r],l.fb-1,l.back,l.eG+1,l.eo⟩:=by
 unfold ei at h ⊢;grind
theorem vZ{l:bC}(h:(dF l).2.2=true):jr l=true/\∃r q,l.queue=r::q/\(dF l).2.1=r/\(dF l).1=⟨l.cap,q,l.fb,l.back+1,l.eG,l.eo+1⟩:=by
 unfold dF at h ⊢;grind
theorem v7(l:bC):((fK l).2=false/\(fK l).1=l)\/((fK l).2=true/\jr l=true/\l.back≠0/\(fK l).1=⟨l.cap,l.queue,l.fb+1,l.back-1,l.eG,l.eo⟩):=by
 unfold fK;grind
theorem pT (c : aV) (e : Int) (t : bO) (x : aN) : ((dB c e t x).2 = false /\ (dB c e t x).1 = c) \/ ((dB c e t x).2 = true /\ kH x e = true /\
    ((t.going = false /\ (dB c e t x).1 = setW (cO c e ⟨true, (c.ao.length : Int) - 1, 0, false, x.bl.getD e.toNat false⟩) t.place (ez x e)) \/
     (t.going = true /\ 0 < t.place /\ (dB c e t x).1 = setW (cO c e ⟨true, t.place - 1, t.sum + x.bP.getD e.toNat 0, t.bV || x.bV.getD e.toNat false, t.b7 || x.bl.getD e.toNat false⟩) t.place (ez x e)) \/
     (t.going = true /\ ¬ 0 < t.place /\ (t.bV = false /\ x.bV.getD e.toNat false = false /\ t.sum + x.bP.getD e.toNat 0 = 0) /\
       (dB c e t x).1 = gA (setW (cO c e ⟨false, t.place, t.sum, t.bV, t.b7⟩) 0 (told x e (t.b7 || x.bl.getD e.toNat false))) (c.news ++ gf (c.ao.length - 1) e (t.b7 || x.bl.getD e.toNat false))) \/
     (t.going = true /\ ¬ 0 < t.place /\ ¬ (t.bV = false /\ x.bV.getD e.toNat false = false /\ t.sum + x.bP.getD e.toNat 0 = 0) /\ (dB c e t x).1 = cO c e ⟨false, t.place, t.sum, t.bV, t.b7⟩))) := by
  unfold dB;split
  case isFalse => grind
  rename_i hp;cases ar : t.going with
  | false => grind
  | true =>
    rw [bq (by simp)];split
    · grind
    grind
theorem v8(c:aV)(p:b6):((c7 c p).2=false/\(c7 c p).1=c)\/(cr c=true/\(c7 c p).2=true/\Step c p (c7 c p).1):=by
 unfold c7;split
 ·rename_i hk;unfold js;split
  case isFalse=>grind
  rename_i bI;cases aa:b0 c p.a with
  | none=>grind
  | some x=>
   rcases aow c.ax x with⟨h1,U⟩ | ⟨h1,r,q,ai,aC,U⟩
   ·grind[uP]
   refine .inr ⟨bI,h1,?_⟩;dsimp only;rw[U];exact .work x r q hk aa ai aC
 split
 ·rename_i hk;unfold jt;split
  case isFalse=>grind
  rename_i bI;cases aa:b0 c p.a with
  | none=>grind
  | some x=>
   rcases aox c.ax x with⟨h1,U⟩ | ⟨h1,r,t,ai,aC,hi,U⟩
   ·grind[uP]
   refine .inr ⟨bI,h1,?_⟩;dsimp only;rw[U];exact .input x r t hk aa ai aC hi
 split
 ·rename_i hk;unfold jc;split
  case isFalse=>grind
  rename_i bI;cases aa:b0 c p.a with
  | none=>grind
  | some x=>
   dsimp only;cases ai:x.cj with
   | nil=>grind
   | cons r t=>
    dsimp only;unfold r1;split
    ·rename_i aW;exact .inr ⟨bI,rfl,.eU x r t hk aa ai aW⟩
    rename_i aW;cases aj:eA c (dT c.ax p.a (ec r.key c.ax.ao)) with
    | none=>grind
    | some l=>
     dsimp only;split
     ·rename_i h;exact .inr ⟨bI,rfl,.send x r t l hk aa ai aW aj h⟩
     grind
 split
 ·rename_i hk;unfold jT;split
  case isFalse=>grind
  rename_i al;simp only[b9,bne_iff_ne,lc]at al;cases aj:eA c (dT c.ax p.a p.b) with
  | none=>grind
  | some l=>
   cases aa:b0 c p.b with
   | none=>grind
   | some x=>
    dsimp only;split
    ·rename_i h;exact .inr ⟨al.1,rfl,.take l x hk al.2 aj aa h⟩
    grind
 split
 ·rename_i hk;unfold ju;split
  case isFalse=>grind
  rename_i al;simp only[b9,bne_iff_ne,lc]at al;cases aj:eA c (dT c.ax p.a p.b) with
  | none=>grind
  | some l=>
   rcases v7 l with⟨h1,U⟩ | ⟨h1,_⟩
   ·grind[anh]
   exact .inr ⟨al.1,h1,.qb l hk al.2 aj h1⟩
 split
 ·rename_i hk;unfold ix;split
  case isFalse=>grind
  rename_i al;simp only[b9]at al;cases bE:b0 c 0 with
  | none=>grind
  | some cv=>
   cases bG:h4 c p.a with
   | none=>grind
   | some t=>
    dsimp only;cases aF:eC cv p.a with
    | true=>grind
    | false=>
     rw[bq (by simp)];cases aa:b0 c t.place with
     | none=>grind
     | some x=>
      dsimp only;rcases pT c p.a t x with h1 | ⟨h1,_⟩
      ·exact .inl h1
      exact .inr ⟨al.1,h1,.token t x cv hk al.2 bE aF bG aa h1⟩
 split
 ·rename_i hk;unfold jU;cases br:c.news.findIdx? (fun n=>n.dest==p.a) with
  | none=>grind
  | some k=>
   dsimp only;split
   case isFalse=>grind
   rename_i bI;cases aP:c.news[k]? with
   | none=>grind
   | some n=>
    cases aa:b0 c p.a with
    | none=>grind
    | some x=>
     dsimp only;have aF:n.dest=p.a:=by
      have:=u6.1 br;grind
     exact .inr ⟨bI,rfl,.qm k n x hk aP aF aa⟩
 grind
theorem aoy{c:aV}{p:b6}(h:(c7 c p).2=false):(c7 c p).1=c:=by
 grind[v8]
end Go.Proofs.YtdchjefneblpgaaGreat
namespace Go.Proofs.YtdchjefneblpgaaGreat
open Go.Sx Go.RowKit Go.Sort Go.Proofs.Tryz
def da{α:Type}(f:α->Nat)(xs:List α):Nat:=(xs.map f).sum
theorem Ir{α:Type}{f:α->Nat}{y:α}(x:α){xs:List α}{i:Nat}(h:xs[i]?=some y):da f (xs.set i x)+f y=da f xs+f x:=by
 have:=Am (sz:=f) x h;simp only[fZ,iN]at this;unfold da;omega
