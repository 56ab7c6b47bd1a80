import Derived.Test.YtdchjefneblpgaaGreatP21
set_option linter.unusedVariables false
set_option linter.unusedSimpArgs false
namespace Go.Proofs.YtdchjefneblpgaaGreat
open Go.Sx Go.RowKit Go.Proofs.Tryz
variable{c:bd}
theorem lL(h:c.sz<=8388608):c.aF.sz<=8388608:=by simp only[bd.sz]at h;omega
theorem Sw(h:c.sz<=8388608):c.tokens.length<=8388608:=by simp only[bd.sz,fb]at h;omega
theorem DZ(h:c.sz<=8388608):c.news.length<=8388608:=by simp only[bd.sz,fb]at h;omega
def jn(g:bX)(i:Nat)(l:bD):Bool:=
 !jm l||((l.cap != g.cap)||(!fQ g l.queue||((i:Int).tdiv g.az==(i:Int).tmod g.az&&decide ((l.queue.length:Int)>0))))
def kz(n:Int)(t:b0):Bool:=!ap t.place 0 (n-1)||((!t.going&&t.place != 0)||!ap t.sum (-1000000) 1000000)
def kA(n:Int)(x:ca):Bool:=!ap x.dest 0 (n-1)||!ap x.bc 0 3
def cQ(c:bd):Bool:=
 eg c.aF&&(((c.az.length:Int)==c.aF.az)&&(((c.bZ.length:Int)==c.aF.az*c.aF.az)&&((c.tokens.length==4)&&(!(c.az.any fun w=>!eF c.aF w)&&(!(anyI (jn c.aF) 0 c.bZ)&&(!(c.tokens.any (kz c.aF.az))&&!(c.news.any (kA c.aF.az))))))))
theorem nV{g:bX}(h:eg g=true):1<=g.az/\g.az<=4:=by
 simp only[eg,cx,ap,cU]at h;omega
theorem xG(i:Nat)(n:Int)(hi:i<=8388608)(aW:1<=n):ay .i64 ((i:Int).tdiv n):=by
 have h1:0<=(i:Int).tdiv n:=Int.tdiv_nonneg (by omega) (by omega);have U:(i:Int).tdiv n<=(i:Int):=Int.tdiv_le_self _ (by omega);exact⟨by omega,by omega⟩
theorem adz(h:c.wf){l:bD}(al:l∈c.bZ):l.du<=9223372036854775807:=by
 have:=(bd.Hw h al).M7;simp only[ay]at this;exact this.2
def gA(c:bd):Prop:=∀l∈c.bZ,l.du<=9223372036854775807
theorem gA.of(h:c.wf):gA c:=fun _ al=>adz h al
theorem adA(c:bd)(ai:c.sz<=8388608)(aW:(c.az.length:Int)=c.aF.az):
  ((c.az.any fun w=>!eF c.aF w)=false/\c3 prog (aq f56 0) (rX (c.aF.nodes.map Node.e) c.aF.az c.aF.cap (c.az.map aS.e) (c.bZ.map bD.e) (c.tokens.map b0.e) (c.news.map ca.e) 0) (.exit 0) (HR (c.aF.nodes.map Node.e) c.aF.az c.aF.cap (c.az.map aS.e) (c.bZ.map bD.e) (c.tokens.map b0.e) (c.news.map ca.e)))\/
  ((c.az.any fun w=>!eF c.aF w)=true/\c3 prog (aq f56 0) (rX (c.aF.nodes.map Node.e) c.aF.az c.aF.cap (c.az.map aS.e) (c.bZ.map bD.e) (c.tokens.map b0.e) (c.news.map ca.e) 0) .ret (CX false)):=by
 have al:=bd.AP ai;have l:=gN (P:=prog) (c:=(aq f56 0)) c.az (fun w=>!eF c.aF w) (fun i=>rX (c.aF.nodes.map Node.e) c.aF.az c.aF.cap (c.az.map aS.e) (c.bZ.map bD.e) (c.tokens.map b0.e) (c.news.map ca.e) i) (X:=fun _ _=>CX false) fg (cM 0)
  (fun i a ah h=>by
   have k:=DW c.aF a (lL ai) (bd.Et ai (eA ah));rw[show eF c.aF a=true by simpa using h]at k;exact ZZ ⟨dW (by have:=a8 ah;omega),bF,bI (a8 ah),bG aS.e ah,k,rfl,df (a8 ah) al,aa⟩)
  (fun i a ah h=>by
   have k:=DW c.aF a (lL ai) (bd.Et ai (eA ah));rw[show eF c.aF a=false by simpa using h]at k;exact ZY ⟨dW (by have:=a8 ah;omega),bF,bI (a8 ah),bG aS.e ah,k,rfl,aa⟩)
  (Z0 ⟨eT (by omega),aa⟩)
 rcases l with⟨_,_,h1,U⟩ | ⟨_,_,_,_,_,_,h1,U⟩
 ·exact .inl ⟨h1,U⟩
 exact .inr ⟨h1,U⟩
theorem adB(c:bd)(ai:c.sz<=8388608)(hw:gA c)(aW:1<=c.aF.az):
  (anyI (jn c.aF) 0 c.bZ=false/\c3 prog (aq f56 1) (lq c.aF.az 0 (c.aF.nodes.map Node.e) c.aF.az c.aF.cap (c.az.map aS.e) (c.bZ.map bD.e) (c.tokens.map b0.e) (c.news.map ca.e)) (.exit 2) (Ao c.aF.az (c.aF.nodes.map Node.e) c.aF.az c.aF.cap (c.az.map aS.e) (c.bZ.map bD.e) (c.tokens.map b0.e) (c.news.map ca.e)))\/
  (anyI (jn c.aF) 0 c.bZ=true/\c3 prog (aq f56 1) (lq c.aF.az 0 (c.aF.nodes.map Node.e) c.aF.az c.aF.cap (c.az.map aS.e) (c.bZ.map bD.e) (c.tokens.map b0.e) (c.news.map ca.e)) .ret (xD false)):=by
 have al:=bd.Cw ai;have lU:∀(i:Nat) (a:bD),c.bZ[i]?=some a->∀r,jm a=r->av 191 [.agg a.e] [.one (B r)]:=fun i a ah r h=>h▸DT a (bd.Cv ai (eA ah))
 have gF:∀(i:Nat) (a:bD),c.bZ[i]?=some a->∀r,fQ c.aF a.queue=r->av 192 [.agg c.aF.e,.one (.J 5 (a.queue.map aG.e))] [.one (B r)]:=fun i a ah r h=>vh c.aF _ r h (lL ai) (bd.Cv ai (eA ah))
 exact tw (P:=prog) (c:=(aq f56 1)) c.bZ (jn c.aF) (fun i=>lq c.aF.az i (c.aF.nodes.map Node.e) c.aF.az c.aF.cap (c.az.map aS.e) (c.bZ.map bD.e) (c.tokens.map b0.e) (c.news.map ca.e)) fg (cM 2)
  (fun i a ah h=>by
   have hi:=a8 ah;simp only[jn,gz,kF]at h;obtain⟨h1,U,aw,aH⟩:=h;cases aU:((i:Int).tdiv c.aF.az==(i:Int).tmod c.aF.az) with
   | true=>
    rw[aU,oW]at aH;exact aby ⟨b' (a8 ah),bF,bI (a8 ah),bG bD.e ah,lU i a ah _ h1,rfl,U,gF i a ah _ aw,rfl,by omega,xG i _ (by omega) aW,by omega,aU,by rw[bk];exact aH,df hi al,aa⟩
   | false=>exact abz ⟨b' (a8 ah),bF,bI (a8 ah),bG bD.e ah,lU i a ah _ h1,rfl,U,gF i a ah _ aw,rfl,by omega,xG i _ (by omega) aW,by omega,aU,df hi al,aa⟩)
  (fun i a ah h=>by
   have hi:=a8 ah;cases h1:jm a with
   | false=>exact abu ⟨b' (a8 ah),bF,bI (a8 ah),bG bD.e ah,lU i a ah _ h1,rfl,aa⟩
   | true=>
   cases U:(a.cap != c.aF.cap) with
   | true=>exact abv ⟨b' (a8 ah),bF,bI (a8 ah),bG bD.e ah,lU i a ah _ h1,rfl,U,aa⟩
   | false=>
   cases aw:fQ c.aF a.queue with
   | false=>exact abw ⟨b' (a8 ah),bF,bI (a8 ah),bG bD.e ah,lU i a ah _ h1,rfl,U,gF i a ah _ aw,rfl,aa⟩
   | true=>
   simp only[jn,h1,U,aw,iW,jT,cx]at h;exact abx ⟨b' (a8 ah),bF,bI (a8 ah),bG bD.e ah,lU i a ah _ h1,rfl,U,gF i a ah _ aw,rfl,by omega,xG i _ (by omega) aW,by omega,h.1,by rw[bk];exact h.2,aa⟩)
  (abA ⟨dG,aa⟩)
theorem adC(c:bd)(ai:c.sz<=8388608)(aW:1<=c.aF.az/\c.aF.az<=4):
  ((c.tokens.any (kz c.aF.az))=false/\c3 prog (aq f56 2) (l6 c.aF.az (c.aF.nodes.map Node.e) c.aF.az c.aF.cap (c.az.map aS.e) (c.bZ.map bD.e) (c.tokens.map b0.e) (c.news.map ca.e) 0) (.exit 4) (CY c.aF.az (c.aF.nodes.map Node.e) c.aF.az c.aF.cap (c.az.map aS.e) (c.bZ.map bD.e) (c.tokens.map b0.e) (c.news.map ca.e)))\/
  ((c.tokens.any (kz c.aF.az))=true/\c3 prog (aq f56 2) (l6 c.aF.az (c.aF.nodes.map Node.e) c.aF.az c.aF.cap (c.az.map aS.e) (c.bZ.map bD.e) (c.tokens.map b0.e) (c.news.map ca.e) 0) .ret (vf false)):=by
 have al:=Sw ai;have l:=gN (P:=prog) (c:=(aq f56 2)) c.tokens (kz c.aF.az) (fun i=>l6 c.aF.az (c.aF.nodes.map Node.e) c.aF.az c.aF.cap (c.az.map aS.e) (c.bZ.map bD.e) (c.tokens.map b0.e) (c.news.map ca.e) i) (X:=fun _ _=>vf false) fg (cM 4)
  (fun i a ah h=>by
   have hi:=a8 ah;simp only[kz,gz,kF]at h;obtain⟨h1,U,aw⟩:=h;cases au:a.going with
   | false=>
    rw[au,n1,oW]at U;exact abF ⟨b' (a8 ah),bF,bI (a8 ah),bG b0.e ah,⟨by omega,by omega⟩,fz true h1,rfl,bF,bI (a8 ah),bG b0.e ah,by rw[au];rfl,bF,bI (a8 ah),bG b0.e ah,U,bF,bI (a8 ah),bG b0.e ah,fz true aw,rfl,df hi al,aa⟩
   | true=>exact abH ⟨b' (a8 ah),bF,bI (a8 ah),bG b0.e ah,⟨by omega,by omega⟩,fz true h1,rfl,bF,bI (a8 ah),bG b0.e ah,by rw[au];rfl,bF,bI (a8 ah),bG b0.e ah,fz true aw,rfl,df hi al,aa⟩)
  (fun i a ah h=>by
   have hi:=a8 ah;cases h1:ap a.place 0 (c.aF.az-1) with
   | false=>exact abC ⟨b' (a8 ah),bF,bI (a8 ah),bG b0.e ah,⟨by omega,by omega⟩,fz false h1,rfl,aa⟩
   | true=>
   simp only[kz,h1,iW,jT]at h;cases au:a.going with
   | false=>
    rw[au,n1,oW]at h;cases U:(a.place != 0) with
    | true=>exact abD ⟨b' (a8 ah),bF,bI (a8 ah),bG b0.e ah,⟨by omega,by omega⟩,fz true h1,rfl,bF,bI (a8 ah),bG b0.e ah,by rw[au];rfl,bF,bI (a8 ah),bG b0.e ah,U,aa⟩
    | false=>
     rw[U,jT]at h;exact abE ⟨b' (a8 ah),bF,bI (a8 ah),bG b0.e ah,⟨by omega,by omega⟩,fz true h1,rfl,bF,bI (a8 ah),bG b0.e ah,by rw[au];rfl,bF,bI (a8 ah),bG b0.e ah,U,bF,bI (a8 ah),bG b0.e ah,fz false (by simpa using h),rfl,aa⟩
   | true=>
    rw[au,iW,Bool.false_and,jT]at h;exact abG ⟨b' (a8 ah),bF,bI (a8 ah),bG b0.e ah,⟨by omega,by omega⟩,fz true h1,rfl,bF,bI (a8 ah),bG b0.e ah,by rw[au];rfl,bF,bI (a8 ah),bG b0.e ah,fz false (by simpa using h),rfl,aa⟩)
  (abI ⟨dG,aa⟩)
 rcases l with⟨_,_,h1,U⟩ | ⟨_,_,_,_,_,_,h1,U⟩
 ·exact .inl ⟨h1,U⟩
 exact .inr ⟨h1,U⟩
theorem adD(c:bd)(ai:c.sz<=8388608)(aW:1<=c.aF.az/\c.aF.az<=4):
  ((c.news.any (kA c.aF.az))=false/\c3 prog (aq f56 3) (qE c.aF.az (c.aF.nodes.map Node.e) c.aF.az c.aF.cap (c.az.map aS.e) (c.bZ.map bD.e) (c.tokens.map b0.e) (c.news.map ca.e) 0) (.exit 6) JY)\/
  ((c.news.any (kA c.aF.az))=true/\c3 prog (aq f56 3) (qE c.aF.az (c.aF.nodes.map Node.e) c.aF.az c.aF.cap (c.az.map aS.e) (c.bZ.map bD.e) (c.tokens.map b0.e) (c.news.map ca.e) 0) .ret (Ap false)):=by
 have al:=DZ ai;have l:=gN (P:=prog) (c:=(aq f56 3)) c.news (kA c.aF.az) (fun i=>qE c.aF.az (c.aF.nodes.map Node.e) c.aF.az c.aF.cap (c.az.map aS.e) (c.bZ.map bD.e) (c.tokens.map b0.e) (c.news.map ca.e) i) (X:=fun _ _=>Ap false) fg (cM 6)
  (fun i a ah h=>by
   have hi:=a8 ah;simp only[kA,gz,kF]at h;exact abM ⟨b' (a8 ah),bF,bI (a8 ah),bG ca.e ah,⟨by omega,by omega⟩,fz true h.1,rfl,bF,bI (a8 ah),bG ca.e ah,fz true h.2,rfl,df hi al,aa⟩)
  (fun i a ah h=>by
   have hi:=a8 ah;cases h1:ap a.dest 0 (c.aF.az-1) with
   | false=>exact abK ⟨b' (a8 ah),bF,bI (a8 ah),bG ca.e ah,⟨by omega,by omega⟩,fz false h1,rfl,aa⟩
   | true=>
    simp only[kA,h1,iW,jT]at h;exact abL ⟨b' (a8 ah),bF,bI (a8 ah),bG ca.e ah,⟨by omega,by omega⟩,fz true h1,rfl,bF,bI (a8 ah),bG ca.e ah,fz false (by simpa using h),rfl,aa⟩)
  (abN ⟨dG,aa⟩)
 rcases l with⟨_,_,h1,U⟩ | ⟨_,_,_,_,_,_,h1,U⟩
 ·exact .inl ⟨h1,U⟩
 exact .inr ⟨h1,U⟩
theorem adE(c:bd)(ai:c.sz<=8388608)(hw:gA c):av 56 [.agg c.e] [.one (B (cQ c))]:=by
 have au:=xB c.aF (lL ai);unfold cQ;cases h1:eg c.aF with
 | false=>rw[h1]at au;exact ZU ⟨au,rfl,aa⟩
 | true=>
 rw[h1]at au;have aW:=nV h1;have aE:ay .i64 (c.aF.az*c.aF.az):=by
  have aw:c.aF.az=1\/c.aF.az=2\/c.aF.az=3\/c.aF.az=4:=by omega
  rcases aw with aw | aw | aw | aw<;>(rw[aw];exact⟨by decide,by decide⟩)
 cases U:((c.az.length:Int)==c.aF.az) with
 | false=>exact ZV ⟨au,rfl,by rw[bk];simpa using U,aa⟩
 | true=>
 have v2:((↑(c.az.map aS.e).length:Int) != c.aF.az)=false:=by rw[bk];simpa using U
 cases aw:((c.bZ.length:Int)==c.aF.az*c.aF.az) with
 | false=>exact ZW ⟨au,rfl,v2,aE,by rw[bk];simpa using aw,aa⟩
 | true=>
 have v3:((↑(c.bZ.map bD.e).length:Int) != c.aF.az*c.aF.az)=false:=by rw[bk];simpa using aw
 cases aH:(c.tokens.length==4) with
 | false=>exact ZX ⟨au,rfl,v2,aE,v3,s0 aH,aa⟩
 | true=>
 rcases adA c ai (eq_of_beq U) with⟨aU,nC⟩ | ⟨aU,nC⟩
 case inr=>rw[aU];exact Z1 ⟨au,rfl,v2,aE,v3,fB aH,nC,aa⟩
 rw[aU];rcases adB c ai hw aW.1 with⟨bA,pE⟩ | ⟨bA,pE⟩
 case inr=>rw[bA];exact abB ⟨au,rfl,v2,aE,v3,fB aH,nC,pE,aa⟩
 rw[bA];rcases adC c ai aW with⟨bP,rQ⟩ | ⟨bP,rQ⟩
 case inr=>rw[bP];exact abJ ⟨au,rfl,v2,aE,v3,fB aH,nC,pE,rQ,aa⟩
 rw[bP];rcases adD c ai aW with⟨c',ji⟩ | ⟨c',ji⟩
 ·rw[c'];exact abP ⟨au,rfl,v2,aE,v3,fB aH,nC,pE,rQ,ji,aa⟩
 rw[c'];exact abO ⟨au,rfl,v2,aE,v3,fB aH,nC,pE,rQ,ji,aa⟩
theorem adF(c:bd)(ai:c.sz<=8388608)(aW:(c.az.length:Int)=c.aF.az):
  ((c.az.any fun w=>!eF c.aF w)=false/\c3 prog (aq f55 0) (rY c.aF.az (c.az.map aS.e) 0 (c.aF.nodes.map Node.e) c.aF.az c.aF.cap (c.az.map aS.e) (c.bZ.map bD.e) (c.tokens.map b0.e) (c.news.map ca.e)) (.exit 0) (HS c.aF.az (c.aF.nodes.map Node.e) c.aF.az c.aF.cap (c.az.map aS.e) (c.bZ.map bD.e) (c.tokens.map b0.e) (c.news.map ca.e)))\/
  ((c.az.any fun w=>!eF c.aF w)=true/\c3 prog (aq f55 0) (rY c.aF.az (c.az.map aS.e) 0 (c.aF.nodes.map Node.e) c.aF.az c.aF.cap (c.az.map aS.e) (c.bZ.map bD.e) (c.tokens.map b0.e) (c.news.map ca.e)) .ret (CZ false)):=by
 have al:=bd.AP ai;have l:=gN (P:=prog) (c:=(aq f55 0)) c.az (fun w=>!eF c.aF w) (fun i=>rY c.aF.az (c.az.map aS.e) i (c.aF.nodes.map Node.e) c.aF.az c.aF.cap (c.az.map aS.e) (c.bZ.map bD.e) (c.tokens.map b0.e) (c.news.map ca.e)) (X:=fun _ _=>CZ false) fg (cM 0)
  (fun i a ah h=>by
   have k:=DX c.aF a (lL ai) (bd.Et ai (eA ah));rw[show eF c.aF a=true by simpa using h]at k;exact aa3 ⟨b' (a8 ah),bF,bI (a8 ah),bG aS.e ah,k,rfl,df (a8 ah) al,aa⟩)
  (fun i a ah h=>by
   have k:=DX c.aF a (lL ai) (bd.Et ai (eA ah));rw[show eF c.aF a=false by simpa using h]at k;exact aa2 ⟨b' (a8 ah),bF,bI (a8 ah),bG aS.e ah,k,rfl,aa⟩)
  (aa4 ⟨dG,aa⟩)
 rcases l with⟨_,_,h1,U⟩ | ⟨_,_,_,_,_,_,h1,U⟩
 ·exact .inl ⟨h1,U⟩
 exact .inr ⟨h1,U⟩
theorem adG(c:bd)(ai:c.sz<=8388608)(hw:gA c)(aW:1<=c.aF.az):
  (anyI (jn c.aF) 0 c.bZ=false/\c3 prog (aq f55 1) (lr c.aF.az (c.bZ.map bD.e) 0 (c.aF.nodes.map Node.e) c.aF.az c.aF.cap (c.az.map aS.e) (c.bZ.map bD.e) (c.tokens.map b0.e) (c.news.map ca.e)) (.exit 2) (Aq c.aF.az (c.aF.nodes.map Node.e) c.aF.az c.aF.cap (c.az.map aS.e) (c.bZ.map bD.e) (c.tokens.map b0.e) (c.news.map ca.e)))\/
  (anyI (jn c.aF) 0 c.bZ=true/\c3 prog (aq f55 1) (lr c.aF.az (c.bZ.map bD.e) 0 (c.aF.nodes.map Node.e) c.aF.az c.aF.cap (c.az.map aS.e) (c.bZ.map bD.e) (c.tokens.map b0.e) (c.news.map ca.e)) .ret (xE false)):=by
 have al:=bd.Cw ai;have lU:∀(i:Nat) (a:bD),c.bZ[i]?=some a->∀r,jm a=r->av 188 [.agg a.e] [.one (B r)]:=fun i a ah r h=>h▸aaY a (bd.Cv ai (eA ah)) (hw _ (eA ah))
 have gF:∀(i:Nat) (a:bD),c.bZ[i]?=some a->∀r,fQ c.aF a.queue=r->av 189 [.agg c.aF.e,.one (.J 5 (a.queue.map aG.e))] [.one (B r)]:=fun i a ah r h=>vi c.aF _ r h (lL ai) (bd.Cv ai (eA ah))
 exact tw (P:=prog) (c:=(aq f55 1)) c.bZ (jn c.aF) (fun i=>lr c.aF.az (c.bZ.map bD.e) i (c.aF.nodes.map Node.e) c.aF.az c.aF.cap (c.az.map aS.e) (c.bZ.map bD.e) (c.tokens.map b0.e) (c.news.map ca.e)) fg (cM 2)
  (fun i a ah h=>by
   have hi:=a8 ah;simp only[jn,gz,kF]at h;obtain⟨h1,U,aw,aH⟩:=h;cases aU:((i:Int).tdiv c.aF.az==(i:Int).tmod c.aF.az) with
   | true=>
    rw[aU,oW]at aH;exact aba ⟨b' (a8 ah),bF,bI (a8 ah),bG bD.e ah,lU i a ah _ h1,rfl,U,gF i a ah _ aw,rfl,by omega,xG i _ (by omega) aW,by omega,aU,by rw[bk];exact aH,df hi al,aa⟩
   | false=>exact abb ⟨b' (a8 ah),bF,bI (a8 ah),bG bD.e ah,lU i a ah _ h1,rfl,U,gF i a ah _ aw,rfl,by omega,xG i _ (by omega) aW,by omega,aU,df hi al,aa⟩)
  (fun i a ah h=>by
   have hi:=a8 ah;cases h1:jm a with
   | false=>exact aa6 ⟨b' (a8 ah),bF,bI (a8 ah),bG bD.e ah,lU i a ah _ h1,rfl,aa⟩
   | true=>
   cases U:(a.cap != c.aF.cap) with
   | true=>exact aa7 ⟨b' (a8 ah),bF,bI (a8 ah),bG bD.e ah,lU i a ah _ h1,rfl,U,aa⟩
   | false=>
   cases aw:fQ c.aF a.queue with
   | false=>exact aa8 ⟨b' (a8 ah),bF,bI (a8 ah),bG bD.e ah,lU i a ah _ h1,rfl,U,gF i a ah _ aw,rfl,aa⟩
   | true=>
   simp only[jn,h1,U,aw,iW,jT,cx]at h;exact aa9 ⟨b' (a8 ah),bF,bI (a8 ah),bG bD.e ah,lU i a ah _ h1,rfl,U,gF i a ah _ aw,rfl,by omega,xG i _ (by omega) aW,by omega,h.1,by rw[bk];exact h.2,aa⟩)
  (abd ⟨dG,aa⟩)
theorem adH(c:bd)(ai:c.sz<=8388608)(aW:1<=c.aF.az/\c.aF.az<=4):
  ((c.tokens.any (kz c.aF.az))=false/\c3 prog (aq f55 2) (l7 c.aF.az (c.tokens.map b0.e) 0 (c.aF.nodes.map Node.e) c.aF.az c.aF.cap (c.az.map aS.e) (c.bZ.map bD.e) (c.tokens.map b0.e) (c.news.map ca.e)) (.exit 4) (C0 c.aF.az (c.aF.nodes.map Node.e) c.aF.az c.aF.cap (c.az.map aS.e) (c.bZ.map bD.e) (c.tokens.map b0.e) (c.news.map ca.e)))\/
  ((c.tokens.any (kz c.aF.az))=true/\c3 prog (aq f55 2) (l7 c.aF.az (c.tokens.map b0.e) 0 (c.aF.nodes.map Node.e) c.aF.az c.aF.cap (c.az.map aS.e) (c.bZ.map bD.e) (c.tokens.map b0.e) (c.news.map ca.e)) .ret (vg false)):=by
 have al:=Sw ai;have l:=gN (P:=prog) (c:=(aq f55 2)) c.tokens (kz c.aF.az) (fun i=>l7 c.aF.az (c.tokens.map b0.e) i (c.aF.nodes.map Node.e) c.aF.az c.aF.cap (c.az.map aS.e) (c.bZ.map bD.e) (c.tokens.map b0.e) (c.news.map ca.e)) (X:=fun _ _=>vg false) fg (cM 4)
  (fun i a ah h=>by
   have hi:=a8 ah;simp only[kz,gz,kF]at h;obtain⟨h1,U,aw⟩:=h;cases au:a.going with
   | false=>
    rw[au,n1,oW]at U;exact abi ⟨b' (a8 ah),bF,bI (a8 ah),bG b0.e ah,⟨by omega,by omega⟩,ix true h1,rfl,by rw[au];rfl,U,ix true aw,rfl,df hi al,aa⟩
   | true=>exact abk ⟨b' (a8 ah),bF,bI (a8 ah),bG b0.e ah,⟨by omega,by omega⟩,ix true h1,rfl,by rw[au];rfl,ix true aw,rfl,df hi al,aa⟩)
  (fun i a ah h=>by
   have hi:=a8 ah;cases h1:ap a.place 0 (c.aF.az-1) with
   | false=>exact abf ⟨b' (a8 ah),bF,bI (a8 ah),bG b0.e ah,⟨by omega,by omega⟩,ix false h1,rfl,aa⟩
   | true=>
   simp only[kz,h1,iW,jT]at h;cases au:a.going with
   | false=>
    rw[au,n1,oW]at h;cases U:(a.place != 0) with
    | true=>exact abg ⟨b' (a8 ah),bF,bI (a8 ah),bG b0.e ah,⟨by omega,by omega⟩,ix true h1,rfl,by rw[au];rfl,U,aa⟩
    | false=>
     rw[U,jT]at h;exact abh ⟨b' (a8 ah),bF,bI (a8 ah),bG b0.e ah,⟨by omega,by omega⟩,ix true h1,rfl,by rw[au];rfl,U,ix false (by simpa using h),rfl,aa⟩
   | true=>
    rw[au,iW,Bool.false_and,jT]at h;exact abj ⟨b' (a8 ah),bF,bI (a8 ah),bG b0.e ah,⟨by omega,by omega⟩,ix true h1,rfl,by rw[au];rfl,ix false (by simpa using h),rfl,aa⟩)
  (abl ⟨dG,aa⟩)
 rcases l with⟨_,_,h1,U⟩ | ⟨_,_,_,_,_,_,h1,U⟩
 ·exact .inl ⟨h1,U⟩
 exact .inr ⟨h1,U⟩
theorem adI(c:bd)(ai:c.sz<=8388608)(aW:1<=c.aF.az/\c.aF.az<=4):
  ((c.news.any (kA c.aF.az))=false/\c3 prog (aq f55 3) (qF c.aF.az (c.news.map ca.e) 0) (.exit 6) JZ)\/
  ((c.news.any (kA c.aF.az))=true/\c3 prog (aq f55 3) (qF c.aF.az (c.news.map ca.e) 0) .ret (Ar false)):=by
 have al:=DZ ai;have l:=gN (P:=prog) (c:=(aq f55 3)) c.news (kA c.aF.az) (fun i=>qF c.aF.az (c.news.map ca.e) i) (X:=fun _ _=>Ar false) fg (cM 6)
  (fun i a ah h=>by
   have hi:=a8 ah;simp only[kA,gz,kF]at h;exact abp ⟨b' (a8 ah),bF,bI (a8 ah),bG ca.e ah,⟨by omega,by omega⟩,ix true h.1,rfl,ix true h.2,rfl,df hi al,aa⟩)
  (fun i a ah h=>by
   have hi:=a8 ah;cases h1:ap a.dest 0 (c.aF.az-1) with
   | false=>exact abn ⟨b' (a8 ah),bF,bI (a8 ah),bG ca.e ah,⟨by omega,by omega⟩,ix false h1,rfl,aa⟩
   | true=>
    simp only[kA,h1,iW,jT]at h;exact abo ⟨b' (a8 ah),bF,bI (a8 ah),bG ca.e ah,⟨by omega,by omega⟩,ix true h1,rfl,ix false (by simpa using h),rfl,aa⟩)
  (abq ⟨dG,aa⟩)
 rcases l with⟨_,_,h1,U⟩ | ⟨_,_,_,_,_,_,h1,U⟩
 ·exact .inl ⟨h1,U⟩
 exact .inr ⟨h1,U⟩
theorem adJ(c:bd)(ai:c.sz<=8388608)(hw:gA c):av 55 [.agg c.e] [.one (B (cQ c))]:=by
 have au:=xC c.aF (lL ai);unfold cQ;cases h1:eg c.aF with
 | false=>rw[h1]at au;exact abQ ⟨au,rfl,aa⟩
 | true=>
 rw[h1]at au;have aW:=nV h1;have aE:ay .i64 (c.aF.az*c.aF.az):=by
  have aw:c.aF.az=1\/c.aF.az=2\/c.aF.az=3\/c.aF.az=4:=by omega
  rcases aw with aw | aw | aw | aw<;>(rw[aw];exact⟨by decide,by decide⟩)
 cases U:((c.az.length:Int)==c.aF.az) with
 | false=>exact abR ⟨au,rfl,by rw[bk];simpa using U,aa⟩
 | true=>
 have v2:((↑(c.az.map aS.e).length:Int) != c.aF.az)=false:=by rw[bk];simpa using U
 cases aw:((c.bZ.length:Int)==c.aF.az*c.aF.az) with
 | false=>exact abS ⟨au,rfl,v2,aE,by rw[bk];simpa using aw,aa⟩
 | true=>
 have v3:((↑(c.bZ.map bD.e).length:Int) != c.aF.az*c.aF.az)=false:=by rw[bk];simpa using aw
 cases aH:(c.tokens.length==4) with
 | false=>exact abT ⟨au,rfl,v2,aE,v3,s0 aH,aa⟩
 | true=>
 rcases adF c ai (eq_of_beq U) with⟨aU,nC⟩ | ⟨aU,nC⟩
 case inr=>rw[aU];exact aa5 ⟨au,rfl,v2,aE,v3,fB aH,nC,aa⟩
 rw[aU];rcases adG c ai hw aW.1 with⟨bA,pE⟩ | ⟨bA,pE⟩
 case inr=>rw[bA];exact abe ⟨au,rfl,v2,aE,v3,fB aH,nC,pE,aa⟩
 rw[bA];rcases adH c ai aW with⟨bP,rQ⟩ | ⟨bP,rQ⟩
 case inr=>rw[bP];exact abm ⟨au,rfl,v2,aE,v3,fB aH,nC,pE,rQ,aa⟩
 rw[bP];rcases adI c ai aW with⟨c',ji⟩ | ⟨c',ji⟩
 ·rw[c'];exact abt ⟨au,rfl,v2,aE,v3,fB aH,nC,pE,rQ,ji,aa⟩
 rw[c'];exact abr ⟨au,rfl,v2,aE,v3,fB aH,nC,pE,rQ,ji,aa⟩
end Go.Proofs.YtdchjefneblpgaaGreat
namespace Go.Proofs.YtdchjefneblpgaaGreat
open Go.Sx Go.RowKit Go.Proofs.Tryz
def cutAt{α:Type}(xs:List α)(k:Nat):List α:=xs.take k++xs.drop (k+1)
def Ee:aG:=⟨0,⟨0,0⟩,0,0⟩
def lT(xs:List Int)(e d:Int):List Int:=xs.set e.toNat (xs.getD e.toNat 0+d)
def fh(l:bD)(r:aG):bD×Bool:=
 if jm l&&e4 r&&l.e0 != 0&&decide (l.fs<1000000000) then (⟨l.cap,l.queue++[r],l.e0-1,l.back,l.fs+1,l.du⟩,true) else (l,false)
def eB(l:bD):bD×aG×Bool:=
 if jm l then match l.queue with
  | []=>(l,Ee,false)
  | r::q=>(⟨l.cap,q,l.e0,l.back+1,l.fs,l.du+1⟩,r,true)
 else (l,Ee,false)
def gw(l:bD):bD×Bool:=
 if jm l&&l.back != 0 then (⟨l.cap,l.queue,l.e0+1,l.back-1,l.fs,l.du⟩,true) else (l,false)
def eo(g:bX)(w:aS):aS×Bool:=
 if eg g&&eF g w then match w.cm,w.queue with
  | [],r::q=>(⟨q,(dC g w.cells r).2.1,w.b8,(dC g w.cells r).1,w.bK,w.bS,(if dq g r then w.bC.set r.bw.bc.toNat true else w.bC),w.b4⟩,true)
  | _,_=>(w,false)
 else (w,false)
def eC(g:bX)(w:aS):aS×Bool:=
 if eg g&&eF g w then match w.cm,w.queue,w.b8 with
  | [],[],r::t=>(⟨[r],[],t,w.cells,w.bK,w.bS,w.bC,w.b4⟩,true)
  | _,_,_=>(w,false)
 else (w,false)
def j6(w:aS)(t:List aG):aS:=⟨w.queue,t,w.b8,w.cells,w.bK,w.bS,w.bC,w.b4⟩
def kept(w:aS)(r:aG):aS:=⟨w.queue++[r],w.cm,w.b8,w.cells,w.bK,w.bS,w.bC,w.b4⟩
def iA(w:aS)(r:aG):aS:=⟨w.queue++[r],w.cm,w.b8,w.cells,lT w.bK r.bw.bc (-1),w.bS.set r.bw.bc.toNat true,w.bC,w.b4⟩
def mL(w:aS)(e:Int):aS:=⟨w.queue,w.cm,w.b8,w.cells,lT w.bK e 1,w.bS,w.bC,w.b4⟩
def gG(w:aS)(e:Int):aS:=⟨w.queue,w.cm,w.b8,w.cells,w.bK,w.bS.set e.toNat false,w.bC,w.b4⟩
def told(w:aS)(e:Int)(b:Bool):aS:=⟨w.queue,w.cm,w.b8,w.cells,w.bK,w.bS,w.bC,w.b4++[⟨e,b⟩]⟩
def h5(w:aS)(n:ca):aS:=if jl w n.bc then w else told w n.bc n.dq
def Au(w:aS)(e:Int):Bool:=w.b8.any fun r=>decide (r.bw.bc<=e)
def Sy(w:aS)(e:Int):Nat:=(pV e w.queue).length+(pV e w.cm).length
def kY(w:aS)(e:Int):Bool:=!Au w e&&Sy w e==0
def setW(c:bd)(i:Int)(x:aS):bd:=⟨c.aF,c.az.set i.toNat x,c.bZ,c.tokens,c.news⟩
def eb(c:bd)(i:Int)(l:bD):bd:=⟨c.aF,c.az,c.bZ.set i.toNat l,c.tokens,c.news⟩
def ev(c:bd)(i:Int)(t:b0):bd:=⟨c.aF,c.az,c.bZ,c.tokens.set i.toNat t,c.news⟩
def jP(c:bd)(n:List ca):bd:=⟨c.aF,c.az,c.bZ,c.tokens,n⟩
def c9(c:bd)(i:Int):Option aS:=if 0<=i then c.az[i.toNat]? else none
def hb(c:bd)(i:Int):Option bD:=if 0<=i then c.bZ[i.toNat]? else none
def js(c:bd)(i:Int):Option b0:=if 0<=i then c.tokens[i.toNat]? else none
def fi(g:bX)(a b:Int):Int:=if ap a 0 (g.az-1)&&ap b 0 (g.az-1) then a*g.az+b else -1
def fH(c:bd)(w:Int):bd×Bool:=
 if cQ c then match c9 c w with
  | some x=>(setW c w (eo c.aF x).1,(eo c.aF x).2)
  | none=>(c,false)
 else (c,false)
def hr(c:bd)(w:Int):bd×Bool:=
 if cQ c then match c9 c w with
  | some x=>(setW c w (eC c.aF x).1,(eC c.aF x).2)
  | none=>(c,false)
 else (c,false)
def ta(c:bd)(w:Int)(x:aS)(r:aG)(t:List aG)(o:Int):bd×Bool:=
 if o=w then (setW c w (kept (j6 x t) r),true)
 else match hb c (fi c.aF w o) with
  | some l=>if (fh l r).2 then (setW (eb c (fi c.aF w o) (fh l r).1) w (mL (j6 x t) r.bw.bc),true) else (c,false)
  | none=>(c,false)
def lX(c:bd)(w:Int):bd×Bool:=
 if cQ c then match c9 c w with
  | some x=>match x.cm with
   | r::t=>ta c w x r t (j5 r.key c.aF.az)
   | []=>(c,false)
  | none=>(c,false)
 else (c,false)
def lY(c:bd)(a b:Int):bd×Bool:=
 if cQ c&&a != b then match hb c (fi c.aF a b),c9 c b with
  | some l,some x=>if (eB l).2.2 then (setW (eb c (fi c.aF a b) (eB l).1) b (iA x (eB l).2.1),true) else (c,false)
  | _,_=>(c,false)
 else (c,false)
def kZ(c:bd)(a b:Int):bd×Bool:=
 if cQ c&&a != b then match hb c (fi c.aF a b) with
  | some l=>(eb c (fi c.aF a b) (gw l).1,(gw l).2)
  | none=>(c,false)
 else (c,false)
def jo(n:Nat)(e:Int)(b:Bool):List ca:=(List.range n).map fun k:Nat=>⟨(k:Int)+1,e,b⟩
def fI(c:bd)(e:Int)(t:b0)(x:aS):bd×Bool:=
 if kY x e then
  if !t.going then (setW (ev c e ⟨true,(c.az.length:Int)-1,0,false,x.bC.getD e.toNat false⟩) t.place (gG x e),true)
  else if 0<t.place then
   if ap (t.sum+x.bK.getD e.toNat 0) (-1000000) 1000000 then
    (setW (ev c e ⟨true,t.place-1,t.sum+x.bK.getD e.toNat 0,t.bS||x.bS.getD e.toNat false,t.dq||x.bC.getD e.toNat false⟩) t.place (gG x e),true)
   else (c,false)
  else if !t.bS&&!x.bS.getD e.toNat false&&t.sum+x.bK.getD e.toNat 0==0 then
   (jP (setW (ev c e ⟨false,t.place,t.sum,t.bS,t.dq⟩) 0 (told x e (t.dq||x.bC.getD e.toNat false))) (c.news++jo (c.az.length-1) e (t.dq||x.bC.getD e.toNat false)),true)
  else (ev c e ⟨false,t.place,t.sum,t.bS,t.dq⟩,true)
 else (c,false)
def k0(c:bd)(e:Int):bd×Bool:=
 if cQ c&&ap e 0 3 then match c9 c 0,js c e with
  | some hg,some t=>if jl hg e then (c,false) else match c9 c t.place with
   | some x=>fI c e t x
   | none=>(c,false)
  | _,_=>(c,false)
 else (c,false)
def lZ(c:bd)(w:Int):bd×Bool:=
 match c.news.findIdx? (fun n=>n.dest==w) with
 | some k=>if cQ c then match c.news[k]?,c9 c w with
   | some n,some x=>(jP (setW c w (h5 x n)) (cutAt c.news k),true)
   | _,_=>(c,false)
  else (c,false)
 | none=>(c,false)
def eJ(c:bd)(p:dd):bd×Bool:=
 if p.kind=1 then fH c p.a else if p.kind=2 then hr c p.a else if p.kind=3 then lX c p.a
 else if p.kind=4 then lY c p.a p.b else if p.kind=5 then kZ c p.a p.b else if p.kind=6 then k0 c p.a
 else if p.kind=7 then lZ c p.a else (c,false)
end Go.Proofs.YtdchjefneblpgaaGreat
namespace Go.Proofs.YtdchjefneblpgaaGreat
open Go.Sx Go.RowKit Go.Proofs.Tryz
section
variable {α : Type}
theorem J2{p:α->Bool}{xs:List α}{i:Nat}{x:α}(h:xs.any p=false)(hi:i<xs.length):(xs.set i x).any p=p x:=by
 cases ag:p x with
 | true=>exact oX.2 ⟨x,List.mem_iff_getElem.2 ⟨i,by simpa using hi,by simp⟩,ag⟩
 | false=>
  rw[hj]at h ⊢;intro a ah;rcases n2 ah with h1 | rfl
  ·exact h a h1
  simp[ag]
theorem Sz{p:Nat->α->Bool}{x:α}:∀{xs:List α} {k i:Nat},anyI p k xs=false->i<xs.length->anyI p k (xs.set i x)=p (k+i) x
 | [],_,_,_,h=>by simp at h
 | a::xs,k,0,h,_=>by
  simp only[anyI,gz]at h;simp only[List.set_cons_zero,anyI,h.2,Bool.or_false,lC]
 | a::xs,k,i+1,h,hi=>by
  simp only[anyI,gz]at h;simp only[List.set_cons_succ,anyI,h.1,jT];rw[Sz h.2 (by simpa using hi),show k+1+i=k+(i+1) by omega]
theorem SA{p:Nat->α->Bool}{xs:List α}(h:∀i a,xs[i]?=some a->p i a=false):anyI p 0 xs=false:=by
 cases ag:anyI p 0 xs with
 | false=>rfl
 | true=>
  obtain⟨i,a,h1,U,_⟩:=I6 ag;rw[dg,h i a h1]at U;cases U
theorem D0{p:Nat->α->Bool}{xs:List α}(h:anyI p 0 xs=false){i:Nat}{a:α}(ah:xs[i]?=some a):p i a=false:=by
 have:=C7 h i a ah;rwa[dg]at this
end
variable{c:bd}
theorem iT:cQ c=true<->eg c.aF=true/\(c.az.length:Int)=c.aF.az/\(c.bZ.length:Int)=c.aF.az*c.aF.az/\c.tokens.length=4/\(c.az.any fun w=>!eF c.aF w)=false/\anyI (jn c.aF) 0 c.bZ=false/\c.tokens.any (kz c.aF.az)=false/\c.news.any (kA c.aF.az)=false:=by
 simp only[cQ,cx,hv,eD]
variable{i:Int}{x:aS}
theorem j7(h:c9 c i=some x):0<=i/\i.toNat<c.az.length/\c.az[i.toNat]?=some x:=by
 unfold c9 at h;split at h
 ·exact⟨‹_›,a8 h,h⟩
 cases h
theorem qO{x:bD}(h:hb c i=some x):0<=i/\i.toNat<c.bZ.length/\c.bZ[i.toNat]?=some x:=by
 unfold hb at h;split at h
 ·exact⟨‹_›,a8 h,h⟩
 cases h
theorem D1{x:b0}(h:js c i=some x):0<=i/\i.toNat<c.tokens.length/\c.tokens[i.toNat]?=some x:=by
 unfold js at h;split at h
 ·exact⟨‹_›,a8 h,h⟩
 cases h
theorem tc{y:aS}(h:cQ c=true)(bl:c9 c i=some y):cQ (setW c i x)=eF c.aF x:=by
 obtain⟨h1,U,aw,aH,aU,bA,bP,c'⟩:=iT.1 h;have hi:=(j7 bl).2.1;simp only[cQ,setW,e5,J2 aU hi,h1,U,aw,aH,bA,bP,c',su,n1,ue,oW,Bool.not_not]
theorem J3{x y:bD}(h:cQ c=true)(bl:hb c i=some y):cQ (eb c i x)=!jn c.aF i.toNat x:=by
 obtain⟨h1,U,aw,aH,aU,bA,bP,c'⟩:=iT.1 h;have hi:=(qO bl).2.1;simp only[cQ,eb,e5,Sz bA hi,dg,h1,U,aw,aH,aU,bP,c',su,n1,ue,oW]
theorem adK{x y:b0}(h:cQ c=true)(bl:js c i=some y):cQ (ev c i x)=!kz c.aF.az x:=by
 obtain⟨h1,U,aw,aH,aU,bA,bP,c'⟩:=iT.1 h;have hi:=(D1 bl).2.1;simp only[cQ,ev,e5,J2 bP hi,h1,U,aw,aH,aU,bA,c',su,n1,ue,oW]
theorem SB{x:List ca}(h:cQ c=true):cQ (jP c x)=!(x.any (kA c.aF.az)):=by
 obtain⟨h1,U,aw,aH,aU,bA,bP,c'⟩:=iT.1 h;simp only[cQ,jP,h1,U,aw,aH,aU,bA,bP,su,n1,oW]
theorem l0(h:cQ c=true)(ag:c9 c i=some x):eF c.aF x=true:=by
 have aU:=(iT.1 h).2.2.2.2.1;rw[hj]at aU;simpa using aU x (eA (j7 ag).2.2)
theorem Av{x:bD}(h:cQ c=true)(ag:hb c i=some x):jn c.aF i.toNat x=false:=
 D0 (iT.1 h).2.2.2.2.2.1 (qO ag).2.2
theorem J4{x:b0}(h:cQ c=true)(ag:js c i=some x):kz c.aF.az x=false:=by
 have aU:=(iT.1 h).2.2.2.2.2.2.1;rw[hj]at aU;simpa using aU x (eA (D1 ag).2.2)
theorem td(ag:c9 c i=some x):setW c i x=c:=by
 obtain⟨_,U,aw⟩:=j7 ag;have:c.az.set i.toNat x=c.az:=by
  rw[gU U]at aw;rw[<-eN aw];exact List.set_getElem_self U
 unfold setW;rw[this]
theorem adL{x:bD}(ag:hb c i=some x):eb c i x=c:=by
 obtain⟨_,U,aw⟩:=qO ag;have:c.bZ.set i.toNat x=c.bZ:=by
  rw[gU U]at aw;rw[<-eN aw];exact List.set_getElem_self U
 unfold eb;rw[this]
variable{g:bX}{w:aS}
theorem iU:eF g w=true<->fQ g w.queue=true/\fQ g w.cm=true/\fQ g w.b8=true/\jL w.cells=true/\w.bK.length=4/\w.bS.length=4/\w.bC.length=4/\anyI (lS w.b8) 0 w.b8=false/\w.bK.any mK=false/\anyI (lu w.b4) 0 w.b4=false:=by
 simp only[eF,cx,hv,eD]
variable{r:aG}
theorem sa{q:List aG}:fQ g (r::q)=true<->kX g r=false/\fQ g q=true:=by
 simp only[fQ,ud,hv,gz]
theorem J5{q:List aG}:fQ g (q++[r])=true<->fQ g q=true/\kX g r=false:=by
 simp only[fQ,List.any_append,ud,List.any_nil,Bool.or_false,hv,gz]
theorem adM{t:List aG}(h:anyI (lS (r::t)) 0 (r::t)=false):anyI (lS t) 0 t=false:=by
 refine SA fun i a ah=>?_
 have k:=D0 h (i:=i+1) (a:=a) (by simpa using ah);unfold lS at k ⊢;rw[gz]at k ⊢;refine⟨k.1,?_⟩;cases i with
 | zero=>rfl
 | succ j=>simpa using k.2
theorem adN{xs:List cD}{d:cD}(h:anyI (lu xs) 0 xs=false)(h1:ap d.bc 0 3=true)(U:(xs.any fun q=>q.bc==d.bc)=false):anyI (lu (xs++[d])) 0 (xs++[d])=false:=by
 refine SA fun i a ah=>?_
 by_cases hi:i<xs.length
 ·rw[xU hi]at ah;have k:=D0 h ah;unfold lu at k ⊢;rw[E9 (by omega)];exact k
 have al:=a8 ah;simp only[km,dN,bW]at al;have e:i=xs.length:=by omega
 subst e;rw[vV (fk _),Nat.sub_self]at ah;obtain rfl:d=a:=by simpa using ah
 unfold lu;rw[E9 (fk _),k3,h1,U];rfl
theorem adO(h:eF g w=true)(aA:kX g r=false):eF g (kept w r)=true:=by
 obtain⟨h1,U⟩:=iU.1 h;exact iU.2 ⟨J5.2 ⟨h1,aA⟩,U⟩
theorem J6{t:List aG}(h:eF g w=true)(aj:w.cm=r::t):eF g (j6 w t)=true/\kX g r=false:=by
 obtain⟨h1,U,aw⟩:=iU.1 h;rw[aj,sa]at U;exact⟨iU.2 ⟨h1,U.2,aw⟩,U.1⟩
variable{e:Int}
theorem adP(h:eF g w=true):eF g (gG w e)=true:=by
 obtain⟨h1,U,aw,aH,aU,bA,bP⟩:=iU.1 h;exact iU.2 ⟨h1,U,aw,aH,aU,by simp only[gG,e5];exact bA,bP⟩
theorem SC{b:Bool}(h:eF g w=true)(he:ap e 0 3=true)(aD:jl w e=false):eF g (told w e b)=true:=by
 obtain⟨h1,U,aw,aH,aU,bA,bP,c',dS,dF⟩:=iU.1 h;exact iU.2 ⟨h1,U,aw,aH,aU,bA,bP,c',dS,adN dF he aD⟩
theorem adQ{n:ca}(h:eF g w=true)(he:ap n.bc 0 3=true):eF g (h5 w n)=true:=by
 unfold h5;cases aD:jl w n.bc with
 | true=>exact h
 | false=>exact SC h he aD
theorem SD{e d:Int}{k:Nat}(h:eF g w=true)(hk:e.toNat=k)(aH:k<4):(lT w.bK e d).length=4/\(lT w.bK e d).any mK=mK (w.bK.getD e.toNat 0+d):=by
 obtain⟨h1,U,aw,_,aU,bA,bP,c',dS,dF⟩:=iU.1 h;exact⟨by simp only[lT,e5];exact aU,J2 dS (by omega)⟩
theorem sb{g:bX}(h:kX g r=false):0<=r.bw.bc/\r.bw.bc<=3:=by
 simp only[kX,e4,hq,ap,gz,kF,cx,cU]at h;omega
theorem adR(h:eF g w=true)(he:0<=e/\e<=3):eF g (mL w e)=ap (w.bK.getD e.toNat 0+1) (-1000000) 1000000:=by
 obtain⟨cT,b5⟩:=SD (d:=1) h (e:=e) rfl (by omega);obtain⟨h1,U,aw,aH,aU,bA,bP,c',dS,dF⟩:=iU.1 h;simp only[eF,mL,h1,U,aw,aH,cT,bA,bP,c',dF,b5,mK,su,n1,ue,oW,Bool.not_not]
theorem adS(h:eF g w=true)(aA:kX g r=false):eF g (iA w r)=ap (w.bK.getD r.bw.bc.toNat 0+-1) (-1000000) 1000000:=by
 have he:=sb aA;obtain⟨cT,b5⟩:=SD (d:=-1) h (e:=r.bw.bc) rfl (by omega);obtain⟨h1,U,aw,aH,aU,bA,bP,c',dS,dF⟩:=iU.1 h;have aE:=J5.2 ⟨h1,aA⟩;simp only[eF,iA,aE,U,aw,aH,cT,e5,bA,bP,c',dF,b5,mK,su,n1,ue,oW,Bool.not_not]
theorem adT(h:eF g w=true):eF g (eC g w).1=true:=by
 unfold eC;split
 ·split
  ·rename_i r t h1 U aw;obtain⟨_,_,fq,pC,jI,ny,jh,nz,rP,Hq⟩:=iU.1 h;rw[aw]at fq nz;exact iU.2 ⟨sa.2 ⟨(sa.1 fq).1,rfl⟩,rfl,(sa.1 fq).2,pC,jI,ny,jh,adM nz,rP,Hq⟩
  exact h
 exact h
theorem adU:∀{xs:List Cell},jL xs=true->∀i a b,xs[i]?=some a->xs[i+1]?=some b->hR a b<0:=by
 intro xs h i a b h1 U;simp only[jL,hv,hj]at h;have hm:(a,b)∈xs.zip (xs.drop 1):=by
  refine eA (i:=i) ?_;rw[List.getElem?_zip_eq_some];exact⟨h1,by rw[gQ,Nat.add_comm];exact U⟩
 have:=h _ hm;simp only[DS,cU]at this;omega
def te(a:Cell):List Int:=[a.bc,a.op,a.key,a.val]
theorem SE(a b:Cell):hR a b=o4 (te a) (te b):=rfl
theorem J7{a b c:Cell}(h1:hR a b<0)(U:hR b c<0):hR a c<0:=by
 rw[SE] at*;exact RF (te a) (te b) (te c) rfl rfl h1 U
theorem adV{a b:Cell}(h1:¬hR a b<0)(U:a≠b):hR b a<0:=by
 rw[SE] at*;refine Classical.byContradiction fun h=>U ?_
 have:=RG (te a) (te b) rfl h1 h;simp only[te,q4,and_true]at this;obtain⟨mQ,jv,tW,ss⟩:=this;cases a;cases b;simp only[Cell.mk.injEq];exact⟨jv,mQ,tW,ss⟩
theorem SF:∀{xs:List Cell},jL xs=true->xs.Pairwise fun a b=>hR a b<0
 | [],_=>List.Pairwise.nil
 | [a],_=>List.pairwise_singleton _ a
 | a::b::xs,h=>by
  have bQ:jL (b::xs)=true:=by
   simp only[jL,List.drop_succ_cons,v7,List.zip_cons_cons,ud,Bool.not_or,cx]at h ⊢;exact h.2
  have aj:=SF bQ;have ho:=adU h 0 a b rfl rfl;refine List.Pairwise.cons (fun c ai=>?_) aj;rcases eu.1 ai with rfl | ai
  ·exact ho
  exact J7 ho ((List.pairwise_cons.1 aj).1 c ai)
variable{xs:List Cell}
theorem SG(h:xs.Pairwise fun a b=>hR a b<0):jL xs=true:=by
 simp only[jL,hv,hj];rintro⟨a,b⟩ hp;obtain⟨i,hi⟩:=List.getElem?_of_mem hp;obtain⟨h1,U⟩:=As hi;have a6:=a8 U;have:=List.pairwise_iff_getElem.1 h i (i+1) (by omega) a6 (by omega);rw[gU (by omega)]at h1 U;rw[eN h1,eN U]at this;replace this:hR a b<0:=this;show ¬decide (hR a b>=0)=true;simp only[cU];omega
theorem SH(x:Cell)(h:xs.Pairwise fun a b=>hR a b<0):(j4 xs x).Pairwise fun a b=>hR a b<0:=by
 unfold j4;split
 ·exact h
 rename_i h8;have ag:∀a∈xs,a≠x:=by
  intro a ah e;exact h8 (oX.2 ⟨a,ah,by simp[e]⟩)
 have ar:∀i a,xs[i]?=some a->i<lp xs x->hR a x<0:=by
  intro i a ah hi;unfold lp at hi;cases bT:xs.findIdx? (fun a=>!decide (hR a x<0)) with
  | none=>
   rw[Bs]at bT;simpa using bT a (eA ah)
  | some k=>
   rw[bT]at hi;simp only[ij]at hi;rw[tZ]at bT;obtain⟨hk,_,aw⟩:=bT;have:=aw i hi;rw[gU (by omega)]at ah;rw[eN ah]at this;simpa using this
 have ah:∀i a,xs[i]?=some a->lp xs x<=i->hR x a<0:=by
  intro i a ah hi;have hk:lp xs x<xs.length:=by have:=a8 ah;omega
  obtain⟨b,fL⟩:=c0 hk;have bN:¬hR b x<0:=by
   unfold lp at fL hk;cases bT:xs.findIdx? (fun a=>!decide (hR a x<0)) with
   | none=>rw[bT]at hk;simp at hk
   | some k=>
    rw[bT]at fL;simp only[ij]at fL;rw[tZ]at bT;obtain⟨pk,U,_⟩:=bT;rw[gU pk]at fL;rw[eN fL]at U;simpa using U
  have N3:=adV bN (ag b (eA fL));rcases Nat.lt_or_eq_of_le hi with bz | heq
  ·have a6:=a8 ah;have:=List.pairwise_iff_getElem.1 h (lp xs x) i hk a6 bz;rw[gU hk]at fL;rw[gU a6]at ah;rw[eN fL,eN ah]at this;exact J7 N3 this
  rw[heq,ah]at fL;rw[eN fL];exact N3
 rw[List.pairwise_append];refine⟨h.sublist (List.take_sublist _ _),List.Pairwise.cons (fun c ai=>?_) (h.sublist (List.drop_sublist _ _)),fun a FZ c ai=>?_⟩
 ·obtain⟨i,hi⟩:=List.getElem?_of_mem ai;rw[gQ]at hi;exact ah _ _ hi (by omega)
 obtain⟨i,hi⟩:=List.getElem?_of_mem FZ;rw[hh]at hi;split at hi
 ·rename_i bz;have h1:=ar i a hi bz;rcases eu.1 ai with rfl | ai
  ·exact h1
  obtain⟨j,a6⟩:=List.getElem?_of_mem ai;rw[gQ]at a6;exact J7 h1 (ah _ _ a6 (by omega))
 cases hi
theorem adW(kind:Int)(x:Cell)(h:jL xs=true):jL (c4 kind xs x).1=true:=by
 have aj:=SF h;have h1:=SG (SH x aj);have U:=SG (SH x (aj.sublist (List.filter_sublist (p:=fun a=>!eR x a))));unfold c4;split
 ·split
  ·exact h
  exact h1
 split
 ·unfold iS;split
  ·exact h
  exact U
 exact h
theorem adX{cs:List Cell}(r:aG)(h:jL cs=true):jL (dC g cs r).1=true:=by
 unfold dC;cases fW g r.op with
 | none=>exact h
 | some x=>
  have aA:=adW x.kind ⟨r.op,r.bw.bc,r.key,r.val⟩ h;simp only[dH];split
  ·split
   ·exact h
   split
   ·exact aA
   split
   ·exact aA
   exact aA
  exact h
theorem adY{x:Node}{k v:Int}(ag:aL x=true)(hi:eZ k v=true):eZ (cP x k v).1 (cP x k v).2.1=true:=by
 have y6:=ag;simp only[aL,cx]at ag;have ah:=ag.1.1.1.1;have ks:=hi;simp only[eZ,ap,cx,cU]at hi;unfold cP;rw[y6,ks,Bool.and_self,br rfl];unfold bL at ah;split
 ·rename_i U;rw[br U]at ah;simp only[ap,cx,cU]at ah;have al:0<=less (v+x.a) 999/\less (v+x.a) 999<=999:=by unfold less;split<;>omega
  simp only[eZ,ap,cx,cU];omega
 rename_i U;rw[bh U]at ah;split
 ·rename_i aH;rw[bh (by omega),br aH]at ah;simp only[ap,cx,cU]at ah;simp only[eZ,ap,cx,cU];rw[Int.tmod_eq_emod_of_nonneg (by omega)];omega
 split
 ·exact ks
 exact ks
theorem ac7(h:eg g=true){op:Int}{x:Node}(aW:fW g op=some x):iR g op.toNat x=false:=by
 simp only[eg,cx,hv]at h;unfold fW at aW;split at aW
 ·exact D0 h.2 aW
 cases aW
theorem SI(h:eg g=true){op:Int}{x:Node}(aW:fW g op=some x){s:gB}{k v:Int}(aj:hq s=true)(hi:eZ k v=true):fQ g (hW x s k v)=true:=by
 have ar:=ac7 h aW;have ag:=J1 h aW;simp only[aL,cx]at ag;simp only[iR,gz]at ar;have he:=ar.2;rw[hj]at he;simp only[fQ,hW,List.any_map,hv,hj];intro o aZ;have h1:=KA ag.2 aZ;have U:=he o aZ;simp only[fX,n3,not_or,cU]at U;simp only[Function.comp,kX,e4,h1,aj,hi,Bool.and_self,iW,jT,cU];omega
theorem ac8{cs:List Cell}:fQ g (dC g cs r).2.1=true:=by
 unfold dC;cases aW:fW g r.op with
 | none=>rfl
 | some x=>
  simp only[dH];split
  ·rename_i au;rw[cx]at au;obtain⟨au,aA⟩:=au;have dX:=aA;simp only[e4,cx]at aA;have ai:=adY (J1 au aW) aA.2;split
   ·rfl
   split
   ·rfl
   split
   ·cases bQ:(eM r.bw).2 with
    | false=>rfl
    | true=>
     refine SI au aW ?_ ai;unfold eM at bQ ⊢;split
     ·rename_i h1;simp only[cx,hq,ap,cU]at h1 ⊢;omega
     rename_i h1;rw[bh h1]at bQ;cases bQ
   exact SI au aW aA.1.2 ai
  rfl
theorem ac9(h:eF g w=true):eF g (eo g w).1=true:=by
 unfold eo;split
 ·split
  ·rename_i r q h1 U;obtain⟨cT,b5,fq,pC,jI,ny,jh,nz,rP,Hq⟩:=iU.1 h;rw[U,sa]at cT;refine iU.2 ⟨cT.2,ac8,fq,adX r pC,jI,ny,?_,nz,rP,Hq⟩;split
   ·rw[e5];exact jh
   exact jh
  exact h
 exact h
