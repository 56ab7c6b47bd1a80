import Derived.Test.YtdchjefneblpgaaGreatC0
import Derived.Test.YtdchjefneblpgaaGreatGT
set_option linter.unusedVariables false
set_option linter.unusedSimpArgs false
namespace Go.Proofs.YtdchjefneblpgaaGreat
open Go.Sx Go.RowKit Go.Proofs.Tryz
theorem kt{P:Program}{c:Code}{α:Type}[DecidableEq α](xs ys:List α)(ag:xs.length=ys.length)(st:Nat->aF){e1 e2:hE}{X Y:aF}(tV:e1.oa≠.normal)(lW:e2.oa≠.normal)
  (tY:∀i a b,xs[i]?=some a->ys[i]?=some b->decide (a=b)=true->gl P c (st i) .normal (st (i+1))) (As:∀i a b,xs[i]?=some a->ys[i]?=some b->decide (a=b)=false->gl P c (st i) e1 X) (vY:gl P c (st xs.length) e2 Y):
  (xs=ys/\c' P c (st 0) e2 Y)\/(xs≠ys/\c' P c (st 0) e1 X):=by
 rcases Tf xs ys ag with h | ⟨i,a,b,h1,U,ax,aK⟩
 ·subst h;refine .inl ⟨rfl,e6 lW xs.length st (fun i hi=>?_) vY⟩;obtain⟨a,ae⟩:=db hi;exact tY i a a ae ae (by simp)
 refine .inr ⟨fun e=>by subst e;rw[h1]at U;exact ax (eE U),e6 tV i st (fun j bd=>?_) (As i a b h1 U (by simpa using ax))⟩;obtain⟨c,ak⟩:=db (xs:=xs) (i:=j) (by have:=aP h1;omega);exact tY j c c ak (by rw[<-aK j bd];exact ak) (by simp)
theorem nJ{b:Bool}(h:b=true):(!b)=false:=by rw[h];rfl
theorem nI{b:Bool}(h:b=false):(!b)=true:=by rw[h];rfl
theorem fy{α β:Type}{f g:α->β}{xs ys:List α}(h:xs.length=ys.length):(((xs.map f).length:Int) != ((ys.map g).length:Int))=false:=by simp[h]
theorem ku{α β:Type}{f g:α->β}{xs ys:List α}(h:¬xs.length=ys.length):(((xs.map f).length:Int) != ((ys.map g).length:Int))=true:=by simp;omega
theorem ik(xs ys:List aB)(aa:xs.length<=8388608):aw 226 [.one (.J 5 (xs.map aB.e)),.one (.J 5 (ys.map aB.e))] [.one (B (decide (xs=ys)))]:=by
 by_cases ag:xs.length=ys.length
 ·have l:=kt (P:=prog) (c:=(aq f226 0)) xs ys ag (fun i=>xB (xs.map aB.e) (ys.map aB.e) i) (X:=MO false) dZ (cC 0)
   (fun i a b ae aj h=>akO ⟨bV (aP ae),bk,bm (aP ae),bl aB.e ae,bk,bm (aP aj),bl aB.e aj,nJ ((F9 a b).trans h),c3 (aP ae) aa,ad⟩)
   (fun i a b ae aj h=>akN ⟨bV (aP ae),bk,bm (aP ae),bl aB.e ae,bk,bm (aP aj),bl aB.e aj,nI ((F9 a b).trans h),ad⟩)
   (akP ⟨dk,ad⟩)
  rcases l with⟨h,l⟩ | ⟨h,l⟩
  ·rw[bU h];exact akR ⟨fy ag,l,ad⟩
  rw[bY h];exact akQ ⟨fy ag,l,ad⟩
 rw[bY (fun e=>ag (by rw[e]))];exact akM ⟨ku ag,ad⟩
theorem Co(xs ys:List Cell)(aa:xs.length<=8388608):aw 248 [.one (.J 4 (xs.map Cell.e)),.one (.J 4 (ys.map Cell.e))] [.one (B (decide (xs=ys)))]:=by
 by_cases ag:xs.length=ys.length
 ·have l:=kt (P:=prog) (c:=(aq f248 0)) xs ys ag (fun i=>xC (xs.map Cell.e) (ys.map Cell.e) i) (X:=MP false) dZ (cC 0)
   (fun i a b ae aj h=>aj4 ⟨bV (aP ae),bk,bm (aP ae),bl Cell.e ae,bk,bm (aP aj),bl Cell.e aj,nJ ((y9 a b).trans h),c3 (aP ae) aa,ad⟩)
   (fun i a b ae aj h=>aj3 ⟨bV (aP ae),bk,bm (aP ae),bl Cell.e ae,bk,bm (aP aj),bl Cell.e aj,nI ((y9 a b).trans h),ad⟩)
   (aj5 ⟨dk,ad⟩)
  rcases l with⟨h,l⟩ | ⟨h,l⟩
  ·rw[bU h];exact aj7 ⟨fy ag,l,ad⟩
  rw[bY h];exact aj6 ⟨fy ag,l,ad⟩
 rw[bY (fun e=>ag (by rw[e]))];exact aj2 ⟨ku ag,ad⟩
theorem il(xs ys:List aB)(aa:xs.length<=8388608):aw 37 [.one (.J 5 (xs.map aB.e)),.one (.J 5 (ys.map aB.e))] [.one (B (decide (xs=ys)))]:=by
 by_cases ag:xs.length=ys.length
 ·have l:=kt (P:=prog) (c:=(aq f37 0)) xs ys ag (fun i=>vd (xs.map aB.e) (ys.map aB.e) i) (X:=MQ false) dZ (cC 0)
   (fun i a b ae aj h=>Us ⟨bV (aP ae),bk,bm (aP ae),bl aB.e ae,bk,bm (aP aj),bl aB.e aj,nJ ((F9 a b).trans h),c3 (aP ae) aa,ad⟩)
   (fun i a b ae aj h=>aj9 ⟨bV (aP ae),bk,bm (aP ae),bl aB.e ae,bk,bm (aP aj),bl aB.e aj,nI ((F9 a b).trans h),ad⟩)
   (Uu ⟨dk,ad⟩)
  rcases l with⟨h,l⟩ | ⟨h,l⟩
  ·rw[bU h];exact Uv ⟨fy ag,l,ad⟩
  rw[bY h];exact aka ⟨fy ag,l,ad⟩
 rw[bY (fun e=>ag (by rw[e]))];exact aj8 ⟨ku ag,ad⟩
theorem BB(xs ys:List Cell)(aa:xs.length<=8388608):aw 19 [.one (.J 4 (xs.map Cell.e)),.one (.J 4 (ys.map Cell.e))] [.one (B (decide (xs=ys)))]:=by
 by_cases ag:xs.length=ys.length
 ·have l:=kt (P:=prog) (c:=(aq f19 0)) xs ys ag (fun i=>ve (xs.map Cell.e) (ys.map Cell.e) i) (X:=MR false) dZ (cC 0)
   (fun i a b ae aj h=>Uw ⟨bV (aP ae),bk,bm (aP ae),bl Cell.e ae,bk,bm (aP aj),bl Cell.e aj,nJ ((y9 a b).trans h),c3 (aP ae) aa,ad⟩)
   (fun i a b ae aj h=>akc ⟨bV (aP ae),bk,bm (aP ae),bl Cell.e ae,bk,bm (aP aj),bl Cell.e aj,nI ((y9 a b).trans h),ad⟩)
   (Uy ⟨dk,ad⟩)
  rcases l with⟨h,l⟩ | ⟨h,l⟩
  ·rw[bU h];exact Uz ⟨fy ag,l,ad⟩
  rw[bY h];exact akd ⟨fy ag,l,ad⟩
 rw[bY (fun e=>ag (by rw[e]))];exact akb ⟨ku ag,ad⟩
