import Derived.Test.YtdchjefneblpgaaGreatC0
import Derived.Test.YtdchjefneblpgaaGreatGT
set_option linter.unusedVariables false
set_option linter.unusedSimpArgs false
namespace Go.Proofs.YtdchjefneblpgaaGreat
open Go.Sx Go.RowKit
theorem aoN{P:Program}{c:Code}{α:Type}[DecidableEq α](xs ys:List α)(af:xs.length=ys.length)(st:Nat->aE){e1 e2:gO}{X Y:aE}(tL:e1.nt≠.normal)(lU:e2.nt≠.normal)
  (tN:∀i a b,xs[i]?=some a->ys[i]?=some b->decide (a=b)=true->fP P c (st i) .normal (st (i+1))) (zH:∀i a b,xs[i]?=some a->ys[i]?=some b->decide (a=b)=false->fP P c (st i) e1 X) (vz:fP P c (st xs.length) e2 Y):
  (xs=ys/\dd P c (st 0) e2 Y)\/(xs≠ys/\dd P c (st 0) e1 X):=by
 rcases PW xs ys af with h | ⟨i,a,b,h1,U,au,aH⟩
 ·subst h;refine .inl ⟨rfl,ef lU xs.length st (fun i hi=>?_) vz⟩;obtain⟨a,ag⟩:=dv hi;exact tN i a a ag ag (by simp)
 refine .inr ⟨fun e=>by subst e;rw[h1]at U;exact au (ei U),ef tL i st (fun j aM=>?_) (zH i a b h1 U (by simpa using au))⟩;obtain⟨c,ad⟩:=dv (xs:=xs) (i:=j) (by have:=bh h1;omega);exact tN j c c ad (by rw[<-aH j aM];exact ad) (by simp)
theorem Zj{b:Bool}(h:b=true):(!b)=false:=by rw[h];rfl
theorem Zi{b:Bool}(h:b=false):(!b)=true:=by rw[h];rfl
theorem Ol{α β:Type}{f g:α->β}{xs ys:List α}(h:xs.length=ys.length):(((xs.map f).length:Int) != ((ys.map g).length:Int))=false:=by simp[h]
theorem aoO{α β:Type}{f g:α->β}{xs ys:List α}(h:¬xs.length=ys.length):(((xs.map f).length:Int) != ((ys.map g).length:Int))=true:=by simp;omega
