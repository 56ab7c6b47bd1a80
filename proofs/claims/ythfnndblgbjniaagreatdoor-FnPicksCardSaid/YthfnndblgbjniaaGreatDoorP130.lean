import Derived.Test.YthfnndblgbjniaaGreatDoorP78
import Derived.Test.YthfnndblgbjniaaGreatDoorP79
import Derived.Test.YthfnndblgbjniaaGreatDoorP75
import Derived.Test.YthfnndblgbjniaaGreatDoorGI
set_option linter.unusedVariables false
set_option linter.unusedSimpArgs false
namespace Go.Proofs.YthfnndblgbjniaaGreatDoor
open Go.Sx Go.RowKit Go.Proofs.Tryz
theorem U'{c:bi}{p:cf}(h:(dC c p).2=false):(dC c p).1=c:=by
 rcases T4 c p with⟨_,k⟩ | ⟨_,k,_⟩
 ·exact k
 rw[k]at h;cases h
theorem aoP:xC ⟨4,1,2⟩=[116,97,107,101,32,49,32,50]:=by
 have e1:Lib.itoa 1=[49]:=by
  unfold Lib.itoa;rw[bH (by omega)];exact Lib.decDigits_one (i:=1) (by omega)
 have e2:Lib.itoa 2=[50]:=by
  unfold Lib.itoa;rw[bH (by omega)];exact Lib.decDigits_one (i:=2) (by omega)
 unfold xC;rw[e1,e2];rfl
theorem aoQ(c y d:bi)(b7:List cf)(aI:d.sz+4*b7.length<=8388608)(ax:fs d):
  c6 prog (ap f4 0) (wz (b7.map cf.e) ((cY d b7).2.map cp) 0 (d.aA.nodes.map Node.e) d.aA.az d.aA.cap (d.az.map aR.e) (d.bU.map br.e) (d.tokens.map bW.e) (d.news.map bR.e) (y.aA.nodes.map Node.e) y.aA.az y.aA.cap (y.az.map aR.e) (y.bU.map br.e) (y.tokens.map bW.e) (y.news.map bR.e) (c.aA.nodes.map Node.e) c.aA.az c.aA.cap (c.az.map aR.e) (c.bU.map br.e) (c.tokens.map bW.e) (c.news.map bR.e)) (.exit 0)
   (Fi ((cY d b7).1.aA.nodes.map Node.e) (cY d b7).1.aA.az (cY d b7).1.aA.cap ((cY d b7).1.az.map aR.e) ((cY d b7).1.bU.map br.e) ((cY d b7).1.tokens.map bW.e) ((cY d b7).1.news.map bR.e) (y.aA.nodes.map Node.e) y.aA.az y.aA.cap (y.az.map aR.e) (y.bU.map br.e) (y.tokens.map bW.e) (y.news.map bR.e) (c.aA.nodes.map Node.e) c.aA.az c.aA.cap (c.az.map aR.e) (c.bU.map br.e) (c.tokens.map bW.e) (c.news.map bR.e)):=by
 have ar:b7.length<=8388608:=by omega
 have a':=Ad b7 d;have k:=er (P:=prog) (c:=(ap f4 0)) (cy 0) b7.length (fun i:Nat=>wz (b7.map cf.e) ((cY d b7).2.map cp) i ((cY d (b7.take i)).1.aA.nodes.map Node.e) (cY d (b7.take i)).1.aA.az (cY d (b7.take i)).1.aA.cap ((cY d (b7.take i)).1.az.map aR.e) ((cY d (b7.take i)).1.bU.map br.e) ((cY d (b7.take i)).1.tokens.map bW.e) ((cY d (b7.take i)).1.news.map bR.e) (y.aA.nodes.map Node.e) y.aA.az y.aA.cap (y.az.map aR.e) (y.bU.map br.e) (y.tokens.map bW.e) (y.news.map bR.e) (c.aA.nodes.map Node.e) c.aA.az c.aA.cap (c.az.map aR.e) (c.bU.map br.e) (c.tokens.map bW.e) (c.news.map bR.e)) (fun i hi=>by
  obtain⟨p,hp⟩:=c2 hi;have ak:=Ej d b7 i;have ax:=(Af (b7.take i) d).de ax;have bZ:=Vo d hp;rw[Ei d hp];dsimp only;generalize cY d (b7.take i)=o at*;exact aoL ⟨cc hi,aoK ⟨bB,bI hi,bC cf.e hp,Ut o.1 p (by omega) ax,ad⟩,by simp[a'],bB,bI (by omega),bC cp bZ,by simp,dc hi ar,ad⟩) (aoM ⟨dG,ad⟩)
 rw[kX]at k;exact k
theorem aoR:((jY [116,97,107,101,32,49,32,50]).toList==(ByteArray.mk #[116,97,107,101,32,49,32,50]).toList)=true:=by
 rw[show jY [116,97,107,101,32,49,32,50]=(ByteArray.mk #[116,97,107,101,32,49,32,50]) from rfl];exact ti _
theorem aoS(b:List Int)(ay:∀a∈b,(fun n=>0<=n/\n<=255) a):al 4 [.one (.J 1 (b.map hF))] [.one (B true)]:=by
 by_cases CO:(b.length:Int)>1048576
 ·have:=U9 (b.map hF) trivial;rw[kF (by simpa using CO)]at this;exact aoJ ⟨this,rfl,ad⟩
 have big:=U9 (b.map hF) trivial;rw[mg (by simpa using CO)]at big;have va:Bytes b:=⟨by omega,ay⟩
 obtain⟨c,p,⟨ly,ayX⟩,wp,d1⟩:=an9 b va;obtain⟨d,b7,⟨bk,ayZ⟩,aT,d2⟩:=aoa b va;have gc:fs c:=fun l ar=>(ly.l l ar).2
 have N9:fs d:=fun l ar=>(bk.l l ar).2
 have zs:=Tq c p;have ay0:=Ae b7 d;have ef:=Us c p (by omega) gc;have a2:=Ut c p (by omega) gc;have a3:=U2 (dC c p).1 (by omega);have a4:=U7 p wp;have a5:=aoI p wp;have NN:=amY d b7 (by omega) N9;have l:=aoQ c (cY d b7).1 d b7 (by omega) N9;have e0:=anb c;have fQ:=U2 (cY d b7).1 (by omega);have tp:=Mm c;have hp:=Ml c;have wS:=an1 (l4 c) (by omega);have Gx:=U7 ⟨4,1,2⟩ ⟨⟨by decide,by decide⟩,⟨by decide,by decide⟩,⟨by decide,by decide⟩⟩;rw[aoP]at Gx;have key:al 4 [.one (.J 1 (b.map hF))] [.one (B ((jY [116,97,107,101,32,49,32,50]).toList==(ByteArray.mk #[116,97,107,101,32,49,32,50]).toList))]:=by
  cases ak:(dC c p).2 with
  | true=>
   rw[ak]at ef a2;exact qOp ⟨big,rfl,d1,ef,a2,by simp,a3,rfl,rfl,a4,a5,by simp,d2,NN,l,e0,fQ,rfl,tp,wS,rfl,Gx,ad⟩
  | false=>
   rw[ak,U' ak]at ef a2;rw[U' ak]at a3;exact aoN ⟨big,rfl,d1,ef,a2,by simp,a3,rfl,rfl,a3,rfl,a4,a5,by simp,d2,NN,l,e0,fQ,rfl,tp,wS,rfl,Gx,ad⟩
 rwa[aoR]at key
