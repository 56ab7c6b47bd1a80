import Derived.Test.YtdchjefneblpgaaGreatGE
namespace Go.Proofs.YtdchjefneblpgaaGreat
open Go.Sx Go.RowKit
variable {a b c d e f g : Int} {A C E F G H aj K L M N Q R S bi V X Y Z eg hS iF iG iH iI jN se sf tP tQ tR sg sh xJ : ae} {q r s t : Bool}
def EF(A:ae)(a b:Int)(C E F G H:ae)(c d:Int)(aj K L M:ae)(e:Int)(q:Bool)(l:List O):List O:=.r 144 [.agg (cl A a b C E F G)] [.agg (cl H c d aj K L M)]::.r 145 [.agg (cl A a b C E F G),af e] [ah q]::l
theorem S6(h:ad (EF A a b C E F G M e c H aj K L d q [.n q true])):
ar 36 [.agg (cl A a b C E F G),af d] [.agg (cl M e c H aj K L),ah false]:=
h.of
theorem afJ{A:ae}{b c:Int}{C F G H:ae}{a:Int}{jN:ae}{e d:Int}{E aj K L:ae}{q:Bool}{M N Q R S bi V X Y Z eg hS iF iG iH iI:ae}{r:Bool}{d33 d34 d35 d36 d37 d38 d39 d40:D}(h:ad (EF A b c C F G H jN e d E aj K L a q [.n q false,.x C a (ba M N Q R S bi V X),.r 164 [.agg (bl A b c),.agg (ba M N Q R S bi V X)] [.agg (ba Y Z eg hS iF iG iH iI),ah r],.x E a [d33,d34,d35,d36,d37,d38,d39,d40]])):
ar 36 [.agg (cl A b c C F G H),af a] [.agg (cl jN e d (E.set a.toNat (ba Y Z eg hS iF iG iH iI)) aj K L),ah r]:=
h.of
theorem S7(h:ad (EF A a b C E F G M e c H aj K L d q [.n q true])):
ar 44 [.agg (cl A a b C E F G),af d] [.agg (cl M e c H aj K L),ah false]:=
h.of
theorem afK(h:ad (EF A b c C F G H jN e d E aj K L a q [.n q false,.x C a (ba M N Q R S bi V X),.r 169 [.agg (bl A b c),.agg (ba M N Q R S bi V X)] [.agg (ba Y Z eg hS iF iG iH iI),ah r],.x E a (ba se sf tP tQ tR sg sh xJ)])):
ar 44 [.agg (cl A b c C F G H),af a] [.agg (cl jN e d (E.set a.toNat (ba Y Z eg hS iF iG iH iI)) aj K L),ah r]:=
h.of
def Ma(A C E F G H aj K L M N P Q R S bi V:ae)(a b:Int)(q:Bool)(l:List O):List O:=.r 255 [.agg (ba A C E F G H aj K)] [.agg (ba L M N P Q R S bi)]::.r 179 [.agg (bl V a b)] [ah q]::l
theorem afL(h:ad (Ma N Q R S bi V X C E F G H aj K L M A a b q [.n q true])):
ar 164 [.agg (bl A a b),.agg (ba N Q R S bi V X C)] [.agg (ba E F G H aj K L M),ah false]:=
h.of
def AW(A C E F G H aj K L M N P Q R S bi V:ae)(a b:Int)(q r:Bool)(l:List O):List O:=Ma A C E F G H aj K L M N P Q R S bi V a b q (.n q false::.r 187 [.agg (bl V a b),.agg (ba A C E F G H aj K)] [ah r]::l)
theorem afM(h:ad (AW E F G H aj K L C M N Q R S bi V X A a b q r [.n r true])):
ar 164 [.agg (bl A a b),.agg (ba E F G H aj K L C)] [.agg (ba M N Q R S bi V X),ah false]:=
h.of
theorem afN(h:ad (AW F A G H aj K L E M N Q R S bi V X C a b q r [.n r false,.b (decide ((A.length:Int)>0)) true])):
ar 164 [.agg (bl C a b),.agg (ba F A G H aj K L E)] [.agg (ba M N Q R S bi V X),ah false]:=
h.of
def AX(A C E F G H aj K L M N P Q R S bi V:ae)(a b:Int)(q r:Bool)(l:List O):List O:=AW A C E F G H aj K L M N P Q R S bi V a b q r (.n r false::.b (decide ((C.length:Int)>0)) false::l)
theorem afO(h:ad (AX A C G H aj K L F M N Q R S bi V X E a b q r [.b (decide ((A.length:Int)>0)) true])):
ar 164 [.agg (bl E a b),.agg (ba A C G H aj K L F)] [.agg (ba M N Q R S bi V X),ah false]:=
h.of
theorem afP(h:ad (AX A C E H aj K L G M N Q R S bi V X F a b q r [.b (decide ((A.length:Int)>0)) false,.b ((E.length:Int)==0) true])):
ar 164 [.agg (bl F a b),.agg (ba A C E H aj K L G)] [.agg (ba M N Q R S bi V X),ah false]:=
h.of
theorem afQ(h:ad (AX E F C K L M N H aj Q A R S bi V X G f g q r [.b (decide ((E.length:Int)>0)) false,.b ((C.length:Int)==0) false,.p ((0:Int)<=0),.p (0<(C.length:Int)),.e C 0 (bj a b c d e),.a .own,.g aj [(bj a b c d e)] 40,.h [(bj a b c d e)],.p ((0:Int)<=(some (1:Int)).getD 0),.p ((some (1:Int)).getD 0<=none.getD (A.length:Int)),.p (none.getD (A.length:Int)<=(A.length:Int))])):
ar 164 [.agg (bl G f g),.agg (ba E F C K L M N H)] [.agg (ba (aj++[(bj a b c d e)]) Q (List.take (A.length-1) (List.drop 1 A)) R S bi V X),ah true]:=
h.of
theorem afR(h:ad (Ma N Q R S bi V X C E F G H aj K L M A a b q [.n q true])):
ar 169 [.agg (bl A a b),.agg (ba N Q R S bi V X C)] [.agg (ba E F G H aj K L M),ah false]:=
h.of
theorem afS(h:ad (AW E F G H aj K L C M N Q R S bi V X A a b q r [.n r true])):
ar 169 [.agg (bl A a b),.agg (ba E F G H aj K L C)] [.agg (ba M N Q R S bi V X),ah false]:=
h.of
theorem afT(h:ad (AW F A G H aj K L E M N Q R S bi V X C a b q r [.n r false,.b (decide ((A.length:Int)>0)) true])):
ar 169 [.agg (bl C a b),.agg (ba F A G H aj K L E)] [.agg (ba M N Q R S bi V X),ah false]:=
h.of
theorem afU(h:ad (AX A C G H aj K L F M N Q R S bi V X E a b q r [.b ((A.length:Int)==0) true])):
ar 169 [.agg (bl E a b),.agg (ba A C G H aj K L F)] [.agg (ba M N Q R S bi V X),ah false]:=
h.of
def Vi(A C E F G H aj K L M N P Q R S bi V:ae)(a b:Int)(q r:Bool)(c d e f g:Int)(X Y:ae)(s t:Bool)(l:List O):List O:=AX A C E F G H aj K L M N P Q R S bi V a b q r (.b ((A.length:Int)==0) false::.p ((0:Int)<=0)::.p (0<(A.length:Int))::.e A 0 (bj c d e f g)::.a .own::.p ((0:Int)<=(some (1:Int)).getD 0)::.p ((some (1:Int)).getD 0<=none.getD (L.length:Int))::.p (none.getD (L.length:Int)<=(L.length:Int))::.r 232 [.agg (bl V a b),aP 4 F,.agg (bj c d e f g)] [aP 4 X,aP 5 Y,ah s]::.r 265 [.agg (bl V a b),.agg (bj c d e f g)] [ah t]::l)
theorem afV{E:ae}{a b:Int}{C F K G L M N H A Y Q Z R S aj bi:ae}{q r:Bool}{d c e f g:Int}{V X:ae}{t s:Bool}{d30:D}(h:ad (Vi C F K G L M N H A Y Q Z R S aj bi E a b q r d c e f g V X t s [.b s true,.x aj c [d30]])):
ar 169 [.agg (bl E a b),.agg (ba C F K G L M N H)] [.agg (ba (List.take (A.length-1) (List.drop 1 A)) X Q V R S (aj.set c.toNat [B true]) bi),ah true]:=
h.of
theorem afW(h:ad (Vi C F aj G K L M H A Y N Z Q R S bi E a b q r c d e f g V X t s [.b s false])):
ar 169 [.agg (bl E a b),.agg (ba C F aj G K L M H)] [.agg (ba (List.take (A.length-1) (List.drop 1 A)) X N V Q R S bi),ah true]:=
h.of
theorem S8(h:ad [.r 55 [.agg (cl C a b A E F G)] [ah q],.b q true,.v ((A.length:Int)-1),.r 190 [af c,af 0,af ((A.length:Int)-1)] [ah r]]):
ar 145 [.agg (cl C a b A E F G),af c] [ah r]:=
h.of
theorem afX(h:ad [.r 55 [.agg (cl A a b C E F G)] [ah q],.b q false]):
ar 145 [.agg (cl A a b C E F G),af c] [ah false]:=
h.of
