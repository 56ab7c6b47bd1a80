import Derived.Test.YtdchjefneblpgaaGreatGE
set_option linter.unusedVariables false
set_option linter.unusedSimpArgs false
namespace Go.Proofs.YtdchjefneblpgaaGreat
open Go.Sx Go.RowKit
variable {a b c d e f g : Int} {A C E F G H aj K L M N Q R S bi V X Y Z eg hR iF iG iH iI jM se sf tN tO tP sg sh xH : ae} {q r s t : Bool}
def ED(A:ae)(a b:Int)(C E F G H:ae)(c d:Int)(aj K L M:ae)(e:Int)(q:Bool)(l:List O):List O:=.r 144 [.agg (cl A a b C E F G)] [.agg (cl H c d aj K L M)]::.r 145 [.agg (cl A a b C E F G),af e] [ag q]::l
theorem S4(h:ad (ED A a b C E F G M e c H aj K L d q [.n q true])):
 ar 36 [.agg (cl A a b C E F G),af d] [.agg (cl M e c H aj K L),ag false]:=
 h.of
theorem afF{A:ae}{b c:Int}{C F G H:ae}{a:Int}{jM:ae}{e d:Int}{E aj K L:ae}{q:Bool}{M N Q R S bi V X Y Z eg hR iF iG iH iI:ae}{r:Bool}{d33 d34 d35 d36 d37 d38 d39 d40:D}(h:ad (ED A b c C F G H jM e d E aj K L a q [.n q false,.x C a (ba M N Q R S bi V X),.r 164 [.agg (bk A b c),.agg (ba M N Q R S bi V X)] [.agg (ba Y Z eg hR iF iG iH iI),ag r],.x E a [d33,d34,d35,d36,d37,d38,d39,d40]])):
 ar 36 [.agg (cl A b c C F G H),af a] [.agg (cl jM e d (E.set a.toNat (ba Y Z eg hR iF iG iH iI)) aj K L),ag r]:=
 h.of
theorem S5(h:ad (ED A a b C E F G M e c H aj K L d q [.n q true])):
 ar 44 [.agg (cl A a b C E F G),af d] [.agg (cl M e c H aj K L),ag false]:=
 h.of
theorem afG(h:ad (ED A b c C F G H jM e d E aj K L a q [.n q false,.x C a (ba M N Q R S bi V X),.r 169 [.agg (bk A b c),.agg (ba M N Q R S bi V X)] [.agg (ba Y Z eg hR iF iG iH iI),ag r],.x E a (ba se sf tN tO tP sg sh xH)])):
 ar 44 [.agg (cl A b c C F G H),af a] [.agg (cl jM e d (E.set a.toNat (ba Y Z eg hR iF iG iH iI)) aj K L),ag r]:=
 h.of
def L9(A C E F G H aj K L M N P Q R S bi V:ae)(a b:Int)(q:Bool)(l:List O):List O:=.r 255 [.agg (ba A C E F G H aj K)] [.agg (ba L M N P Q R S bi)]::.r 179 [.agg (bk V a b)] [ag q]::l
theorem afH(h:ad (L9 N Q R S bi V X C E F G H aj K L M A a b q [.n q true])):
 ar 164 [.agg (bk A a b),.agg (ba N Q R S bi V X C)] [.agg (ba E F G H aj K L M),ag false]:=
 h.of
def AU(A C E F G H aj K L M N P Q R S bi V:ae)(a b:Int)(q r:Bool)(l:List O):List O:=L9 A C E F G H aj K L M N P Q R S bi V a b q (.n q false::.r 187 [.agg (bk V a b),.agg (ba A C E F G H aj K)] [ag r]::l)
theorem afI(h:ad (AU E F G H aj K L C M N Q R S bi V X A a b q r [.n r true])):
 ar 164 [.agg (bk A a b),.agg (ba E F G H aj K L C)] [.agg (ba M N Q R S bi V X),ag false]:=
 h.of
theorem afJ(h:ad (AU F A G H aj K L E M N Q R S bi V X C a b q r [.n r false,.b (decide ((A.length:Int)>0)) true])):
 ar 164 [.agg (bk C a b),.agg (ba F A G H aj K L E)] [.agg (ba M N Q R S bi V X),ag false]:=
 h.of
def AV(A C E F G H aj K L M N P Q R S bi V:ae)(a b:Int)(q r:Bool)(l:List O):List O:=AU A C E F G H aj K L M N P Q R S bi V a b q r (.n r false::.b (decide ((C.length:Int)>0)) false::l)
theorem afK(h:ad (AV A C G H aj K L F M N Q R S bi V X E a b q r [.b (decide ((A.length:Int)>0)) true])):
 ar 164 [.agg (bk E a b),.agg (ba A C G H aj K L F)] [.agg (ba M N Q R S bi V X),ag false]:=
 h.of
theorem afL(h:ad (AV A C E H aj K L G M N Q R S bi V X F a b q r [.b (decide ((A.length:Int)>0)) false,.b ((E.length:Int)==0) true])):
 ar 164 [.agg (bk F a b),.agg (ba A C E H aj K L G)] [.agg (ba M N Q R S bi V X),ag false]:=
 h.of
theorem afM(h:ad (AV E F C K L M N H aj Q A R S bi V X G f g q r [.b (decide ((E.length:Int)>0)) false,.b ((C.length:Int)==0) false,.p ((0:Int)<=0),.p (0<(C.length:Int)),.e C 0 (bj a b c d e),.a .own,.g aj [(bj a b c d e)] 40,.h [(bj a b c d e)],.p ((0:Int)<=(some (1:Int)).getD 0),.p ((some (1:Int)).getD 0<=none.getD (A.length:Int)),.p (none.getD (A.length:Int)<=(A.length:Int))])):
 ar 164 [.agg (bk G f g),.agg (ba E F C K L M N H)] [.agg (ba (aj++[(bj a b c d e)]) Q (List.take (A.length-1) (List.drop 1 A)) R S bi V X),ag true]:=
 h.of
theorem afN(h:ad (L9 N Q R S bi V X C E F G H aj K L M A a b q [.n q true])):
 ar 169 [.agg (bk A a b),.agg (ba N Q R S bi V X C)] [.agg (ba E F G H aj K L M),ag false]:=
 h.of
theorem afO(h:ad (AU E F G H aj K L C M N Q R S bi V X A a b q r [.n r true])):
 ar 169 [.agg (bk A a b),.agg (ba E F G H aj K L C)] [.agg (ba M N Q R S bi V X),ag false]:=
 h.of
theorem afP(h:ad (AU F A G H aj K L E M N Q R S bi V X C a b q r [.n r false,.b (decide ((A.length:Int)>0)) true])):
 ar 169 [.agg (bk C a b),.agg (ba F A G H aj K L E)] [.agg (ba M N Q R S bi V X),ag false]:=
 h.of
theorem afQ(h:ad (AV A C G H aj K L F M N Q R S bi V X E a b q r [.b ((A.length:Int)==0) true])):
 ar 169 [.agg (bk E a b),.agg (ba A C G H aj K L F)] [.agg (ba M N Q R S bi V X),ag false]:=
 h.of
def Vg(A C E F G H aj K L M N P Q R S bi V:ae)(a b:Int)(q r:Bool)(c d e f g:Int)(X Y:ae)(s t:Bool)(l:List O):List O:=AV A C E F G H aj K L M N P Q R S bi V a b q r (.b ((A.length:Int)==0) false::.p ((0:Int)<=0)::.p (0<(A.length:Int))::.e A 0 (bj c d e f g)::.a .own::.p ((0:Int)<=(some (1:Int)).getD 0)::.p ((some (1:Int)).getD 0<=none.getD (L.length:Int))::.p (none.getD (L.length:Int)<=(L.length:Int))::.r 232 [.agg (bk V a b),aP 4 F,.agg (bj c d e f g)] [aP 4 X,aP 5 Y,ag s]::.r 265 [.agg (bk V a b),.agg (bj c d e f g)] [ag t]::l)
theorem afR{E:ae}{a b:Int}{C F K G L M N H A Y Q Z R S aj bi:ae}{q r:Bool}{d c e f g:Int}{V X:ae}{t s:Bool}{d30:D}(h:ad (Vg C F K G L M N H A Y Q Z R S aj bi E a b q r d c e f g V X t s [.b s true,.x aj c [d30]])):
 ar 169 [.agg (bk E a b),.agg (ba C F K G L M N H)] [.agg (ba (List.take (A.length-1) (List.drop 1 A)) X Q V R S (aj.set c.toNat [B true]) bi),ag true]:=
 h.of
theorem afS(h:ad (Vg C F aj G K L M H A Y N Z Q R S bi E a b q r c d e f g V X t s [.b s false])):
 ar 169 [.agg (bk E a b),.agg (ba C F aj G K L M H)] [.agg (ba (List.take (A.length-1) (List.drop 1 A)) X N V Q R S bi),ag true]:=
 h.of
theorem S6(h:ad [.r 55 [.agg (cl C a b A E F G)] [ag q],.b q true,.v ((A.length:Int)-1),.r 190 [af c,af 0,af ((A.length:Int)-1)] [ag r]]):
 ar 145 [.agg (cl C a b A E F G),af c] [ag r]:=
 h.of
theorem afT(h:ad [.r 55 [.agg (cl A a b C E F G)] [ag q],.b q false]):
 ar 145 [.agg (cl A a b C E F G),af c] [ag false]:=
 h.of
