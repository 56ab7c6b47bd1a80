import Derived.Test.YtdchjefneblpgaaGreatGE
set_option linter.unusedVariables false
set_option linter.unusedSimpArgs false
namespace Go.Proofs.YtdchjefneblpgaaGreat
open Go.Sx Go.RowKit
variable {a b c d e f g : Int} {A C E F G H af K L M N Q R S bb V X Y Z : ae} {q r s t : Bool}
def Hl(A C E F G H af K L M N P Q R S bb:ae)(l:List O):List O:=.r 174 [.agg (aW A C E F G H af K)] [.agg (aW L M N P Q R S bb)]::l
theorem auw(h:ad (Hl C E M N Q R S bb V A F G H af K L [.b ((A.length:Int)==0) true])):
 al 351 [.agg (aW C E M N Q R S bb)] [.agg (aW V A F G H af K L),.agg (aS 0 0 0 0 0),ai false]:=
 h.of
theorem auy(h:ad (Hl C E M N Q R S bb V A F G H af K L [.b ((A.length:Int)==0) false,.p ((0:Int)<=0),.p (0<(A.length:Int)),.e A 0 (aS a b c d e),.p ((0:Int)<=(some (1:Int)).getD 0),.p ((some (1:Int)).getD 0<=none.getD (A.length:Int)),.p (none.getD (A.length:Int)<=(A.length:Int)),.g ([]:ae) (List.take (A.length-1) (List.drop 1 A)) 40,.h (List.take (A.length-1) (List.drop 1 A))])):
 al 351 [.agg (aW C E M N Q R S bb)] [.agg (aW V ([]++List.take (A.length-1) (List.drop 1 A)) F G H af K L),.agg (aS a b c d e),ai true]:=
 h.of
theorem auz(h:ad (Hl C E M Q R S bb V A F G H af K L N [.g A [(aS d e a b c)] 40,.h [(aS d e a b c)]])):
 al 376 [.agg (aW C E M Q R S bb V),.agg (aS d e a b c)] [.agg (aW (A++[(aS d e a b c)]) F G H af K L N)]:=
 h.of
theorem auA{E F M Q R S bb V:ae}{f a c d e:Int}{G H af K A C L N:ae}{q:Bool}{b:Int}{d23 d24:D}(h:ad [.r 376 [.agg (aW E F M Q R S bb V),.agg (aS f a c d e)] [.agg (aW G H af K A C L N)],.v ((A.length:Int)-1),.r 168 [ag a,ag 0,ag ((A.length:Int)-1)] [ai q],.b q true,.f C a true,.x A a [I b],.v (b-1),.x A a [d23],.x C a [d24]]):
 al 349 [.agg (aW E F M Q R S bb V),.agg (aS f a c d e)] [.agg (aW G H af K (A.set a.toNat [I (b-1)]) (C.set a.toNat [B true]) L N)]:=
 h.of
def Pf(A C E F G H af K L M N P Q R S bb V:ae)(a b:Int)(q:Bool)(l:List O):List O:=Hl A C E F G H af K L M N P Q R S bb (.r 121 [.agg (bA V a b)] [ai q]::l)
theorem auB(h:ad (Pf N Q R S bb V X C E F G H af K L M A a b q [.n q true])):
 al 348 [.agg (bA A a b),.agg (aW N Q R S bb V X C)] [.agg (aW E F G H af K L M),ai false]:=
 h.of
def C5(A C E F G H af K L M N P Q R S bb V:ae)(a b:Int)(q r:Bool)(l:List O):List O:=Pf A C E F G H af K L M N P Q R S bb V a b q (.n q false::.r 175 [.agg (bA V a b),.agg (aW L M N P Q R S bb)] [ai r]::l)
theorem auC(h:ad (C5 N Q R S bb V X M C E F G H af K L A a b q r [.n r true])):
 al 348 [.agg (bA A a b),.agg (aW N Q R S bb V X M)] [.agg (aW C E F G H af K L),ai false]:=
 h.of
theorem auD(h:ad (C5 N Q R S bb V X M E A F G H af K L C a b q r [.n r false,.b (decide ((A.length:Int)>0)) true])):
 al 348 [.agg (bA C a b),.agg (aW N Q R S bb V X M)] [.agg (aW E A F G H af K L),ai false]:=
 h.of
def C6(A C E F G H af K L M N P Q R S bb V:ae)(a b:Int)(q r:Bool)(l:List O):List O:=C5 A C E F G H af K L M N P Q R S bb V a b q r (.n r false::.b (decide ((M.length:Int)>0)) false::l)
theorem auE(h:ad (C6 N Q R S bb V X M A C F G H af K L E a b q r [.b (decide ((A.length:Int)>0)) true])):
 al 348 [.agg (bA E a b),.agg (aW N Q R S bb V X M)] [.agg (aW A C F G H af K L),ai false]:=
 h.of
theorem auF(h:ad (C6 N Q R S bb V X M A C E G H af K L F a b q r [.b (decide ((A.length:Int)>0)) false,.b ((E.length:Int)==0) true])):
 al 348 [.agg (bA F a b),.agg (aW N Q R S bb V X M)] [.agg (aW A C E G H af K L),ai false]:=
 h.of
theorem auG(h:ad (C6 N Q R S bb V X M C E A G H af K L F f g q r [.b (decide ((C.length:Int)>0)) false,.b ((A.length:Int)==0) false,.p ((0:Int)<=0),.p (0<(A.length:Int)),.e A 0 (aS a b c d e),.g C [(aS a b c d e)] 40,.h [(aS a b c d e)],.p ((0:Int)<=(some (1:Int)).getD 0),.p ((some (1:Int)).getD 0<=none.getD (A.length:Int)),.p (none.getD (A.length:Int)<=(A.length:Int)),.g ([]:ae) (List.take (A.length-1) (List.drop 1 A)) 40,.h (List.take (A.length-1) (List.drop 1 A))])):
 al 348 [.agg (bA F f g),.agg (aW N Q R S bb V X M)] [.agg (aW (C++[(aS a b c d e)]) E ([]++List.take (A.length-1) (List.drop 1 A)) G H af K L),ai true]:=
 h.of
theorem auH(h:ad (Pf N Q R S bb V X C E F G H af K L M A a b q [.n q true])):
 al 48 [.agg (bA A a b),.agg (aW N Q R S bb V X C)] [.agg (aW E F G H af K L M),ai false]:=
 h.of
theorem auI(h:ad (C5 N Q R S bb V X M C E F G H af K L A a b q r [.n r true])):
 al 48 [.agg (bA A a b),.agg (aW N Q R S bb V X M)] [.agg (aW C E F G H af K L),ai false]:=
 h.of
theorem at8(h:ad (C5 N Q R S bb V X M E A F G H af K L C a b q r [.n r false,.b (decide ((A.length:Int)>0)) true])):
 al 48 [.agg (bA C a b),.agg (aW N Q R S bb V X M)] [.agg (aW E A F G H af K L),ai false]:=
 h.of
theorem at9(h:ad (C6 N Q R S bb V X M A C F G H af K L E a b q r [.b ((A.length:Int)==0) true])):
 al 48 [.agg (bA E a b),.agg (aW N Q R S bb V X M)] [.agg (aW A C F G H af K L),ai false]:=
 h.of
def Za(A C E F G H af K L M N P Q R S bb V:ae)(a b:Int)(q r:Bool)(c d e f g:Int)(X Y:ae)(s t:Bool)(l:List O):List O:=C6 A C E F G H af K L M N P Q R S bb V a b q r (.b ((L.length:Int)==0) false::.p ((0:Int)<=0)::.p (0<(L.length:Int))::.e L 0 (aS c d e f g)::.r 176 [.agg (bA V a b),aC 4 P,.agg (aS c d e f g)] [aC 4 X,aC 5 Y,ai s]::.p ((0:Int)<=(some (1:Int)).getD 0)::.p ((some (1:Int)).getD 0<=none.getD (L.length:Int))::.p (none.getD (L.length:Int)<=(L.length:Int))::.g ([]:ae) (List.take (L.length-1) (List.drop 1 L)) 40::.h (List.take (L.length-1) (List.drop 1 L))::.r 177 [.agg (bA V a b),.agg (aS c d e f g)] [ai t]::l)
theorem aua{C:ae}{a b:Int}{R S bb V X Y Z M A F G H af K E L:ae}{q r:Bool}{d c e f g:Int}{N Q:ae}{t s:Bool}{d30:D}(h:ad (Za R S bb V X Y Z M A F G H af K E L C a b q r d c e f g N Q t s [.b s true,.x E c [d30]])):
 al 48 [.agg (bA C a b),.agg (aW R S bb V X Y Z M)] [.agg (aW ([]++List.take (A.length-1) (List.drop 1 A)) Q G N af K (E.set c.toNat [B true]) L),ai true]:=
 h.of
theorem aub(h:ad (Za R S bb V X Y Z M A E F G H af K L C a b q r c d e f g N Q t s [.b s false])):
 al 48 [.agg (bA C a b),.agg (aW R S bb V X Y Z M)] [.agg (aW ([]++List.take (A.length-1) (List.drop 1 A)) Q F N H af K L),ai true]:=
 h.of
