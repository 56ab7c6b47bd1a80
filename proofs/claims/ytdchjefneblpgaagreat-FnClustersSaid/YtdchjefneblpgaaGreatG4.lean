import Derived.Test.YtdchjefneblpgaaGreatGE
set_option linter.unusedVariables false
set_option linter.unusedSimpArgs false
namespace Go.Proofs.YtdchjefneblpgaaGreat
open Go.Sx Go.RowKit
variable {a b c d e f g : Int} {A C E F G H au K L M N Q R S bz V X Y Z : ah} {q r s t : Bool}
def Gm(A C E F G H au K L M N P Q R S bz:ah)(l:List O):List O:=.r 174 [.agg (bj A C E F G H au K)] [.agg (bj L M N P Q R S bz)]::l
theorem aqo(h:af (Gm C E M N Q R S bz V A F G H au K L [.b ((A.length:Int)==0) true])):
 aw 351 [.agg (bj C E M N Q R S bz)] [.agg (bj V A F G H au K L),.agg (bx 0 0 0 0 0),al false]:=
 h.of
theorem aqp(h:af (Gm C E M N Q R S bz V A F G H au K L [.b ((A.length:Int)==0) false,.p ((0:Int)<=0),.p (0<(A.length:Int)),.e A 0 (bx a b c d e),.p ((0:Int)<=(some (1:Int)).getD 0),.p ((some (1:Int)).getD 0<=none.getD (A.length:Int)),.p (none.getD (A.length:Int)<=(A.length:Int)),.g ([]:ah) (List.take (A.length-1) (List.drop 1 A)) 40,.h (List.take (A.length-1) (List.drop 1 A))])):
 aw 351 [.agg (bj C E M N Q R S bz)] [.agg (bj V ([]++List.take (A.length-1) (List.drop 1 A)) F G H au K L),.agg (bx a b c d e),al true]:=
 h.of
theorem aqq(h:af (Gm C E M Q R S bz V A F G H au K L N [.g A [(bx d e a b c)] 40,.h [(bx d e a b c)]])):
 aw 376 [.agg (bj C E M Q R S bz V),.agg (bx d e a b c)] [.agg (bj (A++[(bx d e a b c)]) F G H au K L N)]:=
 h.of
theorem aqr{E F M Q R S bz V:ah}{f a c d e:Int}{G H au K A C L N:ah}{q:Bool}{b:Int}{d23 d24:D}(h:af [.r 376 [.agg (bj E F M Q R S bz V),.agg (bx f a c d e)] [.agg (bj G H au K A C L N)],.v ((A.length:Int)-1),.r 168 [ao a,ao 0,ao ((A.length:Int)-1)] [al q],.b q true,.f C a true,.x A a [I b],.v (b-1),.x A a [d23],.x C a [d24]]):
 aw 349 [.agg (bj E F M Q R S bz V),.agg (bx f a c d e)] [.agg (bj G H au K (A.set a.toNat [I (b-1)]) (C.set a.toNat [B true]) L N)]:=
 h.of
def NU(A C E F G H au K L M N P Q R S bz V:ah)(a b:Int)(q:Bool)(l:List O):List O:=Gm A C E F G H au K L M N P Q R S bz (.r 121 [.agg (bt V a b)] [al q]::l)
theorem aqs(h:af (NU N Q R S bz V X C E F G H au K L M A a b q [.n q true])):
 aw 348 [.agg (bt A a b),.agg (bj N Q R S bz V X C)] [.agg (bj E F G H au K L M),al false]:=
 h.of
def Cy(A C E F G H au K L M N P Q R S bz V:ah)(a b:Int)(q r:Bool)(l:List O):List O:=NU A C E F G H au K L M N P Q R S bz V a b q (.n q false::.r 175 [.agg (bt V a b),.agg (bj L M N P Q R S bz)] [al r]::l)
theorem aqt(h:af (Cy N Q R S bz V X M C E F G H au K L A a b q r [.n r true])):
 aw 348 [.agg (bt A a b),.agg (bj N Q R S bz V X M)] [.agg (bj C E F G H au K L),al false]:=
 h.of
theorem aqu(h:af (Cy N Q R S bz V X M E A F G H au K L C a b q r [.n r false,.b (decide ((A.length:Int)>0)) true])):
 aw 348 [.agg (bt C a b),.agg (bj N Q R S bz V X M)] [.agg (bj E A F G H au K L),al false]:=
 h.of
def Cz(A C E F G H au K L M N P Q R S bz V:ah)(a b:Int)(q r:Bool)(l:List O):List O:=Cy A C E F G H au K L M N P Q R S bz V a b q r (.n r false::.b (decide ((M.length:Int)>0)) false::l)
theorem aqv(h:af (Cz N Q R S bz V X M A C F G H au K L E a b q r [.b (decide ((A.length:Int)>0)) true])):
 aw 348 [.agg (bt E a b),.agg (bj N Q R S bz V X M)] [.agg (bj A C F G H au K L),al false]:=
 h.of
theorem aqw(h:af (Cz N Q R S bz V X M A C E G H au K L F a b q r [.b (decide ((A.length:Int)>0)) false,.b ((E.length:Int)==0) true])):
 aw 348 [.agg (bt F a b),.agg (bj N Q R S bz V X M)] [.agg (bj A C E G H au K L),al false]:=
 h.of
theorem aqx(h:af (Cz N Q R S bz V X M C E A G H au K L F f g q r [.b (decide ((C.length:Int)>0)) false,.b ((A.length:Int)==0) false,.p ((0:Int)<=0),.p (0<(A.length:Int)),.e A 0 (bx a b c d e),.g C [(bx a b c d e)] 40,.h [(bx a b c d e)],.p ((0:Int)<=(some (1:Int)).getD 0),.p ((some (1:Int)).getD 0<=none.getD (A.length:Int)),.p (none.getD (A.length:Int)<=(A.length:Int)),.g ([]:ah) (List.take (A.length-1) (List.drop 1 A)) 40,.h (List.take (A.length-1) (List.drop 1 A))])):
 aw 348 [.agg (bt F f g),.agg (bj N Q R S bz V X M)] [.agg (bj (C++[(bx a b c d e)]) E ([]++List.take (A.length-1) (List.drop 1 A)) G H au K L),al true]:=
 h.of
theorem apY(h:af (NU N Q R S bz V X C E F G H au K L M A a b q [.n q true])):
 aw 48 [.agg (bt A a b),.agg (bj N Q R S bz V X C)] [.agg (bj E F G H au K L M),al false]:=
 h.of
theorem apZ(h:af (Cy N Q R S bz V X M C E F G H au K L A a b q r [.n r true])):
 aw 48 [.agg (bt A a b),.agg (bj N Q R S bz V X M)] [.agg (bj C E F G H au K L),al false]:=
 h.of
theorem ap0(h:af (Cy N Q R S bz V X M E A F G H au K L C a b q r [.n r false,.b (decide ((A.length:Int)>0)) true])):
 aw 48 [.agg (bt C a b),.agg (bj N Q R S bz V X M)] [.agg (bj E A F G H au K L),al false]:=
 h.of
theorem ap1(h:af (Cz N Q R S bz V X M A C F G H au K L E a b q r [.b ((A.length:Int)==0) true])):
 aw 48 [.agg (bt E a b),.agg (bj N Q R S bz V X M)] [.agg (bj A C F G H au K L),al false]:=
 h.of
def X4(A C E F G H au K L M N P Q R S bz V:ah)(a b:Int)(q r:Bool)(c d e f g:Int)(X Y:ah)(s t:Bool)(l:List O):List O:=Cz A C E F G H au K L M N P Q R S bz V a b q r (.b ((L.length:Int)==0) false::.p ((0:Int)<=0)::.p (0<(L.length:Int))::.e L 0 (bx c d e f g)::.r 176 [.agg (bt V a b),aM 4 P,.agg (bx c d e f g)] [aM 4 X,aM 5 Y,al s]::.p ((0:Int)<=(some (1:Int)).getD 0)::.p ((some (1:Int)).getD 0<=none.getD (L.length:Int))::.p (none.getD (L.length:Int)<=(L.length:Int))::.g ([]:ah) (List.take (L.length-1) (List.drop 1 L)) 40::.h (List.take (L.length-1) (List.drop 1 L))::.r 177 [.agg (bt V a b),.agg (bx c d e f g)] [al t]::l)
theorem ap2{C:ah}{a b:Int}{R S bz V X Y Z M A F G H au K E L:ah}{q r:Bool}{d c e f g:Int}{N Q:ah}{t s:Bool}{d30:D}(h:af (X4 R S bz V X Y Z M A F G H au K E L C a b q r d c e f g N Q t s [.b s true,.x E c [d30]])):
 aw 48 [.agg (bt C a b),.agg (bj R S bz V X Y Z M)] [.agg (bj ([]++List.take (A.length-1) (List.drop 1 A)) Q G N au K (E.set c.toNat [B true]) L),al true]:=
 h.of
theorem ap3(h:af (X4 R S bz V X Y Z M A E F G H au K L C a b q r c d e f g N Q t s [.b s false])):
 aw 48 [.agg (bt C a b),.agg (bj R S bz V X Y Z M)] [.agg (bj ([]++List.take (A.length-1) (List.drop 1 A)) Q F N H au K L),al true]:=
 h.of
