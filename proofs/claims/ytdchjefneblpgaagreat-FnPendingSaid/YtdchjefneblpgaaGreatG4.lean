import Derived.Test.YtdchjefneblpgaaGreatGE
set_option linter.unusedVariables false
set_option linter.unusedSimpArgs false
namespace Go.Proofs.YtdchjefneblpgaaGreat
open Go.Sx Go.RowKit
variable {a b c d e f g : Int} {A C E F G H aw K L M N Q R S bO V X Y Z : ai} {q r s t : Bool}
def FC(A C E F G H aw K L M N P Q R S bO:ai)(l:List O):List O:=.r 174 [.agg (bz A C E F G H aw K)] [.agg (bz L M N P Q R S bO)]::l
theorem ahV(h:ak (FC C E M N Q R S bO V A F G H aw K L [.b ((A.length:Int)==0) true])):
 aK 351 [.agg (bz C E M N Q R S bO)] [.agg (bz V A F G H aw K L),.agg (bu 0 0 0 0 0),aI false]:=
 h.of
theorem ahW(h:ak (FC C E M N Q R S bO V A F G H aw K L [.b ((A.length:Int)==0) false,.p ((0:Int)<=0),.p (0<(A.length:Int)),.e A 0 (bu a b c d e),.p ((0:Int)<=(some (1:Int)).getD 0),.p ((some (1:Int)).getD 0<=none.getD (A.length:Int)),.p (none.getD (A.length:Int)<=(A.length:Int)),.g ([]:ai) (List.take (A.length-1) (List.drop 1 A)) 40,.h (List.take (A.length-1) (List.drop 1 A))])):
 aK 351 [.agg (bz C E M N Q R S bO)] [.agg (bz V ([]++List.take (A.length-1) (List.drop 1 A)) F G H aw K L),.agg (bu a b c d e),aI true]:=
 h.of
theorem ahX(h:ak (FC C E M Q R S bO V A F G H aw K L N [.g A [(bu d e a b c)] 40,.h [(bu d e a b c)]])):
 aK 376 [.agg (bz C E M Q R S bO V),.agg (bu d e a b c)] [.agg (bz (A++[(bu d e a b c)]) F G H aw K L N)]:=
 h.of
theorem ahY{E F M Q R S bO V:ai}{f a c d e:Int}{G H aw K A C L N:ai}{q:Bool}{b:Int}{d23 d24:D}(h:ak [.r 376 [.agg (bz E F M Q R S bO V),.agg (bu f a c d e)] [.agg (bz G H aw K A C L N)],.v ((A.length:Int)-1),.r 168 [al a,al 0,al ((A.length:Int)-1)] [aI q],.b q true,.f C a true,.x A a [I b],.v (b-1),.x A a [d23],.x C a [d24]]):
 aK 349 [.agg (bz E F M Q R S bO V),.agg (bu f a c d e)] [.agg (bz G H aw K (A.set a.toNat [I (b-1)]) (C.set a.toNat [B true]) L N)]:=
 h.of
def Mi(A C E F G H aw K L M N P Q R S bO V:ai)(a b:Int)(q:Bool)(l:List O):List O:=FC A C E F G H aw K L M N P Q R S bO (.r 121 [.agg (bS V a b)] [aI q]::l)
theorem ahZ(h:ak (Mi N Q R S bO V X C E F G H aw K L M A a b q [.n q true])):
 aK 348 [.agg (bS A a b),.agg (bz N Q R S bO V X C)] [.agg (bz E F G H aw K L M),aI false]:=
 h.of
def B2(A C E F G H aw K L M N P Q R S bO V:ai)(a b:Int)(q r:Bool)(l:List O):List O:=Mi A C E F G H aw K L M N P Q R S bO V a b q (.n q false::.r 175 [.agg (bS V a b),.agg (bz L M N P Q R S bO)] [aI r]::l)
theorem ah0(h:ak (B2 N Q R S bO V X M C E F G H aw K L A a b q r [.n r true])):
 aK 348 [.agg (bS A a b),.agg (bz N Q R S bO V X M)] [.agg (bz C E F G H aw K L),aI false]:=
 h.of
theorem ah1(h:ak (B2 N Q R S bO V X M E A F G H aw K L C a b q r [.n r false,.b (decide ((A.length:Int)>0)) true])):
 aK 348 [.agg (bS C a b),.agg (bz N Q R S bO V X M)] [.agg (bz E A F G H aw K L),aI false]:=
 h.of
def B3(A C E F G H aw K L M N P Q R S bO V:ai)(a b:Int)(q r:Bool)(l:List O):List O:=B2 A C E F G H aw K L M N P Q R S bO V a b q r (.n r false::.b (decide ((M.length:Int)>0)) false::l)
theorem ah2(h:ak (B3 N Q R S bO V X M A C F G H aw K L E a b q r [.b (decide ((A.length:Int)>0)) true])):
 aK 348 [.agg (bS E a b),.agg (bz N Q R S bO V X M)] [.agg (bz A C F G H aw K L),aI false]:=
 h.of
theorem ah3(h:ak (B3 N Q R S bO V X M A C E G H aw K L F a b q r [.b (decide ((A.length:Int)>0)) false,.b ((E.length:Int)==0) true])):
 aK 348 [.agg (bS F a b),.agg (bz N Q R S bO V X M)] [.agg (bz A C E G H aw K L),aI false]:=
 h.of
theorem ah4(h:ak (B3 N Q R S bO V X M C E A G H aw K L F f g q r [.b (decide ((C.length:Int)>0)) false,.b ((A.length:Int)==0) false,.p ((0:Int)<=0),.p (0<(A.length:Int)),.e A 0 (bu a b c d e),.g C [(bu a b c d e)] 40,.h [(bu a b c d e)],.p ((0:Int)<=(some (1:Int)).getD 0),.p ((some (1:Int)).getD 0<=none.getD (A.length:Int)),.p (none.getD (A.length:Int)<=(A.length:Int)),.g ([]:ai) (List.take (A.length-1) (List.drop 1 A)) 40,.h (List.take (A.length-1) (List.drop 1 A))])):
 aK 348 [.agg (bS F f g),.agg (bz N Q R S bO V X M)] [.agg (bz (C++[(bu a b c d e)]) E ([]++List.take (A.length-1) (List.drop 1 A)) G H aw K L),aI true]:=
 h.of
theorem ah5(h:ak (Mi N Q R S bO V X C E F G H aw K L M A a b q [.n q true])):
 aK 48 [.agg (bS A a b),.agg (bz N Q R S bO V X C)] [.agg (bz E F G H aw K L M),aI false]:=
 h.of
theorem ah6(h:ak (B2 N Q R S bO V X M C E F G H aw K L A a b q r [.n r true])):
 aK 48 [.agg (bS A a b),.agg (bz N Q R S bO V X M)] [.agg (bz C E F G H aw K L),aI false]:=
 h.of
theorem ah7(h:ak (B2 N Q R S bO V X M E A F G H aw K L C a b q r [.n r false,.b (decide ((A.length:Int)>0)) true])):
 aK 48 [.agg (bS C a b),.agg (bz N Q R S bO V X M)] [.agg (bz E A F G H aw K L),aI false]:=
 h.of
theorem ah8(h:ak (B3 N Q R S bO V X M A C F G H aw K L E a b q r [.b ((A.length:Int)==0) true])):
 aK 48 [.agg (bS E a b),.agg (bz N Q R S bO V X M)] [.agg (bz A C F G H aw K L),aI false]:=
 h.of
def Vs(A C E F G H aw K L M N P Q R S bO V:ai)(a b:Int)(q r:Bool)(c d e f g:Int)(X Y:ai)(s t:Bool)(l:List O):List O:=B3 A C E F G H aw K L M N P Q R S bO V a b q r (.b ((L.length:Int)==0) false::.p ((0:Int)<=0)::.p (0<(L.length:Int))::.e L 0 (bu c d e f g)::.r 176 [.agg (bS V a b),a7 4 P,.agg (bu c d e f g)] [a7 4 X,a7 5 Y,aI s]::.p ((0:Int)<=(some (1:Int)).getD 0)::.p ((some (1:Int)).getD 0<=none.getD (L.length:Int))::.p (none.getD (L.length:Int)<=(L.length:Int))::.g ([]:ai) (List.take (L.length-1) (List.drop 1 L)) 40::.h (List.take (L.length-1) (List.drop 1 L))::.r 177 [.agg (bS V a b),.agg (bu c d e f g)] [aI t]::l)
theorem ah9{C:ai}{a b:Int}{R S bO V X Y Z M A F G H aw K E L:ai}{q r:Bool}{d c e f g:Int}{N Q:ai}{t s:Bool}{d30:D}(h:ak (Vs R S bO V X Y Z M A F G H aw K E L C a b q r d c e f g N Q t s [.b s true,.x E c [d30]])):
 aK 48 [.agg (bS C a b),.agg (bz R S bO V X Y Z M)] [.agg (bz ([]++List.take (A.length-1) (List.drop 1 A)) Q G N aw K (E.set c.toNat [B true]) L),aI true]:=
 h.of
theorem aia(h:ak (Vs R S bO V X Y Z M A E F G H aw K L C a b q r c d e f g N Q t s [.b s false])):
 aK 48 [.agg (bS C a b),.agg (bz R S bO V X Y Z M)] [.agg (bz ([]++List.take (A.length-1) (List.drop 1 A)) Q F N H aw K L),aI true]:=
 h.of
