import Derived.Test.YthfnndblgbjniaaGreatGE
namespace Go.Proofs.YthfnndblgbjniaaGreat
open Go.Sx Go.RowKit
variable {a b c d e f g : Int} {A C E F G H aj K L M N Q R S bc V X Y Z : af} {q r s t : Bool}
def IM(A C E F G H aj K L M N P Q R S bc:af)(l:List O):List O:=.r 177 [.agg (aX A C E F G H aj K)] [.agg (aX L M N P Q R S bc)]::l
theorem axt(h:ad (IM C E M N Q R S bc V A F G H aj K L [.b ((A.length:Int)==0) true])):
 ar 155 [.agg (aX C E M N Q R S bc)] [.agg (aX V A F G H aj K L),.agg (bi 0 0 0 0 0),ak false]:=
 h.of
theorem axu(h:ad (IM C E M N Q R S bc V A F G H aj K L [.b ((A.length:Int)==0) false,.p ((0:Int)<=0),.p (0<(A.length:Int)),.e A 0 (bi a b c d e),.p ((0:Int)<=(some (1:Int)).getD 0),.p ((some (1:Int)).getD 0<=none.getD (A.length:Int)),.p (none.getD (A.length:Int)<=(A.length:Int)),.g ([]:af) (List.take (A.length-1) (List.drop 1 A)) 40,.h (List.take (A.length-1) (List.drop 1 A))])):
 ar 155 [.agg (aX C E M N Q R S bc)] [.agg (aX V ([]++List.take (A.length-1) (List.drop 1 A)) F G H aj K L),.agg (bi a b c d e),ak true]:=
 h.of
theorem axv(h:ad (IM C E M Q R S bc V A F G H aj K L N [.g A [(bi d e a b c)] 40,.h [(bi d e a b c)]])):
 ar 187 [.agg (aX C E M Q R S bc V),.agg (bi d e a b c)] [.agg (aX (A++[(bi d e a b c)]) F G H aj K L N)]:=
 h.of
theorem awW{E F M Q R S bc V:af}{f a c d e:Int}{G H aj K A C L N:af}{q:Bool}{b:Int}{d23 d24:D}(h:ad [.r 187 [.agg (aX E F M Q R S bc V),.agg (bi f a c d e)] [.agg (aX G H aj K A C L N)],.v ((A.length:Int)-1),.r 44 [ae a,ae 0,ae ((A.length:Int)-1)] [ak q],.b q true,.f C a true,.x A a [I b],.v (b-1),.x A a [d23],.x C a [d24]]):
 ar 153 [.agg (aX E F M Q R S bc V),.agg (bi f a c d e)] [.agg (aX G H aj K (A.set a.toNat [I (b-1)]) (C.set a.toNat [B true]) L N)]:=
 h.of
def Qz(A C E F G H aj K L M N P Q R S bc V:af)(a b:Int)(q:Bool)(l:List O):List O:=IM A C E F G H aj K L M N P Q R S bc (.r 55 [.agg (bz V a b)] [ak q]::l)
theorem awX(h:ad (Qz N Q R S bc V X C E F G H aj K L M A a b q [.n q true])):
 ar 152 [.agg (bz A a b),.agg (aX N Q R S bc V X C)] [.agg (aX E F G H aj K L M),ak false]:=
 h.of
def Ej(A C E F G H aj K L M N P Q R S bc V:af)(a b:Int)(q r:Bool)(l:List O):List O:=Qz A C E F G H aj K L M N P Q R S bc V a b q (.n q false::.r 73 [.agg (bz V a b),.agg (aX L M N P Q R S bc)] [ak r]::l)
theorem awY(h:ad (Ej N Q R S bc V X M C E F G H aj K L A a b q r [.n r true])):
 ar 152 [.agg (bz A a b),.agg (aX N Q R S bc V X M)] [.agg (aX C E F G H aj K L),ak false]:=
 h.of
theorem awZ(h:ad (Ej N Q R S bc V X M E A F G H aj K L C a b q r [.n r false,.b (decide ((A.length:Int)>0)) true])):
 ar 152 [.agg (bz C a b),.agg (aX N Q R S bc V X M)] [.agg (aX E A F G H aj K L),ak false]:=
 h.of
def Ek(A C E F G H aj K L M N P Q R S bc V:af)(a b:Int)(q r:Bool)(l:List O):List O:=Ej A C E F G H aj K L M N P Q R S bc V a b q r (.n r false::.b (decide ((M.length:Int)>0)) false::l)
theorem aw0(h:ad (Ek N Q R S bc V X M A C F G H aj K L E a b q r [.b (decide ((A.length:Int)>0)) true])):
 ar 152 [.agg (bz E a b),.agg (aX N Q R S bc V X M)] [.agg (aX A C F G H aj K L),ak false]:=
 h.of
theorem aw1(h:ad (Ek N Q R S bc V X M A C E G H aj K L F a b q r [.b (decide ((A.length:Int)>0)) false,.b ((E.length:Int)==0) true])):
 ar 152 [.agg (bz F a b),.agg (aX N Q R S bc V X M)] [.agg (aX A C E G H aj K L),ak false]:=
 h.of
theorem aw2(h:ad (Ek N Q R S bc V X M C E A G H aj K L F f g q r [.b (decide ((C.length:Int)>0)) false,.b ((A.length:Int)==0) false,.p ((0:Int)<=0),.p (0<(A.length:Int)),.e A 0 (bi a b c d e),.g C [(bi a b c d e)] 40,.h [(bi a b c d e)],.p ((0:Int)<=(some (1:Int)).getD 0),.p ((some (1:Int)).getD 0<=none.getD (A.length:Int)),.p (none.getD (A.length:Int)<=(A.length:Int)),.g ([]:af) (List.take (A.length-1) (List.drop 1 A)) 40,.h (List.take (A.length-1) (List.drop 1 A))])):
 ar 152 [.agg (bz F f g),.agg (aX N Q R S bc V X M)] [.agg (aX (C++[(bi a b c d e)]) E ([]++List.take (A.length-1) (List.drop 1 A)) G H aj K L),ak true]:=
 h.of
theorem aw3(h:ad (Qz N Q R S bc V X C E F G H aj K L M A a b q [.n q true])):
 ar 156 [.agg (bz A a b),.agg (aX N Q R S bc V X C)] [.agg (aX E F G H aj K L M),ak false]:=
 h.of
theorem aw4(h:ad (Ej N Q R S bc V X M C E F G H aj K L A a b q r [.n r true])):
 ar 156 [.agg (bz A a b),.agg (aX N Q R S bc V X M)] [.agg (aX C E F G H aj K L),ak false]:=
 h.of
theorem aw5(h:ad (Ej N Q R S bc V X M E A F G H aj K L C a b q r [.n r false,.b (decide ((A.length:Int)>0)) true])):
 ar 156 [.agg (bz C a b),.agg (aX N Q R S bc V X M)] [.agg (aX E A F G H aj K L),ak false]:=
 h.of
theorem ayw(h:ad (Ek N Q R S bc V X M A C F G H aj K L E a b q r [.b ((A.length:Int)==0) true])):
 ar 156 [.agg (bz E a b),.agg (aX N Q R S bc V X M)] [.agg (aX A C F G H aj K L),ak false]:=
 h.of
def aaX(A C E F G H aj K L M N P Q R S bc V:af)(a b:Int)(q r:Bool)(c d e f g:Int)(X Y:af)(s t:Bool)(l:List O):List O:=Ek A C E F G H aj K L M N P Q R S bc V a b q r (.b ((L.length:Int)==0) false::.p ((0:Int)<=0)::.p (0<(L.length:Int))::.e L 0 (bi c d e f g)::.r 180 [.agg (bz V a b),aP 4 P,.agg (bi c d e f g)] [aP 4 X,aP 5 Y,ak s]::.p ((0:Int)<=(some (1:Int)).getD 0)::.p ((some (1:Int)).getD 0<=none.getD (L.length:Int))::.p (none.getD (L.length:Int)<=(L.length:Int))::.g ([]:af) (List.take (L.length-1) (List.drop 1 L)) 40::.h (List.take (L.length-1) (List.drop 1 L))::.r 181 [.agg (bz V a b),.agg (bi c d e f g)] [ak t]::l)
theorem ayx{C:af}{a b:Int}{R S bc V X Y Z M A F G H aj K E L:af}{q r:Bool}{d c e f g:Int}{N Q:af}{t s:Bool}{d30:D}(h:ad (aaX R S bc V X Y Z M A F G H aj K E L C a b q r d c e f g N Q t s [.b s true,.x E c [d30]])):
 ar 156 [.agg (bz C a b),.agg (aX R S bc V X Y Z M)] [.agg (aX ([]++List.take (A.length-1) (List.drop 1 A)) Q G N aj K (E.set c.toNat [B true]) L),ak true]:=
 h.of
theorem ayy(h:ad (aaX R S bc V X Y Z M A E F G H aj K L C a b q r c d e f g N Q t s [.b s false])):
 ar 156 [.agg (bz C a b),.agg (aX R S bc V X Y Z M)] [.agg (aX ([]++List.take (A.length-1) (List.drop 1 A)) Q F N H aj K L),ak true]:=
 h.of
