import Derived.Test.YtdchjefneblpgaaGreatGE
set_option linter.unusedVariables false
set_option linter.unusedSimpArgs false
namespace Go.Proofs.YtdchjefneblpgaaGreat
open Go.Sx Go.RowKit Go.Proofs.Tryz
variable {a b c d e f g : Int} {A C E F G H aj K L M N Q R S bi V X Y Z : ae} {q r s t : Bool}
def Ec(A C E F G H aj K L M N P Q R S bi:ae)(l:List O):List O:=.r 174 [.agg (ba A C E F G H aj K)] [.agg (ba L M N P Q R S bi)]::l
theorem ahY(h:ad (Ec C E M N Q R S bi V A F G H aj K L [.b ((A.length:Int)==0) true])):
 ar 351 [.agg (ba C E M N Q R S bi)] [.agg (ba V A F G H aj K L),.agg (bj 0 0 0 0 0),ag false]:=
 h.of
theorem ahZ(h:ad (Ec C E M N Q R S bi V A F G H aj K L [.b ((A.length:Int)==0) false,.p ((0:Int)<=0),.p (0<(A.length:Int)),.e A 0 (bj a b c d e),.p ((0:Int)<=(some (1:Int)).getD 0),.p ((some (1:Int)).getD 0<=none.getD (A.length:Int)),.p (none.getD (A.length:Int)<=(A.length:Int)),.g ([]:ae) (List.take (A.length-1) (List.drop 1 A)) 40,.h (List.take (A.length-1) (List.drop 1 A))])):
 ar 351 [.agg (ba C E M N Q R S bi)] [.agg (ba V ([]++List.take (A.length-1) (List.drop 1 A)) F G H aj K L),.agg (bj a b c d e),ag true]:=
 h.of
theorem ah0(h:ad (Ec C E M Q R S bi V A F G H aj K L N [.g A [(bj d e a b c)] 40,.h [(bj d e a b c)]])):
 ar 376 [.agg (ba C E M Q R S bi V),.agg (bj d e a b c)] [.agg (ba (A++[(bj d e a b c)]) F G H aj K L N)]:=
 h.of
theorem ah1{E F M Q R S bi V:ae}{f a c d e:Int}{G H aj K A C L N:ae}{q:Bool}{b:Int}{d23 d24:D}(h:ad [.r 376 [.agg (ba E F M Q R S bi V),.agg (bj f a c d e)] [.agg (ba G H aj K A C L N)],.v ((A.length:Int)-1),.r 168 [af a,af 0,af ((A.length:Int)-1)] [ag q],.b q true,.f C a true,.x A a [I b],.v (b-1),.x A a [d23],.x C a [d24]]):
 ar 349 [.agg (ba E F M Q R S bi V),.agg (bj f a c d e)] [.agg (ba G H aj K (A.set a.toNat [I (b-1)]) (C.set a.toNat [B true]) L N)]:=
 h.of
def Lg(A C E F G H aj K L M N P Q R S bi V:ae)(a b:Int)(q:Bool)(l:List O):List O:=Ec A C E F G H aj K L M N P Q R S bi (.r 121 [.agg (bk V a b)] [ag q]::l)
theorem ah2(h:ad (Lg N Q R S bi V X C E F G H aj K L M A a b q [.n q true])):
 ar 348 [.agg (bk A a b),.agg (ba N Q R S bi V X C)] [.agg (ba E F G H aj K L M),ag false]:=
 h.of
def As(A C E F G H aj K L M N P Q R S bi V:ae)(a b:Int)(q r:Bool)(l:List O):List O:=Lg A C E F G H aj K L M N P Q R S bi V a b q (.n q false::.r 175 [.agg (bk V a b),.agg (ba L M N P Q R S bi)] [ag r]::l)
theorem ah3(h:ad (As N Q R S bi V X M C E F G H aj K L A a b q r [.n r true])):
 ar 348 [.agg (bk A a b),.agg (ba N Q R S bi V X M)] [.agg (ba C E F G H aj K L),ag false]:=
 h.of
theorem ah4(h:ad (As N Q R S bi V X M E A F G H aj K L C a b q r [.n r false,.b (decide ((A.length:Int)>0)) true])):
 ar 348 [.agg (bk C a b),.agg (ba N Q R S bi V X M)] [.agg (ba E A F G H aj K L),ag false]:=
 h.of
def Au(A C E F G H aj K L M N P Q R S bi V:ae)(a b:Int)(q r:Bool)(l:List O):List O:=As A C E F G H aj K L M N P Q R S bi V a b q r (.n r false::.b (decide ((M.length:Int)>0)) false::l)
theorem ah5(h:ad (Au N Q R S bi V X M A C F G H aj K L E a b q r [.b (decide ((A.length:Int)>0)) true])):
 ar 348 [.agg (bk E a b),.agg (ba N Q R S bi V X M)] [.agg (ba A C F G H aj K L),ag false]:=
 h.of
theorem ah6(h:ad (Au N Q R S bi V X M A C E G H aj K L F a b q r [.b (decide ((A.length:Int)>0)) false,.b ((E.length:Int)==0) true])):
 ar 348 [.agg (bk F a b),.agg (ba N Q R S bi V X M)] [.agg (ba A C E G H aj K L),ag false]:=
 h.of
theorem ah7(h:ad (Au N Q R S bi V X M C E A G H aj K L F f g q r [.b (decide ((C.length:Int)>0)) false,.b ((A.length:Int)==0) false,.p ((0:Int)<=0),.p (0<(A.length:Int)),.e A 0 (bj a b c d e),.g C [(bj a b c d e)] 40,.h [(bj a b c d e)],.p ((0:Int)<=(some (1:Int)).getD 0),.p ((some (1:Int)).getD 0<=none.getD (A.length:Int)),.p (none.getD (A.length:Int)<=(A.length:Int)),.g ([]:ae) (List.take (A.length-1) (List.drop 1 A)) 40,.h (List.take (A.length-1) (List.drop 1 A))])):
 ar 348 [.agg (bk F f g),.agg (ba N Q R S bi V X M)] [.agg (ba (C++[(bj a b c d e)]) E ([]++List.take (A.length-1) (List.drop 1 A)) G H aj K L),ag true]:=
 h.of
theorem ah8(h:ad (Lg N Q R S bi V X C E F G H aj K L M A a b q [.n q true])):
 ar 48 [.agg (bk A a b),.agg (ba N Q R S bi V X C)] [.agg (ba E F G H aj K L M),ag false]:=
 h.of
theorem ah9(h:ad (As N Q R S bi V X M C E F G H aj K L A a b q r [.n r true])):
 ar 48 [.agg (bk A a b),.agg (ba N Q R S bi V X M)] [.agg (ba C E F G H aj K L),ag false]:=
 h.of
theorem aia(h:ad (As N Q R S bi V X M E A F G H aj K L C a b q r [.n r false,.b (decide ((A.length:Int)>0)) true])):
 ar 48 [.agg (bk C a b),.agg (ba N Q R S bi V X M)] [.agg (ba E A F G H aj K L),ag false]:=
 h.of
theorem aib(h:ad (Au N Q R S bi V X M A C F G H aj K L E a b q r [.b ((A.length:Int)==0) true])):
 ar 48 [.agg (bk E a b),.agg (ba N Q R S bi V X M)] [.agg (ba A C F G H aj K L),ag false]:=
 h.of
def T2(A C E F G H aj K L M N P Q R S bi V:ae)(a b:Int)(q r:Bool)(c d e f g:Int)(X Y:ae)(s t:Bool)(l:List O):List O:=Au A C E F G H aj K L M N P Q R S bi V a b q r (.b ((L.length:Int)==0) false::.p ((0:Int)<=0)::.p (0<(L.length:Int))::.e L 0 (bj c d e f g)::.r 176 [.agg (bk V a b),aP 4 P,.agg (bj c d e f g)] [aP 4 X,aP 5 Y,ag s]::.p ((0:Int)<=(some (1:Int)).getD 0)::.p ((some (1:Int)).getD 0<=none.getD (L.length:Int))::.p (none.getD (L.length:Int)<=(L.length:Int))::.g ([]:ae) (List.take (L.length-1) (List.drop 1 L)) 40::.h (List.take (L.length-1) (List.drop 1 L))::.r 177 [.agg (bk V a b),.agg (bj c d e f g)] [ag t]::l)
theorem aic{C:ae}{a b:Int}{R S bi V X Y Z M A F G H aj K E L:ae}{q r:Bool}{d c e f g:Int}{N Q:ae}{t s:Bool}{d30:D}(h:ad (T2 R S bi V X Y Z M A F G H aj K E L C a b q r d c e f g N Q t s [.b s true,.x E c [d30]])):
 ar 48 [.agg (bk C a b),.agg (ba R S bi V X Y Z M)] [.agg (ba ([]++List.take (A.length-1) (List.drop 1 A)) Q G N aj K (E.set c.toNat [B true]) L),ag true]:=
 h.of
theorem aid(h:ad (T2 R S bi V X Y Z M A E F G H aj K L C a b q r c d e f g N Q t s [.b s false])):
 ar 48 [.agg (bk C a b),.agg (ba R S bi V X Y Z M)] [.agg (ba ([]++List.take (A.length-1) (List.drop 1 A)) Q F N H aj K L),ag true]:=
 h.of
def T3(A:ae)(a b:Int)(C E F G:ae)(q:Bool)(H:ae)(c d:Int)(aj K L M:ae)(r s:Bool)(N:ae)(e f:Int)(P Q R S:ae)(l:List O):List O:=.a (.dg [none] (aT.new [D.J 4 A,I a,I b,D.J 8 C,D.J 6 E,D.J 5 F,D.J 3 G,B q]))::.a (.dg [some [D.J 4 H,I c,I d,D.J 8 aj,D.J 6 K,D.J 5 L,D.J 3 M,B r],none] (aT.vals [ag s]))::.p (bT prog 127 [aL.ro (.agg (cl N e f P Q R S))] (aT.new [D.J 4 A,I a,I b,D.J 8 C,D.J 6 E,D.J 5 F,D.J 3 G,B q]))::l
theorem aie(h:ad (T3 M d a A C E F q G b c H aj K L s r N e f Q R S bi [.p (bT prog 170 [aL.ref [D.J 4 M,I d,I a,D.J 8 A,D.J 6 C,D.J 5 E,D.J 3 F,B q] [D.J 4 G,I b,I c,D.J 8 H,D.J 6 aj,D.J 5 K,D.J 3 L,B s],aL.ro (af g)] (aT.vals [ag r]))])):
 ar 45 [.agg (cl N e f Q R S bi),af g] [.agg (cl G b c H aj K L),ag r]:=
 h.of
theorem aif(h:ad (T3 M d a A C E F q G b c H aj K L s r N e f Q R S bi [.p (bT prog 171 [aL.ref [D.J 4 M,I d,I a,D.J 8 A,D.J 6 C,D.J 5 E,D.J 3 F,B q] [D.J 4 G,I b,I c,D.J 8 H,D.J 6 aj,D.J 5 K,D.J 3 L,B s],aL.ro (af g)] (aT.vals [ag r]))])):
 ar 46 [.agg (cl N e f Q R S bi),af g] [.agg (cl G b c H aj K L),ag r]:=
 h.of
