import Derived.Test.YthfnndblgbjniaaGreatDoorGE
namespace Go.Proofs.YthfnndblgbjniaaGreatDoor
open Go.Sx Go.RowKit
variable {a b c d e f g : Int} {A C E F G H ah K L M N Q R S a1 V X Y Z : af} {q r s t : Bool}
def FM(A C E F G H ah K L M N P Q R S a1:af)(l:List O):List O:=.r 136 [.agg (aX A C E F G H ah K)] [.agg (aX L M N P Q R S a1)]::l
theorem anc(h:ae (FM C E M N Q R S a1 V A F G H ah K L [.b ((A.length:Int)==0) true])):
 al 174 [.agg (aX C E M N Q R S a1)] [.agg (aX V A F G H ah K L),.agg (bj 0 0 0 0 0),ai false]:=
 h.of
theorem ane(h:ae (FM C E M N Q R S a1 V A F G H ah K L [.b ((A.length:Int)==0) false,.p ((0:Int)<=0),.p (0<(A.length:Int)),.e A 0 (bj a b c d e),.p ((0:Int)<=(some (1:Int)).getD 0),.p ((some (1:Int)).getD 0<=none.getD (A.length:Int)),.p (none.getD (A.length:Int)<=(A.length:Int)),.g ([]:af) (List.take (A.length-1) (List.drop 1 A)) 40,.h (List.take (A.length-1) (List.drop 1 A))])):
 al 174 [.agg (aX C E M N Q R S a1)] [.agg (aX V ([]++List.take (A.length-1) (List.drop 1 A)) F G H ah K L),.agg (bj a b c d e),ai true]:=
 h.of
theorem anf(h:ae (FM C E M Q R S a1 V A F G H ah K L N [.g A [(bj d e a b c)] 40,.h [(bj d e a b c)]])):
 al 202 [.agg (aX C E M Q R S a1 V),.agg (bj d e a b c)] [.agg (aX (A++[(bj d e a b c)]) F G H ah K L N)]:=
 h.of
theorem ang{E F M Q R S a1 V:af}{f a c d e:Int}{G H ah K A C L N:af}{q:Bool}{b:Int}{d23 d24:D}(h:ae [.r 202 [.agg (aX E F M Q R S a1 V),.agg (bj f a c d e)] [.agg (aX G H ah K A C L N)],.v ((A.length:Int)-1),.r 65 [ag a,ag 0,ag ((A.length:Int)-1)] [ai q],.b q true,.f C a true,.x A a [I b],.v (b-1),.x A a [d23],.x C a [d24]]):
 al 172 [.agg (aX E F M Q R S a1 V),.agg (bj f a c d e)] [.agg (aX G H ah K (A.set a.toNat [I (b-1)]) (C.set a.toNat [B true]) L N)]:=
 h.of
def MD(A C E F G H ah K L M N P Q R S a1 V:af)(a b:Int)(q:Bool)(l:List O):List O:=FM A C E F G H ah K L M N P Q R S a1 (.r 138 [.agg (bq V a b)] [ai q]::l)
theorem anh(h:ae (MD N Q R S a1 V X C E F G H ah K L M A a b q [.n q true])):
 al 171 [.agg (bq A a b),.agg (aX N Q R S a1 V X C)] [.agg (aX E F G H ah K L M),ai false]:=
 h.of
def BB(A C E F G H ah K L M N P Q R S a1 V:af)(a b:Int)(q r:Bool)(l:List O):List O:=MD A C E F G H ah K L M N P Q R S a1 V a b q (.n q false::.r 139 [.agg (bq V a b),.agg (aX L M N P Q R S a1)] [ai r]::l)
theorem ani(h:ae (BB N Q R S a1 V X M C E F G H ah K L A a b q r [.n r true])):
 al 171 [.agg (bq A a b),.agg (aX N Q R S a1 V X M)] [.agg (aX C E F G H ah K L),ai false]:=
 h.of
theorem anj(h:ae (BB N Q R S a1 V X M E A F G H ah K L C a b q r [.n r false,.b (decide ((A.length:Int)>0)) true])):
 al 171 [.agg (bq C a b),.agg (aX N Q R S a1 V X M)] [.agg (aX E A F G H ah K L),ai false]:=
 h.of
def BC(A C E F G H ah K L M N P Q R S a1 V:af)(a b:Int)(q r:Bool)(l:List O):List O:=BB A C E F G H ah K L M N P Q R S a1 V a b q r (.n r false::.b (decide ((M.length:Int)>0)) false::l)
theorem ank(h:ae (BC N Q R S a1 V X M A C F G H ah K L E a b q r [.b (decide ((A.length:Int)>0)) true])):
 al 171 [.agg (bq E a b),.agg (aX N Q R S a1 V X M)] [.agg (aX A C F G H ah K L),ai false]:=
 h.of
theorem anl(h:ae (BC N Q R S a1 V X M A C E G H ah K L F a b q r [.b (decide ((A.length:Int)>0)) false,.b ((E.length:Int)==0) true])):
 al 171 [.agg (bq F a b),.agg (aX N Q R S a1 V X M)] [.agg (aX A C E G H ah K L),ai false]:=
 h.of
theorem anm(h:ae (BC N Q R S a1 V X M C E A G H ah K L F f g q r [.b (decide ((C.length:Int)>0)) false,.b ((A.length:Int)==0) false,.p ((0:Int)<=0),.p (0<(A.length:Int)),.e A 0 (bj a b c d e),.g C [(bj a b c d e)] 40,.h [(bj a b c d e)],.p ((0:Int)<=(some (1:Int)).getD 0),.p ((some (1:Int)).getD 0<=none.getD (A.length:Int)),.p (none.getD (A.length:Int)<=(A.length:Int)),.g ([]:af) (List.take (A.length-1) (List.drop 1 A)) 40,.h (List.take (A.length-1) (List.drop 1 A))])):
 al 171 [.agg (bq F f g),.agg (aX N Q R S a1 V X M)] [.agg (aX (C++[(bj a b c d e)]) E ([]++List.take (A.length-1) (List.drop 1 A)) G H ah K L),ai true]:=
 h.of
theorem ann(h:ae (MD N Q R S a1 V X C E F G H ah K L M A a b q [.n q true])):
 al 175 [.agg (bq A a b),.agg (aX N Q R S a1 V X C)] [.agg (aX E F G H ah K L M),ai false]:=
 h.of
theorem ano(h:ae (BB N Q R S a1 V X M C E F G H ah K L A a b q r [.n r true])):
 al 175 [.agg (bq A a b),.agg (aX N Q R S a1 V X M)] [.agg (aX C E F G H ah K L),ai false]:=
 h.of
theorem anp(h:ae (BB N Q R S a1 V X M E A F G H ah K L C a b q r [.n r false,.b (decide ((A.length:Int)>0)) true])):
 al 175 [.agg (bq C a b),.agg (aX N Q R S a1 V X M)] [.agg (aX E A F G H ah K L),ai false]:=
 h.of
theorem anq(h:ae (BC N Q R S a1 V X M A C F G H ah K L E a b q r [.b ((A.length:Int)==0) true])):
 al 175 [.agg (bq E a b),.agg (aX N Q R S a1 V X M)] [.agg (aX A C F G H ah K L),ai false]:=
 h.of
def V5(A C E F G H ah K L M N P Q R S a1 V:af)(a b:Int)(q r:Bool)(c d e f g:Int)(X Y:af)(s t:Bool)(l:List O):List O:=BC A C E F G H ah K L M N P Q R S a1 V a b q r (.b ((L.length:Int)==0) false::.p ((0:Int)<=0)::.p (0<(L.length:Int))::.e L 0 (bj c d e f g)::.r 156 [.agg (bq V a b),aO 4 P,.agg (bj c d e f g)] [aO 4 X,aO 5 Y,ai s]::.p ((0:Int)<=(some (1:Int)).getD 0)::.p ((some (1:Int)).getD 0<=none.getD (L.length:Int))::.p (none.getD (L.length:Int)<=(L.length:Int))::.g ([]:af) (List.take (L.length-1) (List.drop 1 L)) 40::.h (List.take (L.length-1) (List.drop 1 L))::.r 157 [.agg (bq V a b),.agg (bj c d e f g)] [ai t]::l)
theorem anr{C:af}{a b:Int}{R S a1 V X Y Z M A F G H ah K E L:af}{q r:Bool}{d c e f g:Int}{N Q:af}{t s:Bool}{d30:D}(h:ae (V5 R S a1 V X Y Z M A F G H ah K E L C a b q r d c e f g N Q t s [.b s true,.x E c [d30]])):
 al 175 [.agg (bq C a b),.agg (aX R S a1 V X Y Z M)] [.agg (aX ([]++List.take (A.length-1) (List.drop 1 A)) Q G N ah K (E.set c.toNat [B true]) L),ai true]:=
 h.of
theorem ant(h:ae (V5 R S a1 V X Y Z M A E F G H ah K L C a b q r c d e f g N Q t s [.b s false])):
 al 175 [.agg (bq C a b),.agg (aX R S a1 V X Y Z M)] [.agg (aX ([]++List.take (A.length-1) (List.drop 1 A)) Q F N H ah K L),ai true]:=
 h.of
