import Derived.Test.YtdchjefneblpgaaGreatGE
set_option linter.unusedVariables false
set_option linter.unusedSimpArgs false
namespace Go.Proofs.YtdchjefneblpgaaGreat
open Go.Sx Go.RowKit Go.Proofs.Tryz
variable {a b c d e f g i : Int} {A C E F G H al K L M N Q R S bl V X Y Z : af} {q r s t : Bool}
def EO(A C E F G H al K L M N P Q R S bl:af)(l:List O):List O:=.r 174 [.agg (ba A C E F G H al K)] [.agg (ba L M N P Q R S bl)]::l
theorem ahi(h:ad (EO C E M N Q R S bl V A F G H al K L [.b ((A.length:Int)==0) true])):
 av 351 [.agg (ba C E M N Q R S bl)] [.agg (ba V A F G H al K L),.agg (bi 0 0 0 0 0),ao false]:=
 h.of
theorem ahj(h:ad (EO C E M N Q R S bl V A F G H al K L [.b ((A.length:Int)==0) false,.p ((0:Int)<=0),.p (0<(A.length:Int)),.e A 0 (bi a b c d e),.p ((0:Int)<=(some (1:Int)).getD 0),.p ((some (1:Int)).getD 0<=none.getD (A.length:Int)),.p (none.getD (A.length:Int)<=(A.length:Int)),.g ([]:af) (List.take (A.length-1) (List.drop 1 A)) 40,.h (List.take (A.length-1) (List.drop 1 A))])):
 av 351 [.agg (ba C E M N Q R S bl)] [.agg (ba V ([]++List.take (A.length-1) (List.drop 1 A)) F G H al K L),.agg (bi a b c d e),ao true]:=
 h.of
theorem ahk(h:ad (EO C E M Q R S bl V A F G H al K L N [.g A [(bi d e a b c)] 40,.h [(bi d e a b c)]])):
 av 376 [.agg (ba C E M Q R S bl V),.agg (bi d e a b c)] [.agg (ba (A++[(bi d e a b c)]) F G H al K L N)]:=
 h.of
theorem ahl{E F M Q R S bl V:af}{f a c d e:Int}{G H al K A C L N:af}{q:Bool}{b:Int}{d23 d24:D}(h:ad [.r 376 [.agg (ba E F M Q R S bl V),.agg (bi f a c d e)] [.agg (ba G H al K A C L N)],.v ((A.length:Int)-1),.r 168 [ae a,ae 0,ae ((A.length:Int)-1)] [ao q],.b q true,.f C a true,.x A a [I b],.v (b-1),.x A a [d23],.x C a [d24]]):
 av 349 [.agg (ba E F M Q R S bl V),.agg (bi f a c d e)] [.agg (ba G H al K (A.set a.toNat [I (b-1)]) (C.set a.toNat [B true]) L N)]:=
 h.of
def LD(A C E F G H al K L M N P Q R S bl V:af)(a b:Int)(q:Bool)(l:List O):List O:=EO A C E F G H al K L M N P Q R S bl (.r 121 [.agg (bD V a b)] [ao q]::l)
theorem ahm(h:ad (LD N Q R S bl V X C E F G H al K L M A a b q [.n q true])):
 av 348 [.agg (bD A a b),.agg (ba N Q R S bl V X C)] [.agg (ba E F G H al K L M),ao false]:=
 h.of
def A1(A C E F G H al K L M N P Q R S bl V:af)(a b:Int)(q r:Bool)(l:List O):List O:=LD A C E F G H al K L M N P Q R S bl V a b q (.n q false::.r 175 [.agg (bD V a b),.agg (ba L M N P Q R S bl)] [ao r]::l)
theorem ahn(h:ad (A1 N Q R S bl V X M C E F G H al K L A a b q r [.n r true])):
 av 348 [.agg (bD A a b),.agg (ba N Q R S bl V X M)] [.agg (ba C E F G H al K L),ao false]:=
 h.of
theorem aho(h:ad (A1 N Q R S bl V X M E A F G H al K L C a b q r [.n r false,.b (decide ((A.length:Int)>0)) true])):
 av 348 [.agg (bD C a b),.agg (ba N Q R S bl V X M)] [.agg (ba E A F G H al K L),ao false]:=
 h.of
def A2(A C E F G H al K L M N P Q R S bl V:af)(a b:Int)(q r:Bool)(l:List O):List O:=A1 A C E F G H al K L M N P Q R S bl V a b q r (.n r false::.b (decide ((M.length:Int)>0)) false::l)
theorem ahp(h:ad (A2 N Q R S bl V X M A C F G H al K L E a b q r [.b (decide ((A.length:Int)>0)) true])):
 av 348 [.agg (bD E a b),.agg (ba N Q R S bl V X M)] [.agg (ba A C F G H al K L),ao false]:=
 h.of
theorem ahq(h:ad (A2 N Q R S bl V X M A C E G H al K L F a b q r [.b (decide ((A.length:Int)>0)) false,.b ((E.length:Int)==0) true])):
 av 348 [.agg (bD F a b),.agg (ba N Q R S bl V X M)] [.agg (ba A C E G H al K L),ao false]:=
 h.of
theorem agR(h:ad (A2 N Q R S bl V X M C E A G H al K L F f g q r [.b (decide ((C.length:Int)>0)) false,.b ((A.length:Int)==0) false,.p ((0:Int)<=0),.p (0<(A.length:Int)),.e A 0 (bi a b c d e),.g C [(bi a b c d e)] 40,.h [(bi a b c d e)],.p ((0:Int)<=(some (1:Int)).getD 0),.p ((some (1:Int)).getD 0<=none.getD (A.length:Int)),.p (none.getD (A.length:Int)<=(A.length:Int)),.g ([]:af) (List.take (A.length-1) (List.drop 1 A)) 40,.h (List.take (A.length-1) (List.drop 1 A))])):
 av 348 [.agg (bD F f g),.agg (ba N Q R S bl V X M)] [.agg (ba (C++[(bi a b c d e)]) E ([]++List.take (A.length-1) (List.drop 1 A)) G H al K L),ao true]:=
 h.of
theorem agS(h:ad (LD N Q R S bl V X C E F G H al K L M A a b q [.n q true])):
 av 48 [.agg (bD A a b),.agg (ba N Q R S bl V X C)] [.agg (ba E F G H al K L M),ao false]:=
 h.of
theorem agT(h:ad (A1 N Q R S bl V X M C E F G H al K L A a b q r [.n r true])):
 av 48 [.agg (bD A a b),.agg (ba N Q R S bl V X M)] [.agg (ba C E F G H al K L),ao false]:=
 h.of
theorem agU(h:ad (A1 N Q R S bl V X M E A F G H al K L C a b q r [.n r false,.b (decide ((A.length:Int)>0)) true])):
 av 48 [.agg (bD C a b),.agg (ba N Q R S bl V X M)] [.agg (ba E A F G H al K L),ao false]:=
 h.of
theorem agV(h:ad (A2 N Q R S bl V X M A C F G H al K L E a b q r [.b ((A.length:Int)==0) true])):
 av 48 [.agg (bD E a b),.agg (ba N Q R S bl V X M)] [.agg (ba A C F G H al K L),ao false]:=
 h.of
def UB(A C E F G H al K L M N P Q R S bl V:af)(a b:Int)(q r:Bool)(c d e f g:Int)(X Y:af)(s t:Bool)(l:List O):List O:=A2 A C E F G H al K L M N P Q R S bl V a b q r (.b ((L.length:Int)==0) false::.p ((0:Int)<=0)::.p (0<(L.length:Int))::.e L 0 (bi c d e f g)::.r 176 [.agg (bD V a b),a7 4 P,.agg (bi c d e f g)] [a7 4 X,a7 5 Y,ao s]::.p ((0:Int)<=(some (1:Int)).getD 0)::.p ((some (1:Int)).getD 0<=none.getD (L.length:Int))::.p (none.getD (L.length:Int)<=(L.length:Int))::.g ([]:af) (List.take (L.length-1) (List.drop 1 L)) 40::.h (List.take (L.length-1) (List.drop 1 L))::.r 177 [.agg (bD V a b),.agg (bi c d e f g)] [ao t]::l)
theorem agW{C:af}{a b:Int}{R S bl V X Y Z M A F G H al K E L:af}{q r:Bool}{d c e f g:Int}{N Q:af}{t s:Bool}{d30:D}(h:ad (UB R S bl V X Y Z M A F G H al K E L C a b q r d c e f g N Q t s [.b s true,.x E c [d30]])):
 av 48 [.agg (bD C a b),.agg (ba R S bl V X Y Z M)] [.agg (ba ([]++List.take (A.length-1) (List.drop 1 A)) Q G N al K (E.set c.toNat [B true]) L),ao true]:=
 h.of
theorem agX(h:ad (UB R S bl V X Y Z M A E F G H al K L C a b q r c d e f g N Q t s [.b s false])):
 av 48 [.agg (bD C a b),.agg (ba R S bl V X Y Z M)] [.agg (ba ([]++List.take (A.length-1) (List.drop 1 A)) Q F N H al K L),ao true]:=
 h.of
def UC(A:af)(a b:Int)(C E F G:af)(q:Bool)(l:List O):List O:=.a (.dj [none] (aS.new [D.J 4 A,I a,I b,D.J 8 C,D.J 6 E,D.J 5 F,D.J 3 G,B q]))::l
theorem agY(h:ad (UC M d a A C E F q [.a (.dj [some [D.J 4 G,I b,I c,D.J 8 H,D.J 6 al,D.J 5 K,D.J 3 L,B s],none] (aS.vals [ao r])),.p (bT prog 127 [aM.ro (.agg (cl N e f Q R S bl))] (aS.new [D.J 4 M,I d,I a,D.J 8 A,D.J 6 C,D.J 5 E,D.J 3 F,B q])),.p (bT prog 151 [aM.ref [D.J 4 M,I d,I a,D.J 8 A,D.J 6 C,D.J 5 E,D.J 3 F,B q] [D.J 4 G,I b,I c,D.J 8 H,D.J 6 al,D.J 5 K,D.J 3 L,B s],aM.ro (ae g)] (aS.vals [ao r]))])):
 av 29 [.agg (cl N e f Q R S bl),ae g] [.agg (cl G b c H al K L),ao r]:=
 h.of
def UD(A:af)(a b:Int)(C E F G:af)(q:Bool)(H:af)(c d:Int)(al K L M:af)(r s:Bool)(N:af)(e f:Int)(P Q R S:af)(l:List O):List O:=UC A a b C E F G q (.a (.dj [some [D.J 4 H,I c,I d,D.J 8 al,D.J 6 K,D.J 5 L,D.J 3 M,B r],none,none] (aS.vals [ao s]))::.p (bT prog 127 [aM.ro (.agg (cl N e f P Q R S))] (aS.new [D.J 4 A,I a,I b,D.J 8 C,D.J 6 E,D.J 5 F,D.J 3 G,B q]))::l)
theorem agZ(h:ad (UD M a b A C E F q G c d H al K L s r N e f Q R S bl [.p (bT prog 156 [aM.ref [D.J 4 M,I a,I b,D.J 8 A,D.J 6 C,D.J 5 E,D.J 3 F,B q] [D.J 4 G,I c,I d,D.J 8 H,D.J 6 al,D.J 5 K,D.J 3 L,B s],aM.ro (ae g),aM.ro (ae i)] (aS.vals [ao r]))])):
 av 32 [.agg (cl N e f Q R S bl),ae g,ae i] [.agg (cl G c d H al K L),ao r]:=
 h.of
theorem ag0(h:ad (UD M a b A C E F q G c d H al K L s r N e f Q R S bl [.p (bT prog 158 [aM.ref [D.J 4 M,I a,I b,D.J 8 A,D.J 6 C,D.J 5 E,D.J 3 F,B q] [D.J 4 G,I c,I d,D.J 8 H,D.J 6 al,D.J 5 K,D.J 3 L,B s],aM.ro (ae g),aM.ro (ae i)] (aS.vals [ao r]))])):
 av 34 [.agg (cl N e f Q R S bl),ae g,ae i] [.agg (cl G c d H al K L),ao r]:=
 h.of
