import Derived.Test.YthfnndblgbjniaaGreatDoorGE
namespace Go.Proofs.YthfnndblgbjniaaGreatDoor
open Go.Sx Go.RowKit
variable {a b c d e f g i : Int} {A C E F G H ah K L M N Q R S bu V X Y Z : ae} {q r s t : Bool}
def DG(A C E F G H ah K L M N P Q R S bu:ae)(l:List O):List O:=.r 136 [.agg (bf A C E F G H ah K)] [.agg (bf L M N P Q R S bu)]::l
theorem agw(h:af (DG C E M N Q R S bu V A F G H ah K L [.b ((A.length:Int)==0) true])):
 ax 174 [.agg (bf C E M N Q R S bu)] [.agg (bf V A F G H ah K L),.agg (bw 0 0 0 0 0),ar false]:=
 h.of
theorem agx(h:af (DG C E M N Q R S bu V A F G H ah K L [.b ((A.length:Int)==0) false,.p ((0:Int)<=0),.p (0<(A.length:Int)),.e A 0 (bw a b c d e),.p ((0:Int)<=(some (1:Int)).getD 0),.p ((some (1:Int)).getD 0<=none.getD (A.length:Int)),.p (none.getD (A.length:Int)<=(A.length:Int)),.g ([]:ae) (List.take (A.length-1) (List.drop 1 A)) 40,.h (List.take (A.length-1) (List.drop 1 A))])):
 ax 174 [.agg (bf C E M N Q R S bu)] [.agg (bf V ([]++List.take (A.length-1) (List.drop 1 A)) F G H ah K L),.agg (bw a b c d e),ar true]:=
 h.of
theorem agy(h:af (DG C E M Q R S bu V A F G H ah K L N [.g A [(bw d e a b c)] 40,.h [(bw d e a b c)]])):
 ax 202 [.agg (bf C E M Q R S bu V),.agg (bw d e a b c)] [.agg (bf (A++[(bw d e a b c)]) F G H ah K L N)]:=
 h.of
theorem afI{E F M Q R S bu V:ae}{f a c d e:Int}{G H ah K A C L N:ae}{q:Bool}{b:Int}{d23 d24:D}(h:af [.r 202 [.agg (bf E F M Q R S bu V),.agg (bw f a c d e)] [.agg (bf G H ah K A C L N)],.v ((A.length:Int)-1),.r 65 [ag a,ag 0,ag ((A.length:Int)-1)] [ar q],.b q true,.f C a true,.x A a [I b],.v (b-1),.x A a [d23],.x C a [d24]]):
 ax 172 [.agg (bf E F M Q R S bu V),.agg (bw f a c d e)] [.agg (bf G H ah K (A.set a.toNat [I (b-1)]) (C.set a.toNat [B true]) L N)]:=
 h.of
def KU(A C E F G H ah K L M N P Q R S bu V:ae)(a b:Int)(q:Bool)(l:List O):List O:=DG A C E F G H ah K L M N P Q R S bu (.r 138 [.agg (bC V a b)] [ar q]::l)
theorem afJ(h:af (KU N Q R S bu V X C E F G H ah K L M A a b q [.n q true])):
 ax 171 [.agg (bC A a b),.agg (bf N Q R S bu V X C)] [.agg (bf E F G H ah K L M),ar false]:=
 h.of
def zN(A C E F G H ah K L M N P Q R S bu V:ae)(a b:Int)(q r:Bool)(l:List O):List O:=KU A C E F G H ah K L M N P Q R S bu V a b q (.n q false::.r 139 [.agg (bC V a b),.agg (bf L M N P Q R S bu)] [ar r]::l)
theorem afK(h:af (zN N Q R S bu V X M C E F G H ah K L A a b q r [.n r true])):
 ax 171 [.agg (bC A a b),.agg (bf N Q R S bu V X M)] [.agg (bf C E F G H ah K L),ar false]:=
 h.of
theorem afL(h:af (zN N Q R S bu V X M E A F G H ah K L C a b q r [.n r false,.b (decide ((A.length:Int)>0)) true])):
 ax 171 [.agg (bC C a b),.agg (bf N Q R S bu V X M)] [.agg (bf E A F G H ah K L),ar false]:=
 h.of
def zO(A C E F G H ah K L M N P Q R S bu V:ae)(a b:Int)(q r:Bool)(l:List O):List O:=zN A C E F G H ah K L M N P Q R S bu V a b q r (.n r false::.b (decide ((M.length:Int)>0)) false::l)
theorem afM(h:af (zO N Q R S bu V X M A C F G H ah K L E a b q r [.b (decide ((A.length:Int)>0)) true])):
 ax 171 [.agg (bC E a b),.agg (bf N Q R S bu V X M)] [.agg (bf A C F G H ah K L),ar false]:=
 h.of
theorem afN(h:af (zO N Q R S bu V X M A C E G H ah K L F a b q r [.b (decide ((A.length:Int)>0)) false,.b ((E.length:Int)==0) true])):
 ax 171 [.agg (bC F a b),.agg (bf N Q R S bu V X M)] [.agg (bf A C E G H ah K L),ar false]:=
 h.of
theorem afO(h:af (zO N Q R S bu V X M C E A G H ah K L F f g q r [.b (decide ((C.length:Int)>0)) false,.b ((A.length:Int)==0) false,.p ((0:Int)<=0),.p (0<(A.length:Int)),.e A 0 (bw a b c d e),.g C [(bw a b c d e)] 40,.h [(bw a b c d e)],.p ((0:Int)<=(some (1:Int)).getD 0),.p ((some (1:Int)).getD 0<=none.getD (A.length:Int)),.p (none.getD (A.length:Int)<=(A.length:Int)),.g ([]:ae) (List.take (A.length-1) (List.drop 1 A)) 40,.h (List.take (A.length-1) (List.drop 1 A))])):
 ax 171 [.agg (bC F f g),.agg (bf N Q R S bu V X M)] [.agg (bf (C++[(bw a b c d e)]) E ([]++List.take (A.length-1) (List.drop 1 A)) G H ah K L),ar true]:=
 h.of
theorem afP(h:af (KU N Q R S bu V X C E F G H ah K L M A a b q [.n q true])):
 ax 175 [.agg (bC A a b),.agg (bf N Q R S bu V X C)] [.agg (bf E F G H ah K L M),ar false]:=
 h.of
theorem afQ(h:af (zN N Q R S bu V X M C E F G H ah K L A a b q r [.n r true])):
 ax 175 [.agg (bC A a b),.agg (bf N Q R S bu V X M)] [.agg (bf C E F G H ah K L),ar false]:=
 h.of
theorem afR(h:af (zN N Q R S bu V X M E A F G H ah K L C a b q r [.n r false,.b (decide ((A.length:Int)>0)) true])):
 ax 175 [.agg (bC C a b),.agg (bf N Q R S bu V X M)] [.agg (bf E A F G H ah K L),ar false]:=
 h.of
theorem afS(h:af (zO N Q R S bu V X M A C F G H ah K L E a b q r [.b ((A.length:Int)==0) true])):
 ax 175 [.agg (bC E a b),.agg (bf N Q R S bu V X M)] [.agg (bf A C F G H ah K L),ar false]:=
 h.of
def Tw(A C E F G H ah K L M N P Q R S bu V:ae)(a b:Int)(q r:Bool)(c d e f g:Int)(X Y:ae)(s t:Bool)(l:List O):List O:=zO A C E F G H ah K L M N P Q R S bu V a b q r (.b ((L.length:Int)==0) false::.p ((0:Int)<=0)::.p (0<(L.length:Int))::.e L 0 (bw c d e f g)::.r 156 [.agg (bC V a b),aY 4 P,.agg (bw c d e f g)] [aY 4 X,aY 5 Y,ar s]::.p ((0:Int)<=(some (1:Int)).getD 0)::.p ((some (1:Int)).getD 0<=none.getD (L.length:Int))::.p (none.getD (L.length:Int)<=(L.length:Int))::.g ([]:ae) (List.take (L.length-1) (List.drop 1 L)) 40::.h (List.take (L.length-1) (List.drop 1 L))::.r 157 [.agg (bC V a b),.agg (bw c d e f g)] [ar t]::l)
theorem afT{C:ae}{a b:Int}{R S bu V X Y Z M A F G H ah K E L:ae}{q r:Bool}{d c e f g:Int}{N Q:ae}{t s:Bool}{d30:D}(h:af (Tw R S bu V X Y Z M A F G H ah K E L C a b q r d c e f g N Q t s [.b s true,.x E c [d30]])):
 ax 175 [.agg (bC C a b),.agg (bf R S bu V X Y Z M)] [.agg (bf ([]++List.take (A.length-1) (List.drop 1 A)) Q G N ah K (E.set c.toNat [B true]) L),ar true]:=
 h.of
theorem afU(h:af (Tw R S bu V X Y Z M A E F G H ah K L C a b q r c d e f g N Q t s [.b s false])):
 ax 175 [.agg (bC C a b),.agg (bf R S bu V X Y Z M)] [.agg (bf ([]++List.take (A.length-1) (List.drop 1 A)) Q F N H ah K L),ar true]:=
 h.of
def uB(A:ae)(a b:Int)(C E F G:ae)(c d:Int)(H:ae):aD:=bd 32 [(1,aU c),(2,aN 2),(5,aE.az (bg.one (al 7 3 H))),(6,aU d)] [(2,[.J .free 4 A,ak a,ak b,.J .free 8 C,.J .free 6 E,.J .free 5 F,.J .free 3 G])]
theorem afV(h:af [.i A a [I f,I i,B r],.b (f==d) true,.x A a [I b,I c,B q],.g C [[I b,I c,B q]] 24,.h [[I b,I c,B q]],.u a]):
 aX (aq Tryz.f12 0) (uB E e g F G H A d a C) .normal (uB E e g F G H A d (a+1) (C++[[I b,I c,B q]])):=
 h.aV [6,2,1,5] [2]
theorem afW(h:af [.i A a [I d,I f,B q],.b (d==b) false,.u a]):
 aX (aq Tryz.f12 0) (uB C c e E F G A b a H) .normal (uB C c e E F G A b (a+1) H):=
 h.aV [6,2,1,5] [2]
def RY(A:ae):aD:=bd 32 [(5,aE.az (bg.one (al 7 3 A)))] []
theorem afX(h:af [.f A a false]):
 aX (aq Tryz.f12 0) (uB E b c F G H A d a C) (.exit 0) (RY C):=
 h.aV [5] []
theorem afY(h:af [.l [] [6,2,1,5] [2] (aq Tryz.f12 0) (uB A a b C E F G c 0 []) (.exit 0) (RY H)]):
 ax 12 [.agg (bI A a b C E F G),ag c] [aY 3 H]:=
 h.of
def uC(A:ae)(a b:Int)(C:ae):aD:=bd 25 [(1,aU a),(5,aE.az (bg.one (al 22 3 C))),(9,cQ 3 A),(10,aU (A.length:Int)),(11,aU b)] []
theorem afZ(h:af [.i A c [I a,I b,B q],.b (a==d) true,.g C [[I a,I b,B q]] 24,.h [[I a,I b,B q]],.u c]):
 aX (aq Tryz.f11 0) (uC A d c C) .normal (uC A d (c+1) (C++[[I a,I b,B q]])):=
 h.aV [11,10,9,1,5] []
theorem af0(h:af [.i A a [I c,I d,B q],.b (c==b) false,.u a]):
 aX (aq Tryz.f11 0) (uC A b a C) .normal (uC A b (a+1) C):=
 h.aV [11,10,9,1,5] []
def RZ(A:ae):aD:=bd 25 [(5,aE.az (bg.one (al 22 3 A)))] []
theorem af1(h:af [.f A a false]):
 aX (aq Tryz.f11 0) (uC A b a C) (.exit 0) (RZ C):=
 h.aV [5] []
theorem af2(h:af [.l [(5,22,3)] [11,10,9,1,5] [] (aq Tryz.f11 0) (uC A a 0 []) (.exit 0) (RZ C)]):
 ax 11 [.agg (bI E b c F G H A),ag a] [aY 3 C]:=
 h.of
def uD(A:ae)(a b:Int)(C E F G:ae)(c d:Int):aD:=bd 21 [(1,aU c),(2,aN 2),(5,aU d)] [(2,[.J .free 4 A,ak a,ak b,.J .free 8 C,.J .free 6 E,.J .free 5 F,.J .free 3 G])]
def J7(q:Bool):aD:=bd 21 [(4,.az (.one (.a1 q)))] []
theorem af3(h:af [.i K b (bf L A C E F G H ah),.r 21 [.agg (bf L A C E F G H ah),ag a] [ar q],.n q true]):
 aX (aq Tryz.f18 0) (uD M c d K N Q R a b) .ret (J7 false):=
 h.aV [4] []
theorem af4(h:af [.i A a (bf R E F G H ah K L),.r 21 [.agg (bf R E F G H ah K L),ag b] [ar q],.n q false,.u a]):
 aX (aq Tryz.f18 0) (uD C c d A M N Q b a) .normal (uD C c d A M N Q b (a+1)):=
 h.aV [5,2,1] [2]
def R0:aD:=bd 21 [] []
theorem af5(h:af [.f A a false]):
 aX (aq Tryz.f18 0) (uD C b c A E F G d a) (.exit 0) R0:=
 h.aV [] []
theorem af6(h:af [.l [] [5,2,1] [2] (aq Tryz.f18 0) (uD A a b C E F G c 0) .ret (J7 q)]):
 ax 18 [.agg (bI A a b C E F G),ag c] [ar q]:=
 h.of
theorem af7(h:af [.l [] [5,2,1] [2] (aq Tryz.f18 0) (uD A a b C E F G c 0) (.exit 0) R0]):
 ax 18 [.agg (bI A a b C E F G),ag c] [ar true]:=
 h.of
theorem afy(h:af [.r 51 [aY 8 A,.one (.bI 52 [D.ptr [I a]])] [ar q]]):
 ax 17 [.agg (bI C b c A E F G),ag a] [.one (B !q)]:=
 h.of
theorem afz(h:af [.r 43 [.agg (bf A C E F G H ah K),ag a] [ar q]]):
 ax 52 [.agg (bf A C E F G H ah K),.one (.ptr [I a])] [.one (B !q)]:=
 h.of
