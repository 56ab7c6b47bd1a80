import Derived.Test.YtdchjefneblpgaaGE
set_option linter.unusedVariables false
set_option linter.unusedSimpArgs false
namespace Go.Proofs.Ytdchjefneblpgaa
open Go.Sx Go.RowKit
variable {a b c d e f g i j k l : Int} {A C E F G : aE} {q r s t u v w : Bool}
theorem aaC(h:al [.b ((A.length:Int) != (C.length:Int)) true]):
 aA 26 [aB 4 A,aB 4 C] [au false]:=
 h.of
def sm(A C:aE)(a:Int):aG:=bR 26 [(0,eB 4 A),(1,eB 4 C),(12,bB (A.length:Int)),(13,bB a)] []
def FJ(q:Bool):aG:=bR 26 [(4,.aN (.one (.bP q)))] []
theorem aaD(h:al [.i A a [I c,I d,I e,I f],.x C a [I g,I i,I j,I b],.b (!(c==g&&(d==i&&(e==j&&f==b)))) true]):
 bp (aF Try.f26 0) (sm A C a) .ret (FJ false):=
 h.bu [4] []
theorem aaE(h:al [.i A a [I c,I d,I e,I f],.x C a [I g,I i,I j,I b],.b (!(c==g&&(d==i&&(e==j&&f==b)))) false,.u a]):
 bp (aF Try.f26 0) (sm A C a) .normal (sm A C (a+1)):=
 h.bu [13,12,0,1] []
def L4:aG:=bR 26 [] []
theorem Z5(h:al [.f A a false]):
 bp (aF Try.f26 0) (sm A C a) (.exit 0) L4:=
 h.bu [] []
def At(A C:aE)(l:List O):List O:=.b ((A.length:Int) != (C.length:Int)) false::l
theorem Z6(h:al (At A C [.l [] [13,12,0,1] [] (aF Try.f26 0) (sm A C 0) .ret (FJ q)])):
 aA 26 [aB 4 A,aB 4 C] [au q]:=
 h.of
theorem Z7(h:al (At A C [.l [] [13,12,0,1] [] (aF Try.f26 0) (sm A C 0) (.exit 0) L4])):
 aA 26 [aB 4 A,aB 4 C] [au true]:=
 h.of
theorem Z8(h:al [.r 26 [aB 4 A,aB 4 C] [au q]]):
 aA 15 [aB 4 A,aB 4 C] [au q]:=
 h.of
theorem Z9(h:al [.b ((A.length:Int) != (C.length:Int)) true]):
 aA 8 [aB 4 A,aB 4 C] [au false]:=
 h.of
def qN(A C:aE)(a:Int):aG:=bR 26 [(0,eB 4 A),(1,eB 4 C),(5,bB a)] []
def FK(q:Bool):aG:=bR 26 [(4,.aN (.one (.bP q)))] []
theorem Z'(h:al [.i A a [I c,I d,I e,I f],.x C a [I g,I i,I j,I b],.b (!(c==g&&(d==i&&(e==j&&f==b)))) true]):
 bp (aF Try.f8 0) (qN A C a) .ret (FK false):=
 h.bu [4] []
theorem L5(h:al [.i A a [I c,I d,I e,I f],.x C a [I g,I i,I j,I b],.b (!(c==g&&(d==i&&(e==j&&f==b)))) false,.u a]):
 bp (aF Try.f8 0) (qN A C a) .normal (qN A C (a+1)):=
 h.bu [5,0,1] []
def L6:aG:=bR 26 [] []
theorem L7(h:al [.f A a false]):
 bp (aF Try.f8 0) (qN A C a) (.exit 0) L6:=
 h.bu [] []
theorem aab(h:al (At A C [.l [] [5,0,1] [] (aF Try.f8 0) (qN A C 0) .ret (FK q)])):
 aA 8 [aB 4 A,aB 4 C] [au q]:=
 h.of
theorem L8(h:al (At A C [.l [] [5,0,1] [] (aF Try.f8 0) (qN A C 0) (.exit 0) L6])):
 aA 8 [aB 4 A,aB 4 C] [au true]:=
 h.of
def Ou(A C:aE)(a b c d e f:Int)(E:aE)(q:Bool)(l:List O):List O:=.g ([]:aE) A 32::.h A::.r 39 [.agg (bj C a b),ao c] [.agg (aX d e f E),au q]::l
theorem aac(h:al (Ou A C a b c i j d E q [.n q true])):
 aA 43 [.agg (bj C a b),aB 4 A,.agg [I c,I e,I f,I g]] [aB 4 ([]++A),aB 4 []]:=
 h.of
def Ov(A C:aE)(a b c d e f:Int)(E:aE)(q r:Bool)(l:List O):List O:=Ou A C a b c d e f E q (.n q false::.r 33 [.agg (bj C a b)] [au r]::l)
theorem aad(h:al (Ov A C a b c i j d E q r [.n r true])):
 aA 43 [.agg (bj C a b),aB 4 A,.agg [I c,I e,I f,I g]] [aB 4 ([]++A),aB 4 []]:=
 h.of
def GH(A C:aE)(a b c d e f:Int)(E:aE)(q r:Bool)(g:Int)(s:Bool)(l:List O):List O:=Ov A C a b c d e f E q r (.n r false::.r 56 [ao g,ao 0,ao 3] [au s]::l)
theorem aae(h:al (GH A C a b c i j e E q r d s [.n s true])):
 aA 43 [.agg (bj C a b),aB 4 A,.agg [I c,I d,I f,I g]] [aB 4 ([]++A),aB 4 []]:=
 h.of
theorem abH(h:al (GH A C a b c i j f E q r d s [.n s false,.r 56 [ao e,ao 0,ao 99] [au t],.n t true])):
 aA 43 [.agg (bj C a b),aB 4 A,.agg [I c,I d,I e,I g]] [aB 4 ([]++A),aB 4 []]:=
 h.of
def GI(A C:aE)(a b c d e f:Int)(E:aE)(q r:Bool)(g:Int)(s:Bool)(i:Int)(t:Bool)(j:Int)(u:Bool)(l:List O):List O:=GH A C a b c d e f E q r g s (.n s false::.r 56 [ao i,ao 0,ao 99] [au t]::.n t false::.r 56 [ao j,ao 0,ao 999] [au u]::l)
theorem abI(h:al (GI A C a b c i j g E q r d s e t f u [.n u true])):
 aA 43 [.agg (bj C a b),aB 4 A,.agg [I c,I d,I e,I f]] [aB 4 ([]++A),aB 4 []]:=
 h.of
theorem abJ(h:al (GI A C a b c i j g E q r d s e t f u [.n u false,.r 62 [ao 5,aB 4 A,.agg [I c,I d,I e,I f]] [aB 4 F,au v],.n v true])):
 aA 43 [.agg (bj C a b),aB 4 A,.agg [I c,I d,I e,I f]] [aB 4 ([]++A),aB 4 []]:=
 h.of
def sn(a b e f g i j:Int)(C E:aE)(k c:Int)(q:Bool)(d:Int)(A:aE):aG:=bR 101 [(5,bC 5),(9,az.aN (bi.one (bU 21 4 A))),(10,bC 10),(12,az.aN (bi.one (bU 600000 4 E))),(14,bB k),(15,bB c),(16,.aN (.one (.bP q))),(17,bB d)] [(10,[aS g,aS i,aS j,bU 270003 1 C]),(5,[aS a,aS b,aS e,aS f])]
theorem abK(h:al [.f A c true,.b q true,.x A c [I e],.g C [[I e,I d,I a,I b]] 32,.h [[I e,I d,I a,I b]],.u c]):
 bp (aF Try.f43 0) (sn g d i j k l f A E a b q c C) .normal (sn g d i j k l f A E a b q (c+1) (C++[[I e,I d,I a,I b]])):=
 h.bu [17,10,16,9,5,14,15,12] [10,5]
def zL(A C:aE):aG:=bR 101 [(9,az.aN (bi.one (bU 21 4 C))),(12,az.aN (bi.one (bU 600000 4 A)))] []
theorem abL(h:al [.f A a true,.b q false]):
 bp (aF Try.f43 0) (sn e f g i j k b A C c d q a E) (.exit 0) (zL C E):=
 h.bu [12,9] []
theorem L9(h:al [.f A a false]):
 bp (aF Try.f43 0) (sn e f g i j k b A C c d q a E) (.exit 0) (zL C E):=
 h.bu [12,9] []
theorem abM(h:al (GI C E e g c i j f F q r d s a t b u [.n u false,.r 62 [ao 5,aB 4 C,.agg [I c,I d,I a,I b]] [aB 4 A,au v],.n v false,.r 60 [.agg (aX i j f F),ao a,ao b] [ao k,ao l,au w],.l [] [17,10,16,9,5,14,15,12] [10,5] (aF Try.f43 0) (sn c d a b i j f F A k l w 0 []) (.exit 0) (zL A G)])):
 aA 43 [.agg (bj E e g),aB 4 C,.agg [I c,I d,I a,I b]] [aB 4 A,aB 4 G]:=
 h.of
def oN(a:Int)(A:aE)(b:Int)(C E:aE)(c d:Int):aG:=bR 63 [(1,bB a),(2,eB 5 A),(3,bC 3),(7,az.aN (bi.one (bU 13 4 []))),(8,az.aN (bi.one (bU 14 4 C))),(9,bB b)] [(3,[.aa .free 4 E,aS c,aS d])]
theorem abN(h:al [.i A d (bx f e g b c),.b (e==a) true,.r 34 [.agg (bx f e g b c)] [au q],.b q true,.g C [[I 0,I a,I b,I c]] 32,.h [[I 0,I a,I b,I c]],.u d]):
 bp (aF Try.f27 0) (oN a A d C E i j) .normal (oN a A (d+1) (C++[[I 0,I a,I b,I c]]) E i j):=
 h.bu [9,2,1,8,3,7] [3]
theorem abO(h:al [.i A a (bx d b e f g),.b (b==c) true,.r 34 [.agg (bx d b e f g)] [au q],.b q false,.u a]):
 bp (aF Try.f27 0) (oN c A a C E i j) .normal (oN c A (a+1) C E i j):=
 h.bu [9,2,1,8,3,7] [3]
theorem abP(h:al [.i A a (bx f c g i j),.b (c==b) false,.u a]):
 bp (aF Try.f27 0) (oN b A a C E d e) .normal (oN b A (a+1) C E d e):=
 h.bu [9,2,1,8,3,7] [3]
def FL(A C:aE)(a b:Int):aG:=bR 63 [(3,bC 3),(7,az.aN (bi.one (bU 13 4 []))),(8,az.aN (bi.one (bU 14 4 A)))] [(3,[.aa .free 4 C,aS a,aS b])]
theorem abQ(h:al [.f A a false]):
 bp (aF Try.f27 0) (oN d A a C E b c) (.exit 0) (FL C E b c):=
 h.bu [8,3,7] [3]
def uu(A:aE)(a b:Int)(C E:aE):aG:=bR 63 [(3,bC 3),(7,az.aN (bi.one (bU 7 4 E))),(8,az.aN (bi.one (bU 8 4 C)))] [(3,[.aa .free 4 A,aS a,aS b])]
theorem abR(h:al [.b (decide ((A.length:Int)>0)) true,.p ((0:Int)<=0),.p (0<(A.length:Int)),.e A 0 [I c,I d,I e,I f],.r 43 [.agg (bj E a b),aB 4 F,.agg [I c,I d,I e,I f]] [aB 4 G,aB 4 C],.p ((0:Int)<=(some (1:Int)).getD 0),.p ((some (1:Int)).getD 0<=none.getD (A.length:Int)),.p (none.getD (A.length:Int)<=(A.length:Int)),.g ([]:aE) (List.take (A.length-1) (List.drop 1 A)) 32,.h (List.take (A.length-1) (List.drop 1 A)),.g ([]++List.take (A.length-1) (List.drop 1 A)) C 32,.h C]):
 bp (aF Try.f27 1) (uu E a b A F) .normal (uu E a b ([]++List.take (A.length-1) (List.drop 1 A)++C) G):=
 h.yt [(7,7,4),(8,8,4)] [8,3,7] [3]
def FM(A:aE):aG:=bR 63 [(7,az.aN (bi.one (bU 7 4 A)))] []
theorem Ma(h:al [.b (decide ((C.length:Int)>0)) false]):
 bp (aF Try.f27 1) (uu E a b C A) (.exit 2) (FM A):=
 h.bu [7] []
theorem abS(h:al [.l [] [9,2,1,8,3,7] [3] (aF Try.f27 0) (oN c C 0 [] A a b) (.exit 0) (FL E F d e),.l [(7,7,4),(8,8,4)] [8,3,7] [3] (aF Try.f27 1) (uu F d e E []) (.exit 2) (FM G)]):
 aA 27 [.agg (bj A a b),ao c,aB 5 C] [aB 4 G]:=
 h.of
theorem abT(h:al [.r 27 [.agg (bj A a b),ao c,aB 5 C] [aB 4 E],.r 24 [.agg (bj A a b),aB 4 E] [aB 4 F]]):
 aA 16 [.agg (bj A a b),ao c,aB 5 C] [aB 4 F]:=
 h.of
