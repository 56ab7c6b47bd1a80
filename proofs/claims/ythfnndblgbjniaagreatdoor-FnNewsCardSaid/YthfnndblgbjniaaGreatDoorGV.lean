import Derived.Test.YthfnndblgbjniaaGreatDoorGE
namespace Go.Proofs.YthfnndblgbjniaaGreatDoor
open Go.Sx Go.RowKit Go.Proofs.Tryz
variable {a b c d e f g i j k l m n o p a0 cj : Int} {A C E F G H ah K L M N Q R S bu V X Y Z ew iW iX jL jM jN k0 mZ : ae} {q r s t u v w x y z gJ fS t0 gg : Bool}
theorem abT(h:af [.g ([]:ae) A 8,.h A]):
 ax 125 [.agg (bi a b c A)] [.agg (bi a b c ([]++A))]:=
 h.of
def zp(A:ae)(a:Int)(C:ae)(b c d e:Int):aD:=bd 27 [(2,aN 2),(3,aN 3),(12,cQ 4 A),(13,aU (A.length:Int)),(14,aU a)] [(3,[al 23 4 C,ak b,ak c]),(2,[.v (aL),ak d,ak e])]
theorem abU(h:af [.i A a (bi l e f F),.r 125 [.agg (bi l e f F)] [.agg (bi b c d C)],.a .wr,.g E [(bi b c d C)] 48,.u a]):
 aX (aq f75 0) (zp A a E g i j k) .normal (zp A (a+1) (E++[(bi b c d C)]) g i j k):=
 h.aV [14,13,12,3,2] [3,2]
def Q0(A:ae)(a b c d:Int):aD:=bd 27 [(2,aN 2),(3,aN 3)] [(3,[al 23 4 A,ak a,ak b]),(2,[.v (aL),ak c,ak d])]
theorem abV(h:af [.f A a false]):
 aX (aq f75 0) (zp A a C b c d e) (.exit 0) (Q0 C b c d e):=
 h.aV [3,2] [3,2]
theorem abW(h:af [.l [(4000000,23,4)] [14,13,12,3,2] [3,2] (aq f75 0) (zp A 0 [] a b 0 0) (.exit 0) (Q0 C c d e f)]):
 ax 75 [.agg (bC A a b)] [.agg (bC C c d)]:=
 h.of
theorem abX(h:af [.r 126 [aY 5 A] [aY 5 C]]):
 ax 77 [.agg (ck a A b c d e)] [.agg (ck a C b c d e)]:=
 h.of
theorem abY(h:af [.r 126 [aY 5 G] [aY 5 N],.r 126 [aY 5 H] [aY 5 Q],.r 126 [aY 5 L] [aY 5 ah],.r 127 [aY 4 M] [aY 4 K],.g ([]:ae) A 8,.h A,.g ([]:ae) C 1,.h C,.g ([]:ae) E 1,.h E,.g ([]:ae) F 16,.h F]):
 ax 76 [.agg (bf G H L M A C E F)] [.agg (bf N Q ah K ([]++A) ([]++C) ([]++E) ([]++F))]:=
 h.of
def zq(A:ae)(a:Int)(ah:ae)(d e:Int)(K L M:ae)(f g:Int)(C:ae)(b c:Int)(E F G H:ae):aD:=bd 49 [(1,aN 1),(2,aN 2),(3,aN 3),(19,cQ 8 A),(20,aU (A.length:Int)),(21,aU a)] [(3,[al 110000 4 ah,ak d,ak e,al 30 8 K,.v (aL),al 13 5 L,al 16 3 M]),(2,[.v (aL),ak f,ak g,.v (aL),.v (aL),.v (aL),.v (aL)]),(1,[.J .free 4 C,ak b,ak c,.J .free 8 E,.J .free 6 F,.J .free 5 G,.J .free 3 H])]
theorem abZ(h:af [.i C a (bf Z ew iW iX jL jM jN k0),.r 76 [.agg (bf Z ew iW iX jL jM jN k0)] [.agg (bf E F G H ah K L M)],.a .wr,.g A [(bf E F G H ah K L M)] 192,.u a]):
 aX (aq f38 0) (zq C a N b c A Q R d e S f g bu V X Y) .normal (zq C (a+1) N b c (A++[(bf E F G H ah K L M)]) Q R d e S f g bu V X Y):=
 h.aV [21,20,19,3,1,2] [3,2,1]
def Q1(A:ae)(a c:Int)(H ah K:ae)(d e:Int)(L:ae)(f b:Int)(C E F G:ae):aD:=bd 49 [(1,aN 1),(2,aN 2),(3,aN 3)] [(3,[al 110000 4 A,ak a,ak c,al 30 8 H,.v (aL),al 13 5 ah,al 16 3 K]),(2,[.v (aL),ak d,ak e,.v (aL),.v (aL),.v (aL),.v (aL)]),(1,[.J .free 4 L,ak f,ak b,.J .free 8 C,.J .free 6 E,.J .free 5 F,.J .free 3 G])]
theorem ab0(h:af [.f M a false]):
 aX (aq f38 0) (zq M a A b c C E F d e G f g H ah K L) (.exit 0) (Q1 A b c C E F d e G f g H ah K L):=
 h.aV [1,3,2] [3,2,1]
def zr(A:ae)(a:Int)(C:ae)(c d:Int)(E F G H:ae)(e b:Int):aD:=bd 49 [(2,aN 2),(3,aN 3),(34,cQ 6 A),(35,aU (A.length:Int)),(36,aU a)] [(3,[al 110000 4 C,ak c,ak d,al 30 8 E,al 45 6 F,al 13 5 G,al 16 3 H]),(2,[.v (aL),ak e,ak b,.v (aL),.v (aL),.v (aL),.v (aL)])]
theorem ab1(h:af [.i A a (ck l K m n o p),.r 77 [.agg (ck l K m n o p)] [.agg (ck b E c d e f)],.a .wr,.g C [(ck b E c d e f)] 64,.u a]):
 aX (aq f38 1) (zr A a F g i G C H ah j k) .normal (zr A (a+1) F g i G (C++[(ck b E c d e f)]) H ah j k):=
 h.aV [36,35,34,3,2] [3,2]
def Q2(A:ae)(a b:Int)(C E F G:ae)(c d:Int):aD:=bd 49 [(2,aN 2),(3,aN 3)] [(3,[al 110000 4 A,ak a,ak b,al 30 8 C,al 45 6 E,al 13 5 F,al 16 3 G]),(2,[.v (aL),ak c,ak d,.v (aL),.v (aL),.v (aL),.v (aL)])]
theorem ab2(h:af [.f A a false]):
 aX (aq f38 1) (zr A a C b c E F G H d e) (.exit 2) (Q2 C b c E F G H d e):=
 h.aV [3,2] [3,2]
theorem abt(h:af [.r 75 [.agg (bC E a b)] [.agg (bC V j k)],.g ([]:ae) A 32,.h A,.g ([]:ae) C 24,.h C,.l [(4000003,30,8)] [21,20,19,3,1,2] [3,2,1] (aq f38 0) (zq F 0 V j k [] ([]++A) ([]++C) 0 0 E a b F bu A C) (.exit 0) (Q1 G c d H ah K e f X l m Y L Z ew),.l [(4000004,45,6)] [36,35,34,3,2] [3,2] (aq f38 1) (zr L 0 G c d H [] ah K e f) (.exit 2) (Q2 M g i N Q R S n o)]):
 ax 38 [.agg (bI E a b F bu A C)] [.agg (bI M g i N Q R S)]:=
 h.of
theorem abu(h:af [.g ([]:ae) A 40,.h A]):
 ax 137 [.agg (ck a A b c d e)] [.agg (ck a ([]++A) b c d e)]:=
 h.of
def zt(a:Int)(A:ae)(b c d e:Int)(C:ae)(f g:Int):aD:=bd 33 [(1,aN 1),(2,aN 2),(3,aN 3),(4,aU a)] [(3,[al 7 4 A,ak b,ak c]),(2,[.v (aL),ak d,ak e]),(1,[.J .free 4 C,ak f,ak g])]
theorem abv(h:af [.i E a (bi b c d A),.a .wr,.g ([]:ae) A 8,.h A,.g C [(bi b c d ([]++A))] 48,.u a]):
 aX (aq f135 0) (zt a C g i j k E e f) .normal (zt (a+1) (C++[(bi b c d ([]++A))]) g i j k E e f):=
 h.aV [4,1,3,2] [3,2,1]
def Q3(A:ae)(a b c d:Int):aD:=bd 33 [(2,aN 2),(3,aN 3)] [(3,[al 7 4 A,ak a,ak b]),(2,[.v (aL),ak c,ak d])]
theorem abw(h:af [.f C a false]):
 aX (aq f135 0) (zt a A b c d e C f g) (.exit 0) (Q3 A b c d e):=
 h.aV [3,2] [3,2]
theorem abx(h:af [.l [] [4,1,3,2] [3,2,1] (aq f135 0) (zt 0 [] a b 0 0 A a b) (.exit 0) (Q3 C c d e f)]):
 ax 135 [.agg (bC A a b)] [.agg (bC C c d)]:=
 h.of
theorem aby(h:af [.g ([]:ae) A 40,.h A,.g ([]:ae) C 40,.h C,.g ([]:ae) E 40,.h E,.g ([]:ae) F 32,.h F,.g ([]:ae) G 8,.h G,.g ([]:ae) H 1,.h H,.g ([]:ae) ah 1,.h ah,.g ([]:ae) K 16,.h K]):
 ax 136 [.agg (bf A C E F G H ah K)] [.agg (bf ([]++A) ([]++C) ([]++E) ([]++F) ([]++G) ([]++H) ([]++ah) ([]++K))]:=
 h.of
def zu(a:Int)(A:ae)(d e:Int)(H ah K:ae)(f g:Int)(L:ae)(b c:Int)(C E F G:ae):aD:=bd 55 [(1,aN 1),(2,aN 2),(3,aN 3),(4,aU a)] [(3,[al 90000 4 A,ak d,ak e,al 34 8 H,.v (aL),al 9 5 ah,al 13 3 K]),(2,[.v (aL),ak f,ak g,.v (aL),.v (aL),.v (aL),.v (aL)]),(1,[.J .free 4 L,ak b,ak c,.J .free 8 C,.J .free 6 E,.J .free 5 F,.J .free 3 G])]
theorem abz(h:af [.i C a (bf Y Z ew iW iX jL jM jN),.r 136 [.agg (bf Y Z ew iW iX jL jM jN)] [.agg (bf E F G H ah K L M)],.a .wr,.g A [(bf E F G H ah K L M)] 192,.u a]):
 aX (aq f83 0) (zu a N b c A Q R d e S f g C bu V X) .normal (zu (a+1) N b c (A++[(bf E F G H ah K L M)]) Q R d e S f g C bu V X):=
 h.aV [4,1,3,2] [3,2,1]
def Q4(A:ae)(a c:Int)(H ah K:ae)(d e:Int)(L:ae)(f b:Int)(C E F G:ae):aD:=bd 55 [(1,aN 1),(2,aN 2),(3,aN 3)] [(3,[al 90000 4 A,ak a,ak c,al 34 8 H,.v (aL),al 9 5 ah,al 13 3 K]),(2,[.v (aL),ak d,ak e,.v (aL),.v (aL),.v (aL),.v (aL)]),(1,[.J .free 4 L,ak f,ak b,.J .free 8 C,.J .free 6 E,.J .free 5 F,.J .free 3 G])]
theorem abA(h:af [.f A a false]):
 aX (aq f83 0) (zu a C b c E F G d e H f g A ah K L) (.exit 0) (Q4 C b c E F G d e H f g A ah K L):=
 h.aV [1,3,2] [3,2,1]
def zv(a:Int)(A:ae)(d e:Int)(ah K L M:ae)(f g:Int)(C:ae)(b c:Int)(E F G H:ae):aD:=bd 55 [(1,aN 1),(2,aN 2),(3,aN 3),(5,aU a)] [(3,[al 90000 4 A,ak d,ak e,al 34 8 ah,al 52 6 K,al 9 5 L,al 13 3 M]),(2,[.v (aL),ak f,ak g,.v (aL),.v (aL),.v (aL),.v (aL)]),(1,[.J .free 4 C,ak b,ak c,.J .free 8 E,.J .free 6 F,.J .free 5 G,.J .free 3 H])]
theorem abB(h:af [.i C a (ck n Q o p a0 cj),.r 137 [.agg (ck n Q o p a0 cj)] [.agg (ck b E c d e f)],.a .wr,.g A [(ck b E c d e f)] 64,.u a]):
 aX (aq f83 1) (zv a F g i G A H ah j k K l m L C M N) .normal (zv (a+1) F g i G (A++[(ck b E c d e f)]) H ah j k K l m L C M N):=
 h.aV [5,1,3,2] [3,2,1]
def Q5(A:ae)(a b:Int)(C E F G:ae)(c d:Int):aD:=bd 55 [(2,aN 2),(3,aN 3)] [(3,[al 90000 4 A,ak a,ak b,al 34 8 C,al 52 6 E,al 9 5 F,al 13 3 G]),(2,[.v (aL),ak c,ak d,.v (aL),.v (aL),.v (aL),.v (aL)])]
theorem abC(h:af [.f H a false]):
 aX (aq f83 1) (zv a A b c C E F G d e ah f g K H L M) (.exit 2) (Q5 A b c C E F G d e):=
 h.aV [3,2] [3,2]
theorem ac6(h:af [.r 135 [.agg (bC E a b)] [.agg (bC ew l m)],.g ([]:ae) A 32,.h A,.g ([]:ae) C 24,.h C,.l [(4000003,34,8)] [4,1,3,2] [3,2,1] (aq f83 0) (zu 0 ew l m [] ([]++A) ([]++C) 0 0 E a b V Z A C) (.exit 0) (Q4 F c d G H ah e f K g i L M N Q),.l [(4000004,52,6)] [5,1,3,2] [3,2,1] (aq f83 1) (zv 0 F c d G [] H ah e f K g i L M N Q) (.exit 2) (Q5 R j k S bu X Y n o)]):
 ax 83 [.agg (bI E a b V Z A C)] [.agg (bI R j k S bu X Y)]:=
 h.of
theorem ac7(h:af [.r 83 [.agg (bI A a b C E F G)] [.agg (bI M c d H ah K L)],.r 84 [.agg (bI A a b C E F G)] [ar q]]):
 b5 44 [aJ.ro (.agg (bI A a b C E F G))] (aS.new [D.J 4 M,I c,I d,D.J 8 H,D.J 6 ah,D.J 5 K,D.J 3 L,B q]):=
 h.b6
def o6(a b:Int)(A:ae)(c d:Int)(C E F G:ae)(q:Bool):aD:=bd 93 [(0,aN 1000000000),(1,aU a),(5,aU b)] [(1000000000,[al 900000000 4 A,ak c,ak d,al 900000003 8 C,al 900000004 6 E,al 900000005 5 F,al 900000006 3 G,.a1 q])]
theorem ac8(h:af [.f A a true,.b q true,.x A a [I e,I f,B r],.b (e != b) true,.u a]):
 aX (aq f45 0) (o6 b a C c d E F G A q) .normal (o6 b (a+1) C c d E F G A q):=
 h.aV [5,0,1] [1000000000]
def C1(q:Bool)(A:ae)(a b:Int)(C E F G:ae)(r:Bool):aD:=bd 93 [(0,aN 1000000000),(4,.az (.one (.a1 q)))] [(1000000000,[al 900000000 4 A,ak a,ak b,al 900000003 8 C,al 900000004 6 E,al 900000005 5 F,al 36 3 G,.a1 r])]
def UE(A:ae)(a:Int)(q:Bool)(b c:Int)(r:Bool)(d:Int)(C E F G H ah K L M:ae)(s:Bool)(l:List O):List O:=.f A a true::.b q true::.x A a [I b,I c,B r]::.b (b != d) false::.a .sub::.p ((0:Int)<=none.getD 0)::.p (none.getD 0<=(some a).getD (A.length:Int))::.p ((some a).getD (A.length:Int)<=(A.length:Int))::.p ((([]:ae).length+(List.take (((some a).getD (A.length:Int)).toNat-0) (List.drop 0 A)).length)*24<=140737488355328)::.p (([]:ae).length+(List.take (((some a).getD (A.length:Int)).toNat-0) (List.drop 0 A)).length<=9223372036854775807)::.p (Flat (List.take (((some a).getD (A.length:Int)).toNat-0) (List.drop 0 A)))::.u a::.p (0<=(some (a+1)).getD 0)::.p ((some (a+1)).getD 0<=none.getD (A.length:Int))::.p (none.getD (A.length:Int)<=(A.length:Int))::.p ((([]++List.take (((some a).getD (A.length:Int)).toNat-0) (List.drop 0 A)).length+(List.take (A.length-((some (a+1)).getD 0).toNat) (List.drop ((some (a+1)).getD 0).toNat A)).length)*24<=140737488355328)::.p (([]++List.take (((some a).getD (A.length:Int)).toNat-0) (List.drop 0 A)).length+(List.take (A.length-((some (a+1)).getD 0).toNat) (List.drop ((some (a+1)).getD 0).toNat A)).length<=9223372036854775807)::.p (Flat (List.take (A.length-((some (a+1)).getD 0).toNat) (List.drop ((some (a+1)).getD 0).toNat A)))::.x C d (bf E F G H ah K L M)::.r 21 [.agg (bf E F G H ah K L M),ag c] [ar s]::l
theorem ac9(h:af (UE A a r f c q b C F G H ah K L M E s [.n s true,.a .sub,.x C b (bf F G H ah K L M E),.g E [[I c,B q]] 16,.e C b.toNat (bf F G H ah K L M E),.p ((bf F G H ah K L M E)[7]?=some (D.J 2 E)),.h [[I c,B q]],.p (C=C),.p (C=C),.p (b.toNat=b.toNat),.p (E=E),.p (C=C),.p (C=C),.p (C=C),.p (C=C),.p (C=C),.p (b.toNat=b.toNat),.p (E=E),.x C b (bf F G H ah K L M E),.p (b.toNat=b.toNat)])):
 aX (aq f45 0) (o6 b a N d e C Q R A r) .ret (C1 true N d e (C.set b.toNat (bf F G H ah K L M (E++[[I c,B q]]))) Q R ([]++List.take (((some a).getD (A.length:Int)).toNat-0) (List.drop 0 A)++List.take (A.length-((some (a+1)).getD 0).toNat) (List.drop ((some (a+1)).getD 0).toNat A)) r):=
 h.aV [4,0] [1000000000]
theorem ada(h:af (UE A a q e f s b C H ah K L M N Q R r [.n r false])):
 aX (aq f45 0) (o6 b a E c d C F G A q) .ret (C1 true E c d C F G ([]++List.take (((some a).getD (A.length:Int)).toNat-0) (List.drop 0 A)++List.take (A.length-((some (a+1)).getD 0).toNat) (List.drop ((some (a+1)).getD 0).toNat A)) q):=
 h.aV [4,0] [1000000000]
def Jf(A:ae)(a b:Int)(C E F G:ae)(q:Bool):aD:=bd 93 [(0,aN 1000000000)] [(1000000000,[al 900000000 4 A,ak a,ak b,al 900000003 8 C,al 900000004 6 E,al 900000005 5 F,al 900000006 3 G,.a1 q])]
theorem adb(h:af [.f A c true,.b q false]):
 aX (aq f45 0) (o6 d c C a b E F G A q) (.exit 0) (Jf C a b E F G A q):=
 h.aV [0] [1000000000]
theorem Q6(h:af [.f A c false]):
 aX (aq f45 0) (o6 d c C a b E F G A q) (.exit 0) (Jf C a b E F G A q):=
 h.aV [0] [1000000000]
theorem ade(h:af [.l [] [5,0,1] [1000000000] (aq f45 0) (o6 e 0 A a d ah K L M r) .ret (C1 s C b c E F G H q)]):
 b5 45 [aJ.ref [D.J 4 A,I a,I d,D.J 8 ah,D.J 6 K,D.J 5 L,D.J 3 M,B r] [D.J 4 C,I b,I c,D.J 8 E,D.J 6 F,D.J 5 G,D.J 3 H,B q],aJ.ro (ag e)] (aS.vals [ar s]):=
 h.b6
theorem Jg(h:af [.l [] [5,0,1] [1000000000] (aq f45 0) (o6 e 0 A a d H ah K L r) (.exit 0) (Jf M b c C E F G q)]):
 b5 45 [aJ.ref [D.J 4 A,I a,I d,D.J 8 H,D.J 6 ah,D.J 5 K,D.J 3 L,B r] [D.J 4 M,I b,I c,D.J 8 C,D.J 6 E,D.J 5 F,D.J 3 G,B q],aJ.ro (ag e)] (aS.vals [ar false]):=
 h.b6
theorem adf(h:af [.a (.cY [none] (aS.new [D.J 4 M,I d,I a,D.J 8 A,D.J 6 C,D.J 5 E,D.J 3 F,B q])),.a (.cY [some [D.J 4 G,I b,I c,D.J 8 H,D.J 6 ah,D.J 5 K,D.J 3 L,B s],none] (aS.vals [ar r])),.p (bP prog 44 [aJ.ro (.agg (bI N e f Q R S bu))] (aS.new [D.J 4 M,I d,I a,D.J 8 A,D.J 6 C,D.J 5 E,D.J 3 F,B q])),.p (bP prog 45 [aJ.ref [D.J 4 M,I d,I a,D.J 8 A,D.J 6 C,D.J 5 E,D.J 3 F,B q] [D.J 4 G,I b,I c,D.J 8 H,D.J 6 ah,D.J 5 K,D.J 3 L,B s],aJ.ro (ag g)] (aS.vals [ar r]))]):
 ax 8 [.agg (bI N e f Q R S bu),ag g] [.agg (bI G b c H ah K L),ar r]:=
 h.of
theorem adg(h:af []):
 ax 40 [.agg [I a,I c,B q],.one (.ptr [I b])] [ar (a==b)]:=
 h.of
def LB(A:ae)(a b:Int)(C E F G H:ae)(c d:Int)(ah K L M:ae)(e f:Int)(l:List O):List O:=.r 38 [.agg (bI A a b C E F G)] [.agg (bI H c d ah K L M)]::.r 39 [aY 3 G,.one (.bI 40 [D.ptr [I e]])] [ag f]::l
theorem adh(h:af (LB C a d ah K L A M f b E F G H e c [.b (decide (c<0)) true])):
 ax 7 [.agg (bI C a d ah K L A),ag e] [.agg (bI M f b E F G H),ar false]:=
 h.of
theorem adi(h:af (LB C a b E F G A M f c H ah K L e d [.b (decide (d<0)) false,.r 41 [.agg (bI C a b E F G A)] [ar q],.n q true])):
 ax 7 [.agg (bI C a b E F G A),ag e] [.agg (bI M f c H ah K L),ar false]:=
 h.of
def UF(A:ae)(a b:Int)(C E F G H:ae)(c d:Int)(ah K L M:ae)(e f:Int)(q:Bool)(g i:Int)(r:Bool)(N P Q R S bu V X Y:ae)(s:Bool)(l:List O):List O:=LB A a b C E F G H c d ah K L M e f (.b (decide (f<0)) false::.r 41 [.agg (bI A a b C E F G)] [ar q]::.n q false::.x G f [I g,I i,B r]::.a (.s7 [[some none],[none],[none]] 0 [] [aY 3 N])::.u f::.p (px prog 42 [GA.one (ff.fM 3 M none),GA.one (ff.ro (I f)),GA.one (ff.ro (I (f+1)))] [aY 3 N])::.x C e (bf P Q R S bu V X Y)::.r 43 [.agg (bf P Q R S bu V X Y),ag i] [ar s]::l)
theorem adj(h:af (UF Q d e N S bu M mZ g f A V X Y a b r i c q R Z ew iW iX jL jM jN k0 s [.n s true,.a .sub,.x A a (bf E F G H ah K L C),.g C [[I c,B q]] 16,.e A a.toNat (bf E F G H ah K L C),.p ((bf E F G H ah K L C)[7]?=some (D.J 2 C)),.h [[I c,B q]],.p (A=A),.p (A=A),.p (A=A),.p (A=A),.p (A=A),.p (A=A),.p (a.toNat=a.toNat),.p (C=C),.x A a (bf E F G H ah K L C),.p (a.toNat=a.toNat)])):
 ax 7 [.agg (bI Q d e N S bu M),ag a] [.agg (bI mZ g f (A.set a.toNat (bf E F G H ah K L (C++[[I c,B q]]))) V X R),ar true]:=
 h.of
theorem adk(h:af (UF E b c C G H A Z g e ah K L M d a q i f s F N Q R S bu V X Y r [.n r false])):
 ax 7 [.agg (bI E b c C G H A),ag d] [.agg (bI Z g e ah K L F),ar true]:=
 h.of
def zw(a:Int)(q:Bool)(b:Int)(A:ae)(c d:Int)(C E F G:ae)(r:Bool):aD:=bd 52 [(0,aN 1000000000),(1,aU a),(2,.az (.one (.a1 q))),(6,aU b)] [(1000000000,[al 900000000 4 A,ak c,ak d,al 900000003 8 C,al 900000004 6 E,al 900000005 5 F,al 900000006 3 G,.a1 r])]
theorem adl(h:af [.f A a true,.g C [[I a,I b,B q]] 24,.h [[I a,I b,B q]],.u a]):
 aX (aq f166 0) (zw b q a E c d A F G C r) .normal (zw b q (a+1) E c d A F G (C++[[I a,I b,B q]]) r):=
 h.aV [6,0,1,2] [1000000000]
def Q7(A:ae)(a b:Int)(C E F G:ae)(q:Bool):aD:=bd 52 [(0,aN 1000000000)] [(1000000000,[al 900000000 4 A,ak a,ak b,al 900000003 8 C,al 900000004 6 E,al 900000005 5 F,al 900000006 3 G,.a1 q])]
theorem adm(h:af [.f A a false]):
 aX (aq f166 0) (zw d r a C b c A E F G q) (.exit 0) (Q7 C b c A E F G q):=
 h.aV [0] [1000000000]
theorem adn(h:af [.a .sub,.p ((0:Int)<=0),.p (0<(A.length:Int)),.e A 0 (bf E F G H ah K L C),.g C [[I a,B q]] 16,.e A 0 (bf E F G H ah K L C),.p ((bf E F G H ah K L C)[7]?=some (D.J 2 C)),.h [[I a,B q]],.p (A=A),.p (A=A),.p (A=A),.p (A=A),.p (A=A),.p (0=0),.p (C=C),.p ((0:Int)<=0),.p (0<(A.length:Int)),.e A 0 (bf E F G H ah K L C),.p (0=0),.l [] [6,0,1,2] [1000000000] (aq f166 0) (zw a q 1 M b d (A.set 0 (bf E F G H ah K L (C++[[I a,B q]]))) V X Y s) (.exit 0) (Q7 N c e Q R S bu r)]):
 b5 166 [aJ.ref [D.J 4 M,I b,I d,D.J 8 A,D.J 6 V,D.J 5 X,D.J 3 Y,B s] [D.J 4 N,I c,I e,D.J 8 Q,D.J 6 R,D.J 5 S,D.J 3 bu,B r],aJ.ro (ag a),aJ.ro (ar q)] (aS.vals []):=
 h.b6
theorem ado(h:af [.n q true]):
 b5 115 [aJ.ref [D.J 4 A,I a,I b,D.J 8 C,D.J 6 E,D.J 5 F,D.J 3 G,B q] [D.J 4 A,I a,I b,D.J 8 C,D.J 6 E,D.J 5 F,D.J 3 G,B q],aJ.ro (ag c)] (aS.vals [ar false]):=
 h.b6
def UG(q:Bool)(a:Int)(r:Bool)(l:List O):List O:=.n q false::.r 65 [ag a,ag 0,ag 3] [ar r]::l
theorem adp(h:af (UG q c r [.n r true])):
 b5 115 [aJ.ref [D.J 4 A,I a,I b,D.J 8 C,D.J 6 E,D.J 5 F,D.J 3 G,B q] [D.J 4 A,I a,I b,D.J 8 C,D.J 6 E,D.J 5 F,D.J 3 G,B q],aJ.ro (ag c)] (aS.vals [ar false]):=
 h.b6
def UH(q:Bool)(a:Int)(r:Bool)(A:ae)(b c:Int)(C E F G:ae)(s:Bool)(l:List O):List O:=UG q a r (.n r false::.r 164 [.agg (bI A b c C E F G),ag a] [ar s]::l)
theorem adq(h:af (UH q c s A a b C E F G r [.b r true])):
 b5 115 [aJ.ref [D.J 4 A,I a,I b,D.J 8 C,D.J 6 E,D.J 5 F,D.J 3 G,B q] [D.J 4 A,I a,I b,D.J 8 C,D.J 6 E,D.J 5 F,D.J 3 G,B q],aJ.ro (ag c)] (aS.vals [ar false]):=
 h.b6
def UI(q:Bool)(a:Int)(r:Bool)(A:ae)(b c:Int)(C E F G:ae)(s t:Bool)(d e:Int)(u v:Bool)(H ah K L M N P Q:ae)(w:Bool)(l:List O):List O:=UH q a r A b c C E F G s (.b s false::.x F a [B t,I d,I e,B u,B v]::.a .sub::.x C d (bf H ah K L M N P Q)::.r 165 [.agg (bf H ah K L M N P Q),ag a] [ar w]::l)
theorem adr(h:af (UI q a t E b c A F C G r u d e v w H ah K L M N Q R s [.n s true])):
 b5 115 [aJ.ref [D.J 4 E,I b,I c,D.J 8 A,D.J 6 F,D.J 5 C,D.J 3 G,B q] [D.J 4 E,I b,I c,D.J 8 A,D.J 6 F,D.J 5 C,D.J 3 G,B q],aJ.ro (ag a)] (aS.vals [ar false]):=
 h.b6
def LC(q:Bool)(a:Int)(r:Bool)(A:ae)(b c:Int)(C E F G:ae)(s t:Bool)(d e:Int)(u v:Bool)(H ah K L M N P Q:ae)(w:Bool)(f:Int)(l:List O):List O:=UI q a r A b c C E F G s t d e u v H ah K L M N P Q w (.n w false::.x M a [I f]::.v (e+f)::l)
theorem ads(h:af (LC q a v F c d A S C bu r s b e w x V X Y Z G ew H iW t f [.n s true,.v ((A.length:Int)-1),.x H a [B u],.x C a [B y,I g,I i,B z,B gJ],.a .sub,.p ((0:Int)<=0),.p (0<(A.length:Int)),.e A 0 (bf ah K L M N E Q R),.x E a [B fS],.e A 0 (bf ah K L M N E Q R),.p (b.toNat=0),.p (b.toNat=0),.p (0=0),.p (0=0),.p (b.toNat=0)])):
 b5 115 [aJ.ref [D.J 4 F,I c,I d,D.J 8 A,D.J 6 S,D.J 5 C,D.J 3 bu,B q] [D.J 4 F,I c,I d,D.J 8 (A.set 0 (bf ah K L M N (E.set a.toNat [B false]) Q R)),D.J 6 S,D.J 5 (C.set a.toNat [B true,I ((A.length:Int)-1),I 0,B false,B u]),D.J 3 bu,B q],aJ.ro (ag a)] (aS.vals [ar true]):=
 h.b6
def Ac(q:Bool)(a:Int)(r:Bool)(A:ae)(b c:Int)(C E F G:ae)(s t:Bool)(d e:Int)(u v:Bool)(H ah K L M N P Q:ae)(w:Bool)(f:Int)(x:Bool)(l:List O):List O:=LC q a r A b c C E F G s t d e u v H ah K L M N P Q w f (.n t false::.b (decide (d>0)) true::.r 65 [ag (e+f),ag (-1000000),ag 1000000] [ar x]::l)
theorem adt(h:af (Ac q a v E b e A G C H r s c d w x ah K L M F N Q R t f u [.n u true])):
 b5 115 [aJ.ref [D.J 4 E,I b,I e,D.J 8 A,D.J 6 G,D.J 5 C,D.J 3 H,B q] [D.J 4 E,I b,I e,D.J 8 A,D.J 6 G,D.J 5 C,D.J 3 H,B q],aJ.ro (ag a)] (aS.vals [ar false]):=
 h.b6
theorem adu(h:af (Ac q b x N e f E Q M R r s a c t u F G H ah A C K L v d w [.n w false,.v (a-1),.b t true,.b u true,.x M b [B y,I g,I i,B z,B gJ],.a .sub,.x E a (bf F G H ah A C K L),.x C b [B fS],.e E a.toNat (bf F G H ah A C K L),.p (a.toNat=a.toNat),.p (a.toNat=a.toNat),.p (a.toNat=a.toNat),.p (a.toNat=a.toNat),.p (a.toNat=a.toNat)])):
 b5 115 [aJ.ref [D.J 4 N,I e,I f,D.J 8 E,D.J 6 Q,D.J 5 M,D.J 3 R,B q] [D.J 4 N,I e,I f,D.J 8 (E.set a.toNat (bf F G H ah A (C.set b.toNat [B false]) K L)),D.J 6 Q,D.J 5 (M.set b.toNat [B true,I (a-1),I (c+d),B true,B true]),D.J 3 R,B q],aJ.ro (ag b)] (aS.vals [ar true]):=
 h.b6
theorem adv(h:af (Ac q b y N e f F Q M R r s a c t u G H ah K A C E L v d w [.n w false,.v (a-1),.b t true,.b u false,.x E b [B x],.x M b [B z,I g,I i,B gJ,B fS],.a .sub,.x F a (bf G H ah K A C E L),.x C b [B t0],.e F a.toNat (bf G H ah K A C E L),.p (a.toNat=a.toNat),.p (a.toNat=a.toNat),.p (a.toNat=a.toNat),.p (a.toNat=a.toNat),.p (a.toNat=a.toNat)])):
 b5 115 [aJ.ref [D.J 4 N,I e,I f,D.J 8 F,D.J 6 Q,D.J 5 M,D.J 3 R,B q] [D.J 4 N,I e,I f,D.J 8 (F.set a.toNat (bf G H ah K A (C.set b.toNat [B false]) E L)),D.J 6 Q,D.J 5 (M.set b.toNat [B true,I (a-1),I (c+d),B true,B x]),D.J 3 R,B q],aJ.ro (ag b)] (aS.vals [ar true]):=
 h.b6
theorem adw(h:af (Ac q b y N e f E Q M R r s a c t u F G H ah C A K L v d w [.n w false,.v (a-1),.b t false,.x A b [B x],.b u true,.x M b [B z,I g,I i,B gJ,B fS],.a .sub,.x E a (bf F G H ah C A K L),.x A b [B t0],.e E a.toNat (bf F G H ah C A K L),.p (a.toNat=a.toNat),.p (a.toNat=a.toNat),.p (a.toNat=a.toNat),.p (a.toNat=a.toNat),.p (a.toNat=a.toNat),.p (a.toNat=a.toNat),.p (a.toNat=a.toNat)])):
 b5 115 [aJ.ref [D.J 4 N,I e,I f,D.J 8 E,D.J 6 Q,D.J 5 M,D.J 3 R,B q] [D.J 4 N,I e,I f,D.J 8 (E.set a.toNat (bf F G H ah C (A.set b.toNat [B false]) K L)),D.J 6 Q,D.J 5 (M.set b.toNat [B true,I (a-1),I (c+d),B x,B true]),D.J 3 R,B q],aJ.ro (ag b)] (aS.vals [ar true]):=
 h.b6
theorem adx(h:af (Ac q b z N e f F Q M R r s a c t u G H ah K C A E L v d w [.n w false,.v (a-1),.b t false,.x A b [B x],.b u false,.x E b [B y],.x M b [B gJ,I g,I i,B fS,B t0],.a .sub,.x F a (bf G H ah K C A E L),.x A b [B gg],.e F a.toNat (bf G H ah K C A E L),.p (a.toNat=a.toNat),.p (a.toNat=a.toNat),.p (a.toNat=a.toNat),.p (a.toNat=a.toNat),.p (a.toNat=a.toNat),.p (a.toNat=a.toNat),.p (a.toNat=a.toNat)])):
 b5 115 [aJ.ref [D.J 4 N,I e,I f,D.J 8 F,D.J 6 Q,D.J 5 M,D.J 3 R,B q] [D.J 4 N,I e,I f,D.J 8 (F.set a.toNat (bf G H ah K C (A.set b.toNat [B false]) E L)),D.J 6 Q,D.J 5 (M.set b.toNat [B true,I (a-1),I (c+d),B x,B y]),D.J 3 R,B q],aJ.ro (ag b)] (aS.vals [ar true]):=
 h.b6
def Ad(q:Bool)(a:Int)(r:Bool)(A:ae)(b c:Int)(C E F G:ae)(s t:Bool)(d e:Int)(u v:Bool)(H ah K L M N P Q:ae)(w:Bool)(f:Int)(x:Bool)(g i:Int)(y z:Bool)(l:List O):List O:=LC q a r A b c C E F G s t d e u v H ah K L M N P Q w f (.n t false::.b (decide (d>0)) false::.x F a [B x,I g,I i,B y,B z]::l)
theorem acG(h:af (Ad t a y E d e C N A Q u v b c q r R S bu V F G X Y w f z j k gJ fS [.n q true,.x G a [B x],.n x true,.b (c+f==0) true,.b r true,.a (.cY [some [D.J 4 H,I g,I i,D.J 8 ah,D.J 6 K,D.J 5 L,D.J 3 M,B s],none,none] (aS.vals [])),.p (bP prog 166 [aJ.ref [D.J 4 E,I d,I e,D.J 8 C,D.J 6 N,D.J 5 (A.set a.toNat [B false,I b,I c,B q,B r]),D.J 3 Q,B t] [D.J 4 H,I g,I i,D.J 8 ah,D.J 6 K,D.J 5 L,D.J 3 M,B s],aJ.ro (ag a),aJ.ro (ar true)] (aS.vals []))])):
 b5 115 [aJ.ref [D.J 4 E,I d,I e,D.J 8 C,D.J 6 N,D.J 5 A,D.J 3 Q,B t] [D.J 4 H,I g,I i,D.J 8 ah,D.J 6 K,D.J 5 L,D.J 3 M,B s],aJ.ro (ag a)] (aS.vals [ar true]):=
 h.b6
theorem acH(h:af (Ad t a z E d e C Q A R u v b c q r S bu V X F G H Y w f gJ j k fS t0 [.n q true,.x G a [B x],.n x true,.b (c+f==0) true,.b r false,.x H a [B y],.a (.cY [some [D.J 4 ah,I g,I i,D.J 8 K,D.J 6 L,D.J 5 M,D.J 3 N,B s],none,none] (aS.vals [])),.p (bP prog 166 [aJ.ref [D.J 4 E,I d,I e,D.J 8 C,D.J 6 Q,D.J 5 (A.set a.toNat [B false,I b,I c,B q,B r]),D.J 3 R,B t] [D.J 4 ah,I g,I i,D.J 8 K,D.J 6 L,D.J 5 M,D.J 3 N,B s],aJ.ro (ag a),aJ.ro (ar y)] (aS.vals []))])):
 b5 115 [aJ.ref [D.J 4 E,I d,I e,D.J 8 C,D.J 6 Q,D.J 5 A,D.J 3 R,B t] [D.J 4 ah,I g,I i,D.J 8 K,D.J 6 L,D.J 5 M,D.J 3 N,B s],aJ.ro (ag a)] (aS.vals [ar true]):=
 h.b6
theorem acI(h:af (Ad r a x E d e C H A ah s t b c q u K L M N F G Q R v f y g i z gJ [.n q true,.x G a [B w],.n w true,.b (c+f==0) false])):
 b5 115 [aJ.ref [D.J 4 E,I d,I e,D.J 8 C,D.J 6 H,D.J 5 A,D.J 3 ah,B r] [D.J 4 E,I d,I e,D.J 8 C,D.J 6 H,D.J 5 (A.set a.toNat [B false,I b,I c,B q,B u]),D.J 3 ah,B r],aJ.ro (ag a)] (aS.vals [ar true]):=
 h.b6
theorem acJ(h:af (Ad r a x E c e C H A ah s t b d q u K L M N F G Q R v f y g i z gJ [.n q true,.x G a [B w],.n w false])):
 b5 115 [aJ.ref [D.J 4 E,I c,I e,D.J 8 C,D.J 6 H,D.J 5 A,D.J 3 ah,B r] [D.J 4 E,I c,I e,D.J 8 C,D.J 6 H,D.J 5 (A.set a.toNat [B false,I b,I d,B q,B u]),D.J 3 ah,B r],aJ.ro (ag a)] (aS.vals [ar true]):=
 h.b6
theorem acK(h:af (Ad r a w E c e C G A H s t b d q u ah K L M F N Q R v f x g i y z [.n q false])):
 b5 115 [aJ.ref [D.J 4 E,I c,I e,D.J 8 C,D.J 6 G,D.J 5 A,D.J 3 H,B r] [D.J 4 E,I c,I e,D.J 8 C,D.J 6 G,D.J 5 (A.set a.toNat [B false,I b,I d,B q,B u]),D.J 3 H,B r],aJ.ro (ag a)] (aS.vals [ar true]):=
 h.b6
theorem acL(h:af [.b (decide ((A.length:Int)>0)) true,.p ((0:Int)<=0),.p (0<(A.length:Int)),.e A 0 (bf K L C E F G H ah),.r 21 [.agg (bf K L C E F G H ah),ag a] [ar q]]):
 ax 164 [.agg (bI M b c A N Q R),ag a] [ar q]:=
 h.of
def uy(A C E F G H ah K:ae)(a b:Int):aD:=bd 22 [(1,aU a),(2,aN 2),(5,aU b)] [(2,[.J .free 5 A,.J .free 5 C,.J .free 5 E,.J .free 4 F,.J .free 1 G,.J .free 1 H,.J .free 1 ah,.J .free 2 K])]
def Jh(q:Bool):aD:=bd 22 [(4,.az (.one (.a1 q)))] []
theorem acM(h:af [.i A c (bw d a e f g),.b (decide (a<=b)) true]):
 aX (aq f199 0) (uy C E A F G H ah K b c) .ret (Jh true):=
 h.aV [4] []
theorem acN(h:af [.i A a (bw d c e f g),.b (decide (c<=b)) false,.u a]):
 aX (aq f199 0) (uy C E A F G H ah K b a) .normal (uy C E A F G H ah K b (a+1)):=
 h.aV [5,2,1] [2]
def Q8:aD:=bd 22 [] []
theorem acO(h:af [.f A a false]):
 aX (aq f199 0) (uy C E A F G H ah K b a) (.exit 0) Q8:=
 h.aV [] []
theorem acP(h:af [.l [] [5,2,1] [2] (aq f199 0) (uy A C E F G H ah K a 0) .ret (Jh q)]):
 ax 199 [.agg (bf A C E F G H ah K),ag a] [ar q]:=
 h.of
theorem acQ(h:af [.l [] [5,2,1] [2] (aq f199 0) (uy A C E F G H ah K a 0) (.exit 0) Q8]):
 ax 199 [.agg (bf A C E F G H ah K),ag a] [ar false]:=
 h.of
theorem acR(h:af [.r 199 [.agg (bf A C E F G H ah K),ag a] [ar q],.n q true,.r 200 [.agg (bf A C E F G H ah K),ag a] [ag b]]):
 ax 165 [.agg (bf A C E F G H ah K),ag a] [ar (b==0)]:=
 h.of
theorem acS(h:af [.r 199 [.agg (bf A C E F G H ah K),ag a] [ar q],.n q false]):
 ax 165 [.agg (bf A C E F G H ah K),ag a] [ar false]:=
 h.of
theorem acT(h:af [.r 217 [aY 5 E,ag a] [aY 5 C],.r 217 [aY 5 F,ag a] [aY 5 A],.v ((C.length:Int)+(A.length:Int))]):
 ax 200 [.agg (bf E F G H ah K L M),ag a] [ag ((C.length:Int)+(A.length:Int))]:=
 h.of
