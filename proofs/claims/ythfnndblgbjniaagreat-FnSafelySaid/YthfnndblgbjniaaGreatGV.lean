import Derived.Test.YthfnndblgbjniaaGreatGE
namespace Go.Proofs.YthfnndblgbjniaaGreat
open Go.Sx Go.RowKit Go.Proofs.Tryz
variable {a b c d e f g i j k l m n o p a0 dN b8 e7 c9 d0 bE f0 i0 j0 dw dn m0 mA sY ic : Int} {A C E F G H aj K L M N Q R S bc V X Y Z dz e6 fD fK fL fM eU jD mj nF nG nI : af} {q r s t u v w x y z gr q1 ie rT gw bC b2 cg gL s1 s2 Is t0 t1 t2 t3 fo gD ko v0 v1 v2 w0 w1 ik cE gY gN mM eH e4 z0 si z2 : Bool}
theorem asL(h:ad [.g ([]:af) A 8,.h A]):
 ar 175 [.agg (br a b c A)] [.agg (br a b c ([]++A))]:=
 h.of
def DQ(A:af)(a:Int)(C:af)(b c d e:Int):aD:=a' 27 [(2,aS 2),(3,aS 3),(12,dW 4 A),(13,aT (A.length:Int)),(14,aT a)] [(3,[aB 23 4 C,av b,av c]),(2,[.v (aR),av d,av e])]
theorem asM(h:ad [.i A a (br l e f F),.r 175 [.agg (br l e f F)] [.agg (br b c d C)],.a .wr,.g E [(br b c d C)] 48,.u a]):
 aV (ap f138 0) (DQ A a E g i j k) .normal (DQ A (a+1) (E++[(br b c d C)]) g i j k):=
 h.aQ [14,13,12,3,2] [3,2]
def X6(A:af)(a b c d:Int):aD:=a' 27 [(2,aS 2),(3,aS 3)] [(3,[aB 23 4 A,av a,av b]),(2,[.v (aR),av c,av d])]
theorem asN(h:ad [.f A a false]):
 aV (ap f138 0) (DQ A a C b c d e) (.exit 0) (X6 C b c d e):=
 h.aQ [3,2] [3,2]
theorem asO(h:ad [.l [(4000000,23,4)] [14,13,12,3,2] [3,2] (ap f138 0) (DQ A 0 [] a b 0 0) (.exit 0) (X6 C c d e f)]):
 ar 138 [.agg (bz A a b)] [.agg (bz C c d)]:=
 h.of
theorem asP(h:ad [.r 168 [aP 5 A] [aP 5 C]]):
 ar 140 [.agg (bU a A b c d e)] [.agg (bU a C b c d e)]:=
 h.of
theorem asQ(h:ad [.r 168 [aP 5 G] [aP 5 N],.r 168 [aP 5 H] [aP 5 Q],.r 168 [aP 5 L] [aP 5 aj],.r 176 [aP 4 M] [aP 4 K],.g ([]:af) A 8,.h A,.g ([]:af) C 1,.h C,.g ([]:af) E 1,.h E,.g ([]:af) F 16,.h F]):
 ar 139 [.agg (aX G H L M A C E F)] [.agg (aX N Q aj K ([]++A) ([]++C) ([]++E) ([]++F))]:=
 h.of
def DR(A:af)(a:Int)(aj:af)(d e:Int)(K L M:af)(f g:Int)(C:af)(b c:Int)(E F G H:af):aD:=a' 49 [(1,aS 1),(2,aS 2),(3,aS 3),(19,dW 8 A),(20,aT (A.length:Int)),(21,aT a)] [(3,[aB 110000 4 aj,av d,av e,aB 30 8 K,.v (aR),aB 13 5 L,aB 16 3 M]),(2,[.v (aR),av f,av g,.v (aR),.v (aR),.v (aR),.v (aR)]),(1,[.J .free 4 C,av b,av c,.J .free 8 E,.J .free 6 F,.J .free 5 G,.J .free 3 H])]
theorem asR(h:ad [.i C a (aX Z dz e6 fD fK fL fM eU),.r 139 [.agg (aX Z dz e6 fD fK fL fM eU)] [.agg (aX E F G H aj K L M)],.a .wr,.g A [(aX E F G H aj K L M)] 192,.u a]):
 aV (ap f95 0) (DR C a N b c A Q R d e S f g bc V X Y) .normal (DR C (a+1) N b c (A++[(aX E F G H aj K L M)]) Q R d e S f g bc V X Y):=
 h.aQ [21,20,19,3,1,2] [3,2,1]
def X7(A:af)(a c:Int)(H aj K:af)(d e:Int)(L:af)(f b:Int)(C E F G:af):aD:=a' 49 [(1,aS 1),(2,aS 2),(3,aS 3)] [(3,[aB 110000 4 A,av a,av c,aB 30 8 H,.v (aR),aB 13 5 aj,aB 16 3 K]),(2,[.v (aR),av d,av e,.v (aR),.v (aR),.v (aR),.v (aR)]),(1,[.J .free 4 L,av f,av b,.J .free 8 C,.J .free 6 E,.J .free 5 F,.J .free 3 G])]
theorem asS(h:ad [.f M a false]):
 aV (ap f95 0) (DR M a A b c C E F d e G f g H aj K L) (.exit 0) (X7 A b c C E F d e G f g H aj K L):=
 h.aQ [1,3,2] [3,2,1]
def DS(A:af)(a:Int)(C:af)(c d:Int)(E F G H:af)(e b:Int):aD:=a' 49 [(2,aS 2),(3,aS 3),(34,dW 6 A),(35,aT (A.length:Int)),(36,aT a)] [(3,[aB 110000 4 C,av c,av d,aB 30 8 E,aB 45 6 F,aB 13 5 G,aB 16 3 H]),(2,[.v (aR),av e,av b,.v (aR),.v (aR),.v (aR),.v (aR)])]
theorem asT(h:ad [.i A a (bU l K m n o p),.r 140 [.agg (bU l K m n o p)] [.agg (bU b E c d e f)],.a .wr,.g C [(bU b E c d e f)] 64,.u a]):
 aV (ap f95 1) (DS A a F g i G C H aj j k) .normal (DS A (a+1) F g i G (C++[(bU b E c d e f)]) H aj j k):=
 h.aQ [36,35,34,3,2] [3,2]
def X8(A:af)(a b:Int)(C E F G:af)(c d:Int):aD:=a' 49 [(2,aS 2),(3,aS 3)] [(3,[aB 110000 4 A,av a,av b,aB 30 8 C,aB 45 6 E,aB 13 5 F,aB 16 3 G]),(2,[.v (aR),av c,av d,.v (aR),.v (aR),.v (aR),.v (aR)])]
theorem asU(h:ad [.f A a false]):
 aV (ap f95 1) (DS A a C b c E F G H d e) (.exit 2) (X8 C b c E F G H d e):=
 h.aQ [3,2] [3,2]
theorem ar4(h:ad [.r 138 [.agg (bz E a b)] [.agg (bz V j k)],.g ([]:af) A 32,.h A,.g ([]:af) C 24,.h C,.l [(4000003,30,8)] [21,20,19,3,1,2] [3,2,1] (ap f95 0) (DR F 0 V j k [] ([]++A) ([]++C) 0 0 E a b F bc A C) (.exit 0) (X7 G c d H aj K e f X l m Y L Z dz),.l [(4000004,45,6)] [36,35,34,3,2] [3,2] (ap f95 1) (DS L 0 G c d H [] aj K e f) (.exit 2) (X8 M g i N Q R S n o)]):
 ar 95 [.agg (cl E a b F bc A C)] [.agg (cl M g i N Q R S)]:=
 h.of
theorem ar5(h:ad [.g ([]:af) A 40,.h A]):
 ar 178 [.agg (bU a A b c d e)] [.agg (bU a ([]++A) b c d e)]:=
 h.of
def DT(a:Int)(A:af)(b c d e:Int)(C:af)(f g:Int):aD:=a' 33 [(1,aS 1),(2,aS 2),(3,aS 3),(4,aT a)] [(3,[aB 7 4 A,av b,av c]),(2,[.v (aR),av d,av e]),(1,[.J .free 4 C,av f,av g])]
theorem ar6(h:ad [.i E a (br b c d A),.a .wr,.g ([]:af) A 8,.h A,.g C [(br b c d ([]++A))] 48,.u a]):
 aV (ap f57 0) (DT a C g i j k E e f) .normal (DT (a+1) (C++[(br b c d ([]++A))]) g i j k E e f):=
 h.aQ [4,1,3,2] [3,2,1]
def X9(A:af)(a b c d:Int):aD:=a' 33 [(2,aS 2),(3,aS 3)] [(3,[aB 7 4 A,av a,av b]),(2,[.v (aR),av c,av d])]
theorem ar7(h:ad [.f C a false]):
 aV (ap f57 0) (DT a A b c d e C f g) (.exit 0) (X9 A b c d e):=
 h.aQ [3,2] [3,2]
theorem ar8(h:ad [.l [] [4,1,3,2] [3,2,1] (ap f57 0) (DT 0 [] a b 0 0 A a b) (.exit 0) (X9 C c d e f)]):
 ar 57 [.agg (bz A a b)] [.agg (bz C c d)]:=
 h.of
theorem ar9(h:ad [.g ([]:af) A 40,.h A,.g ([]:af) C 40,.h C,.g ([]:af) E 40,.h E,.g ([]:af) F 32,.h F,.g ([]:af) G 8,.h G,.g ([]:af) H 1,.h H,.g ([]:af) aj 1,.h aj,.g ([]:af) K 16,.h K]):
 ar 177 [.agg (aX A C E F G H aj K)] [.agg (aX ([]++A) ([]++C) ([]++E) ([]++F) ([]++G) ([]++H) ([]++aj) ([]++K))]:=
 h.of
def DU(a:Int)(A:af)(d e:Int)(H aj K:af)(f g:Int)(L:af)(b c:Int)(C E F G:af):aD:=a' 55 [(1,aS 1),(2,aS 2),(3,aS 3),(4,aT a)] [(3,[aB 90000 4 A,av d,av e,aB 34 8 H,.v (aR),aB 9 5 aj,aB 13 3 K]),(2,[.v (aR),av f,av g,.v (aR),.v (aR),.v (aR),.v (aR)]),(1,[.J .free 4 L,av b,av c,.J .free 8 C,.J .free 6 E,.J .free 5 F,.J .free 3 G])]
theorem asa(h:ad [.i C a (aX Y Z dz e6 fD fK fL fM),.r 177 [.agg (aX Y Z dz e6 fD fK fL fM)] [.agg (aX E F G H aj K L M)],.a .wr,.g A [(aX E F G H aj K L M)] 192,.u a]):
 aV (ap f141 0) (DU a N b c A Q R d e S f g C bc V X) .normal (DU (a+1) N b c (A++[(aX E F G H aj K L M)]) Q R d e S f g C bc V X):=
 h.aQ [4,1,3,2] [3,2,1]
def X'(A:af)(a c:Int)(H aj K:af)(d e:Int)(L:af)(f b:Int)(C E F G:af):aD:=a' 55 [(1,aS 1),(2,aS 2),(3,aS 3)] [(3,[aB 90000 4 A,av a,av c,aB 34 8 H,.v (aR),aB 9 5 aj,aB 13 3 K]),(2,[.v (aR),av d,av e,.v (aR),.v (aR),.v (aR),.v (aR)]),(1,[.J .free 4 L,av f,av b,.J .free 8 C,.J .free 6 E,.J .free 5 F,.J .free 3 G])]
theorem asb(h:ad [.f A a false]):
 aV (ap f141 0) (DU a C b c E F G d e H f g A aj K L) (.exit 0) (X' C b c E F G d e H f g A aj K L):=
 h.aQ [1,3,2] [3,2,1]
def DV(a:Int)(A:af)(d e:Int)(aj K L M:af)(f g:Int)(C:af)(b c:Int)(E F G H:af):aD:=a' 55 [(1,aS 1),(2,aS 2),(3,aS 3),(5,aT a)] [(3,[aB 90000 4 A,av d,av e,aB 34 8 aj,aB 52 6 K,aB 9 5 L,aB 13 3 M]),(2,[.v (aR),av f,av g,.v (aR),.v (aR),.v (aR),.v (aR)]),(1,[.J .free 4 C,av b,av c,.J .free 8 E,.J .free 6 F,.J .free 5 G,.J .free 3 H])]
theorem asc(h:ad [.i C a (bU n Q o p a0 b8),.r 178 [.agg (bU n Q o p a0 b8)] [.agg (bU b E c d e f)],.a .wr,.g A [(bU b E c d e f)] 64,.u a]):
 aV (ap f141 1) (DV a F g i G A H aj j k K l m L C M N) .normal (DV (a+1) F g i G (A++[(bU b E c d e f)]) H aj j k K l m L C M N):=
 h.aQ [5,1,3,2] [3,2,1]
def Ya(A:af)(a b:Int)(C E F G:af)(c d:Int):aD:=a' 55 [(2,aS 2),(3,aS 3)] [(3,[aB 90000 4 A,av a,av b,aB 34 8 C,aB 52 6 E,aB 9 5 F,aB 13 3 G]),(2,[.v (aR),av c,av d,.v (aR),.v (aR),.v (aR),.v (aR)])]
theorem asd(h:ad [.f H a false]):
 aV (ap f141 1) (DV a A b c C E F G d e aj f g K H L M) (.exit 2) (Ya A b c C E F G d e):=
 h.aQ [3,2] [3,2]
theorem ase(h:ad [.r 57 [.agg (bz E a b)] [.agg (bz dz l m)],.g ([]:af) A 32,.h A,.g ([]:af) C 24,.h C,.l [(4000003,34,8)] [4,1,3,2] [3,2,1] (ap f141 0) (DU 0 dz l m [] ([]++A) ([]++C) 0 0 E a b V Z A C) (.exit 0) (X' F c d G H aj e f K g i L M N Q),.l [(4000004,52,6)] [5,1,3,2] [3,2,1] (ap f141 1) (DV 0 F c d G [] H aj e f K g i L M N Q) (.exit 2) (Ya R j k S bc X Y n o)]):
 ar 141 [.agg (cl E a b V Z A C)] [.agg (cl R j k S bc X Y)]:=
 h.of
theorem asf(h:ad [.r 141 [.agg (cl A a b C E F G)] [.agg (cl M c d H aj K L)],.r 28 [.agg (cl A a b C E F G)] [ak q]]):
 cb 97 [aM.ro (.agg (cl A a b C E F G))] (a1.new [D.J 4 M,I c,I d,D.J 8 H,D.J 6 aj,D.J 5 K,D.J 3 L,B q]):=
 h.cc
def r8(a b:Int)(A:af)(c d:Int)(C E F G:af)(q:Bool):aD:=a' 93 [(0,aS 1000000000),(1,aT a),(5,aT b)] [(1000000000,[aB 900000000 4 A,av c,av d,aB 900000003 8 C,aB 900000004 6 E,aB 900000005 5 F,aB 900000006 3 G,.bg q])]
theorem asg(h:ad [.f A a true,.b q true,.x A a [I e,I f,B r],.b (e != b) true,.u a]):
 aV (ap f148 0) (r8 b a C c d E F G A q) .normal (r8 b (a+1) C c d E F G A q):=
 h.aQ [5,0,1] [1000000000]
def H8(q:Bool)(A:af)(a b:Int)(C E F G:af)(r:Bool):aD:=a' 93 [(0,aS 1000000000),(4,.aF (.one (.bg q)))] [(1000000000,[aB 900000000 4 A,av a,av b,aB 900000003 8 C,aB 900000004 6 E,aB 900000005 5 F,aB 36 3 G,.bg r])]
def acv(A:af)(a:Int)(q:Bool)(b c:Int)(r:Bool)(d:Int)(C E F G H aj K L M:af)(s:Bool)(l:List O):List O:=.f A a true::.b q true::.x A a [I b,I c,B r]::.b (b != d) false::.a .sub::.p ((0:Int)<=none.getD 0)::.p (none.getD 0<=(some a).getD (A.length:Int))::.p ((some a).getD (A.length:Int)<=(A.length:Int))::.p ((([]:af).length+(List.take (((some a).getD (A.length:Int)).toNat-0) (List.drop 0 A)).length)*24<=140737488355328)::.p (([]:af).length+(List.take (((some a).getD (A.length:Int)).toNat-0) (List.drop 0 A)).length<=9223372036854775807)::.p (Flat (List.take (((some a).getD (A.length:Int)).toNat-0) (List.drop 0 A)))::.u a::.p (0<=(some (a+1)).getD 0)::.p ((some (a+1)).getD 0<=none.getD (A.length:Int))::.p (none.getD (A.length:Int)<=(A.length:Int))::.p ((([]++List.take (((some a).getD (A.length:Int)).toNat-0) (List.drop 0 A)).length+(List.take (A.length-((some (a+1)).getD 0).toNat) (List.drop ((some (a+1)).getD 0).toNat A)).length)*24<=140737488355328)::.p (([]++List.take (((some a).getD (A.length:Int)).toNat-0) (List.drop 0 A)).length+(List.take (A.length-((some (a+1)).getD 0).toNat) (List.drop ((some (a+1)).getD 0).toNat A)).length<=9223372036854775807)::.p (Flat (List.take (A.length-((some (a+1)).getD 0).toNat) (List.drop ((some (a+1)).getD 0).toNat A)))::.x C d (aX E F G H aj K L M)::.r 36 [.agg (aX E F G H aj K L M),ae c] [ak s]::l
theorem ash(h:ad (acv A a r f c q b C F G H aj K L M E s [.n s true,.a .sub,.x C b (aX F G H aj K L M E),.g E [[I c,B q]] 16,.e C b.toNat (aX F G H aj K L M E),.p ((aX F G H aj K L M E)[7]?=some (D.J 2 E)),.h [[I c,B q]],.p (C=C),.p (C=C),.p (b.toNat=b.toNat),.p (E=E),.p (C=C),.p (C=C),.p (C=C),.p (C=C),.p (C=C),.p (b.toNat=b.toNat),.p (E=E),.x C b (aX F G H aj K L M E),.p (b.toNat=b.toNat)])):
 aV (ap f148 0) (r8 b a N d e C Q R A r) .ret (H8 true N d e (C.set b.toNat (aX F G H aj K L M (E++[[I c,B q]]))) Q R ([]++List.take (((some a).getD (A.length:Int)).toNat-0) (List.drop 0 A)++List.take (A.length-((some (a+1)).getD 0).toNat) (List.drop ((some (a+1)).getD 0).toNat A)) r):=
 h.aQ [4,0] [1000000000]
theorem asi(h:ad (acv A a q e f s b C H aj K L M N Q R r [.n r false])):
 aV (ap f148 0) (r8 b a E c d C F G A q) .ret (H8 true E c d C F G ([]++List.take (((some a).getD (A.length:Int)).toNat-0) (List.drop 0 A)++List.take (A.length-((some (a+1)).getD 0).toNat) (List.drop ((some (a+1)).getD 0).toNat A)) q):=
 h.aQ [4,0] [1000000000]
def OI(A:af)(a b:Int)(C E F G:af)(q:Bool):aD:=a' 93 [(0,aS 1000000000)] [(1000000000,[aB 900000000 4 A,av a,av b,aB 900000003 8 C,aB 900000004 6 E,aB 900000005 5 F,aB 900000006 3 G,.bg q])]
theorem asj(h:ad [.f A c true,.b q false]):
 aV (ap f148 0) (r8 d c C a b E F G A q) (.exit 0) (OI C a b E F G A q):=
 h.aQ [0] [1000000000]
theorem Yb(h:ad [.f A c false]):
 aV (ap f148 0) (r8 d c C a b E F G A q) (.exit 0) (OI C a b E F G A q):=
 h.aQ [0] [1000000000]
theorem asl(h:ad [.l [] [5,0,1] [1000000000] (ap f148 0) (r8 e 0 A a d aj K L M r) .ret (H8 s C b c E F G H q)]):
 cb 148 [aM.ref [D.J 4 A,I a,I d,D.J 8 aj,D.J 6 K,D.J 5 L,D.J 3 M,B r] [D.J 4 C,I b,I c,D.J 8 E,D.J 6 F,D.J 5 G,D.J 3 H,B q],aM.ro (ae e)] (a1.vals [ak s]):=
 h.cc
theorem OJ(h:ad [.l [] [5,0,1] [1000000000] (ap f148 0) (r8 e 0 A a d H aj K L r) (.exit 0) (OI M b c C E F G q)]):
 cb 148 [aM.ref [D.J 4 A,I a,I d,D.J 8 H,D.J 6 aj,D.J 5 K,D.J 3 L,B r] [D.J 4 M,I b,I c,D.J 8 C,D.J 6 E,D.J 5 F,D.J 3 G,B q],aM.ro (ae e)] (a1.vals [ak false]):=
 h.cc
theorem asm(h:ad []):
 ar 136 [.agg [I a,I c,B q],.one (.ptr [I b])] [ak (a==b)]:=
 h.of
def acw(A:af)(a b:Int)(C E F G H:af)(c d:Int)(aj K L M:af)(l:List O):List O:=.r 95 [.agg (cl A a b C E F G)] [.agg (cl H c d aj K L M)]::l
def Rj(A:af)(a b:Int)(C E F G H:af)(c d:Int)(aj K L M:af)(e f:Int)(l:List O):List O:=acw A a b C E F G H c d aj K L M (.r 78 [aP 3 G,.one (.cl 136 [D.ptr [I e]])] [ae f]::l)
theorem asn(h:ad (Rj C a d aj K L A M f b E F G H e c [.b (decide (c<0)) true])):
 ar 94 [.agg (cl C a d aj K L A),ae e] [.agg (cl M f b E F G H),ak false]:=
 h.of
theorem aso(h:ad (Rj C a b E F G A M f c H aj K L e d [.b (decide (d<0)) false,.r 27 [.agg (cl C a b E F G A)] [ak q],.n q true])):
 ar 94 [.agg (cl C a b E F G A),ae e] [.agg (cl M f c H aj K L),ak false]:=
 h.of
def ab2(A:af)(a b:Int)(C E F G H:af)(c d:Int)(aj K L M:af)(e f:Int)(q:Bool)(g i:Int)(r:Bool)(N P Q R S bc V X Y:af)(s:Bool)(l:List O):List O:=Rj A a b C E F G H c d aj K L M e f (.b (decide (f<0)) false::.r 27 [.agg (cl A a b C E F G)] [ak q]::.n q false::.x G f [I g,I i,B r]::.a (.qS [[some none],[none],[none]] 0 [] [aP 3 N])::.u f::.p (ks prog 137 [GA.one (eM.e5 3 M none),GA.one (eM.ro (I f)),GA.one (eM.ro (I (f+1)))] [aP 3 N])::.x C e (aX P Q R S bc V X Y)::.r 31 [.agg (aX P Q R S bc V X Y),ae i] [ak s]::l)
theorem asp(h:ad (ab2 Q d e N S bc M jD g f A V X Y a b r i c q R Z dz e6 fD fK fL fM eU s [.n s true,.a .sub,.x A a (aX E F G H aj K L C),.g C [[I c,B q]] 16,.e A a.toNat (aX E F G H aj K L C),.p ((aX E F G H aj K L C)[7]?=some (D.J 2 C)),.h [[I c,B q]],.p (A=A),.p (A=A),.p (A=A),.p (A=A),.p (A=A),.p (A=A),.p (a.toNat=a.toNat),.p (C=C),.x A a (aX E F G H aj K L C),.p (a.toNat=a.toNat)])):
 ar 94 [.agg (cl Q d e N S bc M),ae a] [.agg (cl jD g f (A.set a.toNat (aX E F G H aj K L (C++[[I c,B q]]))) V X R),ak true]:=
 h.of
theorem asq(h:ad (ab2 E b c C G H A Z g e aj K L M d a q i f s F N Q R S bc V X Y r [.n r false])):
 ar 94 [.agg (cl E b c C G H A),ae d] [.agg (cl Z g e aj K L F),ak true]:=
 h.of
def DW(a:Int)(q:Bool)(b:Int)(A:af)(c d:Int)(C E F G:af)(r:Bool):aD:=a' 52 [(0,aS 1000000000),(1,aT a),(2,.aF (.one (.bg q))),(6,aT b)] [(1000000000,[aB 900000000 4 A,av c,av d,aB 900000003 8 C,aB 900000004 6 E,aB 900000005 5 F,aB 900000006 3 G,.bg r])]
theorem asr(h:ad [.f A a true,.g C [[I a,I b,B q]] 24,.h [[I a,I b,B q]],.u a]):
 aV (ap f186 0) (DW b q a E c d A F G C r) .normal (DW b q (a+1) E c d A F G (C++[[I a,I b,B q]]) r):=
 h.aQ [6,0,1,2] [1000000000]
def Yc(A:af)(a b:Int)(C E F G:af)(q:Bool):aD:=a' 52 [(0,aS 1000000000)] [(1000000000,[aB 900000000 4 A,av a,av b,aB 900000003 8 C,aB 900000004 6 E,aB 900000005 5 F,aB 900000006 3 G,.bg q])]
theorem ass(h:ad [.f A a false]):
 aV (ap f186 0) (DW d r a C b c A E F G q) (.exit 0) (Yc C b c A E F G q):=
 h.aQ [0] [1000000000]
theorem ast(h:ad [.a .sub,.p ((0:Int)<=0),.p (0<(A.length:Int)),.e A 0 (aX E F G H aj K L C),.g C [[I a,B q]] 16,.e A 0 (aX E F G H aj K L C),.p ((aX E F G H aj K L C)[7]?=some (D.J 2 C)),.h [[I a,B q]],.p (A=A),.p (A=A),.p (A=A),.p (A=A),.p (A=A),.p (0=0),.p (C=C),.p ((0:Int)<=0),.p (0<(A.length:Int)),.e A 0 (aX E F G H aj K L C),.p (0=0),.l [] [6,0,1,2] [1000000000] (ap f186 0) (DW a q 1 M b d (A.set 0 (aX E F G H aj K L (C++[[I a,B q]]))) V X Y s) (.exit 0) (Yc N c e Q R S bc r)]):
 cb 186 [aM.ref [D.J 4 M,I b,I d,D.J 8 A,D.J 6 V,D.J 5 X,D.J 3 Y,B s] [D.J 4 N,I c,I e,D.J 8 Q,D.J 6 R,D.J 5 S,D.J 3 bc,B r],aM.ro (ae a),aM.ro (ak q)] (a1.vals []):=
 h.cc
theorem asu(h:ad [.n q true]):
 cb 147 [aM.ref [D.J 4 A,I a,I b,D.J 8 C,D.J 6 E,D.J 5 F,D.J 3 G,B q] [D.J 4 A,I a,I b,D.J 8 C,D.J 6 E,D.J 5 F,D.J 3 G,B q],aM.ro (ae c)] (a1.vals [ak false]):=
 h.cc
def aca(q:Bool)(a:Int)(r:Bool)(l:List O):List O:=.n q false::.r 44 [ae a,ae 0,ae 3] [ak r]::l
theorem arU(h:ad (aca q c r [.n r true])):
 cb 147 [aM.ref [D.J 4 A,I a,I b,D.J 8 C,D.J 6 E,D.J 5 F,D.J 3 G,B q] [D.J 4 A,I a,I b,D.J 8 C,D.J 6 E,D.J 5 F,D.J 3 G,B q],aM.ro (ae c)] (a1.vals [ak false]):=
 h.cc
def acb(q:Bool)(a:Int)(r:Bool)(A:af)(b c:Int)(C E F G:af)(s:Bool)(l:List O):List O:=aca q a r (.n r false::.r 184 [.agg (cl A b c C E F G),ae a] [ak s]::l)
theorem arV(h:ad (acb q c s A a b C E F G r [.b r true])):
 cb 147 [aM.ref [D.J 4 A,I a,I b,D.J 8 C,D.J 6 E,D.J 5 F,D.J 3 G,B q] [D.J 4 A,I a,I b,D.J 8 C,D.J 6 E,D.J 5 F,D.J 3 G,B q],aM.ro (ae c)] (a1.vals [ak false]):=
 h.cc
def acd(q:Bool)(a:Int)(r:Bool)(A:af)(b c:Int)(C E F G:af)(s t:Bool)(d e:Int)(u v:Bool)(H aj K L M N P Q:af)(w:Bool)(l:List O):List O:=acb q a r A b c C E F G s (.b s false::.x F a [B t,I d,I e,B u,B v]::.a .sub::.x C d (aX H aj K L M N P Q)::.r 185 [.agg (aX H aj K L M N P Q),ae a] [ak w]::l)
theorem arW(h:ad (acd q a t E b c A F C G r u d e v w H aj K L M N Q R s [.n s true])):
 cb 147 [aM.ref [D.J 4 E,I b,I c,D.J 8 A,D.J 6 F,D.J 5 C,D.J 3 G,B q] [D.J 4 E,I b,I c,D.J 8 A,D.J 6 F,D.J 5 C,D.J 3 G,B q],aM.ro (ae a)] (a1.vals [ak false]):=
 h.cc
def Rm(q:Bool)(a:Int)(r:Bool)(A:af)(b c:Int)(C E F G:af)(s t:Bool)(d e:Int)(u v:Bool)(H aj K L M N P Q:af)(w:Bool)(f:Int)(l:List O):List O:=acd q a r A b c C E F G s t d e u v H aj K L M N P Q w (.n w false::.x M a [I f]::.v (e+f)::l)
theorem arX(h:ad (Rm q a v F c d A S C bc r s b e w x V X Y Z G dz H e6 t f [.n s true,.v ((A.length:Int)-1),.x H a [B u],.x C a [B y,I g,I i,B z,B gr],.a .sub,.p ((0:Int)<=0),.p (0<(A.length:Int)),.e A 0 (aX aj K L M N E Q R),.x E a [B gw],.e A 0 (aX aj K L M N E Q R),.p (b.toNat=0),.p (b.toNat=0),.p (0=0),.p (0=0),.p (b.toNat=0)])):
 cb 147 [aM.ref [D.J 4 F,I c,I d,D.J 8 A,D.J 6 S,D.J 5 C,D.J 3 bc,B q] [D.J 4 F,I c,I d,D.J 8 (A.set 0 (aX aj K L M N (E.set a.toNat [B false]) Q R)),D.J 6 S,D.J 5 (C.set a.toNat [B true,I ((A.length:Int)-1),I 0,B false,B u]),D.J 3 bc,B q],aM.ro (ae a)] (a1.vals [ak true]):=
 h.cc
def EB(q:Bool)(a:Int)(r:Bool)(A:af)(b c:Int)(C E F G:af)(s t:Bool)(d e:Int)(u v:Bool)(H aj K L M N P Q:af)(w:Bool)(f:Int)(x:Bool)(l:List O):List O:=Rm q a r A b c C E F G s t d e u v H aj K L M N P Q w f (.n t false::.b (decide (d>0)) true::.r 44 [ae (e+f),ae (-1000000),ae 1000000] [ak x]::l)
theorem arY(h:ad (EB q a v E b e A G C H r s c d w x aj K L M F N Q R t f u [.n u true])):
 cb 147 [aM.ref [D.J 4 E,I b,I e,D.J 8 A,D.J 6 G,D.J 5 C,D.J 3 H,B q] [D.J 4 E,I b,I e,D.J 8 A,D.J 6 G,D.J 5 C,D.J 3 H,B q],aM.ro (ae a)] (a1.vals [ak false]):=
 h.cc
theorem arZ(h:ad (EB q b x N e f E Q M R r s a c t u F G H aj A C K L v d w [.n w false,.v (a-1),.b t true,.b u true,.x M b [B y,I g,I i,B z,B gr],.a .sub,.x E a (aX F G H aj A C K L),.x C b [B gw],.e E a.toNat (aX F G H aj A C K L),.p (a.toNat=a.toNat),.p (a.toNat=a.toNat),.p (a.toNat=a.toNat),.p (a.toNat=a.toNat),.p (a.toNat=a.toNat)])):
 cb 147 [aM.ref [D.J 4 N,I e,I f,D.J 8 E,D.J 6 Q,D.J 5 M,D.J 3 R,B q] [D.J 4 N,I e,I f,D.J 8 (E.set a.toNat (aX F G H aj A (C.set b.toNat [B false]) K L)),D.J 6 Q,D.J 5 (M.set b.toNat [B true,I (a-1),I (c+d),B true,B true]),D.J 3 R,B q],aM.ro (ae b)] (a1.vals [ak true]):=
 h.cc
theorem ar0(h:ad (EB q b y N e f F Q M R r s a c t u G H aj K A C E L v d w [.n w false,.v (a-1),.b t true,.b u false,.x E b [B x],.x M b [B z,I g,I i,B gr,B gw],.a .sub,.x F a (aX G H aj K A C E L),.x C b [B gL],.e F a.toNat (aX G H aj K A C E L),.p (a.toNat=a.toNat),.p (a.toNat=a.toNat),.p (a.toNat=a.toNat),.p (a.toNat=a.toNat),.p (a.toNat=a.toNat)])):
 cb 147 [aM.ref [D.J 4 N,I e,I f,D.J 8 F,D.J 6 Q,D.J 5 M,D.J 3 R,B q] [D.J 4 N,I e,I f,D.J 8 (F.set a.toNat (aX G H aj K A (C.set b.toNat [B false]) E L)),D.J 6 Q,D.J 5 (M.set b.toNat [B true,I (a-1),I (c+d),B true,B x]),D.J 3 R,B q],aM.ro (ae b)] (a1.vals [ak true]):=
 h.cc
theorem ar1(h:ad (EB q b y N e f E Q M R r s a c t u F G H aj C A K L v d w [.n w false,.v (a-1),.b t false,.x A b [B x],.b u true,.x M b [B z,I g,I i,B gr,B gw],.a .sub,.x E a (aX F G H aj C A K L),.x A b [B gL],.e E a.toNat (aX F G H aj C A K L),.p (a.toNat=a.toNat),.p (a.toNat=a.toNat),.p (a.toNat=a.toNat),.p (a.toNat=a.toNat),.p (a.toNat=a.toNat),.p (a.toNat=a.toNat),.p (a.toNat=a.toNat)])):
 cb 147 [aM.ref [D.J 4 N,I e,I f,D.J 8 E,D.J 6 Q,D.J 5 M,D.J 3 R,B q] [D.J 4 N,I e,I f,D.J 8 (E.set a.toNat (aX F G H aj C (A.set b.toNat [B false]) K L)),D.J 6 Q,D.J 5 (M.set b.toNat [B true,I (a-1),I (c+d),B x,B true]),D.J 3 R,B q],aM.ro (ae b)] (a1.vals [ak true]):=
 h.cc
theorem ar2(h:ad (EB q b z N e f F Q M R r s a c t u G H aj K C A E L v d w [.n w false,.v (a-1),.b t false,.x A b [B x],.b u false,.x E b [B y],.x M b [B gr,I g,I i,B gw,B gL],.a .sub,.x F a (aX G H aj K C A E L),.x A b [B t0],.e F a.toNat (aX G H aj K C A E L),.p (a.toNat=a.toNat),.p (a.toNat=a.toNat),.p (a.toNat=a.toNat),.p (a.toNat=a.toNat),.p (a.toNat=a.toNat),.p (a.toNat=a.toNat),.p (a.toNat=a.toNat)])):
 cb 147 [aM.ref [D.J 4 N,I e,I f,D.J 8 F,D.J 6 Q,D.J 5 M,D.J 3 R,B q] [D.J 4 N,I e,I f,D.J 8 (F.set a.toNat (aX G H aj K C (A.set b.toNat [B false]) E L)),D.J 6 Q,D.J 5 (M.set b.toNat [B true,I (a-1),I (c+d),B x,B y]),D.J 3 R,B q],aM.ro (ae b)] (a1.vals [ak true]):=
 h.cc
def EC(q:Bool)(a:Int)(r:Bool)(A:af)(b c:Int)(C E F G:af)(s t:Bool)(d e:Int)(u v:Bool)(H aj K L M N P Q:af)(w:Bool)(f:Int)(x:Bool)(g i:Int)(y z:Bool)(l:List O):List O:=Rm q a r A b c C E F G s t d e u v H aj K L M N P Q w f (.n t false::.b (decide (d>0)) false::.x F a [B x,I g,I i,B y,B z]::l)
theorem ar3(h:ad (EC t a y E d e C N A Q u v b c q r R S bc V F G X Y w f z j k gr gw [.n q true,.x G a [B x],.n x true,.b (c+f==0) true,.b r true,.a (.dL [some [D.J 4 H,I g,I i,D.J 8 aj,D.J 6 K,D.J 5 L,D.J 3 M,B s],none,none] (a1.vals [])),.p (b4 prog 186 [aM.ref [D.J 4 E,I d,I e,D.J 8 C,D.J 6 N,D.J 5 (A.set a.toNat [B false,I b,I c,B q,B r]),D.J 3 Q,B t] [D.J 4 H,I g,I i,D.J 8 aj,D.J 6 K,D.J 5 L,D.J 3 M,B s],aM.ro (ae a),aM.ro (ak true)] (a1.vals []))])):
 cb 147 [aM.ref [D.J 4 E,I d,I e,D.J 8 C,D.J 6 N,D.J 5 A,D.J 3 Q,B t] [D.J 4 H,I g,I i,D.J 8 aj,D.J 6 K,D.J 5 L,D.J 3 M,B s],aM.ro (ae a)] (a1.vals [ak true]):=
 h.cc
theorem atv(h:ad (EC t a z E d e C Q A R u v b c q r S bc V X F G H Y w f gr j k gw gL [.n q true,.x G a [B x],.n x true,.b (c+f==0) true,.b r false,.x H a [B y],.a (.dL [some [D.J 4 aj,I g,I i,D.J 8 K,D.J 6 L,D.J 5 M,D.J 3 N,B s],none,none] (a1.vals [])),.p (b4 prog 186 [aM.ref [D.J 4 E,I d,I e,D.J 8 C,D.J 6 Q,D.J 5 (A.set a.toNat [B false,I b,I c,B q,B r]),D.J 3 R,B t] [D.J 4 aj,I g,I i,D.J 8 K,D.J 6 L,D.J 5 M,D.J 3 N,B s],aM.ro (ae a),aM.ro (ak y)] (a1.vals []))])):
 cb 147 [aM.ref [D.J 4 E,I d,I e,D.J 8 C,D.J 6 Q,D.J 5 A,D.J 3 R,B t] [D.J 4 aj,I g,I i,D.J 8 K,D.J 6 L,D.J 5 M,D.J 3 N,B s],aM.ro (ae a)] (a1.vals [ak true]):=
 h.cc
theorem atw(h:ad (EC r a x E d e C H A aj s t b c q u K L M N F G Q R v f y g i z gr [.n q true,.x G a [B w],.n w true,.b (c+f==0) false])):
 cb 147 [aM.ref [D.J 4 E,I d,I e,D.J 8 C,D.J 6 H,D.J 5 A,D.J 3 aj,B r] [D.J 4 E,I d,I e,D.J 8 C,D.J 6 H,D.J 5 (A.set a.toNat [B false,I b,I c,B q,B u]),D.J 3 aj,B r],aM.ro (ae a)] (a1.vals [ak true]):=
 h.cc
theorem atx(h:ad (EC r a x E c e C H A aj s t b d q u K L M N F G Q R v f y g i z gr [.n q true,.x G a [B w],.n w false])):
 cb 147 [aM.ref [D.J 4 E,I c,I e,D.J 8 C,D.J 6 H,D.J 5 A,D.J 3 aj,B r] [D.J 4 E,I c,I e,D.J 8 C,D.J 6 H,D.J 5 (A.set a.toNat [B false,I b,I d,B q,B u]),D.J 3 aj,B r],aM.ro (ae a)] (a1.vals [ak true]):=
 h.cc
theorem aty(h:ad (EC r a w E c e C G A H s t b d q u aj K L M F N Q R v f x g i y z [.n q false])):
 cb 147 [aM.ref [D.J 4 E,I c,I e,D.J 8 C,D.J 6 G,D.J 5 A,D.J 3 H,B r] [D.J 4 E,I c,I e,D.J 8 C,D.J 6 G,D.J 5 (A.set a.toNat [B false,I b,I d,B q,B u]),D.J 3 H,B r],aM.ro (ae a)] (a1.vals [ak true]):=
 h.cc
def ab3(A:af)(a b:Int)(C E F G H:af)(c d:Int)(aj K L M:af)(q:Bool)(l:List O):List O:=acw A a b C E F G H c d aj K L M (.r 27 [.agg (cl A a b C E F G)] [ak q]::l)
theorem atz(h:ad (ab3 A a b C E F G M d c H aj K L q [.n q true])):
 ar 93 [.agg (cl A a b C E F G),ae e] [.agg (cl M d c H aj K L),ak false]:=
 h.of
def ab4(A:af)(a b:Int)(C E F G H:af)(c d:Int)(aj K L M:af)(q:Bool)(e:Int)(r:Bool)(l:List O):List O:=ab3 A a b C E F G H c d aj K L M q (.n q false::.r 43 [ae e,ae 0,ae 3] [ak r]::l)
theorem atA(h:ad (ab4 A a b C E F G M e c H aj K L q d r [.n r true])):
 ar 93 [.agg (cl A a b C E F G),ae d] [.agg (cl M e c H aj K L),ak false]:=
 h.of
def ab5(A:af)(a b:Int)(C E F G H:af)(c d:Int)(aj K L M:af)(q:Bool)(e:Int)(r:Bool)(N P Q R S bc V X:af)(s:Bool)(l:List O):List O:=ab4 A a b C E F G H c d aj K L M q e r (.n r false::.p ((0:Int)<=0)::.p (0<(C.length:Int))::.e C 0 (aX N P Q R S bc V X)::.r 31 [.agg (aX N P Q R S bc V X),ae e] [ak s]::l)
theorem atB(h:ad (ab5 C a b A E F G Y e d H aj K L q c r M N Q R S bc V X s [.b s true])):
 ar 93 [.agg (cl C a b A E F G),ae c] [.agg (cl Y e d H aj K L),ak false]:=
 h.of
def ab6(A:af)(a b:Int)(C E F G H:af)(c d:Int)(aj K L M:af)(q:Bool)(e:Int)(r:Bool)(N P Q R S bc V X:af)(s t:Bool)(f g:Int)(u v:Bool)(Y Z dD il hN im iE H1:af)(w:Bool)(l:List O):List O:=ab5 A a b C E F G H c d aj K L M q e r N P Q R S bc V X s (.b s false::.x L e [B t,I f,I g,B u,B v]::.a .sub::.x aj f (aX Y Z dD il hN im iE H1)::.r 135 [.agg (aX Y Z dD il hN im iE H1),ae e] [ak w]::l)
theorem atC(h:ad (ab6 C b c A G H aj eU f d E K F L q a r M N Q R S bc V X s u e g v w Y Z dz e6 fD fK fL fM t [.n t true])):
 ar 93 [.agg (cl C b c A G H aj),ae a] [.agg (cl eU f d E K F L),ak false]:=
 h.of
def ab7(A:af)(a b:Int)(C E F G H:af)(c d:Int)(aj K L M:af)(q:Bool)(e:Int)(r:Bool)(N P Q R S bc V X:af)(s t:Bool)(f g:Int)(u v:Bool)(Y Z dD il hN im iE H1:af)(w x:Bool)(i j:Int)(y z:Bool)(l:List O):List O:=ab6 A a b C E F G H c d aj K L M q e r N P Q R S bc V X s t f g u v Y Z dD il hN im iE H1 w (.n w false::.e L e.toNat [B x,I i,I j,B y,B z]::l)
theorem atD(h:ad (ab7 Q c d A R S bc eU f e F V N X q b r Y Z dz e6 fD fK fL fM s w a g x y G H aj K L C E M t u i j z gr [.n u true,.a .sub,.e F a.toNat (aX G H aj K L C E M),.x E b [B v],.v ((A.length:Int)-1),.e N b.toNat [B gw,I k,I l,B gL,B t0],.a .sub,.e F a.toNat (aX G H aj K L C E M),.x C b [B fo],.e F a.toNat (aX G H aj K L C E M),.p (a.toNat=a.toNat),.p (a.toNat=a.toNat),.p (a.toNat=a.toNat)])):
 ar 93 [.agg (cl Q c d A R S bc),ae b] [.agg (cl eU f e (F.set a.toNat (aX G H aj K L (C.set b.toNat [B false]) E M)) V (N.set b.toNat [B true,I ((A.length:Int)-1),I 0,B false,B v]) X),ak true]:=
 h.of
def ab8(A:af)(a b:Int)(C E F G H:af)(c d:Int)(aj K L M:af)(q:Bool)(e:Int)(r:Bool)(N P Q R S bc V X:af)(s t:Bool)(f g:Int)(u v:Bool)(Y Z dD il hN im iE H1:af)(w x:Bool)(i j:Int)(y z q1:Bool)(k m:Int)(bC s1:Bool)(l:List O):List O:=ab7 A a b C E F G H c d aj K L M q e r N P Q R S bc V X s t f g u v Y Z dD il hN im iE H1 w x i j y z (.n x false::.e L e.toNat [B q1,I k,I m,B bC,B s1]::l)
def ab9(A:af)(a b:Int)(C E F G H:af)(c d:Int)(aj K L M:af)(q:Bool)(e:Int)(r:Bool)(N P Q R S bc V X:af)(s t:Bool)(f g:Int)(u v:Bool)(Y Z dD il hN im iE H1:af)(w x:Bool)(i j:Int)(y z q1:Bool)(k m:Int)(bC s1 t1:Bool)(n o:Int)(gD v1:Bool)(p:Int)(w1:Bool)(l:List O):List O:=ab8 A a b C E F G H c d aj K L M q e r N P Q R S bc V X s t f g u v Y Z dD il hN im iE H1 w x i j y z q1 k m bC s1 (.b (decide (k>0)) true::.e L e.toNat [B t1,I n,I o,B gD,B v1]::.a .sub::.e aj f.toNat (aX Y Z dD il hN im iE H1)::.x hN e [I p]::.v (o+p)::.r 43 [ae (o+p),ae (-1000000),ae 1000000] [ak w1]::l)
theorem atE(h:ad (ab9 G b c C R S bc eU j g E V A X q a r Y Z dz e6 fD fK fL fM s w d k x y H aj K L F M N Q t u l m z gr gw i n gL t0 fo o e v0 w0 f v [.n v true])):
 ar 93 [.agg (cl G b c C R S bc),ae a] [.agg (cl eU j g E V A X),ak false]:=
 h.of
def Jb(A:af)(a b:Int)(C E F G H:af)(c d:Int)(aj K L M:af)(q:Bool)(e:Int)(r:Bool)(N P Q R S bc V X:af)(s t:Bool)(f g:Int)(u v:Bool)(Y Z dD il hN im iE H1:af)(w x:Bool)(i j:Int)(y z q1:Bool)(k m:Int)(bC s1 t1:Bool)(n o:Int)(gD v1:Bool)(p:Int)(w1 gY:Bool)(dN e7:Int)(eH si:Bool)(c1:Int)(ie:Bool)(d1 e1:Int)(b2 s2 t2:Bool)(f1 g1:Int)(ko v2:Bool)(l:List O):List O:=ab9 A a b C E F G H c d aj K L M q e r N P Q R S bc V X s t f g u v Y Z dD il hN im iE H1 w x i j y z q1 k m bC s1 t1 n o gD v1 p w1 (.n w1 false::.e L e.toNat [B gY,I dN,I e7,B eH,B si]::.a .sub::.e aj f.toNat (aX Y Z dD il hN im iE H1)::.x hN e [I c1]::.v (e7+c1)::.e L e.toNat [B ie,I d1,I e1,B b2,B s2]::.e (L.set e.toNat [B ie,I d1,I (e7+c1),B b2,B s2]) e.toNat [B t2,I f1,I g1,B ko,B v2]::l)
theorem atF(h:ad (Jb Q k l N R S bc eU b8 p F V A X x a y Y Z dz e6 fD fK fL fM z mM b d0 z0 q1 G H aj K C E L M gr gw bE f0 bC s1 t1 a0 i0 gD v1 w1 j0 m gY eH n gL si dw c ie b2 d q e dn r s s2 m0 mA t0 t2 [.b t0 true,.e (A.set a.toNat [B q,I e,I (c+d),B r,B s]) a.toNat [B t,I f,I g,B ko,B u],.e ((A.set a.toNat [B q,I e,I (c+d),B r,B s]).set a.toNat [B t,I f,I g,B true,B u]) a.toNat [B v2,I sY,I ic,B ik,B fo],.b fo true,.e ((A.set a.toNat [B q,I e,I (c+d),B r,B s]).set a.toNat [B t,I f,I g,B true,B u]) a.toNat [B v,I i,I j,B w,B gN],.a .sub,.e F b.toNat (aX G H aj K C E L M),.x E a [B e4],.e F b.toNat (aX G H aj K C E L M),.p (b.toNat=b.toNat),.p (b.toNat=b.toNat),.p (b.toNat=b.toNat),.e (((A.set a.toNat [B q,I e,I (c+d),B r,B s]).set a.toNat [B t,I f,I g,B true,B u]).set a.toNat [B v,I i,I j,B w,B true]) a.toNat [B z2,I o,I dN,B rT,B cg],.v (o-1),.e (((A.set a.toNat [B q,I e,I (c+d),B r,B s]).set a.toNat [B t,I f,I g,B true,B u]).set a.toNat [B v,I i,I j,B w,B true]) a.toNat [B v0,I e7,I c9,B w0,B cE]])):
 ar 93 [.agg (cl Q k l N R S bc),ae a] [.agg [D.J 4 eU,I b8,I p,D.J 8 (F.set b.toNat (aX G H aj K C (E.set a.toNat [B false]) L M)),D.J 6 V,D.J 5 ((((A.set a.toNat [B q,I e,I (c+d),B r,B s]).set a.toNat [B t,I f,I g,B true,B u]).set a.toNat [B v,I i,I j,B w,B true]).set a.toNat [B v0,I (o-1),I c9,B w0,B cE]),D.J 3 X],ak true]:=
 h.of
theorem atG(h:ad (Jb Q k l N R S bc eU b8 p G V A X y a z Y Z dz e6 fD fK fL fM gr z0 b d0 q1 bC H aj K L C E F M gw gL bE f0 s1 t1 gD a0 i0 v1 w1 gY j0 m eH si n t0 ie dw c b2 s2 d q e dn r s t2 m0 mA fo ko [.b fo true,.e (A.set a.toNat [B q,I e,I (c+d),B r,B s]) a.toNat [B t,I f,I g,B v2,B u],.e ((A.set a.toNat [B q,I e,I (c+d),B r,B s]).set a.toNat [B t,I f,I g,B true,B u]) a.toNat [B ik,I sY,I ic,B gN,B v0],.b v0 false,.a .sub,.e G b.toNat (aX H aj K L C E F M),.x F a [B v],.e ((A.set a.toNat [B q,I e,I (c+d),B r,B s]).set a.toNat [B t,I f,I g,B true,B u]) a.toNat [B w,I i,I j,B x,B e4],.a .sub,.e G b.toNat (aX H aj K L C E F M),.x E a [B z2],.e G b.toNat (aX H aj K L C E F M),.p (b.toNat=b.toNat),.p (b.toNat=b.toNat),.p (b.toNat=b.toNat),.e (((A.set a.toNat [B q,I e,I (c+d),B r,B s]).set a.toNat [B t,I f,I g,B true,B u]).set a.toNat [B w,I i,I j,B x,B v]) a.toNat [B rT,I o,I dN,B cg,B Is],.v (o-1),.e (((A.set a.toNat [B q,I e,I (c+d),B r,B s]).set a.toNat [B t,I f,I g,B true,B u]).set a.toNat [B w,I i,I j,B x,B v]) a.toNat [B w0,I e7,I c9,B cE,B mM]])):
 ar 93 [.agg (cl Q k l N R S bc),ae a] [.agg [D.J 4 eU,I b8,I p,D.J 8 (G.set b.toNat (aX H aj K L C (E.set a.toNat [B false]) F M)),D.J 6 V,D.J 5 ((((A.set a.toNat [B q,I e,I (c+d),B r,B s]).set a.toNat [B t,I f,I g,B true,B u]).set a.toNat [B w,I i,I j,B x,B v]).set a.toNat [B w0,I (o-1),I c9,B cE,B mM]),D.J 3 X],ak true]:=
 h.of
theorem atH(h:ad (Jb Q k l N R S bc eU b8 p F V A X y a z Y Z dz e6 fD fK fL fM gr z0 b d0 q1 bC G H aj K C E L M gw gL bE f0 s1 t1 gD a0 i0 v1 w1 gY j0 m eH si n t0 ie dw c b2 s2 d q e dn r s t2 m0 mA fo ko [.b fo false,.a .sub,.e F b.toNat (aX G H aj K C E L M),.x E a [B t],.e (A.set a.toNat [B q,I e,I (c+d),B r,B s]) a.toNat [B u,I f,I g,B v2,B v],.e ((A.set a.toNat [B q,I e,I (c+d),B r,B s]).set a.toNat [B u,I f,I g,B t,B v]) a.toNat [B ik,I sY,I ic,B gN,B v0],.b v0 true,.e ((A.set a.toNat [B q,I e,I (c+d),B r,B s]).set a.toNat [B u,I f,I g,B t,B v]) a.toNat [B w,I i,I j,B x,B e4],.a .sub,.e F b.toNat (aX G H aj K C E L M),.x E a [B z2],.e F b.toNat (aX G H aj K C E L M),.p (b.toNat=b.toNat),.p (b.toNat=b.toNat),.p (b.toNat=b.toNat),.p (b.toNat=b.toNat),.p (b.toNat=b.toNat),.e (((A.set a.toNat [B q,I e,I (c+d),B r,B s]).set a.toNat [B u,I f,I g,B t,B v]).set a.toNat [B w,I i,I j,B x,B true]) a.toNat [B rT,I o,I dN,B cg,B Is],.v (o-1),.e (((A.set a.toNat [B q,I e,I (c+d),B r,B s]).set a.toNat [B u,I f,I g,B t,B v]).set a.toNat [B w,I i,I j,B x,B true]) a.toNat [B w0,I e7,I c9,B cE,B mM]])):
 ar 93 [.agg (cl Q k l N R S bc),ae a] [.agg [D.J 4 eU,I b8,I p,D.J 8 (F.set b.toNat (aX G H aj K C (E.set a.toNat [B false]) L M)),D.J 6 V,D.J 5 ((((A.set a.toNat [B q,I e,I (c+d),B r,B s]).set a.toNat [B u,I f,I g,B t,B v]).set a.toNat [B w,I i,I j,B x,B true]).set a.toNat [B w0,I (o-1),I c9,B cE,B mM]),D.J 3 X],ak true]:=
 h.of
theorem atI(h:ad (Jb Q k l N R S bc eU b8 p G V A X gr a gw Y Z dz e6 fD fK fL fM gL q1 b d0 bC s1 H aj K L C E F M t0 fo bE f0 t1 gD v1 a0 i0 w1 gY eH j0 m si ie n v0 b2 dw c s2 t2 d q e dn r s ko m0 mA w0 v2 [.b w0 false,.a .sub,.e G b.toNat (aX H aj K L C E F M),.x E a [B t],.e (A.set a.toNat [B q,I e,I (c+d),B r,B s]) a.toNat [B u,I f,I g,B ik,B v],.e ((A.set a.toNat [B q,I e,I (c+d),B r,B s]).set a.toNat [B u,I f,I g,B t,B v]) a.toNat [B gN,I sY,I ic,B e4,B cE],.b cE false,.a .sub,.e G b.toNat (aX H aj K L C E F M),.x F a [B w],.e ((A.set a.toNat [B q,I e,I (c+d),B r,B s]).set a.toNat [B u,I f,I g,B t,B v]) a.toNat [B x,I i,I j,B y,B z2],.a .sub,.e G b.toNat (aX H aj K L C E F M),.x E a [B rT],.e G b.toNat (aX H aj K L C E F M),.p (b.toNat=b.toNat),.p (b.toNat=b.toNat),.p (b.toNat=b.toNat),.p (b.toNat=b.toNat),.p (b.toNat=b.toNat),.e (((A.set a.toNat [B q,I e,I (c+d),B r,B s]).set a.toNat [B u,I f,I g,B t,B v]).set a.toNat [B x,I i,I j,B y,B w]) a.toNat [B cg,I o,I dN,B Is,B t3],.v (o-1),.e (((A.set a.toNat [B q,I e,I (c+d),B r,B s]).set a.toNat [B u,I f,I g,B t,B v]).set a.toNat [B x,I i,I j,B y,B w]) a.toNat [B mM,I e7,I c9,B z0,B z]])):
 ar 93 [.agg (cl Q k l N R S bc),ae a] [.agg [D.J 4 eU,I b8,I p,D.J 8 (G.set b.toNat (aX H aj K L C (E.set a.toNat [B false]) F M)),D.J 6 V,D.J 5 ((((A.set a.toNat [B q,I e,I (c+d),B r,B s]).set a.toNat [B u,I f,I g,B t,B v]).set a.toNat [B x,I i,I j,B y,B w]).set a.toNat [B mM,I (o-1),I c9,B z0,B z]),D.J 3 X],ak true]:=
 h.of
def An(a b:Int)(H:af)(f g:Int)(aj K L M:af)(i c:Int)(A:af)(d e:Int)(C E F G:af):aD:=a' 229 [(1,aT a),(2,aS 2),(4,aS 4),(6,aS 6),(9,.aF (.one (.bg true))),(10,aT b)] [(6,[aB 130000 4 H,av f,av g,aB 130003 8 aj,aB 130004 6 K,aB 130005 5 L,aB 130006 3 M]),(4,[.v (aR),av i,av c,.v (aR),.v (aR),.v (aR),.v (aR)]),(2,[.J .free 4 A,av d,av e,.J .free 8 C,.J .free 6 E,.J .free 5 F,.J .free 3 G])]
theorem atJ(h:ad [.f C a true,.g A [[I a,I b,B true]] 24,.h [[I a,I b,B true]],.u a]):
 aV (ap f93 0) (An b a E c d F G H A e f aj g i C K L M) .normal (An b (a+1) E c d F G H (A++[[I a,I b,B true]]) e f aj g i C K L M):=
 h.aQ [10,2,6,1,9,4] [6,4,2]
def Ao(A:af)(a b:Int)(C E F G:af)(c d:Int):aD:=a' 229 [(4,aS 4),(6,aS 6)] [(6,[aB 130000 4 A,av a,av b,aB 130003 8 C,aB 130004 6 E,aB 130005 5 F,aB 130006 3 G]),(4,[.v (aR),av c,av d,.v (aR),.v (aR),.v (aR),.v (aR)])]
theorem atK(h:ad [.f H a false]):
 aV (ap f93 0) (An f a A b c C E F G d e aj g i H K L M) (.exit 1) (Ao A b c C E F G d e):=
 h.aQ [6,4] [6,4]
def Rk(A:af)(a b:Int)(C E F G H:af)(c d:Int)(aj K L M:af)(q:Bool)(e:Int)(r:Bool)(N P Q R S bc V X:af)(s t:Bool)(f g:Int)(u v:Bool)(Y Z dD il hN im iE H1:af)(w x:Bool)(i j:Int)(y z q1:Bool)(k m:Int)(bC s1 t1:Bool)(n o:Int)(gD v1 w1:Bool)(p dN:Int)(gY eH:Bool)(l:List O):List O:=ab8 A a b C E F G H c d aj K L M q e r N P Q R S bc V X s t f g u v Y Z dD il hN im iE H1 w x i j y z q1 k m bC s1 (.b (decide (k>0)) false::.e L e.toNat [B t1,I n,I o,B gD,B v1]::.e (L.set e.toNat [B false,I n,I o,B gD,B v1]) e.toNat [B w1,I p,I dN,B gY,B eH]::l)
def Rl(A:af)(a b:Int)(C E F G H:af)(c d:Int)(aj K L M:af)(q:Bool)(e:Int)(r:Bool)(N P Q R S bc V X:af)(s t:Bool)(f g:Int)(u v:Bool)(Y Z dD il hN im iE H1:af)(w x:Bool)(i j:Int)(y z q1:Bool)(k m:Int)(bC s1 t1:Bool)(n o:Int)(gD v1 w1:Bool)(p dN:Int)(gY eH si ie:Bool)(e7 c1:Int)(b2 s2:Bool)(d1:Int)(l:List O):List O:=Rk A a b C E F G H c d aj K L M q e r N P Q R S bc V X s t f g u v Y Z dD il hN im iE H1 w x i j y z q1 k m bC s1 t1 n o gD v1 w1 p dN gY eH (.n gY true::.a .sub::.e aj f.toNat (aX Y Z dD il hN im iE H1)::.x im e [B si]::.n si true::.e (L.set e.toNat [B false,I n,I o,B gD,B v1]) e.toNat [B ie,I e7,I c1,B b2,B s2]::.a .sub::.e aj f.toNat (aX Y Z dD il hN im iE H1)::.x hN e [I d1]::.v (c1+d1)::l)
theorem atL(h:ad (Rl Q e f N R S bc nI n j M V F X s a t Y Z dz e6 fD fK fL fM u gr b o gw gL G H aj K C E L A v w p a0 t0 fo v0 k b8 w0 cE mM c d q r z0 c9 d0 x q1 y bC bE g s1 t1 i [.b (g+i==0) true,.e (F.set a.toNat [B false,I c,I d,B q,B r]) a.toNat [B gD,I f0,I i0,B v1,B z],.b z true,.a .sub,.e M b.toNat (aX G H aj K C E L A),.g A [[I a,B true]] 16,.e M b.toNat (aX G H aj K C E L A),.p ((aX G H aj K C E L A)[7]?=some (D.J 2 A)),.p (b.toNat=b.toNat),.p (b.toNat=b.toNat),.h [[I a,B true]],.e M b.toNat (aX G H aj K C E L A),.p (b.toNat=b.toNat),.l [] [10,2,6,1,9,4] [6,4,2] (ap f93 0) (An a 1 nI n j (M.set b.toNat (aX G H aj K C E L (A++[[I a,B true]]))) V (F.set a.toNat [B false,I c,I d,B q,B r]) X 0 0 Q e f N R S bc) (.exit 1) (Ao eU l m jD mj nF nG j0 dw)])):
 ar 93 [.agg (cl Q e f N R S bc),ae a] [.agg (cl eU l m jD mj nF nG),ak true]:=
 h.of
def Ap(a:Int)(q:Bool)(f:Int)(H:af)(g i:Int)(aj K L M:af)(b c:Int)(A:af)(d e:Int)(C E F G:af):aD:=a' 229 [(1,aT a),(2,aS 2),(4,aS 4),(6,aS 6),(9,.aF (.one (.bg q))),(10,aT f)] [(6,[aB 130000 4 H,av g,av i,aB 130003 8 aj,aB 130004 6 K,aB 130005 5 L,aB 130006 3 M]),(4,[.v (aR),av b,av c,.v (aR),.v (aR),.v (aR),.v (aR)]),(2,[.J .free 4 A,av d,av e,.J .free 8 C,.J .free 6 E,.J .free 5 F,.J .free 3 G])]
theorem atM(h:ad [.f C a true,.g A [[I a,I b,B q]] 24,.h [[I a,I b,B q]],.u a]):
 aV (ap f93 0) (Ap b q a E c d F G H A e f aj g i C K L M) .normal (Ap b q (a+1) E c d F G H (A++[[I a,I b,B q]]) e f aj g i C K L M):=
 h.aQ [10,2,6,1,9,4] [6,4,2]
theorem atN(h:ad [.f H a false]):
 aV (ap f93 0) (Ap f q a A b c C E F G d e aj g i H K L M) (.exit 1) (Ao A b c C E F G d e):=
 h.aQ [6,4] [6,4]
theorem atO(h:ad (Rl Q e f N R S bc nI n j L V M X t a u Y Z dz e6 fD fK fL fM v gw b o gL t0 G H aj K C E F A w x p a0 fo v0 w0 k b8 cE mM z0 c d q r q1 c9 d0 y bC z s1 bE g t1 gD i [.b (g+i==0) true,.e (M.set a.toNat [B false,I c,I d,B q,B r]) a.toNat [B v1,I f0,I i0,B w1,B gr],.b gr false,.a .sub,.e L b.toNat (aX G H aj K C E F A),.x F a [B s],.a .sub,.e L b.toNat (aX G H aj K C E F A),.g A [[I a,B s]] 16,.e L b.toNat (aX G H aj K C E F A),.p ((aX G H aj K C E F A)[7]?=some (D.J 2 A)),.p (b.toNat=b.toNat),.p (b.toNat=b.toNat),.h [[I a,B s]],.e L b.toNat (aX G H aj K C E F A),.p (b.toNat=b.toNat),.l [] [10,2,6,1,9,4] [6,4,2] (ap f93 0) (Ap a s 1 nI n j (L.set b.toNat (aX G H aj K C E F (A++[[I a,B s]]))) V (M.set a.toNat [B false,I c,I d,B q,B r]) X 0 0 Q e f N R S bc) (.exit 1) (Ao eU l m jD mj nF nG j0 dw)])):
 ar 93 [.agg (cl Q e f N R S bc),ae a] [.agg (cl eU l m jD mj nF nG),ak true]:=
 h.of
theorem atP(h:ad (Rl Q e f E R S bc eU l j C V A X s a t Y Z dz e6 fD fK fL fM u z b m gr gw H aj K L F G M N v w n o gL t0 fo k p v0 w0 cE c d q r mM a0 b8 x z0 y q1 c9 g bC s1 i [.b (g+i==0) false])):
 ar 93 [.agg (cl Q e f E R S bc),ae a] [.agg (cl eU l j C V (A.set a.toNat [B false,I c,I d,B q,B r]) X),ak true]:=
 h.of
theorem atQ(h:ad (Rk G b c C R S bc eU j g E V A X s a t Y Z dz e6 fD fK fL fM u z d k gr gw H aj K L M F N Q v w l m gL t0 fo i n v0 w0 cE e f q r mM o p x z0 [.n x true,.a .sub,.e E d.toNat (aX H aj K L M F N Q),.x F a [B y],.n y false])):
 ar 93 [.agg (cl G b c C R S bc),ae a] [.agg (cl eU j g E V (A.set a.toNat [B false,I e,I f,B q,B r]) X),ak true]:=
 h.of
theorem atS(h:ad (Rk E b c C G H aj eU j f F K A L s a t M N Q R S bc V X u y g k z gr Y Z dz e6 fD fK fL fM v w l m gw gL t0 i n fo v0 w0 d e q r cE o p x mM [.n x false])):
 ar 93 [.agg (cl E b c C G H aj),ae a] [.agg (cl eU j f F K (A.set a.toNat [B false,I d,I e,B q,B r]) L),ak true]:=
 h.of
theorem atT(h:ad [.b (decide ((A.length:Int)>0)) true,.p ((0:Int)<=0),.p (0<(A.length:Int)),.e A 0 (aX K L C E F G H aj),.r 36 [.agg (aX K L C E F G H aj),ae a] [ak q]]):
 ar 184 [.agg (cl M b c A N Q R),ae a] [ak q]:=
 h.of
def yd(A C E F G H aj K:af)(a b:Int):aD:=a' 22 [(1,aT a),(2,aS 2),(5,aT b)] [(2,[.J .free 5 A,.J .free 5 C,.J .free 5 E,.J .free 4 F,.J .free 1 G,.J .free 1 H,.J .free 1 aj,.J .free 2 K])]
def OK(q:Bool):aD:=a' 22 [(4,.aF (.one (.bg q)))] []
theorem atU(h:ad [.i A c (bi d a e f g),.b (decide (a<=b)) true]):
 aV (ap f201 0) (yd C E A F G H aj K b c) .ret (OK true):=
 h.aQ [4] []
theorem atV(h:ad [.i A a (bi d c e f g),.b (decide (c<=b)) false,.u a]):
 aV (ap f201 0) (yd C E A F G H aj K b a) .normal (yd C E A F G H aj K b (a+1)):=
 h.aQ [5,2,1] [2]
def Yd:aD:=a' 22 [] []
theorem as5(h:ad [.f A a false]):
 aV (ap f201 0) (yd C E A F G H aj K b a) (.exit 0) Yd:=
 h.aQ [] []
theorem as6(h:ad [.l [] [5,2,1] [2] (ap f201 0) (yd A C E F G H aj K a 0) .ret (OK q)]):
 ar 201 [.agg (aX A C E F G H aj K),ae a] [ak q]:=
 h.of
theorem as7(h:ad [.l [] [5,2,1] [2] (ap f201 0) (yd A C E F G H aj K a 0) (.exit 0) Yd]):
 ar 201 [.agg (aX A C E F G H aj K),ae a] [ak false]:=
 h.of
theorem as8(h:ad [.r 201 [.agg (aX A C E F G H aj K),ae a] [ak q],.n q true,.r 202 [.agg (aX A C E F G H aj K),ae a] [ae b]]):
 ar 185 [.agg (aX A C E F G H aj K),ae a] [ak (b==0)]:=
 h.of
theorem as9(h:ad [.r 201 [.agg (aX A C E F G H aj K),ae a] [ak q],.n q false]):
 ar 185 [.agg (aX A C E F G H aj K),ae a] [ak false]:=
 h.of
theorem ata(h:ad [.r 81 [aP 5 E,ae a] [aP 5 C],.r 81 [aP 5 F,ae a] [aP 5 A],.v ((C.length:Int)+(A.length:Int))]):
 ar 202 [.agg (aX E F G H aj K L M),ae a] [ae ((C.length:Int)+(A.length:Int))]:=
 h.of
theorem atb(h:ad [.r 82 [aP 5 A,.one (.cl 195 [D.ptr [I a]])] [ak q]]):
 ar 173 [.agg (aX C E A F G H aj K),ae a] [ak q]:=
 h.of
theorem atc(h:ad []):
 ar 195 [.agg (bi c a d e f),.one (.ptr [I b])] [ak (decide (a<=b))]:=
 h.of
theorem atd(h:ad [.r 173 [.agg (aX A C E F G H aj K),ae a] [ak q],.n q true,.r 174 [.agg (aX A C E F G H aj K),ae a] [ae b]]):
 ar 135 [.agg (aX A C E F G H aj K),ae a] [ak (b==0)]:=
 h.of
theorem ate(h:ad [.r 173 [.agg (aX A C E F G H aj K),ae a] [ak q],.n q false]):
 ar 135 [.agg (aX A C E F G H aj K),ae a] [ak false]:=
 h.of
theorem atf(h:ad [.r 79 [aP 5 E,ae a] [aP 5 C],.r 79 [aP 5 F,ae a] [aP 5 A],.v ((C.length:Int)+(A.length:Int))]):
 ar 174 [.agg (aX E F G H aj K L M),ae a] [ae ((C.length:Int)+(A.length:Int))]:=
 h.of
