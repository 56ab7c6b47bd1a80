import Derived.Test.YtdchjefneblpgaaGreatGE
set_option linter.unusedVariables false
set_option linter.unusedSimpArgs false
namespace Go.Proofs.YtdchjefneblpgaaGreat
open Go.Sx Go.RowKit Go.Proofs.Tryz
variable {a b c d e f g i j k l m n o p a0 d' bX eC cO d0 bu f0 i0 j0 cX ea m0 kW nN h2 : Int} {A C E F G H af K L M N Q R S bb V X Y Z c7 dZ ei e7 e8 e9 ey jW jD kj kk kl : ae} {q r s t u v w x y z gM q1 iv EK gw bF bQ cb ho s1 s2 O0 t0 t1 t2 t3 fW g' kf v0 v1 v2 w0 w1 hE ff hs gS my eF eV z0 sR z2 : Bool}
theorem aox(h:ad [.g ([]:ae) A 8,.h A]):
 al 276 [.agg (bt a b c A)] [.agg (bt a b c ([]++A))]:=
 h.of
def CR(A:ae)(a:Int)(C:ae)(b c d e:Int):aJ:=bj 27 [(2,aR 2),(3,aR 3),(12,dO 4 A),(13,a6 (A.length:Int)),(14,a6 a)] [(3,[aB 23 4 C,au b,au c]),(2,[.v (aQ),au d,au e])]
theorem aoy(h:ad [.i A a (bt l e f F),.r 276 [.agg (bt l e f F)] [.agg (bt b c d C)],.a .wr,.g E [(bt b c d C)] 48,.u a]):
 a7 (ar f181 0) (CR A a E g i j k) .normal (CR A (a+1) (E++[(bt b c d C)]) g i j k):=
 h.aY [14,13,12,3,2] [3,2]
def XJ(A:ae)(a b c d:Int):aJ:=bj 27 [(2,aR 2),(3,aR 3)] [(3,[aB 23 4 A,au a,au b]),(2,[.v (aQ),au c,au d])]
theorem aoz(h:ad [.f A a false]):
 a7 (ar f181 0) (CR A a C b c d e) (.exit 0) (XJ C b c d e):=
 h.aY [3,2] [3,2]
theorem aoA(h:ad [.l [(4000000,23,4)] [14,13,12,3,2] [3,2] (ar f181 0) (CR A 0 [] a b 0 0) (.exit 0) (XJ C c d e f)]):
 al 181 [.agg (bA A a b)] [.agg (bA C c d)]:=
 h.of
theorem aoB(h:ad [.r 233 [aC 5 A] [aC 5 C]]):
 al 256 [.agg (bZ a A b c d e)] [.agg (bZ a C b c d e)]:=
 h.of
theorem aoC(h:ad [.r 233 [aC 5 G] [aC 5 N],.r 233 [aC 5 H] [aC 5 Q],.r 233 [aC 5 L] [aC 5 af],.r 297 [aC 4 M] [aC 4 K],.g ([]:ae) A 8,.h A,.g ([]:ae) C 1,.h C,.g ([]:ae) E 1,.h E,.g ([]:ae) F 16,.h F]):
 al 255 [.agg (aW G H L M A C E F)] [.agg (aW N Q af K ([]++A) ([]++C) ([]++E) ([]++F))]:=
 h.of
def CS(A:ae)(a:Int)(af:ae)(d e:Int)(K L M:ae)(f g:Int)(C:ae)(b c:Int)(E F G H:ae):aJ:=bj 49 [(1,aR 1),(2,aR 2),(3,aR 3),(19,dO 8 A),(20,a6 (A.length:Int)),(21,a6 a)] [(3,[aB 110000 4 af,au d,au e,aB 30 8 K,.v (aQ),aB 13 5 L,aB 16 3 M]),(2,[.v (aQ),au f,au g,.v (aQ),.v (aQ),.v (aQ),.v (aQ)]),(1,[.J .free 4 C,au b,au c,.J .free 8 E,.J .free 6 F,.J .free 5 G,.J .free 3 H])]
theorem an3(h:ad [.i C a (aW Z c7 dZ ei e7 e8 e9 ey),.r 255 [.agg (aW Z c7 dZ ei e7 e8 e9 ey)] [.agg (aW E F G H af K L M)],.a .wr,.g A [(aW E F G H af K L M)] 192,.u a]):
 a7 (ar f144 0) (CS C a N b c A Q R d e S f g bb V X Y) .normal (CS C (a+1) N b c (A++[(aW E F G H af K L M)]) Q R d e S f g bb V X Y):=
 h.aY [21,20,19,3,1,2] [3,2,1]
def XK(A:ae)(a c:Int)(H af K:ae)(d e:Int)(L:ae)(f b:Int)(C E F G:ae):aJ:=bj 49 [(1,aR 1),(2,aR 2),(3,aR 3)] [(3,[aB 110000 4 A,au a,au c,aB 30 8 H,.v (aQ),aB 13 5 af,aB 16 3 K]),(2,[.v (aQ),au d,au e,.v (aQ),.v (aQ),.v (aQ),.v (aQ)]),(1,[.J .free 4 L,au f,au b,.J .free 8 C,.J .free 6 E,.J .free 5 F,.J .free 3 G])]
theorem an4(h:ad [.f M a false]):
 a7 (ar f144 0) (CS M a A b c C E F d e G f g H af K L) (.exit 0) (XK A b c C E F d e G f g H af K L):=
 h.aY [1,3,2] [3,2,1]
def Ch(A:ae)(a:Int)(C:ae)(c d:Int)(E F G H:ae)(e b:Int):aJ:=bj 49 [(2,aR 2),(3,aR 3),(34,dO 6 A),(35,a6 (A.length:Int)),(36,a6 a)] [(3,[aB 110000 4 C,au c,au d,aB 30 8 E,aB 45 6 F,aB 13 5 G,aB 16 3 H]),(2,[.v (aQ),au e,au b,.v (aQ),.v (aQ),.v (aQ),.v (aQ)])]
theorem an5(h:ad [.i A a (bZ l K m n o p),.r 256 [.agg (bZ l K m n o p)] [.agg (bZ b E c d e f)],.a .wr,.g C [(bZ b E c d e f)] 64,.u a]):
 a7 (ar f144 1) (Ch A a F g i G C H af j k) .normal (Ch A (a+1) F g i G (C++[(bZ b E c d e f)]) H af j k):=
 h.aY [36,35,34,3,2] [3,2]
def XL(A:ae)(a b:Int)(C E F G:ae)(c d:Int):aJ:=bj 49 [(2,aR 2),(3,aR 3)] [(3,[aB 110000 4 A,au a,au b,aB 30 8 C,aB 45 6 E,aB 13 5 F,aB 16 3 G]),(2,[.v (aQ),au c,au d,.v (aQ),.v (aQ),.v (aQ),.v (aQ)])]
theorem an6(h:ad [.f A a false]):
 a7 (ar f144 1) (Ch A a C b c E F G H d e) (.exit 2) (XL C b c E F G H d e):=
 h.aY [3,2] [3,2]
theorem an7(h:ad [.r 181 [.agg (bA E a b)] [.agg (bA V j k)],.g ([]:ae) A 32,.h A,.g ([]:ae) C 24,.h C,.l [(4000003,30,8)] [21,20,19,3,1,2] [3,2,1] (ar f144 0) (CS F 0 V j k [] ([]++A) ([]++C) 0 0 E a b F bb A C) (.exit 0) (XK G c d H af K e f X l m Y L Z c7),.l [(4000004,45,6)] [36,35,34,3,2] [3,2] (ar f144 1) (Ch L 0 G c d H [] af K e f) (.exit 2) (XL M g i N Q R S n o)]):
 al 144 [.agg (cl E a b F bb A C)] [.agg (cl M g i N Q R S)]:=
 h.of
theorem an8(h:ad [.g ([]:ae) A 40,.h A]):
 al 279 [.agg (bZ a A b c d e)] [.agg (bZ a ([]++A) b c d e)]:=
 h.of
def Ci(a:Int)(A:ae)(b c d e:Int)(C:ae)(f g:Int):aJ:=bj 33 [(1,aR 1),(2,aR 2),(3,aR 3),(4,a6 a)] [(3,[aB 7 4 A,au b,au c]),(2,[.v (aQ),au d,au e]),(1,[.J .free 4 C,au f,au g])]
theorem an9(h:ad [.i E a (bt b c d A),.a .wr,.g ([]:ae) A 8,.h A,.g C [(bt b c d ([]++A))] 48,.u a]):
 a7 (ar f123 0) (Ci a C g i j k E e f) .normal (Ci (a+1) (C++[(bt b c d ([]++A))]) g i j k E e f):=
 h.aY [4,1,3,2] [3,2,1]
def WX(A:ae)(a b c d:Int):aJ:=bj 33 [(2,aR 2),(3,aR 3)] [(3,[aB 7 4 A,au a,au b]),(2,[.v (aQ),au c,au d])]
theorem aoa(h:ad [.f C a false]):
 a7 (ar f123 0) (Ci a A b c d e C f g) (.exit 0) (WX A b c d e):=
 h.aY [3,2] [3,2]
theorem aob(h:ad [.l [] [4,1,3,2] [3,2,1] (ar f123 0) (Ci 0 [] a b 0 0 A a b) (.exit 0) (WX C c d e f)]):
 al 123 [.agg (bA A a b)] [.agg (bA C c d)]:=
 h.of
theorem aoc(h:ad [.g ([]:ae) A 40,.h A,.g ([]:ae) C 40,.h C,.g ([]:ae) E 40,.h E,.g ([]:ae) F 32,.h F,.g ([]:ae) G 8,.h G,.g ([]:ae) H 1,.h H,.g ([]:ae) af 1,.h af,.g ([]:ae) K 16,.h K]):
 al 174 [.agg (aW A C E F G H af K)] [.agg (aW ([]++A) ([]++C) ([]++E) ([]++F) ([]++G) ([]++H) ([]++af) ([]++K))]:=
 h.of
def Cj(a:Int)(A:ae)(d e:Int)(H af K:ae)(f g:Int)(L:ae)(b c:Int)(C E F G:ae):aJ:=bj 55 [(1,aR 1),(2,aR 2),(3,aR 3),(4,a6 a)] [(3,[aB 90000 4 A,au d,au e,aB 34 8 H,.v (aQ),aB 9 5 af,aB 13 3 K]),(2,[.v (aQ),au f,au g,.v (aQ),.v (aQ),.v (aQ),.v (aQ)]),(1,[.J .free 4 L,au b,au c,.J .free 8 C,.J .free 6 E,.J .free 5 F,.J .free 3 G])]
theorem apE(h:ad [.i C a (aW Y Z c7 dZ ei e7 e8 e9),.r 174 [.agg (aW Y Z c7 dZ ei e7 e8 e9)] [.agg (aW E F G H af K L M)],.a .wr,.g A [(aW E F G H af K L M)] 192,.u a]):
 a7 (ar f186 0) (Cj a N b c A Q R d e S f g C bb V X) .normal (Cj (a+1) N b c (A++[(aW E F G H af K L M)]) Q R d e S f g C bb V X):=
 h.aY [4,1,3,2] [3,2,1]
def WY(A:ae)(a c:Int)(H af K:ae)(d e:Int)(L:ae)(f b:Int)(C E F G:ae):aJ:=bj 55 [(1,aR 1),(2,aR 2),(3,aR 3)] [(3,[aB 90000 4 A,au a,au c,aB 34 8 H,.v (aQ),aB 9 5 af,aB 13 3 K]),(2,[.v (aQ),au d,au e,.v (aQ),.v (aQ),.v (aQ),.v (aQ)]),(1,[.J .free 4 L,au f,au b,.J .free 8 C,.J .free 6 E,.J .free 5 F,.J .free 3 G])]
theorem apF(h:ad [.f A a false]):
 a7 (ar f186 0) (Cj a C b c E F G d e H f g A af K L) (.exit 0) (WY C b c E F G d e H f g A af K L):=
 h.aY [1,3,2] [3,2,1]
def Ck(a:Int)(A:ae)(d e:Int)(af K L M:ae)(f g:Int)(C:ae)(b c:Int)(E F G H:ae):aJ:=bj 55 [(1,aR 1),(2,aR 2),(3,aR 3),(5,a6 a)] [(3,[aB 90000 4 A,au d,au e,aB 34 8 af,aB 52 6 K,aB 9 5 L,aB 13 3 M]),(2,[.v (aQ),au f,au g,.v (aQ),.v (aQ),.v (aQ),.v (aQ)]),(1,[.J .free 4 C,au b,au c,.J .free 8 E,.J .free 6 F,.J .free 5 G,.J .free 3 H])]
theorem apG(h:ad [.i C a (bZ n Q o p a0 bX),.r 279 [.agg (bZ n Q o p a0 bX)] [.agg (bZ b E c d e f)],.a .wr,.g A [(bZ b E c d e f)] 64,.u a]):
 a7 (ar f186 1) (Ck a F g i G A H af j k K l m L C M N) .normal (Ck (a+1) F g i G (A++[(bZ b E c d e f)]) H af j k K l m L C M N):=
 h.aY [5,1,3,2] [3,2,1]
def WZ(A:ae)(a b:Int)(C E F G:ae)(c d:Int):aJ:=bj 55 [(2,aR 2),(3,aR 3)] [(3,[aB 90000 4 A,au a,au b,aB 34 8 C,aB 52 6 E,aB 9 5 F,aB 13 3 G]),(2,[.v (aQ),au c,au d,.v (aQ),.v (aQ),.v (aQ),.v (aQ)])]
theorem apH(h:ad [.f H a false]):
 a7 (ar f186 1) (Ck a A b c C E F G d e af f g K H L M) (.exit 2) (WZ A b c C E F G d e):=
 h.aY [3,2] [3,2]
theorem apI(h:ad [.r 123 [.agg (bA E a b)] [.agg (bA c7 l m)],.g ([]:ae) A 32,.h A,.g ([]:ae) C 24,.h C,.l [(4000003,34,8)] [4,1,3,2] [3,2,1] (ar f186 0) (Cj 0 c7 l m [] ([]++A) ([]++C) 0 0 E a b V Z A C) (.exit 0) (WY F c d G H af e f K g i L M N Q),.l [(4000004,52,6)] [5,1,3,2] [3,2,1] (ar f186 1) (Ck 0 F c d G [] H af e f K g i L M N Q) (.exit 2) (WZ R j k S bb X Y n o)]):
 al 186 [.agg (cl E a b V Z A C)] [.agg (cl R j k S bb X Y)]:=
 h.of
theorem apJ(h:ad [.r 186 [.agg (cl A a b C E F G)] [.agg (cl M c d H af K L)],.r 56 [.agg (cl A a b C E F G)] [ai q]]):
 b' 127 [aN.ro (.agg (cl A a b C E F G))] (aU.new [D.J 4 M,I c,I d,D.J 8 H,D.J 6 af,D.J 5 K,D.J 3 L,B q]):=
 h.ca
def rq(a b:Int)(A:ae)(c d:Int)(C E F G:ae)(q:Bool):aJ:=bj 93 [(0,aR 1000000000),(1,a6 a),(5,a6 b)] [(1000000000,[aB 900000000 4 A,au c,au d,aB 900000003 8 C,aB 900000004 6 E,aB 900000005 5 F,aB 900000006 3 G,.bg q])]
theorem apK(h:ad [.f A a true,.b q true,.x A a [I e,I f,B r],.b (e != b) true,.u a]):
 a7 (ar f247 0) (rq b a C c d E F G A q) .normal (rq b (a+1) C c d E F G A q):=
 h.aY [5,0,1] [1000000000]
def GH(q:Bool)(A:ae)(a b:Int)(C E F G:ae)(r:Bool):aJ:=bj 93 [(0,aR 1000000000),(4,.aI (.one (.bg q)))] [(1000000000,[aB 900000000 4 A,au a,au b,aB 900000003 8 C,aB 900000004 6 E,aB 900000005 5 F,aB 36 3 G,.bg r])]
def aah(A:ae)(a:Int)(q:Bool)(b c:Int)(r:Bool)(d:Int)(C E F G H af K L M:ae)(s:Bool)(l:List O):List O:=.f A a true::.b q true::.x A a [I b,I c,B r]::.b (b != d) false::.a .sub::.p ((0:Int)<=none.getD 0)::.p (none.getD 0<=(some a).getD (A.length:Int))::.p ((some a).getD (A.length:Int)<=(A.length:Int))::.p ((([]:ae).length+(List.take (((some a).getD (A.length:Int)).toNat-0) (List.drop 0 A)).length)*24<=140737488355328)::.p (([]:ae).length+(List.take (((some a).getD (A.length:Int)).toNat-0) (List.drop 0 A)).length<=9223372036854775807)::.p (Flat (List.take (((some a).getD (A.length:Int)).toNat-0) (List.drop 0 A)))::.u a::.p (0<=(some (a+1)).getD 0)::.p ((some (a+1)).getD 0<=none.getD (A.length:Int))::.p (none.getD (A.length:Int)<=(A.length:Int))::.p ((([]++List.take (((some a).getD (A.length:Int)).toNat-0) (List.drop 0 A)).length+(List.take (A.length-((some (a+1)).getD 0).toNat) (List.drop ((some (a+1)).getD 0).toNat A)).length)*24<=140737488355328)::.p (([]++List.take (((some a).getD (A.length:Int)).toNat-0) (List.drop 0 A)).length+(List.take (A.length-((some (a+1)).getD 0).toNat) (List.drop ((some (a+1)).getD 0).toNat A)).length<=9223372036854775807)::.p (Flat (List.take (A.length-((some (a+1)).getD 0).toNat) (List.drop ((some (a+1)).getD 0).toNat A)))::.x C d (aW E F G H af K L M)::.r 213 [.agg (aW E F G H af K L M),ag c] [ai s]::l
theorem apL(h:ad (aah A a r f c q b C F G H af K L M E s [.n s true,.a .sub,.x C b (aW F G H af K L M E),.g E [[I c,B q]] 16,.e C b.toNat (aW F G H af K L M E),.p ((aW F G H af K L M E)[7]?=some (D.J 2 E)),.h [[I c,B q]],.p (C=C),.p (C=C),.p (b.toNat=b.toNat),.p (E=E),.p (C=C),.p (C=C),.p (C=C),.p (C=C),.p (C=C),.p (b.toNat=b.toNat),.p (E=E),.x C b (aW F G H af K L M E),.p (b.toNat=b.toNat)])):
 a7 (ar f247 0) (rq b a N d e C Q R A r) .ret (GH true N d e (C.set b.toNat (aW F G H af K L M (E++[[I c,B q]]))) Q R ([]++List.take (((some a).getD (A.length:Int)).toNat-0) (List.drop 0 A)++List.take (A.length-((some (a+1)).getD 0).toNat) (List.drop ((some (a+1)).getD 0).toNat A)) r):=
 h.aY [4,0] [1000000000]
theorem apM(h:ad (aah A a q e f s b C H af K L M N Q R r [.n r false])):
 a7 (ar f247 0) (rq b a E c d C F G A q) .ret (GH true E c d C F G ([]++List.take (((some a).getD (A.length:Int)).toNat-0) (List.drop 0 A)++List.take (A.length-((some (a+1)).getD 0).toNat) (List.drop ((some (a+1)).getD 0).toNat A)) q):=
 h.aY [4,0] [1000000000]
def Nz(A:ae)(a b:Int)(C E F G:ae)(q:Bool):aJ:=bj 93 [(0,aR 1000000000)] [(1000000000,[aB 900000000 4 A,au a,au b,aB 900000003 8 C,aB 900000004 6 E,aB 900000005 5 F,aB 900000006 3 G,.bg q])]
theorem apN(h:ad [.f A c true,.b q false]):
 a7 (ar f247 0) (rq d c C a b E F G A q) (.exit 0) (Nz C a b E F G A q):=
 h.aY [0] [1000000000]
theorem W0(h:ad [.f A c false]):
 a7 (ar f247 0) (rq d c C a b E F G A q) (.exit 0) (Nz C a b E F G A q):=
 h.aY [0] [1000000000]
theorem apO(h:ad [.l [] [5,0,1] [1000000000] (ar f247 0) (rq e 0 A a d af K L M r) .ret (GH s C b c E F G H q)]):
 b' 247 [aN.ref [D.J 4 A,I a,I d,D.J 8 af,D.J 6 K,D.J 5 L,D.J 3 M,B r] [D.J 4 C,I b,I c,D.J 8 E,D.J 6 F,D.J 5 G,D.J 3 H,B q],aN.ro (ag e)] (aU.vals [ai s]):=
 h.ca
theorem NA(h:ad [.l [] [5,0,1] [1000000000] (ar f247 0) (rq e 0 A a d H af K L r) (.exit 0) (Nz M b c C E F G q)]):
 b' 247 [aN.ref [D.J 4 A,I a,I d,D.J 8 H,D.J 6 af,D.J 5 K,D.J 3 L,B r] [D.J 4 M,I b,I c,D.J 8 C,D.J 6 E,D.J 5 F,D.J 3 G,B q],aN.ro (ag e)] (aU.vals [ai false]):=
 h.ca
theorem apP(h:ad []):
 al 295 [.agg [I a,I c,B q],.one (.ptr [I b])] [ai (a==b)]:=
 h.of
def aai(A:ae)(a b:Int)(C E F G H:ae)(c d:Int)(af K L M:ae)(l:List O):List O:=.r 144 [.agg (cl A a b C E F G)] [.agg (cl H c d af K L M)]::l
def P8(A:ae)(a b:Int)(C E F G H:ae)(c d:Int)(af K L M:ae)(e f:Int)(l:List O):List O:=aai A a b C E F G H c d af K L M (.r 290 [aC 3 G,.one (.cl 295 [D.ptr [I e]])] [ag f]::l)
theorem apQ(h:ad (P8 C a d af K L A M f b E F G H e c [.b (decide (c<0)) true])):
 al 224 [.agg (cl C a d af K L A),ag e] [.agg (cl M f b E F G H),ai false]:=
 h.of
theorem apR(h:ad (P8 C a b E F G A M f c H af K L e d [.b (decide (d<0)) false,.r 55 [.agg (cl C a b E F G A)] [ai q],.n q true])):
 al 224 [.agg (cl C a b E F G A),ag e] [.agg (cl M f c H af K L),ai false]:=
 h.of
def aaj(A:ae)(a b:Int)(C E F G H:ae)(c d:Int)(af K L M:ae)(e f:Int)(q:Bool)(g i:Int)(r:Bool)(N P Q R S bb V X Y:ae)(s:Bool)(l:List O):List O:=P8 A a b C E F G H c d af K L M e f (.b (decide (f<0)) false::.r 55 [.agg (cl A a b C E F G)] [ai q]::.n q false::.x G f [I g,I i,B r]::.a (.pF [[some none],[none],[none]] 0 [] [aC 3 N])::.u f::.p (jo prog 296 [GA.one (eB.eO 3 M none),GA.one (eB.ro (I f)),GA.one (eB.ro (I (f+1)))] [aC 3 N])::.x C e (aW P Q R S bb V X Y)::.r 210 [.agg (aW P Q R S bb V X Y),ag i] [ai s]::l)
theorem apS(h:ad (aaj Q d e N S bb M jW g f A V X Y a b r i c q R Z c7 dZ ei e7 e8 e9 ey s [.n s true,.a .sub,.x A a (aW E F G H af K L C),.g C [[I c,B q]] 16,.e A a.toNat (aW E F G H af K L C),.p ((aW E F G H af K L C)[7]?=some (D.J 2 C)),.h [[I c,B q]],.p (A=A),.p (A=A),.p (A=A),.p (A=A),.p (A=A),.p (A=A),.p (a.toNat=a.toNat),.p (C=C),.x A a (aW E F G H af K L C),.p (a.toNat=a.toNat)])):
 al 224 [.agg (cl Q d e N S bb M),ag a] [.agg (cl jW g f (A.set a.toNat (aW E F G H af K L (C++[[I c,B q]]))) V X R),ai true]:=
 h.of
theorem apT(h:ad (aaj E b c C G H A Z g e af K L M d a q i f s F N Q R S bb V X Y r [.n r false])):
 al 224 [.agg (cl E b c C G H A),ag d] [.agg (cl Z g e af K L F),ai true]:=
 h.of
def Cl(a:Int)(q:Bool)(b:Int)(A:ae)(c d:Int)(C E F G:ae)(r:Bool):aJ:=bj 52 [(0,aR 1000000000),(1,a6 a),(2,.aI (.one (.bg q))),(6,a6 b)] [(1000000000,[aB 900000000 4 A,au c,au d,aB 900000003 8 C,aB 900000004 6 E,aB 900000005 5 F,aB 900000006 3 G,.bg r])]
theorem apU(h:ad [.f A a true,.g C [[I a,I b,B q]] 24,.h [[I a,I b,B q]],.u a]):
 a7 (ar f317 0) (Cl b q a E c d A F G C r) .normal (Cl b q (a+1) E c d A F G (C++[[I a,I b,B q]]) r):=
 h.aY [6,0,1,2] [1000000000]
def W1(A:ae)(a b:Int)(C E F G:ae)(q:Bool):aJ:=bj 52 [(0,aR 1000000000)] [(1000000000,[aB 900000000 4 A,au a,au b,aB 900000003 8 C,aB 900000004 6 E,aB 900000005 5 F,aB 900000006 3 G,.bg q])]
theorem apV(h:ad [.f A a false]):
 a7 (ar f317 0) (Cl d r a C b c A E F G q) (.exit 0) (W1 C b c A E F G q):=
 h.aY [0] [1000000000]
theorem apW(h:ad [.a .sub,.p ((0:Int)<=0),.p (0<(A.length:Int)),.e A 0 (aW E F G H af K L C),.g C [[I a,B q]] 16,.e A 0 (aW E F G H af K L C),.p ((aW E F G H af K L C)[7]?=some (D.J 2 C)),.h [[I a,B q]],.p (A=A),.p (A=A),.p (A=A),.p (A=A),.p (A=A),.p (0=0),.p (C=C),.p ((0:Int)<=0),.p (0<(A.length:Int)),.e A 0 (aW E F G H af K L C),.p (0=0),.l [] [6,0,1,2] [1000000000] (ar f317 0) (Cl a q 1 M b d (A.set 0 (aW E F G H af K L (C++[[I a,B q]]))) V X Y s) (.exit 0) (W1 N c e Q R S bb r)]):
 b' 317 [aN.ref [D.J 4 M,I b,I d,D.J 8 A,D.J 6 V,D.J 5 X,D.J 3 Y,B s] [D.J 4 N,I c,I e,D.J 8 Q,D.J 6 R,D.J 5 S,D.J 3 bb,B r],aN.ro (ag a),aN.ro (ai q)] (aU.vals []):=
 h.ca
theorem apX(h:ad [.n q true]):
 b' 246 [aN.ref [D.J 4 A,I a,I b,D.J 8 C,D.J 6 E,D.J 5 F,D.J 3 G,B q] [D.J 4 A,I a,I b,D.J 8 C,D.J 6 E,D.J 5 F,D.J 3 G,B q],aN.ro (ag c)] (aU.vals [ai false]):=
 h.ca
def aaE(q:Bool)(a:Int)(r:Bool)(l:List O):List O:=.n q false::.r 168 [ag a,ag 0,ag 3] [ai r]::l
theorem apY(h:ad (aaE q c r [.n r true])):
 b' 246 [aN.ref [D.J 4 A,I a,I b,D.J 8 C,D.J 6 E,D.J 5 F,D.J 3 G,B q] [D.J 4 A,I a,I b,D.J 8 C,D.J 6 E,D.J 5 F,D.J 3 G,B q],aN.ro (ag c)] (aU.vals [ai false]):=
 h.ca
def aaF(q:Bool)(a:Int)(r:Bool)(A:ae)(b c:Int)(C E F G:ae)(s:Bool)(l:List O):List O:=aaE q a r (.n r false::.r 315 [.agg (cl A b c C E F G),ag a] [ai s]::l)
theorem apZ(h:ad (aaF q c s A a b C E F G r [.b r true])):
 b' 246 [aN.ref [D.J 4 A,I a,I b,D.J 8 C,D.J 6 E,D.J 5 F,D.J 3 G,B q] [D.J 4 A,I a,I b,D.J 8 C,D.J 6 E,D.J 5 F,D.J 3 G,B q],aN.ro (ag c)] (aU.vals [ai false]):=
 h.ca
def aaH(q:Bool)(a:Int)(r:Bool)(A:ae)(b c:Int)(C E F G:ae)(s t:Bool)(d e:Int)(u v:Bool)(H af K L M N P Q:ae)(w:Bool)(l:List O):List O:=aaF q a r A b c C E F G s (.b s false::.x F a [B t,I d,I e,B u,B v]::.a .sub::.x C d (aW H af K L M N P Q)::.r 316 [.agg (aW H af K L M N P Q),ag a] [ai w]::l)
theorem ap0(h:ad (aaH q a t E b c A F C G r u d e v w H af K L M N Q R s [.n s true])):
 b' 246 [aN.ref [D.J 4 E,I b,I c,D.J 8 A,D.J 6 F,D.J 5 C,D.J 3 G,B q] [D.J 4 E,I b,I c,D.J 8 A,D.J 6 F,D.J 5 C,D.J 3 G,B q],aN.ro (ag a)] (aU.vals [ai false]):=
 h.ca
def Qh(q:Bool)(a:Int)(r:Bool)(A:ae)(b c:Int)(C E F G:ae)(s t:Bool)(d e:Int)(u v:Bool)(H af K L M N P Q:ae)(w:Bool)(f:Int)(l:List O):List O:=aaH q a r A b c C E F G s t d e u v H af K L M N P Q w (.n w false::.x M a [I f]::.v (e+f)::l)
theorem ap1(h:ad (Qh q a v F c d A S C bb r s b e w x V X Y Z G c7 H dZ t f [.n s true,.v ((A.length:Int)-1),.x H a [B u],.x C a [B y,I g,I i,B z,B gM],.a .sub,.p ((0:Int)<=0),.p (0<(A.length:Int)),.e A 0 (aW af K L M N E Q R),.x E a [B gw],.e A 0 (aW af K L M N E Q R),.p (b.toNat=0),.p (b.toNat=0),.p (0=0),.p (0=0),.p (b.toNat=0)])):
 b' 246 [aN.ref [D.J 4 F,I c,I d,D.J 8 A,D.J 6 S,D.J 5 C,D.J 3 bb,B q] [D.J 4 F,I c,I d,D.J 8 (A.set 0 (aW af K L M N (E.set a.toNat [B false]) Q R)),D.J 6 S,D.J 5 (C.set a.toNat [B true,I ((A.length:Int)-1),I 0,B false,B u]),D.J 3 bb,B q],aN.ro (ag a)] (aU.vals [ai true]):=
 h.ca
def Dw(q:Bool)(a:Int)(r:Bool)(A:ae)(b c:Int)(C E F G:ae)(s t:Bool)(d e:Int)(u v:Bool)(H af K L M N P Q:ae)(w:Bool)(f:Int)(x:Bool)(l:List O):List O:=Qh q a r A b c C E F G s t d e u v H af K L M N P Q w f (.n t false::.b (decide (d>0)) true::.r 168 [ag (e+f),ag (-1000000),ag 1000000] [ai x]::l)
theorem ap2(h:ad (Dw q a v E b e A G C H r s c d w x af K L M F N Q R t f u [.n u true])):
 b' 246 [aN.ref [D.J 4 E,I b,I e,D.J 8 A,D.J 6 G,D.J 5 C,D.J 3 H,B q] [D.J 4 E,I b,I e,D.J 8 A,D.J 6 G,D.J 5 C,D.J 3 H,B q],aN.ro (ag a)] (aU.vals [ai false]):=
 h.ca
theorem ap3(h:ad (Dw q b x N e f E Q M R r s a c t u F G H af A C K L v d w [.n w false,.v (a-1),.b t true,.b u true,.x M b [B y,I g,I i,B z,B gM],.a .sub,.x E a (aW F G H af A C K L),.x C b [B gw],.e E a.toNat (aW F G H af A C K L),.p (a.toNat=a.toNat),.p (a.toNat=a.toNat),.p (a.toNat=a.toNat),.p (a.toNat=a.toNat),.p (a.toNat=a.toNat)])):
 b' 246 [aN.ref [D.J 4 N,I e,I f,D.J 8 E,D.J 6 Q,D.J 5 M,D.J 3 R,B q] [D.J 4 N,I e,I f,D.J 8 (E.set a.toNat (aW F G H af A (C.set b.toNat [B false]) K L)),D.J 6 Q,D.J 5 (M.set b.toNat [B true,I (a-1),I (c+d),B true,B true]),D.J 3 R,B q],aN.ro (ag b)] (aU.vals [ai true]):=
 h.ca
theorem apd(h:ad (Dw q b y N e f F Q M R r s a c t u G H af K A C E L v d w [.n w false,.v (a-1),.b t true,.b u false,.x E b [B x],.x M b [B z,I g,I i,B gM,B gw],.a .sub,.x F a (aW G H af K A C E L),.x C b [B ho],.e F a.toNat (aW G H af K A C E L),.p (a.toNat=a.toNat),.p (a.toNat=a.toNat),.p (a.toNat=a.toNat),.p (a.toNat=a.toNat),.p (a.toNat=a.toNat)])):
 b' 246 [aN.ref [D.J 4 N,I e,I f,D.J 8 F,D.J 6 Q,D.J 5 M,D.J 3 R,B q] [D.J 4 N,I e,I f,D.J 8 (F.set a.toNat (aW G H af K A (C.set b.toNat [B false]) E L)),D.J 6 Q,D.J 5 (M.set b.toNat [B true,I (a-1),I (c+d),B true,B x]),D.J 3 R,B q],aN.ro (ag b)] (aU.vals [ai true]):=
 h.ca
theorem ape(h:ad (Dw q b y N e f E Q M R r s a c t u F G H af C A K L v d w [.n w false,.v (a-1),.b t false,.x A b [B x],.b u true,.x M b [B z,I g,I i,B gM,B gw],.a .sub,.x E a (aW F G H af C A K L),.x A b [B ho],.e E a.toNat (aW F G H af C A K L),.p (a.toNat=a.toNat),.p (a.toNat=a.toNat),.p (a.toNat=a.toNat),.p (a.toNat=a.toNat),.p (a.toNat=a.toNat),.p (a.toNat=a.toNat),.p (a.toNat=a.toNat)])):
 b' 246 [aN.ref [D.J 4 N,I e,I f,D.J 8 E,D.J 6 Q,D.J 5 M,D.J 3 R,B q] [D.J 4 N,I e,I f,D.J 8 (E.set a.toNat (aW F G H af C (A.set b.toNat [B false]) K L)),D.J 6 Q,D.J 5 (M.set b.toNat [B true,I (a-1),I (c+d),B x,B true]),D.J 3 R,B q],aN.ro (ag b)] (aU.vals [ai true]):=
 h.ca
theorem apf(h:ad (Dw q b z N e f F Q M R r s a c t u G H af K C A E L v d w [.n w false,.v (a-1),.b t false,.x A b [B x],.b u false,.x E b [B y],.x M b [B gM,I g,I i,B gw,B ho],.a .sub,.x F a (aW G H af K C A E L),.x A b [B t0],.e F a.toNat (aW G H af K C A E L),.p (a.toNat=a.toNat),.p (a.toNat=a.toNat),.p (a.toNat=a.toNat),.p (a.toNat=a.toNat),.p (a.toNat=a.toNat),.p (a.toNat=a.toNat),.p (a.toNat=a.toNat)])):
 b' 246 [aN.ref [D.J 4 N,I e,I f,D.J 8 F,D.J 6 Q,D.J 5 M,D.J 3 R,B q] [D.J 4 N,I e,I f,D.J 8 (F.set a.toNat (aW G H af K C (A.set b.toNat [B false]) E L)),D.J 6 Q,D.J 5 (M.set b.toNat [B true,I (a-1),I (c+d),B x,B y]),D.J 3 R,B q],aN.ro (ag b)] (aU.vals [ai true]):=
 h.ca
def Dx(q:Bool)(a:Int)(r:Bool)(A:ae)(b c:Int)(C E F G:ae)(s t:Bool)(d e:Int)(u v:Bool)(H af K L M N P Q:ae)(w:Bool)(f:Int)(x:Bool)(g i:Int)(y z:Bool)(l:List O):List O:=Qh q a r A b c C E F G s t d e u v H af K L M N P Q w f (.n t false::.b (decide (d>0)) false::.x F a [B x,I g,I i,B y,B z]::l)
theorem apg(h:ad (Dx t a y E d e C N A Q u v b c q r R S bb V F G X Y w f z j k gM gw [.n q true,.x G a [B x],.n x true,.b (c+f==0) true,.b r true,.a (.dp [some [D.J 4 H,I g,I i,D.J 8 af,D.J 6 K,D.J 5 L,D.J 3 M,B s],none,none] (aU.vals [])),.p (bW prog 317 [aN.ref [D.J 4 E,I d,I e,D.J 8 C,D.J 6 N,D.J 5 (A.set a.toNat [B false,I b,I c,B q,B r]),D.J 3 Q,B t] [D.J 4 H,I g,I i,D.J 8 af,D.J 6 K,D.J 5 L,D.J 3 M,B s],aN.ro (ag a),aN.ro (ai true)] (aU.vals []))])):
 b' 246 [aN.ref [D.J 4 E,I d,I e,D.J 8 C,D.J 6 N,D.J 5 A,D.J 3 Q,B t] [D.J 4 H,I g,I i,D.J 8 af,D.J 6 K,D.J 5 L,D.J 3 M,B s],aN.ro (ag a)] (aU.vals [ai true]):=
 h.ca
theorem aph(h:ad (Dx t a z E d e C Q A R u v b c q r S bb V X F G H Y w f gM j k gw ho [.n q true,.x G a [B x],.n x true,.b (c+f==0) true,.b r false,.x H a [B y],.a (.dp [some [D.J 4 af,I g,I i,D.J 8 K,D.J 6 L,D.J 5 M,D.J 3 N,B s],none,none] (aU.vals [])),.p (bW prog 317 [aN.ref [D.J 4 E,I d,I e,D.J 8 C,D.J 6 Q,D.J 5 (A.set a.toNat [B false,I b,I c,B q,B r]),D.J 3 R,B t] [D.J 4 af,I g,I i,D.J 8 K,D.J 6 L,D.J 5 M,D.J 3 N,B s],aN.ro (ag a),aN.ro (ai y)] (aU.vals []))])):
 b' 246 [aN.ref [D.J 4 E,I d,I e,D.J 8 C,D.J 6 Q,D.J 5 A,D.J 3 R,B t] [D.J 4 af,I g,I i,D.J 8 K,D.J 6 L,D.J 5 M,D.J 3 N,B s],aN.ro (ag a)] (aU.vals [ai true]):=
 h.ca
theorem api(h:ad (Dx r a x E d e C H A af s t b c q u K L M N F G Q R v f y g i z gM [.n q true,.x G a [B w],.n w true,.b (c+f==0) false])):
 b' 246 [aN.ref [D.J 4 E,I d,I e,D.J 8 C,D.J 6 H,D.J 5 A,D.J 3 af,B r] [D.J 4 E,I d,I e,D.J 8 C,D.J 6 H,D.J 5 (A.set a.toNat [B false,I b,I c,B q,B u]),D.J 3 af,B r],aN.ro (ag a)] (aU.vals [ai true]):=
 h.ca
theorem apj(h:ad (Dx r a x E c e C H A af s t b d q u K L M N F G Q R v f y g i z gM [.n q true,.x G a [B w],.n w false])):
 b' 246 [aN.ref [D.J 4 E,I c,I e,D.J 8 C,D.J 6 H,D.J 5 A,D.J 3 af,B r] [D.J 4 E,I c,I e,D.J 8 C,D.J 6 H,D.J 5 (A.set a.toNat [B false,I b,I d,B q,B u]),D.J 3 af,B r],aN.ro (ag a)] (aU.vals [ai true]):=
 h.ca
theorem apk(h:ad (Dx r a w E c e C G A H s t b d q u af K L M F N Q R v f x g i y z [.n q false])):
 b' 246 [aN.ref [D.J 4 E,I c,I e,D.J 8 C,D.J 6 G,D.J 5 A,D.J 3 H,B r] [D.J 4 E,I c,I e,D.J 8 C,D.J 6 G,D.J 5 (A.set a.toNat [B false,I b,I d,B q,B u]),D.J 3 H,B r],aN.ro (ag a)] (aU.vals [ai true]):=
 h.ca
def aak(A:ae)(a b:Int)(C E F G H:ae)(c d:Int)(af K L M:ae)(q:Bool)(l:List O):List O:=aai A a b C E F G H c d af K L M (.r 55 [.agg (cl A a b C E F G)] [ai q]::l)
theorem apl(h:ad (aak A a b C E F G M d c H af K L q [.n q true])):
 al 223 [.agg (cl A a b C E F G),ag e] [.agg (cl M d c H af K L),ai false]:=
 h.of
def aal(A:ae)(a b:Int)(C E F G H:ae)(c d:Int)(af K L M:ae)(q:Bool)(e:Int)(r:Bool)(l:List O):List O:=aak A a b C E F G H c d af K L M q (.n q false::.r 190 [ag e,ag 0,ag 3] [ai r]::l)
theorem apm(h:ad (aal A a b C E F G M e c H af K L q d r [.n r true])):
 al 223 [.agg (cl A a b C E F G),ag d] [.agg (cl M e c H af K L),ai false]:=
 h.of
def HL(A:ae)(a b:Int)(C E F G H:ae)(c d:Int)(af K L M:ae)(q:Bool)(e:Int)(r:Bool)(N P Q R S bb V X:ae)(s:Bool)(l:List O):List O:=aal A a b C E F G H c d af K L M q e r (.n r false::.p ((0:Int)<=0)::.p (0<(C.length:Int))::.e C 0 (aW N P Q R S bb V X)::.r 210 [.agg (aW N P Q R S bb V X),ag e] [ai s]::l)
theorem apn(h:ad (HL C a b A E F G Y e d H af K L q c r M N Q R S bb V X s [.b s true])):
 al 223 [.agg (cl C a b A E F G),ag c] [.agg (cl Y e d H af K L),ai false]:=
 h.of
def HM(A:ae)(a b:Int)(C E F G H:ae)(c d:Int)(af K L M:ae)(q:Bool)(e:Int)(r:Bool)(N P Q R S bb V X:ae)(s t:Bool)(f g:Int)(u v:Bool)(Y Z dr jk im iP jl H1:ae)(w:Bool)(l:List O):List O:=HL A a b C E F G H c d af K L M q e r N P Q R S bb V X s (.b s false::.x L e [B t,I f,I g,B u,B v]::.a .sub::.x af f (aW Y Z dr jk im iP jl H1)::.r 294 [.agg (aW Y Z dr jk im iP jl H1),ag e] [ai w]::l)
theorem apo(h:ad (HM C b c A G H af ey f d E K F L q a r M N Q R S bb V X s u e g v w Y Z c7 dZ ei e7 e8 e9 t [.n t true])):
 al 223 [.agg (cl C b c A G H af),ag a] [.agg (cl ey f d E K F L),ai false]:=
 h.of
def aaC(A:ae)(a b:Int)(C E F G H:ae)(c d:Int)(af K L M:ae)(q:Bool)(e:Int)(r:Bool)(N P Q R S bb V X:ae)(s t:Bool)(f g:Int)(u v:Bool)(Y Z dr jk im iP jl H1:ae)(w x:Bool)(i j:Int)(y z:Bool)(l:List O):List O:=HM A a b C E F G H c d af K L M q e r N P Q R S bb V X s t f g u v Y Z dr jk im iP jl H1 w (.n w false::.e L e.toNat [B x,I i,I j,B y,B z]::l)
theorem apq(h:ad (aaC Q c d A R S bb ey f e F V N X q b r Y Z c7 dZ ei e7 e8 e9 s w a g x y G H af K L C E M t u i j z gM [.n u true,.a .sub,.e F a.toNat (aW G H af K L C E M),.x E b [B v],.v ((A.length:Int)-1),.e N b.toNat [B gw,I k,I l,B ho,B t0],.a .sub,.e F a.toNat (aW G H af K L C E M),.x C b [B fW],.e F a.toNat (aW G H af K L C E M),.p (a.toNat=a.toNat),.p (a.toNat=a.toNat),.p (a.toNat=a.toNat)])):
 al 223 [.agg (cl Q c d A R S bb),ag b] [.agg (cl ey f e (F.set a.toNat (aW G H af K L (C.set b.toNat [B false]) E M)) V (N.set b.toNat [B true,I ((A.length:Int)-1),I 0,B false,B v]) X),ai true]:=
 h.of
def aaD(A:ae)(a b:Int)(C E F G H:ae)(c d:Int)(af K L M:ae)(q:Bool)(e:Int)(r:Bool)(N P Q R S bb V X:ae)(s t:Bool)(f g:Int)(u v:Bool)(Y Z dr jk im iP jl H1:ae)(w x:Bool)(i j:Int)(y z q1:Bool)(k m:Int)(bF s1:Bool)(l:List O):List O:=aaC A a b C E F G H c d af K L M q e r N P Q R S bb V X s t f g u v Y Z dr jk im iP jl H1 w x i j y z (.n x false::.e L e.toNat [B q1,I k,I m,B bF,B s1]::l)
def HN(A:ae)(a b:Int)(C E F G H:ae)(c d:Int)(af K L M:ae)(q:Bool)(e:Int)(r:Bool)(N P Q R S bb V X:ae)(s t:Bool)(f g:Int)(u v:Bool)(Y Z dr jk im iP jl H1:ae)(w x:Bool)(i j:Int)(y z q1:Bool)(k m:Int)(bF s1 t1:Bool)(n o:Int)(g' v1:Bool)(p:Int)(w1:Bool)(l:List O):List O:=aaD A a b C E F G H c d af K L M q e r N P Q R S bb V X s t f g u v Y Z dr jk im iP jl H1 w x i j y z q1 k m bF s1 (.b (decide (k>0)) true::.e L e.toNat [B t1,I n,I o,B g',B v1]::.a .sub::.e af f.toNat (aW Y Z dr jk im iP jl H1)::.x im e [I p]::.v (o+p)::.r 190 [ag (o+p),ag (-1000000),ag 1000000] [ai w1]::l)
theorem apr(h:ad (HN G b c C R S bb ey j g E V A X q a r Y Z c7 dZ ei e7 e8 e9 s w d k x y H af K L F M N Q t u l m z gM gw i n ho t0 fW o e v0 w0 f v [.n v true])):
 al 223 [.agg (cl G b c C R S bb),ag a] [.agg (cl ey j g E V A X),ai false]:=
 h.of
def Ah(A:ae)(a b:Int)(C E F G H:ae)(c d:Int)(af K L M:ae)(q:Bool)(e:Int)(r:Bool)(N P Q R S bb V X:ae)(s t:Bool)(f g:Int)(u v:Bool)(Y Z dr jk im iP jl H1:ae)(w x:Bool)(i j:Int)(y z q1:Bool)(k m:Int)(bF s1 t1:Bool)(n o:Int)(g' v1:Bool)(p:Int)(w1 hs:Bool)(d' eC:Int)(eF sR:Bool)(c1:Int)(iv:Bool)(d1 e1:Int)(bQ s2 t2:Bool)(f1 g1:Int)(kf v2:Bool)(l:List O):List O:=HN A a b C E F G H c d af K L M q e r N P Q R S bb V X s t f g u v Y Z dr jk im iP jl H1 w x i j y z q1 k m bF s1 t1 n o g' v1 p w1 (.n w1 false::.e L e.toNat [B hs,I d',I eC,B eF,B sR]::.a .sub::.e af f.toNat (aW Y Z dr jk im iP jl H1)::.x im e [I c1]::.v (eC+c1)::.e L e.toNat [B iv,I d1,I e1,B bQ,B s2]::.e (L.set e.toNat [B iv,I d1,I (eC+c1),B bQ,B s2]) e.toNat [B t2,I f1,I g1,B kf,B v2]::l)
theorem aps(h:ad (Ah Q k l N R S bb ey bX p F V A X x a y Y Z c7 dZ ei e7 e8 e9 z my b d0 z0 q1 G H af K C E L M gM gw bu f0 bF s1 t1 a0 i0 g' v1 w1 j0 m hs eF n ho sR cX c iv bQ d q e ea r s s2 m0 kW t0 t2 [.b t0 true,.e (A.set a.toNat [B q,I e,I (c+d),B r,B s]) a.toNat [B t,I f,I g,B kf,B u],.e ((A.set a.toNat [B q,I e,I (c+d),B r,B s]).set a.toNat [B t,I f,I g,B true,B u]) a.toNat [B v2,I nN,I h2,B hE,B fW],.b fW true,.e ((A.set a.toNat [B q,I e,I (c+d),B r,B s]).set a.toNat [B t,I f,I g,B true,B u]) a.toNat [B v,I i,I j,B w,B gS],.a .sub,.e F b.toNat (aW G H af K C E L M),.x E a [B eV],.e F b.toNat (aW G H af K C E L M),.p (b.toNat=b.toNat),.p (b.toNat=b.toNat),.p (b.toNat=b.toNat),.e (((A.set a.toNat [B q,I e,I (c+d),B r,B s]).set a.toNat [B t,I f,I g,B true,B u]).set a.toNat [B v,I i,I j,B w,B true]) a.toNat [B z2,I o,I d',B EK,B cb],.v (o-1),.e (((A.set a.toNat [B q,I e,I (c+d),B r,B s]).set a.toNat [B t,I f,I g,B true,B u]).set a.toNat [B v,I i,I j,B w,B true]) a.toNat [B v0,I eC,I cO,B w0,B ff]])):
 al 223 [.agg (cl Q k l N R S bb),ag a] [.agg [D.J 4 ey,I bX,I p,D.J 8 (F.set b.toNat (aW G H af K C (E.set a.toNat [B false]) L M)),D.J 6 V,D.J 5 ((((A.set a.toNat [B q,I e,I (c+d),B r,B s]).set a.toNat [B t,I f,I g,B true,B u]).set a.toNat [B v,I i,I j,B w,B true]).set a.toNat [B v0,I (o-1),I cO,B w0,B ff]),D.J 3 X],ai true]:=
 h.of
theorem apt(h:ad (Ah Q k l N R S bb ey bX p G V A X y a z Y Z c7 dZ ei e7 e8 e9 gM z0 b d0 q1 bF H af K L C E F M gw ho bu f0 s1 t1 g' a0 i0 v1 w1 hs j0 m eF sR n t0 iv cX c bQ s2 d q e ea r s t2 m0 kW fW kf [.b fW true,.e (A.set a.toNat [B q,I e,I (c+d),B r,B s]) a.toNat [B t,I f,I g,B v2,B u],.e ((A.set a.toNat [B q,I e,I (c+d),B r,B s]).set a.toNat [B t,I f,I g,B true,B u]) a.toNat [B hE,I nN,I h2,B gS,B v0],.b v0 false,.a .sub,.e G b.toNat (aW H af K L C E F M),.x F a [B v],.e ((A.set a.toNat [B q,I e,I (c+d),B r,B s]).set a.toNat [B t,I f,I g,B true,B u]) a.toNat [B w,I i,I j,B x,B eV],.a .sub,.e G b.toNat (aW H af K L C E F M),.x E a [B z2],.e G b.toNat (aW H af K L C E F M),.p (b.toNat=b.toNat),.p (b.toNat=b.toNat),.p (b.toNat=b.toNat),.e (((A.set a.toNat [B q,I e,I (c+d),B r,B s]).set a.toNat [B t,I f,I g,B true,B u]).set a.toNat [B w,I i,I j,B x,B v]) a.toNat [B EK,I o,I d',B cb,B O0],.v (o-1),.e (((A.set a.toNat [B q,I e,I (c+d),B r,B s]).set a.toNat [B t,I f,I g,B true,B u]).set a.toNat [B w,I i,I j,B x,B v]) a.toNat [B w0,I eC,I cO,B ff,B my]])):
 al 223 [.agg (cl Q k l N R S bb),ag a] [.agg [D.J 4 ey,I bX,I p,D.J 8 (G.set b.toNat (aW H af K L C (E.set a.toNat [B false]) F M)),D.J 6 V,D.J 5 ((((A.set a.toNat [B q,I e,I (c+d),B r,B s]).set a.toNat [B t,I f,I g,B true,B u]).set a.toNat [B w,I i,I j,B x,B v]).set a.toNat [B w0,I (o-1),I cO,B ff,B my]),D.J 3 X],ai true]:=
 h.of
theorem apu(h:ad (Ah Q k l N R S bb ey bX p F V A X y a z Y Z c7 dZ ei e7 e8 e9 gM z0 b d0 q1 bF G H af K C E L M gw ho bu f0 s1 t1 g' a0 i0 v1 w1 hs j0 m eF sR n t0 iv cX c bQ s2 d q e ea r s t2 m0 kW fW kf [.b fW false,.a .sub,.e F b.toNat (aW G H af K C E L M),.x E a [B t],.e (A.set a.toNat [B q,I e,I (c+d),B r,B s]) a.toNat [B u,I f,I g,B v2,B v],.e ((A.set a.toNat [B q,I e,I (c+d),B r,B s]).set a.toNat [B u,I f,I g,B t,B v]) a.toNat [B hE,I nN,I h2,B gS,B v0],.b v0 true,.e ((A.set a.toNat [B q,I e,I (c+d),B r,B s]).set a.toNat [B u,I f,I g,B t,B v]) a.toNat [B w,I i,I j,B x,B eV],.a .sub,.e F b.toNat (aW G H af K C E L M),.x E a [B z2],.e F b.toNat (aW G H af K C E L M),.p (b.toNat=b.toNat),.p (b.toNat=b.toNat),.p (b.toNat=b.toNat),.p (b.toNat=b.toNat),.p (b.toNat=b.toNat),.e (((A.set a.toNat [B q,I e,I (c+d),B r,B s]).set a.toNat [B u,I f,I g,B t,B v]).set a.toNat [B w,I i,I j,B x,B true]) a.toNat [B EK,I o,I d',B cb,B O0],.v (o-1),.e (((A.set a.toNat [B q,I e,I (c+d),B r,B s]).set a.toNat [B u,I f,I g,B t,B v]).set a.toNat [B w,I i,I j,B x,B true]) a.toNat [B w0,I eC,I cO,B ff,B my]])):
 al 223 [.agg (cl Q k l N R S bb),ag a] [.agg [D.J 4 ey,I bX,I p,D.J 8 (F.set b.toNat (aW G H af K C (E.set a.toNat [B false]) L M)),D.J 6 V,D.J 5 ((((A.set a.toNat [B q,I e,I (c+d),B r,B s]).set a.toNat [B u,I f,I g,B t,B v]).set a.toNat [B w,I i,I j,B x,B true]).set a.toNat [B w0,I (o-1),I cO,B ff,B my]),D.J 3 X],ai true]:=
 h.of
theorem apv(h:ad (Ah Q k l N R S bb ey bX p G V A X gM a gw Y Z c7 dZ ei e7 e8 e9 ho q1 b d0 bF s1 H af K L C E F M t0 fW bu f0 t1 g' v1 a0 i0 w1 hs eF j0 m sR iv n v0 bQ cX c s2 t2 d q e ea r s kf m0 kW w0 v2 [.b w0 false,.a .sub,.e G b.toNat (aW H af K L C E F M),.x E a [B t],.e (A.set a.toNat [B q,I e,I (c+d),B r,B s]) a.toNat [B u,I f,I g,B hE,B v],.e ((A.set a.toNat [B q,I e,I (c+d),B r,B s]).set a.toNat [B u,I f,I g,B t,B v]) a.toNat [B gS,I nN,I h2,B eV,B ff],.b ff false,.a .sub,.e G b.toNat (aW H af K L C E F M),.x F a [B w],.e ((A.set a.toNat [B q,I e,I (c+d),B r,B s]).set a.toNat [B u,I f,I g,B t,B v]) a.toNat [B x,I i,I j,B y,B z2],.a .sub,.e G b.toNat (aW H af K L C E F M),.x E a [B EK],.e G b.toNat (aW H af K L C E F M),.p (b.toNat=b.toNat),.p (b.toNat=b.toNat),.p (b.toNat=b.toNat),.p (b.toNat=b.toNat),.p (b.toNat=b.toNat),.e (((A.set a.toNat [B q,I e,I (c+d),B r,B s]).set a.toNat [B u,I f,I g,B t,B v]).set a.toNat [B x,I i,I j,B y,B w]) a.toNat [B cb,I o,I d',B O0,B t3],.v (o-1),.e (((A.set a.toNat [B q,I e,I (c+d),B r,B s]).set a.toNat [B u,I f,I g,B t,B v]).set a.toNat [B x,I i,I j,B y,B w]) a.toNat [B my,I eC,I cO,B z0,B z]])):
 al 223 [.agg (cl Q k l N R S bb),ag a] [.agg [D.J 4 ey,I bX,I p,D.J 8 (G.set b.toNat (aW H af K L C (E.set a.toNat [B false]) F M)),D.J 6 V,D.J 5 ((((A.set a.toNat [B q,I e,I (c+d),B r,B s]).set a.toNat [B u,I f,I g,B t,B v]).set a.toNat [B x,I i,I j,B y,B w]).set a.toNat [B my,I (o-1),I cO,B z0,B z]),D.J 3 X],ai true]:=
 h.of
def zK(a b:Int)(H:ae)(f g:Int)(af K L M:ae)(i c:Int)(A:ae)(d e:Int)(C E F G:ae):aJ:=bj 229 [(1,a6 a),(2,aR 2),(4,aR 4),(6,aR 6),(9,.aI (.one (.bg true))),(10,a6 b)] [(6,[aB 130000 4 H,au f,au g,aB 130003 8 af,aB 130004 6 K,aB 130005 5 L,aB 130006 3 M]),(4,[.v (aQ),au i,au c,.v (aQ),.v (aQ),.v (aQ),.v (aQ)]),(2,[.J .free 4 A,au d,au e,.J .free 8 C,.J .free 6 E,.J .free 5 F,.J .free 3 G])]
theorem apw(h:ad [.f C a true,.g A [[I a,I b,B true]] 24,.h [[I a,I b,B true]],.u a]):
 a7 (ar f223 0) (zK b a E c d F G H A e f af g i C K L M) .normal (zK b (a+1) E c d F G H (A++[[I a,I b,B true]]) e f af g i C K L M):=
 h.aY [10,2,6,1,9,4] [6,4,2]
def zL(A:ae)(a b:Int)(C E F G:ae)(c d:Int):aJ:=bj 229 [(4,aR 4),(6,aR 6)] [(6,[aB 130000 4 A,au a,au b,aB 130003 8 C,aB 130004 6 E,aB 130005 5 F,aB 130006 3 G]),(4,[.v (aQ),au c,au d,.v (aQ),.v (aQ),.v (aQ),.v (aQ)])]
theorem apx(h:ad [.f H a false]):
 a7 (ar f223 0) (zK f a A b c C E F G d e af g i H K L M) (.exit 1) (zL A b c C E F G d e):=
 h.aY [6,4] [6,4]
def Qe(A:ae)(a b:Int)(C E F G H:ae)(c d:Int)(af K L M:ae)(q:Bool)(e:Int)(r:Bool)(N P Q R S bb V X:ae)(s t:Bool)(f g:Int)(u v:Bool)(Y Z dr jk im iP jl H1:ae)(w x:Bool)(i j:Int)(y z q1:Bool)(k m:Int)(bF s1 t1:Bool)(n o:Int)(g' v1 w1:Bool)(p d':Int)(hs eF:Bool)(l:List O):List O:=aaD A a b C E F G H c d af K L M q e r N P Q R S bb V X s t f g u v Y Z dr jk im iP jl H1 w x i j y z q1 k m bF s1 (.b (decide (k>0)) false::.e L e.toNat [B t1,I n,I o,B g',B v1]::.e (L.set e.toNat [B false,I n,I o,B g',B v1]) e.toNat [B w1,I p,I d',B hs,B eF]::l)
def Qf(A:ae)(a b:Int)(C E F G H:ae)(c d:Int)(af K L M:ae)(q:Bool)(e:Int)(r:Bool)(N P Q R S bb V X:ae)(s t:Bool)(f g:Int)(u v:Bool)(Y Z dr jk im iP jl H1:ae)(w x:Bool)(i j:Int)(y z q1:Bool)(k m:Int)(bF s1 t1:Bool)(n o:Int)(g' v1 w1:Bool)(p d':Int)(hs eF sR iv:Bool)(eC c1:Int)(bQ s2:Bool)(d1:Int)(l:List O):List O:=Qe A a b C E F G H c d af K L M q e r N P Q R S bb V X s t f g u v Y Z dr jk im iP jl H1 w x i j y z q1 k m bF s1 t1 n o g' v1 w1 p d' hs eF (.n hs true::.a .sub::.e af f.toNat (aW Y Z dr jk im iP jl H1)::.x iP e [B sR]::.n sR true::.e (L.set e.toNat [B false,I n,I o,B g',B v1]) e.toNat [B iv,I eC,I c1,B bQ,B s2]::.a .sub::.e af f.toNat (aW Y Z dr jk im iP jl H1)::.x im e [I d1]::.v (c1+d1)::l)
theorem apy(h:ad (Qf Q e f N R S bb kl n j M V F X s a t Y Z c7 dZ ei e7 e8 e9 u gM b o gw ho G H af K C E L A v w p a0 t0 fW v0 k bX w0 ff my c d q r z0 cO d0 x q1 y bF bu g s1 t1 i [.b (g+i==0) true,.e (F.set a.toNat [B false,I c,I d,B q,B r]) a.toNat [B g',I f0,I i0,B v1,B z],.b z true,.a .sub,.e M b.toNat (aW G H af K C E L A),.g A [[I a,B true]] 16,.e M b.toNat (aW G H af K C E L A),.p ((aW G H af K C E L A)[7]?=some (D.J 2 A)),.p (b.toNat=b.toNat),.p (b.toNat=b.toNat),.h [[I a,B true]],.e M b.toNat (aW G H af K C E L A),.p (b.toNat=b.toNat),.l [] [10,2,6,1,9,4] [6,4,2] (ar f223 0) (zK a 1 kl n j (M.set b.toNat (aW G H af K C E L (A++[[I a,B true]]))) V (F.set a.toNat [B false,I c,I d,B q,B r]) X 0 0 Q e f N R S bb) (.exit 1) (zL ey l m jW jD kj kk j0 cX)])):
 al 223 [.agg (cl Q e f N R S bb),ag a] [.agg (cl ey l m jW jD kj kk),ai true]:=
 h.of
def zM(a:Int)(q:Bool)(f:Int)(H:ae)(g i:Int)(af K L M:ae)(b c:Int)(A:ae)(d e:Int)(C E F G:ae):aJ:=bj 229 [(1,a6 a),(2,aR 2),(4,aR 4),(6,aR 6),(9,.aI (.one (.bg q))),(10,a6 f)] [(6,[aB 130000 4 H,au g,au i,aB 130003 8 af,aB 130004 6 K,aB 130005 5 L,aB 130006 3 M]),(4,[.v (aQ),au b,au c,.v (aQ),.v (aQ),.v (aQ),.v (aQ)]),(2,[.J .free 4 A,au d,au e,.J .free 8 C,.J .free 6 E,.J .free 5 F,.J .free 3 G])]
theorem apz(h:ad [.f C a true,.g A [[I a,I b,B q]] 24,.h [[I a,I b,B q]],.u a]):
 a7 (ar f223 0) (zM b q a E c d F G H A e f af g i C K L M) .normal (zM b q (a+1) E c d F G H (A++[[I a,I b,B q]]) e f af g i C K L M):=
 h.aY [10,2,6,1,9,4] [6,4,2]
theorem apA(h:ad [.f H a false]):
 a7 (ar f223 0) (zM f q a A b c C E F G d e af g i H K L M) (.exit 1) (zL A b c C E F G d e):=
 h.aY [6,4] [6,4]
theorem apB(h:ad (Qf Q e f N R S bb kl n j L V M X t a u Y Z c7 dZ ei e7 e8 e9 v gw b o ho t0 G H af K C E F A w x p a0 fW v0 w0 k bX ff my z0 c d q r q1 cO d0 y bF z s1 bu g t1 g' i [.b (g+i==0) true,.e (M.set a.toNat [B false,I c,I d,B q,B r]) a.toNat [B v1,I f0,I i0,B w1,B gM],.b gM false,.a .sub,.e L b.toNat (aW G H af K C E F A),.x F a [B s],.a .sub,.e L b.toNat (aW G H af K C E F A),.g A [[I a,B s]] 16,.e L b.toNat (aW G H af K C E F A),.p ((aW G H af K C E F A)[7]?=some (D.J 2 A)),.p (b.toNat=b.toNat),.p (b.toNat=b.toNat),.h [[I a,B s]],.e L b.toNat (aW G H af K C E F A),.p (b.toNat=b.toNat),.l [] [10,2,6,1,9,4] [6,4,2] (ar f223 0) (zM a s 1 kl n j (L.set b.toNat (aW G H af K C E F (A++[[I a,B s]]))) V (M.set a.toNat [B false,I c,I d,B q,B r]) X 0 0 Q e f N R S bb) (.exit 1) (zL ey l m jW jD kj kk j0 cX)])):
 al 223 [.agg (cl Q e f N R S bb),ag a] [.agg (cl ey l m jW jD kj kk),ai true]:=
 h.of
theorem apC(h:ad (Qf Q e f E R S bb ey l j C V A X s a t Y Z c7 dZ ei e7 e8 e9 u z b m gM gw H af K L F G M N v w n o ho t0 fW k p v0 w0 ff c d q r my a0 bX x z0 y q1 cO g bF s1 i [.b (g+i==0) false])):
 al 223 [.agg (cl Q e f E R S bb),ag a] [.agg (cl ey l j C V (A.set a.toNat [B false,I c,I d,B q,B r]) X),ai true]:=
 h.of
theorem apD(h:ad (Qe G b c C R S bb ey j g E V A X s a t Y Z c7 dZ ei e7 e8 e9 u z d k gM gw H af K L M F N Q v w l m ho t0 fW i n v0 w0 ff e f q r my o p x z0 [.n x true,.a .sub,.e E d.toNat (aW H af K L M F N Q),.x F a [B y],.n y false])):
 al 223 [.agg (cl G b c C R S bb),ag a] [.agg (cl ey j g E V (A.set a.toNat [B false,I e,I f,B q,B r]) X),ai true]:=
 h.of
theorem ao3(h:ad (Qe E b c C G H af ey j f F K A L s a t M N Q R S bb V X u y g k z gM Y Z c7 dZ ei e7 e8 e9 v w l m gw ho t0 i n fW v0 w0 d e q r ff o p x my [.n x false])):
 al 223 [.agg (cl E b c C G H af),ag a] [.agg (cl ey j f F K (A.set a.toNat [B false,I d,I e,B q,B r]) L),ai true]:=
 h.of
theorem ao4(h:ad [.b (decide ((A.length:Int)>0)) true,.p ((0:Int)<=0),.p (0<(A.length:Int)),.e A 0 (aW K L C E F G H af),.r 213 [.agg (aW K L C E F G H af),ag a] [ai q]]):
 al 315 [.agg (cl M b c A N Q R),ag a] [ai q]:=
 h.of
def xS(A C E F G H af K:ae)(a b:Int):aJ:=bj 22 [(1,a6 a),(2,aR 2),(5,a6 b)] [(2,[.J .free 5 A,.J .free 5 C,.J .free 5 E,.J .free 4 F,.J .free 1 G,.J .free 1 H,.J .free 1 af,.J .free 2 K])]
def NB(q:Bool):aJ:=bj 22 [(4,.aI (.one (.bg q)))] []
theorem ao5(h:ad [.i A c (aS d a e f g),.b (decide (a<=b)) true]):
 a7 (ar f342 0) (xS C E A F G H af K b c) .ret (NB true):=
 h.aY [4] []
theorem ao6(h:ad [.i A a (aS d c e f g),.b (decide (c<=b)) false,.u a]):
 a7 (ar f342 0) (xS C E A F G H af K b a) .normal (xS C E A F G H af K b (a+1)):=
 h.aY [5,2,1] [2]
def W2:aJ:=bj 22 [] []
theorem ao7(h:ad [.f A a false]):
 a7 (ar f342 0) (xS C E A F G H af K b a) (.exit 0) W2:=
 h.aY [] []
theorem ao8(h:ad [.l [] [5,2,1] [2] (ar f342 0) (xS A C E F G H af K a 0) .ret (NB q)]):
 al 342 [.agg (aW A C E F G H af K),ag a] [ai q]:=
 h.of
theorem ao9(h:ad [.l [] [5,2,1] [2] (ar f342 0) (xS A C E F G H af K a 0) (.exit 0) W2]):
 al 342 [.agg (aW A C E F G H af K),ag a] [ai false]:=
 h.of
theorem apa(h:ad [.r 342 [.agg (aW A C E F G H af K),ag a] [ai q],.n q true,.r 343 [.agg (aW A C E F G H af K),ag a] [ag b]]):
 al 316 [.agg (aW A C E F G H af K),ag a] [ai (b==0)]:=
 h.of
theorem apb(h:ad [.r 342 [.agg (aW A C E F G H af K),ag a] [ai q],.n q false]):
 al 316 [.agg (aW A C E F G H af K),ag a] [ai false]:=
 h.of
theorem apc(h:ad [.r 116 [aC 5 E,ag a] [aC 5 C],.r 116 [aC 5 F,ag a] [aC 5 A],.v ((C.length:Int)+(A.length:Int))]):
 al 343 [.agg (aW E F G H af K L M),ag a] [ag ((C.length:Int)+(A.length:Int))]:=
 h.of
theorem aqE(h:ad [.r 291 [aC 5 A,.one (.cl 353 [D.ptr [I a]])] [ai q]]):
 al 331 [.agg (aW C E A F G H af K),ag a] [ai q]:=
 h.of
theorem aqF(h:ad []):
 al 353 [.agg (aS c a d e f),.one (.ptr [I b])] [ai (decide (a<=b))]:=
 h.of
theorem aqG(h:ad [.r 331 [.agg (aW A C E F G H af K),ag a] [ai q],.n q true,.r 332 [.agg (aW A C E F G H af K),ag a] [ag b]]):
 al 294 [.agg (aW A C E F G H af K),ag a] [ai (b==0)]:=
 h.of
theorem aqH(h:ad [.r 331 [.agg (aW A C E F G H af K),ag a] [ai q],.n q false]):
 al 294 [.agg (aW A C E F G H af K),ag a] [ai false]:=
 h.of
theorem aqI(h:ad [.r 182 [aC 5 E,ag a] [aC 5 C],.r 182 [aC 5 F,ag a] [aC 5 A],.v ((C.length:Int)+(A.length:Int))]):
 al 332 [.agg (aW E F G H af K L M),ag a] [ag ((C.length:Int)+(A.length:Int))]:=
 h.of
