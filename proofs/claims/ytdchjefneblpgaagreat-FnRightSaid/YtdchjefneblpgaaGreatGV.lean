import Derived.Test.YtdchjefneblpgaaGreatGE
set_option linter.unusedVariables false
set_option linter.unusedSimpArgs false
namespace Go.Proofs.YtdchjefneblpgaaGreat
open Go.Sx Go.RowKit Go.Proofs.Tryz
variable {a b c d e f g i j k l m n o p a0 eB ch eO de d0 cd f0 i0 j0 eb fR m0 xA zO jm : Int} {A C E F G H au K L M N Q R S bn V X Y Z dK eH e9 fa fs ft eS ku lh l6 mv mw : ah} {q r s t u v w x y z gJ q1 eP Gw hh b4 cQ dz hj s1 s2 sc t0 t1 t2 t3 fC gV kq v0 v1 v2 w0 w1 hM cv fM gO mS gD hN z0 og z2 : Bool}
theorem aoz(h:af [.g ([]:ah) A 8,.h A]):
 av 276 [.agg (bj a b c A)] [.agg (bj a b c ([]++A))]:=
 h.of
def D0(A:ah)(a:Int)(C:ah)(b c d e:Int):aD:=ba 27 [(2,a1 2),(3,a1 3),(12,c6 4 A),(13,aY (A.length:Int)),(14,aY a)] [(3,[aK 23 4 C,az b,az c]),(2,[.v (aS),az d,az e])]
theorem aoA(h:af [.i A a (bj l e f F),.r 276 [.agg (bj l e f F)] [.agg (bj b c d C)],.a .wr,.g E [(bj b c d C)] 48,.u a]):
 aT (ap f181 0) (D0 A a E g i j k) .normal (D0 A (a+1) (E++[(bj b c d C)]) g i j k):=
 h.aQ [14,13,12,3,2] [3,2]
def Xa(A:ah)(a b c d:Int):aD:=ba 27 [(2,a1 2),(3,a1 3)] [(3,[aK 23 4 A,az a,az b]),(2,[.v (aS),az c,az d])]
theorem aoB(h:af [.f A a false]):
 aT (ap f181 0) (D0 A a C b c d e) (.exit 0) (Xa C b c d e):=
 h.aQ [3,2] [3,2]
theorem aoC(h:af [.l [(4000000,23,4)] [14,13,12,3,2] [3,2] (ap f181 0) (D0 A 0 [] a b 0 0) (.exit 0) (Xa C c d e f)]):
 av 181 [.agg (bg A a b)] [.agg (bg C c d)]:=
 h.of
theorem aoD(h:af [.r 233 [aE 5 A] [aE 5 C]]):
 av 256 [.agg (b' a A b c d e)] [.agg (b' a C b c d e)]:=
 h.of
theorem aoE(h:af [.r 233 [aE 5 G] [aE 5 N],.r 233 [aE 5 H] [aE 5 Q],.r 233 [aE 5 L] [aE 5 au],.r 297 [aE 4 M] [aE 4 K],.g ([]:ah) A 8,.h A,.g ([]:ah) C 1,.h C,.g ([]:ah) E 1,.h E,.g ([]:ah) F 16,.h F]):
 av 255 [.agg (bb G H L M A C E F)] [.agg (bb N Q au K ([]++A) ([]++C) ([]++E) ([]++F))]:=
 h.of
def D1(A:ah)(a:Int)(au:ah)(d e:Int)(K L M:ah)(f g:Int)(C:ah)(b c:Int)(E F G H:ah):aD:=ba 49 [(1,a1 1),(2,a1 2),(3,a1 3),(19,c6 8 A),(20,aY (A.length:Int)),(21,aY a)] [(3,[aK 110000 4 au,az d,az e,aK 30 8 K,.v (aS),aK 13 5 L,aK 16 3 M]),(2,[.v (aS),az f,az g,.v (aS),.v (aS),.v (aS),.v (aS)]),(1,[.J .free 4 C,az b,az c,.J .free 8 E,.J .free 6 F,.J .free 5 G,.J .free 3 H])]
theorem aoF(h:af [.i C a (bb Z dK eH e9 fa fs ft eS),.r 255 [.agg (bb Z dK eH e9 fa fs ft eS)] [.agg (bb E F G H au K L M)],.a .wr,.g A [(bb E F G H au K L M)] 192,.u a]):
 aT (ap f144 0) (D1 C a N b c A Q R d e S f g bn V X Y) .normal (D1 C (a+1) N b c (A++[(bb E F G H au K L M)]) Q R d e S f g bn V X Y):=
 h.aQ [21,20,19,3,1,2] [3,2,1]
def Xb(A:ah)(a c:Int)(H au K:ah)(d e:Int)(L:ah)(f b:Int)(C E F G:ah):aD:=ba 49 [(1,a1 1),(2,a1 2),(3,a1 3)] [(3,[aK 110000 4 A,az a,az c,aK 30 8 H,.v (aS),aK 13 5 au,aK 16 3 K]),(2,[.v (aS),az d,az e,.v (aS),.v (aS),.v (aS),.v (aS)]),(1,[.J .free 4 L,az f,az b,.J .free 8 C,.J .free 6 E,.J .free 5 F,.J .free 3 G])]
theorem aoG(h:af [.f M a false]):
 aT (ap f144 0) (D1 M a A b c C E F d e G f g H au K L) (.exit 0) (Xb A b c C E F d e G f g H au K L):=
 h.aQ [1,3,2] [3,2,1]
def D2(A:ah)(a:Int)(C:ah)(c d:Int)(E F G H:ah)(e b:Int):aD:=ba 49 [(2,a1 2),(3,a1 3),(34,c6 6 A),(35,aY (A.length:Int)),(36,aY a)] [(3,[aK 110000 4 C,az c,az d,aK 30 8 E,aK 45 6 F,aK 13 5 G,aK 16 3 H]),(2,[.v (aS),az e,az b,.v (aS),.v (aS),.v (aS),.v (aS)])]
theorem aoH(h:af [.i A a (b' l K m n o p),.r 256 [.agg (b' l K m n o p)] [.agg (b' b E c d e f)],.a .wr,.g C [(b' b E c d e f)] 64,.u a]):
 aT (ap f144 1) (D2 A a F g i G C H au j k) .normal (D2 A (a+1) F g i G (C++[(b' b E c d e f)]) H au j k):=
 h.aQ [36,35,34,3,2] [3,2]
def Xc(A:ah)(a b:Int)(C E F G:ah)(c d:Int):aD:=ba 49 [(2,a1 2),(3,a1 3)] [(3,[aK 110000 4 A,az a,az b,aK 30 8 C,aK 45 6 E,aK 13 5 F,aK 16 3 G]),(2,[.v (aS),az c,az d,.v (aS),.v (aS),.v (aS),.v (aS)])]
theorem aoI(h:af [.f A a false]):
 aT (ap f144 1) (D2 A a C b c E F G H d e) (.exit 2) (Xc C b c E F G H d e):=
 h.aQ [3,2] [3,2]
theorem aoJ(h:af [.r 181 [.agg (bg E a b)] [.agg (bg V j k)],.g ([]:ah) A 32,.h A,.g ([]:ah) C 24,.h C,.l [(4000003,30,8)] [21,20,19,3,1,2] [3,2,1] (ap f144 0) (D1 F 0 V j k [] ([]++A) ([]++C) 0 0 E a b F bn A C) (.exit 0) (Xb G c d H au K e f X l m Y L Z dK),.l [(4000004,45,6)] [36,35,34,3,2] [3,2] (ap f144 1) (D2 L 0 G c d H [] au K e f) (.exit 2) (Xc M g i N Q R S n o)]):
 av 144 [.agg (cl E a b F bn A C)] [.agg (cl M g i N Q R S)]:=
 h.of
theorem aoK(h:af [.g ([]:ah) A 40,.h A]):
 av 279 [.agg (b' a A b c d e)] [.agg (b' a ([]++A) b c d e)]:=
 h.of
def D3(a:Int)(A:ah)(b c d e:Int)(C:ah)(f g:Int):aD:=ba 33 [(1,a1 1),(2,a1 2),(3,a1 3),(4,aY a)] [(3,[aK 7 4 A,az b,az c]),(2,[.v (aS),az d,az e]),(1,[.J .free 4 C,az f,az g])]
theorem aoL(h:af [.i E a (bj b c d A),.a .wr,.g ([]:ah) A 8,.h A,.g C [(bj b c d ([]++A))] 48,.u a]):
 aT (ap f123 0) (D3 a C g i j k E e f) .normal (D3 (a+1) (C++[(bj b c d ([]++A))]) g i j k E e f):=
 h.aQ [4,1,3,2] [3,2,1]
def Xd(A:ah)(a b c d:Int):aD:=ba 33 [(2,a1 2),(3,a1 3)] [(3,[aK 7 4 A,az a,az b]),(2,[.v (aS),az c,az d])]
theorem aoc(h:af [.f C a false]):
 aT (ap f123 0) (D3 a A b c d e C f g) (.exit 0) (Xd A b c d e):=
 h.aQ [3,2] [3,2]
theorem aod(h:af [.l [] [4,1,3,2] [3,2,1] (ap f123 0) (D3 0 [] a b 0 0 A a b) (.exit 0) (Xd C c d e f)]):
 av 123 [.agg (bg A a b)] [.agg (bg C c d)]:=
 h.of
theorem aoe(h:af [.g ([]:ah) A 40,.h A,.g ([]:ah) C 40,.h C,.g ([]:ah) E 40,.h E,.g ([]:ah) F 32,.h F,.g ([]:ah) G 8,.h G,.g ([]:ah) H 1,.h H,.g ([]:ah) au 1,.h au,.g ([]:ah) K 16,.h K]):
 av 174 [.agg (bb A C E F G H au K)] [.agg (bb ([]++A) ([]++C) ([]++E) ([]++F) ([]++G) ([]++H) ([]++au) ([]++K))]:=
 h.of
def D4(a:Int)(A:ah)(d e:Int)(H au K:ah)(f g:Int)(L:ah)(b c:Int)(C E F G:ah):aD:=ba 55 [(1,a1 1),(2,a1 2),(3,a1 3),(4,aY a)] [(3,[aK 90000 4 A,az d,az e,aK 34 8 H,.v (aS),aK 9 5 au,aK 13 3 K]),(2,[.v (aS),az f,az g,.v (aS),.v (aS),.v (aS),.v (aS)]),(1,[.J .free 4 L,az b,az c,.J .free 8 C,.J .free 6 E,.J .free 5 F,.J .free 3 G])]
theorem aof(h:af [.i C a (bb Y Z dK eH e9 fa fs ft),.r 174 [.agg (bb Y Z dK eH e9 fa fs ft)] [.agg (bb E F G H au K L M)],.a .wr,.g A [(bb E F G H au K L M)] 192,.u a]):
 aT (ap f186 0) (D4 a N b c A Q R d e S f g C bn V X) .normal (D4 (a+1) N b c (A++[(bb E F G H au K L M)]) Q R d e S f g C bn V X):=
 h.aQ [4,1,3,2] [3,2,1]
def Xe(A:ah)(a c:Int)(H au K:ah)(d e:Int)(L:ah)(f b:Int)(C E F G:ah):aD:=ba 55 [(1,a1 1),(2,a1 2),(3,a1 3)] [(3,[aK 90000 4 A,az a,az c,aK 34 8 H,.v (aS),aK 9 5 au,aK 13 3 K]),(2,[.v (aS),az d,az e,.v (aS),.v (aS),.v (aS),.v (aS)]),(1,[.J .free 4 L,az f,az b,.J .free 8 C,.J .free 6 E,.J .free 5 F,.J .free 3 G])]
theorem aog(h:af [.f A a false]):
 aT (ap f186 0) (D4 a C b c E F G d e H f g A au K L) (.exit 0) (Xe C b c E F G d e H f g A au K L):=
 h.aQ [1,3,2] [3,2,1]
def D5(a:Int)(A:ah)(d e:Int)(au K L M:ah)(f g:Int)(C:ah)(b c:Int)(E F G H:ah):aD:=ba 55 [(1,a1 1),(2,a1 2),(3,a1 3),(5,aY a)] [(3,[aK 90000 4 A,az d,az e,aK 34 8 au,aK 52 6 K,aK 9 5 L,aK 13 3 M]),(2,[.v (aS),az f,az g,.v (aS),.v (aS),.v (aS),.v (aS)]),(1,[.J .free 4 C,az b,az c,.J .free 8 E,.J .free 6 F,.J .free 5 G,.J .free 3 H])]
theorem aoh(h:af [.i C a (b' n Q o p a0 ch),.r 279 [.agg (b' n Q o p a0 ch)] [.agg (b' b E c d e f)],.a .wr,.g A [(b' b E c d e f)] 64,.u a]):
 aT (ap f186 1) (D5 a F g i G A H au j k K l m L C M N) .normal (D5 (a+1) F g i G (A++[(b' b E c d e f)]) H au j k K l m L C M N):=
 h.aQ [5,1,3,2] [3,2,1]
def Xf(A:ah)(a b:Int)(C E F G:ah)(c d:Int):aD:=ba 55 [(2,a1 2),(3,a1 3)] [(3,[aK 90000 4 A,az a,az b,aK 34 8 C,aK 52 6 E,aK 9 5 F,aK 13 3 G]),(2,[.v (aS),az c,az d,.v (aS),.v (aS),.v (aS),.v (aS)])]
theorem aoi(h:af [.f H a false]):
 aT (ap f186 1) (D5 a A b c C E F G d e au f g K H L M) (.exit 2) (Xf A b c C E F G d e):=
 h.aQ [3,2] [3,2]
theorem aoj(h:af [.r 123 [.agg (bg E a b)] [.agg (bg dK l m)],.g ([]:ah) A 32,.h A,.g ([]:ah) C 24,.h C,.l [(4000003,34,8)] [4,1,3,2] [3,2,1] (ap f186 0) (D4 0 dK l m [] ([]++A) ([]++C) 0 0 E a b V Z A C) (.exit 0) (Xe F c d G H au e f K g i L M N Q),.l [(4000004,52,6)] [5,1,3,2] [3,2,1] (ap f186 1) (D5 0 F c d G [] H au e f K g i L M N Q) (.exit 2) (Xf R j k S bn X Y n o)]):
 av 186 [.agg (cl E a b V Z A C)] [.agg (cl R j k S bn X Y)]:=
 h.of
theorem aok(h:af [.r 186 [.agg (cl A a b C E F G)] [.agg (cl M c d H au K L)],.r 56 [.agg (cl A a b C E F G)] [ak q]]):
 cW 127 [a7.ro (.agg (cl A a b C E F G))] (bi.new [D.J 4 M,I c,I d,D.J 8 H,D.J 6 au,D.J 5 K,D.J 3 L,B q]):=
 h.cX
def r4(a b:Int)(A:ah)(c d:Int)(C E F G:ah)(q:Bool):aD:=ba 93 [(0,a1 1000000000),(1,aY a),(5,aY b)] [(1000000000,[aK 900000000 4 A,az c,az d,aK 900000003 8 C,aK 900000004 6 E,aK 900000005 5 F,aK 900000006 3 G,.bR q])]
theorem aol(h:af [.f A a true,.b q true,.x A a [I e,I f,B r],.b (e != b) true,.u a]):
 aT (ap f247 0) (r4 b a C c d E F G A q) .normal (r4 b (a+1) C c d E F G A q):=
 h.aQ [5,0,1] [1000000000]
def Is(q:Bool)(A:ah)(a b:Int)(C E F G:ah)(r:Bool):aD:=ba 93 [(0,a1 1000000000),(4,.aR (.one (.bR q)))] [(1000000000,[aK 900000000 4 A,az a,az b,aK 900000003 8 C,aK 900000004 6 E,aK 900000005 5 F,aK 36 3 G,.bR r])]
def abJ(A:ah)(a:Int)(q:Bool)(b c:Int)(r:Bool)(d:Int)(C E F G H au K L M:ah)(s:Bool)(l:List O):List O:=.f A a true::.b q true::.x A a [I b,I c,B r]::.b (b != d) false::.a .sub::.p ((0:Int)<=none.getD 0)::.p (none.getD 0<=(some a).getD (A.length:Int))::.p ((some a).getD (A.length:Int)<=(A.length:Int))::.p ((([]:ah).length+(List.take (((some a).getD (A.length:Int)).toNat-0) (List.drop 0 A)).length)*24<=140737488355328)::.p (([]:ah).length+(List.take (((some a).getD (A.length:Int)).toNat-0) (List.drop 0 A)).length<=9223372036854775807)::.p (Flat (List.take (((some a).getD (A.length:Int)).toNat-0) (List.drop 0 A)))::.u a::.p (0<=(some (a+1)).getD 0)::.p ((some (a+1)).getD 0<=none.getD (A.length:Int))::.p (none.getD (A.length:Int)<=(A.length:Int))::.p ((([]++List.take (((some a).getD (A.length:Int)).toNat-0) (List.drop 0 A)).length+(List.take (A.length-((some (a+1)).getD 0).toNat) (List.drop ((some (a+1)).getD 0).toNat A)).length)*24<=140737488355328)::.p (([]++List.take (((some a).getD (A.length:Int)).toNat-0) (List.drop 0 A)).length+(List.take (A.length-((some (a+1)).getD 0).toNat) (List.drop ((some (a+1)).getD 0).toNat A)).length<=9223372036854775807)::.p (Flat (List.take (A.length-((some (a+1)).getD 0).toNat) (List.drop ((some (a+1)).getD 0).toNat A)))::.x C d (bb E F G H au K L M)::.r 213 [.agg (bb E F G H au K L M),ag c] [ak s]::l
theorem apN(h:af (abJ A a r f c q b C F G H au K L M E s [.n s true,.a .sub,.x C b (bb F G H au K L M E),.g E [[I c,B q]] 16,.e C b.toNat (bb F G H au K L M E),.p ((bb F G H au K L M E)[7]?=some (D.J 2 E)),.h [[I c,B q]],.p (C=C),.p (C=C),.p (b.toNat=b.toNat),.p (E=E),.p (C=C),.p (C=C),.p (C=C),.p (C=C),.p (C=C),.p (b.toNat=b.toNat),.p (E=E),.x C b (bb F G H au K L M E),.p (b.toNat=b.toNat)])):
 aT (ap f247 0) (r4 b a N d e C Q R A r) .ret (Is true N d e (C.set b.toNat (bb F G H au K L M (E++[[I c,B q]]))) Q R ([]++List.take (((some a).getD (A.length:Int)).toNat-0) (List.drop 0 A)++List.take (A.length-((some (a+1)).getD 0).toNat) (List.drop ((some (a+1)).getD 0).toNat A)) r):=
 h.aQ [4,0] [1000000000]
theorem apO(h:af (abJ A a q e f s b C H au K L M N Q R r [.n r false])):
 aT (ap f247 0) (r4 b a E c d C F G A q) .ret (Is true E c d C F G ([]++List.take (((some a).getD (A.length:Int)).toNat-0) (List.drop 0 A)++List.take (A.length-((some (a+1)).getD 0).toNat) (List.drop ((some (a+1)).getD 0).toNat A)) q):=
 h.aQ [4,0] [1000000000]
def Pu(A:ah)(a b:Int)(C E F G:ah)(q:Bool):aD:=ba 93 [(0,a1 1000000000)] [(1000000000,[aK 900000000 4 A,az a,az b,aK 900000003 8 C,aK 900000004 6 E,aK 900000005 5 F,aK 900000006 3 G,.bR q])]
theorem apP(h:af [.f A c true,.b q false]):
 aT (ap f247 0) (r4 d c C a b E F G A q) (.exit 0) (Pu C a b E F G A q):=
 h.aQ [0] [1000000000]
theorem Xg(h:af [.f A c false]):
 aT (ap f247 0) (r4 d c C a b E F G A q) (.exit 0) (Pu C a b E F G A q):=
 h.aQ [0] [1000000000]
theorem apQ(h:af [.l [] [5,0,1] [1000000000] (ap f247 0) (r4 e 0 A a d au K L M r) .ret (Is s C b c E F G H q)]):
 cW 247 [a7.ref [D.J 4 A,I a,I d,D.J 8 au,D.J 6 K,D.J 5 L,D.J 3 M,B r] [D.J 4 C,I b,I c,D.J 8 E,D.J 6 F,D.J 5 G,D.J 3 H,B q],a7.ro (ag e)] (bi.vals [ak s]):=
 h.cX
theorem Pv(h:af [.l [] [5,0,1] [1000000000] (ap f247 0) (r4 e 0 A a d H au K L r) (.exit 0) (Pu M b c C E F G q)]):
 cW 247 [a7.ref [D.J 4 A,I a,I d,D.J 8 H,D.J 6 au,D.J 5 K,D.J 3 L,B r] [D.J 4 M,I b,I c,D.J 8 C,D.J 6 E,D.J 5 F,D.J 3 G,B q],a7.ro (ag e)] (bi.vals [ak false]):=
 h.cX
theorem apR(h:af []):
 av 295 [.agg [I a,I c,B q],.one (.ptr [I b])] [ak (a==b)]:=
 h.of
def abK(A:ah)(a b:Int)(C E F G H:ah)(c d:Int)(au K L M:ah)(l:List O):List O:=.r 144 [.agg (cl A a b C E F G)] [.agg (cl H c d au K L M)]::l
def Rj(A:ah)(a b:Int)(C E F G H:ah)(c d:Int)(au K L M:ah)(e f:Int)(l:List O):List O:=abK A a b C E F G H c d au K L M (.r 290 [aE 3 G,.one (.cl 295 [D.ptr [I e]])] [ag f]::l)
theorem apS(h:af (Rj C a d au K L A M f b E F G H e c [.b (decide (c<0)) true])):
 av 224 [.agg (cl C a d au K L A),ag e] [.agg (cl M f b E F G H),ak false]:=
 h.of
theorem apT(h:af (Rj C a b E F G A M f c H au K L e d [.b (decide (d<0)) false,.r 55 [.agg (cl C a b E F G A)] [ak q],.n q true])):
 av 224 [.agg (cl C a b E F G A),ag e] [.agg (cl M f c H au K L),ak false]:=
 h.of
def abL(A:ah)(a b:Int)(C E F G H:ah)(c d:Int)(au K L M:ah)(e f:Int)(q:Bool)(g i:Int)(r:Bool)(N P Q R S bn V X Y:ah)(s:Bool)(l:List O):List O:=Rj A a b C E F G H c d au K L M e f (.b (decide (f<0)) false::.r 55 [.agg (cl A a b C E F G)] [ak q]::.n q false::.x G f [I g,I i,B r]::.a (.sa [[some none],[none],[none]] 0 [] [aE 3 N])::.u f::.p (lk prog 296 [GA.one (eR.fh 3 M none),GA.one (eR.ro (I f)),GA.one (eR.ro (I (f+1)))] [aE 3 N])::.x C e (bb P Q R S bn V X Y)::.r 210 [.agg (bb P Q R S bn V X Y),ag i] [ak s]::l)
theorem apU(h:af (abL Q d e N S bn M ku g f A V X Y a b r i c q R Z dK eH e9 fa fs ft eS s [.n s true,.a .sub,.x A a (bb E F G H au K L C),.g C [[I c,B q]] 16,.e A a.toNat (bb E F G H au K L C),.p ((bb E F G H au K L C)[7]?=some (D.J 2 C)),.h [[I c,B q]],.p (A=A),.p (A=A),.p (A=A),.p (A=A),.p (A=A),.p (A=A),.p (a.toNat=a.toNat),.p (C=C),.x A a (bb E F G H au K L C),.p (a.toNat=a.toNat)])):
 av 224 [.agg (cl Q d e N S bn M),ag a] [.agg (cl ku g f (A.set a.toNat (bb E F G H au K L (C++[[I c,B q]]))) V X R),ak true]:=
 h.of
theorem apV(h:af (abL E b c C G H A Z g e au K L M d a q i f s F N Q R S bn V X Y r [.n r false])):
 av 224 [.agg (cl E b c C G H A),ag d] [.agg (cl Z g e au K L F),ak true]:=
 h.of
def D6(a:Int)(q:Bool)(b:Int)(A:ah)(c d:Int)(C E F G:ah)(r:Bool):aD:=ba 52 [(0,a1 1000000000),(1,aY a),(2,.aR (.one (.bR q))),(6,aY b)] [(1000000000,[aK 900000000 4 A,az c,az d,aK 900000003 8 C,aK 900000004 6 E,aK 900000005 5 F,aK 900000006 3 G,.bR r])]
theorem apW(h:af [.f A a true,.g C [[I a,I b,B q]] 24,.h [[I a,I b,B q]],.u a]):
 aT (ap f317 0) (D6 b q a E c d A F G C r) .normal (D6 b q (a+1) E c d A F G (C++[[I a,I b,B q]]) r):=
 h.aQ [6,0,1,2] [1000000000]
def WH(A:ah)(a b:Int)(C E F G:ah)(q:Bool):aD:=ba 52 [(0,a1 1000000000)] [(1000000000,[aK 900000000 4 A,az a,az b,aK 900000003 8 C,aK 900000004 6 E,aK 900000005 5 F,aK 900000006 3 G,.bR q])]
theorem apX(h:af [.f A a false]):
 aT (ap f317 0) (D6 d r a C b c A E F G q) (.exit 0) (WH C b c A E F G q):=
 h.aQ [0] [1000000000]
theorem apY(h:af [.a .sub,.p ((0:Int)<=0),.p (0<(A.length:Int)),.e A 0 (bb E F G H au K L C),.g C [[I a,B q]] 16,.e A 0 (bb E F G H au K L C),.p ((bb E F G H au K L C)[7]?=some (D.J 2 C)),.h [[I a,B q]],.p (A=A),.p (A=A),.p (A=A),.p (A=A),.p (A=A),.p (0=0),.p (C=C),.p ((0:Int)<=0),.p (0<(A.length:Int)),.e A 0 (bb E F G H au K L C),.p (0=0),.l [] [6,0,1,2] [1000000000] (ap f317 0) (D6 a q 1 M b d (A.set 0 (bb E F G H au K L (C++[[I a,B q]]))) V X Y s) (.exit 0) (WH N c e Q R S bn r)]):
 cW 317 [a7.ref [D.J 4 M,I b,I d,D.J 8 A,D.J 6 V,D.J 5 X,D.J 3 Y,B s] [D.J 4 N,I c,I e,D.J 8 Q,D.J 6 R,D.J 5 S,D.J 3 bn,B r],a7.ro (ag a),a7.ro (ak q)] (bi.vals []):=
 h.cX
theorem apZ(h:af [.n q true]):
 cW 246 [a7.ref [D.J 4 A,I a,I b,D.J 8 C,D.J 6 E,D.J 5 F,D.J 3 G,B q] [D.J 4 A,I a,I b,D.J 8 C,D.J 6 E,D.J 5 F,D.J 3 G,B q],a7.ro (ag c)] (bi.vals [ak false]):=
 h.cX
def abT(q:Bool)(a:Int)(r:Bool)(l:List O):List O:=.n q false::.r 168 [ag a,ag 0,ag 3] [ak r]::l
theorem ap0(h:af (abT q c r [.n r true])):
 cW 246 [a7.ref [D.J 4 A,I a,I b,D.J 8 C,D.J 6 E,D.J 5 F,D.J 3 G,B q] [D.J 4 A,I a,I b,D.J 8 C,D.J 6 E,D.J 5 F,D.J 3 G,B q],a7.ro (ag c)] (bi.vals [ak false]):=
 h.cX
def abU(q:Bool)(a:Int)(r:Bool)(A:ah)(b c:Int)(C E F G:ah)(s:Bool)(l:List O):List O:=abT q a r (.n r false::.r 315 [.agg (cl A b c C E F G),ag a] [ak s]::l)
theorem ap1(h:af (abU q c s A a b C E F G r [.b r true])):
 cW 246 [a7.ref [D.J 4 A,I a,I b,D.J 8 C,D.J 6 E,D.J 5 F,D.J 3 G,B q] [D.J 4 A,I a,I b,D.J 8 C,D.J 6 E,D.J 5 F,D.J 3 G,B q],a7.ro (ag c)] (bi.vals [ak false]):=
 h.cX
def abV(q:Bool)(a:Int)(r:Bool)(A:ah)(b c:Int)(C E F G:ah)(s t:Bool)(d e:Int)(u v:Bool)(H au K L M N P Q:ah)(w:Bool)(l:List O):List O:=abU q a r A b c C E F G s (.b s false::.x F a [B t,I d,I e,B u,B v]::.a .sub::.x C d (bb H au K L M N P Q)::.r 316 [.agg (bb H au K L M N P Q),ag a] [ak w]::l)
theorem ap2(h:af (abV q a t E b c A F C G r u d e v w H au K L M N Q R s [.n s true])):
 cW 246 [a7.ref [D.J 4 E,I b,I c,D.J 8 A,D.J 6 F,D.J 5 C,D.J 3 G,B q] [D.J 4 E,I b,I c,D.J 8 A,D.J 6 F,D.J 5 C,D.J 3 G,B q],a7.ro (ag a)] (bi.vals [ak false]):=
 h.cX
def Rm(q:Bool)(a:Int)(r:Bool)(A:ah)(b c:Int)(C E F G:ah)(s t:Bool)(d e:Int)(u v:Bool)(H au K L M N P Q:ah)(w:Bool)(f:Int)(l:List O):List O:=abV q a r A b c C E F G s t d e u v H au K L M N P Q w (.n w false::.x M a [I f]::.v (e+f)::l)
theorem ap3(h:af (Rm q a v F c d A S C bn r s b e w x V X Y Z G dK H eH t f [.n s true,.v ((A.length:Int)-1),.x H a [B u],.x C a [B y,I g,I i,B z,B gJ],.a .sub,.p ((0:Int)<=0),.p (0<(A.length:Int)),.e A 0 (bb au K L M N E Q R),.x E a [B hh],.e A 0 (bb au K L M N E Q R),.p (b.toNat=0),.p (b.toNat=0),.p (0=0),.p (0=0),.p (b.toNat=0)])):
 cW 246 [a7.ref [D.J 4 F,I c,I d,D.J 8 A,D.J 6 S,D.J 5 C,D.J 3 bn,B q] [D.J 4 F,I c,I d,D.J 8 (A.set 0 (bb au K L M N (E.set a.toNat [B false]) Q R)),D.J 6 S,D.J 5 (C.set a.toNat [B true,I ((A.length:Int)-1),I 0,B false,B u]),D.J 3 bn,B q],a7.ro (ag a)] (bi.vals [ak true]):=
 h.cX
def EU(q:Bool)(a:Int)(r:Bool)(A:ah)(b c:Int)(C E F G:ah)(s t:Bool)(d e:Int)(u v:Bool)(H au K L M N P Q:ah)(w:Bool)(f:Int)(x:Bool)(l:List O):List O:=Rm q a r A b c C E F G s t d e u v H au K L M N P Q w f (.n t false::.b (decide (d>0)) true::.r 168 [ag (e+f),ag (-1000000),ag 1000000] [ak x]::l)
theorem ap4(h:af (EU q a v E b e A G C H r s c d w x au K L M F N Q R t f u [.n u true])):
 cW 246 [a7.ref [D.J 4 E,I b,I e,D.J 8 A,D.J 6 G,D.J 5 C,D.J 3 H,B q] [D.J 4 E,I b,I e,D.J 8 A,D.J 6 G,D.J 5 C,D.J 3 H,B q],a7.ro (ag a)] (bi.vals [ak false]):=
 h.cX
theorem ap5(h:af (EU q b x N e f E Q M R r s a c t u F G H au A C K L v d w [.n w false,.v (a-1),.b t true,.b u true,.x M b [B y,I g,I i,B z,B gJ],.a .sub,.x E a (bb F G H au A C K L),.x C b [B hh],.e E a.toNat (bb F G H au A C K L),.p (a.toNat=a.toNat),.p (a.toNat=a.toNat),.p (a.toNat=a.toNat),.p (a.toNat=a.toNat),.p (a.toNat=a.toNat)])):
 cW 246 [a7.ref [D.J 4 N,I e,I f,D.J 8 E,D.J 6 Q,D.J 5 M,D.J 3 R,B q] [D.J 4 N,I e,I f,D.J 8 (E.set a.toNat (bb F G H au A (C.set b.toNat [B false]) K L)),D.J 6 Q,D.J 5 (M.set b.toNat [B true,I (a-1),I (c+d),B true,B true]),D.J 3 R,B q],a7.ro (ag b)] (bi.vals [ak true]):=
 h.cX
theorem ap6(h:af (EU q b y N e f F Q M R r s a c t u G H au K A C E L v d w [.n w false,.v (a-1),.b t true,.b u false,.x E b [B x],.x M b [B z,I g,I i,B gJ,B hh],.a .sub,.x F a (bb G H au K A C E L),.x C b [B hj],.e F a.toNat (bb G H au K A C E L),.p (a.toNat=a.toNat),.p (a.toNat=a.toNat),.p (a.toNat=a.toNat),.p (a.toNat=a.toNat),.p (a.toNat=a.toNat)])):
 cW 246 [a7.ref [D.J 4 N,I e,I f,D.J 8 F,D.J 6 Q,D.J 5 M,D.J 3 R,B q] [D.J 4 N,I e,I f,D.J 8 (F.set a.toNat (bb G H au K A (C.set b.toNat [B false]) E L)),D.J 6 Q,D.J 5 (M.set b.toNat [B true,I (a-1),I (c+d),B true,B x]),D.J 3 R,B q],a7.ro (ag b)] (bi.vals [ak true]):=
 h.cX
theorem ap7(h:af (EU q b y N e f E Q M R r s a c t u F G H au C A K L v d w [.n w false,.v (a-1),.b t false,.x A b [B x],.b u true,.x M b [B z,I g,I i,B gJ,B hh],.a .sub,.x E a (bb F G H au C A K L),.x A b [B hj],.e E a.toNat (bb F G H au C A K L),.p (a.toNat=a.toNat),.p (a.toNat=a.toNat),.p (a.toNat=a.toNat),.p (a.toNat=a.toNat),.p (a.toNat=a.toNat),.p (a.toNat=a.toNat),.p (a.toNat=a.toNat)])):
 cW 246 [a7.ref [D.J 4 N,I e,I f,D.J 8 E,D.J 6 Q,D.J 5 M,D.J 3 R,B q] [D.J 4 N,I e,I f,D.J 8 (E.set a.toNat (bb F G H au C (A.set b.toNat [B false]) K L)),D.J 6 Q,D.J 5 (M.set b.toNat [B true,I (a-1),I (c+d),B x,B true]),D.J 3 R,B q],a7.ro (ag b)] (bi.vals [ak true]):=
 h.cX
theorem ap8(h:af (EU q b z N e f F Q M R r s a c t u G H au K C A E L v d w [.n w false,.v (a-1),.b t false,.x A b [B x],.b u false,.x E b [B y],.x M b [B gJ,I g,I i,B hh,B hj],.a .sub,.x F a (bb G H au K C A E L),.x A b [B t0],.e F a.toNat (bb G H au K C A E L),.p (a.toNat=a.toNat),.p (a.toNat=a.toNat),.p (a.toNat=a.toNat),.p (a.toNat=a.toNat),.p (a.toNat=a.toNat),.p (a.toNat=a.toNat),.p (a.toNat=a.toNat)])):
 cW 246 [a7.ref [D.J 4 N,I e,I f,D.J 8 F,D.J 6 Q,D.J 5 M,D.J 3 R,B q] [D.J 4 N,I e,I f,D.J 8 (F.set a.toNat (bb G H au K C (A.set b.toNat [B false]) E L)),D.J 6 Q,D.J 5 (M.set b.toNat [B true,I (a-1),I (c+d),B x,B y]),D.J 3 R,B q],a7.ro (ag b)] (bi.vals [ak true]):=
 h.cX
def EV(q:Bool)(a:Int)(r:Bool)(A:ah)(b c:Int)(C E F G:ah)(s t:Bool)(d e:Int)(u v:Bool)(H au K L M N P Q:ah)(w:Bool)(f:Int)(x:Bool)(g i:Int)(y z:Bool)(l:List O):List O:=Rm q a r A b c C E F G s t d e u v H au K L M N P Q w f (.n t false::.b (decide (d>0)) false::.x F a [B x,I g,I i,B y,B z]::l)
theorem ap9(h:af (EV t a y E d e C N A Q u v b c q r R S bn V F G X Y w f z j k gJ hh [.n q true,.x G a [B x],.n x true,.b (c+f==0) true,.b r true,.a (.e3 [some [D.J 4 H,I g,I i,D.J 8 au,D.J 6 K,D.J 5 L,D.J 3 M,B s],none,none] (bi.vals [])),.p (cH prog 317 [a7.ref [D.J 4 E,I d,I e,D.J 8 C,D.J 6 N,D.J 5 (A.set a.toNat [B false,I b,I c,B q,B r]),D.J 3 Q,B t] [D.J 4 H,I g,I i,D.J 8 au,D.J 6 K,D.J 5 L,D.J 3 M,B s],a7.ro (ag a),a7.ro (ak true)] (bi.vals []))])):
 cW 246 [a7.ref [D.J 4 E,I d,I e,D.J 8 C,D.J 6 N,D.J 5 A,D.J 3 Q,B t] [D.J 4 H,I g,I i,D.J 8 au,D.J 6 K,D.J 5 L,D.J 3 M,B s],a7.ro (ag a)] (bi.vals [ak true]):=
 h.cX
theorem aqa(h:af (EV t a z E d e C Q A R u v b c q r S bn V X F G H Y w f gJ j k hh hj [.n q true,.x G a [B x],.n x true,.b (c+f==0) true,.b r false,.x H a [B y],.a (.e3 [some [D.J 4 au,I g,I i,D.J 8 K,D.J 6 L,D.J 5 M,D.J 3 N,B s],none,none] (bi.vals [])),.p (cH prog 317 [a7.ref [D.J 4 E,I d,I e,D.J 8 C,D.J 6 Q,D.J 5 (A.set a.toNat [B false,I b,I c,B q,B r]),D.J 3 R,B t] [D.J 4 au,I g,I i,D.J 8 K,D.J 6 L,D.J 5 M,D.J 3 N,B s],a7.ro (ag a),a7.ro (ak y)] (bi.vals []))])):
 cW 246 [a7.ref [D.J 4 E,I d,I e,D.J 8 C,D.J 6 Q,D.J 5 A,D.J 3 R,B t] [D.J 4 au,I g,I i,D.J 8 K,D.J 6 L,D.J 5 M,D.J 3 N,B s],a7.ro (ag a)] (bi.vals [ak true]):=
 h.cX
theorem aqb(h:af (EV r a x E d e C H A au s t b c q u K L M N F G Q R v f y g i z gJ [.n q true,.x G a [B w],.n w true,.b (c+f==0) false])):
 cW 246 [a7.ref [D.J 4 E,I d,I e,D.J 8 C,D.J 6 H,D.J 5 A,D.J 3 au,B r] [D.J 4 E,I d,I e,D.J 8 C,D.J 6 H,D.J 5 (A.set a.toNat [B false,I b,I c,B q,B u]),D.J 3 au,B r],a7.ro (ag a)] (bi.vals [ak true]):=
 h.cX
theorem aqc(h:af (EV r a x E c e C H A au s t b d q u K L M N F G Q R v f y g i z gJ [.n q true,.x G a [B w],.n w false])):
 cW 246 [a7.ref [D.J 4 E,I c,I e,D.J 8 C,D.J 6 H,D.J 5 A,D.J 3 au,B r] [D.J 4 E,I c,I e,D.J 8 C,D.J 6 H,D.J 5 (A.set a.toNat [B false,I b,I d,B q,B u]),D.J 3 au,B r],a7.ro (ag a)] (bi.vals [ak true]):=
 h.cX
theorem apm(h:af (EV r a w E c e C G A H s t b d q u au K L M F N Q R v f x g i y z [.n q false])):
 cW 246 [a7.ref [D.J 4 E,I c,I e,D.J 8 C,D.J 6 G,D.J 5 A,D.J 3 H,B r] [D.J 4 E,I c,I e,D.J 8 C,D.J 6 G,D.J 5 (A.set a.toNat [B false,I b,I d,B q,B u]),D.J 3 H,B r],a7.ro (ag a)] (bi.vals [ak true]):=
 h.cX
def abM(A:ah)(a b:Int)(C E F G H:ah)(c d:Int)(au K L M:ah)(q:Bool)(l:List O):List O:=abK A a b C E F G H c d au K L M (.r 55 [.agg (cl A a b C E F G)] [ak q]::l)
theorem apn(h:af (abM A a b C E F G M d c H au K L q [.n q true])):
 av 223 [.agg (cl A a b C E F G),ag e] [.agg (cl M d c H au K L),ak false]:=
 h.of
def abN(A:ah)(a b:Int)(C E F G H:ah)(c d:Int)(au K L M:ah)(q:Bool)(e:Int)(r:Bool)(l:List O):List O:=abM A a b C E F G H c d au K L M q (.n q false::.r 190 [ag e,ag 0,ag 3] [ak r]::l)
theorem apo(h:af (abN A a b C E F G M e c H au K L q d r [.n r true])):
 av 223 [.agg (cl A a b C E F G),ag d] [.agg (cl M e c H au K L),ak false]:=
 h.of
def abO(A:ah)(a b:Int)(C E F G H:ah)(c d:Int)(au K L M:ah)(q:Bool)(e:Int)(r:Bool)(N P Q R S bn V X:ah)(s:Bool)(l:List O):List O:=abN A a b C E F G H c d au K L M q e r (.n r false::.p ((0:Int)<=0)::.p (0<(C.length:Int))::.e C 0 (bb N P Q R S bn V X)::.r 210 [.agg (bb N P Q R S bn V X),ag e] [ak s]::l)
theorem apq(h:af (abO C a b A E F G Y e d H au K L q c r M N Q R S bn V X s [.b s true])):
 av 223 [.agg (cl C a b A E F G),ag c] [.agg (cl Y e d H au K L),ak false]:=
 h.of
def abP(A:ah)(a b:Int)(C E F G H:ah)(c d:Int)(au K L M:ah)(q:Bool)(e:Int)(r:Bool)(N P Q R S bn V X:ah)(s t:Bool)(f g:Int)(u v:Bool)(Y Z dH jC iC jh jD H1:ah)(w:Bool)(l:List O):List O:=abO A a b C E F G H c d au K L M q e r N P Q R S bn V X s (.b s false::.x L e [B t,I f,I g,B u,B v]::.a .sub::.x au f (bb Y Z dH jC iC jh jD H1)::.r 294 [.agg (bb Y Z dH jC iC jh jD H1),ag e] [ak w]::l)
theorem apr(h:af (abP C b c A G H au eS f d E K F L q a r M N Q R S bn V X s u e g v w Y Z dK eH e9 fa fs ft t [.n t true])):
 av 223 [.agg (cl C b c A G H au),ag a] [.agg (cl eS f d E K F L),ak false]:=
 h.of
def abQ(A:ah)(a b:Int)(C E F G H:ah)(c d:Int)(au K L M:ah)(q:Bool)(e:Int)(r:Bool)(N P Q R S bn V X:ah)(s t:Bool)(f g:Int)(u v:Bool)(Y Z dH jC iC jh jD H1:ah)(w x:Bool)(i j:Int)(y z:Bool)(l:List O):List O:=abP A a b C E F G H c d au K L M q e r N P Q R S bn V X s t f g u v Y Z dH jC iC jh jD H1 w (.n w false::.e L e.toNat [B x,I i,I j,B y,B z]::l)
theorem aps(h:af (abQ Q c d A R S bn eS f e F V N X q b r Y Z dK eH e9 fa fs ft s w a g x y G H au K L C E M t u i j z gJ [.n u true,.a .sub,.e F a.toNat (bb G H au K L C E M),.x E b [B v],.v ((A.length:Int)-1),.e N b.toNat [B hh,I k,I l,B hj,B t0],.a .sub,.e F a.toNat (bb G H au K L C E M),.x C b [B fC],.e F a.toNat (bb G H au K L C E M),.p (a.toNat=a.toNat),.p (a.toNat=a.toNat),.p (a.toNat=a.toNat)])):
 av 223 [.agg (cl Q c d A R S bn),ag b] [.agg (cl eS f e (F.set a.toNat (bb G H au K L (C.set b.toNat [B false]) E M)) V (N.set b.toNat [B true,I ((A.length:Int)-1),I 0,B false,B v]) X),ak true]:=
 h.of
def abR(A:ah)(a b:Int)(C E F G H:ah)(c d:Int)(au K L M:ah)(q:Bool)(e:Int)(r:Bool)(N P Q R S bn V X:ah)(s t:Bool)(f g:Int)(u v:Bool)(Y Z dH jC iC jh jD H1:ah)(w x:Bool)(i j:Int)(y z q1:Bool)(k m:Int)(b4 s1:Bool)(l:List O):List O:=abQ A a b C E F G H c d au K L M q e r N P Q R S bn V X s t f g u v Y Z dH jC iC jh jD H1 w x i j y z (.n x false::.e L e.toNat [B q1,I k,I m,B b4,B s1]::l)
def abS(A:ah)(a b:Int)(C E F G H:ah)(c d:Int)(au K L M:ah)(q:Bool)(e:Int)(r:Bool)(N P Q R S bn V X:ah)(s t:Bool)(f g:Int)(u v:Bool)(Y Z dH jC iC jh jD H1:ah)(w x:Bool)(i j:Int)(y z q1:Bool)(k m:Int)(b4 s1 t1:Bool)(n o:Int)(gV v1:Bool)(p:Int)(w1:Bool)(l:List O):List O:=abR A a b C E F G H c d au K L M q e r N P Q R S bn V X s t f g u v Y Z dH jC iC jh jD H1 w x i j y z q1 k m b4 s1 (.b (decide (k>0)) true::.e L e.toNat [B t1,I n,I o,B gV,B v1]::.a .sub::.e au f.toNat (bb Y Z dH jC iC jh jD H1)::.x iC e [I p]::.v (o+p)::.r 190 [ag (o+p),ag (-1000000),ag 1000000] [ak w1]::l)
theorem apt(h:af (abS G b c C R S bn eS j g E V A X q a r Y Z dK eH e9 fa fs ft s w d k x y H au K L F M N Q t u l m z gJ hh i n hj t0 fC o e v0 w0 f v [.n v true])):
 av 223 [.agg (cl G b c C R S bn),ag a] [.agg (cl eS j g E V A X),ak false]:=
 h.of
def Jn(A:ah)(a b:Int)(C E F G H:ah)(c d:Int)(au K L M:ah)(q:Bool)(e:Int)(r:Bool)(N P Q R S bn V X:ah)(s t:Bool)(f g:Int)(u v:Bool)(Y Z dH jC iC jh jD H1:ah)(w x:Bool)(i j:Int)(y z q1:Bool)(k m:Int)(b4 s1 t1:Bool)(n o:Int)(gV v1:Bool)(p:Int)(w1 fM:Bool)(eB eO:Int)(gD og:Bool)(c1:Int)(eP:Bool)(d1 e1:Int)(cQ s2 t2:Bool)(f1 g1:Int)(kq v2:Bool)(l:List O):List O:=abS A a b C E F G H c d au K L M q e r N P Q R S bn V X s t f g u v Y Z dH jC iC jh jD H1 w x i j y z q1 k m b4 s1 t1 n o gV v1 p w1 (.n w1 false::.e L e.toNat [B fM,I eB,I eO,B gD,B og]::.a .sub::.e au f.toNat (bb Y Z dH jC iC jh jD H1)::.x iC e [I c1]::.v (eO+c1)::.e L e.toNat [B eP,I d1,I e1,B cQ,B s2]::.e (L.set e.toNat [B eP,I d1,I (eO+c1),B cQ,B s2]) e.toNat [B t2,I f1,I g1,B kq,B v2]::l)
theorem apu(h:af (Jn Q k l N R S bn eS ch p F V A X x a y Y Z dK eH e9 fa fs ft z mS b d0 z0 q1 G H au K C E L M gJ hh cd f0 b4 s1 t1 a0 i0 gV v1 w1 j0 m fM gD n hj og eb c eP cQ d q e fR r s s2 m0 xA t0 t2 [.b t0 true,.e (A.set a.toNat [B q,I e,I (c+d),B r,B s]) a.toNat [B t,I f,I g,B kq,B u],.e ((A.set a.toNat [B q,I e,I (c+d),B r,B s]).set a.toNat [B t,I f,I g,B true,B u]) a.toNat [B v2,I zO,I jm,B hM,B fC],.b fC true,.e ((A.set a.toNat [B q,I e,I (c+d),B r,B s]).set a.toNat [B t,I f,I g,B true,B u]) a.toNat [B v,I i,I j,B w,B gO],.a .sub,.e F b.toNat (bb G H au K C E L M),.x E a [B hN],.e F b.toNat (bb G H au K C E L M),.p (b.toNat=b.toNat),.p (b.toNat=b.toNat),.p (b.toNat=b.toNat),.e (((A.set a.toNat [B q,I e,I (c+d),B r,B s]).set a.toNat [B t,I f,I g,B true,B u]).set a.toNat [B v,I i,I j,B w,B true]) a.toNat [B z2,I o,I eB,B Gw,B dz],.v (o-1),.e (((A.set a.toNat [B q,I e,I (c+d),B r,B s]).set a.toNat [B t,I f,I g,B true,B u]).set a.toNat [B v,I i,I j,B w,B true]) a.toNat [B v0,I eO,I de,B w0,B cv]])):
 av 223 [.agg (cl Q k l N R S bn),ag a] [.agg [D.J 4 eS,I ch,I p,D.J 8 (F.set b.toNat (bb G H au K C (E.set a.toNat [B false]) L M)),D.J 6 V,D.J 5 ((((A.set a.toNat [B q,I e,I (c+d),B r,B s]).set a.toNat [B t,I f,I g,B true,B u]).set a.toNat [B v,I i,I j,B w,B true]).set a.toNat [B v0,I (o-1),I de,B w0,B cv]),D.J 3 X],ak true]:=
 h.of
theorem apv(h:af (Jn Q k l N R S bn eS ch p G V A X y a z Y Z dK eH e9 fa fs ft gJ z0 b d0 q1 b4 H au K L C E F M hh hj cd f0 s1 t1 gV a0 i0 v1 w1 fM j0 m gD og n t0 eP eb c cQ s2 d q e fR r s t2 m0 xA fC kq [.b fC true,.e (A.set a.toNat [B q,I e,I (c+d),B r,B s]) a.toNat [B t,I f,I g,B v2,B u],.e ((A.set a.toNat [B q,I e,I (c+d),B r,B s]).set a.toNat [B t,I f,I g,B true,B u]) a.toNat [B hM,I zO,I jm,B gO,B v0],.b v0 false,.a .sub,.e G b.toNat (bb H au K L C E F M),.x F a [B v],.e ((A.set a.toNat [B q,I e,I (c+d),B r,B s]).set a.toNat [B t,I f,I g,B true,B u]) a.toNat [B w,I i,I j,B x,B hN],.a .sub,.e G b.toNat (bb H au K L C E F M),.x E a [B z2],.e G b.toNat (bb H au K L C E F M),.p (b.toNat=b.toNat),.p (b.toNat=b.toNat),.p (b.toNat=b.toNat),.e (((A.set a.toNat [B q,I e,I (c+d),B r,B s]).set a.toNat [B t,I f,I g,B true,B u]).set a.toNat [B w,I i,I j,B x,B v]) a.toNat [B Gw,I o,I eB,B dz,B sc],.v (o-1),.e (((A.set a.toNat [B q,I e,I (c+d),B r,B s]).set a.toNat [B t,I f,I g,B true,B u]).set a.toNat [B w,I i,I j,B x,B v]) a.toNat [B w0,I eO,I de,B cv,B mS]])):
 av 223 [.agg (cl Q k l N R S bn),ag a] [.agg [D.J 4 eS,I ch,I p,D.J 8 (G.set b.toNat (bb H au K L C (E.set a.toNat [B false]) F M)),D.J 6 V,D.J 5 ((((A.set a.toNat [B q,I e,I (c+d),B r,B s]).set a.toNat [B t,I f,I g,B true,B u]).set a.toNat [B w,I i,I j,B x,B v]).set a.toNat [B w0,I (o-1),I de,B cv,B mS]),D.J 3 X],ak true]:=
 h.of
theorem apw(h:af (Jn Q k l N R S bn eS ch p F V A X y a z Y Z dK eH e9 fa fs ft gJ z0 b d0 q1 b4 G H au K C E L M hh hj cd f0 s1 t1 gV a0 i0 v1 w1 fM j0 m gD og n t0 eP eb c cQ s2 d q e fR r s t2 m0 xA fC kq [.b fC false,.a .sub,.e F b.toNat (bb G H au K C E L M),.x E a [B t],.e (A.set a.toNat [B q,I e,I (c+d),B r,B s]) a.toNat [B u,I f,I g,B v2,B v],.e ((A.set a.toNat [B q,I e,I (c+d),B r,B s]).set a.toNat [B u,I f,I g,B t,B v]) a.toNat [B hM,I zO,I jm,B gO,B v0],.b v0 true,.e ((A.set a.toNat [B q,I e,I (c+d),B r,B s]).set a.toNat [B u,I f,I g,B t,B v]) a.toNat [B w,I i,I j,B x,B hN],.a .sub,.e F b.toNat (bb G H au K C E L M),.x E a [B z2],.e F b.toNat (bb G H au K C E L M),.p (b.toNat=b.toNat),.p (b.toNat=b.toNat),.p (b.toNat=b.toNat),.p (b.toNat=b.toNat),.p (b.toNat=b.toNat),.e (((A.set a.toNat [B q,I e,I (c+d),B r,B s]).set a.toNat [B u,I f,I g,B t,B v]).set a.toNat [B w,I i,I j,B x,B true]) a.toNat [B Gw,I o,I eB,B dz,B sc],.v (o-1),.e (((A.set a.toNat [B q,I e,I (c+d),B r,B s]).set a.toNat [B u,I f,I g,B t,B v]).set a.toNat [B w,I i,I j,B x,B true]) a.toNat [B w0,I eO,I de,B cv,B mS]])):
 av 223 [.agg (cl Q k l N R S bn),ag a] [.agg [D.J 4 eS,I ch,I p,D.J 8 (F.set b.toNat (bb G H au K C (E.set a.toNat [B false]) L M)),D.J 6 V,D.J 5 ((((A.set a.toNat [B q,I e,I (c+d),B r,B s]).set a.toNat [B u,I f,I g,B t,B v]).set a.toNat [B w,I i,I j,B x,B true]).set a.toNat [B w0,I (o-1),I de,B cv,B mS]),D.J 3 X],ak true]:=
 h.of
theorem apx(h:af (Jn Q k l N R S bn eS ch p G V A X gJ a hh Y Z dK eH e9 fa fs ft hj q1 b d0 b4 s1 H au K L C E F M t0 fC cd f0 t1 gV v1 a0 i0 w1 fM gD j0 m og eP n v0 cQ eb c s2 t2 d q e fR r s kq m0 xA w0 v2 [.b w0 false,.a .sub,.e G b.toNat (bb H au K L C E F M),.x E a [B t],.e (A.set a.toNat [B q,I e,I (c+d),B r,B s]) a.toNat [B u,I f,I g,B hM,B v],.e ((A.set a.toNat [B q,I e,I (c+d),B r,B s]).set a.toNat [B u,I f,I g,B t,B v]) a.toNat [B gO,I zO,I jm,B hN,B cv],.b cv false,.a .sub,.e G b.toNat (bb H au K L C E F M),.x F a [B w],.e ((A.set a.toNat [B q,I e,I (c+d),B r,B s]).set a.toNat [B u,I f,I g,B t,B v]) a.toNat [B x,I i,I j,B y,B z2],.a .sub,.e G b.toNat (bb H au K L C E F M),.x E a [B Gw],.e G b.toNat (bb H au K L C E F M),.p (b.toNat=b.toNat),.p (b.toNat=b.toNat),.p (b.toNat=b.toNat),.p (b.toNat=b.toNat),.p (b.toNat=b.toNat),.e (((A.set a.toNat [B q,I e,I (c+d),B r,B s]).set a.toNat [B u,I f,I g,B t,B v]).set a.toNat [B x,I i,I j,B y,B w]) a.toNat [B dz,I o,I eB,B sc,B t3],.v (o-1),.e (((A.set a.toNat [B q,I e,I (c+d),B r,B s]).set a.toNat [B u,I f,I g,B t,B v]).set a.toNat [B x,I i,I j,B y,B w]) a.toNat [B mS,I eO,I de,B z0,B z]])):
 av 223 [.agg (cl Q k l N R S bn),ag a] [.agg [D.J 4 eS,I ch,I p,D.J 8 (G.set b.toNat (bb H au K L C (E.set a.toNat [B false]) F M)),D.J 6 V,D.J 5 ((((A.set a.toNat [B q,I e,I (c+d),B r,B s]).set a.toNat [B u,I f,I g,B t,B v]).set a.toNat [B x,I i,I j,B y,B w]).set a.toNat [B mS,I (o-1),I de,B z0,B z]),D.J 3 X],ak true]:=
 h.of
def Aq(a b:Int)(H:ah)(f g:Int)(au K L M:ah)(i c:Int)(A:ah)(d e:Int)(C E F G:ah):aD:=ba 229 [(1,aY a),(2,a1 2),(4,a1 4),(6,a1 6),(9,.aR (.one (.bR true))),(10,aY b)] [(6,[aK 130000 4 H,az f,az g,aK 130003 8 au,aK 130004 6 K,aK 130005 5 L,aK 130006 3 M]),(4,[.v (aS),az i,az c,.v (aS),.v (aS),.v (aS),.v (aS)]),(2,[.J .free 4 A,az d,az e,.J .free 8 C,.J .free 6 E,.J .free 5 F,.J .free 3 G])]
theorem apy(h:af [.f C a true,.g A [[I a,I b,B true]] 24,.h [[I a,I b,B true]],.u a]):
 aT (ap f223 0) (Aq b a E c d F G H A e f au g i C K L M) .normal (Aq b (a+1) E c d F G H (A++[[I a,I b,B true]]) e f au g i C K L M):=
 h.aQ [10,2,6,1,9,4] [6,4,2]
def Ar(A:ah)(a b:Int)(C E F G:ah)(c d:Int):aD:=ba 229 [(4,a1 4),(6,a1 6)] [(6,[aK 130000 4 A,az a,az b,aK 130003 8 C,aK 130004 6 E,aK 130005 5 F,aK 130006 3 G]),(4,[.v (aS),az c,az d,.v (aS),.v (aS),.v (aS),.v (aS)])]
theorem apz(h:af [.f H a false]):
 aT (ap f223 0) (Aq f a A b c C E F G d e au g i H K L M) (.exit 1) (Ar A b c C E F G d e):=
 h.aQ [6,4] [6,4]
def Rk(A:ah)(a b:Int)(C E F G H:ah)(c d:Int)(au K L M:ah)(q:Bool)(e:Int)(r:Bool)(N P Q R S bn V X:ah)(s t:Bool)(f g:Int)(u v:Bool)(Y Z dH jC iC jh jD H1:ah)(w x:Bool)(i j:Int)(y z q1:Bool)(k m:Int)(b4 s1 t1:Bool)(n o:Int)(gV v1 w1:Bool)(p eB:Int)(fM gD:Bool)(l:List O):List O:=abR A a b C E F G H c d au K L M q e r N P Q R S bn V X s t f g u v Y Z dH jC iC jh jD H1 w x i j y z q1 k m b4 s1 (.b (decide (k>0)) false::.e L e.toNat [B t1,I n,I o,B gV,B v1]::.e (L.set e.toNat [B false,I n,I o,B gV,B v1]) e.toNat [B w1,I p,I eB,B fM,B gD]::l)
def Rl(A:ah)(a b:Int)(C E F G H:ah)(c d:Int)(au K L M:ah)(q:Bool)(e:Int)(r:Bool)(N P Q R S bn V X:ah)(s t:Bool)(f g:Int)(u v:Bool)(Y Z dH jC iC jh jD H1:ah)(w x:Bool)(i j:Int)(y z q1:Bool)(k m:Int)(b4 s1 t1:Bool)(n o:Int)(gV v1 w1:Bool)(p eB:Int)(fM gD og eP:Bool)(eO c1:Int)(cQ s2:Bool)(d1:Int)(l:List O):List O:=Rk A a b C E F G H c d au K L M q e r N P Q R S bn V X s t f g u v Y Z dH jC iC jh jD H1 w x i j y z q1 k m b4 s1 t1 n o gV v1 w1 p eB fM gD (.n fM true::.a .sub::.e au f.toNat (bb Y Z dH jC iC jh jD H1)::.x jh e [B og]::.n og true::.e (L.set e.toNat [B false,I n,I o,B gV,B v1]) e.toNat [B eP,I eO,I c1,B cQ,B s2]::.a .sub::.e au f.toNat (bb Y Z dH jC iC jh jD H1)::.x iC e [I d1]::.v (c1+d1)::l)
theorem apA(h:af (Rl Q e f N R S bn mw n j M V F X s a t Y Z dK eH e9 fa fs ft u gJ b o hh hj G H au K C E L A v w p a0 t0 fC v0 k ch w0 cv mS c d q r z0 de d0 x q1 y b4 cd g s1 t1 i [.b (g+i==0) true,.e (F.set a.toNat [B false,I c,I d,B q,B r]) a.toNat [B gV,I f0,I i0,B v1,B z],.b z true,.a .sub,.e M b.toNat (bb G H au K C E L A),.g A [[I a,B true]] 16,.e M b.toNat (bb G H au K C E L A),.p ((bb G H au K C E L A)[7]?=some (D.J 2 A)),.p (b.toNat=b.toNat),.p (b.toNat=b.toNat),.h [[I a,B true]],.e M b.toNat (bb G H au K C E L A),.p (b.toNat=b.toNat),.l [] [10,2,6,1,9,4] [6,4,2] (ap f223 0) (Aq a 1 mw n j (M.set b.toNat (bb G H au K C E L (A++[[I a,B true]]))) V (F.set a.toNat [B false,I c,I d,B q,B r]) X 0 0 Q e f N R S bn) (.exit 1) (Ar eS l m ku lh l6 mv j0 eb)])):
 av 223 [.agg (cl Q e f N R S bn),ag a] [.agg (cl eS l m ku lh l6 mv),ak true]:=
 h.of
def As(a:Int)(q:Bool)(f:Int)(H:ah)(g i:Int)(au K L M:ah)(b c:Int)(A:ah)(d e:Int)(C E F G:ah):aD:=ba 229 [(1,aY a),(2,a1 2),(4,a1 4),(6,a1 6),(9,.aR (.one (.bR q))),(10,aY f)] [(6,[aK 130000 4 H,az g,az i,aK 130003 8 au,aK 130004 6 K,aK 130005 5 L,aK 130006 3 M]),(4,[.v (aS),az b,az c,.v (aS),.v (aS),.v (aS),.v (aS)]),(2,[.J .free 4 A,az d,az e,.J .free 8 C,.J .free 6 E,.J .free 5 F,.J .free 3 G])]
theorem apB(h:af [.f C a true,.g A [[I a,I b,B q]] 24,.h [[I a,I b,B q]],.u a]):
 aT (ap f223 0) (As b q a E c d F G H A e f au g i C K L M) .normal (As b q (a+1) E c d F G H (A++[[I a,I b,B q]]) e f au g i C K L M):=
 h.aQ [10,2,6,1,9,4] [6,4,2]
theorem apC(h:af [.f H a false]):
 aT (ap f223 0) (As f q a A b c C E F G d e au g i H K L M) (.exit 1) (Ar A b c C E F G d e):=
 h.aQ [6,4] [6,4]
theorem apD(h:af (Rl Q e f N R S bn mw n j L V M X t a u Y Z dK eH e9 fa fs ft v hh b o hj t0 G H au K C E F A w x p a0 fC v0 w0 k ch cv mS z0 c d q r q1 de d0 y b4 z s1 cd g t1 gV i [.b (g+i==0) true,.e (M.set a.toNat [B false,I c,I d,B q,B r]) a.toNat [B v1,I f0,I i0,B w1,B gJ],.b gJ false,.a .sub,.e L b.toNat (bb G H au K C E F A),.x F a [B s],.a .sub,.e L b.toNat (bb G H au K C E F A),.g A [[I a,B s]] 16,.e L b.toNat (bb G H au K C E F A),.p ((bb G H au K C E F A)[7]?=some (D.J 2 A)),.p (b.toNat=b.toNat),.p (b.toNat=b.toNat),.h [[I a,B s]],.e L b.toNat (bb G H au K C E F A),.p (b.toNat=b.toNat),.l [] [10,2,6,1,9,4] [6,4,2] (ap f223 0) (As a s 1 mw n j (L.set b.toNat (bb G H au K C E F (A++[[I a,B s]]))) V (M.set a.toNat [B false,I c,I d,B q,B r]) X 0 0 Q e f N R S bn) (.exit 1) (Ar eS l m ku lh l6 mv j0 eb)])):
 av 223 [.agg (cl Q e f N R S bn),ag a] [.agg (cl eS l m ku lh l6 mv),ak true]:=
 h.of
theorem apE(h:af (Rl Q e f E R S bn eS l j C V A X s a t Y Z dK eH e9 fa fs ft u z b m gJ hh H au K L F G M N v w n o hj t0 fC k p v0 w0 cv c d q r mS a0 ch x z0 y q1 de g b4 s1 i [.b (g+i==0) false])):
 av 223 [.agg (cl Q e f E R S bn),ag a] [.agg (cl eS l j C V (A.set a.toNat [B false,I c,I d,B q,B r]) X),ak true]:=
 h.of
theorem apF(h:af (Rk G b c C R S bn eS j g E V A X s a t Y Z dK eH e9 fa fs ft u z d k gJ hh H au K L M F N Q v w l m hj t0 fC i n v0 w0 cv e f q r mS o p x z0 [.n x true,.a .sub,.e E d.toNat (bb H au K L M F N Q),.x F a [B y],.n y false])):
 av 223 [.agg (cl G b c C R S bn),ag a] [.agg (cl eS j g E V (A.set a.toNat [B false,I e,I f,B q,B r]) X),ak true]:=
 h.of
theorem apG(h:af (Rk E b c C G H au eS j f F K A L s a t M N Q R S bn V X u y g k z gJ Y Z dK eH e9 fa fs ft v w l m hh hj t0 i n fC v0 w0 d e q r cv o p x mS [.n x false])):
 av 223 [.agg (cl E b c C G H au),ag a] [.agg (cl eS j f F K (A.set a.toNat [B false,I d,I e,B q,B r]) L),ak true]:=
 h.of
theorem apH(h:af [.b (decide ((A.length:Int)>0)) true,.p ((0:Int)<=0),.p (0<(A.length:Int)),.e A 0 (bb K L C E F G H au),.r 213 [.agg (bb K L C E F G H au),ag a] [ak q]]):
 av 315 [.agg (cl M b c A N Q R),ag a] [ak q]:=
 h.of
def yh(A C E F G H au K:ah)(a b:Int):aD:=ba 22 [(1,aY a),(2,a1 2),(5,aY b)] [(2,[.J .free 5 A,.J .free 5 C,.J .free 5 E,.J .free 4 F,.J .free 1 G,.J .free 1 H,.J .free 1 au,.J .free 2 K])]
def Pw(q:Bool):aD:=ba 22 [(4,.aR (.one (.bR q)))] []
theorem apI(h:af [.i A c (bz d a e f g),.b (decide (a<=b)) true]):
 aT (ap f342 0) (yh C E A F G H au K b c) .ret (Pw true):=
 h.aQ [4] []
theorem apJ(h:af [.i A a (bz d c e f g),.b (decide (c<=b)) false,.u a]):
 aT (ap f342 0) (yh C E A F G H au K b a) .normal (yh C E A F G H au K b (a+1)):=
 h.aQ [5,2,1] [2]
def WI:aD:=ba 22 [] []
theorem apK(h:af [.f A a false]):
 aT (ap f342 0) (yh C E A F G H au K b a) (.exit 0) WI:=
 h.aQ [] []
theorem apL(h:af [.l [] [5,2,1] [2] (ap f342 0) (yh A C E F G H au K a 0) .ret (Pw q)]):
 av 342 [.agg (bb A C E F G H au K),ag a] [ak q]:=
 h.of
theorem apM(h:af [.l [] [5,2,1] [2] (ap f342 0) (yh A C E F G H au K a 0) (.exit 0) WI]):
 av 342 [.agg (bb A C E F G H au K),ag a] [ak false]:=
 h.of
theorem apc(h:af [.r 342 [.agg (bb A C E F G H au K),ag a] [ak q],.n q true,.r 343 [.agg (bb A C E F G H au K),ag a] [ag b]]):
 av 316 [.agg (bb A C E F G H au K),ag a] [ak (b==0)]:=
 h.of
theorem apd(h:af [.r 342 [.agg (bb A C E F G H au K),ag a] [ak q],.n q false]):
 av 316 [.agg (bb A C E F G H au K),ag a] [ak false]:=
 h.of
theorem ape(h:af [.r 116 [aE 5 E,ag a] [aE 5 C],.r 116 [aE 5 F,ag a] [aE 5 A],.v ((C.length:Int)+(A.length:Int))]):
 av 343 [.agg (bb E F G H au K L M),ag a] [ag ((C.length:Int)+(A.length:Int))]:=
 h.of
theorem apf(h:af [.r 291 [aE 5 A,.one (.cl 353 [D.ptr [I a]])] [ak q]]):
 av 331 [.agg (bb C E A F G H au K),ag a] [ak q]:=
 h.of
theorem apg(h:af []):
 av 353 [.agg (bz c a d e f),.one (.ptr [I b])] [ak (decide (a<=b))]:=
 h.of
theorem aph(h:af [.r 331 [.agg (bb A C E F G H au K),ag a] [ak q],.n q true,.r 332 [.agg (bb A C E F G H au K),ag a] [ag b]]):
 av 294 [.agg (bb A C E F G H au K),ag a] [ak (b==0)]:=
 h.of
theorem api(h:af [.r 331 [.agg (bb A C E F G H au K),ag a] [ak q],.n q false]):
 av 294 [.agg (bb A C E F G H au K),ag a] [ak false]:=
 h.of
theorem apj(h:af [.r 182 [aE 5 E,ag a] [aE 5 C],.r 182 [aE 5 F,ag a] [aE 5 A],.v ((C.length:Int)+(A.length:Int))]):
 av 332 [.agg (bb E F G H au K L M),ag a] [ag ((C.length:Int)+(A.length:Int))]:=
 h.of
