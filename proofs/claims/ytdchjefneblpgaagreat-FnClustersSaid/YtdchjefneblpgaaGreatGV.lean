import Derived.Test.YtdchjefneblpgaaGreatGE
set_option linter.unusedVariables false
set_option linter.unusedSimpArgs false
namespace Go.Proofs.YtdchjefneblpgaaGreat
open Go.Sx Go.RowKit Go.Proofs.Tryz
variable {a b c d e f g i j k l m n o p a0 b9 : Int} {A C E F G H au K L M N Q R S bz V X Y Z fw kY lP lR lS lT : ah} {q r s t u v w x y z ic gL jR t0 : Bool}
theorem ah4(h:af [.g ([]:ah) A 8,.h A]):
 aw 276 [.agg (bn a b c A)] [.agg (bn a b c ([]++A))]:=
 h.of
def Ca(A:ah)(a:Int)(C:ah)(b c d e:Int):aF:=bf 27 [(2,aT 2),(3,aT 3),(12,cX 4 A),(13,a1 (A.length:Int)),(14,a1 a)] [(3,[aD 23 4 C,ay b,ay c]),(2,[.v (aO),ay d,ay e])]
theorem ah5(h:af [.i A a (bn l e f F),.r 276 [.agg (bn l e f F)] [.agg (bn b c d C)],.a .wr,.g E [(bn b c d C)] 48,.u a]):
 aY (aq f181 0) (Ca A a E g i j k) .normal (Ca A (a+1) (E++[(bn b c d C)]) g i j k):=
 h.aW [14,13,12,3,2] [3,2]
def Vc(A:ah)(a b c d:Int):aF:=bf 27 [(2,aT 2),(3,aT 3)] [(3,[aD 23 4 A,ay a,ay b]),(2,[.v (aO),ay c,ay d])]
theorem ah6(h:af [.f A a false]):
 aY (aq f181 0) (Ca A a C b c d e) (.exit 0) (Vc C b c d e):=
 h.aW [3,2] [3,2]
theorem ah7(h:af [.l [(4000000,23,4)] [14,13,12,3,2] [3,2] (aq f181 0) (Ca A 0 [] a b 0 0) (.exit 0) (Vc C c d e f)]):
 aw 181 [.agg (bt A a b)] [.agg (bt C c d)]:=
 h.of
theorem ah8(h:af [.g ([]:ah) A 40,.h A]):
 aw 279 [.agg (b5 a A b c d e)] [.agg (b5 a ([]++A) b c d e)]:=
 h.of
def Cb(a:Int)(A:ah)(b c d e:Int)(C:ah)(f g:Int):aF:=bf 33 [(1,aT 1),(2,aT 2),(3,aT 3),(4,a1 a)] [(3,[aD 7 4 A,ay b,ay c]),(2,[.v (aO),ay d,ay e]),(1,[.J .free 4 C,ay f,ay g])]
theorem ah9(h:af [.i E a (bn b c d A),.a .wr,.g ([]:ah) A 8,.h A,.g C [(bn b c d ([]++A))] 48,.u a]):
 aY (aq f123 0) (Cb a C g i j k E e f) .normal (Cb (a+1) (C++[(bn b c d ([]++A))]) g i j k E e f):=
 h.aW [4,1,3,2] [3,2,1]
def Vd(A:ah)(a b c d:Int):aF:=bf 33 [(2,aT 2),(3,aT 3)] [(3,[aD 7 4 A,ay a,ay b]),(2,[.v (aO),ay c,ay d])]
theorem aia(h:af [.f C a false]):
 aY (aq f123 0) (Cb a A b c d e C f g) (.exit 0) (Vd A b c d e):=
 h.aW [3,2] [3,2]
theorem aib(h:af [.l [] [4,1,3,2] [3,2,1] (aq f123 0) (Cb 0 [] a b 0 0 A a b) (.exit 0) (Vd C c d e f)]):
 aw 123 [.agg (bt A a b)] [.agg (bt C c d)]:=
 h.of
theorem aic(h:af [.g ([]:ah) A 40,.h A,.g ([]:ah) C 40,.h C,.g ([]:ah) E 40,.h E,.g ([]:ah) F 32,.h F,.g ([]:ah) G 8,.h G,.g ([]:ah) H 1,.h H,.g ([]:ah) au 1,.h au,.g ([]:ah) K 16,.h K]):
 aw 174 [.agg (bj A C E F G H au K)] [.agg (bj ([]++A) ([]++C) ([]++E) ([]++F) ([]++G) ([]++H) ([]++au) ([]++K))]:=
 h.of
def Cc(a:Int)(A:ah)(d e:Int)(H au K:ah)(f g:Int)(L:ah)(b c:Int)(C E F G:ah):aF:=bf 55 [(1,aT 1),(2,aT 2),(3,aT 3),(4,a1 a)] [(3,[aD 90000 4 A,ay d,ay e,aD 34 8 H,.v (aO),aD 9 5 au,aD 13 3 K]),(2,[.v (aO),ay f,ay g,.v (aO),.v (aO),.v (aO),.v (aO)]),(1,[.J .free 4 L,ay b,ay c,.J .free 8 C,.J .free 6 E,.J .free 5 F,.J .free 3 G])]
theorem aid(h:af [.i C a (bj Y Z fw kY lP lR lS lT),.r 174 [.agg (bj Y Z fw kY lP lR lS lT)] [.agg (bj E F G H au K L M)],.a .wr,.g A [(bj E F G H au K L M)] 192,.u a]):
 aY (aq f186 0) (Cc a N b c A Q R d e S f g C bz V X) .normal (Cc (a+1) N b c (A++[(bj E F G H au K L M)]) Q R d e S f g C bz V X):=
 h.aW [4,1,3,2] [3,2,1]
def Ve(A:ah)(a c:Int)(H au K:ah)(d e:Int)(L:ah)(f b:Int)(C E F G:ah):aF:=bf 55 [(1,aT 1),(2,aT 2),(3,aT 3)] [(3,[aD 90000 4 A,ay a,ay c,aD 34 8 H,.v (aO),aD 9 5 au,aD 13 3 K]),(2,[.v (aO),ay d,ay e,.v (aO),.v (aO),.v (aO),.v (aO)]),(1,[.J .free 4 L,ay f,ay b,.J .free 8 C,.J .free 6 E,.J .free 5 F,.J .free 3 G])]
theorem aie(h:af [.f A a false]):
 aY (aq f186 0) (Cc a C b c E F G d e H f g A au K L) (.exit 0) (Ve C b c E F G d e H f g A au K L):=
 h.aW [1,3,2] [3,2,1]
def Cd(a:Int)(A:ah)(d e:Int)(au K L M:ah)(f g:Int)(C:ah)(b c:Int)(E F G H:ah):aF:=bf 55 [(1,aT 1),(2,aT 2),(3,aT 3),(5,a1 a)] [(3,[aD 90000 4 A,ay d,ay e,aD 34 8 au,aD 52 6 K,aD 9 5 L,aD 13 3 M]),(2,[.v (aO),ay f,ay g,.v (aO),.v (aO),.v (aO),.v (aO)]),(1,[.J .free 4 C,ay b,ay c,.J .free 8 E,.J .free 6 F,.J .free 5 G,.J .free 3 H])]
theorem aif(h:af [.i C a (b5 n Q o p a0 b9),.r 279 [.agg (b5 n Q o p a0 b9)] [.agg (b5 b E c d e f)],.a .wr,.g A [(b5 b E c d e f)] 64,.u a]):
 aY (aq f186 1) (Cd a F g i G A H au j k K l m L C M N) .normal (Cd (a+1) F g i G (A++[(b5 b E c d e f)]) H au j k K l m L C M N):=
 h.aW [5,1,3,2] [3,2,1]
def Vf(A:ah)(a b:Int)(C E F G:ah)(c d:Int):aF:=bf 55 [(2,aT 2),(3,aT 3)] [(3,[aD 90000 4 A,ay a,ay b,aD 34 8 C,aD 52 6 E,aD 9 5 F,aD 13 3 G]),(2,[.v (aO),ay c,ay d,.v (aO),.v (aO),.v (aO),.v (aO)])]
theorem aih(h:af [.f H a false]):
 aY (aq f186 1) (Cd a A b c C E F G d e au f g K H L M) (.exit 2) (Vf A b c C E F G d e):=
 h.aW [3,2] [3,2]
theorem aii(h:af [.r 123 [.agg (bt E a b)] [.agg (bt fw l m)],.g ([]:ah) A 32,.h A,.g ([]:ah) C 24,.h C,.l [(4000003,34,8)] [4,1,3,2] [3,2,1] (aq f186 0) (Cc 0 fw l m [] ([]++A) ([]++C) 0 0 E a b V Z A C) (.exit 0) (Ve F c d G H au e f K g i L M N Q),.l [(4000004,52,6)] [5,1,3,2] [3,2,1] (aq f186 1) (Cd 0 F c d G [] H au e f K g i L M N Q) (.exit 2) (Vf R j k S bz X Y n o)]):
 aw 186 [.agg (cl E a b V Z A C)] [.agg (cl R j k S bz X Y)]:=
 h.of
theorem aij(h:af [.r 186 [.agg (cl A a b C E F G)] [.agg (cl M c d H au K L)],.r 56 [.agg (cl A a b C E F G)] [al q]]):
 cc 127 [aN.ro (.agg (cl A a b C E F G))] (aV.new [D.J 4 M,I c,I d,D.J 8 H,D.J 6 au,D.J 5 K,D.J 3 L,B q]):=
 h.cd
def qB(a b:Int)(A:ah)(c d:Int)(C E F G:ah)(q:Bool):aF:=bf 93 [(0,aT 1000000000),(1,a1 a),(5,a1 b)] [(1000000000,[aD 900000000 4 A,ay c,ay d,aD 900000003 8 C,aD 900000004 6 E,aD 900000005 5 F,aD 900000006 3 G,.bc q])]
theorem aik(h:af [.f A a true,.b q true,.x A a [I e,I f,B r],.b (e != b) true,.u a]):
 aY (aq f247 0) (qB b a C c d E F G A q) .normal (qB b (a+1) C c d E F G A q):=
 h.aW [5,0,1] [1000000000]
def FK(q:Bool)(A:ah)(a b:Int)(C E F G:ah)(r:Bool):aF:=bf 93 [(0,aT 1000000000),(4,.aI (.one (.bc q)))] [(1000000000,[aD 900000000 4 A,ay a,ay b,aD 900000003 8 C,aD 900000004 6 E,aD 900000005 5 F,aD 36 3 G,.bc r])]
def Zb(A:ah)(a:Int)(q:Bool)(b c:Int)(r:Bool)(d:Int)(C E F G H au K L M:ah)(s:Bool)(l:List O):List O:=.f A a true::.b q true::.x A a [I b,I c,B r]::.b (b != d) false::.a .sub::.p ((0:Int)<=none.getD 0)::.p (none.getD 0<=(some a).getD (A.length:Int))::.p ((some a).getD (A.length:Int)<=(A.length:Int))::.p ((([]:ah).length+(List.take (((some a).getD (A.length:Int)).toNat-0) (List.drop 0 A)).length)*24<=140737488355328)::.p (([]:ah).length+(List.take (((some a).getD (A.length:Int)).toNat-0) (List.drop 0 A)).length<=9223372036854775807)::.p (Flat (List.take (((some a).getD (A.length:Int)).toNat-0) (List.drop 0 A)))::.u a::.p (0<=(some (a+1)).getD 0)::.p ((some (a+1)).getD 0<=none.getD (A.length:Int))::.p (none.getD (A.length:Int)<=(A.length:Int))::.p ((([]++List.take (((some a).getD (A.length:Int)).toNat-0) (List.drop 0 A)).length+(List.take (A.length-((some (a+1)).getD 0).toNat) (List.drop ((some (a+1)).getD 0).toNat A)).length)*24<=140737488355328)::.p (([]++List.take (((some a).getD (A.length:Int)).toNat-0) (List.drop 0 A)).length+(List.take (A.length-((some (a+1)).getD 0).toNat) (List.drop ((some (a+1)).getD 0).toNat A)).length<=9223372036854775807)::.p (Flat (List.take (A.length-((some (a+1)).getD 0).toNat) (List.drop ((some (a+1)).getD 0).toNat A)))::.x C d (bj E F G H au K L M)::.r 213 [.agg (bj E F G H au K L M),ao c] [al s]::l
theorem ail(h:af (Zb A a r f c q b C F G H au K L M E s [.n s true,.a .sub,.x C b (bj F G H au K L M E),.g E [[I c,B q]] 16,.e C b.toNat (bj F G H au K L M E),.p ((bj F G H au K L M E)[7]?=some (D.J 2 E)),.h [[I c,B q]],.p (C=C),.p (C=C),.p (b.toNat=b.toNat),.p (E=E),.p (C=C),.p (C=C),.p (C=C),.p (C=C),.p (C=C),.p (b.toNat=b.toNat),.p (E=E),.x C b (bj F G H au K L M E),.p (b.toNat=b.toNat)])):
 aY (aq f247 0) (qB b a N d e C Q R A r) .ret (FK true N d e (C.set b.toNat (bj F G H au K L M (E++[[I c,B q]]))) Q R ([]++List.take (((some a).getD (A.length:Int)).toNat-0) (List.drop 0 A)++List.take (A.length-((some (a+1)).getD 0).toNat) (List.drop ((some (a+1)).getD 0).toNat A)) r):=
 h.aW [4,0] [1000000000]
theorem aim(h:af (Zb A a q e f s b C H au K L M N Q R r [.n r false])):
 aY (aq f247 0) (qB b a E c d C F G A q) .ret (FK true E c d C F G ([]++List.take (((some a).getD (A.length:Int)).toNat-0) (List.drop 0 A)++List.take (A.length-((some (a+1)).getD 0).toNat) (List.drop ((some (a+1)).getD 0).toNat A)) q):=
 h.aW [4,0] [1000000000]
def K5(A:ah)(a b:Int)(C E F G:ah)(q:Bool):aF:=bf 93 [(0,aT 1000000000)] [(1000000000,[aD 900000000 4 A,ay a,ay b,aD 900000003 8 C,aD 900000004 6 E,aD 900000005 5 F,aD 900000006 3 G,.bc q])]
theorem ain(h:af [.f A c true,.b q false]):
 aY (aq f247 0) (qB d c C a b E F G A q) (.exit 0) (K5 C a b E F G A q):=
 h.aW [0] [1000000000]
theorem Vg(h:af [.f A c false]):
 aY (aq f247 0) (qB d c C a b E F G A q) (.exit 0) (K5 C a b E F G A q):=
 h.aW [0] [1000000000]
theorem aio(h:af [.l [] [5,0,1] [1000000000] (aq f247 0) (qB e 0 A a d au K L M r) .ret (FK s C b c E F G H q)]):
 cc 247 [aN.ref [D.J 4 A,I a,I d,D.J 8 au,D.J 6 K,D.J 5 L,D.J 3 M,B r] [D.J 4 C,I b,I c,D.J 8 E,D.J 6 F,D.J 5 G,D.J 3 H,B q],aN.ro (ao e)] (aV.vals [al s]):=
 h.cd
theorem K6(h:af [.l [] [5,0,1] [1000000000] (aq f247 0) (qB e 0 A a d H au K L r) (.exit 0) (K5 M b c C E F G q)]):
 cc 247 [aN.ref [D.J 4 A,I a,I d,D.J 8 H,D.J 6 au,D.J 5 K,D.J 3 L,B r] [D.J 4 M,I b,I c,D.J 8 C,D.J 6 E,D.J 5 F,D.J 3 G,B q],aN.ro (ao e)] (aV.vals [al false]):=
 h.cd
def Ce(a:Int)(q:Bool)(b:Int)(A:ah)(c d:Int)(C E F G:ah)(r:Bool):aF:=bf 52 [(0,aT 1000000000),(1,a1 a),(2,.aI (.one (.bc q))),(6,a1 b)] [(1000000000,[aD 900000000 4 A,ay c,ay d,aD 900000003 8 C,aD 900000004 6 E,aD 900000005 5 F,aD 900000006 3 G,.bc r])]
theorem aip(h:af [.f A a true,.g C [[I a,I b,B q]] 24,.h [[I a,I b,B q]],.u a]):
 aY (aq f317 0) (Ce b q a E c d A F G C r) .normal (Ce b q (a+1) E c d A F G (C++[[I a,I b,B q]]) r):=
 h.aW [6,0,1,2] [1000000000]
def Vh(A:ah)(a b:Int)(C E F G:ah)(q:Bool):aF:=bf 52 [(0,aT 1000000000)] [(1000000000,[aD 900000000 4 A,ay a,ay b,aD 900000003 8 C,aD 900000004 6 E,aD 900000005 5 F,aD 900000006 3 G,.bc q])]
theorem aiq(h:af [.f A a false]):
 aY (aq f317 0) (Ce d r a C b c A E F G q) (.exit 0) (Vh C b c A E F G q):=
 h.aW [0] [1000000000]
theorem air(h:af [.a .sub,.p ((0:Int)<=0),.p (0<(A.length:Int)),.e A 0 (bj E F G H au K L C),.g C [[I a,B q]] 16,.e A 0 (bj E F G H au K L C),.p ((bj E F G H au K L C)[7]?=some (D.J 2 C)),.h [[I a,B q]],.p (A=A),.p (A=A),.p (A=A),.p (A=A),.p (A=A),.p (0=0),.p (C=C),.p ((0:Int)<=0),.p (0<(A.length:Int)),.e A 0 (bj E F G H au K L C),.p (0=0),.l [] [6,0,1,2] [1000000000] (aq f317 0) (Ce a q 1 M b d (A.set 0 (bj E F G H au K L (C++[[I a,B q]]))) V X Y s) (.exit 0) (Vh N c e Q R S bz r)]):
 cc 317 [aN.ref [D.J 4 M,I b,I d,D.J 8 A,D.J 6 V,D.J 5 X,D.J 3 Y,B s] [D.J 4 N,I c,I e,D.J 8 Q,D.J 6 R,D.J 5 S,D.J 3 bz,B r],aN.ro (ao a),aN.ro (al q)] (aV.vals []):=
 h.cd
theorem ahR(h:af [.n q true]):
 cc 246 [aN.ref [D.J 4 A,I a,I b,D.J 8 C,D.J 6 E,D.J 5 F,D.J 3 G,B q] [D.J 4 A,I a,I b,D.J 8 C,D.J 6 E,D.J 5 F,D.J 3 G,B q],aN.ro (ao c)] (aV.vals [al false]):=
 h.cd
def Zc(q:Bool)(a:Int)(r:Bool)(l:List O):List O:=.n q false::.r 168 [ao a,ao 0,ao 3] [al r]::l
theorem ahS(h:af (Zc q c r [.n r true])):
 cc 246 [aN.ref [D.J 4 A,I a,I b,D.J 8 C,D.J 6 E,D.J 5 F,D.J 3 G,B q] [D.J 4 A,I a,I b,D.J 8 C,D.J 6 E,D.J 5 F,D.J 3 G,B q],aN.ro (ao c)] (aV.vals [al false]):=
 h.cd
def Zd(q:Bool)(a:Int)(r:Bool)(A:ah)(b c:Int)(C E F G:ah)(s:Bool)(l:List O):List O:=Zc q a r (.n r false::.r 315 [.agg (cl A b c C E F G),ao a] [al s]::l)
theorem ahT(h:af (Zd q c s A a b C E F G r [.b r true])):
 cc 246 [aN.ref [D.J 4 A,I a,I b,D.J 8 C,D.J 6 E,D.J 5 F,D.J 3 G,B q] [D.J 4 A,I a,I b,D.J 8 C,D.J 6 E,D.J 5 F,D.J 3 G,B q],aN.ro (ao c)] (aV.vals [al false]):=
 h.cd
def Ze(q:Bool)(a:Int)(r:Bool)(A:ah)(b c:Int)(C E F G:ah)(s t:Bool)(d e:Int)(u v:Bool)(H au K L M N P Q:ah)(w:Bool)(l:List O):List O:=Zd q a r A b c C E F G s (.b s false::.x F a [B t,I d,I e,B u,B v]::.a .sub::.x C d (bj H au K L M N P Q)::.r 316 [.agg (bj H au K L M N P Q),ao a] [al w]::l)
theorem ahU(h:af (Ze q a t E b c A F C G r u d e v w H au K L M N Q R s [.n s true])):
 cc 246 [aN.ref [D.J 4 E,I b,I c,D.J 8 A,D.J 6 F,D.J 5 C,D.J 3 G,B q] [D.J 4 E,I b,I c,D.J 8 A,D.J 6 F,D.J 5 C,D.J 3 G,B q],aN.ro (ao a)] (aV.vals [al false]):=
 h.cd
def OP(q:Bool)(a:Int)(r:Bool)(A:ah)(b c:Int)(C E F G:ah)(s t:Bool)(d e:Int)(u v:Bool)(H au K L M N P Q:ah)(w:Bool)(f:Int)(l:List O):List O:=Ze q a r A b c C E F G s t d e u v H au K L M N P Q w (.n w false::.x M a [I f]::.v (e+f)::l)
theorem ahV(h:af (OP q a v F c d A S C bz r s b e w x V X Y Z G fw H kY t f [.n s true,.v ((A.length:Int)-1),.x H a [B u],.x C a [B y,I g,I i,B z,B ic],.a .sub,.p ((0:Int)<=0),.p (0<(A.length:Int)),.e A 0 (bj au K L M N E Q R),.x E a [B gL],.e A 0 (bj au K L M N E Q R),.p (b.toNat=0),.p (b.toNat=0),.p (0=0),.p (0=0),.p (b.toNat=0)])):
 cc 246 [aN.ref [D.J 4 F,I c,I d,D.J 8 A,D.J 6 S,D.J 5 C,D.J 3 bz,B q] [D.J 4 F,I c,I d,D.J 8 (A.set 0 (bj au K L M N (E.set a.toNat [B false]) Q R)),D.J 6 S,D.J 5 (C.set a.toNat [B true,I ((A.length:Int)-1),I 0,B false,B u]),D.J 3 bz,B q],aN.ro (ao a)] (aV.vals [al true]):=
 h.cd
def CU(q:Bool)(a:Int)(r:Bool)(A:ah)(b c:Int)(C E F G:ah)(s t:Bool)(d e:Int)(u v:Bool)(H au K L M N P Q:ah)(w:Bool)(f:Int)(x:Bool)(l:List O):List O:=OP q a r A b c C E F G s t d e u v H au K L M N P Q w f (.n t false::.b (decide (d>0)) true::.r 168 [ao (e+f),ao (-1000000),ao 1000000] [al x]::l)
theorem ahW(h:af (CU q a v E b e A G C H r s c d w x au K L M F N Q R t f u [.n u true])):
 cc 246 [aN.ref [D.J 4 E,I b,I e,D.J 8 A,D.J 6 G,D.J 5 C,D.J 3 H,B q] [D.J 4 E,I b,I e,D.J 8 A,D.J 6 G,D.J 5 C,D.J 3 H,B q],aN.ro (ao a)] (aV.vals [al false]):=
 h.cd
theorem ahX(h:af (CU q b x N e f E Q M R r s a c t u F G H au A C K L v d w [.n w false,.v (a-1),.b t true,.b u true,.x M b [B y,I g,I i,B z,B ic],.a .sub,.x E a (bj F G H au A C K L),.x C b [B gL],.e E a.toNat (bj F G H au A C K L),.p (a.toNat=a.toNat),.p (a.toNat=a.toNat),.p (a.toNat=a.toNat),.p (a.toNat=a.toNat),.p (a.toNat=a.toNat)])):
 cc 246 [aN.ref [D.J 4 N,I e,I f,D.J 8 E,D.J 6 Q,D.J 5 M,D.J 3 R,B q] [D.J 4 N,I e,I f,D.J 8 (E.set a.toNat (bj F G H au A (C.set b.toNat [B false]) K L)),D.J 6 Q,D.J 5 (M.set b.toNat [B true,I (a-1),I (c+d),B true,B true]),D.J 3 R,B q],aN.ro (ao b)] (aV.vals [al true]):=
 h.cd
theorem ahY(h:af (CU q b y N e f F Q M R r s a c t u G H au K A C E L v d w [.n w false,.v (a-1),.b t true,.b u false,.x E b [B x],.x M b [B z,I g,I i,B ic,B gL],.a .sub,.x F a (bj G H au K A C E L),.x C b [B jR],.e F a.toNat (bj G H au K A C E L),.p (a.toNat=a.toNat),.p (a.toNat=a.toNat),.p (a.toNat=a.toNat),.p (a.toNat=a.toNat),.p (a.toNat=a.toNat)])):
 cc 246 [aN.ref [D.J 4 N,I e,I f,D.J 8 F,D.J 6 Q,D.J 5 M,D.J 3 R,B q] [D.J 4 N,I e,I f,D.J 8 (F.set a.toNat (bj G H au K A (C.set b.toNat [B false]) E L)),D.J 6 Q,D.J 5 (M.set b.toNat [B true,I (a-1),I (c+d),B true,B x]),D.J 3 R,B q],aN.ro (ao b)] (aV.vals [al true]):=
 h.cd
theorem ahZ(h:af (CU q b y N e f E Q M R r s a c t u F G H au C A K L v d w [.n w false,.v (a-1),.b t false,.x A b [B x],.b u true,.x M b [B z,I g,I i,B ic,B gL],.a .sub,.x E a (bj F G H au C A K L),.x A b [B jR],.e E a.toNat (bj F G H au C A K L),.p (a.toNat=a.toNat),.p (a.toNat=a.toNat),.p (a.toNat=a.toNat),.p (a.toNat=a.toNat),.p (a.toNat=a.toNat),.p (a.toNat=a.toNat),.p (a.toNat=a.toNat)])):
 cc 246 [aN.ref [D.J 4 N,I e,I f,D.J 8 E,D.J 6 Q,D.J 5 M,D.J 3 R,B q] [D.J 4 N,I e,I f,D.J 8 (E.set a.toNat (bj F G H au C (A.set b.toNat [B false]) K L)),D.J 6 Q,D.J 5 (M.set b.toNat [B true,I (a-1),I (c+d),B x,B true]),D.J 3 R,B q],aN.ro (ao b)] (aV.vals [al true]):=
 h.cd
theorem ah0(h:af (CU q b z N e f F Q M R r s a c t u G H au K C A E L v d w [.n w false,.v (a-1),.b t false,.x A b [B x],.b u false,.x E b [B y],.x M b [B ic,I g,I i,B gL,B jR],.a .sub,.x F a (bj G H au K C A E L),.x A b [B t0],.e F a.toNat (bj G H au K C A E L),.p (a.toNat=a.toNat),.p (a.toNat=a.toNat),.p (a.toNat=a.toNat),.p (a.toNat=a.toNat),.p (a.toNat=a.toNat),.p (a.toNat=a.toNat),.p (a.toNat=a.toNat)])):
 cc 246 [aN.ref [D.J 4 N,I e,I f,D.J 8 F,D.J 6 Q,D.J 5 M,D.J 3 R,B q] [D.J 4 N,I e,I f,D.J 8 (F.set a.toNat (bj G H au K C (A.set b.toNat [B false]) E L)),D.J 6 Q,D.J 5 (M.set b.toNat [B true,I (a-1),I (c+d),B x,B y]),D.J 3 R,B q],aN.ro (ao b)] (aV.vals [al true]):=
 h.cd
def CV(q:Bool)(a:Int)(r:Bool)(A:ah)(b c:Int)(C E F G:ah)(s t:Bool)(d e:Int)(u v:Bool)(H au K L M N P Q:ah)(w:Bool)(f:Int)(x:Bool)(g i:Int)(y z:Bool)(l:List O):List O:=OP q a r A b c C E F G s t d e u v H au K L M N P Q w f (.n t false::.b (decide (d>0)) false::.x F a [B x,I g,I i,B y,B z]::l)
theorem ajs(h:af (CV t a y E d e C N A Q u v b c q r R S bz V F G X Y w f z j k ic gL [.n q true,.x G a [B x],.n x true,.b (c+f==0) true,.b r true,.a (.dm [some [D.J 4 H,I g,I i,D.J 8 au,D.J 6 K,D.J 5 L,D.J 3 M,B s],none,none] (aV.vals [])),.p (bZ prog 317 [aN.ref [D.J 4 E,I d,I e,D.J 8 C,D.J 6 N,D.J 5 (A.set a.toNat [B false,I b,I c,B q,B r]),D.J 3 Q,B t] [D.J 4 H,I g,I i,D.J 8 au,D.J 6 K,D.J 5 L,D.J 3 M,B s],aN.ro (ao a),aN.ro (al true)] (aV.vals []))])):
 cc 246 [aN.ref [D.J 4 E,I d,I e,D.J 8 C,D.J 6 N,D.J 5 A,D.J 3 Q,B t] [D.J 4 H,I g,I i,D.J 8 au,D.J 6 K,D.J 5 L,D.J 3 M,B s],aN.ro (ao a)] (aV.vals [al true]):=
 h.cd
theorem ajt(h:af (CV t a z E d e C Q A R u v b c q r S bz V X F G H Y w f ic j k gL jR [.n q true,.x G a [B x],.n x true,.b (c+f==0) true,.b r false,.x H a [B y],.a (.dm [some [D.J 4 au,I g,I i,D.J 8 K,D.J 6 L,D.J 5 M,D.J 3 N,B s],none,none] (aV.vals [])),.p (bZ prog 317 [aN.ref [D.J 4 E,I d,I e,D.J 8 C,D.J 6 Q,D.J 5 (A.set a.toNat [B false,I b,I c,B q,B r]),D.J 3 R,B t] [D.J 4 au,I g,I i,D.J 8 K,D.J 6 L,D.J 5 M,D.J 3 N,B s],aN.ro (ao a),aN.ro (al y)] (aV.vals []))])):
 cc 246 [aN.ref [D.J 4 E,I d,I e,D.J 8 C,D.J 6 Q,D.J 5 A,D.J 3 R,B t] [D.J 4 au,I g,I i,D.J 8 K,D.J 6 L,D.J 5 M,D.J 3 N,B s],aN.ro (ao a)] (aV.vals [al true]):=
 h.cd
theorem aju(h:af (CV r a x E d e C H A au s t b c q u K L M N F G Q R v f y g i z ic [.n q true,.x G a [B w],.n w true,.b (c+f==0) false])):
 cc 246 [aN.ref [D.J 4 E,I d,I e,D.J 8 C,D.J 6 H,D.J 5 A,D.J 3 au,B r] [D.J 4 E,I d,I e,D.J 8 C,D.J 6 H,D.J 5 (A.set a.toNat [B false,I b,I c,B q,B u]),D.J 3 au,B r],aN.ro (ao a)] (aV.vals [al true]):=
 h.cd
theorem ajv(h:af (CV r a x E c e C H A au s t b d q u K L M N F G Q R v f y g i z ic [.n q true,.x G a [B w],.n w false])):
 cc 246 [aN.ref [D.J 4 E,I c,I e,D.J 8 C,D.J 6 H,D.J 5 A,D.J 3 au,B r] [D.J 4 E,I c,I e,D.J 8 C,D.J 6 H,D.J 5 (A.set a.toNat [B false,I b,I d,B q,B u]),D.J 3 au,B r],aN.ro (ao a)] (aV.vals [al true]):=
 h.cd
theorem ajw(h:af (CV r a w E c e C G A H s t b d q u au K L M F N Q R v f x g i y z [.n q false])):
 cc 246 [aN.ref [D.J 4 E,I c,I e,D.J 8 C,D.J 6 G,D.J 5 A,D.J 3 H,B r] [D.J 4 E,I c,I e,D.J 8 C,D.J 6 G,D.J 5 (A.set a.toNat [B false,I b,I d,B q,B u]),D.J 3 H,B r],aN.ro (ao a)] (aV.vals [al true]):=
 h.cd
theorem ajx(h:af [.b (decide ((A.length:Int)>0)) true,.p ((0:Int)<=0),.p (0<(A.length:Int)),.e A 0 (bj K L C E F G H au),.r 213 [.agg (bj K L C E F G H au),ao a] [al q]]):
 aw 315 [.agg (cl M b c A N Q R),ao a] [al q]:=
 h.of
def xq(A C E F G H au K:ah)(a b:Int):aF:=bf 22 [(1,a1 a),(2,aT 2),(5,a1 b)] [(2,[.J .free 5 A,.J .free 5 C,.J .free 5 E,.J .free 4 F,.J .free 1 G,.J .free 1 H,.J .free 1 au,.J .free 2 K])]
def K7(q:Bool):aF:=bf 22 [(4,.aI (.one (.bc q)))] []
theorem ajy(h:af [.i A c (bx d a e f g),.b (decide (a<=b)) true]):
 aY (aq f342 0) (xq C E A F G H au K b c) .ret (K7 true):=
 h.aW [4] []
theorem ajz(h:af [.i A a (bx d c e f g),.b (decide (c<=b)) false,.u a]):
 aY (aq f342 0) (xq C E A F G H au K b a) .normal (xq C E A F G H au K b (a+1)):=
 h.aW [5,2,1] [2]
def Vi:aF:=bf 22 [] []
theorem ajA(h:af [.f A a false]):
 aY (aq f342 0) (xq C E A F G H au K b a) (.exit 0) Vi:=
 h.aW [] []
theorem ajB(h:af [.l [] [5,2,1] [2] (aq f342 0) (xq A C E F G H au K a 0) .ret (K7 q)]):
 aw 342 [.agg (bj A C E F G H au K),ao a] [al q]:=
 h.of
theorem ajC(h:af [.l [] [5,2,1] [2] (aq f342 0) (xq A C E F G H au K a 0) (.exit 0) Vi]):
 aw 342 [.agg (bj A C E F G H au K),ao a] [al false]:=
 h.of
theorem ajD(h:af [.r 342 [.agg (bj A C E F G H au K),ao a] [al q],.n q true,.r 343 [.agg (bj A C E F G H au K),ao a] [ao b]]):
 aw 316 [.agg (bj A C E F G H au K),ao a] [al (b==0)]:=
 h.of
theorem ajE(h:af [.r 342 [.agg (bj A C E F G H au K),ao a] [al q],.n q false]):
 aw 316 [.agg (bj A C E F G H au K),ao a] [al false]:=
 h.of
theorem ajF(h:af [.r 116 [aM 5 E,ao a] [aM 5 C],.r 116 [aM 5 F,ao a] [aM 5 A],.v ((C.length:Int)+(A.length:Int))]):
 aw 343 [.agg (bj E F G H au K L M),ao a] [ao ((C.length:Int)+(A.length:Int))]:=
 h.of
