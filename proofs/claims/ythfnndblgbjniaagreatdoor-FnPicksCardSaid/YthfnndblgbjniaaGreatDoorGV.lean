import Derived.Test.YthfnndblgbjniaaGreatDoorGE
namespace Go.Proofs.YthfnndblgbjniaaGreatDoor
open Go.Sx Go.RowKit Go.Proofs.Tryz
variable {a b c d e f g i j k l m n o p a0 ef b6 e0 cS d0 bz f0 i0 j0 dk eW m0 kv sC jr : Int} {A C E F G H ah K L M N Q R S a1 V X Y Z c9 ej ew fi fj fk eF iC iD jG jH jI : af} {q r s t u v w x y z f' q1 iR tU hn bE b0 ch gu rL t0 t1 t2 t3 fy gK kk qK v0 v1 v2 v3 w0 w1 fO e9 ix jB lH eD eX z0 tf z2 : Bool}
theorem agP(h:ae [.g ([]:af) A 8,.h A]):
 al 125 [.agg (bk a b c A)] [.agg (bk a b c ([]++A))]:=
 h.of
def Aw(A:af)(a:Int)(C:af)(b c d e:Int):aF:=bf 27 [(2,aS 2),(3,aS 3),(12,du 4 A),(13,aU (A.length:Int)),(14,aU a)] [(3,[aw 23 4 C,au b,au c]),(2,[.v (aP),au d,au e])]
theorem agQ(h:ae [.i A a (bk l e f F),.r 125 [.agg (bk l e f F)] [.agg (bk b c d C)],.a .wr,.g E [(bk b c d C)] 48,.u a]):
 aY (ap f75 0) (Aw A a E g i j k) .normal (Aw A (a+1) (E++[(bk b c d C)]) g i j k):=
 h.aT [14,13,12,3,2] [3,2]
def TS(A:af)(a b c d:Int):aF:=bf 27 [(2,aS 2),(3,aS 3)] [(3,[aw 23 4 A,au a,au b]),(2,[.v (aP),au c,au d])]
theorem agR(h:ae [.f A a false]):
 aY (ap f75 0) (Aw A a C b c d e) (.exit 0) (TS C b c d e):=
 h.aT [3,2] [3,2]
theorem agS(h:ae [.l [(4000000,23,4)] [14,13,12,3,2] [3,2] (ap f75 0) (Aw A 0 [] a b 0 0) (.exit 0) (TS C c d e f)]):
 al 75 [.agg (bq A a b)] [.agg (bq C c d)]:=
 h.of
theorem agT(h:ae [.r 126 [aO 5 A] [aO 5 C]]):
 al 77 [.agg (bT a A b c d e)] [.agg (bT a C b c d e)]:=
 h.of
theorem agU(h:ae [.r 126 [aO 5 G] [aO 5 N],.r 126 [aO 5 H] [aO 5 Q],.r 126 [aO 5 L] [aO 5 ah],.r 127 [aO 4 M] [aO 4 K],.g ([]:af) A 8,.h A,.g ([]:af) C 1,.h C,.g ([]:af) E 1,.h E,.g ([]:af) F 16,.h F]):
 al 76 [.agg (aX G H L M A C E F)] [.agg (aX N Q ah K ([]++A) ([]++C) ([]++E) ([]++F))]:=
 h.of
def Ax(A:af)(a:Int)(ah:af)(d e:Int)(K L M:af)(f g:Int)(C:af)(b c:Int)(E F G H:af):aF:=bf 49 [(1,aS 1),(2,aS 2),(3,aS 3),(19,du 8 A),(20,aU (A.length:Int)),(21,aU a)] [(3,[aw 110000 4 ah,au d,au e,aw 30 8 K,.v (aP),aw 13 5 L,aw 16 3 M]),(2,[.v (aP),au f,au g,.v (aP),.v (aP),.v (aP),.v (aP)]),(1,[.J .free 4 C,au b,au c,.J .free 8 E,.J .free 6 F,.J .free 5 G,.J .free 3 H])]
theorem agV(h:ae [.i C a (aX Z c9 ej ew fi fj fk eF),.r 76 [.agg (aX Z c9 ej ew fi fj fk eF)] [.agg (aX E F G H ah K L M)],.a .wr,.g A [(aX E F G H ah K L M)] 192,.u a]):
 aY (ap f38 0) (Ax C a N b c A Q R d e S f g a1 V X Y) .normal (Ax C (a+1) N b c (A++[(aX E F G H ah K L M)]) Q R d e S f g a1 V X Y):=
 h.aT [21,20,19,3,1,2] [3,2,1]
def TT(A:af)(a c:Int)(H ah K:af)(d e:Int)(L:af)(f b:Int)(C E F G:af):aF:=bf 49 [(1,aS 1),(2,aS 2),(3,aS 3)] [(3,[aw 110000 4 A,au a,au c,aw 30 8 H,.v (aP),aw 13 5 ah,aw 16 3 K]),(2,[.v (aP),au d,au e,.v (aP),.v (aP),.v (aP),.v (aP)]),(1,[.J .free 4 L,au f,au b,.J .free 8 C,.J .free 6 E,.J .free 5 F,.J .free 3 G])]
theorem agW(h:ae [.f M a false]):
 aY (ap f38 0) (Ax M a A b c C E F d e G f g H ah K L) (.exit 0) (TT A b c C E F d e G f g H ah K L):=
 h.aT [1,3,2] [3,2,1]
def Ay(A:af)(a:Int)(C:af)(c d:Int)(E F G H:af)(e b:Int):aF:=bf 49 [(2,aS 2),(3,aS 3),(34,du 6 A),(35,aU (A.length:Int)),(36,aU a)] [(3,[aw 110000 4 C,au c,au d,aw 30 8 E,aw 45 6 F,aw 13 5 G,aw 16 3 H]),(2,[.v (aP),au e,au b,.v (aP),.v (aP),.v (aP),.v (aP)])]
theorem agX(h:ae [.i A a (bT l K m n o p),.r 77 [.agg (bT l K m n o p)] [.agg (bT b E c d e f)],.a .wr,.g C [(bT b E c d e f)] 64,.u a]):
 aY (ap f38 1) (Ay A a F g i G C H ah j k) .normal (Ay A (a+1) F g i G (C++[(bT b E c d e f)]) H ah j k):=
 h.aT [36,35,34,3,2] [3,2]
def TU(A:af)(a b:Int)(C E F G:af)(c d:Int):aF:=bf 49 [(2,aS 2),(3,aS 3)] [(3,[aw 110000 4 A,au a,au b,aw 30 8 C,aw 45 6 E,aw 13 5 F,aw 16 3 G]),(2,[.v (aP),au c,au d,.v (aP),.v (aP),.v (aP),.v (aP)])]
theorem agY(h:ae [.f A a false]):
 aY (ap f38 1) (Ay A a C b c E F G H d e) (.exit 2) (TU C b c E F G H d e):=
 h.aT [3,2] [3,2]
theorem agZ(h:ae [.r 75 [.agg (bq E a b)] [.agg (bq V j k)],.g ([]:af) A 32,.h A,.g ([]:af) C 24,.h C,.l [(4000003,30,8)] [21,20,19,3,1,2] [3,2,1] (ap f38 0) (Ax F 0 V j k [] ([]++A) ([]++C) 0 0 E a b F a1 A C) (.exit 0) (TT G c d H ah K e f X l m Y L Z c9),.l [(4000004,45,6)] [36,35,34,3,2] [3,2] (ap f38 1) (Ay L 0 G c d H [] ah K e f) (.exit 2) (TU M g i N Q R S n o)]):
 al 38 [.agg (a8 E a b F a1 A C)] [.agg (a8 M g i N Q R S)]:=
 h.of
theorem ag0(h:ae [.g ([]:af) A 40,.h A]):
 al 137 [.agg (bT a A b c d e)] [.agg (bT a ([]++A) b c d e)]:=
 h.of
def Az(a:Int)(A:af)(b c d e:Int)(C:af)(f g:Int):aF:=bf 33 [(1,aS 1),(2,aS 2),(3,aS 3),(4,aU a)] [(3,[aw 7 4 A,au b,au c]),(2,[.v (aP),au d,au e]),(1,[.J .free 4 C,au f,au g])]
theorem ag1(h:ae [.i E a (bk b c d A),.a .wr,.g ([]:af) A 8,.h A,.g C [(bk b c d ([]++A))] 48,.u a]):
 aY (ap f135 0) (Az a C g i j k E e f) .normal (Az (a+1) (C++[(bk b c d ([]++A))]) g i j k E e f):=
 h.aT [4,1,3,2] [3,2,1]
def TV(A:af)(a b c d:Int):aF:=bf 33 [(2,aS 2),(3,aS 3)] [(3,[aw 7 4 A,au a,au b]),(2,[.v (aP),au c,au d])]
theorem ag2(h:ae [.f C a false]):
 aY (ap f135 0) (Az a A b c d e C f g) (.exit 0) (TV A b c d e):=
 h.aT [3,2] [3,2]
theorem agt(h:ae [.l [] [4,1,3,2] [3,2,1] (ap f135 0) (Az 0 [] a b 0 0 A a b) (.exit 0) (TV C c d e f)]):
 al 135 [.agg (bq A a b)] [.agg (bq C c d)]:=
 h.of
theorem agu(h:ae [.g ([]:af) A 40,.h A,.g ([]:af) C 40,.h C,.g ([]:af) E 40,.h E,.g ([]:af) F 32,.h F,.g ([]:af) G 8,.h G,.g ([]:af) H 1,.h H,.g ([]:af) ah 1,.h ah,.g ([]:af) K 16,.h K]):
 al 136 [.agg (aX A C E F G H ah K)] [.agg (aX ([]++A) ([]++C) ([]++E) ([]++F) ([]++G) ([]++H) ([]++ah) ([]++K))]:=
 h.of
def AA(a:Int)(A:af)(d e:Int)(H ah K:af)(f g:Int)(L:af)(b c:Int)(C E F G:af):aF:=bf 55 [(1,aS 1),(2,aS 2),(3,aS 3),(4,aU a)] [(3,[aw 90000 4 A,au d,au e,aw 34 8 H,.v (aP),aw 9 5 ah,aw 13 3 K]),(2,[.v (aP),au f,au g,.v (aP),.v (aP),.v (aP),.v (aP)]),(1,[.J .free 4 L,au b,au c,.J .free 8 C,.J .free 6 E,.J .free 5 F,.J .free 3 G])]
theorem agv(h:ae [.i C a (aX Y Z c9 ej ew fi fj fk),.r 136 [.agg (aX Y Z c9 ej ew fi fj fk)] [.agg (aX E F G H ah K L M)],.a .wr,.g A [(aX E F G H ah K L M)] 192,.u a]):
 aY (ap f83 0) (AA a N b c A Q R d e S f g C a1 V X) .normal (AA (a+1) N b c (A++[(aX E F G H ah K L M)]) Q R d e S f g C a1 V X):=
 h.aT [4,1,3,2] [3,2,1]
def TW(A:af)(a c:Int)(H ah K:af)(d e:Int)(L:af)(f b:Int)(C E F G:af):aF:=bf 55 [(1,aS 1),(2,aS 2),(3,aS 3)] [(3,[aw 90000 4 A,au a,au c,aw 34 8 H,.v (aP),aw 9 5 ah,aw 13 3 K]),(2,[.v (aP),au d,au e,.v (aP),.v (aP),.v (aP),.v (aP)]),(1,[.J .free 4 L,au f,au b,.J .free 8 C,.J .free 6 E,.J .free 5 F,.J .free 3 G])]
theorem agw(h:ae [.f A a false]):
 aY (ap f83 0) (AA a C b c E F G d e H f g A ah K L) (.exit 0) (TW C b c E F G d e H f g A ah K L):=
 h.aT [1,3,2] [3,2,1]
def AB(a:Int)(A:af)(d e:Int)(ah K L M:af)(f g:Int)(C:af)(b c:Int)(E F G H:af):aF:=bf 55 [(1,aS 1),(2,aS 2),(3,aS 3),(5,aU a)] [(3,[aw 90000 4 A,au d,au e,aw 34 8 ah,aw 52 6 K,aw 9 5 L,aw 13 3 M]),(2,[.v (aP),au f,au g,.v (aP),.v (aP),.v (aP),.v (aP)]),(1,[.J .free 4 C,au b,au c,.J .free 8 E,.J .free 6 F,.J .free 5 G,.J .free 3 H])]
theorem agx(h:ae [.i C a (bT n Q o p a0 b6),.r 137 [.agg (bT n Q o p a0 b6)] [.agg (bT b E c d e f)],.a .wr,.g A [(bT b E c d e f)] 64,.u a]):
 aY (ap f83 1) (AB a F g i G A H ah j k K l m L C M N) .normal (AB (a+1) F g i G (A++[(bT b E c d e f)]) H ah j k K l m L C M N):=
 h.aT [5,1,3,2] [3,2,1]
def TX(A:af)(a b:Int)(C E F G:af)(c d:Int):aF:=bf 55 [(2,aS 2),(3,aS 3)] [(3,[aw 90000 4 A,au a,au b,aw 34 8 C,aw 52 6 E,aw 9 5 F,aw 13 3 G]),(2,[.v (aP),au c,au d,.v (aP),.v (aP),.v (aP),.v (aP)])]
theorem agy(h:ae [.f H a false]):
 aY (ap f83 1) (AB a A b c C E F G d e ah f g K H L M) (.exit 2) (TX A b c C E F G d e):=
 h.aT [3,2] [3,2]
theorem agz(h:ae [.r 135 [.agg (bq E a b)] [.agg (bq c9 l m)],.g ([]:af) A 32,.h A,.g ([]:af) C 24,.h C,.l [(4000003,34,8)] [4,1,3,2] [3,2,1] (ap f83 0) (AA 0 c9 l m [] ([]++A) ([]++C) 0 0 E a b V Z A C) (.exit 0) (TW F c d G H ah e f K g i L M N Q),.l [(4000004,52,6)] [5,1,3,2] [3,2,1] (ap f83 1) (AB 0 F c d G [] H ah e f K g i L M N Q) (.exit 2) (TX R j k S a1 X Y n o)]):
 al 83 [.agg (a8 E a b V Z A C)] [.agg (a8 R j k S a1 X Y)]:=
 h.of
theorem agA(h:ae [.r 83 [.agg (a8 A a b C E F G)] [.agg (a8 M c d H ah K L)],.r 84 [.agg (a8 A a b C E F G)] [ai q]]):
 b9 44 [aM.ro (.agg (a8 A a b C E F G))] (aV.new [D.J 4 M,I c,I d,D.J 8 H,D.J 6 ah,D.J 5 K,D.J 3 L,B q]):=
 h.b'
def qC(a b:Int)(A:af)(c d:Int)(C E F G:af)(q:Bool):aF:=bf 93 [(0,aS 1000000000),(1,aU a),(5,aU b)] [(1000000000,[aw 900000000 4 A,au c,au d,aw 900000003 8 C,aw 900000004 6 E,aw 900000005 5 F,aw 900000006 3 G,.bg q])]
theorem agB(h:ae [.f A a true,.b q true,.x A a [I e,I f,B r],.b (e != b) true,.u a]):
 aY (ap f45 0) (qC b a C c d E F G A q) .normal (qC b (a+1) C c d E F G A q):=
 h.aT [5,0,1] [1000000000]
def EE(q:Bool)(A:af)(a b:Int)(C E F G:af)(r:Bool):aF:=bf 93 [(0,aS 1000000000),(4,.aC (.one (.bg q)))] [(1000000000,[aw 900000000 4 A,au a,au b,aw 900000003 8 C,aw 900000004 6 E,aw 900000005 5 F,aw 36 3 G,.bg r])]
def Xn(A:af)(a:Int)(q:Bool)(b c:Int)(r:Bool)(d:Int)(C E F G H ah K L M:af)(s:Bool)(l:List O):List O:=.f A a true::.b q true::.x A a [I b,I c,B r]::.b (b != d) false::.a .sub::.p ((0:Int)<=none.getD 0)::.p (none.getD 0<=(some a).getD (A.length:Int))::.p ((some a).getD (A.length:Int)<=(A.length:Int))::.p ((([]:af).length+(List.take (((some a).getD (A.length:Int)).toNat-0) (List.drop 0 A)).length)*24<=140737488355328)::.p (([]:af).length+(List.take (((some a).getD (A.length:Int)).toNat-0) (List.drop 0 A)).length<=9223372036854775807)::.p (Flat (List.take (((some a).getD (A.length:Int)).toNat-0) (List.drop 0 A)))::.u a::.p (0<=(some (a+1)).getD 0)::.p ((some (a+1)).getD 0<=none.getD (A.length:Int))::.p (none.getD (A.length:Int)<=(A.length:Int))::.p ((([]++List.take (((some a).getD (A.length:Int)).toNat-0) (List.drop 0 A)).length+(List.take (A.length-((some (a+1)).getD 0).toNat) (List.drop ((some (a+1)).getD 0).toNat A)).length)*24<=140737488355328)::.p (([]++List.take (((some a).getD (A.length:Int)).toNat-0) (List.drop 0 A)).length+(List.take (A.length-((some (a+1)).getD 0).toNat) (List.drop ((some (a+1)).getD 0).toNat A)).length<=9223372036854775807)::.p (Flat (List.take (A.length-((some (a+1)).getD 0).toNat) (List.drop ((some (a+1)).getD 0).toNat A)))::.x C d (aX E F G H ah K L M)::.r 21 [.agg (aX E F G H ah K L M),ag c] [ai s]::l
theorem agC(h:ae (Xn A a r f c q b C F G H ah K L M E s [.n s true,.a .sub,.x C b (aX F G H ah K L M E),.g E [[I c,B q]] 16,.e C b.toNat (aX F G H ah K L M E),.p ((aX F G H ah K L M E)[7]?=some (D.J 2 E)),.h [[I c,B q]],.p (C=C),.p (C=C),.p (b.toNat=b.toNat),.p (E=E),.p (C=C),.p (C=C),.p (C=C),.p (C=C),.p (C=C),.p (b.toNat=b.toNat),.p (E=E),.x C b (aX F G H ah K L M E),.p (b.toNat=b.toNat)])):
 aY (ap f45 0) (qC b a N d e C Q R A r) .ret (EE true N d e (C.set b.toNat (aX F G H ah K L M (E++[[I c,B q]]))) Q R ([]++List.take (((some a).getD (A.length:Int)).toNat-0) (List.drop 0 A)++List.take (A.length-((some (a+1)).getD 0).toNat) (List.drop ((some (a+1)).getD 0).toNat A)) r):=
 h.aT [4,0] [1000000000]
theorem ah3(h:ae (Xn A a q e f s b C H ah K L M N Q R r [.n r false])):
 aY (ap f45 0) (qC b a E c d C F G A q) .ret (EE true E c d C F G ([]++List.take (((some a).getD (A.length:Int)).toNat-0) (List.drop 0 A)++List.take (A.length-((some (a+1)).getD 0).toNat) (List.drop ((some (a+1)).getD 0).toNat A)) q):=
 h.aT [4,0] [1000000000]
def K8(A:af)(a b:Int)(C E F G:af)(q:Bool):aF:=bf 93 [(0,aS 1000000000)] [(1000000000,[aw 900000000 4 A,au a,au b,aw 900000003 8 C,aw 900000004 6 E,aw 900000005 5 F,aw 900000006 3 G,.bg q])]
theorem ah4(h:ae [.f A c true,.b q false]):
 aY (ap f45 0) (qC d c C a b E F G A q) (.exit 0) (K8 C a b E F G A q):=
 h.aT [0] [1000000000]
theorem TY(h:ae [.f A c false]):
 aY (ap f45 0) (qC d c C a b E F G A q) (.exit 0) (K8 C a b E F G A q):=
 h.aT [0] [1000000000]
theorem ah5(h:ae [.l [] [5,0,1] [1000000000] (ap f45 0) (qC e 0 A a d ah K L M r) .ret (EE s C b c E F G H q)]):
 b9 45 [aM.ref [D.J 4 A,I a,I d,D.J 8 ah,D.J 6 K,D.J 5 L,D.J 3 M,B r] [D.J 4 C,I b,I c,D.J 8 E,D.J 6 F,D.J 5 G,D.J 3 H,B q],aM.ro (ag e)] (aV.vals [ai s]):=
 h.b'
theorem K9(h:ae [.l [] [5,0,1] [1000000000] (ap f45 0) (qC e 0 A a d H ah K L r) (.exit 0) (K8 M b c C E F G q)]):
 b9 45 [aM.ref [D.J 4 A,I a,I d,D.J 8 H,D.J 6 ah,D.J 5 K,D.J 3 L,B r] [D.J 4 M,I b,I c,D.J 8 C,D.J 6 E,D.J 5 F,D.J 3 G,B q],aM.ro (ag e)] (aV.vals [ai false]):=
 h.b'
theorem ah6(h:ae []):
 al 40 [.agg [I a,I c,B q],.one (.ptr [I b])] [ai (a==b)]:=
 h.of
def Xo(A:af)(a b:Int)(C E F G H:af)(c d:Int)(ah K L M:af)(l:List O):List O:=.r 38 [.agg (a8 A a b C E F G)] [.agg (a8 H c d ah K L M)]::l
def NA(A:af)(a b:Int)(C E F G H:af)(c d:Int)(ah K L M:af)(e f:Int)(l:List O):List O:=Xo A a b C E F G H c d ah K L M (.r 39 [aO 3 G,.one (.a8 40 [D.ptr [I e]])] [ag f]::l)
theorem ah7(h:ae (NA C a d ah K L A M f b E F G H e c [.b (decide (c<0)) true])):
 al 7 [.agg (a8 C a d ah K L A),ag e] [.agg (a8 M f b E F G H),ai false]:=
 h.of
theorem ah8(h:ae (NA C a b E F G A M f c H ah K L e d [.b (decide (d<0)) false,.r 41 [.agg (a8 C a b E F G A)] [ai q],.n q true])):
 al 7 [.agg (a8 C a b E F G A),ag e] [.agg (a8 M f c H ah K L),ai false]:=
 h.of
def Xp(A:af)(a b:Int)(C E F G H:af)(c d:Int)(ah K L M:af)(e f:Int)(q:Bool)(g i:Int)(r:Bool)(N P Q R S a1 V X Y:af)(s:Bool)(l:List O):List O:=NA A a b C E F G H c d ah K L M e f (.b (decide (f<0)) false::.r 41 [.agg (a8 A a b C E F G)] [ai q]::.n q false::.x G f [I g,I i,B r]::.a (.qH [[some none],[none],[none]] 0 [] [aO 3 N])::.u f::.p (kl prog 42 [GA.one (eL.e3 3 M none),GA.one (eL.ro (I f)),GA.one (eL.ro (I (f+1)))] [aO 3 N])::.x C e (aX P Q R S a1 V X Y)::.r 43 [.agg (aX P Q R S a1 V X Y),ag i] [ai s]::l)
theorem ah9(h:ae (Xp Q d e N S a1 M iC g f A V X Y a b r i c q R Z c9 ej ew fi fj fk eF s [.n s true,.a .sub,.x A a (aX E F G H ah K L C),.g C [[I c,B q]] 16,.e A a.toNat (aX E F G H ah K L C),.p ((aX E F G H ah K L C)[7]?=some (D.J 2 C)),.h [[I c,B q]],.p (A=A),.p (A=A),.p (A=A),.p (A=A),.p (A=A),.p (A=A),.p (a.toNat=a.toNat),.p (C=C),.x A a (aX E F G H ah K L C),.p (a.toNat=a.toNat)])):
 al 7 [.agg (a8 Q d e N S a1 M),ag a] [.agg (a8 iC g f (A.set a.toNat (aX E F G H ah K L (C++[[I c,B q]]))) V X R),ai true]:=
 h.of
theorem aia(h:ae (Xp E b c C G H A Z g e ah K L M d a q i f s F N Q R S a1 V X Y r [.n r false])):
 al 7 [.agg (a8 E b c C G H A),ag d] [.agg (a8 Z g e ah K L F),ai true]:=
 h.of
def AD(a:Int)(q:Bool)(b:Int)(A:af)(c d:Int)(C E F G:af)(r:Bool):aF:=bf 52 [(0,aS 1000000000),(1,aU a),(2,.aC (.one (.bg q))),(6,aU b)] [(1000000000,[aw 900000000 4 A,au c,au d,aw 900000003 8 C,aw 900000004 6 E,aw 900000005 5 F,aw 900000006 3 G,.bg r])]
theorem aib(h:ae [.f A a true,.g C [[I a,I b,B q]] 24,.h [[I a,I b,B q]],.u a]):
 aY (ap f166 0) (AD b q a E c d A F G C r) .normal (AD b q (a+1) E c d A F G (C++[[I a,I b,B q]]) r):=
 h.aT [6,0,1,2] [1000000000]
def TZ(A:af)(a b:Int)(C E F G:af)(q:Bool):aF:=bf 52 [(0,aS 1000000000)] [(1000000000,[aw 900000000 4 A,au a,au b,aw 900000003 8 C,aw 900000004 6 E,aw 900000005 5 F,aw 900000006 3 G,.bg q])]
theorem aic(h:ae [.f A a false]):
 aY (ap f166 0) (AD d r a C b c A E F G q) (.exit 0) (TZ C b c A E F G q):=
 h.aT [0] [1000000000]
theorem aid(h:ae [.a .sub,.p ((0:Int)<=0),.p (0<(A.length:Int)),.e A 0 (aX E F G H ah K L C),.g C [[I a,B q]] 16,.e A 0 (aX E F G H ah K L C),.p ((aX E F G H ah K L C)[7]?=some (D.J 2 C)),.h [[I a,B q]],.p (A=A),.p (A=A),.p (A=A),.p (A=A),.p (A=A),.p (0=0),.p (C=C),.p ((0:Int)<=0),.p (0<(A.length:Int)),.e A 0 (aX E F G H ah K L C),.p (0=0),.l [] [6,0,1,2] [1000000000] (ap f166 0) (AD a q 1 M b d (A.set 0 (aX E F G H ah K L (C++[[I a,B q]]))) V X Y s) (.exit 0) (TZ N c e Q R S a1 r)]):
 b9 166 [aM.ref [D.J 4 M,I b,I d,D.J 8 A,D.J 6 V,D.J 5 X,D.J 3 Y,B s] [D.J 4 N,I c,I e,D.J 8 Q,D.J 6 R,D.J 5 S,D.J 3 a1,B r],aM.ro (ag a),aM.ro (ai q)] (aV.vals []):=
 h.b'
theorem aie(h:ae [.n q true]):
 b9 115 [aM.ref [D.J 4 A,I a,I b,D.J 8 C,D.J 6 E,D.J 5 F,D.J 3 G,B q] [D.J 4 A,I a,I b,D.J 8 C,D.J 6 E,D.J 5 F,D.J 3 G,B q],aM.ro (ag c)] (aV.vals [ai false]):=
 h.b'
def Xa(q:Bool)(a:Int)(r:Bool)(l:List O):List O:=.n q false::.r 65 [ag a,ag 0,ag 3] [ai r]::l
theorem aif(h:ae (Xa q c r [.n r true])):
 b9 115 [aM.ref [D.J 4 A,I a,I b,D.J 8 C,D.J 6 E,D.J 5 F,D.J 3 G,B q] [D.J 4 A,I a,I b,D.J 8 C,D.J 6 E,D.J 5 F,D.J 3 G,B q],aM.ro (ag c)] (aV.vals [ai false]):=
 h.b'
def Xb(q:Bool)(a:Int)(r:Bool)(A:af)(b c:Int)(C E F G:af)(s:Bool)(l:List O):List O:=Xa q a r (.n r false::.r 164 [.agg (a8 A b c C E F G),ag a] [ai s]::l)
theorem aih(h:ae (Xb q c s A a b C E F G r [.b r true])):
 b9 115 [aM.ref [D.J 4 A,I a,I b,D.J 8 C,D.J 6 E,D.J 5 F,D.J 3 G,B q] [D.J 4 A,I a,I b,D.J 8 C,D.J 6 E,D.J 5 F,D.J 3 G,B q],aM.ro (ag c)] (aV.vals [ai false]):=
 h.b'
def Xc(q:Bool)(a:Int)(r:Bool)(A:af)(b c:Int)(C E F G:af)(s t:Bool)(d e:Int)(u v:Bool)(H ah K L M N P Q:af)(w:Bool)(l:List O):List O:=Xb q a r A b c C E F G s (.b s false::.x F a [B t,I d,I e,B u,B v]::.a .sub::.x C d (aX H ah K L M N P Q)::.r 165 [.agg (aX H ah K L M N P Q),ag a] [ai w]::l)
theorem aii(h:ae (Xc q a t E b c A F C G r u d e v w H ah K L M N Q R s [.n s true])):
 b9 115 [aM.ref [D.J 4 E,I b,I c,D.J 8 A,D.J 6 F,D.J 5 C,D.J 3 G,B q] [D.J 4 E,I b,I c,D.J 8 A,D.J 6 F,D.J 5 C,D.J 3 G,B q],aM.ro (ag a)] (aV.vals [ai false]):=
 h.b'
def Nq(q:Bool)(a:Int)(r:Bool)(A:af)(b c:Int)(C E F G:af)(s t:Bool)(d e:Int)(u v:Bool)(H ah K L M N P Q:af)(w:Bool)(f:Int)(l:List O):List O:=Xc q a r A b c C E F G s t d e u v H ah K L M N P Q w (.n w false::.x M a [I f]::.v (e+f)::l)
theorem aij(h:ae (Nq q a v F c d A S C a1 r s b e w x V X Y Z G c9 H ej t f [.n s true,.v ((A.length:Int)-1),.x H a [B u],.x C a [B y,I g,I i,B z,B f'],.a .sub,.p ((0:Int)<=0),.p (0<(A.length:Int)),.e A 0 (aX ah K L M N E Q R),.x E a [B hn],.e A 0 (aX ah K L M N E Q R),.p (b.toNat=0),.p (b.toNat=0),.p (0=0),.p (0=0),.p (b.toNat=0)])):
 b9 115 [aM.ref [D.J 4 F,I c,I d,D.J 8 A,D.J 6 S,D.J 5 C,D.J 3 a1,B q] [D.J 4 F,I c,I d,D.J 8 (A.set 0 (aX ah K L M N (E.set a.toNat [B false]) Q R)),D.J 6 S,D.J 5 (C.set a.toNat [B true,I ((A.length:Int)-1),I 0,B false,B u]),D.J 3 a1,B q],aM.ro (ag a)] (aV.vals [ai true]):=
 h.b'
def BW(q:Bool)(a:Int)(r:Bool)(A:af)(b c:Int)(C E F G:af)(s t:Bool)(d e:Int)(u v:Bool)(H ah K L M N P Q:af)(w:Bool)(f:Int)(x:Bool)(l:List O):List O:=Nq q a r A b c C E F G s t d e u v H ah K L M N P Q w f (.n t false::.b (decide (d>0)) true::.r 65 [ag (e+f),ag (-1000000),ag 1000000] [ai x]::l)
theorem aik(h:ae (BW q a v E b e A G C H r s c d w x ah K L M F N Q R t f u [.n u true])):
 b9 115 [aM.ref [D.J 4 E,I b,I e,D.J 8 A,D.J 6 G,D.J 5 C,D.J 3 H,B q] [D.J 4 E,I b,I e,D.J 8 A,D.J 6 G,D.J 5 C,D.J 3 H,B q],aM.ro (ag a)] (aV.vals [ai false]):=
 h.b'
theorem ail(h:ae (BW q b x N e f E Q M R r s a c t u F G H ah A C K L v d w [.n w false,.v (a-1),.b t true,.b u true,.x M b [B y,I g,I i,B z,B f'],.a .sub,.x E a (aX F G H ah A C K L),.x C b [B hn],.e E a.toNat (aX F G H ah A C K L),.p (a.toNat=a.toNat),.p (a.toNat=a.toNat),.p (a.toNat=a.toNat),.p (a.toNat=a.toNat),.p (a.toNat=a.toNat)])):
 b9 115 [aM.ref [D.J 4 N,I e,I f,D.J 8 E,D.J 6 Q,D.J 5 M,D.J 3 R,B q] [D.J 4 N,I e,I f,D.J 8 (E.set a.toNat (aX F G H ah A (C.set b.toNat [B false]) K L)),D.J 6 Q,D.J 5 (M.set b.toNat [B true,I (a-1),I (c+d),B true,B true]),D.J 3 R,B q],aM.ro (ag b)] (aV.vals [ai true]):=
 h.b'
theorem aim(h:ae (BW q b y N e f F Q M R r s a c t u G H ah K A C E L v d w [.n w false,.v (a-1),.b t true,.b u false,.x E b [B x],.x M b [B z,I g,I i,B f',B hn],.a .sub,.x F a (aX G H ah K A C E L),.x C b [B gu],.e F a.toNat (aX G H ah K A C E L),.p (a.toNat=a.toNat),.p (a.toNat=a.toNat),.p (a.toNat=a.toNat),.p (a.toNat=a.toNat),.p (a.toNat=a.toNat)])):
 b9 115 [aM.ref [D.J 4 N,I e,I f,D.J 8 F,D.J 6 Q,D.J 5 M,D.J 3 R,B q] [D.J 4 N,I e,I f,D.J 8 (F.set a.toNat (aX G H ah K A (C.set b.toNat [B false]) E L)),D.J 6 Q,D.J 5 (M.set b.toNat [B true,I (a-1),I (c+d),B true,B x]),D.J 3 R,B q],aM.ro (ag b)] (aV.vals [ai true]):=
 h.b'
theorem ain(h:ae (BW q b y N e f E Q M R r s a c t u F G H ah C A K L v d w [.n w false,.v (a-1),.b t false,.x A b [B x],.b u true,.x M b [B z,I g,I i,B f',B hn],.a .sub,.x E a (aX F G H ah C A K L),.x A b [B gu],.e E a.toNat (aX F G H ah C A K L),.p (a.toNat=a.toNat),.p (a.toNat=a.toNat),.p (a.toNat=a.toNat),.p (a.toNat=a.toNat),.p (a.toNat=a.toNat),.p (a.toNat=a.toNat),.p (a.toNat=a.toNat)])):
 b9 115 [aM.ref [D.J 4 N,I e,I f,D.J 8 E,D.J 6 Q,D.J 5 M,D.J 3 R,B q] [D.J 4 N,I e,I f,D.J 8 (E.set a.toNat (aX F G H ah C (A.set b.toNat [B false]) K L)),D.J 6 Q,D.J 5 (M.set b.toNat [B true,I (a-1),I (c+d),B x,B true]),D.J 3 R,B q],aM.ro (ag b)] (aV.vals [ai true]):=
 h.b'
theorem aio(h:ae (BW q b z N e f F Q M R r s a c t u G H ah K C A E L v d w [.n w false,.v (a-1),.b t false,.x A b [B x],.b u false,.x E b [B y],.x M b [B f',I g,I i,B hn,B gu],.a .sub,.x F a (aX G H ah K C A E L),.x A b [B t0],.e F a.toNat (aX G H ah K C A E L),.p (a.toNat=a.toNat),.p (a.toNat=a.toNat),.p (a.toNat=a.toNat),.p (a.toNat=a.toNat),.p (a.toNat=a.toNat),.p (a.toNat=a.toNat),.p (a.toNat=a.toNat)])):
 b9 115 [aM.ref [D.J 4 N,I e,I f,D.J 8 F,D.J 6 Q,D.J 5 M,D.J 3 R,B q] [D.J 4 N,I e,I f,D.J 8 (F.set a.toNat (aX G H ah K C (A.set b.toNat [B false]) E L)),D.J 6 Q,D.J 5 (M.set b.toNat [B true,I (a-1),I (c+d),B x,B y]),D.J 3 R,B q],aM.ro (ag b)] (aV.vals [ai true]):=
 h.b'
def BX(q:Bool)(a:Int)(r:Bool)(A:af)(b c:Int)(C E F G:af)(s t:Bool)(d e:Int)(u v:Bool)(H ah K L M N P Q:af)(w:Bool)(f:Int)(x:Bool)(g i:Int)(y z:Bool)(l:List O):List O:=Nq q a r A b c C E F G s t d e u v H ah K L M N P Q w f (.n t false::.b (decide (d>0)) false::.x F a [B x,I g,I i,B y,B z]::l)
theorem aip(h:ae (BX t a y E d e C N A Q u v b c q r R S a1 V F G X Y w f z j k f' hn [.n q true,.x G a [B x],.n x true,.b (c+f==0) true,.b r true,.a (.dB [some [D.J 4 H,I g,I i,D.J 8 ah,D.J 6 K,D.J 5 L,D.J 3 M,B s],none,none] (aV.vals [])),.p (b3 prog 166 [aM.ref [D.J 4 E,I d,I e,D.J 8 C,D.J 6 N,D.J 5 (A.set a.toNat [B false,I b,I c,B q,B r]),D.J 3 Q,B t] [D.J 4 H,I g,I i,D.J 8 ah,D.J 6 K,D.J 5 L,D.J 3 M,B s],aM.ro (ag a),aM.ro (ai true)] (aV.vals []))])):
 b9 115 [aM.ref [D.J 4 E,I d,I e,D.J 8 C,D.J 6 N,D.J 5 A,D.J 3 Q,B t] [D.J 4 H,I g,I i,D.J 8 ah,D.J 6 K,D.J 5 L,D.J 3 M,B s],aM.ro (ag a)] (aV.vals [ai true]):=
 h.b'
theorem aiq(h:ae (BX t a z E d e C Q A R u v b c q r S a1 V X F G H Y w f f' j k hn gu [.n q true,.x G a [B x],.n x true,.b (c+f==0) true,.b r false,.x H a [B y],.a (.dB [some [D.J 4 ah,I g,I i,D.J 8 K,D.J 6 L,D.J 5 M,D.J 3 N,B s],none,none] (aV.vals [])),.p (b3 prog 166 [aM.ref [D.J 4 E,I d,I e,D.J 8 C,D.J 6 Q,D.J 5 (A.set a.toNat [B false,I b,I c,B q,B r]),D.J 3 R,B t] [D.J 4 ah,I g,I i,D.J 8 K,D.J 6 L,D.J 5 M,D.J 3 N,B s],aM.ro (ag a),aM.ro (ai y)] (aV.vals []))])):
 b9 115 [aM.ref [D.J 4 E,I d,I e,D.J 8 C,D.J 6 Q,D.J 5 A,D.J 3 R,B t] [D.J 4 ah,I g,I i,D.J 8 K,D.J 6 L,D.J 5 M,D.J 3 N,B s],aM.ro (ag a)] (aV.vals [ai true]):=
 h.b'
theorem air(h:ae (BX r a x E d e C H A ah s t b c q u K L M N F G Q R v f y g i z f' [.n q true,.x G a [B w],.n w true,.b (c+f==0) false])):
 b9 115 [aM.ref [D.J 4 E,I d,I e,D.J 8 C,D.J 6 H,D.J 5 A,D.J 3 ah,B r] [D.J 4 E,I d,I e,D.J 8 C,D.J 6 H,D.J 5 (A.set a.toNat [B false,I b,I c,B q,B u]),D.J 3 ah,B r],aM.ro (ag a)] (aV.vals [ai true]):=
 h.b'
theorem ais(h:ae (BX r a x E c e C H A ah s t b d q u K L M N F G Q R v f y g i z f' [.n q true,.x G a [B w],.n w false])):
 b9 115 [aM.ref [D.J 4 E,I c,I e,D.J 8 C,D.J 6 H,D.J 5 A,D.J 3 ah,B r] [D.J 4 E,I c,I e,D.J 8 C,D.J 6 H,D.J 5 (A.set a.toNat [B false,I b,I d,B q,B u]),D.J 3 ah,B r],aM.ro (ag a)] (aV.vals [ai true]):=
 h.b'
theorem ait(h:ae (BX r a w E c e C G A H s t b d q u ah K L M F N Q R v f x g i y z [.n q false])):
 b9 115 [aM.ref [D.J 4 E,I c,I e,D.J 8 C,D.J 6 G,D.J 5 A,D.J 3 H,B r] [D.J 4 E,I c,I e,D.J 8 C,D.J 6 G,D.J 5 (A.set a.toNat [B false,I b,I d,B q,B u]),D.J 3 H,B r],aM.ro (ag a)] (aV.vals [ai true]):=
 h.b'
def Xq(A:af)(a b:Int)(C E F G H:af)(c d:Int)(ah K L M:af)(q:Bool)(l:List O):List O:=Xo A a b C E F G H c d ah K L M (.r 41 [.agg (a8 A a b C E F G)] [ai q]::l)
theorem ahD(h:ae (Xq A a b C E F G M d c H ah K L q [.n q true])):
 al 62 [.agg (a8 A a b C E F G),ag e] [.agg (a8 M d c H ah K L),ai false]:=
 h.of
def Xr(A:af)(a b:Int)(C E F G H:af)(c d:Int)(ah K L M:af)(q:Bool)(e:Int)(r:Bool)(l:List O):List O:=Xq A a b C E F G H c d ah K L M q (.n q false::.r 64 [ag e,ag 0,ag 3] [ai r]::l)
theorem ahE(h:ae (Xr A a b C E F G M e c H ah K L q d r [.n r true])):
 al 62 [.agg (a8 A a b C E F G),ag d] [.agg (a8 M e c H ah K L),ai false]:=
 h.of
def Xs(A:af)(a b:Int)(C E F G H:af)(c d:Int)(ah K L M:af)(q:Bool)(e:Int)(r:Bool)(N P Q R S a1 V X:af)(s:Bool)(l:List O):List O:=Xr A a b C E F G H c d ah K L M q e r (.n r false::.p ((0:Int)<=0)::.p (0<(C.length:Int))::.e C 0 (aX N P Q R S a1 V X)::.r 43 [.agg (aX N P Q R S a1 V X),ag e] [ai s]::l)
theorem ahF(h:ae (Xs C a b A E F G Y e d H ah K L q c r M N Q R S a1 V X s [.b s true])):
 al 62 [.agg (a8 C a b A E F G),ag c] [.agg (a8 Y e d H ah K L),ai false]:=
 h.of
def Xt(A:af)(a b:Int)(C E F G H:af)(c d:Int)(ah K L M:af)(q:Bool)(e:Int)(r:Bool)(N P Q R S a1 V X:af)(s t:Bool)(f g:Int)(u v:Bool)(Y Z dv gN gf gB gO H1:af)(w:Bool)(l:List O):List O:=Xs A a b C E F G H c d ah K L M q e r N P Q R S a1 V X s (.b s false::.x L e [B t,I f,I g,B u,B v]::.a .sub::.x ah f (aX Y Z dv gN gf gB gO H1)::.r 109 [.agg (aX Y Z dv gN gf gB gO H1),ag e] [ai w]::l)
theorem ahG(h:ae (Xt C b c A G H ah eF f d E K F L q a r M N Q R S a1 V X s u e g v w Y Z c9 ej ew fi fj fk t [.n t true])):
 al 62 [.agg (a8 C b c A G H ah),ag a] [.agg (a8 eF f d E K F L),ai false]:=
 h.of
def Xu(A:af)(a b:Int)(C E F G H:af)(c d:Int)(ah K L M:af)(q:Bool)(e:Int)(r:Bool)(N P Q R S a1 V X:af)(s t:Bool)(f g:Int)(u v:Bool)(Y Z dv gN gf gB gO H1:af)(w x:Bool)(i j:Int)(y z:Bool)(l:List O):List O:=Xt A a b C E F G H c d ah K L M q e r N P Q R S a1 V X s t f g u v Y Z dv gN gf gB gO H1 w (.n w false::.e L e.toNat [B x,I i,I j,B y,B z]::l)
theorem ahH(h:ae (Xu Q c d A R S a1 eF f e F V N X q b r Y Z c9 ej ew fi fj fk s w a g x y G H ah K L C E M t u i j z f' [.n u true,.a .sub,.e F a.toNat (aX G H ah K L C E M),.x E b [B v],.v ((A.length:Int)-1),.e N b.toNat [B hn,I k,I l,B gu,B t0],.a .sub,.e F a.toNat (aX G H ah K L C E M),.x C b [B fy],.e F a.toNat (aX G H ah K L C E M),.p (a.toNat=a.toNat),.p (a.toNat=a.toNat),.p (a.toNat=a.toNat)])):
 al 62 [.agg (a8 Q c d A R S a1),ag b] [.agg (a8 eF f e (F.set a.toNat (aX G H ah K L (C.set b.toNat [B false]) E M)) V (N.set b.toNat [B true,I ((A.length:Int)-1),I 0,B false,B v]) X),ai true]:=
 h.of
def Xv(A:af)(a b:Int)(C E F G H:af)(c d:Int)(ah K L M:af)(q:Bool)(e:Int)(r:Bool)(N P Q R S a1 V X:af)(s t:Bool)(f g:Int)(u v:Bool)(Y Z dv gN gf gB gO H1:af)(w x:Bool)(i j:Int)(y z q1:Bool)(k m:Int)(bE s1:Bool)(l:List O):List O:=Xu A a b C E F G H c d ah K L M q e r N P Q R S a1 V X s t f g u v Y Z dv gN gf gB gO H1 w x i j y z (.n x false::.e L e.toNat [B q1,I k,I m,B bE,B s1]::l)
def Xw(A:af)(a b:Int)(C E F G H:af)(c d:Int)(ah K L M:af)(q:Bool)(e:Int)(r:Bool)(N P Q R S a1 V X:af)(s t:Bool)(f g:Int)(u v:Bool)(Y Z dv gN gf gB gO H1:af)(w x:Bool)(i j:Int)(y z q1:Bool)(k m:Int)(bE s1 t1:Bool)(n o:Int)(gK v1:Bool)(p:Int)(w1:Bool)(l:List O):List O:=Xv A a b C E F G H c d ah K L M q e r N P Q R S a1 V X s t f g u v Y Z dv gN gf gB gO H1 w x i j y z q1 k m bE s1 (.b (decide (k>0)) true::.e L e.toNat [B t1,I n,I o,B gK,B v1]::.a .sub::.e ah f.toNat (aX Y Z dv gN gf gB gO H1)::.x gf e [I p]::.v (o+p)::.r 64 [ag (o+p),ag (-1000000),ag 1000000] [ai w1]::l)
theorem ahI(h:ae (Xw G b c C R S a1 eF j g E V A X q a r Y Z c9 ej ew fi fj fk s w d k x y H ah K L F M N Q t u l m z f' hn i n gu t0 fy o e v0 w0 f v [.n v true])):
 al 62 [.agg (a8 G b c C R S a1),ag a] [.agg (a8 eF j g E V A X),ai false]:=
 h.of
def F7(A:af)(a b:Int)(C E F G H:af)(c d:Int)(ah K L M:af)(q:Bool)(e:Int)(r:Bool)(N P Q R S a1 V X:af)(s t:Bool)(f g:Int)(u v:Bool)(Y Z dv gN gf gB gO H1:af)(w x:Bool)(i j:Int)(y z q1:Bool)(k m:Int)(bE s1 t1:Bool)(n o:Int)(gK v1:Bool)(p:Int)(w1 ix:Bool)(ef e0:Int)(eD tf:Bool)(bK:Int)(iR:Bool)(d1 e1:Int)(b0 s2 t2:Bool)(f1 g1:Int)(kk v2:Bool)(l:List O):List O:=Xw A a b C E F G H c d ah K L M q e r N P Q R S a1 V X s t f g u v Y Z dv gN gf gB gO H1 w x i j y z q1 k m bE s1 t1 n o gK v1 p w1 (.n w1 false::.e L e.toNat [B ix,I ef,I e0,B eD,B tf]::.a .sub::.e ah f.toNat (aX Y Z dv gN gf gB gO H1)::.x gf e [I bK]::.v (e0+bK)::.e L e.toNat [B iR,I d1,I e1,B b0,B s2]::.e (L.set e.toNat [B iR,I d1,I (e0+bK),B b0,B s2]) e.toNat [B t2,I f1,I g1,B kk,B v2]::l)
theorem ahJ(h:ae (F7 Q k l N R S a1 eF b6 p F V A X x a y Y Z c9 ej ew fi fj fk z lH b d0 z0 q1 G H ah K C E L M f' hn bz f0 bE t1 gK a0 i0 v1 w1 ix j0 m eD tf n gu iR dk c b0 t2 d q e eW r s kk m0 kv t0 v2 [.b t0 true,.e (A.set a.toNat [B q,I e,I (c+d),B r,B s]) a.toNat [B t,I f,I g,B fO,B u],.e ((A.set a.toNat [B q,I e,I (c+d),B r,B s]).set a.toNat [B t,I f,I g,B true,B u]) a.toNat [B jB,I sC,I jr,B eX,B fy],.b fy true,.e ((A.set a.toNat [B q,I e,I (c+d),B r,B s]).set a.toNat [B t,I f,I g,B true,B u]) a.toNat [B v,I i,I j,B w,B z2],.a .sub,.e F b.toNat (aX G H ah K C E L M),.x E a [B tU],.e F b.toNat (aX G H ah K C E L M),.p (b.toNat=b.toNat),.p (b.toNat=b.toNat),.p (b.toNat=b.toNat),.e (((A.set a.toNat [B q,I e,I (c+d),B r,B s]).set a.toNat [B t,I f,I g,B true,B u]).set a.toNat [B v,I i,I j,B w,B true]) a.toNat [B ch,I o,I ef,B rL,B t3],.v (o-1),.e (((A.set a.toNat [B q,I e,I (c+d),B r,B s]).set a.toNat [B t,I f,I g,B true,B u]).set a.toNat [B v,I i,I j,B w,B true]) a.toNat [B v0,I e0,I cS,B w0,B e9]])):
 al 62 [.agg (a8 Q k l N R S a1),ag a] [.agg [D.J 4 eF,I b6,I p,D.J 8 (F.set b.toNat (aX G H ah K C (E.set a.toNat [B false]) L M)),D.J 6 V,D.J 5 ((((A.set a.toNat [B q,I e,I (c+d),B r,B s]).set a.toNat [B t,I f,I g,B true,B u]).set a.toNat [B v,I i,I j,B w,B true]).set a.toNat [B v0,I (o-1),I cS,B w0,B e9]),D.J 3 X],ai true]:=
 h.of
theorem ahK(h:ae (F7 Q k l N R S a1 eF b6 p G V A X y a z Y Z c9 ej ew fi fj fk f' z0 b d0 q1 bE H ah K L C E F M hn gu bz f0 t1 gK v1 a0 i0 w1 ix eD j0 m tf iR n t0 b0 dk c t2 kk d q e eW r s v2 m0 kv fy fO [.b fy true,.e (A.set a.toNat [B q,I e,I (c+d),B r,B s]) a.toNat [B t,I f,I g,B jB,B u],.e ((A.set a.toNat [B q,I e,I (c+d),B r,B s]).set a.toNat [B t,I f,I g,B true,B u]) a.toNat [B eX,I sC,I jr,B z2,B v0],.b v0 false,.a .sub,.e G b.toNat (aX H ah K L C E F M),.x F a [B v],.e ((A.set a.toNat [B q,I e,I (c+d),B r,B s]).set a.toNat [B t,I f,I g,B true,B u]) a.toNat [B w,I i,I j,B x,B tU],.a .sub,.e G b.toNat (aX H ah K L C E F M),.x E a [B ch],.e G b.toNat (aX H ah K L C E F M),.p (b.toNat=b.toNat),.p (b.toNat=b.toNat),.p (b.toNat=b.toNat),.e (((A.set a.toNat [B q,I e,I (c+d),B r,B s]).set a.toNat [B t,I f,I g,B true,B u]).set a.toNat [B w,I i,I j,B x,B v]) a.toNat [B rL,I o,I ef,B t3,B qK],.v (o-1),.e (((A.set a.toNat [B q,I e,I (c+d),B r,B s]).set a.toNat [B t,I f,I g,B true,B u]).set a.toNat [B w,I i,I j,B x,B v]) a.toNat [B w0,I e0,I cS,B e9,B lH]])):
 al 62 [.agg (a8 Q k l N R S a1),ag a] [.agg [D.J 4 eF,I b6,I p,D.J 8 (G.set b.toNat (aX H ah K L C (E.set a.toNat [B false]) F M)),D.J 6 V,D.J 5 ((((A.set a.toNat [B q,I e,I (c+d),B r,B s]).set a.toNat [B t,I f,I g,B true,B u]).set a.toNat [B w,I i,I j,B x,B v]).set a.toNat [B w0,I (o-1),I cS,B e9,B lH]),D.J 3 X],ai true]:=
 h.of
theorem ahL(h:ae (F7 Q k l N R S a1 eF b6 p F V A X y a z Y Z c9 ej ew fi fj fk f' z0 b d0 q1 bE G H ah K C E L M hn gu bz f0 t1 gK v1 a0 i0 w1 ix eD j0 m tf iR n t0 b0 dk c t2 kk d q e eW r s v2 m0 kv fy fO [.b fy false,.a .sub,.e F b.toNat (aX G H ah K C E L M),.x E a [B t],.e (A.set a.toNat [B q,I e,I (c+d),B r,B s]) a.toNat [B u,I f,I g,B jB,B v],.e ((A.set a.toNat [B q,I e,I (c+d),B r,B s]).set a.toNat [B u,I f,I g,B t,B v]) a.toNat [B eX,I sC,I jr,B z2,B v0],.b v0 true,.e ((A.set a.toNat [B q,I e,I (c+d),B r,B s]).set a.toNat [B u,I f,I g,B t,B v]) a.toNat [B w,I i,I j,B x,B tU],.a .sub,.e F b.toNat (aX G H ah K C E L M),.x E a [B ch],.e F b.toNat (aX G H ah K C E L M),.p (b.toNat=b.toNat),.p (b.toNat=b.toNat),.p (b.toNat=b.toNat),.p (b.toNat=b.toNat),.p (b.toNat=b.toNat),.e (((A.set a.toNat [B q,I e,I (c+d),B r,B s]).set a.toNat [B u,I f,I g,B t,B v]).set a.toNat [B w,I i,I j,B x,B true]) a.toNat [B rL,I o,I ef,B t3,B qK],.v (o-1),.e (((A.set a.toNat [B q,I e,I (c+d),B r,B s]).set a.toNat [B u,I f,I g,B t,B v]).set a.toNat [B w,I i,I j,B x,B true]) a.toNat [B w0,I e0,I cS,B e9,B lH]])):
 al 62 [.agg (a8 Q k l N R S a1),ag a] [.agg [D.J 4 eF,I b6,I p,D.J 8 (F.set b.toNat (aX G H ah K C (E.set a.toNat [B false]) L M)),D.J 6 V,D.J 5 ((((A.set a.toNat [B q,I e,I (c+d),B r,B s]).set a.toNat [B u,I f,I g,B t,B v]).set a.toNat [B w,I i,I j,B x,B true]).set a.toNat [B w0,I (o-1),I cS,B e9,B lH]),D.J 3 X],ai true]:=
 h.of
theorem ahM(h:ae (F7 Q k l N R S a1 eF b6 p G V A X f' a hn Y Z c9 ej ew fi fj fk gu q1 b d0 bE t1 H ah K L C E F M t0 fy bz f0 gK v1 w1 a0 i0 ix eD tf j0 m iR b0 n v0 t2 dk c kk v2 d q e eW r s fO m0 kv w0 jB [.b w0 false,.a .sub,.e G b.toNat (aX H ah K L C E F M),.x E a [B t],.e (A.set a.toNat [B q,I e,I (c+d),B r,B s]) a.toNat [B u,I f,I g,B eX,B v],.e ((A.set a.toNat [B q,I e,I (c+d),B r,B s]).set a.toNat [B u,I f,I g,B t,B v]) a.toNat [B z2,I sC,I jr,B tU,B e9],.b e9 false,.a .sub,.e G b.toNat (aX H ah K L C E F M),.x F a [B w],.e ((A.set a.toNat [B q,I e,I (c+d),B r,B s]).set a.toNat [B u,I f,I g,B t,B v]) a.toNat [B x,I i,I j,B y,B ch],.a .sub,.e G b.toNat (aX H ah K L C E F M),.x E a [B rL],.e G b.toNat (aX H ah K L C E F M),.p (b.toNat=b.toNat),.p (b.toNat=b.toNat),.p (b.toNat=b.toNat),.p (b.toNat=b.toNat),.p (b.toNat=b.toNat),.e (((A.set a.toNat [B q,I e,I (c+d),B r,B s]).set a.toNat [B u,I f,I g,B t,B v]).set a.toNat [B x,I i,I j,B y,B w]) a.toNat [B t3,I o,I ef,B qK,B v3],.v (o-1),.e (((A.set a.toNat [B q,I e,I (c+d),B r,B s]).set a.toNat [B u,I f,I g,B t,B v]).set a.toNat [B x,I i,I j,B y,B w]) a.toNat [B lH,I e0,I cS,B z0,B z]])):
 al 62 [.agg (a8 Q k l N R S a1),ag a] [.agg [D.J 4 eF,I b6,I p,D.J 8 (G.set b.toNat (aX H ah K L C (E.set a.toNat [B false]) F M)),D.J 6 V,D.J 5 ((((A.set a.toNat [B q,I e,I (c+d),B r,B s]).set a.toNat [B u,I f,I g,B t,B v]).set a.toNat [B x,I i,I j,B y,B w]).set a.toNat [B lH,I (o-1),I cS,B z0,B z]),D.J 3 X],ai true]:=
 h.of
def xQ(a b:Int)(H:af)(f g:Int)(ah K L M:af)(i c:Int)(A:af)(d e:Int)(C E F G:af):aF:=bf 229 [(1,aU a),(2,aS 2),(4,aS 4),(6,aS 6),(9,.aC (.one (.bg true))),(10,aU b)] [(6,[aw 130000 4 H,au f,au g,aw 130003 8 ah,aw 130004 6 K,aw 130005 5 L,aw 130006 3 M]),(4,[.v (aP),au i,au c,.v (aP),.v (aP),.v (aP),.v (aP)]),(2,[.J .free 4 A,au d,au e,.J .free 8 C,.J .free 6 E,.J .free 5 F,.J .free 3 G])]
theorem ahN(h:ae [.f C a true,.g A [[I a,I b,B true]] 24,.h [[I a,I b,B true]],.u a]):
 aY (ap f62 0) (xQ b a E c d F G H A e f ah g i C K L M) .normal (xQ b (a+1) E c d F G H (A++[[I a,I b,B true]]) e f ah g i C K L M):=
 h.aT [10,2,6,1,9,4] [6,4,2]
def xR(A:af)(a b:Int)(C E F G:af)(c d:Int):aF:=bf 229 [(4,aS 4),(6,aS 6)] [(6,[aw 130000 4 A,au a,au b,aw 130003 8 C,aw 130004 6 E,aw 130005 5 F,aw 130006 3 G]),(4,[.v (aP),au c,au d,.v (aP),.v (aP),.v (aP),.v (aP)])]
theorem ahO(h:ae [.f H a false]):
 aY (ap f62 0) (xQ f a A b c C E F G d e ah g i H K L M) (.exit 1) (xR A b c C E F G d e):=
 h.aT [6,4] [6,4]
def No(A:af)(a b:Int)(C E F G H:af)(c d:Int)(ah K L M:af)(q:Bool)(e:Int)(r:Bool)(N P Q R S a1 V X:af)(s t:Bool)(f g:Int)(u v:Bool)(Y Z dv gN gf gB gO H1:af)(w x:Bool)(i j:Int)(y z q1:Bool)(k m:Int)(bE s1 t1:Bool)(n o:Int)(gK v1 w1:Bool)(p ef:Int)(ix eD:Bool)(l:List O):List O:=Xv A a b C E F G H c d ah K L M q e r N P Q R S a1 V X s t f g u v Y Z dv gN gf gB gO H1 w x i j y z q1 k m bE s1 (.b (decide (k>0)) false::.e L e.toNat [B t1,I n,I o,B gK,B v1]::.e (L.set e.toNat [B false,I n,I o,B gK,B v1]) e.toNat [B w1,I p,I ef,B ix,B eD]::l)
def Np(A:af)(a b:Int)(C E F G H:af)(c d:Int)(ah K L M:af)(q:Bool)(e:Int)(r:Bool)(N P Q R S a1 V X:af)(s t:Bool)(f g:Int)(u v:Bool)(Y Z dv gN gf gB gO H1:af)(w x:Bool)(i j:Int)(y z q1:Bool)(k m:Int)(bE s1 t1:Bool)(n o:Int)(gK v1 w1:Bool)(p ef:Int)(ix eD tf iR:Bool)(e0 bK:Int)(b0 s2:Bool)(d1:Int)(l:List O):List O:=No A a b C E F G H c d ah K L M q e r N P Q R S a1 V X s t f g u v Y Z dv gN gf gB gO H1 w x i j y z q1 k m bE s1 t1 n o gK v1 w1 p ef ix eD (.n ix true::.a .sub::.e ah f.toNat (aX Y Z dv gN gf gB gO H1)::.x gB e [B tf]::.n tf true::.e (L.set e.toNat [B false,I n,I o,B gK,B v1]) e.toNat [B iR,I e0,I bK,B b0,B s2]::.a .sub::.e ah f.toNat (aX Y Z dv gN gf gB gO H1)::.x gf e [I d1]::.v (bK+d1)::l)
theorem ahP(h:ae (Np Q e f N R S a1 jI n j M V F X s a t Y Z c9 ej ew fi fj fk u f' b o hn gu G H ah K C E L A v w p a0 t0 fy v0 k b6 w0 e9 lH c d q r z0 cS d0 x q1 y bE bz g t1 gK i [.b (g+i==0) true,.e (F.set a.toNat [B false,I c,I d,B q,B r]) a.toNat [B v1,I f0,I i0,B w1,B z],.b z true,.a .sub,.e M b.toNat (aX G H ah K C E L A),.g A [[I a,B true]] 16,.e M b.toNat (aX G H ah K C E L A),.p ((aX G H ah K C E L A)[7]?=some (D.J 2 A)),.p (b.toNat=b.toNat),.p (b.toNat=b.toNat),.h [[I a,B true]],.e M b.toNat (aX G H ah K C E L A),.p (b.toNat=b.toNat),.l [] [10,2,6,1,9,4] [6,4,2] (ap f62 0) (xQ a 1 jI n j (M.set b.toNat (aX G H ah K C E L (A++[[I a,B true]]))) V (F.set a.toNat [B false,I c,I d,B q,B r]) X 0 0 Q e f N R S a1) (.exit 1) (xR eF l m iC iD jG jH j0 dk)])):
 al 62 [.agg (a8 Q e f N R S a1),ag a] [.agg (a8 eF l m iC iD jG jH),ai true]:=
 h.of
def xS(a:Int)(q:Bool)(f:Int)(H:af)(g i:Int)(ah K L M:af)(b c:Int)(A:af)(d e:Int)(C E F G:af):aF:=bf 229 [(1,aU a),(2,aS 2),(4,aS 4),(6,aS 6),(9,.aC (.one (.bg q))),(10,aU f)] [(6,[aw 130000 4 H,au g,au i,aw 130003 8 ah,aw 130004 6 K,aw 130005 5 L,aw 130006 3 M]),(4,[.v (aP),au b,au c,.v (aP),.v (aP),.v (aP),.v (aP)]),(2,[.J .free 4 A,au d,au e,.J .free 8 C,.J .free 6 E,.J .free 5 F,.J .free 3 G])]
theorem ahQ(h:ae [.f C a true,.g A [[I a,I b,B q]] 24,.h [[I a,I b,B q]],.u a]):
 aY (ap f62 0) (xS b q a E c d F G H A e f ah g i C K L M) .normal (xS b q (a+1) E c d F G H (A++[[I a,I b,B q]]) e f ah g i C K L M):=
 h.aT [10,2,6,1,9,4] [6,4,2]
theorem ahR(h:ae [.f H a false]):
 aY (ap f62 0) (xS f q a A b c C E F G d e ah g i H K L M) (.exit 1) (xR A b c C E F G d e):=
 h.aT [6,4] [6,4]
theorem ahS(h:ae (Np Q e f N R S a1 jI n j L V M X t a u Y Z c9 ej ew fi fj fk v hn b o gu t0 G H ah K C E F A w x p a0 fy v0 w0 k b6 e9 lH z0 c d q r q1 cS d0 y bE z t1 bz g gK v1 i [.b (g+i==0) true,.e (M.set a.toNat [B false,I c,I d,B q,B r]) a.toNat [B w1,I f0,I i0,B ix,B f'],.b f' false,.a .sub,.e L b.toNat (aX G H ah K C E F A),.x F a [B s],.a .sub,.e L b.toNat (aX G H ah K C E F A),.g A [[I a,B s]] 16,.e L b.toNat (aX G H ah K C E F A),.p ((aX G H ah K C E F A)[7]?=some (D.J 2 A)),.p (b.toNat=b.toNat),.p (b.toNat=b.toNat),.h [[I a,B s]],.e L b.toNat (aX G H ah K C E F A),.p (b.toNat=b.toNat),.l [] [10,2,6,1,9,4] [6,4,2] (ap f62 0) (xS a s 1 jI n j (L.set b.toNat (aX G H ah K C E F (A++[[I a,B s]]))) V (M.set a.toNat [B false,I c,I d,B q,B r]) X 0 0 Q e f N R S a1) (.exit 1) (xR eF l m iC iD jG jH j0 dk)])):
 al 62 [.agg (a8 Q e f N R S a1),ag a] [.agg (a8 eF l m iC iD jG jH),ai true]:=
 h.of
theorem ahT(h:ae (Np Q e f E R S a1 eF l j C V A X s a t Y Z c9 ej ew fi fj fk u z b m f' hn H ah K L F G M N v w n o gu t0 fy k p v0 w0 e9 c d q r lH a0 b6 x z0 y q1 cS g bE t1 i [.b (g+i==0) false])):
 al 62 [.agg (a8 Q e f E R S a1),ag a] [.agg (a8 eF l j C V (A.set a.toNat [B false,I c,I d,B q,B r]) X),ai true]:=
 h.of
theorem ahU(h:ae (No G b c C R S a1 eF j g E V A X s a t Y Z c9 ej ew fi fj fk u z d k f' hn H ah K L M F N Q v w l m gu t0 fy i n v0 w0 e9 e f q r lH o p x z0 [.n x true,.a .sub,.e E d.toNat (aX H ah K L M F N Q),.x F a [B y],.n y false])):
 al 62 [.agg (a8 G b c C R S a1),ag a] [.agg (a8 eF j g E V (A.set a.toNat [B false,I e,I f,B q,B r]) X),ai true]:=
 h.of
theorem ahV(h:ae (No E b c C G H ah eF j f F K A L s a t M N Q R S a1 V X u y g k z f' Y Z c9 ej ew fi fj fk v w l m hn gu t0 i n fy v0 w0 d e q r e9 o p x lH [.n x false])):
 al 62 [.agg (a8 E b c C G H ah),ag a] [.agg (a8 eF j f F K (A.set a.toNat [B false,I d,I e,B q,B r]) L),ai true]:=
 h.of
theorem ahW(h:ae [.b (decide ((A.length:Int)>0)) true,.p ((0:Int)<=0),.p (0<(A.length:Int)),.e A 0 (aX K L C E F G H ah),.r 21 [.agg (aX K L C E F G H ah),ag a] [ai q]]):
 al 164 [.agg (a8 M b c A N Q R),ag a] [ai q]:=
 h.of
def vE(A C E F G H ah K:af)(a b:Int):aF:=bf 22 [(1,aU a),(2,aS 2),(5,aU b)] [(2,[.J .free 5 A,.J .free 5 C,.J .free 5 E,.J .free 4 F,.J .free 1 G,.J .free 1 H,.J .free 1 ah,.J .free 2 K])]
def K'(q:Bool):aF:=bf 22 [(4,.aC (.one (.bg q)))] []
theorem ahX(h:ae [.i A c (bj d a e f g),.b (decide (a<=b)) true]):
 aY (ap f199 0) (vE C E A F G H ah K b c) .ret (K' true):=
 h.aT [4] []
theorem ahY(h:ae [.i A a (bj d c e f g),.b (decide (c<=b)) false,.u a]):
 aY (ap f199 0) (vE C E A F G H ah K b a) .normal (vE C E A F G H ah K b (a+1)):=
 h.aT [5,2,1] [2]
def Ta:aF:=bf 22 [] []
theorem ahZ(h:ae [.f A a false]):
 aY (ap f199 0) (vE C E A F G H ah K b a) (.exit 0) Ta:=
 h.aT [] []
theorem ah0(h:ae [.l [] [5,2,1] [2] (ap f199 0) (vE A C E F G H ah K a 0) .ret (K' q)]):
 al 199 [.agg (aX A C E F G H ah K),ag a] [ai q]:=
 h.of
theorem ah1(h:ae [.l [] [5,2,1] [2] (ap f199 0) (vE A C E F G H ah K a 0) (.exit 0) Ta]):
 al 199 [.agg (aX A C E F G H ah K),ag a] [ai false]:=
 h.of
theorem ah2(h:ae [.r 199 [.agg (aX A C E F G H ah K),ag a] [ai q],.n q true,.r 200 [.agg (aX A C E F G H ah K),ag a] [ag b]]):
 al 165 [.agg (aX A C E F G H ah K),ag a] [ai (b==0)]:=
 h.of
theorem aht(h:ae [.r 199 [.agg (aX A C E F G H ah K),ag a] [ai q],.n q false]):
 al 165 [.agg (aX A C E F G H ah K),ag a] [ai false]:=
 h.of
theorem ahu(h:ae [.r 217 [aO 5 E,ag a] [aO 5 C],.r 217 [aO 5 F,ag a] [aO 5 A],.v ((C.length:Int)+(A.length:Int))]):
 al 200 [.agg (aX E F G H ah K L M),ag a] [ag ((C.length:Int)+(A.length:Int))]:=
 h.of
theorem ahv(h:ae [.r 191 [aO 5 A,.one (.a8 192 [D.ptr [I a]])] [ai q]]):
 al 153 [.agg (aX C E A F G H ah K),ag a] [ai q]:=
 h.of
theorem ahw(h:ae []):
 al 192 [.agg (bj c a d e f),.one (.ptr [I b])] [ai (decide (a<=b))]:=
 h.of
theorem ahx(h:ae [.r 153 [.agg (aX A C E F G H ah K),ag a] [ai q],.n q true,.r 154 [.agg (aX A C E F G H ah K),ag a] [ag b]]):
 al 109 [.agg (aX A C E F G H ah K),ag a] [ai (b==0)]:=
 h.of
theorem ahy(h:ae [.r 153 [.agg (aX A C E F G H ah K),ag a] [ai q],.n q false]):
 al 109 [.agg (aX A C E F G H ah K),ag a] [ai false]:=
 h.of
theorem ahz(h:ae [.r 193 [aO 5 E,ag a] [aO 5 C],.r 193 [aO 5 F,ag a] [aO 5 A],.v ((C.length:Int)+(A.length:Int))]):
 al 154 [.agg (aX E F G H ah K L M),ag a] [ag ((C.length:Int)+(A.length:Int))]:=
 h.of
