import Derived.Test.YtdchjefneblpgaaGreatGE
namespace Go.Proofs.YtdchjefneblpgaaGreat
open Go.Sx Go.RowKit Go.Proofs.Tryz
variable {a b c d e f g i j k l m n o p a0 cg : Int} {A C E F G H ao K L M N Q R S bm V X Y Z ew il iX iY iZ i' ka : ae} {q r s t u v w x y z h' k2 jr t0 : Bool}
theorem aeE(h:ad [.g ([]:ae) A 8,.h A]):
av 276 [.agg (bj a b c A)] [.agg (bj a b c ([]++A))]:=
h.of
def AA(A:ae)(a:Int)(C:ae)(b c d e:Int):aI:=bg 27 [(2,aQ 2),(3,aQ 3),(12,dw 4 A),(13,aY (A.length:Int)),(14,aY a)] [(3,[aC 23 4 C,ax b,ax c]),(2,[.v (aO),ax d,ax e])]
theorem aeF(h:ad [.i A a (bj l e f F),.r 276 [.agg (bj l e f F)] [.agg (bj b c d C)],.a .wr,.g E [(bj b c d C)] 48,.u a]):
a7 (aq f181 0) (AA A a E g i j k) .normal (AA A (a+1) (E++[(bj b c d C)]) g i j k):=
h.aX [14,13,12,3,2] [3,2]
def Sa(A:ae)(a b c d:Int):aI:=bg 27 [(2,aQ 2),(3,aQ 3)] [(3,[aC 23 4 A,ax a,ax b]),(2,[.v (aO),ax c,ax d])]
theorem aeG(h:ad [.f A a false]):
a7 (aq f181 0) (AA A a C b c d e) (.exit 0) (Sa C b c d e):=
h.aX [3,2] [3,2]
theorem aeH(h:ad [.l [(4000000,23,4)] [14,13,12,3,2] [3,2] (aq f181 0) (AA A 0 [] a b 0 0) (.exit 0) (Sa C c d e f)]):
av 181 [.agg (bq A a b)] [.agg (bq C c d)]:=
h.of
theorem aeI(h:ad [.r 233 [aP 5 A] [aP 5 C]]):
av 256 [.agg (ch a A b c d e)] [.agg (ch a C b c d e)]:=
h.of
theorem aeJ(h:ad [.r 233 [aP 5 G] [aP 5 N],.r 233 [aP 5 H] [aP 5 Q],.r 233 [aP 5 L] [aP 5 ao],.r 297 [aP 4 M] [aP 4 K],.g ([]:ae) A 8,.h A,.g ([]:ae) C 1,.h C,.g ([]:ae) E 1,.h E,.g ([]:ae) F 16,.h F]):
av 255 [.agg (bb G H L M A C E F)] [.agg (bb N Q ao K ([]++A) ([]++C) ([]++E) ([]++F))]:=
h.of
def AB(A:ae)(a:Int)(ao:ae)(d e:Int)(K L M:ae)(f g:Int)(C:ae)(b c:Int)(E F G H:ae):aI:=bg 49 [(1,aQ 1),(2,aQ 2),(3,aQ 3),(19,dw 8 A),(20,aY (A.length:Int)),(21,aY a)] [(3,[aC 110000 4 ao,ax d,ax e,aC 30 8 K,.v (aO),aC 13 5 L,aC 16 3 M]),(2,[.v (aO),ax f,ax g,.v (aO),.v (aO),.v (aO),.v (aO)]),(1,[.J .free 4 C,ax b,ax c,.J .free 8 E,.J .free 6 F,.J .free 5 G,.J .free 3 H])]
theorem aeK(h:ad [.i C a (bb Z ew il iX iY iZ i' ka),.r 255 [.agg (bb Z ew il iX iY iZ i' ka)] [.agg (bb E F G H ao K L M)],.a .wr,.g A [(bb E F G H ao K L M)] 192,.u a]):
a7 (aq f144 0) (AB C a N b c A Q R d e S f g bm V X Y) .normal (AB C (a+1) N b c (A++[(bb E F G H ao K L M)]) Q R d e S f g bm V X Y):=
h.aX [21,20,19,3,1,2] [3,2,1]
def Sb(A:ae)(a c:Int)(H ao K:ae)(d e:Int)(L:ae)(f b:Int)(C E F G:ae):aI:=bg 49 [(1,aQ 1),(2,aQ 2),(3,aQ 3)] [(3,[aC 110000 4 A,ax a,ax c,aC 30 8 H,.v (aO),aC 13 5 ao,aC 16 3 K]),(2,[.v (aO),ax d,ax e,.v (aO),.v (aO),.v (aO),.v (aO)]),(1,[.J .free 4 L,ax f,ax b,.J .free 8 C,.J .free 6 E,.J .free 5 F,.J .free 3 G])]
theorem aeL(h:ad [.f M a false]):
a7 (aq f144 0) (AB M a A b c C E F d e G f g H ao K L) (.exit 0) (Sb A b c C E F d e G f g H ao K L):=
h.aX [1,3,2] [3,2,1]
def AD(A:ae)(a:Int)(C:ae)(c d:Int)(E F G H:ae)(e b:Int):aI:=bg 49 [(2,aQ 2),(3,aQ 3),(34,dw 6 A),(35,aY (A.length:Int)),(36,aY a)] [(3,[aC 110000 4 C,ax c,ax d,aC 30 8 E,aC 45 6 F,aC 13 5 G,aC 16 3 H]),(2,[.v (aO),ax e,ax b,.v (aO),.v (aO),.v (aO),.v (aO)])]
theorem aeM(h:ad [.i A a (ch l K m n o p),.r 256 [.agg (ch l K m n o p)] [.agg (ch b E c d e f)],.a .wr,.g C [(ch b E c d e f)] 64,.u a]):
a7 (aq f144 1) (AD A a F g i G C H ao j k) .normal (AD A (a+1) F g i G (C++[(ch b E c d e f)]) H ao j k):=
h.aX [36,35,34,3,2] [3,2]
def Sc(A:ae)(a b:Int)(C E F G:ae)(c d:Int):aI:=bg 49 [(2,aQ 2),(3,aQ 3)] [(3,[aC 110000 4 A,ax a,ax b,aC 30 8 C,aC 45 6 E,aC 13 5 F,aC 16 3 G]),(2,[.v (aO),ax c,ax d,.v (aO),.v (aO),.v (aO),.v (aO)])]
theorem aeN(h:ad [.f A a false]):
a7 (aq f144 1) (AD A a C b c E F G H d e) (.exit 2) (Sc C b c E F G H d e):=
h.aX [3,2] [3,2]
theorem aeO(h:ad [.r 181 [.agg (bq E a b)] [.agg (bq V j k)],.g ([]:ae) A 32,.h A,.g ([]:ae) C 24,.h C,.l [(4000003,30,8)] [21,20,19,3,1,2] [3,2,1] (aq f144 0) (AB F 0 V j k [] ([]++A) ([]++C) 0 0 E a b F bm A C) (.exit 0) (Sb G c d H ao K e f X l m Y L Z ew),.l [(4000004,45,6)] [36,35,34,3,2] [3,2] (aq f144 1) (AD L 0 G c d H [] ao K e f) (.exit 2) (Sc M g i N Q R S n o)]):
av 144 [.agg (cl E a b F bm A C)] [.agg (cl M g i N Q R S)]:=
h.of
theorem aeP(h:ad [.g ([]:ae) A 40,.h A]):
av 279 [.agg (ch a A b c d e)] [.agg (ch a ([]++A) b c d e)]:=
h.of
def AE(a:Int)(A:ae)(b c d e:Int)(C:ae)(f g:Int):aI:=bg 33 [(1,aQ 1),(2,aQ 2),(3,aQ 3),(4,aY a)] [(3,[aC 7 4 A,ax b,ax c]),(2,[.v (aO),ax d,ax e]),(1,[.J .free 4 C,ax f,ax g])]
theorem aeQ(h:ad [.i E a (bj b c d A),.a .wr,.g ([]:ae) A 8,.h A,.g C [(bj b c d ([]++A))] 48,.u a]):
a7 (aq f123 0) (AE a C g i j k E e f) .normal (AE (a+1) (C++[(bj b c d ([]++A))]) g i j k E e f):=
h.aX [4,1,3,2] [3,2,1]
def Sd(A:ae)(a b c d:Int):aI:=bg 33 [(2,aQ 2),(3,aQ 3)] [(3,[aC 7 4 A,ax a,ax b]),(2,[.v (aO),ax c,ax d])]
theorem aeR(h:ad [.f C a false]):
a7 (aq f123 0) (AE a A b c d e C f g) (.exit 0) (Sd A b c d e):=
h.aX [3,2] [3,2]
theorem aeS(h:ad [.l [] [4,1,3,2] [3,2,1] (aq f123 0) (AE 0 [] a b 0 0 A a b) (.exit 0) (Sd C c d e f)]):
av 123 [.agg (bq A a b)] [.agg (bq C c d)]:=
h.of
theorem aeT(h:ad [.g ([]:ae) A 40,.h A,.g ([]:ae) C 40,.h C,.g ([]:ae) E 40,.h E,.g ([]:ae) F 32,.h F,.g ([]:ae) G 8,.h G,.g ([]:ae) H 1,.h H,.g ([]:ae) ao 1,.h ao,.g ([]:ae) K 16,.h K]):
av 174 [.agg (bb A C E F G H ao K)] [.agg (bb ([]++A) ([]++C) ([]++E) ([]++F) ([]++G) ([]++H) ([]++ao) ([]++K))]:=
h.of
def AF(a:Int)(A:ae)(d e:Int)(H ao K:ae)(f g:Int)(L:ae)(b c:Int)(C E F G:ae):aI:=bg 55 [(1,aQ 1),(2,aQ 2),(3,aQ 3),(4,aY a)] [(3,[aC 90000 4 A,ax d,ax e,aC 34 8 H,.v (aO),aC 9 5 ao,aC 13 3 K]),(2,[.v (aO),ax f,ax g,.v (aO),.v (aO),.v (aO),.v (aO)]),(1,[.J .free 4 L,ax b,ax c,.J .free 8 C,.J .free 6 E,.J .free 5 F,.J .free 3 G])]
theorem aeU(h:ad [.i C a (bb Y Z ew il iX iY iZ i'),.r 174 [.agg (bb Y Z ew il iX iY iZ i')] [.agg (bb E F G H ao K L M)],.a .wr,.g A [(bb E F G H ao K L M)] 192,.u a]):
a7 (aq f186 0) (AF a N b c A Q R d e S f g C bm V X) .normal (AF (a+1) N b c (A++[(bb E F G H ao K L M)]) Q R d e S f g C bm V X):=
h.aX [4,1,3,2] [3,2,1]
def Se(A:ae)(a c:Int)(H ao K:ae)(d e:Int)(L:ae)(f b:Int)(C E F G:ae):aI:=bg 55 [(1,aQ 1),(2,aQ 2),(3,aQ 3)] [(3,[aC 90000 4 A,ax a,ax c,aC 34 8 H,.v (aO),aC 9 5 ao,aC 13 3 K]),(2,[.v (aO),ax d,ax e,.v (aO),.v (aO),.v (aO),.v (aO)]),(1,[.J .free 4 L,ax f,ax b,.J .free 8 C,.J .free 6 E,.J .free 5 F,.J .free 3 G])]
theorem aeV(h:ad [.f A a false]):
a7 (aq f186 0) (AF a C b c E F G d e H f g A ao K L) (.exit 0) (Se C b c E F G d e H f g A ao K L):=
h.aX [1,3,2] [3,2,1]
def zO(a:Int)(A:ae)(d e:Int)(ao K L M:ae)(f g:Int)(C:ae)(b c:Int)(E F G H:ae):aI:=bg 55 [(1,aQ 1),(2,aQ 2),(3,aQ 3),(5,aY a)] [(3,[aC 90000 4 A,ax d,ax e,aC 34 8 ao,aC 52 6 K,aC 9 5 L,aC 13 3 M]),(2,[.v (aO),ax f,ax g,.v (aO),.v (aO),.v (aO),.v (aO)]),(1,[.J .free 4 C,ax b,ax c,.J .free 8 E,.J .free 6 F,.J .free 5 G,.J .free 3 H])]
theorem aeW(h:ad [.i C a (ch n Q o p a0 cg),.r 279 [.agg (ch n Q o p a0 cg)] [.agg (ch b E c d e f)],.a .wr,.g A [(ch b E c d e f)] 64,.u a]):
a7 (aq f186 1) (zO a F g i G A H ao j k K l m L C M N) .normal (zO (a+1) F g i G (A++[(ch b E c d e f)]) H ao j k K l m L C M N):=
h.aX [5,1,3,2] [3,2,1]
def Sf(A:ae)(a b:Int)(C E F G:ae)(c d:Int):aI:=bg 55 [(2,aQ 2),(3,aQ 3)] [(3,[aC 90000 4 A,ax a,ax b,aC 34 8 C,aC 52 6 E,aC 9 5 F,aC 13 3 G]),(2,[.v (aO),ax c,ax d,.v (aO),.v (aO),.v (aO),.v (aO)])]
theorem aeX(h:ad [.f H a false]):
a7 (aq f186 1) (zO a A b c C E F G d e ao f g K H L M) (.exit 2) (Sf A b c C E F G d e):=
h.aX [3,2] [3,2]
theorem aeY(h:ad [.r 123 [.agg (bq E a b)] [.agg (bq ew l m)],.g ([]:ae) A 32,.h A,.g ([]:ae) C 24,.h C,.l [(4000003,34,8)] [4,1,3,2] [3,2,1] (aq f186 0) (AF 0 ew l m [] ([]++A) ([]++C) 0 0 E a b V Z A C) (.exit 0) (Se F c d G H ao e f K g i L M N Q),.l [(4000004,52,6)] [5,1,3,2] [3,2,1] (aq f186 1) (zO 0 F c d G [] H ao e f K g i L M N Q) (.exit 2) (Sf R j k S bm X Y n o)]):
av 186 [.agg (cl E a b V Z A C)] [.agg (cl R j k S bm X Y)]:=
h.of
theorem ad9(h:ad [.r 186 [.agg (cl A a b C E F G)] [.agg (cl M c d H ao K L)],.r 56 [.agg (cl A a b C E F G)] [ak q]]):
b3 127 [aM.ro (.agg (cl A a b C E F G))] (aT.new [D.J 4 M,I c,I d,D.J 8 H,D.J 6 ao,D.J 5 K,D.J 3 L,B q]):=
h.b6
def pX(a b:Int)(A:ae)(c d:Int)(C E F G:ae)(q:Bool):aI:=bg 93 [(0,aQ 1000000000),(1,aY a),(5,aY b)] [(1000000000,[aC 900000000 4 A,ax c,ax d,aC 900000003 8 C,aC 900000004 6 E,aC 900000005 5 F,aC 900000006 3 G,.ba q])]
theorem aea(h:ad [.f A a true,.b q true,.x A a [I e,I f,B r],.b (e != b) true,.u a]):
a7 (aq f247 0) (pX b a C c d E F G A q) .normal (pX b (a+1) C c d E F G A q):=
h.aX [5,0,1] [1000000000]
def D5(q:Bool)(A:ae)(a b:Int)(C E F G:ae)(r:Bool):aI:=bg 93 [(0,aQ 1000000000),(4,.aK (.one (.ba q)))] [(1000000000,[aC 900000000 4 A,ax a,ax b,aC 900000003 8 C,aC 900000004 6 E,aC 900000005 5 F,aC 36 3 G,.ba r])]
def VG(A:ae)(a:Int)(q:Bool)(b c:Int)(r:Bool)(d:Int)(C E F G H ao K L M:ae)(s:Bool)(l:List O):List O:=.f A a true::.b q true::.x A a [I b,I c,B r]::.b (b != d) false::.a .sub::.p ((0:Int)<=none.getD 0)::.p (none.getD 0<=(some a).getD (A.length:Int))::.p ((some a).getD (A.length:Int)<=(A.length:Int))::.p ((([]:ae).length+(List.take (((some a).getD (A.length:Int)).toNat-0) (List.drop 0 A)).length)*24<=140737488355328)::.p (([]:ae).length+(List.take (((some a).getD (A.length:Int)).toNat-0) (List.drop 0 A)).length<=9223372036854775807)::.p (Flat (List.take (((some a).getD (A.length:Int)).toNat-0) (List.drop 0 A)))::.u a::.p (0<=(some (a+1)).getD 0)::.p ((some (a+1)).getD 0<=none.getD (A.length:Int))::.p (none.getD (A.length:Int)<=(A.length:Int))::.p ((([]++List.take (((some a).getD (A.length:Int)).toNat-0) (List.drop 0 A)).length+(List.take (A.length-((some (a+1)).getD 0).toNat) (List.drop ((some (a+1)).getD 0).toNat A)).length)*24<=140737488355328)::.p (([]++List.take (((some a).getD (A.length:Int)).toNat-0) (List.drop 0 A)).length+(List.take (A.length-((some (a+1)).getD 0).toNat) (List.drop ((some (a+1)).getD 0).toNat A)).length<=9223372036854775807)::.p (Flat (List.take (A.length-((some (a+1)).getD 0).toNat) (List.drop ((some (a+1)).getD 0).toNat A)))::.x C d (bb E F G H ao K L M)::.r 213 [.agg (bb E F G H ao K L M),af c] [ak s]::l
theorem aeb(h:ad (VG A a r f c q b C F G H ao K L M E s [.n s true,.a .sub,.x C b (bb F G H ao K L M E),.g E [[I c,B q]] 16,.e C b.toNat (bb F G H ao K L M E),.p ((bb F G H ao K L M E)[7]?=some (D.J 2 E)),.h [[I c,B q]],.p (C=C),.p (C=C),.p (b.toNat=b.toNat),.p (E=E),.p (C=C),.p (C=C),.p (C=C),.p (C=C),.p (C=C),.p (b.toNat=b.toNat),.p (E=E),.x C b (bb F G H ao K L M E),.p (b.toNat=b.toNat)])):
a7 (aq f247 0) (pX b a N d e C Q R A r) .ret (D5 true N d e (C.set b.toNat (bb F G H ao K L M (E++[[I c,B q]]))) Q R ([]++List.take (((some a).getD (A.length:Int)).toNat-0) (List.drop 0 A)++List.take (A.length-((some (a+1)).getD 0).toNat) (List.drop ((some (a+1)).getD 0).toNat A)) r):=
h.aX [4,0] [1000000000]
theorem aec(h:ad (VG A a q e f s b C H ao K L M N Q R r [.n r false])):
a7 (aq f247 0) (pX b a E c d C F G A q) .ret (D5 true E c d C F G ([]++List.take (((some a).getD (A.length:Int)).toNat-0) (List.drop 0 A)++List.take (A.length-((some (a+1)).getD 0).toNat) (List.drop ((some (a+1)).getD 0).toNat A)) q):=
h.aX [4,0] [1000000000]
def JE(A:ae)(a b:Int)(C E F G:ae)(q:Bool):aI:=bg 93 [(0,aQ 1000000000)] [(1000000000,[aC 900000000 4 A,ax a,ax b,aC 900000003 8 C,aC 900000004 6 E,aC 900000005 5 F,aC 900000006 3 G,.ba q])]
theorem aed(h:ad [.f A c true,.b q false]):
a7 (aq f247 0) (pX d c C a b E F G A q) (.exit 0) (JE C a b E F G A q):=
h.aX [0] [1000000000]
theorem Sg(h:ad [.f A c false]):
a7 (aq f247 0) (pX d c C a b E F G A q) (.exit 0) (JE C a b E F G A q):=
h.aX [0] [1000000000]
theorem aee(h:ad [.l [] [5,0,1] [1000000000] (aq f247 0) (pX e 0 A a d ao K L M r) .ret (D5 s C b c E F G H q)]):
b3 247 [aM.ref [D.J 4 A,I a,I d,D.J 8 ao,D.J 6 K,D.J 5 L,D.J 3 M,B r] [D.J 4 C,I b,I c,D.J 8 E,D.J 6 F,D.J 5 G,D.J 3 H,B q],aM.ro (af e)] (aT.vals [ak s]):=
h.b6
theorem JF(h:ad [.l [] [5,0,1] [1000000000] (aq f247 0) (pX e 0 A a d H ao K L r) (.exit 0) (JE M b c C E F G q)]):
b3 247 [aM.ref [D.J 4 A,I a,I d,D.J 8 H,D.J 6 ao,D.J 5 K,D.J 3 L,B r] [D.J 4 M,I b,I c,D.J 8 C,D.J 6 E,D.J 5 F,D.J 3 G,B q],aM.ro (af e)] (aT.vals [ak false]):=
h.b6
def zP(a:Int)(q:Bool)(b:Int)(A:ae)(c d:Int)(C E F G:ae)(r:Bool):aI:=bg 52 [(0,aQ 1000000000),(1,aY a),(2,.aK (.one (.ba q))),(6,aY b)] [(1000000000,[aC 900000000 4 A,ax c,ax d,aC 900000003 8 C,aC 900000004 6 E,aC 900000005 5 F,aC 900000006 3 G,.ba r])]
theorem aef(h:ad [.f A a true,.g C [[I a,I b,B q]] 24,.h [[I a,I b,B q]],.u a]):
a7 (aq f317 0) (zP b q a E c d A F G C r) .normal (zP b q (a+1) E c d A F G (C++[[I a,I b,B q]]) r):=
h.aX [6,0,1,2] [1000000000]
def RI(A:ae)(a b:Int)(C E F G:ae)(q:Bool):aI:=bg 52 [(0,aQ 1000000000)] [(1000000000,[aC 900000000 4 A,ax a,ax b,aC 900000003 8 C,aC 900000004 6 E,aC 900000005 5 F,aC 900000006 3 G,.ba q])]
theorem aeg(h:ad [.f A a false]):
a7 (aq f317 0) (zP d r a C b c A E F G q) (.exit 0) (RI C b c A E F G q):=
h.aX [0] [1000000000]
theorem aeh(h:ad [.a .sub,.p ((0:Int)<=0),.p (0<(A.length:Int)),.e A 0 (bb E F G H ao K L C),.g C [[I a,B q]] 16,.e A 0 (bb E F G H ao K L C),.p ((bb E F G H ao K L C)[7]?=some (D.J 2 C)),.h [[I a,B q]],.p (A=A),.p (A=A),.p (A=A),.p (A=A),.p (A=A),.p (0=0),.p (C=C),.p ((0:Int)<=0),.p (0<(A.length:Int)),.e A 0 (bb E F G H ao K L C),.p (0=0),.l [] [6,0,1,2] [1000000000] (aq f317 0) (zP a q 1 M b d (A.set 0 (bb E F G H ao K L (C++[[I a,B q]]))) V X Y s) (.exit 0) (RI N c e Q R S bm r)]):
b3 317 [aM.ref [D.J 4 M,I b,I d,D.J 8 A,D.J 6 V,D.J 5 X,D.J 3 Y,B s] [D.J 4 N,I c,I e,D.J 8 Q,D.J 6 R,D.J 5 S,D.J 3 bm,B r],aM.ro (af a),aM.ro (ak q)] (aT.vals []):=
h.b6
theorem aei(h:ad [.n q true]):
b3 246 [aM.ref [D.J 4 A,I a,I b,D.J 8 C,D.J 6 E,D.J 5 F,D.J 3 G,B q] [D.J 4 A,I a,I b,D.J 8 C,D.J 6 E,D.J 5 F,D.J 3 G,B q],aM.ro (af c)] (aT.vals [ak false]):=
h.b6
def VH(q:Bool)(a:Int)(r:Bool)(l:List O):List O:=.n q false::.r 168 [af a,af 0,af 3] [ak r]::l
theorem aej(h:ad (VH q c r [.n r true])):
b3 246 [aM.ref [D.J 4 A,I a,I b,D.J 8 C,D.J 6 E,D.J 5 F,D.J 3 G,B q] [D.J 4 A,I a,I b,D.J 8 C,D.J 6 E,D.J 5 F,D.J 3 G,B q],aM.ro (af c)] (aT.vals [ak false]):=
h.b6
def VI(q:Bool)(a:Int)(r:Bool)(A:ae)(b c:Int)(C E F G:ae)(s:Bool)(l:List O):List O:=VH q a r (.n r false::.r 315 [.agg (cl A b c C E F G),af a] [ak s]::l)
theorem aek(h:ad (VI q c s A a b C E F G r [.b r true])):
b3 246 [aM.ref [D.J 4 A,I a,I b,D.J 8 C,D.J 6 E,D.J 5 F,D.J 3 G,B q] [D.J 4 A,I a,I b,D.J 8 C,D.J 6 E,D.J 5 F,D.J 3 G,B q],aM.ro (af c)] (aT.vals [ak false]):=
h.b6
def VJ(q:Bool)(a:Int)(r:Bool)(A:ae)(b c:Int)(C E F G:ae)(s t:Bool)(d e:Int)(u v:Bool)(H ao K L M N P Q:ae)(w:Bool)(l:List O):List O:=VI q a r A b c C E F G s (.b s false::.x F a [B t,I d,I e,B u,B v]::.a .sub::.x C d (bb H ao K L M N P Q)::.r 316 [.agg (bb H ao K L M N P Q),af a] [ak w]::l)
theorem ael(h:ad (VJ q a t E b c A F C G r u d e v w H ao K L M N Q R s [.n s true])):
b3 246 [aM.ref [D.J 4 E,I b,I c,D.J 8 A,D.J 6 F,D.J 5 C,D.J 3 G,B q] [D.J 4 E,I b,I c,D.J 8 A,D.J 6 F,D.J 5 C,D.J 3 G,B q],aM.ro (af a)] (aT.vals [ak false]):=
h.b6
def MB(q:Bool)(a:Int)(r:Bool)(A:ae)(b c:Int)(C E F G:ae)(s t:Bool)(d e:Int)(u v:Bool)(H ao K L M N P Q:ae)(w:Bool)(f:Int)(l:List O):List O:=VJ q a r A b c C E F G s t d e u v H ao K L M N P Q w (.n w false::.x M a [I f]::.v (e+f)::l)
theorem aem(h:ad (MB q a v F c d A S C bm r s b e w x V X Y Z G ew H il t f [.n s true,.v ((A.length:Int)-1),.x H a [B u],.x C a [B y,I g,I i,B z,B h'],.a .sub,.p ((0:Int)<=0),.p (0<(A.length:Int)),.e A 0 (bb ao K L M N E Q R),.x E a [B k2],.e A 0 (bb ao K L M N E Q R),.p (b.toNat=0),.p (b.toNat=0),.p (0=0),.p (0=0),.p (b.toNat=0)])):
b3 246 [aM.ref [D.J 4 F,I c,I d,D.J 8 A,D.J 6 S,D.J 5 C,D.J 3 bm,B q] [D.J 4 F,I c,I d,D.J 8 (A.set 0 (bb ao K L M N (E.set a.toNat [B false]) Q R)),D.J 6 S,D.J 5 (C.set a.toNat [B true,I ((A.length:Int)-1),I 0,B false,B u]),D.J 3 bm,B q],aM.ro (af a)] (aT.vals [ak true]):=
h.b6
def Bl(q:Bool)(a:Int)(r:Bool)(A:ae)(b c:Int)(C E F G:ae)(s t:Bool)(d e:Int)(u v:Bool)(H ao K L M N P Q:ae)(w:Bool)(f:Int)(x:Bool)(l:List O):List O:=MB q a r A b c C E F G s t d e u v H ao K L M N P Q w f (.n t false::.b (decide (d>0)) true::.r 168 [af (e+f),af (-1000000),af 1000000] [ak x]::l)
theorem aen(h:ad (Bl q a v E b e A G C H r s c d w x ao K L M F N Q R t f u [.n u true])):
b3 246 [aM.ref [D.J 4 E,I b,I e,D.J 8 A,D.J 6 G,D.J 5 C,D.J 3 H,B q] [D.J 4 E,I b,I e,D.J 8 A,D.J 6 G,D.J 5 C,D.J 3 H,B q],aM.ro (af a)] (aT.vals [ak false]):=
h.b6
theorem aeo(h:ad (Bl q b x N e f E Q M R r s a c t u F G H ao A C K L v d w [.n w false,.v (a-1),.b t true,.b u true,.x M b [B y,I g,I i,B z,B h'],.a .sub,.x E a (bb F G H ao A C K L),.x C b [B k2],.e E a.toNat (bb F G H ao A C K L),.p (a.toNat=a.toNat),.p (a.toNat=a.toNat),.p (a.toNat=a.toNat),.p (a.toNat=a.toNat),.p (a.toNat=a.toNat)])):
b3 246 [aM.ref [D.J 4 N,I e,I f,D.J 8 E,D.J 6 Q,D.J 5 M,D.J 3 R,B q] [D.J 4 N,I e,I f,D.J 8 (E.set a.toNat (bb F G H ao A (C.set b.toNat [B false]) K L)),D.J 6 Q,D.J 5 (M.set b.toNat [B true,I (a-1),I (c+d),B true,B true]),D.J 3 R,B q],aM.ro (af b)] (aT.vals [ak true]):=
h.b6
theorem aep(h:ad (Bl q b y N e f F Q M R r s a c t u G H ao K A C E L v d w [.n w false,.v (a-1),.b t true,.b u false,.x E b [B x],.x M b [B z,I g,I i,B h',B k2],.a .sub,.x F a (bb G H ao K A C E L),.x C b [B jr],.e F a.toNat (bb G H ao K A C E L),.p (a.toNat=a.toNat),.p (a.toNat=a.toNat),.p (a.toNat=a.toNat),.p (a.toNat=a.toNat),.p (a.toNat=a.toNat)])):
b3 246 [aM.ref [D.J 4 N,I e,I f,D.J 8 F,D.J 6 Q,D.J 5 M,D.J 3 R,B q] [D.J 4 N,I e,I f,D.J 8 (F.set a.toNat (bb G H ao K A (C.set b.toNat [B false]) E L)),D.J 6 Q,D.J 5 (M.set b.toNat [B true,I (a-1),I (c+d),B true,B x]),D.J 3 R,B q],aM.ro (af b)] (aT.vals [ak true]):=
h.b6
theorem aeq(h:ad (Bl q b y N e f E Q M R r s a c t u F G H ao C A K L v d w [.n w false,.v (a-1),.b t false,.x A b [B x],.b u true,.x M b [B z,I g,I i,B h',B k2],.a .sub,.x E a (bb F G H ao C A K L),.x A b [B jr],.e E a.toNat (bb F G H ao C A K L),.p (a.toNat=a.toNat),.p (a.toNat=a.toNat),.p (a.toNat=a.toNat),.p (a.toNat=a.toNat),.p (a.toNat=a.toNat),.p (a.toNat=a.toNat),.p (a.toNat=a.toNat)])):
b3 246 [aM.ref [D.J 4 N,I e,I f,D.J 8 E,D.J 6 Q,D.J 5 M,D.J 3 R,B q] [D.J 4 N,I e,I f,D.J 8 (E.set a.toNat (bb F G H ao C (A.set b.toNat [B false]) K L)),D.J 6 Q,D.J 5 (M.set b.toNat [B true,I (a-1),I (c+d),B x,B true]),D.J 3 R,B q],aM.ro (af b)] (aT.vals [ak true]):=
h.b6
theorem aer(h:ad (Bl q b z N e f F Q M R r s a c t u G H ao K C A E L v d w [.n w false,.v (a-1),.b t false,.x A b [B x],.b u false,.x E b [B y],.x M b [B h',I g,I i,B k2,B jr],.a .sub,.x F a (bb G H ao K C A E L),.x A b [B t0],.e F a.toNat (bb G H ao K C A E L),.p (a.toNat=a.toNat),.p (a.toNat=a.toNat),.p (a.toNat=a.toNat),.p (a.toNat=a.toNat),.p (a.toNat=a.toNat),.p (a.toNat=a.toNat),.p (a.toNat=a.toNat)])):
b3 246 [aM.ref [D.J 4 N,I e,I f,D.J 8 F,D.J 6 Q,D.J 5 M,D.J 3 R,B q] [D.J 4 N,I e,I f,D.J 8 (F.set a.toNat (bb G H ao K C (A.set b.toNat [B false]) E L)),D.J 6 Q,D.J 5 (M.set b.toNat [B true,I (a-1),I (c+d),B x,B y]),D.J 3 R,B q],aM.ro (af b)] (aT.vals [ak true]):=
h.b6
def Bm(q:Bool)(a:Int)(r:Bool)(A:ae)(b c:Int)(C E F G:ae)(s t:Bool)(d e:Int)(u v:Bool)(H ao K L M N P Q:ae)(w:Bool)(f:Int)(x:Bool)(g i:Int)(y z:Bool)(l:List O):List O:=MB q a r A b c C E F G s t d e u v H ao K L M N P Q w f (.n t false::.b (decide (d>0)) false::.x F a [B x,I g,I i,B y,B z]::l)
theorem aes(h:ad (Bm t a y E d e C N A Q u v b c q r R S bm V F G X Y w f z j k h' k2 [.n q true,.x G a [B x],.n x true,.b (c+f==0) true,.b r true,.a (.dr [some [D.J 4 H,I g,I i,D.J 8 ao,D.J 6 K,D.J 5 L,D.J 3 M,B s],none,none] (aT.vals [])),.p (bY prog 317 [aM.ref [D.J 4 E,I d,I e,D.J 8 C,D.J 6 N,D.J 5 (A.set a.toNat [B false,I b,I c,B q,B r]),D.J 3 Q,B t] [D.J 4 H,I g,I i,D.J 8 ao,D.J 6 K,D.J 5 L,D.J 3 M,B s],aM.ro (af a),aM.ro (ak true)] (aT.vals []))])):
b3 246 [aM.ref [D.J 4 E,I d,I e,D.J 8 C,D.J 6 N,D.J 5 A,D.J 3 Q,B t] [D.J 4 H,I g,I i,D.J 8 ao,D.J 6 K,D.J 5 L,D.J 3 M,B s],aM.ro (af a)] (aT.vals [ak true]):=
h.b6
theorem aet(h:ad (Bm t a z E d e C Q A R u v b c q r S bm V X F G H Y w f h' j k k2 jr [.n q true,.x G a [B x],.n x true,.b (c+f==0) true,.b r false,.x H a [B y],.a (.dr [some [D.J 4 ao,I g,I i,D.J 8 K,D.J 6 L,D.J 5 M,D.J 3 N,B s],none,none] (aT.vals [])),.p (bY prog 317 [aM.ref [D.J 4 E,I d,I e,D.J 8 C,D.J 6 Q,D.J 5 (A.set a.toNat [B false,I b,I c,B q,B r]),D.J 3 R,B t] [D.J 4 ao,I g,I i,D.J 8 K,D.J 6 L,D.J 5 M,D.J 3 N,B s],aM.ro (af a),aM.ro (ak y)] (aT.vals []))])):
b3 246 [aM.ref [D.J 4 E,I d,I e,D.J 8 C,D.J 6 Q,D.J 5 A,D.J 3 R,B t] [D.J 4 ao,I g,I i,D.J 8 K,D.J 6 L,D.J 5 M,D.J 3 N,B s],aM.ro (af a)] (aT.vals [ak true]):=
h.b6
theorem aeu(h:ad (Bm r a x E d e C H A ao s t b c q u K L M N F G Q R v f y g i z h' [.n q true,.x G a [B w],.n w true,.b (c+f==0) false])):
b3 246 [aM.ref [D.J 4 E,I d,I e,D.J 8 C,D.J 6 H,D.J 5 A,D.J 3 ao,B r] [D.J 4 E,I d,I e,D.J 8 C,D.J 6 H,D.J 5 (A.set a.toNat [B false,I b,I c,B q,B u]),D.J 3 ao,B r],aM.ro (af a)] (aT.vals [ak true]):=
h.b6
theorem aev(h:ad (Bm r a x E c e C H A ao s t b d q u K L M N F G Q R v f y g i z h' [.n q true,.x G a [B w],.n w false])):
b3 246 [aM.ref [D.J 4 E,I c,I e,D.J 8 C,D.J 6 H,D.J 5 A,D.J 3 ao,B r] [D.J 4 E,I c,I e,D.J 8 C,D.J 6 H,D.J 5 (A.set a.toNat [B false,I b,I d,B q,B u]),D.J 3 ao,B r],aM.ro (af a)] (aT.vals [ak true]):=
h.b6
theorem aew(h:ad (Bm r a w E c e C G A H s t b d q u ao K L M F N Q R v f x g i y z [.n q false])):
b3 246 [aM.ref [D.J 4 E,I c,I e,D.J 8 C,D.J 6 G,D.J 5 A,D.J 3 H,B r] [D.J 4 E,I c,I e,D.J 8 C,D.J 6 G,D.J 5 (A.set a.toNat [B false,I b,I d,B q,B u]),D.J 3 H,B r],aM.ro (af a)] (aT.vals [ak true]):=
h.b6
theorem aex(h:ad [.b (decide ((A.length:Int)>0)) true,.p ((0:Int)<=0),.p (0<(A.length:Int)),.e A 0 (bb K L C E F G H ao),.r 213 [.agg (bb K L C E F G H ao),af a] [ak q]]):
av 315 [.agg (cl M b c A N Q R),af a] [ak q]:=
h.of
def vp(A C E F G H ao K:ae)(a b:Int):aI:=bg 22 [(1,aY a),(2,aQ 2),(5,aY b)] [(2,[.J .free 5 A,.J .free 5 C,.J .free 5 E,.J .free 4 F,.J .free 1 G,.J .free 1 H,.J .free 1 ao,.J .free 2 K])]
def JG(q:Bool):aI:=bg 22 [(4,.aK (.one (.ba q)))] []
theorem aey(h:ad [.i A c (bn d a e f g),.b (decide (a<=b)) true]):
a7 (aq f342 0) (vp C E A F G H ao K b c) .ret (JG true):=
h.aX [4] []
theorem adZ(h:ad [.i A a (bn d c e f g),.b (decide (c<=b)) false,.u a]):
a7 (aq f342 0) (vp C E A F G H ao K b a) .normal (vp C E A F G H ao K b (a+1)):=
h.aX [5,2,1] [2]
def RJ:aI:=bg 22 [] []
theorem ad0(h:ad [.f A a false]):
a7 (aq f342 0) (vp C E A F G H ao K b a) (.exit 0) RJ:=
h.aX [] []
theorem ad1(h:ad [.l [] [5,2,1] [2] (aq f342 0) (vp A C E F G H ao K a 0) .ret (JG q)]):
av 342 [.agg (bb A C E F G H ao K),af a] [ak q]:=
h.of
theorem ad2(h:ad [.l [] [5,2,1] [2] (aq f342 0) (vp A C E F G H ao K a 0) (.exit 0) RJ]):
av 342 [.agg (bb A C E F G H ao K),af a] [ak false]:=
h.of
theorem ad3(h:ad [.r 342 [.agg (bb A C E F G H ao K),af a] [ak q],.n q true,.r 343 [.agg (bb A C E F G H ao K),af a] [af b]]):
av 316 [.agg (bb A C E F G H ao K),af a] [ak (b==0)]:=
h.of
theorem ad4(h:ad [.r 342 [.agg (bb A C E F G H ao K),af a] [ak q],.n q false]):
av 316 [.agg (bb A C E F G H ao K),af a] [ak false]:=
h.of
theorem ad5(h:ad [.r 116 [aP 5 E,af a] [aP 5 C],.r 116 [aP 5 F,af a] [aP 5 A],.v ((C.length:Int)+(A.length:Int))]):
av 343 [.agg (bb E F G H ao K L M),af a] [af ((C.length:Int)+(A.length:Int))]:=
h.of
