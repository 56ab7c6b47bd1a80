import Derived.Test.YtdchjefneblpgaaGreatGE
set_option linter.unusedVariables false
set_option linter.unusedSimpArgs false
namespace Go.Proofs.YtdchjefneblpgaaGreat
open Go.Sx Go.RowKit Go.Proofs.Tryz
variable {a b c d e f g i j k l m n o p a0 eC b6 fb c5 d0 bE f0 i0 j0 dm eF m0 lA ph hq : Int} {A C E F G H ah K L M N Q R S ba V X Y Z dC fh fu fI fJ fK eW kg kX lO lP lQ : ag} {q r s t u v w x y z gE q1 jb FD gH bx b0 ci gZ s1 s2 HU t0 t1 t2 t3 fH gO j9 v0 v1 v2 w0 w1 h' cE gP gz mC eB eV z0 r1 z2 : Bool}
theorem ae3(h:ad [.g ([]:ag) A 8,.h A]):
 aq 276 [.agg (bp a b c A)] [.agg (bp a b c ([]++A))]:=
 h.of
def Dl(A:ag)(a:Int)(C:ag)(b c d e:Int):aC:=bb 27 [(2,aR 2),(3,aR 3),(12,dB 4 A),(13,aU (A.length:Int)),(14,aU a)] [(3,[aB 23 4 C,au b,au c]),(2,[.v (aN),au d,au e])]
theorem ae4(h:ad [.i A a (bp l e f F),.r 276 [.agg (bp l e f F)] [.agg (bp b c d C)],.a .wr,.g E [(bp b c d C)] 48,.u a]):
 aV (ap f181 0) (Dl A a E g i j k) .normal (Dl A (a+1) (E++[(bp b c d C)]) g i j k):=
 h.aS [14,13,12,3,2] [3,2]
def VU(A:ag)(a b c d:Int):aC:=bb 27 [(2,aR 2),(3,aR 3)] [(3,[aB 23 4 A,au a,au b]),(2,[.v (aN),au c,au d])]
theorem ae5(h:ad [.f A a false]):
 aV (ap f181 0) (Dl A a C b c d e) (.exit 0) (VU C b c d e):=
 h.aS [3,2] [3,2]
theorem ae6(h:ad [.l [(4000000,23,4)] [14,13,12,3,2] [3,2] (ap f181 0) (Dl A 0 [] a b 0 0) (.exit 0) (VU C c d e f)]):
 aq 181 [.agg (br A a b)] [.agg (br C c d)]:=
 h.of
theorem ae7(h:ad [.r 233 [aO 5 A] [aO 5 C]]):
 aq 256 [.agg (bY a A b c d e)] [.agg (bY a C b c d e)]:=
 h.of
theorem ae8(h:ad [.r 233 [aO 5 G] [aO 5 N],.r 233 [aO 5 H] [aO 5 Q],.r 233 [aO 5 L] [aO 5 ah],.r 297 [aO 4 M] [aO 4 K],.g ([]:ag) A 8,.h A,.g ([]:ag) C 1,.h C,.g ([]:ag) E 1,.h E,.g ([]:ag) F 16,.h F]):
 aq 255 [.agg (aW G H L M A C E F)] [.agg (aW N Q ah K ([]++A) ([]++C) ([]++E) ([]++F))]:=
 h.of
def Dm(A:ag)(a:Int)(ah:ag)(d e:Int)(K L M:ag)(f g:Int)(C:ag)(b c:Int)(E F G H:ag):aC:=bb 49 [(1,aR 1),(2,aR 2),(3,aR 3),(19,dB 8 A),(20,aU (A.length:Int)),(21,aU a)] [(3,[aB 110000 4 ah,au d,au e,aB 30 8 K,.v (aN),aB 13 5 L,aB 16 3 M]),(2,[.v (aN),au f,au g,.v (aN),.v (aN),.v (aN),.v (aN)]),(1,[.J .free 4 C,au b,au c,.J .free 8 E,.J .free 6 F,.J .free 5 G,.J .free 3 H])]
theorem ae9(h:ad [.i C a (aW Z dC fh fu fI fJ fK eW),.r 255 [.agg (aW Z dC fh fu fI fJ fK eW)] [.agg (aW E F G H ah K L M)],.a .wr,.g A [(aW E F G H ah K L M)] 192,.u a]):
 aV (ap f144 0) (Dm C a N b c A Q R d e S f g ba V X Y) .normal (Dm C (a+1) N b c (A++[(aW E F G H ah K L M)]) Q R d e S f g ba V X Y):=
 h.aS [21,20,19,3,1,2] [3,2,1]
def VV(A:ag)(a c:Int)(H ah K:ag)(d e:Int)(L:ag)(f b:Int)(C E F G:ag):aC:=bb 49 [(1,aR 1),(2,aR 2),(3,aR 3)] [(3,[aB 110000 4 A,au a,au c,aB 30 8 H,.v (aN),aB 13 5 ah,aB 16 3 K]),(2,[.v (aN),au d,au e,.v (aN),.v (aN),.v (aN),.v (aN)]),(1,[.J .free 4 L,au f,au b,.J .free 8 C,.J .free 6 E,.J .free 5 F,.J .free 3 G])]
theorem afa(h:ad [.f M a false]):
 aV (ap f144 0) (Dm M a A b c C E F d e G f g H ah K L) (.exit 0) (VV A b c C E F d e G f g H ah K L):=
 h.aS [1,3,2] [3,2,1]
def Dn(A:ag)(a:Int)(C:ag)(c d:Int)(E F G H:ag)(e b:Int):aC:=bb 49 [(2,aR 2),(3,aR 3),(34,dB 6 A),(35,aU (A.length:Int)),(36,aU a)] [(3,[aB 110000 4 C,au c,au d,aB 30 8 E,aB 45 6 F,aB 13 5 G,aB 16 3 H]),(2,[.v (aN),au e,au b,.v (aN),.v (aN),.v (aN),.v (aN)])]
theorem afb(h:ad [.i A a (bY l K m n o p),.r 256 [.agg (bY l K m n o p)] [.agg (bY b E c d e f)],.a .wr,.g C [(bY b E c d e f)] 64,.u a]):
 aV (ap f144 1) (Dn A a F g i G C H ah j k) .normal (Dn A (a+1) F g i G (C++[(bY b E c d e f)]) H ah j k):=
 h.aS [36,35,34,3,2] [3,2]
def VW(A:ag)(a b:Int)(C E F G:ag)(c d:Int):aC:=bb 49 [(2,aR 2),(3,aR 3)] [(3,[aB 110000 4 A,au a,au b,aB 30 8 C,aB 45 6 E,aB 13 5 F,aB 16 3 G]),(2,[.v (aN),au c,au d,.v (aN),.v (aN),.v (aN),.v (aN)])]
theorem afc(h:ad [.f A a false]):
 aV (ap f144 1) (Dn A a C b c E F G H d e) (.exit 2) (VW C b c E F G H d e):=
 h.aS [3,2] [3,2]
theorem afd(h:ad [.r 181 [.agg (br E a b)] [.agg (br V j k)],.g ([]:ag) A 32,.h A,.g ([]:ag) C 24,.h C,.l [(4000003,30,8)] [21,20,19,3,1,2] [3,2,1] (ap f144 0) (Dm F 0 V j k [] ([]++A) ([]++C) 0 0 E a b F ba A C) (.exit 0) (VV G c d H ah K e f X l m Y L Z dC),.l [(4000004,45,6)] [36,35,34,3,2] [3,2] (ap f144 1) (Dn L 0 G c d H [] ah K e f) (.exit 2) (VW M g i N Q R S n o)]):
 aq 144 [.agg (cl E a b F ba A C)] [.agg (cl M g i N Q R S)]:=
 h.of
theorem afe(h:ad [.g ([]:ag) A 40,.h A]):
 aq 279 [.agg (bY a A b c d e)] [.agg (bY a ([]++A) b c d e)]:=
 h.of
def Dp(a:Int)(A:ag)(b c d e:Int)(C:ag)(f g:Int):aC:=bb 33 [(1,aR 1),(2,aR 2),(3,aR 3),(4,aU a)] [(3,[aB 7 4 A,au b,au c]),(2,[.v (aN),au d,au e]),(1,[.J .free 4 C,au f,au g])]
theorem aff(h:ad [.i E a (bp b c d A),.a .wr,.g ([]:ag) A 8,.h A,.g C [(bp b c d ([]++A))] 48,.u a]):
 aV (ap f123 0) (Dp a C g i j k E e f) .normal (Dp (a+1) (C++[(bp b c d ([]++A))]) g i j k E e f):=
 h.aS [4,1,3,2] [3,2,1]
def VX(A:ag)(a b c d:Int):aC:=bb 33 [(2,aR 2),(3,aR 3)] [(3,[aB 7 4 A,au a,au b]),(2,[.v (aN),au c,au d])]
theorem afg(h:ad [.f C a false]):
 aV (ap f123 0) (Dp a A b c d e C f g) (.exit 0) (VX A b c d e):=
 h.aS [3,2] [3,2]
theorem afh(h:ad [.l [] [4,1,3,2] [3,2,1] (ap f123 0) (Dp 0 [] a b 0 0 A a b) (.exit 0) (VX C c d e f)]):
 aq 123 [.agg (br A a b)] [.agg (br C c d)]:=
 h.of
theorem afi(h:ad [.g ([]:ag) A 40,.h A,.g ([]:ag) C 40,.h C,.g ([]:ag) E 40,.h E,.g ([]:ag) F 32,.h F,.g ([]:ag) G 8,.h G,.g ([]:ag) H 1,.h H,.g ([]:ag) ah 1,.h ah,.g ([]:ag) K 16,.h K]):
 aq 174 [.agg (aW A C E F G H ah K)] [.agg (aW ([]++A) ([]++C) ([]++E) ([]++F) ([]++G) ([]++H) ([]++ah) ([]++K))]:=
 h.of
def Dq(a:Int)(A:ag)(d e:Int)(H ah K:ag)(f g:Int)(L:ag)(b c:Int)(C E F G:ag):aC:=bb 55 [(1,aR 1),(2,aR 2),(3,aR 3),(4,aU a)] [(3,[aB 90000 4 A,au d,au e,aB 34 8 H,.v (aN),aB 9 5 ah,aB 13 3 K]),(2,[.v (aN),au f,au g,.v (aN),.v (aN),.v (aN),.v (aN)]),(1,[.J .free 4 L,au b,au c,.J .free 8 C,.J .free 6 E,.J .free 5 F,.J .free 3 G])]
theorem aet(h:ad [.i C a (aW Y Z dC fh fu fI fJ fK),.r 174 [.agg (aW Y Z dC fh fu fI fJ fK)] [.agg (aW E F G H ah K L M)],.a .wr,.g A [(aW E F G H ah K L M)] 192,.u a]):
 aV (ap f186 0) (Dq a N b c A Q R d e S f g C ba V X) .normal (Dq (a+1) N b c (A++[(aW E F G H ah K L M)]) Q R d e S f g C ba V X):=
 h.aS [4,1,3,2] [3,2,1]
def VY(A:ag)(a c:Int)(H ah K:ag)(d e:Int)(L:ag)(f b:Int)(C E F G:ag):aC:=bb 55 [(1,aR 1),(2,aR 2),(3,aR 3)] [(3,[aB 90000 4 A,au a,au c,aB 34 8 H,.v (aN),aB 9 5 ah,aB 13 3 K]),(2,[.v (aN),au d,au e,.v (aN),.v (aN),.v (aN),.v (aN)]),(1,[.J .free 4 L,au f,au b,.J .free 8 C,.J .free 6 E,.J .free 5 F,.J .free 3 G])]
theorem aeu(h:ad [.f A a false]):
 aV (ap f186 0) (Dq a C b c E F G d e H f g A ah K L) (.exit 0) (VY C b c E F G d e H f g A ah K L):=
 h.aS [1,3,2] [3,2,1]
def Dr(a:Int)(A:ag)(d e:Int)(ah K L M:ag)(f g:Int)(C:ag)(b c:Int)(E F G H:ag):aC:=bb 55 [(1,aR 1),(2,aR 2),(3,aR 3),(5,aU a)] [(3,[aB 90000 4 A,au d,au e,aB 34 8 ah,aB 52 6 K,aB 9 5 L,aB 13 3 M]),(2,[.v (aN),au f,au g,.v (aN),.v (aN),.v (aN),.v (aN)]),(1,[.J .free 4 C,au b,au c,.J .free 8 E,.J .free 6 F,.J .free 5 G,.J .free 3 H])]
theorem aev(h:ad [.i C a (bY n Q o p a0 b6),.r 279 [.agg (bY n Q o p a0 b6)] [.agg (bY b E c d e f)],.a .wr,.g A [(bY b E c d e f)] 64,.u a]):
 aV (ap f186 1) (Dr a F g i G A H ah j k K l m L C M N) .normal (Dr (a+1) F g i G (A++[(bY b E c d e f)]) H ah j k K l m L C M N):=
 h.aS [5,1,3,2] [3,2,1]
def VZ(A:ag)(a b:Int)(C E F G:ag)(c d:Int):aC:=bb 55 [(2,aR 2),(3,aR 3)] [(3,[aB 90000 4 A,au a,au b,aB 34 8 C,aB 52 6 E,aB 9 5 F,aB 13 3 G]),(2,[.v (aN),au c,au d,.v (aN),.v (aN),.v (aN),.v (aN)])]
theorem aew(h:ad [.f H a false]):
 aV (ap f186 1) (Dr a A b c C E F G d e ah f g K H L M) (.exit 2) (VZ A b c C E F G d e):=
 h.aS [3,2] [3,2]
theorem aex(h:ad [.r 123 [.agg (br E a b)] [.agg (br dC l m)],.g ([]:ag) A 32,.h A,.g ([]:ag) C 24,.h C,.l [(4000003,34,8)] [4,1,3,2] [3,2,1] (ap f186 0) (Dq 0 dC l m [] ([]++A) ([]++C) 0 0 E a b V Z A C) (.exit 0) (VY F c d G H ah e f K g i L M N Q),.l [(4000004,52,6)] [5,1,3,2] [3,2,1] (ap f186 1) (Dr 0 F c d G [] H ah e f K g i L M N Q) (.exit 2) (VZ R j k S ba X Y n o)]):
 aq 186 [.agg (cl E a b V Z A C)] [.agg (cl R j k S ba X Y)]:=
 h.of
theorem aey(h:ad [.r 186 [.agg (cl A a b C E F G)] [.agg (cl M c d H ah K L)],.r 56 [.agg (cl A a b C E F G)] [aj q]]):
 ca 127 [aM.ro (.agg (cl A a b C E F G))] (aY.new [D.J 4 M,I c,I d,D.J 8 H,D.J 6 ah,D.J 5 K,D.J 3 L,B q]):=
 h.cb
def rI(a b:Int)(A:ag)(c d:Int)(C E F G:ag)(q:Bool):aC:=bb 93 [(0,aR 1000000000),(1,aU a),(5,aU b)] [(1000000000,[aB 900000000 4 A,au c,au d,aB 900000003 8 C,aB 900000004 6 E,aB 900000005 5 F,aB 900000006 3 G,.bg q])]
theorem aez(h:ad [.f A a true,.b q true,.x A a [I e,I f,B r],.b (e != b) true,.u a]):
 aV (ap f247 0) (rI b a C c d E F G A q) .normal (rI b (a+1) C c d E F G A q):=
 h.aS [5,0,1] [1000000000]
def Hn(q:Bool)(A:ag)(a b:Int)(C E F G:ag)(r:Bool):aC:=bb 93 [(0,aR 1000000000),(4,.aG (.one (.bg q)))] [(1000000000,[aB 900000000 4 A,au a,au b,aB 900000003 8 C,aB 900000004 6 E,aB 900000005 5 F,aB 36 3 G,.bg r])]
def aa5(A:ag)(a:Int)(q:Bool)(b c:Int)(r:Bool)(d:Int)(C E F G H ah K L M:ag)(s:Bool)(l:List O):List O:=.f A a true::.b q true::.x A a [I b,I c,B r]::.b (b != d) false::.a .sub::.p ((0:Int)<=none.getD 0)::.p (none.getD 0<=(some a).getD (A.length:Int))::.p ((some a).getD (A.length:Int)<=(A.length:Int))::.p ((([]:ag).length+(List.take (((some a).getD (A.length:Int)).toNat-0) (List.drop 0 A)).length)*24<=140737488355328)::.p (([]:ag).length+(List.take (((some a).getD (A.length:Int)).toNat-0) (List.drop 0 A)).length<=9223372036854775807)::.p (Flat (List.take (((some a).getD (A.length:Int)).toNat-0) (List.drop 0 A)))::.u a::.p (0<=(some (a+1)).getD 0)::.p ((some (a+1)).getD 0<=none.getD (A.length:Int))::.p (none.getD (A.length:Int)<=(A.length:Int))::.p ((([]++List.take (((some a).getD (A.length:Int)).toNat-0) (List.drop 0 A)).length+(List.take (A.length-((some (a+1)).getD 0).toNat) (List.drop ((some (a+1)).getD 0).toNat A)).length)*24<=140737488355328)::.p (([]++List.take (((some a).getD (A.length:Int)).toNat-0) (List.drop 0 A)).length+(List.take (A.length-((some (a+1)).getD 0).toNat) (List.drop ((some (a+1)).getD 0).toNat A)).length<=9223372036854775807)::.p (Flat (List.take (A.length-((some (a+1)).getD 0).toNat) (List.drop ((some (a+1)).getD 0).toNat A)))::.x C d (aW E F G H ah K L M)::.r 213 [.agg (aW E F G H ah K L M),ae c] [aj s]::l
theorem aeA(h:ad (aa5 A a r f c q b C F G H ah K L M E s [.n s true,.a .sub,.x C b (aW F G H ah K L M E),.g E [[I c,B q]] 16,.e C b.toNat (aW F G H ah K L M E),.p ((aW F G H ah K L M E)[7]?=some (D.J 2 E)),.h [[I c,B q]],.p (C=C),.p (C=C),.p (b.toNat=b.toNat),.p (E=E),.p (C=C),.p (C=C),.p (C=C),.p (C=C),.p (C=C),.p (b.toNat=b.toNat),.p (E=E),.x C b (aW F G H ah K L M E),.p (b.toNat=b.toNat)])):
 aV (ap f247 0) (rI b a N d e C Q R A r) .ret (Hn true N d e (C.set b.toNat (aW F G H ah K L M (E++[[I c,B q]]))) Q R ([]++List.take (((some a).getD (A.length:Int)).toNat-0) (List.drop 0 A)++List.take (A.length-((some (a+1)).getD 0).toNat) (List.drop ((some (a+1)).getD 0).toNat A)) r):=
 h.aS [4,0] [1000000000]
theorem aeB(h:ad (aa5 A a q e f s b C H ah K L M N Q R r [.n r false])):
 aV (ap f247 0) (rI b a E c d C F G A q) .ret (Hn true E c d C F G ([]++List.take (((some a).getD (A.length:Int)).toNat-0) (List.drop 0 A)++List.take (A.length-((some (a+1)).getD 0).toNat) (List.drop ((some (a+1)).getD 0).toNat A)) q):=
 h.aS [4,0] [1000000000]
def NO(A:ag)(a b:Int)(C E F G:ag)(q:Bool):aC:=bb 93 [(0,aR 1000000000)] [(1000000000,[aB 900000000 4 A,au a,au b,aB 900000003 8 C,aB 900000004 6 E,aB 900000005 5 F,aB 900000006 3 G,.bg q])]
theorem aeC(h:ad [.f A c true,.b q false]):
 aV (ap f247 0) (rI d c C a b E F G A q) (.exit 0) (NO C a b E F G A q):=
 h.aS [0] [1000000000]
theorem V0(h:ad [.f A c false]):
 aV (ap f247 0) (rI d c C a b E F G A q) (.exit 0) (NO C a b E F G A q):=
 h.aS [0] [1000000000]
theorem aeD(h:ad [.l [] [5,0,1] [1000000000] (ap f247 0) (rI e 0 A a d ah K L M r) .ret (Hn s C b c E F G H q)]):
 ca 247 [aM.ref [D.J 4 A,I a,I d,D.J 8 ah,D.J 6 K,D.J 5 L,D.J 3 M,B r] [D.J 4 C,I b,I c,D.J 8 E,D.J 6 F,D.J 5 G,D.J 3 H,B q],aM.ro (ae e)] (aY.vals [aj s]):=
 h.cb
theorem NP(h:ad [.l [] [5,0,1] [1000000000] (ap f247 0) (rI e 0 A a d H ah K L r) (.exit 0) (NO M b c C E F G q)]):
 ca 247 [aM.ref [D.J 4 A,I a,I d,D.J 8 H,D.J 6 ah,D.J 5 K,D.J 3 L,B r] [D.J 4 M,I b,I c,D.J 8 C,D.J 6 E,D.J 5 F,D.J 3 G,B q],aM.ro (ae e)] (aY.vals [aj false]):=
 h.cb
theorem aeE(h:ad []):
 aq 295 [.agg [I a,I c,B q],.one (.ptr [I b])] [aj (a==b)]:=
 h.of
def aa6(A:ag)(a b:Int)(C E F G H:ag)(c d:Int)(ah K L M:ag)(l:List O):List O:=.r 144 [.agg (cl A a b C E F G)] [.agg (cl H c d ah K L M)]::l
def Qv(A:ag)(a b:Int)(C E F G H:ag)(c d:Int)(ah K L M:ag)(e f:Int)(l:List O):List O:=aa6 A a b C E F G H c d ah K L M (.r 290 [aO 3 G,.one (.cl 295 [D.ptr [I e]])] [ae f]::l)
theorem aeF(h:ad (Qv C a d ah K L A M f b E F G H e c [.b (decide (c<0)) true])):
 aq 224 [.agg (cl C a d ah K L A),ae e] [.agg (cl M f b E F G H),aj false]:=
 h.of
theorem aeG(h:ad (Qv C a b E F G A M f c H ah K L e d [.b (decide (d<0)) false,.r 55 [.agg (cl C a b E F G A)] [aj q],.n q true])):
 aq 224 [.agg (cl C a b E F G A),ae e] [.agg (cl M f c H ah K L),aj false]:=
 h.of
def aa7(A:ag)(a b:Int)(C E F G H:ag)(c d:Int)(ah K L M:ag)(e f:Int)(q:Bool)(g i:Int)(r:Bool)(N P Q R S ba V X Y:ag)(s:Bool)(l:List O):List O:=Qv A a b C E F G H c d ah K L M e f (.b (decide (f<0)) false::.r 55 [.agg (cl A a b C E F G)] [aj q]::.n q false::.x G f [I g,I i,B r]::.a (.rV [[some none],[none],[none]] 0 [] [aO 3 N])::.u f::.p (kY prog 296 [GA.one (eZ.fk 3 M none),GA.one (eZ.ro (I f)),GA.one (eZ.ro (I (f+1)))] [aO 3 N])::.x C e (aW P Q R S ba V X Y)::.r 210 [.agg (aW P Q R S ba V X Y),ae i] [aj s]::l)
theorem aeH(h:ad (aa7 Q d e N S ba M kg g f A V X Y a b r i c q R Z dC fh fu fI fJ fK eW s [.n s true,.a .sub,.x A a (aW E F G H ah K L C),.g C [[I c,B q]] 16,.e A a.toNat (aW E F G H ah K L C),.p ((aW E F G H ah K L C)[7]?=some (D.J 2 C)),.h [[I c,B q]],.p (A=A),.p (A=A),.p (A=A),.p (A=A),.p (A=A),.p (A=A),.p (a.toNat=a.toNat),.p (C=C),.x A a (aW E F G H ah K L C),.p (a.toNat=a.toNat)])):
 aq 224 [.agg (cl Q d e N S ba M),ae a] [.agg (cl kg g f (A.set a.toNat (aW E F G H ah K L (C++[[I c,B q]]))) V X R),aj true]:=
 h.of
theorem aeI(h:ad (aa7 E b c C G H A Z g e ah K L M d a q i f s F N Q R S ba V X Y r [.n r false])):
 aq 224 [.agg (cl E b c C G H A),ae d] [.agg (cl Z g e ah K L F),aj true]:=
 h.of
def Ds(a:Int)(q:Bool)(b:Int)(A:ag)(c d:Int)(C E F G:ag)(r:Bool):aC:=bb 52 [(0,aR 1000000000),(1,aU a),(2,.aG (.one (.bg q))),(6,aU b)] [(1000000000,[aB 900000000 4 A,au c,au d,aB 900000003 8 C,aB 900000004 6 E,aB 900000005 5 F,aB 900000006 3 G,.bg r])]
theorem aeJ(h:ad [.f A a true,.g C [[I a,I b,B q]] 24,.h [[I a,I b,B q]],.u a]):
 aV (ap f317 0) (Ds b q a E c d A F G C r) .normal (Ds b q (a+1) E c d A F G (C++[[I a,I b,B q]]) r):=
 h.aS [6,0,1,2] [1000000000]
def V1(A:ag)(a b:Int)(C E F G:ag)(q:Bool):aC:=bb 52 [(0,aR 1000000000)] [(1000000000,[aB 900000000 4 A,au a,au b,aB 900000003 8 C,aB 900000004 6 E,aB 900000005 5 F,aB 900000006 3 G,.bg q])]
theorem aeK(h:ad [.f A a false]):
 aV (ap f317 0) (Ds d r a C b c A E F G q) (.exit 0) (V1 C b c A E F G q):=
 h.aS [0] [1000000000]
theorem aeL(h:ad [.a .sub,.p ((0:Int)<=0),.p (0<(A.length:Int)),.e A 0 (aW E F G H ah K L C),.g C [[I a,B q]] 16,.e A 0 (aW E F G H ah K L C),.p ((aW E F G H ah K L C)[7]?=some (D.J 2 C)),.h [[I a,B q]],.p (A=A),.p (A=A),.p (A=A),.p (A=A),.p (A=A),.p (0=0),.p (C=C),.p ((0:Int)<=0),.p (0<(A.length:Int)),.e A 0 (aW E F G H ah K L C),.p (0=0),.l [] [6,0,1,2] [1000000000] (ap f317 0) (Ds a q 1 M b d (A.set 0 (aW E F G H ah K L (C++[[I a,B q]]))) V X Y s) (.exit 0) (V1 N c e Q R S ba r)]):
 ca 317 [aM.ref [D.J 4 M,I b,I d,D.J 8 A,D.J 6 V,D.J 5 X,D.J 3 Y,B s] [D.J 4 N,I c,I e,D.J 8 Q,D.J 6 R,D.J 5 S,D.J 3 ba,B r],aM.ro (ae a),aM.ro (aj q)] (aY.vals []):=
 h.cb
theorem aeM(h:ad [.n q true]):
 ca 246 [aM.ref [D.J 4 A,I a,I b,D.J 8 C,D.J 6 E,D.J 5 F,D.J 3 G,B q] [D.J 4 A,I a,I b,D.J 8 C,D.J 6 E,D.J 5 F,D.J 3 G,B q],aM.ro (ae c)] (aY.vals [aj false]):=
 h.cb
def aaS(q:Bool)(a:Int)(r:Bool)(l:List O):List O:=.n q false::.r 168 [ae a,ae 0,ae 3] [aj r]::l
theorem aeN(h:ad (aaS q c r [.n r true])):
 ca 246 [aM.ref [D.J 4 A,I a,I b,D.J 8 C,D.J 6 E,D.J 5 F,D.J 3 G,B q] [D.J 4 A,I a,I b,D.J 8 C,D.J 6 E,D.J 5 F,D.J 3 G,B q],aM.ro (ae c)] (aY.vals [aj false]):=
 h.cb
def aaT(q:Bool)(a:Int)(r:Bool)(A:ag)(b c:Int)(C E F G:ag)(s:Bool)(l:List O):List O:=aaS q a r (.n r false::.r 315 [.agg (cl A b c C E F G),ae a] [aj s]::l)
theorem aeO(h:ad (aaT q c s A a b C E F G r [.b r true])):
 ca 246 [aM.ref [D.J 4 A,I a,I b,D.J 8 C,D.J 6 E,D.J 5 F,D.J 3 G,B q] [D.J 4 A,I a,I b,D.J 8 C,D.J 6 E,D.J 5 F,D.J 3 G,B q],aM.ro (ae c)] (aY.vals [aj false]):=
 h.cb
def aaU(q:Bool)(a:Int)(r:Bool)(A:ag)(b c:Int)(C E F G:ag)(s t:Bool)(d e:Int)(u v:Bool)(H ah K L M N P Q:ag)(w:Bool)(l:List O):List O:=aaT q a r A b c C E F G s (.b s false::.x F a [B t,I d,I e,B u,B v]::.a .sub::.x C d (aW H ah K L M N P Q)::.r 316 [.agg (aW H ah K L M N P Q),ae a] [aj w]::l)
theorem aeP(h:ad (aaU q a t E b c A F C G r u d e v w H ah K L M N Q R s [.n s true])):
 ca 246 [aM.ref [D.J 4 E,I b,I c,D.J 8 A,D.J 6 F,D.J 5 C,D.J 3 G,B q] [D.J 4 E,I b,I c,D.J 8 A,D.J 6 F,D.J 5 C,D.J 3 G,B q],aM.ro (ae a)] (aY.vals [aj false]):=
 h.cb
def Qm(q:Bool)(a:Int)(r:Bool)(A:ag)(b c:Int)(C E F G:ag)(s t:Bool)(d e:Int)(u v:Bool)(H ah K L M N P Q:ag)(w:Bool)(f:Int)(l:List O):List O:=aaU q a r A b c C E F G s t d e u v H ah K L M N P Q w (.n w false::.x M a [I f]::.v (e+f)::l)
theorem aeQ(h:ad (Qm q a v F c d A S C ba r s b e w x V X Y Z G dC H fh t f [.n s true,.v ((A.length:Int)-1),.x H a [B u],.x C a [B y,I g,I i,B z,B gE],.a .sub,.p ((0:Int)<=0),.p (0<(A.length:Int)),.e A 0 (aW ah K L M N E Q R),.x E a [B gH],.e A 0 (aW ah K L M N E Q R),.p (b.toNat=0),.p (b.toNat=0),.p (0=0),.p (0=0),.p (b.toNat=0)])):
 ca 246 [aM.ref [D.J 4 F,I c,I d,D.J 8 A,D.J 6 S,D.J 5 C,D.J 3 ba,B q] [D.J 4 F,I c,I d,D.J 8 (A.set 0 (aW ah K L M N (E.set a.toNat [B false]) Q R)),D.J 6 S,D.J 5 (C.set a.toNat [B true,I ((A.length:Int)-1),I 0,B false,B u]),D.J 3 ba,B q],aM.ro (ae a)] (aY.vals [aj true]):=
 h.cb
def Ef(q:Bool)(a:Int)(r:Bool)(A:ag)(b c:Int)(C E F G:ag)(s t:Bool)(d e:Int)(u v:Bool)(H ah K L M N P Q:ag)(w:Bool)(f:Int)(x:Bool)(l:List O):List O:=Qm q a r A b c C E F G s t d e u v H ah K L M N P Q w f (.n t false::.b (decide (d>0)) true::.r 168 [ae (e+f),ae (-1000000),ae 1000000] [aj x]::l)
theorem aeR(h:ad (Ef q a v E b e A G C H r s c d w x ah K L M F N Q R t f u [.n u true])):
 ca 246 [aM.ref [D.J 4 E,I b,I e,D.J 8 A,D.J 6 G,D.J 5 C,D.J 3 H,B q] [D.J 4 E,I b,I e,D.J 8 A,D.J 6 G,D.J 5 C,D.J 3 H,B q],aM.ro (ae a)] (aY.vals [aj false]):=
 h.cb
theorem aeS(h:ad (Ef q b x N e f E Q M R r s a c t u F G H ah A C K L v d w [.n w false,.v (a-1),.b t true,.b u true,.x M b [B y,I g,I i,B z,B gE],.a .sub,.x E a (aW F G H ah A C K L),.x C b [B gH],.e E a.toNat (aW F G H ah A C K L),.p (a.toNat=a.toNat),.p (a.toNat=a.toNat),.p (a.toNat=a.toNat),.p (a.toNat=a.toNat),.p (a.toNat=a.toNat)])):
 ca 246 [aM.ref [D.J 4 N,I e,I f,D.J 8 E,D.J 6 Q,D.J 5 M,D.J 3 R,B q] [D.J 4 N,I e,I f,D.J 8 (E.set a.toNat (aW F G H ah A (C.set b.toNat [B false]) K L)),D.J 6 Q,D.J 5 (M.set b.toNat [B true,I (a-1),I (c+d),B true,B true]),D.J 3 R,B q],aM.ro (ae b)] (aY.vals [aj true]):=
 h.cb
theorem aej(h:ad (Ef q b y N e f F Q M R r s a c t u G H ah K A C E L v d w [.n w false,.v (a-1),.b t true,.b u false,.x E b [B x],.x M b [B z,I g,I i,B gE,B gH],.a .sub,.x F a (aW G H ah K A C E L),.x C b [B gZ],.e F a.toNat (aW G H ah K A C E L),.p (a.toNat=a.toNat),.p (a.toNat=a.toNat),.p (a.toNat=a.toNat),.p (a.toNat=a.toNat),.p (a.toNat=a.toNat)])):
 ca 246 [aM.ref [D.J 4 N,I e,I f,D.J 8 F,D.J 6 Q,D.J 5 M,D.J 3 R,B q] [D.J 4 N,I e,I f,D.J 8 (F.set a.toNat (aW G H ah K A (C.set b.toNat [B false]) E L)),D.J 6 Q,D.J 5 (M.set b.toNat [B true,I (a-1),I (c+d),B true,B x]),D.J 3 R,B q],aM.ro (ae b)] (aY.vals [aj true]):=
 h.cb
theorem aek(h:ad (Ef q b y N e f E Q M R r s a c t u F G H ah C A K L v d w [.n w false,.v (a-1),.b t false,.x A b [B x],.b u true,.x M b [B z,I g,I i,B gE,B gH],.a .sub,.x E a (aW F G H ah C A K L),.x A b [B gZ],.e E a.toNat (aW F G H ah C A K L),.p (a.toNat=a.toNat),.p (a.toNat=a.toNat),.p (a.toNat=a.toNat),.p (a.toNat=a.toNat),.p (a.toNat=a.toNat),.p (a.toNat=a.toNat),.p (a.toNat=a.toNat)])):
 ca 246 [aM.ref [D.J 4 N,I e,I f,D.J 8 E,D.J 6 Q,D.J 5 M,D.J 3 R,B q] [D.J 4 N,I e,I f,D.J 8 (E.set a.toNat (aW F G H ah C (A.set b.toNat [B false]) K L)),D.J 6 Q,D.J 5 (M.set b.toNat [B true,I (a-1),I (c+d),B x,B true]),D.J 3 R,B q],aM.ro (ae b)] (aY.vals [aj true]):=
 h.cb
theorem ael(h:ad (Ef q b z N e f F Q M R r s a c t u G H ah K C A E L v d w [.n w false,.v (a-1),.b t false,.x A b [B x],.b u false,.x E b [B y],.x M b [B gE,I g,I i,B gH,B gZ],.a .sub,.x F a (aW G H ah K C A E L),.x A b [B t0],.e F a.toNat (aW G H ah K C A E L),.p (a.toNat=a.toNat),.p (a.toNat=a.toNat),.p (a.toNat=a.toNat),.p (a.toNat=a.toNat),.p (a.toNat=a.toNat),.p (a.toNat=a.toNat),.p (a.toNat=a.toNat)])):
 ca 246 [aM.ref [D.J 4 N,I e,I f,D.J 8 F,D.J 6 Q,D.J 5 M,D.J 3 R,B q] [D.J 4 N,I e,I f,D.J 8 (F.set a.toNat (aW G H ah K C (A.set b.toNat [B false]) E L)),D.J 6 Q,D.J 5 (M.set b.toNat [B true,I (a-1),I (c+d),B x,B y]),D.J 3 R,B q],aM.ro (ae b)] (aY.vals [aj true]):=
 h.cb
def Eg(q:Bool)(a:Int)(r:Bool)(A:ag)(b c:Int)(C E F G:ag)(s t:Bool)(d e:Int)(u v:Bool)(H ah K L M N P Q:ag)(w:Bool)(f:Int)(x:Bool)(g i:Int)(y z:Bool)(l:List O):List O:=Qm q a r A b c C E F G s t d e u v H ah K L M N P Q w f (.n t false::.b (decide (d>0)) false::.x F a [B x,I g,I i,B y,B z]::l)
theorem aem(h:ad (Eg t a y E d e C N A Q u v b c q r R S ba V F G X Y w f z j k gE gH [.n q true,.x G a [B x],.n x true,.b (c+f==0) true,.b r true,.a (.dN [some [D.J 4 H,I g,I i,D.J 8 ah,D.J 6 K,D.J 5 L,D.J 3 M,B s],none,none] (aY.vals [])),.p (b2 prog 317 [aM.ref [D.J 4 E,I d,I e,D.J 8 C,D.J 6 N,D.J 5 (A.set a.toNat [B false,I b,I c,B q,B r]),D.J 3 Q,B t] [D.J 4 H,I g,I i,D.J 8 ah,D.J 6 K,D.J 5 L,D.J 3 M,B s],aM.ro (ae a),aM.ro (aj true)] (aY.vals []))])):
 ca 246 [aM.ref [D.J 4 E,I d,I e,D.J 8 C,D.J 6 N,D.J 5 A,D.J 3 Q,B t] [D.J 4 H,I g,I i,D.J 8 ah,D.J 6 K,D.J 5 L,D.J 3 M,B s],aM.ro (ae a)] (aY.vals [aj true]):=
 h.cb
theorem aen(h:ad (Eg t a z E d e C Q A R u v b c q r S ba V X F G H Y w f gE j k gH gZ [.n q true,.x G a [B x],.n x true,.b (c+f==0) true,.b r false,.x H a [B y],.a (.dN [some [D.J 4 ah,I g,I i,D.J 8 K,D.J 6 L,D.J 5 M,D.J 3 N,B s],none,none] (aY.vals [])),.p (b2 prog 317 [aM.ref [D.J 4 E,I d,I e,D.J 8 C,D.J 6 Q,D.J 5 (A.set a.toNat [B false,I b,I c,B q,B r]),D.J 3 R,B t] [D.J 4 ah,I g,I i,D.J 8 K,D.J 6 L,D.J 5 M,D.J 3 N,B s],aM.ro (ae a),aM.ro (aj y)] (aY.vals []))])):
 ca 246 [aM.ref [D.J 4 E,I d,I e,D.J 8 C,D.J 6 Q,D.J 5 A,D.J 3 R,B t] [D.J 4 ah,I g,I i,D.J 8 K,D.J 6 L,D.J 5 M,D.J 3 N,B s],aM.ro (ae a)] (aY.vals [aj true]):=
 h.cb
theorem aeo(h:ad (Eg r a x E d e C H A ah s t b c q u K L M N F G Q R v f y g i z gE [.n q true,.x G a [B w],.n w true,.b (c+f==0) false])):
 ca 246 [aM.ref [D.J 4 E,I d,I e,D.J 8 C,D.J 6 H,D.J 5 A,D.J 3 ah,B r] [D.J 4 E,I d,I e,D.J 8 C,D.J 6 H,D.J 5 (A.set a.toNat [B false,I b,I c,B q,B u]),D.J 3 ah,B r],aM.ro (ae a)] (aY.vals [aj true]):=
 h.cb
theorem aep(h:ad (Eg r a x E c e C H A ah s t b d q u K L M N F G Q R v f y g i z gE [.n q true,.x G a [B w],.n w false])):
 ca 246 [aM.ref [D.J 4 E,I c,I e,D.J 8 C,D.J 6 H,D.J 5 A,D.J 3 ah,B r] [D.J 4 E,I c,I e,D.J 8 C,D.J 6 H,D.J 5 (A.set a.toNat [B false,I b,I d,B q,B u]),D.J 3 ah,B r],aM.ro (ae a)] (aY.vals [aj true]):=
 h.cb
theorem aeq(h:ad (Eg r a w E c e C G A H s t b d q u ah K L M F N Q R v f x g i y z [.n q false])):
 ca 246 [aM.ref [D.J 4 E,I c,I e,D.J 8 C,D.J 6 G,D.J 5 A,D.J 3 H,B r] [D.J 4 E,I c,I e,D.J 8 C,D.J 6 G,D.J 5 (A.set a.toNat [B false,I b,I d,B q,B u]),D.J 3 H,B r],aM.ro (ae a)] (aY.vals [aj true]):=
 h.cb
def aa8(A:ag)(a b:Int)(C E F G H:ag)(c d:Int)(ah K L M:ag)(q:Bool)(l:List O):List O:=aa6 A a b C E F G H c d ah K L M (.r 55 [.agg (cl A a b C E F G)] [aj q]::l)
theorem aer(h:ad (aa8 A a b C E F G M d c H ah K L q [.n q true])):
 aq 223 [.agg (cl A a b C E F G),ae e] [.agg (cl M d c H ah K L),aj false]:=
 h.of
def aa9(A:ag)(a b:Int)(C E F G H:ag)(c d:Int)(ah K L M:ag)(q:Bool)(e:Int)(r:Bool)(l:List O):List O:=aa8 A a b C E F G H c d ah K L M q (.n q false::.r 190 [ae e,ae 0,ae 3] [aj r]::l)
theorem aes(h:ad (aa9 A a b C E F G M e c H ah K L q d r [.n r true])):
 aq 223 [.agg (cl A a b C E F G),ae d] [.agg (cl M e c H ah K L),aj false]:=
 h.of
def aba(A:ag)(a b:Int)(C E F G H:ag)(c d:Int)(ah K L M:ag)(q:Bool)(e:Int)(r:Bool)(N P Q R S ba V X:ag)(s:Bool)(l:List O):List O:=aa9 A a b C E F G H c d ah K L M q e r (.n r false::.p ((0:Int)<=0)::.p (0<(C.length:Int))::.e C 0 (aW N P Q R S ba V X)::.r 210 [.agg (aW N P Q R S ba V X),ae e] [aj s]::l)
theorem afT(h:ad (aba C a b A E F G Y e d H ah K L q c r M N Q R S ba V X s [.b s true])):
 aq 223 [.agg (cl C a b A E F G),ae c] [.agg (cl Y e d H ah K L),aj false]:=
 h.of
def abb(A:ag)(a b:Int)(C E F G H:ag)(c d:Int)(ah K L M:ag)(q:Bool)(e:Int)(r:Bool)(N P Q R S ba V X:ag)(s t:Bool)(f g:Int)(u v:Bool)(Y Z dL iu hF ib iv H1:ag)(w:Bool)(l:List O):List O:=aba A a b C E F G H c d ah K L M q e r N P Q R S ba V X s (.b s false::.x L e [B t,I f,I g,B u,B v]::.a .sub::.x ah f (aW Y Z dL iu hF ib iv H1)::.r 294 [.agg (aW Y Z dL iu hF ib iv H1),ae e] [aj w]::l)
theorem afU(h:ad (abb C b c A G H ah eW f d E K F L q a r M N Q R S ba V X s u e g v w Y Z dC fh fu fI fJ fK t [.n t true])):
 aq 223 [.agg (cl C b c A G H ah),ae a] [.agg (cl eW f d E K F L),aj false]:=
 h.of
def abd(A:ag)(a b:Int)(C E F G H:ag)(c d:Int)(ah K L M:ag)(q:Bool)(e:Int)(r:Bool)(N P Q R S ba V X:ag)(s t:Bool)(f g:Int)(u v:Bool)(Y Z dL iu hF ib iv H1:ag)(w x:Bool)(i j:Int)(y z:Bool)(l:List O):List O:=abb A a b C E F G H c d ah K L M q e r N P Q R S ba V X s t f g u v Y Z dL iu hF ib iv H1 w (.n w false::.e L e.toNat [B x,I i,I j,B y,B z]::l)
theorem afV(h:ad (abd Q c d A R S ba eW f e F V N X q b r Y Z dC fh fu fI fJ fK s w a g x y G H ah K L C E M t u i j z gE [.n u true,.a .sub,.e F a.toNat (aW G H ah K L C E M),.x E b [B v],.v ((A.length:Int)-1),.e N b.toNat [B gH,I k,I l,B gZ,B t0],.a .sub,.e F a.toNat (aW G H ah K L C E M),.x C b [B fH],.e F a.toNat (aW G H ah K L C E M),.p (a.toNat=a.toNat),.p (a.toNat=a.toNat),.p (a.toNat=a.toNat)])):
 aq 223 [.agg (cl Q c d A R S ba),ae b] [.agg (cl eW f e (F.set a.toNat (aW G H ah K L (C.set b.toNat [B false]) E M)) V (N.set b.toNat [B true,I ((A.length:Int)-1),I 0,B false,B v]) X),aj true]:=
 h.of
def abe(A:ag)(a b:Int)(C E F G H:ag)(c d:Int)(ah K L M:ag)(q:Bool)(e:Int)(r:Bool)(N P Q R S ba V X:ag)(s t:Bool)(f g:Int)(u v:Bool)(Y Z dL iu hF ib iv H1:ag)(w x:Bool)(i j:Int)(y z q1:Bool)(k m:Int)(bx s1:Bool)(l:List O):List O:=abd A a b C E F G H c d ah K L M q e r N P Q R S ba V X s t f g u v Y Z dL iu hF ib iv H1 w x i j y z (.n x false::.e L e.toNat [B q1,I k,I m,B bx,B s1]::l)
def aaR(A:ag)(a b:Int)(C E F G H:ag)(c d:Int)(ah K L M:ag)(q:Bool)(e:Int)(r:Bool)(N P Q R S ba V X:ag)(s t:Bool)(f g:Int)(u v:Bool)(Y Z dL iu hF ib iv H1:ag)(w x:Bool)(i j:Int)(y z q1:Bool)(k m:Int)(bx s1 t1:Bool)(n o:Int)(gO v1:Bool)(p:Int)(w1:Bool)(l:List O):List O:=abe A a b C E F G H c d ah K L M q e r N P Q R S ba V X s t f g u v Y Z dL iu hF ib iv H1 w x i j y z q1 k m bx s1 (.b (decide (k>0)) true::.e L e.toNat [B t1,I n,I o,B gO,B v1]::.a .sub::.e ah f.toNat (aW Y Z dL iu hF ib iv H1)::.x hF e [I p]::.v (o+p)::.r 190 [ae (o+p),ae (-1000000),ae 1000000] [aj w1]::l)
theorem afW(h:ad (aaR G b c C R S ba eW j g E V A X q a r Y Z dC fh fu fI fJ fK s w d k x y H ah K L F M N Q t u l m z gE gH i n gZ t0 fH o e v0 w0 f v [.n v true])):
 aq 223 [.agg (cl G b c C R S ba),ae a] [.agg (cl eW j g E V A X),aj false]:=
 h.of
def IB(A:ag)(a b:Int)(C E F G H:ag)(c d:Int)(ah K L M:ag)(q:Bool)(e:Int)(r:Bool)(N P Q R S ba V X:ag)(s t:Bool)(f g:Int)(u v:Bool)(Y Z dL iu hF ib iv H1:ag)(w x:Bool)(i j:Int)(y z q1:Bool)(k m:Int)(bx s1 t1:Bool)(n o:Int)(gO v1:Bool)(p:Int)(w1 gP:Bool)(eC fb:Int)(eB r1:Bool)(c1:Int)(jb:Bool)(d1 e1:Int)(b0 s2 t2:Bool)(f1 g1:Int)(j9 v2:Bool)(l:List O):List O:=aaR A a b C E F G H c d ah K L M q e r N P Q R S ba V X s t f g u v Y Z dL iu hF ib iv H1 w x i j y z q1 k m bx s1 t1 n o gO v1 p w1 (.n w1 false::.e L e.toNat [B gP,I eC,I fb,B eB,B r1]::.a .sub::.e ah f.toNat (aW Y Z dL iu hF ib iv H1)::.x hF e [I c1]::.v (fb+c1)::.e L e.toNat [B jb,I d1,I e1,B b0,B s2]::.e (L.set e.toNat [B jb,I d1,I (fb+c1),B b0,B s2]) e.toNat [B t2,I f1,I g1,B j9,B v2]::l)
theorem afX(h:ad (IB Q k l N R S ba eW b6 p F V A X x a y Y Z dC fh fu fI fJ fK z mC b d0 z0 q1 G H ah K C E L M gE gH bE f0 bx s1 t1 a0 i0 gO v1 w1 j0 m gP eB n gZ r1 dm c jb b0 d q e eF r s s2 m0 lA t0 t2 [.b t0 true,.e (A.set a.toNat [B q,I e,I (c+d),B r,B s]) a.toNat [B t,I f,I g,B j9,B u],.e ((A.set a.toNat [B q,I e,I (c+d),B r,B s]).set a.toNat [B t,I f,I g,B true,B u]) a.toNat [B v2,I ph,I hq,B h',B fH],.b fH true,.e ((A.set a.toNat [B q,I e,I (c+d),B r,B s]).set a.toNat [B t,I f,I g,B true,B u]) a.toNat [B v,I i,I j,B w,B gz],.a .sub,.e F b.toNat (aW G H ah K C E L M),.x E a [B eV],.e F b.toNat (aW G H ah K C E L M),.p (b.toNat=b.toNat),.p (b.toNat=b.toNat),.p (b.toNat=b.toNat),.e (((A.set a.toNat [B q,I e,I (c+d),B r,B s]).set a.toNat [B t,I f,I g,B true,B u]).set a.toNat [B v,I i,I j,B w,B true]) a.toNat [B z2,I o,I eC,B FD,B ci],.v (o-1),.e (((A.set a.toNat [B q,I e,I (c+d),B r,B s]).set a.toNat [B t,I f,I g,B true,B u]).set a.toNat [B v,I i,I j,B w,B true]) a.toNat [B v0,I fb,I c5,B w0,B cE]])):
 aq 223 [.agg (cl Q k l N R S ba),ae a] [.agg [D.J 4 eW,I b6,I p,D.J 8 (F.set b.toNat (aW G H ah K C (E.set a.toNat [B false]) L M)),D.J 6 V,D.J 5 ((((A.set a.toNat [B q,I e,I (c+d),B r,B s]).set a.toNat [B t,I f,I g,B true,B u]).set a.toNat [B v,I i,I j,B w,B true]).set a.toNat [B v0,I (o-1),I c5,B w0,B cE]),D.J 3 X],aj true]:=
 h.of
theorem afY(h:ad (IB Q k l N R S ba eW b6 p G V A X y a z Y Z dC fh fu fI fJ fK gE z0 b d0 q1 bx H ah K L C E F M gH gZ bE f0 s1 t1 gO a0 i0 v1 w1 gP j0 m eB r1 n t0 jb dm c b0 s2 d q e eF r s t2 m0 lA fH j9 [.b fH true,.e (A.set a.toNat [B q,I e,I (c+d),B r,B s]) a.toNat [B t,I f,I g,B v2,B u],.e ((A.set a.toNat [B q,I e,I (c+d),B r,B s]).set a.toNat [B t,I f,I g,B true,B u]) a.toNat [B h',I ph,I hq,B gz,B v0],.b v0 false,.a .sub,.e G b.toNat (aW H ah K L C E F M),.x F a [B v],.e ((A.set a.toNat [B q,I e,I (c+d),B r,B s]).set a.toNat [B t,I f,I g,B true,B u]) a.toNat [B w,I i,I j,B x,B eV],.a .sub,.e G b.toNat (aW H ah K L C E F M),.x E a [B z2],.e G b.toNat (aW H ah K L C E F M),.p (b.toNat=b.toNat),.p (b.toNat=b.toNat),.p (b.toNat=b.toNat),.e (((A.set a.toNat [B q,I e,I (c+d),B r,B s]).set a.toNat [B t,I f,I g,B true,B u]).set a.toNat [B w,I i,I j,B x,B v]) a.toNat [B FD,I o,I eC,B ci,B HU],.v (o-1),.e (((A.set a.toNat [B q,I e,I (c+d),B r,B s]).set a.toNat [B t,I f,I g,B true,B u]).set a.toNat [B w,I i,I j,B x,B v]) a.toNat [B w0,I fb,I c5,B cE,B mC]])):
 aq 223 [.agg (cl Q k l N R S ba),ae a] [.agg [D.J 4 eW,I b6,I p,D.J 8 (G.set b.toNat (aW H ah K L C (E.set a.toNat [B false]) F M)),D.J 6 V,D.J 5 ((((A.set a.toNat [B q,I e,I (c+d),B r,B s]).set a.toNat [B t,I f,I g,B true,B u]).set a.toNat [B w,I i,I j,B x,B v]).set a.toNat [B w0,I (o-1),I c5,B cE,B mC]),D.J 3 X],aj true]:=
 h.of
theorem afZ(h:ad (IB Q k l N R S ba eW b6 p F V A X y a z Y Z dC fh fu fI fJ fK gE z0 b d0 q1 bx G H ah K C E L M gH gZ bE f0 s1 t1 gO a0 i0 v1 w1 gP j0 m eB r1 n t0 jb dm c b0 s2 d q e eF r s t2 m0 lA fH j9 [.b fH false,.a .sub,.e F b.toNat (aW G H ah K C E L M),.x E a [B t],.e (A.set a.toNat [B q,I e,I (c+d),B r,B s]) a.toNat [B u,I f,I g,B v2,B v],.e ((A.set a.toNat [B q,I e,I (c+d),B r,B s]).set a.toNat [B u,I f,I g,B t,B v]) a.toNat [B h',I ph,I hq,B gz,B v0],.b v0 true,.e ((A.set a.toNat [B q,I e,I (c+d),B r,B s]).set a.toNat [B u,I f,I g,B t,B v]) a.toNat [B w,I i,I j,B x,B eV],.a .sub,.e F b.toNat (aW G H ah K C E L M),.x E a [B z2],.e F b.toNat (aW G H ah K C E L M),.p (b.toNat=b.toNat),.p (b.toNat=b.toNat),.p (b.toNat=b.toNat),.p (b.toNat=b.toNat),.p (b.toNat=b.toNat),.e (((A.set a.toNat [B q,I e,I (c+d),B r,B s]).set a.toNat [B u,I f,I g,B t,B v]).set a.toNat [B w,I i,I j,B x,B true]) a.toNat [B FD,I o,I eC,B ci,B HU],.v (o-1),.e (((A.set a.toNat [B q,I e,I (c+d),B r,B s]).set a.toNat [B u,I f,I g,B t,B v]).set a.toNat [B w,I i,I j,B x,B true]) a.toNat [B w0,I fb,I c5,B cE,B mC]])):
 aq 223 [.agg (cl Q k l N R S ba),ae a] [.agg [D.J 4 eW,I b6,I p,D.J 8 (F.set b.toNat (aW G H ah K C (E.set a.toNat [B false]) L M)),D.J 6 V,D.J 5 ((((A.set a.toNat [B q,I e,I (c+d),B r,B s]).set a.toNat [B u,I f,I g,B t,B v]).set a.toNat [B w,I i,I j,B x,B true]).set a.toNat [B w0,I (o-1),I c5,B cE,B mC]),D.J 3 X],aj true]:=
 h.of
theorem af0(h:ad (IB Q k l N R S ba eW b6 p G V A X gE a gH Y Z dC fh fu fI fJ fK gZ q1 b d0 bx s1 H ah K L C E F M t0 fH bE f0 t1 gO v1 a0 i0 w1 gP eB j0 m r1 jb n v0 b0 dm c s2 t2 d q e eF r s j9 m0 lA w0 v2 [.b w0 false,.a .sub,.e G b.toNat (aW H ah K L C E F M),.x E a [B t],.e (A.set a.toNat [B q,I e,I (c+d),B r,B s]) a.toNat [B u,I f,I g,B h',B v],.e ((A.set a.toNat [B q,I e,I (c+d),B r,B s]).set a.toNat [B u,I f,I g,B t,B v]) a.toNat [B gz,I ph,I hq,B eV,B cE],.b cE false,.a .sub,.e G b.toNat (aW H ah K L C E F M),.x F a [B w],.e ((A.set a.toNat [B q,I e,I (c+d),B r,B s]).set a.toNat [B u,I f,I g,B t,B v]) a.toNat [B x,I i,I j,B y,B z2],.a .sub,.e G b.toNat (aW H ah K L C E F M),.x E a [B FD],.e G b.toNat (aW H ah K L C E F M),.p (b.toNat=b.toNat),.p (b.toNat=b.toNat),.p (b.toNat=b.toNat),.p (b.toNat=b.toNat),.p (b.toNat=b.toNat),.e (((A.set a.toNat [B q,I e,I (c+d),B r,B s]).set a.toNat [B u,I f,I g,B t,B v]).set a.toNat [B x,I i,I j,B y,B w]) a.toNat [B ci,I o,I eC,B HU,B t3],.v (o-1),.e (((A.set a.toNat [B q,I e,I (c+d),B r,B s]).set a.toNat [B u,I f,I g,B t,B v]).set a.toNat [B x,I i,I j,B y,B w]) a.toNat [B mC,I fb,I c5,B z0,B z]])):
 aq 223 [.agg (cl Q k l N R S ba),ae a] [.agg [D.J 4 eW,I b6,I p,D.J 8 (G.set b.toNat (aW H ah K L C (E.set a.toNat [B false]) F M)),D.J 6 V,D.J 5 ((((A.set a.toNat [B q,I e,I (c+d),B r,B s]).set a.toNat [B u,I f,I g,B t,B v]).set a.toNat [B x,I i,I j,B y,B w]).set a.toNat [B mC,I (o-1),I c5,B z0,B z]),D.J 3 X],aj true]:=
 h.of
def Ap(a b:Int)(H:ag)(f g:Int)(ah K L M:ag)(i c:Int)(A:ag)(d e:Int)(C E F G:ag):aC:=bb 229 [(1,aU a),(2,aR 2),(4,aR 4),(6,aR 6),(9,.aG (.one (.bg true))),(10,aU b)] [(6,[aB 130000 4 H,au f,au g,aB 130003 8 ah,aB 130004 6 K,aB 130005 5 L,aB 130006 3 M]),(4,[.v (aN),au i,au c,.v (aN),.v (aN),.v (aN),.v (aN)]),(2,[.J .free 4 A,au d,au e,.J .free 8 C,.J .free 6 E,.J .free 5 F,.J .free 3 G])]
theorem af1(h:ad [.f C a true,.g A [[I a,I b,B true]] 24,.h [[I a,I b,B true]],.u a]):
 aV (ap f223 0) (Ap b a E c d F G H A e f ah g i C K L M) .normal (Ap b (a+1) E c d F G H (A++[[I a,I b,B true]]) e f ah g i C K L M):=
 h.aS [10,2,6,1,9,4] [6,4,2]
def Aq(A:ag)(a b:Int)(C E F G:ag)(c d:Int):aC:=bb 229 [(4,aR 4),(6,aR 6)] [(6,[aB 130000 4 A,au a,au b,aB 130003 8 C,aB 130004 6 E,aB 130005 5 F,aB 130006 3 G]),(4,[.v (aN),au c,au d,.v (aN),.v (aN),.v (aN),.v (aN)])]
theorem af2(h:ad [.f H a false]):
 aV (ap f223 0) (Ap f a A b c C E F G d e ah g i H K L M) (.exit 1) (Aq A b c C E F G d e):=
 h.aS [6,4] [6,4]
def Qk(A:ag)(a b:Int)(C E F G H:ag)(c d:Int)(ah K L M:ag)(q:Bool)(e:Int)(r:Bool)(N P Q R S ba V X:ag)(s t:Bool)(f g:Int)(u v:Bool)(Y Z dL iu hF ib iv H1:ag)(w x:Bool)(i j:Int)(y z q1:Bool)(k m:Int)(bx s1 t1:Bool)(n o:Int)(gO v1 w1:Bool)(p eC:Int)(gP eB:Bool)(l:List O):List O:=abe A a b C E F G H c d ah K L M q e r N P Q R S ba V X s t f g u v Y Z dL iu hF ib iv H1 w x i j y z q1 k m bx s1 (.b (decide (k>0)) false::.e L e.toNat [B t1,I n,I o,B gO,B v1]::.e (L.set e.toNat [B false,I n,I o,B gO,B v1]) e.toNat [B w1,I p,I eC,B gP,B eB]::l)
def Ql(A:ag)(a b:Int)(C E F G H:ag)(c d:Int)(ah K L M:ag)(q:Bool)(e:Int)(r:Bool)(N P Q R S ba V X:ag)(s t:Bool)(f g:Int)(u v:Bool)(Y Z dL iu hF ib iv H1:ag)(w x:Bool)(i j:Int)(y z q1:Bool)(k m:Int)(bx s1 t1:Bool)(n o:Int)(gO v1 w1:Bool)(p eC:Int)(gP eB r1 jb:Bool)(fb c1:Int)(b0 s2:Bool)(d1:Int)(l:List O):List O:=Qk A a b C E F G H c d ah K L M q e r N P Q R S ba V X s t f g u v Y Z dL iu hF ib iv H1 w x i j y z q1 k m bx s1 t1 n o gO v1 w1 p eC gP eB (.n gP true::.a .sub::.e ah f.toNat (aW Y Z dL iu hF ib iv H1)::.x ib e [B r1]::.n r1 true::.e (L.set e.toNat [B false,I n,I o,B gO,B v1]) e.toNat [B jb,I fb,I c1,B b0,B s2]::.a .sub::.e ah f.toNat (aW Y Z dL iu hF ib iv H1)::.x hF e [I d1]::.v (c1+d1)::l)
theorem af3(h:ad (Ql Q e f N R S ba lQ n j M V F X s a t Y Z dC fh fu fI fJ fK u gE b o gH gZ G H ah K C E L A v w p a0 t0 fH v0 k b6 w0 cE mC c d q r z0 c5 d0 x q1 y bx bE g s1 t1 i [.b (g+i==0) true,.e (F.set a.toNat [B false,I c,I d,B q,B r]) a.toNat [B gO,I f0,I i0,B v1,B z],.b z true,.a .sub,.e M b.toNat (aW G H ah K C E L A),.g A [[I a,B true]] 16,.e M b.toNat (aW G H ah K C E L A),.p ((aW G H ah K C E L A)[7]?=some (D.J 2 A)),.p (b.toNat=b.toNat),.p (b.toNat=b.toNat),.h [[I a,B true]],.e M b.toNat (aW G H ah K C E L A),.p (b.toNat=b.toNat),.l [] [10,2,6,1,9,4] [6,4,2] (ap f223 0) (Ap a 1 lQ n j (M.set b.toNat (aW G H ah K C E L (A++[[I a,B true]]))) V (F.set a.toNat [B false,I c,I d,B q,B r]) X 0 0 Q e f N R S ba) (.exit 1) (Aq eW l m kg kX lO lP j0 dm)])):
 aq 223 [.agg (cl Q e f N R S ba),ae a] [.agg (cl eW l m kg kX lO lP),aj true]:=
 h.of
def Ar(a:Int)(q:Bool)(f:Int)(H:ag)(g i:Int)(ah K L M:ag)(b c:Int)(A:ag)(d e:Int)(C E F G:ag):aC:=bb 229 [(1,aU a),(2,aR 2),(4,aR 4),(6,aR 6),(9,.aG (.one (.bg q))),(10,aU f)] [(6,[aB 130000 4 H,au g,au i,aB 130003 8 ah,aB 130004 6 K,aB 130005 5 L,aB 130006 3 M]),(4,[.v (aN),au b,au c,.v (aN),.v (aN),.v (aN),.v (aN)]),(2,[.J .free 4 A,au d,au e,.J .free 8 C,.J .free 6 E,.J .free 5 F,.J .free 3 G])]
theorem af4(h:ad [.f C a true,.g A [[I a,I b,B q]] 24,.h [[I a,I b,B q]],.u a]):
 aV (ap f223 0) (Ar b q a E c d F G H A e f ah g i C K L M) .normal (Ar b q (a+1) E c d F G H (A++[[I a,I b,B q]]) e f ah g i C K L M):=
 h.aS [10,2,6,1,9,4] [6,4,2]
theorem af5(h:ad [.f H a false]):
 aV (ap f223 0) (Ar f q a A b c C E F G d e ah g i H K L M) (.exit 1) (Aq A b c C E F G d e):=
 h.aS [6,4] [6,4]
theorem af6(h:ad (Ql Q e f N R S ba lQ n j L V M X t a u Y Z dC fh fu fI fJ fK v gH b o gZ t0 G H ah K C E F A w x p a0 fH v0 w0 k b6 cE mC z0 c d q r q1 c5 d0 y bx z s1 bE g t1 gO i [.b (g+i==0) true,.e (M.set a.toNat [B false,I c,I d,B q,B r]) a.toNat [B v1,I f0,I i0,B w1,B gE],.b gE false,.a .sub,.e L b.toNat (aW G H ah K C E F A),.x F a [B s],.a .sub,.e L b.toNat (aW G H ah K C E F A),.g A [[I a,B s]] 16,.e L b.toNat (aW G H ah K C E F A),.p ((aW G H ah K C E F A)[7]?=some (D.J 2 A)),.p (b.toNat=b.toNat),.p (b.toNat=b.toNat),.h [[I a,B s]],.e L b.toNat (aW G H ah K C E F A),.p (b.toNat=b.toNat),.l [] [10,2,6,1,9,4] [6,4,2] (ap f223 0) (Ar a s 1 lQ n j (L.set b.toNat (aW G H ah K C E F (A++[[I a,B s]]))) V (M.set a.toNat [B false,I c,I d,B q,B r]) X 0 0 Q e f N R S ba) (.exit 1) (Aq eW l m kg kX lO lP j0 dm)])):
 aq 223 [.agg (cl Q e f N R S ba),ae a] [.agg (cl eW l m kg kX lO lP),aj true]:=
 h.of
theorem af7(h:ad (Ql Q e f E R S ba eW l j C V A X s a t Y Z dC fh fu fI fJ fK u z b m gE gH H ah K L F G M N v w n o gZ t0 fH k p v0 w0 cE c d q r mC a0 b6 x z0 y q1 c5 g bx s1 i [.b (g+i==0) false])):
 aq 223 [.agg (cl Q e f E R S ba),ae a] [.agg (cl eW l j C V (A.set a.toNat [B false,I c,I d,B q,B r]) X),aj true]:=
 h.of
theorem af8(h:ad (Qk G b c C R S ba eW j g E V A X s a t Y Z dC fh fu fI fJ fK u z d k gE gH H ah K L M F N Q v w l m gZ t0 fH i n v0 w0 cE e f q r mC o p x z0 [.n x true,.a .sub,.e E d.toNat (aW H ah K L M F N Q),.x F a [B y],.n y false])):
 aq 223 [.agg (cl G b c C R S ba),ae a] [.agg (cl eW j g E V (A.set a.toNat [B false,I e,I f,B q,B r]) X),aj true]:=
 h.of
theorem af9(h:ad (Qk E b c C G H ah eW j f F K A L s a t M N Q R S ba V X u y g k z gE Y Z dC fh fu fI fJ fK v w l m gH gZ t0 i n fH v0 w0 d e q r cE o p x mC [.n x false])):
 aq 223 [.agg (cl E b c C G H ah),ae a] [.agg (cl eW j f F K (A.set a.toNat [B false,I d,I e,B q,B r]) L),aj true]:=
 h.of
theorem aga(h:ad [.b (decide ((A.length:Int)>0)) true,.p ((0:Int)<=0),.p (0<(A.length:Int)),.e A 0 (aW K L C E F G H ah),.r 213 [.agg (aW K L C E F G H ah),ae a] [aj q]]):
 aq 315 [.agg (cl M b c A N Q R),ae a] [aj q]:=
 h.of
def x7(A C E F G H ah K:ag)(a b:Int):aC:=bb 22 [(1,aU a),(2,aR 2),(5,aU b)] [(2,[.J .free 5 A,.J .free 5 C,.J .free 5 E,.J .free 4 F,.J .free 1 G,.J .free 1 H,.J .free 1 ah,.J .free 2 K])]
def NQ(q:Bool):aC:=bb 22 [(4,.aG (.one (.bg q)))] []
theorem agb(h:ad [.i A c (bh d a e f g),.b (decide (a<=b)) true]):
 aV (ap f342 0) (x7 C E A F G H ah K b c) .ret (NQ true):=
 h.aS [4] []
theorem agc(h:ad [.i A a (bh d c e f g),.b (decide (c<=b)) false,.u a]):
 aV (ap f342 0) (x7 C E A F G H ah K b a) .normal (x7 C E A F G H ah K b (a+1)):=
 h.aS [5,2,1] [2]
def V2:aC:=bb 22 [] []
theorem agd(h:ad [.f A a false]):
 aV (ap f342 0) (x7 C E A F G H ah K b a) (.exit 0) V2:=
 h.aS [] []
theorem age(h:ad [.l [] [5,2,1] [2] (ap f342 0) (x7 A C E F G H ah K a 0) .ret (NQ q)]):
 aq 342 [.agg (aW A C E F G H ah K),ae a] [aj q]:=
 h.of
theorem agf(h:ad [.l [] [5,2,1] [2] (ap f342 0) (x7 A C E F G H ah K a 0) (.exit 0) V2]):
 aq 342 [.agg (aW A C E F G H ah K),ae a] [aj false]:=
 h.of
theorem agh(h:ad [.r 342 [.agg (aW A C E F G H ah K),ae a] [aj q],.n q true,.r 343 [.agg (aW A C E F G H ah K),ae a] [ae b]]):
 aq 316 [.agg (aW A C E F G H ah K),ae a] [aj (b==0)]:=
 h.of
theorem agi(h:ad [.r 342 [.agg (aW A C E F G H ah K),ae a] [aj q],.n q false]):
 aq 316 [.agg (aW A C E F G H ah K),ae a] [aj false]:=
 h.of
theorem agj(h:ad [.r 116 [aO 5 E,ae a] [aO 5 C],.r 116 [aO 5 F,ae a] [aO 5 A],.v ((C.length:Int)+(A.length:Int))]):
 aq 343 [.agg (aW E F G H ah K L M),ae a] [ae ((C.length:Int)+(A.length:Int))]:=
 h.of
theorem aft(h:ad [.r 291 [aO 5 A,.one (.cl 353 [D.ptr [I a]])] [aj q]]):
 aq 331 [.agg (aW C E A F G H ah K),ae a] [aj q]:=
 h.of
theorem afu(h:ad []):
 aq 353 [.agg (bh c a d e f),.one (.ptr [I b])] [aj (decide (a<=b))]:=
 h.of
theorem afv(h:ad [.r 331 [.agg (aW A C E F G H ah K),ae a] [aj q],.n q true,.r 332 [.agg (aW A C E F G H ah K),ae a] [ae b]]):
 aq 294 [.agg (aW A C E F G H ah K),ae a] [aj (b==0)]:=
 h.of
theorem afw(h:ad [.r 331 [.agg (aW A C E F G H ah K),ae a] [aj q],.n q false]):
 aq 294 [.agg (aW A C E F G H ah K),ae a] [aj false]:=
 h.of
theorem afx(h:ad [.r 182 [aO 5 E,ae a] [aO 5 C],.r 182 [aO 5 F,ae a] [aO 5 A],.v ((C.length:Int)+(A.length:Int))]):
 aq 332 [.agg (aW E F G H ah K L M),ae a] [ae ((C.length:Int)+(A.length:Int))]:=
 h.of
