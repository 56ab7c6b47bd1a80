import Derived.Test.YtdchjefneblpgaaGreatGE
set_option linter.unusedVariables false
set_option linter.unusedSimpArgs false
namespace Go.Proofs.YtdchjefneblpgaaGreat
open Go.Sx Go.RowKit Go.Proofs.Tryz
variable {a b c d e f g i j k l m n o p a0 cc : Int} {A C E F G H aj K L M N Q R S bi V X Y Z eg hR iF iG iH iI jM : ae} {q r s t u v w x y z hE kF iU t0 : Bool}
theorem adX(h:ad [.g ([]:ae) A 8,.h A]):
 ar 276 [.agg (bf a b c A)] [.agg (bf a b c ([]++A))]:=
 h.of
def z1(A:ae)(a:Int)(C:ae)(b c d e:Int):aD:=bd 27 [(2,aQ 2),(3,aQ 3),(12,dj 4 A),(13,aW (A.length:Int)),(14,aW a)] [(3,[aA 23 4 C,au b,au c]),(2,[.v (aO),au d,au e])]
theorem adY(h:ad [.i A a (bf l e f F),.r 276 [.agg (bf l e f F)] [.agg (bf b c d C)],.a .wr,.g E [(bf b c d C)] 48,.u a]):
 aX (ao f181 0) (z1 A a E g i j k) .normal (z1 A (a+1) (E++[(bf b c d C)]) g i j k):=
 h.aV [14,13,12,3,2] [3,2]
def RD(A:ae)(a b c d:Int):aD:=bd 27 [(2,aQ 2),(3,aQ 3)] [(3,[aA 23 4 A,au a,au b]),(2,[.v (aO),au c,au d])]
theorem adZ(h:ad [.f A a false]):
 aX (ao f181 0) (z1 A a C b c d e) (.exit 0) (RD C b c d e):=
 h.aV [3,2] [3,2]
theorem ad0(h:ad [.l [(4000000,23,4)] [14,13,12,3,2] [3,2] (ao f181 0) (z1 A 0 [] a b 0 0) (.exit 0) (RD C c d e f)]):
 ar 181 [.agg (bk A a b)] [.agg (bk C c d)]:=
 h.of
theorem ad1(h:ad [.r 233 [aP 5 A] [aP 5 C]]):
 ar 256 [.agg (cd a A b c d e)] [.agg (cd a C b c d e)]:=
 h.of
theorem ad2(h:ad [.r 233 [aP 5 G] [aP 5 N],.r 233 [aP 5 H] [aP 5 Q],.r 233 [aP 5 L] [aP 5 aj],.r 297 [aP 4 M] [aP 4 K],.g ([]:ae) A 8,.h A,.g ([]:ae) C 1,.h C,.g ([]:ae) E 1,.h E,.g ([]:ae) F 16,.h F]):
 ar 255 [.agg (ba G H L M A C E F)] [.agg (ba N Q aj K ([]++A) ([]++C) ([]++E) ([]++F))]:=
 h.of
def z6(A:ae)(a:Int)(aj:ae)(d e:Int)(K L M:ae)(f g:Int)(C:ae)(b c:Int)(E F G H:ae):aD:=bd 49 [(1,aQ 1),(2,aQ 2),(3,aQ 3),(19,dj 8 A),(20,aW (A.length:Int)),(21,aW a)] [(3,[aA 110000 4 aj,au d,au e,aA 30 8 K,.v (aO),aA 13 5 L,aA 16 3 M]),(2,[.v (aO),au f,au g,.v (aO),.v (aO),.v (aO),.v (aO)]),(1,[.J .free 4 C,au b,au c,.J .free 8 E,.J .free 6 F,.J .free 5 G,.J .free 3 H])]
theorem ad3(h:ad [.i C a (ba Z eg hR iF iG iH iI jM),.r 255 [.agg (ba Z eg hR iF iG iH iI jM)] [.agg (ba E F G H aj K L M)],.a .wr,.g A [(ba E F G H aj K L M)] 192,.u a]):
 aX (ao f144 0) (z6 C a N b c A Q R d e S f g bi V X Y) .normal (z6 C (a+1) N b c (A++[(ba E F G H aj K L M)]) Q R d e S f g bi V X Y):=
 h.aV [21,20,19,3,1,2] [3,2,1]
def RE(A:ae)(a c:Int)(H aj K:ae)(d e:Int)(L:ae)(f b:Int)(C E F G:ae):aD:=bd 49 [(1,aQ 1),(2,aQ 2),(3,aQ 3)] [(3,[aA 110000 4 A,au a,au c,aA 30 8 H,.v (aO),aA 13 5 aj,aA 16 3 K]),(2,[.v (aO),au d,au e,.v (aO),.v (aO),.v (aO),.v (aO)]),(1,[.J .free 4 L,au f,au b,.J .free 8 C,.J .free 6 E,.J .free 5 F,.J .free 3 G])]
theorem ad4(h:ad [.f M a false]):
 aX (ao f144 0) (z6 M a A b c C E F d e G f g H aj K L) (.exit 0) (RE A b c C E F d e G f g H aj K L):=
 h.aV [1,3,2] [3,2,1]
def z7(A:ae)(a:Int)(C:ae)(c d:Int)(E F G H:ae)(e b:Int):aD:=bd 49 [(2,aQ 2),(3,aQ 3),(34,dj 6 A),(35,aW (A.length:Int)),(36,aW a)] [(3,[aA 110000 4 C,au c,au d,aA 30 8 E,aA 45 6 F,aA 13 5 G,aA 16 3 H]),(2,[.v (aO),au e,au b,.v (aO),.v (aO),.v (aO),.v (aO)])]
theorem ad5(h:ad [.i A a (cd l K m n o p),.r 256 [.agg (cd l K m n o p)] [.agg (cd b E c d e f)],.a .wr,.g C [(cd b E c d e f)] 64,.u a]):
 aX (ao f144 1) (z7 A a F g i G C H aj j k) .normal (z7 A (a+1) F g i G (C++[(cd b E c d e f)]) H aj j k):=
 h.aV [36,35,34,3,2] [3,2]
def RF(A:ae)(a b:Int)(C E F G:ae)(c d:Int):aD:=bd 49 [(2,aQ 2),(3,aQ 3)] [(3,[aA 110000 4 A,au a,au b,aA 30 8 C,aA 45 6 E,aA 13 5 F,aA 16 3 G]),(2,[.v (aO),au c,au d,.v (aO),.v (aO),.v (aO),.v (aO)])]
theorem ad6(h:ad [.f A a false]):
 aX (ao f144 1) (z7 A a C b c E F G H d e) (.exit 2) (RF C b c E F G H d e):=
 h.aV [3,2] [3,2]
theorem ad7(h:ad [.r 181 [.agg (bk E a b)] [.agg (bk V j k)],.g ([]:ae) A 32,.h A,.g ([]:ae) C 24,.h C,.l [(4000003,30,8)] [21,20,19,3,1,2] [3,2,1] (ao f144 0) (z6 F 0 V j k [] ([]++A) ([]++C) 0 0 E a b F bi A C) (.exit 0) (RE G c d H aj K e f X l m Y L Z eg),.l [(4000004,45,6)] [36,35,34,3,2] [3,2] (ao f144 1) (z7 L 0 G c d H [] aj K e f) (.exit 2) (RF M g i N Q R S n o)]):
 ar 144 [.agg (cl E a b F bi A C)] [.agg (cl M g i N Q R S)]:=
 h.of
theorem ad8(h:ad [.g ([]:ae) A 40,.h A]):
 ar 279 [.agg (cd a A b c d e)] [.agg (cd a ([]++A) b c d e)]:=
 h.of
def z8(a:Int)(A:ae)(b c d e:Int)(C:ae)(f g:Int):aD:=bd 33 [(1,aQ 1),(2,aQ 2),(3,aQ 3),(4,aW a)] [(3,[aA 7 4 A,au b,au c]),(2,[.v (aO),au d,au e]),(1,[.J .free 4 C,au f,au g])]
theorem ad9(h:ad [.i E a (bf b c d A),.a .wr,.g ([]:ae) A 8,.h A,.g C [(bf b c d ([]++A))] 48,.u a]):
 aX (ao f123 0) (z8 a C g i j k E e f) .normal (z8 (a+1) (C++[(bf b c d ([]++A))]) g i j k E e f):=
 h.aV [4,1,3,2] [3,2,1]
def RG(A:ae)(a b c d:Int):aD:=bd 33 [(2,aQ 2),(3,aQ 3)] [(3,[aA 7 4 A,au a,au b]),(2,[.v (aO),au c,au d])]
theorem aea(h:ad [.f C a false]):
 aX (ao f123 0) (z8 a A b c d e C f g) (.exit 0) (RG A b c d e):=
 h.aV [3,2] [3,2]
theorem aeb(h:ad [.l [] [4,1,3,2] [3,2,1] (ao f123 0) (z8 0 [] a b 0 0 A a b) (.exit 0) (RG C c d e f)]):
 ar 123 [.agg (bk A a b)] [.agg (bk C c d)]:=
 h.of
theorem aec(h:ad [.g ([]:ae) A 40,.h A,.g ([]:ae) C 40,.h C,.g ([]:ae) E 40,.h E,.g ([]:ae) F 32,.h F,.g ([]:ae) G 8,.h G,.g ([]:ae) H 1,.h H,.g ([]:ae) aj 1,.h aj,.g ([]:ae) K 16,.h K]):
 ar 174 [.agg (ba A C E F G H aj K)] [.agg (ba ([]++A) ([]++C) ([]++E) ([]++F) ([]++G) ([]++H) ([]++aj) ([]++K))]:=
 h.of
def z'(a:Int)(A:ae)(d e:Int)(H aj K:ae)(f g:Int)(L:ae)(b c:Int)(C E F G:ae):aD:=bd 55 [(1,aQ 1),(2,aQ 2),(3,aQ 3),(4,aW a)] [(3,[aA 90000 4 A,au d,au e,aA 34 8 H,.v (aO),aA 9 5 aj,aA 13 3 K]),(2,[.v (aO),au f,au g,.v (aO),.v (aO),.v (aO),.v (aO)]),(1,[.J .free 4 L,au b,au c,.J .free 8 C,.J .free 6 E,.J .free 5 F,.J .free 3 G])]
theorem aed(h:ad [.i C a (ba Y Z eg hR iF iG iH iI),.r 174 [.agg (ba Y Z eg hR iF iG iH iI)] [.agg (ba E F G H aj K L M)],.a .wr,.g A [(ba E F G H aj K L M)] 192,.u a]):
 aX (ao f186 0) (z' a N b c A Q R d e S f g C bi V X) .normal (z' (a+1) N b c (A++[(ba E F G H aj K L M)]) Q R d e S f g C bi V X):=
 h.aV [4,1,3,2] [3,2,1]
def RH(A:ae)(a c:Int)(H aj K:ae)(d e:Int)(L:ae)(f b:Int)(C E F G:ae):aD:=bd 55 [(1,aQ 1),(2,aQ 2),(3,aQ 3)] [(3,[aA 90000 4 A,au a,au c,aA 34 8 H,.v (aO),aA 9 5 aj,aA 13 3 K]),(2,[.v (aO),au d,au e,.v (aO),.v (aO),.v (aO),.v (aO)]),(1,[.J .free 4 L,au f,au b,.J .free 8 C,.J .free 6 E,.J .free 5 F,.J .free 3 G])]
theorem aee(h:ad [.f A a false]):
 aX (ao f186 0) (z' a C b c E F G d e H f g A aj K L) (.exit 0) (RH C b c E F G d e H f g A aj K L):=
 h.aV [1,3,2] [3,2,1]
def zl(a:Int)(A:ae)(d e:Int)(aj K L M:ae)(f g:Int)(C:ae)(b c:Int)(E F G H:ae):aD:=bd 55 [(1,aQ 1),(2,aQ 2),(3,aQ 3),(5,aW a)] [(3,[aA 90000 4 A,au d,au e,aA 34 8 aj,aA 52 6 K,aA 9 5 L,aA 13 3 M]),(2,[.v (aO),au f,au g,.v (aO),.v (aO),.v (aO),.v (aO)]),(1,[.J .free 4 C,au b,au c,.J .free 8 E,.J .free 6 F,.J .free 5 G,.J .free 3 H])]
theorem aef(h:ad [.i C a (cd n Q o p a0 cc),.r 279 [.agg (cd n Q o p a0 cc)] [.agg (cd b E c d e f)],.a .wr,.g A [(cd b E c d e f)] 64,.u a]):
 aX (ao f186 1) (zl a F g i G A H aj j k K l m L C M N) .normal (zl (a+1) F g i G (A++[(cd b E c d e f)]) H aj j k K l m L C M N):=
 h.aV [5,1,3,2] [3,2,1]
def RI(A:ae)(a b:Int)(C E F G:ae)(c d:Int):aD:=bd 55 [(2,aQ 2),(3,aQ 3)] [(3,[aA 90000 4 A,au a,au b,aA 34 8 C,aA 52 6 E,aA 9 5 F,aA 13 3 G]),(2,[.v (aO),au c,au d,.v (aO),.v (aO),.v (aO),.v (aO)])]
theorem aeg(h:ad [.f H a false]):
 aX (ao f186 1) (zl a A b c C E F G d e aj f g K H L M) (.exit 2) (RI A b c C E F G d e):=
 h.aV [3,2] [3,2]
theorem aeh(h:ad [.r 123 [.agg (bk E a b)] [.agg (bk eg l m)],.g ([]:ae) A 32,.h A,.g ([]:ae) C 24,.h C,.l [(4000003,34,8)] [4,1,3,2] [3,2,1] (ao f186 0) (z' 0 eg l m [] ([]++A) ([]++C) 0 0 E a b V Z A C) (.exit 0) (RH F c d G H aj e f K g i L M N Q),.l [(4000004,52,6)] [5,1,3,2] [3,2,1] (ao f186 1) (zl 0 F c d G [] H aj e f K g i L M N Q) (.exit 2) (RI R j k S bi X Y n o)]):
 ar 186 [.agg (cl E a b V Z A C)] [.agg (cl R j k S bi X Y)]:=
 h.of
theorem aei(h:ad [.r 186 [.agg (cl A a b C E F G)] [.agg (cl M c d H aj K L)],.r 56 [.agg (cl A a b C E F G)] [ag q]]):
 bY 127 [aL.ro (.agg (cl A a b C E F G))] (aT.new [D.J 4 M,I c,I d,D.J 8 H,D.J 6 aj,D.J 5 K,D.J 3 L,B q]):=
 h.b1
def pE(a b:Int)(A:ae)(c d:Int)(C E F G:ae)(q:Bool):aD:=bd 93 [(0,aQ 1000000000),(1,aW a),(5,aW b)] [(1000000000,[aA 900000000 4 A,au c,au d,aA 900000003 8 C,aA 900000004 6 E,aA 900000005 5 F,aA 900000006 3 G,.a' q])]
theorem aej(h:ad [.f A a true,.b q true,.x A a [I e,I f,B r],.b (e != b) true,.u a]):
 aX (ao f247 0) (pE b a C c d E F G A q) .normal (pE b (a+1) C c d E F G A q):=
 h.aV [5,0,1] [1000000000]
def DE(q:Bool)(A:ae)(a b:Int)(C E F G:ae)(r:Bool):aD:=bd 93 [(0,aQ 1000000000),(4,.aF (.one (.a' q)))] [(1000000000,[aA 900000000 4 A,au a,au b,aA 900000003 8 C,aA 900000004 6 E,aA 900000005 5 F,aA 36 3 G,.a' r])]
def Vc(A:ae)(a:Int)(q:Bool)(b c:Int)(r:Bool)(d:Int)(C E F G H aj K L M:ae)(s:Bool)(l:List O):List O:=.f A a true::.b q true::.x A a [I b,I c,B r]::.b (b != d) false::.a .sub::.p ((0:Int)<=none.getD 0)::.p (none.getD 0<=(some a).getD (A.length:Int))::.p ((some a).getD (A.length:Int)<=(A.length:Int))::.p ((([]:ae).length+(List.take (((some a).getD (A.length:Int)).toNat-0) (List.drop 0 A)).length)*24<=140737488355328)::.p (([]:ae).length+(List.take (((some a).getD (A.length:Int)).toNat-0) (List.drop 0 A)).length<=9223372036854775807)::.p (Flat (List.take (((some a).getD (A.length:Int)).toNat-0) (List.drop 0 A)))::.u a::.p (0<=(some (a+1)).getD 0)::.p ((some (a+1)).getD 0<=none.getD (A.length:Int))::.p (none.getD (A.length:Int)<=(A.length:Int))::.p ((([]++List.take (((some a).getD (A.length:Int)).toNat-0) (List.drop 0 A)).length+(List.take (A.length-((some (a+1)).getD 0).toNat) (List.drop ((some (a+1)).getD 0).toNat A)).length)*24<=140737488355328)::.p (([]++List.take (((some a).getD (A.length:Int)).toNat-0) (List.drop 0 A)).length+(List.take (A.length-((some (a+1)).getD 0).toNat) (List.drop ((some (a+1)).getD 0).toNat A)).length<=9223372036854775807)::.p (Flat (List.take (A.length-((some (a+1)).getD 0).toNat) (List.drop ((some (a+1)).getD 0).toNat A)))::.x C d (ba E F G H aj K L M)::.r 213 [.agg (ba E F G H aj K L M),af c] [ag s]::l
theorem aek(h:ad (Vc A a r f c q b C F G H aj K L M E s [.n s true,.a .sub,.x C b (ba F G H aj K L M E),.g E [[I c,B q]] 16,.e C b.toNat (ba F G H aj K L M E),.p ((ba F G H aj K L M E)[7]?=some (D.J 2 E)),.h [[I c,B q]],.p (C=C),.p (C=C),.p (b.toNat=b.toNat),.p (E=E),.p (C=C),.p (C=C),.p (C=C),.p (C=C),.p (C=C),.p (b.toNat=b.toNat),.p (E=E),.x C b (ba F G H aj K L M E),.p (b.toNat=b.toNat)])):
 aX (ao f247 0) (pE b a N d e C Q R A r) .ret (DE true N d e (C.set b.toNat (ba F G H aj K L M (E++[[I c,B q]]))) Q R ([]++List.take (((some a).getD (A.length:Int)).toNat-0) (List.drop 0 A)++List.take (A.length-((some (a+1)).getD 0).toNat) (List.drop ((some (a+1)).getD 0).toNat A)) r):=
 h.aV [4,0] [1000000000]
theorem adv(h:ad (Vc A a q e f s b C H aj K L M N Q R r [.n r false])):
 aX (ao f247 0) (pE b a E c d C F G A q) .ret (DE true E c d C F G ([]++List.take (((some a).getD (A.length:Int)).toNat-0) (List.drop 0 A)++List.take (A.length-((some (a+1)).getD 0).toNat) (List.drop ((some (a+1)).getD 0).toNat A)) q):=
 h.aV [4,0] [1000000000]
def Je(A:ae)(a b:Int)(C E F G:ae)(q:Bool):aD:=bd 93 [(0,aQ 1000000000)] [(1000000000,[aA 900000000 4 A,au a,au b,aA 900000003 8 C,aA 900000004 6 E,aA 900000005 5 F,aA 900000006 3 G,.a' q])]
theorem adw(h:ad [.f A c true,.b q false]):
 aX (ao f247 0) (pE d c C a b E F G A q) (.exit 0) (Je C a b E F G A q):=
 h.aV [0] [1000000000]
theorem RJ(h:ad [.f A c false]):
 aX (ao f247 0) (pE d c C a b E F G A q) (.exit 0) (Je C a b E F G A q):=
 h.aV [0] [1000000000]
theorem adx(h:ad [.l [] [5,0,1] [1000000000] (ao f247 0) (pE e 0 A a d aj K L M r) .ret (DE s C b c E F G H q)]):
 bY 247 [aL.ref [D.J 4 A,I a,I d,D.J 8 aj,D.J 6 K,D.J 5 L,D.J 3 M,B r] [D.J 4 C,I b,I c,D.J 8 E,D.J 6 F,D.J 5 G,D.J 3 H,B q],aL.ro (af e)] (aT.vals [ag s]):=
 h.b1
theorem Jf(h:ad [.l [] [5,0,1] [1000000000] (ao f247 0) (pE e 0 A a d H aj K L r) (.exit 0) (Je M b c C E F G q)]):
 bY 247 [aL.ref [D.J 4 A,I a,I d,D.J 8 H,D.J 6 aj,D.J 5 K,D.J 3 L,B r] [D.J 4 M,I b,I c,D.J 8 C,D.J 6 E,D.J 5 F,D.J 3 G,B q],aL.ro (af e)] (aT.vals [ag false]):=
 h.b1
def zm(a:Int)(q:Bool)(b:Int)(A:ae)(c d:Int)(C E F G:ae)(r:Bool):aD:=bd 52 [(0,aQ 1000000000),(1,aW a),(2,.aF (.one (.a' q))),(6,aW b)] [(1000000000,[aA 900000000 4 A,au c,au d,aA 900000003 8 C,aA 900000004 6 E,aA 900000005 5 F,aA 900000006 3 G,.a' r])]
theorem ady(h:ad [.f A a true,.g C [[I a,I b,B q]] 24,.h [[I a,I b,B q]],.u a]):
 aX (ao f317 0) (zm b q a E c d A F G C r) .normal (zm b q (a+1) E c d A F G (C++[[I a,I b,B q]]) r):=
 h.aV [6,0,1,2] [1000000000]
def RK(A:ae)(a b:Int)(C E F G:ae)(q:Bool):aD:=bd 52 [(0,aQ 1000000000)] [(1000000000,[aA 900000000 4 A,au a,au b,aA 900000003 8 C,aA 900000004 6 E,aA 900000005 5 F,aA 900000006 3 G,.a' q])]
theorem adz(h:ad [.f A a false]):
 aX (ao f317 0) (zm d r a C b c A E F G q) (.exit 0) (RK C b c A E F G q):=
 h.aV [0] [1000000000]
theorem adA(h:ad [.a .sub,.p ((0:Int)<=0),.p (0<(A.length:Int)),.e A 0 (ba E F G H aj K L C),.g C [[I a,B q]] 16,.e A 0 (ba E F G H aj K L C),.p ((ba E F G H aj K L C)[7]?=some (D.J 2 C)),.h [[I a,B q]],.p (A=A),.p (A=A),.p (A=A),.p (A=A),.p (A=A),.p (0=0),.p (C=C),.p ((0:Int)<=0),.p (0<(A.length:Int)),.e A 0 (ba E F G H aj K L C),.p (0=0),.l [] [6,0,1,2] [1000000000] (ao f317 0) (zm a q 1 M b d (A.set 0 (ba E F G H aj K L (C++[[I a,B q]]))) V X Y s) (.exit 0) (RK N c e Q R S bi r)]):
 bY 317 [aL.ref [D.J 4 M,I b,I d,D.J 8 A,D.J 6 V,D.J 5 X,D.J 3 Y,B s] [D.J 4 N,I c,I e,D.J 8 Q,D.J 6 R,D.J 5 S,D.J 3 bi,B r],aL.ro (af a),aL.ro (ag q)] (aT.vals []):=
 h.b1
theorem adB(h:ad [.n q true]):
 bY 246 [aL.ref [D.J 4 A,I a,I b,D.J 8 C,D.J 6 E,D.J 5 F,D.J 3 G,B q] [D.J 4 A,I a,I b,D.J 8 C,D.J 6 E,D.J 5 F,D.J 3 G,B q],aL.ro (af c)] (aT.vals [ag false]):=
 h.b1
def Vd(q:Bool)(a:Int)(r:Bool)(l:List O):List O:=.n q false::.r 168 [af a,af 0,af 3] [ag r]::l
theorem adC(h:ad (Vd q c r [.n r true])):
 bY 246 [aL.ref [D.J 4 A,I a,I b,D.J 8 C,D.J 6 E,D.J 5 F,D.J 3 G,B q] [D.J 4 A,I a,I b,D.J 8 C,D.J 6 E,D.J 5 F,D.J 3 G,B q],aL.ro (af c)] (aT.vals [ag false]):=
 h.b1
def Ve(q:Bool)(a:Int)(r:Bool)(A:ae)(b c:Int)(C E F G:ae)(s:Bool)(l:List O):List O:=Vd q a r (.n r false::.r 315 [.agg (cl A b c C E F G),af a] [ag s]::l)
theorem adD(h:ad (Ve q c s A a b C E F G r [.b r true])):
 bY 246 [aL.ref [D.J 4 A,I a,I b,D.J 8 C,D.J 6 E,D.J 5 F,D.J 3 G,B q] [D.J 4 A,I a,I b,D.J 8 C,D.J 6 E,D.J 5 F,D.J 3 G,B q],aL.ro (af c)] (aT.vals [ag false]):=
 h.b1
def Vf(q:Bool)(a:Int)(r:Bool)(A:ae)(b c:Int)(C E F G:ae)(s t:Bool)(d e:Int)(u v:Bool)(H aj K L M N P Q:ae)(w:Bool)(l:List O):List O:=Ve q a r A b c C E F G s (.b s false::.x F a [B t,I d,I e,B u,B v]::.a .sub::.x C d (ba H aj K L M N P Q)::.r 316 [.agg (ba H aj K L M N P Q),af a] [ag w]::l)
theorem adE(h:ad (Vf q a t E b c A F C G r u d e v w H aj K L M N Q R s [.n s true])):
 bY 246 [aL.ref [D.J 4 E,I b,I c,D.J 8 A,D.J 6 F,D.J 5 C,D.J 3 G,B q] [D.J 4 E,I b,I c,D.J 8 A,D.J 6 F,D.J 5 C,D.J 3 G,B q],aL.ro (af a)] (aT.vals [ag false]):=
 h.b1
def L8(q:Bool)(a:Int)(r:Bool)(A:ae)(b c:Int)(C E F G:ae)(s t:Bool)(d e:Int)(u v:Bool)(H aj K L M N P Q:ae)(w:Bool)(f:Int)(l:List O):List O:=Vf q a r A b c C E F G s t d e u v H aj K L M N P Q w (.n w false::.x M a [I f]::.v (e+f)::l)
theorem adF(h:ad (L8 q a v F c d A S C bi r s b e w x V X Y Z G eg H hR t f [.n s true,.v ((A.length:Int)-1),.x H a [B u],.x C a [B y,I g,I i,B z,B hE],.a .sub,.p ((0:Int)<=0),.p (0<(A.length:Int)),.e A 0 (ba aj K L M N E Q R),.x E a [B kF],.e A 0 (ba aj K L M N E Q R),.p (b.toNat=0),.p (b.toNat=0),.p (0=0),.p (0=0),.p (b.toNat=0)])):
 bY 246 [aL.ref [D.J 4 F,I c,I d,D.J 8 A,D.J 6 S,D.J 5 C,D.J 3 bi,B q] [D.J 4 F,I c,I d,D.J 8 (A.set 0 (ba aj K L M N (E.set a.toNat [B false]) Q R)),D.J 6 S,D.J 5 (C.set a.toNat [B true,I ((A.length:Int)-1),I 0,B false,B u]),D.J 3 bi,B q],aL.ro (af a)] (aT.vals [ag true]):=
 h.b1
def AS(q:Bool)(a:Int)(r:Bool)(A:ae)(b c:Int)(C E F G:ae)(s t:Bool)(d e:Int)(u v:Bool)(H aj K L M N P Q:ae)(w:Bool)(f:Int)(x:Bool)(l:List O):List O:=L8 q a r A b c C E F G s t d e u v H aj K L M N P Q w f (.n t false::.b (decide (d>0)) true::.r 168 [af (e+f),af (-1000000),af 1000000] [ag x]::l)
theorem adG(h:ad (AS q a v E b e A G C H r s c d w x aj K L M F N Q R t f u [.n u true])):
 bY 246 [aL.ref [D.J 4 E,I b,I e,D.J 8 A,D.J 6 G,D.J 5 C,D.J 3 H,B q] [D.J 4 E,I b,I e,D.J 8 A,D.J 6 G,D.J 5 C,D.J 3 H,B q],aL.ro (af a)] (aT.vals [ag false]):=
 h.b1
theorem adH(h:ad (AS q b x N e f E Q M R r s a c t u F G H aj A C K L v d w [.n w false,.v (a-1),.b t true,.b u true,.x M b [B y,I g,I i,B z,B hE],.a .sub,.x E a (ba F G H aj A C K L),.x C b [B kF],.e E a.toNat (ba F G H aj A C K L),.p (a.toNat=a.toNat),.p (a.toNat=a.toNat),.p (a.toNat=a.toNat),.p (a.toNat=a.toNat),.p (a.toNat=a.toNat)])):
 bY 246 [aL.ref [D.J 4 N,I e,I f,D.J 8 E,D.J 6 Q,D.J 5 M,D.J 3 R,B q] [D.J 4 N,I e,I f,D.J 8 (E.set a.toNat (ba F G H aj A (C.set b.toNat [B false]) K L)),D.J 6 Q,D.J 5 (M.set b.toNat [B true,I (a-1),I (c+d),B true,B true]),D.J 3 R,B q],aL.ro (af b)] (aT.vals [ag true]):=
 h.b1
theorem adI(h:ad (AS q b y N e f F Q M R r s a c t u G H aj K A C E L v d w [.n w false,.v (a-1),.b t true,.b u false,.x E b [B x],.x M b [B z,I g,I i,B hE,B kF],.a .sub,.x F a (ba G H aj K A C E L),.x C b [B iU],.e F a.toNat (ba G H aj K A C E L),.p (a.toNat=a.toNat),.p (a.toNat=a.toNat),.p (a.toNat=a.toNat),.p (a.toNat=a.toNat),.p (a.toNat=a.toNat)])):
 bY 246 [aL.ref [D.J 4 N,I e,I f,D.J 8 F,D.J 6 Q,D.J 5 M,D.J 3 R,B q] [D.J 4 N,I e,I f,D.J 8 (F.set a.toNat (ba G H aj K A (C.set b.toNat [B false]) E L)),D.J 6 Q,D.J 5 (M.set b.toNat [B true,I (a-1),I (c+d),B true,B x]),D.J 3 R,B q],aL.ro (af b)] (aT.vals [ag true]):=
 h.b1
theorem adJ(h:ad (AS q b y N e f E Q M R r s a c t u F G H aj C A K L v d w [.n w false,.v (a-1),.b t false,.x A b [B x],.b u true,.x M b [B z,I g,I i,B hE,B kF],.a .sub,.x E a (ba F G H aj C A K L),.x A b [B iU],.e E a.toNat (ba F G H aj C A K L),.p (a.toNat=a.toNat),.p (a.toNat=a.toNat),.p (a.toNat=a.toNat),.p (a.toNat=a.toNat),.p (a.toNat=a.toNat),.p (a.toNat=a.toNat),.p (a.toNat=a.toNat)])):
 bY 246 [aL.ref [D.J 4 N,I e,I f,D.J 8 E,D.J 6 Q,D.J 5 M,D.J 3 R,B q] [D.J 4 N,I e,I f,D.J 8 (E.set a.toNat (ba F G H aj C (A.set b.toNat [B false]) K L)),D.J 6 Q,D.J 5 (M.set b.toNat [B true,I (a-1),I (c+d),B x,B true]),D.J 3 R,B q],aL.ro (af b)] (aT.vals [ag true]):=
 h.b1
theorem adK(h:ad (AS q b z N e f F Q M R r s a c t u G H aj K C A E L v d w [.n w false,.v (a-1),.b t false,.x A b [B x],.b u false,.x E b [B y],.x M b [B hE,I g,I i,B kF,B iU],.a .sub,.x F a (ba G H aj K C A E L),.x A b [B t0],.e F a.toNat (ba G H aj K C A E L),.p (a.toNat=a.toNat),.p (a.toNat=a.toNat),.p (a.toNat=a.toNat),.p (a.toNat=a.toNat),.p (a.toNat=a.toNat),.p (a.toNat=a.toNat),.p (a.toNat=a.toNat)])):
 bY 246 [aL.ref [D.J 4 N,I e,I f,D.J 8 F,D.J 6 Q,D.J 5 M,D.J 3 R,B q] [D.J 4 N,I e,I f,D.J 8 (F.set a.toNat (ba G H aj K C (A.set b.toNat [B false]) E L)),D.J 6 Q,D.J 5 (M.set b.toNat [B true,I (a-1),I (c+d),B x,B y]),D.J 3 R,B q],aL.ro (af b)] (aT.vals [ag true]):=
 h.b1
def AT(q:Bool)(a:Int)(r:Bool)(A:ae)(b c:Int)(C E F G:ae)(s t:Bool)(d e:Int)(u v:Bool)(H aj K L M N P Q:ae)(w:Bool)(f:Int)(x:Bool)(g i:Int)(y z:Bool)(l:List O):List O:=L8 q a r A b c C E F G s t d e u v H aj K L M N P Q w f (.n t false::.b (decide (d>0)) false::.x F a [B x,I g,I i,B y,B z]::l)
theorem adL(h:ad (AT t a y E d e C N A Q u v b c q r R S bi V F G X Y w f z j k hE kF [.n q true,.x G a [B x],.n x true,.b (c+f==0) true,.b r true,.a (.dg [some [D.J 4 H,I g,I i,D.J 8 aj,D.J 6 K,D.J 5 L,D.J 3 M,B s],none,none] (aT.vals [])),.p (bT prog 317 [aL.ref [D.J 4 E,I d,I e,D.J 8 C,D.J 6 N,D.J 5 (A.set a.toNat [B false,I b,I c,B q,B r]),D.J 3 Q,B t] [D.J 4 H,I g,I i,D.J 8 aj,D.J 6 K,D.J 5 L,D.J 3 M,B s],aL.ro (af a),aL.ro (ag true)] (aT.vals []))])):
 bY 246 [aL.ref [D.J 4 E,I d,I e,D.J 8 C,D.J 6 N,D.J 5 A,D.J 3 Q,B t] [D.J 4 H,I g,I i,D.J 8 aj,D.J 6 K,D.J 5 L,D.J 3 M,B s],aL.ro (af a)] (aT.vals [ag true]):=
 h.b1
theorem adM(h:ad (AT t a z E d e C Q A R u v b c q r S bi V X F G H Y w f hE j k kF iU [.n q true,.x G a [B x],.n x true,.b (c+f==0) true,.b r false,.x H a [B y],.a (.dg [some [D.J 4 aj,I g,I i,D.J 8 K,D.J 6 L,D.J 5 M,D.J 3 N,B s],none,none] (aT.vals [])),.p (bT prog 317 [aL.ref [D.J 4 E,I d,I e,D.J 8 C,D.J 6 Q,D.J 5 (A.set a.toNat [B false,I b,I c,B q,B r]),D.J 3 R,B t] [D.J 4 aj,I g,I i,D.J 8 K,D.J 6 L,D.J 5 M,D.J 3 N,B s],aL.ro (af a),aL.ro (ag y)] (aT.vals []))])):
 bY 246 [aL.ref [D.J 4 E,I d,I e,D.J 8 C,D.J 6 Q,D.J 5 A,D.J 3 R,B t] [D.J 4 aj,I g,I i,D.J 8 K,D.J 6 L,D.J 5 M,D.J 3 N,B s],aL.ro (af a)] (aT.vals [ag true]):=
 h.b1
theorem adN(h:ad (AT r a x E d e C H A aj s t b c q u K L M N F G Q R v f y g i z hE [.n q true,.x G a [B w],.n w true,.b (c+f==0) false])):
 bY 246 [aL.ref [D.J 4 E,I d,I e,D.J 8 C,D.J 6 H,D.J 5 A,D.J 3 aj,B r] [D.J 4 E,I d,I e,D.J 8 C,D.J 6 H,D.J 5 (A.set a.toNat [B false,I b,I c,B q,B u]),D.J 3 aj,B r],aL.ro (af a)] (aT.vals [ag true]):=
 h.b1
theorem adO(h:ad (AT r a x E c e C H A aj s t b d q u K L M N F G Q R v f y g i z hE [.n q true,.x G a [B w],.n w false])):
 bY 246 [aL.ref [D.J 4 E,I c,I e,D.J 8 C,D.J 6 H,D.J 5 A,D.J 3 aj,B r] [D.J 4 E,I c,I e,D.J 8 C,D.J 6 H,D.J 5 (A.set a.toNat [B false,I b,I d,B q,B u]),D.J 3 aj,B r],aL.ro (af a)] (aT.vals [ag true]):=
 h.b1
theorem adP(h:ad (AT r a w E c e C G A H s t b d q u aj K L M F N Q R v f x g i y z [.n q false])):
 bY 246 [aL.ref [D.J 4 E,I c,I e,D.J 8 C,D.J 6 G,D.J 5 A,D.J 3 H,B r] [D.J 4 E,I c,I e,D.J 8 C,D.J 6 G,D.J 5 (A.set a.toNat [B false,I b,I d,B q,B u]),D.J 3 H,B r],aL.ro (af a)] (aT.vals [ag true]):=
 h.b1
theorem adQ(h:ad [.b (decide ((A.length:Int)>0)) true,.p ((0:Int)<=0),.p (0<(A.length:Int)),.e A 0 (ba K L C E F G H aj),.r 213 [.agg (ba K L C E F G H aj),af a] [ag q]]):
 ar 315 [.agg (cl M b c A N Q R),af a] [ag q]:=
 h.of
def uY(A C E F G H aj K:ae)(a b:Int):aD:=bd 22 [(1,aW a),(2,aQ 2),(5,aW b)] [(2,[.J .free 5 A,.J .free 5 C,.J .free 5 E,.J .free 4 F,.J .free 1 G,.J .free 1 H,.J .free 1 aj,.J .free 2 K])]
def Jg(q:Bool):aD:=bd 22 [(4,.aF (.one (.a' q)))] []
theorem adR(h:ad [.i A c (bj d a e f g),.b (decide (a<=b)) true]):
 aX (ao f342 0) (uY C E A F G H aj K b c) .ret (Jg true):=
 h.aV [4] []
theorem adS(h:ad [.i A a (bj d c e f g),.b (decide (c<=b)) false,.u a]):
 aX (ao f342 0) (uY C E A F G H aj K b a) .normal (uY C E A F G H aj K b (a+1)):=
 h.aV [5,2,1] [2]
def RL:aD:=bd 22 [] []
theorem adT(h:ad [.f A a false]):
 aX (ao f342 0) (uY C E A F G H aj K b a) (.exit 0) RL:=
 h.aV [] []
theorem adU(h:ad [.l [] [5,2,1] [2] (ao f342 0) (uY A C E F G H aj K a 0) .ret (Jg q)]):
 ar 342 [.agg (ba A C E F G H aj K),af a] [ag q]:=
 h.of
theorem adl(h:ad [.l [] [5,2,1] [2] (ao f342 0) (uY A C E F G H aj K a 0) (.exit 0) RL]):
 ar 342 [.agg (ba A C E F G H aj K),af a] [ag false]:=
 h.of
theorem adm(h:ad [.r 342 [.agg (ba A C E F G H aj K),af a] [ag q],.n q true,.r 343 [.agg (ba A C E F G H aj K),af a] [af b]]):
 ar 316 [.agg (ba A C E F G H aj K),af a] [ag (b==0)]:=
 h.of
theorem adn(h:ad [.r 342 [.agg (ba A C E F G H aj K),af a] [ag q],.n q false]):
 ar 316 [.agg (ba A C E F G H aj K),af a] [ag false]:=
 h.of
theorem ado(h:ad [.r 116 [aP 5 E,af a] [aP 5 C],.r 116 [aP 5 F,af a] [aP 5 A],.v ((C.length:Int)+(A.length:Int))]):
 ar 343 [.agg (ba E F G H aj K L M),af a] [af ((C.length:Int)+(A.length:Int))]:=
 h.of
