import Derived.Test.YtdchjefneblpgaaGreatGE
set_option linter.unusedVariables false
set_option linter.unusedSimpArgs false
namespace Go.Proofs.YtdchjefneblpgaaGreat
open Go.Sx Go.RowKit Go.Proofs.Tryz
variable {a b c d e f g i j k l m n o p a0 b4 : Int} {A C E F G H al K L M N Q R S bl V X Y Z dL fS fT hv hx hy il : af} {q r s t u v w x y z gj iv hG t0 : Bool}
theorem ac3(h:ad [.g ([]:af) A 8,.h A]):
 av 276 [.agg (bk a b c A)] [.agg (bk a b c ([]++A))]:=
 h.of
def AK(A:af)(a:Int)(C:af)(b c d e:Int):aH:=bj 27 [(2,aR 2),(3,aR 3),(12,dJ 4 A),(13,aZ (A.length:Int)),(14,aZ a)] [(3,[aG 23 4 C,aw b,aw c]),(2,[.v (aO),aw d,aw e])]
theorem ac4(h:ad [.i A a (bk l e f F),.r 276 [.agg (bk l e f F)] [.agg (bk b c d C)],.a .wr,.g E [(bk b c d C)] 48,.u a]):
 a1 (ar f181 0) (AK A a E g i j k) .normal (AK A (a+1) (E++[(bk b c d C)]) g i j k):=
 h.aW [14,13,12,3,2] [3,2]
def R3(A:af)(a b c d:Int):aH:=bj 27 [(2,aR 2),(3,aR 3)] [(3,[aG 23 4 A,aw a,aw b]),(2,[.v (aO),aw c,aw d])]
theorem ac5(h:ad [.f A a false]):
 a1 (ar f181 0) (AK A a C b c d e) (.exit 0) (R3 C b c d e):=
 h.aW [3,2] [3,2]
theorem ac6(h:ad [.l [(4000000,23,4)] [14,13,12,3,2] [3,2] (ar f181 0) (AK A 0 [] a b 0 0) (.exit 0) (R3 C c d e f)]):
 av 181 [.agg (bD A a b)] [.agg (bD C c d)]:=
 h.of
theorem ac7(h:ad [.r 233 [a7 5 A] [a7 5 C]]):
 av 256 [.agg (bO a A b c d e)] [.agg (bO a C b c d e)]:=
 h.of
theorem ac8(h:ad [.r 233 [a7 5 G] [a7 5 N],.r 233 [a7 5 H] [a7 5 Q],.r 233 [a7 5 L] [a7 5 al],.r 297 [a7 4 M] [a7 4 K],.g ([]:af) A 8,.h A,.g ([]:af) C 1,.h C,.g ([]:af) E 1,.h E,.g ([]:af) F 16,.h F]):
 av 255 [.agg (ba G H L M A C E F)] [.agg (ba N Q al K ([]++A) ([]++C) ([]++E) ([]++F))]:=
 h.of
def AL(A:af)(a:Int)(al:af)(d e:Int)(K L M:af)(f g:Int)(C:af)(b c:Int)(E F G H:af):aH:=bj 49 [(1,aR 1),(2,aR 2),(3,aR 3),(19,dJ 8 A),(20,aZ (A.length:Int)),(21,aZ a)] [(3,[aG 110000 4 al,aw d,aw e,aG 30 8 K,.v (aO),aG 13 5 L,aG 16 3 M]),(2,[.v (aO),aw f,aw g,.v (aO),.v (aO),.v (aO),.v (aO)]),(1,[.J .free 4 C,aw b,aw c,.J .free 8 E,.J .free 6 F,.J .free 5 G,.J .free 3 H])]
theorem ac9(h:ad [.i C a (ba Z dL fS fT hv hx hy il),.r 255 [.agg (ba Z dL fS fT hv hx hy il)] [.agg (ba E F G H al K L M)],.a .wr,.g A [(ba E F G H al K L M)] 192,.u a]):
 a1 (ar f144 0) (AL C a N b c A Q R d e S f g bl V X Y) .normal (AL C (a+1) N b c (A++[(ba E F G H al K L M)]) Q R d e S f g bl V X Y):=
 h.aW [21,20,19,3,1,2] [3,2,1]
def R4(A:af)(a c:Int)(H al K:af)(d e:Int)(L:af)(f b:Int)(C E F G:af):aH:=bj 49 [(1,aR 1),(2,aR 2),(3,aR 3)] [(3,[aG 110000 4 A,aw a,aw c,aG 30 8 H,.v (aO),aG 13 5 al,aG 16 3 K]),(2,[.v (aO),aw d,aw e,.v (aO),.v (aO),.v (aO),.v (aO)]),(1,[.J .free 4 L,aw f,aw b,.J .free 8 C,.J .free 6 E,.J .free 5 F,.J .free 3 G])]
theorem ada(h:ad [.f M a false]):
 a1 (ar f144 0) (AL M a A b c C E F d e G f g H al K L) (.exit 0) (R4 A b c C E F d e G f g H al K L):=
 h.aW [1,3,2] [3,2,1]
def AM(A:af)(a:Int)(C:af)(c d:Int)(E F G H:af)(e b:Int):aH:=bj 49 [(2,aR 2),(3,aR 3),(34,dJ 6 A),(35,aZ (A.length:Int)),(36,aZ a)] [(3,[aG 110000 4 C,aw c,aw d,aG 30 8 E,aG 45 6 F,aG 13 5 G,aG 16 3 H]),(2,[.v (aO),aw e,aw b,.v (aO),.v (aO),.v (aO),.v (aO)])]
theorem adb(h:ad [.i A a (bO l K m n o p),.r 256 [.agg (bO l K m n o p)] [.agg (bO b E c d e f)],.a .wr,.g C [(bO b E c d e f)] 64,.u a]):
 a1 (ar f144 1) (AM A a F g i G C H al j k) .normal (AM A (a+1) F g i G (C++[(bO b E c d e f)]) H al j k):=
 h.aW [36,35,34,3,2] [3,2]
def R5(A:af)(a b:Int)(C E F G:af)(c d:Int):aH:=bj 49 [(2,aR 2),(3,aR 3)] [(3,[aG 110000 4 A,aw a,aw b,aG 30 8 C,aG 45 6 E,aG 13 5 F,aG 16 3 G]),(2,[.v (aO),aw c,aw d,.v (aO),.v (aO),.v (aO),.v (aO)])]
theorem ade(h:ad [.f A a false]):
 a1 (ar f144 1) (AM A a C b c E F G H d e) (.exit 2) (R5 C b c E F G H d e):=
 h.aW [3,2] [3,2]
theorem adf(h:ad [.r 181 [.agg (bD E a b)] [.agg (bD V j k)],.g ([]:af) A 32,.h A,.g ([]:af) C 24,.h C,.l [(4000003,30,8)] [21,20,19,3,1,2] [3,2,1] (ar f144 0) (AL F 0 V j k [] ([]++A) ([]++C) 0 0 E a b F bl A C) (.exit 0) (R4 G c d H al K e f X l m Y L Z dL),.l [(4000004,45,6)] [36,35,34,3,2] [3,2] (ar f144 1) (AM L 0 G c d H [] al K e f) (.exit 2) (R5 M g i N Q R S n o)]):
 av 144 [.agg (cl E a b F bl A C)] [.agg (cl M g i N Q R S)]:=
 h.of
theorem adg(h:ad [.g ([]:af) A 40,.h A]):
 av 279 [.agg (bO a A b c d e)] [.agg (bO a ([]++A) b c d e)]:=
 h.of
def AN(a:Int)(A:af)(b c d e:Int)(C:af)(f g:Int):aH:=bj 33 [(1,aR 1),(2,aR 2),(3,aR 3),(4,aZ a)] [(3,[aG 7 4 A,aw b,aw c]),(2,[.v (aO),aw d,aw e]),(1,[.J .free 4 C,aw f,aw g])]
theorem adh(h:ad [.i E a (bk b c d A),.a .wr,.g ([]:af) A 8,.h A,.g C [(bk b c d ([]++A))] 48,.u a]):
 a1 (ar f123 0) (AN a C g i j k E e f) .normal (AN (a+1) (C++[(bk b c d ([]++A))]) g i j k E e f):=
 h.aW [4,1,3,2] [3,2,1]
def R6(A:af)(a b c d:Int):aH:=bj 33 [(2,aR 2),(3,aR 3)] [(3,[aG 7 4 A,aw a,aw b]),(2,[.v (aO),aw c,aw d])]
theorem adi(h:ad [.f C a false]):
 a1 (ar f123 0) (AN a A b c d e C f g) (.exit 0) (R6 A b c d e):=
 h.aW [3,2] [3,2]
theorem adj(h:ad [.l [] [4,1,3,2] [3,2,1] (ar f123 0) (AN 0 [] a b 0 0 A a b) (.exit 0) (R6 C c d e f)]):
 av 123 [.agg (bD A a b)] [.agg (bD C c d)]:=
 h.of
theorem adk(h:ad [.g ([]:af) A 40,.h A,.g ([]:af) C 40,.h C,.g ([]:af) E 40,.h E,.g ([]:af) F 32,.h F,.g ([]:af) G 8,.h G,.g ([]:af) H 1,.h H,.g ([]:af) al 1,.h al,.g ([]:af) K 16,.h K]):
 av 174 [.agg (ba A C E F G H al K)] [.agg (ba ([]++A) ([]++C) ([]++E) ([]++F) ([]++G) ([]++H) ([]++al) ([]++K))]:=
 h.of
def AO(a:Int)(A:af)(d e:Int)(H al K:af)(f g:Int)(L:af)(b c:Int)(C E F G:af):aH:=bj 55 [(1,aR 1),(2,aR 2),(3,aR 3),(4,aZ a)] [(3,[aG 90000 4 A,aw d,aw e,aG 34 8 H,.v (aO),aG 9 5 al,aG 13 3 K]),(2,[.v (aO),aw f,aw g,.v (aO),.v (aO),.v (aO),.v (aO)]),(1,[.J .free 4 L,aw b,aw c,.J .free 8 C,.J .free 6 E,.J .free 5 F,.J .free 3 G])]
theorem adl(h:ad [.i C a (ba Y Z dL fS fT hv hx hy),.r 174 [.agg (ba Y Z dL fS fT hv hx hy)] [.agg (ba E F G H al K L M)],.a .wr,.g A [(ba E F G H al K L M)] 192,.u a]):
 a1 (ar f186 0) (AO a N b c A Q R d e S f g C bl V X) .normal (AO (a+1) N b c (A++[(ba E F G H al K L M)]) Q R d e S f g C bl V X):=
 h.aW [4,1,3,2] [3,2,1]
def R7(A:af)(a c:Int)(H al K:af)(d e:Int)(L:af)(f b:Int)(C E F G:af):aH:=bj 55 [(1,aR 1),(2,aR 2),(3,aR 3)] [(3,[aG 90000 4 A,aw a,aw c,aG 34 8 H,.v (aO),aG 9 5 al,aG 13 3 K]),(2,[.v (aO),aw d,aw e,.v (aO),.v (aO),.v (aO),.v (aO)]),(1,[.J .free 4 L,aw f,aw b,.J .free 8 C,.J .free 6 E,.J .free 5 F,.J .free 3 G])]
theorem adm(h:ad [.f A a false]):
 a1 (ar f186 0) (AO a C b c E F G d e H f g A al K L) (.exit 0) (R7 C b c E F G d e H f g A al K L):=
 h.aW [1,3,2] [3,2,1]
def zV(a:Int)(A:af)(d e:Int)(al K L M:af)(f g:Int)(C:af)(b c:Int)(E F G H:af):aH:=bj 55 [(1,aR 1),(2,aR 2),(3,aR 3),(5,aZ a)] [(3,[aG 90000 4 A,aw d,aw e,aG 34 8 al,aG 52 6 K,aG 9 5 L,aG 13 3 M]),(2,[.v (aO),aw f,aw g,.v (aO),.v (aO),.v (aO),.v (aO)]),(1,[.J .free 4 C,aw b,aw c,.J .free 8 E,.J .free 6 F,.J .free 5 G,.J .free 3 H])]
theorem adn(h:ad [.i C a (bO n Q o p a0 b4),.r 279 [.agg (bO n Q o p a0 b4)] [.agg (bO b E c d e f)],.a .wr,.g A [(bO b E c d e f)] 64,.u a]):
 a1 (ar f186 1) (zV a F g i G A H al j k K l m L C M N) .normal (zV (a+1) F g i G (A++[(bO b E c d e f)]) H al j k K l m L C M N):=
 h.aW [5,1,3,2] [3,2,1]
def Ry(A:af)(a b:Int)(C E F G:af)(c d:Int):aH:=bj 55 [(2,aR 2),(3,aR 3)] [(3,[aG 90000 4 A,aw a,aw b,aG 34 8 C,aG 52 6 E,aG 9 5 F,aG 13 3 G]),(2,[.v (aO),aw c,aw d,.v (aO),.v (aO),.v (aO),.v (aO)])]
theorem ado(h:ad [.f H a false]):
 a1 (ar f186 1) (zV a A b c C E F G d e al f g K H L M) (.exit 2) (Ry A b c C E F G d e):=
 h.aW [3,2] [3,2]
theorem adp(h:ad [.r 123 [.agg (bD E a b)] [.agg (bD dL l m)],.g ([]:af) A 32,.h A,.g ([]:af) C 24,.h C,.l [(4000003,34,8)] [4,1,3,2] [3,2,1] (ar f186 0) (AO 0 dL l m [] ([]++A) ([]++C) 0 0 E a b V Z A C) (.exit 0) (R7 F c d G H al e f K g i L M N Q),.l [(4000004,52,6)] [5,1,3,2] [3,2,1] (ar f186 1) (zV 0 F c d G [] H al e f K g i L M N Q) (.exit 2) (Ry R j k S bl X Y n o)]):
 av 186 [.agg (cl E a b V Z A C)] [.agg (cl R j k S bl X Y)]:=
 h.of
theorem acO(h:ad [.r 186 [.agg (cl A a b C E F G)] [.agg (cl M c d H al K L)],.r 56 [.agg (cl A a b C E F G)] [ao q]]):
 b3 127 [aM.ro (.agg (cl A a b C E F G))] (aS.new [D.J 4 M,I c,I d,D.J 8 H,D.J 6 al,D.J 5 K,D.J 3 L,B q]):=
 h.b5
def p7(a b:Int)(A:af)(c d:Int)(C E F G:af)(q:Bool):aH:=bj 93 [(0,aR 1000000000),(1,aZ a),(5,aZ b)] [(1000000000,[aG 900000000 4 A,aw c,aw d,aG 900000003 8 C,aG 900000004 6 E,aG 900000005 5 F,aG 900000006 3 G,.bc q])]
theorem acP(h:ad [.f A a true,.b q true,.x A a [I e,I f,B r],.b (e != b) true,.u a]):
 a1 (ar f247 0) (p7 b a C c d E F G A q) .normal (p7 b (a+1) C c d E F G A q):=
 h.aW [5,0,1] [1000000000]
def D9(q:Bool)(A:af)(a b:Int)(C E F G:af)(r:Bool):aH:=bj 93 [(0,aR 1000000000),(4,.aJ (.one (.bc q)))] [(1000000000,[aG 900000000 4 A,aw a,aw b,aG 900000003 8 C,aG 900000004 6 E,aG 900000005 5 F,aG 36 3 G,.bc r])]
def VO(A:af)(a:Int)(q:Bool)(b c:Int)(r:Bool)(d:Int)(C E F G H al K L M:af)(s:Bool)(l:List O):List O:=.f A a true::.b q true::.x A a [I b,I c,B r]::.b (b != d) false::.a .sub::.p ((0:Int)<=none.getD 0)::.p (none.getD 0<=(some a).getD (A.length:Int))::.p ((some a).getD (A.length:Int)<=(A.length:Int))::.p ((([]:af).length+(List.take (((some a).getD (A.length:Int)).toNat-0) (List.drop 0 A)).length)*24<=140737488355328)::.p (([]:af).length+(List.take (((some a).getD (A.length:Int)).toNat-0) (List.drop 0 A)).length<=9223372036854775807)::.p (Flat (List.take (((some a).getD (A.length:Int)).toNat-0) (List.drop 0 A)))::.u a::.p (0<=(some (a+1)).getD 0)::.p ((some (a+1)).getD 0<=none.getD (A.length:Int))::.p (none.getD (A.length:Int)<=(A.length:Int))::.p ((([]++List.take (((some a).getD (A.length:Int)).toNat-0) (List.drop 0 A)).length+(List.take (A.length-((some (a+1)).getD 0).toNat) (List.drop ((some (a+1)).getD 0).toNat A)).length)*24<=140737488355328)::.p (([]++List.take (((some a).getD (A.length:Int)).toNat-0) (List.drop 0 A)).length+(List.take (A.length-((some (a+1)).getD 0).toNat) (List.drop ((some (a+1)).getD 0).toNat A)).length<=9223372036854775807)::.p (Flat (List.take (A.length-((some (a+1)).getD 0).toNat) (List.drop ((some (a+1)).getD 0).toNat A)))::.x C d (ba E F G H al K L M)::.r 213 [.agg (ba E F G H al K L M),ae c] [ao s]::l
theorem acQ(h:ad (VO A a r f c q b C F G H al K L M E s [.n s true,.a .sub,.x C b (ba F G H al K L M E),.g E [[I c,B q]] 16,.e C b.toNat (ba F G H al K L M E),.p ((ba F G H al K L M E)[7]?=some (D.J 2 E)),.h [[I c,B q]],.p (C=C),.p (C=C),.p (b.toNat=b.toNat),.p (E=E),.p (C=C),.p (C=C),.p (C=C),.p (C=C),.p (C=C),.p (b.toNat=b.toNat),.p (E=E),.x C b (ba F G H al K L M E),.p (b.toNat=b.toNat)])):
 a1 (ar f247 0) (p7 b a N d e C Q R A r) .ret (D9 true N d e (C.set b.toNat (ba F G H al K L M (E++[[I c,B q]]))) Q R ([]++List.take (((some a).getD (A.length:Int)).toNat-0) (List.drop 0 A)++List.take (A.length-((some (a+1)).getD 0).toNat) (List.drop ((some (a+1)).getD 0).toNat A)) r):=
 h.aW [4,0] [1000000000]
theorem acR(h:ad (VO A a q e f s b C H al K L M N Q R r [.n r false])):
 a1 (ar f247 0) (p7 b a E c d C F G A q) .ret (D9 true E c d C F G ([]++List.take (((some a).getD (A.length:Int)).toNat-0) (List.drop 0 A)++List.take (A.length-((some (a+1)).getD 0).toNat) (List.drop ((some (a+1)).getD 0).toNat A)) q):=
 h.aW [4,0] [1000000000]
def Jw(A:af)(a b:Int)(C E F G:af)(q:Bool):aH:=bj 93 [(0,aR 1000000000)] [(1000000000,[aG 900000000 4 A,aw a,aw b,aG 900000003 8 C,aG 900000004 6 E,aG 900000005 5 F,aG 900000006 3 G,.bc q])]
theorem acS(h:ad [.f A c true,.b q false]):
 a1 (ar f247 0) (p7 d c C a b E F G A q) (.exit 0) (Jw C a b E F G A q):=
 h.aW [0] [1000000000]
theorem Rz(h:ad [.f A c false]):
 a1 (ar f247 0) (p7 d c C a b E F G A q) (.exit 0) (Jw C a b E F G A q):=
 h.aW [0] [1000000000]
theorem acT(h:ad [.l [] [5,0,1] [1000000000] (ar f247 0) (p7 e 0 A a d al K L M r) .ret (D9 s C b c E F G H q)]):
 b3 247 [aM.ref [D.J 4 A,I a,I d,D.J 8 al,D.J 6 K,D.J 5 L,D.J 3 M,B r] [D.J 4 C,I b,I c,D.J 8 E,D.J 6 F,D.J 5 G,D.J 3 H,B q],aM.ro (ae e)] (aS.vals [ao s]):=
 h.b5
theorem Jx(h:ad [.l [] [5,0,1] [1000000000] (ar f247 0) (p7 e 0 A a d H al K L r) (.exit 0) (Jw M b c C E F G q)]):
 b3 247 [aM.ref [D.J 4 A,I a,I d,D.J 8 H,D.J 6 al,D.J 5 K,D.J 3 L,B r] [D.J 4 M,I b,I c,D.J 8 C,D.J 6 E,D.J 5 F,D.J 3 G,B q],aM.ro (ae e)] (aS.vals [ao false]):=
 h.b5
def zW(a:Int)(q:Bool)(b:Int)(A:af)(c d:Int)(C E F G:af)(r:Bool):aH:=bj 52 [(0,aR 1000000000),(1,aZ a),(2,.aJ (.one (.bc q))),(6,aZ b)] [(1000000000,[aG 900000000 4 A,aw c,aw d,aG 900000003 8 C,aG 900000004 6 E,aG 900000005 5 F,aG 900000006 3 G,.bc r])]
theorem acU(h:ad [.f A a true,.g C [[I a,I b,B q]] 24,.h [[I a,I b,B q]],.u a]):
 a1 (ar f317 0) (zW b q a E c d A F G C r) .normal (zW b q (a+1) E c d A F G (C++[[I a,I b,B q]]) r):=
 h.aW [6,0,1,2] [1000000000]
def RA(A:af)(a b:Int)(C E F G:af)(q:Bool):aH:=bj 52 [(0,aR 1000000000)] [(1000000000,[aG 900000000 4 A,aw a,aw b,aG 900000003 8 C,aG 900000004 6 E,aG 900000005 5 F,aG 900000006 3 G,.bc q])]
theorem acV(h:ad [.f A a false]):
 a1 (ar f317 0) (zW d r a C b c A E F G q) (.exit 0) (RA C b c A E F G q):=
 h.aW [0] [1000000000]
theorem acW(h:ad [.a .sub,.p ((0:Int)<=0),.p (0<(A.length:Int)),.e A 0 (ba E F G H al K L C),.g C [[I a,B q]] 16,.e A 0 (ba E F G H al K L C),.p ((ba E F G H al K L C)[7]?=some (D.J 2 C)),.h [[I a,B q]],.p (A=A),.p (A=A),.p (A=A),.p (A=A),.p (A=A),.p (0=0),.p (C=C),.p ((0:Int)<=0),.p (0<(A.length:Int)),.e A 0 (ba E F G H al K L C),.p (0=0),.l [] [6,0,1,2] [1000000000] (ar f317 0) (zW a q 1 M b d (A.set 0 (ba E F G H al K L (C++[[I a,B q]]))) V X Y s) (.exit 0) (RA N c e Q R S bl r)]):
 b3 317 [aM.ref [D.J 4 M,I b,I d,D.J 8 A,D.J 6 V,D.J 5 X,D.J 3 Y,B s] [D.J 4 N,I c,I e,D.J 8 Q,D.J 6 R,D.J 5 S,D.J 3 bl,B r],aM.ro (ae a),aM.ro (ao q)] (aS.vals []):=
 h.b5
theorem acX(h:ad [.n q true]):
 b3 246 [aM.ref [D.J 4 A,I a,I b,D.J 8 C,D.J 6 E,D.J 5 F,D.J 3 G,B q] [D.J 4 A,I a,I b,D.J 8 C,D.J 6 E,D.J 5 F,D.J 3 G,B q],aM.ro (ae c)] (aS.vals [ao false]):=
 h.b5
def VP(q:Bool)(a:Int)(r:Bool)(l:List O):List O:=.n q false::.r 168 [ae a,ae 0,ae 3] [ao r]::l
theorem aeq(h:ad (VP q c r [.n r true])):
 b3 246 [aM.ref [D.J 4 A,I a,I b,D.J 8 C,D.J 6 E,D.J 5 F,D.J 3 G,B q] [D.J 4 A,I a,I b,D.J 8 C,D.J 6 E,D.J 5 F,D.J 3 G,B q],aM.ro (ae c)] (aS.vals [ao false]):=
 h.b5
def VQ(q:Bool)(a:Int)(r:Bool)(A:af)(b c:Int)(C E F G:af)(s:Bool)(l:List O):List O:=VP q a r (.n r false::.r 315 [.agg (cl A b c C E F G),ae a] [ao s]::l)
theorem aer(h:ad (VQ q c s A a b C E F G r [.b r true])):
 b3 246 [aM.ref [D.J 4 A,I a,I b,D.J 8 C,D.J 6 E,D.J 5 F,D.J 3 G,B q] [D.J 4 A,I a,I b,D.J 8 C,D.J 6 E,D.J 5 F,D.J 3 G,B q],aM.ro (ae c)] (aS.vals [ao false]):=
 h.b5
def VR(q:Bool)(a:Int)(r:Bool)(A:af)(b c:Int)(C E F G:af)(s t:Bool)(d e:Int)(u v:Bool)(H al K L M N P Q:af)(w:Bool)(l:List O):List O:=VQ q a r A b c C E F G s (.b s false::.x F a [B t,I d,I e,B u,B v]::.a .sub::.x C d (ba H al K L M N P Q)::.r 316 [.agg (ba H al K L M N P Q),ae a] [ao w]::l)
theorem aes(h:ad (VR q a t E b c A F C G r u d e v w H al K L M N Q R s [.n s true])):
 b3 246 [aM.ref [D.J 4 E,I b,I c,D.J 8 A,D.J 6 F,D.J 5 C,D.J 3 G,B q] [D.J 4 E,I b,I c,D.J 8 A,D.J 6 F,D.J 5 C,D.J 3 G,B q],aM.ro (ae a)] (aS.vals [ao false]):=
 h.b5
def Mn(q:Bool)(a:Int)(r:Bool)(A:af)(b c:Int)(C E F G:af)(s t:Bool)(d e:Int)(u v:Bool)(H al K L M N P Q:af)(w:Bool)(f:Int)(l:List O):List O:=VR q a r A b c C E F G s t d e u v H al K L M N P Q w (.n w false::.x M a [I f]::.v (e+f)::l)
theorem aet(h:ad (Mn q a v F c d A S C bl r s b e w x V X Y Z G dL H fS t f [.n s true,.v ((A.length:Int)-1),.x H a [B u],.x C a [B y,I g,I i,B z,B gj],.a .sub,.p ((0:Int)<=0),.p (0<(A.length:Int)),.e A 0 (ba al K L M N E Q R),.x E a [B iv],.e A 0 (ba al K L M N E Q R),.p (b.toNat=0),.p (b.toNat=0),.p (0=0),.p (0=0),.p (b.toNat=0)])):
 b3 246 [aM.ref [D.J 4 F,I c,I d,D.J 8 A,D.J 6 S,D.J 5 C,D.J 3 bl,B q] [D.J 4 F,I c,I d,D.J 8 (A.set 0 (ba al K L M N (E.set a.toNat [B false]) Q R)),D.J 6 S,D.J 5 (C.set a.toNat [B true,I ((A.length:Int)-1),I 0,B false,B u]),D.J 3 bl,B q],aM.ro (ae a)] (aS.vals [ao true]):=
 h.b5
def Bm(q:Bool)(a:Int)(r:Bool)(A:af)(b c:Int)(C E F G:af)(s t:Bool)(d e:Int)(u v:Bool)(H al K L M N P Q:af)(w:Bool)(f:Int)(x:Bool)(l:List O):List O:=Mn q a r A b c C E F G s t d e u v H al K L M N P Q w f (.n t false::.b (decide (d>0)) true::.r 168 [ae (e+f),ae (-1000000),ae 1000000] [ao x]::l)
theorem aeu(h:ad (Bm q a v E b e A G C H r s c d w x al K L M F N Q R t f u [.n u true])):
 b3 246 [aM.ref [D.J 4 E,I b,I e,D.J 8 A,D.J 6 G,D.J 5 C,D.J 3 H,B q] [D.J 4 E,I b,I e,D.J 8 A,D.J 6 G,D.J 5 C,D.J 3 H,B q],aM.ro (ae a)] (aS.vals [ao false]):=
 h.b5
theorem aev(h:ad (Bm q b x N e f E Q M R r s a c t u F G H al A C K L v d w [.n w false,.v (a-1),.b t true,.b u true,.x M b [B y,I g,I i,B z,B gj],.a .sub,.x E a (ba F G H al A C K L),.x C b [B iv],.e E a.toNat (ba F G H al A C K L),.p (a.toNat=a.toNat),.p (a.toNat=a.toNat),.p (a.toNat=a.toNat),.p (a.toNat=a.toNat),.p (a.toNat=a.toNat)])):
 b3 246 [aM.ref [D.J 4 N,I e,I f,D.J 8 E,D.J 6 Q,D.J 5 M,D.J 3 R,B q] [D.J 4 N,I e,I f,D.J 8 (E.set a.toNat (ba F G H al A (C.set b.toNat [B false]) K L)),D.J 6 Q,D.J 5 (M.set b.toNat [B true,I (a-1),I (c+d),B true,B true]),D.J 3 R,B q],aM.ro (ae b)] (aS.vals [ao true]):=
 h.b5
theorem aew(h:ad (Bm q b y N e f F Q M R r s a c t u G H al K A C E L v d w [.n w false,.v (a-1),.b t true,.b u false,.x E b [B x],.x M b [B z,I g,I i,B gj,B iv],.a .sub,.x F a (ba G H al K A C E L),.x C b [B hG],.e F a.toNat (ba G H al K A C E L),.p (a.toNat=a.toNat),.p (a.toNat=a.toNat),.p (a.toNat=a.toNat),.p (a.toNat=a.toNat),.p (a.toNat=a.toNat)])):
 b3 246 [aM.ref [D.J 4 N,I e,I f,D.J 8 F,D.J 6 Q,D.J 5 M,D.J 3 R,B q] [D.J 4 N,I e,I f,D.J 8 (F.set a.toNat (ba G H al K A (C.set b.toNat [B false]) E L)),D.J 6 Q,D.J 5 (M.set b.toNat [B true,I (a-1),I (c+d),B true,B x]),D.J 3 R,B q],aM.ro (ae b)] (aS.vals [ao true]):=
 h.b5
theorem aex(h:ad (Bm q b y N e f E Q M R r s a c t u F G H al C A K L v d w [.n w false,.v (a-1),.b t false,.x A b [B x],.b u true,.x M b [B z,I g,I i,B gj,B iv],.a .sub,.x E a (ba F G H al C A K L),.x A b [B hG],.e E a.toNat (ba F G H al C A K L),.p (a.toNat=a.toNat),.p (a.toNat=a.toNat),.p (a.toNat=a.toNat),.p (a.toNat=a.toNat),.p (a.toNat=a.toNat),.p (a.toNat=a.toNat),.p (a.toNat=a.toNat)])):
 b3 246 [aM.ref [D.J 4 N,I e,I f,D.J 8 E,D.J 6 Q,D.J 5 M,D.J 3 R,B q] [D.J 4 N,I e,I f,D.J 8 (E.set a.toNat (ba F G H al C (A.set b.toNat [B false]) K L)),D.J 6 Q,D.J 5 (M.set b.toNat [B true,I (a-1),I (c+d),B x,B true]),D.J 3 R,B q],aM.ro (ae b)] (aS.vals [ao true]):=
 h.b5
theorem aey(h:ad (Bm q b z N e f F Q M R r s a c t u G H al K C A E L v d w [.n w false,.v (a-1),.b t false,.x A b [B x],.b u false,.x E b [B y],.x M b [B gj,I g,I i,B iv,B hG],.a .sub,.x F a (ba G H al K C A E L),.x A b [B t0],.e F a.toNat (ba G H al K C A E L),.p (a.toNat=a.toNat),.p (a.toNat=a.toNat),.p (a.toNat=a.toNat),.p (a.toNat=a.toNat),.p (a.toNat=a.toNat),.p (a.toNat=a.toNat),.p (a.toNat=a.toNat)])):
 b3 246 [aM.ref [D.J 4 N,I e,I f,D.J 8 F,D.J 6 Q,D.J 5 M,D.J 3 R,B q] [D.J 4 N,I e,I f,D.J 8 (F.set a.toNat (ba G H al K C (A.set b.toNat [B false]) E L)),D.J 6 Q,D.J 5 (M.set b.toNat [B true,I (a-1),I (c+d),B x,B y]),D.J 3 R,B q],aM.ro (ae b)] (aS.vals [ao true]):=
 h.b5
def Bn(q:Bool)(a:Int)(r:Bool)(A:af)(b c:Int)(C E F G:af)(s t:Bool)(d e:Int)(u v:Bool)(H al K L M N P Q:af)(w:Bool)(f:Int)(x:Bool)(g i:Int)(y z:Bool)(l:List O):List O:=Mn q a r A b c C E F G s t d e u v H al K L M N P Q w f (.n t false::.b (decide (d>0)) false::.x F a [B x,I g,I i,B y,B z]::l)
theorem aez(h:ad (Bn t a y E d e C N A Q u v b c q r R S bl V F G X Y w f z j k gj iv [.n q true,.x G a [B x],.n x true,.b (c+f==0) true,.b r true,.a (.dj [some [D.J 4 H,I g,I i,D.J 8 al,D.J 6 K,D.J 5 L,D.J 3 M,B s],none,none] (aS.vals [])),.p (bT prog 317 [aM.ref [D.J 4 E,I d,I e,D.J 8 C,D.J 6 N,D.J 5 (A.set a.toNat [B false,I b,I c,B q,B r]),D.J 3 Q,B t] [D.J 4 H,I g,I i,D.J 8 al,D.J 6 K,D.J 5 L,D.J 3 M,B s],aM.ro (ae a),aM.ro (ao true)] (aS.vals []))])):
 b3 246 [aM.ref [D.J 4 E,I d,I e,D.J 8 C,D.J 6 N,D.J 5 A,D.J 3 Q,B t] [D.J 4 H,I g,I i,D.J 8 al,D.J 6 K,D.J 5 L,D.J 3 M,B s],aM.ro (ae a)] (aS.vals [ao true]):=
 h.b5
theorem aeA(h:ad (Bn t a z E d e C Q A R u v b c q r S bl V X F G H Y w f gj j k iv hG [.n q true,.x G a [B x],.n x true,.b (c+f==0) true,.b r false,.x H a [B y],.a (.dj [some [D.J 4 al,I g,I i,D.J 8 K,D.J 6 L,D.J 5 M,D.J 3 N,B s],none,none] (aS.vals [])),.p (bT prog 317 [aM.ref [D.J 4 E,I d,I e,D.J 8 C,D.J 6 Q,D.J 5 (A.set a.toNat [B false,I b,I c,B q,B r]),D.J 3 R,B t] [D.J 4 al,I g,I i,D.J 8 K,D.J 6 L,D.J 5 M,D.J 3 N,B s],aM.ro (ae a),aM.ro (ao y)] (aS.vals []))])):
 b3 246 [aM.ref [D.J 4 E,I d,I e,D.J 8 C,D.J 6 Q,D.J 5 A,D.J 3 R,B t] [D.J 4 al,I g,I i,D.J 8 K,D.J 6 L,D.J 5 M,D.J 3 N,B s],aM.ro (ae a)] (aS.vals [ao true]):=
 h.b5
theorem aeB(h:ad (Bn r a x E d e C H A al s t b c q u K L M N F G Q R v f y g i z gj [.n q true,.x G a [B w],.n w true,.b (c+f==0) false])):
 b3 246 [aM.ref [D.J 4 E,I d,I e,D.J 8 C,D.J 6 H,D.J 5 A,D.J 3 al,B r] [D.J 4 E,I d,I e,D.J 8 C,D.J 6 H,D.J 5 (A.set a.toNat [B false,I b,I c,B q,B u]),D.J 3 al,B r],aM.ro (ae a)] (aS.vals [ao true]):=
 h.b5
theorem aeC(h:ad (Bn r a x E c e C H A al s t b d q u K L M N F G Q R v f y g i z gj [.n q true,.x G a [B w],.n w false])):
 b3 246 [aM.ref [D.J 4 E,I c,I e,D.J 8 C,D.J 6 H,D.J 5 A,D.J 3 al,B r] [D.J 4 E,I c,I e,D.J 8 C,D.J 6 H,D.J 5 (A.set a.toNat [B false,I b,I d,B q,B u]),D.J 3 al,B r],aM.ro (ae a)] (aS.vals [ao true]):=
 h.b5
theorem aeD(h:ad (Bn r a w E c e C G A H s t b d q u al K L M F N Q R v f x g i y z [.n q false])):
 b3 246 [aM.ref [D.J 4 E,I c,I e,D.J 8 C,D.J 6 G,D.J 5 A,D.J 3 H,B r] [D.J 4 E,I c,I e,D.J 8 C,D.J 6 G,D.J 5 (A.set a.toNat [B false,I b,I d,B q,B u]),D.J 3 H,B r],aM.ro (ae a)] (aS.vals [ao true]):=
 h.b5
theorem aeE(h:ad [.b (decide ((A.length:Int)>0)) true,.p ((0:Int)<=0),.p (0<(A.length:Int)),.e A 0 (ba K L C E F G H al),.r 213 [.agg (ba K L C E F G H al),ae a] [ao q]]):
 av 315 [.agg (cl M b c A N Q R),ae a] [ao q]:=
 h.of
def vw(A C E F G H al K:af)(a b:Int):aH:=bj 22 [(1,aZ a),(2,aR 2),(5,aZ b)] [(2,[.J .free 5 A,.J .free 5 C,.J .free 5 E,.J .free 4 F,.J .free 1 G,.J .free 1 H,.J .free 1 al,.J .free 2 K])]
def Jy(q:Bool):aH:=bj 22 [(4,.aJ (.one (.bc q)))] []
theorem aeF(h:ad [.i A c (bi d a e f g),.b (decide (a<=b)) true]):
 a1 (ar f342 0) (vw C E A F G H al K b c) .ret (Jy true):=
 h.aW [4] []
theorem aeG(h:ad [.i A a (bi d c e f g),.b (decide (c<=b)) false,.u a]):
 a1 (ar f342 0) (vw C E A F G H al K b a) .normal (vw C E A F G H al K b (a+1)):=
 h.aW [5,2,1] [2]
def RB:aH:=bj 22 [] []
theorem aeH(h:ad [.f A a false]):
 a1 (ar f342 0) (vw C E A F G H al K b a) (.exit 0) RB:=
 h.aW [] []
theorem aeI(h:ad [.l [] [5,2,1] [2] (ar f342 0) (vw A C E F G H al K a 0) .ret (Jy q)]):
 av 342 [.agg (ba A C E F G H al K),ae a] [ao q]:=
 h.of
theorem aeJ(h:ad [.l [] [5,2,1] [2] (ar f342 0) (vw A C E F G H al K a 0) (.exit 0) RB]):
 av 342 [.agg (ba A C E F G H al K),ae a] [ao false]:=
 h.of
theorem aeK(h:ad [.r 342 [.agg (ba A C E F G H al K),ae a] [ao q],.n q true,.r 343 [.agg (ba A C E F G H al K),ae a] [ae b]]):
 av 316 [.agg (ba A C E F G H al K),ae a] [ao (b==0)]:=
 h.of
theorem aeL(h:ad [.r 342 [.agg (ba A C E F G H al K),ae a] [ao q],.n q false]):
 av 316 [.agg (ba A C E F G H al K),ae a] [ao false]:=
 h.of
theorem aeM(h:ad [.r 116 [a7 5 E,ae a] [a7 5 C],.r 116 [a7 5 F,ae a] [a7 5 A],.v ((C.length:Int)+(A.length:Int))]):
 av 343 [.agg (ba E F G H al K L M),ae a] [ae ((C.length:Int)+(A.length:Int))]:=
 h.of
