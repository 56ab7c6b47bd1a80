import Derived.Test.YtdchjefneblpgaaGreatGE
set_option linter.unusedVariables false
set_option linter.unusedSimpArgs false
namespace Go.Proofs.YtdchjefneblpgaaGreat
open Go.Sx Go.RowKit Go.Proofs.Tryz
variable {a b c d e f g i j k l m n o p a0 cf : Int} {A C E F G H aw K L M N Q R S bO V X Y Z fu kt lj lR n1 n2 : ai} {q r s t u v w x y z ju jI jK t0 : Bool}
theorem adQ(h:ak [.g ([]:ai) A 40,.h A]):
 aK 279 [.agg (cI a A b c d e)] [.agg (cI a ([]++A) b c d e)]:=
 h.of
def Bz(a:Int)(A:ai)(b c d e:Int)(C:ai)(f g:Int):aE:=bi 33 [(1,aS 1),(2,aS 2),(3,aS 3),(4,aZ a)] [(3,[ay 7 4 A,aq b,aq c]),(2,[.v (aO),aq d,aq e]),(1,[.J .free 4 C,aq f,aq g])]
theorem adR(h:ak [.i E a (cz b c d A),.a .wr,.g ([]:ai) A 8,.h A,.g C [(cz b c d ([]++A))] 48,.u a]):
 bb (az f123 0) (Bz a C g i j k E e f) .normal (Bz (a+1) (C++[(cz b c d ([]++A))]) g i j k E e f):=
 h.a' [4,1,3,2] [3,2,1]
def SU(A:ai)(a b c d:Int):aE:=bi 33 [(2,aS 2),(3,aS 3)] [(3,[ay 7 4 A,aq a,aq b]),(2,[.v (aO),aq c,aq d])]
theorem adS(h:ak [.f C a false]):
 bb (az f123 0) (Bz a A b c d e C f g) (.exit 0) (SU A b c d e):=
 h.a' [3,2] [3,2]
theorem adT(h:ak [.l [] [4,1,3,2] [3,2,1] (az f123 0) (Bz 0 [] a b 0 0 A a b) (.exit 0) (SU C c d e f)]):
 aK 123 [.agg (bS A a b)] [.agg (bS C c d)]:=
 h.of
theorem adU(h:ak [.g ([]:ai) A 40,.h A,.g ([]:ai) C 40,.h C,.g ([]:ai) E 40,.h E,.g ([]:ai) F 32,.h F,.g ([]:ai) G 8,.h G,.g ([]:ai) H 1,.h H,.g ([]:ai) aw 1,.h aw,.g ([]:ai) K 16,.h K]):
 aK 174 [.agg (bz A C E F G H aw K)] [.agg (bz ([]++A) ([]++C) ([]++E) ([]++F) ([]++G) ([]++H) ([]++aw) ([]++K))]:=
 h.of
def BA(a:Int)(A:ai)(d e:Int)(H aw K:ai)(f g:Int)(L:ai)(b c:Int)(C E F G:ai):aE:=bi 55 [(1,aS 1),(2,aS 2),(3,aS 3),(4,aZ a)] [(3,[ay 90000 4 A,aq d,aq e,ay 34 8 H,.v (aO),ay 9 5 aw,ay 13 3 K]),(2,[.v (aO),aq f,aq g,.v (aO),.v (aO),.v (aO),.v (aO)]),(1,[.J .free 4 L,aq b,aq c,.J .free 8 C,.J .free 6 E,.J .free 5 F,.J .free 3 G])]
theorem adV(h:ak [.i C a (bz Y Z fu kt lj lR n1 n2),.r 174 [.agg (bz Y Z fu kt lj lR n1 n2)] [.agg (bz E F G H aw K L M)],.a .wr,.g A [(bz E F G H aw K L M)] 192,.u a]):
 bb (az f186 0) (BA a N b c A Q R d e S f g C bO V X) .normal (BA (a+1) N b c (A++[(bz E F G H aw K L M)]) Q R d e S f g C bO V X):=
 h.a' [4,1,3,2] [3,2,1]
def SV(A:ai)(a c:Int)(H aw K:ai)(d e:Int)(L:ai)(f b:Int)(C E F G:ai):aE:=bi 55 [(1,aS 1),(2,aS 2),(3,aS 3)] [(3,[ay 90000 4 A,aq a,aq c,ay 34 8 H,.v (aO),ay 9 5 aw,ay 13 3 K]),(2,[.v (aO),aq d,aq e,.v (aO),.v (aO),.v (aO),.v (aO)]),(1,[.J .free 4 L,aq f,aq b,.J .free 8 C,.J .free 6 E,.J .free 5 F,.J .free 3 G])]
theorem adW(h:ak [.f A a false]):
 bb (az f186 0) (BA a C b c E F G d e H f g A aw K L) (.exit 0) (SV C b c E F G d e H f g A aw K L):=
 h.a' [1,3,2] [3,2,1]
def BB(a:Int)(A:ai)(d e:Int)(aw K L M:ai)(f g:Int)(C:ai)(b c:Int)(E F G H:ai):aE:=bi 55 [(1,aS 1),(2,aS 2),(3,aS 3),(5,aZ a)] [(3,[ay 90000 4 A,aq d,aq e,ay 34 8 aw,ay 52 6 K,ay 9 5 L,ay 13 3 M]),(2,[.v (aO),aq f,aq g,.v (aO),.v (aO),.v (aO),.v (aO)]),(1,[.J .free 4 C,aq b,aq c,.J .free 8 E,.J .free 6 F,.J .free 5 G,.J .free 3 H])]
theorem adX(h:ak [.i C a (cI n Q o p a0 cf),.r 279 [.agg (cI n Q o p a0 cf)] [.agg (cI b E c d e f)],.a .wr,.g A [(cI b E c d e f)] 64,.u a]):
 bb (az f186 1) (BB a F g i G A H aw j k K l m L C M N) .normal (BB (a+1) F g i G (A++[(cI b E c d e f)]) H aw j k K l m L C M N):=
 h.a' [5,1,3,2] [3,2,1]
def SX(A:ai)(a b:Int)(C E F G:ai)(c d:Int):aE:=bi 55 [(2,aS 2),(3,aS 3)] [(3,[ay 90000 4 A,aq a,aq b,ay 34 8 C,ay 52 6 E,ay 9 5 F,ay 13 3 G]),(2,[.v (aO),aq c,aq d,.v (aO),.v (aO),.v (aO),.v (aO)])]
theorem adY(h:ak [.f H a false]):
 bb (az f186 1) (BB a A b c C E F G d e aw f g K H L M) (.exit 2) (SX A b c C E F G d e):=
 h.a' [3,2] [3,2]
theorem adZ(h:ak [.r 123 [.agg (bS E a b)] [.agg (bS fu l m)],.g ([]:ai) A 32,.h A,.g ([]:ai) C 24,.h C,.l [(4000003,34,8)] [4,1,3,2] [3,2,1] (az f186 0) (BA 0 fu l m [] ([]++A) ([]++C) 0 0 E a b V Z A C) (.exit 0) (SV F c d G H aw e f K g i L M N Q),.l [(4000004,52,6)] [5,1,3,2] [3,2,1] (az f186 1) (BB 0 F c d G [] H aw e f K g i L M N Q) (.exit 2) (SX R j k S bO X Y n o)]):
 aK 186 [.agg (cl E a b V Z A C)] [.agg (cl R j k S bO X Y)]:=
 h.of
theorem ad0(h:ak [.r 186 [.agg (cl A a b C E F G)] [.agg (cl M c d H aw K L)],.r 56 [.agg (cl A a b C E F G)] [aI q]]):
 bZ 127 [aJ.ro (.agg (cl A a b C E F G))] (aT.new [D.J 4 M,I c,I d,D.J 8 H,D.J 6 aw,D.J 5 K,D.J 3 L,B q]):=
 h.b0
def qk(a b:Int)(A:ai)(c d:Int)(C E F G:ai)(q:Bool):aE:=bi 93 [(0,aS 1000000000),(1,aZ a),(5,aZ b)] [(1000000000,[ay 900000000 4 A,aq c,aq d,ay 900000003 8 C,ay 900000004 6 E,ay 900000005 5 F,ay 900000006 3 G,.bg q])]
theorem ad1(h:ak [.f A a true,.b q true,.x A a [I e,I f,B r],.b (e != b) true,.u a]):
 bb (az f247 0) (qk b a C c d E F G A q) .normal (qk b (a+1) C c d E F G A q):=
 h.a' [5,0,1] [1000000000]
def D7(q:Bool)(A:ai)(a b:Int)(C E F G:ai)(r:Bool):aE:=bi 93 [(0,aS 1000000000),(4,.aD (.one (.bg q)))] [(1000000000,[ay 900000000 4 A,aq a,aq b,ay 900000003 8 C,ay 900000004 6 E,ay 900000005 5 F,ay 36 3 G,.bg r])]
def VJ(A:ai)(a:Int)(q:Bool)(b c:Int)(r:Bool)(d:Int)(C E F G H aw K L M:ai)(s:Bool)(l:List O):List O:=.f A a true::.b q true::.x A a [I b,I c,B r]::.b (b != d) false::.a .sub::.p ((0:Int)<=none.getD 0)::.p (none.getD 0<=(some a).getD (A.length:Int))::.p ((some a).getD (A.length:Int)<=(A.length:Int))::.p ((([]:ai).length+(List.take (((some a).getD (A.length:Int)).toNat-0) (List.drop 0 A)).length)*24<=140737488355328)::.p (([]:ai).length+(List.take (((some a).getD (A.length:Int)).toNat-0) (List.drop 0 A)).length<=9223372036854775807)::.p (Flat (List.take (((some a).getD (A.length:Int)).toNat-0) (List.drop 0 A)))::.u a::.p (0<=(some (a+1)).getD 0)::.p ((some (a+1)).getD 0<=none.getD (A.length:Int))::.p (none.getD (A.length:Int)<=(A.length:Int))::.p ((([]++List.take (((some a).getD (A.length:Int)).toNat-0) (List.drop 0 A)).length+(List.take (A.length-((some (a+1)).getD 0).toNat) (List.drop ((some (a+1)).getD 0).toNat A)).length)*24<=140737488355328)::.p (([]++List.take (((some a).getD (A.length:Int)).toNat-0) (List.drop 0 A)).length+(List.take (A.length-((some (a+1)).getD 0).toNat) (List.drop ((some (a+1)).getD 0).toNat A)).length<=9223372036854775807)::.p (Flat (List.take (A.length-((some (a+1)).getD 0).toNat) (List.drop ((some (a+1)).getD 0).toNat A)))::.x C d (bz E F G H aw K L M)::.r 213 [.agg (bz E F G H aw K L M),al c] [aI s]::l
theorem ad2(h:ak (VJ A a r f c q b C F G H aw K L M E s [.n s true,.a .sub,.x C b (bz F G H aw K L M E),.g E [[I c,B q]] 16,.e C b.toNat (bz F G H aw K L M E),.p ((bz F G H aw K L M E)[7]?=some (D.J 2 E)),.h [[I c,B q]],.p (C=C),.p (C=C),.p (b.toNat=b.toNat),.p (E=E),.p (C=C),.p (C=C),.p (C=C),.p (C=C),.p (C=C),.p (b.toNat=b.toNat),.p (E=E),.x C b (bz F G H aw K L M E),.p (b.toNat=b.toNat)])):
 bb (az f247 0) (qk b a N d e C Q R A r) .ret (D7 true N d e (C.set b.toNat (bz F G H aw K L M (E++[[I c,B q]]))) Q R ([]++List.take (((some a).getD (A.length:Int)).toNat-0) (List.drop 0 A)++List.take (A.length-((some (a+1)).getD 0).toNat) (List.drop ((some (a+1)).getD 0).toNat A)) r):=
 h.a' [4,0] [1000000000]
theorem ad3(h:ak (VJ A a q e f s b C H aw K L M N Q R r [.n r false])):
 bb (az f247 0) (qk b a E c d C F G A q) .ret (D7 true E c d C F G ([]++List.take (((some a).getD (A.length:Int)).toNat-0) (List.drop 0 A)++List.take (A.length-((some (a+1)).getD 0).toNat) (List.drop ((some (a+1)).getD 0).toNat A)) q):=
 h.a' [4,0] [1000000000]
def J3(A:ai)(a b:Int)(C E F G:ai)(q:Bool):aE:=bi 93 [(0,aS 1000000000)] [(1000000000,[ay 900000000 4 A,aq a,aq b,ay 900000003 8 C,ay 900000004 6 E,ay 900000005 5 F,ay 900000006 3 G,.bg q])]
theorem ad4(h:ak [.f A c true,.b q false]):
 bb (az f247 0) (qk d c C a b E F G A q) (.exit 0) (J3 C a b E F G A q):=
 h.a' [0] [1000000000]
theorem SY(h:ak [.f A c false]):
 bb (az f247 0) (qk d c C a b E F G A q) (.exit 0) (J3 C a b E F G A q):=
 h.a' [0] [1000000000]
theorem ad5(h:ak [.l [] [5,0,1] [1000000000] (az f247 0) (qk e 0 A a d aw K L M r) .ret (D7 s C b c E F G H q)]):
 bZ 247 [aJ.ref [D.J 4 A,I a,I d,D.J 8 aw,D.J 6 K,D.J 5 L,D.J 3 M,B r] [D.J 4 C,I b,I c,D.J 8 E,D.J 6 F,D.J 5 G,D.J 3 H,B q],aJ.ro (al e)] (aT.vals [aI s]):=
 h.b0
theorem J4(h:ak [.l [] [5,0,1] [1000000000] (az f247 0) (qk e 0 A a d H aw K L r) (.exit 0) (J3 M b c C E F G q)]):
 bZ 247 [aJ.ref [D.J 4 A,I a,I d,D.J 8 H,D.J 6 aw,D.J 5 K,D.J 3 L,B r] [D.J 4 M,I b,I c,D.J 8 C,D.J 6 E,D.J 5 F,D.J 3 G,B q],aJ.ro (al e)] (aT.vals [aI false]):=
 h.b0
def BC(a:Int)(q:Bool)(b:Int)(A:ai)(c d:Int)(C E F G:ai)(r:Bool):aE:=bi 52 [(0,aS 1000000000),(1,aZ a),(2,.aD (.one (.bg q))),(6,aZ b)] [(1000000000,[ay 900000000 4 A,aq c,aq d,ay 900000003 8 C,ay 900000004 6 E,ay 900000005 5 F,ay 900000006 3 G,.bg r])]
theorem ad6(h:ak [.f A a true,.g C [[I a,I b,B q]] 24,.h [[I a,I b,B q]],.u a]):
 bb (az f317 0) (BC b q a E c d A F G C r) .normal (BC b q (a+1) E c d A F G (C++[[I a,I b,B q]]) r):=
 h.a' [6,0,1,2] [1000000000]
def SZ(A:ai)(a b:Int)(C E F G:ai)(q:Bool):aE:=bi 52 [(0,aS 1000000000)] [(1000000000,[ay 900000000 4 A,aq a,aq b,ay 900000003 8 C,ay 900000004 6 E,ay 900000005 5 F,ay 900000006 3 G,.bg q])]
theorem ad7(h:ak [.f A a false]):
 bb (az f317 0) (BC d r a C b c A E F G q) (.exit 0) (SZ C b c A E F G q):=
 h.a' [0] [1000000000]
theorem ad8(h:ak [.a .sub,.p ((0:Int)<=0),.p (0<(A.length:Int)),.e A 0 (bz E F G H aw K L C),.g C [[I a,B q]] 16,.e A 0 (bz E F G H aw K L C),.p ((bz E F G H aw K L C)[7]?=some (D.J 2 C)),.h [[I a,B q]],.p (A=A),.p (A=A),.p (A=A),.p (A=A),.p (A=A),.p (0=0),.p (C=C),.p ((0:Int)<=0),.p (0<(A.length:Int)),.e A 0 (bz E F G H aw K L C),.p (0=0),.l [] [6,0,1,2] [1000000000] (az f317 0) (BC a q 1 M b d (A.set 0 (bz E F G H aw K L (C++[[I a,B q]]))) V X Y s) (.exit 0) (SZ N c e Q R S bO r)]):
 bZ 317 [aJ.ref [D.J 4 M,I b,I d,D.J 8 A,D.J 6 V,D.J 5 X,D.J 3 Y,B s] [D.J 4 N,I c,I e,D.J 8 Q,D.J 6 R,D.J 5 S,D.J 3 bO,B r],aJ.ro (al a),aJ.ro (aI q)] (aT.vals []):=
 h.b0
theorem ad9(h:ak [.n q true]):
 bZ 246 [aJ.ref [D.J 4 A,I a,I b,D.J 8 C,D.J 6 E,D.J 5 F,D.J 3 G,B q] [D.J 4 A,I a,I b,D.J 8 C,D.J 6 E,D.J 5 F,D.J 3 G,B q],aJ.ro (al c)] (aT.vals [aI false]):=
 h.b0
def VK(q:Bool)(a:Int)(r:Bool)(l:List O):List O:=.n q false::.r 168 [al a,al 0,al 3] [aI r]::l
theorem aea(h:ak (VK q c r [.n r true])):
 bZ 246 [aJ.ref [D.J 4 A,I a,I b,D.J 8 C,D.J 6 E,D.J 5 F,D.J 3 G,B q] [D.J 4 A,I a,I b,D.J 8 C,D.J 6 E,D.J 5 F,D.J 3 G,B q],aJ.ro (al c)] (aT.vals [aI false]):=
 h.b0
def VL(q:Bool)(a:Int)(r:Bool)(A:ai)(b c:Int)(C E F G:ai)(s:Bool)(l:List O):List O:=VK q a r (.n r false::.r 315 [.agg (cl A b c C E F G),al a] [aI s]::l)
theorem aeb(h:ak (VL q c s A a b C E F G r [.b r true])):
 bZ 246 [aJ.ref [D.J 4 A,I a,I b,D.J 8 C,D.J 6 E,D.J 5 F,D.J 3 G,B q] [D.J 4 A,I a,I b,D.J 8 C,D.J 6 E,D.J 5 F,D.J 3 G,B q],aJ.ro (al c)] (aT.vals [aI false]):=
 h.b0
def VM(q:Bool)(a:Int)(r:Bool)(A:ai)(b c:Int)(C E F G:ai)(s t:Bool)(d e:Int)(u v:Bool)(H aw K L M N P Q:ai)(w:Bool)(l:List O):List O:=VL q a r A b c C E F G s (.b s false::.x F a [B t,I d,I e,B u,B v]::.a .sub::.x C d (bz H aw K L M N P Q)::.r 316 [.agg (bz H aw K L M N P Q),al a] [aI w]::l)
theorem adC(h:ak (VM q a t E b c A F C G r u d e v w H aw K L M N Q R s [.n s true])):
 bZ 246 [aJ.ref [D.J 4 E,I b,I c,D.J 8 A,D.J 6 F,D.J 5 C,D.J 3 G,B q] [D.J 4 E,I b,I c,D.J 8 A,D.J 6 F,D.J 5 C,D.J 3 G,B q],aJ.ro (al a)] (aT.vals [aI false]):=
 h.b0
def Mr(q:Bool)(a:Int)(r:Bool)(A:ai)(b c:Int)(C E F G:ai)(s t:Bool)(d e:Int)(u v:Bool)(H aw K L M N P Q:ai)(w:Bool)(f:Int)(l:List O):List O:=VM q a r A b c C E F G s t d e u v H aw K L M N P Q w (.n w false::.x M a [I f]::.v (e+f)::l)
theorem adD(h:ak (Mr q a v F c d A S C bO r s b e w x V X Y Z G fu H kt t f [.n s true,.v ((A.length:Int)-1),.x H a [B u],.x C a [B y,I g,I i,B z,B ju],.a .sub,.p ((0:Int)<=0),.p (0<(A.length:Int)),.e A 0 (bz aw K L M N E Q R),.x E a [B jI],.e A 0 (bz aw K L M N E Q R),.p (b.toNat=0),.p (b.toNat=0),.p (0=0),.p (0=0),.p (b.toNat=0)])):
 bZ 246 [aJ.ref [D.J 4 F,I c,I d,D.J 8 A,D.J 6 S,D.J 5 C,D.J 3 bO,B q] [D.J 4 F,I c,I d,D.J 8 (A.set 0 (bz aw K L M N (E.set a.toNat [B false]) Q R)),D.J 6 S,D.J 5 (C.set a.toNat [B true,I ((A.length:Int)-1),I 0,B false,B u]),D.J 3 bO,B q],aJ.ro (al a)] (aT.vals [aI true]):=
 h.b0
def Ca(q:Bool)(a:Int)(r:Bool)(A:ai)(b c:Int)(C E F G:ai)(s t:Bool)(d e:Int)(u v:Bool)(H aw K L M N P Q:ai)(w:Bool)(f:Int)(x:Bool)(l:List O):List O:=Mr q a r A b c C E F G s t d e u v H aw K L M N P Q w f (.n t false::.b (decide (d>0)) true::.r 168 [al (e+f),al (-1000000),al 1000000] [aI x]::l)
theorem adE(h:ak (Ca q a v E b e A G C H r s c d w x aw K L M F N Q R t f u [.n u true])):
 bZ 246 [aJ.ref [D.J 4 E,I b,I e,D.J 8 A,D.J 6 G,D.J 5 C,D.J 3 H,B q] [D.J 4 E,I b,I e,D.J 8 A,D.J 6 G,D.J 5 C,D.J 3 H,B q],aJ.ro (al a)] (aT.vals [aI false]):=
 h.b0
theorem adF(h:ak (Ca q b x N e f E Q M R r s a c t u F G H aw A C K L v d w [.n w false,.v (a-1),.b t true,.b u true,.x M b [B y,I g,I i,B z,B ju],.a .sub,.x E a (bz F G H aw A C K L),.x C b [B jI],.e E a.toNat (bz F G H aw A C K L),.p (a.toNat=a.toNat),.p (a.toNat=a.toNat),.p (a.toNat=a.toNat),.p (a.toNat=a.toNat),.p (a.toNat=a.toNat)])):
 bZ 246 [aJ.ref [D.J 4 N,I e,I f,D.J 8 E,D.J 6 Q,D.J 5 M,D.J 3 R,B q] [D.J 4 N,I e,I f,D.J 8 (E.set a.toNat (bz F G H aw A (C.set b.toNat [B false]) K L)),D.J 6 Q,D.J 5 (M.set b.toNat [B true,I (a-1),I (c+d),B true,B true]),D.J 3 R,B q],aJ.ro (al b)] (aT.vals [aI true]):=
 h.b0
theorem adG(h:ak (Ca q b y N e f F Q M R r s a c t u G H aw K A C E L v d w [.n w false,.v (a-1),.b t true,.b u false,.x E b [B x],.x M b [B z,I g,I i,B ju,B jI],.a .sub,.x F a (bz G H aw K A C E L),.x C b [B jK],.e F a.toNat (bz G H aw K A C E L),.p (a.toNat=a.toNat),.p (a.toNat=a.toNat),.p (a.toNat=a.toNat),.p (a.toNat=a.toNat),.p (a.toNat=a.toNat)])):
 bZ 246 [aJ.ref [D.J 4 N,I e,I f,D.J 8 F,D.J 6 Q,D.J 5 M,D.J 3 R,B q] [D.J 4 N,I e,I f,D.J 8 (F.set a.toNat (bz G H aw K A (C.set b.toNat [B false]) E L)),D.J 6 Q,D.J 5 (M.set b.toNat [B true,I (a-1),I (c+d),B true,B x]),D.J 3 R,B q],aJ.ro (al b)] (aT.vals [aI true]):=
 h.b0
theorem adH(h:ak (Ca q b y N e f E Q M R r s a c t u F G H aw C A K L v d w [.n w false,.v (a-1),.b t false,.x A b [B x],.b u true,.x M b [B z,I g,I i,B ju,B jI],.a .sub,.x E a (bz F G H aw C A K L),.x A b [B jK],.e E a.toNat (bz F G H aw C A K L),.p (a.toNat=a.toNat),.p (a.toNat=a.toNat),.p (a.toNat=a.toNat),.p (a.toNat=a.toNat),.p (a.toNat=a.toNat),.p (a.toNat=a.toNat),.p (a.toNat=a.toNat)])):
 bZ 246 [aJ.ref [D.J 4 N,I e,I f,D.J 8 E,D.J 6 Q,D.J 5 M,D.J 3 R,B q] [D.J 4 N,I e,I f,D.J 8 (E.set a.toNat (bz F G H aw C (A.set b.toNat [B false]) K L)),D.J 6 Q,D.J 5 (M.set b.toNat [B true,I (a-1),I (c+d),B x,B true]),D.J 3 R,B q],aJ.ro (al b)] (aT.vals [aI true]):=
 h.b0
theorem adI(h:ak (Ca q b z N e f F Q M R r s a c t u G H aw K C A E L v d w [.n w false,.v (a-1),.b t false,.x A b [B x],.b u false,.x E b [B y],.x M b [B ju,I g,I i,B jI,B jK],.a .sub,.x F a (bz G H aw K C A E L),.x A b [B t0],.e F a.toNat (bz G H aw K C A E L),.p (a.toNat=a.toNat),.p (a.toNat=a.toNat),.p (a.toNat=a.toNat),.p (a.toNat=a.toNat),.p (a.toNat=a.toNat),.p (a.toNat=a.toNat),.p (a.toNat=a.toNat)])):
 bZ 246 [aJ.ref [D.J 4 N,I e,I f,D.J 8 F,D.J 6 Q,D.J 5 M,D.J 3 R,B q] [D.J 4 N,I e,I f,D.J 8 (F.set a.toNat (bz G H aw K C (A.set b.toNat [B false]) E L)),D.J 6 Q,D.J 5 (M.set b.toNat [B true,I (a-1),I (c+d),B x,B y]),D.J 3 R,B q],aJ.ro (al b)] (aT.vals [aI true]):=
 h.b0
def Cb(q:Bool)(a:Int)(r:Bool)(A:ai)(b c:Int)(C E F G:ai)(s t:Bool)(d e:Int)(u v:Bool)(H aw K L M N P Q:ai)(w:Bool)(f:Int)(x:Bool)(g i:Int)(y z:Bool)(l:List O):List O:=Mr q a r A b c C E F G s t d e u v H aw K L M N P Q w f (.n t false::.b (decide (d>0)) false::.x F a [B x,I g,I i,B y,B z]::l)
theorem adJ(h:ak (Cb t a y E d e C N A Q u v b c q r R S bO V F G X Y w f z j k ju jI [.n q true,.x G a [B x],.n x true,.b (c+f==0) true,.b r true,.a (.dq [some [D.J 4 H,I g,I i,D.J 8 aw,D.J 6 K,D.J 5 L,D.J 3 M,B s],none,none] (aT.vals [])),.p (bU prog 317 [aJ.ref [D.J 4 E,I d,I e,D.J 8 C,D.J 6 N,D.J 5 (A.set a.toNat [B false,I b,I c,B q,B r]),D.J 3 Q,B t] [D.J 4 H,I g,I i,D.J 8 aw,D.J 6 K,D.J 5 L,D.J 3 M,B s],aJ.ro (al a),aJ.ro (aI true)] (aT.vals []))])):
 bZ 246 [aJ.ref [D.J 4 E,I d,I e,D.J 8 C,D.J 6 N,D.J 5 A,D.J 3 Q,B t] [D.J 4 H,I g,I i,D.J 8 aw,D.J 6 K,D.J 5 L,D.J 3 M,B s],aJ.ro (al a)] (aT.vals [aI true]):=
 h.b0
theorem adK(h:ak (Cb t a z E d e C Q A R u v b c q r S bO V X F G H Y w f ju j k jI jK [.n q true,.x G a [B x],.n x true,.b (c+f==0) true,.b r false,.x H a [B y],.a (.dq [some [D.J 4 aw,I g,I i,D.J 8 K,D.J 6 L,D.J 5 M,D.J 3 N,B s],none,none] (aT.vals [])),.p (bU prog 317 [aJ.ref [D.J 4 E,I d,I e,D.J 8 C,D.J 6 Q,D.J 5 (A.set a.toNat [B false,I b,I c,B q,B r]),D.J 3 R,B t] [D.J 4 aw,I g,I i,D.J 8 K,D.J 6 L,D.J 5 M,D.J 3 N,B s],aJ.ro (al a),aJ.ro (aI y)] (aT.vals []))])):
 bZ 246 [aJ.ref [D.J 4 E,I d,I e,D.J 8 C,D.J 6 Q,D.J 5 A,D.J 3 R,B t] [D.J 4 aw,I g,I i,D.J 8 K,D.J 6 L,D.J 5 M,D.J 3 N,B s],aJ.ro (al a)] (aT.vals [aI true]):=
 h.b0
theorem adL(h:ak (Cb r a x E d e C H A aw s t b c q u K L M N F G Q R v f y g i z ju [.n q true,.x G a [B w],.n w true,.b (c+f==0) false])):
 bZ 246 [aJ.ref [D.J 4 E,I d,I e,D.J 8 C,D.J 6 H,D.J 5 A,D.J 3 aw,B r] [D.J 4 E,I d,I e,D.J 8 C,D.J 6 H,D.J 5 (A.set a.toNat [B false,I b,I c,B q,B u]),D.J 3 aw,B r],aJ.ro (al a)] (aT.vals [aI true]):=
 h.b0
theorem afc(h:ak (Cb r a x E c e C H A aw s t b d q u K L M N F G Q R v f y g i z ju [.n q true,.x G a [B w],.n w false])):
 bZ 246 [aJ.ref [D.J 4 E,I c,I e,D.J 8 C,D.J 6 H,D.J 5 A,D.J 3 aw,B r] [D.J 4 E,I c,I e,D.J 8 C,D.J 6 H,D.J 5 (A.set a.toNat [B false,I b,I d,B q,B u]),D.J 3 aw,B r],aJ.ro (al a)] (aT.vals [aI true]):=
 h.b0
theorem afd(h:ak (Cb r a w E c e C G A H s t b d q u aw K L M F N Q R v f x g i y z [.n q false])):
 bZ 246 [aJ.ref [D.J 4 E,I c,I e,D.J 8 C,D.J 6 G,D.J 5 A,D.J 3 H,B r] [D.J 4 E,I c,I e,D.J 8 C,D.J 6 G,D.J 5 (A.set a.toNat [B false,I b,I d,B q,B u]),D.J 3 H,B r],aJ.ro (al a)] (aT.vals [aI true]):=
 h.b0
theorem afe(h:ak [.b (decide ((A.length:Int)>0)) true,.p ((0:Int)<=0),.p (0<(A.length:Int)),.e A 0 (bz K L C E F G H aw),.r 213 [.agg (bz K L C E F G H aw),al a] [aI q]]):
 aK 315 [.agg (cl M b c A N Q R),al a] [aI q]:=
 h.of
def wX(A C E F G H aw K:ai)(a b:Int):aE:=bi 22 [(1,aZ a),(2,aS 2),(5,aZ b)] [(2,[.J .free 5 A,.J .free 5 C,.J .free 5 E,.J .free 4 F,.J .free 1 G,.J .free 1 H,.J .free 1 aw,.J .free 2 K])]
def Lt(q:Bool):aE:=bi 22 [(4,.aD (.one (.bg q)))] []
theorem aff(h:ak [.i A c (bu d a e f g),.b (decide (a<=b)) true]):
 bb (az f342 0) (wX C E A F G H aw K b c) .ret (Lt true):=
 h.a' [4] []
theorem afg(h:ak [.i A a (bu d c e f g),.b (decide (c<=b)) false,.u a]):
 bb (az f342 0) (wX C E A F G H aw K b a) .normal (wX C E A F G H aw K b (a+1)):=
 h.a' [5,2,1] [2]
def S0:aE:=bi 22 [] []
theorem afh(h:ak [.f A a false]):
 bb (az f342 0) (wX C E A F G H aw K b a) (.exit 0) S0:=
 h.a' [] []
theorem afi(h:ak [.l [] [5,2,1] [2] (az f342 0) (wX A C E F G H aw K a 0) .ret (Lt q)]):
 aK 342 [.agg (bz A C E F G H aw K),al a] [aI q]:=
 h.of
theorem afj(h:ak [.l [] [5,2,1] [2] (az f342 0) (wX A C E F G H aw K a 0) (.exit 0) S0]):
 aK 342 [.agg (bz A C E F G H aw K),al a] [aI false]:=
 h.of
theorem afk(h:ak [.r 342 [.agg (bz A C E F G H aw K),al a] [aI q],.n q true,.r 343 [.agg (bz A C E F G H aw K),al a] [al b]]):
 aK 316 [.agg (bz A C E F G H aw K),al a] [aI (b==0)]:=
 h.of
theorem afl(h:ak [.r 342 [.agg (bz A C E F G H aw K),al a] [aI q],.n q false]):
 aK 316 [.agg (bz A C E F G H aw K),al a] [aI false]:=
 h.of
theorem afm(h:ak [.r 116 [a7 5 E,al a] [a7 5 C],.r 116 [a7 5 F,al a] [a7 5 A],.v ((C.length:Int)+(A.length:Int))]):
 aK 343 [.agg (bz E F G H aw K L M),al a] [al ((C.length:Int)+(A.length:Int))]:=
 h.of
