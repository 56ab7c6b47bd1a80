import Derived.Test.YtdchjefneblpgaaGreatGE
set_option linter.unusedVariables false
set_option linter.unusedSimpArgs false
namespace Go.Proofs.YtdchjefneblpgaaGreat
open Go.Sx Go.RowKit Go.Proofs.Tryz
variable {a b c d e f g i j k l m n o p a0 eZ ck eU dT d0 cc f0 i0 j0 dw fS m0 wP y4 iz : Int} {A C E F G H au K L M N Q R S bi V X Y Z dz ft gf gg gh gi e8 lu mb nn np nq : ak} {q r s t u v w x y z gH q1 jK EG il cw dt eE hf s1 s2 GN t0 t1 t2 t3 fv gw jU v0 v1 v2 w0 w1 kD cm hG gd mA k5 iE z0 rL z2 : Bool}
theorem agl(h:ah [.g ([]:ak) A 8,.h A]):
 aw 276 [.agg (bF a b c A)] [.agg (bF a b c ([]++A))]:=
 h.of
def CB(A:ak)(a:Int)(C:ak)(b c d e:Int):aG:=bp 27 [(2,bE 2),(3,bE 3),(12,eP 4 A),(13,bf (A.length:Int)),(14,bf a)] [(3,[aV 23 4 C,aM b,aM c]),(2,[.v (a8),aM d,aM e])]
theorem agm(h:ah [.i A a (bF l e f F),.r 276 [.agg (bF l e f F)] [.agg (bF b c d C)],.a .wr,.g E [(bF b c d C)] 48,.u a]):
 aY (av f181 0) (CB A a E g i j k) .normal (CB A (a+1) (E++[(bF b c d C)]) g i j k):=
 h.aR [14,13,12,3,2] [3,2]
def T9(A:ak)(a b c d:Int):aG:=bp 27 [(2,bE 2),(3,bE 3)] [(3,[aV 23 4 A,aM a,aM b]),(2,[.v (a8),aM c,aM d])]
theorem agn(h:ah [.f A a false]):
 aY (av f181 0) (CB A a C b c d e) (.exit 0) (T9 C b c d e):=
 h.aR [3,2] [3,2]
theorem ago(h:ah [.l [(4000000,23,4)] [14,13,12,3,2] [3,2] (av f181 0) (CB A 0 [] a b 0 0) (.exit 0) (T9 C c d e f)]):
 aw 181 [.agg (bP A a b)] [.agg (bP C c d)]:=
 h.of
theorem agp(h:ah [.r 233 [aS 5 A] [aS 5 C]]):
 aw 256 [.agg (b7 a A b c d e)] [.agg (b7 a C b c d e)]:=
 h.of
theorem agq(h:ah [.r 233 [aS 5 G] [aS 5 N],.r 233 [aS 5 H] [aS 5 Q],.r 233 [aS 5 L] [aS 5 au],.r 297 [aS 4 M] [aS 4 K],.g ([]:ak) A 8,.h A,.g ([]:ak) C 1,.h C,.g ([]:ak) E 1,.h E,.g ([]:ak) F 16,.h F]):
 aw 255 [.agg (a' G H L M A C E F)] [.agg (a' N Q au K ([]++A) ([]++C) ([]++E) ([]++F))]:=
 h.of
def CC(A:ak)(a:Int)(au:ak)(d e:Int)(K L M:ak)(f g:Int)(C:ak)(b c:Int)(E F G H:ak):aG:=bp 49 [(1,bE 1),(2,bE 2),(3,bE 3),(19,eP 8 A),(20,bf (A.length:Int)),(21,bf a)] [(3,[aV 110000 4 au,aM d,aM e,aV 30 8 K,.v (a8),aV 13 5 L,aV 16 3 M]),(2,[.v (a8),aM f,aM g,.v (a8),.v (a8),.v (a8),.v (a8)]),(1,[.J .free 4 C,aM b,aM c,.J .free 8 E,.J .free 6 F,.J .free 5 G,.J .free 3 H])]
theorem agr(h:ah [.i C a (a' Z dz ft gf gg gh gi e8),.r 255 [.agg (a' Z dz ft gf gg gh gi e8)] [.agg (a' E F G H au K L M)],.a .wr,.g A [(a' E F G H au K L M)] 192,.u a]):
 aY (av f144 0) (CC C a N b c A Q R d e S f g bi V X Y) .normal (CC C (a+1) N b c (A++[(a' E F G H au K L M)]) Q R d e S f g bi V X Y):=
 h.aR [21,20,19,3,1,2] [3,2,1]
def T'(A:ak)(a c:Int)(H au K:ak)(d e:Int)(L:ak)(f b:Int)(C E F G:ak):aG:=bp 49 [(1,bE 1),(2,bE 2),(3,bE 3)] [(3,[aV 110000 4 A,aM a,aM c,aV 30 8 H,.v (a8),aV 13 5 au,aV 16 3 K]),(2,[.v (a8),aM d,aM e,.v (a8),.v (a8),.v (a8),.v (a8)]),(1,[.J .free 4 L,aM f,aM b,.J .free 8 C,.J .free 6 E,.J .free 5 F,.J .free 3 G])]
theorem ags(h:ah [.f M a false]):
 aY (av f144 0) (CC M a A b c C E F d e G f g H au K L) (.exit 0) (T' A b c C E F d e G f g H au K L):=
 h.aR [1,3,2] [3,2,1]
def CD(A:ak)(a:Int)(C:ak)(c d:Int)(E F G H:ak)(e b:Int):aG:=bp 49 [(2,bE 2),(3,bE 3),(34,eP 6 A),(35,bf (A.length:Int)),(36,bf a)] [(3,[aV 110000 4 C,aM c,aM d,aV 30 8 E,aV 45 6 F,aV 13 5 G,aV 16 3 H]),(2,[.v (a8),aM e,aM b,.v (a8),.v (a8),.v (a8),.v (a8)])]
theorem ahT(h:ah [.i A a (b7 l K m n o p),.r 256 [.agg (b7 l K m n o p)] [.agg (b7 b E c d e f)],.a .wr,.g C [(b7 b E c d e f)] 64,.u a]):
 aY (av f144 1) (CD A a F g i G C H au j k) .normal (CD A (a+1) F g i G (C++[(b7 b E c d e f)]) H au j k):=
 h.aR [36,35,34,3,2] [3,2]
def Ua(A:ak)(a b:Int)(C E F G:ak)(c d:Int):aG:=bp 49 [(2,bE 2),(3,bE 3)] [(3,[aV 110000 4 A,aM a,aM b,aV 30 8 C,aV 45 6 E,aV 13 5 F,aV 16 3 G]),(2,[.v (a8),aM c,aM d,.v (a8),.v (a8),.v (a8),.v (a8)])]
theorem ahU(h:ah [.f A a false]):
 aY (av f144 1) (CD A a C b c E F G H d e) (.exit 2) (Ua C b c E F G H d e):=
 h.aR [3,2] [3,2]
theorem ahV(h:ah [.r 181 [.agg (bP E a b)] [.agg (bP V j k)],.g ([]:ak) A 32,.h A,.g ([]:ak) C 24,.h C,.l [(4000003,30,8)] [21,20,19,3,1,2] [3,2,1] (av f144 0) (CC F 0 V j k [] ([]++A) ([]++C) 0 0 E a b F bi A C) (.exit 0) (T' G c d H au K e f X l m Y L Z dz),.l [(4000004,45,6)] [36,35,34,3,2] [3,2] (av f144 1) (CD L 0 G c d H [] au K e f) (.exit 2) (Ua M g i N Q R S n o)]):
 aw 144 [.agg (cl E a b F bi A C)] [.agg (cl M g i N Q R S)]:=
 h.of
theorem ahW(h:ah [.g ([]:ak) A 40,.h A]):
 aw 279 [.agg (b7 a A b c d e)] [.agg (b7 a ([]++A) b c d e)]:=
 h.of
def CE(a:Int)(A:ak)(b c d e:Int)(C:ak)(f g:Int):aG:=bp 33 [(1,bE 1),(2,bE 2),(3,bE 3),(4,bf a)] [(3,[aV 7 4 A,aM b,aM c]),(2,[.v (a8),aM d,aM e]),(1,[.J .free 4 C,aM f,aM g])]
theorem ahX(h:ah [.i E a (bF b c d A),.a .wr,.g ([]:ak) A 8,.h A,.g C [(bF b c d ([]++A))] 48,.u a]):
 aY (av f123 0) (CE a C g i j k E e f) .normal (CE (a+1) (C++[(bF b c d ([]++A))]) g i j k E e f):=
 h.aR [4,1,3,2] [3,2,1]
def Ub(A:ak)(a b c d:Int):aG:=bp 33 [(2,bE 2),(3,bE 3)] [(3,[aV 7 4 A,aM a,aM b]),(2,[.v (a8),aM c,aM d])]
theorem ahY(h:ah [.f C a false]):
 aY (av f123 0) (CE a A b c d e C f g) (.exit 0) (Ub A b c d e):=
 h.aR [3,2] [3,2]
theorem ahZ(h:ah [.l [] [4,1,3,2] [3,2,1] (av f123 0) (CE 0 [] a b 0 0 A a b) (.exit 0) (Ub C c d e f)]):
 aw 123 [.agg (bP A a b)] [.agg (bP C c d)]:=
 h.of
theorem ah0(h:ah [.g ([]:ak) A 40,.h A,.g ([]:ak) C 40,.h C,.g ([]:ak) E 40,.h E,.g ([]:ak) F 32,.h F,.g ([]:ak) G 8,.h G,.g ([]:ak) H 1,.h H,.g ([]:ak) au 1,.h au,.g ([]:ak) K 16,.h K]):
 aw 174 [.agg (a' A C E F G H au K)] [.agg (a' ([]++A) ([]++C) ([]++E) ([]++F) ([]++G) ([]++H) ([]++au) ([]++K))]:=
 h.of
def CF(a:Int)(A:ak)(d e:Int)(H au K:ak)(f g:Int)(L:ak)(b c:Int)(C E F G:ak):aG:=bp 55 [(1,bE 1),(2,bE 2),(3,bE 3),(4,bf a)] [(3,[aV 90000 4 A,aM d,aM e,aV 34 8 H,.v (a8),aV 9 5 au,aV 13 3 K]),(2,[.v (a8),aM f,aM g,.v (a8),.v (a8),.v (a8),.v (a8)]),(1,[.J .free 4 L,aM b,aM c,.J .free 8 C,.J .free 6 E,.J .free 5 F,.J .free 3 G])]
theorem ah1(h:ah [.i C a (a' Y Z dz ft gf gg gh gi),.r 174 [.agg (a' Y Z dz ft gf gg gh gi)] [.agg (a' E F G H au K L M)],.a .wr,.g A [(a' E F G H au K L M)] 192,.u a]):
 aY (av f186 0) (CF a N b c A Q R d e S f g C bi V X) .normal (CF (a+1) N b c (A++[(a' E F G H au K L M)]) Q R d e S f g C bi V X):=
 h.aR [4,1,3,2] [3,2,1]
def Uc(A:ak)(a c:Int)(H au K:ak)(d e:Int)(L:ak)(f b:Int)(C E F G:ak):aG:=bp 55 [(1,bE 1),(2,bE 2),(3,bE 3)] [(3,[aV 90000 4 A,aM a,aM c,aV 34 8 H,.v (a8),aV 9 5 au,aV 13 3 K]),(2,[.v (a8),aM d,aM e,.v (a8),.v (a8),.v (a8),.v (a8)]),(1,[.J .free 4 L,aM f,aM b,.J .free 8 C,.J .free 6 E,.J .free 5 F,.J .free 3 G])]
theorem ah2(h:ah [.f A a false]):
 aY (av f186 0) (CF a C b c E F G d e H f g A au K L) (.exit 0) (Uc C b c E F G d e H f g A au K L):=
 h.aR [1,3,2] [3,2,1]
def CG(a:Int)(A:ak)(d e:Int)(au K L M:ak)(f g:Int)(C:ak)(b c:Int)(E F G H:ak):aG:=bp 55 [(1,bE 1),(2,bE 2),(3,bE 3),(5,bf a)] [(3,[aV 90000 4 A,aM d,aM e,aV 34 8 au,aV 52 6 K,aV 9 5 L,aV 13 3 M]),(2,[.v (a8),aM f,aM g,.v (a8),.v (a8),.v (a8),.v (a8)]),(1,[.J .free 4 C,aM b,aM c,.J .free 8 E,.J .free 6 F,.J .free 5 G,.J .free 3 H])]
theorem ah3(h:ah [.i C a (b7 n Q o p a0 ck),.r 279 [.agg (b7 n Q o p a0 ck)] [.agg (b7 b E c d e f)],.a .wr,.g A [(b7 b E c d e f)] 64,.u a]):
 aY (av f186 1) (CG a F g i G A H au j k K l m L C M N) .normal (CG (a+1) F g i G (A++[(b7 b E c d e f)]) H au j k K l m L C M N):=
 h.aR [5,1,3,2] [3,2,1]
def Ud(A:ak)(a b:Int)(C E F G:ak)(c d:Int):aG:=bp 55 [(2,bE 2),(3,bE 3)] [(3,[aV 90000 4 A,aM a,aM b,aV 34 8 C,aV 52 6 E,aV 9 5 F,aV 13 3 G]),(2,[.v (a8),aM c,aM d,.v (a8),.v (a8),.v (a8),.v (a8)])]
theorem ah4(h:ah [.f H a false]):
 aY (av f186 1) (CG a A b c C E F G d e au f g K H L M) (.exit 2) (Ud A b c C E F G d e):=
 h.aR [3,2] [3,2]
theorem ah5(h:ah [.r 123 [.agg (bP E a b)] [.agg (bP dz l m)],.g ([]:ak) A 32,.h A,.g ([]:ak) C 24,.h C,.l [(4000003,34,8)] [4,1,3,2] [3,2,1] (av f186 0) (CF 0 dz l m [] ([]++A) ([]++C) 0 0 E a b V Z A C) (.exit 0) (Uc F c d G H au e f K g i L M N Q),.l [(4000004,52,6)] [5,1,3,2] [3,2,1] (av f186 1) (CG 0 F c d G [] H au e f K g i L M N Q) (.exit 2) (Ud R j k S bi X Y n o)]):
 aw 186 [.agg (cl E a b V Z A C)] [.agg (cl R j k S bi X Y)]:=
 h.of
theorem ah6(h:ah [.r 186 [.agg (cl A a b C E F G)] [.agg (cl M c d H au K L)],.r 56 [.agg (cl A a b C E F G)] [al q]]):
 dd 127 [bc.ro (.agg (cl A a b C E F G))] (bG.new [D.J 4 M,I c,I d,D.J 8 H,D.J 6 au,D.J 5 K,D.J 3 L,B q]):=
 h.dg
def rC(a b:Int)(A:ak)(c d:Int)(C E F G:ak)(q:Bool):aG:=bp 93 [(0,bE 1000000000),(1,bf a),(5,bf b)] [(1000000000,[aV 900000000 4 A,aM c,aM d,aV 900000003 8 C,aV 900000004 6 E,aV 900000005 5 F,aV 900000006 3 G,.cg q])]
theorem ah7(h:ah [.f A a true,.b q true,.x A a [I e,I f,B r],.b (e != b) true,.u a]):
 aY (av f247 0) (rC b a C c d E F G A q) .normal (rC b (a+1) C c d E F G A q):=
 h.aR [5,0,1] [1000000000]
def Gn(q:Bool)(A:ak)(a b:Int)(C E F G:ak)(r:Bool):aG:=bp 93 [(0,bE 1000000000),(4,.bd (.one (.cg q)))] [(1000000000,[aV 900000000 4 A,aM a,aM b,aV 900000003 8 C,aV 900000004 6 E,aV 900000005 5 F,aV 36 3 G,.cg r])]
def Xx(A:ak)(a:Int)(q:Bool)(b c:Int)(r:Bool)(d:Int)(C E F G H au K L M:ak)(s:Bool)(l:List O):List O:=.f A a true::.b q true::.x A a [I b,I c,B r]::.b (b != d) false::.a .sub::.p ((0:Int)<=none.getD 0)::.p (none.getD 0<=(some a).getD (A.length:Int))::.p ((some a).getD (A.length:Int)<=(A.length:Int))::.p ((([]:ak).length+(List.take (((some a).getD (A.length:Int)).toNat-0) (List.drop 0 A)).length)*24<=140737488355328)::.p (([]:ak).length+(List.take (((some a).getD (A.length:Int)).toNat-0) (List.drop 0 A)).length<=9223372036854775807)::.p (Flat (List.take (((some a).getD (A.length:Int)).toNat-0) (List.drop 0 A)))::.u a::.p (0<=(some (a+1)).getD 0)::.p ((some (a+1)).getD 0<=none.getD (A.length:Int))::.p (none.getD (A.length:Int)<=(A.length:Int))::.p ((([]++List.take (((some a).getD (A.length:Int)).toNat-0) (List.drop 0 A)).length+(List.take (A.length-((some (a+1)).getD 0).toNat) (List.drop ((some (a+1)).getD 0).toNat A)).length)*24<=140737488355328)::.p (([]++List.take (((some a).getD (A.length:Int)).toNat-0) (List.drop 0 A)).length+(List.take (A.length-((some (a+1)).getD 0).toNat) (List.drop ((some (a+1)).getD 0).toNat A)).length<=9223372036854775807)::.p (Flat (List.take (A.length-((some (a+1)).getD 0).toNat) (List.drop ((some (a+1)).getD 0).toNat A)))::.x C d (a' E F G H au K L M)::.r 213 [.agg (a' E F G H au K L M),ag c] [al s]::l
theorem ah8(h:ah (Xx A a r f c q b C F G H au K L M E s [.n s true,.a .sub,.x C b (a' F G H au K L M E),.g E [[I c,B q]] 16,.e C b.toNat (a' F G H au K L M E),.p ((a' F G H au K L M E)[7]?=some (D.J 2 E)),.h [[I c,B q]],.p (C=C),.p (C=C),.p (b.toNat=b.toNat),.p (E=E),.p (C=C),.p (C=C),.p (C=C),.p (C=C),.p (C=C),.p (b.toNat=b.toNat),.p (E=E),.x C b (a' F G H au K L M E),.p (b.toNat=b.toNat)])):
 aY (av f247 0) (rC b a N d e C Q R A r) .ret (Gn true N d e (C.set b.toNat (a' F G H au K L M (E++[[I c,B q]]))) Q R ([]++List.take (((some a).getD (A.length:Int)).toNat-0) (List.drop 0 A)++List.take (A.length-((some (a+1)).getD 0).toNat) (List.drop ((some (a+1)).getD 0).toNat A)) r):=
 h.aR [4,0] [1000000000]
theorem ah9(h:ah (Xx A a q e f s b C H au K L M N Q R r [.n r false])):
 aY (av f247 0) (rC b a E c d C F G A q) .ret (Gn true E c d C F G ([]++List.take (((some a).getD (A.length:Int)).toNat-0) (List.drop 0 A)++List.take (A.length-((some (a+1)).getD 0).toNat) (List.drop ((some (a+1)).getD 0).toNat A)) q):=
 h.aR [4,0] [1000000000]
def LD(A:ak)(a b:Int)(C E F G:ak)(q:Bool):aG:=bp 93 [(0,bE 1000000000)] [(1000000000,[aV 900000000 4 A,aM a,aM b,aV 900000003 8 C,aV 900000004 6 E,aV 900000005 5 F,aV 900000006 3 G,.cg q])]
theorem aia(h:ah [.f A c true,.b q false]):
 aY (av f247 0) (rC d c C a b E F G A q) (.exit 0) (LD C a b E F G A q):=
 h.aR [0] [1000000000]
theorem Ue(h:ah [.f A c false]):
 aY (av f247 0) (rC d c C a b E F G A q) (.exit 0) (LD C a b E F G A q):=
 h.aR [0] [1000000000]
theorem aib(h:ah [.l [] [5,0,1] [1000000000] (av f247 0) (rC e 0 A a d au K L M r) .ret (Gn s C b c E F G H q)]):
 dd 247 [bc.ref [D.J 4 A,I a,I d,D.J 8 au,D.J 6 K,D.J 5 L,D.J 3 M,B r] [D.J 4 C,I b,I c,D.J 8 E,D.J 6 F,D.J 5 G,D.J 3 H,B q],bc.ro (ag e)] (bG.vals [al s]):=
 h.dg
theorem LF(h:ah [.l [] [5,0,1] [1000000000] (av f247 0) (rC e 0 A a d H au K L r) (.exit 0) (LD M b c C E F G q)]):
 dd 247 [bc.ref [D.J 4 A,I a,I d,D.J 8 H,D.J 6 au,D.J 5 K,D.J 3 L,B r] [D.J 4 M,I b,I c,D.J 8 C,D.J 6 E,D.J 5 F,D.J 3 G,B q],bc.ro (ag e)] (bG.vals [al false]):=
 h.dg
theorem aic(h:ah []):
 aw 295 [.agg [I a,I c,B q],.one (.ptr [I b])] [al (a==b)]:=
 h.of
def Ho(A:ak)(a b:Int)(C E F G H:ak)(c d:Int)(au K L M:ak)(l:List O):List O:=.r 144 [.agg (cl A a b C E F G)] [.agg (cl H c d au K L M)]::l
def Oh(A:ak)(a b:Int)(C E F G H:ak)(c d:Int)(au K L M:ak)(e f:Int)(l:List O):List O:=Ho A a b C E F G H c d au K L M (.r 290 [aS 3 G,.one (.cl 295 [D.ptr [I e]])] [ag f]::l)
theorem aid(h:ah (Oh C a d au K L A M f b E F G H e c [.b (decide (c<0)) true])):
 aw 224 [.agg (cl C a d au K L A),ag e] [.agg (cl M f b E F G H),al false]:=
 h.of
theorem aie(h:ah (Oh C a b E F G A M f c H au K L e d [.b (decide (d<0)) false,.r 55 [.agg (cl C a b E F G A)] [al q],.n q true])):
 aw 224 [.agg (cl C a b E F G A),ag e] [.agg (cl M f c H au K L),al false]:=
 h.of
def XH(A:ak)(a b:Int)(C E F G H:ak)(c d:Int)(au K L M:ak)(e f:Int)(q:Bool)(g i:Int)(r:Bool)(N P Q R S bi V X Y:ak)(s:Bool)(l:List O):List O:=Oh A a b C E F G H c d au K L M e f (.b (decide (f<0)) false::.r 55 [.agg (cl A a b C E F G)] [al q]::.n q false::.x G f [I g,I i,B r]::.a (.rG [[some none],[none],[none]] 0 [] [aS 3 N])::.u f::.p (k' prog 296 [GA.one (eT.fh 3 M none),GA.one (eT.ro (I f)),GA.one (eT.ro (I (f+1)))] [aS 3 N])::.x C e (a' P Q R S bi V X Y)::.r 210 [.agg (a' P Q R S bi V X Y),ag i] [al s]::l)
theorem aif(h:ah (XH Q d e N S bi M lu g f A V X Y a b r i c q R Z dz ft gf gg gh gi e8 s [.n s true,.a .sub,.x A a (a' E F G H au K L C),.g C [[I c,B q]] 16,.e A a.toNat (a' E F G H au K L C),.p ((a' E F G H au K L C)[7]?=some (D.J 2 C)),.h [[I c,B q]],.p (A=A),.p (A=A),.p (A=A),.p (A=A),.p (A=A),.p (A=A),.p (a.toNat=a.toNat),.p (C=C),.x A a (a' E F G H au K L C),.p (a.toNat=a.toNat)])):
 aw 224 [.agg (cl Q d e N S bi M),ag a] [.agg (cl lu g f (A.set a.toNat (a' E F G H au K L (C++[[I c,B q]]))) V X R),al true]:=
 h.of
theorem aih(h:ah (XH E b c C G H A Z g e au K L M d a q i f s F N Q R S bi V X Y r [.n r false])):
 aw 224 [.agg (cl E b c C G H A),ag d] [.agg (cl Z g e au K L F),al true]:=
 h.of
def CH(a:Int)(q:Bool)(b:Int)(A:ak)(c d:Int)(C E F G:ak)(r:Bool):aG:=bp 52 [(0,bE 1000000000),(1,bf a),(2,.bd (.one (.cg q))),(6,bf b)] [(1000000000,[aV 900000000 4 A,aM c,aM d,aV 900000003 8 C,aV 900000004 6 E,aV 900000005 5 F,aV 900000006 3 G,.cg r])]
theorem aii(h:ah [.f A a true,.g C [[I a,I b,B q]] 24,.h [[I a,I b,B q]],.u a]):
 aY (av f317 0) (CH b q a E c d A F G C r) .normal (CH b q (a+1) E c d A F G (C++[[I a,I b,B q]]) r):=
 h.aR [6,0,1,2] [1000000000]
def Uf(A:ak)(a b:Int)(C E F G:ak)(q:Bool):aG:=bp 52 [(0,bE 1000000000)] [(1000000000,[aV 900000000 4 A,aM a,aM b,aV 900000003 8 C,aV 900000004 6 E,aV 900000005 5 F,aV 900000006 3 G,.cg q])]
theorem aij(h:ah [.f A a false]):
 aY (av f317 0) (CH d r a C b c A E F G q) (.exit 0) (Uf C b c A E F G q):=
 h.aR [0] [1000000000]
theorem aht(h:ah [.a .sub,.p ((0:Int)<=0),.p (0<(A.length:Int)),.e A 0 (a' E F G H au K L C),.g C [[I a,B q]] 16,.e A 0 (a' E F G H au K L C),.p ((a' E F G H au K L C)[7]?=some (D.J 2 C)),.h [[I a,B q]],.p (A=A),.p (A=A),.p (A=A),.p (A=A),.p (A=A),.p (0=0),.p (C=C),.p ((0:Int)<=0),.p (0<(A.length:Int)),.e A 0 (a' E F G H au K L C),.p (0=0),.l [] [6,0,1,2] [1000000000] (av f317 0) (CH a q 1 M b d (A.set 0 (a' E F G H au K L (C++[[I a,B q]]))) V X Y s) (.exit 0) (Uf N c e Q R S bi r)]):
 dd 317 [bc.ref [D.J 4 M,I b,I d,D.J 8 A,D.J 6 V,D.J 5 X,D.J 3 Y,B s] [D.J 4 N,I c,I e,D.J 8 Q,D.J 6 R,D.J 5 S,D.J 3 bi,B r],bc.ro (ag a),bc.ro (al q)] (bG.vals []):=
 h.dg
theorem ahu(h:ah [.n q true]):
 dd 246 [bc.ref [D.J 4 A,I a,I b,D.J 8 C,D.J 6 E,D.J 5 F,D.J 3 G,B q] [D.J 4 A,I a,I b,D.J 8 C,D.J 6 E,D.J 5 F,D.J 3 G,B q],bc.ro (ag c)] (bG.vals [al false]):=
 h.dg
def XR(q:Bool)(a:Int)(r:Bool)(l:List O):List O:=.n q false::.r 168 [ag a,ag 0,ag 3] [al r]::l
theorem ahv(h:ah (XR q c r [.n r true])):
 dd 246 [bc.ref [D.J 4 A,I a,I b,D.J 8 C,D.J 6 E,D.J 5 F,D.J 3 G,B q] [D.J 4 A,I a,I b,D.J 8 C,D.J 6 E,D.J 5 F,D.J 3 G,B q],bc.ro (ag c)] (bG.vals [al false]):=
 h.dg
def XS(q:Bool)(a:Int)(r:Bool)(A:ak)(b c:Int)(C E F G:ak)(s:Bool)(l:List O):List O:=XR q a r (.n r false::.r 315 [.agg (cl A b c C E F G),ag a] [al s]::l)
theorem ahw(h:ah (XS q c s A a b C E F G r [.b r true])):
 dd 246 [bc.ref [D.J 4 A,I a,I b,D.J 8 C,D.J 6 E,D.J 5 F,D.J 3 G,B q] [D.J 4 A,I a,I b,D.J 8 C,D.J 6 E,D.J 5 F,D.J 3 G,B q],bc.ro (ag c)] (bG.vals [al false]):=
 h.dg
def XT(q:Bool)(a:Int)(r:Bool)(A:ak)(b c:Int)(C E F G:ak)(s t:Bool)(d e:Int)(u v:Bool)(H au K L M N P Q:ak)(w:Bool)(l:List O):List O:=XS q a r A b c C E F G s (.b s false::.x F a [B t,I d,I e,B u,B v]::.a .sub::.x C d (a' H au K L M N P Q)::.r 316 [.agg (a' H au K L M N P Q),ag a] [al w]::l)
theorem ahx(h:ah (XT q a t E b c A F C G r u d e v w H au K L M N Q R s [.n s true])):
 dd 246 [bc.ref [D.J 4 E,I b,I c,D.J 8 A,D.J 6 F,D.J 5 C,D.J 3 G,B q] [D.J 4 E,I b,I c,D.J 8 A,D.J 6 F,D.J 5 C,D.J 3 G,B q],bc.ro (ag a)] (bG.vals [al false]):=
 h.dg
def Ot(q:Bool)(a:Int)(r:Bool)(A:ak)(b c:Int)(C E F G:ak)(s t:Bool)(d e:Int)(u v:Bool)(H au K L M N P Q:ak)(w:Bool)(f:Int)(l:List O):List O:=XT q a r A b c C E F G s t d e u v H au K L M N P Q w (.n w false::.x M a [I f]::.v (e+f)::l)
theorem ahy(h:ah (Ot q a v F c d A S C bi r s b e w x V X Y Z G dz H ft t f [.n s true,.v ((A.length:Int)-1),.x H a [B u],.x C a [B y,I g,I i,B z,B gH],.a .sub,.p ((0:Int)<=0),.p (0<(A.length:Int)),.e A 0 (a' au K L M N E Q R),.x E a [B il],.e A 0 (a' au K L M N E Q R),.p (b.toNat=0),.p (b.toNat=0),.p (0=0),.p (0=0),.p (b.toNat=0)])):
 dd 246 [bc.ref [D.J 4 F,I c,I d,D.J 8 A,D.J 6 S,D.J 5 C,D.J 3 bi,B q] [D.J 4 F,I c,I d,D.J 8 (A.set 0 (a' au K L M N (E.set a.toNat [B false]) Q R)),D.J 6 S,D.J 5 (C.set a.toNat [B true,I ((A.length:Int)-1),I 0,B false,B u]),D.J 3 bi,B q],bc.ro (ag a)] (bG.vals [al true]):=
 h.dg
def Dj(q:Bool)(a:Int)(r:Bool)(A:ak)(b c:Int)(C E F G:ak)(s t:Bool)(d e:Int)(u v:Bool)(H au K L M N P Q:ak)(w:Bool)(f:Int)(x:Bool)(l:List O):List O:=Ot q a r A b c C E F G s t d e u v H au K L M N P Q w f (.n t false::.b (decide (d>0)) true::.r 168 [ag (e+f),ag (-1000000),ag 1000000] [al x]::l)
theorem ahz(h:ah (Dj q a v E b e A G C H r s c d w x au K L M F N Q R t f u [.n u true])):
 dd 246 [bc.ref [D.J 4 E,I b,I e,D.J 8 A,D.J 6 G,D.J 5 C,D.J 3 H,B q] [D.J 4 E,I b,I e,D.J 8 A,D.J 6 G,D.J 5 C,D.J 3 H,B q],bc.ro (ag a)] (bG.vals [al false]):=
 h.dg
theorem ahA(h:ah (Dj q b x N e f E Q M R r s a c t u F G H au A C K L v d w [.n w false,.v (a-1),.b t true,.b u true,.x M b [B y,I g,I i,B z,B gH],.a .sub,.x E a (a' F G H au A C K L),.x C b [B il],.e E a.toNat (a' F G H au A C K L),.p (a.toNat=a.toNat),.p (a.toNat=a.toNat),.p (a.toNat=a.toNat),.p (a.toNat=a.toNat),.p (a.toNat=a.toNat)])):
 dd 246 [bc.ref [D.J 4 N,I e,I f,D.J 8 E,D.J 6 Q,D.J 5 M,D.J 3 R,B q] [D.J 4 N,I e,I f,D.J 8 (E.set a.toNat (a' F G H au A (C.set b.toNat [B false]) K L)),D.J 6 Q,D.J 5 (M.set b.toNat [B true,I (a-1),I (c+d),B true,B true]),D.J 3 R,B q],bc.ro (ag b)] (bG.vals [al true]):=
 h.dg
theorem ahB(h:ah (Dj q b y N e f F Q M R r s a c t u G H au K A C E L v d w [.n w false,.v (a-1),.b t true,.b u false,.x E b [B x],.x M b [B z,I g,I i,B gH,B il],.a .sub,.x F a (a' G H au K A C E L),.x C b [B hf],.e F a.toNat (a' G H au K A C E L),.p (a.toNat=a.toNat),.p (a.toNat=a.toNat),.p (a.toNat=a.toNat),.p (a.toNat=a.toNat),.p (a.toNat=a.toNat)])):
 dd 246 [bc.ref [D.J 4 N,I e,I f,D.J 8 F,D.J 6 Q,D.J 5 M,D.J 3 R,B q] [D.J 4 N,I e,I f,D.J 8 (F.set a.toNat (a' G H au K A (C.set b.toNat [B false]) E L)),D.J 6 Q,D.J 5 (M.set b.toNat [B true,I (a-1),I (c+d),B true,B x]),D.J 3 R,B q],bc.ro (ag b)] (bG.vals [al true]):=
 h.dg
theorem ahC(h:ah (Dj q b y N e f E Q M R r s a c t u F G H au C A K L v d w [.n w false,.v (a-1),.b t false,.x A b [B x],.b u true,.x M b [B z,I g,I i,B gH,B il],.a .sub,.x E a (a' F G H au C A K L),.x A b [B hf],.e E a.toNat (a' F G H au C A K L),.p (a.toNat=a.toNat),.p (a.toNat=a.toNat),.p (a.toNat=a.toNat),.p (a.toNat=a.toNat),.p (a.toNat=a.toNat),.p (a.toNat=a.toNat),.p (a.toNat=a.toNat)])):
 dd 246 [bc.ref [D.J 4 N,I e,I f,D.J 8 E,D.J 6 Q,D.J 5 M,D.J 3 R,B q] [D.J 4 N,I e,I f,D.J 8 (E.set a.toNat (a' F G H au C (A.set b.toNat [B false]) K L)),D.J 6 Q,D.J 5 (M.set b.toNat [B true,I (a-1),I (c+d),B x,B true]),D.J 3 R,B q],bc.ro (ag b)] (bG.vals [al true]):=
 h.dg
theorem ahD(h:ah (Dj q b z N e f F Q M R r s a c t u G H au K C A E L v d w [.n w false,.v (a-1),.b t false,.x A b [B x],.b u false,.x E b [B y],.x M b [B gH,I g,I i,B il,B hf],.a .sub,.x F a (a' G H au K C A E L),.x A b [B t0],.e F a.toNat (a' G H au K C A E L),.p (a.toNat=a.toNat),.p (a.toNat=a.toNat),.p (a.toNat=a.toNat),.p (a.toNat=a.toNat),.p (a.toNat=a.toNat),.p (a.toNat=a.toNat),.p (a.toNat=a.toNat)])):
 dd 246 [bc.ref [D.J 4 N,I e,I f,D.J 8 F,D.J 6 Q,D.J 5 M,D.J 3 R,B q] [D.J 4 N,I e,I f,D.J 8 (F.set a.toNat (a' G H au K C (A.set b.toNat [B false]) E L)),D.J 6 Q,D.J 5 (M.set b.toNat [B true,I (a-1),I (c+d),B x,B y]),D.J 3 R,B q],bc.ro (ag b)] (bG.vals [al true]):=
 h.dg
def Dk(q:Bool)(a:Int)(r:Bool)(A:ak)(b c:Int)(C E F G:ak)(s t:Bool)(d e:Int)(u v:Bool)(H au K L M N P Q:ak)(w:Bool)(f:Int)(x:Bool)(g i:Int)(y z:Bool)(l:List O):List O:=Ot q a r A b c C E F G s t d e u v H au K L M N P Q w f (.n t false::.b (decide (d>0)) false::.x F a [B x,I g,I i,B y,B z]::l)
theorem ahE(h:ah (Dk t a y E d e C N A Q u v b c q r R S bi V F G X Y w f z j k gH il [.n q true,.x G a [B x],.n x true,.b (c+f==0) true,.b r true,.a (.hd [some [D.J 4 H,I g,I i,D.J 8 au,D.J 6 K,D.J 5 L,D.J 3 M,B s],none,none] (bG.vals [])),.p (dC prog 317 [bc.ref [D.J 4 E,I d,I e,D.J 8 C,D.J 6 N,D.J 5 (A.set a.toNat [B false,I b,I c,B q,B r]),D.J 3 Q,B t] [D.J 4 H,I g,I i,D.J 8 au,D.J 6 K,D.J 5 L,D.J 3 M,B s],bc.ro (ag a),bc.ro (al true)] (bG.vals []))])):
 dd 246 [bc.ref [D.J 4 E,I d,I e,D.J 8 C,D.J 6 N,D.J 5 A,D.J 3 Q,B t] [D.J 4 H,I g,I i,D.J 8 au,D.J 6 K,D.J 5 L,D.J 3 M,B s],bc.ro (ag a)] (bG.vals [al true]):=
 h.dg
theorem ahF(h:ah (Dk t a z E d e C Q A R u v b c q r S bi V X F G H Y w f gH j k il hf [.n q true,.x G a [B x],.n x true,.b (c+f==0) true,.b r false,.x H a [B y],.a (.hd [some [D.J 4 au,I g,I i,D.J 8 K,D.J 6 L,D.J 5 M,D.J 3 N,B s],none,none] (bG.vals [])),.p (dC prog 317 [bc.ref [D.J 4 E,I d,I e,D.J 8 C,D.J 6 Q,D.J 5 (A.set a.toNat [B false,I b,I c,B q,B r]),D.J 3 R,B t] [D.J 4 au,I g,I i,D.J 8 K,D.J 6 L,D.J 5 M,D.J 3 N,B s],bc.ro (ag a),bc.ro (al y)] (bG.vals []))])):
 dd 246 [bc.ref [D.J 4 E,I d,I e,D.J 8 C,D.J 6 Q,D.J 5 A,D.J 3 R,B t] [D.J 4 au,I g,I i,D.J 8 K,D.J 6 L,D.J 5 M,D.J 3 N,B s],bc.ro (ag a)] (bG.vals [al true]):=
 h.dg
theorem ahG(h:ah (Dk r a x E d e C H A au s t b c q u K L M N F G Q R v f y g i z gH [.n q true,.x G a [B w],.n w true,.b (c+f==0) false])):
 dd 246 [bc.ref [D.J 4 E,I d,I e,D.J 8 C,D.J 6 H,D.J 5 A,D.J 3 au,B r] [D.J 4 E,I d,I e,D.J 8 C,D.J 6 H,D.J 5 (A.set a.toNat [B false,I b,I c,B q,B u]),D.J 3 au,B r],bc.ro (ag a)] (bG.vals [al true]):=
 h.dg
theorem ahH(h:ah (Dk r a x E c e C H A au s t b d q u K L M N F G Q R v f y g i z gH [.n q true,.x G a [B w],.n w false])):
 dd 246 [bc.ref [D.J 4 E,I c,I e,D.J 8 C,D.J 6 H,D.J 5 A,D.J 3 au,B r] [D.J 4 E,I c,I e,D.J 8 C,D.J 6 H,D.J 5 (A.set a.toNat [B false,I b,I d,B q,B u]),D.J 3 au,B r],bc.ro (ag a)] (bG.vals [al true]):=
 h.dg
theorem ahI(h:ah (Dk r a w E c e C G A H s t b d q u au K L M F N Q R v f x g i y z [.n q false])):
 dd 246 [bc.ref [D.J 4 E,I c,I e,D.J 8 C,D.J 6 G,D.J 5 A,D.J 3 H,B r] [D.J 4 E,I c,I e,D.J 8 C,D.J 6 G,D.J 5 (A.set a.toNat [B false,I b,I d,B q,B u]),D.J 3 H,B r],bc.ro (ag a)] (bG.vals [al true]):=
 h.dg
def XI(A:ak)(a b:Int)(C E F G H:ak)(c d:Int)(au K L M:ak)(q:Bool)(l:List O):List O:=Ho A a b C E F G H c d au K L M (.r 55 [.agg (cl A a b C E F G)] [al q]::l)
theorem ahJ(h:ah (XI A a b C E F G M d c H au K L q [.n q true])):
 aw 223 [.agg (cl A a b C E F G),ag e] [.agg (cl M d c H au K L),al false]:=
 h.of
def XJ(A:ak)(a b:Int)(C E F G H:ak)(c d:Int)(au K L M:ak)(q:Bool)(e:Int)(r:Bool)(l:List O):List O:=XI A a b C E F G H c d au K L M q (.n q false::.r 190 [ag e,ag 0,ag 3] [al r]::l)
theorem ahK(h:ah (XJ A a b C E F G M e c H au K L q d r [.n r true])):
 aw 223 [.agg (cl A a b C E F G),ag d] [.agg (cl M e c H au K L),al false]:=
 h.of
def XK(A:ak)(a b:Int)(C E F G H:ak)(c d:Int)(au K L M:ak)(q:Bool)(e:Int)(r:Bool)(N P Q R S bi V X:ak)(s:Bool)(l:List O):List O:=XJ A a b C E F G H c d au K L M q e r (.n r false::.p ((0:Int)<=0)::.p (0<(C.length:Int))::.e C 0 (a' N P Q R S bi V X)::.r 210 [.agg (a' N P Q R S bi V X),ag e] [al s]::l)
theorem ahL(h:ah (XK C a b A E F G Y e d H au K L q c r M N Q R S bi V X s [.b s true])):
 aw 223 [.agg (cl C a b A E F G),ag c] [.agg (cl Y e d H au K L),al false]:=
 h.of
def XL(A:ak)(a b:Int)(C E F G H:ak)(c d:Int)(au K L M:ak)(q:Bool)(e:Int)(r:Bool)(N P Q R S bi V X:ak)(s t:Bool)(f g:Int)(u v:Bool)(Y Z dO jA iv iZ jB H1:ak)(w:Bool)(l:List O):List O:=XK A a b C E F G H c d au K L M q e r N P Q R S bi V X s (.b s false::.x L e [B t,I f,I g,B u,B v]::.a .sub::.x au f (a' Y Z dO jA iv iZ jB H1)::.r 294 [.agg (a' Y Z dO jA iv iZ jB H1),ag e] [al w]::l)
theorem ahM(h:ah (XL C b c A G H au e8 f d E K F L q a r M N Q R S bi V X s u e g v w Y Z dz ft gf gg gh gi t [.n t true])):
 aw 223 [.agg (cl C b c A G H au),ag a] [.agg (cl e8 f d E K F L),al false]:=
 h.of
def XM(A:ak)(a b:Int)(C E F G H:ak)(c d:Int)(au K L M:ak)(q:Bool)(e:Int)(r:Bool)(N P Q R S bi V X:ak)(s t:Bool)(f g:Int)(u v:Bool)(Y Z dO jA iv iZ jB H1:ak)(w x:Bool)(i j:Int)(y z:Bool)(l:List O):List O:=XL A a b C E F G H c d au K L M q e r N P Q R S bi V X s t f g u v Y Z dO jA iv iZ jB H1 w (.n w false::.e L e.toNat [B x,I i,I j,B y,B z]::l)
theorem ahN(h:ah (XM Q c d A R S bi e8 f e F V N X q b r Y Z dz ft gf gg gh gi s w a g x y G H au K L C E M t u i j z gH [.n u true,.a .sub,.e F a.toNat (a' G H au K L C E M),.x E b [B v],.v ((A.length:Int)-1),.e N b.toNat [B il,I k,I l,B hf,B t0],.a .sub,.e F a.toNat (a' G H au K L C E M),.x C b [B fv],.e F a.toNat (a' G H au K L C E M),.p (a.toNat=a.toNat),.p (a.toNat=a.toNat),.p (a.toNat=a.toNat)])):
 aw 223 [.agg (cl Q c d A R S bi),ag b] [.agg (cl e8 f e (F.set a.toNat (a' G H au K L (C.set b.toNat [B false]) E M)) V (N.set b.toNat [B true,I ((A.length:Int)-1),I 0,B false,B v]) X),al true]:=
 h.of
def XN(A:ak)(a b:Int)(C E F G H:ak)(c d:Int)(au K L M:ak)(q:Bool)(e:Int)(r:Bool)(N P Q R S bi V X:ak)(s t:Bool)(f g:Int)(u v:Bool)(Y Z dO jA iv iZ jB H1:ak)(w x:Bool)(i j:Int)(y z q1:Bool)(k m:Int)(cw s1:Bool)(l:List O):List O:=XM A a b C E F G H c d au K L M q e r N P Q R S bi V X s t f g u v Y Z dO jA iv iZ jB H1 w x i j y z (.n x false::.e L e.toNat [B q1,I k,I m,B cw,B s1]::l)
def XO(A:ak)(a b:Int)(C E F G H:ak)(c d:Int)(au K L M:ak)(q:Bool)(e:Int)(r:Bool)(N P Q R S bi V X:ak)(s t:Bool)(f g:Int)(u v:Bool)(Y Z dO jA iv iZ jB H1:ak)(w x:Bool)(i j:Int)(y z q1:Bool)(k m:Int)(cw s1 t1:Bool)(n o:Int)(gw v1:Bool)(p:Int)(w1:Bool)(l:List O):List O:=XN A a b C E F G H c d au K L M q e r N P Q R S bi V X s t f g u v Y Z dO jA iv iZ jB H1 w x i j y z q1 k m cw s1 (.b (decide (k>0)) true::.e L e.toNat [B t1,I n,I o,B gw,B v1]::.a .sub::.e au f.toNat (a' Y Z dO jA iv iZ jB H1)::.x iv e [I p]::.v (o+p)::.r 190 [ag (o+p),ag (-1000000),ag 1000000] [al w1]::l)
theorem ahO(h:ah (XO G b c C R S bi e8 j g E V A X q a r Y Z dz ft gf gg gh gi s w d k x y H au K L F M N Q t u l m z gH il i n hf t0 fv o e v0 w0 f v [.n v true])):
 aw 223 [.agg (cl G b c C R S bi),ag a] [.agg (cl e8 j g E V A X),al false]:=
 h.of
def Hr(A:ak)(a b:Int)(C E F G H:ak)(c d:Int)(au K L M:ak)(q:Bool)(e:Int)(r:Bool)(N P Q R S bi V X:ak)(s t:Bool)(f g:Int)(u v:Bool)(Y Z dO jA iv iZ jB H1:ak)(w x:Bool)(i j:Int)(y z q1:Bool)(k m:Int)(cw s1 t1:Bool)(n o:Int)(gw v1:Bool)(p:Int)(w1 hG:Bool)(eZ eU:Int)(k5 rL:Bool)(c1:Int)(jK:Bool)(d1 e1:Int)(dt s2 t2:Bool)(f1 g1:Int)(jU v2:Bool)(l:List O):List O:=XO A a b C E F G H c d au K L M q e r N P Q R S bi V X s t f g u v Y Z dO jA iv iZ jB H1 w x i j y z q1 k m cw s1 t1 n o gw v1 p w1 (.n w1 false::.e L e.toNat [B hG,I eZ,I eU,B k5,B rL]::.a .sub::.e au f.toNat (a' Y Z dO jA iv iZ jB H1)::.x iv e [I c1]::.v (eU+c1)::.e L e.toNat [B jK,I d1,I e1,B dt,B s2]::.e (L.set e.toNat [B jK,I d1,I (eU+c1),B dt,B s2]) e.toNat [B t2,I f1,I g1,B jU,B v2]::l)
theorem ahP(h:ah (Hr Q k l N R S bi e8 ck p F V A X x a y Y Z dz ft gf gg gh gi z mA b d0 z0 q1 G H au K C E L M gH il cc f0 cw s1 t1 a0 i0 gw v1 w1 j0 m hG k5 n hf rL dw c jK dt d q e fS r s s2 m0 wP t0 t2 [.b t0 true,.e (A.set a.toNat [B q,I e,I (c+d),B r,B s]) a.toNat [B t,I f,I g,B jU,B u],.e ((A.set a.toNat [B q,I e,I (c+d),B r,B s]).set a.toNat [B t,I f,I g,B true,B u]) a.toNat [B v2,I y4,I iz,B kD,B fv],.b fv true,.e ((A.set a.toNat [B q,I e,I (c+d),B r,B s]).set a.toNat [B t,I f,I g,B true,B u]) a.toNat [B v,I i,I j,B w,B gd],.a .sub,.e F b.toNat (a' G H au K C E L M),.x E a [B iE],.e F b.toNat (a' G H au K C E L M),.p (b.toNat=b.toNat),.p (b.toNat=b.toNat),.p (b.toNat=b.toNat),.e (((A.set a.toNat [B q,I e,I (c+d),B r,B s]).set a.toNat [B t,I f,I g,B true,B u]).set a.toNat [B v,I i,I j,B w,B true]) a.toNat [B z2,I o,I eZ,B EG,B eE],.v (o-1),.e (((A.set a.toNat [B q,I e,I (c+d),B r,B s]).set a.toNat [B t,I f,I g,B true,B u]).set a.toNat [B v,I i,I j,B w,B true]) a.toNat [B v0,I eU,I dT,B w0,B cm]])):
 aw 223 [.agg (cl Q k l N R S bi),ag a] [.agg [D.J 4 e8,I ck,I p,D.J 8 (F.set b.toNat (a' G H au K C (E.set a.toNat [B false]) L M)),D.J 6 V,D.J 5 ((((A.set a.toNat [B q,I e,I (c+d),B r,B s]).set a.toNat [B t,I f,I g,B true,B u]).set a.toNat [B v,I i,I j,B w,B true]).set a.toNat [B v0,I (o-1),I dT,B w0,B cm]),D.J 3 X],al true]:=
 h.of
theorem ahQ(h:ah (Hr Q k l N R S bi e8 ck p G V A X y a z Y Z dz ft gf gg gh gi gH z0 b d0 q1 cw H au K L C E F M il hf cc f0 s1 t1 gw a0 i0 v1 w1 hG j0 m k5 rL n t0 jK dw c dt s2 d q e fS r s t2 m0 wP fv jU [.b fv true,.e (A.set a.toNat [B q,I e,I (c+d),B r,B s]) a.toNat [B t,I f,I g,B v2,B u],.e ((A.set a.toNat [B q,I e,I (c+d),B r,B s]).set a.toNat [B t,I f,I g,B true,B u]) a.toNat [B kD,I y4,I iz,B gd,B v0],.b v0 false,.a .sub,.e G b.toNat (a' H au K L C E F M),.x F a [B v],.e ((A.set a.toNat [B q,I e,I (c+d),B r,B s]).set a.toNat [B t,I f,I g,B true,B u]) a.toNat [B w,I i,I j,B x,B iE],.a .sub,.e G b.toNat (a' H au K L C E F M),.x E a [B z2],.e G b.toNat (a' H au K L C E F M),.p (b.toNat=b.toNat),.p (b.toNat=b.toNat),.p (b.toNat=b.toNat),.e (((A.set a.toNat [B q,I e,I (c+d),B r,B s]).set a.toNat [B t,I f,I g,B true,B u]).set a.toNat [B w,I i,I j,B x,B v]) a.toNat [B EG,I o,I eZ,B eE,B GN],.v (o-1),.e (((A.set a.toNat [B q,I e,I (c+d),B r,B s]).set a.toNat [B t,I f,I g,B true,B u]).set a.toNat [B w,I i,I j,B x,B v]) a.toNat [B w0,I eU,I dT,B cm,B mA]])):
 aw 223 [.agg (cl Q k l N R S bi),ag a] [.agg [D.J 4 e8,I ck,I p,D.J 8 (G.set b.toNat (a' H au K L C (E.set a.toNat [B false]) F M)),D.J 6 V,D.J 5 ((((A.set a.toNat [B q,I e,I (c+d),B r,B s]).set a.toNat [B t,I f,I g,B true,B u]).set a.toNat [B w,I i,I j,B x,B v]).set a.toNat [B w0,I (o-1),I dT,B cm,B mA]),D.J 3 X],al true]:=
 h.of
theorem ahR(h:ah (Hr Q k l N R S bi e8 ck p F V A X y a z Y Z dz ft gf gg gh gi gH z0 b d0 q1 cw G H au K C E L M il hf cc f0 s1 t1 gw a0 i0 v1 w1 hG j0 m k5 rL n t0 jK dw c dt s2 d q e fS r s t2 m0 wP fv jU [.b fv false,.a .sub,.e F b.toNat (a' G H au K C E L M),.x E a [B t],.e (A.set a.toNat [B q,I e,I (c+d),B r,B s]) a.toNat [B u,I f,I g,B v2,B v],.e ((A.set a.toNat [B q,I e,I (c+d),B r,B s]).set a.toNat [B u,I f,I g,B t,B v]) a.toNat [B kD,I y4,I iz,B gd,B v0],.b v0 true,.e ((A.set a.toNat [B q,I e,I (c+d),B r,B s]).set a.toNat [B u,I f,I g,B t,B v]) a.toNat [B w,I i,I j,B x,B iE],.a .sub,.e F b.toNat (a' G H au K C E L M),.x E a [B z2],.e F b.toNat (a' G H au K C E L M),.p (b.toNat=b.toNat),.p (b.toNat=b.toNat),.p (b.toNat=b.toNat),.p (b.toNat=b.toNat),.p (b.toNat=b.toNat),.e (((A.set a.toNat [B q,I e,I (c+d),B r,B s]).set a.toNat [B u,I f,I g,B t,B v]).set a.toNat [B w,I i,I j,B x,B true]) a.toNat [B EG,I o,I eZ,B eE,B GN],.v (o-1),.e (((A.set a.toNat [B q,I e,I (c+d),B r,B s]).set a.toNat [B u,I f,I g,B t,B v]).set a.toNat [B w,I i,I j,B x,B true]) a.toNat [B w0,I eU,I dT,B cm,B mA]])):
 aw 223 [.agg (cl Q k l N R S bi),ag a] [.agg [D.J 4 e8,I ck,I p,D.J 8 (F.set b.toNat (a' G H au K C (E.set a.toNat [B false]) L M)),D.J 6 V,D.J 5 ((((A.set a.toNat [B q,I e,I (c+d),B r,B s]).set a.toNat [B u,I f,I g,B t,B v]).set a.toNat [B w,I i,I j,B x,B true]).set a.toNat [B w0,I (o-1),I dT,B cm,B mA]),D.J 3 X],al true]:=
 h.of
theorem ahS(h:ah (Hr Q k l N R S bi e8 ck p G V A X gH a il Y Z dz ft gf gg gh gi hf q1 b d0 cw s1 H au K L C E F M t0 fv cc f0 t1 gw v1 a0 i0 w1 hG k5 j0 m rL jK n v0 dt dw c s2 t2 d q e fS r s jU m0 wP w0 v2 [.b w0 false,.a .sub,.e G b.toNat (a' H au K L C E F M),.x E a [B t],.e (A.set a.toNat [B q,I e,I (c+d),B r,B s]) a.toNat [B u,I f,I g,B kD,B v],.e ((A.set a.toNat [B q,I e,I (c+d),B r,B s]).set a.toNat [B u,I f,I g,B t,B v]) a.toNat [B gd,I y4,I iz,B iE,B cm],.b cm false,.a .sub,.e G b.toNat (a' H au K L C E F M),.x F a [B w],.e ((A.set a.toNat [B q,I e,I (c+d),B r,B s]).set a.toNat [B u,I f,I g,B t,B v]) a.toNat [B x,I i,I j,B y,B z2],.a .sub,.e G b.toNat (a' H au K L C E F M),.x E a [B EG],.e G b.toNat (a' H au K L C E F M),.p (b.toNat=b.toNat),.p (b.toNat=b.toNat),.p (b.toNat=b.toNat),.p (b.toNat=b.toNat),.p (b.toNat=b.toNat),.e (((A.set a.toNat [B q,I e,I (c+d),B r,B s]).set a.toNat [B u,I f,I g,B t,B v]).set a.toNat [B x,I i,I j,B y,B w]) a.toNat [B eE,I o,I eZ,B GN,B t3],.v (o-1),.e (((A.set a.toNat [B q,I e,I (c+d),B r,B s]).set a.toNat [B u,I f,I g,B t,B v]).set a.toNat [B x,I i,I j,B y,B w]) a.toNat [B mA,I eU,I dT,B z0,B z]])):
 aw 223 [.agg (cl Q k l N R S bi),ag a] [.agg [D.J 4 e8,I ck,I p,D.J 8 (G.set b.toNat (a' H au K L C (E.set a.toNat [B false]) F M)),D.J 6 V,D.J 5 ((((A.set a.toNat [B q,I e,I (c+d),B r,B s]).set a.toNat [B u,I f,I g,B t,B v]).set a.toNat [B x,I i,I j,B y,B w]).set a.toNat [B mA,I (o-1),I dT,B z0,B z]),D.J 3 X],al true]:=
 h.of
def zL(a b:Int)(H:ak)(f g:Int)(au K L M:ak)(i c:Int)(A:ak)(d e:Int)(C E F G:ak):aG:=bp 229 [(1,bf a),(2,bE 2),(4,bE 4),(6,bE 6),(9,.bd (.one (.cg true))),(10,bf b)] [(6,[aV 130000 4 H,aM f,aM g,aV 130003 8 au,aV 130004 6 K,aV 130005 5 L,aV 130006 3 M]),(4,[.v (a8),aM i,aM c,.v (a8),.v (a8),.v (a8),.v (a8)]),(2,[.J .free 4 A,aM d,aM e,.J .free 8 C,.J .free 6 E,.J .free 5 F,.J .free 3 G])]
theorem ahj(h:ah [.f C a true,.g A [[I a,I b,B true]] 24,.h [[I a,I b,B true]],.u a]):
 aY (av f223 0) (zL b a E c d F G H A e f au g i C K L M) .normal (zL b (a+1) E c d F G H (A++[[I a,I b,B true]]) e f au g i C K L M):=
 h.aR [10,2,6,1,9,4] [6,4,2]
def zM(A:ak)(a b:Int)(C E F G:ak)(c d:Int):aG:=bp 229 [(4,bE 4),(6,bE 6)] [(6,[aV 130000 4 A,aM a,aM b,aV 130003 8 C,aV 130004 6 E,aV 130005 5 F,aV 130006 3 G]),(4,[.v (a8),aM c,aM d,.v (a8),.v (a8),.v (a8),.v (a8)])]
theorem ahk(h:ah [.f H a false]):
 aY (av f223 0) (zL f a A b c C E F G d e au g i H K L M) (.exit 1) (zM A b c C E F G d e):=
 h.aR [6,4] [6,4]
def Oo(A:ak)(a b:Int)(C E F G H:ak)(c d:Int)(au K L M:ak)(q:Bool)(e:Int)(r:Bool)(N P Q R S bi V X:ak)(s t:Bool)(f g:Int)(u v:Bool)(Y Z dO jA iv iZ jB H1:ak)(w x:Bool)(i j:Int)(y z q1:Bool)(k m:Int)(cw s1 t1:Bool)(n o:Int)(gw v1 w1:Bool)(p eZ:Int)(hG k5:Bool)(l:List O):List O:=XN A a b C E F G H c d au K L M q e r N P Q R S bi V X s t f g u v Y Z dO jA iv iZ jB H1 w x i j y z q1 k m cw s1 (.b (decide (k>0)) false::.e L e.toNat [B t1,I n,I o,B gw,B v1]::.e (L.set e.toNat [B false,I n,I o,B gw,B v1]) e.toNat [B w1,I p,I eZ,B hG,B k5]::l)
def Oq(A:ak)(a b:Int)(C E F G H:ak)(c d:Int)(au K L M:ak)(q:Bool)(e:Int)(r:Bool)(N P Q R S bi V X:ak)(s t:Bool)(f g:Int)(u v:Bool)(Y Z dO jA iv iZ jB H1:ak)(w x:Bool)(i j:Int)(y z q1:Bool)(k m:Int)(cw s1 t1:Bool)(n o:Int)(gw v1 w1:Bool)(p eZ:Int)(hG k5 rL jK:Bool)(eU c1:Int)(dt s2:Bool)(d1:Int)(l:List O):List O:=Oo A a b C E F G H c d au K L M q e r N P Q R S bi V X s t f g u v Y Z dO jA iv iZ jB H1 w x i j y z q1 k m cw s1 t1 n o gw v1 w1 p eZ hG k5 (.n hG true::.a .sub::.e au f.toNat (a' Y Z dO jA iv iZ jB H1)::.x iZ e [B rL]::.n rL true::.e (L.set e.toNat [B false,I n,I o,B gw,B v1]) e.toNat [B jK,I eU,I c1,B dt,B s2]::.a .sub::.e au f.toNat (a' Y Z dO jA iv iZ jB H1)::.x iv e [I d1]::.v (c1+d1)::l)
theorem ahl(h:ah (Oq Q e f N R S bi nq n j M V F X s a t Y Z dz ft gf gg gh gi u gH b o il hf G H au K C E L A v w p a0 t0 fv v0 k ck w0 cm mA c d q r z0 dT d0 x q1 y cw cc g s1 t1 i [.b (g+i==0) true,.e (F.set a.toNat [B false,I c,I d,B q,B r]) a.toNat [B gw,I f0,I i0,B v1,B z],.b z true,.a .sub,.e M b.toNat (a' G H au K C E L A),.g A [[I a,B true]] 16,.e M b.toNat (a' G H au K C E L A),.p ((a' G H au K C E L A)[7]?=some (D.J 2 A)),.p (b.toNat=b.toNat),.p (b.toNat=b.toNat),.h [[I a,B true]],.e M b.toNat (a' G H au K C E L A),.p (b.toNat=b.toNat),.l [] [10,2,6,1,9,4] [6,4,2] (av f223 0) (zL a 1 nq n j (M.set b.toNat (a' G H au K C E L (A++[[I a,B true]]))) V (F.set a.toNat [B false,I c,I d,B q,B r]) X 0 0 Q e f N R S bi) (.exit 1) (zM e8 l m lu mb nn np j0 dw)])):
 aw 223 [.agg (cl Q e f N R S bi),ag a] [.agg (cl e8 l m lu mb nn np),al true]:=
 h.of
def zN(a:Int)(q:Bool)(f:Int)(H:ak)(g i:Int)(au K L M:ak)(b c:Int)(A:ak)(d e:Int)(C E F G:ak):aG:=bp 229 [(1,bf a),(2,bE 2),(4,bE 4),(6,bE 6),(9,.bd (.one (.cg q))),(10,bf f)] [(6,[aV 130000 4 H,aM g,aM i,aV 130003 8 au,aV 130004 6 K,aV 130005 5 L,aV 130006 3 M]),(4,[.v (a8),aM b,aM c,.v (a8),.v (a8),.v (a8),.v (a8)]),(2,[.J .free 4 A,aM d,aM e,.J .free 8 C,.J .free 6 E,.J .free 5 F,.J .free 3 G])]
theorem ahm(h:ah [.f C a true,.g A [[I a,I b,B q]] 24,.h [[I a,I b,B q]],.u a]):
 aY (av f223 0) (zN b q a E c d F G H A e f au g i C K L M) .normal (zN b q (a+1) E c d F G H (A++[[I a,I b,B q]]) e f au g i C K L M):=
 h.aR [10,2,6,1,9,4] [6,4,2]
theorem ahn(h:ah [.f H a false]):
 aY (av f223 0) (zN f q a A b c C E F G d e au g i H K L M) (.exit 1) (zM A b c C E F G d e):=
 h.aR [6,4] [6,4]
theorem aho(h:ah (Oq Q e f N R S bi nq n j L V M X t a u Y Z dz ft gf gg gh gi v il b o hf t0 G H au K C E F A w x p a0 fv v0 w0 k ck cm mA z0 c d q r q1 dT d0 y cw z s1 cc g t1 gw i [.b (g+i==0) true,.e (M.set a.toNat [B false,I c,I d,B q,B r]) a.toNat [B v1,I f0,I i0,B w1,B gH],.b gH false,.a .sub,.e L b.toNat (a' G H au K C E F A),.x F a [B s],.a .sub,.e L b.toNat (a' G H au K C E F A),.g A [[I a,B s]] 16,.e L b.toNat (a' G H au K C E F A),.p ((a' G H au K C E F A)[7]?=some (D.J 2 A)),.p (b.toNat=b.toNat),.p (b.toNat=b.toNat),.h [[I a,B s]],.e L b.toNat (a' G H au K C E F A),.p (b.toNat=b.toNat),.l [] [10,2,6,1,9,4] [6,4,2] (av f223 0) (zN a s 1 nq n j (L.set b.toNat (a' G H au K C E F (A++[[I a,B s]]))) V (M.set a.toNat [B false,I c,I d,B q,B r]) X 0 0 Q e f N R S bi) (.exit 1) (zM e8 l m lu mb nn np j0 dw)])):
 aw 223 [.agg (cl Q e f N R S bi),ag a] [.agg (cl e8 l m lu mb nn np),al true]:=
 h.of
theorem ahp(h:ah (Oq Q e f E R S bi e8 l j C V A X s a t Y Z dz ft gf gg gh gi u z b m gH il H au K L F G M N v w n o hf t0 fv k p v0 w0 cm c d q r mA a0 ck x z0 y q1 dT g cw s1 i [.b (g+i==0) false])):
 aw 223 [.agg (cl Q e f E R S bi),ag a] [.agg (cl e8 l j C V (A.set a.toNat [B false,I c,I d,B q,B r]) X),al true]:=
 h.of
theorem ahq(h:ah (Oo G b c C R S bi e8 j g E V A X s a t Y Z dz ft gf gg gh gi u z d k gH il H au K L M F N Q v w l m hf t0 fv i n v0 w0 cm e f q r mA o p x z0 [.n x true,.a .sub,.e E d.toNat (a' H au K L M F N Q),.x F a [B y],.n y false])):
 aw 223 [.agg (cl G b c C R S bi),ag a] [.agg (cl e8 j g E V (A.set a.toNat [B false,I e,I f,B q,B r]) X),al true]:=
 h.of
theorem ahr(h:ah (Oo E b c C G H au e8 j f F K A L s a t M N Q R S bi V X u y g k z gH Y Z dz ft gf gg gh gi v w l m il hf t0 i n fv v0 w0 d e q r cm o p x mA [.n x false])):
 aw 223 [.agg (cl E b c C G H au),ag a] [.agg (cl e8 j f F K (A.set a.toNat [B false,I d,I e,B q,B r]) L),al true]:=
 h.of
theorem ahs(h:ah [.b (decide ((A.length:Int)>0)) true,.p ((0:Int)<=0),.p (0<(A.length:Int)),.e A 0 (a' K L C E F G H au),.r 213 [.agg (a' K L C E F G H au),ag a] [al q]]):
 aw 315 [.agg (cl M b c A N Q R),ag a] [al q]:=
 h.of
def xO(A C E F G H au K:ak)(a b:Int):aG:=bp 22 [(1,bf a),(2,bE 2),(5,bf b)] [(2,[.J .free 5 A,.J .free 5 C,.J .free 5 E,.J .free 4 F,.J .free 1 G,.J .free 1 H,.J .free 1 au,.J .free 2 K])]
def LG(q:Bool):aG:=bp 22 [(4,.bd (.one (.cg q)))] []
theorem aiU(h:ah [.i A c (bA d a e f g),.b (decide (a<=b)) true]):
 aY (av f342 0) (xO C E A F G H au K b c) .ret (LG true):=
 h.aR [4] []
theorem aiV(h:ah [.i A a (bA d c e f g),.b (decide (c<=b)) false,.u a]):
 aY (av f342 0) (xO C E A F G H au K b a) .normal (xO C E A F G H au K b (a+1)):=
 h.aR [5,2,1] [2]
def Ug:aG:=bp 22 [] []
theorem aiW(h:ah [.f A a false]):
 aY (av f342 0) (xO C E A F G H au K b a) (.exit 0) Ug:=
 h.aR [] []
theorem aiX(h:ah [.l [] [5,2,1] [2] (av f342 0) (xO A C E F G H au K a 0) .ret (LG q)]):
 aw 342 [.agg (a' A C E F G H au K),ag a] [al q]:=
 h.of
theorem aiY(h:ah [.l [] [5,2,1] [2] (av f342 0) (xO A C E F G H au K a 0) (.exit 0) Ug]):
 aw 342 [.agg (a' A C E F G H au K),ag a] [al false]:=
 h.of
theorem aiZ(h:ah [.r 342 [.agg (a' A C E F G H au K),ag a] [al q],.n q true,.r 343 [.agg (a' A C E F G H au K),ag a] [ag b]]):
 aw 316 [.agg (a' A C E F G H au K),ag a] [al (b==0)]:=
 h.of
theorem ai0(h:ah [.r 342 [.agg (a' A C E F G H au K),ag a] [al q],.n q false]):
 aw 316 [.agg (a' A C E F G H au K),ag a] [al false]:=
 h.of
theorem ai1(h:ah [.r 116 [aS 5 E,ag a] [aS 5 C],.r 116 [aS 5 F,ag a] [aS 5 A],.v ((C.length:Int)+(A.length:Int))]):
 aw 343 [.agg (a' E F G H au K L M),ag a] [ag ((C.length:Int)+(A.length:Int))]:=
 h.of
theorem ai2(h:ah [.r 291 [aS 5 A,.one (.cl 353 [D.ptr [I a]])] [al q]]):
 aw 331 [.agg (a' C E A F G H au K),ag a] [al q]:=
 h.of
theorem ai3(h:ah []):
 aw 353 [.agg (bA c a d e f),.one (.ptr [I b])] [al (decide (a<=b))]:=
 h.of
theorem ai4(h:ah [.r 331 [.agg (a' A C E F G H au K),ag a] [al q],.n q true,.r 332 [.agg (a' A C E F G H au K),ag a] [ag b]]):
 aw 294 [.agg (a' A C E F G H au K),ag a] [al (b==0)]:=
 h.of
theorem ai5(h:ah [.r 331 [.agg (a' A C E F G H au K),ag a] [al q],.n q false]):
 aw 294 [.agg (a' A C E F G H au K),ag a] [al false]:=
 h.of
theorem ai6(h:ah [.r 182 [aS 5 E,ag a] [aS 5 C],.r 182 [aS 5 F,ag a] [aS 5 A],.v ((C.length:Int)+(A.length:Int))]):
 aw 332 [.agg (a' E F G H au K L M),ag a] [ag ((C.length:Int)+(A.length:Int))]:=
 h.of
