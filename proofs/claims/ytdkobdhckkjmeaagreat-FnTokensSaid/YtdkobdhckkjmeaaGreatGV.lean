import Derived.Test.YtdkobdhckkjmeaaGreatRows
import Derived.Test.YtdkobdhckkjmeaaGreatGE
set_option linter.unusedVariables false
set_option linter.unusedSimpArgs false
namespace Go.Proofs.YtdkobdhckkjmeaaGreat
open Go.Sx Go.RowKit Go.Proofs.Tryz
variable {a b c d e f g i j k l m n o p a0 a1 b0 c0 d0 e0 f0 g0 i0 j0 k0 l0 m0 n0 o0 p0 : Int} {A C E F G H J K L M N P Q R S U V W X Y Z A0 C0 E0 F0 G0 H0 J0 K0 L0 M0 : LL} {q r s t u v w x y z q0 q1 q2 q3 r0 r1 r2 r3 s0 s1 s2 s3 t0 t1 t2 t3 u0 u1 u2 v0 v1 v2 w0 w1 w2 x0 x1 x2 y0 y1 y2 z0 z1 z2 : Bool}
theorem qJO(h:Oo [.g ([]:LL) A 8,.h A]):
 Rt 258 [.agg (nd a b c A)] [.agg (nd a b c ([]++A))]:=
 h.of
def qhW(A:LL)(a:Int)(C:LL)(b c d e:Int):St:=
 { env:=envOf 27 [(2,vP 2),(3,vP 3),(12,vF 4 A),(13,vI (A.length:Int)),(14,vI a)],boxes:=[(3,[lO 23 4 C,lI b,lI c]),(2,[.v (sn),lI d,lI e])] }
theorem qJP(h:Oo [.i A a (nd l e f F),.r 258 [.agg (nd l e f F)] [.agg (nd b c d C)],.a .wr,.g E [(nd b c d C)] 48,.u a]):
 Tp (qaa f146 0) (qhW A a E g i j k) .normal (qhW A (a+1) (E++[(nd b c d C)]) g i j k):=
 h.lp [14,13,12,3,2] [3,2]
def qss(A:LL)(a b c d:Int):St:=
 { env:=envOf 27 [(2,vP 2),(3,vP 3)],boxes:=[(3,[lO 23 4 A,lI a,lI b]),(2,[.v (sn),lI c,lI d])] }
theorem qJQ(h:Oo [.f A a false]):
 Tp (qaa f146 0) (qhW A a C b c d e) (.exit 0) (qss C b c d e):=
 h.lp [3,2] [3,2]
theorem qJR(h:Oo [.l [(4000000,23,4)] [14,13,12,3,2] [3,2] (qaa f146 0) (qhW A 0 [] a b 0 0) (.exit 0) (qss C c d e f)]):
 Rt 146 [.agg (gr A a b)] [.agg (gr C c d)]:=
 h.of
theorem qJS(h:Oo [.r 239 [cS 5 A] [cS 5 C]]):
 Rt 263 [.agg (lk a A b c d e)] [.agg (lk a C b c d e)]:=
 h.of
theorem qJT(h:Oo [.r 239 [cS 5 G] [cS 5 N],.r 239 [cS 5 H] [cS 5 P],.r 239 [cS 5 L] [cS 5 J],.r 301 [cS 4 M] [cS 4 K],.g ([]:LL) A 8,.h A,.g ([]:LL) C 1,.h C,.g ([]:LL) E 1,.h E,.g ([]:LL) F 16,.h F]):
 Rt 262 [.agg (wk G H L M A C E F)] [.agg (wk N P J K ([]++A) ([]++C) ([]++E) ([]++F))]:=
 h.of
def qhX(A:LL)(a:Int)(J:LL)(d e:Int)(K L M:LL)(f g:Int)(C:LL)(b c:Int)(E F G H:LL):St:=
 { env:=envOf 49 [(1,vP 1),(2,vP 2),(3,vP 3),(19,vF 8 A),(20,vI (A.length:Int)),(21,vI a)],boxes:=[(3,[lO 110000 4 J,lI d,lI e,lO 30 8 K,.v (sn),lO 13 5 L,lO 16 3 M]),(2,[.v (sn),lI f,lI g,.v (sn),.v (sn),.v (sn),.v (sn)]),(1,[.sl .free 4 C,lI b,lI c,.sl .free 8 E,.sl .free 6 F,.sl .free 5 G,.sl .free 3 H])] }
theorem qJU(h:Oo [.i C a (wk X Y Z A0 C0 E0 F0 G0),.r 262 [.agg (wk X Y Z A0 C0 E0 F0 G0)] [.agg (wk E F G H J K L M)],.a .wr,.g A [(wk E F G H J K L M)] 192,.u a]):
 Tp (qaa f152 0) (qhX C a N b c A P Q d e R f g S U V W) .normal (qhX C (a+1) N b c (A++[(wk E F G H J K L M)]) P Q d e R f g S U V W):=
 h.lp [21,20,19,3,1,2] [3,2,1]
def qst(A:LL)(a c:Int)(H J K:LL)(d e:Int)(L:LL)(f b:Int)(C E F G:LL):St:=
 { env:=envOf 49 [(1,vP 1),(2,vP 2),(3,vP 3)],boxes:=[(3,[lO 110000 4 A,lI a,lI c,lO 30 8 H,.v (sn),lO 13 5 J,lO 16 3 K]),(2,[.v (sn),lI d,lI e,.v (sn),.v (sn),.v (sn),.v (sn)]),(1,[.sl .free 4 L,lI f,lI b,.sl .free 8 C,.sl .free 6 E,.sl .free 5 F,.sl .free 3 G])] }
theorem qJV(h:Oo [.f M a false]):
 Tp (qaa f152 0) (qhX M a A b c C E F d e G f g H J K L) (.exit 0) (qst A b c C E F d e G f g H J K L):=
 h.lp [1,3,2] [3,2,1]
def qhY(A:LL)(a:Int)(C:LL)(c d:Int)(E F G H:LL)(e b:Int):St:=
 { env:=envOf 49 [(2,vP 2),(3,vP 3),(34,vF 6 A),(35,vI (A.length:Int)),(36,vI a)],boxes:=[(3,[lO 110000 4 C,lI c,lI d,lO 30 8 E,lO 45 6 F,lO 13 5 G,lO 16 3 H]),(2,[.v (sn),lI e,lI b,.v (sn),.v (sn),.v (sn),.v (sn)])] }
theorem qJW(h:Oo [.i A a (lk l K m n o p),.r 263 [.agg (lk l K m n o p)] [.agg (lk b E c d e f)],.a .wr,.g C [(lk b E c d e f)] 64,.u a]):
 Tp (qaa f152 1) (qhY A a F g i G C H J j k) .normal (qhY A (a+1) F g i G (C++[(lk b E c d e f)]) H J j k):=
 h.lp [36,35,34,3,2] [3,2]
def qsu(A:LL)(a b:Int)(C E F G:LL)(c d:Int):St:=
 { env:=envOf 49 [(2,vP 2),(3,vP 3)],boxes:=[(3,[lO 110000 4 A,lI a,lI b,lO 30 8 C,lO 45 6 E,lO 13 5 F,lO 16 3 G]),(2,[.v (sn),lI c,lI d,.v (sn),.v (sn),.v (sn),.v (sn)])] }
theorem qJX(h:Oo [.f A a false]):
 Tp (qaa f152 1) (qhY A a C b c E F G H d e) (.exit 2) (qsu C b c E F G H d e):=
 h.lp [3,2] [3,2]
theorem qJY(h:Oo [.r 146 [.agg (gr E a b)] [.agg (gr U j k)],.g ([]:LL) A 32,.h A,.g ([]:LL) C 24,.h C,.l [(4000003,30,8)] [21,20,19,3,1,2] [3,2,1] (qaa f152 0) (qhX F 0 U j k [] ([]++A) ([]++C) 0 0 E a b F S A C) (.exit 0) (qst G c d H J K e f V l m W L X Y),.l [(4000004,45,6)] [36,35,34,3,2] [3,2] (qaa f152 1) (qhY L 0 G c d H [] J K e f) (.exit 2) (qsu M g i N P Q R n o)]):
 Rt 152 [.agg (cl E a b F S A C)] [.agg (cl M g i N P Q R)]:=
 h.of
theorem qJZ(h:Oo [.g ([]:LL) A 40,.h A]):
 Rt 277 [.agg (lk a A b c d e)] [.agg (lk a ([]++A) b c d e)]:=
 h.of
def qhZ(a:Int)(A:LL)(b c d e:Int)(C:LL)(f g:Int):St:=
 { env:=envOf 33 [(1,vP 1),(2,vP 2),(3,vP 3),(4,vI a)],boxes:=[(3,[lO 7 4 A,lI b,lI c]),(2,[.v (sn),lI d,lI e]),(1,[.sl .free 4 C,lI f,lI g])] }
theorem qJ0(h:Oo [.i E a (nd b c d A),.a .wr,.g ([]:LL) A 8,.h A,.g C [(nd b c d ([]++A))] 48,.u a]):
 Tp (qaa f123 0) (qhZ a C g i j k E e f) .normal (qhZ (a+1) (C++[(nd b c d ([]++A))]) g i j k E e f):=
 h.lp [4,1,3,2] [3,2,1]
def qsv(A:LL)(a b c d:Int):St:=
 { env:=envOf 33 [(2,vP 2),(3,vP 3)],boxes:=[(3,[lO 7 4 A,lI a,lI b]),(2,[.v (sn),lI c,lI d])] }
theorem qJ1(h:Oo [.f C a false]):
 Tp (qaa f123 0) (qhZ a A b c d e C f g) (.exit 0) (qsv A b c d e):=
 h.lp [3,2] [3,2]
theorem qJ2(h:Oo [.l [] [4,1,3,2] [3,2,1] (qaa f123 0) (qhZ 0 [] a b 0 0 A a b) (.exit 0) (qsv C c d e f)]):
 Rt 123 [.agg (gr A a b)] [.agg (gr C c d)]:=
 h.of
theorem qJ3(h:Oo [.g ([]:LL) A 40,.h A,.g ([]:LL) C 40,.h C,.g ([]:LL) E 40,.h E,.g ([]:LL) F 32,.h F,.g ([]:LL) G 8,.h G,.g ([]:LL) H 1,.h H,.g ([]:LL) J 1,.h J,.g ([]:LL) K 16,.h K]):
 Rt 208 [.agg (wk A C E F G H J K)] [.agg (wk ([]++A) ([]++C) ([]++E) ([]++F) ([]++G) ([]++H) ([]++J) ([]++K))]:=
 h.of
def qh0(a:Int)(A:LL)(d e:Int)(H J K:LL)(f g:Int)(L:LL)(b c:Int)(C E F G:LL):St:=
 { env:=envOf 55 [(1,vP 1),(2,vP 2),(3,vP 3),(4,vI a)],boxes:=[(3,[lO 90000 4 A,lI d,lI e,lO 34 8 H,.v (sn),lO 9 5 J,lO 13 3 K]),(2,[.v (sn),lI f,lI g,.v (sn),.v (sn),.v (sn),.v (sn)]),(1,[.sl .free 4 L,lI b,lI c,.sl .free 8 C,.sl .free 6 E,.sl .free 5 F,.sl .free 3 G])] }
theorem qJ4(h:Oo [.i C a (wk W X Y Z A0 C0 E0 F0),.r 208 [.agg (wk W X Y Z A0 C0 E0 F0)] [.agg (wk E F G H J K L M)],.a .wr,.g A [(wk E F G H J K L M)] 192,.u a]):
 Tp (qaa f171 0) (qh0 a N b c A P Q d e R f g C S U V) .normal (qh0 (a+1) N b c (A++[(wk E F G H J K L M)]) P Q d e R f g C S U V):=
 h.lp [4,1,3,2] [3,2,1]
def qsw(A:LL)(a c:Int)(H J K:LL)(d e:Int)(L:LL)(f b:Int)(C E F G:LL):St:=
 { env:=envOf 55 [(1,vP 1),(2,vP 2),(3,vP 3)],boxes:=[(3,[lO 90000 4 A,lI a,lI c,lO 34 8 H,.v (sn),lO 9 5 J,lO 13 3 K]),(2,[.v (sn),lI d,lI e,.v (sn),.v (sn),.v (sn),.v (sn)]),(1,[.sl .free 4 L,lI f,lI b,.sl .free 8 C,.sl .free 6 E,.sl .free 5 F,.sl .free 3 G])] }
theorem qJ5(h:Oo [.f A a false]):
 Tp (qaa f171 0) (qh0 a C b c E F G d e H f g A J K L) (.exit 0) (qsw C b c E F G d e H f g A J K L):=
 h.lp [1,3,2] [3,2,1]
def qh1(a:Int)(A:LL)(d e:Int)(J K L M:LL)(f g:Int)(C:LL)(b c:Int)(E F G H:LL):St:=
 { env:=envOf 55 [(1,vP 1),(2,vP 2),(3,vP 3),(5,vI a)],boxes:=[(3,[lO 90000 4 A,lI d,lI e,lO 34 8 J,lO 52 6 K,lO 9 5 L,lO 13 3 M]),(2,[.v (sn),lI f,lI g,.v (sn),.v (sn),.v (sn),.v (sn)]),(1,[.sl .free 4 C,lI b,lI c,.sl .free 8 E,.sl .free 6 F,.sl .free 5 G,.sl .free 3 H])] }
theorem qJ6(h:Oo [.i C a (lk n P o p a0 b0),.r 277 [.agg (lk n P o p a0 b0)] [.agg (lk b E c d e f)],.a .wr,.g A [(lk b E c d e f)] 64,.u a]):
 Tp (qaa f171 1) (qh1 a F g i G A H J j k K l m L C M N) .normal (qh1 (a+1) F g i G (A++[(lk b E c d e f)]) H J j k K l m L C M N):=
 h.lp [5,1,3,2] [3,2,1]
def qsx(A:LL)(a b:Int)(C E F G:LL)(c d:Int):St:=
 { env:=envOf 55 [(2,vP 2),(3,vP 3)],boxes:=[(3,[lO 90000 4 A,lI a,lI b,lO 34 8 C,lO 52 6 E,lO 9 5 F,lO 13 3 G]),(2,[.v (sn),lI c,lI d,.v (sn),.v (sn),.v (sn),.v (sn)])] }
theorem qJ7(h:Oo [.f H a false]):
 Tp (qaa f171 1) (qh1 a A b c C E F G d e J f g K H L M) (.exit 2) (qsx A b c C E F G d e):=
 h.lp [3,2] [3,2]
theorem qJ8(h:Oo [.r 123 [.agg (gr E a b)] [.agg (gr Y l m)],.g ([]:LL) A 32,.h A,.g ([]:LL) C 24,.h C,.l [(4000003,34,8)] [4,1,3,2] [3,2,1] (qaa f171 0) (qh0 0 Y l m [] ([]++A) ([]++C) 0 0 E a b U X A C) (.exit 0) (qsw F c d G H J e f K g i L M N P),.l [(4000004,52,6)] [5,1,3,2] [3,2,1] (qaa f171 1) (qh1 0 F c d G [] H J e f K g i L M N P) (.exit 2) (qsx Q j k R S V W n o)]):
 Rt 171 [.agg (cl E a b U X A C)] [.agg (cl Q j k R S V W)]:=
 h.of
theorem qJ9(h:Oo [.r 171 [.agg (cl A a b C E F G)] [.agg (cl M c d H J K L)],.r 56 [.agg (cl A a b C E F G)] [cB q]]):
 Rr 127 [RA.ro (.agg (cl A a b C E F G))] (RR.new [D.sl 4 M,I c,I d,D.sl 8 H,D.sl 6 J,D.sl 5 K,D.sl 3 L,B q]):=
 h.ofR
def qdc(a b:Int)(A:LL)(c d:Int)(C E F G:LL)(q:Bool):St:=
 { env:=envOf 93 [(0,vP 1000000000),(1,vI a),(5,vI b)],boxes:=[(1000000000,[lO 900000000 4 A,lI c,lI d,lO 900000003 8 C,lO 900000004 6 E,lO 900000005 5 F,lO 900000006 3 G,.sb q])] }
theorem qKa(h:Oo [.f A a true,.b q true,.x A a [I e,I f,B r],.b (e != b) true,.u a]):
 Tp (qaa f246 0) (qdc b a C c d E F G A q) .normal (qdc b (a+1) C c d E F G A q):=
 h.lp [5,0,1] [1000000000]
def qj7(q:Bool)(A:LL)(a b:Int)(C E F G:LL)(r:Bool):St:=
 { env:=envOf 93 [(0,vP 1000000000),(4,.al (.one (.sb q)))],boxes:=[(1000000000,[lO 900000000 4 A,lI a,lI b,lO 900000003 8 C,lO 900000004 6 E,lO 900000005 5 F,lO 36 3 G,.sb r])] }
def y3h(A:LL)(a:Int)(q:Bool)(b c:Int)(r:Bool)(d:Int)(C E F G H J K L M:LL)(s:Bool)(l:List O):List O:=.f A a true::.b q true::.x A a [I b,I c,B r]::.b (b != d) false::.a .sub::.p ((0:Int)≤none.getD 0)::.p (none.getD 0≤(some a).getD (A.length:Int))::.p ((some a).getD (A.length:Int)≤(A.length:Int))::.p ((([]:LL).length+(List.take (((some a).getD (A.length:Int)).toNat-0) (List.drop 0 A)).length)*24≤140737488355328)::.p (([]:LL).length+(List.take (((some a).getD (A.length:Int)).toNat-0) (List.drop 0 A)).length≤9223372036854775807)::.p (Flat (List.take (((some a).getD (A.length:Int)).toNat-0) (List.drop 0 A)))::.u a::.p (0≤(some (a+1)).getD 0)::.p ((some (a+1)).getD 0≤none.getD (A.length:Int))::.p (none.getD (A.length:Int)≤(A.length:Int))::.p ((([]++List.take (((some a).getD (A.length:Int)).toNat-0) (List.drop 0 A)).length+(List.take (A.length-((some (a+1)).getD 0).toNat) (List.drop ((some (a+1)).getD 0).toNat A)).length)*24≤140737488355328)::.p (([]++List.take (((some a).getD (A.length:Int)).toNat-0) (List.drop 0 A)).length+(List.take (A.length-((some (a+1)).getD 0).toNat) (List.drop ((some (a+1)).getD 0).toNat A)).length≤9223372036854775807)::.p (Flat (List.take (A.length-((some (a+1)).getD 0).toNat) (List.drop ((some (a+1)).getD 0).toNat A)))::.x C d (wk E F G H J K L M)::.r 166 [.agg (wk E F G H J K L M),cI c] [cB s]::l
theorem qKb(h:Oo (y3h A a r f c q b C F G H J K L M E s [.n s true,.a .sub,.x C b (wk F G H J K L M E),.g E [[I c,B q]] 16,.e C b.toNat (wk F G H J K L M E),.p ((wk F G H J K L M E)[7]?=some (D.sl 2 E)),.h [[I c,B q]],.p (C=C),.p (C=C),.p (b.toNat=b.toNat),.p (E=E),.p (C=C),.p (C=C),.p (C=C),.p (C=C),.p (C=C),.p (b.toNat=b.toNat),.p (E=E),.x C b (wk F G H J K L M E),.p (b.toNat=b.toNat)])):
 Tp (qaa f246 0) (qdc b a N d e C P Q A r) .ret (qj7 true N d e (C.set b.toNat (wk F G H J K L M (E++[[I c,B q]]))) P Q ([]++List.take (((some a).getD (A.length:Int)).toNat-0) (List.drop 0 A)++List.take (A.length-((some (a+1)).getD 0).toNat) (List.drop ((some (a+1)).getD 0).toNat A)) r):=
 h.lp [4,0] [1000000000]
theorem qKc(h:Oo (y3h A a q e f s b C H J K L M N P Q r [.n r false])):
 Tp (qaa f246 0) (qdc b a E c d C F G A q) .ret (qj7 true E c d C F G ([]++List.take (((some a).getD (A.length:Int)).toNat-0) (List.drop 0 A)++List.take (A.length-((some (a+1)).getD 0).toNat) (List.drop ((some (a+1)).getD 0).toNat A)) q):=
 h.lp [4,0] [1000000000]
def qna(A:LL)(a b:Int)(C E F G:LL)(q:Bool):St:=
 { env:=envOf 93 [(0,vP 1000000000)],boxes:=[(1000000000,[lO 900000000 4 A,lI a,lI b,lO 900000003 8 C,lO 900000004 6 E,lO 900000005 5 F,lO 900000006 3 G,.sb q])] }
theorem qKd(h:Oo [.f A c true,.b q false]):
 Tp (qaa f246 0) (qdc d c C a b E F G A q) (.exit 0) (qna C a b E F G A q):=
 h.lp [0] [1000000000]
theorem qsy(h:Oo [.f A c false]):
 Tp (qaa f246 0) (qdc d c C a b E F G A q) (.exit 0) (qna C a b E F G A q):=
 h.lp [0] [1000000000]
theorem qKe(h:Oo [.l [] [5,0,1] [1000000000] (qaa f246 0) (qdc e 0 A a d J K L M r) .ret (qj7 s C b c E F G H q)]):
 Rr 246 [RA.ref [D.sl 4 A,I a,I d,D.sl 8 J,D.sl 6 K,D.sl 5 L,D.sl 3 M,B r] [D.sl 4 C,I b,I c,D.sl 8 E,D.sl 6 F,D.sl 5 G,D.sl 3 H,B q],RA.ro (cI e)] (RR.vals [cB s]):=
 h.ofR
theorem qnb(h:Oo [.l [] [5,0,1] [1000000000] (qaa f246 0) (qdc e 0 A a d H J K L r) (.exit 0) (qna M b c C E F G q)]):
 Rr 246 [RA.ref [D.sl 4 A,I a,I d,D.sl 8 H,D.sl 6 J,D.sl 5 K,D.sl 3 L,B r] [D.sl 4 M,I b,I c,D.sl 8 C,D.sl 6 E,D.sl 5 F,D.sl 3 G,B q],RA.ro (cI e)] (RR.vals [cB false]):=
 h.ofR
def qh2(a:Int)(q:Bool)(b:Int)(A:LL)(c d:Int)(C E F G:LL)(r:Bool):St:=
 { env:=envOf 52 [(0,vP 1000000000),(1,vI a),(2,.al (.one (.sb q))),(6,vI b)],boxes:=[(1000000000,[lO 900000000 4 A,lI c,lI d,lO 900000003 8 C,lO 900000004 6 E,lO 900000005 5 F,lO 900000006 3 G,.sb r])] }
theorem qKk(h:Oo [.f A a true,.g C [[I a,I b,B q]] 24,.h [[I a,I b,B q]],.u a]):
 Tp (qaa f274 0) (qh2 b q a E c d A F G C r) .normal (qh2 b q (a+1) E c d A F G (C++[[I a,I b,B q]]) r):=
 h.lp [6,0,1,2] [1000000000]
def qsz(A:LL)(a b:Int)(C E F G:LL)(q:Bool):St:=
 { env:=envOf 52 [(0,vP 1000000000)],boxes:=[(1000000000,[lO 900000000 4 A,lI a,lI b,lO 900000003 8 C,lO 900000004 6 E,lO 900000005 5 F,lO 900000006 3 G,.sb q])] }
theorem qKl(h:Oo [.f A a false]):
 Tp (qaa f274 0) (qh2 d r a C b c A E F G q) (.exit 0) (qsz C b c A E F G q):=
 h.lp [0] [1000000000]
theorem qKm(h:Oo [.a .sub,.p ((0:Int)≤0),.p (0<(A.length:Int)),.e A 0 (wk E F G H J K L C),.g C [[I a,B q]] 16,.e A 0 (wk E F G H J K L C),.p ((wk E F G H J K L C)[7]?=some (D.sl 2 C)),.h [[I a,B q]],.p (A=A),.p (A=A),.p (A=A),.p (A=A),.p (A=A),.p (0=0),.p (C=C),.p ((0:Int)≤0),.p (0<(A.length:Int)),.e A 0 (wk E F G H J K L C),.p (0=0),.l [] [6,0,1,2] [1000000000] (qaa f274 0) (qh2 a q 1 M b d (A.set 0 (wk E F G H J K L (C++[[I a,B q]]))) U V W s) (.exit 0) (qsz N c e P Q R S r)]):
 Rr 274 [RA.ref [D.sl 4 M,I b,I d,D.sl 8 A,D.sl 6 U,D.sl 5 V,D.sl 3 W,B s] [D.sl 4 N,I c,I e,D.sl 8 P,D.sl 6 Q,D.sl 5 R,D.sl 3 S,B r],RA.ro (cI a),RA.ro (cB q)] (RR.vals []):=
 h.ofR
theorem qKn(h:Oo [.n q true]):
 Rr 165 [RA.ref [D.sl 4 A,I a,I b,D.sl 8 C,D.sl 6 E,D.sl 5 F,D.sl 3 G,B q] [D.sl 4 A,I a,I b,D.sl 8 C,D.sl 6 E,D.sl 5 F,D.sl 3 G,B q],RA.ro (cI c)] (RR.vals [cB false]):=
 h.ofR
def y3i(q:Bool)(a:Int)(r:Bool)(l:List O):List O:=.n q false::.r 167 [cI a,cI 0,cI 3] [cB r]::l
theorem qKo(h:Oo (y3i q c r [.n r true])):
 Rr 165 [RA.ref [D.sl 4 A,I a,I b,D.sl 8 C,D.sl 6 E,D.sl 5 F,D.sl 3 G,B q] [D.sl 4 A,I a,I b,D.sl 8 C,D.sl 6 E,D.sl 5 F,D.sl 3 G,B q],RA.ro (cI c)] (RR.vals [cB false]):=
 h.ofR
def y3j(q:Bool)(a:Int)(r:Bool)(A:LL)(b c:Int)(C E F G:LL)(s:Bool)(l:List O):List O:=y3i q a r (.n r false::.r 44 [.agg (cl A b c C E F G),cI a] [cB s]::l)
theorem qKp(h:Oo (y3j q c s A a b C E F G r [.b r true])):
 Rr 165 [RA.ref [D.sl 4 A,I a,I b,D.sl 8 C,D.sl 6 E,D.sl 5 F,D.sl 3 G,B q] [D.sl 4 A,I a,I b,D.sl 8 C,D.sl 6 E,D.sl 5 F,D.sl 3 G,B q],RA.ro (cI c)] (RR.vals [cB false]):=
 h.ofR
def y3k(q:Bool)(a:Int)(r:Bool)(A:LL)(b c:Int)(C E F G:LL)(s t:Bool)(d e:Int)(u v:Bool)(H J K L M N P Q:LL)(w:Bool)(l:List O):List O:=y3j q a r A b c C E F G s (.b s false::.x F a [B t,I d,I e,B u,B v]::.a .sub::.x C d (wk H J K L M N P Q)::.r 49 [.agg (wk H J K L M N P Q),cI a] [cB w]::l)
theorem qKq(h:Oo (y3k q a t E b c A F C G r u d e v w H J K L M N P Q s [.n s true])):
 Rr 165 [RA.ref [D.sl 4 E,I b,I c,D.sl 8 A,D.sl 6 F,D.sl 5 C,D.sl 3 G,B q] [D.sl 4 E,I b,I c,D.sl 8 A,D.sl 6 F,D.sl 5 C,D.sl 3 G,B q],RA.ro (cI a)] (RR.vals [cB false]):=
 h.ofR
def y3l(q:Bool)(a:Int)(r:Bool)(A:LL)(b c:Int)(C E F G:LL)(s t:Bool)(d e:Int)(u v:Bool)(H J K L M N P Q:LL)(w:Bool)(f:Int)(l:List O):List O:=y3k q a r A b c C E F G s t d e u v H J K L M N P Q w (.n w false::.x M a [I f]::.v (e+f)::l)
theorem qKr(h:Oo (y3l q a v F c d A R C S r s b e w x U V W X G Y H Z t f [.n s true,.v ((A.length:Int)-1),.x H a [B u],.x C a [B y,I g,I i,B z,B q0],.a .sub,.p ((0:Int)≤0),.p (0<(A.length:Int)),.e A 0 (wk J K L M N E P Q),.x E a [B r0],.e A 0 (wk J K L M N E P Q),.p (b.toNat=0),.p (b.toNat=0),.p (0=0),.p (0=0),.p (b.toNat=0)])):
 Rr 165 [RA.ref [D.sl 4 F,I c,I d,D.sl 8 A,D.sl 6 R,D.sl 5 C,D.sl 3 S,B q] [D.sl 4 F,I c,I d,D.sl 8 (A.set 0 (wk J K L M N (E.set a.toNat [B false]) P Q)),D.sl 6 R,D.sl 5 (C.set a.toNat [B true,I ((A.length:Int)-1),I 0,B false,B u]),D.sl 3 S,B q],RA.ro (cI a)] (RR.vals [cB true]):=
 h.ofR
def y3m(q:Bool)(a:Int)(r:Bool)(A:LL)(b c:Int)(C E F G:LL)(s t:Bool)(d e:Int)(u v:Bool)(H J K L M N P Q:LL)(w:Bool)(f:Int)(x:Bool)(l:List O):List O:=y3l q a r A b c C E F G s t d e u v H J K L M N P Q w f (.n t false::.b (decide (d>0)) true::.r 167 [cI (e+f),cI (-1000000),cI 1000000] [cB x]::l)
theorem qKs(h:Oo (y3m q a v E b e A G C H r s c d w x J K L M F N P Q t f u [.n u true])):
 Rr 165 [RA.ref [D.sl 4 E,I b,I e,D.sl 8 A,D.sl 6 G,D.sl 5 C,D.sl 3 H,B q] [D.sl 4 E,I b,I e,D.sl 8 A,D.sl 6 G,D.sl 5 C,D.sl 3 H,B q],RA.ro (cI a)] (RR.vals [cB false]):=
 h.ofR
theorem qKt(h:Oo (y3m q b x N e f E P M Q r s a c t u F G H J A C K L v d w [.n w false,.v (a-1),.b t true,.b u true,.x M b [B y,I g,I i,B z,B q0],.a .sub,.x E a (wk F G H J A C K L),.x C b [B r0],.e E a.toNat (wk F G H J A C K L),.p (a.toNat=a.toNat),.p (a.toNat=a.toNat),.p (a.toNat=a.toNat),.p (a.toNat=a.toNat),.p (a.toNat=a.toNat)])):
 Rr 165 [RA.ref [D.sl 4 N,I e,I f,D.sl 8 E,D.sl 6 P,D.sl 5 M,D.sl 3 Q,B q] [D.sl 4 N,I e,I f,D.sl 8 (E.set a.toNat (wk F G H J A (C.set b.toNat [B false]) K L)),D.sl 6 P,D.sl 5 (M.set b.toNat [B true,I (a-1),I (c+d),B true,B true]),D.sl 3 Q,B q],RA.ro (cI b)] (RR.vals [cB true]):=
 h.ofR
theorem qKu(h:Oo (y3m q b y N e f F P M Q r s a c t u G H J K A C E L v d w [.n w false,.v (a-1),.b t true,.b u false,.x E b [B x],.x M b [B z,I g,I i,B q0,B r0],.a .sub,.x F a (wk G H J K A C E L),.x C b [B s0],.e F a.toNat (wk G H J K A C E L),.p (a.toNat=a.toNat),.p (a.toNat=a.toNat),.p (a.toNat=a.toNat),.p (a.toNat=a.toNat),.p (a.toNat=a.toNat)])):
 Rr 165 [RA.ref [D.sl 4 N,I e,I f,D.sl 8 F,D.sl 6 P,D.sl 5 M,D.sl 3 Q,B q] [D.sl 4 N,I e,I f,D.sl 8 (F.set a.toNat (wk G H J K A (C.set b.toNat [B false]) E L)),D.sl 6 P,D.sl 5 (M.set b.toNat [B true,I (a-1),I (c+d),B true,B x]),D.sl 3 Q,B q],RA.ro (cI b)] (RR.vals [cB true]):=
 h.ofR
theorem qKv(h:Oo (y3m q b y N e f E P M Q r s a c t u F G H J C A K L v d w [.n w false,.v (a-1),.b t false,.x A b [B x],.b u true,.x M b [B z,I g,I i,B q0,B r0],.a .sub,.x E a (wk F G H J C A K L),.x A b [B s0],.e E a.toNat (wk F G H J C A K L),.p (a.toNat=a.toNat),.p (a.toNat=a.toNat),.p (a.toNat=a.toNat),.p (a.toNat=a.toNat),.p (a.toNat=a.toNat),.p (a.toNat=a.toNat),.p (a.toNat=a.toNat)])):
 Rr 165 [RA.ref [D.sl 4 N,I e,I f,D.sl 8 E,D.sl 6 P,D.sl 5 M,D.sl 3 Q,B q] [D.sl 4 N,I e,I f,D.sl 8 (E.set a.toNat (wk F G H J C (A.set b.toNat [B false]) K L)),D.sl 6 P,D.sl 5 (M.set b.toNat [B true,I (a-1),I (c+d),B x,B true]),D.sl 3 Q,B q],RA.ro (cI b)] (RR.vals [cB true]):=
 h.ofR
theorem qKw(h:Oo (y3m q b z N e f F P M Q r s a c t u G H J K C A E L v d w [.n w false,.v (a-1),.b t false,.x A b [B x],.b u false,.x E b [B y],.x M b [B q0,I g,I i,B r0,B s0],.a .sub,.x F a (wk G H J K C A E L),.x A b [B t0],.e F a.toNat (wk G H J K C A E L),.p (a.toNat=a.toNat),.p (a.toNat=a.toNat),.p (a.toNat=a.toNat),.p (a.toNat=a.toNat),.p (a.toNat=a.toNat),.p (a.toNat=a.toNat),.p (a.toNat=a.toNat)])):
 Rr 165 [RA.ref [D.sl 4 N,I e,I f,D.sl 8 F,D.sl 6 P,D.sl 5 M,D.sl 3 Q,B q] [D.sl 4 N,I e,I f,D.sl 8 (F.set a.toNat (wk G H J K C (A.set b.toNat [B false]) E L)),D.sl 6 P,D.sl 5 (M.set b.toNat [B true,I (a-1),I (c+d),B x,B y]),D.sl 3 Q,B q],RA.ro (cI b)] (RR.vals [cB true]):=
 h.ofR
def y3n(q:Bool)(a:Int)(r:Bool)(A:LL)(b c:Int)(C E F G:LL)(s t:Bool)(d e:Int)(u v:Bool)(H J K L M N P Q:LL)(w:Bool)(f:Int)(x:Bool)(g i:Int)(y z:Bool)(l:List O):List O:=y3l q a r A b c C E F G s t d e u v H J K L M N P Q w f (.n t false::.b (decide (d>0)) false::.x F a [B x,I g,I i,B y,B z]::l)
theorem qKx(h:Oo (y3n t a y E d e C N A P u v b c q r Q R S U F G V W w f z j k q0 r0 [.n q true,.x G a [B x],.n x true,.b (c+f==0) true,.b r true,.a (.resR [some [D.sl 4 H,I g,I i,D.sl 8 J,D.sl 6 K,D.sl 5 L,D.sl 3 M,B s],none,none] (RR.vals [])),.p (RetR prog 274 [RA.ref [D.sl 4 E,I d,I e,D.sl 8 C,D.sl 6 N,D.sl 5 (A.set a.toNat [B false,I b,I c,B q,B r]),D.sl 3 P,B t] [D.sl 4 H,I g,I i,D.sl 8 J,D.sl 6 K,D.sl 5 L,D.sl 3 M,B s],RA.ro (cI a),RA.ro (cB true)] (RR.vals []))])):
 Rr 165 [RA.ref [D.sl 4 E,I d,I e,D.sl 8 C,D.sl 6 N,D.sl 5 A,D.sl 3 P,B t] [D.sl 4 H,I g,I i,D.sl 8 J,D.sl 6 K,D.sl 5 L,D.sl 3 M,B s],RA.ro (cI a)] (RR.vals [cB true]):=
 h.ofR
theorem qKy(h:Oo (y3n t a z E d e C P A Q u v b c q r R S U V F G H W w f q0 j k r0 s0 [.n q true,.x G a [B x],.n x true,.b (c+f==0) true,.b r false,.x H a [B y],.a (.resR [some [D.sl 4 J,I g,I i,D.sl 8 K,D.sl 6 L,D.sl 5 M,D.sl 3 N,B s],none,none] (RR.vals [])),.p (RetR prog 274 [RA.ref [D.sl 4 E,I d,I e,D.sl 8 C,D.sl 6 P,D.sl 5 (A.set a.toNat [B false,I b,I c,B q,B r]),D.sl 3 Q,B t] [D.sl 4 J,I g,I i,D.sl 8 K,D.sl 6 L,D.sl 5 M,D.sl 3 N,B s],RA.ro (cI a),RA.ro (cB y)] (RR.vals []))])):
 Rr 165 [RA.ref [D.sl 4 E,I d,I e,D.sl 8 C,D.sl 6 P,D.sl 5 A,D.sl 3 Q,B t] [D.sl 4 J,I g,I i,D.sl 8 K,D.sl 6 L,D.sl 5 M,D.sl 3 N,B s],RA.ro (cI a)] (RR.vals [cB true]):=
 h.ofR
theorem qKz(h:Oo (y3n r a x E d e C H A J s t b c q u K L M N F G P Q v f y g i z q0 [.n q true,.x G a [B w],.n w true,.b (c+f==0) false])):
 Rr 165 [RA.ref [D.sl 4 E,I d,I e,D.sl 8 C,D.sl 6 H,D.sl 5 A,D.sl 3 J,B r] [D.sl 4 E,I d,I e,D.sl 8 C,D.sl 6 H,D.sl 5 (A.set a.toNat [B false,I b,I c,B q,B u]),D.sl 3 J,B r],RA.ro (cI a)] (RR.vals [cB true]):=
 h.ofR
theorem qKA(h:Oo (y3n r a x E c e C H A J s t b d q u K L M N F G P Q v f y g i z q0 [.n q true,.x G a [B w],.n w false])):
 Rr 165 [RA.ref [D.sl 4 E,I c,I e,D.sl 8 C,D.sl 6 H,D.sl 5 A,D.sl 3 J,B r] [D.sl 4 E,I c,I e,D.sl 8 C,D.sl 6 H,D.sl 5 (A.set a.toNat [B false,I b,I d,B q,B u]),D.sl 3 J,B r],RA.ro (cI a)] (RR.vals [cB true]):=
 h.ofR
theorem qKB(h:Oo (y3n r a w E c e C G A H s t b d q u J K L M F N P Q v f x g i y z [.n q false])):
 Rr 165 [RA.ref [D.sl 4 E,I c,I e,D.sl 8 C,D.sl 6 G,D.sl 5 A,D.sl 3 H,B r] [D.sl 4 E,I c,I e,D.sl 8 C,D.sl 6 G,D.sl 5 (A.set a.toNat [B false,I b,I d,B q,B u]),D.sl 3 H,B r],RA.ro (cI a)] (RR.vals [cB true]):=
 h.ofR
theorem spec_TokenStep_p0(h:Oo [.a (.resR [none] (RR.new [D.sl 4 M,I d,I a,D.sl 8 A,D.sl 6 C,D.sl 5 E,D.sl 3 F,B q])),.a (.resR [some [D.sl 4 G,I b,I c,D.sl 8 H,D.sl 6 J,D.sl 5 K,D.sl 3 L,B s],none] (RR.vals [cB r])),.p (RetR prog 127 [RA.ro (.agg (cl N e f P Q R S))] (RR.new [D.sl 4 M,I d,I a,D.sl 8 A,D.sl 6 C,D.sl 5 E,D.sl 3 F,B q])),.p (RetR prog 165 [RA.ref [D.sl 4 M,I d,I a,D.sl 8 A,D.sl 6 C,D.sl 5 E,D.sl 3 F,B q] [D.sl 4 G,I b,I c,D.sl 8 H,D.sl 6 J,D.sl 5 K,D.sl 3 L,B s],RA.ro (cI g)] (RR.vals [cB r]))]):
 Rt 42 [.agg (cl N e f P Q R S),cI g] [.agg (cl G b c H J K L),cB r]:=
 h.of
def y3o(A:LL)(a b:Int)(C E F G H:LL)(c d:Int)(J K L M:LL)(q:Bool)(l:List O):List O:=.r 152 [.agg (cl A a b C E F G)] [.agg (cl H c d J K L M)]::.r 55 [.agg (cl A a b C E F G)] [cB q]::l
theorem qKC(h:Oo (y3o A a b C E F G M d c H J K L q [.n q true])):
 Rt 41 [.agg (cl A a b C E F G),cI e] [.agg (cl M d c H J K L),cB false]:=
 h.of
def y3p(A:LL)(a b:Int)(C E F G H:LL)(c d:Int)(J K L M:LL)(q:Bool)(e:Int)(r:Bool)(l:List O):List O:=y3o A a b C E F G H c d J K L M q (.n q false::.r 158 [cI e,cI 0,cI 3] [cB r]::l)
theorem qKD(h:Oo (y3p A a b C E F G M e c H J K L q d r [.n r true])):
 Rt 41 [.agg (cl A a b C E F G),cI d] [.agg (cl M e c H J K L),cB false]:=
 h.of
def y3q(A:LL)(a b:Int)(C E F G H:LL)(c d:Int)(J K L M:LL)(q:Bool)(e:Int)(r:Bool)(N P Q R S U V X:LL)(s:Bool)(l:List O):List O:=y3p A a b C E F G H c d J K L M q e r (.n r false::.p ((0:Int)≤0)::.p (0<(C.length:Int))::.e C 0 (wk N P Q R S U V X)::.r 163 [.agg (wk N P Q R S U V X),cI e] [cB s]::l)
theorem qKE(h:Oo (y3q C a b A E F G W e d H J K L q c r M N P Q R S U V s [.b s true])):
 Rt 41 [.agg (cl C a b A E F G),cI c] [.agg (cl W e d H J K L),cB false]:=
 h.of
def y3r(A:LL)(a b:Int)(C E F G H:LL)(c d:Int)(J K L M:LL)(q:Bool)(e:Int)(r:Bool)(N P Q R S U V X:LL)(s t:Bool)(f g:Int)(u v:Bool)(Y Z A1 C1 E1 F1 G1 H1:LL)(w:Bool)(l:List O):List O:=y3q A a b C E F G H c d J K L M q e r N P Q R S U V X s (.b s false::.x L e [B t,I f,I g,B u,B v]::.a .sub::.x J f (wk Y Z A1 C1 E1 F1 G1 H1)::.r 164 [.agg (wk Y Z A1 C1 E1 F1 G1 H1),cI e] [cB w]::l)
theorem qKF(h:Oo (y3r C b c A G H J G0 f d E K F L q a r M N P Q R S U V s u e g v w W X Y Z A0 C0 E0 F0 t [.n t true])):
 Rt 41 [.agg (cl C b c A G H J),cI a] [.agg (cl G0 f d E K F L),cB false]:=
 h.of
def y3s(A:LL)(a b:Int)(C E F G H:LL)(c d:Int)(J K L M:LL)(q:Bool)(e:Int)(r:Bool)(N P Q R S U V X:LL)(s t:Bool)(f g:Int)(u v:Bool)(Y Z A1 C1 E1 F1 G1 H1:LL)(w x:Bool)(i j:Int)(y z:Bool)(l:List O):List O:=y3r A a b C E F G H c d J K L M q e r N P Q R S U V X s t f g u v Y Z A1 C1 E1 F1 G1 H1 w (.n w false::.e L e.toNat [B x,I i,I j,B y,B z]::l)
theorem qKG(h:Oo (y3s P c d A Q R S G0 f e F U N V q b r W X Y Z A0 C0 E0 F0 s w a g x y G H J K L C E M t u i j z q0 [.n u true,.a .sub,.e F a.toNat (wk G H J K L C E M),.x E b [B v],.v ((A.length:Int)-1),.e N b.toNat [B r0,I k,I l,B s0,B t0],.a .sub,.e F a.toNat (wk G H J K L C E M),.x C b [B u0],.e F a.toNat (wk G H J K L C E M),.p (a.toNat=a.toNat),.p (a.toNat=a.toNat),.p (a.toNat=a.toNat)])):
 Rt 41 [.agg (cl P c d A Q R S),cI b] [.agg (cl G0 f e (F.set a.toNat (wk G H J K L (C.set b.toNat [B false]) E M)) U (N.set b.toNat [B true,I ((A.length:Int)-1),I 0,B false,B v]) V),cB true]:=
 h.of
def y3t(A:LL)(a b:Int)(C E F G H:LL)(c d:Int)(J K L M:LL)(q:Bool)(e:Int)(r:Bool)(N P Q R S U V X:LL)(s t:Bool)(f g:Int)(u v:Bool)(Y Z A1 C1 E1 F1 G1 H1:LL)(w x:Bool)(i j:Int)(y z q1:Bool)(k m:Int)(r1 s1:Bool)(l:List O):List O:=y3s A a b C E F G H c d J K L M q e r N P Q R S U V X s t f g u v Y Z A1 C1 E1 F1 G1 H1 w x i j y z (.n x false::.e L e.toNat [B q1,I k,I m,B r1,B s1]::l)
def y3u(A:LL)(a b:Int)(C E F G H:LL)(c d:Int)(J K L M:LL)(q:Bool)(e:Int)(r:Bool)(N P Q R S U V X:LL)(s t:Bool)(f g:Int)(u v:Bool)(Y Z A1 C1 E1 F1 G1 H1:LL)(w x:Bool)(i j:Int)(y z q1:Bool)(k m:Int)(r1 s1 t1:Bool)(n o:Int)(u1 v1:Bool)(p:Int)(w1:Bool)(l:List O):List O:=y3t A a b C E F G H c d J K L M q e r N P Q R S U V X s t f g u v Y Z A1 C1 E1 F1 G1 H1 w x i j y z q1 k m r1 s1 (.b (decide (k>0)) true::.e L e.toNat [B t1,I n,I o,B u1,B v1]::.a .sub::.e J f.toNat (wk Y Z A1 C1 E1 F1 G1 H1)::.x E1 e [I p]::.v (o+p)::.r 158 [cI (o+p),cI (-1000000),cI 1000000] [cB w1]::l)
theorem qKH(h:Oo (y3u G b c C Q R S G0 j g E U A V q a r W X Y Z A0 C0 E0 F0 s w d k x y H J K L F M N P t u l m z q0 r0 i n s0 t0 u0 o e v0 w0 f v [.n v true])):
 Rt 41 [.agg (cl G b c C Q R S),cI a] [.agg (cl G0 j g E U A V),cB false]:=
 h.of
def y3v(A:LL)(a b:Int)(C E F G H:LL)(c d:Int)(J K L M:LL)(q:Bool)(e:Int)(r:Bool)(N P Q R S U V X:LL)(s t:Bool)(f g:Int)(u v:Bool)(Y Z A1 C1 E1 F1 G1 H1:LL)(w x:Bool)(i j:Int)(y z q1:Bool)(k m:Int)(r1 s1 t1:Bool)(n o:Int)(u1 v1:Bool)(p:Int)(w1 x1:Bool)(a1 b1:Int)(y1 z1:Bool)(c1:Int)(q2:Bool)(d1 e1:Int)(r2 s2 t2:Bool)(f1 g1:Int)(u2 v2:Bool)(l:List O):List O:=y3u A a b C E F G H c d J K L M q e r N P Q R S U V X s t f g u v Y Z A1 C1 E1 F1 G1 H1 w x i j y z q1 k m r1 s1 t1 n o u1 v1 p w1 (.n w1 false::.e L e.toNat [B x1,I a1,I b1,B y1,B z1]::.a .sub::.e J f.toNat (wk Y Z A1 C1 E1 F1 G1 H1)::.x E1 e [I c1]::.v (b1+c1)::.e L e.toNat [B q2,I d1,I e1,B r2,B s2]::.e (L.set e.toNat [B q2,I d1,I (b1+c1),B r2,B s2]) e.toNat [B t2,I f1,I g1,B u2,B v2]::l)
theorem qKI(h:Oo (y3v P k l N Q R S G0 b0 p F U A V x a y W X Y Z A0 C0 E0 F0 z y0 b d0 z0 q1 G H J K C E L M q0 r0 e0 f0 r1 s1 t1 a0 g0 u1 v1 w1 i0 m x1 y1 n s0 z1 j0 c q2 r2 d q e k0 r s s2 l0 m0 t0 t2 [.b t0 true,.e (A.set a.toNat [B q,I e,I (c+d),B r,B s]) a.toNat [B t,I f,I g,B u2,B u],.e ((A.set a.toNat [B q,I e,I (c+d),B r,B s]).set a.toNat [B t,I f,I g,B true,B u]) a.toNat [B v2,I n0,I o0,B w2,B u0],.b u0 true,.e ((A.set a.toNat [B q,I e,I (c+d),B r,B s]).set a.toNat [B t,I f,I g,B true,B u]) a.toNat [B v,I i,I j,B w,B x2],.a .sub,.e F b.toNat (wk G H J K C E L M),.x E a [B y2],.e F b.toNat (wk G H J K C E L M),.p (b.toNat=b.toNat),.p (b.toNat=b.toNat),.p (b.toNat=b.toNat),.e (((A.set a.toNat [B q,I e,I (c+d),B r,B s]).set a.toNat [B t,I f,I g,B true,B u]).set a.toNat [B v,I i,I j,B w,B true]) a.toNat [B z2,I o,I p0,B q3,B r3],.v (o-1),.e (((A.set a.toNat [B q,I e,I (c+d),B r,B s]).set a.toNat [B t,I f,I g,B true,B u]).set a.toNat [B v,I i,I j,B w,B true]) a.toNat [B v0,I a1,I c0,B w0,B x0]])):
 Rt 41 [.agg (cl P k l N Q R S),cI a] [.agg [D.sl 4 G0,I b0,I p,D.sl 8 (F.set b.toNat (wk G H J K C (E.set a.toNat [B false]) L M)),D.sl 6 U,D.sl 5 ((((A.set a.toNat [B q,I e,I (c+d),B r,B s]).set a.toNat [B t,I f,I g,B true,B u]).set a.toNat [B v,I i,I j,B w,B true]).set a.toNat [B v0,I (o-1),I c0,B w0,B x0]),D.sl 3 V],cB true]:=
 h.of
theorem qKJ(h:Oo (y3v P k l N Q R S G0 b0 p G U A V y a z W X Y Z A0 C0 E0 F0 q0 z0 b d0 q1 r1 H J K L C E F M r0 s0 e0 f0 s1 t1 u1 a0 g0 v1 w1 x1 i0 m y1 z1 n t0 q2 j0 c r2 s2 d q e k0 r s t2 l0 m0 u0 u2 [.b u0 true,.e (A.set a.toNat [B q,I e,I (c+d),B r,B s]) a.toNat [B t,I f,I g,B v2,B u],.e ((A.set a.toNat [B q,I e,I (c+d),B r,B s]).set a.toNat [B t,I f,I g,B true,B u]) a.toNat [B w2,I n0,I o0,B x2,B v0],.b v0 false,.a .sub,.e G b.toNat (wk H J K L C E F M),.x F a [B v],.e ((A.set a.toNat [B q,I e,I (c+d),B r,B s]).set a.toNat [B t,I f,I g,B true,B u]) a.toNat [B w,I i,I j,B x,B y2],.a .sub,.e G b.toNat (wk H J K L C E F M),.x E a [B z2],.e G b.toNat (wk H J K L C E F M),.p (b.toNat=b.toNat),.p (b.toNat=b.toNat),.p (b.toNat=b.toNat),.e (((A.set a.toNat [B q,I e,I (c+d),B r,B s]).set a.toNat [B t,I f,I g,B true,B u]).set a.toNat [B w,I i,I j,B x,B v]) a.toNat [B q3,I o,I p0,B r3,B s3],.v (o-1),.e (((A.set a.toNat [B q,I e,I (c+d),B r,B s]).set a.toNat [B t,I f,I g,B true,B u]).set a.toNat [B w,I i,I j,B x,B v]) a.toNat [B w0,I a1,I c0,B x0,B y0]])):
 Rt 41 [.agg (cl P k l N Q R S),cI a] [.agg [D.sl 4 G0,I b0,I p,D.sl 8 (G.set b.toNat (wk H J K L C (E.set a.toNat [B false]) F M)),D.sl 6 U,D.sl 5 ((((A.set a.toNat [B q,I e,I (c+d),B r,B s]).set a.toNat [B t,I f,I g,B true,B u]).set a.toNat [B w,I i,I j,B x,B v]).set a.toNat [B w0,I (o-1),I c0,B x0,B y0]),D.sl 3 V],cB true]:=
 h.of
theorem qKK(h:Oo (y3v P k l N Q R S G0 b0 p F U A V y a z W X Y Z A0 C0 E0 F0 q0 z0 b d0 q1 r1 G H J K C E L M r0 s0 e0 f0 s1 t1 u1 a0 g0 v1 w1 x1 i0 m y1 z1 n t0 q2 j0 c r2 s2 d q e k0 r s t2 l0 m0 u0 u2 [.b u0 false,.a .sub,.e F b.toNat (wk G H J K C E L M),.x E a [B t],.e (A.set a.toNat [B q,I e,I (c+d),B r,B s]) a.toNat [B u,I f,I g,B v2,B v],.e ((A.set a.toNat [B q,I e,I (c+d),B r,B s]).set a.toNat [B u,I f,I g,B t,B v]) a.toNat [B w2,I n0,I o0,B x2,B v0],.b v0 true,.e ((A.set a.toNat [B q,I e,I (c+d),B r,B s]).set a.toNat [B u,I f,I g,B t,B v]) a.toNat [B w,I i,I j,B x,B y2],.a .sub,.e F b.toNat (wk G H J K C E L M),.x E a [B z2],.e F b.toNat (wk G H J K C E L M),.p (b.toNat=b.toNat),.p (b.toNat=b.toNat),.p (b.toNat=b.toNat),.p (b.toNat=b.toNat),.p (b.toNat=b.toNat),.e (((A.set a.toNat [B q,I e,I (c+d),B r,B s]).set a.toNat [B u,I f,I g,B t,B v]).set a.toNat [B w,I i,I j,B x,B true]) a.toNat [B q3,I o,I p0,B r3,B s3],.v (o-1),.e (((A.set a.toNat [B q,I e,I (c+d),B r,B s]).set a.toNat [B u,I f,I g,B t,B v]).set a.toNat [B w,I i,I j,B x,B true]) a.toNat [B w0,I a1,I c0,B x0,B y0]])):
 Rt 41 [.agg (cl P k l N Q R S),cI a] [.agg [D.sl 4 G0,I b0,I p,D.sl 8 (F.set b.toNat (wk G H J K C (E.set a.toNat [B false]) L M)),D.sl 6 U,D.sl 5 ((((A.set a.toNat [B q,I e,I (c+d),B r,B s]).set a.toNat [B u,I f,I g,B t,B v]).set a.toNat [B w,I i,I j,B x,B true]).set a.toNat [B w0,I (o-1),I c0,B x0,B y0]),D.sl 3 V],cB true]:=
 h.of
theorem qKL(h:Oo (y3v P k l N Q R S G0 b0 p G U A V q0 a r0 W X Y Z A0 C0 E0 F0 s0 q1 b d0 r1 s1 H J K L C E F M t0 u0 e0 f0 t1 u1 v1 a0 g0 w1 x1 y1 i0 m z1 q2 n v0 r2 j0 c s2 t2 d q e k0 r s u2 l0 m0 w0 v2 [.b w0 false,.a .sub,.e G b.toNat (wk H J K L C E F M),.x E a [B t],.e (A.set a.toNat [B q,I e,I (c+d),B r,B s]) a.toNat [B u,I f,I g,B w2,B v],.e ((A.set a.toNat [B q,I e,I (c+d),B r,B s]).set a.toNat [B u,I f,I g,B t,B v]) a.toNat [B x2,I n0,I o0,B y2,B x0],.b x0 false,.a .sub,.e G b.toNat (wk H J K L C E F M),.x F a [B w],.e ((A.set a.toNat [B q,I e,I (c+d),B r,B s]).set a.toNat [B u,I f,I g,B t,B v]) a.toNat [B x,I i,I j,B y,B z2],.a .sub,.e G b.toNat (wk H J K L C E F M),.x E a [B q3],.e G b.toNat (wk H J K L C E F M),.p (b.toNat=b.toNat),.p (b.toNat=b.toNat),.p (b.toNat=b.toNat),.p (b.toNat=b.toNat),.p (b.toNat=b.toNat),.e (((A.set a.toNat [B q,I e,I (c+d),B r,B s]).set a.toNat [B u,I f,I g,B t,B v]).set a.toNat [B x,I i,I j,B y,B w]) a.toNat [B r3,I o,I p0,B s3,B t3],.v (o-1),.e (((A.set a.toNat [B q,I e,I (c+d),B r,B s]).set a.toNat [B u,I f,I g,B t,B v]).set a.toNat [B x,I i,I j,B y,B w]) a.toNat [B y0,I a1,I c0,B z0,B z]])):
 Rt 41 [.agg (cl P k l N Q R S),cI a] [.agg [D.sl 4 G0,I b0,I p,D.sl 8 (G.set b.toNat (wk H J K L C (E.set a.toNat [B false]) F M)),D.sl 6 U,D.sl 5 ((((A.set a.toNat [B q,I e,I (c+d),B r,B s]).set a.toNat [B u,I f,I g,B t,B v]).set a.toNat [B x,I i,I j,B y,B w]).set a.toNat [B y0,I (o-1),I c0,B z0,B z]),D.sl 3 V],cB true]:=
 h.of
def qgF(a b:Int)(H:LL)(f g:Int)(J K L M:LL)(i c:Int)(A:LL)(d e:Int)(C E F G:LL):St:=
 { env:=envOf 229 [(1,vI a),(2,vP 2),(4,vP 4),(6,vP 6),(9,.al (.one (.sb true))),(10,vI b)],boxes:=[(6,[lO 130000 4 H,lI f,lI g,lO 130003 8 J,lO 130004 6 K,lO 130005 5 L,lO 130006 3 M]),(4,[.v (sn),lI i,lI c,.v (sn),.v (sn),.v (sn),.v (sn)]),(2,[.sl .free 4 A,lI d,lI e,.sl .free 8 C,.sl .free 6 E,.sl .free 5 F,.sl .free 3 G])] }
theorem qKM(h:Oo [.f C a true,.g A [[I a,I b,B true]] 24,.h [[I a,I b,B true]],.u a]):
 Tp (qaa f41 0) (qgF b a E c d F G H A e f J g i C K L M) .normal (qgF b (a+1) E c d F G H (A++[[I a,I b,B true]]) e f J g i C K L M):=
 h.lp [10,2,6,1,9,4] [6,4,2]
def qgG(A:LL)(a b:Int)(C E F G:LL)(c d:Int):St:=
 { env:=envOf 229 [(4,vP 4),(6,vP 6)],boxes:=[(6,[lO 130000 4 A,lI a,lI b,lO 130003 8 C,lO 130004 6 E,lO 130005 5 F,lO 130006 3 G]),(4,[.v (sn),lI c,lI d,.v (sn),.v (sn),.v (sn),.v (sn)])] }
theorem qKN(h:Oo [.f H a false]):
 Tp (qaa f41 0) (qgF f a A b c C E F G d e J g i H K L M) (.exit 1) (qgG A b c C E F G d e):=
 h.lp [6,4] [6,4]
def y3w(A:LL)(a b:Int)(C E F G H:LL)(c d:Int)(J K L M:LL)(q:Bool)(e:Int)(r:Bool)(N P Q R S U V X:LL)(s t:Bool)(f g:Int)(u v:Bool)(Y Z A1 C1 E1 F1 G1 H1:LL)(w x:Bool)(i j:Int)(y z q1:Bool)(k m:Int)(r1 s1 t1:Bool)(n o:Int)(u1 v1 w1:Bool)(p a1:Int)(x1 y1:Bool)(l:List O):List O:=y3t A a b C E F G H c d J K L M q e r N P Q R S U V X s t f g u v Y Z A1 C1 E1 F1 G1 H1 w x i j y z q1 k m r1 s1 (.b (decide (k>0)) false::.e L e.toNat [B t1,I n,I o,B u1,B v1]::.e (L.set e.toNat [B false,I n,I o,B u1,B v1]) e.toNat [B w1,I p,I a1,B x1,B y1]::l)
def y3x(A:LL)(a b:Int)(C E F G H:LL)(c d:Int)(J K L M:LL)(q:Bool)(e:Int)(r:Bool)(N P Q R S U V X:LL)(s t:Bool)(f g:Int)(u v:Bool)(Y Z A1 C1 E1 F1 G1 H1:LL)(w x:Bool)(i j:Int)(y z q1:Bool)(k m:Int)(r1 s1 t1:Bool)(n o:Int)(u1 v1 w1:Bool)(p a1:Int)(x1 y1 z1 q2:Bool)(b1 c1:Int)(r2 s2:Bool)(d1:Int)(l:List O):List O:=y3w A a b C E F G H c d J K L M q e r N P Q R S U V X s t f g u v Y Z A1 C1 E1 F1 G1 H1 w x i j y z q1 k m r1 s1 t1 n o u1 v1 w1 p a1 x1 y1 (.n x1 true::.a .sub::.e J f.toNat (wk Y Z A1 C1 E1 F1 G1 H1)::.x F1 e [B z1]::.n z1 true::.e (L.set e.toNat [B false,I n,I o,B u1,B v1]) e.toNat [B q2,I b1,I c1,B r2,B s2]::.a .sub::.e J f.toNat (wk Y Z A1 C1 E1 F1 G1 H1)::.x E1 e [I d1]::.v (c1+d1)::l)
theorem qKO(h:Oo (y3x P e f N Q R S M0 n j M U F V s a t W X Y Z A0 C0 E0 F0 u q0 b o r0 s0 G H J K C E L A v w p a0 t0 u0 v0 k b0 w0 x0 y0 c d q r z0 c0 d0 x q1 y r1 e0 g s1 t1 i [.b (g+i==0) true,.e (F.set a.toNat [B false,I c,I d,B q,B r]) a.toNat [B u1,I f0,I g0,B v1,B z],.b z true,.a .sub,.e M b.toNat (wk G H J K C E L A),.g A [[I a,B true]] 16,.e M b.toNat (wk G H J K C E L A),.p ((wk G H J K C E L A)[7]?=some (D.sl 2 A)),.p (b.toNat=b.toNat),.p (b.toNat=b.toNat),.h [[I a,B true]],.e M b.toNat (wk G H J K C E L A),.p (b.toNat=b.toNat),.l [] [10,2,6,1,9,4] [6,4,2] (qaa f41 0) (qgF a 1 M0 n j (M.set b.toNat (wk G H J K C E L (A++[[I a,B true]]))) U (F.set a.toNat [B false,I c,I d,B q,B r]) V 0 0 P e f N Q R S) (.exit 1) (qgG G0 l m H0 J0 K0 L0 i0 j0)])):
 Rt 41 [.agg (cl P e f N Q R S),cI a] [.agg (cl G0 l m H0 J0 K0 L0),cB true]:=
 h.of
def qgH(a:Int)(q:Bool)(f:Int)(H:LL)(g i:Int)(J K L M:LL)(b c:Int)(A:LL)(d e:Int)(C E F G:LL):St:=
 { env:=envOf 229 [(1,vI a),(2,vP 2),(4,vP 4),(6,vP 6),(9,.al (.one (.sb q))),(10,vI f)],boxes:=[(6,[lO 130000 4 H,lI g,lI i,lO 130003 8 J,lO 130004 6 K,lO 130005 5 L,lO 130006 3 M]),(4,[.v (sn),lI b,lI c,.v (sn),.v (sn),.v (sn),.v (sn)]),(2,[.sl .free 4 A,lI d,lI e,.sl .free 8 C,.sl .free 6 E,.sl .free 5 F,.sl .free 3 G])] }
theorem qKP(h:Oo [.f C a true,.g A [[I a,I b,B q]] 24,.h [[I a,I b,B q]],.u a]):
 Tp (qaa f41 0) (qgH b q a E c d F G H A e f J g i C K L M) .normal (qgH b q (a+1) E c d F G H (A++[[I a,I b,B q]]) e f J g i C K L M):=
 h.lp [10,2,6,1,9,4] [6,4,2]
theorem qKQ(h:Oo [.f H a false]):
 Tp (qaa f41 0) (qgH f q a A b c C E F G d e J g i H K L M) (.exit 1) (qgG A b c C E F G d e):=
 h.lp [6,4] [6,4]
theorem qKR(h:Oo (y3x P e f N Q R S M0 n j L U M V t a u W X Y Z A0 C0 E0 F0 v r0 b o s0 t0 G H J K C E F A w x p a0 u0 v0 w0 k b0 x0 y0 z0 c d q r q1 c0 d0 y r1 z s1 e0 g t1 u1 i [.b (g+i==0) true,.e (M.set a.toNat [B false,I c,I d,B q,B r]) a.toNat [B v1,I f0,I g0,B w1,B q0],.b q0 false,.a .sub,.e L b.toNat (wk G H J K C E F A),.x F a [B s],.a .sub,.e L b.toNat (wk G H J K C E F A),.g A [[I a,B s]] 16,.e L b.toNat (wk G H J K C E F A),.p ((wk G H J K C E F A)[7]?=some (D.sl 2 A)),.p (b.toNat=b.toNat),.p (b.toNat=b.toNat),.h [[I a,B s]],.e L b.toNat (wk G H J K C E F A),.p (b.toNat=b.toNat),.l [] [10,2,6,1,9,4] [6,4,2] (qaa f41 0) (qgH a s 1 M0 n j (L.set b.toNat (wk G H J K C E F (A++[[I a,B s]]))) U (M.set a.toNat [B false,I c,I d,B q,B r]) V 0 0 P e f N Q R S) (.exit 1) (qgG G0 l m H0 J0 K0 L0 i0 j0)])):
 Rt 41 [.agg (cl P e f N Q R S),cI a] [.agg (cl G0 l m H0 J0 K0 L0),cB true]:=
 h.of
theorem qKS(h:Oo (y3x P e f E Q R S G0 l j C U A V s a t W X Y Z A0 C0 E0 F0 u z b m q0 r0 H J K L F G M N v w n o s0 t0 u0 k p v0 w0 x0 c d q r y0 a0 b0 x z0 y q1 c0 g r1 s1 i [.b (g+i==0) false])):
 Rt 41 [.agg (cl P e f E Q R S),cI a] [.agg (cl G0 l j C U (A.set a.toNat [B false,I c,I d,B q,B r]) V),cB true]:=
 h.of
theorem qKT(h:Oo (y3w G b c C Q R S G0 j g E U A V s a t W X Y Z A0 C0 E0 F0 u z d k q0 r0 H J K L M F N P v w l m s0 t0 u0 i n v0 w0 x0 e f q r y0 o p x z0 [.n x true,.a .sub,.e E d.toNat (wk H J K L M F N P),.x F a [B y],.n y false])):
 Rt 41 [.agg (cl G b c C Q R S),cI a] [.agg (cl G0 j g E U (A.set a.toNat [B false,I e,I f,B q,B r]) V),cB true]:=
 h.of
theorem qKU(h:Oo (y3w E b c C G H J G0 j f F K A L s a t M N P Q R S U V u y g k z q0 W X Y Z A0 C0 E0 F0 v w l m r0 s0 t0 i n u0 v0 w0 d e q r x0 o p x y0 [.n x false])):
 Rt 41 [.agg (cl E b c C G H J),cI a] [.agg (cl G0 j f F K (A.set a.toNat [B false,I d,I e,B q,B r]) L),cB true]:=
 h.of
theorem qKV(h:Oo [.b (decide ((A.length:Int)>0)) true,.p ((0:Int)≤0),.p (0<(A.length:Int)),.e A 0 (wk K L C E F G H J),.r 166 [.agg (wk K L C E F G H J),cI a] [cB q]]):
 Rt 44 [.agg (cl M b c A N P Q),cI a] [cB q]:=
 h.of
theorem spec_RoundsDone_p1(h:Oo [.b (decide ((A.length:Int)>0)) false]):
 Rt 44 [.agg (cl C a b A E F G),cI c] [cB false]:=
 h.of
def qfE(A C E F G H J K:LL)(a b:Int):St:=
 { env:=envOf 22 [(1,vI a),(2,vP 2),(5,vI b)],boxes:=[(2,[.sl .free 5 A,.sl .free 5 C,.sl .free 5 E,.sl .free 4 F,.sl .free 1 G,.sl .free 1 H,.sl .free 1 J,.sl .free 2 K])] }
def qnc(q:Bool):St:=
 { env:=envOf 22 [(4,.al (.one (.sb q)))],boxes:=[] }
theorem qKW(h:Oo [.i A c (ri d a e f g),.b (decide (a≤b)) true]):
 Tp (qaa f168 0) (qfE C E A F G H J K b c) .ret (qnc true):=
 h.lp [4] []
theorem qKX(h:Oo [.i A a (ri d c e f g),.b (decide (c≤b)) false,.u a]):
 Tp (qaa f168 0) (qfE C E A F G H J K b a) .normal (qfE C E A F G H J K b (a+1)):=
 h.lp [5,2,1] [2]
def qsA:St:=
 { env:=envOf 22 [],boxes:=[] }
theorem qKY(h:Oo [.f A a false]):
 Tp (qaa f168 0) (qfE C E A F G H J K b a) (.exit 0) qsA:=
 h.lp [] []
theorem qKZ(h:Oo [.l [] [5,2,1] [2] (qaa f168 0) (qfE A C E F G H J K a 0) .ret (qnc q)]):
 Rt 168 [.agg (wk A C E F G H J K),cI a] [cB q]:=
 h.of
theorem qK0(h:Oo [.l [] [5,2,1] [2] (qaa f168 0) (qfE A C E F G H J K a 0) (.exit 0) qsA]):
 Rt 168 [.agg (wk A C E F G H J K),cI a] [cB false]:=
 h.of
theorem qK1(h:Oo [.r 168 [.agg (wk A C E F G H J K),cI a] [cB q],.n q true,.r 169 [.agg (wk A C E F G H J K),cI a] [cI b]]):
 Rt 49 [.agg (wk A C E F G H J K),cI a] [cB (b==0)]:=
 h.of
theorem qK2(h:Oo [.r 168 [.agg (wk A C E F G H J K),cI a] [cB q],.n q false]):
 Rt 49 [.agg (wk A C E F G H J K),cI a] [cB false]:=
 h.of
theorem qK3(h:Oo [.r 185 [cS 5 E,cI a] [cS 5 C],.r 185 [cS 5 F,cI a] [cS 5 A],.v ((C.length:Int)+(A.length:Int))]):
 Rt 169 [.agg (wk E F G H J K L M),cI a] [cI ((C.length:Int)+(A.length:Int))]:=
 h.of
theorem qK4(h:Oo [.r 266 [cS 5 A,.one (.cl 319 [D.ptr [I a]])] [cB q]]):
 Rt 272 [.agg (wk C E A F G H J K),cI a] [cB q]:=
 h.of
theorem qK5(h:Oo []):
 Rt 319 [.agg (ri c a d e f),.one (.ptr [I b])] [cB (decide (a≤b))]:=
 h.of
theorem qK6(h:Oo [.r 272 [.agg (wk A C E F G H J K),cI a] [cB q],.n q true,.r 273 [.agg (wk A C E F G H J K),cI a] [cI b]]):
 Rt 164 [.agg (wk A C E F G H J K),cI a] [cB (b==0)]:=
 h.of
theorem qK7(h:Oo [.r 272 [.agg (wk A C E F G H J K),cI a] [cB q],.n q false]):
 Rt 164 [.agg (wk A C E F G H J K),cI a] [cB false]:=
 h.of
theorem qK8(h:Oo [.r 147 [cS 5 E,cI a] [cS 5 C],.r 147 [cS 5 F,cI a] [cS 5 A],.v ((C.length:Int)+(A.length:Int))]):
 Rt 273 [.agg (wk E F G H J K L M),cI a] [cI ((C.length:Int)+(A.length:Int))]:=
 h.of
