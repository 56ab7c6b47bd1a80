import Derived.Test.YtdanpadojemjeaaGreatRows
import Derived.Test.YtdanpadojemjeaaGreatGE
namespace Go.Proofs.YtdanpadojemjeaaGreat
open Go.Sx Go.RowKit Go.Proofs.Tryz
variable {a b c d e f g i j k l m n o p a0 a1 b0 b1 c0 d0 e0 f0 i0 j0 k0 l0 m0 n0 o0 p0 : Int} {A C E F G H J K L M N P Q R S U V W X Y Z A0 C0 E0 F0 G0 H0 J0 K0 L0 M0 : LL} {q r s t u v w x y z q0 q1 q2 q3 r0 r1 r2 r3 s0 s1 s2 s3 t0 t1 t2 t3 u0 u1 u2 v0 v1 v2 w0 w1 w2 x0 x1 x2 y0 y1 y2 z0 z1 z2 : Bool}
theorem qyT(h:Oo [.g ([]:LL) A 8,.h A]):
 Rt 194 [.agg (nd a b c A)] [.agg (nd a b c ([]++A))]:=
 h.of
def qgL(A:LL)(a:Int)(C:LL)(b c d e:Int):St:=
 { env:=envOf 27 [(2,vP 2),(3,vP 3),(12,vF 4 A),(13,vI (A.length:Int)),(14,vI a)],boxes:=[(3,[lO 23 4 C,lI b,lI c]),(2,[.v (sn),lI d,lI e])] }
theorem qyU(h:Oo [.b (decide (a<(A.length:Int))) true,.p (0≤a),.p (a<(A.length:Int)),.e A a.toNat (nd l e f F),.r 194 [.agg (nd l e f F)] [.agg (nd b c d C)],.a .wr,.g E [(nd b c d C)] 48,.u a]):
 Tp (qaa f119 0) (qgL A a E g i j k) .normal (qgL A (a+1) (E++[(nd b c d C)]) g i j k):=
 h.lp [14,13,12,3,2] [3,2]
def qot(A:LL)(a b c d:Int):St:=
 { env:=envOf 27 [(2,vP 2),(3,vP 3)],boxes:=[(3,[lO 23 4 A,lI a,lI b]),(2,[.v (sn),lI c,lI d])] }
theorem qyV(h:Oo [.b (decide (a<(A.length:Int))) false]):
 Tp (qaa f119 0) (qgL A a C b c d e) (.exit 0) (qot C b c d e):=
 h.lp [3,2] [3,2]
theorem qyW(h:Oo [.l [(4000000,23,4)] [14,13,12,3,2] [3,2] (qaa f119 0) (qgL A 0 [] a b 0 0) (.exit 0) (qot C c d e f)]):
 Rt 119 [.agg (gr A a b)] [.agg (gr C c d)]:=
 h.of
theorem qyX(h:Oo [.r 195 [cS 5 A] [cS 5 C]]):
 Rt 121 [.agg (lk a A b c d e)] [.agg (lk a C b c d e)]:=
 h.of
theorem qyY(h:Oo [.r 195 [cS 5 G] [cS 5 N],.r 195 [cS 5 H] [cS 5 P],.r 195 [cS 5 L] [cS 5 J],.r 196 [cS 4 M] [cS 4 K],.g ([]:LL) A 8,.h A,.g ([]:LL) C 1,.h C,.g ([]:LL) E 1,.h E,.g ([]:LL) F 16,.h F]):
 Rt 120 [.agg (wk G H L M A C E F)] [.agg (wk N P J K ([]++A) ([]++C) ([]++E) ([]++F))]:=
 h.of
def qgM(A:LL)(a:Int)(J:LL)(d e:Int)(K L M:LL)(f g:Int)(C:LL)(b c:Int)(E F G H:LL):St:=
 { env:=envOf 49 [(1,vP 1),(2,vP 2),(3,vP 3),(19,vF 8 A),(20,vI (A.length:Int)),(21,vI a)],boxes:=[(3,[lO 110000 4 J,lI d,lI e,lO 30 8 K,.v (sn),lO 13 5 L,lO 16 3 M]),(2,[.v (sn),lI f,lI g,.v (sn),.v (sn),.v (sn),.v (sn)]),(1,[.sl .free 4 C,lI b,lI c,.sl .free 8 E,.sl .free 6 F,.sl .free 5 G,.sl .free 3 H])] }
theorem qyZ(h:Oo [.b (decide (a<(A.length:Int))) true,.p (0≤a),.p (a<(A.length:Int)),.e A a.toNat (wk X Y Z A0 C0 E0 F0 G0),.r 120 [.agg (wk X Y Z A0 C0 E0 F0 G0)] [.agg (wk E F G H J K L M)],.a .wr,.g C [(wk E F G H J K L M)] 192,.u a]):
 Tp (qaa f61 0) (qgM A a N b c C P Q d e R f g S U V W) .normal (qgM A (a+1) N b c (C++[(wk E F G H J K L M)]) P Q d e R f g S U V W):=
 h.lp [21,20,19,3,1,2] [3,2,1]
def qou(A:LL)(a c:Int)(H J K:LL)(d e:Int)(L:LL)(f b:Int)(C E F G:LL):St:=
 { env:=envOf 49 [(1,vP 1),(2,vP 2),(3,vP 3)],boxes:=[(3,[lO 110000 4 A,lI a,lI c,lO 30 8 H,.v (sn),lO 13 5 J,lO 16 3 K]),(2,[.v (sn),lI d,lI e,.v (sn),.v (sn),.v (sn),.v (sn)]),(1,[.sl .free 4 L,lI f,lI b,.sl .free 8 C,.sl .free 6 E,.sl .free 5 F,.sl .free 3 G])] }
theorem qy0(h:Oo [.b (decide (a<(M.length:Int))) false]):
 Tp (qaa f61 0) (qgM M a A b c C E F d e G f g H J K L) (.exit 0) (qou A b c C E F d e G f g H J K L):=
 h.lp [1,3,2] [3,2,1]
def qgN(A:LL)(a:Int)(C:LL)(c d:Int)(E F G H:LL)(e b:Int):St:=
 { env:=envOf 49 [(2,vP 2),(3,vP 3),(34,vF 6 A),(35,vI (A.length:Int)),(36,vI a)],boxes:=[(3,[lO 110000 4 C,lI c,lI d,lO 30 8 E,lO 45 6 F,lO 13 5 G,lO 16 3 H]),(2,[.v (sn),lI e,lI b,.v (sn),.v (sn),.v (sn),.v (sn)])] }
theorem qy1(h:Oo [.b (decide (a<(A.length:Int))) true,.p (0≤a),.p (a<(A.length:Int)),.e A a.toNat (lk l K m n o p),.r 121 [.agg (lk l K m n o p)] [.agg (lk b E c d e f)],.a .wr,.g C [(lk b E c d e f)] 64,.u a]):
 Tp (qaa f61 1) (qgN A a F g i G C H J j k) .normal (qgN A (a+1) F g i G (C++[(lk b E c d e f)]) H J j k):=
 h.lp [36,35,34,3,2] [3,2]
def qov(A:LL)(a b:Int)(C E F G:LL)(c d:Int):St:=
 { env:=envOf 49 [(2,vP 2),(3,vP 3)],boxes:=[(3,[lO 110000 4 A,lI a,lI b,lO 30 8 C,lO 45 6 E,lO 13 5 F,lO 16 3 G]),(2,[.v (sn),lI c,lI d,.v (sn),.v (sn),.v (sn),.v (sn)])] }
theorem qy2(h:Oo [.b (decide (a<(A.length:Int))) false]):
 Tp (qaa f61 1) (qgN A a C b c E F G H d e) (.exit 2) (qov C b c E F G H d e):=
 h.lp [3,2] [3,2]
theorem qy3(h:Oo [.r 119 [.agg (gr E a b)] [.agg (gr U j k)],.g ([]:LL) A 32,.h A,.g ([]:LL) C 24,.h C,.l [(4000003,30,8)] [21,20,19,3,1,2] [3,2,1] (qaa f61 0) (qgM F 0 U j k [] ([]++A) ([]++C) 0 0 E a b F S A C) (.exit 0) (qou G c d H J K e f V l m W L X Y),.l [(4000004,45,6)] [36,35,34,3,2] [3,2] (qaa f61 1) (qgN L 0 G c d H [] J K e f) (.exit 2) (qov M g i N P Q R n o)]):
 Rt 61 [.agg (cl E a b F S A C)] [.agg (cl M g i N P Q R)]:=
 h.of
theorem qy4(h:Oo [.g ([]:LL) A 40,.h A]):
 Rt 186 [.agg (lk a A b c d e)] [.agg (lk a ([]++A) b c d e)]:=
 h.of
def qgO(a:Int)(A:LL)(b c d e:Int)(C:LL)(f g:Int):St:=
 { env:=envOf 33 [(1,vP 1),(2,vP 2),(3,vP 3),(4,vI a)],boxes:=[(3,[lO 7 4 A,lI b,lI c]),(2,[.v (sn),lI d,lI e]),(1,[.sl .free 4 C,lI f,lI g])] }
theorem qy5(h:Oo [.b (decide (a<(C.length:Int))) true,.p (0≤a),.p (a<(C.length:Int)),.e C a.toNat (nd b c d A),.a .wr,.g ([]:LL) A 8,.h A,.g E [(nd b c d ([]++A))] 48,.u a]):
 Tp (qaa f165 0) (qgO a E g i j k C e f) .normal (qgO (a+1) (E++[(nd b c d ([]++A))]) g i j k C e f):=
 h.lp [4,1,3,2] [3,2,1]
def qow(A:LL)(a b c d:Int):St:=
 { env:=envOf 33 [(2,vP 2),(3,vP 3)],boxes:=[(3,[lO 7 4 A,lI a,lI b]),(2,[.v (sn),lI c,lI d])] }
theorem qy6(h:Oo [.b (decide (a<(C.length:Int))) false]):
 Tp (qaa f165 0) (qgO a A b c d e C f g) (.exit 0) (qow A b c d e):=
 h.lp [3,2] [3,2]
theorem qy7(h:Oo [.l [] [4,1,3,2] [3,2,1] (qaa f165 0) (qgO 0 [] a b 0 0 A a b) (.exit 0) (qow C c d e f)]):
 Rt 165 [.agg (gr A a b)] [.agg (gr C c d)]:=
 h.of
theorem qy8(h:Oo [.g ([]:LL) A 40,.h A,.g ([]:LL) C 40,.h C,.g ([]:LL) E 40,.h E,.g ([]:LL) F 32,.h F,.g ([]:LL) G 8,.h G,.g ([]:LL) H 1,.h H,.g ([]:LL) J 1,.h J,.g ([]:LL) K 16,.h K]):
 Rt 185 [.agg (wk A C E F G H J K)] [.agg (wk ([]++A) ([]++C) ([]++E) ([]++F) ([]++G) ([]++H) ([]++J) ([]++K))]:=
 h.of
def qgP(a:Int)(A:LL)(d e:Int)(H J K:LL)(f g:Int)(L:LL)(b c:Int)(C E F G:LL):St:=
 { env:=envOf 55 [(1,vP 1),(2,vP 2),(3,vP 3),(4,vI a)],boxes:=[(3,[lO 90000 4 A,lI d,lI e,lO 34 8 H,.v (sn),lO 9 5 J,lO 13 3 K]),(2,[.v (sn),lI f,lI g,.v (sn),.v (sn),.v (sn),.v (sn)]),(1,[.sl .free 4 L,lI b,lI c,.sl .free 8 C,.sl .free 6 E,.sl .free 5 F,.sl .free 3 G])] }
theorem qy9(h:Oo [.b (decide (a<(A.length:Int))) true,.p (0≤a),.p (a<(A.length:Int)),.e A a.toNat (wk W X Y Z A0 C0 E0 F0),.r 185 [.agg (wk W X Y Z A0 C0 E0 F0)] [.agg (wk E F G H J K L M)],.a .wr,.g C [(wk E F G H J K L M)] 192,.u a]):
 Tp (qaa f112 0) (qgP a N b c C P Q d e R f g A S U V) .normal (qgP (a+1) N b c (C++[(wk E F G H J K L M)]) P Q d e R f g A S U V):=
 h.lp [4,1,3,2] [3,2,1]
def qox(A:LL)(a c:Int)(H J K:LL)(d e:Int)(L:LL)(f b:Int)(C E F G:LL):St:=
 { env:=envOf 55 [(1,vP 1),(2,vP 2),(3,vP 3)],boxes:=[(3,[lO 90000 4 A,lI a,lI c,lO 34 8 H,.v (sn),lO 9 5 J,lO 13 3 K]),(2,[.v (sn),lI d,lI e,.v (sn),.v (sn),.v (sn),.v (sn)]),(1,[.sl .free 4 L,lI f,lI b,.sl .free 8 C,.sl .free 6 E,.sl .free 5 F,.sl .free 3 G])] }
theorem qza(h:Oo [.b (decide (a<(A.length:Int))) false]):
 Tp (qaa f112 0) (qgP a C b c E F G d e H f g A J K L) (.exit 0) (qox C b c E F G d e H f g A J K L):=
 h.lp [1,3,2] [3,2,1]
def qgQ(a:Int)(A:LL)(d e:Int)(J K L M:LL)(f g:Int)(C:LL)(b c:Int)(E F G H:LL):St:=
 { env:=envOf 55 [(1,vP 1),(2,vP 2),(3,vP 3),(5,vI a)],boxes:=[(3,[lO 90000 4 A,lI d,lI e,lO 34 8 J,lO 52 6 K,lO 9 5 L,lO 13 3 M]),(2,[.v (sn),lI f,lI g,.v (sn),.v (sn),.v (sn),.v (sn)]),(1,[.sl .free 4 C,lI b,lI c,.sl .free 8 E,.sl .free 6 F,.sl .free 5 G,.sl .free 3 H])] }
theorem qzb(h:Oo [.b (decide (a<(A.length:Int))) true,.p (0≤a),.p (a<(A.length:Int)),.e A a.toNat (lk n P o p a0 b0),.r 186 [.agg (lk n P o p a0 b0)] [.agg (lk b E c d e f)],.a .wr,.g C [(lk b E c d e f)] 64,.u a]):
 Tp (qaa f112 1) (qgQ a F g i G C H J j k K l m L A M N) .normal (qgQ (a+1) F g i G (C++[(lk b E c d e f)]) H J j k K l m L A M N):=
 h.lp [5,1,3,2] [3,2,1]
def qoy(A:LL)(a b:Int)(C E F G:LL)(c d:Int):St:=
 { env:=envOf 55 [(2,vP 2),(3,vP 3)],boxes:=[(3,[lO 90000 4 A,lI a,lI b,lO 34 8 C,lO 52 6 E,lO 9 5 F,lO 13 3 G]),(2,[.v (sn),lI c,lI d,.v (sn),.v (sn),.v (sn),.v (sn)])] }
theorem qzc(h:Oo [.b (decide (a<(H.length:Int))) false]):
 Tp (qaa f112 1) (qgQ a A b c C E F G d e J f g K H L M) (.exit 2) (qoy A b c C E F G d e):=
 h.lp [3,2] [3,2]
theorem qzd(h:Oo [.r 165 [.agg (gr E a b)] [.agg (gr Y l m)],.g ([]:LL) A 32,.h A,.g ([]:LL) C 24,.h C,.l [(4000003,34,8)] [4,1,3,2] [3,2,1] (qaa f112 0) (qgP 0 Y l m [] ([]++A) ([]++C) 0 0 E a b U X A C) (.exit 0) (qox F c d G H J e f K g i L M N P),.l [(4000004,52,6)] [5,1,3,2] [3,2,1] (qaa f112 1) (qgQ 0 F c d G [] H J e f K g i L M N P) (.exit 2) (qoy Q j k R S V W n o)]):
 Rt 112 [.agg (cl E a b U X A C)] [.agg (cl Q j k R S V W)]:=
 h.of
theorem qze(h:Oo [.r 112 [.agg (cl A a b C E F G)] [.agg (cl M c d H J K L)],.r 113 [.agg (cl A a b C E F G)] [cB q]]):
 Rr 55 [RA.ro (.agg (cl A a b C E F G))] (RR.new [D.sl 4 M,I c,I d,D.sl 8 H,D.sl 6 J,D.sl 5 K,D.sl 3 L,B q]):=
 h.ofR
def qcP(a b:Int)(A:LL)(c d:Int)(C E F G:LL)(q:Bool):St:=
 { env:=envOf 93 [(0,vP 1000000000),(1,vI a),(5,vI b)],boxes:=[(1000000000,[lO 900000000 4 A,lI c,lI d,lO 900000003 8 C,lO 900000004 6 E,lO 900000005 5 F,lO 900000006 3 G,.sb q])] }
theorem qzf(h:Oo [.b (decide (a<(A.length:Int))) true,.b q true,.p (0≤a),.p (a<(A.length:Int)),.e A a.toNat [I e,I f,B r],.b (e != b) true,.u a]):
 Tp (qaa f56 0) (qcP b a C c d E F G A q) .normal (qcP b (a+1) C c d E F G A q):=
 h.lp [5,0,1] [1000000000]
def qh4(q:Bool)(A:LL)(a b:Int)(C E F G:LL)(r:Bool):St:=
 { env:=envOf 93 [(0,vP 1000000000),(4,.al (.one (.sb q)))],boxes:=[(1000000000,[lO 900000000 4 A,lI a,lI b,lO 900000003 8 C,lO 900000004 6 E,lO 900000005 5 F,lO 36 3 G,.sb r])] }
theorem qzg(h:Oo [.b (decide (a<(A.length:Int))) true,.b r true,.p (0≤a),.p (a<(A.length:Int)),.e A a.toNat [I f,I c,B q],.b (f != b) false,.a .sub,.p ((0:Int)≤none.getD 0),.p (none.getD 0≤(some a).getD (A.length:Int)),.p ((some a).getD (A.length:Int)≤(A.length:Int)),.p ((([]:LL).length+(List.take (((some a).getD (A.length:Int)).toNat-0) (List.drop 0 A)).length)*24≤140737488355328),.p (([]:LL).length+(List.take (((some a).getD (A.length:Int)).toNat-0) (List.drop 0 A)).length≤9223372036854775807),.p (Flat (List.take (((some a).getD (A.length:Int)).toNat-0) (List.drop 0 A))),.u a,.p (0≤(some (a+1)).getD 0),.p ((some (a+1)).getD 0≤none.getD (A.length:Int)),.p (none.getD (A.length:Int)≤(A.length:Int)),.p ((([]++List.take (((some a).getD (A.length:Int)).toNat-0) (List.drop 0 A)).length+(List.take (A.length-((some (a+1)).getD 0).toNat) (List.drop ((some (a+1)).getD 0).toNat A)).length)*24≤140737488355328),.p (([]++List.take (((some a).getD (A.length:Int)).toNat-0) (List.drop 0 A)).length+(List.take (A.length-((some (a+1)).getD 0).toNat) (List.drop ((some (a+1)).getD 0).toNat A)).length≤9223372036854775807),.p (Flat (List.take (A.length-((some (a+1)).getD 0).toNat) (List.drop ((some (a+1)).getD 0).toNat A))),.p (0≤b),.p (b<(C.length:Int)),.e C b.toNat (wk F G H J K L M E),.r 114 [.agg (wk F G H J K L M E),cI c] [cB s],.n s true,.a .sub,.p (0≤b),.p (b<(C.length:Int)),.e C b.toNat (wk F G H J K L M E),.g E [[I c,B q]] 16,.e C b.toNat (wk F G H J K L M E),.p ((wk F G H J K L M E)[7]?=some (D.sl 2 E)),.h [[I c,B q]],.p (C=C),.p (C=C),.p (b.toNat=b.toNat),.p (E=E),.p (C=C),.p (C=C),.p (C=C),.p (C=C),.p (C=C),.p (b.toNat=b.toNat),.p (E=E),.p (0≤b),.p (b<(C.length:Int)),.e C b.toNat (wk F G H J K L M E),.p (b.toNat=b.toNat)]):
 Tp (qaa f56 0) (qcP b a N d e C P Q A r) .ret (qh4 true N d e (C.set b.toNat (wk F G H J K L M (E++[[I c,B q]]))) P Q ([]++List.take (((some a).getD (A.length:Int)).toNat-0) (List.drop 0 A)++List.take (A.length-((some (a+1)).getD 0).toNat) (List.drop ((some (a+1)).getD 0).toNat A)) r):=
 h.lp [4,0] [1000000000]
theorem qzh(h:Oo [.b (decide (a<(A.length:Int))) true,.b q true,.p (0≤a),.p (a<(A.length:Int)),.e A a.toNat [I e,I f,B s],.b (e != b) false,.a .sub,.p ((0:Int)≤none.getD 0),.p (none.getD 0≤(some a).getD (A.length:Int)),.p ((some a).getD (A.length:Int)≤(A.length:Int)),.p ((([]:LL).length+(List.take (((some a).getD (A.length:Int)).toNat-0) (List.drop 0 A)).length)*24≤140737488355328),.p (([]:LL).length+(List.take (((some a).getD (A.length:Int)).toNat-0) (List.drop 0 A)).length≤9223372036854775807),.p (Flat (List.take (((some a).getD (A.length:Int)).toNat-0) (List.drop 0 A))),.u a,.p (0≤(some (a+1)).getD 0),.p ((some (a+1)).getD 0≤none.getD (A.length:Int)),.p (none.getD (A.length:Int)≤(A.length:Int)),.p ((([]++List.take (((some a).getD (A.length:Int)).toNat-0) (List.drop 0 A)).length+(List.take (A.length-((some (a+1)).getD 0).toNat) (List.drop ((some (a+1)).getD 0).toNat A)).length)*24≤140737488355328),.p (([]++List.take (((some a).getD (A.length:Int)).toNat-0) (List.drop 0 A)).length+(List.take (A.length-((some (a+1)).getD 0).toNat) (List.drop ((some (a+1)).getD 0).toNat A)).length≤9223372036854775807),.p (Flat (List.take (A.length-((some (a+1)).getD 0).toNat) (List.drop ((some (a+1)).getD 0).toNat A))),.p (0≤b),.p (b<(C.length:Int)),.e C b.toNat (wk H J K L M N P Q),.r 114 [.agg (wk H J K L M N P Q),cI f] [cB r],.n r false]):
 Tp (qaa f56 0) (qcP b a E c d C F G A q) .ret (qh4 true E c d C F G ([]++List.take (((some a).getD (A.length:Int)).toNat-0) (List.drop 0 A)++List.take (A.length-((some (a+1)).getD 0).toNat) (List.drop ((some (a+1)).getD 0).toNat A)) q):=
 h.lp [4,0] [1000000000]
def qkk(A:LL)(a b:Int)(C E F G:LL)(q:Bool):St:=
 { env:=envOf 93 [(0,vP 1000000000)],boxes:=[(1000000000,[lO 900000000 4 A,lI a,lI b,lO 900000003 8 C,lO 900000004 6 E,lO 900000005 5 F,lO 900000006 3 G,.sb q])] }
theorem qzi(h:Oo [.b (decide (c<(A.length:Int))) true,.b q false]):
 Tp (qaa f56 0) (qcP d c C a b E F G A q) (.exit 0) (qkk C a b E F G A q):=
 h.lp [0] [1000000000]
theorem qoz(h:Oo [.b (decide (c<(A.length:Int))) false]):
 Tp (qaa f56 0) (qcP d c C a b E F G A q) (.exit 0) (qkk C a b E F G A q):=
 h.lp [0] [1000000000]
theorem qzj(h:Oo [.l [] [5,0,1] [1000000000] (qaa f56 0) (qcP e 0 A a d J K L M r) .ret (qh4 s C b c E F G H q)]):
 Rr 56 [RA.ref [D.sl 4 A,I a,I d,D.sl 8 J,D.sl 6 K,D.sl 5 L,D.sl 3 M,B r] [D.sl 4 C,I b,I c,D.sl 8 E,D.sl 6 F,D.sl 5 G,D.sl 3 H,B q],RA.ro (cI e)] (RR.vals [cB s]):=
 h.ofR
theorem qkl(h:Oo [.l [] [5,0,1] [1000000000] (qaa f56 0) (qcP e 0 A a d H J K L r) (.exit 0) (qkk M b c C E F G q)]):
 Rr 56 [RA.ref [D.sl 4 A,I a,I d,D.sl 8 H,D.sl 6 J,D.sl 5 K,D.sl 3 L,B r] [D.sl 4 M,I b,I c,D.sl 8 C,D.sl 6 E,D.sl 5 F,D.sl 3 G,B q],RA.ro (cI e)] (RR.vals [cB false]):=
 h.ofR
theorem qzk(h:Oo []):
 Rt 63 [.agg [I a,I c,B q],.one (.ptr [I b])] [cB (a==b)]:=
 h.of
theorem qzl(h:Oo [.r 61 [.agg (cl C a d J K L A)] [.agg (cl M f b E F G H)],.r 62 [cS 3 A,.one (.cl 63 [D.ptr [I e]])] [cI c],.b (decide (c<0)) true]):
 Rt 14 [.agg (cl C a d J K L A),cI e] [.agg (cl M f b E F G H),cB false]:=
 h.of
theorem qzm(h:Oo [.r 61 [.agg (cl C a b E F G A)] [.agg (cl M f c H J K L)],.r 62 [cS 3 A,.one (.cl 63 [D.ptr [I e]])] [cI d],.b (decide (d<0)) false,.r 64 [.agg (cl C a b E F G A)] [cB q],.n q true]):
 Rt 14 [.agg (cl C a b E F G A),cI e] [.agg (cl M f c H J K L),cB false]:=
 h.of
theorem qzn(h:Oo [.r 61 [.agg (cl P d e F R S E)] [.agg (cl H0 g f A U V W)],.r 62 [cS 3 E,.one (.cl 63 [D.ptr [I a]])] [cI b],.b (decide (b<0)) false,.r 64 [.agg (cl P d e F R S E)] [cB r],.n r false,.p (0≤b),.p (b<(E.length:Int)),.e E b.toNat [I i,I c,B q],.a (.resG [[some none],[none],[none]] 0 [] [cS 3 Q]),.u b,.p (RetG prog 65 [GA.one (GC.gv 3 W none),GA.one (GC.ro (I b)),GA.one (GC.ro (I (b+1)))] [cS 3 Q]),.p (0≤a),.p (a<(F.length:Int)),.e F a.toNat (wk X Y Z A0 C0 E0 F0 G0),.r 66 [.agg (wk X Y Z A0 C0 E0 F0 G0),cI c] [cB s],.n s true,.a .sub,.p (0≤a),.p (a<(A.length:Int)),.e A a.toNat (wk G H J K L M N C),.g C [[I c,B q]] 16,.e A a.toNat (wk G H J K L M N C),.p ((wk G H J K L M N C)[7]?=some (D.sl 2 C)),.h [[I c,B q]],.p (A=A),.p (A=A),.p (A=A),.p (A=A),.p (A=A),.p (A=A),.p (a.toNat=a.toNat),.p (C=C),.p (0≤a),.p (a<(A.length:Int)),.e A a.toNat (wk G H J K L M N C),.p (a.toNat=a.toNat)]):
 Rt 14 [.agg (cl P d e F R S E),cI a] [.agg (cl H0 g f (A.set a.toNat (wk G H J K L M N (C++[[I c,B q]]))) U V Q),cB true]:=
 h.of
theorem qzo(h:Oo [.r 61 [.agg (cl E c d C G H A)] [.agg (cl X g e J K L M)],.r 62 [cS 3 A,.one (.cl 63 [D.ptr [I b]])] [cI a],.b (decide (a<0)) false,.r 64 [.agg (cl E c d C G H A)] [cB q],.n q false,.p (0≤a),.p (a<(A.length:Int)),.e A a.toNat [I i,I f,B s],.a (.resG [[some none],[none],[none]] 0 [] [cS 3 F]),.u a,.p (RetG prog 65 [GA.one (GC.gv 3 M none),GA.one (GC.ro (I a)),GA.one (GC.ro (I (a+1)))] [cS 3 F]),.p (0≤b),.p (b<(C.length:Int)),.e C b.toNat (wk N P Q R S U V W),.r 66 [.agg (wk N P Q R S U V W),cI f] [cB r],.n r false]):
 Rt 14 [.agg (cl E c d C G H A),cI b] [.agg (cl X g e J K L F),cB true]:=
 h.of
def qgR(a:Int)(q:Bool)(b:Int)(A:LL)(c d:Int)(C E F G:LL)(r:Bool):St:=
 { env:=envOf 52 [(0,vP 1000000000),(1,vI a),(2,.al (.one (.sb q))),(6,vI b)],boxes:=[(1000000000,[lO 900000000 4 A,lI c,lI d,lO 900000003 8 C,lO 900000004 6 E,lO 900000005 5 F,lO 900000006 3 G,.sb r])] }
theorem qzp(h:Oo [.b (decide (a<(A.length:Int))) true,.g C [[I a,I b,B q]] 24,.h [[I a,I b,B q]],.u a]):
 Tp (qaa f140 0) (qgR b q a E c d A F G C r) .normal (qgR b q (a+1) E c d A F G (C++[[I a,I b,B q]]) r):=
 h.lp [6,0,1,2] [1000000000]
def qoA(A:LL)(a b:Int)(C E F G:LL)(q:Bool):St:=
 { env:=envOf 52 [(0,vP 1000000000)],boxes:=[(1000000000,[lO 900000000 4 A,lI a,lI b,lO 900000003 8 C,lO 900000004 6 E,lO 900000005 5 F,lO 900000006 3 G,.sb q])] }
theorem qzq(h:Oo [.b (decide (a<(A.length:Int))) false]):
 Tp (qaa f140 0) (qgR d r a C b c A E F G q) (.exit 0) (qoA C b c A E F G q):=
 h.lp [0] [1000000000]
theorem qzr(h:Oo [.a .sub,.p ((0:Int)≤0),.p (0<(A.length:Int)),.e A 0 (wk E F G H J K L C),.g C [[I a,B q]] 16,.e A 0 (wk E F G H J K L C),.p ((wk E F G H J K L C)[7]?=some (D.sl 2 C)),.h [[I a,B q]],.p (A=A),.p (A=A),.p (A=A),.p (A=A),.p (A=A),.p (0=0),.p (C=C),.p ((0:Int)≤0),.p (0<(A.length:Int)),.e A 0 (wk E F G H J K L C),.p (0=0),.l [] [6,0,1,2] [1000000000] (qaa f140 0) (qgR a q 1 M b d (A.set 0 (wk E F G H J K L (C++[[I a,B q]]))) U V W s) (.exit 0) (qoA N c e P Q R S r)]):
 Rr 140 [RA.ref [D.sl 4 M,I b,I d,D.sl 8 A,D.sl 6 U,D.sl 5 V,D.sl 3 W,B s] [D.sl 4 N,I c,I e,D.sl 8 P,D.sl 6 Q,D.sl 5 R,D.sl 3 S,B r],RA.ro (cI a),RA.ro (cB q)] (RR.vals []):=
 h.ofR
theorem qzs(h:Oo [.n q true]):
 Rr 80 [RA.ref [D.sl 4 A,I a,I b,D.sl 8 C,D.sl 6 E,D.sl 5 F,D.sl 3 G,B q] [D.sl 4 A,I a,I b,D.sl 8 C,D.sl 6 E,D.sl 5 F,D.sl 3 G,B q],RA.ro (cI c)] (RR.vals [cB false]):=
 h.ofR
theorem qzt(h:Oo [.n q false,.r 137 [cI c,cI 0,cI 3] [cB r],.n r true]):
 Rr 80 [RA.ref [D.sl 4 A,I a,I b,D.sl 8 C,D.sl 6 E,D.sl 5 F,D.sl 3 G,B q] [D.sl 4 A,I a,I b,D.sl 8 C,D.sl 6 E,D.sl 5 F,D.sl 3 G,B q],RA.ro (cI c)] (RR.vals [cB false]):=
 h.ofR
theorem qzu(h:Oo [.n q false,.r 137 [cI c,cI 0,cI 3] [cB s],.n s false,.r 138 [.agg (cl A a b C E F G),cI c] [cB r],.b r true]):
 Rr 80 [RA.ref [D.sl 4 A,I a,I b,D.sl 8 C,D.sl 6 E,D.sl 5 F,D.sl 3 G,B q] [D.sl 4 A,I a,I b,D.sl 8 C,D.sl 6 E,D.sl 5 F,D.sl 3 G,B q],RA.ro (cI c)] (RR.vals [cB false]):=
 h.ofR
theorem qzv(h:Oo [.n q false,.r 137 [cI a,cI 0,cI 3] [cB t],.n t false,.r 138 [.agg (cl E c d A F C G),cI a] [cB r],.b r false,.p (0≤a),.p (a<(C.length:Int)),.e C a.toNat [B u,I b,I e,B v,B w],.a .sub,.p (0≤b),.p (b<(A.length:Int)),.e A b.toNat (wk H J K L M N P Q),.r 139 [.agg (wk H J K L M N P Q),cI a] [cB s],.n s true]):
 Rr 80 [RA.ref [D.sl 4 E,I c,I d,D.sl 8 A,D.sl 6 F,D.sl 5 C,D.sl 3 G,B q] [D.sl 4 E,I c,I d,D.sl 8 A,D.sl 6 F,D.sl 5 C,D.sl 3 G,B q],RA.ro (cI a)] (RR.vals [cB false]):=
 h.ofR
theorem qzw(h:Oo [.n q false,.r 137 [cI a,cI 0,cI 3] [cB v],.n v false,.r 138 [.agg (cl H c d A R C S),cI a] [cB r],.b r false,.p (0≤a),.p (a<(C.length:Int)),.e C a.toNat [B s,I b,I e,B w,B x],.a .sub,.p (0≤b),.p (b<(A.length:Int)),.e A b.toNat (wk U V W X F Y G Z),.r 139 [.agg (wk U V W X F Y G Z),cI a] [cB t],.n t false,.p (0≤a),.p (a<(F.length:Int)),.e F a.toNat [I f],.v (e+f),.n s true,.v ((A.length:Int)-1),.p (0≤a),.p (a<(G.length:Int)),.e G a.toNat [B u],.p (0≤a),.p (a<(C.length:Int)),.e C a.toNat [B y,I g,I i,B z,B q0],.a .sub,.p ((0:Int)≤0),.p (0<(A.length:Int)),.e A 0 (wk J K L M N E P Q),.p (0≤a),.p (a<(E.length:Int)),.e E a.toNat [B r0],.e A 0 (wk J K L M N E P Q),.p (b.toNat=0),.p (b.toNat=0),.p (0=0),.p (0=0),.p (b.toNat=0)]):
 Rr 80 [RA.ref [D.sl 4 H,I c,I d,D.sl 8 A,D.sl 6 R,D.sl 5 C,D.sl 3 S,B q] [D.sl 4 H,I c,I d,D.sl 8 (A.set 0 (wk J K L M N (E.set a.toNat [B false]) P Q)),D.sl 6 R,D.sl 5 (C.set a.toNat [B true,I ((A.length:Int)-1),I 0,B false,B u]),D.sl 3 S,B q],RA.ro (cI a)] (RR.vals [cB true]):=
 h.ofR
theorem qzx(h:Oo [.n q false,.r 137 [cI a,cI 0,cI 3] [cB v],.n v false,.r 138 [.agg (cl F c e A G C H),cI a] [cB r],.b r false,.p (0≤a),.p (a<(C.length:Int)),.e C a.toNat [B s,I b,I d,B w,B x],.a .sub,.p (0≤b),.p (b<(A.length:Int)),.e A b.toNat (wk J K L M E N P Q),.r 139 [.agg (wk J K L M E N P Q),cI a] [cB t],.n t false,.p (0≤a),.p (a<(E.length:Int)),.e E a.toNat [I f],.v (d+f),.n s false,.b (decide (b>0)) true,.r 137 [cI (d+f),cI (-1000000),cI 1000000] [cB u],.n u true]):
 Rr 80 [RA.ref [D.sl 4 F,I c,I e,D.sl 8 A,D.sl 6 G,D.sl 5 C,D.sl 3 H,B q] [D.sl 4 F,I c,I e,D.sl 8 A,D.sl 6 G,D.sl 5 C,D.sl 3 H,B q],RA.ro (cI a)] (RR.vals [cB false]):=
 h.ofR
theorem qzy(h:Oo [.n q false,.r 137 [cI b,cI 0,cI 3] [cB x],.n x false,.r 138 [.agg (cl N e f A P F Q),cI b] [cB r],.b r false,.p (0≤b),.p (b<(F.length:Int)),.e F b.toNat [B s,I a,I c,B t,B u],.a .sub,.p (0≤a),.p (a<(A.length:Int)),.e A a.toNat (wk G H J K C E L M),.r 139 [.agg (wk G H J K C E L M),cI b] [cB v],.n v false,.p (0≤b),.p (b<(C.length:Int)),.e C b.toNat [I d],.v (c+d),.n s false,.b (decide (a>0)) true,.r 137 [cI (c+d),cI (-1000000),cI 1000000] [cB w],.n w false,.v (a-1),.b t true,.b u true,.p (0≤b),.p (b<(F.length:Int)),.e F b.toNat [B y,I g,I i,B z,B q0],.a .sub,.p (0≤a),.p (a<(A.length:Int)),.e A a.toNat (wk G H J K C E L M),.p (0≤b),.p (b<(E.length:Int)),.e E b.toNat [B r0],.e A a.toNat (wk G H J K C E L M),.p (a.toNat=a.toNat),.p (a.toNat=a.toNat),.p (a.toNat=a.toNat),.p (a.toNat=a.toNat),.p (a.toNat=a.toNat)]):
 Rr 80 [RA.ref [D.sl 4 N,I e,I f,D.sl 8 A,D.sl 6 P,D.sl 5 F,D.sl 3 Q,B q] [D.sl 4 N,I e,I f,D.sl 8 (A.set a.toNat (wk G H J K C (E.set b.toNat [B false]) L M)),D.sl 6 P,D.sl 5 (F.set b.toNat [B true,I (a-1),I (c+d),B true,B true]),D.sl 3 Q,B q],RA.ro (cI b)] (RR.vals [cB true]):=
 h.ofR
theorem qzz(h:Oo [.n q false,.r 137 [cI b,cI 0,cI 3] [cB y],.n y false,.r 138 [.agg (cl N e f A P G Q),cI b] [cB r],.b r false,.p (0≤b),.p (b<(G.length:Int)),.e G b.toNat [B s,I a,I c,B t,B u],.a .sub,.p (0≤a),.p (a<(A.length:Int)),.e A a.toNat (wk H J K L C E F M),.r 139 [.agg (wk H J K L C E F M),cI b] [cB v],.n v false,.p (0≤b),.p (b<(C.length:Int)),.e C b.toNat [I d],.v (c+d),.n s false,.b (decide (a>0)) true,.r 137 [cI (c+d),cI (-1000000),cI 1000000] [cB w],.n w false,.v (a-1),.b t true,.b u false,.p (0≤b),.p (b<(F.length:Int)),.e F b.toNat [B x],.p (0≤b),.p (b<(G.length:Int)),.e G b.toNat [B z,I g,I i,B q0,B r0],.a .sub,.p (0≤a),.p (a<(A.length:Int)),.e A a.toNat (wk H J K L C E F M),.p (0≤b),.p (b<(E.length:Int)),.e E b.toNat [B s0],.e A a.toNat (wk H J K L C E F M),.p (a.toNat=a.toNat),.p (a.toNat=a.toNat),.p (a.toNat=a.toNat),.p (a.toNat=a.toNat),.p (a.toNat=a.toNat)]):
 Rr 80 [RA.ref [D.sl 4 N,I e,I f,D.sl 8 A,D.sl 6 P,D.sl 5 G,D.sl 3 Q,B q] [D.sl 4 N,I e,I f,D.sl 8 (A.set a.toNat (wk H J K L C (E.set b.toNat [B false]) F M)),D.sl 6 P,D.sl 5 (G.set b.toNat [B true,I (a-1),I (c+d),B true,B x]),D.sl 3 Q,B q],RA.ro (cI b)] (RR.vals [cB true]):=
 h.ofR
theorem qzA(h:Oo [.n q false,.r 137 [cI b,cI 0,cI 3] [cB y],.n y false,.r 138 [.agg (cl N e f C P F Q),cI b] [cB r],.b r false,.p (0≤b),.p (b<(F.length:Int)),.e F b.toNat [B s,I a,I c,B t,B u],.a .sub,.p (0≤a),.p (a<(C.length:Int)),.e C a.toNat (wk G H J K E A L M),.r 139 [.agg (wk G H J K E A L M),cI b] [cB v],.n v false,.p (0≤b),.p (b<(E.length:Int)),.e E b.toNat [I d],.v (c+d),.n s false,.b (decide (a>0)) true,.r 137 [cI (c+d),cI (-1000000),cI 1000000] [cB w],.n w false,.v (a-1),.b t false,.p (0≤b),.p (b<(A.length:Int)),.e A b.toNat [B x],.b u true,.p (0≤b),.p (b<(F.length:Int)),.e F b.toNat [B z,I g,I i,B q0,B r0],.a .sub,.p (0≤a),.p (a<(C.length:Int)),.e C a.toNat (wk G H J K E A L M),.p (0≤b),.p (b<(A.length:Int)),.e A b.toNat [B s0],.e C a.toNat (wk G H J K E A L M),.p (a.toNat=a.toNat),.p (a.toNat=a.toNat),.p (a.toNat=a.toNat),.p (a.toNat=a.toNat),.p (a.toNat=a.toNat),.p (a.toNat=a.toNat),.p (a.toNat=a.toNat)]):
 Rr 80 [RA.ref [D.sl 4 N,I e,I f,D.sl 8 C,D.sl 6 P,D.sl 5 F,D.sl 3 Q,B q] [D.sl 4 N,I e,I f,D.sl 8 (C.set a.toNat (wk G H J K E (A.set b.toNat [B false]) L M)),D.sl 6 P,D.sl 5 (F.set b.toNat [B true,I (a-1),I (c+d),B x,B true]),D.sl 3 Q,B q],RA.ro (cI b)] (RR.vals [cB true]):=
 h.ofR
theorem qzB(h:Oo [.n q false,.r 137 [cI b,cI 0,cI 3] [cB z],.n z false,.r 138 [.agg (cl N e f C P G Q),cI b] [cB r],.b r false,.p (0≤b),.p (b<(G.length:Int)),.e G b.toNat [B s,I a,I c,B t,B u],.a .sub,.p (0≤a),.p (a<(C.length:Int)),.e C a.toNat (wk H J K L E A F M),.r 139 [.agg (wk H J K L E A F M),cI b] [cB v],.n v false,.p (0≤b),.p (b<(E.length:Int)),.e E b.toNat [I d],.v (c+d),.n s false,.b (decide (a>0)) true,.r 137 [cI (c+d),cI (-1000000),cI 1000000] [cB w],.n w false,.v (a-1),.b t false,.p (0≤b),.p (b<(A.length:Int)),.e A b.toNat [B x],.b u false,.p (0≤b),.p (b<(F.length:Int)),.e F b.toNat [B y],.p (0≤b),.p (b<(G.length:Int)),.e G b.toNat [B q0,I g,I i,B r0,B s0],.a .sub,.p (0≤a),.p (a<(C.length:Int)),.e C a.toNat (wk H J K L E A F M),.p (0≤b),.p (b<(A.length:Int)),.e A b.toNat [B t0],.e C a.toNat (wk H J K L E A F M),.p (a.toNat=a.toNat),.p (a.toNat=a.toNat),.p (a.toNat=a.toNat),.p (a.toNat=a.toNat),.p (a.toNat=a.toNat),.p (a.toNat=a.toNat),.p (a.toNat=a.toNat)]):
 Rr 80 [RA.ref [D.sl 4 N,I e,I f,D.sl 8 C,D.sl 6 P,D.sl 5 G,D.sl 3 Q,B q] [D.sl 4 N,I e,I f,D.sl 8 (C.set a.toNat (wk H J K L E (A.set b.toNat [B false]) F M)),D.sl 6 P,D.sl 5 (G.set b.toNat [B true,I (a-1),I (c+d),B x,B y]),D.sl 3 Q,B q],RA.ro (cI b)] (RR.vals [cB true]):=
 h.ofR
theorem qzC(h:Oo [.n t false,.r 137 [cI a,cI 0,cI 3] [cB y],.n y false,.r 138 [.agg (cl G d e C N A P),cI a] [cB u],.b u false,.p (0≤a),.p (a<(A.length:Int)),.e A a.toNat [B v,I b,I c,B q,B r],.a .sub,.p (0≤b),.p (b<(C.length:Int)),.e C b.toNat (wk Q R S U E F V W),.r 139 [.agg (wk Q R S U E F V W),cI a] [cB w],.n w false,.p (0≤a),.p (a<(E.length:Int)),.e E a.toNat [I f],.v (c+f),.n v false,.b (decide (b>0)) false,.p (0≤a),.p (a<(A.length:Int)),.e A a.toNat [B z,I j,I k,B q0,B r0],.n q true,.p (0≤a),.p (a<(F.length:Int)),.e F a.toNat [B x],.n x true,.b (c+f==0) true,.b r true,.a (.resR [some [D.sl 4 H,I g,I i,D.sl 8 J,D.sl 6 K,D.sl 5 L,D.sl 3 M,B s],none,none] (RR.vals [])),.p (RetR prog 140 [RA.ref [D.sl 4 G,I d,I e,D.sl 8 C,D.sl 6 N,D.sl 5 (A.set a.toNat [B false,I b,I c,B q,B r]),D.sl 3 P,B t] [D.sl 4 H,I g,I i,D.sl 8 J,D.sl 6 K,D.sl 5 L,D.sl 3 M,B s],RA.ro (cI a),RA.ro (cB true)] (RR.vals []))]):
 Rr 80 [RA.ref [D.sl 4 G,I d,I e,D.sl 8 C,D.sl 6 N,D.sl 5 A,D.sl 3 P,B t] [D.sl 4 H,I g,I i,D.sl 8 J,D.sl 6 K,D.sl 5 L,D.sl 3 M,B s],RA.ro (cI a)] (RR.vals [cB true]):=
 h.ofR
theorem qzD(h:Oo [.n t false,.r 137 [cI a,cI 0,cI 3] [cB z],.n z false,.r 138 [.agg (cl H d e C P A Q),cI a] [cB u],.b u false,.p (0≤a),.p (a<(A.length:Int)),.e A a.toNat [B v,I b,I c,B q,B r],.a .sub,.p (0≤b),.p (b<(C.length:Int)),.e C b.toNat (wk R S U V E F G W),.r 139 [.agg (wk R S U V E F G W),cI a] [cB w],.n w false,.p (0≤a),.p (a<(E.length:Int)),.e E a.toNat [I f],.v (c+f),.n v false,.b (decide (b>0)) false,.p (0≤a),.p (a<(A.length:Int)),.e A a.toNat [B q0,I j,I k,B r0,B s0],.n q true,.p (0≤a),.p (a<(F.length:Int)),.e F a.toNat [B x],.n x true,.b (c+f==0) true,.b r false,.p (0≤a),.p (a<(G.length:Int)),.e G a.toNat [B y],.a (.resR [some [D.sl 4 J,I g,I i,D.sl 8 K,D.sl 6 L,D.sl 5 M,D.sl 3 N,B s],none,none] (RR.vals [])),.p (RetR prog 140 [RA.ref [D.sl 4 H,I d,I e,D.sl 8 C,D.sl 6 P,D.sl 5 (A.set a.toNat [B false,I b,I c,B q,B r]),D.sl 3 Q,B t] [D.sl 4 J,I g,I i,D.sl 8 K,D.sl 6 L,D.sl 5 M,D.sl 3 N,B s],RA.ro (cI a),RA.ro (cB y)] (RR.vals []))]):
 Rr 80 [RA.ref [D.sl 4 H,I d,I e,D.sl 8 C,D.sl 6 P,D.sl 5 A,D.sl 3 Q,B t] [D.sl 4 J,I g,I i,D.sl 8 K,D.sl 6 L,D.sl 5 M,D.sl 3 N,B s],RA.ro (cI a)] (RR.vals [cB true]):=
 h.ofR
theorem qzE(h:Oo [.n r false,.r 137 [cI a,cI 0,cI 3] [cB x],.n x false,.r 138 [.agg (cl G d e C H A J),cI a] [cB s],.b s false,.p (0≤a),.p (a<(A.length:Int)),.e A a.toNat [B t,I b,I c,B q,B u],.a .sub,.p (0≤b),.p (b<(C.length:Int)),.e C b.toNat (wk K L M N E F P Q),.r 139 [.agg (wk K L M N E F P Q),cI a] [cB v],.n v false,.p (0≤a),.p (a<(E.length:Int)),.e E a.toNat [I f],.v (c+f),.n t false,.b (decide (b>0)) false,.p (0≤a),.p (a<(A.length:Int)),.e A a.toNat [B y,I g,I i,B z,B q0],.n q true,.p (0≤a),.p (a<(F.length:Int)),.e F a.toNat [B w],.n w true,.b (c+f==0) false]):
 Rr 80 [RA.ref [D.sl 4 G,I d,I e,D.sl 8 C,D.sl 6 H,D.sl 5 A,D.sl 3 J,B r] [D.sl 4 G,I d,I e,D.sl 8 C,D.sl 6 H,D.sl 5 (A.set a.toNat [B false,I b,I c,B q,B u]),D.sl 3 J,B r],RA.ro (cI a)] (RR.vals [cB true]):=
 h.ofR
theorem qzF(h:Oo [.n r false,.r 137 [cI a,cI 0,cI 3] [cB x],.n x false,.r 138 [.agg (cl G c e C H A J),cI a] [cB s],.b s false,.p (0≤a),.p (a<(A.length:Int)),.e A a.toNat [B t,I b,I d,B q,B u],.a .sub,.p (0≤b),.p (b<(C.length:Int)),.e C b.toNat (wk K L M N E F P Q),.r 139 [.agg (wk K L M N E F P Q),cI a] [cB v],.n v false,.p (0≤a),.p (a<(E.length:Int)),.e E a.toNat [I f],.v (d+f),.n t false,.b (decide (b>0)) false,.p (0≤a),.p (a<(A.length:Int)),.e A a.toNat [B y,I g,I i,B z,B q0],.n q true,.p (0≤a),.p (a<(F.length:Int)),.e F a.toNat [B w],.n w false]):
 Rr 80 [RA.ref [D.sl 4 G,I c,I e,D.sl 8 C,D.sl 6 H,D.sl 5 A,D.sl 3 J,B r] [D.sl 4 G,I c,I e,D.sl 8 C,D.sl 6 H,D.sl 5 (A.set a.toNat [B false,I b,I d,B q,B u]),D.sl 3 J,B r],RA.ro (cI a)] (RR.vals [cB true]):=
 h.ofR
theorem qzG(h:Oo [.n r false,.r 137 [cI a,cI 0,cI 3] [cB w],.n w false,.r 138 [.agg (cl F c e C G A H),cI a] [cB s],.b s false,.p (0≤a),.p (a<(A.length:Int)),.e A a.toNat [B t,I b,I d,B q,B u],.a .sub,.p (0≤b),.p (b<(C.length:Int)),.e C b.toNat (wk J K L M E N P Q),.r 139 [.agg (wk J K L M E N P Q),cI a] [cB v],.n v false,.p (0≤a),.p (a<(E.length:Int)),.e E a.toNat [I f],.v (d+f),.n t false,.b (decide (b>0)) false,.p (0≤a),.p (a<(A.length:Int)),.e A a.toNat [B x,I g,I i,B y,B z],.n q false]):
 Rr 80 [RA.ref [D.sl 4 F,I c,I e,D.sl 8 C,D.sl 6 G,D.sl 5 A,D.sl 3 H,B r] [D.sl 4 F,I c,I e,D.sl 8 C,D.sl 6 G,D.sl 5 (A.set a.toNat [B false,I b,I d,B q,B u]),D.sl 3 H,B r],RA.ro (cI a)] (RR.vals [cB true]):=
 h.ofR
theorem qzH(h:Oo [.r 61 [.agg (cl A a b C E F G)] [.agg (cl M d c H J K L)],.r 64 [.agg (cl A a b C E F G)] [cB q],.n q true]):
 Rt 19 [.agg (cl A a b C E F G),cI e] [.agg (cl M d c H J K L),cB false]:=
 h.of
theorem qzI(h:Oo [.r 61 [.agg (cl A a b C E F G)] [.agg (cl M e c H J K L)],.r 64 [.agg (cl A a b C E F G)] [cB q],.n q false,.r 81 [cI d,cI 0,cI 3] [cB r],.n r true]):
 Rt 19 [.agg (cl A a b C E F G),cI d] [.agg (cl M e c H J K L),cB false]:=
 h.of
theorem qzJ(h:Oo [.r 61 [.agg (cl C a b A E F G)] [.agg (cl W e d H J K L)],.r 64 [.agg (cl C a b A E F G)] [cB q],.n q false,.r 81 [cI c,cI 0,cI 3] [cB r],.n r false,.p ((0:Int)≤0),.p (0<(A.length:Int)),.e A 0 (wk M N P Q R S U V),.r 66 [.agg (wk M N P Q R S U V),cI c] [cB s],.b s true]):
 Rt 19 [.agg (cl C a b A E F G),cI c] [.agg (cl W e d H J K L),cB false]:=
 h.of
theorem qzK(h:Oo [.r 61 [.agg (cl F c d A G H J)] [.agg (cl G0 f e C K E L)],.r 64 [.agg (cl F c d A G H J)] [cB q],.n q false,.r 81 [cI a,cI 0,cI 3] [cB r],.n r false,.p ((0:Int)≤0),.p (0<(A.length:Int)),.e A 0 (wk M N P Q R S U V),.r 66 [.agg (wk M N P Q R S U V),cI a] [cB s],.b s false,.p (0≤a),.p (a<(E.length:Int)),.e E a.toNat [B u,I b,I g,B v,B w],.a .sub,.p (0≤b),.p (b<(C.length:Int)),.e C b.toNat (wk W X Y Z A0 C0 E0 F0),.r 82 [.agg (wk W X Y Z A0 C0 E0 F0),cI a] [cB t],.n t true]):
 Rt 19 [.agg (cl F c d A G H J),cI a] [.agg (cl G0 f e C K E L),cB false]:=
 h.of
theorem qzL(h:Oo [.r 61 [.agg (cl P c d F Q R S)] [.agg (cl G0 f e E U G V)],.r 64 [.agg (cl P c d F Q R S)] [cB q],.n q false,.r 81 [cI a,cI 0,cI 3] [cB r],.n r false,.p ((0:Int)≤0),.p (0<(F.length:Int)),.e F 0 (wk W X Y Z A0 C0 E0 F0),.r 66 [.agg (wk W X Y Z A0 C0 E0 F0),cI a] [cB s],.b s false,.p (0≤a),.p (a<(G.length:Int)),.e G a.toNat [B w,I b,I g,B x,B y],.a .sub,.p (0≤b),.p (b<(E.length:Int)),.e E b.toNat (wk H J K L M A C N),.r 82 [.agg (wk H J K L M A C N),cI a] [cB t],.n t false,.e G a.toNat [B u,I i,I j,B z,B q0],.n u true,.a .sub,.e E b.toNat (wk H J K L M A C N),.p (0≤a),.p (a<(C.length:Int)),.e C a.toNat [B v],.v ((F.length:Int)-1),.e G a.toNat [B r0,I k,I l,B s0,B t0],.a .sub,.e E b.toNat (wk H J K L M A C N),.p (0≤a),.p (a<(A.length:Int)),.e A a.toNat [B u0],.e E b.toNat (wk H J K L M A C N),.p (b.toNat=b.toNat),.p (b.toNat=b.toNat),.p (b.toNat=b.toNat)]):
 Rt 19 [.agg (cl P c d F Q R S),cI a] [.agg (cl G0 f e (E.set b.toNat (wk H J K L M (A.set a.toNat [B false]) C N)) U (G.set a.toNat [B true,I ((F.length:Int)-1),I 0,B false,B v]) V),cB true]:=
 h.of
theorem qzM(h:Oo [.r 61 [.agg (cl G c d E Q R S)] [.agg (cl G0 j g C U A V)],.r 64 [.agg (cl G c d E Q R S)] [cB q],.n q false,.r 81 [cI a,cI 0,cI 3] [cB r],.n r false,.p ((0:Int)≤0),.p (0<(E.length:Int)),.e E 0 (wk W X Y Z A0 C0 E0 F0),.r 66 [.agg (wk W X Y Z A0 C0 E0 F0),cI a] [cB s],.b s false,.p (0≤a),.p (a<(A.length:Int)),.e A a.toNat [B w,I b,I k,B x,B y],.a .sub,.p (0≤b),.p (b<(C.length:Int)),.e C b.toNat (wk H J K L F M N P),.r 82 [.agg (wk H J K L F M N P),cI a] [cB t],.n t false,.e A a.toNat [B u,I l,I m,B z,B q0],.n u false,.e A a.toNat [B r0,I i,I n,B s0,B t0],.b (decide (i>0)) true,.e A a.toNat [B u0,I o,I e,B v0,B w0],.a .sub,.e C b.toNat (wk H J K L F M N P),.p (0≤a),.p (a<(F.length:Int)),.e F a.toNat [I f],.v (e+f),.r 81 [cI (e+f),cI (-1000000),cI 1000000] [cB v],.n v true]):
 Rt 19 [.agg (cl G c d E Q R S),cI a] [.agg (cl G0 j g C U A V),cB false]:=
 h.of
theorem qzN(h:Oo [.r 61 [.agg (cl P k l N Q R S)] [.agg (cl G0 b0 p F U A V)],.r 64 [.agg (cl P k l N Q R S)] [cB x],.n x false,.r 81 [cI a,cI 0,cI 3] [cB y],.n y false,.p ((0:Int)≤0),.p (0<(N.length:Int)),.e N 0 (wk W X Y Z A0 C0 E0 F0),.r 66 [.agg (wk W X Y Z A0 C0 E0 F0),cI a] [cB z],.b z false,.p (0≤a),.p (a<(A.length:Int)),.e A a.toNat [B y0,I b,I d0,B z0,B q1],.a .sub,.p (0≤b),.p (b<(F.length:Int)),.e F b.toNat (wk G H J K C E L M),.r 82 [.agg (wk G H J K C E L M),cI a] [cB q0],.n q0 false,.e A a.toNat [B r0,I e0,I f0,B r1,B s1],.n r0 false,.e A a.toNat [B t1,I a0,I i0,B u1,B v1],.b (decide (a0>0)) true,.e A a.toNat [B w1,I j0,I m,B x1,B y1],.a .sub,.e F b.toNat (wk G H J K C E L M),.p (0≤a),.p (a<(C.length:Int)),.e C a.toNat [I n],.v (m+n),.r 81 [cI (m+n),cI (-1000000),cI 1000000] [cB s0],.n s0 false,.e A a.toNat [B z1,I k0,I c,B q2,B r2],.a .sub,.e F b.toNat (wk G H J K C E L M),.p (0≤a),.p (a<(C.length:Int)),.e C a.toNat [I d],.v (c+d),.e A a.toNat [B q,I e,I l0,B r,B s],.e (A.set a.toNat [B q,I e,I (c+d),B r,B s]) a.toNat [B s2,I m0,I n0,B t0,B t2],.b t0 true,.e (A.set a.toNat [B q,I e,I (c+d),B r,B s]) a.toNat [B t,I f,I g,B u2,B u],.e ((A.set a.toNat [B q,I e,I (c+d),B r,B s]).set a.toNat [B t,I f,I g,B true,B u]) a.toNat [B v2,I o0,I p0,B w2,B u0],.b u0 true,.e ((A.set a.toNat [B q,I e,I (c+d),B r,B s]).set a.toNat [B t,I f,I g,B true,B u]) a.toNat [B v,I i,I j,B w,B x2],.a .sub,.e F b.toNat (wk G H J K C E L M),.p (0≤a),.p (a<(E.length:Int)),.e E a.toNat [B y2],.e F b.toNat (wk G H J K C E L M),.p (b.toNat=b.toNat),.p (b.toNat=b.toNat),.p (b.toNat=b.toNat),.e (((A.set a.toNat [B q,I e,I (c+d),B r,B s]).set a.toNat [B t,I f,I g,B true,B u]).set a.toNat [B v,I i,I j,B w,B true]) a.toNat [B z2,I o,I a1,B q3,B r3],.v (o-1),.e (((A.set a.toNat [B q,I e,I (c+d),B r,B s]).set a.toNat [B t,I f,I g,B true,B u]).set a.toNat [B v,I i,I j,B w,B true]) a.toNat [B v0,I b1,I c0,B w0,B x0]]):
 Rt 19 [.agg (cl P k l N Q R S),cI a] [.agg [D.sl 4 G0,I b0,I p,D.sl 8 (F.set b.toNat (wk G H J K C (E.set a.toNat [B false]) L M)),D.sl 6 U,D.sl 5 ((((A.set a.toNat [B q,I e,I (c+d),B r,B s]).set a.toNat [B t,I f,I g,B true,B u]).set a.toNat [B v,I i,I j,B w,B true]).set a.toNat [B v0,I (o-1),I c0,B w0,B x0]),D.sl 3 V],cB true]:=
 h.of
theorem qzO(h:Oo [.r 61 [.agg (cl P k l N Q R S)] [.agg (cl G0 b0 p G U A V)],.r 64 [.agg (cl P k l N Q R S)] [cB y],.n y false,.r 81 [cI a,cI 0,cI 3] [cB z],.n z false,.p ((0:Int)≤0),.p (0<(N.length:Int)),.e N 0 (wk W X Y Z A0 C0 E0 F0),.r 66 [.agg (wk W X Y Z A0 C0 E0 F0),cI a] [cB q0],.b q0 false,.p (0≤a),.p (a<(A.length:Int)),.e A a.toNat [B z0,I b,I d0,B q1,B r1],.a .sub,.p (0≤b),.p (b<(G.length:Int)),.e G b.toNat (wk H J K L C E F M),.r 82 [.agg (wk H J K L C E F M),cI a] [cB r0],.n r0 false,.e A a.toNat [B s0,I e0,I f0,B s1,B t1],.n s0 false,.e A a.toNat [B u1,I a0,I i0,B v1,B w1],.b (decide (a0>0)) true,.e A a.toNat [B x1,I j0,I m,B y1,B z1],.a .sub,.e G b.toNat (wk H J K L C E F M),.p (0≤a),.p (a<(C.length:Int)),.e C a.toNat [I n],.v (m+n),.r 81 [cI (m+n),cI (-1000000),cI 1000000] [cB t0],.n t0 false,.e A a.toNat [B q2,I k0,I c,B r2,B s2],.a .sub,.e G b.toNat (wk H J K L C E F M),.p (0≤a),.p (a<(C.length:Int)),.e C a.toNat [I d],.v (c+d),.e A a.toNat [B q,I e,I l0,B r,B s],.e (A.set a.toNat [B q,I e,I (c+d),B r,B s]) a.toNat [B t2,I m0,I n0,B u0,B u2],.b u0 true,.e (A.set a.toNat [B q,I e,I (c+d),B r,B s]) a.toNat [B t,I f,I g,B v2,B u],.e ((A.set a.toNat [B q,I e,I (c+d),B r,B s]).set a.toNat [B t,I f,I g,B true,B u]) a.toNat [B w2,I o0,I p0,B x2,B v0],.b v0 false,.a .sub,.e G b.toNat (wk H J K L C E F M),.p (0≤a),.p (a<(F.length:Int)),.e F a.toNat [B v],.e ((A.set a.toNat [B q,I e,I (c+d),B r,B s]).set a.toNat [B t,I f,I g,B true,B u]) a.toNat [B w,I i,I j,B x,B y2],.a .sub,.e G b.toNat (wk H J K L C E F M),.p (0≤a),.p (a<(E.length:Int)),.e E a.toNat [B z2],.e G b.toNat (wk H J K L C E F M),.p (b.toNat=b.toNat),.p (b.toNat=b.toNat),.p (b.toNat=b.toNat),.e (((A.set a.toNat [B q,I e,I (c+d),B r,B s]).set a.toNat [B t,I f,I g,B true,B u]).set a.toNat [B w,I i,I j,B x,B v]) a.toNat [B q3,I o,I a1,B r3,B s3],.v (o-1),.e (((A.set a.toNat [B q,I e,I (c+d),B r,B s]).set a.toNat [B t,I f,I g,B true,B u]).set a.toNat [B w,I i,I j,B x,B v]) a.toNat [B w0,I b1,I c0,B x0,B y0]]):
 Rt 19 [.agg (cl P k l N Q R S),cI a] [.agg [D.sl 4 G0,I b0,I p,D.sl 8 (G.set b.toNat (wk H J K L C (E.set a.toNat [B false]) F M)),D.sl 6 U,D.sl 5 ((((A.set a.toNat [B q,I e,I (c+d),B r,B s]).set a.toNat [B t,I f,I g,B true,B u]).set a.toNat [B w,I i,I j,B x,B v]).set a.toNat [B w0,I (o-1),I c0,B x0,B y0]),D.sl 3 V],cB true]:=
 h.of
theorem qzP(h:Oo [.r 61 [.agg (cl P k l N Q R S)] [.agg (cl G0 b0 p F U A V)],.r 64 [.agg (cl P k l N Q R S)] [cB y],.n y false,.r 81 [cI a,cI 0,cI 3] [cB z],.n z false,.p ((0:Int)≤0),.p (0<(N.length:Int)),.e N 0 (wk W X Y Z A0 C0 E0 F0),.r 66 [.agg (wk W X Y Z A0 C0 E0 F0),cI a] [cB q0],.b q0 false,.p (0≤a),.p (a<(A.length:Int)),.e A a.toNat [B z0,I b,I d0,B q1,B r1],.a .sub,.p (0≤b),.p (b<(F.length:Int)),.e F b.toNat (wk G H J K C E L M),.r 82 [.agg (wk G H J K C E L M),cI a] [cB r0],.n r0 false,.e A a.toNat [B s0,I e0,I f0,B s1,B t1],.n s0 false,.e A a.toNat [B u1,I a0,I i0,B v1,B w1],.b (decide (a0>0)) true,.e A a.toNat [B x1,I j0,I m,B y1,B z1],.a .sub,.e F b.toNat (wk G H J K C E L M),.p (0≤a),.p (a<(C.length:Int)),.e C a.toNat [I n],.v (m+n),.r 81 [cI (m+n),cI (-1000000),cI 1000000] [cB t0],.n t0 false,.e A a.toNat [B q2,I k0,I c,B r2,B s2],.a .sub,.e F b.toNat (wk G H J K C E L M),.p (0≤a),.p (a<(C.length:Int)),.e C a.toNat [I d],.v (c+d),.e A a.toNat [B q,I e,I l0,B r,B s],.e (A.set a.toNat [B q,I e,I (c+d),B r,B s]) a.toNat [B t2,I m0,I n0,B u0,B u2],.b u0 false,.a .sub,.e F b.toNat (wk G H J K C E L M),.p (0≤a),.p (a<(E.length:Int)),.e E a.toNat [B t],.e (A.set a.toNat [B q,I e,I (c+d),B r,B s]) a.toNat [B u,I f,I g,B v2,B v],.e ((A.set a.toNat [B q,I e,I (c+d),B r,B s]).set a.toNat [B u,I f,I g,B t,B v]) a.toNat [B w2,I o0,I p0,B x2,B v0],.b v0 true,.e ((A.set a.toNat [B q,I e,I (c+d),B r,B s]).set a.toNat [B u,I f,I g,B t,B v]) a.toNat [B w,I i,I j,B x,B y2],.a .sub,.e F b.toNat (wk G H J K C E L M),.p (0≤a),.p (a<(E.length:Int)),.e E a.toNat [B z2],.e F b.toNat (wk G H J K C E L M),.p (b.toNat=b.toNat),.p (b.toNat=b.toNat),.p (b.toNat=b.toNat),.p (b.toNat=b.toNat),.p (b.toNat=b.toNat),.e (((A.set a.toNat [B q,I e,I (c+d),B r,B s]).set a.toNat [B u,I f,I g,B t,B v]).set a.toNat [B w,I i,I j,B x,B true]) a.toNat [B q3,I o,I a1,B r3,B s3],.v (o-1),.e (((A.set a.toNat [B q,I e,I (c+d),B r,B s]).set a.toNat [B u,I f,I g,B t,B v]).set a.toNat [B w,I i,I j,B x,B true]) a.toNat [B w0,I b1,I c0,B x0,B y0]]):
 Rt 19 [.agg (cl P k l N Q R S),cI a] [.agg [D.sl 4 G0,I b0,I p,D.sl 8 (F.set b.toNat (wk G H J K C (E.set a.toNat [B false]) L M)),D.sl 6 U,D.sl 5 ((((A.set a.toNat [B q,I e,I (c+d),B r,B s]).set a.toNat [B u,I f,I g,B t,B v]).set a.toNat [B w,I i,I j,B x,B true]).set a.toNat [B w0,I (o-1),I c0,B x0,B y0]),D.sl 3 V],cB true]:=
 h.of
theorem qzQ(h:Oo [.r 61 [.agg (cl P k l N Q R S)] [.agg (cl G0 b0 p G U A V)],.r 64 [.agg (cl P k l N Q R S)] [cB q0],.n q0 false,.r 81 [cI a,cI 0,cI 3] [cB r0],.n r0 false,.p ((0:Int)≤0),.p (0<(N.length:Int)),.e N 0 (wk W X Y Z A0 C0 E0 F0),.r 66 [.agg (wk W X Y Z A0 C0 E0 F0),cI a] [cB s0],.b s0 false,.p (0≤a),.p (a<(A.length:Int)),.e A a.toNat [B q1,I b,I d0,B r1,B s1],.a .sub,.p (0≤b),.p (b<(G.length:Int)),.e G b.toNat (wk H J K L C E F M),.r 82 [.agg (wk H J K L C E F M),cI a] [cB t0],.n t0 false,.e A a.toNat [B u0,I e0,I f0,B t1,B u1],.n u0 false,.e A a.toNat [B v1,I a0,I i0,B w1,B x1],.b (decide (a0>0)) true,.e A a.toNat [B y1,I j0,I m,B z1,B q2],.a .sub,.e G b.toNat (wk H J K L C E F M),.p (0≤a),.p (a<(C.length:Int)),.e C a.toNat [I n],.v (m+n),.r 81 [cI (m+n),cI (-1000000),cI 1000000] [cB v0],.n v0 false,.e A a.toNat [B r2,I k0,I c,B s2,B t2],.a .sub,.e G b.toNat (wk H J K L C E F M),.p (0≤a),.p (a<(C.length:Int)),.e C a.toNat [I d],.v (c+d),.e A a.toNat [B q,I e,I l0,B r,B s],.e (A.set a.toNat [B q,I e,I (c+d),B r,B s]) a.toNat [B u2,I m0,I n0,B w0,B v2],.b w0 false,.a .sub,.e G b.toNat (wk H J K L C E F M),.p (0≤a),.p (a<(E.length:Int)),.e E a.toNat [B t],.e (A.set a.toNat [B q,I e,I (c+d),B r,B s]) a.toNat [B u,I f,I g,B w2,B v],.e ((A.set a.toNat [B q,I e,I (c+d),B r,B s]).set a.toNat [B u,I f,I g,B t,B v]) a.toNat [B x2,I o0,I p0,B y2,B x0],.b x0 false,.a .sub,.e G b.toNat (wk H J K L C E F M),.p (0≤a),.p (a<(F.length:Int)),.e F a.toNat [B w],.e ((A.set a.toNat [B q,I e,I (c+d),B r,B s]).set a.toNat [B u,I f,I g,B t,B v]) a.toNat [B x,I i,I j,B y,B z2],.a .sub,.e G b.toNat (wk H J K L C E F M),.p (0≤a),.p (a<(E.length:Int)),.e E a.toNat [B q3],.e G b.toNat (wk H J K L C E F M),.p (b.toNat=b.toNat),.p (b.toNat=b.toNat),.p (b.toNat=b.toNat),.p (b.toNat=b.toNat),.p (b.toNat=b.toNat),.e (((A.set a.toNat [B q,I e,I (c+d),B r,B s]).set a.toNat [B u,I f,I g,B t,B v]).set a.toNat [B x,I i,I j,B y,B w]) a.toNat [B r3,I o,I a1,B s3,B t3],.v (o-1),.e (((A.set a.toNat [B q,I e,I (c+d),B r,B s]).set a.toNat [B u,I f,I g,B t,B v]).set a.toNat [B x,I i,I j,B y,B w]) a.toNat [B y0,I b1,I c0,B z0,B z]]):
 Rt 19 [.agg (cl P k l N Q R S),cI a] [.agg [D.sl 4 G0,I b0,I p,D.sl 8 (G.set b.toNat (wk H J K L C (E.set a.toNat [B false]) F M)),D.sl 6 U,D.sl 5 ((((A.set a.toNat [B q,I e,I (c+d),B r,B s]).set a.toNat [B u,I f,I g,B t,B v]).set a.toNat [B x,I i,I j,B y,B w]).set a.toNat [B y0,I (o-1),I c0,B z0,B z]),D.sl 3 V],cB true]:=
 h.of
def qfP(a b:Int)(H:LL)(f g:Int)(J K L M:LL)(i c:Int)(A:LL)(d e:Int)(C E F G:LL):St:=
 { env:=envOf 229 [(1,vI a),(2,vP 2),(4,vP 4),(6,vP 6),(9,.al (.one (.sb true))),(10,vI b)],boxes:=[(6,[lO 130000 4 H,lI f,lI g,lO 130003 8 J,lO 130004 6 K,lO 130005 5 L,lO 130006 3 M]),(4,[.v (sn),lI i,lI c,.v (sn),.v (sn),.v (sn),.v (sn)]),(2,[.sl .free 4 A,lI d,lI e,.sl .free 8 C,.sl .free 6 E,.sl .free 5 F,.sl .free 3 G])] }
theorem qzR(h:Oo [.b (decide (a<(C.length:Int))) true,.g A [[I a,I b,B true]] 24,.h [[I a,I b,B true]],.u a]):
 Tp (qaa f19 0) (qfP b a E c d F G H A e f J g i C K L M) .normal (qfP b (a+1) E c d F G H (A++[[I a,I b,B true]]) e f J g i C K L M):=
 h.lp [10,2,6,1,9,4] [6,4,2]
def qfQ(A:LL)(a b:Int)(C E F G:LL)(c d:Int):St:=
 { env:=envOf 229 [(4,vP 4),(6,vP 6)],boxes:=[(6,[lO 130000 4 A,lI a,lI b,lO 130003 8 C,lO 130004 6 E,lO 130005 5 F,lO 130006 3 G]),(4,[.v (sn),lI c,lI d,.v (sn),.v (sn),.v (sn),.v (sn)])] }
theorem qzS(h:Oo [.b (decide (a<(H.length:Int))) false]):
 Tp (qaa f19 0) (qfP f a A b c C E F G d e J g i H K L M) (.exit 1) (qfQ A b c C E F G d e):=
 h.lp [6,4] [6,4]
theorem qzT(h:Oo [.r 61 [.agg (cl P e f N Q R S)] [.agg (cl M0 n j G U F V)],.r 64 [.agg (cl P e f N Q R S)] [cB s],.n s false,.r 81 [cI a,cI 0,cI 3] [cB t],.n t false,.p ((0:Int)≤0),.p (0<(N.length:Int)),.e N 0 (wk W X Y Z A0 C0 E0 F0),.r 66 [.agg (wk W X Y Z A0 C0 E0 F0),cI a] [cB u],.b u false,.p (0≤a),.p (a<(F.length:Int)),.e F a.toNat [B q0,I b,I o,B r0,B s0],.a .sub,.p (0≤b),.p (b<(G.length:Int)),.e G b.toNat (wk H J K L A C M E),.r 82 [.agg (wk H J K L A C M E),cI a] [cB v],.n v false,.e F a.toNat [B w,I p,I a0,B t0,B u0],.n w false,.e F a.toNat [B v0,I k,I b0,B w0,B x0],.b (decide (k>0)) false,.e F a.toNat [B y0,I c,I d,B q,B r],.e (F.set a.toNat [B false,I c,I d,B q,B r]) a.toNat [B z0,I c0,I d0,B x,B q1],.n x true,.a .sub,.e G b.toNat (wk H J K L A C M E),.p (0≤a),.p (a<(C.length:Int)),.e C a.toNat [B y],.n y true,.e (F.set a.toNat [B false,I c,I d,B q,B r]) a.toNat [B r1,I e0,I g,B s1,B t1],.a .sub,.e G b.toNat (wk H J K L A C M E),.p (0≤a),.p (a<(A.length:Int)),.e A a.toNat [I i],.v (g+i),.b (g+i==0) true,.e (F.set a.toNat [B false,I c,I d,B q,B r]) a.toNat [B u1,I f0,I i0,B v1,B z],.b z true,.a .sub,.e G b.toNat (wk H J K L A C M E),.g E [[I a,B true]] 16,.e G b.toNat (wk H J K L A C M E),.p ((wk H J K L A C M E)[7]?=some (D.sl 2 E)),.p (b.toNat=b.toNat),.p (b.toNat=b.toNat),.h [[I a,B true]],.e G b.toNat (wk H J K L A C M E),.p (b.toNat=b.toNat),.l [] [10,2,6,1,9,4] [6,4,2] (qaa f19 0) (qfP a 1 M0 n j (G.set b.toNat (wk H J K L A C M (E++[[I a,B true]]))) U (F.set a.toNat [B false,I c,I d,B q,B r]) V 0 0 P e f N Q R S) (.exit 1) (qfQ G0 l m H0 J0 K0 L0 j0 k0)]):
 Rt 19 [.agg (cl P e f N Q R S),cI a] [.agg (cl G0 l m H0 J0 K0 L0),cB true]:=
 h.of
def qfR(a:Int)(q:Bool)(f:Int)(H:LL)(g i:Int)(J K L M:LL)(b c:Int)(A:LL)(d e:Int)(C E F G:LL):St:=
 { env:=envOf 229 [(1,vI a),(2,vP 2),(4,vP 4),(6,vP 6),(9,.al (.one (.sb q))),(10,vI f)],boxes:=[(6,[lO 130000 4 H,lI g,lI i,lO 130003 8 J,lO 130004 6 K,lO 130005 5 L,lO 130006 3 M]),(4,[.v (sn),lI b,lI c,.v (sn),.v (sn),.v (sn),.v (sn)]),(2,[.sl .free 4 A,lI d,lI e,.sl .free 8 C,.sl .free 6 E,.sl .free 5 F,.sl .free 3 G])] }
theorem qzU(h:Oo [.b (decide (a<(C.length:Int))) true,.g A [[I a,I b,B q]] 24,.h [[I a,I b,B q]],.u a]):
 Tp (qaa f19 0) (qfR b q a E c d F G H A e f J g i C K L M) .normal (qfR b q (a+1) E c d F G H (A++[[I a,I b,B q]]) e f J g i C K L M):=
 h.lp [10,2,6,1,9,4] [6,4,2]
theorem qzV(h:Oo [.b (decide (a<(H.length:Int))) false]):
 Tp (qaa f19 0) (qfR f q a A b c C E F G d e J g i H K L M) (.exit 1) (qfQ A b c C E F G d e):=
 h.lp [6,4] [6,4]
theorem qzW(h:Oo [.r 61 [.agg (cl P e f N Q R S)] [.agg (cl M0 n j G U H V)],.r 64 [.agg (cl P e f N Q R S)] [cB t],.n t false,.r 81 [cI a,cI 0,cI 3] [cB u],.n u false,.p ((0:Int)≤0),.p (0<(N.length:Int)),.e N 0 (wk W X Y Z A0 C0 E0 F0),.r 66 [.agg (wk W X Y Z A0 C0 E0 F0),cI a] [cB v],.b v false,.p (0≤a),.p (a<(H.length:Int)),.e H a.toNat [B r0,I b,I o,B s0,B t0],.a .sub,.p (0≤b),.p (b<(G.length:Int)),.e G b.toNat (wk J K L M A C E F),.r 82 [.agg (wk J K L M A C E F),cI a] [cB w],.n w false,.e H a.toNat [B x,I p,I a0,B u0,B v0],.n x false,.e H a.toNat [B w0,I k,I b0,B x0,B y0],.b (decide (k>0)) false,.e H a.toNat [B z0,I c,I d,B q,B r],.e (H.set a.toNat [B false,I c,I d,B q,B r]) a.toNat [B q1,I c0,I d0,B y,B r1],.n y true,.a .sub,.e G b.toNat (wk J K L M A C E F),.p (0≤a),.p (a<(C.length:Int)),.e C a.toNat [B z],.n z true,.e (H.set a.toNat [B false,I c,I d,B q,B r]) a.toNat [B s1,I e0,I g,B t1,B u1],.a .sub,.e G b.toNat (wk J K L M A C E F),.p (0≤a),.p (a<(A.length:Int)),.e A a.toNat [I i],.v (g+i),.b (g+i==0) true,.e (H.set a.toNat [B false,I c,I d,B q,B r]) a.toNat [B v1,I f0,I i0,B w1,B q0],.b q0 false,.a .sub,.e G b.toNat (wk J K L M A C E F),.p (0≤a),.p (a<(E.length:Int)),.e E a.toNat [B s],.a .sub,.e G b.toNat (wk J K L M A C E F),.g F [[I a,B s]] 16,.e G b.toNat (wk J K L M A C E F),.p ((wk J K L M A C E F)[7]?=some (D.sl 2 F)),.p (b.toNat=b.toNat),.p (b.toNat=b.toNat),.h [[I a,B s]],.e G b.toNat (wk J K L M A C E F),.p (b.toNat=b.toNat),.l [] [10,2,6,1,9,4] [6,4,2] (qaa f19 0) (qfR a s 1 M0 n j (G.set b.toNat (wk J K L M A C E (F++[[I a,B s]]))) U (H.set a.toNat [B false,I c,I d,B q,B r]) V 0 0 P e f N Q R S) (.exit 1) (qfQ G0 l m H0 J0 K0 L0 j0 k0)]):
 Rt 19 [.agg (cl P e f N Q R S),cI a] [.agg (cl G0 l m H0 J0 K0 L0),cB true]:=
 h.of
theorem qzX(h:Oo [.r 61 [.agg (cl P e f G Q R S)] [.agg (cl G0 l j C U A V)],.r 64 [.agg (cl P e f G Q R S)] [cB s],.n s false,.r 81 [cI a,cI 0,cI 3] [cB t],.n t false,.p ((0:Int)≤0),.p (0<(G.length:Int)),.e G 0 (wk W X Y Z A0 C0 E0 F0),.r 66 [.agg (wk W X Y Z A0 C0 E0 F0),cI a] [cB u],.b u false,.p (0≤a),.p (a<(A.length:Int)),.e A a.toNat [B z,I b,I m,B q0,B r0],.a .sub,.p (0≤b),.p (b<(C.length:Int)),.e C b.toNat (wk H J K L E F M N),.r 82 [.agg (wk H J K L E F M N),cI a] [cB v],.n v false,.e A a.toNat [B w,I n,I o,B s0,B t0],.n w false,.e A a.toNat [B u0,I k,I p,B v0,B w0],.b (decide (k>0)) false,.e A a.toNat [B x0,I c,I d,B q,B r],.e (A.set a.toNat [B false,I c,I d,B q,B r]) a.toNat [B y0,I a0,I b0,B x,B z0],.n x true,.a .sub,.e C b.toNat (wk H J K L E F M N),.p (0≤a),.p (a<(F.length:Int)),.e F a.toNat [B y],.n y true,.e (A.set a.toNat [B false,I c,I d,B q,B r]) a.toNat [B q1,I c0,I g,B r1,B s1],.a .sub,.e C b.toNat (wk H J K L E F M N),.p (0≤a),.p (a<(E.length:Int)),.e E a.toNat [I i],.v (g+i),.b (g+i==0) false]):
 Rt 19 [.agg (cl P e f G Q R S),cI a] [.agg (cl G0 l j C U (A.set a.toNat [B false,I c,I d,B q,B r]) V),cB true]:=
 h.of
theorem qzY(h:Oo [.r 61 [.agg (cl G c d E Q R S)] [.agg (cl G0 j g C U A V)],.r 64 [.agg (cl G c d E Q R S)] [cB s],.n s false,.r 81 [cI a,cI 0,cI 3] [cB t],.n t false,.p ((0:Int)≤0),.p (0<(E.length:Int)),.e E 0 (wk W X Y Z A0 C0 E0 F0),.r 66 [.agg (wk W X Y Z A0 C0 E0 F0),cI a] [cB u],.b u false,.p (0≤a),.p (a<(A.length:Int)),.e A a.toNat [B z,I b,I k,B q0,B r0],.a .sub,.p (0≤b),.p (b<(C.length:Int)),.e C b.toNat (wk H J K L M F N P),.r 82 [.agg (wk H J K L M F N P),cI a] [cB v],.n v false,.e A a.toNat [B w,I l,I m,B s0,B t0],.n w false,.e A a.toNat [B u0,I i,I n,B v0,B w0],.b (decide (i>0)) false,.e A a.toNat [B x0,I e,I f,B q,B r],.e (A.set a.toNat [B false,I e,I f,B q,B r]) a.toNat [B y0,I o,I p,B x,B z0],.n x true,.a .sub,.e C b.toNat (wk H J K L M F N P),.p (0≤a),.p (a<(F.length:Int)),.e F a.toNat [B y],.n y false]):
 Rt 19 [.agg (cl G c d E Q R S),cI a] [.agg (cl G0 j g C U (A.set a.toNat [B false,I e,I f,B q,B r]) V),cB true]:=
 h.of
theorem qzZ(h:Oo [.r 61 [.agg (cl F c d C G H J)] [.agg (cl G0 j g E K A L)],.r 64 [.agg (cl F c d C G H J)] [cB s],.n s false,.r 81 [cI a,cI 0,cI 3] [cB t],.n t false,.p ((0:Int)≤0),.p (0<(C.length:Int)),.e C 0 (wk M N P Q R S U V),.r 66 [.agg (wk M N P Q R S U V),cI a] [cB u],.b u false,.p (0≤a),.p (a<(A.length:Int)),.e A a.toNat [B y,I b,I k,B z,B q0],.a .sub,.p (0≤b),.p (b<(E.length:Int)),.e E b.toNat (wk W X Y Z A0 C0 E0 F0),.r 82 [.agg (wk W X Y Z A0 C0 E0 F0),cI a] [cB v],.n v false,.e A a.toNat [B w,I l,I m,B r0,B s0],.n w false,.e A a.toNat [B t0,I i,I n,B u0,B v0],.b (decide (i>0)) false,.e A a.toNat [B w0,I e,I f,B q,B r],.e (A.set a.toNat [B false,I e,I f,B q,B r]) a.toNat [B x0,I o,I p,B x,B y0],.n x false]):
 Rt 19 [.agg (cl F c d C G H J),cI a] [.agg (cl G0 j g E K (A.set a.toNat [B false,I e,I f,B q,B r]) L),cB true]:=
 h.of
theorem qz0(h:Oo [.b (decide ((A.length:Int)>0)) true,.p ((0:Int)≤0),.p (0<(A.length:Int)),.e A 0 (wk K L C E F G H J),.r 114 [.agg (wk K L C E F G H J),cI a] [cB q]]):
 Rt 138 [.agg (cl M b c A N P Q),cI a] [cB q]:=
 h.of
def qeN(A C E F G H J K:LL)(a b:Int):St:=
 { env:=envOf 22 [(1,vI a),(2,vP 2),(5,vI b)],boxes:=[(2,[.sl .free 5 A,.sl .free 5 C,.sl .free 5 E,.sl .free 4 F,.sl .free 1 G,.sl .free 1 H,.sl .free 1 J,.sl .free 2 K])] }
def qkm(q:Bool):St:=
 { env:=envOf 22 [(4,.al (.one (.sb q)))],boxes:=[] }
theorem qz1(h:Oo [.b (decide (a<(A.length:Int))) true,.p (0≤a),.p (a<(A.length:Int)),.e A a.toNat (ri d b e f g),.b (decide (b≤c)) true]):
 Tp (qaa f205 0) (qeN C E A F G H J K c a) .ret (qkm true):=
 h.lp [4] []
theorem qz2(h:Oo [.b (decide (a<(A.length:Int))) true,.p (0≤a),.p (a<(A.length:Int)),.e A a.toNat (ri d c e f g),.b (decide (c≤b)) false,.u a]):
 Tp (qaa f205 0) (qeN C E A F G H J K b a) .normal (qeN C E A F G H J K b (a+1)):=
 h.lp [5,2,1] [2]
def qoB:St:=
 { env:=envOf 22 [],boxes:=[] }
theorem qz3(h:Oo [.b (decide (a<(A.length:Int))) false]):
 Tp (qaa f205 0) (qeN C E A F G H J K b a) (.exit 0) qoB:=
 h.lp [] []
theorem qz4(h:Oo [.l [] [5,2,1] [2] (qaa f205 0) (qeN A C E F G H J K a 0) .ret (qkm q)]):
 Rt 205 [.agg (wk A C E F G H J K),cI a] [cB q]:=
 h.of
theorem qz5(h:Oo [.l [] [5,2,1] [2] (qaa f205 0) (qeN A C E F G H J K a 0) (.exit 0) qoB]):
 Rt 205 [.agg (wk A C E F G H J K),cI a] [cB false]:=
 h.of
theorem qz6(h:Oo [.r 205 [.agg (wk A C E F G H J K),cI a] [cB q],.n q true,.r 206 [.agg (wk A C E F G H J K),cI a] [cI b]]):
 Rt 139 [.agg (wk A C E F G H J K),cI a] [cB (b==0)]:=
 h.of
theorem qz7(h:Oo [.r 205 [.agg (wk A C E F G H J K),cI a] [cB q],.n q false]):
 Rt 139 [.agg (wk A C E F G H J K),cI a] [cB false]:=
 h.of
theorem qz8(h:Oo [.r 233 [cS 5 E,cI a] [cS 5 C],.r 233 [cS 5 F,cI a] [cS 5 A],.v ((C.length:Int)+(A.length:Int))]):
 Rt 206 [.agg (wk E F G H J K L M),cI a] [cI ((C.length:Int)+(A.length:Int))]:=
 h.of
theorem qz9(h:Oo [.r 207 [cS 5 A,.one (.cl 208 [D.ptr [I a]])] [cB q]]):
 Rt 141 [.agg (wk C E A F G H J K),cI a] [cB q]:=
 h.of
theorem qAa(h:Oo []):
 Rt 208 [.agg (ri c a d e f),.one (.ptr [I b])] [cB (decide (a≤b))]:=
 h.of
theorem qAb(h:Oo [.r 141 [.agg (wk A C E F G H J K),cI a] [cB q],.n q true,.r 142 [.agg (wk A C E F G H J K),cI a] [cI b]]):
 Rt 82 [.agg (wk A C E F G H J K),cI a] [cB (b==0)]:=
 h.of
theorem qAc(h:Oo [.r 141 [.agg (wk A C E F G H J K),cI a] [cB q],.n q false]):
 Rt 82 [.agg (wk A C E F G H J K),cI a] [cB false]:=
 h.of
theorem qAd(h:Oo [.r 174 [cS 5 E,cI a] [cS 5 C],.r 174 [cS 5 F,cI a] [cS 5 A],.v ((C.length:Int)+(A.length:Int))]):
 Rt 142 [.agg (wk E F G H J K L M),cI a] [cI ((C.length:Int)+(A.length:Int))]:=
 h.of
end Go.Proofs.YtdanpadojemjeaaGreat
