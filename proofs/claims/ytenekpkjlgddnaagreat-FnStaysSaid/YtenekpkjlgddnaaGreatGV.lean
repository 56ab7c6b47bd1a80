import Derived.Test.YtenekpkjlgddnaaGreatRows
import Derived.Test.YtenekpkjlgddnaaGreatGE
set_option linter.unusedVariables false
set_option linter.unusedSimpArgs false
namespace Go.Proofs.YtenekpkjlgddnaaGreat
open Go.Sx Go.RowKit Go.Proofs.Tryz
variable {a b c d e f g i j k l m n o p a0 a1 b0 b1 c0 d0 e0 f0 i0 j0 k0 l0 m0 n0 o0 p0 : Int} {A C E F G H J K L M N P Q R S U V W X Y Z A0 C0 E0 F0 G0 H0 J0 K0 L0 M0 : LL} {q r s t u v w x y z q0 q1 q2 q3 r0 r1 r2 r3 s0 s1 s2 s3 t0 t1 t2 t3 u0 u1 u2 v0 v1 v2 w0 w1 w2 x0 x1 x2 y0 y1 y2 z0 z1 z2 : Bool}
theorem qwh(h:Oo [.g ([]:LL) A 8,.h A]):
 Rt 69 [.agg (nd a b c A)] [.agg (nd a b c ([]++A))]:=
 h.of
def qeZ(A:LL)(a:Int)(C:LL)(b c d e:Int):St:=
 { env:=envOf 27 [(2,vP 2),(3,vP 3),(12,vF 4 A),(13,vI (A.length:Int)),(14,vI a)],boxes:=[(3,[lO 23 4 C,lI b,lI c]),(2,[.v (sn),lI d,lI e])] }
theorem qwi(h:Oo [.b (decide (a<(A.length:Int))) true,.p (0≤a),.p (a<(A.length:Int)),.e A a.toNat (nd l e f F),.r 69 [.agg (nd l e f F)] [.agg (nd b c d C)],.a .wr,.g E [(nd b c d C)] 48,.u a]):
 Tp (qab f54 0) (qeZ A a E g i j k) .normal (qeZ A (a+1) (E++[(nd b c d C)]) g i j k):=
 h.lp [14,13,12,3,2] [3,2]
def qlF(A:LL)(a b c d:Int):St:=
 { env:=envOf 27 [(2,vP 2),(3,vP 3)],boxes:=[(3,[lO 23 4 A,lI a,lI b]),(2,[.v (sn),lI c,lI d])] }
theorem qwj(h:Oo [.b (decide (a<(A.length:Int))) false]):
 Tp (qab f54 0) (qeZ A a C b c d e) (.exit 0) (qlF C b c d e):=
 h.lp [3,2] [3,2]
theorem qwk(h:Oo [.l [(4000000,23,4)] [14,13,12,3,2] [3,2] (qab f54 0) (qeZ A 0 [] a b 0 0) (.exit 0) (qlF C c d e f)]):
 Rt 54 [.agg (gr A a b)] [.agg (gr C c d)]:=
 h.of
theorem qwl(h:Oo [.r 70 [cS 5 A] [cS 5 C]]):
 Rt 56 [.agg (lk a A b c d e)] [.agg (lk a C b c d e)]:=
 h.of
theorem qwm(h:Oo [.r 70 [cS 5 G] [cS 5 N],.r 70 [cS 5 H] [cS 5 P],.r 70 [cS 5 L] [cS 5 J],.r 71 [cS 4 M] [cS 4 K],.g ([]:LL) A 8,.h A,.g ([]:LL) C 1,.h C,.g ([]:LL) E 1,.h E,.g ([]:LL) F 16,.h F]):
 Rt 55 [.agg (wk G H L M A C E F)] [.agg (wk N P J K ([]++A) ([]++C) ([]++E) ([]++F))]:=
 h.of
def qe0(A:LL)(a:Int)(J:LL)(d e:Int)(K L M:LL)(f g:Int)(C:LL)(b c:Int)(E F G H:LL):St:=
 { env:=envOf 49 [(1,vP 1),(2,vP 2),(3,vP 3),(19,vF 8 A),(20,vI (A.length:Int)),(21,vI a)],boxes:=[(3,[lO 110000 4 J,lI d,lI e,lO 30 8 K,.v (sn),lO 13 5 L,lO 16 3 M]),(2,[.v (sn),lI f,lI g,.v (sn),.v (sn),.v (sn),.v (sn)]),(1,[.sl .free 4 C,lI b,lI c,.sl .free 8 E,.sl .free 6 F,.sl .free 5 G,.sl .free 3 H])] }
theorem qwn(h:Oo [.b (decide (a<(A.length:Int))) true,.p (0≤a),.p (a<(A.length:Int)),.e A a.toNat (wk X Y Z A0 C0 E0 F0 G0),.r 55 [.agg (wk X Y Z A0 C0 E0 F0 G0)] [.agg (wk E F G H J K L M)],.a .wr,.g C [(wk E F G H J K L M)] 192,.u a]):
 Tp (qab f25 0) (qe0 A a N b c C P Q d e R f g S U V W) .normal (qe0 A (a+1) N b c (C++[(wk E F G H J K L M)]) P Q d e R f g S U V W):=
 h.lp [21,20,19,3,1,2] [3,2,1]
def qlG(A:LL)(a c:Int)(H J K:LL)(d e:Int)(L:LL)(f b:Int)(C E F G:LL):St:=
 { env:=envOf 49 [(1,vP 1),(2,vP 2),(3,vP 3)],boxes:=[(3,[lO 110000 4 A,lI a,lI c,lO 30 8 H,.v (sn),lO 13 5 J,lO 16 3 K]),(2,[.v (sn),lI d,lI e,.v (sn),.v (sn),.v (sn),.v (sn)]),(1,[.sl .free 4 L,lI f,lI b,.sl .free 8 C,.sl .free 6 E,.sl .free 5 F,.sl .free 3 G])] }
theorem qwo(h:Oo [.b (decide (a<(M.length:Int))) false]):
 Tp (qab f25 0) (qe0 M a A b c C E F d e G f g H J K L) (.exit 0) (qlG A b c C E F d e G f g H J K L):=
 h.lp [1,3,2] [3,2,1]
def qe1(A:LL)(a:Int)(C:LL)(c d:Int)(E F G H:LL)(e b:Int):St:=
 { env:=envOf 49 [(2,vP 2),(3,vP 3),(34,vF 6 A),(35,vI (A.length:Int)),(36,vI a)],boxes:=[(3,[lO 110000 4 C,lI c,lI d,lO 30 8 E,lO 45 6 F,lO 13 5 G,lO 16 3 H]),(2,[.v (sn),lI e,lI b,.v (sn),.v (sn),.v (sn),.v (sn)])] }
theorem qwp(h:Oo [.b (decide (a<(A.length:Int))) true,.p (0≤a),.p (a<(A.length:Int)),.e A a.toNat (lk l K m n o p),.r 56 [.agg (lk l K m n o p)] [.agg (lk b E c d e f)],.a .wr,.g C [(lk b E c d e f)] 64,.u a]):
 Tp (qab f25 1) (qe1 A a F g i G C H J j k) .normal (qe1 A (a+1) F g i G (C++[(lk b E c d e f)]) H J j k):=
 h.lp [36,35,34,3,2] [3,2]
def qlH(A:LL)(a b:Int)(C E F G:LL)(c d:Int):St:=
 { env:=envOf 49 [(2,vP 2),(3,vP 3)],boxes:=[(3,[lO 110000 4 A,lI a,lI b,lO 30 8 C,lO 45 6 E,lO 13 5 F,lO 16 3 G]),(2,[.v (sn),lI c,lI d,.v (sn),.v (sn),.v (sn),.v (sn)])] }
theorem qwq(h:Oo [.b (decide (a<(A.length:Int))) false]):
 Tp (qab f25 1) (qe1 A a C b c E F G H d e) (.exit 2) (qlH C b c E F G H d e):=
 h.lp [3,2] [3,2]
theorem qwr(h:Oo [.r 54 [.agg (gr E a b)] [.agg (gr U j k)],.g ([]:LL) A 32,.h A,.g ([]:LL) C 24,.h C,.l [(4000003,30,8)] [21,20,19,3,1,2] [3,2,1] (qab f25 0) (qe0 F 0 U j k [] ([]++A) ([]++C) 0 0 E a b F S A C) (.exit 0) (qlG G c d H J K e f V l m W L X Y),.l [(4000004,45,6)] [36,35,34,3,2] [3,2] (qab f25 1) (qe1 L 0 G c d H [] J K e f) (.exit 2) (qlH M g i N P Q R n o)]):
 Rt 25 [.agg (cl E a b F S A C)] [.agg (cl M g i N P Q R)]:=
 h.of
def qe2(a:Int)(A:LL)(b c d e:Int)(C:LL)(f g:Int):St:=
 { env:=envOf 33 [(1,vP 1),(2,vP 2),(3,vP 3),(4,vI a)],boxes:=[(3,[lO 7 4 A,lI b,lI c]),(2,[.v (sn),lI d,lI e]),(1,[.sl .free 4 C,lI f,lI g])] }
theorem qws(h:Oo [.b (decide (a<(C.length:Int))) true,.p (0≤a),.p (a<(C.length:Int)),.e C a.toNat (nd b c d A),.a .wr,.g ([]:LL) A 8,.h A,.g E [(nd b c d ([]++A))] 48,.u a]):
 Tp (qab f14 0) (qe2 a E g i j k C e f) .normal (qe2 (a+1) (E++[(nd b c d ([]++A))]) g i j k C e f):=
 h.lp [4,1,3,2] [3,2,1]
def qlI(A:LL)(a b c d:Int):St:=
 { env:=envOf 33 [(2,vP 2),(3,vP 3)],boxes:=[(3,[lO 7 4 A,lI a,lI b]),(2,[.v (sn),lI c,lI d])] }
theorem qwt(h:Oo [.b (decide (a<(C.length:Int))) false]):
 Tp (qab f14 0) (qe2 a A b c d e C f g) (.exit 0) (qlI A b c d e):=
 h.lp [3,2] [3,2]
theorem qwu(h:Oo [.l [] [4,1,3,2] [3,2,1] (qab f14 0) (qe2 0 [] a b 0 0 A a b) (.exit 0) (qlI C c d e f)]):
 Rt 14 [.agg (gr A a b)] [.agg (gr C c d)]:=
 h.of
theorem qwv(h:Oo []):
 Rt 52 [.agg [I a,I c,B q],.one (.ptr [I b])] [cB (a==b)]:=
 h.of
theorem qww(h:Oo [.r 25 [.agg (cl C a d J K L A)] [.agg (cl M f b E F G H)],.r 51 [cS 3 A,.one (.cl 52 [D.ptr [I e]])] [cI c],.b (decide (c<0)) true]):
 Rt 24 [.agg (cl C a d J K L A),cI e] [.agg (cl M f b E F G H),cB false]:=
 h.of
theorem qwx(h:Oo [.r 25 [.agg (cl C a b E F G A)] [.agg (cl M f c H J K L)],.r 51 [cS 3 A,.one (.cl 52 [D.ptr [I e]])] [cI d],.b (decide (d<0)) false,.r 47 [.agg (cl C a b E F G A)] [cB q],.n q true]):
 Rt 24 [.agg (cl C a b E F G A),cI e] [.agg (cl M f c H J K L),cB false]:=
 h.of
theorem qwy(h:Oo [.r 25 [.agg (cl P d e F R S E)] [.agg (cl H0 g f A U V W)],.r 51 [cS 3 E,.one (.cl 52 [D.ptr [I a]])] [cI b],.b (decide (b<0)) false,.r 47 [.agg (cl P d e F R S E)] [cB r],.n r false,.p (0≤b),.p (b<(E.length:Int)),.e E b.toNat [I i,I c,B q],.a (.resG [[some none],[none],[none]] 0 [] [cS 3 Q]),.u b,.p (RetG prog 53 [GA.one (GC.gv 3 W none),GA.one (GC.ro (I b)),GA.one (GC.ro (I (b+1)))] [cS 3 Q]),.p (0≤a),.p (a<(F.length:Int)),.e F a.toNat (wk X Y Z A0 C0 E0 F0 G0),.r 49 [.agg (wk X Y Z A0 C0 E0 F0 G0),cI c] [cB s],.n s true,.a .sub,.p (0≤a),.p (a<(A.length:Int)),.e A a.toNat (wk G H J K L M N C),.g C [[I c,B q]] 16,.e A a.toNat (wk G H J K L M N C),.p ((wk G H J K L M N C)[7]?=some (D.sl 2 C)),.h [[I c,B q]],.p (A=A),.p (A=A),.p (A=A),.p (A=A),.p (A=A),.p (A=A),.p (a.toNat=a.toNat),.p (C=C),.p (0≤a),.p (a<(A.length:Int)),.e A a.toNat (wk G H J K L M N C),.p (a.toNat=a.toNat)]):
 Rt 24 [.agg (cl P d e F R S E),cI a] [.agg (cl H0 g f (A.set a.toNat (wk G H J K L M N (C++[[I c,B q]]))) U V Q),cB true]:=
 h.of
theorem qwz(h:Oo [.r 25 [.agg (cl E c d C G H A)] [.agg (cl X g e J K L M)],.r 51 [cS 3 A,.one (.cl 52 [D.ptr [I b]])] [cI a],.b (decide (a<0)) false,.r 47 [.agg (cl E c d C G H A)] [cB q],.n q false,.p (0≤a),.p (a<(A.length:Int)),.e A a.toNat [I i,I f,B s],.a (.resG [[some none],[none],[none]] 0 [] [cS 3 F]),.u a,.p (RetG prog 53 [GA.one (GC.gv 3 M none),GA.one (GC.ro (I a)),GA.one (GC.ro (I (a+1)))] [cS 3 F]),.p (0≤b),.p (b<(C.length:Int)),.e C b.toNat (wk N P Q R S U V W),.r 49 [.agg (wk N P Q R S U V W),cI f] [cB r],.n r false]):
 Rt 24 [.agg (cl E c d C G H A),cI b] [.agg (cl X g e J K L F),cB true]:=
 h.of
theorem qwA(h:Oo [.r 25 [.agg (cl A a b C E F G)] [.agg (cl M d c H J K L)],.r 47 [.agg (cl A a b C E F G)] [cB q],.n q true]):
 Rt 23 [.agg (cl A a b C E F G),cI e] [.agg (cl M d c H J K L),cB false]:=
 h.of
theorem qwB(h:Oo [.r 25 [.agg (cl A a b C E F G)] [.agg (cl M e c H J K L)],.r 47 [.agg (cl A a b C E F G)] [cB q],.n q false,.r 48 [cI d,cI 0,cI 3] [cB r],.n r true]):
 Rt 23 [.agg (cl A a b C E F G),cI d] [.agg (cl M e c H J K L),cB false]:=
 h.of
theorem qwC(h:Oo [.r 25 [.agg (cl C a b A E F G)] [.agg (cl W e d H J K L)],.r 47 [.agg (cl C a b A E F G)] [cB q],.n q false,.r 48 [cI c,cI 0,cI 3] [cB r],.n r false,.p ((0:Int)≤0),.p (0<(A.length:Int)),.e A 0 (wk M N P Q R S U V),.r 49 [.agg (wk M N P Q R S U V),cI c] [cB s],.b s true]):
 Rt 23 [.agg (cl C a b A E F G),cI c] [.agg (cl W e d H J K L),cB false]:=
 h.of
theorem qwD(h:Oo [.r 25 [.agg (cl F c d A G H J)] [.agg (cl G0 f e C K E L)],.r 47 [.agg (cl F c d A G H J)] [cB q],.n q false,.r 48 [cI a,cI 0,cI 3] [cB r],.n r false,.p ((0:Int)≤0),.p (0<(A.length:Int)),.e A 0 (wk M N P Q R S U V),.r 49 [.agg (wk M N P Q R S U V),cI a] [cB s],.b s false,.p (0≤a),.p (a<(E.length:Int)),.e E a.toNat [B u,I b,I g,B v,B w],.a .sub,.p (0≤b),.p (b<(C.length:Int)),.e C b.toNat (wk W X Y Z A0 C0 E0 F0),.r 50 [.agg (wk W X Y Z A0 C0 E0 F0),cI a] [cB t],.n t true]):
 Rt 23 [.agg (cl F c d A G H J),cI a] [.agg (cl G0 f e C K E L),cB false]:=
 h.of
theorem qwE(h:Oo [.r 25 [.agg (cl P c d F Q R S)] [.agg (cl G0 f e E U G V)],.r 47 [.agg (cl P c d F Q R S)] [cB q],.n q false,.r 48 [cI a,cI 0,cI 3] [cB r],.n r false,.p ((0:Int)≤0),.p (0<(F.length:Int)),.e F 0 (wk W X Y Z A0 C0 E0 F0),.r 49 [.agg (wk W X Y Z A0 C0 E0 F0),cI a] [cB s],.b s false,.p (0≤a),.p (a<(G.length:Int)),.e G a.toNat [B w,I b,I g,B x,B y],.a .sub,.p (0≤b),.p (b<(E.length:Int)),.e E b.toNat (wk H J K L M A C N),.r 50 [.agg (wk H J K L M A C N),cI a] [cB t],.n t false,.e G a.toNat [B u,I i,I j,B z,B q0],.n u true,.a .sub,.e E b.toNat (wk H J K L M A C N),.p (0≤a),.p (a<(C.length:Int)),.e C a.toNat [B v],.v ((F.length:Int)-1),.e G a.toNat [B r0,I k,I l,B s0,B t0],.a .sub,.e E b.toNat (wk H J K L M A C N),.p (0≤a),.p (a<(A.length:Int)),.e A a.toNat [B u0],.e E b.toNat (wk H J K L M A C N),.p (b.toNat=b.toNat),.p (b.toNat=b.toNat),.p (b.toNat=b.toNat)]):
 Rt 23 [.agg (cl P c d F Q R S),cI a] [.agg (cl G0 f e (E.set b.toNat (wk H J K L M (A.set a.toNat [B false]) C N)) U (G.set a.toNat [B true,I ((F.length:Int)-1),I 0,B false,B v]) V),cB true]:=
 h.of
theorem qwF(h:Oo [.r 25 [.agg (cl G c d E Q R S)] [.agg (cl G0 j g C U A V)],.r 47 [.agg (cl G c d E Q R S)] [cB q],.n q false,.r 48 [cI a,cI 0,cI 3] [cB r],.n r false,.p ((0:Int)≤0),.p (0<(E.length:Int)),.e E 0 (wk W X Y Z A0 C0 E0 F0),.r 49 [.agg (wk W X Y Z A0 C0 E0 F0),cI a] [cB s],.b s false,.p (0≤a),.p (a<(A.length:Int)),.e A a.toNat [B w,I b,I k,B x,B y],.a .sub,.p (0≤b),.p (b<(C.length:Int)),.e C b.toNat (wk H J K L F M N P),.r 50 [.agg (wk H J K L F M N P),cI a] [cB t],.n t false,.e A a.toNat [B u,I l,I m,B z,B q0],.n u false,.e A a.toNat [B r0,I i,I n,B s0,B t0],.b (decide (i>0)) true,.e A a.toNat [B u0,I o,I e,B v0,B w0],.a .sub,.e C b.toNat (wk H J K L F M N P),.p (0≤a),.p (a<(F.length:Int)),.e F a.toNat [I f],.v (e+f),.r 48 [cI (e+f),cI (-1000000),cI 1000000] [cB v],.n v true]):
 Rt 23 [.agg (cl G c d E Q R S),cI a] [.agg (cl G0 j g C U A V),cB false]:=
 h.of
theorem qwG(h:Oo [.r 25 [.agg (cl P k l N Q R S)] [.agg (cl G0 b0 p F U A V)],.r 47 [.agg (cl P k l N Q R S)] [cB x],.n x false,.r 48 [cI a,cI 0,cI 3] [cB y],.n y false,.p ((0:Int)≤0),.p (0<(N.length:Int)),.e N 0 (wk W X Y Z A0 C0 E0 F0),.r 49 [.agg (wk W X Y Z A0 C0 E0 F0),cI a] [cB z],.b z false,.p (0≤a),.p (a<(A.length:Int)),.e A a.toNat [B y0,I b,I d0,B z0,B q1],.a .sub,.p (0≤b),.p (b<(F.length:Int)),.e F b.toNat (wk G H J K C E L M),.r 50 [.agg (wk G H J K C E L M),cI a] [cB q0],.n q0 false,.e A a.toNat [B r0,I e0,I f0,B r1,B s1],.n r0 false,.e A a.toNat [B t1,I a0,I i0,B u1,B v1],.b (decide (a0>0)) true,.e A a.toNat [B w1,I j0,I m,B x1,B y1],.a .sub,.e F b.toNat (wk G H J K C E L M),.p (0≤a),.p (a<(C.length:Int)),.e C a.toNat [I n],.v (m+n),.r 48 [cI (m+n),cI (-1000000),cI 1000000] [cB s0],.n s0 false,.e A a.toNat [B z1,I k0,I c,B q2,B r2],.a .sub,.e F b.toNat (wk G H J K C E L M),.p (0≤a),.p (a<(C.length:Int)),.e C a.toNat [I d],.v (c+d),.e A a.toNat [B q,I e,I l0,B r,B s],.e (A.set a.toNat [B q,I e,I (c+d),B r,B s]) a.toNat [B s2,I m0,I n0,B t0,B t2],.b t0 true,.e (A.set a.toNat [B q,I e,I (c+d),B r,B s]) a.toNat [B t,I f,I g,B u2,B u],.e ((A.set a.toNat [B q,I e,I (c+d),B r,B s]).set a.toNat [B t,I f,I g,B true,B u]) a.toNat [B v2,I o0,I p0,B w2,B u0],.b u0 true,.e ((A.set a.toNat [B q,I e,I (c+d),B r,B s]).set a.toNat [B t,I f,I g,B true,B u]) a.toNat [B v,I i,I j,B w,B x2],.a .sub,.e F b.toNat (wk G H J K C E L M),.p (0≤a),.p (a<(E.length:Int)),.e E a.toNat [B y2],.e F b.toNat (wk G H J K C E L M),.p (b.toNat=b.toNat),.p (b.toNat=b.toNat),.p (b.toNat=b.toNat),.e (((A.set a.toNat [B q,I e,I (c+d),B r,B s]).set a.toNat [B t,I f,I g,B true,B u]).set a.toNat [B v,I i,I j,B w,B true]) a.toNat [B z2,I o,I a1,B q3,B r3],.v (o-1),.e (((A.set a.toNat [B q,I e,I (c+d),B r,B s]).set a.toNat [B t,I f,I g,B true,B u]).set a.toNat [B v,I i,I j,B w,B true]) a.toNat [B v0,I b1,I c0,B w0,B x0]]):
 Rt 23 [.agg (cl P k l N Q R S),cI a] [.agg [D.sl 4 G0,I b0,I p,D.sl 8 (F.set b.toNat (wk G H J K C (E.set a.toNat [B false]) L M)),D.sl 6 U,D.sl 5 ((((A.set a.toNat [B q,I e,I (c+d),B r,B s]).set a.toNat [B t,I f,I g,B true,B u]).set a.toNat [B v,I i,I j,B w,B true]).set a.toNat [B v0,I (o-1),I c0,B w0,B x0]),D.sl 3 V],cB true]:=
 h.of
theorem qwH(h:Oo [.r 25 [.agg (cl P k l N Q R S)] [.agg (cl G0 b0 p G U A V)],.r 47 [.agg (cl P k l N Q R S)] [cB y],.n y false,.r 48 [cI a,cI 0,cI 3] [cB z],.n z false,.p ((0:Int)≤0),.p (0<(N.length:Int)),.e N 0 (wk W X Y Z A0 C0 E0 F0),.r 49 [.agg (wk W X Y Z A0 C0 E0 F0),cI a] [cB q0],.b q0 false,.p (0≤a),.p (a<(A.length:Int)),.e A a.toNat [B z0,I b,I d0,B q1,B r1],.a .sub,.p (0≤b),.p (b<(G.length:Int)),.e G b.toNat (wk H J K L C E F M),.r 50 [.agg (wk H J K L C E F M),cI a] [cB r0],.n r0 false,.e A a.toNat [B s0,I e0,I f0,B s1,B t1],.n s0 false,.e A a.toNat [B u1,I a0,I i0,B v1,B w1],.b (decide (a0>0)) true,.e A a.toNat [B x1,I j0,I m,B y1,B z1],.a .sub,.e G b.toNat (wk H J K L C E F M),.p (0≤a),.p (a<(C.length:Int)),.e C a.toNat [I n],.v (m+n),.r 48 [cI (m+n),cI (-1000000),cI 1000000] [cB t0],.n t0 false,.e A a.toNat [B q2,I k0,I c,B r2,B s2],.a .sub,.e G b.toNat (wk H J K L C E F M),.p (0≤a),.p (a<(C.length:Int)),.e C a.toNat [I d],.v (c+d),.e A a.toNat [B q,I e,I l0,B r,B s],.e (A.set a.toNat [B q,I e,I (c+d),B r,B s]) a.toNat [B t2,I m0,I n0,B u0,B u2],.b u0 true,.e (A.set a.toNat [B q,I e,I (c+d),B r,B s]) a.toNat [B t,I f,I g,B v2,B u],.e ((A.set a.toNat [B q,I e,I (c+d),B r,B s]).set a.toNat [B t,I f,I g,B true,B u]) a.toNat [B w2,I o0,I p0,B x2,B v0],.b v0 false,.a .sub,.e G b.toNat (wk H J K L C E F M),.p (0≤a),.p (a<(F.length:Int)),.e F a.toNat [B v],.e ((A.set a.toNat [B q,I e,I (c+d),B r,B s]).set a.toNat [B t,I f,I g,B true,B u]) a.toNat [B w,I i,I j,B x,B y2],.a .sub,.e G b.toNat (wk H J K L C E F M),.p (0≤a),.p (a<(E.length:Int)),.e E a.toNat [B z2],.e G b.toNat (wk H J K L C E F M),.p (b.toNat=b.toNat),.p (b.toNat=b.toNat),.p (b.toNat=b.toNat),.e (((A.set a.toNat [B q,I e,I (c+d),B r,B s]).set a.toNat [B t,I f,I g,B true,B u]).set a.toNat [B w,I i,I j,B x,B v]) a.toNat [B q3,I o,I a1,B r3,B s3],.v (o-1),.e (((A.set a.toNat [B q,I e,I (c+d),B r,B s]).set a.toNat [B t,I f,I g,B true,B u]).set a.toNat [B w,I i,I j,B x,B v]) a.toNat [B w0,I b1,I c0,B x0,B y0]]):
 Rt 23 [.agg (cl P k l N Q R S),cI a] [.agg [D.sl 4 G0,I b0,I p,D.sl 8 (G.set b.toNat (wk H J K L C (E.set a.toNat [B false]) F M)),D.sl 6 U,D.sl 5 ((((A.set a.toNat [B q,I e,I (c+d),B r,B s]).set a.toNat [B t,I f,I g,B true,B u]).set a.toNat [B w,I i,I j,B x,B v]).set a.toNat [B w0,I (o-1),I c0,B x0,B y0]),D.sl 3 V],cB true]:=
 h.of
theorem qwI(h:Oo [.r 25 [.agg (cl P k l N Q R S)] [.agg (cl G0 b0 p F U A V)],.r 47 [.agg (cl P k l N Q R S)] [cB y],.n y false,.r 48 [cI a,cI 0,cI 3] [cB z],.n z false,.p ((0:Int)≤0),.p (0<(N.length:Int)),.e N 0 (wk W X Y Z A0 C0 E0 F0),.r 49 [.agg (wk W X Y Z A0 C0 E0 F0),cI a] [cB q0],.b q0 false,.p (0≤a),.p (a<(A.length:Int)),.e A a.toNat [B z0,I b,I d0,B q1,B r1],.a .sub,.p (0≤b),.p (b<(F.length:Int)),.e F b.toNat (wk G H J K C E L M),.r 50 [.agg (wk G H J K C E L M),cI a] [cB r0],.n r0 false,.e A a.toNat [B s0,I e0,I f0,B s1,B t1],.n s0 false,.e A a.toNat [B u1,I a0,I i0,B v1,B w1],.b (decide (a0>0)) true,.e A a.toNat [B x1,I j0,I m,B y1,B z1],.a .sub,.e F b.toNat (wk G H J K C E L M),.p (0≤a),.p (a<(C.length:Int)),.e C a.toNat [I n],.v (m+n),.r 48 [cI (m+n),cI (-1000000),cI 1000000] [cB t0],.n t0 false,.e A a.toNat [B q2,I k0,I c,B r2,B s2],.a .sub,.e F b.toNat (wk G H J K C E L M),.p (0≤a),.p (a<(C.length:Int)),.e C a.toNat [I d],.v (c+d),.e A a.toNat [B q,I e,I l0,B r,B s],.e (A.set a.toNat [B q,I e,I (c+d),B r,B s]) a.toNat [B t2,I m0,I n0,B u0,B u2],.b u0 false,.a .sub,.e F b.toNat (wk G H J K C E L M),.p (0≤a),.p (a<(E.length:Int)),.e E a.toNat [B t],.e (A.set a.toNat [B q,I e,I (c+d),B r,B s]) a.toNat [B u,I f,I g,B v2,B v],.e ((A.set a.toNat [B q,I e,I (c+d),B r,B s]).set a.toNat [B u,I f,I g,B t,B v]) a.toNat [B w2,I o0,I p0,B x2,B v0],.b v0 true,.e ((A.set a.toNat [B q,I e,I (c+d),B r,B s]).set a.toNat [B u,I f,I g,B t,B v]) a.toNat [B w,I i,I j,B x,B y2],.a .sub,.e F b.toNat (wk G H J K C E L M),.p (0≤a),.p (a<(E.length:Int)),.e E a.toNat [B z2],.e F b.toNat (wk G H J K C E L M),.p (b.toNat=b.toNat),.p (b.toNat=b.toNat),.p (b.toNat=b.toNat),.p (b.toNat=b.toNat),.p (b.toNat=b.toNat),.e (((A.set a.toNat [B q,I e,I (c+d),B r,B s]).set a.toNat [B u,I f,I g,B t,B v]).set a.toNat [B w,I i,I j,B x,B true]) a.toNat [B q3,I o,I a1,B r3,B s3],.v (o-1),.e (((A.set a.toNat [B q,I e,I (c+d),B r,B s]).set a.toNat [B u,I f,I g,B t,B v]).set a.toNat [B w,I i,I j,B x,B true]) a.toNat [B w0,I b1,I c0,B x0,B y0]]):
 Rt 23 [.agg (cl P k l N Q R S),cI a] [.agg [D.sl 4 G0,I b0,I p,D.sl 8 (F.set b.toNat (wk G H J K C (E.set a.toNat [B false]) L M)),D.sl 6 U,D.sl 5 ((((A.set a.toNat [B q,I e,I (c+d),B r,B s]).set a.toNat [B u,I f,I g,B t,B v]).set a.toNat [B w,I i,I j,B x,B true]).set a.toNat [B w0,I (o-1),I c0,B x0,B y0]),D.sl 3 V],cB true]:=
 h.of
theorem qwJ(h:Oo [.r 25 [.agg (cl P k l N Q R S)] [.agg (cl G0 b0 p G U A V)],.r 47 [.agg (cl P k l N Q R S)] [cB q0],.n q0 false,.r 48 [cI a,cI 0,cI 3] [cB r0],.n r0 false,.p ((0:Int)≤0),.p (0<(N.length:Int)),.e N 0 (wk W X Y Z A0 C0 E0 F0),.r 49 [.agg (wk W X Y Z A0 C0 E0 F0),cI a] [cB s0],.b s0 false,.p (0≤a),.p (a<(A.length:Int)),.e A a.toNat [B q1,I b,I d0,B r1,B s1],.a .sub,.p (0≤b),.p (b<(G.length:Int)),.e G b.toNat (wk H J K L C E F M),.r 50 [.agg (wk H J K L C E F M),cI a] [cB t0],.n t0 false,.e A a.toNat [B u0,I e0,I f0,B t1,B u1],.n u0 false,.e A a.toNat [B v1,I a0,I i0,B w1,B x1],.b (decide (a0>0)) true,.e A a.toNat [B y1,I j0,I m,B z1,B q2],.a .sub,.e G b.toNat (wk H J K L C E F M),.p (0≤a),.p (a<(C.length:Int)),.e C a.toNat [I n],.v (m+n),.r 48 [cI (m+n),cI (-1000000),cI 1000000] [cB v0],.n v0 false,.e A a.toNat [B r2,I k0,I c,B s2,B t2],.a .sub,.e G b.toNat (wk H J K L C E F M),.p (0≤a),.p (a<(C.length:Int)),.e C a.toNat [I d],.v (c+d),.e A a.toNat [B q,I e,I l0,B r,B s],.e (A.set a.toNat [B q,I e,I (c+d),B r,B s]) a.toNat [B u2,I m0,I n0,B w0,B v2],.b w0 false,.a .sub,.e G b.toNat (wk H J K L C E F M),.p (0≤a),.p (a<(E.length:Int)),.e E a.toNat [B t],.e (A.set a.toNat [B q,I e,I (c+d),B r,B s]) a.toNat [B u,I f,I g,B w2,B v],.e ((A.set a.toNat [B q,I e,I (c+d),B r,B s]).set a.toNat [B u,I f,I g,B t,B v]) a.toNat [B x2,I o0,I p0,B y2,B x0],.b x0 false,.a .sub,.e G b.toNat (wk H J K L C E F M),.p (0≤a),.p (a<(F.length:Int)),.e F a.toNat [B w],.e ((A.set a.toNat [B q,I e,I (c+d),B r,B s]).set a.toNat [B u,I f,I g,B t,B v]) a.toNat [B x,I i,I j,B y,B z2],.a .sub,.e G b.toNat (wk H J K L C E F M),.p (0≤a),.p (a<(E.length:Int)),.e E a.toNat [B q3],.e G b.toNat (wk H J K L C E F M),.p (b.toNat=b.toNat),.p (b.toNat=b.toNat),.p (b.toNat=b.toNat),.p (b.toNat=b.toNat),.p (b.toNat=b.toNat),.e (((A.set a.toNat [B q,I e,I (c+d),B r,B s]).set a.toNat [B u,I f,I g,B t,B v]).set a.toNat [B x,I i,I j,B y,B w]) a.toNat [B r3,I o,I a1,B s3,B t3],.v (o-1),.e (((A.set a.toNat [B q,I e,I (c+d),B r,B s]).set a.toNat [B u,I f,I g,B t,B v]).set a.toNat [B x,I i,I j,B y,B w]) a.toNat [B y0,I b1,I c0,B z0,B z]]):
 Rt 23 [.agg (cl P k l N Q R S),cI a] [.agg [D.sl 4 G0,I b0,I p,D.sl 8 (G.set b.toNat (wk H J K L C (E.set a.toNat [B false]) F M)),D.sl 6 U,D.sl 5 ((((A.set a.toNat [B q,I e,I (c+d),B r,B s]).set a.toNat [B u,I f,I g,B t,B v]).set a.toNat [B x,I i,I j,B y,B w]).set a.toNat [B y0,I (o-1),I c0,B z0,B z]),D.sl 3 V],cB true]:=
 h.of
def qeh(a b:Int)(H:LL)(f g:Int)(J K L M:LL)(i c:Int)(A:LL)(d e:Int)(C E F G:LL):St:=
 { env:=envOf 229 [(1,vI a),(2,vP 2),(4,vP 4),(6,vP 6),(9,.al (.one (.sb true))),(10,vI b)],boxes:=[(6,[lO 130000 4 H,lI f,lI g,lO 130003 8 J,lO 130004 6 K,lO 130005 5 L,lO 130006 3 M]),(4,[.v (sn),lI i,lI c,.v (sn),.v (sn),.v (sn),.v (sn)]),(2,[.sl .free 4 A,lI d,lI e,.sl .free 8 C,.sl .free 6 E,.sl .free 5 F,.sl .free 3 G])] }
theorem qwK(h:Oo [.b (decide (a<(C.length:Int))) true,.g A [[I a,I b,B true]] 24,.h [[I a,I b,B true]],.u a]):
 Tp (qab f23 0) (qeh b a E c d F G H A e f J g i C K L M) .normal (qeh b (a+1) E c d F G H (A++[[I a,I b,B true]]) e f J g i C K L M):=
 h.lp [10,2,6,1,9,4] [6,4,2]
def qei(A:LL)(a b:Int)(C E F G:LL)(c d:Int):St:=
 { env:=envOf 229 [(4,vP 4),(6,vP 6)],boxes:=[(6,[lO 130000 4 A,lI a,lI b,lO 130003 8 C,lO 130004 6 E,lO 130005 5 F,lO 130006 3 G]),(4,[.v (sn),lI c,lI d,.v (sn),.v (sn),.v (sn),.v (sn)])] }
theorem qwL(h:Oo [.b (decide (a<(H.length:Int))) false]):
 Tp (qab f23 0) (qeh f a A b c C E F G d e J g i H K L M) (.exit 1) (qei A b c C E F G d e):=
 h.lp [6,4] [6,4]
theorem qwM(h:Oo [.r 25 [.agg (cl P e f N Q R S)] [.agg (cl M0 n j G U F V)],.r 47 [.agg (cl P e f N Q R S)] [cB s],.n s false,.r 48 [cI a,cI 0,cI 3] [cB t],.n t false,.p ((0:Int)≤0),.p (0<(N.length:Int)),.e N 0 (wk W X Y Z A0 C0 E0 F0),.r 49 [.agg (wk W X Y Z A0 C0 E0 F0),cI a] [cB u],.b u false,.p (0≤a),.p (a<(F.length:Int)),.e F a.toNat [B q0,I b,I o,B r0,B s0],.a .sub,.p (0≤b),.p (b<(G.length:Int)),.e G b.toNat (wk H J K L A C M E),.r 50 [.agg (wk H J K L A C M E),cI a] [cB v],.n v false,.e F a.toNat [B w,I p,I a0,B t0,B u0],.n w false,.e F a.toNat [B v0,I k,I b0,B w0,B x0],.b (decide (k>0)) false,.e F a.toNat [B y0,I c,I d,B q,B r],.e (F.set a.toNat [B false,I c,I d,B q,B r]) a.toNat [B z0,I c0,I d0,B x,B q1],.n x true,.a .sub,.e G b.toNat (wk H J K L A C M E),.p (0≤a),.p (a<(C.length:Int)),.e C a.toNat [B y],.n y true,.e (F.set a.toNat [B false,I c,I d,B q,B r]) a.toNat [B r1,I e0,I g,B s1,B t1],.a .sub,.e G b.toNat (wk H J K L A C M E),.p (0≤a),.p (a<(A.length:Int)),.e A a.toNat [I i],.v (g+i),.b (g+i==0) true,.e (F.set a.toNat [B false,I c,I d,B q,B r]) a.toNat [B u1,I f0,I i0,B v1,B z],.b z true,.a .sub,.e G b.toNat (wk H J K L A C M E),.g E [[I a,B true]] 16,.e G b.toNat (wk H J K L A C M E),.p ((wk H J K L A C M E)[7]?=some (D.sl 2 E)),.p (b.toNat=b.toNat),.p (b.toNat=b.toNat),.h [[I a,B true]],.e G b.toNat (wk H J K L A C M E),.p (b.toNat=b.toNat),.l [] [10,2,6,1,9,4] [6,4,2] (qab f23 0) (qeh a 1 M0 n j (G.set b.toNat (wk H J K L A C M (E++[[I a,B true]]))) U (F.set a.toNat [B false,I c,I d,B q,B r]) V 0 0 P e f N Q R S) (.exit 1) (qei G0 l m H0 J0 K0 L0 j0 k0)]):
 Rt 23 [.agg (cl P e f N Q R S),cI a] [.agg (cl G0 l m H0 J0 K0 L0),cB true]:=
 h.of
def qej(a:Int)(q:Bool)(f:Int)(H:LL)(g i:Int)(J K L M:LL)(b c:Int)(A:LL)(d e:Int)(C E F G:LL):St:=
 { env:=envOf 229 [(1,vI a),(2,vP 2),(4,vP 4),(6,vP 6),(9,.al (.one (.sb q))),(10,vI f)],boxes:=[(6,[lO 130000 4 H,lI g,lI i,lO 130003 8 J,lO 130004 6 K,lO 130005 5 L,lO 130006 3 M]),(4,[.v (sn),lI b,lI c,.v (sn),.v (sn),.v (sn),.v (sn)]),(2,[.sl .free 4 A,lI d,lI e,.sl .free 8 C,.sl .free 6 E,.sl .free 5 F,.sl .free 3 G])] }
theorem qwN(h:Oo [.b (decide (a<(C.length:Int))) true,.g A [[I a,I b,B q]] 24,.h [[I a,I b,B q]],.u a]):
 Tp (qab f23 0) (qej b q a E c d F G H A e f J g i C K L M) .normal (qej b q (a+1) E c d F G H (A++[[I a,I b,B q]]) e f J g i C K L M):=
 h.lp [10,2,6,1,9,4] [6,4,2]
theorem qwO(h:Oo [.b (decide (a<(H.length:Int))) false]):
 Tp (qab f23 0) (qej f q a A b c C E F G d e J g i H K L M) (.exit 1) (qei A b c C E F G d e):=
 h.lp [6,4] [6,4]
theorem qwP(h:Oo [.r 25 [.agg (cl P e f N Q R S)] [.agg (cl M0 n j G U H V)],.r 47 [.agg (cl P e f N Q R S)] [cB t],.n t false,.r 48 [cI a,cI 0,cI 3] [cB u],.n u false,.p ((0:Int)≤0),.p (0<(N.length:Int)),.e N 0 (wk W X Y Z A0 C0 E0 F0),.r 49 [.agg (wk W X Y Z A0 C0 E0 F0),cI a] [cB v],.b v false,.p (0≤a),.p (a<(H.length:Int)),.e H a.toNat [B r0,I b,I o,B s0,B t0],.a .sub,.p (0≤b),.p (b<(G.length:Int)),.e G b.toNat (wk J K L M A C E F),.r 50 [.agg (wk J K L M A C E F),cI a] [cB w],.n w false,.e H a.toNat [B x,I p,I a0,B u0,B v0],.n x false,.e H a.toNat [B w0,I k,I b0,B x0,B y0],.b (decide (k>0)) false,.e H a.toNat [B z0,I c,I d,B q,B r],.e (H.set a.toNat [B false,I c,I d,B q,B r]) a.toNat [B q1,I c0,I d0,B y,B r1],.n y true,.a .sub,.e G b.toNat (wk J K L M A C E F),.p (0≤a),.p (a<(C.length:Int)),.e C a.toNat [B z],.n z true,.e (H.set a.toNat [B false,I c,I d,B q,B r]) a.toNat [B s1,I e0,I g,B t1,B u1],.a .sub,.e G b.toNat (wk J K L M A C E F),.p (0≤a),.p (a<(A.length:Int)),.e A a.toNat [I i],.v (g+i),.b (g+i==0) true,.e (H.set a.toNat [B false,I c,I d,B q,B r]) a.toNat [B v1,I f0,I i0,B w1,B q0],.b q0 false,.a .sub,.e G b.toNat (wk J K L M A C E F),.p (0≤a),.p (a<(E.length:Int)),.e E a.toNat [B s],.a .sub,.e G b.toNat (wk J K L M A C E F),.g F [[I a,B s]] 16,.e G b.toNat (wk J K L M A C E F),.p ((wk J K L M A C E F)[7]?=some (D.sl 2 F)),.p (b.toNat=b.toNat),.p (b.toNat=b.toNat),.h [[I a,B s]],.e G b.toNat (wk J K L M A C E F),.p (b.toNat=b.toNat),.l [] [10,2,6,1,9,4] [6,4,2] (qab f23 0) (qej a s 1 M0 n j (G.set b.toNat (wk J K L M A C E (F++[[I a,B s]]))) U (H.set a.toNat [B false,I c,I d,B q,B r]) V 0 0 P e f N Q R S) (.exit 1) (qei G0 l m H0 J0 K0 L0 j0 k0)]):
 Rt 23 [.agg (cl P e f N Q R S),cI a] [.agg (cl G0 l m H0 J0 K0 L0),cB true]:=
 h.of
theorem qwQ(h:Oo [.r 25 [.agg (cl P e f G Q R S)] [.agg (cl G0 l j C U A V)],.r 47 [.agg (cl P e f G Q R S)] [cB s],.n s false,.r 48 [cI a,cI 0,cI 3] [cB t],.n t false,.p ((0:Int)≤0),.p (0<(G.length:Int)),.e G 0 (wk W X Y Z A0 C0 E0 F0),.r 49 [.agg (wk W X Y Z A0 C0 E0 F0),cI a] [cB u],.b u false,.p (0≤a),.p (a<(A.length:Int)),.e A a.toNat [B z,I b,I m,B q0,B r0],.a .sub,.p (0≤b),.p (b<(C.length:Int)),.e C b.toNat (wk H J K L E F M N),.r 50 [.agg (wk H J K L E F M N),cI a] [cB v],.n v false,.e A a.toNat [B w,I n,I o,B s0,B t0],.n w false,.e A a.toNat [B u0,I k,I p,B v0,B w0],.b (decide (k>0)) false,.e A a.toNat [B x0,I c,I d,B q,B r],.e (A.set a.toNat [B false,I c,I d,B q,B r]) a.toNat [B y0,I a0,I b0,B x,B z0],.n x true,.a .sub,.e C b.toNat (wk H J K L E F M N),.p (0≤a),.p (a<(F.length:Int)),.e F a.toNat [B y],.n y true,.e (A.set a.toNat [B false,I c,I d,B q,B r]) a.toNat [B q1,I c0,I g,B r1,B s1],.a .sub,.e C b.toNat (wk H J K L E F M N),.p (0≤a),.p (a<(E.length:Int)),.e E a.toNat [I i],.v (g+i),.b (g+i==0) false]):
 Rt 23 [.agg (cl P e f G Q R S),cI a] [.agg (cl G0 l j C U (A.set a.toNat [B false,I c,I d,B q,B r]) V),cB true]:=
 h.of
theorem qwR(h:Oo [.r 25 [.agg (cl G c d E Q R S)] [.agg (cl G0 j g C U A V)],.r 47 [.agg (cl G c d E Q R S)] [cB s],.n s false,.r 48 [cI a,cI 0,cI 3] [cB t],.n t false,.p ((0:Int)≤0),.p (0<(E.length:Int)),.e E 0 (wk W X Y Z A0 C0 E0 F0),.r 49 [.agg (wk W X Y Z A0 C0 E0 F0),cI a] [cB u],.b u false,.p (0≤a),.p (a<(A.length:Int)),.e A a.toNat [B z,I b,I k,B q0,B r0],.a .sub,.p (0≤b),.p (b<(C.length:Int)),.e C b.toNat (wk H J K L M F N P),.r 50 [.agg (wk H J K L M F N P),cI a] [cB v],.n v false,.e A a.toNat [B w,I l,I m,B s0,B t0],.n w false,.e A a.toNat [B u0,I i,I n,B v0,B w0],.b (decide (i>0)) false,.e A a.toNat [B x0,I e,I f,B q,B r],.e (A.set a.toNat [B false,I e,I f,B q,B r]) a.toNat [B y0,I o,I p,B x,B z0],.n x true,.a .sub,.e C b.toNat (wk H J K L M F N P),.p (0≤a),.p (a<(F.length:Int)),.e F a.toNat [B y],.n y false]):
 Rt 23 [.agg (cl G c d E Q R S),cI a] [.agg (cl G0 j g C U (A.set a.toNat [B false,I e,I f,B q,B r]) V),cB true]:=
 h.of
theorem qwS(h:Oo [.r 25 [.agg (cl F c d C G H J)] [.agg (cl G0 j g E K A L)],.r 47 [.agg (cl F c d C G H J)] [cB s],.n s false,.r 48 [cI a,cI 0,cI 3] [cB t],.n t false,.p ((0:Int)≤0),.p (0<(C.length:Int)),.e C 0 (wk M N P Q R S U V),.r 49 [.agg (wk M N P Q R S U V),cI a] [cB u],.b u false,.p (0≤a),.p (a<(A.length:Int)),.e A a.toNat [B y,I b,I k,B z,B q0],.a .sub,.p (0≤b),.p (b<(E.length:Int)),.e E b.toNat (wk W X Y Z A0 C0 E0 F0),.r 50 [.agg (wk W X Y Z A0 C0 E0 F0),cI a] [cB v],.n v false,.e A a.toNat [B w,I l,I m,B r0,B s0],.n w false,.e A a.toNat [B t0,I i,I n,B u0,B v0],.b (decide (i>0)) false,.e A a.toNat [B w0,I e,I f,B q,B r],.e (A.set a.toNat [B false,I e,I f,B q,B r]) a.toNat [B x0,I o,I p,B x,B y0],.n x false]):
 Rt 23 [.agg (cl F c d C G H J),cI a] [.agg (cl G0 j g E K (A.set a.toNat [B false,I e,I f,B q,B r]) L),cB true]:=
 h.of
theorem qwT(h:Oo [.r 83 [cS 5 A,.one (.cl 84 [D.ptr [I a]])] [cB q]]):
 Rt 67 [.agg (wk C E A F G H J K),cI a] [cB q]:=
 h.of
theorem qwU(h:Oo []):
 Rt 84 [.agg (ri c a d e f),.one (.ptr [I b])] [cB (decide (a≤b))]:=
 h.of
theorem qwV(h:Oo [.r 67 [.agg (wk A C E F G H J K),cI a] [cB q],.n q true,.r 68 [.agg (wk A C E F G H J K),cI a] [cI b]]):
 Rt 50 [.agg (wk A C E F G H J K),cI a] [cB (b==0)]:=
 h.of
theorem qwW(h:Oo [.r 67 [.agg (wk A C E F G H J K),cI a] [cB q],.n q false]):
 Rt 50 [.agg (wk A C E F G H J K),cI a] [cB false]:=
 h.of
theorem qwX(h:Oo [.r 85 [cS 5 E,cI a] [cS 5 C],.r 85 [cS 5 F,cI a] [cS 5 A],.v ((C.length:Int)+(A.length:Int))]):
 Rt 68 [.agg (wk E F G H J K L M),cI a] [cI ((C.length:Int)+(A.length:Int))]:=
 h.of
end Go.Proofs.YtenekpkjlgddnaaGreat
