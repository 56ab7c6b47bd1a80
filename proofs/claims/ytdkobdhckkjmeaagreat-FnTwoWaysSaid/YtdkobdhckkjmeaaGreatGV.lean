import Derived.Test.YtdkobdhckkjmeaaGreatRows
import Derived.Test.YtdkobdhckkjmeaaGreatGE
set_option linter.unusedVariables false
set_option linter.unusedSimpArgs false
namespace Go.Proofs.YtdkobdhckkjmeaaGreat
open Go.Sx Go.RowKit Go.Proofs.Tryz
variable {a b c d e f g i j k l m n o p a0 a1 b0 b1 c0 d0 e0 f0 i0 j0 k0 l0 m0 n0 o0 p0 : Int} {A C E F G H J K L M N P Q R S U V W X Y Z A0 C0 E0 F0 G0 H0 J0 K0 L0 M0 : LL} {q r s t u v w x y z q0 q1 q2 q3 r0 r1 r2 r3 s0 s1 s2 s3 t0 t1 t2 t3 u0 u1 u2 v0 v1 v2 w0 w1 w2 x0 x1 x2 y0 y1 y2 z0 z1 z2 : Bool}
theorem qJL(h:Oo [.g ([]:LL) A 8,.h A]):
 Rt 258 [.agg (nd a b c A)] [.agg (nd a b c ([]++A))]:=
 h.of
def qh6(A:LL)(a:Int)(C:LL)(b c d e:Int):St:=
 { env:=envOf 27 [(2,vP 2),(3,vP 3),(12,vF 4 A),(13,vI (A.length:Int)),(14,vI a)],boxes:=[(3,[lO 23 4 C,lI b,lI c]),(2,[.v (sn),lI d,lI e])] }
theorem qJM(h:Oo [.i A a (nd l e f F),.r 258 [.agg (nd l e f F)] [.agg (nd b c d C)],.a .wr,.g E [(nd b c d C)] 48,.u a]):
 Tp (qaa f146 0) (qh6 A a E g i j k) .normal (qh6 A (a+1) (E++[(nd b c d C)]) g i j k):=
 h.lp [14,13,12,3,2] [3,2]
def qsC(A:LL)(a b c d:Int):St:=
 { env:=envOf 27 [(2,vP 2),(3,vP 3)],boxes:=[(3,[lO 23 4 A,lI a,lI b]),(2,[.v (sn),lI c,lI d])] }
theorem qJN(h:Oo [.f A a false]):
 Tp (qaa f146 0) (qh6 A a C b c d e) (.exit 0) (qsC C b c d e):=
 h.lp [3,2] [3,2]
theorem qJO(h:Oo [.l [(4000000,23,4)] [14,13,12,3,2] [3,2] (qaa f146 0) (qh6 A 0 [] a b 0 0) (.exit 0) (qsC C c d e f)]):
 Rt 146 [.agg (gr A a b)] [.agg (gr C c d)]:=
 h.of
theorem qJP(h:Oo [.r 239 [cS 5 A] [cS 5 C]]):
 Rt 263 [.agg (lk a A b c d e)] [.agg (lk a C b c d e)]:=
 h.of
theorem qJQ(h:Oo [.r 239 [cS 5 G] [cS 5 N],.r 239 [cS 5 H] [cS 5 P],.r 239 [cS 5 L] [cS 5 J],.r 301 [cS 4 M] [cS 4 K],.g ([]:LL) A 8,.h A,.g ([]:LL) C 1,.h C,.g ([]:LL) E 1,.h E,.g ([]:LL) F 16,.h F]):
 Rt 262 [.agg (wk G H L M A C E F)] [.agg (wk N P J K ([]++A) ([]++C) ([]++E) ([]++F))]:=
 h.of
def qh7(A:LL)(a:Int)(J:LL)(d e:Int)(K L M:LL)(f g:Int)(C:LL)(b c:Int)(E F G H:LL):St:=
 { env:=envOf 49 [(1,vP 1),(2,vP 2),(3,vP 3),(19,vF 8 A),(20,vI (A.length:Int)),(21,vI a)],boxes:=[(3,[lO 110000 4 J,lI d,lI e,lO 30 8 K,.v (sn),lO 13 5 L,lO 16 3 M]),(2,[.v (sn),lI f,lI g,.v (sn),.v (sn),.v (sn),.v (sn)]),(1,[.sl .free 4 C,lI b,lI c,.sl .free 8 E,.sl .free 6 F,.sl .free 5 G,.sl .free 3 H])] }
theorem qJR(h:Oo [.i C a (wk X Y Z A0 C0 E0 F0 G0),.r 262 [.agg (wk X Y Z A0 C0 E0 F0 G0)] [.agg (wk E F G H J K L M)],.a .wr,.g A [(wk E F G H J K L M)] 192,.u a]):
 Tp (qaa f152 0) (qh7 C a N b c A P Q d e R f g S U V W) .normal (qh7 C (a+1) N b c (A++[(wk E F G H J K L M)]) P Q d e R f g S U V W):=
 h.lp [21,20,19,3,1,2] [3,2,1]
def qsD(A:LL)(a c:Int)(H J K:LL)(d e:Int)(L:LL)(f b:Int)(C E F G:LL):St:=
 { env:=envOf 49 [(1,vP 1),(2,vP 2),(3,vP 3)],boxes:=[(3,[lO 110000 4 A,lI a,lI c,lO 30 8 H,.v (sn),lO 13 5 J,lO 16 3 K]),(2,[.v (sn),lI d,lI e,.v (sn),.v (sn),.v (sn),.v (sn)]),(1,[.sl .free 4 L,lI f,lI b,.sl .free 8 C,.sl .free 6 E,.sl .free 5 F,.sl .free 3 G])] }
theorem qJS(h:Oo [.f M a false]):
 Tp (qaa f152 0) (qh7 M a A b c C E F d e G f g H J K L) (.exit 0) (qsD A b c C E F d e G f g H J K L):=
 h.lp [1,3,2] [3,2,1]
def qh8(A:LL)(a:Int)(C:LL)(c d:Int)(E F G H:LL)(e b:Int):St:=
 { env:=envOf 49 [(2,vP 2),(3,vP 3),(34,vF 6 A),(35,vI (A.length:Int)),(36,vI a)],boxes:=[(3,[lO 110000 4 C,lI c,lI d,lO 30 8 E,lO 45 6 F,lO 13 5 G,lO 16 3 H]),(2,[.v (sn),lI e,lI b,.v (sn),.v (sn),.v (sn),.v (sn)])] }
theorem qJT(h:Oo [.i A a (lk l K m n o p),.r 263 [.agg (lk l K m n o p)] [.agg (lk b E c d e f)],.a .wr,.g C [(lk b E c d e f)] 64,.u a]):
 Tp (qaa f152 1) (qh8 A a F g i G C H J j k) .normal (qh8 A (a+1) F g i G (C++[(lk b E c d e f)]) H J j k):=
 h.lp [36,35,34,3,2] [3,2]
def qsE(A:LL)(a b:Int)(C E F G:LL)(c d:Int):St:=
 { env:=envOf 49 [(2,vP 2),(3,vP 3)],boxes:=[(3,[lO 110000 4 A,lI a,lI b,lO 30 8 C,lO 45 6 E,lO 13 5 F,lO 16 3 G]),(2,[.v (sn),lI c,lI d,.v (sn),.v (sn),.v (sn),.v (sn)])] }
theorem qJU(h:Oo [.f A a false]):
 Tp (qaa f152 1) (qh8 A a C b c E F G H d e) (.exit 2) (qsE C b c E F G H d e):=
 h.lp [3,2] [3,2]
theorem qJV(h:Oo [.r 146 [.agg (gr E a b)] [.agg (gr U j k)],.g ([]:LL) A 32,.h A,.g ([]:LL) C 24,.h C,.l [(4000003,30,8)] [21,20,19,3,1,2] [3,2,1] (qaa f152 0) (qh7 F 0 U j k [] ([]++A) ([]++C) 0 0 E a b F S A C) (.exit 0) (qsD G c d H J K e f V l m W L X Y),.l [(4000004,45,6)] [36,35,34,3,2] [3,2] (qaa f152 1) (qh8 L 0 G c d H [] J K e f) (.exit 2) (qsE M g i N P Q R n o)]):
 Rt 152 [.agg (cl E a b F S A C)] [.agg (cl M g i N P Q R)]:=
 h.of
def qh9(a:Int)(A:LL)(b c d e:Int)(C:LL)(f g:Int):St:=
 { env:=envOf 33 [(1,vP 1),(2,vP 2),(3,vP 3),(4,vI a)],boxes:=[(3,[lO 7 4 A,lI b,lI c]),(2,[.v (sn),lI d,lI e]),(1,[.sl .free 4 C,lI f,lI g])] }
theorem qJX(h:Oo [.i E a (nd b c d A),.a .wr,.g ([]:LL) A 8,.h A,.g C [(nd b c d ([]++A))] 48,.u a]):
 Tp (qaa f123 0) (qh9 a C g i j k E e f) .normal (qh9 (a+1) (C++[(nd b c d ([]++A))]) g i j k E e f):=
 h.lp [4,1,3,2] [3,2,1]
def qsF(A:LL)(a b c d:Int):St:=
 { env:=envOf 33 [(2,vP 2),(3,vP 3)],boxes:=[(3,[lO 7 4 A,lI a,lI b]),(2,[.v (sn),lI c,lI d])] }
theorem qJY(h:Oo [.f C a false]):
 Tp (qaa f123 0) (qh9 a A b c d e C f g) (.exit 0) (qsF A b c d e):=
 h.lp [3,2] [3,2]
theorem qJZ(h:Oo [.l [] [4,1,3,2] [3,2,1] (qaa f123 0) (qh9 0 [] a b 0 0 A a b) (.exit 0) (qsF C c d e f)]):
 Rt 123 [.agg (gr A a b)] [.agg (gr C c d)]:=
 h.of
theorem qKc(h:Oo []):
 Rt 260 [.agg [I a,I c,B q],.one (.ptr [I b])] [cB (a==b)]:=
 h.of
def y2k(A:LL)(a b:Int)(C E F G H:LL)(c d:Int)(J K L M:LL)(l:List O):List O:=.r 152 [.agg (cl A a b C E F G)] [.agg (cl H c d J K L M)]::l
def y2l(A:LL)(a b:Int)(C E F G H:LL)(c d:Int)(J K L M:LL)(e f:Int)(l:List O):List O:=y2k A a b C E F G H c d J K L M (.r 259 [cS 3 G,.one (.cl 260 [D.ptr [I e]])] [cI f]::l)
theorem qKd(h:Oo (y2l C a d J K L A M f b E F G H e c [.b (decide (c<0)) true])):
 Rt 151 [.agg (cl C a d J K L A),cI e] [.agg (cl M f b E F G H),cB false]:=
 h.of
theorem qKe(h:Oo (y2l C a b E F G A M f c H J K L e d [.b (decide (d<0)) false,.r 55 [.agg (cl C a b E F G A)] [cB q],.n q true])):
 Rt 151 [.agg (cl C a b E F G A),cI e] [.agg (cl M f c H J K L),cB false]:=
 h.of
def y2m(A:LL)(a b:Int)(C E F G H:LL)(c d:Int)(J K L M:LL)(e f:Int)(q:Bool)(g i:Int)(r:Bool)(N P Q R S U V X Y:LL)(s:Bool)(l:List O):List O:=y2l A a b C E F G H c d J K L M e f (.b (decide (f<0)) false::.r 55 [.agg (cl A a b C E F G)] [cB q]::.n q false::.x G f [I g,I i,B r]::.a (.resG [[some none],[none],[none]] 0 [] [cS 3 N])::.u f::.p (RetG prog 261 [GA.one (GC.gv 3 M none),GA.one (GC.ro (I f)),GA.one (GC.ro (I (f+1)))] [cS 3 N])::.x C e (wk P Q R S U V X Y)::.r 163 [.agg (wk P Q R S U V X Y),cI i] [cB s]::l)
theorem qKf(h:Oo (y2m P d e N R S M H0 g f A U V W a b r i c q Q X Y Z A0 C0 E0 F0 G0 s [.n s true,.a .sub,.x A a (wk E F G H J K L C),.g C [[I c,B q]] 16,.e A a.toNat (wk E F G H J K L C),.p ((wk E F G H J K L C)[7]?=some (D.sl 2 C)),.h [[I c,B q]],.p (A=A),.p (A=A),.p (A=A),.p (A=A),.p (A=A),.p (A=A),.p (a.toNat=a.toNat),.p (C=C),.x A a (wk E F G H J K L C),.p (a.toNat=a.toNat)])):
 Rt 151 [.agg (cl P d e N R S M),cI a] [.agg (cl H0 g f (A.set a.toNat (wk E F G H J K L (C++[[I c,B q]]))) U V Q),cB true]:=
 h.of
theorem qKg(h:Oo (y2m E b c C G H A X g e J K L M d a q i f s F N P Q R S U V W r [.n r false])):
 Rt 151 [.agg (cl E b c C G H A),cI d] [.agg (cl X g e J K L F),cB true]:=
 h.of
def y2n(A:LL)(a b:Int)(C E F G H:LL)(c d:Int)(J K L M:LL)(q:Bool)(l:List O):List O:=y2k A a b C E F G H c d J K L M (.r 55 [.agg (cl A a b C E F G)] [cB q]::l)
theorem qKz(h:Oo (y2n A a b C E F G M d c H J K L q [.n q true])):
 Rt 41 [.agg (cl A a b C E F G),cI e] [.agg (cl M d c H J K L),cB false]:=
 h.of
def y2o(A:LL)(a b:Int)(C E F G H:LL)(c d:Int)(J K L M:LL)(q:Bool)(e:Int)(r:Bool)(l:List O):List O:=y2n A a b C E F G H c d J K L M q (.n q false::.r 158 [cI e,cI 0,cI 3] [cB r]::l)
theorem qKA(h:Oo (y2o A a b C E F G M e c H J K L q d r [.n r true])):
 Rt 41 [.agg (cl A a b C E F G),cI d] [.agg (cl M e c H J K L),cB false]:=
 h.of
def y2p(A:LL)(a b:Int)(C E F G H:LL)(c d:Int)(J K L M:LL)(q:Bool)(e:Int)(r:Bool)(N P Q R S U V X:LL)(s:Bool)(l:List O):List O:=y2o A a b C E F G H c d J K L M q e r (.n r false::.p ((0:Int)≤0)::.p (0<(C.length:Int))::.e C 0 (wk N P Q R S U V X)::.r 163 [.agg (wk N P Q R S U V X),cI e] [cB s]::l)
theorem qKB(h:Oo (y2p C a b A E F G W e d H J K L q c r M N P Q R S U V s [.b s true])):
 Rt 41 [.agg (cl C a b A E F G),cI c] [.agg (cl W e d H J K L),cB false]:=
 h.of
def y2q(A:LL)(a b:Int)(C E F G H:LL)(c d:Int)(J K L M:LL)(q:Bool)(e:Int)(r:Bool)(N P Q R S U V X:LL)(s t:Bool)(f g:Int)(u v:Bool)(Y Z A1 C1 E1 F1 G1 H1:LL)(w:Bool)(l:List O):List O:=y2p A a b C E F G H c d J K L M q e r N P Q R S U V X s (.b s false::.x L e [B t,I f,I g,B u,B v]::.a .sub::.x J f (wk Y Z A1 C1 E1 F1 G1 H1)::.r 164 [.agg (wk Y Z A1 C1 E1 F1 G1 H1),cI e] [cB w]::l)
theorem qKC(h:Oo (y2q C b c A G H J G0 f d E K F L q a r M N P Q R S U V s u e g v w W X Y Z A0 C0 E0 F0 t [.n t true])):
 Rt 41 [.agg (cl C b c A G H J),cI a] [.agg (cl G0 f d E K F L),cB false]:=
 h.of
def y2r(A:LL)(a b:Int)(C E F G H:LL)(c d:Int)(J K L M:LL)(q:Bool)(e:Int)(r:Bool)(N P Q R S U V X:LL)(s t:Bool)(f g:Int)(u v:Bool)(Y Z A1 C1 E1 F1 G1 H1:LL)(w x:Bool)(i j:Int)(y z:Bool)(l:List O):List O:=y2q A a b C E F G H c d J K L M q e r N P Q R S U V X s t f g u v Y Z A1 C1 E1 F1 G1 H1 w (.n w false::.e L e.toNat [B x,I i,I j,B y,B z]::l)
theorem qKD(h:Oo (y2r P c d A Q R S G0 f e F U N V q b r W X Y Z A0 C0 E0 F0 s w a g x y G H J K L C E M t u i j z q0 [.n u true,.a .sub,.e F a.toNat (wk G H J K L C E M),.x E b [B v],.v ((A.length:Int)-1),.e N b.toNat [B r0,I k,I l,B s0,B t0],.a .sub,.e F a.toNat (wk G H J K L C E M),.x C b [B u0],.e F a.toNat (wk G H J K L C E M),.p (a.toNat=a.toNat),.p (a.toNat=a.toNat),.p (a.toNat=a.toNat)])):
 Rt 41 [.agg (cl P c d A Q R S),cI b] [.agg (cl G0 f e (F.set a.toNat (wk G H J K L (C.set b.toNat [B false]) E M)) U (N.set b.toNat [B true,I ((A.length:Int)-1),I 0,B false,B v]) V),cB true]:=
 h.of
def y2s(A:LL)(a b:Int)(C E F G H:LL)(c d:Int)(J K L M:LL)(q:Bool)(e:Int)(r:Bool)(N P Q R S U V X:LL)(s t:Bool)(f g:Int)(u v:Bool)(Y Z A1 C1 E1 F1 G1 H1:LL)(w x:Bool)(i j:Int)(y z q1:Bool)(k m:Int)(r1 s1:Bool)(l:List O):List O:=y2r A a b C E F G H c d J K L M q e r N P Q R S U V X s t f g u v Y Z A1 C1 E1 F1 G1 H1 w x i j y z (.n x false::.e L e.toNat [B q1,I k,I m,B r1,B s1]::l)
def y2t(A:LL)(a b:Int)(C E F G H:LL)(c d:Int)(J K L M:LL)(q:Bool)(e:Int)(r:Bool)(N P Q R S U V X:LL)(s t:Bool)(f g:Int)(u v:Bool)(Y Z A1 C1 E1 F1 G1 H1:LL)(w x:Bool)(i j:Int)(y z q1:Bool)(k m:Int)(r1 s1 t1:Bool)(n o:Int)(u1 v1:Bool)(p:Int)(w1:Bool)(l:List O):List O:=y2s A a b C E F G H c d J K L M q e r N P Q R S U V X s t f g u v Y Z A1 C1 E1 F1 G1 H1 w x i j y z q1 k m r1 s1 (.b (decide (k>0)) true::.e L e.toNat [B t1,I n,I o,B u1,B v1]::.a .sub::.e J f.toNat (wk Y Z A1 C1 E1 F1 G1 H1)::.x E1 e [I p]::.v (o+p)::.r 158 [cI (o+p),cI (-1000000),cI 1000000] [cB w1]::l)
theorem qKE(h:Oo (y2t G b c C Q R S G0 j g E U A V q a r W X Y Z A0 C0 E0 F0 s w d k x y H J K L F M N P t u l m z q0 r0 i n s0 t0 u0 o e v0 w0 f v [.n v true])):
 Rt 41 [.agg (cl G b c C Q R S),cI a] [.agg (cl G0 j g E U A V),cB false]:=
 h.of
def y2u(A:LL)(a b:Int)(C E F G H:LL)(c d:Int)(J K L M:LL)(q:Bool)(e:Int)(r:Bool)(N P Q R S U V X:LL)(s t:Bool)(f g:Int)(u v:Bool)(Y Z A1 C1 E1 F1 G1 H1:LL)(w x:Bool)(i j:Int)(y z q1:Bool)(k m:Int)(r1 s1 t1:Bool)(n o:Int)(u1 v1:Bool)(p:Int)(w1 x1:Bool)(a1 b1:Int)(y1 z1:Bool)(c1:Int)(q2:Bool)(d1 e1:Int)(r2 s2 t2:Bool)(f1 g1:Int)(u2 v2:Bool)(l:List O):List O:=y2t A a b C E F G H c d J K L M q e r N P Q R S U V X s t f g u v Y Z A1 C1 E1 F1 G1 H1 w x i j y z q1 k m r1 s1 t1 n o u1 v1 p w1 (.n w1 false::.e L e.toNat [B x1,I a1,I b1,B y1,B z1]::.a .sub::.e J f.toNat (wk Y Z A1 C1 E1 F1 G1 H1)::.x E1 e [I c1]::.v (b1+c1)::.e L e.toNat [B q2,I d1,I e1,B r2,B s2]::.e (L.set e.toNat [B q2,I d1,I (b1+c1),B r2,B s2]) e.toNat [B t2,I f1,I g1,B u2,B v2]::l)
theorem qKF(h:Oo (y2u P k l N Q R S G0 b0 p F U A V x a y W X Y Z A0 C0 E0 F0 z y0 b d0 z0 q1 G H J K C E L M q0 r0 e0 f0 r1 s1 t1 a0 i0 u1 v1 w1 j0 m x1 y1 n s0 z1 k0 c q2 r2 d q e l0 r s s2 m0 n0 t0 t2 [.b t0 true,.e (A.set a.toNat [B q,I e,I (c+d),B r,B s]) a.toNat [B t,I f,I g,B u2,B u],.e ((A.set a.toNat [B q,I e,I (c+d),B r,B s]).set a.toNat [B t,I f,I g,B true,B u]) a.toNat [B v2,I o0,I p0,B w2,B u0],.b u0 true,.e ((A.set a.toNat [B q,I e,I (c+d),B r,B s]).set a.toNat [B t,I f,I g,B true,B u]) a.toNat [B v,I i,I j,B w,B x2],.a .sub,.e F b.toNat (wk G H J K C E L M),.x E a [B y2],.e F b.toNat (wk G H J K C E L M),.p (b.toNat=b.toNat),.p (b.toNat=b.toNat),.p (b.toNat=b.toNat),.e (((A.set a.toNat [B q,I e,I (c+d),B r,B s]).set a.toNat [B t,I f,I g,B true,B u]).set a.toNat [B v,I i,I j,B w,B true]) a.toNat [B z2,I o,I a1,B q3,B r3],.v (o-1),.e (((A.set a.toNat [B q,I e,I (c+d),B r,B s]).set a.toNat [B t,I f,I g,B true,B u]).set a.toNat [B v,I i,I j,B w,B true]) a.toNat [B v0,I b1,I c0,B w0,B x0]])):
 Rt 41 [.agg (cl P k l N Q R S),cI a] [.agg [D.sl 4 G0,I b0,I p,D.sl 8 (F.set b.toNat (wk G H J K C (E.set a.toNat [B false]) L M)),D.sl 6 U,D.sl 5 ((((A.set a.toNat [B q,I e,I (c+d),B r,B s]).set a.toNat [B t,I f,I g,B true,B u]).set a.toNat [B v,I i,I j,B w,B true]).set a.toNat [B v0,I (o-1),I c0,B w0,B x0]),D.sl 3 V],cB true]:=
 h.of
theorem qKG(h:Oo (y2u P k l N Q R S G0 b0 p G U A V y a z W X Y Z A0 C0 E0 F0 q0 z0 b d0 q1 r1 H J K L C E F M r0 s0 e0 f0 s1 t1 u1 a0 i0 v1 w1 x1 j0 m y1 z1 n t0 q2 k0 c r2 s2 d q e l0 r s t2 m0 n0 u0 u2 [.b u0 true,.e (A.set a.toNat [B q,I e,I (c+d),B r,B s]) a.toNat [B t,I f,I g,B v2,B u],.e ((A.set a.toNat [B q,I e,I (c+d),B r,B s]).set a.toNat [B t,I f,I g,B true,B u]) a.toNat [B w2,I o0,I p0,B x2,B v0],.b v0 false,.a .sub,.e G b.toNat (wk H J K L C E F M),.x F a [B v],.e ((A.set a.toNat [B q,I e,I (c+d),B r,B s]).set a.toNat [B t,I f,I g,B true,B u]) a.toNat [B w,I i,I j,B x,B y2],.a .sub,.e G b.toNat (wk H J K L C E F M),.x E a [B z2],.e G b.toNat (wk H J K L C E F M),.p (b.toNat=b.toNat),.p (b.toNat=b.toNat),.p (b.toNat=b.toNat),.e (((A.set a.toNat [B q,I e,I (c+d),B r,B s]).set a.toNat [B t,I f,I g,B true,B u]).set a.toNat [B w,I i,I j,B x,B v]) a.toNat [B q3,I o,I a1,B r3,B s3],.v (o-1),.e (((A.set a.toNat [B q,I e,I (c+d),B r,B s]).set a.toNat [B t,I f,I g,B true,B u]).set a.toNat [B w,I i,I j,B x,B v]) a.toNat [B w0,I b1,I c0,B x0,B y0]])):
 Rt 41 [.agg (cl P k l N Q R S),cI a] [.agg [D.sl 4 G0,I b0,I p,D.sl 8 (G.set b.toNat (wk H J K L C (E.set a.toNat [B false]) F M)),D.sl 6 U,D.sl 5 ((((A.set a.toNat [B q,I e,I (c+d),B r,B s]).set a.toNat [B t,I f,I g,B true,B u]).set a.toNat [B w,I i,I j,B x,B v]).set a.toNat [B w0,I (o-1),I c0,B x0,B y0]),D.sl 3 V],cB true]:=
 h.of
theorem qKH(h:Oo (y2u P k l N Q R S G0 b0 p F U A V y a z W X Y Z A0 C0 E0 F0 q0 z0 b d0 q1 r1 G H J K C E L M r0 s0 e0 f0 s1 t1 u1 a0 i0 v1 w1 x1 j0 m y1 z1 n t0 q2 k0 c r2 s2 d q e l0 r s t2 m0 n0 u0 u2 [.b u0 false,.a .sub,.e F b.toNat (wk G H J K C E L M),.x E a [B t],.e (A.set a.toNat [B q,I e,I (c+d),B r,B s]) a.toNat [B u,I f,I g,B v2,B v],.e ((A.set a.toNat [B q,I e,I (c+d),B r,B s]).set a.toNat [B u,I f,I g,B t,B v]) a.toNat [B w2,I o0,I p0,B x2,B v0],.b v0 true,.e ((A.set a.toNat [B q,I e,I (c+d),B r,B s]).set a.toNat [B u,I f,I g,B t,B v]) a.toNat [B w,I i,I j,B x,B y2],.a .sub,.e F b.toNat (wk G H J K C E L M),.x E a [B z2],.e F b.toNat (wk G H J K C E L M),.p (b.toNat=b.toNat),.p (b.toNat=b.toNat),.p (b.toNat=b.toNat),.p (b.toNat=b.toNat),.p (b.toNat=b.toNat),.e (((A.set a.toNat [B q,I e,I (c+d),B r,B s]).set a.toNat [B u,I f,I g,B t,B v]).set a.toNat [B w,I i,I j,B x,B true]) a.toNat [B q3,I o,I a1,B r3,B s3],.v (o-1),.e (((A.set a.toNat [B q,I e,I (c+d),B r,B s]).set a.toNat [B u,I f,I g,B t,B v]).set a.toNat [B w,I i,I j,B x,B true]) a.toNat [B w0,I b1,I c0,B x0,B y0]])):
 Rt 41 [.agg (cl P k l N Q R S),cI a] [.agg [D.sl 4 G0,I b0,I p,D.sl 8 (F.set b.toNat (wk G H J K C (E.set a.toNat [B false]) L M)),D.sl 6 U,D.sl 5 ((((A.set a.toNat [B q,I e,I (c+d),B r,B s]).set a.toNat [B u,I f,I g,B t,B v]).set a.toNat [B w,I i,I j,B x,B true]).set a.toNat [B w0,I (o-1),I c0,B x0,B y0]),D.sl 3 V],cB true]:=
 h.of
theorem qKI(h:Oo (y2u P k l N Q R S G0 b0 p G U A V q0 a r0 W X Y Z A0 C0 E0 F0 s0 q1 b d0 r1 s1 H J K L C E F M t0 u0 e0 f0 t1 u1 v1 a0 i0 w1 x1 y1 j0 m z1 q2 n v0 r2 k0 c s2 t2 d q e l0 r s u2 m0 n0 w0 v2 [.b w0 false,.a .sub,.e G b.toNat (wk H J K L C E F M),.x E a [B t],.e (A.set a.toNat [B q,I e,I (c+d),B r,B s]) a.toNat [B u,I f,I g,B w2,B v],.e ((A.set a.toNat [B q,I e,I (c+d),B r,B s]).set a.toNat [B u,I f,I g,B t,B v]) a.toNat [B x2,I o0,I p0,B y2,B x0],.b x0 false,.a .sub,.e G b.toNat (wk H J K L C E F M),.x F a [B w],.e ((A.set a.toNat [B q,I e,I (c+d),B r,B s]).set a.toNat [B u,I f,I g,B t,B v]) a.toNat [B x,I i,I j,B y,B z2],.a .sub,.e G b.toNat (wk H J K L C E F M),.x E a [B q3],.e G b.toNat (wk H J K L C E F M),.p (b.toNat=b.toNat),.p (b.toNat=b.toNat),.p (b.toNat=b.toNat),.p (b.toNat=b.toNat),.p (b.toNat=b.toNat),.e (((A.set a.toNat [B q,I e,I (c+d),B r,B s]).set a.toNat [B u,I f,I g,B t,B v]).set a.toNat [B x,I i,I j,B y,B w]) a.toNat [B r3,I o,I a1,B s3,B t3],.v (o-1),.e (((A.set a.toNat [B q,I e,I (c+d),B r,B s]).set a.toNat [B u,I f,I g,B t,B v]).set a.toNat [B x,I i,I j,B y,B w]) a.toNat [B y0,I b1,I c0,B z0,B z]])):
 Rt 41 [.agg (cl P k l N Q R S),cI a] [.agg [D.sl 4 G0,I b0,I p,D.sl 8 (G.set b.toNat (wk H J K L C (E.set a.toNat [B false]) F M)),D.sl 6 U,D.sl 5 ((((A.set a.toNat [B q,I e,I (c+d),B r,B s]).set a.toNat [B u,I f,I g,B t,B v]).set a.toNat [B x,I i,I j,B y,B w]).set a.toNat [B y0,I (o-1),I c0,B z0,B z]),D.sl 3 V],cB true]:=
 h.of
def qgJ(a b:Int)(H:LL)(f g:Int)(J K L M:LL)(i c:Int)(A:LL)(d e:Int)(C E F G:LL):St:=
 { env:=envOf 229 [(1,vI a),(2,vP 2),(4,vP 4),(6,vP 6),(9,.al (.one (.sb true))),(10,vI b)],boxes:=[(6,[lO 130000 4 H,lI f,lI g,lO 130003 8 J,lO 130004 6 K,lO 130005 5 L,lO 130006 3 M]),(4,[.v (sn),lI i,lI c,.v (sn),.v (sn),.v (sn),.v (sn)]),(2,[.sl .free 4 A,lI d,lI e,.sl .free 8 C,.sl .free 6 E,.sl .free 5 F,.sl .free 3 G])] }
theorem qKJ(h:Oo [.f C a true,.g A [[I a,I b,B true]] 24,.h [[I a,I b,B true]],.u a]):
 Tp (qaa f41 0) (qgJ b a E c d F G H A e f J g i C K L M) .normal (qgJ b (a+1) E c d F G H (A++[[I a,I b,B true]]) e f J g i C K L M):=
 h.lp [10,2,6,1,9,4] [6,4,2]
def qgK(A:LL)(a b:Int)(C E F G:LL)(c d:Int):St:=
 { env:=envOf 229 [(4,vP 4),(6,vP 6)],boxes:=[(6,[lO 130000 4 A,lI a,lI b,lO 130003 8 C,lO 130004 6 E,lO 130005 5 F,lO 130006 3 G]),(4,[.v (sn),lI c,lI d,.v (sn),.v (sn),.v (sn),.v (sn)])] }
theorem qKK(h:Oo [.f H a false]):
 Tp (qaa f41 0) (qgJ f a A b c C E F G d e J g i H K L M) (.exit 1) (qgK A b c C E F G d e):=
 h.lp [6,4] [6,4]
def y2v(A:LL)(a b:Int)(C E F G H:LL)(c d:Int)(J K L M:LL)(q:Bool)(e:Int)(r:Bool)(N P Q R S U V X:LL)(s t:Bool)(f g:Int)(u v:Bool)(Y Z A1 C1 E1 F1 G1 H1:LL)(w x:Bool)(i j:Int)(y z q1:Bool)(k m:Int)(r1 s1 t1:Bool)(n o:Int)(u1 v1 w1:Bool)(p a1:Int)(x1 y1:Bool)(l:List O):List O:=y2s A a b C E F G H c d J K L M q e r N P Q R S U V X s t f g u v Y Z A1 C1 E1 F1 G1 H1 w x i j y z q1 k m r1 s1 (.b (decide (k>0)) false::.e L e.toNat [B t1,I n,I o,B u1,B v1]::.e (L.set e.toNat [B false,I n,I o,B u1,B v1]) e.toNat [B w1,I p,I a1,B x1,B y1]::l)
def y2w(A:LL)(a b:Int)(C E F G H:LL)(c d:Int)(J K L M:LL)(q:Bool)(e:Int)(r:Bool)(N P Q R S U V X:LL)(s t:Bool)(f g:Int)(u v:Bool)(Y Z A1 C1 E1 F1 G1 H1:LL)(w x:Bool)(i j:Int)(y z q1:Bool)(k m:Int)(r1 s1 t1:Bool)(n o:Int)(u1 v1 w1:Bool)(p a1:Int)(x1 y1 z1 q2:Bool)(b1 c1:Int)(r2 s2:Bool)(d1:Int)(l:List O):List O:=y2v A a b C E F G H c d J K L M q e r N P Q R S U V X s t f g u v Y Z A1 C1 E1 F1 G1 H1 w x i j y z q1 k m r1 s1 t1 n o u1 v1 w1 p a1 x1 y1 (.n x1 true::.a .sub::.e J f.toNat (wk Y Z A1 C1 E1 F1 G1 H1)::.x F1 e [B z1]::.n z1 true::.e (L.set e.toNat [B false,I n,I o,B u1,B v1]) e.toNat [B q2,I b1,I c1,B r2,B s2]::.a .sub::.e J f.toNat (wk Y Z A1 C1 E1 F1 G1 H1)::.x E1 e [I d1]::.v (c1+d1)::l)
theorem qKL(h:Oo (y2w P e f N Q R S M0 n j M U F V s a t W X Y Z A0 C0 E0 F0 u q0 b o r0 s0 G H J K C E L A v w p a0 t0 u0 v0 k b0 w0 x0 y0 c d q r z0 c0 d0 x q1 y r1 e0 g s1 t1 i [.b (g+i==0) true,.e (F.set a.toNat [B false,I c,I d,B q,B r]) a.toNat [B u1,I f0,I i0,B v1,B z],.b z true,.a .sub,.e M b.toNat (wk G H J K C E L A),.g A [[I a,B true]] 16,.e M b.toNat (wk G H J K C E L A),.p ((wk G H J K C E L A)[7]?=some (D.sl 2 A)),.p (b.toNat=b.toNat),.p (b.toNat=b.toNat),.h [[I a,B true]],.e M b.toNat (wk G H J K C E L A),.p (b.toNat=b.toNat),.l [] [10,2,6,1,9,4] [6,4,2] (qaa f41 0) (qgJ a 1 M0 n j (M.set b.toNat (wk G H J K C E L (A++[[I a,B true]]))) U (F.set a.toNat [B false,I c,I d,B q,B r]) V 0 0 P e f N Q R S) (.exit 1) (qgK G0 l m H0 J0 K0 L0 j0 k0)])):
 Rt 41 [.agg (cl P e f N Q R S),cI a] [.agg (cl G0 l m H0 J0 K0 L0),cB true]:=
 h.of
def qgL(a:Int)(q:Bool)(f:Int)(H:LL)(g i:Int)(J K L M:LL)(b c:Int)(A:LL)(d e:Int)(C E F G:LL):St:=
 { env:=envOf 229 [(1,vI a),(2,vP 2),(4,vP 4),(6,vP 6),(9,.al (.one (.sb q))),(10,vI f)],boxes:=[(6,[lO 130000 4 H,lI g,lI i,lO 130003 8 J,lO 130004 6 K,lO 130005 5 L,lO 130006 3 M]),(4,[.v (sn),lI b,lI c,.v (sn),.v (sn),.v (sn),.v (sn)]),(2,[.sl .free 4 A,lI d,lI e,.sl .free 8 C,.sl .free 6 E,.sl .free 5 F,.sl .free 3 G])] }
theorem qKM(h:Oo [.f C a true,.g A [[I a,I b,B q]] 24,.h [[I a,I b,B q]],.u a]):
 Tp (qaa f41 0) (qgL b q a E c d F G H A e f J g i C K L M) .normal (qgL b q (a+1) E c d F G H (A++[[I a,I b,B q]]) e f J g i C K L M):=
 h.lp [10,2,6,1,9,4] [6,4,2]
theorem qKN(h:Oo [.f H a false]):
 Tp (qaa f41 0) (qgL f q a A b c C E F G d e J g i H K L M) (.exit 1) (qgK A b c C E F G d e):=
 h.lp [6,4] [6,4]
theorem qKO(h:Oo (y2w P e f N Q R S M0 n j L U M V t a u W X Y Z A0 C0 E0 F0 v r0 b o s0 t0 G H J K C E F A w x p a0 u0 v0 w0 k b0 x0 y0 z0 c d q r q1 c0 d0 y r1 z s1 e0 g t1 u1 i [.b (g+i==0) true,.e (M.set a.toNat [B false,I c,I d,B q,B r]) a.toNat [B v1,I f0,I i0,B w1,B q0],.b q0 false,.a .sub,.e L b.toNat (wk G H J K C E F A),.x F a [B s],.a .sub,.e L b.toNat (wk G H J K C E F A),.g A [[I a,B s]] 16,.e L b.toNat (wk G H J K C E F A),.p ((wk G H J K C E F A)[7]?=some (D.sl 2 A)),.p (b.toNat=b.toNat),.p (b.toNat=b.toNat),.h [[I a,B s]],.e L b.toNat (wk G H J K C E F A),.p (b.toNat=b.toNat),.l [] [10,2,6,1,9,4] [6,4,2] (qaa f41 0) (qgL a s 1 M0 n j (L.set b.toNat (wk G H J K C E F (A++[[I a,B s]]))) U (M.set a.toNat [B false,I c,I d,B q,B r]) V 0 0 P e f N Q R S) (.exit 1) (qgK G0 l m H0 J0 K0 L0 j0 k0)])):
 Rt 41 [.agg (cl P e f N Q R S),cI a] [.agg (cl G0 l m H0 J0 K0 L0),cB true]:=
 h.of
theorem qKP(h:Oo (y2w P e f E Q R S G0 l j C U A V s a t W X Y Z A0 C0 E0 F0 u z b m q0 r0 H J K L F G M N v w n o s0 t0 u0 k p v0 w0 x0 c d q r y0 a0 b0 x z0 y q1 c0 g r1 s1 i [.b (g+i==0) false])):
 Rt 41 [.agg (cl P e f E Q R S),cI a] [.agg (cl G0 l j C U (A.set a.toNat [B false,I c,I d,B q,B r]) V),cB true]:=
 h.of
theorem qKQ(h:Oo (y2v G b c C Q R S G0 j g E U A V s a t W X Y Z A0 C0 E0 F0 u z d k q0 r0 H J K L M F N P v w l m s0 t0 u0 i n v0 w0 x0 e f q r y0 o p x z0 [.n x true,.a .sub,.e E d.toNat (wk H J K L M F N P),.x F a [B y],.n y false])):
 Rt 41 [.agg (cl G b c C Q R S),cI a] [.agg (cl G0 j g E U (A.set a.toNat [B false,I e,I f,B q,B r]) V),cB true]:=
 h.of
theorem qKR(h:Oo (y2v E b c C G H J G0 j f F K A L s a t M N P Q R S U V u y g k z q0 W X Y Z A0 C0 E0 F0 v w l m r0 s0 t0 i n u0 v0 w0 d e q r x0 o p x y0 [.n x false])):
 Rt 41 [.agg (cl E b c C G H J),cI a] [.agg (cl G0 j f F K (A.set a.toNat [B false,I d,I e,B q,B r]) L),cB true]:=
 h.of
theorem qK1(h:Oo [.r 266 [cS 5 A,.one (.cl 319 [D.ptr [I a]])] [cB q]]):
 Rt 272 [.agg (wk C E A F G H J K),cI a] [cB q]:=
 h.of
theorem qK2(h:Oo []):
 Rt 319 [.agg (ri c a d e f),.one (.ptr [I b])] [cB (decide (a≤b))]:=
 h.of
theorem qK3(h:Oo [.r 272 [.agg (wk A C E F G H J K),cI a] [cB q],.n q true,.r 273 [.agg (wk A C E F G H J K),cI a] [cI b]]):
 Rt 164 [.agg (wk A C E F G H J K),cI a] [cB (b==0)]:=
 h.of
theorem qK4(h:Oo [.r 272 [.agg (wk A C E F G H J K),cI a] [cB q],.n q false]):
 Rt 164 [.agg (wk A C E F G H J K),cI a] [cB false]:=
 h.of
theorem qK5(h:Oo [.r 147 [cS 5 E,cI a] [cS 5 C],.r 147 [cS 5 F,cI a] [cS 5 A],.v ((C.length:Int)+(A.length:Int))]):
 Rt 273 [.agg (wk E F G H J K L M),cI a] [cI ((C.length:Int)+(A.length:Int))]:=
 h.of
end Go.Proofs.YtdkobdhckkjmeaaGreat
