import Derived.Test.YthfnndblgbjniaaGreatDoorGE
namespace Go.Proofs.YthfnndblgbjniaaGreatDoor
open Go.Sx Go.RowKit
variable {a b c d e f g i j k l m n o p a0 cj df d0 bD f0 : Int} {A C E F G H ah K L M N Q R S bu V X Y Z ew : ae} {q r s t u v w x y z gJ fS t0 gg : Bool}
theorem X'(h:af [.b (decide (a<1)) true]):
 ax 158 [ag b,ag a] [ag 0]:=
 h.of
theorem Ya(h:af [.b (decide (a<1)) false,.p (a≠0),.b (decide (b.tmod a<0)) true,.v (b.tmod a+a)]):
 ax 158 [ag b,ag a] [ag (b.tmod a+a)]:=
 h.of
theorem Yb(h:af [.b (decide (a<1)) false,.p (a≠0),.b (decide (b.tmod a<0)) false]):
 ax 158 [ag b,ag a] [ag (b.tmod a)]:=
 h.of
def sR(A:ae)(a:Int):aD:=bd 21 [(0,cQ 4 A),(3,aU a)] []
def JF(q:Bool):aD:=bd 21 [(2,.az (.one (.a1 q)))] []
def DW(A:ae)(a b c d e f g i j:Int)(l:List O):List O:=.f A a true::.v (a-1)::.p (0<=a-1)::.p (a-1<(A.length:Int))::.e A ((a-1).toNat) [I b,I c,I d,I e]::.x A a [I f,I g,I i,I j]::l
theorem Yc(h:af (DW A a c d e f g i j k [.r 204 [.agg [I c,I d,I e,I f],.agg [I g,I i,I j,I k]] [ag b],.b (decide (b>=0)) true])):
 aX (aq Tryz.f184 0) (sR A a) .ret (JF false):=
 h.aV [2] []
theorem Yd(h:af (DW A a c d e f g i j k [.r 204 [.agg [I c,I d,I e,I f],.agg [I g,I i,I j,I k]] [ag b],.b (decide (b>=0)) false,.u a])):
 aX (aq Tryz.f184 0) (sR A a) .normal (sR A (a+1)):=
 h.aV [3,0] []
def P6:aD:=bd 21 [] []
theorem Ye(h:af [.f A a false]):
 aX (aq Tryz.f184 0) (sR A a) (.exit 0) P6:=
 h.aV [] []
theorem Yf(h:af [.l [] [3,0] [] (aq Tryz.f184 0) (sR A 1) .ret (JF q)]):
 ax 184 [aY 4 A] [ar q]:=
 h.of
theorem Yg(h:af [.l [] [3,0] [] (aq Tryz.f184 0) (sR A 1) (.exit 0) P6]):
 ax 184 [aY 4 A] [ar true]:=
 h.of
def sS(A:ae)(a:Int):aD:=bd 21 [(0,cQ 4 A),(3,aU a)] []
def JG(q:Bool):aD:=bd 21 [(2,.az (.one (.a1 q)))] []
theorem Yh(h:af (DW A a c d e f g i j k [.r 179 [.agg [I c,I d,I e,I f],.agg [I g,I i,I j,I k]] [ag b],.b (decide (b>=0)) true])):
 aX (aq Tryz.f129 0) (sS A a) .ret (JG false):=
 h.aV [2] []
theorem Yi(h:af (DW A a c d e f g i j k [.r 179 [.agg [I c,I d,I e,I f],.agg [I g,I i,I j,I k]] [ag b],.b (decide (b>=0)) false,.u a])):
 aX (aq Tryz.f129 0) (sS A a) .normal (sS A (a+1)):=
 h.aV [3,0] []
def P7:aD:=bd 21 [] []
theorem Yj(h:af [.f A a false]):
 aX (aq Tryz.f129 0) (sS A a) (.exit 0) P7:=
 h.aV [] []
theorem Yk(h:af [.l [] [3,0] [] (aq Tryz.f129 0) (sS A 1) .ret (JG q)]):
 ax 129 [aY 4 A] [ar q]:=
 h.of
theorem Yl(h:af [.l [] [3,0] [] (aq Tryz.f129 0) (sS A 1) (.exit 0) P7]):
 ax 129 [aY 4 A] [ar true]:=
 h.of
def sT(A:ae)(a b:Int)(C:ae)(c:Int):aD:=bd 29 [(1,cQ 5 C),(2,aN 2),(5,aU c)] [(2,[.J .free 4 A,ak a,ak b])]
def Cp(q:Bool):aD:=bd 29 [(4,.az (.one (.a1 q)))] []
def z8(A:ae)(a b c d e f:Int)(q:Bool)(l:List O):List O:=.i A a (bw b c d e f)::.r 167 [.agg (bw b c d e f)] [ar q]::l
theorem Ym(h:af (z8 A a b c d e f q [.n q true])):
 aX (aq Tryz.f141 0) (sT C g i A a) .ret (Cp false):=
 h.aV [4] []
theorem Yn(h:af (z8 A a c d e f g q [.n q false,.x A a (bw b j k l m),.b (decide (b>=(C.length:Int))) true])):
 aX (aq Tryz.f141 0) (sT C i n A a) .ret (Cp false):=
 h.aV [4] []
theorem Yo(h:af (z8 A a e f g i j q [.n q false,.x A a (bw c k l m n),.b (decide (c>=(C.length:Int))) false,.u a])):
 aX (aq Tryz.f141 0) (sT C b d A a) .normal (sT C b d A (a+1)):=
 h.aV [5,1,2] [2]
def P8:aD:=bd 29 [] []
theorem Yp(h:af [.f A a false]):
 aX (aq Tryz.f141 0) (sT C b c A a) (.exit 0) P8:=
 h.aV [] []
theorem Yq(h:af [.l [] [5,1,2] [2] (aq Tryz.f141 0) (sT A a b C 0) .ret (Cp q)]):
 ax 141 [.agg (bC A a b),aY 5 C] [ar q]:=
 h.of
theorem Yr(h:af [.l [] [5,1,2] [2] (aq Tryz.f141 0) (sT A a b C 0) (.exit 0) P8]):
 ax 141 [.agg (bC A a b),aY 5 C] [ar true]:=
 h.of
def sU(A:ae)(a:Int)(C:ae)(b c:Int):aD:=bd 24 [(2,aN 2),(7,cQ 5 A),(8,aU (A.length:Int)),(9,aU a)] [(2,[.J .free 4 C,ak b,ak c])]
def Cq(q:Bool):aD:=bd 24 [(4,.az (.one (.a1 q)))] []
def z'(A:ae)(a b c d e f:Int)(q:Bool)(l:List O):List O:=.i A a (bw b c d e f)::.r 131 [.agg (bw b c d e f)] [ar q]::l
theorem XD(h:af (z' A d e f a b c q [.n q true])):
 aX (aq Tryz.f81 0) (sU A d C g i) .ret (Cq false):=
 h.aV [4] []
theorem XE(h:af (z' A e a i b c d q [.n q false,.r 132 [.agg (bC C f g),ag a] [ar r],.n r true])):
 aX (aq Tryz.f81 0) (sU A e C f g) .ret (Cq false):=
 h.aV [4] []
theorem XF(h:af (z' A a d i e f g q [.n q false,.r 132 [.agg (bC C b c),ag d] [ar r],.n r false,.u a])):
 aX (aq Tryz.f81 0) (sU A a C b c) .normal (sU A (a+1) C b c):=
 h.aV [9,8,7,2] [2]
def P9:aD:=bd 24 [] []
theorem XG(h:af [.f A a false]):
 aX (aq Tryz.f81 0) (sU A a C b c) (.exit 0) P9:=
 h.aV [] []
theorem XH(h:af [.l [] [9,8,7,2] [2] (aq Tryz.f81 0) (sU C 0 A a b) .ret (Cq q)]):
 ax 81 [.agg (bC A a b),aY 5 C] [ar q]:=
 h.of
theorem XI(h:af [.l [] [9,8,7,2] [2] (aq Tryz.f81 0) (sU C 0 A a b) (.exit 0) P9]):
 ax 81 [.agg (bC A a b),aY 5 C] [ar true]:=
 h.of
def Uw(A:ae)(a b:Int)(C:ae)(q:Bool)(l:List O):List O:=.r 141 [.agg (bC A a b),aY 5 C] [ar q]::l
theorem XJ(h:af (Uw A a b C q [.n q true])):
 ax 139 [.agg (bC A a b),.agg (bf C F G H ah K L E)] [ar false]:=
 h.of
def Ux(A:ae)(a b:Int)(C:ae)(q:Bool)(E:ae)(r:Bool)(l:List O):List O:=Uw A a b C q (.n q false::.r 141 [.agg (bC A a b),aY 5 E] [ar r]::l)
theorem XK(h:af (Ux A a b C q E r [.n r true])):
 ax 139 [.agg (bC A a b),.agg (bf C E G H ah K L F)] [ar false]:=
 h.of
def Uy(A:ae)(a b:Int)(C:ae)(q:Bool)(E:ae)(r:Bool)(F:ae)(s:Bool)(l:List O):List O:=Ux A a b C q E r (.n r false::.r 141 [.agg (bC A a b),aY 5 F] [ar s]::l)
theorem XL(h:af (Uy A a b C q E r F s [.n s true])):
 ax 139 [.agg (bC A a b),.agg (bf C E F H ah K L G)] [ar false]:=
 h.of
def Ll(A:ae)(a b:Int)(C:ae)(q:Bool)(E:ae)(r:Bool)(F:ae)(s:Bool)(G:ae)(t:Bool)(l:List O):List O:=Uy A a b C q E r F s (.n s false::.r 184 [aY 4 G] [ar t]::l)
theorem XM(h:af (Ll A a b C q E r F s G t [.n t true])):
 ax 139 [.agg (bC A a b),.agg (bf C E F G ah K L H)] [ar false]:=
 h.of
theorem XN(h:af (Ll A a b C q E r F s G t [.n t false,.b ((H.length:Int) != 4) true])):
 ax 139 [.agg (bC A a b),.agg (bf C E F G H K L ah)] [ar false]:=
 h.of
def T8(A:ae)(a b:Int)(C:ae)(q:Bool)(E:ae)(r:Bool)(F:ae)(s:Bool)(G:ae)(t:Bool)(H:ae)(l:List O):List O:=Ll A a b C q E r F s G t (.n t false::.b ((H.length:Int) != 4) false::l)
theorem XO(h:af (T8 A a b C q E r F s G t H [.b ((ah.length:Int) != 4) true])):
 ax 139 [.agg (bC A a b),.agg (bf C E F G H ah L K)] [ar false]:=
 h.of
def Lm(A:ae)(a b:Int)(C:ae)(q:Bool)(E:ae)(r:Bool)(F:ae)(s:Bool)(G:ae)(t:Bool)(H ah:ae)(l:List O):List O:=T8 A a b C q E r F s G t H (.b ((ah.length:Int) != 4) false::l)
theorem XP(h:af (Lm A a b C q E r F s G t H ah [.b ((K.length:Int) != 4) true])):
 ax 139 [.agg (bC A a b),.agg (bf C E F G H ah K L)] [ar false]:=
 h.of
def mF(A C E F G H ah K:ae)(a:Int):aD:=bd 147 [(3,aN 3),(5,aU 4),(6,aU a)] [(3,[.J .free 5 A,.J .free 5 C,.J .free 5 E,.J .free 4 F,.J .free 1 G,.J .free 1 H,.J .free 1 ah,.J .free 2 K])]
def zc(q:Bool):aD:=bd 147 [(4,.az (.one (.a1 q)))] []
theorem XQ(h:af [.i A a (bw b c d e f),.b (b != 0) true]):
 aX (aq Tryz.f139 0) (mF E F A G H ah K C a) .ret (zc false):=
 h.aV [4] []
def tg(A:ae)(a b c d e f:Int)(l:List O):List O:=.i A a (bw b c d e f)::.b (b != 0) false::l
theorem XR(h:af (tg A a b d e f g [.x A a (bw i j c k l),.b (c != 0) true])):
 aX (aq Tryz.f139 0) (mF E F A G H ah K C a) .ret (zc false):=
 h.aV [4] []
theorem XS(h:af (tg A a b f g i j [.x A a (bw k l c m n),.b (c != 0) false,.b (decide (a>0)) true,.v (a-1),.p (0<=a-1),.p (a-1<(A.length:Int)),.e A ((a-1).toNat) (bw o d p a0 cj),.x A a (bw df e d0 bD f0),.b (decide (d>e)) true])):
 aX (aq Tryz.f139 0) (mF E F A G H ah K C a) .ret (zc false):=
 h.aV [4] []
theorem XT(h:af (tg A a b f g i j [.x A a (bw k l c m n),.b (c != 0) false,.b (decide (a>0)) true,.v (a-1),.p (0<=a-1),.p (a-1<(A.length:Int)),.e A ((a-1).toNat) (bw o d p a0 cj),.x A a (bw df e d0 bD f0),.b (decide (d>e)) false,.u a])):
 aX (aq Tryz.f139 0) (mF E F A G H ah K C a) .normal (mF E F A G H ah K C (a+1)):=
 h.aV [6,3,5] [3]
theorem XU(h:af (tg A a b d e f g [.x A a (bw i j c k l),.b (c != 0) false,.b (decide (a>0)) false,.u a])):
 aX (aq Tryz.f139 0) (mF E F A G H ah K C a) .normal (mF E F A G H ah K C (a+1)):=
 h.aV [6,3,5] [3]
def G0(A C E F G H ah K:ae):aD:=bd 147 [(3,aN 3),(5,aU 4)] [(3,[.J .free 5 A,.J .free 5 C,.J .free 5 E,.J .free 4 F,.J .free 1 G,.J .free 1 H,.J .free 1 ah,.J .free 2 K])]
theorem XV(h:af [.f A a false]):
 aX (aq Tryz.f139 0) (mF E F A G H ah K C a) (.exit 0) (G0 E F A G H ah K C):=
 h.aV [5,3] [3]
theorem XW(h:af (Lm A a b C q E r F s G t H ah [.b ((K.length:Int) != 4) false,.l [] [6,3,5] [3] (aq Tryz.f139 0) (mF C E F G H ah K L 0) .ret (zc u)])):
 ax 139 [.agg (bC A a b),.agg (bf C E F G H ah K L)] [ar u]:=
 h.of
def sV(A C E F G H ah K:ae)(a:Int):aD:=bd 147 [(3,aN 3),(5,aU 4),(7,aU a)] [(3,[.J .free 5 A,.J .free 5 C,.J .free 5 E,.J .free 4 F,.J .free 1 G,.J .free 1 H,.J .free 1 ah,.J .free 2 K])]
def JH(q:Bool):aD:=bd 147 [(4,.az (.one (.a1 q)))] []
theorem XX(h:af [.b (decide (a<4)) true,.x A a [I b],.r 65 [ag b,ag (-1000000),ag 1000000] [ar q],.n q true]):
 aX (aq Tryz.f139 1) (sV E F G H A ah K C a) .ret (JH false):=
 h.aV [4] []
theorem XY(h:af [.b (decide (a<4)) true,.x A a [I b],.r 65 [ag b,ag (-1000000),ag 1000000] [ar q],.n q false,.u a]):
 aX (aq Tryz.f139 1) (sV E F G H A ah K C a) .normal (sV E F G H A ah K C (a+1)):=
 h.aV [7,5,3] [3]
def JI(A C E F G H ah K:ae):aD:=bd 147 [(3,aN 3)] [(3,[.J .free 5 A,.J .free 5 C,.J .free 5 E,.J .free 4 F,.J .free 1 G,.J .free 1 H,.J .free 1 ah,.J .free 2 K])]
theorem XZ(h:af [.b (decide (a<4)) false]):
 aX (aq Tryz.f139 1) (sV C E F G H ah K A a) (.exit 2) (JI C E F G H ah K A):=
 h.aV [3] [3]
def Ln(A:ae)(a b:Int)(C:ae)(q:Bool)(E:ae)(r:Bool)(F:ae)(s:Bool)(G:ae)(t:Bool)(H ah K:ae)(W:Code)(L:ae)(l:List O):List O:=Lm A a b C q E r F s G t H ah (.b ((K.length:Int) != 4) false::.l [] [6,3,5] [3] W (mF C E F G H ah K L 0) (.exit 0) (G0 C E F G H ah K L)::l)
theorem X0(h:af (Ln K a b A q C r E s F t G H ah (aq Tryz.f139 0) L [.l [] [7,5,3] [3] (aq Tryz.f139 1) (sV A C E F G H ah L 0) .ret (JH u)])):
 ax 139 [.agg (bC K a b),.agg (bf A C E F G H ah L)] [ar u]:=
 h.of
def p0(A C E F G H ah K:ae)(a:Int):aD:=bd 147 [(3,aN 3),(8,aU a)] [(3,[.J .free 5 A,.J .free 5 C,.J .free 5 E,.J .free 4 F,.J .free 1 G,.J .free 1 H,.J .free 1 ah,.J .free 2 K])]
def Cr(q:Bool):aD:=bd 147 [(4,.az (.one (.a1 q)))] []
theorem X1(h:af [.i A a [I b,B r],.r 65 [ag b,ag 0,ag 3] [ar q],.n q true]):
 aX (aq Tryz.f139 2) (p0 C E F G H ah K A a) .ret (Cr false):=
 h.aV [4] []
def ru(A C E F G H ah K:ae)(a b:Int):aD:=bd 147 [(3,aN 3),(8,aU a),(9,aU b)] [(3,[.J .free 5 A,.J .free 5 C,.J .free 5 E,.J .free 4 F,.J .free 1 G,.J .free 1 H,.J .free 1 ah,.J .free 2 K])]
def Cs(q:Bool):aD:=bd 147 [(4,.az (.one (.a1 q)))] []
theorem X2(h:af [.b (decide (b<a)) true,.x A b [I c,B q],.x A a [I d,B r],.b (c==d) true]):
 aX (aq Tryz.f139 3) (ru C E F G H ah K A a b) .ret (Cs false):=
 h.aV [4] []
theorem Xt(h:af [.b (decide (a<b)) true,.x A a [I c,B q],.x A b [I d,B r],.b (c==d) false,.u a]):
 aX (aq Tryz.f139 3) (ru C E F G H ah K A b a) .normal (ru C E F G H ah K A b (a+1)):=
 h.aV [9,8,3] [3]
def JJ(A C E F G H ah K:ae)(a:Int):aD:=bd 147 [(3,aN 3),(8,aU a)] [(3,[.J .free 5 A,.J .free 5 C,.J .free 5 E,.J .free 4 F,.J .free 1 G,.J .free 1 H,.J .free 1 ah,.J .free 2 K])]
theorem Xu(h:af [.b (decide (b<a)) false]):
 aX (aq Tryz.f139 3) (ru C E F G H ah K A a b) (.exit 6) (JJ C E F G H ah K A a):=
 h.aV [8,3] [3]
theorem Xv(h:af [.i A a [I b,B s],.r 65 [ag b,ag 0,ag 3] [ar q],.n q false,.l [] [9,8,3] [3] (aq Tryz.f139 3) (ru C E F G H ah K A a 0) .ret (Cs r)]):
 aX (aq Tryz.f139 2) (p0 C E F G H ah K A a) .ret (Cr r):=
 h.aV [4] []
theorem Xw(h:af [.i A a [I b,B r],.r 65 [ag b,ag 0,ag 3] [ar q],.n q false,.l [] [9,8,3] [3] (aq Tryz.f139 3) (ru C E F G H ah K A a 0) (.exit 6) (JJ C E F G H ah K A a),.u a]):
 aX (aq Tryz.f139 2) (p0 C E F G H ah K A a) .normal (p0 C E F G H ah K A (a+1)):=
 h.aV [8,3] [3]
def IV:aD:=bd 147 [] []
theorem Xx(h:af [.f A a false]):
 aX (aq Tryz.f139 2) (p0 C E F G H ah K A a) (.exit 4) IV:=
 h.aV [] []
theorem Xy(h:af (Ln L a b A q C r E s F t G H ah (aq Tryz.f139 0) K [.l [] [7,5,3] [3] (aq Tryz.f139 1) (sV A C E F G H ah K 0) (.exit 2) (JI A C E F G H ah K),.l [] [8,3] [3] (aq Tryz.f139 2) (p0 A C E F G H ah K 0) .ret (Cr u)])):
 ax 139 [.agg (bC L a b),.agg (bf A C E F G H ah K)] [ar u]:=
 h.of
theorem Xz(h:af (Ln L a b A q C r E s F t G H ah (aq Tryz.f139 0) K [.l [] [7,5,3] [3] (aq Tryz.f139 1) (sV A C E F G H ah K 0) (.exit 2) (JI A C E F G H ah K),.l [] [8,3] [3] (aq Tryz.f139 2) (p0 A C E F G H ah K 0) (.exit 4) IV])):
 ax 139 [.agg (bC L a b),.agg (bf A C E F G H ah K)] [ar true]:=
 h.of
def T'(A:ae)(a b:Int)(C:ae)(q:Bool)(l:List O):List O:=.r 81 [.agg (bC A a b),aY 5 C] [ar q]::l
theorem XA(h:af (T' A a b C q [.n q true])):
 ax 79 [.agg (bC A a b),.agg (bf C F G H ah K L E)] [ar false]:=
 h.of
def Ua(A:ae)(a b:Int)(C:ae)(q:Bool)(E:ae)(r:Bool)(l:List O):List O:=T' A a b C q (.n q false::.r 81 [.agg (bC A a b),aY 5 E] [ar r]::l)
theorem XB(h:af (Ua A a b C q E r [.n r true])):
 ax 79 [.agg (bC A a b),.agg (bf C E G H ah K L F)] [ar false]:=
 h.of
def Ub(A:ae)(a b:Int)(C:ae)(q:Bool)(E:ae)(r:Bool)(F:ae)(s:Bool)(l:List O):List O:=Ua A a b C q E r (.n r false::.r 81 [.agg (bC A a b),aY 5 F] [ar s]::l)
theorem XC(h:af (Ub A a b C q E r F s [.n s true])):
 ax 79 [.agg (bC A a b),.agg (bf C E F H ah K L G)] [ar false]:=
 h.of
def Lo(A:ae)(a b:Int)(C:ae)(q:Bool)(E:ae)(r:Bool)(F:ae)(s:Bool)(G:ae)(t:Bool)(l:List O):List O:=Ub A a b C q E r F s (.n s false::.r 129 [aY 4 G] [ar t]::l)
theorem Y2(h:af (Lo A a b C q E r F s G t [.n t true])):
 ax 79 [.agg (bC A a b),.agg (bf C E F G ah K L H)] [ar false]:=
 h.of
def mG(A:ae)(a:Int)(C E F G H ah K L:ae):aD:=bd 121 [(3,aN 3),(37,cQ 5 A),(38,aU (A.length:Int)),(39,aU a)] [(3,[.J .free 5 C,.J .free 5 E,.J .free 5 F,.J .free 4 G,.J .free 1 H,.J .free 1 ah,.J .free 1 K,.J .free 2 L])]
def zd(q:Bool):aD:=bd 121 [(4,.az (.one (.a1 q)))] []
theorem Y3(h:af [.i A a (bw b c d e f),.b (b != 0) true]):
 aX (aq Tryz.f79 0) (mG A a C E F G H ah K L) .ret (zd false):=
 h.aV [4] []
theorem Y4(h:af (tg A a b d c e f [.b (c != 0) true])):
 aX (aq Tryz.f79 0) (mG A a C E F G H ah K L) .ret (zd false):=
 h.aV [4] []
theorem Y5(h:af (tg C a b c d f g [.b (d != 0) false,.b (decide (a>0)) true,.v (a-1),.p (0<=a-1),.p (a-1<(A.length:Int)),.e A ((a-1).toNat) (bw i e j k l),.b (decide (e>c)) true])):
 aX (aq Tryz.f79 0) (mG C a E F A G H ah K L) .ret (zd false):=
 h.aV [4] []
theorem Y6(h:af (tg C a b c d f g [.b (d != 0) false,.b (decide (a>0)) true,.v (a-1),.p (0<=a-1),.p (a-1<(A.length:Int)),.e A ((a-1).toNat) (bw i e j k l),.b (decide (e>c)) false,.u a])):
 aX (aq Tryz.f79 0) (mG C a E F A G H ah K L) .normal (mG C (a+1) E F A G H ah K L):=
 h.aV [39,38,37,3] [3]
theorem Y7(h:af (tg A a b d c e f [.b (c != 0) false,.b (decide (a>0)) false,.u a])):
 aX (aq Tryz.f79 0) (mG A a C E F G H ah K L) .normal (mG A (a+1) C E F G H ah K L):=
 h.aV [39,38,37,3] [3]
def GX(A C E F G H ah K:ae):aD:=bd 121 [(3,aN 3)] [(3,[.J .free 5 A,.J .free 5 C,.J .free 5 E,.J .free 4 F,.J .free 1 G,.J .free 1 H,.J .free 1 ah,.J .free 2 K])]
theorem Y8(h:af [.f L a false]):
 aX (aq Tryz.f79 0) (mG L a A C E F G H ah K) (.exit 0) (GX A C E F G H ah K):=
 h.aV [3] [3]
theorem Y9(h:af (Lo A a b E q F r C s G t [.n t false,.l [] [39,38,37,3] [3] (aq Tryz.f79 0) (mG C 0 E F C G ah K L H) .ret (zd u)])):
 ax 79 [.agg (bC A a b),.agg (bf E F C G ah K L H)] [ar u]:=
 h.of
def Lp(A:ae)(a b:Int)(C:ae)(q:Bool)(E:ae)(r:Bool)(F:ae)(s:Bool)(G:ae)(t:Bool)(W:Code)(H ah K L M N P Q R S bu V:ae)(l:List O):List O:=Lo A a b C q E r F s G t (.n t false::.l [] [39,38,37,3] [3] W (mG F 0 C E F G H ah K L) (.exit 0) (GX M N P Q R S bu V)::l)
theorem Y'(h:af (Lp A a b E q F r C s G t (aq Tryz.f79 0) K L M H N Q R S ah bu V X [.b ((ah.length:Int) != 4) true])):
 ax 79 [.agg (bC A a b),.agg (bf E F C G K L M H)] [ar false]:=
 h.of
theorem Za(h:af (Lp A a b E q F r C s G t (aq Tryz.f79 0) L M N H Q R S bu ah K V X [.b ((ah.length:Int) != 4) false,.b ((K.length:Int) != 4) true])):
 ax 79 [.agg (bC A a b),.agg (bf E F C G L M N H)] [ar false]:=
 h.of
def DO(A:ae)(a b:Int)(C:ae)(q:Bool)(E:ae)(r:Bool)(F:ae)(s:Bool)(G:ae)(t:Bool)(W:Code)(H ah K L M N P Q R S bu V:ae)(l:List O):List O:=Lp A a b C q E r F s G t W H ah K L M N P Q R S bu V (.b ((R.length:Int) != 4) false::.b ((S.length:Int) != 4) false::l)
theorem Zb(h:af (DO A a b E q F r C s G t (aq Tryz.f79 0) M N Q H R S bu V ah K L X [.b ((L.length:Int) != 4) true])):
 ax 79 [.agg (bC A a b),.agg (bf E F C G M N Q H)] [ar false]:=
 h.of
def sW(C E F G A H ah K:ae)(a:Int):aD:=bd 121 [(3,aN 3),(89,cQ 1 A),(90,aU (A.length:Int)),(91,aU a)] [(3,[.J .free 5 C,.J .free 5 E,.J .free 5 F,.J .free 4 G,.J .free 1 A,.J .free 1 H,.J .free 1 ah,.J .free 2 K])]
def IW(q:Bool):aD:=bd 121 [(4,.az (.one (.a1 q)))] []
theorem Zc(h:af [.i A a [I b],.r 64 [ag b,ag (-1000000),ag 1000000] [ar q],.n q true]):
 aX (aq Tryz.f79 1) (sW C E F G A H ah K a) .ret (IW false):=
 h.aV [4] []
theorem Zd(h:af [.i A a [I b],.r 64 [ag b,ag (-1000000),ag 1000000] [ar q],.n q false,.u a]):
 aX (aq Tryz.f79 1) (sW C E F G A H ah K a) .normal (sW C E F G A H ah K (a+1)):=
 h.aV [91,90,89,3] [3]
def IX(A C E F G H ah K:ae):aD:=bd 121 [(3,aN 3)] [(3,[.J .free 5 A,.J .free 5 C,.J .free 5 E,.J .free 4 F,.J .free 1 G,.J .free 1 H,.J .free 1 ah,.J .free 2 K])]
theorem Ze(h:af [.f A a false]):
 aX (aq Tryz.f79 1) (sW C E F G A H ah K a) (.exit 2) (IX C E F G A H ah K):=
 h.aV [3] [3]
theorem Zf(h:af (DO A a b H q ah r C s K t (aq Tryz.f79 0) bu V X L M N Q R E F G S [.b ((G.length:Int) != 4) false,.l [] [91,90,89,3] [3] (aq Tryz.f79 1) (sW M N Q R E F G S 0) .ret (IW u)])):
 ax 79 [.agg (bC A a b),.agg (bf H ah C K bu V X L)] [ar u]:=
 h.of
def p1(A:ae)(a:Int)(C E F G H ah K L:ae):aD:=bd 121 [(3,aN 3),(100,cQ 2 A),(101,aU (A.length:Int)),(102,aU a)] [(3,[.J .free 5 C,.J .free 5 E,.J .free 5 F,.J .free 4 G,.J .free 1 H,.J .free 1 ah,.J .free 1 K,.J .free 2 L])]
def Ct(q:Bool):aD:=bd 121 [(4,.az (.one (.a1 q)))] []
theorem Zg(h:af [.i A a [I b,B r],.r 64 [ag b,ag 0,ag 3] [ar q],.n q true]):
 aX (aq Tryz.f79 2) (p1 A a C E F G H ah K L) .ret (Ct false):=
 h.aV [4] []
def T9(A:ae)(a b:Int)(q r:Bool)(C:ae)(s:Bool)(l:List O):List O:=.i A a [I b,B q]::.r 64 [ag b,ag 0,ag 3] [ar r]::.n r false::.p ((0:Int)<=none.getD 0)::.p (none.getD 0<=(some a).getD (C.length:Int))::.p ((some a).getD (C.length:Int)<=(C.length:Int))::.r 82 [.one (.J 2 (List.take (((some a).getD (C.length:Int)).toNat-0) (List.drop 0 C))),ag b] [ar s]::l
theorem Zh(h:af (T9 C a b s q A r [.b r true])):
 aX (aq Tryz.f79 2) (p1 C a E F G H ah K L A) .ret (Ct false):=
 h.aV [4] []
theorem Zi(h:af (T9 C a b s q A r [.b r false,.u a])):
 aX (aq Tryz.f79 2) (p1 C a E F G H ah K L A) .normal (p1 C (a+1) E F G H ah K L A):=
 h.aV [102,101,100,3] [3]
def IY:aD:=bd 121 [] []
theorem Zj(h:af [.f A a false]):
 aX (aq Tryz.f79 2) (p1 A a C E F G H ah K L) (.exit 4) IY:=
 h.aV [] []
theorem Zk(h:af (DO G a b N q Q r M s R t (aq Tryz.f79 0) bu V X S H ah K L A C E F [.b ((E.length:Int) != 4) false,.l [] [91,90,89,3] [3] (aq Tryz.f79 1) (sW H ah K L A C E F 0) (.exit 2) (IX H ah K L A C E F),.l [] [102,101,100,3] [3] (aq Tryz.f79 2) (p1 F 0 H ah K L A C E F) .ret (Ct u)])):
 ax 79 [.agg (bC G a b),.agg (bf N Q M R bu V X S)] [ar u]:=
 h.of
theorem Zl(h:af (DO G a b N q Q r M s R t (aq Tryz.f79 0) bu V X S H ah K L A C E F [.b ((E.length:Int) != 4) false,.l [] [91,90,89,3] [3] (aq Tryz.f79 1) (sW H ah K L A C E F 0) (.exit 2) (IX H ah K L A C E F),.l [] [102,101,100,3] [3] (aq Tryz.f79 2) (p1 F 0 H ah K L A C E F) (.exit 4) IY])):
 ax 79 [.agg (bC G a b),.agg (bf N Q M R bu V X S)] [ar true]:=
 h.of
def ub(a:Int)(A:ae)(b c d e f:Int):aD:=bd 70 [(1,aN 1),(3,aU f)] [(1,[ak a,.J .free 5 A,ak b,ak c,ak d,ak e])]
def IZ(q:Bool):aD:=bd 70 [(2,.az (.one (.a1 q)))] []
theorem Zm(h:af (z8 A c d e f a b q [.n q true])):
 aX (aq Tryz.f140 0) (ub g A i j k l c) .ret (IZ false):=
 h.aV [2] []
theorem Zn(h:af (z8 A a j k l c d q [.n q false,.u a])):
 aX (aq Tryz.f140 0) (ub b A e f g i a) .normal (ub b A e f g i (a+1)):=
 h.aV [3,1] [1]
def Ns(a:Int)(A:ae)(b c d e:Int):aD:=bd 70 [(1,aN 1)] [(1,[ak a,.J .free 5 A,ak b,ak c,ak d,ak e])]
theorem Zo(h:af [.f A f false]):
 aX (aq Tryz.f140 0) (ub a A b c d e f) (.exit 0) (Ns a A b c d e):=
 h.aV [1] [1]
theorem Zp(h:af [.l [] [3,1] [1] (aq Tryz.f140 0) (ub a A b c d e 0) .ret (IZ q)]):
 ax 140 [.agg (ck a A b c d e)] [ar q]:=
 h.of
def Uc(W:Code)(a:Int)(A:ae)(b c d e:Int)(q:Bool)(l:List O):List O:=.l [] [3,1] [1] W (ub a A b c d e 0) (.exit 0) (Ns a A b c d e)::.r 65 [ag a,ag 1,ag 4] [ar q]::l
def Ud(W:Code)(a:Int)(A:ae)(b c d e:Int)(q r:Bool)(l:List O):List O:=Uc W a A b c d e q (.b q true::.r 65 [ag b,ag 0,ag a] [ar r]::l)
def Ue(W:Code)(a:Int)(A:ae)(b c d e:Int)(q r s:Bool)(l:List O):List O:=Ud W a A b c d e q r (.b r true::.r 65 [ag c,ag 0,ag a] [ar s]::l)
def Uf(W:Code)(a:Int)(A:ae)(b c d e:Int)(q r s:Bool)(l:List O):List O:=Ue W a A b c d e q r s (.b s true::.v (b+c)::.v (b+c+(A.length:Int))::l)
def Lq(W:Code)(a:Int)(A:ae)(b c d e:Int)(q r s t:Bool)(l:List O):List O:=Uf W a A b c d e q r s (.b (b+c+(A.length:Int)==a) true::.r 65 [ag d,ag 0,ag 1000000000] [ar t]::l)
theorem Zq(h:af (Lq (aq Tryz.f140 0) a A b c d e q r s t [.b t true,.v (d-(A.length:Int)),.b (e==d-(A.length:Int)) true])):
 ax 140 [.agg (ck a A b c d e)] [ar (decide (e>=0))]:=
 h.of
theorem YC(h:af (Lq (aq Tryz.f140 0) a A b c d e q r s t [.b t true,.v (d-(A.length:Int)),.b (e==d-(A.length:Int)) false])):
 ax 140 [.agg (ck a A b c d e)] [ar false]:=
 h.of
theorem YD(h:af (Lq (aq Tryz.f140 0) a A b c d e q r s t [.b t false])):
 ax 140 [.agg (ck a A b c d e)] [ar false]:=
 h.of
theorem YE(h:af (Uf (aq Tryz.f140 0) a A b c d e q r s [.b (b+c+(A.length:Int)==a) false])):
 ax 140 [.agg (ck a A b c d e)] [ar false]:=
 h.of
theorem YF(h:af (Ue (aq Tryz.f140 0) a A b c d e q r s [.b s false])):
 ax 140 [.agg (ck a A b c d e)] [ar false]:=
 h.of
theorem YG(h:af (Ud (aq Tryz.f140 0) a A b c d e q r [.b r false])):
 ax 140 [.agg (ck a A b c d e)] [ar false]:=
 h.of
theorem YH(h:af (Uc (aq Tryz.f140 0) a A b c d e q [.b q false])):
 ax 140 [.agg (ck a A b c d e)] [ar false]:=
 h.of
def Ug(a:Int)(q:Bool)(l:List O):List O:=.r 64 [ag a,ag 1,ag 4] [ar q]::l
theorem YI(h:af (Ug a q [.n q true])):
 ax 80 [.agg (ck a A b c d e)] [ar false]:=
 h.of
def Uh(a:Int)(q:Bool)(b:Int)(r:Bool)(l:List O):List O:=Ug a q (.n q false::.r 64 [ag b,ag 0,ag a] [ar r]::l)
theorem YJ(h:af (Uh a q b r [.n r true])):
 ax 80 [.agg (ck a A b c d e)] [ar false]:=
 h.of
def Ui(a:Int)(q:Bool)(b:Int)(r:Bool)(c:Int)(s:Bool)(l:List O):List O:=Uh a q b r (.n r false::.r 64 [ag c,ag 0,ag a] [ar s]::l)
theorem YK(h:af (Ui a q b r c s [.n s true])):
 ax 80 [.agg (ck a A b c d e)] [ar false]:=
 h.of
def Uj(a:Int)(q:Bool)(b:Int)(r:Bool)(c:Int)(s:Bool)(A:ae)(l:List O):List O:=Ui a q b r c s (.n s false::.v (b+c)::.v (b+c+(A.length:Int))::l)
theorem YL(h:af (Uj a q b r c s A [.b (b+c+(A.length:Int) != a) true])):
 ax 80 [.agg (ck a A b c d e)] [ar false]:=
 h.of
def DP(a:Int)(q:Bool)(b:Int)(r:Bool)(c:Int)(s:Bool)(A:ae)(d:Int)(t:Bool)(l:List O):List O:=Uj a q b r c s A (.b (b+c+(A.length:Int) != a) false::.r 64 [ag d,ag 0,ag 1000000000] [ar t]::l)
theorem YM(h:af (DP a q b r c s A d t [.n t true])):
 ax 80 [.agg (ck a A b c d e)] [ar false]:=
 h.of
theorem YN(h:af (DP a q b r c s A d t [.n t false,.b (decide (e<0)) true])):
 ax 80 [.agg (ck a A b c d e)] [ar false]:=
 h.of
theorem YO(h:af (DP a q b r c s A d t [.n t false,.b (decide (e<0)) false,.v (d-e),.b (d-e != (A.length:Int)) true])):
 ax 80 [.agg (ck a A b c d e)] [ar false]:=
 h.of
theorem YP(h:af (DP a r b s c t A d u [.n u false,.b (decide (e<0)) false,.v (d-e),.b (d-e != (A.length:Int)) false,.r 130 [aY 5 A] [ar q]])):
 ax 80 [.agg (ck a A b c d e)] [ar q]:=
 h.of
def uj(A:ae)(a:Int):aD:=bd 15 [(5,cQ 5 A),(6,aU (A.length:Int)),(7,aU a)] []
def I0(q:Bool):aD:=bd 15 [(2,.az (.one (.a1 q)))] []
theorem YQ(h:af (z' A a b c d e f q [.n q true])):
 aX (aq Tryz.f130 0) (uj A a) .ret (I0 false):=
 h.aV [2] []
theorem YR(h:af (z' A a b c d e f q [.n q false,.u a])):
 aX (aq Tryz.f130 0) (uj A a) .normal (uj A (a+1)):=
 h.aV [7,6,5] []
def P':aD:=bd 15 [] []
theorem YS(h:af [.f A a false]):
 aX (aq Tryz.f130 0) (uj A a) (.exit 0) P':=
 h.aV [] []
theorem YT(h:af [.l [] [7,6,5] [] (aq Tryz.f130 0) (uj A 0) .ret (I0 q)]):
 ax 130 [aY 5 A] [ar q]:=
 h.of
theorem YU(h:af [.l [] [7,6,5] [] (aq Tryz.f130 0) (uj A 0) (.exit 0) P']):
 ax 130 [aY 5 A] [ar true]:=
 h.of
def Lr(A:ae)(a b:Int)(q:Bool)(l:List O):List O:=.r 138 [.agg (bC A a b)] [ar q]::l
theorem YV(h:af (Lr A a b q [.n q true])):
 ax 84 [.agg (bI A a b C E F G)] [ar false]:=
 h.of
theorem YW(h:af (Lr A a b q [.n q false,.b ((C.length:Int) != a) true])):
 ax 84 [.agg (bI A a b C E F G)] [ar false]:=
 h.of
def Uk(A:ae)(a b:Int)(q:Bool)(C:ae)(l:List O):List O:=Lr A a b q (.n q false::.b ((C.length:Int) != a) false::.v (a*a)::l)
theorem YX(h:af (Uk A a b q C [.b ((E.length:Int) != a*a) true])):
 ax 84 [.agg (bI A a b C E F G)] [ar false]:=
 h.of
def Ul(A:ae)(a b:Int)(q:Bool)(C E:ae)(l:List O):List O:=Uk A a b q C (.b ((E.length:Int) != a*a) false::l)
theorem YY(h:af (Ul A a b q C E [.b ((F.length:Int) != 4) true])):
 ax 84 [.agg (bI A a b C E F G)] [ar false]:=
 h.of
def rb(A:ae)(a b:Int)(C E F G:ae)(c:Int):aD:=bd 170 [(1,aN 1),(3,aU a),(4,aU c)] [(1,[.J .free 4 A,ak a,ak b,.J .free 8 C,.J .free 6 E,.J .free 5 F,.J .free 3 G])]
def BV(q:Bool):aD:=bd 170 [(2,.az (.one (.a1 q)))] []
theorem YZ(h:af [.b (decide (b<a)) true,.x L b (bf M C E F G H ah K),.r 139 [.agg (bC A a c),.agg (bf M C E F G H ah K)] [ar q],.n q true]):
 aX (aq Tryz.f84 0) (rb A a c L N Q R b) .ret (BV false):=
 h.aV [2] []
theorem Y0(h:af [.b (decide (a<b)) true,.x C a (bf R E F G H ah K L),.r 139 [.agg (bC A b c),.agg (bf R E F G H ah K L)] [ar q],.n q false,.u a]):
 aX (aq Tryz.f84 0) (rb A b c C M N Q a) .normal (rb A b c C M N Q (a+1)):=
 h.aV [4,3,1] [1]
def GY(A:ae)(a b:Int)(C E F G:ae):aD:=bd 170 [(1,aN 1),(3,aU a)] [(1,[.J .free 4 A,ak a,ak b,.J .free 8 C,.J .free 6 E,.J .free 5 F,.J .free 3 G])]
theorem Y1(h:af [.b (decide (c<a)) false]):
 aX (aq Tryz.f84 0) (rb A a b C E F G c) (.exit 0) (GY A a b C E F G):=
 h.aV [1,3] [1]
def Um(A:ae)(a b:Int)(q:Bool)(C E F:ae)(l:List O):List O:=Ul A a b q C E (.b ((F.length:Int) != 4) false::l)
theorem Ys(h:af (Um A a b q C E F [.l [] [4,3,1] [1] (aq Tryz.f84 0) (rb A a b C E F G 0) .ret (BV r)])):
 ax 84 [.agg (bI A a b C E F G)] [ar r]:=
 h.of
def kN(a b:Int)(A:ae)(c d:Int)(C E F G:ae):aD:=bd 170 [(1,aN 1),(3,aU a),(5,aU b)] [(1,[.J .free 4 A,ak c,ak d,.J .free 8 C,.J .free 6 E,.J .free 5 F,.J .free 3 G])]
def wM(q:Bool):aD:=bd 170 [(2,.az (.one (.a1 q)))] []
def Aa(A:ae)(a b:Int)(C:ae)(c d e f:Int)(q:Bool)(l:List O):List O:=.i A a (ck b C c d e f)::.r 140 [.agg (ck b C c d e f)] [ar q]::l
theorem Yt(h:af (Aa A f a C b c d e q [.n q true])):
 aX (aq Tryz.f84 1) (kN g f H i j E A F G) .ret (wM false):=
 h.aV [2] []
theorem Yu(h:af (Aa A g a C c d e f q [.n q false,.b (a != b) true])):
 aX (aq Tryz.f84 1) (kN i g H j b E A F G) .ret (wM false):=
 h.aV [2] []
def DX(A:ae)(a b:Int)(C:ae)(c d e f:Int)(q:Bool)(g:Int)(E:ae)(i:Int)(r:Bool)(l:List O):List O:=Aa A a b C c d e f q (.n q false::.b (b != g) false::.r 141 [.agg (bC E i g),aY 5 C] [ar r]::l)
theorem Yv(h:af (DX C i b A d e f g q a E c r [.n r true])):
 aX (aq Tryz.f84 1) (kN j i E c a F C G H) .ret (wM false):=
 h.aV [2] []
theorem Yw(h:af (DX C b d A f g i j q c E e r [.n r false,.p (a≠0),.v (b.tdiv a),.p (a≠0),.b (b.tdiv a==b.tmod a) true,.b (decide ((A.length:Int)>0)) true])):
 aX (aq Tryz.f84 1) (kN a b E e c F C G H) .ret (wM false):=
 h.aV [2] []
theorem Yx(h:af (DX C b e A f g i j q c E d r [.n r false,.p (a≠0),.v (b.tdiv a),.p (a≠0),.b (b.tdiv a==b.tmod a) true,.b (decide ((A.length:Int)>0)) false,.u b])):
 aX (aq Tryz.f84 1) (kN a b E d c F C G H) .normal (kN a (b+1) E d c F C G H):=
 h.aV [5,1,3] [1]
theorem Yy(h:af (DX A b e C f g i j q c E d r [.n r false,.p (a≠0),.v (b.tdiv a),.p (a≠0),.b (b.tdiv a==b.tmod a) false,.u b])):
 aX (aq Tryz.f84 1) (kN a b E d c F A G H) .normal (kN a (b+1) E d c F A G H):=
 h.aV [5,1,3] [1]
def ze(a:Int)(A:ae)(b c:Int)(C E F G:ae):aD:=bd 170 [(1,aN 1),(3,aU a)] [(1,[.J .free 4 A,ak b,ak c,.J .free 8 C,.J .free 6 E,.J .free 5 F,.J .free 3 G])]
theorem Yz(h:af [.f A d false]):
 aX (aq Tryz.f84 1) (kN a d G b c C A E F) (.exit 2) (ze a G b c C A E F):=
 h.aV [1,3] [1]
def DQ(A:ae)(a b:Int)(q:Bool)(C E F:ae)(W:Code)(G:ae)(l:List O):List O:=Um A a b q C E F (.l [] [4,3,1] [1] W (rb A a b C E F G 0) (.exit 0) (GY A a b C E F G)::l)
theorem YA(h:af (DQ A a b q C E F (aq Tryz.f84 0) G [.l [] [5,1,3] [1] (aq Tryz.f84 1) (kN a 0 A a b C E F G) .ret (wM r)])):
 ax 84 [.agg (bI A a b C E F G)] [ar r]:=
 h.of
def lj(a:Int)(A:ae)(b c:Int)(C E F G:ae)(d:Int):aD:=bd 170 [(1,aN 1),(3,aU a),(7,aU d)] [(1,[.J .free 4 A,ak b,ak c,.J .free 8 C,.J .free 6 E,.J .free 5 F,.J .free 3 G])]
def uk(q:Bool):aD:=bd 170 [(2,.az (.one (.a1 q)))] []
def Uz(A:ae)(a:Int)(q:Bool)(b c:Int)(r s:Bool)(d:Int)(l:List O):List O:=.i A a [B q,I b,I c,B r,B s]::.v (d-1)::l
def UA(A:ae)(a:Int)(q:Bool)(b c:Int)(r s:Bool)(d:Int)(t:Bool)(l:List O):List O:=Uz A a q b c r s d (.r 65 [ag b,ag 0,ag (d-1)] [ar t]::l)
theorem YB(h:af (UA A b r c e s t a q [.n q true])):
 aX (aq Tryz.f84 2) (lj a G f d C E A F b) .ret (uk false):=
 h.aV [2] []
def Ab(A:ae)(a:Int)(q:Bool)(b c:Int)(r s:Bool)(d:Int)(t u:Bool)(e f:Int)(v w:Bool)(l:List O):List O:=UA A a q b c r s d t (.n t false::.x A a [B u,I e,I f,B v,B w]::l)
theorem Z1(h:af (Ab A a s c f t u b q r g i v w [.n r true,.x A a [B x,I d,I j,B y,B z],.b (d != 0) true])):
 aX (aq Tryz.f84 2) (lj b G k e C E A F a) .ret (uk false):=
 h.aV [2] []
theorem Z2(h:af (Ab A a t c g u v b q r i j w x [.n r true,.x A a [B y,I d,I k,B z,B gJ],.b (d != 0) false,.x A a [B fS,I l,I e,B t0,B gg],.r 65 [ag e,ag (-1000000),ag 1000000] [ar s],.n s true])):
 aX (aq Tryz.f84 2) (lj b G m f C E A F a) .ret (uk false):=
 h.aV [2] []
theorem Z3(h:af (Ab A a t d i u v b q r j k w x [.n r true,.x A a [B y,I e,I l,B z,B gJ],.b (e != 0) false,.x A a [B fS,I m,I f,B t0,B gg],.r 65 [ag f,ag (-1000000),ag 1000000] [ar s],.n s false,.u a])):
 aX (aq Tryz.f84 2) (lj b G g c C E A F a) .normal (lj b G g c C E A F (a+1)):=
 h.aV [7,1,3] [1]
theorem Z4(h:af (Ab A a t c f u v b q r g i w x [.n r false,.x A a [B y,I j,I d,B z,B gJ],.r 65 [ag d,ag (-1000000),ag 1000000] [ar s],.n s true])):
 aX (aq Tryz.f84 2) (lj b G k e C E A F a) .ret (uk false):=
 h.aV [2] []
theorem Z5(h:af (Ab A a t d g u v b q r i j w x [.n r false,.x A a [B y,I k,I e,B z,B gJ],.r 65 [ag e,ag (-1000000),ag 1000000] [ar s],.n s false,.u a])):
 aX (aq Tryz.f84 2) (lj b G f c C E A F a) .normal (lj b G f c C E A F (a+1)):=
 h.aV [7,1,3] [1]
def BW(a:Int)(A:ae)(b c:Int)(C E F G:ae):aD:=bd 170 [(1,aN 1),(3,aU a)] [(1,[.J .free 4 A,ak b,ak c,.J .free 8 C,.J .free 6 E,.J .free 5 F,.J .free 3 G])]
theorem Z6(h:af [.f A c false]):
 aX (aq Tryz.f84 2) (lj a G d b C E A F c) (.exit 4) (BW a G d b C E A F):=
 h.aV [1,3] [1]
theorem Z7(h:af (DQ A a b r C E F (aq Tryz.f84 0) G [.l [] [5,1,3] [1] (aq Tryz.f84 1) (kN a 0 A a b C E F G) (.exit 2) (ze a M d c H ah K L),.l [] [7,1,3] [1] (aq Tryz.f84 2) (lj a M d c H ah K L 0) .ret (uk q)])):
 ax 84 [.agg (bI A a b C E F G)] [ar q]:=
 h.of
def p2(a:Int)(A:ae)(b c:Int)(C E F G:ae)(d:Int):aD:=bd 170 [(1,aN 1),(3,aU a),(8,aU d)] [(1,[.J .free 4 A,ak b,ak c,.J .free 8 C,.J .free 6 E,.J .free 5 F,.J .free 3 G])]
def zf(q:Bool):aD:=bd 170 [(2,.az (.one (.a1 q)))] []
theorem Z8(h:af [.i A b [I c,I e,B r],.v (a-1),.r 65 [ag c,ag 0,ag (a-1)] [ar q],.n q true]):
 aX (aq Tryz.f84 3) (p2 a G f d C E F A b) .ret (zf false):=
 h.aV [2] []
theorem Z9(h:af [.i A b [I c,I f,B s],.v (a-1),.r 65 [ag c,ag 0,ag (a-1)] [ar q],.n q false,.x A b [I g,I d,B t],.r 65 [ag d,ag 0,ag 3] [ar r],.n r true]):
 aX (aq Tryz.f84 3) (p2 a G i e C E F A b) .ret (zf false):=
 h.aV [2] []
theorem Z'(h:af [.i A a [I d,I g,B s],.v (b-1),.r 65 [ag d,ag 0,ag (b-1)] [ar q],.n q false,.x A a [I i,I e,B t],.r 65 [ag e,ag 0,ag 3] [ar r],.n r false,.u a]):
 aX (aq Tryz.f84 3) (p2 b G f c C E F A a) .normal (p2 b G f c C E F A (a+1)):=
 h.aV [8,1,3] [1]
def I1:aD:=bd 170 [] []
theorem aab(h:af [.f A a false]):
 aX (aq Tryz.f84 3) (p2 b G d c C E F A a) (.exit 6) I1:=
 h.aV [] []
theorem aac(h:af (DQ A a b r C E F (aq Tryz.f84 0) L [.l [] [5,1,3] [1] (aq Tryz.f84 1) (kN a 0 A a b C E F L) (.exit 2) (ze a M d c G H ah K),.l [] [7,1,3] [1] (aq Tryz.f84 2) (lj a M d c G H ah K 0) (.exit 4) (BW a M d c G H ah K),.l [] [8,1,3] [1] (aq Tryz.f84 3) (p2 a M d c G H ah K 0) .ret (zf q)])):
 ax 84 [.agg (bI A a b C E F L)] [ar q]:=
 h.of
theorem aad(h:af (DQ A a b q C E F (aq Tryz.f84 0) L [.l [] [5,1,3] [1] (aq Tryz.f84 1) (kN a 0 A a b C E F L) (.exit 2) (ze a M d c G H ah K),.l [] [7,1,3] [1] (aq Tryz.f84 2) (lj a M d c G H ah K 0) (.exit 4) (BW a M d c G H ah K),.l [] [8,1,3] [1] (aq Tryz.f84 3) (p2 a M d c G H ah K 0) (.exit 6) I1])):
 ax 84 [.agg (bI A a b C E F L)] [ar true]:=
 h.of
def Lx(A:ae)(a b:Int)(q:Bool)(l:List O):List O:=.r 78 [.agg (bC A a b)] [ar q]::l
theorem aae(h:af (Lx A a b q [.n q true])):
 ax 41 [.agg (bI A a b C E F G)] [ar false]:=
 h.of
theorem aaf(h:af (Lx A a b q [.n q false,.b ((C.length:Int) != a) true])):
 ax 41 [.agg (bI A a b C E F G)] [ar false]:=
 h.of
def UB(A:ae)(a b:Int)(q:Bool)(C:ae)(l:List O):List O:=Lx A a b q (.n q false::.b ((C.length:Int) != a) false::.v (a*a)::l)
theorem aag(h:af (UB A a b q C [.b ((E.length:Int) != a*a) true])):
 ax 41 [.agg (bI A a b C E F G)] [ar false]:=
 h.of
def UC(A:ae)(a b:Int)(q:Bool)(C E:ae)(l:List O):List O:=UB A a b q C (.b ((E.length:Int) != a*a) false::l)
theorem aah(h:af (UC A a b q C E [.b ((F.length:Int) != 4) true])):
 ax 41 [.agg (bI A a b C E F G)] [ar false]:=
 h.of
def rc(a:Int)(A:ae)(b:Int)(C:ae)(c d:Int)(E F G H:ae):aD:=bd 147 [(1,aN 1),(3,aU a),(42,cQ 8 A),(43,aU (A.length:Int)),(44,aU b)] [(1,[.J .free 4 C,ak c,ak d,.J .free 8 E,.J .free 6 F,.J .free 5 G,.J .free 3 H])]
def BX(q:Bool):aD:=bd 147 [(2,.az (.one (.a1 q)))] []
theorem aai(h:af [.i L c (bf A C E F G H ah K),.r 79 [.agg (bC M a b),.agg (bf A C E F G H ah K)] [ar q],.n q true]):
 aX (aq Tryz.f41 0) (rc d L c M a b N Q R S) .ret (BX false):=
 h.aV [2] []
theorem aaj(h:af [.i A a (bf ah K L M N Q R S),.r 79 [.agg (bC C b c),.agg (bf ah K L M N Q R S)] [ar q],.n q false,.u a]):
 aX (aq Tryz.f41 0) (rc d A a C b c E F G H) .normal (rc d A (a+1) C b c E F G H):=
 h.aV [44,43,42,1,3] [1]
def GZ(a:Int)(A:ae)(b c:Int)(C E F G:ae):aD:=bd 147 [(1,aN 1),(3,aU a)] [(1,[.J .free 4 A,ak b,ak c,.J .free 8 C,.J .free 6 E,.J .free 5 F,.J .free 3 G])]
theorem aak(h:af [.f G d false]):
 aX (aq Tryz.f41 0) (rc a G d H b c A C E F) (.exit 0) (GZ a H b c A C E F):=
 h.aV [1,3] [1]
def UD(A:ae)(a b:Int)(q:Bool)(C E F:ae)(l:List O):List O:=UC A a b q C E (.b ((F.length:Int) != 4) false::l)
theorem aal(h:af (UD C a b q A E F [.l [] [44,43,42,1,3] [1] (aq Tryz.f41 0) (rc a A 0 C a b A E F G) .ret (BX r)])):
 ax 41 [.agg (bI C a b A E F G)] [ar r]:=
 h.of
def kO(a:Int)(A:ae)(b:Int)(C:ae)(c d:Int)(E F G H:ae):aD:=bd 147 [(1,aN 1),(3,aU a),(55,cQ 6 A),(56,aU (A.length:Int)),(57,aU b)] [(1,[.J .free 4 C,ak c,ak d,.J .free 8 E,.J .free 6 F,.J .free 5 G,.J .free 3 H])]
def wN(q:Bool):aD:=bd 147 [(2,.az (.one (.a1 q)))] []
def Lw(A:ae)(a b:Int)(C:ae)(c d e f:Int)(q:Bool)(l:List O):List O:=.i A a (ck b C c d e f)::.r 80 [.agg (ck b C c d e f)] [ar q]::l
theorem aam(h:af (Lw A a b C c d e f q [.n q true])):
 aX (aq Tryz.f41 1) (kO g A a E i j F G H ah) .ret (wN false):=
 h.aV [2] []
theorem aan(h:af (Lw A b a C d e f g q [.n q false,.b (a != c) true])):
 aX (aq Tryz.f41 1) (kO i A b E j c F G H ah) .ret (wN false):=
 h.aV [2] []
def DY(A:ae)(a b:Int)(C:ae)(c d e f:Int)(q:Bool)(g:Int)(E:ae)(i:Int)(r:Bool)(l:List O):List O:=Lw A a b C c d e f q (.n q false::.b (b != g) false::.r 81 [.agg (bC E i g),aY 5 C] [ar r]::l)
theorem aao(h:af (DY C c b A e f g i q a E d r [.n r true])):
 aX (aq Tryz.f41 1) (kO j C c E d a F G H ah) .ret (wN false):=
 h.aV [2] []
theorem aap(h:af (DY C b d A f g i j q c E e r [.n r false,.p (a≠0),.v (b.tdiv a),.p (a≠0),.b (b.tdiv a==b.tmod a) true,.b (decide ((A.length:Int)>0)) true])):
 aX (aq Tryz.f41 1) (kO a C b E e c F G H ah) .ret (wN false):=
 h.aV [2] []
theorem aaq(h:af (DY C b e A f g i j q c E d r [.n r false,.p (a≠0),.v (b.tdiv a),.p (a≠0),.b (b.tdiv a==b.tmod a) true,.b (decide ((A.length:Int)>0)) false,.u b])):
 aX (aq Tryz.f41 1) (kO a C b E d c F G H ah) .normal (kO a C (b+1) E d c F G H ah):=
 h.aV [57,56,55,1,3] [1]
theorem ZB(h:af (DY A b e E f g i j q c C d r [.n r false,.p (a≠0),.v (b.tdiv a),.p (a≠0),.b (b.tdiv a==b.tmod a) false,.u b])):
 aX (aq Tryz.f41 1) (kO a A b C d c F G H ah) .normal (kO a A (b+1) C d c F G H ah):=
 h.aV [57,56,55,1,3] [1]
def zg(a:Int)(A:ae)(b c:Int)(C E F G:ae):aD:=bd 147 [(1,aN 1),(3,aU a)] [(1,[.J .free 4 A,ak b,ak c,.J .free 8 C,.J .free 6 E,.J .free 5 F,.J .free 3 G])]
theorem ZC(h:af [.f A b false]):
 aX (aq Tryz.f41 1) (kO a A b C c d E F G H) (.exit 2) (zg a C c d E F G H):=
 h.aV [1,3] [1]
def DZ(A:ae)(a b:Int)(q:Bool)(C E F:ae)(W:Code)(G H:ae)(c d:Int)(ah K L M:ae)(l:List O):List O:=UD A a b q C E F (.l [] [44,43,42,1,3] [1] W (rc a C 0 A a b C E F G) (.exit 0) (GZ a H c d ah K L M)::l)
theorem ZD(h:af (DZ C a b r A F G (aq Tryz.f41 0) L M d c H E ah K [.l [] [57,56,55,1,3] [1] (aq Tryz.f41 1) (kO a E 0 M d c H E ah K) .ret (wN q)])):
 ax 41 [.agg (bI C a b A F G L)] [ar q]:=
 h.of
def lk(a:Int)(A:ae)(b:Int)(C:ae)(c d:Int)(E F G H:ae):aD:=bd 147 [(1,aN 1),(3,aU a),(98,cQ 5 A),(99,aU (A.length:Int)),(100,aU b)] [(1,[.J .free 4 C,ak c,ak d,.J .free 8 E,.J .free 6 F,.J .free 5 G,.J .free 3 H])]
def um(q:Bool):aD:=bd 147 [(2,.az (.one (.a1 q)))] []
def w7(A:ae)(a:Int)(q:Bool)(b c:Int)(r s:Bool)(d:Int)(t:Bool)(l:List O):List O:=Uz A a q b c r s d (.r 64 [ag b,ag 0,ag (d-1)] [ar t]::l)
theorem ZE(h:af (w7 A b r c f s t a q [.n q true])):
 aX (aq Tryz.f41 2) (lk a A b C d e E F G H) .ret (um false):=
 h.aV [2] []
theorem ZF(h:af (w7 A c q b f s t a r [.n r false,.n q true,.b (b != 0) true])):
 aX (aq Tryz.f41 2) (lk a A c C d e E F G H) .ret (um false):=
 h.aV [2] []
theorem ZG(h:af (w7 A c q b d t u a r [.n r false,.n q true,.b (b != 0) false,.r 64 [ag d,ag (-1000000),ag 1000000] [ar s],.n s true])):
 aX (aq Tryz.f41 2) (lk a A c C e f E F G H) .ret (um false):=
 h.aV [2] []
theorem ZH(h:af (w7 A b q c f t u a r [.n r false,.n q true,.b (c != 0) false,.r 64 [ag f,ag (-1000000),ag 1000000] [ar s],.n s false,.u b])):
 aX (aq Tryz.f41 2) (lk a A b C d e E F G H) .normal (lk a A (b+1) C d e E F G H):=
 h.aV [100,99,98,3,1] [1]
theorem ZI(h:af (w7 A b q c d t u a r [.n r false,.n q false,.r 64 [ag d,ag (-1000000),ag 1000000] [ar s],.n s true])):
 aX (aq Tryz.f41 2) (lk a A b C e f E F G H) .ret (um false):=
 h.aV [2] []
theorem ZJ(h:af (w7 A b q e f t u a r [.n r false,.n q false,.r 64 [ag f,ag (-1000000),ag 1000000] [ar s],.n s false,.u b])):
 aX (aq Tryz.f41 2) (lk a A b C c d E F G H) .normal (lk a A (b+1) C c d E F G H):=
 h.aV [100,99,98,3,1] [1]
def BY(a:Int)(A:ae)(b c:Int)(C E F G:ae):aD:=bd 147 [(1,aN 1),(3,aU a)] [(1,[.J .free 4 A,ak b,ak c,.J .free 8 C,.J .free 6 E,.J .free 5 F,.J .free 3 G])]
theorem ZK(h:af [.f A b false]):
 aX (aq Tryz.f41 2) (lk a A b C c d E F G H) (.exit 4) (BY a C c d E F G H):=
 h.aV [1,3] [1]
theorem ZL(h:af (DZ C a b r A G H (aq Tryz.f41 0) S bu f c ah E K L [.l [] [57,56,55,1,3] [1] (aq Tryz.f41 1) (kO a E 0 bu f c ah E K L) (.exit 2) (zg a M d e N Q F R),.l [] [100,99,98,3,1] [1] (aq Tryz.f41 2) (lk a F 0 M d e N Q F R) .ret (um q)])):
 ax 41 [.agg (bI C a b A G H S)] [ar q]:=
 h.of
def p3(a:Int)(A:ae)(b:Int):aD:=bd 147 [(3,aU a),(128,cQ 3 A),(129,aU (A.length:Int)),(130,aU b)] []
def zh(q:Bool):aD:=bd 147 [(2,.az (.one (.a1 q)))] []
theorem ZM(h:af [.i A b [I c,I d,B r],.v (a-1),.r 64 [ag c,ag 0,ag (a-1)] [ar q],.n q true]):
 aX (aq Tryz.f41 3) (p3 a A b) .ret (zh false):=
 h.aV [2] []
theorem ZN(h:af [.i A b [I c,I d,B s],.v (a-1),.r 64 [ag c,ag 0,ag (a-1)] [ar q],.n q false,.r 64 [ag d,ag 0,ag 3] [ar r],.n r true]):
 aX (aq Tryz.f41 3) (p3 a A b) .ret (zh false):=
 h.aV [2] []
theorem ZO(h:af [.i A b [I c,I d,B s],.v (a-1),.r 64 [ag c,ag 0,ag (a-1)] [ar q],.n q false,.r 64 [ag d,ag 0,ag 3] [ar r],.n r false,.u b]):
 aX (aq Tryz.f41 3) (p3 a A b) .normal (p3 a A (b+1)):=
 h.aV [130,129,128,3] []
def I2:aD:=bd 147 [] []
theorem ZP(h:af [.f A a false]):
 aX (aq Tryz.f41 3) (p3 b A a) (.exit 6) I2:=
 h.aV [] []
theorem ZQ(h:af (DZ C a b r A G H (aq Tryz.f41 0) bu V f c ah E K L [.l [] [57,56,55,1,3] [1] (aq Tryz.f41 1) (kO a E 0 V f c ah E K L) (.exit 2) (zg a M d e N Q F R),.l [] [100,99,98,3,1] [1] (aq Tryz.f41 2) (lk a F 0 M d e N Q F R) (.exit 4) (BY a X g i Y Z ew S),.l [] [130,129,128,3] [] (aq Tryz.f41 3) (p3 a S 0) .ret (zh q)])):
 ax 41 [.agg (bI C a b A G H bu)] [ar q]:=
 h.of
theorem ZR(h:af (DZ C a b q A G H (aq Tryz.f41 0) bu V f c ah E K L [.l [] [57,56,55,1,3] [1] (aq Tryz.f41 1) (kO a E 0 V f c ah E K L) (.exit 2) (zg a M d e N Q F R),.l [] [100,99,98,3,1] [1] (aq Tryz.f41 2) (lk a F 0 M d e N Q F R) (.exit 4) (BY a X g i Y Z ew S),.l [] [130,129,128,3] [] (aq Tryz.f41 3) (p3 a S 0) (.exit 6) I2])):
 ax 41 [.agg (bI C a b A G H bu)] [ar true]:=
 h.of
