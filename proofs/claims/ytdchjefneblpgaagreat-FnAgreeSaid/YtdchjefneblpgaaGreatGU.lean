import Derived.Test.YtdchjefneblpgaaGreatGE
set_option linter.unusedVariables false
set_option linter.unusedSimpArgs false
namespace Go.Proofs.YtdchjefneblpgaaGreat
open Go.Sx Go.RowKit
variable {a b c d e f g i j k l m n o p a0 ck dT d0 cc f0 : Int} {A C E F G H au K L M N Q R S bi V X Y Z dz ft : ak} {q r s t u v w x y z gH il hf t0 : Bool}
def tX(a:Int)(A:ak)(b c:Int)(C E F G:ak):aG:=bp 45 [(1,bE 1),(3,bf a)] [(1,[.J .free 4 A,aM b,aM c,.J .free 8 C,.J .free 6 E,.J .free 5 F,.J .free 3 G])]
def Bx(q:Bool):aG:=bp 45 [(2,.bd (.one (.cg q)))] []
theorem acG(h:ah [.i A c (b7 a G b e f g),.r 168 [ag b,ag 0,ag a] [al q],.n q true]):
 aY (av Tryz.f42 0) (tX c H i d C A E F) .ret (Bx false):=
 h.aR [2] []
def N'(A:ak)(a b:Int)(C:ak)(c d e f:Int)(q r:Bool)(l:List O):List O:=.i A a (b7 b C c d e f)::.r 168 [ag c,ag 0,ag b] [al q]::.n q false::.r 168 [ag d,ag 0,ag b] [al r]::l
theorem acH(h:ah (N' A d a G b c f g q r [.n r true])):
 aY (av Tryz.f42 0) (tX d H i e C A E F) .ret (Bx false):=
 h.aR [2] []
theorem acI(h:ah (N' A d a C b c f g q r [.n r false,.a .wr,.a .wr,.b (IntKind.i64.wrap (IntKind.i64.wrap (b+c)+(C.length:Int)) != a) true])):
 aY (av Tryz.f42 0) (tX d H i e E A F G) .ret (Bx false):=
 h.aR [2] []
theorem acJ(h:ah (N' A b a G c d g i q r [.n r false,.a .wr,.a .wr,.b (IntKind.i64.wrap (IntKind.i64.wrap (c+d)+(G.length:Int)) != a) false,.u b])):
 aY (av Tryz.f42 0) (tX b H f e C A E F) .normal (tX (b+1) H f e C A E F):=
 h.aR [3,1] [1]
def Th:aG:=bp 45 [] []
theorem acK(h:ah [.f A a false]):
 aY (av Tryz.f42 0) (tX a G c b C A E F) (.exit 0) Th:=
 h.aR [] []
theorem acL(h:ah [.l [] [3,1] [1] (av Tryz.f42 0) (tX 0 A a b C E F G) .ret (Bx q)]):
 aw 42 [.agg (cl A a b C E F G)] [al q]:=
 h.of
theorem acM(h:ah [.l [] [3,1] [1] (av Tryz.f42 0) (tX 0 A a b C E F G) (.exit 0) Th]):
 aw 42 [.agg (cl A a b C E F G)] [al true]:=
 h.of
def xy(A:ak)(a b:Int)(C E F G:ak)(c d e:Int):aG:=bp 36 [(1,bf c),(2,bE 2),(5,bf e),(6,bf d)] [(2,[.J .free 4 A,aM a,aM b,.J .free 8 C,.J .free 6 E,.J .free 5 F,.J .free 3 G])]
theorem acN(h:ah [.i A a (a' K L M N E Q R S),.a .wr,.r 168 [ag b,ag 0,ag (IntKind.i64.wrap ((E.length:Int)-1))] [al q],.b q true,.x A a (a' bi V X Y F Z dz ft),.x F b [I e],.a .wr,.u a]):
 aY (av Tryz.f41 0) (xy C c d A G H au b a f) .normal (xy C c d A G H au b (a+1) (IntKind.i64.wrap (f+e))):=
 h.aR [6,2,1,5] [2]
theorem acO(h:ah [.i A a (a' au K L M E N Q R),.a .wr,.r 168 [ag b,ag 0,ag (IntKind.i64.wrap ((E.length:Int)-1))] [al q],.b q false,.u a]):
 aY (av Tryz.f41 0) (xy C c d A F G H b a e) .normal (xy C c d A F G H b (a+1) e):=
 h.aR [6,2,1,5] [2]
def Ti(a:Int):aG:=bp 36 [(5,bf a)] []
theorem acP(h:ah [.f A a false]):
 aY (av Tryz.f41 0) (xy C c d A E F G e a b) (.exit 0) (Ti b):=
 h.aR [5] []
theorem ace(h:ah [.l [] [6,2,1,5] [2] (av Tryz.f41 0) (xy A a b C E F G c 0 0) (.exit 0) (Ti d)]):
 aw 41 [.agg (cl A a b C E F G),ag c] [ag d]:=
 h.of
theorem acf(h:ah [.b (decide (a<1)) true]):
 aw 245 [ag b,ag a] [ag 0]:=
 h.of
def Hm(a:Int)(l:List O):List O:=.b (decide (a<1)) false::.p (a≠0)::l
theorem acg(h:ah (Hm a [.b (decide (b.tmod a<0)) true,.v (b.tmod a+a)])):
 aw 245 [ag b,ag a] [ag (b.tmod a+a)]:=
 h.of
theorem ach(h:ah (Hm a [.b (decide (b.tmod a<0)) false])):
 aw 245 [ag b,ag a] [ag (b.tmod a)]:=
 h.of
theorem aci(h:ah [.b (decide (a<1)) true]):
 aw 147 [ag b,ag a] [ag 0]:=
 h.of
theorem acj(h:ah (Hm a [.b (decide (b.tmod a<0)) true,.v (b.tmod a+a)])):
 aw 147 [ag b,ag a] [ag (b.tmod a+a)]:=
 h.of
theorem ack(h:ah (Hm a [.b (decide (b.tmod a<0)) false])):
 aw 147 [ag b,ag a] [ag (b.tmod a)]:=
 h.of
def vv(A:ak)(a:Int):aG:=bp 21 [(0,eP 4 A),(3,bf a)] []
def ME(q:Bool):aG:=bp 21 [(2,.bd (.one (.cg q)))] []
def Hn(A:ak)(a b c d e f g i j:Int)(l:List O):List O:=.f A a true::.v (a-1)::.p (0<=a-1)::.p (a-1<(A.length:Int))::.e A ((a-1).toNat) [I b,I c,I d,I e]::.x A a [I f,I g,I i,I j]::l
theorem acm(h:ah (Hn A a c d e f g i j k [.r 307 [.agg [I c,I d,I e,I f],.agg [I g,I i,I j,I k]] [ag b],.b (decide (b>=0)) true])):
 aY (av Tryz.f266 0) (vv A a) .ret (ME false):=
 h.aR [2] []
theorem acn(h:ah (Hn A a c d e f g i j k [.r 307 [.agg [I c,I d,I e,I f],.agg [I g,I i,I j,I k]] [ag b],.b (decide (b>=0)) false,.u a])):
 aY (av Tryz.f266 0) (vv A a) .normal (vv A (a+1)):=
 h.aR [3,0] []
def Tj:aG:=bp 21 [] []
theorem aco(h:ah [.f A a false]):
 aY (av Tryz.f266 0) (vv A a) (.exit 0) Tj:=
 h.aR [] []
theorem adS(h:ah [.l [] [3,0] [] (av Tryz.f266 0) (vv A 1) .ret (ME q)]):
 aw 266 [aS 4 A] [al q]:=
 h.of
theorem adT(h:ah [.l [] [3,0] [] (av Tryz.f266 0) (vv A 1) (.exit 0) Tj]):
 aw 266 [aS 4 A] [al true]:=
 h.of
def vw(A:ak)(a:Int):aG:=bp 21 [(0,eP 4 A),(3,bf a)] []
def LO(q:Bool):aG:=bp 21 [(2,.bd (.one (.cg q)))] []
theorem adU(h:ah (Hn A a c d e f g i j k [.r 304 [.agg [I c,I d,I e,I f],.agg [I g,I i,I j,I k]] [ag b],.b (decide (b>=0)) true])):
 aY (av Tryz.f280 0) (vw A a) .ret (LO false):=
 h.aR [2] []
theorem adV(h:ah (Hn A a c d e f g i j k [.r 304 [.agg [I c,I d,I e,I f],.agg [I g,I i,I j,I k]] [ag b],.b (decide (b>=0)) false,.u a])):
 aY (av Tryz.f280 0) (vw A a) .normal (vw A (a+1)):=
 h.aR [3,0] []
def Tk:aG:=bp 21 [] []
theorem adW(h:ah [.f A a false]):
 aY (av Tryz.f280 0) (vw A a) (.exit 0) Tk:=
 h.aR [] []
theorem adX(h:ah [.l [] [3,0] [] (av Tryz.f280 0) (vw A 1) .ret (LO q)]):
 aw 280 [aS 4 A] [al q]:=
 h.of
theorem adY(h:ah [.l [] [3,0] [] (av Tryz.f280 0) (vw A 1) (.exit 0) Tk]):
 aw 280 [aS 4 A] [al true]:=
 h.of
def vx(A:ak)(a b:Int)(C:ak)(c:Int):aG:=bp 29 [(1,eP 5 C),(2,bE 2),(5,bf c)] [(2,[.J .free 4 A,aM a,aM b])]
def Fx(q:Bool):aG:=bp 29 [(4,.bd (.one (.cg q)))] []
def Dd(A:ak)(a b c d e f:Int)(q:Bool)(l:List O):List O:=.i A a (bA b c d e f)::.r 122 [.agg (bA b c d e f)] [al q]::l
theorem adZ(h:ah (Dd A a b c d e f q [.n q true])):
 aY (av Tryz.f192 0) (vx C g i A a) .ret (Fx false):=
 h.aR [4] []
theorem ad0(h:ah (Dd A a c d e f g q [.n q false,.x A a (bA b j k l m),.b (decide (b>=(C.length:Int))) true])):
 aY (av Tryz.f192 0) (vx C i n A a) .ret (Fx false):=
 h.aR [4] []
theorem ad1(h:ah (Dd A a e f g i j q [.n q false,.x A a (bA c k l m n),.b (decide (c>=(C.length:Int))) false,.u a])):
 aY (av Tryz.f192 0) (vx C b d A a) .normal (vx C b d A (a+1)):=
 h.aR [5,1,2] [2]
def Tl:aG:=bp 29 [] []
theorem ad2(h:ah [.f A a false]):
 aY (av Tryz.f192 0) (vx C b c A a) (.exit 0) Tl:=
 h.aR [] []
theorem ad3(h:ah [.l [] [5,1,2] [2] (av Tryz.f192 0) (vx A a b C 0) .ret (Fx q)]):
 aw 192 [.agg (bP A a b),aS 5 C] [al q]:=
 h.of
theorem ad4(h:ah [.l [] [5,1,2] [2] (av Tryz.f192 0) (vx A a b C 0) (.exit 0) Tl]):
 aw 192 [.agg (bP A a b),aS 5 C] [al true]:=
 h.of
def vy(A:ak)(a:Int)(C:ak)(b c:Int):aG:=bp 24 [(2,bE 2),(7,eP 5 A),(8,bf (A.length:Int)),(9,bf a)] [(2,[.J .free 4 C,aM b,aM c])]
def Fy(q:Bool):aG:=bp 24 [(4,.bd (.one (.cg q)))] []
def De(A:ak)(a b c d e f:Int)(q:Bool)(l:List O):List O:=.i A a (bA b c d e f)::.r 180 [.agg (bA b c d e f)] [al q]::l
theorem ad5(h:ah (De A d e f a b c q [.n q true])):
 aY (av Tryz.f189 0) (vy A d C g i) .ret (Fy false):=
 h.aR [4] []
theorem ad6(h:ah (De A e a i b c d q [.n q false,.r 250 [.agg (bP C f g),ag a] [al r],.n r true])):
 aY (av Tryz.f189 0) (vy A e C f g) .ret (Fy false):=
 h.aR [4] []
theorem ad7(h:ah (De A a d i e f g q [.n q false,.r 250 [.agg (bP C b c),ag d] [al r],.n r false,.u a])):
 aY (av Tryz.f189 0) (vy A a C b c) .normal (vy A (a+1) C b c):=
 h.aR [9,8,7,2] [2]
def Tm:aG:=bp 24 [] []
theorem ad8(h:ah [.f A a false]):
 aY (av Tryz.f189 0) (vy A a C b c) (.exit 0) Tm:=
 h.aR [] []
theorem ad9(h:ah [.l [] [9,8,7,2] [2] (av Tryz.f189 0) (vy C 0 A a b) .ret (Fy q)]):
 aw 189 [.agg (bP A a b),aS 5 C] [al q]:=
 h.of
theorem aea(h:ah [.l [] [9,8,7,2] [2] (av Tryz.f189 0) (vy C 0 A a b) (.exit 0) Tm]):
 aw 189 [.agg (bP A a b),aS 5 C] [al true]:=
 h.of
def Xy(A:ak)(a b:Int)(C:ak)(q:Bool)(l:List O):List O:=.r 192 [.agg (bP A a b),aS 5 C] [al q]::l
theorem aeb(h:ah (Xy A a b C q [.n q true])):
 aw 175 [.agg (bP A a b),.agg (a' C F G H au K L E)] [al false]:=
 h.of
def Xz(A:ak)(a b:Int)(C:ak)(q:Bool)(E:ak)(r:Bool)(l:List O):List O:=Xy A a b C q (.n q false::.r 192 [.agg (bP A a b),aS 5 E] [al r]::l)
theorem aec(h:ah (Xz A a b C q E r [.n r true])):
 aw 175 [.agg (bP A a b),.agg (a' C E G H au K L F)] [al false]:=
 h.of
def XA(A:ak)(a b:Int)(C:ak)(q:Bool)(E:ak)(r:Bool)(F:ak)(s:Bool)(l:List O):List O:=Xz A a b C q E r (.n r false::.r 192 [.agg (bP A a b),aS 5 F] [al s]::l)
theorem aed(h:ah (XA A a b C q E r F s [.n s true])):
 aw 175 [.agg (bP A a b),.agg (a' C E F H au K L G)] [al false]:=
 h.of
def Oc(A:ak)(a b:Int)(C:ak)(q:Bool)(E:ak)(r:Bool)(F:ak)(s:Bool)(G:ak)(t:Bool)(l:List O):List O:=XA A a b C q E r F s (.n s false::.r 266 [aS 4 G] [al t]::l)
theorem aee(h:ah (Oc A a b C q E r F s G t [.n t true])):
 aw 175 [.agg (bP A a b),.agg (a' C E F G au K L H)] [al false]:=
 h.of
theorem aef(h:ah (Oc A a b C q E r F s G t [.n t false,.b ((H.length:Int) != 4) true])):
 aw 175 [.agg (bP A a b),.agg (a' C E F G H K L au)] [al false]:=
 h.of
def XB(A:ak)(a b:Int)(C:ak)(q:Bool)(E:ak)(r:Bool)(F:ak)(s:Bool)(G:ak)(t:Bool)(H:ak)(l:List O):List O:=Oc A a b C q E r F s G t (.n t false::.b ((H.length:Int) != 4) false::l)
theorem aeg(h:ah (XB A a b C q E r F s G t H [.b ((au.length:Int) != 4) true])):
 aw 175 [.agg (bP A a b),.agg (a' C E F G H au L K)] [al false]:=
 h.of
def Od(A:ak)(a b:Int)(C:ak)(q:Bool)(E:ak)(r:Bool)(F:ak)(s:Bool)(G:ak)(t:Bool)(H au:ak)(l:List O):List O:=XB A a b C q E r F s G t H (.b ((au.length:Int) != 4) false::l)
theorem aeh(h:ah (Od A a b C q E r F s G t H au [.b ((K.length:Int) != 4) true])):
 aw 175 [.agg (bP A a b),.agg (a' C E F G H au K L)] [al false]:=
 h.of
def pC(A C E F G H au K:ak)(a:Int):aG:=bp 147 [(3,bE 3),(5,bf 4),(6,bf a)] [(3,[.J .free 5 A,.J .free 5 C,.J .free 5 E,.J .free 4 F,.J .free 1 G,.J .free 1 H,.J .free 1 au,.J .free 2 K])]
def By(q:Bool):aG:=bp 147 [(4,.bd (.one (.cg q)))] []
theorem ads(h:ah [.i A a (bA b c d e f),.b (b != 0) true]):
 aY (av Tryz.f175 0) (pC E F A G H au K C a) .ret (By false):=
 h.aR [4] []
def vS(A:ak)(a b c d e f:Int)(l:List O):List O:=.i A a (bA b c d e f)::.b (b != 0) false::l
theorem adt(h:ah (vS A a b d e f g [.x A a (bA i j c k l),.b (c != 0) true])):
 aY (av Tryz.f175 0) (pC E F A G H au K C a) .ret (By false):=
 h.aR [4] []
theorem adu(h:ah (vS A a b f g i j [.x A a (bA k l c m n),.b (c != 0) false,.b (decide (a>0)) true,.v (a-1),.p (0<=a-1),.p (a-1<(A.length:Int)),.e A ((a-1).toNat) (bA o d p a0 ck),.x A a (bA dT e d0 cc f0),.b (decide (d>e)) true])):
 aY (av Tryz.f175 0) (pC E F A G H au K C a) .ret (By false):=
 h.aR [4] []
theorem adv(h:ah (vS A a b f g i j [.x A a (bA k l c m n),.b (c != 0) false,.b (decide (a>0)) true,.v (a-1),.p (0<=a-1),.p (a-1<(A.length:Int)),.e A ((a-1).toNat) (bA o d p a0 ck),.x A a (bA dT e d0 cc f0),.b (decide (d>e)) false,.u a])):
 aY (av Tryz.f175 0) (pC E F A G H au K C a) .normal (pC E F A G H au K C (a+1)):=
 h.aR [6,3,5] [3]
theorem adw(h:ah (vS A a b d e f g [.x A a (bA i j c k l),.b (c != 0) false,.b (decide (a>0)) false,.u a])):
 aY (av Tryz.f175 0) (pC E F A G H au K C a) .normal (pC E F A G H au K C (a+1)):=
 h.aR [6,3,5] [3]
def J7(A C E F G H au K:ak):aG:=bp 147 [(3,bE 3),(5,bf 4)] [(3,[.J .free 5 A,.J .free 5 C,.J .free 5 E,.J .free 4 F,.J .free 1 G,.J .free 1 H,.J .free 1 au,.J .free 2 K])]
theorem adx(h:ah [.f A a false]):
 aY (av Tryz.f175 0) (pC E F A G H au K C a) (.exit 0) (J7 E F A G H au K C):=
 h.aR [5,3] [3]
theorem ady(h:ah (Od A a b C q E r F s G t H au [.b ((K.length:Int) != 4) false,.l [] [6,3,5] [3] (av Tryz.f175 0) (pC C E F G H au K L 0) .ret (By u)])):
 aw 175 [.agg (bP A a b),.agg (a' C E F G H au K L)] [al u]:=
 h.of
def vz(A C E F G H au K:ak)(a:Int):aG:=bp 147 [(3,bE 3),(5,bf 4),(7,bf a)] [(3,[.J .free 5 A,.J .free 5 C,.J .free 5 E,.J .free 4 F,.J .free 1 G,.J .free 1 H,.J .free 1 au,.J .free 2 K])]
def LP(q:Bool):aG:=bp 147 [(4,.bd (.one (.cg q)))] []
theorem adz(h:ah [.b (decide (a<4)) true,.x A a [I b],.r 168 [ag b,ag (-1000000),ag 1000000] [al q],.n q true]):
 aY (av Tryz.f175 1) (vz E F G H A au K C a) .ret (LP false):=
 h.aR [4] []
theorem adA(h:ah [.b (decide (a<4)) true,.x A a [I b],.r 168 [ag b,ag (-1000000),ag 1000000] [al q],.n q false,.u a]):
 aY (av Tryz.f175 1) (vz E F G H A au K C a) .normal (vz E F G H A au K C (a+1)):=
 h.aR [7,5,3] [3]
def LQ(A C E F G H au K:ak):aG:=bp 147 [(3,bE 3)] [(3,[.J .free 5 A,.J .free 5 C,.J .free 5 E,.J .free 4 F,.J .free 1 G,.J .free 1 H,.J .free 1 au,.J .free 2 K])]
theorem adB(h:ah [.b (decide (a<4)) false]):
 aY (av Tryz.f175 1) (vz C E F G H au K A a) (.exit 2) (LQ C E F G H au K A):=
 h.aR [3] [3]
def Oe(A:ak)(a b:Int)(C:ak)(q:Bool)(E:ak)(r:Bool)(F:ak)(s:Bool)(G:ak)(t:Bool)(H au K:ak)(W:Code)(L:ak)(l:List O):List O:=Od A a b C q E r F s G t H au (.b ((K.length:Int) != 4) false::.l [] [6,3,5] [3] W (pC C E F G H au K L 0) (.exit 0) (J7 C E F G H au K L)::l)
theorem adC(h:ah (Oe K a b A q C r E s F t G H au (av Tryz.f175 0) L [.l [] [7,5,3] [3] (av Tryz.f175 1) (vz A C E F G H au L 0) .ret (LP u)])):
 aw 175 [.agg (bP K a b),.agg (a' A C E F G H au L)] [al u]:=
 h.of
def sy(A C E F G H au K:ak)(a:Int):aG:=bp 147 [(3,bE 3),(8,bf a)] [(3,[.J .free 5 A,.J .free 5 C,.J .free 5 E,.J .free 4 F,.J .free 1 G,.J .free 1 H,.J .free 1 au,.J .free 2 K])]
def Fz(q:Bool):aG:=bp 147 [(4,.bd (.one (.cg q)))] []
theorem adD(h:ah [.i A a [I b,B r],.r 168 [ag b,ag 0,ag 3] [al q],.n q true]):
 aY (av Tryz.f175 2) (sy C E F G H au K A a) .ret (Fz false):=
 h.aR [4] []
def tY(A C E F G H au K:ak)(a b:Int):aG:=bp 147 [(3,bE 3),(8,bf a),(9,bf b)] [(3,[.J .free 5 A,.J .free 5 C,.J .free 5 E,.J .free 4 F,.J .free 1 G,.J .free 1 H,.J .free 1 au,.J .free 2 K])]
def FA(q:Bool):aG:=bp 147 [(4,.bd (.one (.cg q)))] []
theorem adE(h:ah [.b (decide (b<a)) true,.x A b [I c,B q],.x A a [I d,B r],.b (c==d) true]):
 aY (av Tryz.f175 3) (tY C E F G H au K A a b) .ret (FA false):=
 h.aR [4] []
theorem adF(h:ah [.b (decide (a<b)) true,.x A a [I c,B q],.x A b [I d,B r],.b (c==d) false,.u a]):
 aY (av Tryz.f175 3) (tY C E F G H au K A b a) .normal (tY C E F G H au K A b (a+1)):=
 h.aR [9,8,3] [3]
def LR(A C E F G H au K:ak)(a:Int):aG:=bp 147 [(3,bE 3),(8,bf a)] [(3,[.J .free 5 A,.J .free 5 C,.J .free 5 E,.J .free 4 F,.J .free 1 G,.J .free 1 H,.J .free 1 au,.J .free 2 K])]
theorem adG(h:ah [.b (decide (b<a)) false]):
 aY (av Tryz.f175 3) (tY C E F G H au K A a b) (.exit 6) (LR C E F G H au K A a):=
 h.aR [8,3] [3]
theorem adH(h:ah [.i A a [I b,B s],.r 168 [ag b,ag 0,ag 3] [al q],.n q false,.l [] [9,8,3] [3] (av Tryz.f175 3) (tY C E F G H au K A a 0) .ret (FA r)]):
 aY (av Tryz.f175 2) (sy C E F G H au K A a) .ret (Fz r):=
 h.aR [4] []
theorem adI(h:ah [.i A a [I b,B r],.r 168 [ag b,ag 0,ag 3] [al q],.n q false,.l [] [9,8,3] [3] (av Tryz.f175 3) (tY C E F G H au K A a 0) (.exit 6) (LR C E F G H au K A a),.u a]):
 aY (av Tryz.f175 2) (sy C E F G H au K A a) .normal (sy C E F G H au K A (a+1)):=
 h.aR [8,3] [3]
def LS:aG:=bp 147 [] []
theorem adJ(h:ah [.f A a false]):
 aY (av Tryz.f175 2) (sy C E F G H au K A a) (.exit 4) LS:=
 h.aR [] []
theorem adK(h:ah (Oe L a b A q C r E s F t G H au (av Tryz.f175 0) K [.l [] [7,5,3] [3] (av Tryz.f175 1) (vz A C E F G H au K 0) (.exit 2) (LQ A C E F G H au K),.l [] [8,3] [3] (av Tryz.f175 2) (sy A C E F G H au K 0) .ret (Fz u)])):
 aw 175 [.agg (bP L a b),.agg (a' A C E F G H au K)] [al u]:=
 h.of
theorem adL(h:ah (Oe L a b A q C r E s F t G H au (av Tryz.f175 0) K [.l [] [7,5,3] [3] (av Tryz.f175 1) (vz A C E F G H au K 0) (.exit 2) (LQ A C E F G H au K),.l [] [8,3] [3] (av Tryz.f175 2) (sy A C E F G H au K 0) (.exit 4) LS])):
 aw 175 [.agg (bP L a b),.agg (a' A C E F G H au K)] [al true]:=
 h.of
def XD(A:ak)(a b:Int)(C:ak)(q:Bool)(l:List O):List O:=.r 189 [.agg (bP A a b),aS 5 C] [al q]::l
theorem adM(h:ah (XD A a b C q [.n q true])):
 aw 187 [.agg (bP A a b),.agg (a' C F G H au K L E)] [al false]:=
 h.of
def XE(A:ak)(a b:Int)(C:ak)(q:Bool)(E:ak)(r:Bool)(l:List O):List O:=XD A a b C q (.n q false::.r 189 [.agg (bP A a b),aS 5 E] [al r]::l)
theorem adN(h:ah (XE A a b C q E r [.n r true])):
 aw 187 [.agg (bP A a b),.agg (a' C E G H au K L F)] [al false]:=
 h.of
def XF(A:ak)(a b:Int)(C:ak)(q:Bool)(E:ak)(r:Bool)(F:ak)(s:Bool)(l:List O):List O:=XE A a b C q E r (.n r false::.r 189 [.agg (bP A a b),aS 5 F] [al s]::l)
theorem adO(h:ah (XF A a b C q E r F s [.n s true])):
 aw 187 [.agg (bP A a b),.agg (a' C E F H au K L G)] [al false]:=
 h.of
def Of(A:ak)(a b:Int)(C:ak)(q:Bool)(E:ak)(r:Bool)(F:ak)(s:Bool)(G:ak)(t:Bool)(l:List O):List O:=XF A a b C q E r F s (.n s false::.r 280 [aS 4 G] [al t]::l)
theorem adP(h:ah (Of A a b C q E r F s G t [.n t true])):
 aw 187 [.agg (bP A a b),.agg (a' C E F G au K L H)] [al false]:=
 h.of
def pr(A:ak)(a:Int)(C E F G H au K L:ak):aG:=bp 121 [(3,bE 3),(37,eP 5 A),(38,bf (A.length:Int)),(39,bf a)] [(3,[.J .free 5 C,.J .free 5 E,.J .free 5 F,.J .free 4 G,.J .free 1 H,.J .free 1 au,.J .free 1 K,.J .free 2 L])]
def Bz(q:Bool):aG:=bp 121 [(4,.bd (.one (.cg q)))] []
theorem adQ(h:ah [.i A a (bA b c d e f),.b (b != 0) true]):
 aY (av Tryz.f187 0) (pr A a C E F G H au K L) .ret (Bz false):=
 h.aR [4] []
theorem adR(h:ah (vS A a b d c e f [.b (c != 0) true])):
 aY (av Tryz.f187 0) (pr A a C E F G H au K L) .ret (Bz false):=
 h.aR [4] []
theorem adi(h:ah (vS C a b c d f g [.b (d != 0) false,.b (decide (a>0)) true,.v (a-1),.p (0<=a-1),.p (a-1<(A.length:Int)),.e A ((a-1).toNat) (bA i e j k l),.b (decide (e>c)) true])):
 aY (av Tryz.f187 0) (pr C a E F A G H au K L) .ret (Bz false):=
 h.aR [4] []
theorem adj(h:ah (vS C a b c d f g [.b (d != 0) false,.b (decide (a>0)) true,.v (a-1),.p (0<=a-1),.p (a-1<(A.length:Int)),.e A ((a-1).toNat) (bA i e j k l),.b (decide (e>c)) false,.u a])):
 aY (av Tryz.f187 0) (pr C a E F A G H au K L) .normal (pr C (a+1) E F A G H au K L):=
 h.aR [39,38,37,3] [3]
theorem adk(h:ah (vS A a b d c e f [.b (c != 0) false,.b (decide (a>0)) false,.u a])):
 aY (av Tryz.f187 0) (pr A a C E F G H au K L) .normal (pr A (a+1) C E F G H au K L):=
 h.aR [39,38,37,3] [3]
def J4(A C E F G H au K:ak):aG:=bp 121 [(3,bE 3)] [(3,[.J .free 5 A,.J .free 5 C,.J .free 5 E,.J .free 4 F,.J .free 1 G,.J .free 1 H,.J .free 1 au,.J .free 2 K])]
theorem adl(h:ah [.f L a false]):
 aY (av Tryz.f187 0) (pr L a A C E F G H au K) (.exit 0) (J4 A C E F G H au K):=
 h.aR [3] [3]
theorem adm(h:ah (Of A a b E q F r C s G t [.n t false,.l [] [39,38,37,3] [3] (av Tryz.f187 0) (pr C 0 E F C G au K L H) .ret (Bz u)])):
 aw 187 [.agg (bP A a b),.agg (a' E F C G au K L H)] [al u]:=
 h.of
def Og(A:ak)(a b:Int)(C:ak)(q:Bool)(E:ak)(r:Bool)(F:ak)(s:Bool)(G:ak)(t:Bool)(W:Code)(H au K L M N P Q R S bi V:ak)(l:List O):List O:=Of A a b C q E r F s G t (.n t false::.l [] [39,38,37,3] [3] W (pr F 0 C E F G H au K L) (.exit 0) (J4 M N P Q R S bi V)::l)
theorem adn(h:ah (Og A a b E q F r C s G t (av Tryz.f187 0) K L M H N Q R S au bi V X [.b ((au.length:Int) != 4) true])):
 aw 187 [.agg (bP A a b),.agg (a' E F C G K L M H)] [al false]:=
 h.of
theorem ado(h:ah (Og A a b E q F r C s G t (av Tryz.f187 0) L M N H Q R S bi au K V X [.b ((au.length:Int) != 4) false,.b ((K.length:Int) != 4) true])):
 aw 187 [.agg (bP A a b),.agg (a' E F C G L M N H)] [al false]:=
 h.of
def Hf(A:ak)(a b:Int)(C:ak)(q:Bool)(E:ak)(r:Bool)(F:ak)(s:Bool)(G:ak)(t:Bool)(W:Code)(H au K L M N P Q R S bi V:ak)(l:List O):List O:=Og A a b C q E r F s G t W H au K L M N P Q R S bi V (.b ((R.length:Int) != 4) false::.b ((S.length:Int) != 4) false::l)
theorem adp(h:ah (Hf A a b E q F r C s G t (av Tryz.f187 0) M N Q H R S bi V au K L X [.b ((L.length:Int) != 4) true])):
 aw 187 [.agg (bP A a b),.agg (a' E F C G M N Q H)] [al false]:=
 h.of
def vA(C E F G A H au K:ak)(a:Int):aG:=bp 121 [(3,bE 3),(89,eP 1 A),(90,bf (A.length:Int)),(91,bf a)] [(3,[.J .free 5 C,.J .free 5 E,.J .free 5 F,.J .free 4 G,.J .free 1 A,.J .free 1 H,.J .free 1 au,.J .free 2 K])]
def LU(q:Bool):aG:=bp 121 [(4,.bd (.one (.cg q)))] []
theorem adq(h:ah [.i A a [I b],.r 190 [ag b,ag (-1000000),ag 1000000] [al q],.n q true]):
 aY (av Tryz.f187 1) (vA C E F G A H au K a) .ret (LU false):=
 h.aR [4] []
theorem adr(h:ah [.i A a [I b],.r 190 [ag b,ag (-1000000),ag 1000000] [al q],.n q false,.u a]):
 aY (av Tryz.f187 1) (vA C E F G A H au K a) .normal (vA C E F G A H au K (a+1)):=
 h.aR [91,90,89,3] [3]
def LV(A C E F G H au K:ak):aG:=bp 121 [(3,bE 3)] [(3,[.J .free 5 A,.J .free 5 C,.J .free 5 E,.J .free 4 F,.J .free 1 G,.J .free 1 H,.J .free 1 au,.J .free 2 K])]
theorem aeS(h:ah [.f A a false]):
 aY (av Tryz.f187 1) (vA C E F G A H au K a) (.exit 2) (LV C E F G A H au K):=
 h.aR [3] [3]
theorem aeT(h:ah (Hf A a b H q au r C s K t (av Tryz.f187 0) bi V X L M N Q R E F G S [.b ((G.length:Int) != 4) false,.l [] [91,90,89,3] [3] (av Tryz.f187 1) (vA M N Q R E F G S 0) .ret (LU u)])):
 aw 187 [.agg (bP A a b),.agg (a' H au C K bi V X L)] [al u]:=
 h.of
def sA(A:ak)(a:Int)(C E F G H au K L:ak):aG:=bp 121 [(3,bE 3),(100,eP 2 A),(101,bf (A.length:Int)),(102,bf a)] [(3,[.J .free 5 C,.J .free 5 E,.J .free 5 F,.J .free 4 G,.J .free 1 H,.J .free 1 au,.J .free 1 K,.J .free 2 L])]
def FB(q:Bool):aG:=bp 121 [(4,.bd (.one (.cg q)))] []
theorem aeU(h:ah [.i A a [I b,B r],.r 190 [ag b,ag 0,ag 3] [al q],.n q true]):
 aY (av Tryz.f187 2) (sA A a C E F G H au K L) .ret (FB false):=
 h.aR [4] []
def XC(A:ak)(a b:Int)(q r:Bool)(C:ak)(s:Bool)(l:List O):List O:=.i A a [I b,B q]::.r 190 [ag b,ag 0,ag 3] [al r]::.n r false::.p ((0:Int)<=none.getD 0)::.p (none.getD 0<=(some a).getD (C.length:Int))::.p ((some a).getD (C.length:Int)<=(C.length:Int))::.r 281 [.one (.J 2 (List.take (((some a).getD (C.length:Int)).toNat-0) (List.drop 0 C))),ag b] [al s]::l
theorem aeV(h:ah (XC C a b s q A r [.b r true])):
 aY (av Tryz.f187 2) (sA C a E F G H au K L A) .ret (FB false):=
 h.aR [4] []
theorem aeW(h:ah (XC C a b s q A r [.b r false,.u a])):
 aY (av Tryz.f187 2) (sA C a E F G H au K L A) .normal (sA C (a+1) E F G H au K L A):=
 h.aR [102,101,100,3] [3]
def LW:aG:=bp 121 [] []
theorem aeX(h:ah [.f A a false]):
 aY (av Tryz.f187 2) (sA A a C E F G H au K L) (.exit 4) LW:=
 h.aR [] []
theorem aeY(h:ah (Hf G a b N q Q r M s R t (av Tryz.f187 0) bi V X S H au K L A C E F [.b ((E.length:Int) != 4) false,.l [] [91,90,89,3] [3] (av Tryz.f187 1) (vA H au K L A C E F 0) (.exit 2) (LV H au K L A C E F),.l [] [102,101,100,3] [3] (av Tryz.f187 2) (sA F 0 H au K L A C E F) .ret (FB u)])):
 aw 187 [.agg (bP G a b),.agg (a' N Q M R bi V X S)] [al u]:=
 h.of
theorem aeZ(h:ah (Hf G a b N q Q r M s R t (av Tryz.f187 0) bi V X S H au K L A C E F [.b ((E.length:Int) != 4) false,.l [] [91,90,89,3] [3] (av Tryz.f187 1) (vA H au K L A C E F 0) (.exit 2) (LV H au K L A C E F),.l [] [102,101,100,3] [3] (av Tryz.f187 2) (sA F 0 H au K L A C E F) (.exit 4) LW])):
 aw 187 [.agg (bP G a b),.agg (a' N Q M R bi V X S)] [al true]:=
 h.of
def wS(a:Int)(A:ak)(b c d e f:Int):aG:=bp 70 [(1,bE 1),(3,bf f)] [(1,[aM a,.J .free 5 A,aM b,aM c,aM d,aM e])]
def LX(q:Bool):aG:=bp 70 [(2,.bd (.one (.cg q)))] []
theorem ae0(h:ah (Dd A c d e f a b q [.n q true])):
 aY (av Tryz.f191 0) (wS g A i j k l c) .ret (LX false):=
 h.aR [2] []
theorem ae1(h:ah (Dd A a j k l c d q [.n q false,.u a])):
 aY (av Tryz.f191 0) (wS b A e f g i a) .normal (wS b A e f g i (a+1)):=
 h.aR [3,1] [1]
def Qr(a:Int)(A:ak)(b c d e:Int):aG:=bp 70 [(1,bE 1)] [(1,[aM a,.J .free 5 A,aM b,aM c,aM d,aM e])]
theorem ae2(h:ah [.f A f false]):
 aY (av Tryz.f191 0) (wS a A b c d e f) (.exit 0) (Qr a A b c d e):=
 h.aR [1] [1]
theorem ae3(h:ah [.l [] [3,1] [1] (av Tryz.f191 0) (wS a A b c d e 0) .ret (LX q)]):
 aw 191 [.agg (b7 a A b c d e)] [al q]:=
 h.of
def Xh(W:Code)(a:Int)(A:ak)(b c d e:Int)(q:Bool)(l:List O):List O:=.l [] [3,1] [1] W (wS a A b c d e 0) (.exit 0) (Qr a A b c d e)::.r 168 [ag a,ag 1,ag 4] [al q]::l
def Xi(W:Code)(a:Int)(A:ak)(b c d e:Int)(q r:Bool)(l:List O):List O:=Xh W a A b c d e q (.b q true::.r 168 [ag b,ag 0,ag a] [al r]::l)
def Xj(W:Code)(a:Int)(A:ak)(b c d e:Int)(q r s:Bool)(l:List O):List O:=Xi W a A b c d e q r (.b r true::.r 168 [ag c,ag 0,ag a] [al s]::l)
def Xk(W:Code)(a:Int)(A:ak)(b c d e:Int)(q r s:Bool)(l:List O):List O:=Xj W a A b c d e q r s (.b s true::.v (b+c)::.v (b+c+(A.length:Int))::l)
def N6(W:Code)(a:Int)(A:ak)(b c d e:Int)(q r s t:Bool)(l:List O):List O:=Xk W a A b c d e q r s (.b (b+c+(A.length:Int)==a) true::.r 168 [ag d,ag 0,ag 1000000000] [al t]::l)
theorem ae4(h:ah (N6 (av Tryz.f191 0) a A b c d e q r s t [.b t true,.v (d-(A.length:Int)),.b (e==d-(A.length:Int)) true])):
 aw 191 [.agg (b7 a A b c d e)] [al (decide (e>=0))]:=
 h.of
theorem ae5(h:ah (N6 (av Tryz.f191 0) a A b c d e q r s t [.b t true,.v (d-(A.length:Int)),.b (e==d-(A.length:Int)) false])):
 aw 191 [.agg (b7 a A b c d e)] [al false]:=
 h.of
theorem ae6(h:ah (N6 (av Tryz.f191 0) a A b c d e q r s t [.b t false])):
 aw 191 [.agg (b7 a A b c d e)] [al false]:=
 h.of
theorem ae7(h:ah (Xk (av Tryz.f191 0) a A b c d e q r s [.b (b+c+(A.length:Int)==a) false])):
 aw 191 [.agg (b7 a A b c d e)] [al false]:=
 h.of
theorem ae8(h:ah (Xj (av Tryz.f191 0) a A b c d e q r s [.b s false])):
 aw 191 [.agg (b7 a A b c d e)] [al false]:=
 h.of
theorem ae9(h:ah (Xi (av Tryz.f191 0) a A b c d e q r [.b r false])):
 aw 191 [.agg (b7 a A b c d e)] [al false]:=
 h.of
theorem afa(h:ah (Xh (av Tryz.f191 0) a A b c d e q [.b q false])):
 aw 191 [.agg (b7 a A b c d e)] [al false]:=
 h.of
def Xl(a:Int)(q:Bool)(l:List O):List O:=.r 190 [ag a,ag 1,ag 4] [al q]::l
theorem afb(h:ah (Xl a q [.n q true])):
 aw 188 [.agg (b7 a A b c d e)] [al false]:=
 h.of
def Xm(a:Int)(q:Bool)(b:Int)(r:Bool)(l:List O):List O:=Xl a q (.n q false::.r 190 [ag b,ag 0,ag a] [al r]::l)
theorem afc(h:ah (Xm a q b r [.n r true])):
 aw 188 [.agg (b7 a A b c d e)] [al false]:=
 h.of
def Xn(a:Int)(q:Bool)(b:Int)(r:Bool)(c:Int)(s:Bool)(l:List O):List O:=Xm a q b r (.n r false::.r 190 [ag c,ag 0,ag a] [al s]::l)
theorem afd(h:ah (Xn a q b r c s [.n s true])):
 aw 188 [.agg (b7 a A b c d e)] [al false]:=
 h.of
def Xo(a:Int)(q:Bool)(b:Int)(r:Bool)(c:Int)(s:Bool)(A:ak)(l:List O):List O:=Xn a q b r c s (.n s false::.v (b+c)::.v (b+c+(A.length:Int))::l)
theorem afe(h:ah (Xo a q b r c s A [.b (b+c+(A.length:Int) != a) true])):
 aw 188 [.agg (b7 a A b c d e)] [al false]:=
 h.of
def Hg(a:Int)(q:Bool)(b:Int)(r:Bool)(c:Int)(s:Bool)(A:ak)(d:Int)(t:Bool)(l:List O):List O:=Xo a q b r c s A (.b (b+c+(A.length:Int) != a) false::.r 190 [ag d,ag 0,ag 1000000000] [al t]::l)
theorem aff(h:ah (Hg a q b r c s A d t [.n t true])):
 aw 188 [.agg (b7 a A b c d e)] [al false]:=
 h.of
theorem afg(h:ah (Hg a q b r c s A d t [.n t false,.b (decide (e<0)) true])):
 aw 188 [.agg (b7 a A b c d e)] [al false]:=
 h.of
theorem afh(h:ah (Hg a q b r c s A d t [.n t false,.b (decide (e<0)) false,.v (d-e),.b (d-e != (A.length:Int)) true])):
 aw 188 [.agg (b7 a A b c d e)] [al false]:=
 h.of
theorem aes(h:ah (Hg a r b s c t A d u [.n u false,.b (decide (e<0)) false,.v (d-e),.b (d-e != (A.length:Int)) false,.r 282 [aS 5 A] [al q]])):
 aw 188 [.agg (b7 a A b c d e)] [al q]:=
 h.of
def xz(A:ak)(a:Int):aG:=bp 15 [(5,eP 5 A),(6,bf (A.length:Int)),(7,bf a)] []
def LY(q:Bool):aG:=bp 15 [(2,.bd (.one (.cg q)))] []
theorem aet(h:ah (De A a b c d e f q [.n q true])):
 aY (av Tryz.f282 0) (xz A a) .ret (LY false):=
 h.aR [2] []
theorem aeu(h:ah (De A a b c d e f q [.n q false,.u a])):
 aY (av Tryz.f282 0) (xz A a) .normal (xz A (a+1)):=
 h.aR [7,6,5] []
def Tn:aG:=bp 15 [] []
theorem aev(h:ah [.f A a false]):
 aY (av Tryz.f282 0) (xz A a) (.exit 0) Tn:=
 h.aR [] []
theorem aew(h:ah [.l [] [7,6,5] [] (av Tryz.f282 0) (xz A 0) .ret (LY q)]):
 aw 282 [aS 5 A] [al q]:=
 h.of
theorem aex(h:ah [.l [] [7,6,5] [] (av Tryz.f282 0) (xz A 0) (.exit 0) Tn]):
 aw 282 [aS 5 A] [al true]:=
 h.of
def N7(A:ak)(a b:Int)(q:Bool)(l:List O):List O:=.r 121 [.agg (bP A a b)] [al q]::l
theorem aey(h:ah (N7 A a b q [.n q true])):
 aw 56 [.agg (cl A a b C E F G)] [al false]:=
 h.of
theorem aez(h:ah (N7 A a b q [.n q false,.b ((C.length:Int) != a) true])):
 aw 56 [.agg (cl A a b C E F G)] [al false]:=
 h.of
def Xp(A:ak)(a b:Int)(q:Bool)(C:ak)(l:List O):List O:=N7 A a b q (.n q false::.b ((C.length:Int) != a) false::.v (a*a)::l)
theorem aeA(h:ah (Xp A a b q C [.b ((E.length:Int) != a*a) true])):
 aw 56 [.agg (cl A a b C E F G)] [al false]:=
 h.of
def Xq(A:ak)(a b:Int)(q:Bool)(C E:ak)(l:List O):List O:=Xp A a b q C (.b ((E.length:Int) != a*a) false::l)
theorem aeB(h:ah (Xq A a b q C E [.b ((F.length:Int) != 4) true])):
 aw 56 [.agg (cl A a b C E F G)] [al false]:=
 h.of
def tM(A:ak)(a b:Int)(C E F G:ak)(c:Int):aG:=bp 170 [(1,bE 1),(3,bf a),(4,bf c)] [(1,[.J .free 4 A,aM a,aM b,.J .free 8 C,.J .free 6 E,.J .free 5 F,.J .free 3 G])]
def FC(q:Bool):aG:=bp 170 [(2,.bd (.one (.cg q)))] []
theorem aeC(h:ah [.b (decide (b<a)) true,.x L b (a' M C E F G H au K),.r 175 [.agg (bP A a c),.agg (a' M C E F G H au K)] [al q],.n q true]):
 aY (av Tryz.f56 0) (tM A a c L N Q R b) .ret (FC false):=
 h.aR [2] []
theorem aeD(h:ah [.b (decide (a<b)) true,.x C a (a' R E F G H au K L),.r 175 [.agg (bP A b c),.agg (a' R E F G H au K L)] [al q],.n q false,.u a]):
 aY (av Tryz.f56 0) (tM A b c C M N Q a) .normal (tM A b c C M N Q (a+1)):=
 h.aR [4,3,1] [1]
def J5(A:ak)(a b:Int)(C E F G:ak):aG:=bp 170 [(1,bE 1),(3,bf a)] [(1,[.J .free 4 A,aM a,aM b,.J .free 8 C,.J .free 6 E,.J .free 5 F,.J .free 3 G])]
theorem aeE(h:ah [.b (decide (c<a)) false]):
 aY (av Tryz.f56 0) (tM A a b C E F G c) (.exit 0) (J5 A a b C E F G):=
 h.aR [1,3] [1]
def Xr(A:ak)(a b:Int)(q:Bool)(C E F:ak)(l:List O):List O:=Xq A a b q C E (.b ((F.length:Int) != 4) false::l)
theorem aeF(h:ah (Xr A a b q C E F [.l [] [4,3,1] [1] (av Tryz.f56 0) (tM A a b C E F G 0) .ret (FC r)])):
 aw 56 [.agg (cl A a b C E F G)] [al r]:=
 h.of
def mV(a b:Int)(A:ak)(c d:Int)(C E F G:ak):aG:=bp 170 [(1,bE 1),(3,bf a),(5,bf b)] [(1,[.J .free 4 A,aM c,aM d,.J .free 8 C,.J .free 6 E,.J .free 5 F,.J .free 3 G])]
def zd(q:Bool):aG:=bp 170 [(2,.bd (.one (.cg q)))] []
def Oa(A:ak)(a b:Int)(C:ak)(c d e f:Int)(q:Bool)(l:List O):List O:=.i A a (b7 b C c d e f)::.r 191 [.agg (b7 b C c d e f)] [al q]::l
theorem aeG(h:ah (Oa A f a C b c d e q [.n q true])):
 aY (av Tryz.f56 1) (mV g f H i j E A F G) .ret (zd false):=
 h.aR [2] []
theorem aeH(h:ah (Oa A g a C c d e f q [.n q false,.b (a != b) true])):
 aY (av Tryz.f56 1) (mV i g H j b E A F G) .ret (zd false):=
 h.aR [2] []
def Hk(A:ak)(a b:Int)(C:ak)(c d e f:Int)(q:Bool)(g:Int)(E:ak)(i:Int)(r:Bool)(l:List O):List O:=Oa A a b C c d e f q (.n q false::.b (b != g) false::.r 192 [.agg (bP E i g),aS 5 C] [al r]::l)
theorem aeI(h:ah (Hk C i b A d e f g q a E c r [.n r true])):
 aY (av Tryz.f56 1) (mV j i E c a F C G H) .ret (zd false):=
 h.aR [2] []
theorem aeJ(h:ah (Hk C b d A f g i j q c E e r [.n r false,.p (a≠0),.v (b.tdiv a),.p (a≠0),.b (b.tdiv a==b.tmod a) true,.b (decide ((A.length:Int)>0)) true])):
 aY (av Tryz.f56 1) (mV a b E e c F C G H) .ret (zd false):=
 h.aR [2] []
theorem aeK(h:ah (Hk C b e A f g i j q c E d r [.n r false,.p (a≠0),.v (b.tdiv a),.p (a≠0),.b (b.tdiv a==b.tmod a) true,.b (decide ((A.length:Int)>0)) false,.u b])):
 aY (av Tryz.f56 1) (mV a b E d c F C G H) .normal (mV a (b+1) E d c F C G H):=
 h.aR [5,1,3] [1]
theorem aeL(h:ah (Hk A b e C f g i j q c E d r [.n r false,.p (a≠0),.v (b.tdiv a),.p (a≠0),.b (b.tdiv a==b.tmod a) false,.u b])):
 aY (av Tryz.f56 1) (mV a b E d c F A G H) .normal (mV a (b+1) E d c F A G H):=
 h.aR [5,1,3] [1]
def BA(a:Int)(A:ak)(b c:Int)(C E F G:ak):aG:=bp 170 [(1,bE 1),(3,bf a)] [(1,[.J .free 4 A,aM b,aM c,.J .free 8 C,.J .free 6 E,.J .free 5 F,.J .free 3 G])]
theorem aeM(h:ah [.f A d false]):
 aY (av Tryz.f56 1) (mV a d G b c C A E F) (.exit 2) (BA a G b c C A E F):=
 h.aR [1,3] [1]
def Hh(A:ak)(a b:Int)(q:Bool)(C E F:ak)(W:Code)(G:ak)(l:List O):List O:=Xr A a b q C E F (.l [] [4,3,1] [1] W (tM A a b C E F G 0) (.exit 0) (J5 A a b C E F G)::l)
theorem aeN(h:ah (Hh A a b q C E F (av Tryz.f56 0) G [.l [] [5,1,3] [1] (av Tryz.f56 1) (mV a 0 A a b C E F G) .ret (zd r)])):
 aw 56 [.agg (cl A a b C E F G)] [al r]:=
 h.of
def nP(a:Int)(A:ak)(b c:Int)(C E F G:ak)(d:Int):aG:=bp 170 [(1,bE 1),(3,bf a),(7,bf d)] [(1,[.J .free 4 A,aM b,aM c,.J .free 8 C,.J .free 6 E,.J .free 5 F,.J .free 3 G])]
def xA(q:Bool):aG:=bp 170 [(2,.bd (.one (.cg q)))] []
def Xs(A:ak)(a:Int)(q:Bool)(b c:Int)(r s:Bool)(d:Int)(l:List O):List O:=.i A a [B q,I b,I c,B r,B s]::.v (d-1)::l
def Xt(A:ak)(a:Int)(q:Bool)(b c:Int)(r s:Bool)(d:Int)(t:Bool)(l:List O):List O:=Xs A a q b c r s d (.r 168 [ag b,ag 0,ag (d-1)] [al t]::l)
theorem aeO(h:ah (Xt A b r c e s t a q [.n q true])):
 aY (av Tryz.f56 2) (nP a G f d C E A F b) .ret (xA false):=
 h.aR [2] []
def Db(A:ak)(a:Int)(q:Bool)(b c:Int)(r s:Bool)(d:Int)(t u:Bool)(e f:Int)(v w:Bool)(l:List O):List O:=Xt A a q b c r s d t (.n t false::.x A a [B u,I e,I f,B v,B w]::l)
theorem aeP(h:ah (Db A a s c f t u b q r g i v w [.n r true,.x A a [B x,I d,I j,B y,B z],.b (d != 0) true])):
 aY (av Tryz.f56 2) (nP b G k e C E A F a) .ret (xA false):=
 h.aR [2] []
theorem aeQ(h:ah (Db A a t c g u v b q r i j w x [.n r true,.x A a [B y,I d,I k,B z,B gH],.b (d != 0) false,.x A a [B il,I l,I e,B hf,B t0],.r 168 [ag e,ag (-1000000),ag 1000000] [al s],.n s true])):
 aY (av Tryz.f56 2) (nP b G m f C E A F a) .ret (xA false):=
 h.aR [2] []
theorem aeR(h:ah (Db A a t d i u v b q r j k w x [.n r true,.x A a [B y,I e,I l,B z,B gH],.b (e != 0) false,.x A a [B il,I m,I f,B hf,B t0],.r 168 [ag f,ag (-1000000),ag 1000000] [al s],.n s false,.u a])):
 aY (av Tryz.f56 2) (nP b G g c C E A F a) .normal (nP b G g c C E A F (a+1)):=
 h.aR [7,1,3] [1]
theorem aei(h:ah (Db A a t c f u v b q r g i w x [.n r false,.x A a [B y,I j,I d,B z,B gH],.r 168 [ag d,ag (-1000000),ag 1000000] [al s],.n s true])):
 aY (av Tryz.f56 2) (nP b G k e C E A F a) .ret (xA false):=
 h.aR [2] []
theorem aej(h:ah (Db A a t d g u v b q r i j w x [.n r false,.x A a [B y,I k,I e,B z,B gH],.r 168 [ag e,ag (-1000000),ag 1000000] [al s],.n s false,.u a])):
 aY (av Tryz.f56 2) (nP b G f c C E A F a) .normal (nP b G f c C E A F (a+1)):=
 h.aR [7,1,3] [1]
def FD(a:Int)(A:ak)(b c:Int)(C E F G:ak):aG:=bp 170 [(1,bE 1),(3,bf a)] [(1,[.J .free 4 A,aM b,aM c,.J .free 8 C,.J .free 6 E,.J .free 5 F,.J .free 3 G])]
theorem aek(h:ah [.f A c false]):
 aY (av Tryz.f56 2) (nP a G d b C E A F c) (.exit 4) (FD a G d b C E A F):=
 h.aR [1,3] [1]
theorem ael(h:ah (Hh A a b r C E F (av Tryz.f56 0) G [.l [] [5,1,3] [1] (av Tryz.f56 1) (mV a 0 A a b C E F G) (.exit 2) (BA a M d c H au K L),.l [] [7,1,3] [1] (av Tryz.f56 2) (nP a M d c H au K L 0) .ret (xA q)])):
 aw 56 [.agg (cl A a b C E F G)] [al q]:=
 h.of
def sB(a:Int)(A:ak)(b c:Int)(C E F G:ak)(d:Int):aG:=bp 170 [(1,bE 1),(3,bf a),(8,bf d)] [(1,[.J .free 4 A,aM b,aM c,.J .free 8 C,.J .free 6 E,.J .free 5 F,.J .free 3 G])]
def BB(q:Bool):aG:=bp 170 [(2,.bd (.one (.cg q)))] []
theorem aem(h:ah [.i A b [I c,I e,B r],.v (a-1),.r 168 [ag c,ag 0,ag (a-1)] [al q],.n q true]):
 aY (av Tryz.f56 3) (sB a G f d C E F A b) .ret (BB false):=
 h.aR [2] []
theorem aen(h:ah [.i A b [I c,I f,B s],.v (a-1),.r 168 [ag c,ag 0,ag (a-1)] [al q],.n q false,.x A b [I g,I d,B t],.r 168 [ag d,ag 0,ag 3] [al r],.n r true]):
 aY (av Tryz.f56 3) (sB a G i e C E F A b) .ret (BB false):=
 h.aR [2] []
theorem aeo(h:ah [.i A a [I d,I g,B s],.v (b-1),.r 168 [ag d,ag 0,ag (b-1)] [al q],.n q false,.x A a [I i,I e,B t],.r 168 [ag e,ag 0,ag 3] [al r],.n r false,.u a]):
 aY (av Tryz.f56 3) (sB b G f c C E F A a) .normal (sB b G f c C E F A (a+1)):=
 h.aR [8,1,3] [1]
def LZ:aG:=bp 170 [] []
theorem aep(h:ah [.f A a false]):
 aY (av Tryz.f56 3) (sB b G d c C E F A a) (.exit 6) LZ:=
 h.aR [] []
theorem aeq(h:ah (Hh A a b r C E F (av Tryz.f56 0) L [.l [] [5,1,3] [1] (av Tryz.f56 1) (mV a 0 A a b C E F L) (.exit 2) (BA a M d c G H au K),.l [] [7,1,3] [1] (av Tryz.f56 2) (nP a M d c G H au K 0) (.exit 4) (FD a M d c G H au K),.l [] [8,1,3] [1] (av Tryz.f56 3) (sB a M d c G H au K 0) .ret (BB q)])):
 aw 56 [.agg (cl A a b C E F L)] [al q]:=
 h.of
theorem aer(h:ah (Hh A a b q C E F (av Tryz.f56 0) L [.l [] [5,1,3] [1] (av Tryz.f56 1) (mV a 0 A a b C E F L) (.exit 2) (BA a M d c G H au K),.l [] [7,1,3] [1] (av Tryz.f56 2) (nP a M d c G H au K 0) (.exit 4) (FD a M d c G H au K),.l [] [8,1,3] [1] (av Tryz.f56 3) (sB a M d c G H au K 0) (.exit 6) LZ])):
 aw 56 [.agg (cl A a b C E F L)] [al true]:=
 h.of
def N8(A:ak)(a b:Int)(q:Bool)(l:List O):List O:=.r 179 [.agg (bP A a b)] [al q]::l
theorem afS(h:ah (N8 A a b q [.n q true])):
 aw 55 [.agg (cl A a b C E F G)] [al false]:=
 h.of
theorem afT(h:ah (N8 A a b q [.n q false,.b ((C.length:Int) != a) true])):
 aw 55 [.agg (cl A a b C E F G)] [al false]:=
 h.of
def Xu(A:ak)(a b:Int)(q:Bool)(C:ak)(l:List O):List O:=N8 A a b q (.n q false::.b ((C.length:Int) != a) false::.v (a*a)::l)
theorem afU(h:ah (Xu A a b q C [.b ((E.length:Int) != a*a) true])):
 aw 55 [.agg (cl A a b C E F G)] [al false]:=
 h.of
def Xv(A:ak)(a b:Int)(q:Bool)(C E:ak)(l:List O):List O:=Xu A a b q C (.b ((E.length:Int) != a*a) false::l)
theorem afV(h:ah (Xv A a b q C E [.b ((F.length:Int) != 4) true])):
 aw 55 [.agg (cl A a b C E F G)] [al false]:=
 h.of
def tN(a:Int)(A:ak)(b:Int)(C:ak)(c d:Int)(E F G H:ak):aG:=bp 147 [(1,bE 1),(3,bf a),(42,eP 8 A),(43,bf (A.length:Int)),(44,bf b)] [(1,[.J .free 4 C,aM c,aM d,.J .free 8 E,.J .free 6 F,.J .free 5 G,.J .free 3 H])]
def FE(q:Bool):aG:=bp 147 [(2,.bd (.one (.cg q)))] []
theorem afW(h:ah [.i L c (a' A C E F G H au K),.r 187 [.agg (bP M a b),.agg (a' A C E F G H au K)] [al q],.n q true]):
 aY (av Tryz.f55 0) (tN d L c M a b N Q R S) .ret (FE false):=
 h.aR [2] []
theorem afX(h:ah [.i A a (a' au K L M N Q R S),.r 187 [.agg (bP C b c),.agg (a' au K L M N Q R S)] [al q],.n q false,.u a]):
 aY (av Tryz.f55 0) (tN d A a C b c E F G H) .normal (tN d A (a+1) C b c E F G H):=
 h.aR [44,43,42,1,3] [1]
def J6(a:Int)(A:ak)(b c:Int)(C E F G:ak):aG:=bp 147 [(1,bE 1),(3,bf a)] [(1,[.J .free 4 A,aM b,aM c,.J .free 8 C,.J .free 6 E,.J .free 5 F,.J .free 3 G])]
theorem afY(h:ah [.f G d false]):
 aY (av Tryz.f55 0) (tN a G d H b c A C E F) (.exit 0) (J6 a H b c A C E F):=
 h.aR [1,3] [1]
def Xw(A:ak)(a b:Int)(q:Bool)(C E F:ak)(l:List O):List O:=Xv A a b q C E (.b ((F.length:Int) != 4) false::l)
theorem afZ(h:ah (Xw C a b q A E F [.l [] [44,43,42,1,3] [1] (av Tryz.f55 0) (tN a A 0 C a b A E F G) .ret (FE r)])):
 aw 55 [.agg (cl C a b A E F G)] [al r]:=
 h.of
def mW(a:Int)(A:ak)(b:Int)(C:ak)(c d:Int)(E F G H:ak):aG:=bp 147 [(1,bE 1),(3,bf a),(55,eP 6 A),(56,bf (A.length:Int)),(57,bf b)] [(1,[.J .free 4 C,aM c,aM d,.J .free 8 E,.J .free 6 F,.J .free 5 G,.J .free 3 H])]
def ze(q:Bool):aG:=bp 147 [(2,.bd (.one (.cg q)))] []
def Ob(A:ak)(a b:Int)(C:ak)(c d e f:Int)(q:Bool)(l:List O):List O:=.i A a (b7 b C c d e f)::.r 188 [.agg (b7 b C c d e f)] [al q]::l
theorem af0(h:ah (Ob A a b C c d e f q [.n q true])):
 aY (av Tryz.f55 1) (mW g A a E i j F G H au) .ret (ze false):=
 h.aR [2] []
theorem af1(h:ah (Ob A b a C d e f g q [.n q false,.b (a != c) true])):
 aY (av Tryz.f55 1) (mW i A b E j c F G H au) .ret (ze false):=
 h.aR [2] []
def Hl(A:ak)(a b:Int)(C:ak)(c d e f:Int)(q:Bool)(g:Int)(E:ak)(i:Int)(r:Bool)(l:List O):List O:=Ob A a b C c d e f q (.n q false::.b (b != g) false::.r 189 [.agg (bP E i g),aS 5 C] [al r]::l)
theorem af2(h:ah (Hl C c b A e f g i q a E d r [.n r true])):
 aY (av Tryz.f55 1) (mW j C c E d a F G H au) .ret (ze false):=
 h.aR [2] []
theorem af3(h:ah (Hl C b d A f g i j q c E e r [.n r false,.p (a≠0),.v (b.tdiv a),.p (a≠0),.b (b.tdiv a==b.tmod a) true,.b (decide ((A.length:Int)>0)) true])):
 aY (av Tryz.f55 1) (mW a C b E e c F G H au) .ret (ze false):=
 h.aR [2] []
theorem af4(h:ah (Hl C b e A f g i j q c E d r [.n r false,.p (a≠0),.v (b.tdiv a),.p (a≠0),.b (b.tdiv a==b.tmod a) true,.b (decide ((A.length:Int)>0)) false,.u b])):
 aY (av Tryz.f55 1) (mW a C b E d c F G H au) .normal (mW a C (b+1) E d c F G H au):=
 h.aR [57,56,55,1,3] [1]
theorem af5(h:ah (Hl A b e E f g i j q c C d r [.n r false,.p (a≠0),.v (b.tdiv a),.p (a≠0),.b (b.tdiv a==b.tmod a) false,.u b])):
 aY (av Tryz.f55 1) (mW a A b C d c F G H au) .normal (mW a A (b+1) C d c F G H au):=
 h.aR [57,56,55,1,3] [1]
def BC(a:Int)(A:ak)(b c:Int)(C E F G:ak):aG:=bp 147 [(1,bE 1),(3,bf a)] [(1,[.J .free 4 A,aM b,aM c,.J .free 8 C,.J .free 6 E,.J .free 5 F,.J .free 3 G])]
theorem af6(h:ah [.f A b false]):
 aY (av Tryz.f55 1) (mW a A b C c d E F G H) (.exit 2) (BC a C c d E F G H):=
 h.aR [1,3] [1]
def Hi(A:ak)(a b:Int)(q:Bool)(C E F:ak)(W:Code)(G H:ak)(c d:Int)(au K L M:ak)(l:List O):List O:=Xw A a b q C E F (.l [] [44,43,42,1,3] [1] W (tN a C 0 A a b C E F G) (.exit 0) (J6 a H c d au K L M)::l)
theorem af7(h:ah (Hi C a b r A F G (av Tryz.f55 0) L M d c H E au K [.l [] [57,56,55,1,3] [1] (av Tryz.f55 1) (mW a E 0 M d c H E au K) .ret (ze q)])):
 aw 55 [.agg (cl C a b A F G L)] [al q]:=
 h.of
def nQ(a:Int)(A:ak)(b:Int)(C:ak)(c d:Int)(E F G H:ak):aG:=bp 147 [(1,bE 1),(3,bf a),(98,eP 5 A),(99,bf (A.length:Int)),(100,bf b)] [(1,[.J .free 4 C,aM c,aM d,.J .free 8 E,.J .free 6 F,.J .free 5 G,.J .free 3 H])]
def xB(q:Bool):aG:=bp 147 [(2,.bd (.one (.cg q)))] []
def Al(A:ak)(a:Int)(q:Bool)(b c:Int)(r s:Bool)(d:Int)(t:Bool)(l:List O):List O:=Xs A a q b c r s d (.r 190 [ag b,ag 0,ag (d-1)] [al t]::l)
theorem af8(h:ah (Al A b r c f s t a q [.n q true])):
 aY (av Tryz.f55 2) (nQ a A b C d e E F G H) .ret (xB false):=
 h.aR [2] []
theorem af9(h:ah (Al A c q b f s t a r [.n r false,.n q true,.b (b != 0) true])):
 aY (av Tryz.f55 2) (nQ a A c C d e E F G H) .ret (xB false):=
 h.aR [2] []
theorem aga(h:ah (Al A c q b d t u a r [.n r false,.n q true,.b (b != 0) false,.r 190 [ag d,ag (-1000000),ag 1000000] [al s],.n s true])):
 aY (av Tryz.f55 2) (nQ a A c C e f E F G H) .ret (xB false):=
 h.aR [2] []
theorem agb(h:ah (Al A b q c f t u a r [.n r false,.n q true,.b (c != 0) false,.r 190 [ag f,ag (-1000000),ag 1000000] [al s],.n s false,.u b])):
 aY (av Tryz.f55 2) (nQ a A b C d e E F G H) .normal (nQ a A (b+1) C d e E F G H):=
 h.aR [100,99,98,3,1] [1]
theorem agc(h:ah (Al A b q c d t u a r [.n r false,.n q false,.r 190 [ag d,ag (-1000000),ag 1000000] [al s],.n s true])):
 aY (av Tryz.f55 2) (nQ a A b C e f E F G H) .ret (xB false):=
 h.aR [2] []
theorem agd(h:ah (Al A b q e f t u a r [.n r false,.n q false,.r 190 [ag f,ag (-1000000),ag 1000000] [al s],.n s false,.u b])):
 aY (av Tryz.f55 2) (nQ a A b C c d E F G H) .normal (nQ a A (b+1) C c d E F G H):=
 h.aR [100,99,98,3,1] [1]
def FF(a:Int)(A:ak)(b c:Int)(C E F G:ak):aG:=bp 147 [(1,bE 1),(3,bf a)] [(1,[.J .free 4 A,aM b,aM c,.J .free 8 C,.J .free 6 E,.J .free 5 F,.J .free 3 G])]
theorem age(h:ah [.f A b false]):
 aY (av Tryz.f55 2) (nQ a A b C c d E F G H) (.exit 4) (FF a C c d E F G H):=
 h.aR [1,3] [1]
theorem agf(h:ah (Hi C a b r A G H (av Tryz.f55 0) S bi f c au E K L [.l [] [57,56,55,1,3] [1] (av Tryz.f55 1) (mW a E 0 bi f c au E K L) (.exit 2) (BC a M d e N Q F R),.l [] [100,99,98,3,1] [1] (av Tryz.f55 2) (nQ a F 0 M d e N Q F R) .ret (xB q)])):
 aw 55 [.agg (cl C a b A G H S)] [al q]:=
 h.of
def sC(a:Int)(A:ak)(b:Int):aG:=bp 147 [(3,bf a),(128,eP 3 A),(129,bf (A.length:Int)),(130,bf b)] []
def BD(q:Bool):aG:=bp 147 [(2,.bd (.one (.cg q)))] []
theorem agh(h:ah [.i A b [I c,I d,B r],.v (a-1),.r 190 [ag c,ag 0,ag (a-1)] [al q],.n q true]):
 aY (av Tryz.f55 3) (sC a A b) .ret (BD false):=
 h.aR [2] []
theorem agi(h:ah [.i A b [I c,I d,B s],.v (a-1),.r 190 [ag c,ag 0,ag (a-1)] [al q],.n q false,.r 190 [ag d,ag 0,ag 3] [al r],.n r true]):
 aY (av Tryz.f55 3) (sC a A b) .ret (BD false):=
 h.aR [2] []
theorem afs(h:ah [.i A b [I c,I d,B s],.v (a-1),.r 190 [ag c,ag 0,ag (a-1)] [al q],.n q false,.r 190 [ag d,ag 0,ag 3] [al r],.n r false,.u b]):
 aY (av Tryz.f55 3) (sC a A b) .normal (sC a A (b+1)):=
 h.aR [130,129,128,3] []
def L0:aG:=bp 147 [] []
theorem aft(h:ah [.f A a false]):
 aY (av Tryz.f55 3) (sC b A a) (.exit 6) L0:=
 h.aR [] []
theorem afu(h:ah (Hi C a b r A G H (av Tryz.f55 0) bi V f c au E K L [.l [] [57,56,55,1,3] [1] (av Tryz.f55 1) (mW a E 0 V f c au E K L) (.exit 2) (BC a M d e N Q F R),.l [] [100,99,98,3,1] [1] (av Tryz.f55 2) (nQ a F 0 M d e N Q F R) (.exit 4) (FF a X g i Y Z dz S),.l [] [130,129,128,3] [] (av Tryz.f55 3) (sC a S 0) .ret (BD q)])):
 aw 55 [.agg (cl C a b A G H bi)] [al q]:=
 h.of
theorem afv(h:ah (Hi C a b q A G H (av Tryz.f55 0) bi V f c au E K L [.l [] [57,56,55,1,3] [1] (av Tryz.f55 1) (mW a E 0 V f c au E K L) (.exit 2) (BC a M d e N Q F R),.l [] [100,99,98,3,1] [1] (av Tryz.f55 2) (nQ a F 0 M d e N Q F R) (.exit 4) (FF a X g i Y Z dz S),.l [] [130,129,128,3] [] (av Tryz.f55 3) (sC a S 0) (.exit 6) L0])):
 aw 55 [.agg (cl C a b A G H bi)] [al true]:=
 h.of
