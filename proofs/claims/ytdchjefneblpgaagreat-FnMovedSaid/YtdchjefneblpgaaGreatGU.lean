import Derived.Test.YtdchjefneblpgaaGreatGE
set_option linter.unusedVariables false
set_option linter.unusedSimpArgs false
namespace Go.Proofs.YtdchjefneblpgaaGreat
open Go.Sx Go.RowKit
variable {a b c d e f g i j k l m n o p a0 b4 cW d0 bz f0 : Int} {A C E F G H al K L M N Q R S bl V X Y Z dL : af} {q r s t u v w x y z gj iv hG t0 : Bool}
theorem Zk(h:ad [.b (decide (a<1)) true]):
 av 245 [ae b,ae a] [ae 0]:=
 h.of
def E5(a:Int)(l:List O):List O:=.b (decide (a<1)) false::.p (a≠0)::l
theorem Zl(h:ad (E5 a [.b (decide (b.tmod a<0)) true,.v (b.tmod a+a)])):
 av 245 [ae b,ae a] [ae (b.tmod a+a)]:=
 h.of
theorem Zm(h:ad (E5 a [.b (decide (b.tmod a<0)) false])):
 av 245 [ae b,ae a] [ae (b.tmod a)]:=
 h.of
theorem Zn(h:ad [.b (decide (a<1)) true]):
 av 147 [ae b,ae a] [ae 0]:=
 h.of
theorem Zo(h:ad (E5 a [.b (decide (b.tmod a<0)) true,.v (b.tmod a+a)])):
 av 147 [ae b,ae a] [ae (b.tmod a+a)]:=
 h.of
theorem Zp(h:ad (E5 a [.b (decide (b.tmod a<0)) false])):
 av 147 [ae b,ae a] [ae (b.tmod a)]:=
 h.of
def tL(A:af)(a:Int):aH:=bj 21 [(0,dJ 4 A),(3,aZ a)] []
def JJ(q:Bool):aH:=bj 21 [(2,.aJ (.one (.bc q)))] []
def E6(A:af)(a b c d e f g i j:Int)(l:List O):List O:=.f A a true::.v (a-1)::.p (0<=a-1)::.p (a-1<(A.length:Int))::.e A ((a-1).toNat) [I b,I c,I d,I e]::.x A a [I f,I g,I i,I j]::l
theorem Zq(h:ad (E6 A a c d e f g i j k [.r 307 [.agg [I c,I d,I e,I f],.agg [I g,I i,I j,I k]] [ae b],.b (decide (b>=0)) true])):
 a1 (ar Tryz.f266 0) (tL A a) .ret (JJ false):=
 h.aW [2] []
theorem Zr(h:ad (E6 A a c d e f g i j k [.r 307 [.agg [I c,I d,I e,I f],.agg [I g,I i,I j,I k]] [ae b],.b (decide (b>=0)) false,.u a])):
 a1 (ar Tryz.f266 0) (tL A a) .normal (tL A (a+1)):=
 h.aW [3,0] []
def Qy:aH:=bj 21 [] []
theorem Zs(h:ad [.f A a false]):
 a1 (ar Tryz.f266 0) (tL A a) (.exit 0) Qy:=
 h.aW [] []
theorem Zt(h:ad [.l [] [3,0] [] (ar Tryz.f266 0) (tL A 1) .ret (JJ q)]):
 av 266 [a7 4 A] [ao q]:=
 h.of
theorem Zu(h:ad [.l [] [3,0] [] (ar Tryz.f266 0) (tL A 1) (.exit 0) Qy]):
 av 266 [a7 4 A] [ao true]:=
 h.of
def tM(A:af)(a:Int):aH:=bj 21 [(0,dJ 4 A),(3,aZ a)] []
def JK(q:Bool):aH:=bj 21 [(2,.aJ (.one (.bc q)))] []
theorem Zv(h:ad (E6 A a c d e f g i j k [.r 304 [.agg [I c,I d,I e,I f],.agg [I g,I i,I j,I k]] [ae b],.b (decide (b>=0)) true])):
 a1 (ar Tryz.f280 0) (tM A a) .ret (JK false):=
 h.aW [2] []
theorem Zw(h:ad (E6 A a c d e f g i j k [.r 304 [.agg [I c,I d,I e,I f],.agg [I g,I i,I j,I k]] [ae b],.b (decide (b>=0)) false,.u a])):
 a1 (ar Tryz.f280 0) (tM A a) .normal (tM A (a+1)):=
 h.aW [3,0] []
def Qz:aH:=bj 21 [] []
theorem Zx(h:ad [.f A a false]):
 a1 (ar Tryz.f280 0) (tM A a) (.exit 0) Qz:=
 h.aW [] []
theorem Zy(h:ad [.l [] [3,0] [] (ar Tryz.f280 0) (tM A 1) .ret (JK q)]):
 av 280 [a7 4 A] [ao q]:=
 h.of
theorem Zz(h:ad [.l [] [3,0] [] (ar Tryz.f280 0) (tM A 1) (.exit 0) Qz]):
 av 280 [a7 4 A] [ao true]:=
 h.of
def tN(A:af)(a b:Int)(C:af)(c:Int):aH:=bj 29 [(1,dJ 5 C),(2,aR 2),(5,aZ c)] [(2,[.J .free 4 A,aw a,aw b])]
def CM(q:Bool):aH:=bj 29 [(4,.aJ (.one (.bc q)))] []
def Bg(A:af)(a b c d e f:Int)(q:Bool)(l:List O):List O:=.i A a (bi b c d e f)::.r 122 [.agg (bi b c d e f)] [ao q]::l
theorem ZA(h:ad (Bg A a b c d e f q [.n q true])):
 a1 (ar Tryz.f192 0) (tN C g i A a) .ret (CM false):=
 h.aW [4] []
theorem ZB(h:ad (Bg A a c d e f g q [.n q false,.x A a (bi b j k l m),.b (decide (b>=(C.length:Int))) true])):
 a1 (ar Tryz.f192 0) (tN C i n A a) .ret (CM false):=
 h.aW [4] []
theorem ZC(h:ad (Bg A a e f g i j q [.n q false,.x A a (bi c k l m n),.b (decide (c>=(C.length:Int))) false,.u a])):
 a1 (ar Tryz.f192 0) (tN C b d A a) .normal (tN C b d A (a+1)):=
 h.aW [5,1,2] [2]
def QA:aH:=bj 29 [] []
theorem ZD(h:ad [.f A a false]):
 a1 (ar Tryz.f192 0) (tN C b c A a) (.exit 0) QA:=
 h.aW [] []
theorem ZE(h:ad [.l [] [5,1,2] [2] (ar Tryz.f192 0) (tN A a b C 0) .ret (CM q)]):
 av 192 [.agg (bD A a b),a7 5 C] [ao q]:=
 h.of
theorem ZF(h:ad [.l [] [5,1,2] [2] (ar Tryz.f192 0) (tN A a b C 0) (.exit 0) QA]):
 av 192 [.agg (bD A a b),a7 5 C] [ao true]:=
 h.of
def tO(A:af)(a:Int)(C:af)(b c:Int):aH:=bj 24 [(2,aR 2),(7,dJ 5 A),(8,aZ (A.length:Int)),(9,aZ a)] [(2,[.J .free 4 C,aw b,aw c])]
def CN(q:Bool):aH:=bj 24 [(4,.aJ (.one (.bc q)))] []
def Bh(A:af)(a b c d e f:Int)(q:Bool)(l:List O):List O:=.i A a (bi b c d e f)::.r 180 [.agg (bi b c d e f)] [ao q]::l
theorem ZG(h:ad (Bh A d e f a b c q [.n q true])):
 a1 (ar Tryz.f189 0) (tO A d C g i) .ret (CN false):=
 h.aW [4] []
theorem ZH(h:ad (Bh A e a i b c d q [.n q false,.r 250 [.agg (bD C f g),ae a] [ao r],.n r true])):
 a1 (ar Tryz.f189 0) (tO A e C f g) .ret (CN false):=
 h.aW [4] []
theorem ZI(h:ad (Bh A a d i e f g q [.n q false,.r 250 [.agg (bD C b c),ae d] [ao r],.n r false,.u a])):
 a1 (ar Tryz.f189 0) (tO A a C b c) .normal (tO A (a+1) C b c):=
 h.aW [9,8,7,2] [2]
def QB:aH:=bj 24 [] []
theorem YU(h:ad [.f A a false]):
 a1 (ar Tryz.f189 0) (tO A a C b c) (.exit 0) QB:=
 h.aW [] []
theorem YV(h:ad [.l [] [9,8,7,2] [2] (ar Tryz.f189 0) (tO C 0 A a b) .ret (CN q)]):
 av 189 [.agg (bD A a b),a7 5 C] [ao q]:=
 h.of
theorem YW(h:ad [.l [] [9,8,7,2] [2] (ar Tryz.f189 0) (tO C 0 A a b) (.exit 0) QB]):
 av 189 [.agg (bD A a b),a7 5 C] [ao true]:=
 h.of
def VG(A:af)(a b:Int)(C:af)(q:Bool)(l:List O):List O:=.r 192 [.agg (bD A a b),a7 5 C] [ao q]::l
theorem YX(h:ad (VG A a b C q [.n q true])):
 av 175 [.agg (bD A a b),.agg (ba C F G H al K L E)] [ao false]:=
 h.of
def Vg(A:af)(a b:Int)(C:af)(q:Bool)(E:af)(r:Bool)(l:List O):List O:=VG A a b C q (.n q false::.r 192 [.agg (bD A a b),a7 5 E] [ao r]::l)
theorem YY(h:ad (Vg A a b C q E r [.n r true])):
 av 175 [.agg (bD A a b),.agg (ba C E G H al K L F)] [ao false]:=
 h.of
def Vh(A:af)(a b:Int)(C:af)(q:Bool)(E:af)(r:Bool)(F:af)(s:Bool)(l:List O):List O:=Vg A a b C q E r (.n r false::.r 192 [.agg (bD A a b),a7 5 F] [ao s]::l)
theorem YZ(h:ad (Vh A a b C q E r F s [.n s true])):
 av 175 [.agg (bD A a b),.agg (ba C E F H al K L G)] [ao false]:=
 h.of
def L5(A:af)(a b:Int)(C:af)(q:Bool)(E:af)(r:Bool)(F:af)(s:Bool)(G:af)(t:Bool)(l:List O):List O:=Vh A a b C q E r F s (.n s false::.r 266 [a7 4 G] [ao t]::l)
theorem Y0(h:ad (L5 A a b C q E r F s G t [.n t true])):
 av 175 [.agg (bD A a b),.agg (ba C E F G al K L H)] [ao false]:=
 h.of
theorem Y1(h:ad (L5 A a b C q E r F s G t [.n t false,.b ((H.length:Int) != 4) true])):
 av 175 [.agg (bD A a b),.agg (ba C E F G H K L al)] [ao false]:=
 h.of
def Vi(A:af)(a b:Int)(C:af)(q:Bool)(E:af)(r:Bool)(F:af)(s:Bool)(G:af)(t:Bool)(H:af)(l:List O):List O:=L5 A a b C q E r F s G t (.n t false::.b ((H.length:Int) != 4) false::l)
theorem Y2(h:ad (Vi A a b C q E r F s G t H [.b ((al.length:Int) != 4) true])):
 av 175 [.agg (bD A a b),.agg (ba C E F G H al L K)] [ao false]:=
 h.of
def L6(A:af)(a b:Int)(C:af)(q:Bool)(E:af)(r:Bool)(F:af)(s:Bool)(G:af)(t:Bool)(H al:af)(l:List O):List O:=Vi A a b C q E r F s G t H (.b ((al.length:Int) != 4) false::l)
theorem Y3(h:ad (L6 A a b C q E r F s G t H al [.b ((K.length:Int) != 4) true])):
 av 175 [.agg (bD A a b),.agg (ba C E F G H al K L)] [ao false]:=
 h.of
def nK(A C E F G H al K:af)(a:Int):aH:=bj 147 [(3,aR 3),(5,aZ 4),(6,aZ a)] [(3,[.J .free 5 A,.J .free 5 C,.J .free 5 E,.J .free 4 F,.J .free 1 G,.J .free 1 H,.J .free 1 al,.J .free 2 K])]
def Ay(q:Bool):aH:=bj 147 [(4,.aJ (.one (.bc q)))] []
theorem Y4(h:ad [.i A a (bi b c d e f),.b (b != 0) true]):
 a1 (ar Tryz.f175 0) (nK E F A G H al K C a) .ret (Ay false):=
 h.aW [4] []
def uc(A:af)(a b c d e f:Int)(l:List O):List O:=.i A a (bi b c d e f)::.b (b != 0) false::l
theorem Y5(h:ad (uc A a b d e f g [.x A a (bi i j c k l),.b (c != 0) true])):
 a1 (ar Tryz.f175 0) (nK E F A G H al K C a) .ret (Ay false):=
 h.aW [4] []
theorem Y6(h:ad (uc A a b f g i j [.x A a (bi k l c m n),.b (c != 0) false,.b (decide (a>0)) true,.v (a-1),.p (0<=a-1),.p (a-1<(A.length:Int)),.e A ((a-1).toNat) (bi o d p a0 b4),.x A a (bi cW e d0 bz f0),.b (decide (d>e)) true])):
 a1 (ar Tryz.f175 0) (nK E F A G H al K C a) .ret (Ay false):=
 h.aW [4] []
theorem Y7(h:ad (uc A a b f g i j [.x A a (bi k l c m n),.b (c != 0) false,.b (decide (a>0)) true,.v (a-1),.p (0<=a-1),.p (a-1<(A.length:Int)),.e A ((a-1).toNat) (bi o d p a0 b4),.x A a (bi cW e d0 bz f0),.b (decide (d>e)) false,.u a])):
 a1 (ar Tryz.f175 0) (nK E F A G H al K C a) .normal (nK E F A G H al K C (a+1)):=
 h.aW [6,3,5] [3]
theorem Y8(h:ad (uc A a b d e f g [.x A a (bi i j c k l),.b (c != 0) false,.b (decide (a>0)) false,.u a])):
 a1 (ar Tryz.f175 0) (nK E F A G H al K C a) .normal (nK E F A G H al K C (a+1)):=
 h.aW [6,3,5] [3]
def HR(A C E F G H al K:af):aH:=bj 147 [(3,aR 3),(5,aZ 4)] [(3,[.J .free 5 A,.J .free 5 C,.J .free 5 E,.J .free 4 F,.J .free 1 G,.J .free 1 H,.J .free 1 al,.J .free 2 K])]
theorem Y9(h:ad [.f A a false]):
 a1 (ar Tryz.f175 0) (nK E F A G H al K C a) (.exit 0) (HR E F A G H al K C):=
 h.aW [5,3] [3]
theorem Y'(h:ad (L6 A a b C q E r F s G t H al [.b ((K.length:Int) != 4) false,.l [] [6,3,5] [3] (ar Tryz.f175 0) (nK C E F G H al K L 0) .ret (Ay u)])):
 av 175 [.agg (bD A a b),.agg (ba C E F G H al K L)] [ao u]:=
 h.of
def tP(A C E F G H al K:af)(a:Int):aH:=bj 147 [(3,aR 3),(5,aZ 4),(7,aZ a)] [(3,[.J .free 5 A,.J .free 5 C,.J .free 5 E,.J .free 4 F,.J .free 1 G,.J .free 1 H,.J .free 1 al,.J .free 2 K])]
def JL(q:Bool):aH:=bj 147 [(4,.aJ (.one (.bc q)))] []
theorem Za(h:ad [.b (decide (a<4)) true,.x A a [I b],.r 168 [ae b,ae (-1000000),ae 1000000] [ao q],.n q true]):
 a1 (ar Tryz.f175 1) (tP E F G H A al K C a) .ret (JL false):=
 h.aW [4] []
theorem Zb(h:ad [.b (decide (a<4)) true,.x A a [I b],.r 168 [ae b,ae (-1000000),ae 1000000] [ao q],.n q false,.u a]):
 a1 (ar Tryz.f175 1) (tP E F G H A al K C a) .normal (tP E F G H A al K C (a+1)):=
 h.aW [7,5,3] [3]
def JM(A C E F G H al K:af):aH:=bj 147 [(3,aR 3)] [(3,[.J .free 5 A,.J .free 5 C,.J .free 5 E,.J .free 4 F,.J .free 1 G,.J .free 1 H,.J .free 1 al,.J .free 2 K])]
theorem Zc(h:ad [.b (decide (a<4)) false]):
 a1 (ar Tryz.f175 1) (tP C E F G H al K A a) (.exit 2) (JM C E F G H al K A):=
 h.aW [3] [3]
def L7(A:af)(a b:Int)(C:af)(q:Bool)(E:af)(r:Bool)(F:af)(s:Bool)(G:af)(t:Bool)(H al K:af)(W:Code)(L:af)(l:List O):List O:=L6 A a b C q E r F s G t H al (.b ((K.length:Int) != 4) false::.l [] [6,3,5] [3] W (nK C E F G H al K L 0) (.exit 0) (HR C E F G H al K L)::l)
theorem Zd(h:ad (L7 K a b A q C r E s F t G H al (ar Tryz.f175 0) L [.l [] [7,5,3] [3] (ar Tryz.f175 1) (tP A C E F G H al L 0) .ret (JL u)])):
 av 175 [.agg (bD K a b),.agg (ba A C E F G H al L)] [ao u]:=
 h.of
def qR(A C E F G H al K:af)(a:Int):aH:=bj 147 [(3,aR 3),(8,aZ a)] [(3,[.J .free 5 A,.J .free 5 C,.J .free 5 E,.J .free 4 F,.J .free 1 G,.J .free 1 H,.J .free 1 al,.J .free 2 K])]
def CO(q:Bool):aH:=bj 147 [(4,.aJ (.one (.bc q)))] []
theorem Ze(h:ad [.i A a [I b,B r],.r 168 [ae b,ae 0,ae 3] [ao q],.n q true]):
 a1 (ar Tryz.f175 2) (qR C E F G H al K A a) .ret (CO false):=
 h.aW [4] []
def sj(A C E F G H al K:af)(a b:Int):aH:=bj 147 [(3,aR 3),(8,aZ a),(9,aZ b)] [(3,[.J .free 5 A,.J .free 5 C,.J .free 5 E,.J .free 4 F,.J .free 1 G,.J .free 1 H,.J .free 1 al,.J .free 2 K])]
def CP(q:Bool):aH:=bj 147 [(4,.aJ (.one (.bc q)))] []
theorem Zf(h:ad [.b (decide (b<a)) true,.x A b [I c,B q],.x A a [I d,B r],.b (c==d) true]):
 a1 (ar Tryz.f175 3) (sj C E F G H al K A a b) .ret (CP false):=
 h.aW [4] []
theorem Zg(h:ad [.b (decide (a<b)) true,.x A a [I c,B q],.x A b [I d,B r],.b (c==d) false,.u a]):
 a1 (ar Tryz.f175 3) (sj C E F G H al K A b a) .normal (sj C E F G H al K A b (a+1)):=
 h.aW [9,8,3] [3]
def JN(A C E F G H al K:af)(a:Int):aH:=bj 147 [(3,aR 3),(8,aZ a)] [(3,[.J .free 5 A,.J .free 5 C,.J .free 5 E,.J .free 4 F,.J .free 1 G,.J .free 1 H,.J .free 1 al,.J .free 2 K])]
theorem Zh(h:ad [.b (decide (b<a)) false]):
 a1 (ar Tryz.f175 3) (sj C E F G H al K A a b) (.exit 6) (JN C E F G H al K A a):=
 h.aW [8,3] [3]
theorem Zi(h:ad [.i A a [I b,B s],.r 168 [ae b,ae 0,ae 3] [ao q],.n q false,.l [] [9,8,3] [3] (ar Tryz.f175 3) (sj C E F G H al K A a 0) .ret (CP r)]):
 a1 (ar Tryz.f175 2) (qR C E F G H al K A a) .ret (CO r):=
 h.aW [4] []
theorem YK(h:ad [.i A a [I b,B r],.r 168 [ae b,ae 0,ae 3] [ao q],.n q false,.l [] [9,8,3] [3] (ar Tryz.f175 3) (sj C E F G H al K A a 0) (.exit 6) (JN C E F G H al K A a),.u a]):
 a1 (ar Tryz.f175 2) (qR C E F G H al K A a) .normal (qR C E F G H al K A (a+1)):=
 h.aW [8,3] [3]
def JO:aH:=bj 147 [] []
theorem YL(h:ad [.f A a false]):
 a1 (ar Tryz.f175 2) (qR C E F G H al K A a) (.exit 4) JO:=
 h.aW [] []
theorem YM(h:ad (L7 L a b A q C r E s F t G H al (ar Tryz.f175 0) K [.l [] [7,5,3] [3] (ar Tryz.f175 1) (tP A C E F G H al K 0) (.exit 2) (JM A C E F G H al K),.l [] [8,3] [3] (ar Tryz.f175 2) (qR A C E F G H al K 0) .ret (CO u)])):
 av 175 [.agg (bD L a b),.agg (ba A C E F G H al K)] [ao u]:=
 h.of
theorem YN(h:ad (L7 L a b A q C r E s F t G H al (ar Tryz.f175 0) K [.l [] [7,5,3] [3] (ar Tryz.f175 1) (tP A C E F G H al K 0) (.exit 2) (JM A C E F G H al K),.l [] [8,3] [3] (ar Tryz.f175 2) (qR A C E F G H al K 0) (.exit 4) JO])):
 av 175 [.agg (bD L a b),.agg (ba A C E F G H al K)] [ao true]:=
 h.of
def Vk(A:af)(a b:Int)(C:af)(q:Bool)(l:List O):List O:=.r 189 [.agg (bD A a b),a7 5 C] [ao q]::l
theorem YO(h:ad (Vk A a b C q [.n q true])):
 av 187 [.agg (bD A a b),.agg (ba C F G H al K L E)] [ao false]:=
 h.of
def Vl(A:af)(a b:Int)(C:af)(q:Bool)(E:af)(r:Bool)(l:List O):List O:=Vk A a b C q (.n q false::.r 189 [.agg (bD A a b),a7 5 E] [ao r]::l)
theorem YP(h:ad (Vl A a b C q E r [.n r true])):
 av 187 [.agg (bD A a b),.agg (ba C E G H al K L F)] [ao false]:=
 h.of
def Vm(A:af)(a b:Int)(C:af)(q:Bool)(E:af)(r:Bool)(F:af)(s:Bool)(l:List O):List O:=Vl A a b C q E r (.n r false::.r 189 [.agg (bD A a b),a7 5 F] [ao s]::l)
theorem YQ(h:ad (Vm A a b C q E r F s [.n s true])):
 av 187 [.agg (bD A a b),.agg (ba C E F H al K L G)] [ao false]:=
 h.of
def L8(A:af)(a b:Int)(C:af)(q:Bool)(E:af)(r:Bool)(F:af)(s:Bool)(G:af)(t:Bool)(l:List O):List O:=Vm A a b C q E r F s (.n s false::.r 280 [a7 4 G] [ao t]::l)
theorem YR(h:ad (L8 A a b C q E r F s G t [.n t true])):
 av 187 [.agg (bD A a b),.agg (ba C E F G al K L H)] [ao false]:=
 h.of
def nJ(A:af)(a:Int)(C E F G H al K L:af):aH:=bj 121 [(3,aR 3),(37,dJ 5 A),(38,aZ (A.length:Int)),(39,aZ a)] [(3,[.J .free 5 C,.J .free 5 E,.J .free 5 F,.J .free 4 G,.J .free 1 H,.J .free 1 al,.J .free 1 K,.J .free 2 L])]
def Az(q:Bool):aH:=bj 121 [(4,.aJ (.one (.bc q)))] []
theorem YS(h:ad [.i A a (bi b c d e f),.b (b != 0) true]):
 a1 (ar Tryz.f187 0) (nJ A a C E F G H al K L) .ret (Az false):=
 h.aW [4] []
theorem YT(h:ad (uc A a b d c e f [.b (c != 0) true])):
 a1 (ar Tryz.f187 0) (nJ A a C E F G H al K L) .ret (Az false):=
 h.aW [4] []
theorem aaj(h:ad (uc C a b c d f g [.b (d != 0) false,.b (decide (a>0)) true,.v (a-1),.p (0<=a-1),.p (a-1<(A.length:Int)),.e A ((a-1).toNat) (bi i e j k l),.b (decide (e>c)) true])):
 a1 (ar Tryz.f187 0) (nJ C a E F A G H al K L) .ret (Az false):=
 h.aW [4] []
theorem aak(h:ad (uc C a b c d f g [.b (d != 0) false,.b (decide (a>0)) true,.v (a-1),.p (0<=a-1),.p (a-1<(A.length:Int)),.e A ((a-1).toNat) (bi i e j k l),.b (decide (e>c)) false,.u a])):
 a1 (ar Tryz.f187 0) (nJ C a E F A G H al K L) .normal (nJ C (a+1) E F A G H al K L):=
 h.aW [39,38,37,3] [3]
theorem aal(h:ad (uc A a b d c e f [.b (c != 0) false,.b (decide (a>0)) false,.u a])):
 a1 (ar Tryz.f187 0) (nJ A a C E F G H al K L) .normal (nJ A (a+1) C E F G H al K L):=
 h.aW [39,38,37,3] [3]
def HO(A C E F G H al K:af):aH:=bj 121 [(3,aR 3)] [(3,[.J .free 5 A,.J .free 5 C,.J .free 5 E,.J .free 4 F,.J .free 1 G,.J .free 1 H,.J .free 1 al,.J .free 2 K])]
theorem aam(h:ad [.f L a false]):
 a1 (ar Tryz.f187 0) (nJ L a A C E F G H al K) (.exit 0) (HO A C E F G H al K):=
 h.aW [3] [3]
theorem aan(h:ad (L8 A a b E q F r C s G t [.n t false,.l [] [39,38,37,3] [3] (ar Tryz.f187 0) (nJ C 0 E F C G al K L H) .ret (Az u)])):
 av 187 [.agg (bD A a b),.agg (ba E F C G al K L H)] [ao u]:=
 h.of
def L9(A:af)(a b:Int)(C:af)(q:Bool)(E:af)(r:Bool)(F:af)(s:Bool)(G:af)(t:Bool)(W:Code)(H al K L M N P Q R S bl V:af)(l:List O):List O:=L8 A a b C q E r F s G t (.n t false::.l [] [39,38,37,3] [3] W (nJ F 0 C E F G H al K L) (.exit 0) (HO M N P Q R S bl V)::l)
theorem aao(h:ad (L9 A a b E q F r C s G t (ar Tryz.f187 0) K L M H N Q R S al bl V X [.b ((al.length:Int) != 4) true])):
 av 187 [.agg (bD A a b),.agg (ba E F C G K L M H)] [ao false]:=
 h.of
theorem aap(h:ad (L9 A a b E q F r C s G t (ar Tryz.f187 0) L M N H Q R S bl al K V X [.b ((al.length:Int) != 4) false,.b ((K.length:Int) != 4) true])):
 av 187 [.agg (bD A a b),.agg (ba E F C G L M N H)] [ao false]:=
 h.of
def EY(A:af)(a b:Int)(C:af)(q:Bool)(E:af)(r:Bool)(F:af)(s:Bool)(G:af)(t:Bool)(W:Code)(H al K L M N P Q R S bl V:af)(l:List O):List O:=L9 A a b C q E r F s G t W H al K L M N P Q R S bl V (.b ((R.length:Int) != 4) false::.b ((S.length:Int) != 4) false::l)
theorem aaq(h:ad (EY A a b E q F r C s G t (ar Tryz.f187 0) M N Q H R S bl V al K L X [.b ((L.length:Int) != 4) true])):
 av 187 [.agg (bD A a b),.agg (ba E F C G M N Q H)] [ao false]:=
 h.of
def tQ(C E F G A H al K:af)(a:Int):aH:=bj 121 [(3,aR 3),(89,dJ 1 A),(90,aZ (A.length:Int)),(91,aZ a)] [(3,[.J .free 5 C,.J .free 5 E,.J .free 5 F,.J .free 4 G,.J .free 1 A,.J .free 1 H,.J .free 1 al,.J .free 2 K])]
def JP(q:Bool):aH:=bj 121 [(4,.aJ (.one (.bc q)))] []
theorem aar(h:ad [.i A a [I b],.r 190 [ae b,ae (-1000000),ae 1000000] [ao q],.n q true]):
 a1 (ar Tryz.f187 1) (tQ C E F G A H al K a) .ret (JP false):=
 h.aW [4] []
theorem aas(h:ad [.i A a [I b],.r 190 [ae b,ae (-1000000),ae 1000000] [ao q],.n q false,.u a]):
 a1 (ar Tryz.f187 1) (tQ C E F G A H al K a) .normal (tQ C E F G A H al K (a+1)):=
 h.aW [91,90,89,3] [3]
def JQ(A C E F G H al K:af):aH:=bj 121 [(3,aR 3)] [(3,[.J .free 5 A,.J .free 5 C,.J .free 5 E,.J .free 4 F,.J .free 1 G,.J .free 1 H,.J .free 1 al,.J .free 2 K])]
theorem aat(h:ad [.f A a false]):
 a1 (ar Tryz.f187 1) (tQ C E F G A H al K a) (.exit 2) (JQ C E F G A H al K):=
 h.aW [3] [3]
theorem aau(h:ad (EY A a b H q al r C s K t (ar Tryz.f187 0) bl V X L M N Q R E F G S [.b ((G.length:Int) != 4) false,.l [] [91,90,89,3] [3] (ar Tryz.f187 1) (tQ M N Q R E F G S 0) .ret (JP u)])):
 av 187 [.agg (bD A a b),.agg (ba H al C K bl V X L)] [ao u]:=
 h.of
def qS(A:af)(a:Int)(C E F G H al K L:af):aH:=bj 121 [(3,aR 3),(100,dJ 2 A),(101,aZ (A.length:Int)),(102,aZ a)] [(3,[.J .free 5 C,.J .free 5 E,.J .free 5 F,.J .free 4 G,.J .free 1 H,.J .free 1 al,.J .free 1 K,.J .free 2 L])]
def CQ(q:Bool):aH:=bj 121 [(4,.aJ (.one (.bc q)))] []
theorem aav(h:ad [.i A a [I b,B r],.r 190 [ae b,ae 0,ae 3] [ao q],.n q true]):
 a1 (ar Tryz.f187 2) (qS A a C E F G H al K L) .ret (CQ false):=
 h.aW [4] []
def Vj(A:af)(a b:Int)(q r:Bool)(C:af)(s:Bool)(l:List O):List O:=.i A a [I b,B q]::.r 190 [ae b,ae 0,ae 3] [ao r]::.n r false::.p ((0:Int)<=none.getD 0)::.p (none.getD 0<=(some a).getD (C.length:Int))::.p ((some a).getD (C.length:Int)<=(C.length:Int))::.r 281 [.one (.J 2 (List.take (((some a).getD (C.length:Int)).toNat-0) (List.drop 0 C))),ae b] [ao s]::l
theorem aaw(h:ad (Vj C a b s q A r [.b r true])):
 a1 (ar Tryz.f187 2) (qS C a E F G H al K L A) .ret (CQ false):=
 h.aW [4] []
theorem aax(h:ad (Vj C a b s q A r [.b r false,.u a])):
 a1 (ar Tryz.f187 2) (qS C a E F G H al K L A) .normal (qS C (a+1) E F G H al K L A):=
 h.aW [102,101,100,3] [3]
def JR:aH:=bj 121 [] []
theorem aay(h:ad [.f A a false]):
 a1 (ar Tryz.f187 2) (qS A a C E F G H al K L) (.exit 4) JR:=
 h.aW [] []
theorem aaz(h:ad (EY G a b N q Q r M s R t (ar Tryz.f187 0) bl V X S H al K L A C E F [.b ((E.length:Int) != 4) false,.l [] [91,90,89,3] [3] (ar Tryz.f187 1) (tQ H al K L A C E F 0) (.exit 2) (JQ H al K L A C E F),.l [] [102,101,100,3] [3] (ar Tryz.f187 2) (qS F 0 H al K L A C E F) .ret (CQ u)])):
 av 187 [.agg (bD G a b),.agg (ba N Q M R bl V X S)] [ao u]:=
 h.of
theorem aaA(h:ad (EY G a b N q Q r M s R t (ar Tryz.f187 0) bl V X S H al K L A C E F [.b ((E.length:Int) != 4) false,.l [] [91,90,89,3] [3] (ar Tryz.f187 1) (tQ H al K L A C E F 0) (.exit 2) (JQ H al K L A C E F),.l [] [102,101,100,3] [3] (ar Tryz.f187 2) (qS F 0 H al K L A C E F) (.exit 4) JR])):
 av 187 [.agg (bD G a b),.agg (ba N Q M R bl V X S)] [ao true]:=
 h.of
def vd(a:Int)(A:af)(b c d e f:Int):aH:=bj 70 [(1,aR 1),(3,aZ f)] [(1,[aw a,.J .free 5 A,aw b,aw c,aw d,aw e])]
def JS(q:Bool):aH:=bj 70 [(2,.aJ (.one (.bc q)))] []
theorem aaB(h:ad (Bg A c d e f a b q [.n q true])):
 a1 (ar Tryz.f191 0) (vd g A i j k l c) .ret (JS false):=
 h.aW [2] []
theorem aaC(h:ad (Bg A a j k l c d q [.n q false,.u a])):
 a1 (ar Tryz.f191 0) (vd b A e f g i a) .normal (vd b A e f g i (a+1)):=
 h.aW [3,1] [1]
def Oq(a:Int)(A:af)(b c d e:Int):aH:=bj 70 [(1,aR 1)] [(1,[aw a,.J .free 5 A,aw b,aw c,aw d,aw e])]
theorem aaD(h:ad [.f A f false]):
 a1 (ar Tryz.f191 0) (vd a A b c d e f) (.exit 0) (Oq a A b c d e):=
 h.aW [1] [1]
theorem aaE(h:ad [.l [] [3,1] [1] (ar Tryz.f191 0) (vd a A b c d e 0) .ret (JS q)]):
 av 191 [.agg (bO a A b c d e)] [ao q]:=
 h.of
def Vn(W:Code)(a:Int)(A:af)(b c d e:Int)(q:Bool)(l:List O):List O:=.l [] [3,1] [1] W (vd a A b c d e 0) (.exit 0) (Oq a A b c d e)::.r 168 [ae a,ae 1,ae 4] [ao q]::l
def Vo(W:Code)(a:Int)(A:af)(b c d e:Int)(q r:Bool)(l:List O):List O:=Vn W a A b c d e q (.b q true::.r 168 [ae b,ae 0,ae a] [ao r]::l)
def Vp(W:Code)(a:Int)(A:af)(b c d e:Int)(q r s:Bool)(l:List O):List O:=Vo W a A b c d e q r (.b r true::.r 168 [ae c,ae 0,ae a] [ao s]::l)
def Vq(W:Code)(a:Int)(A:af)(b c d e:Int)(q r s:Bool)(l:List O):List O:=Vp W a A b c d e q r s (.b s true::.v (b+c)::.v (b+c+(A.length:Int))::l)
def Ma(W:Code)(a:Int)(A:af)(b c d e:Int)(q r s t:Bool)(l:List O):List O:=Vq W a A b c d e q r s (.b (b+c+(A.length:Int)==a) true::.r 168 [ae d,ae 0,ae 1000000000] [ao t]::l)
theorem aaF(h:ad (Ma (ar Tryz.f191 0) a A b c d e q r s t [.b t true,.v (d-(A.length:Int)),.b (e==d-(A.length:Int)) true])):
 av 191 [.agg (bO a A b c d e)] [ao (decide (e>=0))]:=
 h.of
theorem aaG(h:ad (Ma (ar Tryz.f191 0) a A b c d e q r s t [.b t true,.v (d-(A.length:Int)),.b (e==d-(A.length:Int)) false])):
 av 191 [.agg (bO a A b c d e)] [ao false]:=
 h.of
theorem aaH(h:ad (Ma (ar Tryz.f191 0) a A b c d e q r s t [.b t false])):
 av 191 [.agg (bO a A b c d e)] [ao false]:=
 h.of
theorem aaI(h:ad (Vq (ar Tryz.f191 0) a A b c d e q r s [.b (b+c+(A.length:Int)==a) false])):
 av 191 [.agg (bO a A b c d e)] [ao false]:=
 h.of
theorem ZT(h:ad (Vp (ar Tryz.f191 0) a A b c d e q r s [.b s false])):
 av 191 [.agg (bO a A b c d e)] [ao false]:=
 h.of
theorem ZU(h:ad (Vo (ar Tryz.f191 0) a A b c d e q r [.b r false])):
 av 191 [.agg (bO a A b c d e)] [ao false]:=
 h.of
theorem ZV(h:ad (Vn (ar Tryz.f191 0) a A b c d e q [.b q false])):
 av 191 [.agg (bO a A b c d e)] [ao false]:=
 h.of
def Vr(a:Int)(q:Bool)(l:List O):List O:=.r 190 [ae a,ae 1,ae 4] [ao q]::l
theorem ZW(h:ad (Vr a q [.n q true])):
 av 188 [.agg (bO a A b c d e)] [ao false]:=
 h.of
def Vs(a:Int)(q:Bool)(b:Int)(r:Bool)(l:List O):List O:=Vr a q (.n q false::.r 190 [ae b,ae 0,ae a] [ao r]::l)
theorem ZX(h:ad (Vs a q b r [.n r true])):
 av 188 [.agg (bO a A b c d e)] [ao false]:=
 h.of
def Vt(a:Int)(q:Bool)(b:Int)(r:Bool)(c:Int)(s:Bool)(l:List O):List O:=Vs a q b r (.n r false::.r 190 [ae c,ae 0,ae a] [ao s]::l)
theorem ZY(h:ad (Vt a q b r c s [.n s true])):
 av 188 [.agg (bO a A b c d e)] [ao false]:=
 h.of
def Vu(a:Int)(q:Bool)(b:Int)(r:Bool)(c:Int)(s:Bool)(A:af)(l:List O):List O:=Vt a q b r c s (.n s false::.v (b+c)::.v (b+c+(A.length:Int))::l)
theorem ZZ(h:ad (Vu a q b r c s A [.b (b+c+(A.length:Int) != a) true])):
 av 188 [.agg (bO a A b c d e)] [ao false]:=
 h.of
def EZ(a:Int)(q:Bool)(b:Int)(r:Bool)(c:Int)(s:Bool)(A:af)(d:Int)(t:Bool)(l:List O):List O:=Vu a q b r c s A (.b (b+c+(A.length:Int) != a) false::.r 190 [ae d,ae 0,ae 1000000000] [ao t]::l)
theorem Z0(h:ad (EZ a q b r c s A d t [.n t true])):
 av 188 [.agg (bO a A b c d e)] [ao false]:=
 h.of
theorem Z1(h:ad (EZ a q b r c s A d t [.n t false,.b (decide (e<0)) true])):
 av 188 [.agg (bO a A b c d e)] [ao false]:=
 h.of
theorem Z2(h:ad (EZ a q b r c s A d t [.n t false,.b (decide (e<0)) false,.v (d-e),.b (d-e != (A.length:Int)) true])):
 av 188 [.agg (bO a A b c d e)] [ao false]:=
 h.of
theorem Z3(h:ad (EZ a r b s c t A d u [.n u false,.b (decide (e<0)) false,.v (d-e),.b (d-e != (A.length:Int)) false,.r 282 [a7 5 A] [ao q]])):
 av 188 [.agg (bO a A b c d e)] [ao q]:=
 h.of
def vj(A:af)(a:Int):aH:=bj 15 [(5,dJ 5 A),(6,aZ (A.length:Int)),(7,aZ a)] []
def JT(q:Bool):aH:=bj 15 [(2,.aJ (.one (.bc q)))] []
theorem Z4(h:ad (Bh A a b c d e f q [.n q true])):
 a1 (ar Tryz.f282 0) (vj A a) .ret (JT false):=
 h.aW [2] []
theorem Z5(h:ad (Bh A a b c d e f q [.n q false,.u a])):
 a1 (ar Tryz.f282 0) (vj A a) .normal (vj A (a+1)):=
 h.aW [7,6,5] []
def QC:aH:=bj 15 [] []
theorem Z6(h:ad [.f A a false]):
 a1 (ar Tryz.f282 0) (vj A a) (.exit 0) QC:=
 h.aW [] []
theorem Z7(h:ad [.l [] [7,6,5] [] (ar Tryz.f282 0) (vj A 0) .ret (JT q)]):
 av 282 [a7 5 A] [ao q]:=
 h.of
theorem Z8(h:ad [.l [] [7,6,5] [] (ar Tryz.f282 0) (vj A 0) (.exit 0) QC]):
 av 282 [a7 5 A] [ao true]:=
 h.of
def Mb(A:af)(a b:Int)(q:Bool)(l:List O):List O:=.r 121 [.agg (bD A a b)] [ao q]::l
theorem Z9(h:ad (Mb A a b q [.n q true])):
 av 56 [.agg (cl A a b C E F G)] [ao false]:=
 h.of
theorem Z'(h:ad (Mb A a b q [.n q false,.b ((C.length:Int) != a) true])):
 av 56 [.agg (cl A a b C E F G)] [ao false]:=
 h.of
def Vv(A:af)(a b:Int)(q:Bool)(C:af)(l:List O):List O:=Mb A a b q (.n q false::.b ((C.length:Int) != a) false::.v (a*a)::l)
theorem aab(h:ad (Vv A a b q C [.b ((E.length:Int) != a*a) true])):
 av 56 [.agg (cl A a b C E F G)] [ao false]:=
 h.of
def Vw(A:af)(a b:Int)(q:Bool)(C E:af)(l:List O):List O:=Vv A a b q C (.b ((E.length:Int) != a*a) false::l)
theorem aac(h:ad (Vw A a b q C E [.b ((F.length:Int) != 4) true])):
 av 56 [.agg (cl A a b C E F G)] [ao false]:=
 h.of
def r7(A:af)(a b:Int)(C E F G:af)(c:Int):aH:=bj 170 [(1,aR 1),(3,aZ a),(4,aZ c)] [(1,[.J .free 4 A,aw a,aw b,.J .free 8 C,.J .free 6 E,.J .free 5 F,.J .free 3 G])]
def CR(q:Bool):aH:=bj 170 [(2,.aJ (.one (.bc q)))] []
theorem aad(h:ad [.b (decide (b<a)) true,.x L b (ba M C E F G H al K),.r 175 [.agg (bD A a c),.agg (ba M C E F G H al K)] [ao q],.n q true]):
 a1 (ar Tryz.f56 0) (r7 A a c L N Q R b) .ret (CR false):=
 h.aW [2] []
theorem aae(h:ad [.b (decide (a<b)) true,.x C a (ba R E F G H al K L),.r 175 [.agg (bD A b c),.agg (ba R E F G H al K L)] [ao q],.n q false,.u a]):
 a1 (ar Tryz.f56 0) (r7 A b c C M N Q a) .normal (r7 A b c C M N Q (a+1)):=
 h.aW [4,3,1] [1]
def HP(A:af)(a b:Int)(C E F G:af):aH:=bj 170 [(1,aR 1),(3,aZ a)] [(1,[.J .free 4 A,aw a,aw b,.J .free 8 C,.J .free 6 E,.J .free 5 F,.J .free 3 G])]
theorem aaf(h:ad [.b (decide (c<a)) false]):
 a1 (ar Tryz.f56 0) (r7 A a b C E F G c) (.exit 0) (HP A a b C E F G):=
 h.aW [1,3] [1]
def E7(A:af)(a b:Int)(q:Bool)(C E F:af)(l:List O):List O:=Vw A a b q C E (.b ((F.length:Int) != 4) false::l)
theorem aag(h:ad (E7 A a b q C E F [.l [] [4,3,1] [1] (ar Tryz.f56 0) (r7 A a b C E F G 0) .ret (CR r)])):
 av 56 [.agg (cl A a b C E F G)] [ao r]:=
 h.of
def lk(a b:Int)(A:af)(c d:Int)(C E F G:af):aH:=bj 170 [(1,aR 1),(3,aZ a),(5,aZ b)] [(1,[.J .free 4 A,aw c,aw d,.J .free 8 C,.J .free 6 E,.J .free 5 F,.J .free 3 G])]
def xL(q:Bool):aH:=bj 170 [(2,.aJ (.one (.bc q)))] []
def Mh(A:af)(a b:Int)(C:af)(c d e f:Int)(q:Bool)(l:List O):List O:=.i A a (bO b C c d e f)::.r 191 [.agg (bO b C c d e f)] [ao q]::l
theorem aah(h:ad (Mh A f a C b c d e q [.n q true])):
 a1 (ar Tryz.f56 1) (lk g f H i j E A F G) .ret (xL false):=
 h.aW [2] []
theorem aai(h:ad (Mh A g a C c d e f q [.n q false,.b (a != b) true])):
 a1 (ar Tryz.f56 1) (lk i g H j b E A F G) .ret (xL false):=
 h.aW [2] []
def E9(A:af)(a b:Int)(C:af)(c d e f:Int)(q:Bool)(g:Int)(E:af)(i:Int)(r:Bool)(l:List O):List O:=Mh A a b C c d e f q (.n q false::.b (b != g) false::.r 192 [.agg (bD E i g),a7 5 C] [ao r]::l)
theorem ZJ(h:ad (E9 C i b A d e f g q a E c r [.n r true])):
 a1 (ar Tryz.f56 1) (lk j i E c a F C G H) .ret (xL false):=
 h.aW [2] []
theorem ZK(h:ad (E9 C b d A f g i j q c E e r [.n r false,.p (a≠0),.v (b.tdiv a),.p (a≠0),.b (b.tdiv a==b.tmod a) true,.b (decide ((A.length:Int)>0)) true])):
 a1 (ar Tryz.f56 1) (lk a b E e c F C G H) .ret (xL false):=
 h.aW [2] []
theorem ZL(h:ad (E9 C b e A f g i j q c E d r [.n r false,.p (a≠0),.v (b.tdiv a),.p (a≠0),.b (b.tdiv a==b.tmod a) true,.b (decide ((A.length:Int)>0)) false,.u b])):
 a1 (ar Tryz.f56 1) (lk a b E d c F C G H) .normal (lk a (b+1) E d c F C G H):=
 h.aW [5,1,3] [1]
theorem ZM(h:ad (E9 A b e C f g i j q c E d r [.n r false,.p (a≠0),.v (b.tdiv a),.p (a≠0),.b (b.tdiv a==b.tmod a) false,.u b])):
 a1 (ar Tryz.f56 1) (lk a b E d c F A G H) .normal (lk a (b+1) E d c F A G H):=
 h.aW [5,1,3] [1]
def AA(a:Int)(A:af)(b c:Int)(C E F G:af):aH:=bj 170 [(1,aR 1),(3,aZ a)] [(1,[.J .free 4 A,aw b,aw c,.J .free 8 C,.J .free 6 E,.J .free 5 F,.J .free 3 G])]
theorem ZN(h:ad [.f A d false]):
 a1 (ar Tryz.f56 1) (lk a d G b c C A E F) (.exit 2) (AA a G b c C A E F):=
 h.aW [1,3] [1]
def E8(A:af)(a b:Int)(q:Bool)(C E F:af)(W:Code)(G:af)(l:List O):List O:=E7 A a b q C E F (.l [] [4,3,1] [1] W (r7 A a b C E F G 0) (.exit 0) (HP A a b C E F G)::l)
theorem ZO(h:ad (E8 A a b q C E F (ar Tryz.f56 0) G [.l [] [5,1,3] [1] (ar Tryz.f56 1) (lk a 0 A a b C E F G) .ret (xL r)])):
 av 56 [.agg (cl A a b C E F G)] [ao r]:=
 h.of
def lY(a:Int)(A:af)(b c:Int)(C E F G:af)(d:Int):aH:=bj 170 [(1,aR 1),(3,aZ a),(7,aZ d)] [(1,[.J .free 4 A,aw b,aw c,.J .free 8 C,.J .free 6 E,.J .free 5 F,.J .free 3 G])]
def vk(q:Bool):aH:=bj 170 [(2,.aJ (.one (.bc q)))] []
def VH(A:af)(a:Int)(q:Bool)(b c:Int)(r s:Bool)(d:Int)(l:List O):List O:=.i A a [B q,I b,I c,B r,B s]::.v (d-1)::l
def VI(A:af)(a:Int)(q:Bool)(b c:Int)(r s:Bool)(d:Int)(t:Bool)(l:List O):List O:=VH A a q b c r s d (.r 168 [ae b,ae 0,ae (d-1)] [ao t]::l)
theorem ZP(h:ad (VI A b r c e s t a q [.n q true])):
 a1 (ar Tryz.f56 2) (lY a G f d C E A F b) .ret (vk false):=
 h.aW [2] []
def Bi(A:af)(a:Int)(q:Bool)(b c:Int)(r s:Bool)(d:Int)(t u:Bool)(e f:Int)(v w:Bool)(l:List O):List O:=VI A a q b c r s d t (.n t false::.x A a [B u,I e,I f,B v,B w]::l)
theorem ZQ(h:ad (Bi A a s c f t u b q r g i v w [.n r true,.x A a [B x,I d,I j,B y,B z],.b (d != 0) true])):
 a1 (ar Tryz.f56 2) (lY b G k e C E A F a) .ret (vk false):=
 h.aW [2] []
theorem ZR(h:ad (Bi A a t c g u v b q r i j w x [.n r true,.x A a [B y,I d,I k,B z,B gj],.b (d != 0) false,.x A a [B iv,I l,I e,B hG,B t0],.r 168 [ae e,ae (-1000000),ae 1000000] [ao s],.n s true])):
 a1 (ar Tryz.f56 2) (lY b G m f C E A F a) .ret (vk false):=
 h.aW [2] []
theorem ZS(h:ad (Bi A a t d i u v b q r j k w x [.n r true,.x A a [B y,I e,I l,B z,B gj],.b (e != 0) false,.x A a [B iv,I m,I f,B hG,B t0],.r 168 [ae f,ae (-1000000),ae 1000000] [ao s],.n s false,.u a])):
 a1 (ar Tryz.f56 2) (lY b G g c C E A F a) .normal (lY b G g c C E A F (a+1)):=
 h.aW [7,1,3] [1]
theorem abk(h:ad (Bi A a t c f u v b q r g i w x [.n r false,.x A a [B y,I j,I d,B z,B gj],.r 168 [ae d,ae (-1000000),ae 1000000] [ao s],.n s true])):
 a1 (ar Tryz.f56 2) (lY b G k e C E A F a) .ret (vk false):=
 h.aW [2] []
theorem abl(h:ad (Bi A a t d g u v b q r i j w x [.n r false,.x A a [B y,I k,I e,B z,B gj],.r 168 [ae e,ae (-1000000),ae 1000000] [ao s],.n s false,.u a])):
 a1 (ar Tryz.f56 2) (lY b G f c C E A F a) .normal (lY b G f c C E A F (a+1)):=
 h.aW [7,1,3] [1]
def CS(a:Int)(A:af)(b c:Int)(C E F G:af):aH:=bj 170 [(1,aR 1),(3,aZ a)] [(1,[.J .free 4 A,aw b,aw c,.J .free 8 C,.J .free 6 E,.J .free 5 F,.J .free 3 G])]
theorem abm(h:ad [.f A c false]):
 a1 (ar Tryz.f56 2) (lY a G d b C E A F c) (.exit 4) (CS a G d b C E A F):=
 h.aW [1,3] [1]
theorem abn(h:ad (E8 A a b r C E F (ar Tryz.f56 0) G [.l [] [5,1,3] [1] (ar Tryz.f56 1) (lk a 0 A a b C E F G) (.exit 2) (AA a M d c H al K L),.l [] [7,1,3] [1] (ar Tryz.f56 2) (lY a M d c H al K L 0) .ret (vk q)])):
 av 56 [.agg (cl A a b C E F G)] [ao q]:=
 h.of
def qT(a:Int)(A:af)(b c:Int)(C E F G:af)(d:Int):aH:=bj 170 [(1,aR 1),(3,aZ a),(8,aZ d)] [(1,[.J .free 4 A,aw b,aw c,.J .free 8 C,.J .free 6 E,.J .free 5 F,.J .free 3 G])]
def AB(q:Bool):aH:=bj 170 [(2,.aJ (.one (.bc q)))] []
theorem abo(h:ad [.i A b [I c,I e,B r],.v (a-1),.r 168 [ae c,ae 0,ae (a-1)] [ao q],.n q true]):
 a1 (ar Tryz.f56 3) (qT a G f d C E F A b) .ret (AB false):=
 h.aW [2] []
theorem abp(h:ad [.i A b [I c,I f,B s],.v (a-1),.r 168 [ae c,ae 0,ae (a-1)] [ao q],.n q false,.x A b [I g,I d,B t],.r 168 [ae d,ae 0,ae 3] [ao r],.n r true]):
 a1 (ar Tryz.f56 3) (qT a G i e C E F A b) .ret (AB false):=
 h.aW [2] []
theorem abq(h:ad [.i A a [I d,I g,B s],.v (b-1),.r 168 [ae d,ae 0,ae (b-1)] [ao q],.n q false,.x A a [I i,I e,B t],.r 168 [ae e,ae 0,ae 3] [ao r],.n r false,.u a]):
 a1 (ar Tryz.f56 3) (qT b G f c C E F A a) .normal (qT b G f c C E F A (a+1)):=
 h.aW [8,1,3] [1]
def JU:aH:=bj 170 [] []
theorem abr(h:ad [.f A a false]):
 a1 (ar Tryz.f56 3) (qT b G d c C E F A a) (.exit 6) JU:=
 h.aW [] []
theorem abt(h:ad (E8 A a b r C E F (ar Tryz.f56 0) L [.l [] [5,1,3] [1] (ar Tryz.f56 1) (lk a 0 A a b C E F L) (.exit 2) (AA a M d c G H al K),.l [] [7,1,3] [1] (ar Tryz.f56 2) (lY a M d c G H al K 0) (.exit 4) (CS a M d c G H al K),.l [] [8,1,3] [1] (ar Tryz.f56 3) (qT a M d c G H al K 0) .ret (AB q)])):
 av 56 [.agg (cl A a b C E F L)] [ao q]:=
 h.of
theorem abu(h:ad (E8 A a b q C E F (ar Tryz.f56 0) L [.l [] [5,1,3] [1] (ar Tryz.f56 1) (lk a 0 A a b C E F L) (.exit 2) (AA a M d c G H al K),.l [] [7,1,3] [1] (ar Tryz.f56 2) (lY a M d c G H al K 0) (.exit 4) (CS a M d c G H al K),.l [] [8,1,3] [1] (ar Tryz.f56 3) (qT a M d c G H al K 0) (.exit 6) JU])):
 av 56 [.agg (cl A a b C E F L)] [ao true]:=
 h.of
def Mm(A:af)(a b:Int)(q:Bool)(l:List O):List O:=.r 179 [.agg (bD A a b)] [ao q]::l
theorem abv(h:ad (Mm A a b q [.n q true])):
 av 55 [.agg (cl A a b C E F G)] [ao false]:=
 h.of
theorem abw(h:ad (Mm A a b q [.n q false,.b ((C.length:Int) != a) true])):
 av 55 [.agg (cl A a b C E F G)] [ao false]:=
 h.of
def VL(A:af)(a b:Int)(q:Bool)(C:af)(l:List O):List O:=Mm A a b q (.n q false::.b ((C.length:Int) != a) false::.v (a*a)::l)
theorem abx(h:ad (VL A a b q C [.b ((E.length:Int) != a*a) true])):
 av 55 [.agg (cl A a b C E F G)] [ao false]:=
 h.of
def VM(A:af)(a b:Int)(q:Bool)(C E:af)(l:List O):List O:=VL A a b q C (.b ((E.length:Int) != a*a) false::l)
theorem aby(h:ad (VM A a b q C E [.b ((F.length:Int) != 4) true])):
 av 55 [.agg (cl A a b C E F G)] [ao false]:=
 h.of
def r8(a:Int)(A:af)(b:Int)(C:af)(c d:Int)(E F G H:af):aH:=bj 147 [(1,aR 1),(3,aZ a),(42,dJ 8 A),(43,aZ (A.length:Int)),(44,aZ b)] [(1,[.J .free 4 C,aw c,aw d,.J .free 8 E,.J .free 6 F,.J .free 5 G,.J .free 3 H])]
def CT(q:Bool):aH:=bj 147 [(2,.aJ (.one (.bc q)))] []
theorem abz(h:ad [.i L c (ba A C E F G H al K),.r 187 [.agg (bD M a b),.agg (ba A C E F G H al K)] [ao q],.n q true]):
 a1 (ar Tryz.f55 0) (r8 d L c M a b N Q R S) .ret (CT false):=
 h.aW [2] []
theorem abA(h:ad [.i A a (ba al K L M N Q R S),.r 187 [.agg (bD C b c),.agg (ba al K L M N Q R S)] [ao q],.n q false,.u a]):
 a1 (ar Tryz.f55 0) (r8 d A a C b c E F G H) .normal (r8 d A (a+1) C b c E F G H):=
 h.aW [44,43,42,1,3] [1]
def HQ(a:Int)(A:af)(b c:Int)(C E F G:af):aH:=bj 147 [(1,aR 1),(3,aZ a)] [(1,[.J .free 4 A,aw b,aw c,.J .free 8 C,.J .free 6 E,.J .free 5 F,.J .free 3 G])]
theorem abB(h:ad [.f G d false]):
 a1 (ar Tryz.f55 0) (r8 a G d H b c A C E F) (.exit 0) (HQ a H b c A C E F):=
 h.aW [1,3] [1]
def VN(A:af)(a b:Int)(q:Bool)(C E F:af)(l:List O):List O:=VM A a b q C E (.b ((F.length:Int) != 4) false::l)
theorem abC(h:ad (VN C a b q A E F [.l [] [44,43,42,1,3] [1] (ar Tryz.f55 0) (r8 a A 0 C a b A E F G) .ret (CT r)])):
 av 55 [.agg (cl C a b A E F G)] [ao r]:=
 h.of
def ll(a:Int)(A:af)(b:Int)(C:af)(c d:Int)(E F G H:af):aH:=bj 147 [(1,aR 1),(3,aZ a),(55,dJ 6 A),(56,aZ (A.length:Int)),(57,aZ b)] [(1,[.J .free 4 C,aw c,aw d,.J .free 8 E,.J .free 6 F,.J .free 5 G,.J .free 3 H])]
def xM(q:Bool):aH:=bj 147 [(2,.aJ (.one (.bc q)))] []
def Mi(A:af)(a b:Int)(C:af)(c d e f:Int)(q:Bool)(l:List O):List O:=.i A a (bO b C c d e f)::.r 188 [.agg (bO b C c d e f)] [ao q]::l
theorem abD(h:ad (Mi A a b C c d e f q [.n q true])):
 a1 (ar Tryz.f55 1) (ll g A a E i j F G H al) .ret (xM false):=
 h.aW [2] []
theorem abE(h:ad (Mi A b a C d e f g q [.n q false,.b (a != c) true])):
 a1 (ar Tryz.f55 1) (ll i A b E j c F G H al) .ret (xM false):=
 h.aW [2] []
def E'(A:af)(a b:Int)(C:af)(c d e f:Int)(q:Bool)(g:Int)(E:af)(i:Int)(r:Bool)(l:List O):List O:=Mi A a b C c d e f q (.n q false::.b (b != g) false::.r 189 [.agg (bD E i g),a7 5 C] [ao r]::l)
theorem abF(h:ad (E' C c b A e f g i q a E d r [.n r true])):
 a1 (ar Tryz.f55 1) (ll j C c E d a F G H al) .ret (xM false):=
 h.aW [2] []
theorem abG(h:ad (E' C b d A f g i j q c E e r [.n r false,.p (a≠0),.v (b.tdiv a),.p (a≠0),.b (b.tdiv a==b.tmod a) true,.b (decide ((A.length:Int)>0)) true])):
 a1 (ar Tryz.f55 1) (ll a C b E e c F G H al) .ret (xM false):=
 h.aW [2] []
theorem abH(h:ad (E' C b e A f g i j q c E d r [.n r false,.p (a≠0),.v (b.tdiv a),.p (a≠0),.b (b.tdiv a==b.tmod a) true,.b (decide ((A.length:Int)>0)) false,.u b])):
 a1 (ar Tryz.f55 1) (ll a C b E d c F G H al) .normal (ll a C (b+1) E d c F G H al):=
 h.aW [57,56,55,1,3] [1]
theorem abI(h:ad (E' A b e E f g i j q c C d r [.n r false,.p (a≠0),.v (b.tdiv a),.p (a≠0),.b (b.tdiv a==b.tmod a) false,.u b])):
 a1 (ar Tryz.f55 1) (ll a A b C d c F G H al) .normal (ll a A (b+1) C d c F G H al):=
 h.aW [57,56,55,1,3] [1]
def AD(a:Int)(A:af)(b c:Int)(C E F G:af):aH:=bj 147 [(1,aR 1),(3,aZ a)] [(1,[.J .free 4 A,aw b,aw c,.J .free 8 C,.J .free 6 E,.J .free 5 F,.J .free 3 G])]
theorem abJ(h:ad [.f A b false]):
 a1 (ar Tryz.f55 1) (ll a A b C c d E F G H) (.exit 2) (AD a C c d E F G H):=
 h.aW [1,3] [1]
def Fc(A:af)(a b:Int)(q:Bool)(C E F:af)(W:Code)(G H:af)(c d:Int)(al K L M:af)(l:List O):List O:=VN A a b q C E F (.l [] [44,43,42,1,3] [1] W (r8 a C 0 A a b C E F G) (.exit 0) (HQ a H c d al K L M)::l)
theorem abK(h:ad (Fc C a b r A F G (ar Tryz.f55 0) L M d c H E al K [.l [] [57,56,55,1,3] [1] (ar Tryz.f55 1) (ll a E 0 M d c H E al K) .ret (xM q)])):
 av 55 [.agg (cl C a b A F G L)] [ao q]:=
 h.of
def lZ(a:Int)(A:af)(b:Int)(C:af)(c d:Int)(E F G H:af):aH:=bj 147 [(1,aR 1),(3,aZ a),(98,dJ 5 A),(99,aZ (A.length:Int)),(100,aZ b)] [(1,[.J .free 4 C,aw c,aw d,.J .free 8 E,.J .free 6 F,.J .free 5 G,.J .free 3 H])]
def vl(q:Bool):aH:=bj 147 [(2,.aJ (.one (.bc q)))] []
def x7(A:af)(a:Int)(q:Bool)(b c:Int)(r s:Bool)(d:Int)(t:Bool)(l:List O):List O:=VH A a q b c r s d (.r 190 [ae b,ae 0,ae (d-1)] [ao t]::l)
theorem aaT(h:ad (x7 A b r c f s t a q [.n q true])):
 a1 (ar Tryz.f55 2) (lZ a A b C d e E F G H) .ret (vl false):=
 h.aW [2] []
theorem aaU(h:ad (x7 A c q b f s t a r [.n r false,.n q true,.b (b != 0) true])):
 a1 (ar Tryz.f55 2) (lZ a A c C d e E F G H) .ret (vl false):=
 h.aW [2] []
theorem aaV(h:ad (x7 A c q b d t u a r [.n r false,.n q true,.b (b != 0) false,.r 190 [ae d,ae (-1000000),ae 1000000] [ao s],.n s true])):
 a1 (ar Tryz.f55 2) (lZ a A c C e f E F G H) .ret (vl false):=
 h.aW [2] []
theorem aaW(h:ad (x7 A b q c f t u a r [.n r false,.n q true,.b (c != 0) false,.r 190 [ae f,ae (-1000000),ae 1000000] [ao s],.n s false,.u b])):
 a1 (ar Tryz.f55 2) (lZ a A b C d e E F G H) .normal (lZ a A (b+1) C d e E F G H):=
 h.aW [100,99,98,3,1] [1]
theorem aaX(h:ad (x7 A b q c d t u a r [.n r false,.n q false,.r 190 [ae d,ae (-1000000),ae 1000000] [ao s],.n s true])):
 a1 (ar Tryz.f55 2) (lZ a A b C e f E F G H) .ret (vl false):=
 h.aW [2] []
theorem aaY(h:ad (x7 A b q e f t u a r [.n r false,.n q false,.r 190 [ae f,ae (-1000000),ae 1000000] [ao s],.n s false,.u b])):
 a1 (ar Tryz.f55 2) (lZ a A b C c d E F G H) .normal (lZ a A (b+1) C c d E F G H):=
 h.aW [100,99,98,3,1] [1]
def CU(a:Int)(A:af)(b c:Int)(C E F G:af):aH:=bj 147 [(1,aR 1),(3,aZ a)] [(1,[.J .free 4 A,aw b,aw c,.J .free 8 C,.J .free 6 E,.J .free 5 F,.J .free 3 G])]
theorem aaZ(h:ad [.f A b false]):
 a1 (ar Tryz.f55 2) (lZ a A b C c d E F G H) (.exit 4) (CU a C c d E F G H):=
 h.aW [1,3] [1]
theorem aa0(h:ad (Fc C a b r A G H (ar Tryz.f55 0) S bl f c al E K L [.l [] [57,56,55,1,3] [1] (ar Tryz.f55 1) (ll a E 0 bl f c al E K L) (.exit 2) (AD a M d e N Q F R),.l [] [100,99,98,3,1] [1] (ar Tryz.f55 2) (lZ a F 0 M d e N Q F R) .ret (vl q)])):
 av 55 [.agg (cl C a b A G H S)] [ao q]:=
 h.of
def q0(a:Int)(A:af)(b:Int):aH:=bj 147 [(3,aZ a),(128,dJ 3 A),(129,aZ (A.length:Int)),(130,aZ b)] []
def AE(q:Bool):aH:=bj 147 [(2,.aJ (.one (.bc q)))] []
theorem aa1(h:ad [.i A b [I c,I d,B r],.v (a-1),.r 190 [ae c,ae 0,ae (a-1)] [ao q],.n q true]):
 a1 (ar Tryz.f55 3) (q0 a A b) .ret (AE false):=
 h.aW [2] []
theorem aa2(h:ad [.i A b [I c,I d,B s],.v (a-1),.r 190 [ae c,ae 0,ae (a-1)] [ao q],.n q false,.r 190 [ae d,ae 0,ae 3] [ao r],.n r true]):
 a1 (ar Tryz.f55 3) (q0 a A b) .ret (AE false):=
 h.aW [2] []
theorem aa3(h:ad [.i A b [I c,I d,B s],.v (a-1),.r 190 [ae c,ae 0,ae (a-1)] [ao q],.n q false,.r 190 [ae d,ae 0,ae 3] [ao r],.n r false,.u b]):
 a1 (ar Tryz.f55 3) (q0 a A b) .normal (q0 a A (b+1)):=
 h.aW [130,129,128,3] []
def JV:aH:=bj 147 [] []
theorem aa4(h:ad [.f A a false]):
 a1 (ar Tryz.f55 3) (q0 b A a) (.exit 6) JV:=
 h.aW [] []
theorem aa5(h:ad (Fc C a b r A G H (ar Tryz.f55 0) bl V f c al E K L [.l [] [57,56,55,1,3] [1] (ar Tryz.f55 1) (ll a E 0 V f c al E K L) (.exit 2) (AD a M d e N Q F R),.l [] [100,99,98,3,1] [1] (ar Tryz.f55 2) (lZ a F 0 M d e N Q F R) (.exit 4) (CU a X g i Y Z dL S),.l [] [130,129,128,3] [] (ar Tryz.f55 3) (q0 a S 0) .ret (AE q)])):
 av 55 [.agg (cl C a b A G H bl)] [ao q]:=
 h.of
theorem aa6(h:ad (Fc C a b q A G H (ar Tryz.f55 0) bl V f c al E K L [.l [] [57,56,55,1,3] [1] (ar Tryz.f55 1) (ll a E 0 V f c al E K L) (.exit 2) (AD a M d e N Q F R),.l [] [100,99,98,3,1] [1] (ar Tryz.f55 2) (lZ a F 0 M d e N Q F R) (.exit 4) (CU a X g i Y Z dL S),.l [] [130,129,128,3] [] (ar Tryz.f55 3) (q0 a S 0) (.exit 6) JV])):
 av 55 [.agg (cl C a b A G H bl)] [ao true]:=
 h.of
