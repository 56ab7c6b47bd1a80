import Derived.Test.YtdchjefneblpgaaGreatGE
set_option linter.unusedVariables false
set_option linter.unusedSimpArgs false
namespace Go.Proofs.YtdchjefneblpgaaGreat
open Go.Sx Go.RowKit
variable {a b c d e f g i j k l m n o p a0 b6 c5 d0 bE f0 : Int} {A C E F G H ah K L M N Q R S ba V X Y Z dC : ag} {q r s t u v w x y z gE gH gZ t0 : Bool}
theorem alR(h:ad [.b (decide (a<1)) true]):
 aq 245 [ae b,ae a] [ae 0]:=
 h.of
def Iq(a:Int)(l:List O):List O:=.b (decide (a<1)) false::.p (a≠0)::l
theorem alS(h:ad (Iq a [.b (decide (b.tmod a<0)) true,.v (b.tmod a+a)])):
 aq 245 [ae b,ae a] [ae (b.tmod a+a)]:=
 h.of
theorem alT(h:ad (Iq a [.b (decide (b.tmod a<0)) false])):
 aq 245 [ae b,ae a] [ae (b.tmod a)]:=
 h.of
theorem alU(h:ad [.b (decide (a<1)) true]):
 aq 147 [ae b,ae a] [ae 0]:=
 h.of
theorem alV(h:ad (Iq a [.b (decide (b.tmod a<0)) true,.v (b.tmod a+a)])):
 aq 147 [ae b,ae a] [ae (b.tmod a+a)]:=
 h.of
theorem alW(h:ad (Iq a [.b (decide (b.tmod a<0)) false])):
 aq 147 [ae b,ae a] [ae (b.tmod a)]:=
 h.of
def vR(A:ag)(a:Int):aC:=bb 21 [(0,dB 4 A),(3,aU a)] []
def Nq(q:Bool):aC:=bb 21 [(2,.aG (.one (.bg q)))] []
def Ir(A:ag)(a b c d e f g i j:Int)(l:List O):List O:=.f A a true::.v (a-1)::.p (0<=a-1)::.p (a-1<(A.length:Int))::.e A ((a-1).toNat) [I b,I c,I d,I e]::.x A a [I f,I g,I i,I j]::l
theorem alm(h:ad (Ir A a c d e f g i j k [.r 307 [.agg [I c,I d,I e,I f],.agg [I g,I i,I j,I k]] [ae b],.b (decide (b>=0)) true])):
 aV (ap Tryz.f266 0) (vR A a) .ret (Nq false):=
 h.aS [2] []
theorem aln(h:ad (Ir A a c d e f g i j k [.r 307 [.agg [I c,I d,I e,I f],.agg [I g,I i,I j,I k]] [ae b],.b (decide (b>=0)) false,.u a])):
 aV (ap Tryz.f266 0) (vR A a) .normal (vR A (a+1)):=
 h.aS [3,0] []
def Vk:aC:=bb 21 [] []
theorem alo(h:ad [.f A a false]):
 aV (ap Tryz.f266 0) (vR A a) (.exit 0) Vk:=
 h.aS [] []
theorem alp(h:ad [.l [] [3,0] [] (ap Tryz.f266 0) (vR A 1) .ret (Nq q)]):
 aq 266 [aO 4 A] [aj q]:=
 h.of
theorem alq(h:ad [.l [] [3,0] [] (ap Tryz.f266 0) (vR A 1) (.exit 0) Vk]):
 aq 266 [aO 4 A] [aj true]:=
 h.of
def vS(A:ag)(a:Int):aC:=bb 21 [(0,dB 4 A),(3,aU a)] []
def Nr(q:Bool):aC:=bb 21 [(2,.aG (.one (.bg q)))] []
theorem alr(h:ad (Ir A a c d e f g i j k [.r 304 [.agg [I c,I d,I e,I f],.agg [I g,I i,I j,I k]] [ae b],.b (decide (b>=0)) true])):
 aV (ap Tryz.f280 0) (vS A a) .ret (Nr false):=
 h.aS [2] []
theorem als(h:ad (Ir A a c d e f g i j k [.r 304 [.agg [I c,I d,I e,I f],.agg [I g,I i,I j,I k]] [ae b],.b (decide (b>=0)) false,.u a])):
 aV (ap Tryz.f280 0) (vS A a) .normal (vS A (a+1)):=
 h.aS [3,0] []
def Vl:aC:=bb 21 [] []
theorem alu(h:ad [.f A a false]):
 aV (ap Tryz.f280 0) (vS A a) (.exit 0) Vl:=
 h.aS [] []
theorem alv(h:ad [.l [] [3,0] [] (ap Tryz.f280 0) (vS A 1) .ret (Nr q)]):
 aq 280 [aO 4 A] [aj q]:=
 h.of
theorem alw(h:ad [.l [] [3,0] [] (ap Tryz.f280 0) (vS A 1) (.exit 0) Vl]):
 aq 280 [aO 4 A] [aj true]:=
 h.of
def vT(A:ag)(a b:Int)(C:ag)(c:Int):aC:=bb 29 [(1,dB 5 C),(2,aR 2),(5,aU c)] [(2,[.J .free 4 A,au a,au b])]
def GD(q:Bool):aC:=bb 29 [(4,.aG (.one (.bg q)))] []
def Ec(A:ag)(a b c d e f:Int)(q:Bool)(l:List O):List O:=.i A a (bh b c d e f)::.r 122 [.agg (bh b c d e f)] [aj q]::l
theorem amX(h:ad (Ec A a b c d e f q [.n q true])):
 aV (ap Tryz.f192 0) (vT C g i A a) .ret (GD false):=
 h.aS [4] []
theorem amY(h:ad (Ec A a c d e f g q [.n q false,.x A a (bh b j k l m),.b (decide (b>=(C.length:Int))) true])):
 aV (ap Tryz.f192 0) (vT C i n A a) .ret (GD false):=
 h.aS [4] []
theorem amZ(h:ad (Ec A a e f g i j q [.n q false,.x A a (bh c k l m n),.b (decide (c>=(C.length:Int))) false,.u a])):
 aV (ap Tryz.f192 0) (vT C b d A a) .normal (vT C b d A (a+1)):=
 h.aS [5,1,2] [2]
def Vm:aC:=bb 29 [] []
theorem am0(h:ad [.f A a false]):
 aV (ap Tryz.f192 0) (vT C b c A a) (.exit 0) Vm:=
 h.aS [] []
theorem am1(h:ad [.l [] [5,1,2] [2] (ap Tryz.f192 0) (vT A a b C 0) .ret (GD q)]):
 aq 192 [.agg (br A a b),aO 5 C] [aj q]:=
 h.of
theorem am2(h:ad [.l [] [5,1,2] [2] (ap Tryz.f192 0) (vT A a b C 0) (.exit 0) Vm]):
 aq 192 [.agg (br A a b),aO 5 C] [aj true]:=
 h.of
def vU(A:ag)(a:Int)(C:ag)(b c:Int):aC:=bb 24 [(2,aR 2),(7,dB 5 A),(8,aU (A.length:Int)),(9,aU a)] [(2,[.J .free 4 C,au b,au c])]
def GF(q:Bool):aC:=bb 24 [(4,.aG (.one (.bg q)))] []
def Ed(A:ag)(a b c d e f:Int)(q:Bool)(l:List O):List O:=.i A a (bh b c d e f)::.r 180 [.agg (bh b c d e f)] [aj q]::l
theorem am3(h:ad (Ed A d e f a b c q [.n q true])):
 aV (ap Tryz.f189 0) (vU A d C g i) .ret (GF false):=
 h.aS [4] []
theorem am4(h:ad (Ed A e a i b c d q [.n q false,.r 250 [.agg (br C f g),ae a] [aj r],.n r true])):
 aV (ap Tryz.f189 0) (vU A e C f g) .ret (GF false):=
 h.aS [4] []
theorem am5(h:ad (Ed A a d i e f g q [.n q false,.r 250 [.agg (br C b c),ae d] [aj r],.n r false,.u a])):
 aV (ap Tryz.f189 0) (vU A a C b c) .normal (vU A (a+1) C b c):=
 h.aS [9,8,7,2] [2]
def Vn:aC:=bb 24 [] []
theorem am6(h:ad [.f A a false]):
 aV (ap Tryz.f189 0) (vU A a C b c) (.exit 0) Vn:=
 h.aS [] []
theorem am7(h:ad [.l [] [9,8,7,2] [2] (ap Tryz.f189 0) (vU C 0 A a b) .ret (GF q)]):
 aq 189 [.agg (br A a b),aO 5 C] [aj q]:=
 h.of
theorem am8(h:ad [.l [] [9,8,7,2] [2] (ap Tryz.f189 0) (vU C 0 A a b) (.exit 0) Vn]):
 aq 189 [.agg (br A a b),aO 5 C] [aj true]:=
 h.of
def aao(A:ag)(a b:Int)(C:ag)(q:Bool)(l:List O):List O:=.r 192 [.agg (br A a b),aO 5 C] [aj q]::l
theorem am9(h:ad (aao A a b C q [.n q true])):
 aq 175 [.agg (br A a b),.agg (aW C F G H ah K L E)] [aj false]:=
 h.of
def aap(A:ag)(a b:Int)(C:ag)(q:Bool)(E:ag)(r:Bool)(l:List O):List O:=aao A a b C q (.n q false::.r 192 [.agg (br A a b),aO 5 E] [aj r]::l)
theorem ana(h:ad (aap A a b C q E r [.n r true])):
 aq 175 [.agg (br A a b),.agg (aW C E G H ah K L F)] [aj false]:=
 h.of
def aaq(A:ag)(a b:Int)(C:ag)(q:Bool)(E:ag)(r:Bool)(F:ag)(s:Bool)(l:List O):List O:=aap A a b C q E r (.n r false::.r 192 [.agg (br A a b),aO 5 F] [aj s]::l)
theorem anb(h:ad (aaq A a b C q E r F s [.n s true])):
 aq 175 [.agg (br A a b),.agg (aW C E F H ah K L G)] [aj false]:=
 h.of
def P7(A:ag)(a b:Int)(C:ag)(q:Bool)(E:ag)(r:Bool)(F:ag)(s:Bool)(G:ag)(t:Bool)(l:List O):List O:=aaq A a b C q E r F s (.n s false::.r 266 [aO 4 G] [aj t]::l)
theorem anc(h:ad (P7 A a b C q E r F s G t [.n t true])):
 aq 175 [.agg (br A a b),.agg (aW C E F G ah K L H)] [aj false]:=
 h.of
theorem ane(h:ad (P7 A a b C q E r F s G t [.n t false,.b ((H.length:Int) != 4) true])):
 aq 175 [.agg (br A a b),.agg (aW C E F G H K L ah)] [aj false]:=
 h.of
def aar(A:ag)(a b:Int)(C:ag)(q:Bool)(E:ag)(r:Bool)(F:ag)(s:Bool)(G:ag)(t:Bool)(H:ag)(l:List O):List O:=P7 A a b C q E r F s G t (.n t false::.b ((H.length:Int) != 4) false::l)
theorem anf(h:ad (aar A a b C q E r F s G t H [.b ((ah.length:Int) != 4) true])):
 aq 175 [.agg (br A a b),.agg (aW C E F G H ah L K)] [aj false]:=
 h.of
def P8(A:ag)(a b:Int)(C:ag)(q:Bool)(E:ag)(r:Bool)(F:ag)(s:Bool)(G:ag)(t:Bool)(H ah:ag)(l:List O):List O:=aar A a b C q E r F s G t H (.b ((ah.length:Int) != 4) false::l)
theorem ang(h:ad (P8 A a b C q E r F s G t H ah [.b ((K.length:Int) != 4) true])):
 aq 175 [.agg (br A a b),.agg (aW C E F G H ah K L)] [aj false]:=
 h.of
def pF(A C E F G H ah K:ag)(a:Int):aC:=bb 147 [(3,aR 3),(5,aU 4),(6,aU a)] [(3,[.J .free 5 A,.J .free 5 C,.J .free 5 E,.J .free 4 F,.J .free 1 G,.J .free 1 H,.J .free 1 ah,.J .free 2 K])]
def CX(q:Bool):aC:=bb 147 [(4,.aG (.one (.bg q)))] []
theorem anh(h:ad [.i A a (bh b c d e f),.b (b != 0) true]):
 aV (ap Tryz.f175 0) (pF E F A G H ah K C a) .ret (CX false):=
 h.aS [4] []
def wm(A:ag)(a b c d e f:Int)(l:List O):List O:=.i A a (bh b c d e f)::.b (b != 0) false::l
theorem ani(h:ad (wm A a b d e f g [.x A a (bh i j c k l),.b (c != 0) true])):
 aV (ap Tryz.f175 0) (pF E F A G H ah K C a) .ret (CX false):=
 h.aS [4] []
theorem anj(h:ad (wm A a b f g i j [.x A a (bh k l c m n),.b (c != 0) false,.b (decide (a>0)) true,.v (a-1),.p (0<=a-1),.p (a-1<(A.length:Int)),.e A ((a-1).toNat) (bh o d p a0 b6),.x A a (bh c5 e d0 bE f0),.b (decide (d>e)) true])):
 aV (ap Tryz.f175 0) (pF E F A G H ah K C a) .ret (CX false):=
 h.aS [4] []
theorem ank(h:ad (wm A a b f g i j [.x A a (bh k l c m n),.b (c != 0) false,.b (decide (a>0)) true,.v (a-1),.p (0<=a-1),.p (a-1<(A.length:Int)),.e A ((a-1).toNat) (bh o d p a0 b6),.x A a (bh c5 e d0 bE f0),.b (decide (d>e)) false,.u a])):
 aV (ap Tryz.f175 0) (pF E F A G H ah K C a) .normal (pF E F A G H ah K C (a+1)):=
 h.aS [6,3,5] [3]
theorem anl(h:ad (wm A a b d e f g [.x A a (bh i j c k l),.b (c != 0) false,.b (decide (a>0)) false,.u a])):
 aV (ap Tryz.f175 0) (pF E F A G H ah K C a) .normal (pF E F A G H ah K C (a+1)):=
 h.aS [6,3,5] [3]
def Li(A C E F G H ah K:ag):aC:=bb 147 [(3,aR 3),(5,aU 4)] [(3,[.J .free 5 A,.J .free 5 C,.J .free 5 E,.J .free 4 F,.J .free 1 G,.J .free 1 H,.J .free 1 ah,.J .free 2 K])]
theorem anm(h:ad [.f A a false]):
 aV (ap Tryz.f175 0) (pF E F A G H ah K C a) (.exit 0) (Li E F A G H ah K C):=
 h.aS [5,3] [3]
theorem ann(h:ad (P8 A a b C q E r F s G t H ah [.b ((K.length:Int) != 4) false,.l [] [6,3,5] [3] (ap Tryz.f175 0) (pF C E F G H ah K L 0) .ret (CX u)])):
 aq 175 [.agg (br A a b),.agg (aW C E F G H ah K L)] [aj u]:=
 h.of
def vV(A C E F G H ah K:ag)(a:Int):aC:=bb 147 [(3,aR 3),(5,aU 4),(7,aU a)] [(3,[.J .free 5 A,.J .free 5 C,.J .free 5 E,.J .free 4 F,.J .free 1 G,.J .free 1 H,.J .free 1 ah,.J .free 2 K])]
def Ns(q:Bool):aC:=bb 147 [(4,.aG (.one (.bg q)))] []
theorem amx(h:ad [.b (decide (a<4)) true,.x A a [I b],.r 168 [ae b,ae (-1000000),ae 1000000] [aj q],.n q true]):
 aV (ap Tryz.f175 1) (vV E F G H A ah K C a) .ret (Ns false):=
 h.aS [4] []
theorem amy(h:ad [.b (decide (a<4)) true,.x A a [I b],.r 168 [ae b,ae (-1000000),ae 1000000] [aj q],.n q false,.u a]):
 aV (ap Tryz.f175 1) (vV E F G H A ah K C a) .normal (vV E F G H A ah K C (a+1)):=
 h.aS [7,5,3] [3]
def Nt(A C E F G H ah K:ag):aC:=bb 147 [(3,aR 3)] [(3,[.J .free 5 A,.J .free 5 C,.J .free 5 E,.J .free 4 F,.J .free 1 G,.J .free 1 H,.J .free 1 ah,.J .free 2 K])]
theorem amz(h:ad [.b (decide (a<4)) false]):
 aV (ap Tryz.f175 1) (vV C E F G H ah K A a) (.exit 2) (Nt C E F G H ah K A):=
 h.aS [3] [3]
def P9(A:ag)(a b:Int)(C:ag)(q:Bool)(E:ag)(r:Bool)(F:ag)(s:Bool)(G:ag)(t:Bool)(H ah K:ag)(W:Code)(L:ag)(l:List O):List O:=P8 A a b C q E r F s G t H ah (.b ((K.length:Int) != 4) false::.l [] [6,3,5] [3] W (pF C E F G H ah K L 0) (.exit 0) (Li C E F G H ah K L)::l)
theorem amA(h:ad (P9 K a b A q C r E s F t G H ah (ap Tryz.f175 0) L [.l [] [7,5,3] [3] (ap Tryz.f175 1) (vV A C E F G H ah L 0) .ret (Ns u)])):
 aq 175 [.agg (br K a b),.agg (aW A C E F G H ah L)] [aj u]:=
 h.of
def sX(A C E F G H ah K:ag)(a:Int):aC:=bb 147 [(3,aR 3),(8,aU a)] [(3,[.J .free 5 A,.J .free 5 C,.J .free 5 E,.J .free 4 F,.J .free 1 G,.J .free 1 H,.J .free 1 ah,.J .free 2 K])]
def GG(q:Bool):aC:=bb 147 [(4,.aG (.one (.bg q)))] []
theorem amB(h:ad [.i A a [I b,B r],.r 168 [ae b,ae 0,ae 3] [aj q],.n q true]):
 aV (ap Tryz.f175 2) (sX C E F G H ah K A a) .ret (GG false):=
 h.aS [4] []
def uk(A C E F G H ah K:ag)(a b:Int):aC:=bb 147 [(3,aR 3),(8,aU a),(9,aU b)] [(3,[.J .free 5 A,.J .free 5 C,.J .free 5 E,.J .free 4 F,.J .free 1 G,.J .free 1 H,.J .free 1 ah,.J .free 2 K])]
def GH(q:Bool):aC:=bb 147 [(4,.aG (.one (.bg q)))] []
theorem amC(h:ad [.b (decide (b<a)) true,.x A b [I c,B q],.x A a [I d,B r],.b (c==d) true]):
 aV (ap Tryz.f175 3) (uk C E F G H ah K A a b) .ret (GH false):=
 h.aS [4] []
theorem amD(h:ad [.b (decide (a<b)) true,.x A a [I c,B q],.x A b [I d,B r],.b (c==d) false,.u a]):
 aV (ap Tryz.f175 3) (uk C E F G H ah K A b a) .normal (uk C E F G H ah K A b (a+1)):=
 h.aS [9,8,3] [3]
def Nu(A C E F G H ah K:ag)(a:Int):aC:=bb 147 [(3,aR 3),(8,aU a)] [(3,[.J .free 5 A,.J .free 5 C,.J .free 5 E,.J .free 4 F,.J .free 1 G,.J .free 1 H,.J .free 1 ah,.J .free 2 K])]
theorem amE(h:ad [.b (decide (b<a)) false]):
 aV (ap Tryz.f175 3) (uk C E F G H ah K A a b) (.exit 6) (Nu C E F G H ah K A a):=
 h.aS [8,3] [3]
theorem amF(h:ad [.i A a [I b,B s],.r 168 [ae b,ae 0,ae 3] [aj q],.n q false,.l [] [9,8,3] [3] (ap Tryz.f175 3) (uk C E F G H ah K A a 0) .ret (GH r)]):
 aV (ap Tryz.f175 2) (sX C E F G H ah K A a) .ret (GG r):=
 h.aS [4] []
theorem amG(h:ad [.i A a [I b,B r],.r 168 [ae b,ae 0,ae 3] [aj q],.n q false,.l [] [9,8,3] [3] (ap Tryz.f175 3) (uk C E F G H ah K A a 0) (.exit 6) (Nu C E F G H ah K A a),.u a]):
 aV (ap Tryz.f175 2) (sX C E F G H ah K A a) .normal (sX C E F G H ah K A (a+1)):=
 h.aS [8,3] [3]
def Nv:aC:=bb 147 [] []
theorem amH(h:ad [.f A a false]):
 aV (ap Tryz.f175 2) (sX C E F G H ah K A a) (.exit 4) Nv:=
 h.aS [] []
theorem amI(h:ad (P9 L a b A q C r E s F t G H ah (ap Tryz.f175 0) K [.l [] [7,5,3] [3] (ap Tryz.f175 1) (vV A C E F G H ah K 0) (.exit 2) (Nt A C E F G H ah K),.l [] [8,3] [3] (ap Tryz.f175 2) (sX A C E F G H ah K 0) .ret (GG u)])):
 aq 175 [.agg (br L a b),.agg (aW A C E F G H ah K)] [aj u]:=
 h.of
theorem amJ(h:ad (P9 L a b A q C r E s F t G H ah (ap Tryz.f175 0) K [.l [] [7,5,3] [3] (ap Tryz.f175 1) (vV A C E F G H ah K 0) (.exit 2) (Nt A C E F G H ah K),.l [] [8,3] [3] (ap Tryz.f175 2) (sX A C E F G H ah K 0) (.exit 4) Nv])):
 aq 175 [.agg (br L a b),.agg (aW A C E F G H ah K)] [aj true]:=
 h.of
def aat(A:ag)(a b:Int)(C:ag)(q:Bool)(l:List O):List O:=.r 189 [.agg (br A a b),aO 5 C] [aj q]::l
theorem amK(h:ad (aat A a b C q [.n q true])):
 aq 187 [.agg (br A a b),.agg (aW C F G H ah K L E)] [aj false]:=
 h.of
def aau(A:ag)(a b:Int)(C:ag)(q:Bool)(E:ag)(r:Bool)(l:List O):List O:=aat A a b C q (.n q false::.r 189 [.agg (br A a b),aO 5 E] [aj r]::l)
theorem amL(h:ad (aau A a b C q E r [.n r true])):
 aq 187 [.agg (br A a b),.agg (aW C E G H ah K L F)] [aj false]:=
 h.of
def aav(A:ag)(a b:Int)(C:ag)(q:Bool)(E:ag)(r:Bool)(F:ag)(s:Bool)(l:List O):List O:=aau A a b C q E r (.n r false::.r 189 [.agg (br A a b),aO 5 F] [aj s]::l)
theorem amM(h:ad (aav A a b C q E r F s [.n s true])):
 aq 187 [.agg (br A a b),.agg (aW C E F H ah K L G)] [aj false]:=
 h.of
def P'(A:ag)(a b:Int)(C:ag)(q:Bool)(E:ag)(r:Bool)(F:ag)(s:Bool)(G:ag)(t:Bool)(l:List O):List O:=aav A a b C q E r F s (.n s false::.r 280 [aO 4 G] [aj t]::l)
theorem amN(h:ad (P' A a b C q E r F s G t [.n t true])):
 aq 187 [.agg (br A a b),.agg (aW C E F G ah K L H)] [aj false]:=
 h.of
def pr(A:ag)(a:Int)(C E F G H ah K L:ag):aC:=bb 121 [(3,aR 3),(37,dB 5 A),(38,aU (A.length:Int)),(39,aU a)] [(3,[.J .free 5 C,.J .free 5 E,.J .free 5 F,.J .free 4 G,.J .free 1 H,.J .free 1 ah,.J .free 1 K,.J .free 2 L])]
def CY(q:Bool):aC:=bb 121 [(4,.aG (.one (.bg q)))] []
theorem amO(h:ad [.i A a (bh b c d e f),.b (b != 0) true]):
 aV (ap Tryz.f187 0) (pr A a C E F G H ah K L) .ret (CY false):=
 h.aS [4] []
theorem amP(h:ad (wm A a b d c e f [.b (c != 0) true])):
 aV (ap Tryz.f187 0) (pr A a C E F G H ah K L) .ret (CY false):=
 h.aS [4] []
theorem amQ(h:ad (wm C a b c d f g [.b (d != 0) false,.b (decide (a>0)) true,.v (a-1),.p (0<=a-1),.p (a-1<(A.length:Int)),.e A ((a-1).toNat) (bh i e j k l),.b (decide (e>c)) true])):
 aV (ap Tryz.f187 0) (pr C a E F A G H ah K L) .ret (CY false):=
 h.aS [4] []
theorem amR(h:ad (wm C a b c d f g [.b (d != 0) false,.b (decide (a>0)) true,.v (a-1),.p (0<=a-1),.p (a-1<(A.length:Int)),.e A ((a-1).toNat) (bh i e j k l),.b (decide (e>c)) false,.u a])):
 aV (ap Tryz.f187 0) (pr C a E F A G H ah K L) .normal (pr C (a+1) E F A G H ah K L):=
 h.aS [39,38,37,3] [3]
theorem amS(h:ad (wm A a b d c e f [.b (c != 0) false,.b (decide (a>0)) false,.u a])):
 aV (ap Tryz.f187 0) (pr A a C E F G H ah K L) .normal (pr A (a+1) C E F G H ah K L):=
 h.aS [39,38,37,3] [3]
def Lf(A C E F G H ah K:ag):aC:=bb 121 [(3,aR 3)] [(3,[.J .free 5 A,.J .free 5 C,.J .free 5 E,.J .free 4 F,.J .free 1 G,.J .free 1 H,.J .free 1 ah,.J .free 2 K])]
theorem amT(h:ad [.f L a false]):
 aV (ap Tryz.f187 0) (pr L a A C E F G H ah K) (.exit 0) (Lf A C E F G H ah K):=
 h.aS [3] [3]
theorem amU(h:ad (P' A a b E q F r C s G t [.n t false,.l [] [39,38,37,3] [3] (ap Tryz.f187 0) (pr C 0 E F C G ah K L H) .ret (CY u)])):
 aq 187 [.agg (br A a b),.agg (aW E F C G ah K L H)] [aj u]:=
 h.of
def Qa(A:ag)(a b:Int)(C:ag)(q:Bool)(E:ag)(r:Bool)(F:ag)(s:Bool)(G:ag)(t:Bool)(W:Code)(H ah K L M N P Q R S ba V:ag)(l:List O):List O:=P' A a b C q E r F s G t (.n t false::.l [] [39,38,37,3] [3] W (pr F 0 C E F G H ah K L) (.exit 0) (Lf M N P Q R S ba V)::l)
theorem amV(h:ad (Qa A a b E q F r C s G t (ap Tryz.f187 0) K L M H N Q R S ah ba V X [.b ((ah.length:Int) != 4) true])):
 aq 187 [.agg (br A a b),.agg (aW E F C G K L M H)] [aj false]:=
 h.of
theorem amW(h:ad (Qa A a b E q F r C s G t (ap Tryz.f187 0) L M N H Q R S ba ah K V X [.b ((ah.length:Int) != 4) false,.b ((K.length:Int) != 4) true])):
 aq 187 [.agg (br A a b),.agg (aW E F C G L M N H)] [aj false]:=
 h.of
def Is(A:ag)(a b:Int)(C:ag)(q:Bool)(E:ag)(r:Bool)(F:ag)(s:Bool)(G:ag)(t:Bool)(W:Code)(H ah K L M N P Q R S ba V:ag)(l:List O):List O:=Qa A a b C q E r F s G t W H ah K L M N P Q R S ba V (.b ((R.length:Int) != 4) false::.b ((S.length:Int) != 4) false::l)
theorem amn(h:ad (Is A a b E q F r C s G t (ap Tryz.f187 0) M N Q H R S ba V ah K L X [.b ((L.length:Int) != 4) true])):
 aq 187 [.agg (br A a b),.agg (aW E F C G M N Q H)] [aj false]:=
 h.of
def vW(C E F G A H ah K:ag)(a:Int):aC:=bb 121 [(3,aR 3),(89,dB 1 A),(90,aU (A.length:Int)),(91,aU a)] [(3,[.J .free 5 C,.J .free 5 E,.J .free 5 F,.J .free 4 G,.J .free 1 A,.J .free 1 H,.J .free 1 ah,.J .free 2 K])]
def Nw(q:Bool):aC:=bb 121 [(4,.aG (.one (.bg q)))] []
theorem amo(h:ad [.i A a [I b],.r 190 [ae b,ae (-1000000),ae 1000000] [aj q],.n q true]):
 aV (ap Tryz.f187 1) (vW C E F G A H ah K a) .ret (Nw false):=
 h.aS [4] []
theorem amp(h:ad [.i A a [I b],.r 190 [ae b,ae (-1000000),ae 1000000] [aj q],.n q false,.u a]):
 aV (ap Tryz.f187 1) (vW C E F G A H ah K a) .normal (vW C E F G A H ah K (a+1)):=
 h.aS [91,90,89,3] [3]
def Nx(A C E F G H ah K:ag):aC:=bb 121 [(3,aR 3)] [(3,[.J .free 5 A,.J .free 5 C,.J .free 5 E,.J .free 4 F,.J .free 1 G,.J .free 1 H,.J .free 1 ah,.J .free 2 K])]
theorem amq(h:ad [.f A a false]):
 aV (ap Tryz.f187 1) (vW C E F G A H ah K a) (.exit 2) (Nx C E F G A H ah K):=
 h.aS [3] [3]
theorem amr(h:ad (Is A a b H q ah r C s K t (ap Tryz.f187 0) ba V X L M N Q R E F G S [.b ((G.length:Int) != 4) false,.l [] [91,90,89,3] [3] (ap Tryz.f187 1) (vW M N Q R E F G S 0) .ret (Nw u)])):
 aq 187 [.agg (br A a b),.agg (aW H ah C K ba V X L)] [aj u]:=
 h.of
def sY(A:ag)(a:Int)(C E F G H ah K L:ag):aC:=bb 121 [(3,aR 3),(100,dB 2 A),(101,aU (A.length:Int)),(102,aU a)] [(3,[.J .free 5 C,.J .free 5 E,.J .free 5 F,.J .free 4 G,.J .free 1 H,.J .free 1 ah,.J .free 1 K,.J .free 2 L])]
def GI(q:Bool):aC:=bb 121 [(4,.aG (.one (.bg q)))] []
theorem ams(h:ad [.i A a [I b,B r],.r 190 [ae b,ae 0,ae 3] [aj q],.n q true]):
 aV (ap Tryz.f187 2) (sY A a C E F G H ah K L) .ret (GI false):=
 h.aS [4] []
def aas(A:ag)(a b:Int)(q r:Bool)(C:ag)(s:Bool)(l:List O):List O:=.i A a [I b,B q]::.r 190 [ae b,ae 0,ae 3] [aj r]::.n r false::.p ((0:Int)<=none.getD 0)::.p (none.getD 0<=(some a).getD (C.length:Int))::.p ((some a).getD (C.length:Int)<=(C.length:Int))::.r 281 [.one (.J 2 (List.take (((some a).getD (C.length:Int)).toNat-0) (List.drop 0 C))),ae b] [aj s]::l
theorem amt(h:ad (aas C a b s q A r [.b r true])):
 aV (ap Tryz.f187 2) (sY C a E F G H ah K L A) .ret (GI false):=
 h.aS [4] []
theorem amu(h:ad (aas C a b s q A r [.b r false,.u a])):
 aV (ap Tryz.f187 2) (sY C a E F G H ah K L A) .normal (sY C (a+1) E F G H ah K L A):=
 h.aS [102,101,100,3] [3]
def Ny:aC:=bb 121 [] []
theorem amv(h:ad [.f A a false]):
 aV (ap Tryz.f187 2) (sY A a C E F G H ah K L) (.exit 4) Ny:=
 h.aS [] []
theorem amw(h:ad (Is G a b N q Q r M s R t (ap Tryz.f187 0) ba V X S H ah K L A C E F [.b ((E.length:Int) != 4) false,.l [] [91,90,89,3] [3] (ap Tryz.f187 1) (vW H ah K L A C E F 0) (.exit 2) (Nx H ah K L A C E F),.l [] [102,101,100,3] [3] (ap Tryz.f187 2) (sY F 0 H ah K L A C E F) .ret (GI u)])):
 aq 187 [.agg (br G a b),.agg (aW N Q M R ba V X S)] [aj u]:=
 h.of
theorem an0(h:ad (Is G a b N q Q r M s R t (ap Tryz.f187 0) ba V X S H ah K L A C E F [.b ((E.length:Int) != 4) false,.l [] [91,90,89,3] [3] (ap Tryz.f187 1) (vW H ah K L A C E F 0) (.exit 2) (Nx H ah K L A C E F),.l [] [102,101,100,3] [3] (ap Tryz.f187 2) (sY F 0 H ah K L A C E F) (.exit 4) Ny])):
 aq 187 [.agg (br G a b),.agg (aW N Q M R ba V X S)] [aj true]:=
 h.of
def xa(a:Int)(A:ag)(b c d e f:Int):aC:=bb 70 [(1,aR 1),(3,aU f)] [(1,[au a,.J .free 5 A,au b,au c,au d,au e])]
def Nz(q:Bool):aC:=bb 70 [(2,.aG (.one (.bg q)))] []
theorem an1(h:ad (Ec A c d e f a b q [.n q true])):
 aV (ap Tryz.f191 0) (xa g A i j k l c) .ret (Nz false):=
 h.aS [2] []
theorem an2(h:ad (Ec A a j k l c d q [.n q false,.u a])):
 aV (ap Tryz.f191 0) (xa b A e f g i a) .normal (xa b A e f g i (a+1)):=
 h.aS [3,1] [1]
def Sm(a:Int)(A:ag)(b c d e:Int):aC:=bb 70 [(1,aR 1)] [(1,[au a,.J .free 5 A,au b,au c,au d,au e])]
theorem an3(h:ad [.f A f false]):
 aV (ap Tryz.f191 0) (xa a A b c d e f) (.exit 0) (Sm a A b c d e):=
 h.aS [1] [1]
theorem an4(h:ad [.l [] [3,1] [1] (ap Tryz.f191 0) (xa a A b c d e 0) .ret (Nz q)]):
 aq 191 [.agg (bY a A b c d e)] [aj q]:=
 h.of
def aaw(W:Code)(a:Int)(A:ag)(b c d e:Int)(q:Bool)(l:List O):List O:=.l [] [3,1] [1] W (xa a A b c d e 0) (.exit 0) (Sm a A b c d e)::.r 168 [ae a,ae 1,ae 4] [aj q]::l
def aax(W:Code)(a:Int)(A:ag)(b c d e:Int)(q r:Bool)(l:List O):List O:=aaw W a A b c d e q (.b q true::.r 168 [ae b,ae 0,ae a] [aj r]::l)
def Iz(W:Code)(a:Int)(A:ag)(b c d e:Int)(q r s:Bool)(l:List O):List O:=aax W a A b c d e q r (.b r true::.r 168 [ae c,ae 0,ae a] [aj s]::l)
def aaL(W:Code)(a:Int)(A:ag)(b c d e:Int)(q r s:Bool)(l:List O):List O:=Iz W a A b c d e q r s (.b s true::.v (b+c)::.v (b+c+(A.length:Int))::l)
def Qi(W:Code)(a:Int)(A:ag)(b c d e:Int)(q r s t:Bool)(l:List O):List O:=aaL W a A b c d e q r s (.b (b+c+(A.length:Int)==a) true::.r 168 [ae d,ae 0,ae 1000000000] [aj t]::l)
theorem an5(h:ad (Qi (ap Tryz.f191 0) a A b c d e q r s t [.b t true,.v (d-(A.length:Int)),.b (e==d-(A.length:Int)) true])):
 aq 191 [.agg (bY a A b c d e)] [aj (decide (e>=0))]:=
 h.of
theorem an6(h:ad (Qi (ap Tryz.f191 0) a A b c d e q r s t [.b t true,.v (d-(A.length:Int)),.b (e==d-(A.length:Int)) false])):
 aq 191 [.agg (bY a A b c d e)] [aj false]:=
 h.of
theorem an7(h:ad (Qi (ap Tryz.f191 0) a A b c d e q r s t [.b t false])):
 aq 191 [.agg (bY a A b c d e)] [aj false]:=
 h.of
theorem an8(h:ad (aaL (ap Tryz.f191 0) a A b c d e q r s [.b (b+c+(A.length:Int)==a) false])):
 aq 191 [.agg (bY a A b c d e)] [aj false]:=
 h.of
theorem an9(h:ad (Iz (ap Tryz.f191 0) a A b c d e q r s [.b s false])):
 aq 191 [.agg (bY a A b c d e)] [aj false]:=
 h.of
theorem aoa(h:ad (aax (ap Tryz.f191 0) a A b c d e q r [.b r false])):
 aq 191 [.agg (bY a A b c d e)] [aj false]:=
 h.of
theorem aob(h:ad (aaw (ap Tryz.f191 0) a A b c d e q [.b q false])):
 aq 191 [.agg (bY a A b c d e)] [aj false]:=
 h.of
def aaM(a:Int)(q:Bool)(l:List O):List O:=.r 190 [ae a,ae 1,ae 4] [aj q]::l
theorem aoc(h:ad (aaM a q [.n q true])):
 aq 188 [.agg (bY a A b c d e)] [aj false]:=
 h.of
def aaN(a:Int)(q:Bool)(b:Int)(r:Bool)(l:List O):List O:=aaM a q (.n q false::.r 190 [ae b,ae 0,ae a] [aj r]::l)
theorem aod(h:ad (aaN a q b r [.n r true])):
 aq 188 [.agg (bY a A b c d e)] [aj false]:=
 h.of
def aaO(a:Int)(q:Bool)(b:Int)(r:Bool)(c:Int)(s:Bool)(l:List O):List O:=aaN a q b r (.n r false::.r 190 [ae c,ae 0,ae a] [aj s]::l)
theorem aoe(h:ad (aaO a q b r c s [.n s true])):
 aq 188 [.agg (bY a A b c d e)] [aj false]:=
 h.of
def aaP(a:Int)(q:Bool)(b:Int)(r:Bool)(c:Int)(s:Bool)(A:ag)(l:List O):List O:=aaO a q b r c s (.n s false::.v (b+c)::.v (b+c+(A.length:Int))::l)
theorem aof(h:ad (aaP a q b r c s A [.b (b+c+(A.length:Int) != a) true])):
 aq 188 [.agg (bY a A b c d e)] [aj false]:=
 h.of
def IA(a:Int)(q:Bool)(b:Int)(r:Bool)(c:Int)(s:Bool)(A:ag)(d:Int)(t:Bool)(l:List O):List O:=aaP a q b r c s A (.b (b+c+(A.length:Int) != a) false::.r 190 [ae d,ae 0,ae 1000000000] [aj t]::l)
theorem aog(h:ad (IA a q b r c s A d t [.n t true])):
 aq 188 [.agg (bY a A b c d e)] [aj false]:=
 h.of
theorem aoh(h:ad (IA a q b r c s A d t [.n t false,.b (decide (e<0)) true])):
 aq 188 [.agg (bY a A b c d e)] [aj false]:=
 h.of
theorem aoi(h:ad (IA a q b r c s A d t [.n t false,.b (decide (e<0)) false,.v (d-e),.b (d-e != (A.length:Int)) true])):
 aq 188 [.agg (bY a A b c d e)] [aj false]:=
 h.of
theorem aoj(h:ad (IA a r b s c t A d u [.n u false,.b (decide (e<0)) false,.v (d-e),.b (d-e != (A.length:Int)) false,.r 282 [aO 5 A] [aj q]])):
 aq 188 [.agg (bY a A b c d e)] [aj q]:=
 h.of
def yd(A:ag)(a:Int):aC:=bb 15 [(5,dB 5 A),(6,aU (A.length:Int)),(7,aU a)] []
def NA(q:Bool):aC:=bb 15 [(2,.aG (.one (.bg q)))] []
theorem aok(h:ad (Ed A a b c d e f q [.n q true])):
 aV (ap Tryz.f282 0) (yd A a) .ret (NA false):=
 h.aS [2] []
theorem aol(h:ad (Ed A a b c d e f q [.n q false,.u a])):
 aV (ap Tryz.f282 0) (yd A a) .normal (yd A (a+1)):=
 h.aS [7,6,5] []
def Vo:aC:=bb 15 [] []
theorem aom(h:ad [.f A a false]):
 aV (ap Tryz.f282 0) (yd A a) (.exit 0) Vo:=
 h.aS [] []
theorem aon(h:ad [.l [] [7,6,5] [] (ap Tryz.f282 0) (yd A 0) .ret (NA q)]):
 aq 282 [aO 5 A] [aj q]:=
 h.of
theorem aoo(h:ad [.l [] [7,6,5] [] (ap Tryz.f282 0) (yd A 0) (.exit 0) Vo]):
 aq 282 [aO 5 A] [aj true]:=
 h.of
def Qj(A:ag)(a b:Int)(q:Bool)(l:List O):List O:=.r 121 [.agg (br A a b)] [aj q]::l
theorem aop(h:ad (Qj A a b q [.n q true])):
 aq 56 [.agg (cl A a b C E F G)] [aj false]:=
 h.of
theorem anA(h:ad (Qj A a b q [.n q false,.b ((C.length:Int) != a) true])):
 aq 56 [.agg (cl A a b C E F G)] [aj false]:=
 h.of
def aaQ(A:ag)(a b:Int)(q:Bool)(C:ag)(l:List O):List O:=Qj A a b q (.n q false::.b ((C.length:Int) != a) false::.v (a*a)::l)
theorem anB(h:ad (aaQ A a b q C [.b ((E.length:Int) != a*a) true])):
 aq 56 [.agg (cl A a b C E F G)] [aj false]:=
 h.of
def aaY(A:ag)(a b:Int)(q:Bool)(C E:ag)(l:List O):List O:=aaQ A a b q C (.b ((E.length:Int) != a*a) false::l)
theorem anC(h:ad (aaY A a b q C E [.b ((F.length:Int) != 4) true])):
 aq 56 [.agg (cl A a b C E F G)] [aj false]:=
 h.of
def tX(A:ag)(a b:Int)(C E F G:ag)(c:Int):aC:=bb 170 [(1,aR 1),(3,aU a),(4,aU c)] [(1,[.J .free 4 A,au a,au b,.J .free 8 C,.J .free 6 E,.J .free 5 F,.J .free 3 G])]
def GJ(q:Bool):aC:=bb 170 [(2,.aG (.one (.bg q)))] []
theorem anD(h:ad [.b (decide (b<a)) true,.x L b (aW M C E F G H ah K),.r 175 [.agg (br A a c),.agg (aW M C E F G H ah K)] [aj q],.n q true]):
 aV (ap Tryz.f56 0) (tX A a c L N Q R b) .ret (GJ false):=
 h.aS [2] []
theorem anE(h:ad [.b (decide (a<b)) true,.x C a (aW R E F G H ah K L),.r 175 [.agg (br A b c),.agg (aW R E F G H ah K L)] [aj q],.n q false,.u a]):
 aV (ap Tryz.f56 0) (tX A b c C M N Q a) .normal (tX A b c C M N Q (a+1)):=
 h.aS [4,3,1] [1]
def Lh(A:ag)(a b:Int)(C E F G:ag):aC:=bb 170 [(1,aR 1),(3,aU a)] [(1,[.J .free 4 A,au a,au b,.J .free 8 C,.J .free 6 E,.J .free 5 F,.J .free 3 G])]
theorem anF(h:ad [.b (decide (c<a)) false]):
 aV (ap Tryz.f56 0) (tX A a b C E F G c) (.exit 0) (Lh A a b C E F G):=
 h.aS [1,3] [1]
def aaZ(A:ag)(a b:Int)(q:Bool)(C E F:ag)(l:List O):List O:=aaY A a b q C E (.b ((F.length:Int) != 4) false::l)
theorem anG(h:ad (aaZ A a b q C E F [.l [] [4,3,1] [1] (ap Tryz.f56 0) (tX A a b C E F G 0) .ret (GJ r)])):
 aq 56 [.agg (cl A a b C E F G)] [aj r]:=
 h.of
def na(a b:Int)(A:ag)(c d:Int)(C E F G:ag):aC:=bb 170 [(1,aR 1),(3,aU a),(5,aU b)] [(1,[.J .free 4 A,au c,au d,.J .free 8 C,.J .free 6 E,.J .free 5 F,.J .free 3 G])]
def AB(q:Bool):aC:=bb 170 [(2,.aG (.one (.bg q)))] []
def Qs(A:ag)(a b:Int)(C:ag)(c d e f:Int)(q:Bool)(l:List O):List O:=.i A a (bY b C c d e f)::.r 191 [.agg (bY b C c d e f)] [aj q]::l
theorem anH(h:ad (Qs A f a C b c d e q [.n q true])):
 aV (ap Tryz.f56 1) (na g f H i j E A F G) .ret (AB false):=
 h.aS [2] []
theorem anI(h:ad (Qs A g a C c d e f q [.n q false,.b (a != b) true])):
 aV (ap Tryz.f56 1) (na i g H j b E A F G) .ret (AB false):=
 h.aS [2] []
def IE(A:ag)(a b:Int)(C:ag)(c d e f:Int)(q:Bool)(g:Int)(E:ag)(i:Int)(r:Bool)(l:List O):List O:=Qs A a b C c d e f q (.n q false::.b (b != g) false::.r 192 [.agg (br E i g),aO 5 C] [aj r]::l)
theorem anJ(h:ad (IE C i b A d e f g q a E c r [.n r true])):
 aV (ap Tryz.f56 1) (na j i E c a F C G H) .ret (AB false):=
 h.aS [2] []
theorem anK(h:ad (IE C b d A f g i j q c E e r [.n r false,.p (a≠0),.v (b.tdiv a),.p (a≠0),.b (b.tdiv a==b.tmod a) true,.b (decide ((A.length:Int)>0)) true])):
 aV (ap Tryz.f56 1) (na a b E e c F C G H) .ret (AB false):=
 h.aS [2] []
theorem anL(h:ad (IE C b e A f g i j q c E d r [.n r false,.p (a≠0),.v (b.tdiv a),.p (a≠0),.b (b.tdiv a==b.tmod a) true,.b (decide ((A.length:Int)>0)) false,.u b])):
 aV (ap Tryz.f56 1) (na a b E d c F C G H) .normal (na a (b+1) E d c F C G H):=
 h.aS [5,1,3] [1]
theorem anM(h:ad (IE A b e C f g i j q c E d r [.n r false,.p (a≠0),.v (b.tdiv a),.p (a≠0),.b (b.tdiv a==b.tmod a) false,.u b])):
 aV (ap Tryz.f56 1) (na a b E d c F A G H) .normal (na a (b+1) E d c F A G H):=
 h.aS [5,1,3] [1]
def CZ(a:Int)(A:ag)(b c:Int)(C E F G:ag):aC:=bb 170 [(1,aR 1),(3,aU a)] [(1,[.J .free 4 A,au b,au c,.J .free 8 C,.J .free 6 E,.J .free 5 F,.J .free 3 G])]
theorem anN(h:ad [.f A d false]):
 aV (ap Tryz.f56 1) (na a d G b c C A E F) (.exit 2) (CZ a G b c C A E F):=
 h.aS [1,3] [1]
def ID(A:ag)(a b:Int)(q:Bool)(C E F:ag)(W:Code)(G:ag)(l:List O):List O:=aaZ A a b q C E F (.l [] [4,3,1] [1] W (tX A a b C E F G 0) (.exit 0) (Lh A a b C E F G)::l)
theorem anO(h:ad (ID A a b q C E F (ap Tryz.f56 0) G [.l [] [5,1,3] [1] (ap Tryz.f56 1) (na a 0 A a b C E F G) .ret (AB r)])):
 aq 56 [.agg (cl A a b C E F G)] [aj r]:=
 h.of
def nL(a:Int)(A:ag)(b c:Int)(C E F G:ag)(d:Int):aC:=bb 170 [(1,aR 1),(3,aU a),(7,aU d)] [(1,[.J .free 4 A,au b,au c,.J .free 8 C,.J .free 6 E,.J .free 5 F,.J .free 3 G])]
def ye(q:Bool):aC:=bb 170 [(2,.aG (.one (.bg q)))] []
def aa0(A:ag)(a:Int)(q:Bool)(b c:Int)(r s:Bool)(d:Int)(l:List O):List O:=.i A a [B q,I b,I c,B r,B s]::.v (d-1)::l
def aa1(A:ag)(a:Int)(q:Bool)(b c:Int)(r s:Bool)(d:Int)(t:Bool)(l:List O):List O:=aa0 A a q b c r s d (.r 168 [ae b,ae 0,ae (d-1)] [aj t]::l)
theorem anP(h:ad (aa1 A b r c e s t a q [.n q true])):
 aV (ap Tryz.f56 2) (nL a G f d C E A F b) .ret (ye false):=
 h.aS [2] []
def El(A:ag)(a:Int)(q:Bool)(b c:Int)(r s:Bool)(d:Int)(t u:Bool)(e f:Int)(v w:Bool)(l:List O):List O:=aa1 A a q b c r s d t (.n t false::.x A a [B u,I e,I f,B v,B w]::l)
theorem anQ(h:ad (El A a s c f t u b q r g i v w [.n r true,.x A a [B x,I d,I j,B y,B z],.b (d != 0) true])):
 aV (ap Tryz.f56 2) (nL b G k e C E A F a) .ret (ye false):=
 h.aS [2] []
theorem anR(h:ad (El A a t c g u v b q r i j w x [.n r true,.x A a [B y,I d,I k,B z,B gE],.b (d != 0) false,.x A a [B gH,I l,I e,B gZ,B t0],.r 168 [ae e,ae (-1000000),ae 1000000] [aj s],.n s true])):
 aV (ap Tryz.f56 2) (nL b G m f C E A F a) .ret (ye false):=
 h.aS [2] []
theorem anS(h:ad (El A a t d i u v b q r j k w x [.n r true,.x A a [B y,I e,I l,B z,B gE],.b (e != 0) false,.x A a [B gH,I m,I f,B gZ,B t0],.r 168 [ae f,ae (-1000000),ae 1000000] [aj s],.n s false,.u a])):
 aV (ap Tryz.f56 2) (nL b G g c C E A F a) .normal (nL b G g c C E A F (a+1)):=
 h.aS [7,1,3] [1]
theorem anT(h:ad (El A a t c f u v b q r g i w x [.n r false,.x A a [B y,I j,I d,B z,B gE],.r 168 [ae d,ae (-1000000),ae 1000000] [aj s],.n s true])):
 aV (ap Tryz.f56 2) (nL b G k e C E A F a) .ret (ye false):=
 h.aS [2] []
theorem anU(h:ad (El A a t d g u v b q r i j w x [.n r false,.x A a [B y,I k,I e,B z,B gE],.r 168 [ae e,ae (-1000000),ae 1000000] [aj s],.n s false,.u a])):
 aV (ap Tryz.f56 2) (nL b G f c C E A F a) .normal (nL b G f c C E A F (a+1)):=
 h.aS [7,1,3] [1]
def GK(a:Int)(A:ag)(b c:Int)(C E F G:ag):aC:=bb 170 [(1,aR 1),(3,aU a)] [(1,[.J .free 4 A,au b,au c,.J .free 8 C,.J .free 6 E,.J .free 5 F,.J .free 3 G])]
theorem anV(h:ad [.f A c false]):
 aV (ap Tryz.f56 2) (nL a G d b C E A F c) (.exit 4) (GK a G d b C E A F):=
 h.aS [1,3] [1]
theorem anW(h:ad (ID A a b r C E F (ap Tryz.f56 0) G [.l [] [5,1,3] [1] (ap Tryz.f56 1) (na a 0 A a b C E F G) (.exit 2) (CZ a M d c H ah K L),.l [] [7,1,3] [1] (ap Tryz.f56 2) (nL a M d c H ah K L 0) .ret (ye q)])):
 aq 56 [.agg (cl A a b C E F G)] [aj q]:=
 h.of
def sZ(a:Int)(A:ag)(b c:Int)(C E F G:ag)(d:Int):aC:=bb 170 [(1,aR 1),(3,aU a),(8,aU d)] [(1,[.J .free 4 A,au b,au c,.J .free 8 C,.J .free 6 E,.J .free 5 F,.J .free 3 G])]
def C0(q:Bool):aC:=bb 170 [(2,.aG (.one (.bg q)))] []
theorem anX(h:ad [.i A b [I c,I e,B r],.v (a-1),.r 168 [ae c,ae 0,ae (a-1)] [aj q],.n q true]):
 aV (ap Tryz.f56 3) (sZ a G f d C E F A b) .ret (C0 false):=
 h.aS [2] []
theorem anY(h:ad [.i A b [I c,I f,B s],.v (a-1),.r 168 [ae c,ae 0,ae (a-1)] [aj q],.n q false,.x A b [I g,I d,B t],.r 168 [ae d,ae 0,ae 3] [aj r],.n r true]):
 aV (ap Tryz.f56 3) (sZ a G i e C E F A b) .ret (C0 false):=
 h.aS [2] []
theorem anZ(h:ad [.i A a [I d,I g,B s],.v (b-1),.r 168 [ae d,ae 0,ae (b-1)] [aj q],.n q false,.x A a [I i,I e,B t],.r 168 [ae e,ae 0,ae 3] [aj r],.n r false,.u a]):
 aV (ap Tryz.f56 3) (sZ b G f c C E F A a) .normal (sZ b G f c C E F A (a+1)):=
 h.aS [8,1,3] [1]
def NB:aC:=bb 170 [] []
theorem ano(h:ad [.f A a false]):
 aV (ap Tryz.f56 3) (sZ b G d c C E F A a) (.exit 6) NB:=
 h.aS [] []
theorem anp(h:ad (ID A a b r C E F (ap Tryz.f56 0) L [.l [] [5,1,3] [1] (ap Tryz.f56 1) (na a 0 A a b C E F L) (.exit 2) (CZ a M d c G H ah K),.l [] [7,1,3] [1] (ap Tryz.f56 2) (nL a M d c G H ah K 0) (.exit 4) (GK a M d c G H ah K),.l [] [8,1,3] [1] (ap Tryz.f56 3) (sZ a M d c G H ah K 0) .ret (C0 q)])):
 aq 56 [.agg (cl A a b C E F L)] [aj q]:=
 h.of
theorem anq(h:ad (ID A a b q C E F (ap Tryz.f56 0) L [.l [] [5,1,3] [1] (ap Tryz.f56 1) (na a 0 A a b C E F L) (.exit 2) (CZ a M d c G H ah K),.l [] [7,1,3] [1] (ap Tryz.f56 2) (nL a M d c G H ah K 0) (.exit 4) (GK a M d c G H ah K),.l [] [8,1,3] [1] (ap Tryz.f56 3) (sZ a M d c G H ah K 0) (.exit 6) NB])):
 aq 56 [.agg (cl A a b C E F L)] [aj true]:=
 h.of
def Qu(A:ag)(a b:Int)(q:Bool)(l:List O):List O:=.r 179 [.agg (br A a b)] [aj q]::l
theorem anr(h:ad (Qu A a b q [.n q true])):
 aq 55 [.agg (cl A a b C E F G)] [aj false]:=
 h.of
theorem ant(h:ad (Qu A a b q [.n q false,.b ((C.length:Int) != a) true])):
 aq 55 [.agg (cl A a b C E F G)] [aj false]:=
 h.of
def aa2(A:ag)(a b:Int)(q:Bool)(C:ag)(l:List O):List O:=Qu A a b q (.n q false::.b ((C.length:Int) != a) false::.v (a*a)::l)
theorem anu(h:ad (aa2 A a b q C [.b ((E.length:Int) != a*a) true])):
 aq 55 [.agg (cl A a b C E F G)] [aj false]:=
 h.of
def aa3(A:ag)(a b:Int)(q:Bool)(C E:ag)(l:List O):List O:=aa2 A a b q C (.b ((E.length:Int) != a*a) false::l)
theorem anv(h:ad (aa3 A a b q C E [.b ((F.length:Int) != 4) true])):
 aq 55 [.agg (cl A a b C E F G)] [aj false]:=
 h.of
def tY(a:Int)(A:ag)(b:Int)(C:ag)(c d:Int)(E F G H:ag):aC:=bb 147 [(1,aR 1),(3,aU a),(42,dB 8 A),(43,aU (A.length:Int)),(44,aU b)] [(1,[.J .free 4 C,au c,au d,.J .free 8 E,.J .free 6 F,.J .free 5 G,.J .free 3 H])]
def GL(q:Bool):aC:=bb 147 [(2,.aG (.one (.bg q)))] []
theorem anw(h:ad [.i L c (aW A C E F G H ah K),.r 187 [.agg (br M a b),.agg (aW A C E F G H ah K)] [aj q],.n q true]):
 aV (ap Tryz.f55 0) (tY d L c M a b N Q R S) .ret (GL false):=
 h.aS [2] []
theorem anx(h:ad [.i A a (aW ah K L M N Q R S),.r 187 [.agg (br C b c),.agg (aW ah K L M N Q R S)] [aj q],.n q false,.u a]):
 aV (ap Tryz.f55 0) (tY d A a C b c E F G H) .normal (tY d A (a+1) C b c E F G H):=
 h.aS [44,43,42,1,3] [1]
def Lg(a:Int)(A:ag)(b c:Int)(C E F G:ag):aC:=bb 147 [(1,aR 1),(3,aU a)] [(1,[.J .free 4 A,au b,au c,.J .free 8 C,.J .free 6 E,.J .free 5 F,.J .free 3 G])]
theorem anz(h:ad [.f G d false]):
 aV (ap Tryz.f55 0) (tY a G d H b c A C E F) (.exit 0) (Lg a H b c A C E F):=
 h.aS [1,3] [1]
def aa4(A:ag)(a b:Int)(q:Bool)(C E F:ag)(l:List O):List O:=aa3 A a b q C E (.b ((F.length:Int) != 4) false::l)
theorem ao0(h:ad (aa4 C a b q A E F [.l [] [44,43,42,1,3] [1] (ap Tryz.f55 0) (tY a A 0 C a b A E F G) .ret (GL r)])):
 aq 55 [.agg (cl C a b A E F G)] [aj r]:=
 h.of
def nc(a:Int)(A:ag)(b:Int)(C:ag)(c d:Int)(E F G H:ag):aC:=bb 147 [(1,aR 1),(3,aU a),(55,dB 6 A),(56,aU (A.length:Int)),(57,aU b)] [(1,[.J .free 4 C,au c,au d,.J .free 8 E,.J .free 6 F,.J .free 5 G,.J .free 3 H])]
def zO(q:Bool):aC:=bb 147 [(2,.aG (.one (.bg q)))] []
def Qt(A:ag)(a b:Int)(C:ag)(c d e f:Int)(q:Bool)(l:List O):List O:=.i A a (bY b C c d e f)::.r 188 [.agg (bY b C c d e f)] [aj q]::l
theorem ao1(h:ad (Qt A a b C c d e f q [.n q true])):
 aV (ap Tryz.f55 1) (nc g A a E i j F G H ah) .ret (zO false):=
 h.aS [2] []
theorem ao2(h:ad (Qt A b a C d e f g q [.n q false,.b (a != c) true])):
 aV (ap Tryz.f55 1) (nc i A b E j c F G H ah) .ret (zO false):=
 h.aS [2] []
def IF(A:ag)(a b:Int)(C:ag)(c d e f:Int)(q:Bool)(g:Int)(E:ag)(i:Int)(r:Bool)(l:List O):List O:=Qt A a b C c d e f q (.n q false::.b (b != g) false::.r 189 [.agg (br E i g),aO 5 C] [aj r]::l)
theorem ao3(h:ad (IF C c b A e f g i q a E d r [.n r true])):
 aV (ap Tryz.f55 1) (nc j C c E d a F G H ah) .ret (zO false):=
 h.aS [2] []
theorem ao4(h:ad (IF C b d A f g i j q c E e r [.n r false,.p (a≠0),.v (b.tdiv a),.p (a≠0),.b (b.tdiv a==b.tmod a) true,.b (decide ((A.length:Int)>0)) true])):
 aV (ap Tryz.f55 1) (nc a C b E e c F G H ah) .ret (zO false):=
 h.aS [2] []
theorem ao5(h:ad (IF C b e A f g i j q c E d r [.n r false,.p (a≠0),.v (b.tdiv a),.p (a≠0),.b (b.tdiv a==b.tmod a) true,.b (decide ((A.length:Int)>0)) false,.u b])):
 aV (ap Tryz.f55 1) (nc a C b E d c F G H ah) .normal (nc a C (b+1) E d c F G H ah):=
 h.aS [57,56,55,1,3] [1]
theorem ao6(h:ad (IF A b e E f g i j q c C d r [.n r false,.p (a≠0),.v (b.tdiv a),.p (a≠0),.b (b.tdiv a==b.tmod a) false,.u b])):
 aV (ap Tryz.f55 1) (nc a A b C d c F G H ah) .normal (nc a A (b+1) C d c F G H ah):=
 h.aS [57,56,55,1,3] [1]
def C1(a:Int)(A:ag)(b c:Int)(C E F G:ag):aC:=bb 147 [(1,aR 1),(3,aU a)] [(1,[.J .free 4 A,au b,au c,.J .free 8 C,.J .free 6 E,.J .free 5 F,.J .free 3 G])]
theorem ao7(h:ad [.f A b false]):
 aV (ap Tryz.f55 1) (nc a A b C c d E F G H) (.exit 2) (C1 a C c d E F G H):=
 h.aS [1,3] [1]
def IG(A:ag)(a b:Int)(q:Bool)(C E F:ag)(W:Code)(G H:ag)(c d:Int)(ah K L M:ag)(l:List O):List O:=aa4 A a b q C E F (.l [] [44,43,42,1,3] [1] W (tY a C 0 A a b C E F G) (.exit 0) (Lg a H c d ah K L M)::l)
theorem ao8(h:ad (IG C a b r A F G (ap Tryz.f55 0) L M d c H E ah K [.l [] [57,56,55,1,3] [1] (ap Tryz.f55 1) (nc a E 0 M d c H E ah K) .ret (zO q)])):
 aq 55 [.agg (cl C a b A F G L)] [aj q]:=
 h.of
def nM(a:Int)(A:ag)(b:Int)(C:ag)(c d:Int)(E F G H:ag):aC:=bb 147 [(1,aR 1),(3,aU a),(98,dB 5 A),(99,aU (A.length:Int)),(100,aU b)] [(1,[.J .free 4 C,au c,au d,.J .free 8 E,.J .free 6 F,.J .free 5 G,.J .free 3 H])]
def yf(q:Bool):aC:=bb 147 [(2,.aG (.one (.bg q)))] []
def AP(A:ag)(a:Int)(q:Bool)(b c:Int)(r s:Bool)(d:Int)(t:Bool)(l:List O):List O:=aa0 A a q b c r s d (.r 190 [ae b,ae 0,ae (d-1)] [aj t]::l)
theorem ao9(h:ad (AP A b r c f s t a q [.n q true])):
 aV (ap Tryz.f55 2) (nM a A b C d e E F G H) .ret (yf false):=
 h.aS [2] []
theorem apa(h:ad (AP A c q b f s t a r [.n r false,.n q true,.b (b != 0) true])):
 aV (ap Tryz.f55 2) (nM a A c C d e E F G H) .ret (yf false):=
 h.aS [2] []
theorem apb(h:ad (AP A c q b d t u a r [.n r false,.n q true,.b (b != 0) false,.r 190 [ae d,ae (-1000000),ae 1000000] [aj s],.n s true])):
 aV (ap Tryz.f55 2) (nM a A c C e f E F G H) .ret (yf false):=
 h.aS [2] []
theorem apc(h:ad (AP A b q c f t u a r [.n r false,.n q true,.b (c != 0) false,.r 190 [ae f,ae (-1000000),ae 1000000] [aj s],.n s false,.u b])):
 aV (ap Tryz.f55 2) (nM a A b C d e E F G H) .normal (nM a A (b+1) C d e E F G H):=
 h.aS [100,99,98,3,1] [1]
theorem apd(h:ad (AP A b q c d t u a r [.n r false,.n q false,.r 190 [ae d,ae (-1000000),ae 1000000] [aj s],.n s true])):
 aV (ap Tryz.f55 2) (nM a A b C e f E F G H) .ret (yf false):=
 h.aS [2] []
theorem ape(h:ad (AP A b q e f t u a r [.n r false,.n q false,.r 190 [ae f,ae (-1000000),ae 1000000] [aj s],.n s false,.u b])):
 aV (ap Tryz.f55 2) (nM a A b C c d E F G H) .normal (nM a A (b+1) C c d E F G H):=
 h.aS [100,99,98,3,1] [1]
def GM(a:Int)(A:ag)(b c:Int)(C E F G:ag):aC:=bb 147 [(1,aR 1),(3,aU a)] [(1,[.J .free 4 A,au b,au c,.J .free 8 C,.J .free 6 E,.J .free 5 F,.J .free 3 G])]
theorem apf(h:ad [.f A b false]):
 aV (ap Tryz.f55 2) (nM a A b C c d E F G H) (.exit 4) (GM a C c d E F G H):=
 h.aS [1,3] [1]
theorem apg(h:ad (IG C a b r A G H (ap Tryz.f55 0) S ba f c ah E K L [.l [] [57,56,55,1,3] [1] (ap Tryz.f55 1) (nc a E 0 ba f c ah E K L) (.exit 2) (C1 a M d e N Q F R),.l [] [100,99,98,3,1] [1] (ap Tryz.f55 2) (nM a F 0 M d e N Q F R) .ret (yf q)])):
 aq 55 [.agg (cl C a b A G H S)] [aj q]:=
 h.of
def s0(a:Int)(A:ag)(b:Int):aC:=bb 147 [(3,aU a),(128,dB 3 A),(129,aU (A.length:Int)),(130,aU b)] []
def C2(q:Bool):aC:=bb 147 [(2,.aG (.one (.bg q)))] []
theorem aph(h:ad [.i A b [I c,I d,B r],.v (a-1),.r 190 [ae c,ae 0,ae (a-1)] [aj q],.n q true]):
 aV (ap Tryz.f55 3) (s0 a A b) .ret (C2 false):=
 h.aS [2] []
theorem api(h:ad [.i A b [I c,I d,B s],.v (a-1),.r 190 [ae c,ae 0,ae (a-1)] [aj q],.n q false,.r 190 [ae d,ae 0,ae 3] [aj r],.n r true]):
 aV (ap Tryz.f55 3) (s0 a A b) .ret (C2 false):=
 h.aS [2] []
theorem apj(h:ad [.i A b [I c,I d,B s],.v (a-1),.r 190 [ae c,ae 0,ae (a-1)] [aj q],.n q false,.r 190 [ae d,ae 0,ae 3] [aj r],.n r false,.u b]):
 aV (ap Tryz.f55 3) (s0 a A b) .normal (s0 a A (b+1)):=
 h.aS [130,129,128,3] []
def NC:aC:=bb 147 [] []
theorem apk(h:ad [.f A a false]):
 aV (ap Tryz.f55 3) (s0 b A a) (.exit 6) NC:=
 h.aS [] []
theorem apl(h:ad (IG C a b r A G H (ap Tryz.f55 0) ba V f c ah E K L [.l [] [57,56,55,1,3] [1] (ap Tryz.f55 1) (nc a E 0 V f c ah E K L) (.exit 2) (C1 a M d e N Q F R),.l [] [100,99,98,3,1] [1] (ap Tryz.f55 2) (nM a F 0 M d e N Q F R) (.exit 4) (GM a X g i Y Z dC S),.l [] [130,129,128,3] [] (ap Tryz.f55 3) (s0 a S 0) .ret (C2 q)])):
 aq 55 [.agg (cl C a b A G H ba)] [aj q]:=
 h.of
theorem apm(h:ad (IG C a b q A G H (ap Tryz.f55 0) ba V f c ah E K L [.l [] [57,56,55,1,3] [1] (ap Tryz.f55 1) (nc a E 0 V f c ah E K L) (.exit 2) (C1 a M d e N Q F R),.l [] [100,99,98,3,1] [1] (ap Tryz.f55 2) (nM a F 0 M d e N Q F R) (.exit 4) (GM a X g i Y Z dC S),.l [] [130,129,128,3] [] (ap Tryz.f55 3) (s0 a S 0) (.exit 6) NC])):
 aq 55 [.agg (cl C a b A G H ba)] [aj true]:=
 h.of
