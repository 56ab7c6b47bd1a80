import Derived.Test.YtdchjefneblpgaaGreatGE
namespace Go.Proofs.YtdchjefneblpgaaGreat
open Go.Sx Go.RowKit
variable {a b c d e f g : Int} {A : ae} {q r s t : Bool}
def Uq(a:Int)(l:List O):List O:=.b (a==2) true::l
def Ur(a b:Int)(q r:Bool)(l:List O):List O:=Uq a (.r 168 [af b,af 0,af 999] [ak q]::.r 168 [af a,af 1,af 8] [ak r]::l)
theorem ap2(h:ad (Ur a b r q [.n q true])):
av 243 [.agg (bj a b c A)] [ak false]:=
h.of
def LJ(a b:Int)(q r:Bool)(l:List O):List O:=Ur a b q r (.n r false::l)
theorem ap3(h:ad (LJ a b q r [.n q true])):
av 243 [.agg (bj a b c A)] [ak false]:=
h.of
theorem ap4(h:ad (LJ a b q r [.n q false,.b (!c==0) true])):
av 243 [.agg (bj a b c A)] [ak false]:=
h.of
def Us(a b:Int)(q r:Bool)(c:Int)(l:List O):List O:=LJ a b q r (.n q false::.b (!c==0) false::l)
theorem ap5(h:ad (Us a b q r c [.b (decide ((A.length:Int)>2)) true])):
av 243 [.agg (bj a b c A)] [ak false]:=
h.of
def AX(a b:Int)(q r:Bool)(c:Int)(A:ae)(l:List O):List O:=Us a b q r c (.b (decide ((A.length:Int)>2)) false::l)
theorem ap6(h:ad (AX a b q r c A [.b (a==8) true,.b (decide ((A.length:Int)>0)) true])):
av 243 [.agg (bj a b c A)] [ak false]:=
h.of
def hE(a b c:Int)(A:ae)(d:Int):aI:=bg 93 [(1,aQ 1),(5,aY d)] [(1,[ax a,ax b,ax c,.J .free 1 A])]
def pT(q:Bool):aI:=bg 93 [(2,.aK (.one (.ba q)))] []
def LS(A:ae)(a b:Int)(q:Bool)(l:List O):List O:=.i A a [I b]::.r 168 [af b,af 0,af 7] [ak q]::l
theorem Kx(h:ad (LS A a b q [.n q true])):
a7 (aq Tryz.f243 0) (hE c d e A a) .ret (pT false):=
h.aX [2] []
def UA(A:ae)(a b:Int)(q:Bool)(c d:Int)(l:List O):List O:=LS A a b q (.n q false::.b (decide (a>0)) true::.p ((0:Int)<=0)::.p (0<(A.length:Int))::.e A 0 [I c]::.p ((0:Int)<=1)::.p (1<(A.length:Int))::.e A 1 [I d]::l)
theorem ap7(h:ad (UA A a c q d b [.b (d==b) true])):
a7 (aq Tryz.f243 0) (hE e f g A a) .ret (pT false):=
h.aX [2] []
theorem ap8(h:ad (UA A a f q g d [.b (g==d) false,.u a])):
a7 (aq Tryz.f243 0) (hE b c e A a) .normal (hE b c e A (a+1)):=
h.aX [5,1] [1]
theorem Q1(h:ad (LS A a e q [.n q false,.b (decide (a>0)) false,.u a])):
a7 (aq Tryz.f243 0) (hE b c d A a) .normal (hE b c d A (a+1)):=
h.aX [5,1] [1]
def qB:aI:=bg 93 [] []
theorem Ky(h:ad [.f A a false]):
a7 (aq Tryz.f243 0) (hE b c d A a) (.exit 1) qB:=
h.aX [] []
theorem ap9(h:ad (AX a b q r c A [.b (a==8) true,.b (decide ((A.length:Int)>0)) false,.l [] [5,1] [1] (aq Tryz.f243 0) (hE a b c A 0) .ret (pT s)])):
av 243 [.agg (bj a b c A)] [ak s]:=
h.of
theorem aqa(h:ad (AX a b q r c A [.b (a==8) true,.b (decide ((A.length:Int)>0)) false,.l [] [5,1] [1] (aq Tryz.f243 0) (hE a b c A 0) (.exit 1) qB])):
av 243 [.agg (bj a b c A)] [ak true]:=
h.of
theorem aqb(h:ad (AX a b q r c A [.b (a==8) false,.l [] [5,1] [1] (aq Tryz.f243 0) (hE a b c A 0) .ret (pT s)])):
av 243 [.agg (bj a b c A)] [ak s]:=
h.of
theorem aqc(h:ad (AX a b q r c A [.b (a==8) false,.l [] [5,1] [1] (aq Tryz.f243 0) (hE a b c A 0) (.exit 1) qB])):
av 243 [.agg (bj a b c A)] [ak true]:=
h.of
def UB(a:Int)(l:List O):List O:=.b (a==2) false::l
def UC(a:Int)(l:List O):List O:=UB a (.b (a==3) true::l)
def L0(a b:Int)(q:Bool)(c:Int)(r s:Bool)(l:List O):List O:=UC a (.r 168 [af b,af 1,af 10] [ak q]::.a .wr::.r 168 [af c,af 0,af (IntKind.i64.wrap (b-1))] [ak r]::.r 168 [af a,af 1,af 8] [ak s]::l)
theorem apD(h:ad (L0 a b r c s q [.n q true])):
av 243 [.agg (bj a b c A)] [ak false]:=
h.of
theorem apE(h:ad (L0 a b q c s r [.n r false,.n q true])):
av 243 [.agg (bj a b c A)] [ak false]:=
h.of
def L1(a b:Int)(q:Bool)(c:Int)(r s:Bool)(l:List O):List O:=L0 a b q c r s (.n s false::.n q false::l)
theorem apF(h:ad (L1 a b q c r s [.n r true])):
av 243 [.agg (bj a b c A)] [ak false]:=
h.of
theorem apG(h:ad (L1 a b q c r s [.n r false,.b (decide ((A.length:Int)>2)) true])):
av 243 [.agg (bj a b c A)] [ak false]:=
h.of
def A8(a b:Int)(q:Bool)(c:Int)(r s:Bool)(A:ae)(l:List O):List O:=L1 a b q c r s (.n r false::.b (decide ((A.length:Int)>2)) false::l)
theorem apH(h:ad (A8 a b q c r s A [.b (a==8) true,.b (decide ((A.length:Int)>0)) true])):
av 243 [.agg (bj a b c A)] [ak false]:=
h.of
theorem apI(h:ad (A8 a b q c r s A [.b (a==8) true,.b (decide ((A.length:Int)>0)) false,.l [] [5,1] [1] (aq Tryz.f243 0) (hE a b c A 0) .ret (pT t)])):
av 243 [.agg (bj a b c A)] [ak t]:=
h.of
theorem apJ(h:ad (A8 a b q c r s A [.b (a==8) true,.b (decide ((A.length:Int)>0)) false,.l [] [5,1] [1] (aq Tryz.f243 0) (hE a b c A 0) (.exit 1) qB])):
av 243 [.agg (bj a b c A)] [ak true]:=
h.of
theorem apK(h:ad (A8 a b q c r s A [.b (a==8) false,.l [] [5,1] [1] (aq Tryz.f243 0) (hE a b c A 0) .ret (pT t)])):
av 243 [.agg (bj a b c A)] [ak t]:=
h.of
theorem apL(h:ad (A8 a b q c r s A [.b (a==8) false,.l [] [5,1] [1] (aq Tryz.f243 0) (hE a b c A 0) (.exit 1) qB])):
av 243 [.agg (bj a b c A)] [ak true]:=
h.of
def UX(a:Int)(l:List O):List O:=UB a (.b (a==3) false::l)
def UY(a:Int)(l:List O):List O:=UX a (.b (a==4) true::l)
def UZ(a b:Int)(q r:Bool)(l:List O):List O:=UY a (.r 168 [af b,af 0,af 99] [ak q]::.r 168 [af a,af 1,af 8] [ak r]::l)
theorem apM(h:ad (UZ a b r q [.n q true])):
av 243 [.agg (bj a b c A)] [ak false]:=
h.of
def L5(a b:Int)(q r:Bool)(l:List O):List O:=UZ a b q r (.n r false::l)
theorem ard(h:ad (L5 a b q r [.n q true])):
av 243 [.agg (bj a b c A)] [ak false]:=
h.of
theorem arf(h:ad (L5 a b q r [.n q false,.b (!c==0) true])):
av 243 [.agg (bj a b c A)] [ak false]:=
h.of
def U0(a b:Int)(q r:Bool)(c:Int)(l:List O):List O:=L5 a b q r (.n q false::.b (!c==0) false::l)
theorem arh(h:ad (U0 a b q r c [.b (decide ((A.length:Int)>2)) true])):
av 243 [.agg (bj a b c A)] [ak false]:=
h.of
def A'(a b:Int)(q r:Bool)(c:Int)(A:ae)(l:List O):List O:=U0 a b q r c (.b (decide ((A.length:Int)>2)) false::l)
theorem ari(h:ad (A' a b q r c A [.b (a==8) true,.b (decide ((A.length:Int)>0)) true])):
av 243 [.agg (bj a b c A)] [ak false]:=
h.of
theorem arj(h:ad (A' a b q r c A [.b (a==8) true,.b (decide ((A.length:Int)>0)) false,.l [] [5,1] [1] (aq Tryz.f243 0) (hE a b c A 0) .ret (pT s)])):
av 243 [.agg (bj a b c A)] [ak s]:=
h.of
theorem ark(h:ad (A' a b q r c A [.b (a==8) true,.b (decide ((A.length:Int)>0)) false,.l [] [5,1] [1] (aq Tryz.f243 0) (hE a b c A 0) (.exit 1) qB])):
av 243 [.agg (bj a b c A)] [ak true]:=
h.of
theorem arl(h:ad (A' a b q r c A [.b (a==8) false,.l [] [5,1] [1] (aq Tryz.f243 0) (hE a b c A 0) .ret (pT s)])):
av 243 [.agg (bj a b c A)] [ak s]:=
h.of
theorem arm(h:ad (A' a b q r c A [.b (a==8) false,.l [] [5,1] [1] (aq Tryz.f243 0) (hE a b c A 0) (.exit 1) qB])):
av 243 [.agg (bj a b c A)] [ak true]:=
h.of
def L9(a:Int)(l:List O):List O:=UX a (.b (a==4) false::l)
def U4(a:Int)(q:Bool)(l:List O):List O:=L9 a (.r 168 [af a,af 1,af 8] [ak q]::l)
theorem arn(h:ad (U4 a q [.n q true])):
av 243 [.agg (bj a b c A)] [ak false]:=
h.of
def U5(a:Int)(q:Bool)(l:List O):List O:=U4 a q (.n q false::l)
theorem aro(h:ad (U5 a q [.b (!b==0) true])):
av 243 [.agg (bj a b c A)] [ak false]:=
h.of
def UD(a:Int)(q:Bool)(b:Int)(l:List O):List O:=U5 a q (.b (!b==0) false::l)
theorem arp(h:ad (UD a q b [.b (!c==0) true])):
av 243 [.agg (bj a b c A)] [ak false]:=
h.of
def UE(a:Int)(q:Bool)(b c:Int)(l:List O):List O:=UD a q b (.b (!c==0) false::l)
theorem arq(h:ad (UE a q b c [.b (decide ((A.length:Int)>2)) true])):
av 243 [.agg (bj a b c A)] [ak false]:=
h.of
def A7(a:Int)(q:Bool)(b c:Int)(A:ae)(l:List O):List O:=UE a q b c (.b (decide ((A.length:Int)>2)) false::l)
theorem ars(h:ad (A7 a q b c A [.b (a==8) true,.b (decide ((A.length:Int)>0)) true])):
av 243 [.agg (bj a b c A)] [ak false]:=
h.of
theorem art(h:ad (A7 a q b c A [.b (a==8) true,.b (decide ((A.length:Int)>0)) false,.l [] [5,1] [1] (aq Tryz.f243 0) (hE a b c A 0) .ret (pT r)])):
av 243 [.agg (bj a b c A)] [ak r]:=
h.of
theorem aru(h:ad (A7 a q b c A [.b (a==8) true,.b (decide ((A.length:Int)>0)) false,.l [] [5,1] [1] (aq Tryz.f243 0) (hE a b c A 0) (.exit 1) qB])):
av 243 [.agg (bj a b c A)] [ak true]:=
h.of
theorem arv(h:ad (A7 a q b c A [.b (a==8) false,.l [] [5,1] [1] (aq Tryz.f243 0) (hE a b c A 0) .ret (pT r)])):
av 243 [.agg (bj a b c A)] [ak r]:=
h.of
theorem arw(h:ad (A7 a q b c A [.b (a==8) false,.l [] [5,1] [1] (aq Tryz.f243 0) (hE a b c A 0) (.exit 1) qB])):
av 243 [.agg (bj a b c A)] [ak true]:=
h.of
def Ut(a b:Int)(q:Bool)(l:List O):List O:=Uq a (.r 190 [af b,af 0,af 999] [ak q]::l)
theorem arx(h:ad (Ut a b q [.n q true])):
av 273 [.agg (bj a b c A)] [ak false]:=
h.of
def EJ(a b:Int)(q:Bool)(l:List O):List O:=Ut a b q (.n q false::l)
theorem ary(h:ad (EJ a b q [.b (c != 0) true])):
av 273 [.agg (bj a b c A)] [ak false]:=
h.of
def Uz(a b:Int)(q:Bool)(c:Int)(l:List O):List O:=EJ a b q (.b (c != 0) false::l)
theorem arz(h:ad (Uz a b q c [.b (decide ((A.length:Int)>2)) true])):
av 273 [.agg (bj a b c A)] [ak false]:=
h.of
def A4(a b:Int)(q:Bool)(c:Int)(A:ae)(l:List O):List O:=Uz a b q c (.b (decide ((A.length:Int)>2)) false::l)
theorem arA(h:ad (A4 a b q c A [.b (a==8) true,.b (decide ((A.length:Int)>0)) true])):
av 273 [.agg (bj a b c A)] [ak false]:=
h.of
def A5(a b:Int)(q:Bool)(c:Int)(A:ae)(l:List O):List O:=A4 a b q c A (.b (a==8) true::.b (decide ((A.length:Int)>0)) false::l)
def A6(a b:Int)(q:Bool)(c:Int)(A:ae)(d e:Int)(l:List O):List O:=A5 a b q c A (.b ((A.length:Int)==2) true::.p ((0:Int)<=0)::.p (0<(A.length:Int))::.e A 0 [I d]::.p ((0:Int)<=1)::.p (1<(A.length:Int))::.e A 1 [I e]::l)
theorem arB(h:ad (A6 a b q c A d e [.b (d==e) true])):
av 273 [.agg (bj a b c A)] [ak false]:=
h.of
def dv(A:ae)(a:Int):aI:=bg 101 [(91,dw 1 A),(92,aY (A.length:Int)),(93,aY a)] []
def gg(q:Bool):aI:=bg 101 [(2,.aK (.one (.ba q)))] []
theorem arC(h:ad [.i A a [I b],.r 190 [af b,af 0,af 7] [ak q],.n q true]):
a7 (aq Tryz.f273 0) (dv A a) .ret (gg false):=
h.aX [2] []
theorem arD(h:ad [.i A a [I b],.r 190 [af b,af 0,af 7] [ak q],.n q false,.u a]):
a7 (aq Tryz.f273 0) (dv A a) .normal (dv A (a+1)):=
h.aX [93,92,91] []
def gv:aI:=bg 101 [] []
theorem arE(h:ad [.f A a false]):
a7 (aq Tryz.f273 0) (dv A a) (.exit 1) gv:=
h.aX [] []
theorem arF(h:ad (A6 a b q c A d e [.b (d==e) false,.l [] [93,92,91] [] (aq Tryz.f273 0) (dv A 0) .ret (gg r)])):
av 273 [.agg (bj a b c A)] [ak r]:=
h.of
theorem aqN(h:ad (A6 a b q c A d e [.b (d==e) false,.l [] [93,92,91] [] (aq Tryz.f273 0) (dv A 0) (.exit 1) gv])):
av 273 [.agg (bj a b c A)] [ak true]:=
h.of
theorem aqO(h:ad (A5 a b q c A [.b ((A.length:Int)==2) false,.l [] [93,92,91] [] (aq Tryz.f273 0) (dv A 0) .ret (gg r)])):
av 273 [.agg (bj a b c A)] [ak r]:=
h.of
theorem aqP(h:ad (A5 a b q c A [.b ((A.length:Int)==2) false,.l [] [93,92,91] [] (aq Tryz.f273 0) (dv A 0) (.exit 1) gv])):
av 273 [.agg (bj a b c A)] [ak true]:=
h.of
def LR(a b:Int)(q:Bool)(c:Int)(A:ae)(d e:Int)(l:List O):List O:=A4 a b q c A (.b (a==8) false::.b ((A.length:Int)==2) true::.p ((0:Int)<=0)::.p (0<(A.length:Int))::.e A 0 [I d]::.p ((0:Int)<=1)::.p (1<(A.length:Int))::.e A 1 [I e]::l)
theorem aqQ(h:ad (LR a b q c A d e [.b (d==e) true])):
av 273 [.agg (bj a b c A)] [ak false]:=
h.of
theorem aqR(h:ad (LR a b q c A d e [.b (d==e) false,.l [] [93,92,91] [] (aq Tryz.f273 0) (dv A 0) .ret (gg r)])):
av 273 [.agg (bj a b c A)] [ak r]:=
h.of
theorem aqS(h:ad (LR a b q c A d e [.b (d==e) false,.l [] [93,92,91] [] (aq Tryz.f273 0) (dv A 0) (.exit 1) gv])):
av 273 [.agg (bj a b c A)] [ak true]:=
h.of
theorem aqT(h:ad (A4 a b q c A [.b (a==8) false,.b ((A.length:Int)==2) false,.l [] [93,92,91] [] (aq Tryz.f273 0) (dv A 0) .ret (gg r)])):
av 273 [.agg (bj a b c A)] [ak r]:=
h.of
theorem aqU(h:ad (A4 a b q c A [.b (a==8) false,.b ((A.length:Int)==2) false,.l [] [93,92,91] [] (aq Tryz.f273 0) (dv A 0) (.exit 1) gv])):
av 273 [.agg (bj a b c A)] [ak true]:=
h.of
def UT(a b:Int)(q:Bool)(l:List O):List O:=UC a (.r 190 [af b,af 1,af 10] [ak q]::l)
theorem aqV(h:ad (UT a b q [.n q true])):
av 273 [.agg (bj a b c A)] [ak false]:=
h.of
def UU(a b:Int)(q:Bool)(c:Int)(r:Bool)(l:List O):List O:=UT a b q (.n q false::.a .wr::.r 190 [af c,af 0,af (IntKind.i64.wrap (b-1))] [ak r]::l)
theorem aqW(h:ad (UU a b q c r [.n r true])):
av 273 [.agg (bj a b c A)] [ak false]:=
h.of
def UW(a b:Int)(q:Bool)(c:Int)(r:Bool)(l:List O):List O:=UU a b q c r (.n r false::l)
theorem aqX(h:ad (UW a b q c r [.b (decide ((A.length:Int)>2)) true])):
av 273 [.agg (bj a b c A)] [ak false]:=
h.of
def A9(a b:Int)(q:Bool)(c:Int)(r:Bool)(A:ae)(l:List O):List O:=UW a b q c r (.b (decide ((A.length:Int)>2)) false::l)
theorem aqY(h:ad (A9 a b q c r A [.b (a==8) true,.b (decide ((A.length:Int)>0)) true])):
av 273 [.agg (bj a b c A)] [ak false]:=
h.of
def L2(a b:Int)(q:Bool)(c:Int)(r:Bool)(A:ae)(l:List O):List O:=A9 a b q c r A (.b (a==8) true::.b (decide ((A.length:Int)>0)) false::l)
def L3(a b:Int)(q:Bool)(c:Int)(r:Bool)(A:ae)(d e:Int)(l:List O):List O:=L2 a b q c r A (.b ((A.length:Int)==2) true::.p ((0:Int)<=0)::.p (0<(A.length:Int))::.e A 0 [I d]::.p ((0:Int)<=1)::.p (1<(A.length:Int))::.e A 1 [I e]::l)
theorem aqZ(h:ad (L3 a b q c r A d e [.b (d==e) true])):
av 273 [.agg (bj a b c A)] [ak false]:=
h.of
theorem aq0(h:ad (L3 a b q c r A d e [.b (d==e) false,.l [] [93,92,91] [] (aq Tryz.f273 0) (dv A 0) .ret (gg s)])):
av 273 [.agg (bj a b c A)] [ak s]:=
h.of
theorem aq1(h:ad (L3 a b q c r A d e [.b (d==e) false,.l [] [93,92,91] [] (aq Tryz.f273 0) (dv A 0) (.exit 1) gv])):
av 273 [.agg (bj a b c A)] [ak true]:=
h.of
theorem aq2(h:ad (L2 a b q c r A [.b ((A.length:Int)==2) false,.l [] [93,92,91] [] (aq Tryz.f273 0) (dv A 0) .ret (gg s)])):
av 273 [.agg (bj a b c A)] [ak s]:=
h.of
theorem aq3(h:ad (L2 a b q c r A [.b ((A.length:Int)==2) false,.l [] [93,92,91] [] (aq Tryz.f273 0) (dv A 0) (.exit 1) gv])):
av 273 [.agg (bj a b c A)] [ak true]:=
h.of
def L4(a b:Int)(q:Bool)(c:Int)(r:Bool)(A:ae)(d e:Int)(l:List O):List O:=A9 a b q c r A (.b (a==8) false::.b ((A.length:Int)==2) true::.p ((0:Int)<=0)::.p (0<(A.length:Int))::.e A 0 [I d]::.p ((0:Int)<=1)::.p (1<(A.length:Int))::.e A 1 [I e]::l)
theorem aq4(h:ad (L4 a b q c r A d e [.b (d==e) true])):
av 273 [.agg (bj a b c A)] [ak false]:=
h.of
theorem aq5(h:ad (L4 a b q c r A d e [.b (d==e) false,.l [] [93,92,91] [] (aq Tryz.f273 0) (dv A 0) .ret (gg s)])):
av 273 [.agg (bj a b c A)] [ak s]:=
h.of
theorem aq6(h:ad (L4 a b q c r A d e [.b (d==e) false,.l [] [93,92,91] [] (aq Tryz.f273 0) (dv A 0) (.exit 1) gv])):
av 273 [.agg (bj a b c A)] [ak true]:=
h.of
theorem aq7(h:ad (A9 a b q c r A [.b (a==8) false,.b ((A.length:Int)==2) false,.l [] [93,92,91] [] (aq Tryz.f273 0) (dv A 0) .ret (gg s)])):
av 273 [.agg (bj a b c A)] [ak s]:=
h.of
theorem aq8(h:ad (A9 a b q c r A [.b (a==8) false,.b ((A.length:Int)==2) false,.l [] [93,92,91] [] (aq Tryz.f273 0) (dv A 0) (.exit 1) gv])):
av 273 [.agg (bj a b c A)] [ak true]:=
h.of
def U1(a b:Int)(q:Bool)(l:List O):List O:=UY a (.r 190 [af b,af 0,af 99] [ak q]::l)
theorem aq9(h:ad (U1 a b q [.n q true])):
av 273 [.agg (bj a b c A)] [ak false]:=
h.of
def U2(a b:Int)(q:Bool)(l:List O):List O:=U1 a b q (.n q false::l)
theorem ara(h:ad (U2 a b q [.b (c != 0) true])):
av 273 [.agg (bj a b c A)] [ak false]:=
h.of
def U3(a b:Int)(q:Bool)(c:Int)(l:List O):List O:=U2 a b q (.b (c != 0) false::l)
theorem arb(h:ad (U3 a b q c [.b (decide ((A.length:Int)>2)) true])):
av 273 [.agg (bj a b c A)] [ak false]:=
h.of
def Ba(a b:Int)(q:Bool)(c:Int)(A:ae)(l:List O):List O:=U3 a b q c (.b (decide ((A.length:Int)>2)) false::l)
theorem arc(h:ad (Ba a b q c A [.b (a==8) true,.b (decide ((A.length:Int)>0)) true])):
av 273 [.agg (bj a b c A)] [ak false]:=
h.of
def L6(a b:Int)(q:Bool)(c:Int)(A:ae)(l:List O):List O:=Ba a b q c A (.b (a==8) true::.b (decide ((A.length:Int)>0)) false::l)
def L7(a b:Int)(q:Bool)(c:Int)(A:ae)(d e:Int)(l:List O):List O:=L6 a b q c A (.b ((A.length:Int)==2) true::.p ((0:Int)<=0)::.p (0<(A.length:Int))::.e A 0 [I d]::.p ((0:Int)<=1)::.p (1<(A.length:Int))::.e A 1 [I e]::l)
theorem aqD(h:ad (L7 a b q c A d e [.b (d==e) true])):
av 273 [.agg (bj a b c A)] [ak false]:=
h.of
theorem aqE(h:ad (L7 a b q c A d e [.b (d==e) false,.l [] [93,92,91] [] (aq Tryz.f273 0) (dv A 0) .ret (gg r)])):
av 273 [.agg (bj a b c A)] [ak r]:=
h.of
theorem aqF(h:ad (L7 a b q c A d e [.b (d==e) false,.l [] [93,92,91] [] (aq Tryz.f273 0) (dv A 0) (.exit 1) gv])):
av 273 [.agg (bj a b c A)] [ak true]:=
h.of
theorem aqG(h:ad (L6 a b q c A [.b ((A.length:Int)==2) false,.l [] [93,92,91] [] (aq Tryz.f273 0) (dv A 0) .ret (gg r)])):
av 273 [.agg (bj a b c A)] [ak r]:=
h.of
theorem aqH(h:ad (L6 a b q c A [.b ((A.length:Int)==2) false,.l [] [93,92,91] [] (aq Tryz.f273 0) (dv A 0) (.exit 1) gv])):
av 273 [.agg (bj a b c A)] [ak true]:=
h.of
def L8(a b:Int)(q:Bool)(c:Int)(A:ae)(d e:Int)(l:List O):List O:=Ba a b q c A (.b (a==8) false::.b ((A.length:Int)==2) true::.p ((0:Int)<=0)::.p (0<(A.length:Int))::.e A 0 [I d]::.p ((0:Int)<=1)::.p (1<(A.length:Int))::.e A 1 [I e]::l)
theorem aqI(h:ad (L8 a b q c A d e [.b (d==e) true])):
av 273 [.agg (bj a b c A)] [ak false]:=
h.of
theorem aqJ(h:ad (L8 a b q c A d e [.b (d==e) false,.l [] [93,92,91] [] (aq Tryz.f273 0) (dv A 0) .ret (gg r)])):
av 273 [.agg (bj a b c A)] [ak r]:=
h.of
theorem aqK(h:ad (L8 a b q c A d e [.b (d==e) false,.l [] [93,92,91] [] (aq Tryz.f273 0) (dv A 0) (.exit 1) gv])):
av 273 [.agg (bj a b c A)] [ak true]:=
h.of
theorem aqL(h:ad (Ba a b q c A [.b (a==8) false,.b ((A.length:Int)==2) false,.l [] [93,92,91] [] (aq Tryz.f273 0) (dv A 0) .ret (gg r)])):
av 273 [.agg (bj a b c A)] [ak r]:=
h.of
theorem aqM(h:ad (Ba a b q c A [.b (a==8) false,.b ((A.length:Int)==2) false,.l [] [93,92,91] [] (aq Tryz.f273 0) (dv A 0) (.exit 1) gv])):
av 273 [.agg (bj a b c A)] [ak true]:=
h.of
def UF(a:Int)(l:List O):List O:=L9 a (.b (a==1) true::.b (a==1) true::l)
theorem asg(h:ad (UF a [.b (b != 0) true])):
av 273 [.agg (bj a b c A)] [ak false]:=
h.of
def UG(a b:Int)(l:List O):List O:=UF a (.b (b != 0) false::l)
theorem ash(h:ad (UG a b [.b (c != 0) true])):
av 273 [.agg (bj a b c A)] [ak false]:=
h.of
def UH(a b c:Int)(l:List O):List O:=UG a b (.b (c != 0) false::l)
theorem asi(h:ad (UH a b c [.b (decide ((A.length:Int)>2)) true])):
av 273 [.agg (bj a b c A)] [ak false]:=
h.of
def EK(a b c:Int)(A:ae)(l:List O):List O:=UH a b c (.b (decide ((A.length:Int)>2)) false::l)
def UI(a b c:Int)(A:ae)(l:List O):List O:=EK a b c A (.b (a==8) true::l)
theorem asj(h:ad (UI a b c A [.b (decide ((A.length:Int)>0)) true])):
av 273 [.agg (bj a b c A)] [ak false]:=
h.of
def LU(a b c:Int)(A:ae)(l:List O):List O:=UI a b c A (.b (decide ((A.length:Int)>0)) false::l)
def LV(a b c:Int)(A:ae)(d e:Int)(l:List O):List O:=LU a b c A (.b ((A.length:Int)==2) true::.p ((0:Int)<=0)::.p (0<(A.length:Int))::.e A 0 [I d]::.p ((0:Int)<=1)::.p (1<(A.length:Int))::.e A 1 [I e]::l)
theorem asl(h:ad (LV a b c A d e [.b (d==e) true])):
av 273 [.agg (bj a b c A)] [ak false]:=
h.of
theorem asm(h:ad (LV a b c A d e [.b (d==e) false,.l [] [93,92,91] [] (aq Tryz.f273 0) (dv A 0) .ret (gg q)])):
av 273 [.agg (bj a b c A)] [ak q]:=
h.of
theorem asn(h:ad (LV a b c A d e [.b (d==e) false,.l [] [93,92,91] [] (aq Tryz.f273 0) (dv A 0) (.exit 1) gv])):
av 273 [.agg (bj a b c A)] [ak true]:=
h.of
theorem aso(h:ad (LU a b c A [.b ((A.length:Int)==2) false,.l [] [93,92,91] [] (aq Tryz.f273 0) (dv A 0) .ret (gg q)])):
av 273 [.agg (bj a b c A)] [ak q]:=
h.of
theorem asp(h:ad (LU a b c A [.b ((A.length:Int)==2) false,.l [] [93,92,91] [] (aq Tryz.f273 0) (dv A 0) (.exit 1) gv])):
av 273 [.agg (bj a b c A)] [ak true]:=
h.of
def LW(a b c:Int)(A:ae)(d e:Int)(l:List O):List O:=EK a b c A (.b (a==8) false::.b ((A.length:Int)==2) true::.p ((0:Int)<=0)::.p (0<(A.length:Int))::.e A 0 [I d]::.p ((0:Int)<=1)::.p (1<(A.length:Int))::.e A 1 [I e]::l)
theorem asq(h:ad (LW a b c A d e [.b (d==e) true])):
av 273 [.agg (bj a b c A)] [ak false]:=
h.of
theorem asr(h:ad (LW a b c A d e [.b (d==e) false,.l [] [93,92,91] [] (aq Tryz.f273 0) (dv A 0) .ret (gg q)])):
av 273 [.agg (bj a b c A)] [ak q]:=
h.of
theorem ass(h:ad (LW a b c A d e [.b (d==e) false,.l [] [93,92,91] [] (aq Tryz.f273 0) (dv A 0) (.exit 1) gv])):
av 273 [.agg (bj a b c A)] [ak true]:=
h.of
theorem ast(h:ad (EK a b c A [.b (a==8) false,.b ((A.length:Int)==2) false,.l [] [93,92,91] [] (aq Tryz.f273 0) (dv A 0) .ret (gg q)])):
av 273 [.agg (bj a b c A)] [ak q]:=
h.of
theorem asu(h:ad (EK a b c A [.b (a==8) false,.b ((A.length:Int)==2) false,.l [] [93,92,91] [] (aq Tryz.f273 0) (dv A 0) (.exit 1) gv])):
av 273 [.agg (bj a b c A)] [ak true]:=
h.of
def UJ(a:Int)(l:List O):List O:=L9 a (.b (a==1) false::l)
def UK(a:Int)(l:List O):List O:=UJ a (.b (a==5) true::.b (a==5) true::l)
theorem asv(h:ad (UK a [.b (b != 0) true])):
av 273 [.agg (bj a b c A)] [ak false]:=
h.of
def UL(a b:Int)(l:List O):List O:=UK a (.b (b != 0) false::l)
theorem asw(h:ad (UL a b [.b (c != 0) true])):
av 273 [.agg (bj a b c A)] [ak false]:=
h.of
def UM(a b c:Int)(l:List O):List O:=UL a b (.b (c != 0) false::l)
theorem asx(h:ad (UM a b c [.b (decide ((A.length:Int)>2)) true])):
av 273 [.agg (bj a b c A)] [ak false]:=
h.of
def EL(a b c:Int)(A:ae)(l:List O):List O:=UM a b c (.b (decide ((A.length:Int)>2)) false::l)
def UN(a b c:Int)(A:ae)(l:List O):List O:=EL a b c A (.b (a==8) true::l)
theorem asy(h:ad (UN a b c A [.b (decide ((A.length:Int)>0)) true])):
av 273 [.agg (bj a b c A)] [ak false]:=
h.of
def LX(a b c:Int)(A:ae)(l:List O):List O:=UN a b c A (.b (decide ((A.length:Int)>0)) false::l)
def LY(a b c:Int)(A:ae)(d e:Int)(l:List O):List O:=LX a b c A (.b ((A.length:Int)==2) true::.p ((0:Int)<=0)::.p (0<(A.length:Int))::.e A 0 [I d]::.p ((0:Int)<=1)::.p (1<(A.length:Int))::.e A 1 [I e]::l)
theorem asz(h:ad (LY a b c A d e [.b (d==e) true])):
av 273 [.agg (bj a b c A)] [ak false]:=
h.of
theorem asA(h:ad (LY a b c A d e [.b (d==e) false,.l [] [93,92,91] [] (aq Tryz.f273 0) (dv A 0) .ret (gg q)])):
av 273 [.agg (bj a b c A)] [ak q]:=
h.of
theorem asB(h:ad (LY a b c A d e [.b (d==e) false,.l [] [93,92,91] [] (aq Tryz.f273 0) (dv A 0) (.exit 1) gv])):
av 273 [.agg (bj a b c A)] [ak true]:=
h.of
theorem asC(h:ad (LX a b c A [.b ((A.length:Int)==2) false,.l [] [93,92,91] [] (aq Tryz.f273 0) (dv A 0) .ret (gg q)])):
av 273 [.agg (bj a b c A)] [ak q]:=
h.of
theorem asD(h:ad (LX a b c A [.b ((A.length:Int)==2) false,.l [] [93,92,91] [] (aq Tryz.f273 0) (dv A 0) (.exit 1) gv])):
av 273 [.agg (bj a b c A)] [ak true]:=
h.of
def LZ(a b c:Int)(A:ae)(d e:Int)(l:List O):List O:=EL a b c A (.b (a==8) false::.b ((A.length:Int)==2) true::.p ((0:Int)<=0)::.p (0<(A.length:Int))::.e A 0 [I d]::.p ((0:Int)<=1)::.p (1<(A.length:Int))::.e A 1 [I e]::l)
theorem asE(h:ad (LZ a b c A d e [.b (d==e) true])):
av 273 [.agg (bj a b c A)] [ak false]:=
h.of
theorem asF(h:ad (LZ a b c A d e [.b (d==e) false,.l [] [93,92,91] [] (aq Tryz.f273 0) (dv A 0) .ret (gg q)])):
av 273 [.agg (bj a b c A)] [ak q]:=
h.of
theorem asG(h:ad (LZ a b c A d e [.b (d==e) false,.l [] [93,92,91] [] (aq Tryz.f273 0) (dv A 0) (.exit 1) gv])):
av 273 [.agg (bj a b c A)] [ak true]:=
h.of
theorem arQ(h:ad (EL a b c A [.b (a==8) false,.b ((A.length:Int)==2) false,.l [] [93,92,91] [] (aq Tryz.f273 0) (dv A 0) .ret (gg q)])):
av 273 [.agg (bj a b c A)] [ak q]:=
h.of
theorem arR(h:ad (EL a b c A [.b (a==8) false,.b ((A.length:Int)==2) false,.l [] [93,92,91] [] (aq Tryz.f273 0) (dv A 0) (.exit 1) gv])):
av 273 [.agg (bj a b c A)] [ak true]:=
h.of
def UO(a:Int)(l:List O):List O:=UJ a (.b (a==5) false::l)
def UP(a:Int)(l:List O):List O:=UO a (.b (a==6) true::.b (a==6) true::l)
theorem arS(h:ad (UP a [.b (b != 0) true])):
av 273 [.agg (bj a b c A)] [ak false]:=
h.of
def UQ(a b:Int)(l:List O):List O:=UP a (.b (b != 0) false::l)
theorem arT(h:ad (UQ a b [.b (c != 0) true])):
av 273 [.agg (bj a b c A)] [ak false]:=
h.of
def UR(a b c:Int)(l:List O):List O:=UQ a b (.b (c != 0) false::l)
theorem arU(h:ad (UR a b c [.b (decide ((A.length:Int)>2)) true])):
av 273 [.agg (bj a b c A)] [ak false]:=
h.of
def EM(a b c:Int)(A:ae)(l:List O):List O:=UR a b c (.b (decide ((A.length:Int)>2)) false::l)
def US(a b c:Int)(A:ae)(l:List O):List O:=EM a b c A (.b (a==8) true::l)
theorem arV(h:ad (US a b c A [.b (decide ((A.length:Int)>0)) true])):
av 273 [.agg (bj a b c A)] [ak false]:=
h.of
def Ma(a b c:Int)(A:ae)(l:List O):List O:=US a b c A (.b (decide ((A.length:Int)>0)) false::l)
def Mb(a b c:Int)(A:ae)(d e:Int)(l:List O):List O:=Ma a b c A (.b ((A.length:Int)==2) true::.p ((0:Int)<=0)::.p (0<(A.length:Int))::.e A 0 [I d]::.p ((0:Int)<=1)::.p (1<(A.length:Int))::.e A 1 [I e]::l)
theorem arW(h:ad (Mb a b c A d e [.b (d==e) true])):
av 273 [.agg (bj a b c A)] [ak false]:=
h.of
theorem arX(h:ad (Mb a b c A d e [.b (d==e) false,.l [] [93,92,91] [] (aq Tryz.f273 0) (dv A 0) .ret (gg q)])):
av 273 [.agg (bj a b c A)] [ak q]:=
h.of
theorem arY(h:ad (Mb a b c A d e [.b (d==e) false,.l [] [93,92,91] [] (aq Tryz.f273 0) (dv A 0) (.exit 1) gv])):
av 273 [.agg (bj a b c A)] [ak true]:=
h.of
theorem arZ(h:ad (Ma a b c A [.b ((A.length:Int)==2) false,.l [] [93,92,91] [] (aq Tryz.f273 0) (dv A 0) .ret (gg q)])):
av 273 [.agg (bj a b c A)] [ak q]:=
h.of
theorem ar0(h:ad (Ma a b c A [.b ((A.length:Int)==2) false,.l [] [93,92,91] [] (aq Tryz.f273 0) (dv A 0) (.exit 1) gv])):
av 273 [.agg (bj a b c A)] [ak true]:=
h.of
def Mc(a b c:Int)(A:ae)(d e:Int)(l:List O):List O:=EM a b c A (.b (a==8) false::.b ((A.length:Int)==2) true::.p ((0:Int)<=0)::.p (0<(A.length:Int))::.e A 0 [I d]::.p ((0:Int)<=1)::.p (1<(A.length:Int))::.e A 1 [I e]::l)
theorem ar1(h:ad (Mc a b c A d e [.b (d==e) true])):
av 273 [.agg (bj a b c A)] [ak false]:=
h.of
theorem ar2(h:ad (Mc a b c A d e [.b (d==e) false,.l [] [93,92,91] [] (aq Tryz.f273 0) (dv A 0) .ret (gg q)])):
av 273 [.agg (bj a b c A)] [ak q]:=
h.of
theorem ar3(h:ad (Mc a b c A d e [.b (d==e) false,.l [] [93,92,91] [] (aq Tryz.f273 0) (dv A 0) (.exit 1) gv])):
av 273 [.agg (bj a b c A)] [ak true]:=
h.of
theorem ar4(h:ad (EM a b c A [.b (a==8) false,.b ((A.length:Int)==2) false,.l [] [93,92,91] [] (aq Tryz.f273 0) (dv A 0) .ret (gg q)])):
av 273 [.agg (bj a b c A)] [ak q]:=
h.of
theorem ar5(h:ad (EM a b c A [.b (a==8) false,.b ((A.length:Int)==2) false,.l [] [93,92,91] [] (aq Tryz.f273 0) (dv A 0) (.exit 1) gv])):
av 273 [.agg (bj a b c A)] [ak true]:=
h.of
def U6(a:Int)(l:List O):List O:=UO a (.b (a==6) false::l)
def U7(a:Int)(l:List O):List O:=U6 a (.b (a==7) true::.b (a==7) true::l)
theorem ar6(h:ad (U7 a [.b (b != 0) true])):
av 273 [.agg (bj a b c A)] [ak false]:=
h.of
def EN(a b:Int)(l:List O):List O:=U7 a (.b (b != 0) false::l)
theorem ar7(h:ad (EN a b [.b (c != 0) true])):
av 273 [.agg (bj a b c A)] [ak false]:=
h.of
def EO(a b c:Int)(l:List O):List O:=EN a b (.b (c != 0) false::l)
theorem ar8(h:ad (EO a b c [.b (decide ((A.length:Int)>2)) true])):
av 273 [.agg (bj a b c A)] [ak false]:=
h.of
def EP(a b c:Int)(A:ae)(l:List O):List O:=EO a b c (.b (decide ((A.length:Int)>2)) false::l)
def U8(a b c:Int)(A:ae)(l:List O):List O:=EP a b c A (.b (a==8) true::l)
theorem ar9(h:ad (U8 a b c A [.b (decide ((A.length:Int)>0)) true])):
av 273 [.agg (bj a b c A)] [ak false]:=
h.of
def Bb(a b c:Int)(A:ae)(l:List O):List O:=U8 a b c A (.b (decide ((A.length:Int)>0)) false::l)
def Mj(a b c:Int)(A:ae)(d e:Int)(l:List O):List O:=Bb a b c A (.b ((A.length:Int)==2) true::.p ((0:Int)<=0)::.p (0<(A.length:Int))::.e A 0 [I d]::.p ((0:Int)<=1)::.p (1<(A.length:Int))::.e A 1 [I e]::l)
theorem asa(h:ad (Mj a b c A d e [.b (d==e) true])):
av 273 [.agg (bj a b c A)] [ak false]:=
h.of
theorem asb(h:ad (Mj a b c A d e [.b (d==e) false,.l [] [93,92,91] [] (aq Tryz.f273 0) (dv A 0) .ret (gg q)])):
av 273 [.agg (bj a b c A)] [ak q]:=
h.of
theorem asc(h:ad (Mj a b c A d e [.b (d==e) false,.l [] [93,92,91] [] (aq Tryz.f273 0) (dv A 0) (.exit 1) gv])):
av 273 [.agg (bj a b c A)] [ak true]:=
h.of
theorem asd(h:ad (Bb a b c A [.b ((A.length:Int)==2) false,.l [] [93,92,91] [] (aq Tryz.f273 0) (dv A 0) .ret (gg q)])):
av 273 [.agg (bj a b c A)] [ak q]:=
h.of
theorem ase(h:ad (Bb a b c A [.b ((A.length:Int)==2) false,.l [] [93,92,91] [] (aq Tryz.f273 0) (dv A 0) (.exit 1) gv])):
av 273 [.agg (bj a b c A)] [ak true]:=
h.of
def Mk(a b c:Int)(A:ae)(d e:Int)(l:List O):List O:=EP a b c A (.b (a==8) false::.b ((A.length:Int)==2) true::.p ((0:Int)<=0)::.p (0<(A.length:Int))::.e A 0 [I d]::.p ((0:Int)<=1)::.p (1<(A.length:Int))::.e A 1 [I e]::l)
theorem asf(h:ad (Mk a b c A d e [.b (d==e) true])):
av 273 [.agg (bj a b c A)] [ak false]:=
h.of
theorem arG(h:ad (Mk a b c A d e [.b (d==e) false,.l [] [93,92,91] [] (aq Tryz.f273 0) (dv A 0) .ret (gg q)])):
av 273 [.agg (bj a b c A)] [ak q]:=
h.of
theorem arH(h:ad (Mk a b c A d e [.b (d==e) false,.l [] [93,92,91] [] (aq Tryz.f273 0) (dv A 0) (.exit 1) gv])):
av 273 [.agg (bj a b c A)] [ak true]:=
h.of
theorem arI(h:ad (EP a b c A [.b (a==8) false,.b ((A.length:Int)==2) false,.l [] [93,92,91] [] (aq Tryz.f273 0) (dv A 0) .ret (gg q)])):
av 273 [.agg (bj a b c A)] [ak q]:=
h.of
theorem arJ(h:ad (EP a b c A [.b (a==8) false,.b ((A.length:Int)==2) false,.l [] [93,92,91] [] (aq Tryz.f273 0) (dv A 0) (.exit 1) gv])):
av 273 [.agg (bj a b c A)] [ak true]:=
h.of
def Vn(a:Int)(l:List O):List O:=U6 a (.b (a==7) false::l)
def Vo(a:Int)(l:List O):List O:=Vn a (.b (a==8) true::l)
theorem arK(h:ad (Vo a [.b (b != 0) true])):
av 273 [.agg (bj a b c A)] [ak false]:=
h.of
def Vp(a b:Int)(l:List O):List O:=Vo a (.b (b != 0) false::l)
theorem arL(h:ad (Vp a b [.b (c != 0) true])):
av 273 [.agg (bj a b c A)] [ak false]:=
h.of
def Vq(a b c:Int)(l:List O):List O:=Vp a b (.b (c != 0) false::l)
theorem arM(h:ad (Vq a b c [.b (decide ((A.length:Int)>2)) true])):
av 273 [.agg (bj a b c A)] [ak false]:=
h.of
def Vr(a b c:Int)(A:ae)(l:List O):List O:=Vq a b c (.b (decide ((A.length:Int)>2)) false::.b (a==8) true::l)
theorem arN(h:ad (Vr a b c A [.b (decide ((A.length:Int)>0)) true])):
av 273 [.agg (bj a b c A)] [ak false]:=
h.of
def Ml(a b c:Int)(A:ae)(l:List O):List O:=Vr a b c A (.b (decide ((A.length:Int)>0)) false::l)
def Mm(a b c:Int)(A:ae)(d e:Int)(l:List O):List O:=Ml a b c A (.b ((A.length:Int)==2) true::.p ((0:Int)<=0)::.p (0<(A.length:Int))::.e A 0 [I d]::.p ((0:Int)<=1)::.p (1<(A.length:Int))::.e A 1 [I e]::l)
theorem arO(h:ad (Mm a b c A d e [.b (d==e) true])):
av 273 [.agg (bj a b c A)] [ak false]:=
h.of
theorem arP(h:ad (Mm a b c A d e [.b (d==e) false,.l [] [93,92,91] [] (aq Tryz.f273 0) (dv A 0) .ret (gg q)])):
av 273 [.agg (bj a b c A)] [ak q]:=
h.of
theorem Zs(h:ad (Mm a b c A d e [.b (d==e) false,.l [] [93,92,91] [] (aq Tryz.f273 0) (dv A 0) (.exit 1) gv])):
av 273 [.agg (bj a b c A)] [ak true]:=
h.of
theorem Zt(h:ad (Ml a b c A [.b ((A.length:Int)==2) false,.l [] [93,92,91] [] (aq Tryz.f273 0) (dv A 0) .ret (gg q)])):
av 273 [.agg (bj a b c A)] [ak q]:=
h.of
theorem Zu(h:ad (Ml a b c A [.b ((A.length:Int)==2) false,.l [] [93,92,91] [] (aq Tryz.f273 0) (dv A 0) (.exit 1) gv])):
av 273 [.agg (bj a b c A)] [ak true]:=
h.of
theorem Zv(h:ad (Vn a [.b (a==8) false])):
av 273 [.agg (bj a b c A)] [ak false]:=
h.of
